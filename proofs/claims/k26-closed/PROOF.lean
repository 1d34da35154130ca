import PyProof.Rows.All
import Wide.All
import OpenK.AllK
import Wide.FinOn
import HandS.ForMost
import HandS.SortInts
import HandS.Conv
import HandS.Deep
import HandS.Defaults
import HandS.IsInst
import HandS.Style
import HandS.TupAny
import HandS.NoneIn
import HandS.Flow
import HandS.More
import KE.SortData
import KE.KDictKeyed
import KE.KDictDisplayH
import KE.GoesComp
import KE.GoesMore
import PySem.Challenge.RW_yardsort_k26_whole_closed_lists_are_righ
import HandS.Evl
import HandS.Walk
import KE.KStateDown
import Lean
import HandS.Ends
import HandS.Words
import HandS.WordsExc
import HandS.Head0
import HandS.Head1
import HandS.Head2
import HandS.HeadEnd
import HandS.HeadHook1
import HandS.HeadHook2
import HandS.HeadHook3
import HandS.HeadHook4
set_option Elab.async false
set_option linter.all false
set_option maxRecDepth 100000
set_option maxHeartbeats 4000000
/-! Plain mathematics of the yard: nets, situations, moves. No program in sight. -/
namespace Ys

inductive Ltr where
  | s | q | d | i | o
  deriving DecidableEq
def Ltr.ins : Ltr → List Int
  | .s => [1]
  | .q => [1]
  | .d => [0, 1]
  | .i => [1]
  | .o => [0, 1]
def Ltr.outs : Ltr → List Int
  | .s => [1]
  | .q => [0]
  | .d => [0, 1]
  | .i => [0, 1]
  | .o => [1]
structure Dev where
  ltr : Ltr
  bound : Nat
inductive Tr where
  | dev (d : Dev)
  | node (par : Bool) (a b : Tr)
structure Net where
  ents : List Int
  outs : List Int
  links : List (Int × Int)
  devs : List Dev
def cross (os es : List Int) : List (Int × Int) := os.flatMap fun o => es.map fun e => (o, e)
def net : Tr → Int → Net
  | .dev d, f => ⟨[f], [f], [], [d]⟩
  | .node par a b, f =>
    let one := net a f
    let two := net b (f + (one.devs.length : Int))
    if par = true then ⟨one.ents ++ two.ents, one.outs ++ two.outs, one.links ++ two.links, one.devs ++ two.devs⟩
    else ⟨one.ents, two.outs, one.links ++ two.links ++ cross one.outs two.ents, one.devs ++ two.devs⟩
def Tr.size : Tr → Nat
  | .dev _ => 1
  | .node _ a b => a.size + b.size
theorem net_devs (t : Tr) : ∀ f, (net t f).devs.length = t.size := by
  induction t with
  | dev d => intro f; rfl
  | node par a b iha ihb =>
    intro f
    cases par <;> simp [net, Tr.size, iha, ihb]
theorem Tr.size_pos (t : Tr) : 1 ≤ t.size := by
  induction t with
  | dev d => exact Nat.le_refl _
  | node par a b iha ihb => simp [Tr.size]; omega
/-- all the links of the whole yard -/
def outer (N : Net) : List (Int × Int) := (N.ents.map fun e => ((-1 : Int), e)) ++ (N.outs.map fun o => (o, (-1 : Int)))
def allLinks (N : Net) : List (Int × Int) := N.links ++ outer N

def InR (n : Int) (lo : Int) (x : Int) : Prop := lo ≤ x ∧ x < lo + n
theorem net_range (t : Tr) : ∀ f : Int, (∀ x ∈ (net t f).ents, f ≤ x ∧ x < f + t.size) ∧ (∀ x ∈ (net t f).outs, f ≤ x ∧ x < f + t.size) ∧
    (∀ l ∈ (net t f).links, (f ≤ l.1 ∧ l.1 < f + t.size) ∧ (f ≤ l.2 ∧ l.2 < f + t.size)) := by
  induction t with
  | dev d =>
    intro f
    simp only [net, Tr.size, List.mem_singleton]
    refine ⟨fun x h => ?_, fun x h => ?_, fun l h => by cases h⟩ <;> omega
  | node par a b iha ihb =>
    intro f
    obtain ⟨a1, a2, a3⟩ := iha f
    obtain ⟨b1, b2, b3⟩ := ihb (f + ((net a f).devs.length : Int))
    rw [net_devs] at b1 b2 b3
    have e1 : ∀ x, x ∈ (net a f).ents → f ≤ x ∧ x < f + (a.size + b.size : Nat) := fun x h => by have := a1 x h; omega
    have e2 : ∀ x, x ∈ (net a f).outs → f ≤ x ∧ x < f + (a.size + b.size : Nat) := fun x h => by have := a2 x h; omega
    have e3 : ∀ x, x ∈ (net b (f + (a.size : Int))).ents → f ≤ x ∧ x < f + (a.size + b.size : Nat) := fun x h => by have := b1 x h; omega
    have e4 : ∀ x, x ∈ (net b (f + (a.size : Int))).outs → f ≤ x ∧ x < f + (a.size + b.size : Nat) := fun x h => by have := b2 x h; omega
    have e5 : ∀ l, l ∈ (net a f).links → (f ≤ l.1 ∧ l.1 < f + (a.size + b.size : Nat)) ∧ (f ≤ l.2 ∧ l.2 < f + (a.size + b.size : Nat)) := fun l h => by have := a3 l h; omega
    have e6 : ∀ l, l ∈ (net b (f + (a.size : Int))).links → (f ≤ l.1 ∧ l.1 < f + (a.size + b.size : Nat)) ∧ (f ≤ l.2 ∧ l.2 < f + (a.size + b.size : Nat)) := fun l h => by have := b3 l h; omega
    cases par with
    | true =>
      simp only [net, Tr.size, net_devs, if_true, List.mem_append]
      exact ⟨fun x h => h.elim (e1 x) (e3 x), fun x h => h.elim (e2 x) (e4 x), fun l h => h.elim (e5 l) (e6 l)⟩
    | false =>
      simp only [net, Tr.size, net_devs, Bool.false_eq_true, if_false, List.mem_append]
      refine ⟨e1, e4, fun l h => ?_⟩
      rcases h with (h | h) | h
      · exact e5 l h
      · exact e6 l h
      · unfold cross at h
        obtain ⟨o, ho, h⟩ := List.mem_flatMap.mp h
        obtain ⟨e, he, rfl⟩ := List.mem_map.mp h
        exact ⟨e2 o ho, e3 e he⟩
/-- a link's ends are devices or the outside -/
def LinksOk (n : Nat) (L : List (Int × Int)) : Prop := ∀ l ∈ L, (l.1 = -1 ∨ (0 ≤ l.1 ∧ l.1 < n)) ∧ (l.2 = -1 ∨ (0 ≤ l.2 ∧ l.2 < n))
theorem allLinks_ok (t : Tr) : LinksOk t.size (allLinks (net t 0)) := by
  intro l h
  obtain ⟨a1, a2, a3⟩ := net_range t 0
  unfold allLinks outer at h
  rcases List.mem_append.mp h with h | h
  · have := a3 l h
    exact ⟨.inr (by omega), .inr (by omega)⟩
  · rcases List.mem_append.mp h with h | h
    · obtain ⟨e, he, rfl⟩ := List.mem_map.mp h
      have := a1 e he
      exact ⟨.inl rfl, .inr (by show 0 ≤ e ∧ e < _; omega)⟩
    · obtain ⟨e, he, rfl⟩ := List.mem_map.mp h
      have := a2 e he
      exact ⟨.inr (by show 0 ≤ e ∧ e < _; omega), .inl rfl⟩
/-- how many links there are at most -/
theorem net_len (t : Tr) : ∀ f : Int, (net t f).ents.length ≤ t.size ∧ (net t f).outs.length ≤ t.size ∧ (net t f).links.length ≤ t.size * t.size := by
  induction t with
  | dev d => intro f; simp [net, Tr.size]
  | node par a b iha ihb =>
    intro f
    obtain ⟨a1, a2, a3⟩ := iha f
    obtain ⟨b1, b2, b3⟩ := ihb (f + ((net a f).devs.length : Int))
    have cl : ∀ (os es : List Int), (cross os es).length = os.length * es.length := by
      intro os es
      induction os with
      | nil => simp [cross]
      | cons o os ih =>
        unfold cross at ih ⊢
        rw [List.flatMap_cons, List.length_append, ih, List.length_map, List.length_cons, Nat.succ_mul]
        omega
    have m1 : (net a f).outs.length * (net b (f + ((net a f).devs.length : Int))).ents.length ≤ a.size * b.size := Nat.mul_le_mul a2 b1
    have m2 : (a.size + b.size) * (a.size + b.size) = a.size * a.size + a.size * b.size + (b.size * a.size + b.size * b.size) := by
      rw [Nat.add_mul, Nat.mul_add, Nat.mul_add]
    have m3 : b.size * a.size = a.size * b.size := Nat.mul_comm _ _
    cases par with
    | true =>
      simp only [net, Tr.size, if_true, List.length_append]
      rw [m2, m3]
      refine ⟨by omega, by omega, by omega⟩
    | false =>
      simp only [net, Tr.size, Bool.false_eq_true, if_false, List.length_append, cl]
      rw [m2, m3]
      refine ⟨by omega, by omega, by omega⟩
theorem allLinks_len (t : Tr) (h : t.size ≤ 3) : (allLinks (net t 0)).length ≤ 15 := by
  obtain ⟨a1, a2, a3⟩ := net_len t 0
  have : t.size * t.size ≤ 3 * 3 := Nat.mul_le_mul h h
  unfold allLinks outer
  rw [List.length_append, List.length_append, List.length_map, List.length_map]
  omega

/-! ### situations and moves -/
structure Sit where
  came : Nat
  held : List (List Int)
  gone : List Int
  deriving DecidableEq
def srcEnds (devs : List Dev) (n : Nat) (S : Sit) (s : Int) : List Int :=
  if s < 0 then (if S.came < n then [0] else [])
  else match devs[s.toNat]?, S.held[s.toNat]? with
    | some d, some (_ :: _) => d.ltr.outs
    | _, _ => []
def tgtEnds (devs : List Dev) (S : Sit) (t : Int) : List Int :=
  if t < 0 then [0]
  else match devs[t.toNat]?, S.held[t.toNat]? with
    | some d, some l => if 0 < d.bound ∧ d.bound ≤ l.length then [] else d.ltr.ins
    | _, _ => []
structure Mv where
  src : Int
  out : Int
  tgt : Int
  end_ : Int
  deriving DecidableEq
def movesOf (devs : List Dev) (n : Nat) (S : Sit) (l : Int × Int) : List Mv :=
  (srcEnds devs n S l.1).flatMap fun o => (tgtEnds devs S l.2).map fun e => ⟨l.1, o, l.2, e⟩
def moves (L : List (Int × Int)) (devs : List Dev) (n : Nat) (S : Sit) : List Mv := L.flatMap (movesOf devs n S)
def wagon (row : List Int) (S : Sit) (m : Mv) : Int :=
  if m.src < 0 then row.getD S.came 0
  else if m.out = 0 then (S.held.getD m.src.toNat []).headD 0 else (S.held.getD m.src.toNat []).getLastD 0
def heldOut (S : Sit) (m : Mv) : List (List Int) :=
  if m.src < 0 then S.held
  else S.held.set m.src.toNat (if m.out = 0 then (S.held.getD m.src.toNat []).tail else (S.held.getD m.src.toNat []).dropLast)
def heldIn (h : List (List Int)) (w : Int) (m : Mv) : List (List Int) :=
  if m.tgt < 0 then h
  else h.set m.tgt.toNat (if m.end_ = 0 then w :: h.getD m.tgt.toNat [] else h.getD m.tgt.toNat [] ++ [w])
def after (row : List Int) (S : Sit) (m : Mv) : Sit :=
  ⟨if m.src < 0 then S.came + 1 else S.came, heldIn (heldOut S m) (wagon row S m) m, if m.tgt < 0 then S.gone ++ [wagon row S m] else S.gone⟩
/-- a situation of the yard and the row -/
structure Good (devs : List Dev) (row : List Int) (S : Sit) : Prop where
  len : S.held.length = devs.length
  came : S.came ≤ row.length
  bnd : ∀ (k : Nat) (d : Dev) (l : List Int), devs[k]? = some d → S.held[k]? = some l → 0 < d.bound → l.length ≤ d.bound
  perm : (S.gone ++ S.held.flatten).Perm (row.take S.came)
def upTo (n : Nat) : List Int := (List.range n).map fun (i : Nat) => (i : Int) + 1
def Live (S : Sit) : Prop := S.gone = upTo S.gone.length

/-- what a move that can be made is -/
structure MvOk (devs : List Dev) (n : Nat) (S : Sit) (m : Mv) : Prop where
  src : (m.src = -1 ∧ S.came < n ∧ m.out = 0) ∨ (0 ≤ m.src ∧ ∃ x l d, S.held[m.src.toNat]? = some (x :: l) ∧ devs[m.src.toNat]? = some d)
  tgt : (m.tgt = -1 ∧ m.end_ = 0) ∨ (0 ≤ m.tgt ∧ ∃ l d, S.held[m.tgt.toNat]? = some l ∧ devs[m.tgt.toNat]? = some d ∧ ¬ (0 < d.bound ∧ d.bound ≤ l.length))
  out : m.out = 0 ∨ m.out = 1
  end_ : m.end_ = 0 ∨ m.end_ = 1
theorem ltr_outs (l : Ltr) : ∀ x ∈ l.outs, x = 0 ∨ x = 1 := by cases l <;> simp [Ltr.outs]
theorem ltr_ins (l : Ltr) : ∀ x ∈ l.ins, x = 0 ∨ x = 1 := by cases l <;> simp [Ltr.ins]
theorem ltr_outs_len (l : Ltr) : l.outs.length ≤ 2 := by cases l <;> simp [Ltr.outs]
theorem ltr_ins_len (l : Ltr) : l.ins.length ≤ 2 := by cases l <;> simp [Ltr.ins]
theorem srcEnds_len (devs : List Dev) (n : Nat) (S : Sit) (s : Int) : (srcEnds devs n S s).length ≤ 2 := by
  unfold srcEnds
  split
  · split <;> simp
  · split
    · exact ltr_outs_len _
    · simp
theorem tgtEnds_len (devs : List Dev) (S : Sit) (s : Int) : (tgtEnds devs S s).length ≤ 2 := by
  unfold tgtEnds
  split
  · simp
  · split
    · split
      · simp
      · exact ltr_ins_len _
    · simp
theorem len_flatMap_le {α β : Type} (f : α → List β) (k : Nat) : ∀ l : List α, (∀ x ∈ l, (f x).length ≤ k) → (l.flatMap f).length ≤ l.length * k
  | [], _ => by simp
  | x :: l, h => by
    have ih := len_flatMap_le f k l fun y hy => h y (List.mem_cons_of_mem _ hy)
    have h1 := h x List.mem_cons_self
    rw [List.flatMap_cons, List.length_append, List.length_cons, Nat.succ_mul]
    omega
theorem movesOf_len (devs : List Dev) (n : Nat) (S : Sit) (l : Int × Int) : (movesOf devs n S l).length ≤ 4 := by
  have h1 := srcEnds_len devs n S l.1
  have h2 := tgtEnds_len devs S l.2
  have h := len_flatMap_le (fun o => (tgtEnds devs S l.2).map fun e => (⟨l.1, o, l.2, e⟩ : Mv)) 2 (srcEnds devs n S l.1) fun o _ => by simpa using h2
  unfold movesOf
  have h3 : (srcEnds devs n S l.1).length * 2 ≤ 2 * 2 := Nat.mul_le_mul_right 2 h1
  omega
theorem moves_len (L : List (Int × Int)) (devs : List Dev) (n : Nat) (S : Sit) : (moves L devs n S).length ≤ L.length * 4 :=
  len_flatMap_le _ 4 L fun l _ => movesOf_len devs n S l
theorem mem_moves {L L' : List (Int × Int)} {devs : List Dev} {n : Nat} {S : Sit} (h : L.Perm L') (m : Mv) : m ∈ moves L devs n S ↔ m ∈ moves L' devs n S := by
  unfold moves
  rw [List.mem_flatMap, List.mem_flatMap]
  exact ⟨fun ⟨l, hl, hm⟩ => ⟨l, h.mem_iff.mp hl, hm⟩, fun ⟨l, hl, hm⟩ => ⟨l, h.mem_iff.mpr hl, hm⟩⟩
theorem mv_ok {L : List (Int × Int)} {devs : List Dev} {n : Nat} {S : Sit} {m : Mv} (hL : LinksOk devs.length L) (h : m ∈ moves L devs n S) : MvOk devs n S m := by
  unfold moves at h
  obtain ⟨l, hl, h⟩ := List.mem_flatMap.mp h
  unfold movesOf at h
  obtain ⟨o, ho, h⟩ := List.mem_flatMap.mp h
  obtain ⟨e, he, rfl⟩ := List.mem_map.mp h
  obtain ⟨l1, l2⟩ := hL l hl
  unfold srcEnds at ho
  unfold tgtEnds at he
  have hs : (((l.1 = -1 ∧ S.came < n ∧ o = 0) ∨ (0 ≤ l.1 ∧ ∃ x r d, S.held[l.1.toNat]? = some (x :: r) ∧ devs[l.1.toNat]? = some d)) ∧ (o = 0 ∨ o = 1)) := by
    by_cases c : l.1 < 0
    · rw [if_pos c] at ho
      by_cases c2 : S.came < n
      · rw [if_pos c2] at ho
        have := List.mem_singleton.mp ho
        exact ⟨.inl ⟨by omega, c2, this⟩, .inl this⟩
      · rw [if_neg c2] at ho
        cases ho
    · rw [if_neg c] at ho
      split at ho
      · rename_i d x r e1 e2
        exact ⟨.inr ⟨by omega, x, r, d, e2, e1⟩, ltr_outs _ _ ho⟩
      · cases ho
  have ht : (((l.2 = -1 ∧ e = 0) ∨ (0 ≤ l.2 ∧ ∃ r d, S.held[l.2.toNat]? = some r ∧ devs[l.2.toNat]? = some d ∧ ¬ (0 < d.bound ∧ d.bound ≤ r.length))) ∧ (e = 0 ∨ e = 1)) := by
    by_cases c : l.2 < 0
    · rw [if_pos c] at he
      have := List.mem_singleton.mp he
      exact ⟨.inl ⟨by omega, this⟩, .inl this⟩
    · rw [if_neg c] at he
      split at he
      · rename_i d r e1 e2
        split at he
        · cases he
        · rename_i c3
          exact ⟨.inr ⟨by omega, r, d, e2, e1, c3⟩, ltr_ins _ _ he⟩
      · cases he
  exact ⟨hs.1, ht.1, hs.2, ht.2⟩

/-! ### lists of lists -/
theorem flatten_set {l r : List Int} {w : Int} : ∀ {h : List (List Int)} {k : Nat}, h[k]? = some l → l.Perm (w :: r) → h.flatten.Perm (w :: (h.set k r).flatten)
  | [], k, e, _ => by simp at e
  | a :: h, 0, e, p => by
    have e' : a = l := by simpa using e
    subst e'
    show (a ++ h.flatten).Perm (w :: (r ++ h.flatten))
    exact List.Perm.append_right _ p
  | a :: h, k + 1, e, p => by
    have ih := flatten_set (h := h) (k := k) (by simpa using e) p
    show (a ++ h.flatten).Perm (w :: (a ++ (h.set k r).flatten))
    exact (List.Perm.append_left a ih).trans List.perm_middle
theorem flatten_put {l r : List Int} {w : Int} {h : List (List Int)} {k : Nat} (e : h[k]? = some l) (p : r.Perm (w :: l)) : (h.set k r).flatten.Perm (w :: h.flatten) := by
  have hk : k < h.length := (List.getElem?_eq_some_iff.mp e).1
  have q := flatten_set (h := h.set k r) (k := k) (l := r) (r := l) (w := w) (List.getElem?_set_self hk) p
  have e2 : (h.set k r).set k l = h := by
    rw [List.set_set]
    have e3 : h[k] = l := (List.getElem?_eq_some_iff.mp e).2
    subst e3
    exact List.set_getElem_self hk
  rw [e2] at q
  exact q
theorem head_perm {x : Int} {l : List Int} : (x :: l).Perm ((x :: l).headD 0 :: (x :: l).tail) := List.Perm.refl _
theorem last_eq : ∀ {x : Int} {l : List Int}, (x :: l) = (x :: l).dropLast ++ [(x :: l).getLastD 0] := by
  intro x l
  have h : (x :: l) ≠ [] := by simp
  have e := List.dropLast_concat_getLast h
  have e2 : (x :: l).getLastD 0 = (x :: l).getLast h := by
    rw [List.getLastD_eq_getLast?, List.getLast?_eq_some_getLast h]
    rfl
  rw [e2]
  exact e.symm
theorem last_perm {x : Int} {l : List Int} : (x :: l).Perm ((x :: l).getLastD 0 :: (x :: l).dropLast) := by
  have e := @last_eq x l
  have p : ((x :: l).dropLast ++ [(x :: l).getLastD 0]).Perm ((x :: l).getLastD 0 :: (x :: l).dropLast) := List.perm_append_comm
  rw [← e] at p
  exact p
theorem take_snoc {row : List Int} {c : Nat} (h : c < row.length) : row.take (c + 1) = row.take c ++ [row.getD c 0] := by
  rw [List.take_add_one, List.getElem?_eq_getElem h, List.getD_eq_getElem?_getD, List.getElem?_eq_getElem h]
  rfl

theorem good_after {devs : List Dev} {row : List Int} {S : Sit} {m : Mv} (g : Good devs row S) (hm : MvOk devs row.length S m) : Good devs row (after row S m) := by
  obtain ⟨glen, gcame, gbnd, gperm⟩ := g
  -- behind the taking out
  have h1 : (heldOut S m).length = devs.length ∧ (if m.src < 0 then S.came + 1 else S.came) ≤ row.length ∧
      (∀ (k : Nat) (l' : List Int), (heldOut S m)[k]? = some l' → ∃ l, S.held[k]? = some l ∧ l'.length ≤ l.length) ∧
      (wagon row S m :: (S.gone ++ (heldOut S m).flatten)).Perm (row.take (if m.src < 0 then S.came + 1 else S.came)) := by
    rcases hm.src with ⟨es, hc, _⟩ | ⟨hs, x, l, d, hl, hd⟩
    · have c : m.src < 0 := by omega
      unfold heldOut wagon
      rw [if_pos c, if_pos c, if_pos c]
      refine ⟨glen, by omega, fun k l' h => ⟨l', h, Nat.le_refl _⟩, ?_⟩
      rw [take_snoc hc]
      exact (List.Perm.cons _ gperm).trans (List.perm_append_comm (l₁ := [row.getD S.came 0]) (l₂ := row.take S.came))
    · have c : ¬ m.src < 0 := by omega
      unfold heldOut wagon
      rw [if_neg c, if_neg c, if_neg c]
      have eD : S.held.getD m.src.toNat [] = x :: l := by rw [List.getD_eq_getElem?_getD, hl]; rfl
      rw [eD]
      have hk : m.src.toNat < S.held.length := (List.getElem?_eq_some_iff.mp hl).1
      have key : ∀ (w : Int) (r : List Int), (x :: l).Perm (w :: r) → (S.held.set m.src.toNat r).length = devs.length ∧ S.came ≤ row.length ∧
          (∀ (k : Nat) (l' : List Int), (S.held.set m.src.toNat r)[k]? = some l' → ∃ l, S.held[k]? = some l ∧ l'.length ≤ l.length) ∧
          (w :: (S.gone ++ (S.held.set m.src.toNat r).flatten)).Perm (row.take S.came) := by
        intro w r p
        refine ⟨by rw [List.length_set]; exact glen, gcame, fun k l' h => ?_, ?_⟩
        · by_cases e : m.src.toNat = k
          · subst e
            rw [List.getElem?_set_self hk] at h
            have h' : r = l' := Option.some.inj h
            subst h'
            exact ⟨_, hl, by have := p.length_eq; simp only [List.length_cons] at this ⊢; omega⟩
          · rw [List.getElem?_set_ne e] at h
            exact ⟨l', h, Nat.le_refl _⟩
        · have q := flatten_set hl p
          exact (List.perm_middle.symm.trans (List.Perm.append_left S.gone q.symm)).trans gperm
      by_cases c2 : m.out = 0
      · rw [if_pos c2, if_pos c2]
        exact key _ _ head_perm
      · rw [if_neg c2, if_neg c2]
        exact key _ _ last_perm
  obtain ⟨k1, k2, k3, k4⟩ := h1
  unfold after
  rcases hm.tgt with ⟨et, _⟩ | ⟨ht, l, d, hl, hd, hb⟩
  · have c : m.tgt < 0 := by omega
    unfold heldIn
    rw [if_pos c, if_pos c]
    refine ⟨k1, k2, fun k d l' hd' hl' hp => ?_, ?_⟩
    · obtain ⟨l, e, hle⟩ := k3 k l' hl'
      exact Nat.le_trans hle (gbnd k d l hd' e hp)
    · refine List.Perm.trans ?_ k4
      show (S.gone ++ [wagon row S m] ++ (heldOut S m).flatten).Perm _
      rw [List.append_assoc]
      exact List.perm_middle
  · have c : ¬ m.tgt < 0 := by omega
    have hk : m.tgt.toNat < (heldOut S m).length := by
      rw [k1, ← glen]
      exact (List.getElem?_eq_some_iff.mp hl).1
    obtain ⟨l', e'⟩ : ∃ l', (heldOut S m)[m.tgt.toNat]? = some l' := ⟨_, List.getElem?_eq_getElem hk⟩
    obtain ⟨l2, e2, hle⟩ := k3 _ _ e'
    rw [hl] at e2
    have e3 : l = l2 := Option.some.inj e2
    subst e3
    have eD : (heldOut S m).getD m.tgt.toNat [] = l' := by rw [List.getD_eq_getElem?_getD, e']; rfl
    unfold heldIn
    rw [if_neg c, if_neg c, eD]
    have key : ∀ r : List Int, r.Perm (wagon row S m :: l') → Good devs row ⟨if m.src < 0 then S.came + 1 else S.came, (heldOut S m).set m.tgt.toNat r, S.gone⟩ := by
      intro r p
      refine ⟨by show ((heldOut S m).set m.tgt.toNat r).length = _; rw [List.length_set]; exact k1, k2, fun k d' lk hd' hl' hp => ?_, ?_⟩
      · by_cases e : m.tgt.toNat = k
        · subst e
          have hl'' : ((heldOut S m).set m.tgt.toNat r)[m.tgt.toNat]? = some lk := hl'
          rw [List.getElem?_set_self hk] at hl''
          have h' : r = lk := Option.some.inj hl''
          subst h'
          have ed : d' = d := Option.some.inj (hd'.symm.trans hd)
          subst ed
          have := p.length_eq
          simp only [List.length_cons] at this
          omega
        · have hl'' : ((heldOut S m).set m.tgt.toNat r)[k]? = some lk := hl'
          rw [List.getElem?_set_ne e] at hl''
          obtain ⟨l3, e3, hle3⟩ := k3 k lk hl''
          exact Nat.le_trans hle3 (gbnd k d' l3 hd' e3 hp)
      · refine List.Perm.trans ?_ k4
        show (S.gone ++ ((heldOut S m).set m.tgt.toNat r).flatten).Perm _
        exact (List.Perm.append_left S.gone (flatten_put e' p)).trans List.perm_middle
    by_cases c2 : m.end_ = 0
    · rw [if_pos c2]
      exact key _ (List.Perm.refl _)
    · rw [if_neg c2]
      exact key _ List.perm_append_comm
end Ys
/-! Rules of this proof's own over the hand layer: data that stands tracked, dicts whose keys are situations, sorted lists of data, a list that is hidden. -/
namespace Ys
open PySem PySem.Spec PyProof.Rows L2

/-! ### tracked data at any depth -/
mutual
inductive Dt (H : Hp) : V → PyData → Prop
  | non : Dt H .non .none
  | bl (b : Bool) : Dt H (.bl b) (.bool b)
  | int (i : Int) : Dt H (.int i) (.int i)
  | str (x : Str) : Dt H (.str x) (.str x)
  | lst {a : Addr} {xs : List V} {ds : List PyData} : H a = some (.lst xs) → DtAll H xs ds → Dt H (.ref a) (.list ds)
  | tup {a : Addr} {xs : List V} {ds : List PyData} : H a = some (.tup xs) → DtAll H xs ds → Dt H (.ref a) (.tuple ds)
inductive DtAll (H : Hp) : List V → List PyData → Prop
  | nil : DtAll H [] []
  | cons {v : V} {vs : List V} {d : PyData} {ds : List PyData} : Dt H v d → DtAll H vs ds → DtAll H (v :: vs) (d :: ds)
end
section
variable {H H' : Hp}
mutual
theorem Dt.dp {K : PySem.W.Frag} : ∀ (d : PyData) (v : V), Dt H v d → Dp K H v d
  | .none, _, h => by cases h; exact .non
  | .bool b, _, h => by cases h; exact .bl b
  | .int i, _, h => by cases h; exact .int i
  | .str x, _, h => by cases h; exact .str x
  | .list ds, _, h => by
    cases h with
    | lst ha hs => exact .lst (SqL.of ha) (DtAll.dp ds _ hs)
  | .tuple ds, _, h => by
    cases h with
    | tup ha hs => exact .tup (SqT.of ha) (DtAll.dp ds _ hs)
  | .dict _, _, h => by cases h
theorem DtAll.dp {K : PySem.W.Frag} : ∀ (ds : List PyData) (vs : List V), DtAll H vs ds → DpAll K H vs ds
  | [], _, h => by cases h; exact .nil
  | d :: ds, _, h => by
    cases h with
    | cons h1 h2 => exact .cons (Dt.dp d _ h1) (DtAll.dp ds _ h2)
end
/-- lists and tuples are kept -/
def Seqs (H H' : Hp) : Prop := (∀ a xs, H a = some (.lst xs) → H' a = some (.lst xs)) ∧ ∀ a xs, H a = some (.tup xs) → H' a = some (.tup xs)
theorem Seqs.of_same (s : Same H H') : Seqs H H' := ⟨fun a xs h => s a _ h, fun a xs h => s a _ h⟩
theorem Seqs.refl (H : Hp) : Seqs H H := ⟨fun _ _ h => h, fun _ _ h => h⟩
theorem Seqs.trans {H1 : Hp} (a : Seqs H H1) (b : Seqs H1 H') : Seqs H H' := ⟨fun c xs h => b.1 c xs (a.1 c xs h), fun c xs h => b.2 c xs (a.2 c xs h)⟩
mutual
theorem Dt.seqs (s : Seqs H H') : ∀ (d : PyData) (v : V), Dt H v d → Dt H' v d
  | .none, _, h => by cases h; exact .non
  | .bool b, _, h => by cases h; exact .bl b
  | .int i, _, h => by cases h; exact .int i
  | .str x, _, h => by cases h; exact .str x
  | .list ds, _, h => by
    cases h with
    | lst ha hs => exact .lst (s.1 _ _ ha) (DtAll.seqs s ds _ hs)
  | .tuple ds, _, h => by
    cases h with
    | tup ha hs => exact .tup (s.2 _ _ ha) (DtAll.seqs s ds _ hs)
  | .dict _, _, h => by cases h
theorem DtAll.seqs (s : Seqs H H') : ∀ (ds : List PyData) (vs : List V), DtAll H vs ds → DtAll H' vs ds
  | [], _, h => by cases h; exact .nil
  | d :: ds, _, h => by
    cases h with
    | cons h1 h2 => exact .cons (Dt.seqs s d _ h1) (DtAll.seqs s ds _ h2)
end
theorem Dt.same (s : Same H H') {v : V} {d : PyData} (h : Dt H v d) : Dt H' v d := Dt.seqs (.of_same s) d v h
theorem DtAll.same (s : Same H H') {vs : List V} {ds : List PyData} (h : DtAll H vs ds) : DtAll H' vs ds := DtAll.seqs (.of_same s) ds vs h
theorem DtAll.length : ∀ {vs : List V} {ds : List PyData}, DtAll H vs ds → vs.length = ds.length
  | _, _, .nil => rfl
  | _, _, .cons _ t => congrArg Nat.succ (DtAll.length t)
theorem DtAll.get : ∀ {vs : List V} {ds : List PyData} {i : Nat} {d : PyData}, DtAll H vs ds → ds[i]? = some d → ∃ v, vs[i]? = some v ∧ Dt H v d
  | _, _, i, d, .nil, e => by simp at e
  | _, _, 0, d, .cons h _, e => by
    have e' := Option.some.inj (show some _ = some d from e)
    subst e'
    exact ⟨_, rfl, h⟩
  | _, _, i + 1, d, .cons _ t, e => DtAll.get (i := i) t e
theorem DtAll.get' : ∀ {vs : List V} {ds : List PyData} {i : Nat} {v : V}, DtAll H vs ds → vs[i]? = some v → ∃ d, ds[i]? = some d ∧ Dt H v d
  | _, _, i, v, .nil, e => by simp at e
  | _, _, 0, v, .cons h _, e => by
    have e' := Option.some.inj (show some _ = some v from e)
    subst e'
    exact ⟨_, rfl, h⟩
  | _, _, i + 1, v, .cons _ t, e => DtAll.get' (i := i) t e
theorem DtAll.snoc : ∀ {vs : List V} {ds : List PyData} {v : V} {d : PyData}, DtAll H vs ds → Dt H v d → DtAll H (vs ++ [v]) (ds ++ [d])
  | _, _, _, _, .nil, h => .cons h .nil
  | _, _, _, _, .cons h t, k => .cons h (DtAll.snoc t k)
theorem DtAll.app : ∀ {vs us : List V} {ds es : List PyData}, DtAll H vs ds → DtAll H us es → DtAll H (vs ++ us) (ds ++ es)
  | _, _, _, _, .nil, h => h
  | _, _, _, _, .cons h t, k => .cons h (DtAll.app t k)
theorem DtAll.ints (ns : List Int) : DtAll H (ns.map V.int) (ns.map PyData.int) := by
  induction ns with
  | nil => exact .nil
  | cons n ns ih => exact .cons (.int n) ih
theorem DtAll.ints_inv : ∀ {ns : List Int} {vs : List V}, DtAll H vs (ns.map PyData.int) → vs = ns.map V.int
  | [], _, h => by
    have h' : DtAll H _ [] := h
    cases h'
    rfl
  | n :: ns, _, h => by
    have h' : DtAll H _ (PyData.int n :: ns.map PyData.int) := h
    cases h' with
    | cons h1 h2 =>
      cases h1
      rw [DtAll.ints_inv h2]
      rfl
theorem DtAll.mem {α : Type} {f : α → PyData} : ∀ {l : List α} {vs : List V}, DtAll H vs (l.map f) → ∀ v ∈ vs, ∃ x ∈ l, Dt H v (f x)
  | [], _, h, v, hv => by
    have h' : DtAll H _ [] := h
    cases h'
    cases hv
  | x :: l, _, h, v, hv => by
    have h' : DtAll H _ (f x :: l.map f) := h
    cases h' with
    | cons h1 h2 =>
      rcases List.mem_cons.mp hv with e | hv
      · subst e
        exact ⟨x, List.mem_cons_self, h1⟩
      · obtain ⟨y, hy, d⟩ := DtAll.mem h2 v hv
        exact ⟨y, List.mem_cons_of_mem _ hy, d⟩
/-- the values in another order stand for the data in that order -/
theorem DtAll.perm {α : Type} {f : α → PyData} {vs ys : List V} (p : ys.Perm vs) : ∀ {l : List α}, DtAll H vs (l.map f) → ∃ m : List α, m.Perm l ∧ DtAll H ys (m.map f) := by
  induction p with
  | nil =>
    intro l h
    exact ⟨l, List.Perm.refl _, h⟩
  | cons x _ ih =>
    intro l h
    cases l with
    | nil =>
      have h' : DtAll H _ [] := h
      cases h'
    | cons a l =>
      have h' : DtAll H _ (f a :: l.map f) := h
      cases h' with
      | cons h1 h2 =>
        obtain ⟨m, pm, hm⟩ := ih h2
        exact ⟨a :: m, pm.cons a, .cons h1 hm⟩
  | swap x y t =>
    intro l h
    cases l with
    | nil =>
      have h' : DtAll H _ [] := h
      cases h'
    | cons a l =>
      have h' : DtAll H _ (f a :: l.map f) := h
      cases h' with
      | cons h1 h2 =>
        cases l with
        | nil =>
          have h' : DtAll H _ [] := h2
          cases h'
        | cons b l =>
          have h' : DtAll H _ (f b :: l.map f) := h2
          cases h' with
          | cons h3 h4 => exact ⟨b :: a :: l, List.Perm.swap .., .cons h3 (.cons h1 h4)⟩
  | trans _ _ ih1 ih2 =>
    intro l h
    obtain ⟨m, pm, hm⟩ := ih2 h
    obtain ⟨m2, pm2, hm2⟩ := ih1 hm
    exact ⟨m2, pm2.trans pm, hm2⟩
end

/-! ### situations as data and as keys -/
def dInts (l : List Int) : PyData := .tuple (l.map .int)
def dSit (S : Sit) : PyData := .tuple [.int (S.came : Int), .tuple (S.held.map dInts), dInts S.gone]
def dMv (m : Mv) : PyData := .tuple [.int m.src, .int m.out, .int m.tgt, .int m.end_]
def dLink (l : Int × Int) : PyData := .tuple [.int l.1, .int l.2]
def kInts (l : List Int) : NestedKey := .tup (l.map .num)
def kSit (S : Sit) : NestedKey := .tup [.num (S.came : Int), .tup (S.held.map kInts), kInts S.gone]
theorem datas_map {α : Type} (f : α → NestedKey) (g : α → PyData) (h : ∀ x, (f x).data = g x) : ∀ l : List α, NestedKey.datas (l.map f) = l.map g
  | [] => by simp [NestedKey.datas]
  | x :: l => by simp [NestedKey.datas, h, datas_map f g h l]
theorem kInts_data (l : List Int) : (kInts l).data = dInts l := by
  unfold kInts dInts
  rw [NestedKey.data, datas_map NestedKey.num PyData.int (fun x => by rw [NestedKey.data])]
theorem kSit_data (S : Sit) : (kSit S).data = dSit S := by
  unfold kSit dSit
  simp only [NestedKey.data, NestedKey.datas, datas_map kInts dInts kInts_data, kInts_data]
theorem map_inj {α β : Type} {f : α → β} (h : ∀ x y, f x = f y → x = y) : ∀ {l m : List α}, l.map f = m.map f → l = m
  | [], [], _ => rfl
  | [], _ :: _, e => by simp at e
  | _ :: _, [], e => by simp at e
  | x :: l, y :: m, e => by
    simp only [List.map_cons, List.cons.injEq] at e
    rw [h _ _ e.1, map_inj h e.2]
theorem kInts_inj {l m : List Int} (h : kInts l = kInts m) : l = m := by
  unfold kInts at h
  injection h with h
  exact map_inj (fun x y e => by injection e) h
theorem kSit_inj {S T : Sit} (h : kSit S = kSit T) : S = T := by
  unfold kSit at h
  injection h with h
  injection h with h1 h
  injection h with h2 h
  injection h with h3 h
  injection h1 with h1
  injection h2 with h2
  have e1 : S.came = T.came := by omega
  have e2 := map_inj (fun x y e => kInts_inj e) h2
  have e3 := kInts_inj h3
  cases S
  cases T
  simp only at e1 e2 e3
  rw [e1, e2, e3]
theorem depthAll_le {α : Type} (f : α → NestedKey) (k : Nat) (h : ∀ x, (f x).depth ≤ k) : ∀ l : List α, NestedKey.depthAll (l.map f) ≤ k
  | [] => by simp [NestedKey.depthAll]
  | x :: l => by
    have := depthAll_le f k h l
    have := h x
    simp only [List.map_cons, NestedKey.depthAll]
    omega
theorem kInts_depth (l : List Int) : (kInts l).depth ≤ 1 := by
  unfold kInts
  have := depthAll_le NestedKey.num 0 (fun x => by simp [NestedKey.depth]) l
  simp only [NestedKey.depth]
  omega
theorem kSit_depth (S : Sit) : (kSit S).depth ≤ 8 := by
  unfold kSit
  have h1 := depthAll_le kInts 1 kInts_depth S.held
  have h2 := kInts_depth S.gone
  simp only [NestedKey.depth, NestedKey.depthAll]
  omega

section
variable {P : Program} {w : World} {H : Hp} {h : Heap}
mutual
theorem nested_of (ok : HOk P w H h) : ∀ (k : NestedKey) (v : V) (u : Value), Dt H v k.data → RelV v u → NestedIs h k u
  | .none, _, _, d, r => by
    rw [NestedKey.data] at d
    cases d
    cases r
    exact .none
  | .num i, _, _, d, r => by
    rw [NestedKey.data] at d
    cases d
    obtain ⟨t, rfl⟩ := r
    exact .int i t
  | .text x, _, _, d, r => by
    rw [NestedKey.data] at d
    cases d
    obtain ⟨t, rfl⟩ := r
    exact .text x t
  | .tup ks, _, _, d, r => by
    rw [NestedKey.data] at d
    cases d with
    | tup ha hs =>
      cases r
      obtain ⟨z, its, rv, o, ho, hc, n, hd⟩ := ok _ _ ha
      exact .tup ho hc hd (by rw [List.toList_toArray]; exact nested_all ok ks _ its hs rv)
theorem nested_all (ok : HOk P w H h) : ∀ (ks : List NestedKey) (vs : List V) (us : List Value), DtAll H vs (NestedKey.datas ks) → Vals vs us → NestedAll h ks us
  | [], _, _, d, r => by
    rw [NestedKey.datas] at d
    cases d
    cases r
    exact .nil
  | k :: ks, _, _, d, r => by
    rw [NestedKey.datas] at d
    cases d with
    | cons d1 d2 =>
      cases r with
      | cons r1 r2 => exact .cons (nested_of ok k _ _ d1 r1) (nested_all ok ks _ _ d2 r2)
end
theorem key_at (ok : HOk P w H h) {S : Sit} {a : Addr} (d : Dt H (.ref a) (dSit S)) : (nestedKind P w).is h (kSit S) a :=
  ⟨nested_of ok (kSit S) (.ref a) (.ref a) (by rw [kSit_data]; exact d) rfl, kSit_depth S⟩
end

/-! ### dicts whose keys are situations; their values are not looked at -/
def dnO (P : Program) (w : World) (a : Addr) (xs : List (NestedKey × Addr × Value)) : HO :=
  .ext fun h => ∃ o es ep, h.get? a = some o ∧ o.ExactDict ∧ o.data = .dict es ep ∧ es.toList = xs.map (entryOfKey (nestedKind P w))
/-- at a stands such a dict with the keys ks, in their order -/
def DictN (P : Program) (w : World) (H : Hp) (a : Addr) (Ss : List Sit) : Prop :=
  (a == sysModules) = false ∧ Ss.Nodup ∧ Ss.length ≤ sizeLine ∧ ∃ xs : List (NestedKey × Addr × Value), H a = some (dnO P w a xs) ∧ xs.map (·.1) = Ss.map kSit ∧ ∀ x ∈ xs, ∃ S, x.1 = kSit S ∧ Dt H (.ref x.2.1) (dSit S)
section
variable {P : Program} {w : World} {H H' : Hp} {h : Heap} {a : Addr} {Ss : List Sit}
theorem DictN.keep (d : DictN P w H a Ss) (s : Seqs H H') (e : H' a = H a) : DictN P w H' a Ss := by
  obtain ⟨h1, h2, h3, xs, h4, h5, h6⟩ := d
  exact ⟨h1, h2, h3, xs, e.trans h4, h5, fun x hx => let ⟨S, e1, e2⟩ := h6 x hx; ⟨S, e1, Dt.seqs s _ _ e2⟩⟩
theorem DictN.same (d : DictN P w H a Ss) (s : Same H H') : DictN P w H' a Ss := by
  obtain ⟨h1, h2, h3, xs, h4, h5, h6⟩ := id d
  exact d.keep (.of_same s) ((s _ _ h4).trans h4.symm)
theorem DictN.isExt (d : DictN P w H a Ss) : ∃ φ, H a = some (.ext φ) := by
  obtain ⟨h1, h2, h3, xs, h4, h5, h6⟩ := d
  exact ⟨_, h4⟩
theorem nd_map {α β : Type} {f : α → β} (hf : ∀ x y, f x = f y → x = y) : ∀ {l : List α}, l.Nodup → (l.map f).Nodup
  | [], _ => List.nodup_nil
  | x :: l, h => by
    obtain ⟨h1, h2⟩ := List.nodup_cons.mp h
    rw [List.map_cons]
    refine List.nodup_cons.mpr ⟨fun m => ?_, nd_map hf h2⟩
    obtain ⟨y, hy, e⟩ := List.mem_map.mp m
    rw [hf _ _ e] at hy
    exact h1 hy
theorem DictN.raw (ok : HOk P w H h) (d : DictN P w H a Ss) : ∃ xs : List (NestedKey × Addr × Value), H a = some (dnO P w a xs) ∧ h.DictOfH (nestedKind P w) a xs ∧ xs.map (·.1) = Ss.map kSit ∧ ∀ x ∈ xs, ∃ S, x.1 = kSit S ∧ Dt H (.ref x.2.1) (dSit S) := by
  obtain ⟨h1, h2, h3, xs, h4, h5, h6⟩ := d
  obtain ⟨⟨o, es, ep, e1, e2, e3, e4⟩, _, _⟩ := ok a _ h4
  refine ⟨xs, h4, ⟨o, es, ep, e1, e2, e3, e4, fun x hx => ?_, ?_⟩, h5, h6⟩
  · obtain ⟨S, e5, e6⟩ := h6 x hx
    rw [e5]
    exact key_at ok e6
  · rw [h5]
    exact nd_map (fun x y e => kSit_inj e) h2
theorem keys_len {xs : List (NestedKey × Addr × Value)} (e : xs.map (·.1) = Ss.map kSit) : xs.length = Ss.length := by
  have := congrArg List.length e
  simpa using this
theorem atKey_some {xs : List (NestedKey × Addr × Value)} (e : xs.map (·.1) = Ss.map kSit) (S : Sit) : (atKey xs (kSit S)).isSome = decide (S ∈ Ss) := by
  by_cases m : S ∈ Ss
  · rw [decide_eq_true m]
    have m2 : kSit S ∈ xs.map (·.1) := by rw [e]; exact List.mem_map.mpr ⟨S, m, rfl⟩
    obtain ⟨x, hx, ex⟩ := List.mem_map.mp m2
    unfold atKey
    rw [Option.isSome_map, List.find?_isSome]
    exact ⟨x, hx, decide_eq_true ex⟩
  · rw [decide_eq_false m]
    unfold atKey
    rw [Option.isSome_map]
    cases q : xs.find? (fun x => decide (x.1 = kSit S)) with
    | none => rfl
    | some x =>
      have h1 := List.mem_of_find?_eq_some q
      have h2 : x.1 = kSit S := by
        have z := List.find?_some (p := fun x : NestedKey × Addr × Value => decide (x.1 = kSit S)) (l := xs) (a := x) q
        exact of_decide_eq_true z
      have m2 : kSit S ∈ Ss.map kSit := by
        rw [← e, ← h2]
        exact List.mem_map.mpr ⟨x, h1, rfl⟩
      obtain ⟨T, hT, eT⟩ := List.mem_map.mp m2
      rw [kSit_inj eT] at hT
      exact absurd hT m
/-- its object, as a tracked thing -/
theorem dn_ok {xs : List (NestedKey × Addr × Value)} (hd : h.DictOfH (nestedKind P w) a xs) : ObjOk P w H h a (dnO P w a xs) := by
  obtain ⟨o, es, ep, e1, e2, e3, e4, e5, e6⟩ := hd
  exact ⟨⟨o, es, ep, e1, e2, e3, e4⟩, ⟨o, e1⟩, fun h1 h2 ⟨o, es, ep, e1, e2, e3, e4⟩ k => ⟨o, es, ep, k o e1, e2, e3, e4⟩⟩
end
section
variable {X : Cx}
def rInN (P : Program) (w : World) : R2 := fun x y H Q => ∃ a b S Ss, x = .ref b ∧ y = .ref a ∧ DictN P w H a Ss ∧ Dt H (.ref b) (dSit S) ∧ Q (.bl (decide (S ∈ Ss))) H
def rNotInN (P : Program) (w : World) : R2 := fun x y H Q => ∃ a b S Ss, x = .ref b ∧ y = .ref a ∧ DictN P w H a Ss ∧ Dt H (.ref b) (dSit S) ∧ Q (.bl (!decide (S ∈ Ss))) H
theorem op_inN (hu : X.A.units + 64 < cLine) : OpR X (compareOp .In) (rInN X.prog X.w) := by
  intro pins s σ H x y v u Q I rx ry h
  obtain ⟨a, b, S, Ss, rfl, rfl, hd, hk, q⟩ := h
  cases rx
  cases ry
  obtain ⟨xs, h4, hD, h5, h6⟩ := hd.raw I.hok
  refine wpAny_in_heap (knd := nestedKind X.prog X.w) (by show X.A.units + 1 + 8 < cLine; omega) (key_at I.hok hk) hd.1 hD ?_
  rw [atKey_some h5]
  exact ⟨.bl _, H, I.tok _, rfl, q⟩
theorem op_notInN (hu : X.A.units + 64 < cLine) : OpR X (compareOp .NotIn) (rNotInN X.prog X.w) := by
  intro pins s σ H x y v u Q I rx ry h
  obtain ⟨a, b, S, Ss, rfl, rfl, hd, hk, q⟩ := h
  cases rx
  cases ry
  obtain ⟨xs, h4, hD, h5, h6⟩ := hd.raw I.hok
  refine notIn_keyed (knd := nestedKind X.prog X.w) (by show X.A.units + 1 + 8 < cLine; omega) (key_at I.hok hk) hd.1 ⟨xs, hD, rfl⟩ ?_
  rw [valueAt_pairsH, Option.isSome_map, atKey_some h5]
  exact ⟨.bl _, H, I.tok _, rfl, q⟩
theorem putNew {P : Program} {w : World} {H : Hp} {a b : Addr} {S : Sit} {Ss : List Sit} {xs : List (NestedKey × Addr × Value)} {u : Value} (hd : DictN P w H a Ss) (h4 : H a = some (dnO P w a xs)) (h5 : xs.map (·.1) = Ss.map kSit)
    (h6 : ∀ x ∈ xs, ∃ S, x.1 = kSit S ∧ Dt H (.ref x.2.1) (dSit S)) (hk : Dt H (.ref b) (dSit S)) (hn : S ∉ Ss) (hl : Ss.length < sizeLine) :
    storedH xs (kSit S) b u = xs ++ [(kSit S, b, u)] ∧ DictN P w (upd H a (dnO P w a (xs ++ [(kSit S, b, u)]))) a (Ss ++ [S]) := by
  have hno : atKey xs (kSit S) = none := by
    have q := atKey_some h5 S
    rw [decide_eq_false hn] at q
    cases z : atKey xs (kSit S) with
    | none => rfl
    | some _ => rw [z] at q; cases q
  have hs : Seqs H (upd H a (dnO P w a (xs ++ [(kSit S, b, u)]))) := by
    refine ⟨fun c ys e => ?_, fun c ys e => ?_⟩
    · rw [upd_ne (ne_of e h4 (fun z => nomatch z))]
      exact e
    · rw [upd_ne (ne_of e h4 (fun z => nomatch z))]
      exact e
  refine ⟨storedH_new hno b u, hd.1, nd_snoc hd.2.1 hn, by rw [List.length_append]; exact hl, xs ++ [(kSit S, b, u)], upd_same, ?_, fun x hx => ?_⟩
  · rw [List.map_append, List.map_append, h5]
    rfl
  · rcases List.mem_append.mp hx with hx | hx
    · obtain ⟨T, e1, e2⟩ := h6 x hx
      exact ⟨T, e1, Dt.seqs hs _ _ e2⟩
    · have e := List.mem_singleton.mp hx
      subst e
      exact ⟨S, rfl, Dt.seqs hs _ _ hk⟩
/-- d[S] = v, S not yet a key -/
def rSetN (P : Program) (w : World) : TSet := fun o i v H Q => ∃ a b S Ss, o = .ref a ∧ i = .ref b ∧ DictN P w H a Ss ∧ Dt H (.ref b) (dSit S) ∧ S ∉ Ss ∧ Ss.length < sizeLine ∧ ∀ H', (∀ c, c ≠ a → H' c = H c) → DictN P w H' a (Ss ++ [S]) → Q H'
theorem set_N (hu : X.A.units + 64 < cLine) : PSet X (rSetN X.prog X.w) := by
  intro pins s σ H o i v ov iv u Q I ro ri rv h
  obtain ⟨a, b, S, Ss, rfl, rfl, hd, hk, hn, hl, q⟩ := h
  cases ro
  cases ri
  obtain ⟨xs, h4, hD, h5, h6⟩ := hd.raw I.hok
  have hl2 := keys_len h5
  obtain ⟨e1, e2⟩ := putNew (u := u) hd h4 h5 h6 hk hn hl
  refine wpAny_setItem_heap (knd := nestedKind X.prog X.w) (hsz := by omega) (by show X.A.units + 1 + 8 < cLine; omega) (key_at I.hok hk) hD fun h' dd' hs => ?_
  rw [e1] at dd'
  obtain ⟨ob, es, ep, hq, _⟩ := id dd'
  exact ⟨_, d_write I (by rw [h4]; exact True.intro) hs ⟨ob, hq⟩ (dn_ok dd'), q _ (fun c hc => upd_ne hc) e2⟩

/-- {} as such a dict -/
def tDNewN (P : Program) (w : World) : TE := fun _ H Q => ∀ p H', H p = none → (∀ c, c ≠ p → H' c = H c) → DictN P w H' p [] → Q (.ref p) H'
theorem newDN {P : Program} {w : World} {H : Hp} {p : Addr} (hb : (p == sysModules) = false) : DictN P w (upd H p (dnO P w p [])) p [] :=
  ⟨hb, List.nodup_nil, Nat.zero_le _, [], upd_same, rfl, fun x hx => by cases hx⟩
theorem pe_dnewN {pos : Pos} : PE X (.Dict [] [] pos) (tDNewN X.prog X.w) := ⟨fun pins s σ H Q I h =>
  have hb : (s.heap.objs.size == sysModules) = false := beq_eq_false_iff_ne.mpr (Ne.symm (Nat.ne_of_lt I.big))
  wpAny_Dict_empty ⟨.ref s.heap.objs.size, _, I.laid (a := s.heap.objs.size) (o := dnO X.prog X.w s.heap.objs.size []) (t' := s.toks) (fun _ _ q => Heap.get?_push_of_some _ q) (Nat.le_refl _) (dn_ok (Heap.DictOfH.new s.heap)), rfl,
    h _ _ (I.hok.fresh (Nat.le_refl _)) (fun c hc => upd_ne hc) (newDN hb)⟩⟩
end
end Ys
/-! Rules, second part: a display of one pair, a dict comprehension, sorted data, a hidden list. -/
namespace Ys
open PySem PySem.Spec PyProof.Rows L2

theorem rel_ref {a : Addr} {u : Value} (r : RelV (.ref a) u) : u = .ref a := r
theorem nlt_ne {a b : Nat} (h : a < b) : a ≠ b := Nat.ne_of_lt h
theorem ne_lt1 {b N C : Nat} (h1 : b < N) (h2 : N + 1 ≤ C) : b ≠ C := by omega
theorem ne_eq1 {N C : Nat} (h2 : N + 1 ≤ C) : C ≠ N := by omega

section
variable {X : Cx}
/-- {k: v}, k a situation: the new dict stands empty while k and v are made -/
def tDispN (P : Program) (w : World) (tk tv : TE) : TE := fun σ H Q => ∀ p, H p = none → tk σ (upd H p (dnO P w p [])) fun x H1 => tv σ H1 fun _ H2 => ∃ b S, x = .ref b ∧ H2 p = some (dnO P w p []) ∧ Dt H2 (.ref b) (dSit S) ∧
  ∀ H', (∀ c, c ≠ p → H' c = H2 c) → DictN P w H' p [S] → Q (.ref p) H'
theorem pe_dispN {pos : Pos} {k v : Expr} {tk tv : TE} (hu : X.A.units + 64 < cLine) (hk : PE X k tk) (hv : PE X v tv) : PE X (.Dict [some k] [v] pos) (tDispN X.prog X.w tk tv) := by
  refine ⟨fun pins s σ H Q I q => ?_⟩
  have hb : (s.heap.objs.size == sysModules) = false := beq_eq_false_iff_ne.mpr (Ne.symm (Nat.ne_of_lt I.big))
  have hn := I.hok.fresh (Nat.le_refl s.heap.objs.size)
  have I1 := I.laid (a := s.heap.objs.size) (o := dnO X.prog X.w s.heap.objs.size []) (h' := s.heap.push { cls := .type "dict", data := .dict #[] }) (t' := s.toks) (fun _ _ q => Heap.get?_push_of_some _ q) (Nat.le_refl _) (dn_ok (Heap.DictOfH.new s.heap))
  have hsh := zip_pairTrees [some k] [v] X.env pos rfl rfl
  have hlen : (pairTrees [some k] [v] X.env pos).length = 1 := by simp [pairTrees]
  rw [arm_eval_Dict, hsh, dictDisplay_pairs _ (by intro z; rw [z] at hlen; cases hlen) (by omega)]
  refine wpAny_bind (wpAny_standAt (wpAny_bind ?_))
  refine wpAny_subDictH (knd := nestedKind X.prog X.w) (by show X.A.units + 8 < cLine; omega) (by omega) ?_
  refine pairTrees_cons_walk (thn (hk.run pins _ σ _ _ I1 (q _ hn)) fun u s1 ⟨x, H1, I2, rx, q1⟩ => thn (hv.run pins s1 σ H1 _ I2 q1) fun w2 s2 ⟨y, H2, I3, ry, q2⟩ => pairTrees_nil_walk ?_)
  obtain ⟨b, S, rfl, hp, hd, q3⟩ := q2
  obtain rfl := rel_ref rx
  have hD : DictN X.prog X.w H2 s.heap.objs.size [] := ⟨hb, List.nodup_nil, Nat.zero_le _, [], hp, rfl, fun x hx => by cases hx⟩
  obtain ⟨xs, h4, hR, h5, h6⟩ := hD.raw I3.hok
  have ex : xs = [] := List.map_eq_nil_iff.mp h5
  subst ex
  refine ⟨[(kSit S, b, w2)], ⟨rfl, rfl, key_at I3.hok hd, trivial⟩, hR, fun h' tk' dd hs => wpAny_pure ?_⟩
  obtain ⟨e1, e2⟩ := putNew (u := w2) hD h4 h5 h6 hd (by simp) (by rw [sizeLine_eq]; simp)
  obtain ⟨ob, es, ep, g1, _⟩ := id dd
  exact ⟨.ref s.heap.objs.size, _, d_write I3 (by rw [h4]; exact True.intro) hs ⟨ob, g1⟩ (dn_ok (xs := [(kSit S, b, w2)]) dd), rfl, q3 _ (fun c hc => upd_ne hc) e2⟩

/-- {x: True for x in a list of situations} -/
def tDcN (P : Program) (w : World) (ti : TE) : TE := fun σ H Q => ti σ H fun v H1 => ∃ (a : Addr) (xs : List V) (Ss : List Sit), v = .ref a ∧ H1 a = some (.lst xs) ∧ DtAll H1 xs (Ss.map dSit) ∧ Ss.length ≤ sizeLine ∧
  ∀ p H' Ts, H1 p = none → (∀ c, c ≠ p → H' c = H1 c) → DictN P w H' p Ts → (∀ S, S ∈ Ts ↔ S ∈ Ss) → Q (.ref p) H'
/-- the state in the comprehension's turn i -/
def DcG (P : Program) (w : World) (s1 : Shared) (H1 : Hp) (Ss : List Sit) (D C : Addr) (i : Nat) (s' : Shared) : Prop :=
  ∃ h' tk m, s' = { s1 with heap := h', toks := tk } ∧ h'.Ns C m ∧ (∀ b o, s1.heap.get? b = some o → h'.get? b = some o) ∧
    ∃ (ys : List (NestedKey × Addr × Value)) (Ts : List Sit), (∃ o es ep, h'.get? D = some o ∧ o.ExactDict ∧ o.data = .dict es ep ∧ es.toList = ys.map (entryOfKey (nestedKind P w))) ∧
      ys.map (·.1) = Ts.map kSit ∧ (∀ y ∈ ys, ∃ S, y.1 = kSit S ∧ Dt H1 (.ref y.2.1) (dSit S)) ∧ Ts.Nodup ∧ Ts.length ≤ i ∧ ∀ S, S ∈ Ts ↔ S ∈ Ss.take i
theorem Dt.sit_ref {H : Hp} {v : V} {S : Sit} (h : Dt H v (dSit S)) : ∃ a, v = .ref a := by
  have h' : Dt H v (.tuple [.int (S.came : Int), .tuple (S.held.map dInts), dInts S.gone]) := h
  cases h'
  exact ⟨_, rfl⟩
theorem map_putAt_keys (xs : List (NestedKey × Addr × Value)) (k : NestedKey) (v : Value) : (xs.map (putAt k v)).map (·.1) = xs.map (·.1) := keys_map_putAt xs k v
theorem putAt_mem {xs : List (NestedKey × Addr × Value)} {k : NestedKey} {v : Value} {y : NestedKey × Addr × Value} (h : y ∈ xs.map (putAt k v)) : ∃ z ∈ xs, y.1 = z.1 ∧ y.2.1 = z.2.1 := by
  obtain ⟨z, hz, e⟩ := List.mem_map.mp h
  refine ⟨z, hz, ?_⟩
  unfold putAt at e
  split at e <;> subst e <;> exact ⟨rfl, rfl⟩
theorem dcN_core {x : Str} {p1 p2 p3 : Pos} {j : Nat} {iter : Expr} {scope : Scope} {ti : TE} {use : Option (Value → Sem Unit)} {Qf : Value → Shared → Prop} {pins : List (Addr × Obj)} {s : Shared} {σ : L2.St} {H : Hp} {Q : VK} (hc : X.calm = true) (hu : X.A.units + 64 < cLine) (hi : PE X iter ti)
    (hkind : scope.kind = .function) (hx : scope.names.lookup x = some .local) (hd : (x == ("__debug__" : Str)) = false) (I : Inv X pins σ H s) (h : tDcN X.prog X.w ti σ H Q)
    (fin : ∀ (D C : Addr) (s' : Shared) (m : Str → Option Value) (H' : Hp), Inv X pins σ H' s' → Q (.ref D) H' → s'.heap.Ns C m → FpOk X pins H' C → compEnds (model X.prog X.w) X.A X.xe use Qf (.ref D) (compEnvC scope (cloFrom X.env.cells scope.names []) C X.env) (.ok .next) s') :
    wpAny (model X.prog X.w) X.A (eval iter X.env) (fun xv s1 => wpAny (model X.prog X.w) X.A (pyIter xv) (DcGoes X.prog X.w X.A X.xe X.env scope (cloFrom X.env.cells scope.names []) (.Name x p2) [] (.Name x p1) (.Constant (.bool true) j p3) use Qf) X.xe s1) X.xe s := by
  refine thn (hi.run pins s σ H _ I h) fun v s1 h1 => ?_
  obtain ⟨v', H1, I1, rv, a, xs, Ss, rfl, ha, hall, hz, q⟩ := h1
  obtain rfl := rel_ref rv
  obtain ⟨_, its, nn, rvs, hob⟩ := I1.hok a _ ha
  have hlt : (a : Nat) < s1.heap.objs.size := Heap.lt_size hob
  have hL : s1.heap.IsList a its.toArray := ⟨_, hob, rfl, nn, rfl⟩
  have hh : X.A.handled = none := I1.ok.hd hc
  have hlen : its.length = Ss.length := by
    have e1 := rvs.length
    have e2 := hall.length
    rw [List.length_map] at e2
    omega
  refine wpAny_pyIter_list hL ?_
  refine ⟨_, _, _, _, _, _, rfl, Goes.list hh s1.heap.objs.size a (Nat.ne_of_lt hlt) its.toArray, ⟨⟨_, Heap.get?_push_size _ rfl, rfl, rfl⟩, hL.push _⟩, fun D C s3 hB hD => ?_⟩
  obtain ⟨⟨h3, tk3, rfl⟩, old, nD, nC, hDC, hnm⟩ := hB
  have hnm : h3.Ns C fun _ => none := hnm
  have hD : h3.get? D = some { cls := .type "dict", dict := none, data := .dict #[] } := hD
  have nC' : (s1.heap.objs.size + 1 : Nat) ≤ C := by
    have z := nC
    rw [Heap.size_push] at z
    exact z
  have nD' : (s1.heap.objs.size + 1 : Nat) ≤ D := by
    have z := nD
    rw [Heap.size_push] at z
    exact z
  have hDC' : (D : Nat) ≠ C := hDC
  have kx : (compEnvC scope (cloFrom X.env.cells scope.names []) C X.env).kindOf x = some .local := lookup_relabel_local hx
  have hp : ((compEnvC scope (cloFrom X.env.cells scope.names []) C X.env).scope.kind == .class || ((compEnvC scope (cloFrom X.env.cells scope.names []) C X.env).scope.kind == .module && (compEnvC scope (cloFrom X.env.cells scope.names []) C X.env).locals != (compEnvC scope (cloFrom X.env.cells scope.names []) C X.env).globals)) = false := by
    show (scope.kind == .class || (scope.kind == .module && _)) = false
    rw [hkind]
    rfl
  refine ⟨fun i s' => DcG X.prog X.w s1 H1 Ss D C i s', ⟨h3, tk3, _, rfl, hnm, fun b o e => old b o (Heap.get?_push_of_some _ e), [], [], ⟨_, #[], 0, hD, ⟨rfl, rfl, rfl⟩, rfl, rfl⟩, rfl, (fun y hy => by cases hy), List.nodup_nil, Nat.zero_le _, (fun S => by simp)⟩, ?_, ?_, ?_⟩
  · rintro i s' h' tk ⟨h4, tk4, m, rfl, n4, k4, ys, Ts, ⟨o, es, ep, g1, g2, g3, g4⟩, r1, r2, r3, r4, r5⟩ hk' _
    have off : ∀ b : Addr, (b : Nat) ≠ s1.heap.objs.size → b ∉ [s1.heap.objs.size] := fun b hb hm => hb (List.mem_singleton.mp hm)
    refine ⟨h', tk, m, rfl, n4.at' fun o e => hk' _ o (off _ (ne_eq1 nC')) e, fun b o e => hk' b o (off _ (nlt_ne (Heap.lt_size e))) (k4 b o e), ys, Ts, ⟨o, es, ep, hk' _ o (off _ (ne_eq1 nD')) g1, g2, g3, g4⟩, r1, r2, r3, r4, r5⟩
  · rintro i v s' hin hv st ⟨h4, tk4, m, rfl, n4, k4, ys, Ts, ⟨o, es, ep, g1, g2, g3, g4⟩, r1, r2, r3, r4, r5⟩
    have hv : its.toArray[i]? = some v := hv
    have hv : its[i]? = some v := by simpa using hv
    have hin' : i < Ss.length := by
      rw [← hlen]
      exact (List.getElem?_eq_some_iff.mp hv).1
    have eS : (Ss.map dSit)[i]? = some (dSit Ss[i]) := by rw [List.getElem?_map, List.getElem?_eq_getElem hin']; rfl
    obtain ⟨y, hy, dy⟩ := hall.get eS
    obtain ⟨u, hu2, ru⟩ := rvs.get hy
    have euv : u = v := Option.some.inj (hu2.symm.trans hv)
    subst euv
    obtain ⟨b, rfl⟩ := dy.sit_ref
    obtain rfl := rel_ref ru
    refine wpAny_assign_Name (wpAny_storeName_local kx n4 (fun h5 n5 s5 => ?_) hp)
    refine wpAny_tests_nil ?_
    show wpAny _ _ (eval (.Name x p1) _) _ _ _
    rw [eval_Name _ _ _ hd]
    refine wpAny_bind (wpAny_standAt (wpAny_loadName_local hkind kx n5 (v := .ref b) (if_pos rfl) ?_))
    refine wpAny_Constant_bool ?_
    have k5 : ∀ b o, s1.heap.get? b = some o → h5.get? b = some o := fun c o e => s5.extBut c o (ne_lt1 (Heap.lt_size e) nC') (k4 c o e)
    have ok5 : HOk X.prog X.w H1 h5 := I1.hok.kept k5
    have dD : h5.DictOfH (nestedKind X.prog X.w) D ys := by
      refine ⟨o, es, ep, s5.extBut _ _ hDC' g1, g2, g3, g4, fun z hz => ?_, ?_⟩
      · obtain ⟨S, e5, e6⟩ := r2 z hz
        rw [e5]
        exact key_at ok5 e6
      · rw [r1]
        exact nd_map (fun x y e => kSit_inj e) r3
    have hyl := keys_len r1
    refine wpAny_dictSet_heap (knd := nestedKind X.prog X.w) (hsz := by omega) (by show X.A.units + 8 < cLine; omega) (key_at ok5 dy) dD fun h6 d6 s6 => ?_
    have sD : ∀ c o, (c : Nat) ≠ D → h5.get? c = some o → h6.get? c = some o := fun c o hc e => s6.extBut c o hc e
    have neDI : (s1.heap.objs.size : Nat) ≠ D := (ne_eq1 nD').symm
    have neCI : (s1.heap.objs.size : Nat) ≠ C := (ne_eq1 nC').symm
    have st' : h4.IsListIter s1.heap.objs.size a (i + 1) ∧ h4.IsList a its.toArray := st
    have fin : ∃ (zs : List (NestedKey × Addr × Value)) (Us : List Sit), storedH ys (kSit Ss[i]) b (.bool true) = zs ∧ zs.map (·.1) = Us.map kSit ∧ (∀ y ∈ zs, ∃ S, y.1 = kSit S ∧ Dt H1 (.ref y.2.1) (dSit S)) ∧ Us.Nodup ∧ Us.length ≤ i + 1 ∧ ∀ S, S ∈ Us ↔ S ∈ Ss.take (i + 1) := by
      have tk : Ss.take (i + 1) = Ss.take i ++ [Ss[i]] := by rw [List.take_add_one, List.getElem?_eq_getElem hin']; rfl
      by_cases hm : Ss[i] ∈ Ts
      · have q1 := atKey_some r1 Ss[i]
        rw [decide_eq_true hm] at q1
        obtain ⟨pv, hpv⟩ := Option.isSome_iff_exists.mp q1
        refine ⟨_, Ts, storedH_old hpv b _, by rw [map_putAt_keys]; exact r1, fun z hz => ?_, r3, Nat.le_succ_of_le r4, fun S => ?_⟩
        · obtain ⟨w', hw', e1, e2⟩ := putAt_mem hz
          obtain ⟨S, e3, e4⟩ := r2 w' hw'
          exact ⟨S, e1.trans e3, by rw [e2]; exact e4⟩
        · rw [tk, List.mem_append, ← r5 S, List.mem_singleton]
          exact ⟨.inl, fun z => z.elim id fun e => by rw [e]; exact hm⟩
      · have q1 := atKey_some r1 Ss[i]
        rw [decide_eq_false hm] at q1
        have hno : atKey ys (kSit Ss[i]) = none := by
          cases z : atKey ys (kSit Ss[i]) with
          | none => rfl
          | some _ => rw [z] at q1; cases q1
        refine ⟨_, Ts ++ [Ss[i]], storedH_new hno b _, by rw [List.map_append, List.map_append, r1]; rfl, fun z hz => ?_, nd_snoc r3 hm, by rw [List.length_append]; exact Nat.succ_le_succ r4, fun S => ?_⟩
        · rcases List.mem_append.mp hz with hz | hz
          · exact r2 z hz
          · have e := List.mem_singleton.mp hz
            subst e
            exact ⟨_, rfl, dy⟩
        · rw [tk, List.mem_append, List.mem_append, ← r5 S]
    obtain ⟨zs, Us, e7, f1, f2, f3, f4, f5⟩ := fin
    rw [e7] at d6
    obtain ⟨o6, es6, ep6, j1, j2, j3, j4, _, _⟩ := d6
    refine ⟨⟨h6, _, _, rfl, n5.at' fun o e => sD _ o (Ne.symm hDC') e, fun c o e => sD c o (ne_lt1 (Heap.lt_size e) nD') (k5 c o e), zs, Us, ⟨o6, es6, ep6, j1, j2, j3, j4⟩, f1, f2, f3, f4, f5⟩, ?_⟩
    exact ⟨st'.1.at fun o e => sD _ o neDI (s5.extBut _ o neCI e), st'.2.at fun o e => sD _ o (ne_lt1 hlt nD') (s5.extBut _ o (ne_lt1 hlt nC') e)⟩
  · rintro s' ⟨h4, tk4, m, rfl, n4, k4, ys, Ts, ⟨o, es, ep, g1, g2, g3, g4⟩, r1, r2, r3, r4, r5⟩
    have hDn : H1 D = none := I1.hok.fresh (Nat.le_of_succ_le nD')
    have hCn : H1 C = none := I1.hok.fresh (Nat.le_of_succ_le nC')
    have hbD : (D == sysModules) = false := beq_eq_false_iff_ne.mpr (Ne.symm (Nat.ne_of_lt (Nat.lt_of_lt_of_le I1.big (Nat.le_of_succ_le nD'))))
    have ob : ObjOk X.prog X.w (upd H1 D (dnO X.prog X.w D ys)) h4 D (dnO X.prog X.w D ys) :=
      ⟨⟨o, es, ep, g1, g2, g3, g4⟩, ⟨o, g1⟩, fun h1 h2 ⟨o, es, ep, e1, e2, e3, e4⟩ k => ⟨o, es, ep, k o e1, e2, e3, e4⟩⟩
    have sq : Seqs H1 (upd H1 D (dnO X.prog X.w D ys)) := ⟨fun c xs e => by rw [upd_ne (ne_of_none e hDn)]; exact e, fun c xs e => by rw [upd_ne (ne_of_none e hDn)]; exact e⟩
    have hl2 : its.toArray.size = Ss.length := by rw [List.size_toArray]; exact hlen
    refine fin D C _ m (upd H1 D (dnO X.prog X.w D ys)) (I1.laid (t' := tk4) k4 (Nat.le_of_succ_le nD') ob) ?_ n4 (I1.fpOk (Nat.le_of_succ_le nC') ((upd_ne (Ne.symm hDC')).trans hCn))
    refine q D _ Ts hDn (fun c hc => upd_ne hc) ⟨hbD, r3, ?_, ys, upd_same, r1, fun y hy => ?_⟩ fun S => ?_
    · rw [hl2] at r4
      exact Nat.le_trans r4 hz
    · obtain ⟨S, e1, e2⟩ := r2 y hy
      exact ⟨S, e1, Dt.seqs sq _ _ e2⟩
    · have z := r5 S
      rw [hl2, List.take_length] at z
      exact z
theorem pe_dcN {x : Str} {p1 p2 p3 pos : Pos} {j : Nat} {iter : Expr} {scope : Scope} {ti : TE} (hc : X.calm = true) (hu : X.A.units + 64 < cLine) (hi : PE X iter ti)
    (hkind : scope.kind = .function) (hcell : ∀ y ∈ scope.names, y.2 ≠ .cell) (hfree : ∀ y ∈ scope.names, y.2 ≠ .free) (hnames : ∀ y ∈ scope.names, y.2 = .local → scope.names.lookup y.1 = some .local)
    (hx : scope.names.lookup x = some .local) (hs : ∀ z, foldedSetIterable iter X.env z = pure z) (hd : (x == ("__debug__" : Str)) = false := by decide) :
    PE X (.DictComp (.Name x p1) (.Constant (.bool true) j p3) [⟨.Name x p2, iter, [], 0⟩] scope pos) (tDcN X.prog X.w ti) := by
  refine ⟨fun pins s σ H Q I h => ?_⟩
  refine DictComp_goes (cl := cloFrom X.env.cells scope.names []) (closure_ok fun y hy e => absurd e (hfree y hy)) hcell hkind hnames (dcN_core hc hu hi hkind hx hd I h fun D C s' m H' I' q hn f => ?_) hs
  obtain ⟨f0, f1, f2, f3, f4, f5⟩ := f
  exact ⟨m, hn, fun h'' sb => ⟨.ref D, H', I'.turned (t' := s'.toks) (fun b o hb e => (sb.2 b hb).trans e) f0 f1 f3 f4 f5, rfl, q⟩⟩
theorem swd_true {kx vx : Expr} {gs : List Comprehension} {scope : Scope} {pos py : Pos} {y : Str} {l : Nat} {env : Env} (hk : env.scope.kind = .function) (hy : env.scope.names.lookup y = some .local) (hl : (py.line == pos.line) = true)
    (ha : (scope.names.any fun (n, k) => n == y && (k == .local || k == .cell)) = false) : swapsWith (.DictComp kx vx gs scope pos) (some (.Name y py)) l env = pure true := by
  have ky : env.kindOf y = some .local := hy
  have hb : env.blockKind = .function := by unfold Env.blockKind; rw [hk]; rfl
  unfold swapsWith
  simp only [hb, ky, ha, Expr.pos, hl]
  rfl
/-- name = {x: True for x in a list of situations} on one line, the name a local -/
theorem ps_setDcN {i : Nat} {y x : Str} {py p1 p2 p3 pos spos : Pos} {j : Nat} {iter : Expr} {scope : Scope} {ti : TE} (hc : X.calm = true) (hu : X.A.units + 64 < cLine) (hN : X.N.Nodup) (hy : X.N[i]? = some y) (hyl : X.env.scope.names.lookup y = some .local)
    (hsw : swapsWith (.DictComp (.Name x p1) (.Constant (.bool true) j p3) [⟨.Name x p2, iter, [], 0⟩] scope pos) (some (.Name y py)) spos.line X.env = pure true) (hi : PE X iter ti)
    (hkind : scope.kind = .function) (hcell : ∀ y ∈ scope.names, y.2 ≠ .cell) (hfree : ∀ y ∈ scope.names, y.2 ≠ .free) (hnames : ∀ y ∈ scope.names, y.2 = .local → scope.names.lookup y.1 = some .local)
    (hx : scope.names.lookup x = some .local) (hs : ∀ z, foldedSetIterable iter X.env z = pure z) (hd : (x == ("__debug__" : Str)) = false := by decide) :
    PS X (.Assign [.Name y py] (.DictComp (.Name x p1) (.Constant (.bool true) j p3) [⟨.Name x p2, iter, [], 0⟩] scope pos) spos) (tAsg (tDcN X.prog X.w ti) (gName i)) := by
  refine ⟨fun pins s σ H D I h => ?_⟩
  rw [exec_Assign_Name_used _ _ _ _ hsw]
  refine wpAny_bind (wpAny_standAt (wpAny_bind ?_))
  show wpAny _ X.A (do let _ ← comprehension (.DictComp (.Name x p1) (.Constant (.bool true) j p3) [⟨.Name x p2, iter, [], 0⟩] scope pos) scope X.env _ newDict false (eval iter X.env) (some (assign (.Name y py) X.env))) _ _ s
  have h : tDcN X.prog X.w ti σ H (fun x H1 => gName i x σ H1 D.nx) := h
  refine wpAny_bind (wpAny_mono (comprehension_at (use := some (assign (.Name y py) X.env)) (Q := fun _ s' => SP X pins D .next s') rfl hs (closure_ok fun y hy e => absurd e (hfree y hy)) hkind hnames
    (wpAny_mono (dcN_core (use := some (assign (.Name y py) X.env)) (Qf := fun _ s' => SP X pins D .next s') hc hu hi hkind hx hd I h fun L C s' m H' I' q hn f => ?_) (fun xv s1 h1 => wpAny_mono h1 (fun it s2 h2 => compBlock_dict hcell hkind h2) fun _ _ e => e) fun _ _ e => e)) (fun _ s' hq => wpAny_pure (wpAny_pure hq)) fun _ _ e => e)
  show wpAny _ _ (assign (.Name y py) X.env (.ref L)) _ _ _
  refine wpAny_assign_Name (store_ok2 (v := V.ref L) I' hN hy (.inl hyl) rfl (fun s2 I2 ⟨a, sb, ha⟩ => ?_) (.inr hyl))
  obtain ⟨f0, f1, f2, f3, f4, f5⟩ := f
  have haC : C ≠ a := by
    rcases ha with z | z
    · rw [z]; exact f1
    · exact fun e => f4 y a z e.symm
  refine ⟨m, hn.sameBut sb haC, fun h3 sb3 => ?_⟩
  exact ⟨_, H', I2.turned (t' := s2.toks) (fun b o hb e => (sb3.2 b hb).trans e) f0 f1 f3 f4 f5, q⟩
end
end Ys
/-! Rules, third part: sorted data; a list of ints that is hidden; len of an own object. -/
namespace Ys
open PySem PySem.Spec PyProof.Rows L2

section
variable {X : Cx}
theorem each_of {H : Hp} {vs : List V} {us : List Value} {ds : List PyData} : Vals vs us → DtAll H vs ds → PySem.W.EachIs (fun (u : Value) (b : V × PyData) => RelV b.1 u ∧ Dt H b.1 b.2) us (vs.zip ds) := by
  intro r
  induction r generalizing ds with
  | nil =>
    intro h
    cases h
    exact .nil
  | cons h1 _ ih =>
    intro h
    cases h with
    | cons d1 d2 => exact .cons ⟨h1, d1⟩ (ih d2)
theorem vals_each {H : Hp} : ∀ {us : List Value} {bs : List (V × PyData)}, PySem.W.EachIs (fun (u : Value) (b : V × PyData) => RelV b.1 u ∧ Dt H b.1 b.2) us bs → Vals (bs.map (·.1)) us
  | _, _, .nil => .nil
  | _, _, .cons h t => .cons h.1 (vals_each t)
theorem zip_fst {α β : Type} : ∀ {l : List α} {m : List β}, l.length = m.length → (l.zip m).map (·.1) = l
  | [], _, _ => by simp
  | x :: l, [], h => by simp at h
  | x :: l, y :: m, h => by
    have := zip_fst (l := l) (m := m) (by simpa using h)
    simp [this]
theorem zip_snd {α β : Type} : ∀ {l : List α} {m : List β}, l.length = m.length → (l.zip m).map (·.2) = m
  | [], [], _ => by simp
  | [], y :: m, h => by simp at h
  | x :: l, [], h => by simp at h
  | x :: l, y :: m, h => by
    have := zip_snd (l := l) (m := m) (by simpa using h)
    simp [this]
/-- sorted(xs) of data that are alike: some rearrangement of the values -/
def rSortedDt : List V → Hp → VK → Prop := fun vs H Q => ∃ (a : Addr) (xs : List V) (ds : List PyData), vs = [.ref a] ∧ H a = some (.lst xs) ∧ DtAll H xs ds ∧ PySem.W.AllAlike ds ∧ PySem.W.Sortable ds ∧ (∀ d ∈ ds, d.depth ≤ 20) ∧
  ∀ (ys : List V) (p : Addr), ys.Perm xs → H p = none → Q (.ref p) (upd H p (.lst ys))
theorem cr_sortedDt (hu : X.A.units + 64 < cLine) : CallR X (.builtin "sorted") rSortedDt := by
  intro pins s σ H vs us Q I r h
  obtain ⟨a, xs, ds, rfl, ha, hall, hal, hso, hdp, q⟩ := h
  rw [Vals.ref1 r]
  obtain ⟨hz, its, n, rv, hob⟩ := I.hok a _ ha
  have hL : s.heap.IsList a its.toArray := ⟨_, hob, rfl, n, rfl⟩
  have hxd := hall.length
  have e := each_of rv hall
  have es : (xs.zip ds).map (·.2) = ds := zip_snd hxd
  have ef : (xs.zip ds).map (·.1) = xs := zip_fst hxd
  have er : PySem.W.EachIs (fun v (b : V × PyData) => ∃ as, Reads s.heap v b.2 as) its (xs.zip ds) := e.mono fun u b ⟨h1, h2⟩ => Dp.reads I b.2 b.1 u (Dt.dp _ _ h2) h1
  have hzl : (xs.zip ds).length ≤ sizeLine := by
    rw [List.length_zip, ← hxd, Nat.min_self]
    exact hz
  refine PySem.W.sorted_data (enc := fun b : V × PyData => b.2) hL e er (by rw [es]; exact hal) (by rw [es]; exact hso) hzl (fun b hb => ?_) fun out hl hout => ?_
  · have hm : b.2 ∈ ds := by rw [← es]; exact List.mem_map.mpr ⟨b, hb, rfl⟩
    have := hdp _ hm
    omega
  · obtain ⟨ep, he'⟩ := PyProof.Rows.sortedAll_at s.heap its out.toArray
    have rv2 := vals_each hout
    have pm : (((xs.zip ds).mergeSort (PySem.W.dataLe false fun b : V × PyData => b.2)).map (·.1)).Perm xs := by
      have p1 := (List.mergeSort_perm (xs.zip ds) (PySem.W.dataLe false fun b : V × PyData => b.2)).map (·.1)
      rw [ef] at p1
      exact p1
    refine ⟨.ref _, upd H (s.heap.objs.size + 1) (.lst _), I.laid (t' := s.toks) (fun _ _ => PyProof.Rows.sortedAll_old) (Nat.le_succ _) ⟨?_, out, ep, rv2, he'⟩, rfl, q _ _ pm (I.hok.fresh (Nat.le_succ _))⟩
    rw [pm.length_eq]
    exact hz
end

/-! ### alike data -/
theorem alikeAll_ints : ∀ l m : List Int, PySem.W.alikeAll (l.map PyData.int) (m.map PyData.int) = true
  | [], _ => by simp [PySem.W.alikeAll]
  | _ :: _, [] => by simp [PySem.W.alikeAll]
  | x :: l, y :: m => by
    simp only [List.map_cons, PySem.W.alikeAll, PySem.W.alike, Bool.true_and]
    exact alikeAll_ints l m
theorem alike_dInts (l m : List Int) : PySem.W.alike (dInts l) (dInts m) = true := by
  unfold dInts
  rw [PySem.W.alike]
  exact alikeAll_ints l m
theorem alikeAll_map {α : Type} {f : α → PyData} (h : ∀ x y, PySem.W.alike (f x) (f y) = true) : ∀ l m : List α, PySem.W.alikeAll (l.map f) (m.map f) = true
  | [], _ => by simp [PySem.W.alikeAll]
  | _ :: _, [] => by simp [PySem.W.alikeAll]
  | x :: l, y :: m => by
    simp only [List.map_cons, PySem.W.alikeAll, h, Bool.true_and]
    exact alikeAll_map h l m
theorem alike_dSit (S T : Sit) : PySem.W.alike (dSit S) (dSit T) = true := by
  unfold dSit
  simp only [PySem.W.alike, PySem.W.alikeAll, alikeAll_map alike_dInts, alike_dInts, Bool.and_true]
theorem alike_dMv (S T : Mv) : PySem.W.alike (dMv S) (dMv T) = true := by
  unfold dMv
  simp only [PySem.W.alike, PySem.W.alikeAll, Bool.and_true]
theorem alike_dLink (S T : Int × Int) : PySem.W.alike (dLink S) (dLink T) = true := by
  unfold dLink
  simp only [PySem.W.alike, PySem.W.alikeAll, Bool.and_true]
theorem depthAll_le' {α : Type} (f : α → PyData) (k : Nat) (h : ∀ x, (f x).depth ≤ k) : ∀ l : List α, PyData.depthAll (l.map f) ≤ k
  | [] => by simp [PyData.depthAll]
  | x :: l => by
    have := depthAll_le' f k h l
    have := h x
    simp only [List.map_cons, PyData.depthAll]
    omega
theorem dInts_depth (l : List Int) : (dInts l).depth ≤ 1 := by
  unfold dInts
  have := depthAll_le' PyData.int 0 (fun x => by simp [PyData.depth]) l
  simp only [PyData.depth]
  omega
theorem dSit_depth (S : Sit) : (dSit S).depth ≤ 4 := by
  unfold dSit
  have h1 := depthAll_le' dInts 1 dInts_depth S.held
  have h2 := dInts_depth S.gone
  simp only [PyData.depth, PyData.depthAll]
  omega
theorem dMv_depth (m : Mv) : (dMv m).depth ≤ 4 := by
  unfold dMv
  simp only [PyData.depth, PyData.depthAll]
  omega
theorem dLink_depth (m : Int × Int) : (dLink m).depth ≤ 4 := by
  unfold dLink
  simp only [PyData.depth, PyData.depthAll]
  omega
/-- sorted(xs) of situations, moves, links -/
theorem sorted_maps {α : Type} {f : α → PyData} (h1 : ∀ x y, PySem.W.alike (f x) (f y) = true) (h2 : ∀ x, ∃ y r, f x = .tuple (y :: r)) (h3 : ∀ x, (f x).depth ≤ 4) {H : Hp} {a : Addr} {xs : List V} {l : List α} {Q : VK} (ha : H a = some (.lst xs))
    (hall : DtAll H xs (l.map f)) (q : ∀ (m : List α) (ys : List V) (p : Addr), m.Perm l → DtAll H ys (m.map f) → H p = none → Q (.ref p) (upd H p (.lst ys))) : rSortedDt [.ref a] H Q := by
  refine ⟨a, xs, l.map f, rfl, ha, hall, PySem.W.AllAlike.of h1, PySem.W.Sortable.tuples h2, fun d hd => ?_, fun ys p pm hp => ?_⟩
  · obtain ⟨x, _, rfl⟩ := List.mem_map.mp hd
    exact Nat.le_trans (h3 x) (by decide)
  · obtain ⟨m, pm2, hm⟩ := DtAll.perm pm hall
    exact q m ys p pm2 hm hp

/-! ### a list of ints that is hidden: that it is one, and not longer than 4000, is all that is known -/
def drawsO (p : Addr) : HO := .ext fun h => ∃ (ds : List Int) (its : List Value) (n : Nat), ds.length ≤ 4000 ∧ Vals (ds.map V.int) its ∧ h.get? p = some { cls := .type "list", data := .seq its.toArray n }
section
variable {P : Program} {w : World} {H : Hp} {h : Heap} {p : Addr}
theorem draws_ok {ds : List Int} {its : List Value} {n : Nat} (hl : ds.length ≤ 4000) (rv : Vals (ds.map V.int) its) (e : h.get? p = some { cls := .type "list", data := .seq its.toArray n }) : ObjOk P w H h p (drawsO p) :=
  ⟨⟨ds, its, n, hl, rv, e⟩, ⟨_, e⟩, fun h1 h2 ⟨ds, its, n, a, b, c⟩ k => ⟨ds, its, n, a, b, k _ c⟩⟩
/-- the abstract heap where a list is taken for a hidden one, or the other way round -/
theorem swap_ok {o o' : HO} (ok : HOk P w H h) (hp : H p = some o) (no : ∀ x, o ≠ .own x) (nt : ∀ xs, o ≠ .tup xs) (new : ∀ H', ObjOk P w H' h p o') : HOk P w (upd H p o') h := fun b u q => by
  by_cases hb : b = p
  · subst hb
    rw [upd_same] at q
    cases q
    exact new _
  · rw [upd_ne hb] at q
    refine (ok b u q).stay (fun _ _ _ e => e) (fun c e => ?_) fun c xs e => ?_
    · rw [upd_ne (ne_of e hp fun z => no _ z.symm)]
      exact e
    · rw [upd_ne (ne_of e hp fun z => nt _ z.symm)]
      exact e
theorem swap_none {o o' : HO} (hp : H p = some o) {b : Addr} : upd H p o' b = none ↔ H b = none := by
  by_cases hb : b = p
  · subst hb
    rw [upd_same, hp]
    exact ⟨(fun z => nomatch z), (fun z => nomatch z)⟩
  · rw [upd_ne hb]
end
section
variable {X : Cx}
theorem Inv.hide {pins : List (Addr × Obj)} {σ : List (Option V)} {H : Hp} {s : Shared} {d : Addr} {ds : List Int} (I : Inv X pins σ H s) (hd : H d = some (.lst (ds.map V.int))) (hl : ds.length ≤ 4000) : Inv X pins σ (upd H d (drawsO d)) s := by
  obtain ⟨hz, its, n, rv, hob⟩ := I.hok d _ hd
  have hok := swap_ok I.hok hd (fun _ z => nomatch z) (fun _ z => nomatch z) fun H' => draws_ok (P := X.prog) (w := X.w) (H := H') hl rv hob
  have nn : ∀ {b : Addr}, H b = none → upd H d (drawsO d) b = none := fun {b} e => (swap_none hd).mpr e
  have keep : ∀ {b : Addr} {o : HO}, (∀ xs, o ≠ .lst xs) → H b = some o → upd H d (drawsO d) b = some o := fun {b o} ne e => by
    rw [upd_ne (ne_of e hd (ne _))]
    exact e
  refine ⟨I.ok, I.os, I.bare, ⟨I.base.keep, I.base.slot, fun b o e n hb => nn (I.base.free b o e n hb), I.base.there, fun b xs e => keep (fun _ z => nomatch z) (I.base.tups b xs e), fun b o u e => keep (fun _ z => nomatch z) (I.base.frzs b o u e), fun b ps e => ?_⟩, I.loc, I.cell, nn I.free, fun x c e => nn (I.freeC x c e), fun p hp => ?_, hok, I.len⟩
  · obtain ⟨more, e1⟩ := I.base.tbls b ps e
    exact ⟨more, keep (fun _ z => nomatch z) e1⟩
  · obtain ⟨a1, a2, a3, a4, a5⟩ := I.pin p hp
    exact ⟨a1, nn a2, a3, a4, a5⟩
/-- from here on a list of ints is hidden -/
def tHide (t : TS) : TS := fun D σ H => ∃ (d : Addr) (ds : List Int), H d = some (.lst (ds.map V.int)) ∧ ds.length ≤ 4000 ∧ t D σ (upd H d (drawsO d))
theorem pss_hide {sts : List Stmt} {t : TS} (h : PSs X sts t) : PSs X sts (tHide t) := ⟨fun pins s σ H D I ⟨d, ds, hd, hl, q⟩ => h.run pins s σ _ D (Inv.hide I hd hl) q⟩
end

/-! ### the draws: each takes one off, or gives 0 -/
def spNext0 : Sp := fun vs H Q _ => ∃ (d : Addr) (ds : List Int), vs = [.ref d] ∧ H d = some (.lst (ds.map V.int)) ∧ ∀ (i : Int) (ds' : List Int), ds'.length ≤ ds.length → Q (.int i) (upd H d (.lst (ds'.map V.int)))
def spNext : Sp := fun vs H Q _ => ∃ d : Addr, vs = [.ref d] ∧ H d = some (drawsO d) ∧ ∀ i : Int, Q (.int i) H
theorem next_hidden {P : Program} {w : World} {K : PySem.W.Frag} {mg : Str → Option Value} {base : Heap} {k : Nat} {f : Addr} {fd : FuncData} {ps : List Str} (F : FnOk P w K mg base CX0 k f fd ps spNext0) (hps : ps.length = 1) : FnOk P w K mg base CX0 k f fd ps spNext := by
  refine ⟨fun vs H Q E ⟨d, e, _⟩ => by rw [e]; exact hps.symm, fun A outer s H args us vs Q E hr e0 hb hv ⟨d, ev, hd, q⟩ => ?_⟩
  obtain ⟨⟨ds, its, n, hl, rv, hob⟩, _, _⟩ := e0.hok d _ hd
  have hsl := sizeLine_eq
  have new : ∀ H', ObjOk P w H' s.heap d (.lst (ds.map V.int)) := fun H' => ⟨by rw [List.length_map, hsl]; omega, its, n, rv, hob⟩
  have hok1 := swap_ok e0.hok hd (fun _ z => nomatch z) (fun _ z => nomatch z) new
  have nn : ∀ {b : Addr}, upd H d (.lst (ds.map V.int)) b = none ↔ H b = none := fun {b} => swap_none hd
  have e1 : Env0 P w K mg base A outer s (upd H d (.lst (ds.map V.int))) := ⟨e0.frames, e0.mod, fun b o e => ⟨(e0.bs b o e).1, nn.mpr (e0.bs b o e).2⟩, e0.bsz, e0.funs, fun b hb => nn.mpr (e0.frf b hb), hok1, e0.bare⟩
  have run := F.run A outer s (upd H d (.lst (ds.map V.int))) args us vs (fun v H' => ∃ (i : Int) (ds' : List Int), v = .int i ∧ ds'.length ≤ ds.length ∧ H' = upd H d (.lst (ds'.map V.int))) E hr e1 hb hv
    ⟨d, ds, ev, upd_same, fun i ds' hl' => ⟨i, ds', rfl, hl', by rw [upd_upd]⟩⟩
  refine codeAny_mono run fun r s' hr' => ?_
  cases r with
  | error e => exact hr'
  | ok fl =>
    cases fl with
    | ret u =>
      obtain ⟨v, H', o1, o2, o3, o4, o5, i, ds', rfl, hl', rfl⟩ := hr'
      have hd' : upd H d (.lst (ds'.map V.int)) d = some (.lst (ds'.map V.int)) := upd_same
      obtain ⟨hz', its', n', rv', hob'⟩ := o4 d _ hd'
      have hok2 := swap_ok o4 hd' (fun _ z => nomatch z) (fun _ z => nomatch z) fun H' => draws_ok (P := P) (w := w) (H := H') (Nat.le_trans hl' hl) rv' hob'
      have eH : upd (upd H d (.lst (ds'.map V.int))) d (drawsO d) = H := by
        rw [upd_upd]
        funext b
        by_cases hb : b = d
        · subst hb
          rw [upd_same, hd]
        · rw [upd_ne hb]
      rw [eH] at hok2
      refine ⟨.int i, H, o1, o2, ?_, hok2, o5, q i⟩
      exact ⟨fun b o e n hb hx => o3.keep b o e (nn.mpr n) hb hx, fun b o e n hb hx => o3.slot b o e (nn.mpr n) hb hx, fun b o e n hx => n, o3.there, fun b xs e => e, fun b o u e => e, fun b ps e => ⟨#[], by rw [e]; simp⟩⟩
    | _ => exact hr'
end Ys
/-! The text by its places; how a def's promise is kept and called. -/
namespace Ys
open PySem PySem.Spec PyProof.Rows L2

def top (i : Nat) : Stmt := PySem.Challenge.pw_yardsort_k26_whole_closed_lists_are_righ.main.body.getD i (.Pass ⟨0, 0, 0, 0⟩)

/-- a def of the top as it stands -/
def DefAt (K : PySem.W.Frag) (mg : Str → Option Value) (x : Str) (st : Stmt) : Prop :=
  ∃ f fd, FunD K x x (defArgs st) (defBody st) (defScope st) [] [] f fd ∧ mg x = some (.ref f)
/-- a method -/
def MethAt (K : PySem.W.Frag) (C : Addr) (m q : Str) (st : Stmt) : Prop :=
  ∃ f fd, FunD K m q (defArgs st) (defBody st) (defScope st) [] [] f fd ∧ Meth K C m f
/-- an __init__ -/
def InitAt (K : PySem.W.Frag) (C : Addr) (q : Str) (st : Stmt) : Prop :=
  ∃ f fd, FunD K "__init__" q (defArgs st) (defBody st) (defScope st) [] [] f fd ∧ Mk K C f

section
variable (P : Program) (w : World) (K : PySem.W.Frag) (mg : Str → Option Value) (base : Heap)
/-- the def x keeps its promise -/
def Kp (x : Str) (k : Nat) (ps : List Str) (sp : Sp) : Prop := ∃ f fd, FnOk P w K mg base CX0 k f fd ps sp ∧ mg x = some (.ref f) ∧ PySem.W.keepIn K (.ref f) = true ∧ Binds K fd ps []
def KpM (C : Addr) (m : Str) (k : Nat) (ps : List Str) (sp : Sp) : Prop := ∃ f fd, FnOk P w K mg base CX0 k f fd ps sp ∧ Meth K C m f ∧ Binds K fd ps []
def KpI (C : Addr) (k : Nat) (ps : List Str) (sp : Sp) : Prop := ∃ f fd, FnOk P w K mg base CX0 k f fd ps sp ∧ Mk K C f ∧ Binds K fd ps []
end
/-- how the parameters are bound, read off the text -/
def BindsAs (x q : Str) (st : Stmt) (ps : List Str) : Prop := ∀ (kV doc pm : Value) (an : Option Addr) (cdv ct : Value) (us : List Value), us.length = ps.length → bindArgs (PySem.W.fnOf x q (defArgs st) (defBody st) (defScope st) .none kV doc pm an cdv ct) ⟨us, []⟩ = pure (ps.zip us)
section
variable {P : Program} {w : World} {K : PySem.W.Frag} {mg : Str → Option Value} {base : Heap}
/-- the body of a def keeps the promise, wherever the def stands -/
def BodyOk (P : Program) (w : World) (K : PySem.W.Frag) (mg : Str → Option Value) (base : Heap) (q : Str) (st : Stmt) (N : List Str) (k : Nat) (sp : Sp) : Prop :=
  ∀ (f : Addr) (cdv : Value) (A : Around) (outer : List Env) (s : Shared) (H : Hp) (vs : List V) (Q : VK) (E : XK), Room k (A.deeper (envOfC q (defScope st) s.heap.objs.size f cdv)) → sp vs H Q E →
    ∃ t, PSs (cxOf CX0 P w K mg base N q (defScope st) f cdv A outer s H E).nox (defBody st) t ∧ t { nx := fun _ H' => Q .non H', rt := Q } (start N vs) H
theorem fn_ok {x q : Str} {st : Stmt} {N ps : List Str} {k : Nat} {sp : Sp} {f : Addr} {fd : FuncData} (F : FunD K x q (defArgs st) (defBody st) (defScope st) [] [] f fd) (S : FnScope N ps (defScope st)) (len : ∀ vs H Q E, sp vs H Q E → vs.length = ps.length)
    (b : BodyOk P w K mg base q st N k sp) : FnOk P w K mg base CX0 (k + 1) f fd ps sp :=
  F.ok S len fun cdv A outer s H vs Q E hr h => let ⟨t, h1, h2⟩ := b f cdv A outer s H vs Q E hr h; ⟨t, h1.nox, h2⟩
theorem kp_of {x : Str} {st : Stmt} {N ps : List Str} {k : Nat} {sp : Sp} (D : DefAt K mg x st) (S : FnScope N ps (defScope st)) (bd : BindsAs x x st ps) (len : ∀ vs H Q E, sp vs H Q E → vs.length = ps.length)
    (b : BodyOk P w K mg base x st N k sp) : Kp P w K mg base x (k + 1) ps sp := by
  obtain ⟨f, fd, F, m⟩ := D
  exact ⟨f, fd, fn_ok F S len b, m, F.kp, F.bindsN bd⟩
theorem kpm_of {C : Addr} {m q : Str} {st : Stmt} {N ps : List Str} {k : Nat} {sp : Sp} (D : MethAt K C m q st) (S : FnScope N ps (defScope st)) (bd : BindsAs m q st ps) (len : ∀ vs H Q E, sp vs H Q E → vs.length = ps.length)
    (b : BodyOk P w K mg base q st N k sp) : KpM P w K mg base C m (k + 1) ps sp := by
  obtain ⟨f, fd, F, M⟩ := D
  exact ⟨f, fd, fn_ok F S len b, M, F.bindsN bd⟩
theorem kpi_of {C : Addr} {q : Str} {st : Stmt} {N ps : List Str} {k : Nat} {sp : Sp} (D : InitAt K C q st) (S : FnScope N ps (defScope st)) (bd : BindsAs "__init__" q st ps) (len : ∀ vs H Q E, sp vs H Q E → vs.length = ps.length)
    (b : BodyOk P w K mg base q st N k sp) : KpI P w K mg base C (k + 1) ps sp := by
  obtain ⟨f, fd, F, M⟩ := D
  exact ⟨f, fd, fn_ok F S len b, M, F.bindsN bd⟩
theorem Kp.imp {x : Str} {k : Nat} {ps : List Str} {sp sp' : Sp} (h : Kp P w K mg base x k ps sp) (i : ∀ vs H Q E, sp' vs H Q E → sp vs H Q E) : Kp P w K mg base x k ps sp' := by
  obtain ⟨f, fd, F, a, b, c⟩ := h
  exact ⟨f, fd, F.imp i, a, b, c⟩
theorem Kp.mono {x : Str} {j k : Nat} {ps : List Str} {sp : Sp} (h : Kp P w K mg base x j ps sp) (i : j ≤ k) : Kp P w K mg base x k ps sp := by
  obtain ⟨f, fd, F, a, b, c⟩ := h
  exact ⟨f, fd, F.mono i, a, b, c⟩
end
/-! ### calls -/
section
variable {X : Cx} {x : Str} {k : Nat} {ps : List Str} {sp : Sp} {e : Expr} {es : List Expr} {p pos : Pos} {t : TA}
theorem pe_kp (h : Kp X.prog X.w X.K X.mg X.base x k ps sp) (hr : Room k X.A) (hg : Gl X x) (ha : PA X (e :: es) t) (hdb : (x == ("__debug__" : Str)) = false := by decide)
    (he : starEach (e :: es) X.env = (false, eval e X.env) :: starEach es X.env := by rfl) (hpl : (backTo pos (starEach es X.env)).any (·.1) = false := by rfl) (hpa : Passes CX0 X E0 := by exact pass0) : PE X (.Call (.Name x p) (e :: es) [] pos) (tCall sp [] E0 t) := by
  obtain ⟨f, fd, F, a, b, c⟩ := h
  exact pe_call F hr hg a b c .nil hpa ha hdb he hpl
end

/-! ### what the walk asks of the module's names -/
structure Glo (mg : Str → Option Value) : Prop where
  len : mg "len" = none
  sorted : mg "sorted" = none
  list : mg "list" = none
  range : mg "range" = none
  int : mg "int" = none
  tuple : mg "tuple" = none
  enumerate : mg "enumerate" = none
  isinstance : mg "isinstance" = none
  str : mg "str" = none
  min : mg "min" = none
  bool : mg "bool" = none
  left : ∃ t, mg "LEFT" = some (.int 0 t)
  outside : ∃ t, mg "OUTSIDE" = some (.int (-1) t)
  mostRows : ∃ t, mg "MOST_rows" = some (.int 60 t)
  mostYards : ∃ t, mg "MOST_yards" = some (.int 8 t)
  mostSits : ∃ t, mg "MOST_SITUATIONS" = some (.int 4000 t)
  kinds : ∃ t, mg "KINDS" = some (.str "sqdio" t)
  bounds : ∃ t, mg "BOUNDS" = some (.str "123456" t)

/-! ### small words -/
theorem Same.new {H : Hp} {p : Addr} {o : HO} (h : H p = none) : Same H (upd H p o) := fun b u e => by
  rw [upd_ne (ne_of_none e h)]
  exact e
/-- an object that H does not know may change -/
theorem Same.mut {H H' : Hp} {p : Addr} {o : HO} (s : Same H H') (h : H p = none) : Same H (upd H' p o) := fun b u e => by
  rw [upd_ne (ne_of_none e h)]
  exact s b u e
theorem small {n : Nat} (h : n ≤ 16777215) : n < sizeLine := by
  rw [sizeLine_eq]
  omega
theorem small' {n : Nat} (h : n ≤ 16777216) : n ≤ sizeLine := by
  rw [sizeLine_eq]
  omega
theorem map_get {α : Type} {f : α → V} {l : List α} {i : Nat} {v : V} (h : (l.map f)[i]? = some v) : ∃ x, l[i]? = some x ∧ v = f x := by
  rw [List.getElem?_map] at h
  cases e : l[i]? with
  | none =>
    rw [e] at h
    cases h
  | some x =>
    rw [e] at h
    exact ⟨x, rfl, (Option.some.inj h).symm⟩
end Ys
/-! The draws: _law_number, _law_draws, _law_next. -/
namespace Ys
open PySem PySem.Spec PyProof.Rows L2
section
variable {P : Program} {w : World} {K : PySem.W.Frag} {mg : Str → Option Value} {base : Heap}

abbrev s_law_number : Stmt := top 46
theorem sc_law_number : FnScope ["_law_cell"] ["_law_cell"] (defScope s_law_number) := ⟨rfl, rfl, rfl, by decide +kernel, rfl, by decide +kernel, by decide +kernel⟩
theorem bd_law_number : BindsAs "_law_number" "_law_number" s_law_number ["_law_cell"] := fun _ _ _ _ _ _ us hl => match us, hl with | [_], _ => rfl
def spNumber : Sp := fun vs H Q _ => ∃ n : Int, vs = [.int n] ∧ ∀ m : Int, 0 ≤ m → Q (.int m) H
theorem ok_number (D : DefAt K mg "_law_number" s_law_number) : Kp P w K mg base "_law_number" 1 ["_law_cell"] spNumber := by
  refine kp_of D sc_law_number bd_law_number (fun vs H Q E ⟨n, h, _⟩ => by rw [h]; rfl) fun f cdv A outer s H vs Q E hr h => ?_
  obtain ⟨n, rfl, k⟩ := h
  refine ⟨_, (pss_cons (ps_if (pt_cmpR op_lt (pv 0) pe_int (nomark _))
      (pss_one (ps_ret (pe_op op_sub pe_int (pv 0))))
      pss_nil)
    (pss_one (ps_ret (pv 0)))), ?_⟩
  refine ⟨_, rfl, _, _, rfl, rfl, _, rfl, ?_⟩
  refine ite2 (fun c => ?_) (fun c => ?_)
  · have c' := of_decide_eq_true c
    exact ⟨_, rfl, _, _, rfl, rfl, k _ (by omega)⟩
  · have c' : ¬ n < 0 := fun z => c (decide_eq_true z)
    exact ⟨_, rfl, k _ (by omega)⟩

abbrev s_law_next : Stmt := top 48
theorem sc_law_next : FnScope ["_law_draws_here"] ["_law_draws_here"] (defScope s_law_next) := ⟨rfl, rfl, rfl, by decide +kernel, rfl, by decide +kernel, by decide +kernel⟩
theorem bd_law_next : BindsAs "_law_next" "_law_next" s_law_next ["_law_draws_here"] := fun _ _ _ _ _ _ us hl => match us, hl with | [_], _ => rfl
theorem ok_next0 (D : DefAt K mg "_law_next" s_law_next) : Kp P w K mg base "_law_next" 1 ["_law_draws_here"] spNext0 := by
  refine kp_of D sc_law_next bd_law_next (fun vs H Q E ⟨d, ds, h, _⟩ => by rw [h]; rfl) fun f cdv A outer s H vs Q E hr h => ?_
  obtain ⟨d, ds, rfl, hd, k⟩ := h
  refine ⟨_, (pss_cons (ps_if (pt_truth (pv 0) (by intro _; rfl))
      (pss_one (ps_ret (pe_bm0 PySem.F.plainAttrs_list PySem.F.slot_list_pop PySem.F.type_list_pop mt_pop (pv 0))))
      pss_nil)
    (pss_one (ps_ret pe_int))), ?_⟩
  refine ⟨_, rfl, _, .inl ⟨_, SqL.of hd, rfl⟩, ?_⟩
  cases ds with
  | nil =>
    refine iteF ?_
    have e := k 0 [] (Nat.le_refl _)
    have eH : upd H d (.lst (([] : List Int).map V.int)) = H := by
      funext b
      by_cases hb : b = d
      · subst hb
        rw [upd_same, hd]
      · rw [upd_ne hb]
    rw [eH] at e
    exact e
  | cons x t =>
    refine iteT ?_
    have hne : (x :: t) ≠ [] := by simp
    have hl : ((x :: t).map V.int)[((x :: t).map V.int).length - 1]? = some (V.int ((x :: t).getLast hne)) := by
      rw [List.length_map, List.getElem?_map, ← List.getLast?_eq_getElem?, List.getLast?_eq_some_getLast hne]
      rfl
    refine ⟨_, rfl, .inl ⟨rfl, _, SqL.of hd⟩, d, _, _, rfl, rfl, hd, hl, ?_⟩
    have e := k ((x :: t).getLast hne) (x :: t).dropLast (by simp)
    rw [List.map_dropLast] at e
    exact e
theorem ok_next (D : DefAt K mg "_law_next" s_law_next) : Kp P w K mg base "_law_next" 1 ["_law_draws_here"] spNext := by
  obtain ⟨f, fd, F, a, b, c⟩ := ok_next0 (P := P) (w := w) (base := base) D
  exact ⟨f, fd, next_hidden F rfl, a, b, c⟩

abbrev s_law_draws : Stmt := top 47
theorem sc_law_draws : FnScope ["_law_script", "_law_draws_here", "_law_cell", "_law_rest", "_law_k", "_law_once", "_law_twice"] ["_law_script"] (defScope s_law_draws) := ⟨rfl, rfl, rfl, by decide +kernel, rfl, by decide +kernel, by decide +kernel⟩
theorem bd_law_draws : BindsAs "_law_draws" "_law_draws" s_law_draws ["_law_script"] := fun _ _ _ _ _ _ us hl => match us, hl with | [_], _ => rfl
def spDraws (K : PySem.W.Frag) : Sp := fun vs H Q _ => ∃ (a : Addr) (ns : List Int), vs = [.ref a] ∧ SqL K H a (ns.map V.int) ∧ ns.length ≤ 63 ∧ ∀ (p : Addr) (ds : List Int) (H' : Hp), Same H H' → H p = none → H' p = some (.lst (ds.map V.int)) → ds.length ≤ 3780 → Q (.ref p) H'
theorem mul_small {m : Int} (h0 : 0 ≤ m) (h : m < 1000000000000000000) : CMul m j := .inl ⟨by omega, by omega⟩
theorem ok_draws (G : Glo mg) (D : DefAt K mg "_law_draws" s_law_draws) (k_law_number : Kp P w K mg base "_law_number" 1 ["_law_cell"] spNumber) : Kp P w K mg base "_law_draws" 2 ["_law_script"] (spDraws K) := by
  refine kp_of D sc_law_draws bd_law_draws (fun vs H Q E ⟨a, ns, h, _⟩ => by rw [h]; rfl) fun f cdv A outer s H vs Q E hr_law_number h => ?_
  obtain ⟨a, ns, rfl, hS, hlen, k⟩ := h
  refine ⟨_, (pss_cons (ps_set (i := 1) sc_law_draws.nd rfl (Or.inl rfl) (pe_lst pa_nil))
    (pss_cons (ps_for PassesOwn.never rfl (pi_list (pv 0)) (pg_name (i := 2) sc_law_draws.nd rfl (Or.inl rfl))
      (pss_cons (ps_set (i := 3) sc_law_draws.nd rfl (Or.inl rfl) (pe_kp k_law_number hr_law_number (by rfl) (pa_cons (pv 2) pa_nil)))
      (pss_one (ps_if (pt_cmpR op_ge (pv 3) pe_int (nomark _))
        (pss_one (ps_for PassesOwn.never rfl (pi_range1 (by rfl) G.range (pa_cons pe_int pa_nil)) (pg_name (i := 4) sc_law_draws.nd rfl (Or.inl rfl))
          (pss_cons (ps_if (pt_cmpR op_eq (pv 3) pe_int (nomark _))
            (pss_one ps_break)
            pss_nil)
          (pss_cons (ps_expr (pe_bm PySem.F.plainAttrs_list PySem.F.slot_list_append PySem.F.type_list_append mt_append (pv 1) (pa_cons (pe_op op_mod (pe_callTy call_int1 (by rfl) G.int (by decide +kernel) (pa_cons (pv 3) pa_nil)) pe_int) pa_nil)))
          (pss_one (ps_set (i := 3) sc_law_draws.nd rfl (Or.inl rfl) (pe_op op_fdiv (pv 3) pe_int)))))))
        (pss_cons (ps_set (i := 5) sc_law_draws.nd rfl (Or.inl rfl) (pe_op op_mod (pe_callTy call_int1 (by rfl) G.int (by decide +kernel) (pa_cons (pe_op op_add (pe_op op_mul (pv 3) pe_int) pe_int) pa_nil)) pe_int))
        (pss_cons (ps_set (i := 6) sc_law_draws.nd rfl (Or.inl rfl) (pe_op op_mod (pe_callTy call_int1 (by rfl) G.int (by decide +kernel) (pa_cons (pe_op op_add (pe_op op_mul (pv 5) pe_int) (pv 3)) pa_nil)) pe_int))
        (pss_one (ps_expr (pe_bm PySem.F.plainAttrs_list PySem.F.slot_list_extend PySem.F.type_list_extend mt_extend (pv 1) (pa_cons (pe_lst (pa_cons (pe_op op_mod (pe_callTy call_int1 (by rfl) G.int (by decide +kernel) (pa_cons (pv 3) pa_nil)) pe_int) (pa_cons (pe_op op_mod (pe_callTy call_int1 (by rfl) G.int (by decide +kernel) (pa_cons (pv 5) pa_nil)) pe_int) (pa_cons (pe_op op_mod (pe_callTy call_int1 (by rfl) G.int (by decide +kernel) (pa_cons (pv 6) pa_nil)) pe_int) pa_nil)))) pa_nil))))))))))
    (pss_one (ps_ret (pv 1))))), ?_⟩
  refine ⟨Nat.zero_le _, fun l hl => ?_⟩
  refine ⟨_, rfl, a, rfl, ⟨_, (Same.new hl).seq hS⟩, for_list (K := K) (a := a) (xs := ns.map V.int) (fun i σ H' => ∃ (ds : List Int) (v2 v3 v4 v5 v6 : Option V), σ = [some (.ref a), some (.ref l), v2, v3, v4, v5, v6] ∧ Same H H' ∧ H' l = some (.lst (ds.map V.int)) ∧ ds.length ≤ 60 * i)
    ⟨[], _, _, _, _, _, rfl, Same.new hl, upd_same, Nat.zero_le _⟩ (fun i σ H' _ ⟨_, _, _, _, _, _, _, s1, _⟩ => s1.seq hS) ?_ ?_⟩
  · rintro i y σ H' hi ⟨ds, v2, v3, v4, v5, v6, rfl, s1, h1, hd⟩
    have hi63 : i < 63 := by
      have q := (List.getElem?_eq_some_iff.mp hi).1
      rw [List.length_map] at q
      omega
    obtain ⟨u, _, rfl⟩ := map_get hi
    refine ⟨_, rfl, u, rfl, fun m hm => ?_⟩
    refine ⟨_, rfl, _, _, rfl, rfl, _, rfl, ?_⟩
    refine ite2 (fun c => ?_) (fun c => ?_)
    · refine ⟨60, rfl, by decide, by decide, for_range (n := 60) (fun j σ H' => ∃ (ds : List Int) (r : Int) (v2 v4 v5 v6 : Option V), σ = [some (.ref a), some (.ref l), v2, some (.int r), v4, v5, v6] ∧ Same H H' ∧ H' l = some (.lst (ds.map V.int)) ∧ ds.length ≤ 60 * i + j)
        ⟨ds, m, _, _, _, _, rfl, s1, h1, by omega⟩ ?_ ?_⟩
      · rintro j σ H2 hj ⟨ds, r, v2, v4, v5, v6, rfl, s1, h1, hd⟩
        refine ⟨_, rfl, rfl, _, rfl, ?_⟩
        refine ite2 (fun c => ?_) (fun c => ?_)
        · exact ⟨ds, _, _, _, _, _, rfl, s1, h1, by omega⟩
        · refine ⟨_, rfl, .inl ⟨rfl, _, SqL.of h1⟩, _, rfl, .inl ⟨_, rfl, _, _, rfl, rfl, (by show (0 : Int) < 1000; decide), l, _, _, rfl, rfl, h1, small (by rw [List.length_map]; omega), ?_⟩⟩
          refine ⟨_, rfl, _, _, rfl, rfl, ⟨by decide, by decide⟩, ?_⟩
          refine ⟨ds ++ [r % 1000], _, _, _, _, _, rfl, Same.mut s1 hl, by rw [upd_same, List.map_append]; rfl, by rw [List.length_append, List.length_singleton]; omega⟩
      · rintro σ H2 ⟨ds, r, v2, v4, v5, v6, rfl, s1, h1, hd⟩
        exact ⟨ds, _, _, _, _, _, rfl, s1, h1, by omega⟩
    · have c' : ¬ (1000000000000000000 : Int) ≤ m := fun z => c (decide_eq_true z)
      have hm2 : CMul m 48271 := .inl ⟨by omega, by omega⟩
      refine ⟨_, rfl, _, _, rfl, rfl, hm2, _, _, rfl, rfl, .inl ⟨_, rfl, _, _, rfl, rfl, (by show (0 : Int) < 2147483647; decide), ?_⟩⟩
      have hb : 0 ≤ (m * 48271 + 11) % 2147483647 ∧ (m * 48271 + 11) % 2147483647 < 2147483647 := ⟨Int.emod_nonneg _ (by decide), Int.emod_lt_of_pos _ (by decide)⟩
      have hm3 : CMul ((m * 48271 + 11) % 2147483647) 69621 := .inl ⟨by omega, by omega⟩
      refine ⟨_, rfl, _, _, rfl, rfl, hm3, _, rfl, _, _, rfl, rfl, .inl ⟨_, rfl, _, _, rfl, rfl, (by show (0 : Int) < 2147483629; decide), ?_⟩⟩
      refine ⟨_, rfl, .inl ⟨rfl, _, SqL.of h1⟩, _, rfl, .inl ⟨_, rfl, _, _, rfl, rfl, (by show (0 : Int) < 1000; decide), _, rfl, .inl ⟨_, rfl, _, _, rfl, rfl, (by show (0 : Int) < 1000; decide), _, rfl, .inl ⟨_, rfl, _, _, rfl, rfl, (by show (0 : Int) < 1000; decide), (by show 3 ≤ sizeLine; decide), fun l2 hl2 => ?_⟩⟩⟩⟩
      have nl : l ≠ l2 := ne_of_none h1 hl2
      refine ⟨l, l2, _, _, rfl, rfl, (upd_ne nl).trans h1, upd_same, small' (by rw [List.length_map]; show ds.length + 3 ≤ _; omega), ?_⟩
      refine ⟨ds ++ [m % 1000, ((m * 48271 + 11) % 2147483647) % 1000, ((((m * 48271 + 11) % 2147483647) * 69621 + m) % 2147483629) % 1000], _, _, _, _, _, rfl, Same.mut (Same.trans s1 (Same.new hl2)) hl, by rw [upd_same, List.map_append]; rfl, by rw [List.length_append]; show ds.length + 3 ≤ _; omega⟩
  · rintro σ H' ⟨ds, v2, v3, v4, v5, v6, rfl, s1, h1, hd⟩
    refine ⟨_, rfl, k l ds H' s1 hl h1 ?_⟩
    rw [List.length_map] at hd
    omega
end
end Ys
/-! Trees and nets: _law_net, _law_tree, _law_told, _law_plan. -/
namespace Ys
open PySem PySem.Spec PyProof.Rows L2

theorem szl {n : Nat} (h : Nat.ble n 64 = true) : n ≤ sizeLine := Nat.le_trans (Nat.le_of_ble_eq_true h) (by decide)
mutual
/-- no list in it -/
def noList : PyData → Bool
  | .list _ => false
  | .tuple ds => noLists ds
  | .dict _ => false
  | .none => true
  | .bool _ => true
  | .int _ => true
  | .str _ => true
def noLists : List PyData → Bool
  | [] => true
  | d :: ds => noList d && noLists ds
end
def Tups (H H' : Hp) : Prop := ∀ a xs, H a = some (.tup xs) → H' a = some (.tup xs)
mutual
theorem Dt.tups {H H' : Hp} (s : Tups H H') : ∀ (d : PyData) (v : V), noList d = true → Dt H v d → Dt H' v d
  | .none, _, _, h => by cases h; exact .non
  | .bool b, _, _, h => by cases h; exact .bl b
  | .int i, _, _, h => by cases h; exact .int i
  | .str x, _, _, h => by cases h; exact .str x
  | .list ds, _, n, h => by rw [noList] at n; cases n
  | .tuple ds, _, n, h => by
    rw [noList] at n
    cases h with
    | tup ha hs => exact .tup (s _ _ ha) (DtAll.tups s ds _ n hs)
  | .dict _, _, _, h => by cases h
theorem DtAll.tups {H H' : Hp} (s : Tups H H') : ∀ (ds : List PyData) (vs : List V), noLists ds = true → DtAll H vs ds → DtAll H' vs ds
  | [], _, _, h => by cases h; exact .nil
  | d :: ds, _, n, h => by
    rw [noLists, Bool.and_eq_true] at n
    cases h with
    | cons h1 h2 => exact .cons (Dt.tups s d _ n.1 h1) (DtAll.tups s ds _ n.2 h2)
end
theorem noLists_map {α : Type} {f : α → PyData} (h : ∀ x, noList (f x) = true) : ∀ l : List α, noLists (l.map f) = true
  | [] => by simp [noLists]
  | x :: l => by simp [noLists, h, noLists_map h l]
theorem noList_link (l : Int × Int) : noList (dLink l) = true := by simp [dLink, noList, noLists]
theorem noList_mv (m : Mv) : noList (dMv m) = true := by simp [dMv, noList, noLists]
theorem noList_ints (l : List Int) : noList (dInts l) = true := by
  unfold dInts
  rw [noList]
  exact noLists_map (fun x => by simp [noList]) l
theorem noList_sit (S : Sit) : noList (dSit S) = true := by
  unfold dSit
  simp only [noList, noLists, noLists_map noList_ints, noList_ints, Bool.and_true]
theorem Tups.of_same {H H' : Hp} (s : Same H H') : Tups H H' := fun a xs h => s a _ h
theorem Tups.refl (H : Hp) : Tups H H := fun _ _ h => h
theorem Tups.trans {H H1 H2 : Hp} (a : Tups H H1) (b : Tups H1 H2) : Tups H H2 := fun c xs h => b c xs (a c xs h)
/-- an object that is no tuple may change -/
theorem Tups.put {H : Hp} {l : Addr} {o o' : HO} (h : H l = some o) (n : ∀ xs, o ≠ .tup xs) : Tups H (upd H l o') := fun a xs e => by
  rw [upd_ne (ne_of e h fun z => n _ z.symm)]
  exact e
theorem Tups.new {H : Hp} {l : Addr} {o' : HO} (h : H l = none) : Tups H (upd H l o') := fun a xs e => by
  rw [upd_ne (ne_of_none e h)]
  exact e
theorem iteDT {c A B : Prop} [Decidable c] (hc : c) (h : A) : if decide c = true then A else B := by
  rw [if_pos (decide_eq_true hc)]
  exact h
theorem iteDF {c A B : Prop} [Decidable c] (hc : ¬ c) (h : B) : if decide c = true then A else B := by
  rw [if_neg (by rw [decide_eq_false hc]; exact Bool.false_ne_true)]
  exact h
theorem iteD2 {c A B : Prop} [Decidable c] (h1 : c → A) (h2 : ¬ c → B) : if decide c = true then A else B := by
  by_cases h : c
  · exact iteDT h (h1 h)
  · exact iteDF h (h2 h)

def Ltr.txt : Ltr → Str
  | .s => "s"
  | .q => "q"
  | .d => "d"
  | .i => "i"
  | .o => "o"
def sgn (par : Bool) : Str := if par = true then "[" else "("
def clo (par : Bool) : Str := if par = true then "]" else ")"
/-- how a tree of the law's stands in the heap -/
def TreeAt (H : Hp) : V → Tr → Prop
  | v, .dev d => ∃ a, v = .ref a ∧ H a = some (.lst [.str "device", .str d.ltr.txt, .int (d.bound : Int)])
  | v, .node par a b => ∃ p va vb, v = .ref p ∧ H p = some (.lst [.str (sgn par), va, vb]) ∧ TreeAt H va a ∧ TreeAt H vb b
theorem TreeAt.same {H H' : Hp} (s : Same H H') : ∀ {t : Tr} {v : V}, TreeAt H v t → TreeAt H' v t
  | .dev d, v, h => let ⟨a, e, h⟩ := h; ⟨a, e, s _ _ h⟩
  | .node par a b, v, h => let ⟨p, va, vb, e, h, ha, hb⟩ := h; ⟨p, va, vb, e, s _ _ h, TreeAt.same s ha, TreeAt.same s hb⟩
/-- the bounds are 0 (none) to 4 -/
def Tr.ok : Tr → Prop
  | .dev d => d.bound ≤ 4
  | .node _ a b => a.ok ∧ b.ok
def dDev (d : Dev) : PyData := .list [.str d.ltr.txt, .int (d.bound : Int)]
/-- how a net stands -/
def NetAt (H : Hp) (v : V) (N : Net) : Prop := ∃ (p e o l d : Addr) (xs ys : List V), v = .ref p ∧ H p = some (.lst [.ref e, .ref o, .ref l, .ref d]) ∧ H e = some (.lst (N.ents.map V.int)) ∧ H o = some (.lst (N.outs.map V.int)) ∧
  H l = some (.lst xs) ∧ DtAll H xs (N.links.map dLink) ∧ H d = some (.lst ys) ∧ DtAll H ys (N.devs.map dDev)
theorem NetAt.same {H H' : Hp} (s : Same H H') {v : V} {N : Net} (h : NetAt H v N) : NetAt H' v N := by
  obtain ⟨p, e, o, l, d, xs, ys, h0, h1, h2, h3, h4, h5, h6, h7⟩ := h
  exact ⟨p, e, o, l, d, xs, ys, h0, s _ _ h1, s _ _ h2, s _ _ h3, s _ _ h4, h5.same s, s _ _ h6, h7.same s⟩
theorem sgn_ne (par : Bool) : ¬ V.str (sgn par) = V.str "device" := by cases par <;> decide +kernel

section
variable {P : Program} {w : World} {K : PySem.W.Frag} {mg : Str → Option Value} {base : Heap}

/-! ### _law_net -/
abbrev s_law_net : Stmt := top 51
theorem sc_law_net : FnScope ["_law_tree_here", "_law_first", "_law_one", "_law_two", "_law_links", "_law_out", "_law_entry"] ["_law_tree_here", "_law_first"] (defScope s_law_net) := ⟨rfl, rfl, rfl, by decide +kernel, rfl, by decide +kernel, by decide +kernel⟩
theorem bd_law_net : BindsAs "_law_net" "_law_net" s_law_net ["_law_tree_here", "_law_first"] := fun _ _ _ _ _ _ us hl => match us, hl with | [_, _], _ => rfl
def spNet (n : Nat) : Sp := fun vs H Q _ => ∃ (v : V) (f : Int) (t : Tr), vs = [v, .int f] ∧ TreeAt H v t ∧ t.size ≤ n ∧ n ≤ 3 ∧ ∀ (v' : V) (H' : Hp), Same H H' → NetAt H' v' (net t f) → Q v' H'
theorem net_small {t : Tr} {n : Nat} (h : t.size ≤ n) (hn : n ≤ 3) (f : Int) : (net t f).ents.length ≤ 3 ∧ (net t f).outs.length ≤ 3 ∧ (net t f).links.length ≤ 9 ∧ (net t f).devs.length ≤ 3 := by
  obtain ⟨a1, a2, a3⟩ := net_len t f
  have h1 : t.size ≤ 3 := by omega
  have h2 : t.size * t.size ≤ 3 * 3 := Nat.mul_le_mul h1 h1
  have h3 := net_devs t f
  omega
theorem cross_take {os : List Int} {i : Nat} {o : Int} (h : os[i]? = some o) (es : List Int) : cross (os.take (i + 1)) es = cross (os.take i) es ++ es.map fun e => (o, e) := by
  unfold cross
  rw [List.take_add_one, h]
  simp
theorem net_step {n k : Nat} (G : Glo mg) (D : DefAt K mg "_law_net" s_law_net) (k_law_net : Kp P w K mg base "_law_net" k ["_law_tree_here", "_law_first"] (spNet n)) : Kp P w K mg base "_law_net" (k + 1) ["_law_tree_here", "_law_first"] (spNet (n + 1)) := by
  refine kp_of D sc_law_net bd_law_net (fun vs H Q E ⟨v, f, t, h, _⟩ => by rw [h]; rfl) fun f cdv A outer s H vs Q E hr_law_net h => ?_
  obtain ⟨v, fi, t, rfl, ht, hsz, hn3, k⟩ := h
  refine ⟨_, (pss_cons (ps_if (pt_cmpR op_eq (pe_ix ix_list (pv 0) pe_int (fun _ _ => rfl)) pe_str (nomark _))
      (pss_one (ps_ret (pe_lst (pa_cons (pe_lst (pa_cons (pv 1) pa_nil)) (pa_cons (pe_lst (pa_cons (pv 1) pa_nil)) (pa_cons (pe_lst pa_nil) (pa_cons (pe_lst (pa_cons (pe_lst (pa_cons (pe_ix ix_list (pv 0) pe_int (fun _ _ => rfl)) (pa_cons (pe_ix ix_list (pv 0) pe_int (fun _ _ => rfl)) pa_nil))) pa_nil)) pa_nil)))))))
      pss_nil)
    (pss_cons (ps_set (i := 2) sc_law_net.nd rfl (Or.inl rfl) (pe_kp k_law_net hr_law_net (by rfl) (pa_cons (pe_ix ix_list (pv 0) pe_int (fun _ _ => rfl)) (pa_cons (pv 1) pa_nil))))
    (pss_cons (ps_set (i := 3) sc_law_net.nd rfl (Or.inl rfl) (pe_kp k_law_net hr_law_net (by rfl) (pa_cons (pe_ix ix_list (pv 0) pe_int (fun _ _ => rfl)) (pa_cons (pe_op op_add (pv 1) (pe_callB call_len_seq (by rfl) G.len PySem.boot_len (pa_cons (pe_ix ix_list (pv 2) pe_int (fun _ _ => rfl)) pa_nil))) pa_nil))))
    (pss_cons (ps_set (i := 4) sc_law_net.nd rfl (Or.inl rfl) (pe_op op_cat (pe_ix ix_list (pv 2) pe_int (fun _ _ => rfl)) (pe_ix ix_list (pv 3) pe_int (fun _ _ => rfl))))
    (pss_cons (ps_if (pt_cmpR op_eq (pe_ix ix_list (pv 0) pe_int (fun _ _ => rfl)) pe_str (nomark _))
      (pss_one (ps_ret (pe_lst (pa_cons (pe_op op_cat (pe_ix ix_list (pv 2) pe_int (fun _ _ => rfl)) (pe_ix ix_list (pv 3) pe_int (fun _ _ => rfl))) (pa_cons (pe_op op_cat (pe_ix ix_list (pv 2) pe_int (fun _ _ => rfl)) (pe_ix ix_list (pv 3) pe_int (fun _ _ => rfl))) (pa_cons (pv 4) (pa_cons (pe_op op_cat (pe_ix ix_list (pv 2) pe_int (fun _ _ => rfl)) (pe_ix ix_list (pv 3) pe_int (fun _ _ => rfl))) pa_nil)))))))
      pss_nil)
    (pss_cons (ps_for PassesOwn.never rfl (pi_list (pe_ix ix_list (pv 2) pe_int (fun _ _ => rfl))) (pg_name (i := 5) sc_law_net.nd rfl (Or.inl rfl))
      (pss_one (ps_for PassesOwn.never rfl (pi_list (pe_ix ix_list (pv 3) pe_int (fun _ _ => rfl))) (pg_name (i := 6) sc_law_net.nd rfl (Or.inl rfl))
        (pss_one (ps_expr (pe_bm PySem.F.plainAttrs_list PySem.F.slot_list_append PySem.F.type_list_append mt_append (pv 4) (pa_cons (pe_tup (pa_cons (pv 5) (pa_cons (pv 6) pa_nil))) pa_nil)))))))
    (pss_one (ps_ret (pe_lst (pa_cons (pe_ix ix_list (pv 2) pe_int (fun _ _ => rfl)) (pa_cons (pe_ix ix_list (pv 3) pe_int (fun _ _ => rfl)) (pa_cons (pv 4) (pa_cons (pe_op op_cat (pe_ix ix_list (pv 2) pe_int (fun _ _ => rfl)) (pe_ix ix_list (pv 3) pe_int (fun _ _ => rfl))) pa_nil))))))))))))), ?_⟩
  cases t with
  | dev d =>
    obtain ⟨a, rfl, ha⟩ := ht
    refine ⟨_, rfl, a, _, _, _, rfl, rfl, SqL.of ha, at_of (j := 0) rfl rfl, rfl, _, rfl, iteDT rfl ?_⟩
    refine ⟨_, rfl, (szl rfl), fun e he => ⟨_, rfl, (szl rfl), fun o ho => ⟨(szl rfl), fun l hl => ?_⟩⟩⟩
    have s1 : Same H (upd H e (.lst [.int fi])) := Same.new he
    have s2 : Same (upd H e (.lst [.int fi])) (upd (upd H e (.lst [.int fi])) o (.lst [.int fi])) := Same.new ho
    have s3 := Same.new (o := .lst []) hl
    have s03 := Same.trans s1 (Same.trans s2 s3)
    refine ⟨_, rfl, a, _, _, _, rfl, rfl, SqL.of (s03 _ _ ha), at_of (j := 1) rfl rfl, _, rfl, a, _, _, _, rfl, rfl, SqL.of (s03 _ _ ha), at_of (j := 2) rfl rfl, (szl rfl), fun d1 hd1 => ⟨(szl rfl), fun ds hds => ⟨(szl rfl), fun r hr' => ?_⟩⟩⟩
    have s4 := Same.new (o := .lst [.str d.ltr.txt, .int (d.bound : Int)]) hd1
    have s5 := Same.new (o := .lst [.ref d1]) hds
    have s6 := Same.new (o := .lst [.ref e, .ref o, .ref l, .ref ds]) hr'
    refine k _ _ (Same.trans s03 (Same.trans s4 (Same.trans s5 s6))) ⟨r, e, o, l, ds, [], [.ref d1], rfl, upd_same, ?_, ?_, ?_, .nil, ?_, ?_⟩
    · exact s6 _ _ (s5 _ _ (s4 _ _ (s3 _ _ (s2 _ _ upd_same))))
    · exact s6 _ _ (s5 _ _ (s4 _ _ (s3 _ _ upd_same)))
    · exact s6 _ _ (s5 _ _ (s4 _ _ upd_same))
    · exact s6 _ _ upd_same
    · exact .cons (.lst (s6 _ _ (s5 _ _ upd_same)) (.cons (.str _) (.cons (.int _) .nil))) .nil
  | node par ta tb =>
    obtain ⟨p, va, vb, rfl, hp, hta, htb⟩ := ht
    have hsz' : ta.size + tb.size ≤ n + 1 := hsz
    have pa := ta.size_pos
    have pb := tb.size_pos
    refine ⟨_, rfl, p, _, _, _, rfl, rfl, SqL.of hp, at_of (j := 0) rfl rfl, rfl, _, rfl, iteDF (sgn_ne par) ?_⟩
    -- one
    refine ⟨_, rfl, p, _, _, _, rfl, rfl, SqL.of hp, at_of (j := 1) rfl rfl, _, rfl, va, fi, ta, rfl, hta, by omega, by omega, fun v1 H1 s1 n1 => ?_⟩
    obtain ⟨p1, e1, o1, l1, d1, xs1, ys1, rfl, a1, a2, a3, a4, a5, a6, a7⟩ := n1
    have hp1 := s1 _ _ hp
    -- two
    have hd1 : ys1.length = (net ta fi).devs.length := by
      have := a7.length
      rw [List.length_map] at this
      exact this
    refine ⟨_, rfl, p, _, _, _, rfl, rfl, SqL.of hp1, at_of (j := 2) rfl rfl, _, rfl, _, rfl, p1, _, _, _, rfl, rfl, SqL.of a1, at_of (j := 3) rfl rfl, d1, _, rfl, .inl (SqL.of a6), _, _, rfl, rfl, vb, fi + ((net ta fi).devs.length : Int), tb, (by rw [hd1]; rfl), TreeAt.same s1 htb, by omega, by omega, fun v2 H2 s2 n2 => ?_⟩
    obtain ⟨p2, e2, o2, l2, d2, xs2, ys2, rfl, b1, b2, b3, b4, b5, b6, b7⟩ := n2
    have q1 := s2 _ _ a1
    have q2 := s2 _ _ a2
    have q3 := s2 _ _ a3
    have q4 := s2 _ _ a4
    have q6 := s2 _ _ a6
    have c1 := net_small (t := ta) (n := 3) (by omega) (Nat.le_refl _) fi
    have c2 := net_small (t := tb) (n := 3) (by omega) (Nat.le_refl _) (fi + ((net ta fi).devs.length : Int))
    have x1 : xs1.length = (net ta fi).links.length := by
      have := a5.length
      rw [List.length_map] at this
      exact this
    have x2 : xs2.length = (net tb (fi + ((net ta fi).devs.length : Int))).links.length := by
      have := b5.length
      rw [List.length_map] at this
      exact this
    have y2 : ys2.length = (net tb (fi + ((net ta fi).devs.length : Int))).devs.length := by
      have := b7.length
      rw [List.length_map] at this
      exact this
    -- links
    refine ⟨_, rfl, p1, _, _, _, rfl, rfl, SqL.of q1, at_of (j := 2) rfl rfl, _, rfl, p2, _, _, _, rfl, rfl, SqL.of b1, at_of (j := 2) rfl rfl, l1, l2, _, _, rfl, rfl, q4, b4, small' (by omega), fun l hl => ?_⟩
    have s3 : Same H2 (upd H2 l (.lst (xs1 ++ xs2))) := Same.new hl
    have s02 : Same H H2 := Same.trans s1 s2
    have hlink : DtAll H2 (xs1 ++ xs2) (((net ta fi).links ++ (net tb (fi + ((net ta fi).devs.length : Int))).links).map dLink) := by
      rw [List.map_append]
      exact (a5.same s2).app b5
    have ssq : Seqs H2 (upd H2 l (.lst (xs1 ++ xs2))) := .of_same s3
    refine ⟨_, rfl, p, _, _, _, rfl, rfl, SqL.of (s3 _ _ (s02 _ _ hp)), at_of (j := 0) rfl rfl, rfl, _, rfl, ?_⟩
    cases par with
    | true =>
      refine iteDT rfl ?_
      refine ⟨_, rfl, p1, _, _, _, rfl, rfl, SqL.of (s3 _ _ q1), at_of (j := 0) rfl rfl, _, rfl, p2, _, _, _, rfl, rfl, SqL.of (s3 _ _ b1), at_of (j := 0) rfl rfl, e1, e2, _, _, rfl, rfl, s3 _ _ q2, s3 _ _ b2, small' (by rw [List.length_map, List.length_map]; omega), fun e he => ?_⟩
      have s4 := Same.new (o := .lst (((net ta fi).ents.map V.int) ++ ((net tb (fi + ((net ta fi).devs.length : Int))).ents.map V.int))) he
      refine ⟨_, rfl, p1, _, _, _, rfl, rfl, SqL.of (s4 _ _ (s3 _ _ q1)), at_of (j := 1) rfl rfl, _, rfl, p2, _, _, _, rfl, rfl, SqL.of (s4 _ _ (s3 _ _ b1)), at_of (j := 1) rfl rfl, o1, o2, _, _, rfl, rfl, s4 _ _ (s3 _ _ q3), s4 _ _ (s3 _ _ b3), small' (by rw [List.length_map, List.length_map]; omega), fun o ho => ?_⟩
      have s5 := Same.new (o := .lst (((net ta fi).outs.map V.int) ++ ((net tb (fi + ((net ta fi).devs.length : Int))).outs.map V.int))) ho
      have s35 := Same.trans s3 (Same.trans s4 s5)
      refine ⟨_, rfl, _, rfl, p1, _, _, _, rfl, rfl, SqL.of (s35 _ _ q1), at_of (j := 3) rfl rfl, _, rfl, p2, _, _, _, rfl, rfl, SqL.of (s35 _ _ b1), at_of (j := 3) rfl rfl, d1, d2, _, _, rfl, rfl, s35 _ _ q6, s35 _ _ b6, small' (by omega), fun d hd => ⟨(szl rfl), fun r hr' => ?_⟩⟩
      have s6 := Same.new (o := .lst (ys1 ++ ys2)) hd
      have s7 := Same.new (o := .lst [.ref e, .ref o, .ref l, .ref d]) hr'
      refine k _ _ (Same.trans s02 (Same.trans s35 (Same.trans s6 s7))) ⟨r, e, o, l, d, xs1 ++ xs2, ys1 ++ ys2, rfl, upd_same, ?_, ?_, ?_, ?_, ?_, ?_⟩
      · have z := s7 _ _ (s6 _ _ (s5 _ _ (upd_same (H := upd H2 l (.lst (xs1 ++ xs2))) (a := e) (o := .lst (((net ta fi).ents.map V.int) ++ ((net tb (fi + ((net ta fi).devs.length : Int))).ents.map V.int))))))
        exact z.trans (congrArg (fun q => some (HO.lst q)) List.map_append.symm)
      · have z := s7 _ _ (s6 _ _ (upd_same (H := upd (upd H2 l (.lst (xs1 ++ xs2))) e (.lst (((net ta fi).ents.map V.int) ++ ((net tb (fi + ((net ta fi).devs.length : Int))).ents.map V.int)))) (a := o) (o := .lst (((net ta fi).outs.map V.int) ++ ((net tb (fi + ((net ta fi).devs.length : Int))).outs.map V.int)))))
        exact z.trans (congrArg (fun q => some (HO.lst q)) List.map_append.symm)
      · exact s7 _ _ (s6 _ _ (s5 _ _ (s4 _ _ upd_same)))
      · exact hlink.same (Same.trans s35 (Same.trans s6 s7))
      · exact s7 _ _ upd_same
      · show DtAll _ (ys1 ++ ys2) (List.map dDev (_ ++ _))
        rw [List.map_append]
        exact ((a7.same s2).app b7).same (Same.trans s35 (Same.trans s6 s7))
    | false =>
      refine iteDF (by decide +kernel) ?_
      -- for out in one[1]: for entry in two[0]: links.append((out, entry))
      refine ⟨_, rfl, p1, _, _, _, rfl, rfl, SqL.of (s3 _ _ q1), at_of (j := 1) rfl rfl, o1, rfl, ⟨_, SqL.of (s3 _ _ q3)⟩, for_list (K := K) (a := o1) (xs := (net ta fi).outs.map V.int)
        (fun i σ H' => ∃ (zs : List V) (v5 v6 : Option V), σ = [some (.ref p), some (.int fi), some (.ref p1), some (.ref p2), some (.ref l), v5, v6] ∧ Same H2 H' ∧ H' l = some (.lst zs) ∧
          DtAll H' zs ((((net ta fi).links ++ (net tb (fi + ((net ta fi).devs.length : Int))).links) ++ cross ((net ta fi).outs.take i) (net tb (fi + ((net ta fi).devs.length : Int))).ents).map dLink) ∧ zs.length ≤ 18 + 3 * i)
        ⟨xs1 ++ xs2, _, _, rfl, s3, upd_same, ?_, by rw [List.length_append]; omega⟩ (fun i σ H' _ ⟨_, _, _, _, s, _⟩ => SqL.of (s _ _ q3)) ?_ ?_⟩
      · have ec : cross ((net ta fi).outs.take 0) (net tb (fi + ((net ta fi).devs.length : Int))).ents = [] := by simp [cross]
        rw [ec, List.append_nil]
        exact hlink.same s3
      · rintro i y σ H' hi ⟨zs, v5, v6, rfl, s, hz, hD, hzl⟩
        obtain ⟨u, hu, rfl⟩ := map_get hi
        refine ⟨_, rfl, p2, _, _, _, rfl, rfl, SqL.of (s _ _ b1), at_of (j := 0) rfl rfl, e2, rfl, ⟨_, SqL.of (s _ _ b2)⟩, for_list (K := K) (a := e2) (xs := (net tb (fi + ((net ta fi).devs.length : Int))).ents.map V.int)
          (fun j σ H' => ∃ (zs : List V) (v6 : Option V), σ = [some (.ref p), some (.int fi), some (.ref p1), some (.ref p2), some (.ref l), some (.int u), v6] ∧ Same H2 H' ∧ H' l = some (.lst zs) ∧
            DtAll H' zs (((((net ta fi).links ++ (net tb (fi + ((net ta fi).devs.length : Int))).links) ++ cross ((net ta fi).outs.take i) (net tb (fi + ((net ta fi).devs.length : Int))).ents) ++ ((net tb (fi + ((net ta fi).devs.length : Int))).ents.take j).map fun e => (u, e)).map dLink) ∧ zs.length ≤ 18 + 3 * i + j)
          ⟨zs, _, rfl, s, hz, by rw [List.take_zero, List.map_nil, List.append_nil]; exact hD, hzl⟩ (fun j σ H' _ ⟨_, _, _, s, _⟩ => SqL.of (s _ _ b2)) ?_ ?_⟩
        · rintro j y σ H' hj ⟨zs, v6, rfl, s, hz, hD, hzl⟩
          obtain ⟨x, hx, rfl⟩ := map_get hj
          have hj3 : j < 3 := by
            have := (List.getElem?_eq_some_iff.mp hx).1
            omega
          have hi3 : i < 3 := by
            have := (List.getElem?_eq_some_iff.mp hu).1
            omega
          refine ⟨_, rfl, .inl ⟨rfl, _, SqL.of hz⟩, _, rfl, _, rfl, (szl rfl), fun t ht => ?_⟩
          have nlt : l ≠ t := ne_of_none hz ht
          refine ⟨l, zs, .ref t, rfl, rfl, (upd_ne nlt).trans hz, small (by omega), ?_⟩
          have st : Same H' (upd H' t (.tup [.int u, .int x])) := Same.new ht
          refine ⟨zs ++ [.ref t], _, rfl, Same.mut (Same.trans s st) hl, upd_same, ?_, by rw [List.length_append, List.length_singleton]; omega⟩
          have et : (net tb (fi + ((net ta fi).devs.length : Int))).ents.take (j + 1) = (net tb (fi + ((net ta fi).devs.length : Int))).ents.take j ++ [x] := by rw [List.take_add_one, hx]; rfl
          have em : ∀ B : List (Int × Int), (B ++ ((net tb (fi + ((net ta fi).devs.length : Int))).ents.take (j + 1)).map fun e => (u, e)).map dLink = (B ++ ((net tb (fi + ((net ta fi).devs.length : Int))).ents.take j).map fun e => (u, e)).map dLink ++ [dLink (u, x)] := by
            intro B
            rw [et]
            simp
          rw [em]
          refine DtAll.snoc ?_ (.tup (by rw [upd_ne nlt.symm, upd_same]) (.cons (.int u) (.cons (.int x) .nil)))
          exact hD.tups (Tups.trans (Tups.of_same st) (Tups.put ((upd_ne nlt).trans hz) (fun _ z => nomatch z))) _ _ (noLists_map noList_link _)
        · rintro σ H' ⟨zs, v6, rfl, s, hz, hD, hzl⟩
          have hle : ((net tb (fi + ((net ta fi).devs.length : Int))).ents.map V.int).length ≤ 3 := by rw [List.length_map]; omega
          refine ⟨zs, _, _, rfl, s, hz, ?_, by omega⟩
          rw [List.length_map, List.take_length, List.append_assoc, ← cross_take hu] at hD
          exact hD
      · rintro σ H' ⟨zs, v5, v6, rfl, s, hz, hD, hzl⟩
        rw [List.length_map, List.take_length] at hD
        refine ⟨_, rfl, p1, _, _, _, rfl, rfl, SqL.of (s _ _ q1), at_of (j := 0) rfl rfl, _, rfl, p2, _, _, _, rfl, rfl, SqL.of (s _ _ b1), at_of (j := 1) rfl rfl, _, rfl, _, rfl, p1, _, _, _, rfl, rfl, SqL.of (s _ _ q1), at_of (j := 3) rfl rfl, _, rfl, p2, _, _, _, rfl, rfl, SqL.of (s _ _ b1), at_of (j := 3) rfl rfl, d1, d2, _, _, rfl, rfl, s _ _ q6, s _ _ b6, small' (by omega), fun d hd => ⟨(szl rfl), fun r hr' => ?_⟩⟩
        have s6 := Same.new (o := .lst (ys1 ++ ys2)) hd
        have s7 := Same.new (o := .lst [.ref e1, .ref o2, .ref l, .ref d]) hr'
        have s67 := Same.trans s6 s7
        refine k _ _ (Same.trans s02 (Same.trans s s67)) ⟨r, e1, o2, l, d, zs, ys1 ++ ys2, rfl, upd_same, s67 _ _ (s _ _ q2), s67 _ _ (s _ _ b3), s67 _ _ hz, hD.same s67, s7 _ _ upd_same, ?_⟩
        show DtAll _ (ys1 ++ ys2) (List.map dDev (_ ++ _))
        rw [List.map_append]
        exact ((a7.same s2).app b7).same (Same.trans s s67)
end
end Ys
/-! Trees, second part: _law_net at its level, _law_tree, _law_told, _law_plan. -/
namespace Ys
open PySem PySem.Spec PyProof.Rows L2

/-! ### texts by their signs -/
def mk (l : List Nat) : Str := ⟨l.toArray⟩
theorem mk_app (l m : List Nat) : mk l ++ mk m = mk (l ++ m) := by
  show Str.append (mk l) (mk m) = mk (l ++ m)
  unfold Str.append mk
  simp
theorem mk_len (l : List Nat) : (mk l).length = l.length := by
  show (mk l).cps.size = l.length
  unfold mk
  simp
theorem mk_inj {l m : List Nat} (h : mk l = mk m) : l = m := by
  unfold mk at h
  injection h with h
  simpa using h
def Ltr.code : Ltr → Nat
  | .s => 115
  | .q => 113
  | .d => 100
  | .i => 105
  | .o => 111
theorem txt_mk (l : Ltr) : l.txt = mk [l.code] := by cases l <;> decide +kernel
def sgnC (par : Bool) : Nat := if par = true then 91 else 40
def cloC (par : Bool) : Nat := if par = true then 93 else 41
theorem sgn_mk (par : Bool) : sgn par = mk [sgnC par] := by cases par <;> decide +kernel
theorem clo_mk (par : Bool) : clo par = mk [cloC par] := by cases par <;> decide +kernel
def toldC : Tr → List Nat
  | .dev d => if d.bound = 0 then [d.ltr.code] else [d.ltr.code, 48 + d.bound]
  | .node par a b => [sgnC par] ++ toldC a ++ [32] ++ toldC b ++ [cloC par]
theorem toldC_len : ∀ t : Tr, (toldC t).length + 3 ≤ 5 * t.size
  | .dev d => by
    unfold toldC Tr.size
    split <;> simp
  | .node par a b => by
    have h1 := toldC_len a
    have h2 := toldC_len b
    unfold toldC Tr.size
    simp only [List.length_append, List.length_singleton]
    omega
theorem num_mk {b : Nat} (h0 : ¬ b = 0) (h : b ≤ 4) : ((toString (b : Int) : String) : Str) = mk [48 + b] := by
  match b, h0, h with
  | 0, h0, _ => exact absurd rfl h0
  | 1, _, _ => decide +kernel
  | 2, _, _ => decide +kernel
  | 3, _, _ => decide +kernel
  | 4, _, _ => decide +kernel
  | n + 5, _, h => omega

section
variable {P : Program} {w : World} {K : PySem.W.Frag} {mg : Str → Option Value} {base : Heap}

theorem net_zero (D : DefAt K mg "_law_net" s_law_net) : Kp P w K mg base "_law_net" 1 ["_law_tree_here", "_law_first"] (spNet 0) := by
  refine kp_of D sc_law_net bd_law_net (fun vs H Q E ⟨v, f, t, h, _⟩ => by rw [h]; rfl) fun f cdv A outer s H vs Q E hr h => ?_
  obtain ⟨v, fi, t, rfl, ht, hsz, _⟩ := h
  have := t.size_pos
  omega
theorem ok_net (G : Glo mg) (D : DefAt K mg "_law_net" s_law_net) : Kp P w K mg base "_law_net" 4 ["_law_tree_here", "_law_first"] (spNet 3) :=
  net_step G D (net_step G D (net_step G D (net_zero D)))
theorem ok_net2 (G : Glo mg) (D : DefAt K mg "_law_net" s_law_net) : Kp P w K mg base "_law_net" 3 ["_law_tree_here", "_law_first"] (spNet 2) :=
  net_step G D (net_step G D (net_zero D))

/-! ### _law_tree -/
abbrev s_law_tree : Stmt := top 49
theorem sc_law_tree : FnScope ["_law_draws_here", "_law_room", "_law_kind", "_law_letter", "_law_first", "_law_left"] ["_law_draws_here", "_law_room"] (defScope s_law_tree) := ⟨rfl, rfl, rfl, by decide +kernel, rfl, by decide +kernel, by decide +kernel⟩
theorem bd_law_tree : BindsAs "_law_tree" "_law_tree" s_law_tree ["_law_draws_here", "_law_room"] := fun _ _ _ _ _ _ us hl => match us, hl with | [_, _], _ => rfl
def spTree (n : Nat) : Sp := fun vs H Q _ => ∃ (d : Addr) (r : Nat), vs = [.ref d, .int (r : Int)] ∧ H d = some (drawsO d) ∧ 1 ≤ r ∧ r ≤ n ∧ n ≤ 3 ∧ ∀ (v : V) (t : Tr) (H' : Hp), Same H H' → TreeAt H' v t → t.size ≤ r → t.ok → Q v H'
theorem tree_zero (D : DefAt K mg "_law_tree" s_law_tree) : Kp P w K mg base "_law_tree" 3 ["_law_draws_here", "_law_room"] (spTree 0) := by
  refine (kp_of (k := 2) D sc_law_tree bd_law_tree (fun vs H Q E ⟨d, r, h, _⟩ => by rw [h]; rfl) fun f cdv A outer s H vs Q E hr h => ?_)
  obtain ⟨d, r, rfl, hd, h1, h2, _⟩ := h
  omega
theorem or_test {c1 c2 A B T : Prop} [Decidable c1] [Decidable c2] (h1 : c1 ∨ c2 → A) (h2 : ¬ c1 → ¬ c2 → B) (hT : (if decide c2 = true then A else B) → T) : if decide c1 = true then (if true = true then A else B) else T := by
  by_cases e1 : c1
  · exact iteDT e1 (iteT (h1 (.inl e1)))
  · refine iteDF e1 (hT ?_)
    by_cases e2 : c2
    · exact iteDT e2 (h1 (.inr e2))
    · exact iteDF e2 (h2 e1 e2)
theorem six {i : Int} (h0 : 0 ≤ i) (h : i < 6) : ∃ (j : Nat) (l : Ltr), i = (j : Int) ∧ ([V.str "s", V.str "s", V.str "q", V.str "d", V.str "i", V.str "o"] : List V)[j]? = some (.str l.txt) := by
  obtain ⟨j, rfl⟩ := Int.eq_ofNat_of_zero_le h0
  have hj : j < 6 := by omega
  match j, hj with
  | 0, _ => exact ⟨0, .s, rfl, rfl⟩
  | 1, _ => exact ⟨1, .s, rfl, rfl⟩
  | 2, _ => exact ⟨2, .q, rfl, rfl⟩
  | 3, _ => exact ⟨3, .d, rfl, rfl⟩
  | 4, _ => exact ⟨4, .i, rfl, rfl⟩
  | 5, _ => exact ⟨5, .o, rfl, rfl⟩
  | n + 6, h => omega
theorem two {i : Int} (h0 : 0 ≤ i) (h : i < 2) : ∃ (j : Nat) (par : Bool), i = (j : Int) ∧ ([V.str "(", V.str "["] : List V)[j]? = some (.str (sgn par)) := by
  obtain ⟨j, rfl⟩ := Int.eq_ofNat_of_zero_le h0
  have hj : j < 2 := by omega
  match j, hj with
  | 0, _ => exact ⟨0, false, rfl, rfl⟩
  | 1, _ => exact ⟨1, true, rfl, rfl⟩
  | n + 2, h => omega
theorem tree_step {n k : Nat} (hk : 3 ≤ k) (G : Glo mg) (D : DefAt K mg "_law_tree" s_law_tree) (k_law_next : Kp P w K mg base "_law_next" 1 ["_law_draws_here"] spNext) (k_law_net : Kp P w K mg base "_law_net" 3 ["_law_tree_here", "_law_first"] (spNet 2))
    (k_law_tree : Kp P w K mg base "_law_tree" k ["_law_draws_here", "_law_room"] (spTree n)) : Kp P w K mg base "_law_tree" (k + 1) ["_law_draws_here", "_law_room"] (spTree (n + 1)) := by
  refine kp_of D sc_law_tree bd_law_tree (fun vs H Q E ⟨d, r, h, _⟩ => by rw [h]; rfl) fun f cdv A outer s H vs Q E hr_law_tree h => ?_
  obtain ⟨d, r, rfl, hd, h1, h2, hn3, kq⟩ := h
  have hr_law_next := hr_law_tree.mono (show 1 ≤ k by omega)
  have hr_law_net := hr_law_tree.mono hk
  refine ⟨_, (pss_cons (ps_set (i := 2) sc_law_tree.nd rfl (Or.inl rfl) (pe_op op_mod (pe_callTy call_int1 (by rfl) G.int (by decide +kernel) (pa_cons (pe_kp k_law_next hr_law_next (by rfl) (pa_cons (pv 0) pa_nil)) pa_nil)) pe_int))
    (pss_cons (ps_if (PW.pt (pw_or (pt_cmpR op_lt (pv 1) pe_int (nomark _)) (pw_or1 (pt_cmpR op_lt (pv 2) pe_int (nomark _)))))
      (pss_cons (ps_set (i := 3) sc_law_tree.nd rfl (Or.inl rfl) (pe_ix ix_list (pe_lst (pa_cons pe_str (pa_cons pe_str (pa_cons pe_str (pa_cons pe_str (pa_cons pe_str (pa_cons pe_str pa_nil))))))) (pe_op op_mod (pe_callTy call_int1 (by rfl) G.int (by decide +kernel) (pa_cons (pe_kp k_law_next hr_law_next (by rfl) (pa_cons (pv 0) pa_nil)) pa_nil)) pe_int) (fun _ _ => rfl)))
      (pss_one (ps_ret (pe_lst (pa_cons pe_str (pa_cons (pv 3) (pa_cons (pe_op op_mod (pe_callTy call_int1 (by rfl) G.int (by decide +kernel) (pa_cons (pe_kp k_law_next hr_law_next (by rfl) (pa_cons (pv 0) pa_nil)) pa_nil)) pe_int) pa_nil)))))))
      pss_nil)
    (pss_cons (ps_set (i := 4) sc_law_tree.nd rfl (Or.inl rfl) (pe_kp k_law_tree hr_law_tree (by rfl) (pa_cons (pv 0) (pa_cons (pe_op op_sub (pv 1) pe_int) pa_nil))))
    (pss_cons (ps_set (i := 5) sc_law_tree.nd rfl (Or.inl rfl) (pe_op op_sub (pv 1) (pe_callB call_len_seq (by rfl) G.len PySem.boot_len (pa_cons (pe_ix ix_list (pe_kp k_law_net hr_law_net (by rfl) (pa_cons (pv 4) (pa_cons pe_int pa_nil))) pe_int (fun _ _ => rfl)) pa_nil))))
    (pss_one (ps_ret (pe_lst (pa_cons (pe_ix ix_list (pe_lst (pa_cons pe_str (pa_cons pe_str pa_nil))) (pe_op op_mod (pe_callTy call_int1 (by rfl) G.int (by decide +kernel) (pa_cons (pv 2) pa_nil)) pe_int) (fun _ _ => rfl)) (pa_cons (pv 4) (pa_cons (pe_kp k_law_tree hr_law_tree (by rfl) (pa_cons (pv 0) (pa_cons (pv 5) pa_nil))) pa_nil)))))))))), ?_⟩
  -- kind
  refine ⟨_, rfl, d, rfl, hd, fun i0 => .inl ⟨_, rfl, _, _, rfl, rfl, (by show (0 : Int) < 7; decide), ?_⟩⟩
  refine ⟨_, rfl, _, _, rfl, rfl, _, rfl, or_test (c1 := (r : Int) < 2) (c2 := i0 % 7 < 4) (fun _ => ?_) (fun c1 _ => ?_) (fun z => ⟨_, rfl, _, _, rfl, rfl, _, rfl, z⟩)⟩
  · -- a device
    refine ⟨(szl rfl), fun l hl => ?_⟩
    have s1 : Same H (upd H l (.lst [V.str "s", V.str "s", V.str "q", V.str "d", V.str "i", V.str "o"])) := Same.new hl
    refine ⟨_, rfl, d, rfl, s1 _ _ hd, fun i1 => .inl ⟨_, rfl, _, _, rfl, rfl, (by show (0 : Int) < 6; decide), ?_⟩⟩
    obtain ⟨j, lt, e1, e2⟩ := six (Int.emod_nonneg i1 (by decide)) (Int.emod_lt_of_pos i1 (by decide))
    refine ⟨l, _, _, _, rfl, rfl, SqL.of upd_same, at_of e1 e2, ?_⟩
    refine ⟨_, rfl, _, rfl, d, rfl, s1 _ _ hd, fun i2 => .inl ⟨_, rfl, _, _, rfl, rfl, (by show (0 : Int) < 5; decide), (szl rfl), fun r1 hr1 => ?_⟩⟩
    have h5 := Int.emod_nonneg i2 (show (5 : Int) ≠ 0 by decide)
    have h6 := Int.emod_lt_of_pos i2 (show (0 : Int) < 5 by decide)
    refine kq _ (.dev ⟨lt, (i2 % 5).toNat⟩) _ (Same.trans s1 (Same.new hr1)) ⟨r1, rfl, ?_⟩ h1 (by show (i2 % 5).toNat ≤ 4; omega)
    rw [upd_same]
    show some (HO.lst [.str "device", .str lt.txt, .int (i2 % 5)]) = some (HO.lst [.str "device", .str lt.txt, .int (((i2 % 5).toNat : Nat) : Int)])
    rw [Int.toNat_of_nonneg h5]
  · -- two yards
    have hr2 : 2 ≤ r := by omega
    refine ⟨_, rfl, _, rfl, _, _, rfl, rfl, d, r - 1, ?_, hd, by omega, by omega, by omega, fun v1 t1 H1 s1 ht1 z1 o1 => ?_⟩
    · show [V.ref d, V.int ((r : Int) - 1)] = [V.ref d, V.int ((r - 1 : Nat) : Int)]
      have e : ((r - 1 : Nat) : Int) = (r : Int) - 1 := by omega
      rw [e]
    refine ⟨_, rfl, _, rfl, v1, 0, t1, rfl, ht1, by omega, by omega, fun v2 H2 s2 n2 => ?_⟩
    obtain ⟨p, e, o, l, dv, xs, ys, rfl, a1, a2, a3, a4, a5, a6, a7⟩ := n2
    have hy : ys.length = t1.size := by
      have q := a7.length
      rw [List.length_map, net_devs] at q
      exact q
    have p1 := t1.size_pos
    refine ⟨p, _, _, _, rfl, rfl, SqL.of a1, at_of (j := 3) rfl rfl, dv, _, rfl, .inl (SqL.of a6), _, _, rfl, rfl, ?_⟩
    refine ⟨(szl rfl), fun l2 hl2 => ?_⟩
    have s3 : Same H2 (upd H2 l2 (.lst [V.str "(", V.str "["])) := Same.new hl2
    obtain ⟨j, par, e1, e2⟩ := two (Int.emod_nonneg (i0 % 7) (by decide)) (Int.emod_lt_of_pos (i0 % 7) (by decide))
    refine ⟨_, rfl, .inl ⟨_, rfl, _, _, rfl, rfl, (by show (0 : Int) < 2; decide), l2, _, _, _, rfl, rfl, SqL.of upd_same, at_of e1 e2, ?_⟩⟩
    have s03 := Same.trans s1 (Same.trans s2 s3)
    refine ⟨_, rfl, _, rfl, _, rfl, d, r - t1.size, ?_, s03 _ _ hd, by omega, by omega, by omega, fun v3 t3 H3 s4 ht3 z3 o3 => ⟨(szl rfl), fun r1 hr1 => ?_⟩⟩
    · show [V.ref d, V.int ((r : Int) - (ys.length : Int))] = [V.ref d, V.int ((r - t1.size : Nat) : Int)]
      have e : ((r - t1.size : Nat) : Int) = (r : Int) - (ys.length : Int) := by omega
      rw [e]
    have s5 := Same.new (o := .lst [.str (sgn par), v1, v3]) hr1
    refine kq _ (.node par t1 t3) _ (Same.trans s03 (Same.trans s4 s5)) ⟨r1, v1, v3, rfl, upd_same, TreeAt.same (Same.trans s2 (Same.trans s3 (Same.trans s4 s5))) ht1, TreeAt.same s5 ht3⟩ (by show t1.size + t3.size ≤ r; omega) ⟨o1, o3⟩
theorem ok_tree (G : Glo mg) (D : DefAt K mg "_law_tree" s_law_tree) (k_law_next : Kp P w K mg base "_law_next" 1 ["_law_draws_here"] spNext) (DN : DefAt K mg "_law_net" s_law_net) : Kp P w K mg base "_law_tree" 6 ["_law_draws_here", "_law_room"] (spTree 3) :=
  tree_step (by decide) G D k_law_next (ok_net2 G DN) (tree_step (by decide) G D k_law_next (ok_net2 G DN) (tree_step (by decide) G D k_law_next (ok_net2 G DN) (tree_zero D)))
end
end Ys
/-! Trees, third part: _law_told, _law_plan. -/
namespace Ys
open PySem PySem.Spec PyProof.Rows L2
/-- the devices and the sorted links of a plan -/
def PlanAt (H : Hp) (v : V) (devs : List Dev) (L : List (Int × Int)) : Prop := ∃ (p d l : Addr) (x0 x1 x2 : V) (ys zs : List V), v = .ref p ∧ H p = some (.lst [x0, x1, x2, .ref d, .ref l]) ∧ H d = some (.lst ys) ∧ DtAll H ys (devs.map dDev) ∧ H l = some (.lst zs) ∧ DtAll H zs (L.map dLink)
theorem PlanAt.same {H H' : Hp} (s : Same H H') {v : V} {devs : List Dev} {L : List (Int × Int)} (h : PlanAt H v devs L) : PlanAt H' v devs L := by
  obtain ⟨p, d, l, x0, x1, x2, ys, zs, h0, h1, h2, h3, h4, h5⟩ := h
  exact ⟨p, d, l, x0, x1, x2, ys, zs, h0, s _ _ h1, s _ _ h2, h3.same s, s _ _ h4, h5.same s⟩
theorem table_of (par : Bool) : valV (mergeK [] [((.inr ("(" : Str) : Key), V.str ")"), (.inr ("[" : Str), V.str "]")]) (.inr (sgn par)) = some (.str (clo par)) := by
  cases par <;> decide +kernel
section
variable {P : Program} {w : World} {K : PySem.W.Frag} {mg : Str → Option Value} {base : Heap}
abbrev s_law_told : Stmt := top 50
theorem sc_law_told : FnScope ["_law_tree_here"] ["_law_tree_here"] (defScope s_law_told) := ⟨rfl, rfl, rfl, by decide +kernel, rfl, by decide +kernel, by decide +kernel⟩
theorem bd_law_told : BindsAs "_law_told" "_law_told" s_law_told ["_law_tree_here"] := fun _ _ _ _ _ _ us hl => match us, hl with | [_], _ => rfl
def spTold (n : Nat) : Sp := fun vs H Q _ => ∃ (v : V) (t : Tr), vs = [v] ∧ TreeAt H v t ∧ t.size ≤ n ∧ n ≤ 3 ∧ t.ok ∧ ∀ H' : Hp, Same H H' → Q (.str (mk (toldC t))) H'
theorem told_zero (D : DefAt K mg "_law_told" s_law_told) : Kp P w K mg base "_law_told" 1 ["_law_tree_here"] (spTold 0) := by
  refine kp_of D sc_law_told bd_law_told (fun vs H Q E ⟨v, t, h, _⟩ => by rw [h]; rfl) fun f cdv A outer s H vs Q E hr h => ?_
  obtain ⟨v, t, rfl, ht, hsz, _⟩ := h
  have := t.size_pos
  omega
theorem strlen_small {l : List Nat} {n : Nat} (h : l.length ≤ n) : (mk l).length ≤ n := by
  rw [mk_len]
  exact h
theorem told_step {n k : Nat} (G : Glo mg) (D : DefAt K mg "_law_told" s_law_told) (k_law_told : Kp P w K mg base "_law_told" k ["_law_tree_here"] (spTold n)) : Kp P w K mg base "_law_told" (k + 1) ["_law_tree_here"] (spTold (n + 1)) := by
  refine kp_of D sc_law_told bd_law_told (fun vs H Q E ⟨v, t, h, _⟩ => by rw [h]; rfl) fun f cdv A outer s H vs Q E hr_law_told h => ?_
  obtain ⟨v, t, rfl, ht, hsz, hn3, hok, k⟩ := h
  have hu := hu_of hr_law_told
  refine ⟨_, (pss_cons (ps_if (pt_cmpR op_eq (pe_ix ix_list (pv 0) pe_int (fun _ _ => rfl)) pe_str (nomark _))
      (pss_cons (ps_if (pt_cmpR op_eq (pe_ix ix_list (pv 0) pe_int (fun _ _ => rfl)) pe_int (nomark _))
        (pss_one (ps_ret (pe_ix ix_list (pv 0) pe_int (fun _ _ => rfl))))
        pss_nil)
      (pss_one (ps_ret (pe_op op_add_str (pe_ix ix_list (pv 0) pe_int (fun _ _ => rfl)) (pe_callTy call_str_int (by rfl) G.str (by decide +kernel) (pa_cons (pe_ix ix_list (pv 0) pe_int (fun _ _ => rfl)) pa_nil))))))
      pss_nil)
    (pss_one (ps_ret (pe_op op_add_str (pe_op op_add_str (pe_op op_add_str (pe_op op_add_str (pe_ix ix_list (pv 0) pe_int (fun _ _ => rfl)) (pe_kp k_law_told hr_law_told (by rfl) (pa_cons (pe_ix ix_list (pv 0) pe_int (fun _ _ => rfl)) pa_nil))) pe_str) (pe_kp k_law_told hr_law_told (by rfl) (pa_cons (pe_ix ix_list (pv 0) pe_int (fun _ _ => rfl)) pa_nil)))
      (pe_dget hu (pe_disp (pps_cons pe_str pe_str (pps_cons pe_str pe_str pps_nil)) (by rfl) (by rfl) (fun z => by cases z) (by decide)) (pe_ix ix_list (pv 0) pe_int (fun _ _ => rfl)) (fun _ _ => rfl)))))), ?_⟩
  cases t with
  | dev d =>
    obtain ⟨a, rfl, ha⟩ := ht
    have hb : d.bound ≤ 4 := hok
    refine ⟨_, rfl, a, _, _, _, rfl, rfl, SqL.of ha, at_of (j := 0) rfl rfl, rfl, _, rfl, iteDT rfl ?_⟩
    refine ⟨_, rfl, a, _, _, _, rfl, rfl, SqL.of ha, at_of (j := 2) rfl rfl, rfl, _, rfl, iteD2 (fun c => ?_) (fun c => ?_)⟩
    · have c' : d.bound = 0 := by
        injection c with c
        omega
      refine ⟨_, rfl, a, _, _, _, rfl, rfl, SqL.of ha, at_of (j := 1) rfl rfl, ?_⟩
      have e := k H (Same.refl H)
      unfold toldC at e
      rw [if_pos c', ← txt_mk] at e
      exact e
    · have c' : ¬ d.bound = 0 := fun z => c (by rw [z]; rfl)
      refine ⟨_, rfl, a, _, _, _, rfl, rfl, SqL.of ha, at_of (j := 1) rfl rfl, _, rfl, a, _, _, _, rfl, rfl, SqL.of ha, at_of (j := 2) rfl rfl, _, rfl, ?_, _, _, rfl, rfl, ?_, ?_⟩
      · match d.bound, hb with
        | 0, _ => decide
        | 1, _ => decide
        | 2, _ => decide
        | 3, _ => decide
        | 4, _ => decide
        | n + 5, h => omega
      · rw [txt_mk, num_mk c' hb, mk_len, mk_len]
        exact szl rfl
      · rw [txt_mk, num_mk c' hb, mk_app]
        have e := k H (Same.refl H)
        unfold toldC at e
        rw [if_neg c'] at e
        exact e
  | node par ta tb =>
    obtain ⟨p, va, vb, rfl, hp, hta, htb⟩ := ht
    have hsz' : ta.size + tb.size ≤ n + 1 := hsz
    have pa := ta.size_pos
    have pb := tb.size_pos
    have la := toldC_len ta
    have lb := toldC_len tb
    refine ⟨_, rfl, p, _, _, _, rfl, rfl, SqL.of hp, at_of (j := 0) rfl rfl, rfl, _, rfl, iteDF (sgn_ne par) ?_⟩
    refine ⟨_, rfl, p, _, _, _, rfl, rfl, SqL.of hp, at_of (j := 0) rfl rfl, _, rfl, p, _, _, _, rfl, rfl, SqL.of hp, at_of (j := 1) rfl rfl, va, ta, rfl, hta, by omega, by omega, hok.1, fun H1 s1 => ?_⟩
    refine ⟨_, _, rfl, rfl, ?_, ?_⟩
    · rw [sgn_mk, mk_len, mk_len]
      exact small' (by simp only [List.length_singleton]; omega)
    refine ⟨_, _, rfl, rfl, ?_, ?_⟩
    · have e32 : (" " : Str) = mk [32] := by decide +kernel
      rw [sgn_mk, mk_app, mk_len]
      show _ + (" " : Str).length ≤ _
      rw [e32, mk_len]
      exact small' (by simp only [List.length_append, List.length_singleton]; omega)
    refine ⟨_, rfl, p, _, _, _, rfl, rfl, SqL.of (s1 _ _ hp), at_of (j := 2) rfl rfl, vb, tb, rfl, TreeAt.same s1 htb, by omega, by omega, hok.2, fun H2 s2 => ?_⟩
    have e32 : (" " : Str) = mk [32] := by decide +kernel
    have ek : (sgn par ++ mk (toldC ta) ++ (" " : Str)) ++ mk (toldC tb) = mk ([sgnC par] ++ toldC ta ++ [32] ++ toldC tb) := by
      rw [sgn_mk, e32, mk_app, mk_app, mk_app]
    refine ⟨_, _, rfl, rfl, ?_, ?_⟩
    · rw [sgn_mk, mk_app, mk_len]
      show Str.length ((mk _) ++ (" " : Str)) + _ ≤ _
      rw [e32, mk_app, mk_len]
      exact small' (by simp only [List.length_append, List.length_singleton]; omega)
    refine fun q hq => ⟨upd_same, [((.inr ("(" : Str) : Key), V.str ")"), (.inr ("[" : Str), V.str "]")], rfl, (by show 2 ≤ 15; decide), ?_⟩
    have hp2 := s2 _ _ (s1 _ _ hp)
    have npq : p ≠ q := ne_of_none hp2 hq
    refine ⟨_, rfl, p, _, _, _, rfl, rfl, SqL.of (by rw [upd_ne npq, upd_ne npq]; exact hp2), at_of (j := 0) rfl rfl, q, .str (clo par), rfl, ?_, ?_⟩
    · have z := DGet.k (k := (.inr (sgn par) : Key)) (upd_same (H := upd H2 q (.dK [])) (a := q) (o := .dK (mergeK [] [((.inr ("(" : Str) : Key), V.str ")"), (.inr ("[" : Str), V.str "]")])))
      rw [table_of] at z
      exact z
    refine ⟨_, _, rfl, rfl, ?_, ?_⟩
    · show Str.length ((sgn par ++ mk (toldC ta) ++ (" " : Str)) ++ mk (toldC tb)) + _ ≤ _
      rw [ek, clo_mk, mk_len, mk_len]
      exact small' (by simp only [List.length_append, List.length_singleton]; omega)
    · show Q (V.str (((sgn par ++ mk (toldC ta) ++ (" " : Str)) ++ mk (toldC tb)) ++ clo par)) _
      rw [ek, clo_mk, mk_app]
      have eH : upd (upd H2 q (.dK [])) q (.dK (mergeK [] [((.inr ("(" : Str) : Key), V.str ")"), (.inr ("[" : Str), V.str "]")])) = upd H2 q (.dK (mergeK [] [((.inr ("(" : Str) : Key), V.str ")"), (.inr ("[" : Str), V.str "]")])) := upd_upd
      rw [eH]
      exact k _ (Same.trans s1 (Same.trans s2 (Same.new hq)))
theorem ok_told (G : Glo mg) (D : DefAt K mg "_law_told" s_law_told) : Kp P w K mg base "_law_told" 4 ["_law_tree_here"] (spTold 3) :=
  told_step G D (told_step G D (told_step G D (told_zero D)))

/-! ### _law_plan -/
abbrev s_law_plan : Stmt := top 52
theorem sc_law_plan : FnScope ["_law_tree_here", "_law_net_here", "_law_links", "_law_entry", "_law_out"] ["_law_tree_here"] (defScope s_law_plan) := ⟨rfl, rfl, rfl, by decide +kernel, rfl, by decide +kernel, by decide +kernel⟩
theorem bd_law_plan : BindsAs "_law_plan" "_law_plan" s_law_plan ["_law_tree_here"] := fun _ _ _ _ _ _ us hl => match us, hl with | [_], _ => rfl
def spPlan : Sp := fun vs H Q _ => ∃ (v : V) (t : Tr), vs = [v] ∧ TreeAt H v t ∧ t.size ≤ 3 ∧ ∀ (v' : V) (L : List (Int × Int)) (H' : Hp), Same H H' → PlanAt H' v' (net t 0).devs L → L.Perm (allLinks (net t 0)) → Q v' H'
theorem link_tuple (x : Int × Int) : ∃ y r, dLink x = .tuple (y :: r) := ⟨_, _, rfl⟩
theorem ok_plan (G : Glo mg) (D : DefAt K mg "_law_plan" s_law_plan) (k_law_net : Kp P w K mg base "_law_net" 4 ["_law_tree_here", "_law_first"] (spNet 3)) : Kp P w K mg base "_law_plan" 5 ["_law_tree_here"] spPlan := by
  refine kp_of D sc_law_plan bd_law_plan (fun vs H Q E ⟨v, t, h, _⟩ => by rw [h]; rfl) fun f cdv A outer s H vs Q E hr_law_net h => ?_
  obtain ⟨v, t, rfl, ht, hsz, k⟩ := h
  have hu := hr_law_net.units
  refine ⟨_, (pss_cons (ps_set (i := 1) sc_law_plan.nd rfl (Or.inl rfl) (pe_kp k_law_net hr_law_net (by rfl) (pa_cons (pv 0) (pa_cons pe_int pa_nil))))
    (pss_cons (ps_set (i := 2) sc_law_plan.nd rfl (Or.inl rfl) (pe_callTy call_list_of (by rfl) G.list (by decide +kernel) (pa_cons (pe_ix ix_list (pv 1) pe_int (fun _ _ => rfl)) pa_nil)))
    (pss_cons (ps_for PassesOwn.never rfl (pi_list (pe_ix ix_list (pv 1) pe_int (fun _ _ => rfl))) (pg_name (i := 3) sc_law_plan.nd rfl (Or.inl rfl))
      (pss_one (ps_expr (pe_bm PySem.F.plainAttrs_list PySem.F.slot_list_append PySem.F.type_list_append mt_append (pv 2) (pa_cons (pe_tup (pa_cons (pe_un un_neg pe_int) (pa_cons (pv 3) pa_nil))) pa_nil)))))
    (pss_cons (ps_for PassesOwn.never rfl (pi_list (pe_ix ix_list (pv 1) pe_int (fun _ _ => rfl))) (pg_name (i := 4) sc_law_plan.nd rfl (Or.inl rfl))
      (pss_one (ps_expr (pe_bm PySem.F.plainAttrs_list PySem.F.slot_list_append PySem.F.type_list_append mt_append (pv 2) (pa_cons (pe_tup (pa_cons (pv 4) (pa_cons (pe_un un_neg pe_int) pa_nil))) pa_nil)))))
    (pss_one (ps_ret (pe_op op_cat (pe_slice sl_list (pv 1) po_none (po_some pe_int)) (pe_lst (pa_cons (pe_callB (cr_sortedDt hu) (by rfl) G.sorted (by decide +kernel) (pa_cons (pv 2) pa_nil)) pa_nil))))))))), ?_⟩
  refine ⟨_, rfl, v, 0, t, rfl, ht, hsz, by decide, fun v1 H1 s1 n1 => ?_⟩
  obtain ⟨p, e, o, l0, d, xs, ys, rfl, a1, a2, a3, a4, a5, a6, a7⟩ := n1
  obtain ⟨c1, c2, c3, c4⟩ := net_small (t := t) (n := 3) hsz (Nat.le_refl _) 0
  have x1 : xs.length = (net t 0).links.length := by
    have := a5.length
    rw [List.length_map] at this
    exact this
  refine ⟨_, rfl, p, _, _, _, rfl, rfl, SqL.of a1, at_of (j := 2) rfl rfl, l0, _, rfl, .inl (SqL.of a4), fun l hl => ?_⟩
  have s2 : Same H1 (upd H1 l (.lst xs)) := Same.new hl
  refine ⟨_, rfl, p, _, _, _, rfl, rfl, SqL.of (s2 _ _ a1), at_of (j := 0) rfl rfl, e, rfl, ⟨_, SqL.of (s2 _ _ a2)⟩, for_list (K := K) (a := e) (xs := (net t 0).ents.map V.int)
    (fun i σ H' => ∃ (zs : List V) (v3 : Option V), σ = [some v, some (.ref p), some (.ref l), v3, none] ∧ Same H1 H' ∧ H' l = some (.lst zs) ∧ DtAll H' zs (((net t 0).links ++ ((net t 0).ents.take i).map fun e => ((-1 : Int), e)).map dLink) ∧ zs.length ≤ 9 + i)
    ⟨xs, _, rfl, s2, upd_same, by rw [List.take_zero, List.map_nil, List.append_nil]; exact a5.same s2, by omega⟩ (fun i σ H' _ ⟨_, _, _, s, _⟩ => SqL.of (s _ _ a2)) ?_ ?_⟩
  · rintro i y σ H' hi ⟨zs, v3, rfl, s, hz, hD, hzl⟩
    obtain ⟨x, hx, rfl⟩ := map_get hi
    have hi3 : i < 3 := by
      have := (List.getElem?_eq_some_iff.mp hx).1
      omega
    refine ⟨_, rfl, .inl ⟨rfl, _, SqL.of hz⟩, _, rfl, _, rfl, (szl rfl), fun tp htp => ?_⟩
    have nlt : l ≠ tp := ne_of_none hz htp
    refine ⟨l, zs, .ref tp, rfl, rfl, (upd_ne nlt).trans hz, small (by omega), ?_⟩
    have st : Same H' (upd H' tp (.tup [.int (-1), .int x])) := Same.new htp
    refine ⟨zs ++ [.ref tp], _, rfl, Same.mut (Same.trans s st) hl, upd_same, ?_, by rw [List.length_append, List.length_singleton]; omega⟩
    have em : (((net t 0).links ++ ((net t 0).ents.take (i + 1)).map fun e => ((-1 : Int), e)).map dLink) = (((net t 0).links ++ ((net t 0).ents.take i).map fun e => ((-1 : Int), e)).map dLink) ++ [dLink (-1, x)] := by
      rw [List.take_add_one, hx]
      simp
    rw [em]
    refine DtAll.snoc ?_ (.tup (by rw [upd_ne nlt.symm]; exact upd_same) (.cons (.int (-1)) (.cons (.int x) .nil)))
    exact hD.tups (Tups.trans (Tups.of_same st) (Tups.put ((upd_ne nlt).trans hz) (fun _ z => nomatch z))) _ _ (noLists_map noList_link _)
  · rintro σ H2 ⟨zs, v3, rfl, s, hz, hD, hzl⟩
    rw [List.length_map] at hD hzl
    rw [List.take_length] at hD
    refine ⟨_, rfl, p, _, _, _, rfl, rfl, SqL.of (s _ _ a1), at_of (j := 1) rfl rfl, o, rfl, ⟨_, SqL.of (s _ _ a3)⟩, for_list (K := K) (a := o) (xs := (net t 0).outs.map V.int)
      (fun i σ H' => ∃ (zs : List V) (v4 : Option V), σ = [some v, some (.ref p), some (.ref l), v3, v4] ∧ Same H1 H' ∧ H' l = some (.lst zs) ∧ DtAll H' zs ((((net t 0).links ++ (net t 0).ents.map fun e => ((-1 : Int), e)) ++ ((net t 0).outs.take i).map fun e => (e, (-1 : Int))).map dLink) ∧ zs.length ≤ 12 + i)
      ⟨zs, _, rfl, s, hz, by rw [List.take_zero, List.map_nil, List.append_nil]; exact hD, by omega⟩ (fun i σ H' _ ⟨_, _, _, s, _⟩ => SqL.of (s _ _ a3)) ?_ ?_⟩
    · rintro i y σ H' hi ⟨zs, v4, rfl, s, hz, hD, hzl⟩
      obtain ⟨x, hx, rfl⟩ := map_get hi
      have hi3 : i < 3 := by
        have := (List.getElem?_eq_some_iff.mp hx).1
        omega
      refine ⟨_, rfl, .inl ⟨rfl, _, SqL.of hz⟩, _, rfl, _, rfl, (szl rfl), fun tp htp => ?_⟩
      have nlt : l ≠ tp := ne_of_none hz htp
      refine ⟨l, zs, .ref tp, rfl, rfl, (upd_ne nlt).trans hz, small (by omega), ?_⟩
      have st : Same H' (upd H' tp (.tup [.int x, .int (-1)])) := Same.new htp
      refine ⟨zs ++ [.ref tp], _, rfl, Same.mut (Same.trans s st) hl, upd_same, ?_, by rw [List.length_append, List.length_singleton]; omega⟩
      have em : ((((net t 0).links ++ (net t 0).ents.map fun e => ((-1 : Int), e)) ++ ((net t 0).outs.take (i + 1)).map fun e => (e, (-1 : Int))).map dLink) = ((((net t 0).links ++ (net t 0).ents.map fun e => ((-1 : Int), e)) ++ ((net t 0).outs.take i).map fun e => (e, (-1 : Int))).map dLink) ++ [dLink (x, -1)] := by
        rw [List.take_add_one, hx]
        simp
      rw [em]
      refine DtAll.snoc ?_ (.tup (by rw [upd_ne nlt.symm]; exact upd_same) (.cons (.int x) (.cons (.int (-1)) .nil)))
      exact hD.tups (Tups.trans (Tups.of_same st) (Tups.put ((upd_ne nlt).trans hz) (fun _ z => nomatch z))) _ _ (noLists_map noList_link _)
    · rintro σ H3 ⟨zs, v4, rfl, s, hz, hD, hzl⟩
      rw [List.length_map, List.take_length, List.append_assoc] at hD
      refine ⟨_, rfl, _, rfl, p, _, rfl, SqL.of (s _ _ a1), fun q hq => ?_⟩
      have s4 := Same.new (o := .lst (cutV [V.ref e, V.ref o, V.ref l0, V.ref d] none (some 4))) hq
      refine ⟨_, rfl, ?_⟩
      dsimp only [tNil]
      refine sorted_maps alike_dLink link_tuple dLink_depth (s4 _ _ hz) (hD.same s4) fun L us r pm hL hr' => ⟨(szl rfl), fun r2 hr2 => ?_⟩
      have s5 := Same.new (o := .lst us) hr'
      have s6 := Same.new (o := .lst [V.ref r]) hr2
      have hq2 : upd (upd (upd H3 q (.lst (cutV [V.ref e, V.ref o, V.ref l0, V.ref d] none (some 4)))) r (.lst us)) r2 (.lst [V.ref r]) q = some (.lst (cutV [V.ref e, V.ref o, V.ref l0, V.ref d] none (some 4))) := s6 _ _ (s5 _ _ upd_same)
      refine ⟨q, r2, _, _, rfl, rfl, hq2, upd_same, szl rfl, fun r3 hr3 => ?_⟩
      have s7 := Same.new (o := .lst (cutV [V.ref e, V.ref o, V.ref l0, V.ref d] none (some 4) ++ [V.ref r])) hr3
      have s47 := Same.trans s4 (Same.trans s5 (Same.trans s6 s7))
      refine k (.ref r3) L _ (Same.trans s1 (Same.trans s s47)) ⟨r3, d, r, .ref e, .ref o, .ref l0, ys, us, rfl, upd_same, s47 _ _ (s _ _ a6), (a7.same s).same s47, s7 _ _ (s6 _ _ upd_same), hL.same (Same.trans s5 (Same.trans s6 s7))⟩ pm
end
end Ys
/-! The law's own moves: _law_outs, _law_ins, _law_moves, _law_live, _law_start. -/
namespace Ys
open PySem PySem.Spec PyProof.Rows L2

/-! ### a written table -/
theorem mergeK_app : ∀ (more kvs : List (Key × V)), ((kvs ++ more).map (·.1)).Nodup → mergeK kvs more = kvs ++ more
  | [], kvs, _ => by simp [mergeK]
  | p :: r, kvs, h => by
    have hn : valV kvs p.1 = none := by
      cases e : valV kvs p.1 with
      | none => rfl
      | some v =>
        have m := valV_in e
        rw [List.map_append, List.map_cons] at h
        have d := (List.nodup_append.mp h).2.2 _ m _ List.mem_cons_self
        exact absurd rfl d
    show mergeK (putK kvs p.1 p.2) r = kvs ++ p :: r
    rw [putK_new p.2 hn]
    have h' : ((kvs ++ [(p.1, p.2)] ++ r).map (·.1)).Nodup := by
      rw [List.append_assoc]
      exact h
    rw [mergeK_app r _ h', List.append_assoc]
    rfl
theorem valV_get : ∀ {kvs : List (Key × V)} {i : Nat} {k : Key} {v : V}, (kvs.map (·.1)).Nodup → kvs[i]? = some (k, v) → valV kvs k = some v
  | [], _, _, _, _, e => by simp at e
  | p :: r, 0, k, v, _, e => by
    have e' : p = (k, v) := Option.some.inj e
    subst e'
    exact valV_pos rfl
  | p :: r, i + 1, k, v, h, e => by
    have h' : (p.1 :: r.map (·.1)).Nodup := h
    obtain ⟨h1, h2⟩ := List.nodup_cons.mp h'
    have ne : ¬ p.1 = k := fun z => h1 (by
      rw [z]
      exact List.mem_map.mpr ⟨(k, v), List.mem_of_getElem? e, rfl⟩)
    rw [valV_neg ne]
    exact valV_get h2 e
def tab5 (f : Ltr → V) : List (Key × V) := [((.inr ("s" : Str) : Key), f .s), (.inr ("q" : Str), f .q), (.inr ("d" : Str), f .d), (.inr ("i" : Str), f .i), (.inr ("o" : Str), f .o)]
theorem tab5_keys (f : Ltr → V) : ((tab5 f).map (·.1)).Nodup := by
  show ([.inr ("s" : Str), .inr ("q" : Str), .inr ("d" : Str), .inr ("i" : Str), .inr ("o" : Str)] : List Key).Nodup
  decide +kernel
theorem tab5_get (f : Ltr → V) (l : Ltr) : valV (mergeK [] (tab5 f)) (.inr l.txt) = some (f l) := by
  rw [mergeK_app (tab5 f) [] (tab5_keys f), List.nil_append]
  cases l with
  | s => exact valV_get (i := 0) (tab5_keys f) rfl
  | q => exact valV_get (i := 1) (tab5_keys f) rfl
  | d => exact valV_get (i := 2) (tab5_keys f) rfl
  | i => exact valV_get (i := 3) (tab5_keys f) rfl
  | o => exact valV_get (i := 4) (tab5_keys f) rfl

/-! ### situations, moves, devices in the heap -/
theorem sit_inv {H : Hp} {v : V} {S : Sit} (h : Dt H v (dSit S)) : ∃ (a b g : Addr) (hs : List V), v = .ref a ∧ H a = some (.tup [.int (S.came : Int), .ref b, .ref g]) ∧ H b = some (.tup hs) ∧ DtAll H hs (S.held.map dInts) ∧ H g = some (.tup (S.gone.map V.int)) := by
  have h' : Dt H v (.tuple [.int (S.came : Int), .tuple (S.held.map dInts), .tuple (S.gone.map .int)]) := h
  cases h' with
  | tup ha hs =>
    cases hs with
    | cons h1 hs =>
      cases h1
      cases hs with
      | cons h2 hs =>
        cases h2 with
        | tup hb hbs =>
          cases hs with
          | cons h3 hs =>
            cases h3 with
            | tup hg hgs =>
              cases hs
              rw [DtAll.ints_inv hgs] at hg
              exact ⟨_, _, _, _, rfl, ha, hb, hbs, hg⟩
theorem sit_mk {H : Hp} {a b g : Addr} {hs : List V} {c : Nat} {held : List (List Int)} {gone : List Int} (h1 : H a = some (.tup [.int (c : Int), .ref b, .ref g])) (h2 : H b = some (.tup hs)) (h3 : DtAll H hs (held.map dInts)) (h4 : H g = some (.tup (gone.map V.int))) :
    Dt H (.ref a) (dSit ⟨c, held, gone⟩) := .tup h1 (.cons (.int _) (.cons (.tup h2 h3) (.cons (.tup h4 (.ints _)) .nil)))
theorem ints_inv {H : Hp} {v : V} {l : List Int} (h : Dt H v (dInts l)) : ∃ a, v = .ref a ∧ H a = some (.tup (l.map V.int)) := by
  have h' : Dt H v (.tuple (l.map .int)) := h
  cases h' with
  | tup ha hs =>
    rw [DtAll.ints_inv hs] at ha
    exact ⟨_, rfl, ha⟩
theorem mv_inv {H : Hp} {v : V} {m : Mv} (h : Dt H v (dMv m)) : ∃ a, v = .ref a ∧ H a = some (.tup [.int m.src, .int m.out, .int m.tgt, .int m.end_]) := by
  have h' : Dt H v (.tuple ([m.src, m.out, m.tgt, m.end_].map .int)) := h
  cases h' with
  | tup ha hs =>
    rw [DtAll.ints_inv hs] at ha
    exact ⟨_, rfl, ha⟩
theorem link_inv {H : Hp} {v : V} {l : Int × Int} (h : Dt H v (dLink l)) : ∃ a, v = .ref a ∧ H a = some (.tup [.int l.1, .int l.2]) := by
  have h' : Dt H v (.tuple ([l.1, l.2].map .int)) := h
  cases h' with
  | tup ha hs =>
    rw [DtAll.ints_inv hs] at ha
    exact ⟨_, rfl, ha⟩
theorem dev_inv {H : Hp} {v : V} {d : Dev} (h : Dt H v (dDev d)) : ∃ a, v = .ref a ∧ H a = some (.lst [.str d.ltr.txt, .int (d.bound : Int)]) := by
  have h' : Dt H v (.list [.str d.ltr.txt, .int (d.bound : Int)]) := h
  cases h' with
  | lst ha hs =>
    cases hs with
    | cons h1 hs =>
      cases h1
      cases hs with
      | cons h2 hs =>
        cases h2
        cases hs
        exact ⟨_, rfl, ha⟩
theorem get_map {α β : Type} {f : α → β} {l : List α} {i : Nat} {x : α} (h : l[i]? = some x) : (l.map f)[i]? = some (f x) := by
  rw [List.getElem?_map, h]
  rfl
theorem nat_of {z : Int} {n : Nat} (h0 : 0 ≤ z) (h : z < n) : ∃ j : Nat, z = (j : Int) ∧ z.toNat = j ∧ j < n := ⟨z.toNat, by omega, rfl, by omega⟩
theorem srcEnds_out {devs : List Dev} {n : Nat} {S : Sit} (h : S.came ≤ n) : srcEnds devs n S (-1) = if S.came < n then [0] else [] := by
  unfold srcEnds
  rw [if_pos (by decide)]
theorem srcEnds_dev {devs : List Dev} {n j : Nat} {S : Sit} {d : Dev} {l : List Int} (hd : devs[j]? = some d) (hl : S.held[j]? = some l) : srcEnds devs n S (j : Int) = if l = [] then [] else d.ltr.outs := by
  unfold srcEnds
  rw [if_neg (by omega), Int.toNat_natCast, hd, hl]
  cases l with
  | nil => rfl
  | cons x t => rfl
theorem tgtEnds_out {devs : List Dev} {S : Sit} : tgtEnds devs S (-1) = [0] := by
  unfold tgtEnds
  rw [if_pos (by decide)]
theorem tgtEnds_dev {devs : List Dev} {j : Nat} {S : Sit} {d : Dev} {l : List Int} (hd : devs[j]? = some d) (hl : S.held[j]? = some l) : tgtEnds devs S (j : Int) = if 0 < d.bound ∧ d.bound ≤ l.length then [] else d.ltr.ins := by
  unfold tgtEnds
  rw [if_neg (by omega), Int.toNat_natCast, hd, hl]

section
variable {P : Program} {w : World} {K : PySem.W.Frag} {mg : Str → Option Value} {base : Heap}
abbrev s_law_outs : Stmt := top 53
theorem sc_law_outs : FnScope ["_law_net_here", "_law_row_here", "_law_situation", "_law_source"] ["_law_net_here", "_law_row_here", "_law_situation", "_law_source"] (defScope s_law_outs) := ⟨rfl, rfl, rfl, by decide +kernel, rfl, by decide +kernel, by decide +kernel⟩
theorem bd_law_outs : BindsAs "_law_outs" "_law_outs" s_law_outs ["_law_net_here", "_law_row_here", "_law_situation", "_law_source"] := fun _ _ _ _ _ _ us hl => match us, hl with | [_, _, _, _], _ => rfl
def spLOuts : Sp := fun vs H Q _ => ∃ (vn vs' : V) (ra : Addr) (row : List Int) (devs : List Dev) (L : List (Int × Int)) (S : Sit) (src : Int), vs = [vn, .ref ra, vs', .int src] ∧ PlanAt H vn devs L ∧ H ra = some (.lst (row.map V.int)) ∧ Dt H vs' (dSit S) ∧
  S.held.length = devs.length ∧ S.came ≤ row.length ∧ (src = -1 ∨ (0 ≤ src ∧ src < devs.length)) ∧ ∀ (p : Addr) (H' : Hp), Same H H' → H p = none → H' p = some (.lst ((srcEnds devs row.length S src).map V.int)) → Q (.ref p) H'
theorem ok_louts (G : Glo mg) (D : DefAt K mg "_law_outs" s_law_outs) : Kp P w K mg base "_law_outs" 1 ["_law_net_here", "_law_row_here", "_law_situation", "_law_source"] spLOuts := by
  refine kp_of D sc_law_outs bd_law_outs (fun vs H Q E ⟨_, _, _, _, _, _, _, _, h, _⟩ => by rw [h]; rfl) fun f cdv A outer s H vs Q E hr h => ?_
  obtain ⟨vn, v, ra, row, devs, L, S, src, rfl, hN, hrow, hS, hlen, hcm, hsrc, k⟩ := h
  have hu := hu_of hr
  refine ⟨_, (pss_cons (ps_if (pt_cmpR op_lt (pv 3) pe_int (nomark _))
      (pss_one (ps_ret (pe_slice sl_list (pe_lst (pa_cons pe_int pa_nil)) po_none (po_some (pe_op op_sub (pe_callB call_len_seq (by rfl) G.len PySem.boot_len (pa_cons (pv 1) pa_nil)) (pe_ix ix_tup (pv 2) pe_int (fun _ _ => rfl)))))))
      pss_nil)
    (pss_cons (ps_if (pt_not (pt_truth (pe_ix ix_tup (pe_ix ix_tup (pv 2) pe_int (fun _ _ => rfl)) (pv 3) (fun _ _ => rfl)) (by intro _; rfl)))
      (pss_one (ps_ret (pe_lst pa_nil)))
      pss_nil)
    (pss_one (ps_ret (pe_dget hu (pe_disp (pps_cons pe_str (pe_lst (pa_cons pe_int pa_nil)) (pps_cons pe_str (pe_lst (pa_cons pe_int pa_nil)) (pps_cons pe_str (pe_lst (pa_cons pe_int (pa_cons pe_int pa_nil))) (pps_cons pe_str (pe_lst (pa_cons pe_int (pa_cons pe_int pa_nil))) (pps_cons pe_str (pe_lst (pa_cons pe_int pa_nil)) pps_nil))))) (by rfl) (by rfl) (fun z => by cases z) (by decide))
      (pe_ix ix_list (pe_ix ix_list (pe_ix ix_list (pv 0) pe_int (fun _ _ => rfl)) (pv 3) (fun _ _ => rfl)) pe_int (fun _ _ => rfl)) (fun _ _ => rfl)))))), ?_⟩
  obtain ⟨a, b, g, hs, rfl, ha, hb, hhs, hg⟩ := sit_inv hS
  refine ⟨_, rfl, _, _, rfl, rfl, _, rfl, ?_⟩
  rcases hsrc with rfl | ⟨h0, h1⟩
  · refine iteDT (by decide) ?_
    refine ⟨(szl rfl), fun q hq => ⟨_, rfl, ra, _, rfl, .inl (SqL.of ((Same.new hq) _ _ hrow)), _, rfl, a, _, _, _, rfl, rfl, SqT.of ((Same.new hq) _ _ ha), at_of (j := 0) rfl rfl, _, _, rfl, rfl, _, rfl, q, _, rfl, SqL.of upd_same, fun p hp => ?_⟩⟩
    refine k p _ (Same.trans (Same.new hq) (Same.new hp)) (Same.free (Same.new hq) hp) ?_
    rw [upd_same, srcEnds_out hcm]
    have e : ((((row.map V.int).length : Nat) : Int) - (S.came : Int)) = ((row.length - S.came : Nat) : Int) := by
      rw [List.length_map]
      omega
    rw [e]
    unfold cutV
    rw [HT.sIx_none, HT.sIx_nat, List.drop_zero]
    by_cases c : S.came < row.length
    · have e2 : min (row.length - S.came) [V.int 0].length - 0 = 1 := by
        show min (row.length - S.came) 1 - 0 = 1
        omega
      rw [if_pos c, e2]
      rfl
    · have e2 : min (row.length - S.came) [V.int 0].length - 0 = 0 := by
        show min (row.length - S.came) 1 - 0 = 0
        omega
      rw [if_neg c, e2]
      rfl
  · obtain ⟨j, ej, _, hj⟩ := nat_of h0 h1
    subst ej
    refine iteDF (by omega) ?_
    have hjl : j < S.held.length := by omega
    obtain ⟨hv, e1, e2⟩ := hhs.get (get_map (f := dInts) (List.getElem?_eq_getElem hjl))
    obtain ⟨ha2, rfl, hx⟩ := ints_inv e2
    have hSl : S.held[j]? = some S.held[j] := List.getElem?_eq_getElem hjl
    have hdl : devs[j]? = some devs[j] := List.getElem?_eq_getElem hj
    have es := srcEnds_dev (n := row.length) hdl hSl
    refine ⟨_, rfl, a, _, _, _, rfl, rfl, SqT.of ha, at_of (j := 1) rfl rfl, _, rfl, b, _, _, _, rfl, rfl, SqT.of hb, at_of rfl e1, _, .inr (.inl ⟨_, SqT.of hx, rfl⟩), ?_⟩
    cases hl : S.held[j] with
    | nil =>
      rw [hl] at es
      refine ⟨(szl rfl), fun q hq => k q _ (Same.new hq) hq ?_⟩
      rw [upd_same, es]
      rfl
    | cons x t =>
      rw [hl] at es
      rw [if_neg (by simp)] at es
      obtain ⟨p, d, l, x0, x1, x2, ys, zs, rfl, n1, n2, n3, n4, n5⟩ := hN
      obtain ⟨yv, y1, y2⟩ := n3.get (get_map (f := dDev) hdl)
      obtain ⟨ya, rfl, hya⟩ := dev_inv y2
      intro q hq
      have s0 := Same.new (o := .dK []) hq
      refine ⟨(szl rfl), fun l1 hl1 => ⟨(szl rfl), fun l2 hl2 => ⟨(szl rfl), fun l3 hl3 => ⟨(szl rfl), fun l4 hl4 => ⟨(szl rfl), fun l5 hl5 => ?_⟩⟩⟩⟩⟩
      have s1 := Same.new (o := .lst [V.int 1]) hl1
      have s2 := Same.new (o := .lst [V.int 0]) hl2
      have s3 := Same.new (o := .lst [V.int 0, V.int 1]) hl3
      have s4 := Same.new (o := .lst [V.int 0, V.int 1]) hl4
      have s5 := Same.new (o := .lst [V.int 1]) hl5
      have s15 := Same.trans s1 (Same.trans s2 (Same.trans s3 (Same.trans s4 s5)))
      have hq5 := s15 _ _ (upd_same (H := H) (a := q) (o := .dK []))
      refine ⟨hq5, tab5 (fun l => match l with | .s => V.ref l1 | .q => V.ref l2 | .d => V.ref l3 | .i => V.ref l4 | .o => V.ref l5), rfl, (by show 5 ≤ 15; decide), ?_⟩
      have s6 := Same.mut (o := .dK (mergeK [] (tab5 (fun l => match l with | .s => V.ref l1 | .q => V.ref l2 | .d => V.ref l3 | .i => V.ref l4 | .o => V.ref l5)))) (Same.trans s0 s15) hq
      refine ⟨_, rfl, p, _, _, _, rfl, rfl, SqL.of (s6 _ _ n1), at_of (j := 3) rfl rfl, _, rfl, d, _, _, _, rfl, rfl, SqL.of (s6 _ _ n2), at_of rfl y1, ya, _, _, _, rfl, rfl, SqL.of (s6 _ _ hya), at_of (j := 0) rfl rfl, ?_⟩
      have z := DGet.k (k := (.inr devs[j].ltr.txt : Key)) (upd_same (H := upd (upd (upd (upd (upd (upd H q (.dK [])) l1 (.lst [V.int 1])) l2 (.lst [V.int 0])) l3 (.lst [V.int 0, V.int 1])) l4 (.lst [V.int 0, V.int 1])) l5 (.lst [V.int 1])) (a := q) (o := .dK (mergeK [] (tab5 (fun l => match l with | .s => V.ref l1 | .q => V.ref l2 | .d => V.ref l3 | .i => V.ref l4 | .o => V.ref l5)))))
      rw [tab5_get] at z
      refine ⟨q, _, rfl, z, ?_⟩
      have nq : ∀ c : Addr, c ≠ q → upd (upd (upd (upd (upd (upd (upd H q (.dK [])) l1 (.lst [V.int 1])) l2 (.lst [V.int 0])) l3 (.lst [V.int 0, V.int 1])) l4 (.lst [V.int 0, V.int 1])) l5 (.lst [V.int 1])) q (.dK (mergeK [] (tab5 (fun l => match l with | .s => V.ref l1 | .q => V.ref l2 | .d => V.ref l3 | .i => V.ref l4 | .o => V.ref l5)))) c = upd (upd (upd (upd (upd (upd H q (.dK [])) l1 (.lst [V.int 1])) l2 (.lst [V.int 0])) l3 (.lst [V.int 0, V.int 1])) l4 (.lst [V.int 0, V.int 1])) l5 (.lst [V.int 1]) c := fun c hc => upd_ne hc
      have q0 : upd H q (.dK []) q = some (.dK []) := upd_same
      have ne1 : l1 ≠ q := fun z => by rw [z, q0] at hl1; cases hl1
      have ne2 : l2 ≠ q := fun z => by rw [z, s1 _ _ q0] at hl2; cases hl2
      have ne3 : l3 ≠ q := fun z => by rw [z, s2 _ _ (s1 _ _ q0)] at hl3; cases hl3
      have ne4 : l4 ≠ q := fun z => by rw [z, s3 _ _ (s2 _ _ (s1 _ _ q0))] at hl4; cases hl4
      have ne5 : l5 ≠ q := fun z => by rw [z, s4 _ _ (s3 _ _ (s2 _ _ (s1 _ _ q0)))] at hl5; cases hl5
      have fin : ∀ (lt : Ltr) (la : Addr), (match lt with | .s => V.ref l1 | .q => V.ref l2 | .d => V.ref l3 | .i => V.ref l4 | .o => V.ref l5) = V.ref la →
          upd (upd (upd (upd (upd (upd (upd H q (.dK [])) l1 (.lst [V.int 1])) l2 (.lst [V.int 0])) l3 (.lst [V.int 0, V.int 1])) l4 (.lst [V.int 0, V.int 1])) l5 (.lst [V.int 1])) q (.dK (mergeK [] (tab5 (fun l => match l with | .s => V.ref l1 | .q => V.ref l2 | .d => V.ref l3 | .i => V.ref l4 | .o => V.ref l5)))) la = some (.lst (lt.outs.map V.int)) := by
        intro lt la e
        cases lt with
        | s => cases e; rw [nq _ ne1]; exact s5 _ _ (s4 _ _ (s3 _ _ (s2 _ _ upd_same)))
        | q => cases e; rw [nq _ ne2]; exact s5 _ _ (s4 _ _ (s3 _ _ upd_same))
        | d => cases e; rw [nq _ ne3]; exact s5 _ _ (s4 _ _ upd_same)
        | i => cases e; rw [nq _ ne4]; exact s5 _ _ upd_same
        | o => cases e; rw [nq _ ne5]; exact upd_same
      have fr : ∀ (lt : Ltr) (la : Addr), (match lt with | .s => V.ref l1 | .q => V.ref l2 | .d => V.ref l3 | .i => V.ref l4 | .o => V.ref l5) = V.ref la → H la = Option.none := by
        intro lt la e
        cases lt with
        | s => cases e; exact Same.free s0 hl1
        | q => cases e; exact Same.free s0 (Same.free s1 hl2)
        | d => cases e; exact Same.free s0 (Same.free s1 (Same.free s2 hl3))
        | i => cases e; exact Same.free s0 (Same.free s1 (Same.free s2 (Same.free s3 hl4)))
        | o => cases e; exact Same.free s0 (Same.free s1 (Same.free s2 (Same.free s3 (Same.free s4 hl5))))
      cases hlt : devs[j].ltr with
      | s => exact k _ _ s6 (fr .s _ rfl) (by rw [es, hlt]; exact fin .s _ rfl)
      | q => exact k _ _ s6 (fr .q _ rfl) (by rw [es, hlt]; exact fin .q _ rfl)
      | d => exact k _ _ s6 (fr .d _ rfl) (by rw [es, hlt]; exact fin .d _ rfl)
      | i => exact k _ _ s6 (fr .i _ rfl) (by rw [es, hlt]; exact fin .i _ rfl)
      | o => exact k _ _ s6 (fr .o _ rfl) (by rw [es, hlt]; exact fin .o _ rfl)
end
end Ys
/-! The law's own moves, second part: _law_ins, _law_moves, _law_live, _law_start. -/
namespace Ys
open PySem PySem.Spec PyProof.Rows L2
theorem and_test {c1 c2 A B T : Prop} [Decidable c1] [Decidable c2] (h1 : c1 → c2 → A) (h2 : ¬ (c1 ∧ c2) → B) (hT : (if decide c2 = true then A else B) → T) : if decide c1 = true then T else (if false = true then A else B) := by
  by_cases e1 : c1
  · refine iteDT e1 (hT ?_)
    by_cases e2 : c2
    · exact iteDT e2 (h1 e1 e2)
    · exact iteDF e2 (h2 fun z => e2 z.2)
  · exact iteDF e1 (iteF (h2 fun z => e1 z.1))
section
variable {P : Program} {w : World} {K : PySem.W.Frag} {mg : Str → Option Value} {base : Heap}
abbrev s_law_ins : Stmt := top 54
theorem sc_law_ins : FnScope ["_law_net_here", "_law_situation", "_law_target", "_law_letter", "_law_bound"] ["_law_net_here", "_law_situation", "_law_target"] (defScope s_law_ins) := ⟨rfl, rfl, rfl, by decide +kernel, rfl, by decide +kernel, by decide +kernel⟩
theorem bd_law_ins : BindsAs "_law_ins" "_law_ins" s_law_ins ["_law_net_here", "_law_situation", "_law_target"] := fun _ _ _ _ _ _ us hl => match us, hl with | [_, _, _], _ => rfl
def spLIns : Sp := fun vs H Q _ => ∃ (vn vs' : V) (devs : List Dev) (L : List (Int × Int)) (S : Sit) (tgt : Int), vs = [vn, vs', .int tgt] ∧ PlanAt H vn devs L ∧ Dt H vs' (dSit S) ∧
  S.held.length = devs.length ∧ (tgt = -1 ∨ (0 ≤ tgt ∧ tgt < devs.length)) ∧ ∀ (p : Addr) (H' : Hp), Same H H' → H p = none → H' p = some (.lst ((tgtEnds devs S tgt).map V.int)) → Q (.ref p) H'
theorem ok_lins (G : Glo mg) (D : DefAt K mg "_law_ins" s_law_ins) : Kp P w K mg base "_law_ins" 1 ["_law_net_here", "_law_situation", "_law_target"] spLIns := by
  refine kp_of D sc_law_ins bd_law_ins (fun vs H Q E ⟨_, _, _, _, _, _, h, _⟩ => by rw [h]; rfl) fun f cdv A outer s H vs Q E hr h => ?_
  obtain ⟨vn, v, devs, L, S, tgt, rfl, hN, hS, hlen, htgt, k⟩ := h
  have hu := hu_of hr
  refine ⟨_, (pss_cons (ps_if (pt_cmpR op_lt (pv 2) pe_int (nomark _))
      (pss_one (ps_ret (pe_lst (pa_cons pe_int pa_nil))))
      pss_nil)
    (pss_cons (ps_asg (pe_ix ix_list (pe_ix ix_list (pv 0) pe_int (fun _ _ => rfl)) (pv 2) (fun _ _ => rfl)) (pg_unl (by rfl) (pgs_cons (pg_name (i := 3) sc_law_ins.nd rfl (Or.inl rfl)) (pgs_cons (pg_name (i := 4) sc_law_ins.nd rfl (Or.inl rfl)) pgs_nil))))
    (pss_cons (ps_if (PW.pt (pw_and (pt_cmpR op_gt (pv 4) pe_int (nomark _)) (pw_and1 (pt_cmpR op_ge (pe_callB call_len_seq (by rfl) G.len PySem.boot_len (pa_cons (pe_ix ix_tup (pe_ix ix_tup (pv 1) pe_int (fun _ _ => rfl)) (pv 2) (fun _ _ => rfl)) pa_nil)) (pv 4) (nomark _)))))
      (pss_one (ps_ret (pe_lst pa_nil)))
      pss_nil)
    (pss_one (ps_ret (pe_dget hu (pe_disp (pps_cons pe_str (pe_lst (pa_cons pe_int pa_nil)) (pps_cons pe_str (pe_lst (pa_cons pe_int pa_nil)) (pps_cons pe_str (pe_lst (pa_cons pe_int (pa_cons pe_int pa_nil))) (pps_cons pe_str (pe_lst (pa_cons pe_int pa_nil)) (pps_cons pe_str (pe_lst (pa_cons pe_int (pa_cons pe_int pa_nil))) pps_nil))))) (by rfl) (by rfl) (fun z => by cases z) (by decide))
      (pv 3) (fun _ _ => rfl))))))), ?_⟩
  obtain ⟨a, b, g, hs, rfl, ha, hb, hhs, hg⟩ := sit_inv hS
  refine ⟨_, rfl, _, _, rfl, rfl, _, rfl, ?_⟩
  rcases htgt with rfl | ⟨h0, h1⟩
  · refine iteDT (by decide) ?_
    refine ⟨(szl rfl), fun q hq => k q _ (Same.new hq) hq ?_⟩
    rw [upd_same, tgtEnds_out]
    rfl
  · obtain ⟨j, ej, _, hj⟩ := nat_of h0 h1
    subst ej
    refine iteDF (by omega) ?_
    have hjl : j < S.held.length := by omega
    obtain ⟨hv, e1, e2⟩ := hhs.get (get_map (f := dInts) (List.getElem?_eq_getElem hjl))
    obtain ⟨ha2, rfl, hx⟩ := ints_inv e2
    have hSl : S.held[j]? = some S.held[j] := List.getElem?_eq_getElem hjl
    have hdl : devs[j]? = some devs[j] := List.getElem?_eq_getElem hj
    have es := tgtEnds_dev hdl hSl
    obtain ⟨p, d, l, x0, x1, x2, ys, zs, rfl, n1, n2, n3, n4, n5⟩ := hN
    obtain ⟨yv, y1, y2⟩ := n3.get (get_map (f := dDev) hdl)
    obtain ⟨ya, rfl, hya⟩ := dev_inv y2
    refine ⟨_, rfl, p, _, _, _, rfl, rfl, SqL.of n1, at_of (j := 3) rfl rfl, _, rfl, d, _, _, _, rfl, rfl, SqL.of n2, at_of rfl y1, ya, _, rfl, SqL.of hya, rfl, _, _, rfl, _, _, rfl, rfl, ?_⟩
    refine ⟨_, rfl, _, _, rfl, rfl, _, rfl, and_test (c2 := ((devs[j].bound : Nat) : Int) ≤ ((S.held[j].map V.int).length : Nat)) (fun c1 c2 => ?_) (fun c => ?_) (fun z => ⟨_, rfl, a, _, _, _, rfl, rfl, SqT.of ha, at_of (j := 1) rfl rfl, _, rfl, b, _, _, _, rfl, rfl, SqT.of hb, at_of rfl e1, ha2, _, rfl, .inr (SqT.of hx), _, rfl, _, _, rfl, rfl, _, rfl, z⟩)⟩
    · rw [List.length_map] at c2
      rw [if_pos ⟨by omega, by omega⟩] at es
      refine ⟨(szl rfl), fun q hq => k q _ (Same.new hq) hq ?_⟩
      rw [upd_same, es]
      rfl
    · rw [List.length_map] at c
      rw [if_neg (by omega)] at es
      intro q hq
      have s0 := Same.new (o := .dK []) hq
      refine ⟨(szl rfl), fun l1 hl1 => ⟨(szl rfl), fun l2 hl2 => ⟨(szl rfl), fun l3 hl3 => ⟨(szl rfl), fun l4 hl4 => ⟨(szl rfl), fun l5 hl5 => ?_⟩⟩⟩⟩⟩
      have s1 := Same.new (o := .lst [V.int 1]) hl1
      have s2 := Same.new (o := .lst [V.int 1]) hl2
      have s3 := Same.new (o := .lst [V.int 0, V.int 1]) hl3
      have s4 := Same.new (o := .lst [V.int 1]) hl4
      have s5 := Same.new (o := .lst [V.int 0, V.int 1]) hl5
      have s15 := Same.trans s1 (Same.trans s2 (Same.trans s3 (Same.trans s4 s5)))
      have hq5 := s15 _ _ (upd_same (H := H) (a := q) (o := .dK []))
      refine ⟨hq5, tab5 (fun l => match l with | .s => V.ref l1 | .q => V.ref l2 | .d => V.ref l3 | .i => V.ref l4 | .o => V.ref l5), rfl, (by show 5 ≤ 15; decide), ?_⟩
      have s6 := Same.mut (o := .dK (mergeK [] (tab5 (fun l => match l with | .s => V.ref l1 | .q => V.ref l2 | .d => V.ref l3 | .i => V.ref l4 | .o => V.ref l5)))) (Same.trans s0 s15) hq
      refine ⟨_, rfl, ?_⟩
      have z := DGet.k (k := (.inr devs[j].ltr.txt : Key)) (upd_same (H := upd (upd (upd (upd (upd (upd H q (.dK [])) l1 (.lst [V.int 1])) l2 (.lst [V.int 1])) l3 (.lst [V.int 0, V.int 1])) l4 (.lst [V.int 1])) l5 (.lst [V.int 0, V.int 1])) (a := q) (o := .dK (mergeK [] (tab5 (fun l => match l with | .s => V.ref l1 | .q => V.ref l2 | .d => V.ref l3 | .i => V.ref l4 | .o => V.ref l5)))))
      rw [tab5_get] at z
      refine ⟨q, _, rfl, z, ?_⟩
      have nq : ∀ c : Addr, c ≠ q → upd (upd (upd (upd (upd (upd (upd H q (.dK [])) l1 (.lst [V.int 1])) l2 (.lst [V.int 1])) l3 (.lst [V.int 0, V.int 1])) l4 (.lst [V.int 1])) l5 (.lst [V.int 0, V.int 1])) q (.dK (mergeK [] (tab5 (fun l => match l with | .s => V.ref l1 | .q => V.ref l2 | .d => V.ref l3 | .i => V.ref l4 | .o => V.ref l5)))) c = upd (upd (upd (upd (upd (upd H q (.dK [])) l1 (.lst [V.int 1])) l2 (.lst [V.int 1])) l3 (.lst [V.int 0, V.int 1])) l4 (.lst [V.int 1])) l5 (.lst [V.int 0, V.int 1]) c := fun c hc => upd_ne hc
      have q0 : upd H q (.dK []) q = some (.dK []) := upd_same
      have ne1 : l1 ≠ q := fun z => by rw [z, q0] at hl1; cases hl1
      have ne2 : l2 ≠ q := fun z => by rw [z, s1 _ _ q0] at hl2; cases hl2
      have ne3 : l3 ≠ q := fun z => by rw [z, s2 _ _ (s1 _ _ q0)] at hl3; cases hl3
      have ne4 : l4 ≠ q := fun z => by rw [z, s3 _ _ (s2 _ _ (s1 _ _ q0))] at hl4; cases hl4
      have ne5 : l5 ≠ q := fun z => by rw [z, s4 _ _ (s3 _ _ (s2 _ _ (s1 _ _ q0)))] at hl5; cases hl5
      have fin : ∀ (lt : Ltr) (la : Addr), (match lt with | .s => V.ref l1 | .q => V.ref l2 | .d => V.ref l3 | .i => V.ref l4 | .o => V.ref l5) = V.ref la →
          upd (upd (upd (upd (upd (upd (upd H q (.dK [])) l1 (.lst [V.int 1])) l2 (.lst [V.int 1])) l3 (.lst [V.int 0, V.int 1])) l4 (.lst [V.int 1])) l5 (.lst [V.int 0, V.int 1])) q (.dK (mergeK [] (tab5 (fun l => match l with | .s => V.ref l1 | .q => V.ref l2 | .d => V.ref l3 | .i => V.ref l4 | .o => V.ref l5)))) la = some (.lst (lt.ins.map V.int)) := by
        intro lt la e
        cases lt with
        | s => cases e; rw [nq _ ne1]; exact s5 _ _ (s4 _ _ (s3 _ _ (s2 _ _ upd_same)))
        | q => cases e; rw [nq _ ne2]; exact s5 _ _ (s4 _ _ (s3 _ _ upd_same))
        | d => cases e; rw [nq _ ne3]; exact s5 _ _ (s4 _ _ upd_same)
        | i => cases e; rw [nq _ ne4]; exact s5 _ _ upd_same
        | o => cases e; rw [nq _ ne5]; exact upd_same
      have fr : ∀ (lt : Ltr) (la : Addr), (match lt with | .s => V.ref l1 | .q => V.ref l2 | .d => V.ref l3 | .i => V.ref l4 | .o => V.ref l5) = V.ref la → H la = Option.none := by
        intro lt la e
        cases lt with
        | s => cases e; exact Same.free s0 hl1
        | q => cases e; exact Same.free s0 (Same.free s1 hl2)
        | d => cases e; exact Same.free s0 (Same.free s1 (Same.free s2 hl3))
        | i => cases e; exact Same.free s0 (Same.free s1 (Same.free s2 (Same.free s3 hl4)))
        | o => cases e; exact Same.free s0 (Same.free s1 (Same.free s2 (Same.free s3 (Same.free s4 hl5))))
      cases hlt : devs[j].ltr with
      | s => exact k _ _ s6 (fr .s _ rfl) (by rw [es, hlt]; exact fin .s _ rfl)
      | q => exact k _ _ s6 (fr .q _ rfl) (by rw [es, hlt]; exact fin .q _ rfl)
      | d => exact k _ _ s6 (fr .d _ rfl) (by rw [es, hlt]; exact fin .d _ rfl)
      | i => exact k _ _ s6 (fr .i _ rfl) (by rw [es, hlt]; exact fin .i _ rfl)
      | o => exact k _ _ s6 (fr .o _ rfl) (by rw [es, hlt]; exact fin .o _ rfl)
end
end Ys
/-! The law's own moves, third part: _law_moves, _law_live, _law_start. -/
namespace Ys
open PySem PySem.Spec PyProof.Rows L2
theorem flatMap_take {α β : Type} {l : List α} {i : Nat} {x : α} (h : l[i]? = some x) (f : α → List β) : (l.take (i + 1)).flatMap f = (l.take i).flatMap f ++ f x := by
  rw [List.take_add_one, h]
  simp
theorem map_take_add {α β : Type} {l : List α} {i : Nat} {x : α} (h : l[i]? = some x) (f : α → β) : (l.take (i + 1)).map f = (l.take i).map f ++ [f x] := by
  rw [List.take_add_one, h]
  simp
theorem mv_tuple (x : Mv) : ∃ y r, dMv x = .tuple (y :: r) := ⟨_, _, rfl⟩
theorem sit_tuple (x : Sit) : ∃ y r, dSit x = .tuple (y :: r) := ⟨_, _, rfl⟩
theorem lt_of_get {α : Type} {l : List α} {i : Nat} {x : α} (h : l[i]? = some x) : i < l.length := (List.getElem?_eq_some_iff.mp h).1
def startS (n : Nat) : Sit := ⟨0, List.replicate n [], []⟩
theorem rgV_upTo (n : Nat) : rgV 1 ((n : Int) + 1) = (upTo n).map V.int := by
  unfold rgV upTo
  have e : ((n : Int) + 1 - 1).toNat = n := by omega
  rw [e, List.map_map]
  refine List.map_congr_left fun i _ => ?_
  show V.int (1 + (i : Int)) = V.int ((i : Int) + 1)
  rw [Int.add_comm]
theorem eqvAll_ints : ∀ l m : List Int, PyData.eqvAll (l.map PyData.int) (m.map PyData.int) = decide (l = m)
  | [], [] => by simp [PyData.eqvAll]
  | [], y :: m => by simp [PyData.eqvAll]
  | x :: l, [] => by simp [PyData.eqvAll]
  | x :: l, y :: m => by
    simp only [List.map_cons, PyData.eqvAll, eqvAll_ints l m, PyData.eqv]
    by_cases h1 : x = y
    · by_cases h2 : l = m
      · simp [h1, h2]
      · simp [h1, h2]
    · simp [h1]
theorem eqv_ints (l m : List Int) : PyData.eqv (.list (l.map PyData.int)) (.list (m.map PyData.int)) = decide (l = m) := by
  rw [PyData.eqv, eqvAll_ints]
theorem lay_ints : ∀ l : List Int, PyData.canLayAll0 (l.map PyData.int) = true
  | [] => by simp [PyData.canLayAll0]
  | x :: l => by simp [PyData.canLayAll0, PyData.canLay0, lay_ints l]
theorem shaped_ints (l : List Int) : SeqAt.shaped (.list (l.map PyData.int)) = true := by
  show (PyData.canLay0 (.list (l.map PyData.int)) && decide (PyData.depth (.list (l.map PyData.int)) ≤ 64)) = true
  rw [Bool.and_eq_true]
  refine ⟨by simp only [PyData.canLay0]; exact lay_ints l, decide_eq_true ?_⟩
  have := depthAll_le' PyData.int 0 (fun x => by simp [PyData.depth]) l
  simp only [PyData.depth]
  omega
instance (S : Sit) : Decidable (Live S) := by
  unfold Live
  infer_instance

section
variable {P : Program} {w : World} {K : PySem.W.Frag} {mg : Str → Option Value} {base : Heap}
abbrev s_law_moves : Stmt := top 55
theorem sc_law_moves : FnScope ["_law_net_here", "_law_row_here", "_law_situation", "_law_moves_here", "_law_source", "_law_target", "_law_out", "_law_end"] ["_law_net_here", "_law_row_here", "_law_situation"] (defScope s_law_moves) := ⟨rfl, rfl, rfl, by decide +kernel, rfl, by decide +kernel, by decide +kernel⟩
theorem bd_law_moves : BindsAs "_law_moves" "_law_moves" s_law_moves ["_law_net_here", "_law_row_here", "_law_situation"] := fun _ _ _ _ _ _ us hl => match us, hl with | [_, _, _], _ => rfl
def spLMoves : Sp := fun vs H Q _ => ∃ (vn vs' : V) (ra : Addr) (row : List Int) (devs : List Dev) (L : List (Int × Int)) (S : Sit), vs = [vn, .ref ra, vs'] ∧ PlanAt H vn devs L ∧ H ra = some (.lst (row.map V.int)) ∧ Dt H vs' (dSit S) ∧
  S.held.length = devs.length ∧ S.came ≤ row.length ∧ LinksOk devs.length L ∧ L.length ≤ 1000 ∧ ∀ (p : Addr) (ys : List V) (ms : List Mv) (H' : Hp), Same H H' → H p = none → H' p = some (.lst ys) → DtAll H' ys (ms.map dMv) → ms.Perm (moves L devs row.length S) → Q (.ref p) H'
theorem ok_lmoves (G : Glo mg) (D : DefAt K mg "_law_moves" s_law_moves) (k_law_outs : Kp P w K mg base "_law_outs" 1 ["_law_net_here", "_law_row_here", "_law_situation", "_law_source"] spLOuts) (k_law_ins : Kp P w K mg base "_law_ins" 1 ["_law_net_here", "_law_situation", "_law_target"] spLIns) :
    Kp P w K mg base "_law_moves" 2 ["_law_net_here", "_law_row_here", "_law_situation"] spLMoves := by
  refine kp_of D sc_law_moves bd_law_moves (fun vs H Q E ⟨_, _, _, _, _, _, _, h, _⟩ => by rw [h]; rfl) fun f cdv A outer s H vs Q E hr_law_outs h => ?_
  obtain ⟨vn, v, ra, row, devs, L, S, rfl, hN, hrow, hS, hlen, hcm, hL, hLl, k⟩ := h
  have hr_law_ins := hr_law_outs
  have hu := hr_law_outs.units
  refine ⟨_, (pss_cons (ps_set (i := 3) sc_law_moves.nd rfl (Or.inl rfl) (pe_lst pa_nil))
    (pss_cons (ps_for PassesOwn.never rfl (pi_list (pe_ix ix_list (pv 0) pe_int (fun _ _ => rfl))) (pg_tup (by rfl) (pgs_cons (pg_name (i := 4) sc_law_moves.nd rfl (Or.inl rfl)) (pgs_cons (pg_name (i := 5) sc_law_moves.nd rfl (Or.inl rfl)) pgs_nil)))
      (pss_one (ps_for PassesOwn.never rfl (pi_list (pe_kp k_law_outs hr_law_outs (by rfl) (pa_cons (pv 0) (pa_cons (pv 1) (pa_cons (pv 2) (pa_cons (pv 4) pa_nil)))))) (pg_name (i := 6) sc_law_moves.nd rfl (Or.inl rfl))
        (pss_one (ps_for PassesOwn.never rfl (pi_list (pe_kp k_law_ins hr_law_ins (by rfl) (pa_cons (pv 0) (pa_cons (pv 2) (pa_cons (pv 5) pa_nil))))) (pg_name (i := 7) sc_law_moves.nd rfl (Or.inl rfl))
          (pss_one (ps_expr (pe_bm PySem.F.plainAttrs_list PySem.F.slot_list_append PySem.F.type_list_append mt_append (pv 3) (pa_cons (pe_tup (pa_cons (pv 4) (pa_cons (pv 6) (pa_cons (pv 5) (pa_cons (pv 7) pa_nil))))) pa_nil)))))))))
    (pss_one (ps_ret (pe_callB (cr_sortedDt hu) (by rfl) G.sorted (by decide +kernel) (pa_cons (pv 3) pa_nil)))))), ?_⟩
  obtain ⟨p, d, l0, x0, x1, x2, ys0, zs, rfl, n1, n2, n3, n4, n5⟩ := id hN
  refine ⟨Nat.zero_le _, fun l hl => ?_⟩
  have s0 : Same H (upd H l (.lst [])) := Same.new hl
  have hzl : zs.length = L.length := by
    have := n5.length
    rw [List.length_map] at this
    exact this
  refine ⟨_, rfl, p, _, _, _, rfl, rfl, SqL.of (s0 _ _ n1), at_of (j := 4) rfl rfl, l0, rfl, ⟨_, SqL.of (s0 _ _ n4)⟩, for_list (K := K) (a := l0) (xs := zs)
    (fun i σ H' => ∃ (ys : List V) (v4 v5 v6 v7 : Option V), σ = [some (.ref p), some (.ref ra), some v, some (.ref l), v4, v5, v6, v7] ∧ Same H H' ∧ H' l = some (.lst ys) ∧ DtAll H' ys ((moves (L.take i) devs row.length S).map dMv) ∧ ys.length ≤ 4 * i)
    ⟨[], _, _, _, _, rfl, s0, upd_same, .nil, Nat.zero_le _⟩ (fun i σ H' _ ⟨_, _, _, _, _, _, s, _⟩ => SqL.of (s _ _ n4)) ?_ ?_⟩
  · rintro i y σ H1 hi ⟨ys, v4, v5, v6, v7, rfl, s1, h1, hD1, hl1⟩
    obtain ⟨dl, hdl, hyd⟩ := n5.get' hi
    obtain ⟨lk, hlk, rfl⟩ : ∃ lk, L[i]? = some lk ∧ dl = dLink lk := by
      rw [List.getElem?_map] at hdl
      cases e : L[i]? with
      | none => rw [e] at hdl; cases hdl
      | some lk => rw [e] at hdl; exact ⟨lk, rfl, (Option.some.inj hdl).symm⟩
    obtain ⟨ta, rfl, hta⟩ := link_inv hyd
    obtain ⟨o1, o2⟩ := hL lk (List.mem_of_getElem? hlk)
    have hiL := lt_of_get hlk
    refine ⟨ta, _, rfl, SqT.of (s1 _ _ hta), rfl, _, _, rfl, _, _, rfl, rfl, ?_⟩
    refine ⟨_, rfl, _, rfl, _, rfl, _, rfl, .ref p, v, ra, row, devs, L, S, lk.1, rfl, hN.same s1, s1 _ _ hrow, hS.same s1, hlen, hcm, o1, fun p1 H2 s2 f2 h2 => ?_⟩
    have np1 : p1 ≠ l := fun z => by rw [z, h1] at f2; cases f2
    refine ⟨p1, rfl, ⟨_, SqL.of h2⟩, for_list (K := K) (a := p1) (xs := (srcEnds devs row.length S lk.1).map V.int)
      (fun j σ H' => ∃ (ys : List V) (v6 v7 : Option V), σ = [some (.ref p), some (.ref ra), some v, some (.ref l), some (.int lk.1), some (.int lk.2), v6, v7] ∧ Same H H' ∧ H' l = some (.lst ys) ∧ H' p1 = some (.lst ((srcEnds devs row.length S lk.1).map V.int)) ∧
        DtAll H' ys ((moves (L.take i) devs row.length S ++ ((srcEnds devs row.length S lk.1).take j).flatMap fun o => (tgtEnds devs S lk.2).map fun e => (⟨lk.1, o, lk.2, e⟩ : Mv)).map dMv) ∧ ys.length ≤ 4 * i + 2 * j)
      ⟨ys, _, _, rfl, Same.trans s1 s2, s2 _ _ h1, h2, by rw [List.take_zero, List.flatMap_nil, List.append_nil]; exact hD1.same s2, hl1⟩ (fun j σ H' _ ⟨_, _, _, _, _, _, z, _⟩ => SqL.of z) ?_ ?_⟩
    · rintro j y σ H3 hj ⟨ys, v6, v7, rfl, s3, h3, q3, hD3, hl3⟩
      obtain ⟨o, ho, rfl⟩ := map_get hj
      have hj2 : j < 2 := Nat.lt_of_lt_of_le (lt_of_get ho) (srcEnds_len _ _ _ _)
      refine ⟨_, rfl, _, rfl, _, rfl, .ref p, v, devs, L, S, lk.2, rfl, hN.same s3, hS.same s3, hlen, o2, fun p2 H4 s4 f4 h4 => ?_⟩
      have np2 : p2 ≠ l := fun z => by rw [z, h3] at f4; cases f4
      refine ⟨p2, rfl, ⟨_, SqL.of h4⟩, for_list (K := K) (a := p2) (xs := (tgtEnds devs S lk.2).map V.int)
        (fun m σ H' => ∃ (ys : List V) (v7 : Option V), σ = [some (.ref p), some (.ref ra), some v, some (.ref l), some (.int lk.1), some (.int lk.2), some (.int o), v7] ∧ Same H H' ∧ H' l = some (.lst ys) ∧ H' p1 = some (.lst ((srcEnds devs row.length S lk.1).map V.int)) ∧ H' p2 = some (.lst ((tgtEnds devs S lk.2).map V.int)) ∧
          DtAll H' ys (((moves (L.take i) devs row.length S ++ ((srcEnds devs row.length S lk.1).take j).flatMap fun o => (tgtEnds devs S lk.2).map fun e => (⟨lk.1, o, lk.2, e⟩ : Mv)) ++ ((tgtEnds devs S lk.2).take m).map fun e => (⟨lk.1, o, lk.2, e⟩ : Mv)).map dMv) ∧ ys.length ≤ 4 * i + 2 * j + m)
        ⟨ys, _, rfl, Same.trans s3 s4, s4 _ _ h3, s4 _ _ q3, h4, by rw [List.take_zero, List.map_nil, List.append_nil]; exact hD3.same s4, hl3⟩ (fun m σ H' _ ⟨_, _, _, _, _, _, z, _⟩ => SqL.of z) ?_ ?_⟩
      · rintro m y σ H5 hm ⟨ys, v7, rfl, s5, h5, q5, r5, hD5, hl5⟩
        obtain ⟨e, he, rfl⟩ := map_get hm
        have hm2 : m < 2 := Nat.lt_of_lt_of_le (lt_of_get he) (tgtEnds_len _ _ _)
        refine ⟨_, rfl, .inl ⟨rfl, _, SqL.of h5⟩, _, rfl, _, rfl, _, rfl, _, rfl, (szl rfl), fun t ht => ?_⟩
        have nlt : l ≠ t := ne_of_none h5 ht
        have n1t : p1 ≠ t := ne_of_none q5 ht
        have n2t : p2 ≠ t := ne_of_none r5 ht
        refine ⟨l, ys, .ref t, rfl, rfl, (upd_ne nlt).trans h5, small (by omega), ?_⟩
        have st : Same H5 (upd H5 t (.tup [.int lk.1, .int o, .int lk.2, .int e])) := Same.new ht
        refine ⟨ys ++ [.ref t], _, rfl, Same.mut (Same.trans s5 st) hl, upd_same, by rw [upd_ne np1, upd_ne n1t]; exact q5, by rw [upd_ne np2, upd_ne n2t]; exact r5, ?_, by rw [List.length_append, List.length_singleton]; omega⟩
        rw [map_take_add he, ← List.append_assoc, List.map_append]
        refine DtAll.snoc ?_ (.tup (by rw [upd_ne nlt.symm]; exact upd_same) (.cons (.int _) (.cons (.int _) (.cons (.int _) (.cons (.int _) .nil)))))
        exact hD5.tups (Tups.trans (Tups.of_same st) (Tups.put ((upd_ne nlt).trans h5) (fun _ z => nomatch z))) _ _ (noLists_map noList_mv _)
      · rintro σ H5 ⟨ys, v7, rfl, s5, h5, q5, r5, hD5, hl5⟩
        rw [List.length_map] at hD5 hl5
        have := tgtEnds_len devs S lk.2
        refine ⟨ys, _, _, rfl, s5, h5, q5, ?_, by omega⟩
        rw [List.take_length, List.append_assoc] at hD5
        rw [flatMap_take ho]
        exact hD5
    · rintro σ H3 ⟨ys, v6, v7, rfl, s3, h3, q3, hD3, hl3⟩
      rw [List.length_map] at hD3 hl3
      have := srcEnds_len devs row.length S lk.1
      refine ⟨ys, _, _, _, _, rfl, s3, h3, ?_, by omega⟩
      rw [List.take_length] at hD3
      unfold moves
      rw [flatMap_take hlk]
      exact hD3
  · rintro σ H1 ⟨ys, v4, v5, v6, v7, rfl, s1, h1, hD1, hl1⟩
    refine ⟨_, rfl, ?_⟩
    dsimp only [tNil]
    refine sorted_maps alike_dMv mv_tuple dMv_depth h1 hD1 fun ms us r pm hms hr' => ?_
    rw [hzl, List.take_length] at pm
    exact k r us ms _ (Same.trans s1 (Same.new hr')) (Same.free s1 hr') upd_same (hms.same (Same.new hr')) pm

abbrev s_law_live : Stmt := top 57
theorem sc_law_live : FnScope ["_law_situation"] ["_law_situation"] (defScope s_law_live) := ⟨rfl, rfl, rfl, by decide +kernel, rfl, by decide +kernel, by decide +kernel⟩
theorem bd_law_live : BindsAs "_law_live" "_law_live" s_law_live ["_law_situation"] := fun _ _ _ _ _ _ us hl => match us, hl with | [_], _ => rfl
def spLive : Sp := fun vs H Q _ => ∃ (v : V) (S : Sit), vs = [v] ∧ Dt H v (dSit S) ∧ S.gone.length ≤ 1000 ∧ ∀ H' : Hp, Same H H' → Q (.bl (decide (Live S))) H'
theorem ok_llive (G : Glo mg) (D : DefAt K mg "_law_live" s_law_live) : Kp P w K mg base "_law_live" 1 ["_law_situation"] spLive := by
  refine kp_of D sc_law_live bd_law_live (fun vs H Q E ⟨_, _, h, _⟩ => by rw [h]; rfl) fun f cdv A outer s H vs Q E hr h => ?_
  obtain ⟨v, S, rfl, hS, hz, k⟩ := h
  have hu := hr.units
  refine ⟨_, (pss_one (ps_ret (pe_cmpR (op_eqD hu) (pe_callTy call_list_of (by rfl) G.list (by decide +kernel) (pa_cons (pe_ix ix_tup (pv 0) pe_int (fun _ _ => rfl)) pa_nil))
    (pe_listRg rfl (by rfl) G.list (prg_2 (by rfl) G.range pe_int (pe_op op_add (pe_callB call_len_seq (by rfl) G.len PySem.boot_len (pa_cons (pe_ix ix_tup (pv 0) pe_int (fun _ _ => rfl)) pa_nil)) pe_int))) (nomark _)))), ?_⟩
  obtain ⟨a, b, g, hs, rfl, ha, hb, hhs, hg⟩ := sit_inv hS
  refine ⟨_, rfl, a, _, _, _, rfl, rfl, SqT.of ha, at_of (j := 2) rfl rfl, g, _, rfl, .inr (SqT.of hg), fun l1 hl1 => ?_⟩
  have s1 := Same.new (o := .lst (S.gone.map V.int)) hl1
  refine ⟨_, rfl, a, _, _, _, rfl, rfl, SqT.of (s1 _ _ ha), at_of (j := 2) rfl rfl, g, _, rfl, .inr (SqT.of (s1 _ _ hg)), _, _, rfl, rfl, _, _, rfl, rfl, ?_, fun l2 hl2 => ?_⟩
  · rw [List.length_map]
    exact .of_le (by omega) (by omega) (by omega) (by omega)
  · have s2 := Same.new (o := .lst (rgV 1 (((S.gone.map V.int).length : Int) + 1))) hl2
    have e : rgV 1 (((S.gone.map V.int).length : Int) + 1) = (upTo S.gone.length).map V.int := by
      rw [List.length_map]
      exact rgV_upTo _
    refine ⟨.list (S.gone.map PyData.int), .list ((upTo S.gone.length).map PyData.int), Dt.dp _ _ (.lst (s2 _ _ upd_same) (.ints _)), Dt.dp _ _ (.lst upd_same (by rw [e]; exact .ints _)), shaped_ints _, shaped_ints _, ?_⟩
    rw [eqv_ints]
    exact k _ (Same.trans s1 s2)

abbrev s_law_start : Stmt := top 58
theorem sc_law_start : FnScope ["_law_net_here", "_law_device"] ["_law_net_here"] (defScope s_law_start) := ⟨rfl, rfl, rfl, by decide +kernel, rfl, by decide +kernel, by decide +kernel⟩
theorem bd_law_start : BindsAs "_law_start" "_law_start" s_law_start ["_law_net_here"] := fun _ _ _ _ _ _ us hl => match us, hl with | [_], _ => rfl
def spLStart : Sp := fun vs H Q _ => ∃ (vn : V) (devs : List Dev) (L : List (Int × Int)), vs = [vn] ∧ PlanAt H vn devs L ∧ devs.length ≤ 1000 ∧ ∀ (v : V) (H' : Hp), Same H H' → Dt H' v (dSit (startS devs.length)) → Q v H'
theorem ok_lstart (G : Glo mg) (D : DefAt K mg "_law_start" s_law_start) : Kp P w K mg base "_law_start" 1 ["_law_net_here"] spLStart := by
  refine kp_of D sc_law_start bd_law_start (fun vs H Q E ⟨_, _, _, h, _⟩ => by rw [h]; rfl) fun f cdv A outer s H vs Q E hr h => ?_
  obtain ⟨vn, devs, L, rfl, hN, hz, k⟩ := h
  refine ⟨_, (pss_one (ps_ret (pe_tup (pa_cons pe_int (pa_cons (pe_callTy call_tuple_of (by rfl) G.tuple (by decide +kernel) (pa_cons (pe_lc (own := [("_law_device", 1)]) (g := gName 1) (by rfl) sc_law_start.nd (pi_list (pe_ix ix_list (pv 0) pe_int (fun _ _ => rfl))) (blkOk_by (N := ["_law_net_here", "_law_device"]) (sc := defScope s_law_start) (by decide +kernel)) (fun _ _ _ _ _ => pg_name (i := 1) sc_law_start.nd rfl (Or.inl rfl)) (fun _ _ _ _ _ => pts_nil) (fun _ _ _ _ _ => (pe_tup pa_nil))) pa_nil)) (pa_cons (pe_tup pa_nil) pa_nil)))))), ?_⟩
  obtain ⟨p, d, l0, x0, x1, x2, ys, zs, rfl, n1, n2, n3, n4, n5⟩ := id hN
  have hyl : ys.length = devs.length := by
    have := n3.length
    rw [List.length_map] at this
    exact this
  refine ⟨_, rfl, p, _, _, _, rfl, rfl, SqL.of n1, at_of (j := 3) rfl rfl, d, rfl, ⟨_, SqL.of n2⟩, fun D hD => lc_list (K := K) (a := d) (xs := ys)
    (fun i H' => Same H H' ∧ ∃ us, H' D = some (.lst us) ∧ DtAll H' us ((List.replicate i ([] : List Int)).map dInts) ∧ us.length = i)
    ⟨Same.new hD, [], upd_same, .nil, rfl⟩ (fun i H' _ ⟨s, _⟩ => SqL.of (s _ _ n2)) ?_ ?_⟩
  · rintro i y H1 hi ⟨s1, us, h1, hD1, hl1⟩
    have hil := lt_of_get hi
    refine ⟨rfl, Nat.zero_le _, fun t ht => ?_⟩
    have nDt : D ≠ t := ne_of_none h1 ht
    have st : Same H1 (upd H1 t (.tup [])) := Same.new ht
    refine ⟨us, (upd_ne nDt).trans h1, small (by omega), Same.mut (Same.trans s1 st) hD, us ++ [.ref t], upd_same, ?_, by rw [List.length_append, List.length_singleton, hl1]⟩
    rw [List.replicate_succ', List.map_append]
    refine DtAll.snoc ?_ (.tup (by rw [upd_ne nDt.symm]; exact upd_same) .nil)
    exact hD1.tups (Tups.trans (Tups.of_same st) (Tups.put ((upd_ne nDt).trans h1) (fun _ z => nomatch z))) _ _ (noLists_map noList_ints _)
  · rintro H1 ⟨s1, us, h1, hD1, hl1⟩
    refine ⟨D, us, rfl, .inl ⟨SqL.of h1, fun b hb => ?_⟩⟩
    have s2 := Same.new (o := .tup us) hb
    refine ⟨Nat.zero_le _, fun g hg => ⟨(szl rfl), fun a ha => ?_⟩⟩
    have s3 := Same.new (o := .tup []) hg
    have s4 := Same.new (o := .tup [.int 0, .ref b, .ref g]) ha
    refine k _ _ (Same.trans s1 (Same.trans s2 (Same.trans s3 s4))) (sit_mk (c := 0) (hs := us) upd_same (s4 _ _ (s3 _ _ upd_same)) ?_ (s4 _ _ upd_same))
    rw [hyl] at hD1
    exact hD1.same (Same.trans s2 (Same.trans s3 s4))
end
end Ys
/-! Behind a move: _law_behind; wagon_of, after. -/
namespace Ys
open PySem PySem.Spec PyProof.Rows L2

/-! ### ends of a tuple -/
theorem last_get (x : Int) (t : List Int) : ((x :: t).map V.int)[t.length]? = some (V.int ((x :: t).getLastD 0)) := by
  refine get_map ?_
  have e := @last_eq x t
  have hl : (x :: t).dropLast.length = t.length := by simp
  have q : ((x :: t).dropLast ++ [(x :: t).getLastD 0])[t.length]? = some ((x :: t).getLastD 0) := by
    rw [← hl]
    simp
  rw [← e] at q
  exact q
theorem last_at (x : Int) (t : List Int) : atI ((x :: t).map V.int) (-1) = some (V.int ((x :: t).getLastD 0)) := by
  have e : (x :: t).map V.int = ((x :: t).dropLast.map V.int) ++ [V.int ((x :: t).getLastD 0)] := by
    have q := congrArg (List.map V.int) (@last_eq x t)
    rw [List.map_append] at q
    exact q
  rw [e]
  exact atI_last _ _
theorem cut_tail (x : Int) (t : List Int) : cutV ((x :: t).map V.int) (some 1) none = (x :: t).tail.map V.int := by
  unfold cutV
  have h : HT.sIx ((x :: t).map V.int).length 0 (some 1) = 1 := by
    have q := HT.sIx_nat ((x :: t).map V.int).length 0 1
    have q2 : min 1 ((x :: t).map V.int).length = 1 := by
      rw [List.length_map, List.length_cons]
      omega
    rw [q2] at q
    exact q
  rw [h, HT.sIx_none]
  show ((t.map V.int).take (((x :: t).map V.int).length - 1)) = t.map V.int
  rw [List.take_of_length_le]
  simp
theorem tail_part (x : Int) (t : List Int) : ¬ (HT.sIx ((x :: t).map V.int).length 0 (some 1) = 0 ∧ HT.sIx ((x :: t).map V.int).length ((x :: t).map V.int).length none = ((x :: t).map V.int).length) := by
  intro h
  have q := HT.sIx_nat ((x :: t).map V.int).length 0 1
  have h1 := h.1
  have q2 : min 1 ((x :: t).map V.int).length = 1 := by
    rw [List.length_map, List.length_cons]
    omega
  rw [q2] at q
  have q3 : HT.sIx ((x :: t).map V.int).length 0 (some 1) = 1 := q
  omega
theorem cut_init {x : Int} {t : List Int} {hi : Int} (h : HT.sIx ((x :: t).map V.int).length ((x :: t).map V.int).length (some hi) = t.length) : cutV ((x :: t).map V.int) none (some hi) = (x :: t).dropLast.map V.int := by
  unfold cutV
  rw [h, HT.sIx_none, List.drop_zero, Nat.sub_zero, ← List.map_take, List.dropLast_eq_take]
  rfl
theorem init_part {x : Int} {t : List Int} {hi : Int} (h : HT.sIx ((x :: t).map V.int).length ((x :: t).map V.int).length (some hi) = t.length) : ¬ (HT.sIx ((x :: t).map V.int).length 0 none = 0 ∧ HT.sIx ((x :: t).map V.int).length ((x :: t).map V.int).length (some hi) = ((x :: t).map V.int).length) := by
  rw [h, List.length_map, List.length_cons]
  intro z
  omega
theorem init_law (x : Int) (t : List Int) : HT.sIx ((x :: t).map V.int).length ((x :: t).map V.int).length (some ((((x :: t).map V.int).length : Nat) - 1 : Int)) = t.length := by
  have e : ((((x :: t).map V.int).length : Nat) - 1 : Int) = ((t.length : Nat) : Int) := by
    rw [List.length_map, List.length_cons]
    omega
  rw [e, HT.sIx_nat, List.length_map, List.length_cons]
  omega
theorem init_prog (x : Int) (t : List Int) : HT.sIx ((x :: t).map V.int).length ((x :: t).map V.int).length (some (-1)) = t.length := by
  show (if (-1 : Int) < 0 then ((-1 : Int) + (((x :: t).map V.int).length : Int)).toNat else min (-1 : Int).toNat ((x :: t).map V.int).length) = t.length
  rw [if_pos (by decide), List.length_map, List.length_cons]
  omega
theorem DtAll.set {H : Hp} {v : V} {d : PyData} : ∀ {vs : List V} {ds : List PyData} (j : Nat), DtAll H vs ds → Dt H v d → DtAll H (vs.set j v) (ds.set j d)
  | _, _, _, .nil, _ => .nil
  | _, _, 0, .cons _ t, k => .cons k t
  | _, _, j + 1, .cons h t, k => .cons h (DtAll.set j t k)
theorem ixN_lt {n j : Nat} (h : j < n) : ixN n (j : Int) = some j := by
  unfold ixN
  rw [if_pos (by omega), if_pos (by omega)]
  simp
/-- small: all tuples of a situation -/
def Sm (S : Sit) : Prop := S.gone.length ≤ 1000 ∧ S.held.length ≤ 1000 ∧ ∀ l ∈ S.held, l.length ≤ 1000
theorem Good.sm {devs : List Dev} {row : List Int} {S : Sit} (g : Good devs row S) (h : row.length ≤ 1000) (hd : devs.length ≤ 1000) : Sm S := by
  have e := g.perm.length_eq
  rw [List.length_append, List.length_take] at e
  have hm : ∀ (h : List (List Int)), ∀ l ∈ h, l.length ≤ h.flatten.length := by
    intro h
    induction h with
    | nil => intro l hl; cases hl
    | cons a h ih =>
      intro l hl
      rw [List.flatten_cons, List.length_append]
      rcases List.mem_cons.mp hl with e | hl
      · rw [e]; omega
      · have := ih l hl; omega
  refine ⟨by omega, by rw [g.len]; exact hd, fun l hl => ?_⟩
  have := hm S.held l hl
  omega
theorem heldOut_len (S : Sit) (m : Mv) : (heldOut S m).length = S.held.length := by
  unfold heldOut
  split
  · rfl
  · rw [List.length_set]
theorem heldOut_small {S : Sit} (m : Mv) (h : Sm S) : ∀ l ∈ heldOut S m, l.length ≤ 1000 := by
  intro l hl
  unfold heldOut at hl
  split at hl
  · exact h.2.2 l hl
  · have hD : ∀ k, (S.held.getD k []).length ≤ 1000 := by
      intro k
      rw [List.getD_eq_getElem?_getD]
      cases e : S.held[k]? with
      | none => simp
      | some z => exact h.2.2 z (List.mem_of_getElem? e)
    rcases List.mem_or_eq_of_mem_set hl with hl | hl
    · exact h.2.2 l hl
    · have := hD m.src.toNat
      rw [hl]
      split
      · rw [List.length_tail]; omega
      · rw [List.length_dropLast]; omega

section
variable {P : Program} {w : World} {K : PySem.W.Frag} {mg : Str → Option Value} {base : Heap}
def spBehind : Sp := fun vs H Q _ => ∃ (vs' vm : V) (ra : Addr) (row : List Int) (devs : List Dev) (S : Sit) (m : Mv), vs = [.ref ra, vs', vm] ∧ H ra = some (.lst (row.map V.int)) ∧ Dt H vs' (dSit S) ∧ Dt H vm (dMv m) ∧
  MvOk devs row.length S m ∧ S.held.length = devs.length ∧ Sm S ∧ ∀ (v : V) (H' : Hp), Same H H' → Dt H' v (dSit (after row S m)) → Q v H'
abbrev s_law_behind : Stmt := top 56
theorem sc_law_behind : FnScope ["_law_row_here", "_law_situation", "_law_move", "_law_came", "_law_held", "_law_gone", "_law_devices", "_law_source", "_law_out", "_law_target", "_law_end", "_law_wagon"] ["_law_row_here", "_law_situation", "_law_move"] (defScope s_law_behind) := ⟨rfl, rfl, rfl, by decide +kernel, rfl, by decide +kernel, by decide +kernel⟩
theorem bd_law_behind : BindsAs "_law_behind" "_law_behind" s_law_behind ["_law_row_here", "_law_situation", "_law_move"] := fun _ _ _ _ _ _ us hl => match us, hl with | [_, _, _], _ => rfl
theorem row_at {row : List Int} {c : Nat} (h : c < row.length) : (row.map V.int)[c]? = some (V.int (row.getD c 0)) := by
  refine get_map ?_
  rw [List.getD_eq_getElem?_getD, List.getElem?_eq_getElem h]
  rfl
theorem getD_of {S : Sit} {j : Nat} {l : List Int} (h : S.held[j]? = some l) : S.held.getD j [] = l := by
  rw [List.getD_eq_getElem?_getD, h]
  rfl
theorem ok_lbehind (G : Glo mg) (D : DefAt K mg "_law_behind" s_law_behind) : Kp P w K mg base "_law_behind" 1 ["_law_row_here", "_law_situation", "_law_move"] spBehind := by
  refine kp_of D sc_law_behind bd_law_behind (fun vs H Q E ⟨_, _, _, _, _, _, _, h, _⟩ => by rw [h]; rfl) fun f cdv A outer s H vs Q E hr h => ?_
  obtain ⟨v, vm, ra, row, devs, S, m, rfl, hrow, hS, hM, hok, hlen, hsm, k⟩ := h
  refine ⟨_, (pss_cons (ps_asg (pv 1) (pg_tup (by rfl) (pgs_cons (pg_name (i := 3) sc_law_behind.nd rfl (Or.inl rfl)) (pgs_cons (pg_name (i := 4) sc_law_behind.nd rfl (Or.inl rfl)) (pgs_cons (pg_name (i := 5) sc_law_behind.nd rfl (Or.inl rfl)) pgs_nil)))))
    (pss_cons (ps_set (i := 6) sc_law_behind.nd rfl (Or.inl rfl) (pe_callTy call_list_of (by rfl) G.list (by decide +kernel) (pa_cons (pv 4) pa_nil)))
    (pss_cons (ps_asg (pv 2) (pg_tup (by rfl) (pgs_cons (pg_name (i := 7) sc_law_behind.nd rfl (Or.inl rfl)) (pgs_cons (pg_name (i := 8) sc_law_behind.nd rfl (Or.inl rfl)) (pgs_cons (pg_name (i := 9) sc_law_behind.nd rfl (Or.inl rfl)) (pgs_cons (pg_name (i := 10) sc_law_behind.nd rfl (Or.inl rfl)) pgs_nil))))))
    (Evl.pss_cut (ps_if (pt_cmpR op_lt (pv 7) pe_int (nomark _))
      (pss_cons (ps_set (i := 11) sc_law_behind.nd rfl (Or.inl rfl) (pe_ix ix_list (pv 0) (pv 3) (fun _ _ => rfl)))
      (pss_one (ps_set (i := 3) sc_law_behind.nd rfl (Or.inl rfl) (pe_op op_add (pv 3) pe_int))))
      (pss_one (ps_if (pt_cmpR op_eq (pv 8) pe_int (nomark _))
        (pss_cons (ps_set (i := 11) sc_law_behind.nd rfl (Or.inl rfl) (pe_ix ix_tup (pe_ix ix_list (pv 6) (pv 7) (fun _ _ => rfl)) pe_int (fun _ _ => rfl)))
        (pss_one (ps_asg (pe_slice sl_tupA (pe_ix ix_list (pv 6) (pv 7) (fun _ _ => rfl)) (po_some pe_int) po_none) (pg_sub (pv 6) (pv 7) set_list))))
        (pss_cons (ps_set (i := 11) sc_law_behind.nd rfl (Or.inl rfl) (pe_ix ix_tup (pe_ix ix_list (pv 6) (pv 7) (fun _ _ => rfl)) (pe_op op_sub (pe_callB call_len_seq (by rfl) G.len PySem.boot_len (pa_cons (pe_ix ix_list (pv 6) (pv 7) (fun _ _ => rfl)) pa_nil)) pe_int) (fun _ _ => rfl)))
        (pss_one (ps_asg (pe_slice sl_tupA (pe_ix ix_list (pv 6) (pv 7) (fun _ _ => rfl)) po_none (po_some (pe_op op_sub (pe_callB call_len_seq (by rfl) G.len PySem.boot_len (pa_cons (pe_ix ix_list (pv 6) (pv 7) (fun _ _ => rfl)) pa_nil)) pe_int))) (pg_sub (pv 6) (pv 7) set_list)))))))
    (Evl.pss_cut (ps_if (pt_cmpR op_lt (pv 9) pe_int (nomark _))
      (pss_one (ps_set (i := 5) sc_law_behind.nd rfl (Or.inl rfl) (pe_op op_catA (pv 5) (pe_tup (pa_cons (pv 11) pa_nil)))))
      (pss_one (ps_if (pt_cmpR op_eq (pv 10) pe_int (nomark _))
        (pss_one (ps_asg (pe_op op_catA (pe_tup (pa_cons (pv 11) pa_nil)) (pe_ix ix_list (pv 6) (pv 9) (fun _ _ => rfl))) (pg_sub (pv 6) (pv 9) set_list)))
        (pss_one (ps_asg (pe_op op_catA (pe_ix ix_list (pv 6) (pv 9) (fun _ _ => rfl)) (pe_tup (pa_cons (pv 11) pa_nil))) (pg_sub (pv 6) (pv 9) set_list))))))
    (pss_one (ps_ret (pe_tup (pa_cons (pv 3) (pa_cons (pe_callTy call_tuple_of (by rfl) G.tuple (by decide +kernel) (pa_cons (pv 6) pa_nil)) (pa_cons (pv 5) pa_nil))))))))))), ?_⟩
  obtain ⟨a, b, g, hs, rfl, ha, hb, hhs, hg⟩ := sit_inv hS
  obtain ⟨ma, rfl, hma⟩ := mv_inv hM
  have hhl : hs.length = S.held.length := by
    have := hhs.length
    rw [List.length_map] at this
    exact this
  refine ⟨_, rfl, a, _, rfl, SqT.of ha, rfl, _, _, rfl, _, _, rfl, _, _, rfl, rfl, ?_⟩
  refine ⟨_, rfl, b, _, rfl, .inr (SqT.of hb), fun q hq => ?_⟩
  have s1 : Same H (upd H q (.lst hs)) := Same.new hq
  refine ⟨_, rfl, ma, _, rfl, SqT.of (s1 _ _ hma), rfl, _, _, rfl, _, _, rfl, _, _, rfl, _, _, rfl, rfl, ?_⟩
  -- the taking out
  refine ⟨fun σ' H' => ∃ us : List V, σ' = [some (.ref ra), some (.ref a), some (.ref ma), some (.int ((if m.src < 0 then S.came + 1 else S.came : Nat) : Int)), some (.ref b), some (.ref g), some (.ref q), some (.int m.src), some (.int m.out), some (.int m.tgt), some (.int m.end_), some (.int (wagon row S m))] ∧
    Same H H' ∧ H' q = some (.lst us) ∧ DtAll H' us ((heldOut S m).map dInts), ?_, ?_⟩
  · refine ⟨_, rfl, _, _, rfl, rfl, _, rfl, ?_⟩
    rcases hok.src with ⟨es, hc, eo⟩ | ⟨hs0, x, t, d, hl, hd⟩
    · have c : m.src < 0 := by omega
      refine iteDT c ?_
      refine ⟨_, rfl, _, rfl, ra, _, _, _, rfl, rfl, SqL.of (s1 _ _ hrow), at_of rfl (row_at hc), _, rfl, _, _, rfl, rfl, ?_⟩
      refine ⟨hs, ?_, s1, upd_same, ?_⟩
      · unfold wagon
        rw [if_pos c, if_pos c]
        rfl
      · unfold heldOut
        rw [if_pos c]
        exact hhs.same s1
    · have c : ¬ m.src < 0 := by omega
      refine iteDF c ?_
      have hj : m.src.toNat < hs.length := by
        rw [hhl]
        exact lt_of_get hl
      have ej : m.src = ((m.src.toNat : Nat) : Int) := by omega
      obtain ⟨hv, e1, e2⟩ := hhs.get (get_map (f := dInts) hl)
      obtain ⟨ta, rfl, hta⟩ := ints_inv e2
      have eD := getD_of hl
      have hq1 : upd H q (.lst hs) q = some (.lst hs) := upd_same
      refine ⟨_, rfl, rfl, _, rfl, iteD2 (fun c2 => ?_) (fun c2 => ?_)⟩
      · have c2' : m.out = 0 := by injection c2
        refine ⟨_, rfl, _, rfl, q, _, _, _, rfl, rfl, SqL.of hq1, at_of ej e1, ta, _, _, _, rfl, rfl, SqT.of (s1 _ _ hta), at_of (j := 0) rfl rfl, ?_⟩
        refine ⟨_, rfl, _, rfl, q, _, _, _, rfl, rfl, SqL.of hq1, at_of ej e1, _, rfl, ta, _, rfl, SqT.of (s1 _ _ hta), fun z => absurd z (tail_part x t), fun _ p hp => ?_⟩
        have nqp : q ≠ p := ne_of_none hq1 hp
        have s2 := Same.new (o := .tup (cutV ((x :: t).map V.int) (some 1) none)) hp
        have hq2 := s2 _ _ hq1
        refine ⟨_, rfl, _, rfl, q, _, _, m.src.toNat, rfl, rfl, hq2, by rw [ej]; exact ixN_lt hj, ?_⟩
        refine ⟨hs.set m.src.toNat (.ref p), ?_, Same.mut (Same.trans s1 s2) hq, upd_same, ?_⟩
        · unfold wagon
          rw [if_neg c, if_neg c, if_pos c2', eD]
          rfl
        · unfold heldOut
          rw [if_neg c, if_pos c2', eD, List.map_set]
          refine DtAll.set _ ?_ (.tup (by rw [upd_ne nqp.symm, upd_same, cut_tail]) (.ints _))
          exact hhs.tups (Tups.trans (Tups.of_same (Same.trans s1 s2)) (Tups.put hq2 (fun _ z => nomatch z))) _ _ (noLists_map noList_ints _)
      · have c2' : ¬ m.out = 0 := fun z => c2 (by rw [z])
        have eL : ((((x :: t).map V.int).length : Nat) - 1 : Int) = ((t.length : Nat) : Int) := by
          rw [List.length_map, List.length_cons]
          omega
        refine ⟨_, rfl, _, rfl, q, _, _, _, rfl, rfl, SqL.of hq1, at_of ej e1, _, rfl, _, rfl, q, _, _, _, rfl, rfl, SqL.of hq1, at_of ej e1, ta, _, rfl, .inr (SqT.of (s1 _ _ hta)), _, _, rfl, rfl, ta, _, _, _, rfl, rfl, SqT.of (s1 _ _ hta), at_of eL (last_get x t), ?_⟩
        refine ⟨_, rfl, _, rfl, q, _, _, _, rfl, rfl, SqL.of hq1, at_of ej e1, _, rfl, _, rfl, q, _, _, _, rfl, rfl, SqL.of hq1, at_of ej e1, ta, _, rfl, .inr (SqT.of (s1 _ _ hta)), _, _, rfl, rfl, _, rfl, ta, _, rfl, SqT.of (s1 _ _ hta), fun z => absurd z (init_part (init_law x t)), fun _ p hp => ?_⟩
        have nqp : q ≠ p := ne_of_none hq1 hp
        have s2 := Same.new (o := .tup (cutV ((x :: t).map V.int) none (some ((((x :: t).map V.int).length : Nat) - 1 : Int)))) hp
        have hq2 := s2 _ _ hq1
        refine ⟨_, rfl, _, rfl, q, _, _, m.src.toNat, rfl, rfl, hq2, by rw [ej]; exact ixN_lt hj, ?_⟩
        refine ⟨hs.set m.src.toNat (.ref p), ?_, Same.mut (Same.trans s1 s2) hq, upd_same, ?_⟩
        · unfold wagon
          rw [if_neg c, if_neg c, if_neg c2', eD]
          rfl
        · unfold heldOut
          rw [if_neg c, if_neg c2', eD, List.map_set]
          refine DtAll.set _ ?_ (.tup (by rw [upd_ne nqp.symm, upd_same, cut_init (init_law x t)]) (.ints _))
          exact hhs.tups (Tups.trans (Tups.of_same (Same.trans s1 s2)) (Tups.put hq2 (fun _ z => nomatch z))) _ _ (noLists_map noList_ints _)
  · -- the putting in
    rintro σ' H1 ⟨us, rfl, s2, hq1, hus⟩
    have hul : us.length = S.held.length := by
      have := hus.length
      rw [List.length_map, heldOut_len] at this
      exact this
    have hg1 := s2 _ _ hg
    refine ⟨fun σ' H' => ∃ (us : List V) (ga : Addr), σ' = [some (.ref ra), some (.ref a), some (.ref ma), some (.int ((if m.src < 0 then S.came + 1 else S.came : Nat) : Int)), some (.ref b), some (.ref ga), some (.ref q), some (.int m.src), some (.int m.out), some (.int m.tgt), some (.int m.end_), some (.int (wagon row S m))] ∧
      Same H H' ∧ H' q = some (.lst us) ∧ DtAll H' us ((heldIn (heldOut S m) (wagon row S m) m).map dInts) ∧ H' ga = some (.tup ((if m.tgt < 0 then S.gone ++ [wagon row S m] else S.gone).map V.int)), ?_, ?_⟩
    · refine ⟨_, rfl, _, _, rfl, rfl, _, rfl, ?_⟩
      rcases hok.tgt with ⟨et, ee⟩ | ⟨ht0, l2, d, hl2, hd, hb2⟩
      · have c : m.tgt < 0 := by omega
        refine iteDT c ?_
        refine ⟨_, rfl, _, rfl, (szl rfl), fun u hu => ?_⟩
        have s3 := Same.new (o := .tup [.int (wagon row S m)]) hu
        have hgl : (S.gone.map V.int).length ≤ 1000 := by
          rw [List.length_map]
          exact hsm.1
        refine ⟨g, u, _, _, rfl, rfl, SqT.of (s3 _ _ hg1), SqT.of upd_same, small' (by show (S.gone.map V.int).length + 1 ≤ _; omega), fun e0 => ?_, (fun _ e0 => by cases e0), fun _ _ p hp => ?_⟩
        · refine ⟨us, u, rfl, Same.trans s2 s3, s3 _ _ hq1, ?_, ?_⟩
          · unfold heldIn
            rw [if_pos c]
            exact hus.same s3
          · rw [if_pos c, List.map_append, e0, upd_same]
            rfl
        · have s4 := Same.new (o := .tup (S.gone.map V.int ++ [.int (wagon row S m)])) hp
          refine ⟨us, p, rfl, Same.trans s2 (Same.trans s3 s4), s4 _ _ (s3 _ _ hq1), ?_, ?_⟩
          · unfold heldIn
            rw [if_pos c]
            exact hus.same (Same.trans s3 s4)
          · rw [if_pos c, List.map_append, upd_same]
            rfl
      · have c : ¬ m.tgt < 0 := by omega
        refine iteDF c ?_
        have hj : m.tgt.toNat < us.length := by
          rw [hul]
          exact lt_of_get hl2
        have ej : m.tgt = ((m.tgt.toNat : Nat) : Int) := by omega
        have hjo : m.tgt.toNat < (heldOut S m).length := by
          rw [heldOut_len]
          exact lt_of_get hl2
        obtain ⟨l', hl'⟩ : ∃ l', (heldOut S m)[m.tgt.toNat]? = some l' := ⟨_, List.getElem?_eq_getElem hjo⟩
        have hll : l'.length ≤ 1000 := heldOut_small m hsm l' (List.mem_of_getElem? hl')
        have eD : (heldOut S m).getD m.tgt.toNat [] = l' := by
          rw [List.getD_eq_getElem?_getD, hl']
          rfl
        obtain ⟨hv, e1, e2⟩ := hus.get (get_map (f := dInts) hl')
        obtain ⟨ta, rfl, hta⟩ := ints_inv e2
        have fin : ∀ (H2 : Hp) (p : Addr) (r : List Int), Same H1 H2 → H2 p = some (.tup (r.map V.int)) → r = (if m.end_ = 0 then wagon row S m :: l' else l' ++ [wagon row S m]) →
            ∃ (us' : List V) (ga : Addr), ([some (.ref ra), some (.ref a), some (.ref ma), some (.int ((if m.src < 0 then S.came + 1 else S.came : Nat) : Int)), some (.ref b), some (.ref g), some (.ref q), some (.int m.src), some (.int m.out), some (.int m.tgt), some (.int m.end_), some (.int (wagon row S m))] : L2.St) = [some (.ref ra), some (.ref a), some (.ref ma), some (.int ((if m.src < 0 then S.came + 1 else S.came : Nat) : Int)), some (.ref b), some (.ref ga), some (.ref q), some (.int m.src), some (.int m.out), some (.int m.tgt), some (.int m.end_), some (.int (wagon row S m))] ∧
              Same H (upd H2 q (.lst (us.set m.tgt.toNat (.ref p)))) ∧ upd H2 q (.lst (us.set m.tgt.toNat (.ref p))) q = some (.lst us') ∧ DtAll (upd H2 q (.lst (us.set m.tgt.toNat (.ref p)))) us' ((heldIn (heldOut S m) (wagon row S m) m).map dInts) ∧
              upd H2 q (.lst (us.set m.tgt.toNat (.ref p))) ga = some (.tup ((if m.tgt < 0 then S.gone ++ [wagon row S m] else S.gone).map V.int)) := by
          intro H2 p r s3 hp er
          have hq2 := s3 _ _ hq1
          refine ⟨us.set m.tgt.toNat (.ref p), g, rfl, Same.mut (Same.trans s2 s3) hq, upd_same, ?_, ?_⟩
          · unfold heldIn
            rw [if_neg c, eD, List.map_set, ← er]
            refine DtAll.set _ ?_ (.tup (by rw [upd_ne (ne_of hp hq2 (fun z => nomatch z))]; exact hp) (.ints _))
            exact hus.tups (Tups.trans (Tups.of_same s3) (Tups.put hq2 (fun _ z => nomatch z))) _ _ (noLists_map noList_ints _)
          · rw [if_neg c, upd_ne (ne_of (s3 _ _ hg1) hq2 (fun z => nomatch z))]
            exact s3 _ _ hg1
        refine ⟨_, rfl, rfl, _, rfl, iteD2 (fun c2 => ?_) (fun c2 => ?_)⟩
        · have c2' : m.end_ = 0 := by injection c2
          refine ⟨_, rfl, (szl rfl), fun u hu => ?_⟩
          have s3 := Same.new (o := .tup [.int (wagon row S m)]) hu
          refine ⟨_, rfl, _, rfl, q, _, _, _, rfl, rfl, SqL.of (s3 _ _ hq1), at_of ej e1, u, ta, _, _, rfl, rfl, SqT.of upd_same, SqT.of (s3 _ _ hta), small' (by rw [List.length_map]; show 1 + l'.length ≤ _; omega), (fun e0 => by cases e0), fun _ e0 => ?_, fun _ _ p hp => ?_⟩
          · have e0' : l' = [] := List.map_eq_nil_iff.mp e0
            refine ⟨_, rfl, _, rfl, q, _, _, m.tgt.toNat, rfl, rfl, s3 _ _ hq1, by rw [ej]; exact ixN_lt hj, ?_⟩
            exact fin _ u [wagon row S m] s3 upd_same (by rw [if_pos c2', e0'])
          · have s4 := Same.new (o := .tup ([V.int (wagon row S m)] ++ l'.map V.int)) hp
            refine ⟨_, rfl, _, rfl, q, _, _, m.tgt.toNat, rfl, rfl, s4 _ _ (s3 _ _ hq1), by rw [ej]; exact ixN_lt hj, ?_⟩
            exact fin _ p (wagon row S m :: l') (Same.trans s3 s4) upd_same (by rw [if_pos c2'])
        · have c2' : ¬ m.end_ = 0 := fun z => c2 (by rw [z])
          refine ⟨_, rfl, _, rfl, q, _, _, _, rfl, rfl, SqL.of hq1, at_of ej e1, _, rfl, (szl rfl), fun u hu => ?_⟩
          have s3 := Same.new (o := .tup [.int (wagon row S m)]) hu
          refine ⟨ta, u, _, _, rfl, rfl, SqT.of (s3 _ _ hta), SqT.of upd_same, small' (by rw [List.length_map]; show l'.length + 1 ≤ _; omega), fun e0 => ?_, (fun _ e0 => by cases e0), fun _ _ p hp => ?_⟩
          · have e0' : l' = [] := List.map_eq_nil_iff.mp e0
            refine ⟨_, rfl, _, rfl, q, _, _, m.tgt.toNat, rfl, rfl, s3 _ _ hq1, by rw [ej]; exact ixN_lt hj, ?_⟩
            exact fin _ u [wagon row S m] s3 upd_same (by rw [if_neg c2', e0']; rfl)
          · have s4 := Same.new (o := .tup (l'.map V.int ++ [V.int (wagon row S m)])) hp
            refine ⟨_, rfl, _, rfl, q, _, _, m.tgt.toNat, rfl, rfl, s4 _ _ (s3 _ _ hq1), by rw [ej]; exact ixN_lt hj, ?_⟩
            refine fin _ p (l' ++ [wagon row S m]) (Same.trans s3 s4) ?_ (by rw [if_neg c2'])
            rw [upd_same, List.map_append]
            rfl
    · rintro σ' H2 ⟨us2, ga, rfl, s3, hq2, hus2, hga⟩
      refine ⟨_, rfl, _, rfl, q, _, rfl, .inl ⟨SqL.of hq2, fun tb htb => ⟨_, rfl, (szl rfl), fun r hr' => ?_⟩⟩⟩
      have s4 := Same.new (o := .tup us2) htb
      have s5 := Same.new (o := .tup [.int ((if m.src < 0 then S.came + 1 else S.came : Nat) : Int), .ref tb, .ref ga]) hr'
      exact k _ _ (Same.trans s3 (Same.trans s4 s5)) (sit_mk upd_same (s5 _ _ upd_same) (hus2.same (Same.trans s4 s5)) (s5 _ _ (s4 _ _ hga)))
end
end Ys
/-! Objects' fields, len of an own object, written tables; a yard: __len__, ins, outs, room. -/
namespace Ys
open PySem PySem.Spec PyProof.Rows L2

/-! ### fields by place -/
theorem fld_get : ∀ {fs : List (Str × V)} {i : Nat} {f : Str} {v : V}, (fs.map (·.1)).Nodup → fs[i]? = some (f, v) → fs.lookup f = some v
  | [], _, _, _, _, e => by simp at e
  | p :: r, 0, f, v, _, e => by
    have e' : p = (f, v) := Option.some.inj e
    subst e'
    simp [List.lookup]
  | p :: r, i + 1, f, v, h, e => by
    have h' : (p.1 :: r.map (·.1)).Nodup := h
    obtain ⟨h1, h2⟩ := List.nodup_cons.mp h'
    have ne : (f == p.1) = false := beq_eq_false_iff_ne.mpr fun z => h1 (by
      rw [← z]
      exact List.mem_map.mpr ⟨(f, v), List.mem_of_getElem? e, rfl⟩)
    rw [List.lookup_cons, ne]
    exact fld_get h2 e
theorem fld_none : ∀ {fs : List (Str × V)} {f : Str}, f ∉ fs.map (·.1) → fs.lookup f = none
  | [], _, _ => rfl
  | p :: r, f, h => by
    have h' : f ∉ p.1 :: r.map (·.1) := h
    rw [List.mem_cons, not_or] at h'
    rw [List.lookup_cons, beq_eq_false_iff_ne.mpr h'.1]
    exact fld_none h'.2
theorem fld_put : ∀ {fs : List (Str × V)} {i : Nat} {f : Str} {v u : V}, (fs.map (·.1)).Nodup → fs[i]? = some (f, u) → putF f v fs = fs.set i (f, v)
  | [], _, _, _, _, _, e => by simp at e
  | p :: r, 0, f, v, u, _, e => by
    have e' : p = (f, u) := Option.some.inj e
    subst e'
    show (if f = f then (f, v) :: r else _) = _
    rw [if_pos rfl]
    rfl
  | (g, x) :: r, i + 1, f, v, u, h, e => by
    have h' : (g :: r.map (·.1)).Nodup := h
    obtain ⟨h1, h2⟩ := List.nodup_cons.mp h'
    have ne : ¬ g = f := fun z => h1 (by
      rw [z]
      exact List.mem_map.mpr ⟨(f, u), List.mem_of_getElem? e, rfl⟩)
    show (if g = f then (g, v) :: r else (g, x) :: putF f v r) = _
    rw [if_neg ne, fld_put (i := i) h2 e]
    rfl
theorem fld_add : ∀ {fs : List (Str × V)} {f : Str} {v : V}, f ∉ fs.map (·.1) → putF f v fs = fs ++ [(f, v)]
  | [], _, _, _ => rfl
  | (g, x) :: r, f, v, h => by
    have h' : f ∉ g :: r.map (·.1) := h
    rw [List.mem_cons, not_or] at h'
    show (if g = f then (g, v) :: r else (g, x) :: putF f v r) = _
    rw [if_neg (fun z => h'.1 z.symm), fld_add h'.2]
    rfl

/-! ### len of an own object -/
section
variable {X : Cx}
theorem env0_in1 {P : Program} {w : World} {K : PySem.W.Frag} {mg : Str → Option Value} {base : Heap} {A : Around} {outer : List Env} {s : Shared} {H : Hp} (e : Env0 P w K mg base A outer s H) : Env0 P w K mg base A.in1 outer s H :=
  ⟨e.frames, e.mod, e.bs, e.bsz, e.funs, e.frf, e.hok, e.bare⟩
def rLenOwn (C : Addr) (sp : Sp) : List V → Hp → VK → Prop := fun xs H Q => ∃ (a dx : Addr) (fs : List (Str × V)), xs = [.ref a] ∧ H a = some (.ins C dx fs) ∧ sp [.ref a] H (fun v H' => ∃ n : Int, v = .int n ∧ 0 ≤ n ∧ n < 2 ^ 63 ∧ Q (.int n) H') E0
theorem call_len_own {C f : Addr} {fd : FuncData} {k : Nat} {ps : List Str} {sp : Sp} (F : FnOk X.prog X.w X.K X.mg X.base CX0 k f fd ps sp) (hps : ps.length = 1) (hr : Room (k + 1) X.A) (hm : Meth X.K C "__len__" f) (hb : Binds X.K fd ps []) : CallR X (.builtin "len") (rLenOwn C sp) := by
  intro pins s σ H xs us Q I r h
  obtain ⟨a, dx, fs, rfl, ha, h⟩ := h
  rw [Vals.ref1 r]
  obtain ⟨m, Fr⟩ := I.fr
  obtain ⟨mA, O, _⟩ := ins_get I.hok ha
  obtain ⟨od, J, _⟩ := O.look
  refine PySem.W.len_K Fr I.mod.kin J hm.at_ hm.fn ?_
  have r1 : Vals [V.ref a] [Value.ref a] := .cons rfl .nil
  refine wpAny_call (codeAny_mono (F.run X.A.in1 X.stack s H ⟨[.ref a], []⟩ [.ref a] [.ref a] _ E0 hr.in1 (env0_in1 I.env0) (hb s [.ref a] I.kIn (by rw [hps]; rfl)) r1 h) fun r s' hq => ?_)
  cases r with
  | error e => exact hq.elim
  | ok fl =>
    cases fl with
    | ret u =>
      obtain ⟨v, H', I', rv, n, rfl, h0, h1, q⟩ := I.after hq
      obtain ⟨t, rfl⟩ := rv
      exact ⟨⟨h0, h1⟩, .int n, H', I'.tok _, ⟨_, rfl⟩, q⟩
    | next => exact False.elim hq
    | brk => exact False.elim hq
    | cont => exact False.elim hq

/-! ### an item of a written table -/
def rIxKd (K : PySem.W.Frag) (d : Addr) : R2 := fun x y H Q => ∃ (z : Str) (u0 : Value) (v0 : V), x = .ref d ∧ y = .str z ∧ PySem.W.nsIn K d z = some (some u0) ∧ RelV v0 u0 ∧ Q v0 H
theorem ix_kd {d : Addr} {es : Array DictEntry} {n : Nat} (D : KDict X.K X.w d es n) : IxR X (rIxKd X.K d) := by
  intro value slice pins s σ H x y v u Q I rx ry h hs
  obtain ⟨z, u0, v0, rfl, rfl, e, r, q⟩ := h
  cases rx
  have T := kd_type D I
  refine subscriptTail_builtinR (x := u0) T PySem.F.slot_dict_getitem.lookup ?_ hs
  obtain ⟨t, rfl⟩ := ry
  exact wpAny_getItem_of (PySem.strKind_is X.prog X.w z t) (PySem.W.mapOf_K (prog := X.prog) I.kIn D.at_ D.lit) (PySem.W.find_K D.at_ e) ⟨rfl, v0, H, I.tok _, r, q⟩
end
/-- a written table of the ends of devices -/
def TabAt (K : PySem.W.Frag) (w : World) (mg : Str → Option Value) (x : Str) (f : Ltr → List Int) : Prop := ∃ a es n, mg x = some (.ref a) ∧ KDict K w a es n ∧ ∀ l : Ltr, ∃ t : Addr, PySem.W.nsIn K a l.txt = some (some (.ref t)) ∧ ∀ H, SqT K H t ((f l).map V.int)
structure YTab (K : PySem.W.Frag) (w : World) (mg : Str → Option Value) : Prop where
  ins : TabAt K w mg "INS" Ltr.ins
  outs : TabAt K w mg "OUTS" Ltr.outs
  closing : ∃ a es n, mg "CLOSING" = some (.ref a) ∧ KDict K w a es n ∧ (∀ par, ∃ t, PySem.W.nsIn K a (sgn par) = some (some (.str (clo par) t))) ∧ ∀ l : Ltr, PySem.W.nsIn K a l.txt = some none

/-! ### yards -/
def yf (t : Str) (k b l : Addr) : List (Str × V) := [("text", .str t), ("kinds", .ref k), ("bounds", .ref b), ("links", .ref l)]
theorem yf_keys (t : Str) (k b l : Addr) : ((yf t k b l).map (·.1)).Nodup := by
  show ([("text" : Str), "kinds", "bounds", "links"] : List Str).Nodup
  decide +kernel
theorem yf_no (t : Str) (k b l : Addr) {m : Str} (h : m ∉ ([("text" : Str), "kinds", "bounds", "links"] : List Str)) : (yf t k b l).lookup m = none := fld_none h
def bndV (d : Dev) : V := if d.bound = 0 then .non else .int (d.bound : Int)
/-- how a yard stands -/
def YardAt (C : Addr) (H : Hp) (y : Addr) (devs : List Dev) (L : List (Int × Int)) : Prop := ∃ (dx k b l : Addr) (t : Str) (zs : List V), H y = some (.ins C dx (yf t k b l)) ∧ H k = some (.lst (devs.map fun d => V.str d.ltr.txt)) ∧ H b = some (.lst (devs.map bndV)) ∧
  H l = some (.lst zs) ∧ DtAll H zs (L.map dLink)
theorem YardAt.same {C : Addr} {H H' : Hp} (s : Same H H') {y : Addr} {devs : List Dev} {L : List (Int × Int)} (h : YardAt C H y devs L) : YardAt C H' y devs L := by
  obtain ⟨dx, k, b, l, t, zs, h1, h2, h3, h4, h5⟩ := h
  exact ⟨dx, k, b, l, t, zs, s _ _ h1, s _ _ h2, s _ _ h3, s _ _ h4, h5.same s⟩
/-- what is asked of the class Yard -/
structure YCls (K : PySem.W.Frag) (mg : Str → Option Value) (C : Addr) : Prop where
  cl : Cls K C
  nT : NoAttr K C "text"
  nK : NoAttr K C "kinds"
  nB : NoAttr K C "bounds"
  nL : NoAttr K C "links"
  mg_ : mg "Yard" = some (.ref C)

section
variable {X : Cx} {C : Addr} {m : Str} {k : Nat} {ps : List Str} {sp : Sp} {o e : Expr} {es : List Expr} {apos pos : Pos} {ta : TE} {t : TA}
theorem pe_kpm {pl : Sem Bool} (h : KpM X.prog X.w X.K X.mg X.base C m k ps sp) (hr : Room k X.A) (c : Cls X.K C) (he : PE X o ta) (ha : PA X (e :: es) t)
    (hst : starEach (e :: es) X.env = (false, eval e X.env) :: starEach es X.env := by rfl) (hpl : (backTo pos (starEach es X.env)).any (·.1) = false := by rfl) (hpa : Passes CX0 X E0 := by exact pass0)
    (ht : eval (.Call (.Attribute o m apos) (e :: es) [] pos) X.env = (do
      let ov ← eval o X.env
      standAt apos.atName
      let (f, first) ← holding [ov] (getMethod ov m pl)
      callWith pos f first (backTo pos (starEach (e :: es) X.env)) (backToKw pos (keywordEach [] X.env))) := by rfl) :
    PE X (.Call (.Attribute o m apos) (e :: es) [] pos) (tMeth C m sp [] E0 ta t) := by
  obtain ⟨f, fd, F, M, b⟩ := h
  exact pe_meth (pl := pl) he c M F hr b .nil hpa ha hst hpl ht
theorem pe_kpm0 {pl : Sem Bool} (h : KpM X.prog X.w X.K X.mg X.base C m k ps sp) (hr : Room k X.A) (c : Cls X.K C) (he : PE X o ta) (hpa : Passes CX0 X E0 := by exact pass0)
    (ht : eval (.Call (.Attribute o m apos) [] [] pos) X.env = (do
      let ov ← eval o X.env
      standAt apos.atName
      let (f, first) ← holding [ov] (getMethod ov m pl)
      callWith pos f first (backTo pos (starEach [] X.env)) (backToKw pos (keywordEach [] X.env))) := by rfl) :
    PE X (.Call (.Attribute o m apos) [] [] pos) (tMeth C m sp [] E0 ta tNil) := by
  obtain ⟨f, fd, F, M, b⟩ := h
  exact pe_meth0 (pl := pl) he c M F hr b .nil hpa ht
end

section
variable {P : Program} {w : World} {K : PySem.W.Frag} {mg : Str → Option Value} {base : Heap}
abbrev s_ylen : Stmt := inClass (top 21) 1
theorem sc_ylen : FnScope ["self"] ["self"] (defScope s_ylen) := ⟨rfl, rfl, rfl, by decide +kernel, rfl, by decide +kernel, by decide +kernel⟩
theorem bd_ylen : BindsAs "__len__" "Yard.__len__" s_ylen ["self"] := fun _ _ _ _ _ _ us hl => match us, hl with | [_], _ => rfl
def spYLen (C : Addr) : Sp := fun vs H Q _ => ∃ (y : Addr) (devs : List Dev) (L : List (Int × Int)), vs = [.ref y] ∧ YardAt C H y devs L ∧ Q (.int (devs.length : Nat)) H
theorem ok_ylen {C : Addr} (G : Glo mg) (Y : YCls K mg C) (D : MethAt K C "__len__" "Yard.__len__" s_ylen) : KpM P w K mg base C "__len__" 1 ["self"] (spYLen C) := by
  refine kpm_of D sc_ylen bd_ylen (fun vs H Q E ⟨_, _, _, h, _⟩ => by rw [h]; rfl) fun f cdv A outer s H vs Q E hr h => ?_
  obtain ⟨y, devs, L, rfl, ⟨dx, k, b, l, t, zs, h1, h2, h3, h4, h5⟩, kq⟩ := h
  refine ⟨_, pss_one (ps_ret (pe_callB call_len_seq (by rfl) G.len PySem.boot_len (pa_cons (pe_fld (pv 0) rfl) pa_nil))), ?_⟩
  refine ⟨_, rfl, y, C, dx, _, _, rfl, h1, Y.cl, Y.nK, fld_get (i := 1) (yf_keys _ _ _ _) rfl, k, _, rfl, .inl (SqL.of h2), ?_⟩
  rw [List.length_map]
  exact kq
abbrev s_yins : Stmt := inClass (top 21) 2
theorem sc_yins : FnScope ["self", "device"] ["self", "device"] (defScope s_yins) := ⟨rfl, rfl, rfl, by decide +kernel, rfl, by decide +kernel, by decide +kernel⟩
theorem bd_yins : BindsAs "ins" "Yard.ins" s_yins ["self", "device"] := fun _ _ _ _ _ _ us hl => match us, hl with | [_, _], _ => rfl
abbrev s_youts : Stmt := inClass (top 21) 3
theorem sc_youts : FnScope ["self", "device"] ["self", "device"] (defScope s_youts) := ⟨rfl, rfl, rfl, by decide +kernel, rfl, by decide +kernel, by decide +kernel⟩
theorem bd_youts : BindsAs "outs" "Yard.outs" s_youts ["self", "device"] := fun _ _ _ _ _ _ us hl => match us, hl with | [_, _], _ => rfl
def spYEnds (C : Addr) (g : Ltr → List Int) : Sp := fun vs H Q _ => ∃ (y : Addr) (devs : List Dev) (L : List (Int × Int)) (j : Nat) (d : Dev), vs = [.ref y, .int (j : Int)] ∧ YardAt C H y devs L ∧ devs[j]? = some d ∧
  ∀ (p : Addr) (H' : Hp), Same H H' → H p = none → H' p = some (.lst ((g d.ltr).map V.int)) → Q (.ref p) H'
theorem ok_yins {C : Addr} (G : Glo mg) (Y : YCls K mg C) (T : YTab K w mg) (D : MethAt K C "ins" "Yard.ins" s_yins) : KpM P w K mg base C "ins" 1 ["self", "device"] (spYEnds C Ltr.ins) := by
  refine kpm_of D sc_yins bd_yins (fun vs H Q E ⟨_, _, _, _, _, h, _⟩ => by rw [h]; rfl) fun f cdv A outer s H vs Q E hr h => ?_
  obtain ⟨y, devs, L, j, d, rfl, ⟨dx, k, b, l, t, zs, h1, h2, h3, h4, h5⟩, hd, kq⟩ := h
  obtain ⟨ta, tes, tn, tm, tD, tl⟩ := T.ins
  obtain ⟨tu, e1, e2⟩ := tl d.ltr
  refine ⟨_, pss_one (ps_ret (pe_callTy call_list_of (by rfl) G.list (by decide +kernel) (pa_cons (pe_ix (ix_kd tD) (pe_glob (v := .ref ta) (by rfl) tm rfl) (pe_ix ix_list (pe_fld (pv 0) rfl) (pv 1) (fun _ _ => rfl)) (fun _ _ => rfl)) pa_nil))), ?_⟩
  refine ⟨_, rfl, y, C, dx, _, _, rfl, h1, Y.cl, Y.nK, fld_get (i := 1) (yf_keys _ _ _ _) rfl, _, rfl, k, _, _, _, rfl, rfl, SqL.of h2, at_of rfl (get_map hd), _, _, .ref tu, rfl, rfl, e1, rfl, tu, _, rfl, .inr (e2 _), fun p hp => ?_⟩
  exact kq p _ (Same.new hp) hp upd_same
theorem ok_youts {C : Addr} (G : Glo mg) (Y : YCls K mg C) (T : YTab K w mg) (D : MethAt K C "outs" "Yard.outs" s_youts) : KpM P w K mg base C "outs" 1 ["self", "device"] (spYEnds C Ltr.outs) := by
  refine kpm_of D sc_youts bd_youts (fun vs H Q E ⟨_, _, _, _, _, h, _⟩ => by rw [h]; rfl) fun f cdv A outer s H vs Q E hr h => ?_
  obtain ⟨y, devs, L, j, d, rfl, ⟨dx, k, b, l, t, zs, h1, h2, h3, h4, h5⟩, hd, kq⟩ := h
  obtain ⟨ta, tes, tn, tm, tD, tl⟩ := T.outs
  obtain ⟨tu, e1, e2⟩ := tl d.ltr
  refine ⟨_, pss_one (ps_ret (pe_callTy call_list_of (by rfl) G.list (by decide +kernel) (pa_cons (pe_ix (ix_kd tD) (pe_glob (v := .ref ta) (by rfl) tm rfl) (pe_ix ix_list (pe_fld (pv 0) rfl) (pv 1) (fun _ _ => rfl)) (fun _ _ => rfl)) pa_nil))), ?_⟩
  refine ⟨_, rfl, y, C, dx, _, _, rfl, h1, Y.cl, Y.nK, fld_get (i := 1) (yf_keys _ _ _ _) rfl, _, rfl, k, _, _, _, rfl, rfl, SqL.of h2, at_of rfl (get_map hd), _, _, .ref tu, rfl, rfl, e1, rfl, tu, _, rfl, .inr (e2 _), fun p hp => ?_⟩
  exact kq p _ (Same.new hp) hp upd_same
abbrev s_yroom : Stmt := inClass (top 21) 5
theorem sc_yroom : FnScope ["self", "device", "count"] ["self", "device", "count"] (defScope s_yroom) := ⟨rfl, rfl, rfl, by decide +kernel, rfl, by decide +kernel, by decide +kernel⟩
theorem bd_yroom : BindsAs "room" "Yard.room" s_yroom ["self", "device", "count"] := fun _ _ _ _ _ _ us hl => match us, hl with | [_, _, _], _ => rfl
def spYRoom (C : Addr) : Sp := fun vs H Q _ => ∃ (y : Addr) (devs : List Dev) (L : List (Int × Int)) (j n : Nat) (d : Dev), vs = [.ref y, .int (j : Int), .int (n : Int)] ∧ YardAt C H y devs L ∧ devs[j]? = some d ∧ Q (.bl (!decide (0 < d.bound ∧ d.bound ≤ n))) H
theorem ok_yroom {C : Addr} (G : Glo mg) (Y : YCls K mg C) (D : MethAt K C "room" "Yard.room" s_yroom) : KpM P w K mg base C "room" 1 ["self", "device", "count"] (spYRoom C) := by
  refine kpm_of D sc_yroom bd_yroom (fun vs H Q E ⟨_, _, _, _, _, _, h, _⟩ => by rw [h]; rfl) fun f cdv A outer s H vs Q E hr h => ?_
  obtain ⟨y, devs, L, j, n, d, rfl, ⟨dx, k, b, l, t, zs, h1, h2, h3, h4, h5⟩, hd, kq⟩ := h
  refine ⟨_, pss_one (ps_ret (pe_or (pe_cmpR op_isN (pe_ix ix_list (pe_fld (pv 0) rfl) (pv 1) (fun _ _ => rfl)) pe_non (nomark _)) (pe_one (pe_cmpR op_lt (pv 2) (pe_ix ix_list (pe_fld (pv 0) rfl) (pv 1) (fun _ _ => rfl)) (nomark _))))), ?_⟩
  have hb : (devs.map bndV)[j]? = some (bndV d) := get_map hd
  refine ⟨_, rfl, y, C, dx, _, _, rfl, h1, Y.cl, Y.nB, fld_get (i := 2) (yf_keys _ _ _ _) rfl, _, rfl, b, _, _, _, rfl, rfl, SqL.of h3, at_of rfl hb, rfl, ?_⟩
  by_cases c : d.bound = 0
  · have e : bndV d = .non := if_pos c
    rw [e]
    refine ⟨true, rfl, iteT ?_⟩
    rw [decide_eq_false (by omega)] at kq
    exact kq
  · have e : bndV d = .int (d.bound : Int) := if_neg c
    rw [e]
    refine ⟨false, rfl, iteF ?_⟩
    refine ⟨_, rfl, _, rfl, y, C, dx, _, _, rfl, h1, Y.cl, Y.nB, fld_get (i := 2) (yf_keys _ _ _ _) rfl, _, rfl, b, _, _, _, rfl, rfl, SqL.of h3, at_of rfl (hb.trans (congrArg some e)), _, _, rfl, rfl, ?_⟩
    by_cases c2 : d.bound ≤ n
    · rw [decide_eq_true ⟨by omega, c2⟩] at kq
      show Q (V.bl (decide ((n : Int) < (d.bound : Int)))) H
      rw [decide_eq_false (by omega)]
      exact kq
    · rw [decide_eq_false (by omega)] at kq
      show Q (V.bl (decide ((n : Int) < (d.bound : Int)))) H
      rw [decide_eq_true (by omega)]
      exact kq
end
end Ys
/-! enumerate over a tuple. -/
namespace Ys
open PySem PySem.Spec PyProof.Rows L2

theorem enum_of_tuple (ta : Addr) (xs : Array Value) : Meets (Builtin.«enumerate.__new__» ⟨[.type "enumerate", .ref ta], []⟩) (fun _ R s => s.heap.IsTuple ta xs ∧
    R (.ok (.ret (.ref (s.heap.push { cls := .type "tuple_iterator", data := .fields #[.ref ta, .int 0 0] }).objs.size)))
      { s with heap := (s.heap.push { cls := .type "tuple_iterator", data := .fields #[.ref ta, .int 0 0] }).push { cls := .type "enumerate", data := .fields #[.none, .bool false, .ref s.heap.objs.size, rawInt 0, .none, .none] } }) := by
  refine Meets.of_wp fun pr wo Ar Rs s hs => ?_
  obtain ⟨hp, gs, dr, tk, os⟩ := s
  obtain ⟨hT, hR⟩ := hs
  have hT' : Heap.IsTuple (Shared.heap ⟨hp, gs, dr, tk, os⟩) ta xs := hT
  have hsub := sub_enumerate
  wp_walk using wpAny_pyIter_tuple hT'
  refine wpAny_stack_any fun _ => wpAny_pure ?_
  split
  · rename_i c _ _ _ _ _
    cases (c == Value.type "enumerate") <;> (wp_walk using wpAny_pyIter_tuple hT'; exact ⟨_, rfl, hR⟩)
  · wp_walk using wpAny_pyIter_tuple hT'
    exact ⟨_, rfl, hR⟩

theorem enum_tuple_called {pr : Program} {wo : World} {Ar : Around} {E : Value → Shared → Prop} {s : Shared} {ta : Addr} {xs : Array Value} {Q : Value → Shared → Prop} (hT : s.heap.IsTuple ta xs)
    (k : ∀ h', IsEnum h' (s.heap.objs.size + 1) s.heap.objs.size 0 .none → h'.IsTupleIter s.heap.objs.size ta 0 → (∀ b o, s.heap.get? b = some o → h'.get? b = some o) → Q (.ref (s.heap.objs.size + 1)) { s with heap := h' }) :
    wpAny (model pr wo) Ar (call (.type "enumerate") [.ref ta]) Q E s := by
  refine callType_new F.called_enumerate (by decide) (F.typeCall_enumerate_1 _) (F.newCall_enumerate_1 _) (fun obj => F.args_object_init_2 obj _) F.entry_enumerate_new (enum_of_tuple ta xs) ⟨hT, ?_⟩
  generalize ep : s.heap.push { cls := .type "tuple_iterator", data := .fields #[.ref ta, .int 0 0] } = h1
  have sz : h1.objs.size = s.heap.objs.size + 1 := by
    rw [← ep]
    exact Heap.size_push ..
  have g1 : h1.get? s.heap.objs.size = some { cls := .type "tuple_iterator", data := .fields #[.ref ta, .int 0 0] } := by
    rw [← ep]
    exact Heap.get?_push_size _ rfl
  have gk : ∀ b o, s.heap.get? b = some o → h1.get? b = some o := fun b o e => by
    rw [← ep]
    exact Heap.get?_push_of_some _ e
  have gE : IsEnum (h1.push { cls := .type "enumerate", data := .fields #[.none, .bool false, .ref s.heap.objs.size, rawInt 0, .none, .none] }) (s.heap.objs.size + 1) s.heap.objs.size 0 .none := by
    have z := Heap.get?_push_size h1 (o := { cls := .type "enumerate", data := .fields #[.none, .bool false, .ref s.heap.objs.size, rawInt 0, .none, .none] }) rfl
    rw [sz] at z
    exact z
  show _ ∧ _
  rw [sz]
  exact ⟨⟨_, gE, rfl⟩, k _ gE ⟨_, Heap.get?_push_of_some _ g1, rfl, rfl⟩ fun b o e => Heap.get?_push_of_some _ (gk b o e)⟩

/-- a tuple's items with their places, each in a new pair -/
def IteT (K : PySem.W.Frag) (a : Addr) : It where
  go i H := ∃ (xs : List V) (x : V), SqT K H a xs ∧ xs[i]? = some x
  yld i H v H' := ∃ T x, v = .ref T ∧ H T = none ∧ H' = upd H T (.tup [.int (i : Nat), x]) ∧ ∀ xs, SqT K H a xs → xs[i]? = some x
  stop i H := ∃ xs : List V, SqT K H a xs ∧ xs.length = i

theorem turn_enumT {P : Program} {w : World} {K : PySem.W.Frag} {elts : List Expr} {kk : Nat} {tpos : Pos} (a e it : Addr) (xs0 : List V) :
    Turn P w K (.Tuple elts kk tpos) (IteT K a) [e, it] e (fun i h => (∃ old, IsEnum h e it ((i : Nat) : Int) old) ∧ h.IsTupleIter it a i ∧ e ≠ it ∧ a ≠ it ∧ e ≠ a) where
  mem := List.mem_cons_self ..
  obj := fun i h st b hb => by
    obtain ⟨⟨old, he⟩, ⟨o, ho, hc, hd⟩, _⟩ := st
    rcases List.mem_cons.mp hb with z | z
    · rw [z]
      exact ⟨_, he, fun v q => nomatch q⟩
    · rw [List.mem_singleton.mp z]
      exact ⟨o, ho, fun v q => by rw [hd] at q; cases q⟩
  keep := fun i h h' st k => ⟨⟨st.1.choose, k e (by simp) _ st.1.choose_spec⟩, st.2.1.at fun o q => k it (by simp) o q, st.2.2⟩
  item := by
    intro X hP hw hK hc i pins s σ H E I hf st hg
    subst hP hw hK
    obtain ⟨⟨old, he⟩, hit, hne, hai, hea⟩ := st
    obtain ⟨xs, x, hq, hx⟩ := hg
    obtain ⟨its, rv, p, hz⟩ := I.tuple hq
    obtain ⟨u, hu, ru⟩ := rv.get hx
    have hT : s.heap.IsTuple a its.toArray := p
    have hel : e < s.heap.objs.size := Heap.lt_size he
    have hil : it < s.heap.objs.size := by
      obtain ⟨_, q, _⟩ := hit
      exact Heap.lt_size q
    have hlt : i < its.toArray.size := by
      have := (List.getElem?_eq_some_iff.mp hu).1
      simpa using this
    refine wpAny_pyNext_enum_itemD (Draws.tuple (prog := X.prog) (w := X.w) (A := X.A.in1) (show X.A.in1.handled = Option.none from I.ok.hd hc) it a hai its.toArray) he ⟨hit, hT⟩ hlt hne (by simp [hne, hea]) fun y h' tk hy ho hst hT' hsz hk => ?_
    obtain ⟨hit', _⟩ := hst
    have ey : y = u := by
      have z : its.toArray[i]? = some u := by simpa using hu
      rw [z] at hy
      exact (Option.some.inj hy).symm
    subst ey
    refine ⟨_, rfl, wpAny_letOwnedTupleGo_enum (s := { s with heap := h', toks := tk + 1 }) ho fun h2 he2 sb => ?_⟩
    have hT2 : h2.get? s.heap.objs.size = some { cls := .type "tuple", data := .seq #[.int i tk, y] } := (sb.2 _ (Nat.ne_of_gt hel)).trans hT'
    have new : ObjOk X.prog X.w (upd H s.heap.objs.size (.tup [.int (i : Nat), x])) h2 s.heap.objs.size (.tup [.int (i : Nat), x]) :=
      ⟨by show 2 ≤ sizeLine; decide, [.int i tk, y], .cons ⟨_, rfl⟩ (.cons ru .nil), ⟨_, hT2, rfl, _, rfl⟩⟩
    have I1 : Inv X pins σ (upd H s.heap.objs.size (.tup [.int (i : Nat), x])) { s with heap := h2, toks := tk + 1 } :=
      I.turnedNew (ch := [e, it]) (fun b ob hb q => (sb.2 b (fun z => hb (by simp [z]))).trans (hk b ob (fun z => hb (by simp [z])) (fun z => hb (by simp [z])) q)) hf (Nat.le_refl _) new
    refine ⟨.ref s.heap.objs.size, _, I1, rfl, ⟨_, x, rfl, I.hok.fresh (Nat.le_refl _), rfl, fun ys hy => by rw [I.tuple_inj hy hq]; exact hx⟩, ⟨⟨y, ?_⟩, hit'.at fun o q => (sb.2 it (Ne.symm hne)).trans q, hne, hai, hea⟩, fun b hb => ?_⟩
    · rw [show ((i + 1 : Nat) : Int) = (i : Int) + 1 by omega]
      exact he2
    · have hb' : b < s.heap.objs.size := by
        rcases List.mem_cons.mp hb with z | z
        · exact z ▸ hel
        · exact List.mem_singleton.mp z ▸ hil
      rw [upd_ne (Nat.ne_of_lt hb')]
      exact (hf b hb).1
  done := by
    intro X hP hw hK hc i pins s σ H E I hf st hg
    subst hP hw hK
    obtain ⟨⟨old, he⟩, hit, hne, hai, hea⟩ := st
    obtain ⟨xs, hq, hx⟩ := hg
    obtain ⟨its, rv, p, hz⟩ := I.tuple hq
    have hT : s.heap.IsTuple a its.toArray := p
    obtain ⟨f0, f1, f2, f3, f4, f5⟩ := hf it (by simp)
    have hl := rv.length
    have es : its.toArray.size = i := by
      simp
      omega
    refine wpAny_pyNext_enum_endD (Draws.tuple (prog := X.prog) (w := X.w) (A := X.A.in1) (show X.A.in1.handled = Option.none from I.ok.hd hc) it a hai its.toArray) he ⟨es ▸ hit, hT⟩ fun h' eb => ⟨rfl, I.turned (t' := s.toks) (fun b o hb q => eb b o hb q) f0 f1 f3 f4 f5⟩
  self := fun A i s Q E st h => let ⟨⟨_, he⟩, _⟩ := st; wpAny_pyIter_enum he h
def iEnumT (K : PySem.W.Frag) (ta : TA) : TI := fun σ H R => ta σ H fun vs H1 => ∃ a xs, vs = [.ref a] ∧ SqT K H1 a xs ∧ R (IteT K a) H1
theorem pi_enumT {X : Cx} {e : Expr} {ta : TA} {p pos tpos : Pos} {elts : List Expr} {kk : Nat} (hg : Gl X "enumerate") (hm : X.mg "enumerate" = none) (ha : PA X [e] ta) (hs : starEach [e] X.env = [(false, eval e X.env)] := by rfl) :
    PI X (.Tuple elts kk tpos) (.Call (.Name "enumerate" p) [e] [] pos) (iEnumT X.K ta) := by
  refine ⟨fun pins s σ H R I h => Call_ (ld_blt I hg hm boot_enumerate (PyProof.Rows.callWith_type1 (thn (ha.run pos pins s σ H _ I h) fun us s1 ⟨vs, H1, I1, r1, q1⟩ => ?_) hs rfl))⟩
  obtain ⟨a, xs, rfl, hq, q⟩ := q1
  rw [Vals.ref1 r1]
  obtain ⟨its, rv, pt, hz⟩ := I1.tuple hq
  have hT : s1.heap.IsTuple a its.toArray := pt
  have hal : a < s1.heap.objs.size := by
    obtain ⟨_, z, _⟩ := hT
    exact Heap.lt_size z
  refine enum_tuple_called hT fun h' he hit hk => wpAny_pyIter_enum he ?_
  refine ⟨s1.heap.objs.size + 1, [s1.heap.objs.size + 1, s1.heap.objs.size], _, _, H1, rfl, I1.kept (t' := s1.toks) hk, turn_enumT a _ s1.heap.objs.size xs, ⟨⟨.none, he⟩, hit, Nat.succ_ne_self _, Nat.ne_of_lt hal, Nat.ne_of_gt (Nat.lt_succ_of_lt hal)⟩, fun b hb => ?_, q⟩
  have hle : s1.heap.objs.size ≤ b := by
    rcases List.mem_cons.mp hb with z | z
    · exact z ▸ Nat.le_succ _
    · exact Nat.le_of_eq (List.mem_singleton.mp z).symm
  exact I1.fpOk hle (I1.hok.fresh hle)
theorem walk_enumT {K : PySem.W.Frag} {a : Addr} {xs : List V} : Walk (IteT K a) xs.length (fun H => SqT K H a xs) (YPair (fun i => some (.int (i : Nat))) (fun i => xs[i]?)) := by
  refine ⟨fun i _ hi q => ⟨xs, xs[i], q, List.getElem?_eq_getElem hi⟩, fun _ q => ⟨xs, q, rfl⟩, fun i H v H' _ q y => ?_⟩
  obtain ⟨T, x, h1, h2, h3, h4⟩ := y
  exact ⟨T, .int (i : Nat), x, h1, h2, h3, rfl, h4 xs q⟩
end Ys
/-! The program's own moves, first part: is_row, check_row, first_situation, is_live, source_ends, target_ends. -/
namespace Ys
open PySem PySem.Spec PyProof.Rows L2
theorem upTo_sorted (n : Nat) : (upTo n).Pairwise (· ≤ ·) := by
  unfold upTo
  rw [List.pairwise_map]
  refine List.Pairwise.imp ?_ (List.pairwise_lt_range (n := n))
  intro a b h
  omega
theorem upTo_len (n : Nat) : (upTo n).length = n := by
  unfold upTo
  rw [List.length_map, List.length_range]
/-- a row as the program takes it -/
structure Row (row : List Int) : Prop where
  perm : row.Perm (upTo row.length)
  len : row.length ≤ 60

section
variable {P : Program} {w : World} {K : PySem.W.Frag} {mg : Str → Option Value} {base : Heap}
abbrev s_is_row : Stmt := top 8
theorem sc_is_row : FnScope ["numbers"] ["numbers"] (defScope s_is_row) := ⟨rfl, rfl, rfl, by decide +kernel, rfl, by decide +kernel, by decide +kernel⟩
theorem bd_is_row : BindsAs "is_row" "is_row" s_is_row ["numbers"] := fun _ _ _ _ _ _ us hl => match us, hl with | [_], _ => rfl
def spRow (u : V) : Sp := fun vs H Q _ => ∃ (ra : Addr) (row : List Int), vs = [.ref ra] ∧ H ra = some (.lst (row.map V.int)) ∧ Row row ∧ ∀ H' : Hp, Same H H' → Q u H'
theorem ok_is_row (G : Glo mg) (D : DefAt K mg "is_row" s_is_row) : Kp P w K mg base "is_row" 1 ["numbers"] (spRow (.bl true)) := by
  refine kp_of D sc_is_row bd_is_row (fun vs H Q E ⟨_, _, h, _⟩ => by rw [h]; rfl) fun f cdv A outer s H vs Q E hr h => ?_
  obtain ⟨ra, row, rfl, hrow, R, k⟩ := h
  obtain ⟨tM, gM⟩ := G.mostRows
  have hu := hr.units
  refine ⟨_, (pss_cons (ps_if (pt_cmpR op_gt (pe_callB call_len_seq (by rfl) G.len PySem.boot_len (pa_cons (pv 0) pa_nil)) (pe_glob (v := .int 60) (by rfl) gM ⟨_, rfl⟩) (nomark _))
      (pss_one (ps_ret pe_bl))
      pss_nil)
    (pss_one (ps_ret (pe_cmpR (op_eqD hu) (pe_callB cr_sortedI (by rfl) G.sorted (by decide +kernel) (pa_cons (pv 0) pa_nil)) (pe_listRg rfl (by rfl) G.list (prg_2 (by rfl) G.range pe_int (pe_op op_add (pe_callB call_len_seq (by rfl) G.len PySem.boot_len (pa_cons (pv 0) pa_nil)) pe_int))) (nomark _))))), ?_⟩
  have hl := R.len
  refine ⟨_, rfl, ra, _, rfl, .inl (SqL.of hrow), _, _, rfl, rfl, _, rfl, ?_⟩
  refine iteDF (by rw [List.length_map]; omega) ?_
  refine ⟨_, rfl, ra, row, rfl, SqL.of hrow, fun ns p pm so hp => ?_⟩
  have s1 := Same.new (o := .lst (ns.map V.int)) hp
  refine ⟨_, rfl, ra, _, rfl, .inl (SqL.of (s1 _ _ hrow)), _, _, rfl, rfl, _, _, rfl, rfl, ?_, fun l2 hl2 => ?_⟩
  · rw [List.length_map]
    exact .of_le (by omega) (by omega) (by omega) (by omega)
  · have s2 := Same.new (o := .lst (rgV 1 (((row.map V.int).length : Int) + 1))) hl2
    have e : rgV 1 (((row.map V.int).length : Int) + 1) = (upTo row.length).map V.int := by
      rw [List.length_map]
      exact rgV_upTo _
    have e2 : ns = upTo row.length := PySem.W.ksm_same (pm.trans R.perm) so (upTo_sorted _)
    refine ⟨.list (ns.map PyData.int), .list ((upTo row.length).map PyData.int), Dt.dp _ _ (.lst (s2 _ _ upd_same) (.ints _)), Dt.dp _ _ (.lst upd_same (by rw [e]; exact .ints _)), shaped_ints _, shaped_ints _, ?_⟩
    rw [eqv_ints, decide_eq_true e2]
    exact k _ (Same.trans s1 s2)

abbrev s_check_row : Stmt := top 23
theorem sc_check_row : FnScope ["row"] ["row"] (defScope s_check_row) := ⟨rfl, rfl, rfl, by decide +kernel, rfl, by decide +kernel, by decide +kernel⟩
theorem bd_check_row : BindsAs "check_row" "check_row" s_check_row ["row"] := fun _ _ _ _ _ _ us hl => match us, hl with | [_], _ => rfl
theorem ok_check_row (G : Glo mg) (D : DefAt K mg "check_row" s_check_row) (k_is_row : Kp P w K mg base "is_row" 1 ["numbers"] (spRow (.bl true))) : Kp P w K mg base "check_row" 2 ["row"] (spRow .non) := by
  refine kp_of D sc_check_row bd_check_row (fun vs H Q E ⟨_, _, h, _⟩ => by rw [h]; rfl) fun f cdv A outer s H vs Q E hr h => ?_
  obtain ⟨ra, row, rfl, hrow, R, k⟩ := h
  refine ⟨_, (pss_one (ps_if (pt_not (pt_truth (pe_kp k_is_row hr (by rfl) (pa_cons (pv 0) pa_nil)) (by intro _; rfl)))
      (pss_one ps_never)
      pss_nil)), ?_⟩
  refine ⟨_, rfl, ra, row, rfl, hrow, R, fun H' s => ⟨true, rfl, ?_⟩⟩
  exact k _ s

abbrev s_first_situation : Stmt := top 24
theorem sc_first_situation : FnScope ["yard", "row", "_"] ["yard", "row"] (defScope s_first_situation) := ⟨rfl, rfl, rfl, by decide +kernel, rfl, by decide +kernel, by decide +kernel⟩
theorem bd_first_situation : BindsAs "first_situation" "first_situation" s_first_situation ["yard", "row"] := fun _ _ _ _ _ _ us hl => match us, hl with | [_, _], _ => rfl
def spFirst (C : Addr) : Sp := fun vs H Q _ => ∃ (y ra : Addr) (row : List Int) (devs : List Dev) (L : List (Int × Int)), vs = [.ref y, .ref ra] ∧ YardAt C H y devs L ∧ devs.length ≤ 1000 ∧ H ra = some (.lst (row.map V.int)) ∧ Row row ∧
  ∀ (v : V) (H' : Hp), Same H H' → Dt H' v (dSit (startS devs.length)) → Q v H'
theorem ok_first {C : Addr} (G : Glo mg) (Y : YCls K mg C) (D : DefAt K mg "first_situation" s_first_situation) (k_check_row : Kp P w K mg base "check_row" 2 ["row"] (spRow .non)) (k_len : KpM P w K mg base C "__len__" 1 ["self"] (spYLen C)) :
    Kp P w K mg base "first_situation" 3 ["yard", "row"] (spFirst C) := by
  refine kp_of D sc_first_situation bd_first_situation (fun vs H Q E ⟨_, _, _, _, _, h, _⟩ => by rw [h]; rfl) fun f cdv A outer s H vs Q E hr h => ?_
  obtain ⟨y, ra, row, devs, L, rfl, hY, hdl, hrow, R, k⟩ := h
  obtain ⟨fl, fdl, Fl, Ml, bl⟩ := k_len
  refine ⟨_, (pss_cons (ps_expr (pe_kp k_check_row hr (by rfl) (pa_cons (pv 1) pa_nil)))
    (pss_one (ps_ret (pe_tup (pa_cons pe_int (pa_cons (pe_callTy call_tuple_of (by rfl) G.tuple (by decide +kernel) (pa_cons (pe_lc (own := [("_", 2)]) (g := gName 2) (by rfl) sc_first_situation.nd (pi_range1 (by rfl) G.range (pa_cons (pe_callB (call_len_own Fl rfl hr Ml bl) (by rfl) G.len PySem.boot_len (pa_cons (pv 0) pa_nil)) pa_nil)) (blkOk_by (N := ["yard", "row", "_"]) (sc := defScope s_first_situation) (by decide +kernel)) (fun _ _ _ _ _ => pg_name (i := 2) sc_first_situation.nd rfl (Or.inl rfl)) (fun _ _ _ _ _ => pts_nil) (fun _ _ _ _ _ => (pe_tup pa_nil))) pa_nil)) (pa_cons (pe_tup pa_nil) pa_nil))))))), ?_⟩
  refine ⟨_, rfl, ra, row, rfl, hrow, R, fun H1 s1 => ?_⟩
  have hY1 := hY.same s1
  obtain ⟨dx, kk, b, l, t, zs, h1, h2, h3, h4, h5⟩ := id hY1
  refine ⟨_, rfl, y, dx, _, rfl, h1, y, devs, L, rfl, hY1, _, rfl, by omega, by omega, ((devs.length : Nat) : Int), rfl, by omega, by omega, fun D hD => lc_range
    (fun i H' => Same H H' ∧ ∃ us, H' D = some (.lst us) ∧ DtAll H' us ((List.replicate i ([] : List Int)).map dInts) ∧ us.length = i)
    ⟨Same.trans s1 (Same.new hD), [], upd_same, .nil, rfl⟩ ?_ ?_⟩
  · rintro i H2 hi ⟨s2, us, h1, hD1, hl1⟩
    refine ⟨rfl, Nat.zero_le _, fun t ht => ?_⟩
    have nDt : D ≠ t := ne_of_none h1 ht
    have st : Same H2 (upd H2 t (.tup [])) := Same.new ht
    have hDH : H D = none := Same.free s1 hD
    refine ⟨us, (upd_ne nDt).trans h1, small (by omega), Same.mut (Same.trans s2 st) hDH, us ++ [.ref t], upd_same, ?_, by rw [List.length_append, List.length_singleton, hl1]⟩
    rw [List.replicate_succ', List.map_append]
    refine DtAll.snoc ?_ (.tup (by rw [upd_ne nDt.symm]; exact upd_same) .nil)
    exact hD1.tups (Tups.trans (Tups.of_same st) (Tups.put ((upd_ne nDt).trans h1) (fun _ z => nomatch z))) _ _ (noLists_map noList_ints _)
  · rintro H2 ⟨s2, us, h1, hD1, hl1⟩
    refine ⟨D, us, rfl, .inl ⟨SqL.of h1, fun b hb => ?_⟩⟩
    have s3 := Same.new (o := .tup us) hb
    refine ⟨Nat.zero_le _, fun g hg => ⟨(szl rfl), fun a ha => ?_⟩⟩
    have s4 := Same.new (o := .tup []) hg
    have s5 := Same.new (o := .tup [.int 0, .ref b, .ref g]) ha
    refine k _ _ (Same.trans s2 (Same.trans s3 (Same.trans s4 s5))) (sit_mk (c := 0) (hs := us) upd_same (s5 _ _ (s4 _ _ upd_same)) ?_ (s5 _ _ upd_same))
    exact hD1.same (Same.trans s3 (Same.trans s4 s5))

abbrev s_is_live : Stmt := top 33
theorem sc_is_live : FnScope ["situation", "gone"] ["situation"] (defScope s_is_live) := ⟨rfl, rfl, rfl, by decide +kernel, rfl, by decide +kernel, by decide +kernel⟩
theorem bd_is_live : BindsAs "is_live" "is_live" s_is_live ["situation"] := fun _ _ _ _ _ _ us hl => match us, hl with | [_], _ => rfl
theorem ok_live (G : Glo mg) (D : DefAt K mg "is_live" s_is_live) : Kp P w K mg base "is_live" 1 ["situation"] spLive := by
  refine kp_of D sc_is_live bd_is_live (fun vs H Q E ⟨_, _, h, _⟩ => by rw [h]; rfl) fun f cdv A outer s H vs Q E hr h => ?_
  obtain ⟨v, S, rfl, hS, hz, k⟩ := h
  have hu := hr.units
  refine ⟨_, (pss_cons (ps_set (i := 1) sc_is_live.nd rfl (Or.inl rfl) (pe_ix ix_tup (pv 0) pe_int (fun _ _ => rfl)))
    (pss_one (ps_ret (pe_cmpR (op_eqD hu) (pe_callTy call_list_of (by rfl) G.list (by decide +kernel) (pa_cons (pv 1) pa_nil))
      (pe_listRg rfl (by rfl) G.list (prg_2 (by rfl) G.range pe_int (pe_op op_add (pe_callB call_len_seq (by rfl) G.len PySem.boot_len (pa_cons (pv 1) pa_nil)) pe_int))) (nomark _))))), ?_⟩
  obtain ⟨a, b, g, hs, rfl, ha, hb, hhs, hg⟩ := sit_inv hS
  refine ⟨_, rfl, a, _, _, _, rfl, rfl, SqT.of ha, at_of (j := 2) rfl rfl, ?_⟩
  refine ⟨_, rfl, g, _, rfl, .inr (SqT.of hg), fun l1 hl1 => ?_⟩
  have s1 := Same.new (o := .lst (S.gone.map V.int)) hl1
  refine ⟨_, rfl, g, _, rfl, .inr (SqT.of (s1 _ _ hg)), _, _, rfl, rfl, _, _, rfl, rfl, ?_, fun l2 hl2 => ?_⟩
  · rw [List.length_map]
    exact .of_le (by omega) (by omega) (by omega) (by omega)
  · have s2 := Same.new (o := .lst (rgV 1 (((S.gone.map V.int).length : Int) + 1))) hl2
    have e : rgV 1 (((S.gone.map V.int).length : Int) + 1) = (upTo S.gone.length).map V.int := by
      rw [List.length_map]
      exact rgV_upTo _
    refine ⟨.list (S.gone.map PyData.int), .list ((upTo S.gone.length).map PyData.int), Dt.dp _ _ (.lst (s2 _ _ upd_same) (.ints _)), Dt.dp _ _ (.lst upd_same (by rw [e]; exact .ints _)), shaped_ints _, shaped_ints _, ?_⟩
    rw [eqv_ints]
    exact k _ (Same.trans s1 s2)

abbrev s_source_ends : Stmt := top 26
theorem sc_source_ends : FnScope ["yard", "row", "situation", "source", "came", "held", "_"] ["yard", "row", "situation", "source"] (defScope s_source_ends) := ⟨rfl, rfl, rfl, by decide +kernel, rfl, by decide +kernel, by decide +kernel⟩
theorem bd_source_ends : BindsAs "source_ends" "source_ends" s_source_ends ["yard", "row", "situation", "source"] := fun _ _ _ _ _ _ us hl => match us, hl with | [_, _, _, _], _ => rfl
def spSEnds (C : Addr) : Sp := fun vs H Q _ => ∃ (y ra : Addr) (v : V) (row : List Int) (devs : List Dev) (L : List (Int × Int)) (S : Sit) (src : Int), vs = [.ref y, .ref ra, v, .int src] ∧ YardAt C H y devs L ∧ H ra = some (.lst (row.map V.int)) ∧ Dt H v (dSit S) ∧
  S.held.length = devs.length ∧ S.came ≤ row.length ∧ (src = -1 ∨ (0 ≤ src ∧ src < devs.length)) ∧ ∀ (p : Addr) (H' : Hp), Same H H' → H p = none → H' p = some (.lst ((srcEnds devs row.length S src).map V.int)) → Q (.ref p) H'
theorem ok_source_ends {C : Addr} (G : Glo mg) (Y : YCls K mg C) (D : DefAt K mg "source_ends" s_source_ends) (k_outs : KpM P w K mg base C "outs" 1 ["self", "device"] (spYEnds C Ltr.outs)) :
    Kp P w K mg base "source_ends" 2 ["yard", "row", "situation", "source"] (spSEnds C) := by
  refine kp_of D sc_source_ends bd_source_ends (fun vs H Q E ⟨_, _, _, _, _, _, _, _, h, _⟩ => by rw [h]; rfl) fun f cdv A outer s H vs Q E hr h => ?_
  obtain ⟨y, ra, v, row, devs, L, S, src, rfl, hY, hrow, hS, hlen, hcm, hsrc, k⟩ := h
  obtain ⟨tO, gO⟩ := G.outside
  refine ⟨_, (pss_cons (ps_asg (pv 2) (pg_tup (by rfl) (pgs_cons (pg_name (i := 4) sc_source_ends.nd rfl (Or.inl rfl)) (pgs_cons (pg_name (i := 5) sc_source_ends.nd rfl (Or.inl rfl)) (pgs_cons (pg_name (i := 6) sc_source_ends.nd rfl (Or.inl rfl)) pgs_nil)))))
    (pss_cons (ps_if (pt_cmpR op_eq (pv 3) (pe_glob (v := .int (-1)) (by rfl) gO ⟨_, rfl⟩) (nomark _))
      (pss_one (ps_ret (pe_ifExp (pt_cmpR op_lt (pv 4) (pe_callB call_len_seq (by rfl) G.len PySem.boot_len (pa_cons (pv 1) pa_nil)) (nomark _)) (pe_lst (pa_cons pe_int pa_nil)) (pe_lst pa_nil))))
      pss_nil)
    (pss_one (ps_ret (pe_ifExp (pt_truth (pe_ix ix_tup (pv 5) (pv 3) (fun _ _ => rfl)) (by intro _; rfl)) (pe_kpm k_outs hr Y.cl (pv 0) (pa_cons (pv 3) pa_nil)) (pe_lst pa_nil)))))), ?_⟩
  obtain ⟨a, b, g, hs, rfl, ha, hb, hhs, hg⟩ := sit_inv hS
  refine ⟨_, rfl, a, _, rfl, SqT.of ha, rfl, _, _, rfl, _, _, rfl, _, _, rfl, rfl, ?_⟩
  rcases hsrc with rfl | ⟨h0, h1⟩
  · refine ⟨_, rfl, rfl, _, rfl, iteDT rfl ?_⟩
    have es := srcEnds_out (devs := devs) hcm
    refine ⟨_, rfl, _, rfl, ra, _, rfl, .inl (SqL.of hrow), _, _, rfl, rfl, _, rfl, iteD2 (fun c => ?_) (fun c => ?_)⟩
    · rw [List.length_map] at c
      rw [if_pos (by omega)] at es
      refine ⟨(szl rfl), fun q hq => k q _ (Same.new hq) hq ?_⟩
      rw [upd_same, es]
      rfl
    · rw [List.length_map] at c
      rw [if_neg (by omega)] at es
      refine ⟨(szl rfl), fun q hq => k q _ (Same.new hq) hq ?_⟩
      rw [upd_same, es]
      rfl
  · obtain ⟨j, ej, _, hj⟩ := nat_of h0 h1
    subst ej
    refine ⟨_, rfl, rfl, _, rfl, iteDF (by intro z; injection z with z; omega) ?_⟩
    have hjl : j < S.held.length := by omega
    obtain ⟨hv, e1, e2⟩ := hhs.get (get_map (f := dInts) (List.getElem?_eq_getElem hjl))
    obtain ⟨ha2, rfl, hx⟩ := ints_inv e2
    have hSl : S.held[j]? = some S.held[j] := List.getElem?_eq_getElem hjl
    have hdl : devs[j]? = some devs[j] := List.getElem?_eq_getElem hj
    have es := srcEnds_dev (n := row.length) hdl hSl
    refine ⟨_, rfl, _, rfl, b, _, _, _, rfl, rfl, SqT.of hb, at_of rfl e1, _, .inr (.inl ⟨_, SqT.of hx, rfl⟩), ?_⟩
    cases hl : S.held[j] with
    | nil =>
      rw [hl] at es
      refine iteF ⟨(szl rfl), fun q hq => k q _ (Same.new hq) hq ?_⟩
      rw [upd_same, es]
      rfl
    | cons x t =>
      rw [hl] at es
      rw [if_neg (by simp)] at es
      obtain ⟨dx, kk, bb, l, tt, zs, h1, _⟩ := id hY
      refine iteT ⟨_, rfl, y, dx, _, rfl, h1, yf_no _ _ _ _ (by decide +kernel), _, rfl, y, devs, L, j, _, rfl, hY, hdl, fun p H' s1 f1 h1 => ?_⟩
      exact k p H' s1 f1 (by rw [es]; exact h1)

abbrev s_target_ends : Stmt := top 27
theorem sc_target_ends : FnScope ["yard", "situation", "target"] ["yard", "situation", "target"] (defScope s_target_ends) := ⟨rfl, rfl, rfl, by decide +kernel, rfl, by decide +kernel, by decide +kernel⟩
theorem bd_target_ends : BindsAs "target_ends" "target_ends" s_target_ends ["yard", "situation", "target"] := fun _ _ _ _ _ _ us hl => match us, hl with | [_, _, _], _ => rfl
def spTEnds (C : Addr) : Sp := fun vs H Q _ => ∃ (y : Addr) (v : V) (devs : List Dev) (L : List (Int × Int)) (S : Sit) (tgt : Int), vs = [.ref y, v, .int tgt] ∧ YardAt C H y devs L ∧ Dt H v (dSit S) ∧
  S.held.length = devs.length ∧ (tgt = -1 ∨ (0 ≤ tgt ∧ tgt < devs.length)) ∧ ∀ (p : Addr) (H' : Hp), Same H H' → H p = none → H' p = some (.lst ((tgtEnds devs S tgt).map V.int)) → Q (.ref p) H'
theorem ok_target_ends {C : Addr} (G : Glo mg) (Y : YCls K mg C) (D : DefAt K mg "target_ends" s_target_ends) (k_ins : KpM P w K mg base C "ins" 1 ["self", "device"] (spYEnds C Ltr.ins)) (k_room : KpM P w K mg base C "room" 1 ["self", "device", "count"] (spYRoom C)) :
    Kp P w K mg base "target_ends" 2 ["yard", "situation", "target"] (spTEnds C) := by
  refine kp_of D sc_target_ends bd_target_ends (fun vs H Q E ⟨_, _, _, _, _, _, h, _⟩ => by rw [h]; rfl) fun f cdv A outer s H vs Q E hr h => ?_
  obtain ⟨y, v, devs, L, S, tgt, rfl, hY, hS, hlen, htgt, k⟩ := h
  obtain ⟨tO, gO⟩ := G.outside
  refine ⟨_, (pss_cons (ps_if (pt_cmpR op_eq (pv 2) (pe_glob (v := .int (-1)) (by rfl) gO ⟨_, rfl⟩) (nomark _))
      (pss_one (ps_ret (pe_lst (pa_cons pe_int pa_nil))))
      pss_nil)
    (pss_one (ps_ret (pe_ifExp (pt_truth (pe_kpm k_room hr Y.cl (pv 0) (pa_cons (pv 2) (pa_cons (pe_callB call_len_seq (by rfl) G.len PySem.boot_len (pa_cons (pe_ix ix_tup (pe_ix ix_tup (pv 1) pe_int (fun _ _ => rfl)) (pv 2) (fun _ _ => rfl)) pa_nil)) pa_nil))) (by intro _; rfl)) (pe_kpm k_ins hr Y.cl (pv 0) (pa_cons (pv 2) pa_nil)) (pe_lst pa_nil))))), ?_⟩
  obtain ⟨a, b, g, hs, rfl, ha, hb, hhs, hg⟩ := sit_inv hS
  rcases htgt with rfl | ⟨h0, h1⟩
  · refine ⟨_, rfl, rfl, _, rfl, iteDT rfl ?_⟩
    refine ⟨(szl rfl), fun q hq => k q _ (Same.new hq) hq ?_⟩
    rw [upd_same, tgtEnds_out]
    rfl
  · obtain ⟨j, ej, _, hj⟩ := nat_of h0 h1
    subst ej
    refine ⟨_, rfl, rfl, _, rfl, iteDF (by intro z; injection z with z; omega) ?_⟩
    have hjl : j < S.held.length := by omega
    obtain ⟨hv, e1, e2⟩ := hhs.get (get_map (f := dInts) (List.getElem?_eq_getElem hjl))
    obtain ⟨ha2, rfl, hx⟩ := ints_inv e2
    have hSl : S.held[j]? = some S.held[j] := List.getElem?_eq_getElem hjl
    have hdl : devs[j]? = some devs[j] := List.getElem?_eq_getElem hj
    have es := tgtEnds_dev hdl hSl
    obtain ⟨dx, kk, bb, l, tt, zs, h1, _⟩ := id hY
    refine ⟨_, rfl, y, dx, _, rfl, h1, yf_no _ _ _ _ (by decide +kernel), _, rfl, _, rfl, a, _, _, _, rfl, rfl, SqT.of ha, at_of (j := 1) rfl rfl, _, rfl, b, _, _, _, rfl, rfl, SqT.of hb, at_of rfl e1, ha2, _, rfl, .inr (SqT.of hx), y, devs, L, j, _, _, rfl, hY, hdl, _, rfl, ?_⟩
    rw [List.length_map]
    by_cases c : 0 < devs[j].bound ∧ devs[j].bound ≤ S.held[j].length
    · rw [if_pos c] at es
      rw [decide_eq_true c]
      refine iteF ⟨(szl rfl), fun q hq => k q _ (Same.new hq) hq ?_⟩
      rw [upd_same, es]
      rfl
    · rw [if_neg c] at es
      rw [decide_eq_false c]
      refine iteT ⟨_, rfl, y, dx, _, rfl, h1, yf_no _ _ _ _ (by decide +kernel), _, rfl, y, devs, L, j, _, rfl, hY, hdl, fun p H' s1 f1 h1 => ?_⟩
      exact k p H' s1 f1 (by rw [es]; exact h1)
end
end Ys
/-! The program's own moves, second part: possible, wagon_of, after. -/
namespace Ys
open PySem PySem.Spec PyProof.Rows L2
section
variable {P : Program} {w : World} {K : PySem.W.Frag} {mg : Str → Option Value} {base : Heap}
abbrev s_possible : Stmt := top 28
theorem sc_possible : FnScope ["yard", "row", "situation", "moves", "source", "target", "out", "end"] ["yard", "row", "situation"] (defScope s_possible) := ⟨rfl, rfl, rfl, by decide +kernel, rfl, by decide +kernel, by decide +kernel⟩
theorem bd_possible : BindsAs "possible" "possible" s_possible ["yard", "row", "situation"] := fun _ _ _ _ _ _ us hl => match us, hl with | [_, _, _], _ => rfl
def spMoves (C : Addr) : Sp := fun vs H Q _ => ∃ (y ra : Addr) (v : V) (row : List Int) (devs : List Dev) (L : List (Int × Int)) (S : Sit), vs = [.ref y, .ref ra, v] ∧ YardAt C H y devs L ∧ H ra = some (.lst (row.map V.int)) ∧ Dt H v (dSit S) ∧
  S.held.length = devs.length ∧ S.came ≤ row.length ∧ LinksOk devs.length L ∧ L.length ≤ 1000 ∧ ∀ (p : Addr) (ys : List V) (ms : List Mv) (H' : Hp), Same H H' → H p = none → H' p = some (.lst ys) → DtAll H' ys (ms.map dMv) → ms.Perm (moves L devs row.length S) → Q (.ref p) H'
theorem ok_possible {C : Addr} (G : Glo mg) (Y : YCls K mg C) (D : DefAt K mg "possible" s_possible) (k_source_ends : Kp P w K mg base "source_ends" 2 ["yard", "row", "situation", "source"] (spSEnds C)) (k_target_ends : Kp P w K mg base "target_ends" 2 ["yard", "situation", "target"] (spTEnds C)) :
    Kp P w K mg base "possible" 3 ["yard", "row", "situation"] (spMoves C) := by
  refine kp_of D sc_possible bd_possible (fun vs H Q E ⟨_, _, _, _, _, _, _, h, _⟩ => by rw [h]; rfl) fun f cdv A outer s H vs Q E hr h => ?_
  obtain ⟨yd, ra, v, row, devs, L, S, rfl, hY, hrow, hS, hlen, hcm, hL, hLl, k⟩ := h
  have hu := hr.units
  refine ⟨_, (pss_cons (ps_set (i := 3) sc_possible.nd rfl (Or.inl rfl) (pe_lst pa_nil))
    (pss_cons (ps_for PassesOwn.never rfl (pi_list (pe_fld (pv 0) rfl)) (pg_tup (by rfl) (pgs_cons (pg_name (i := 4) sc_possible.nd rfl (Or.inl rfl)) (pgs_cons (pg_name (i := 5) sc_possible.nd rfl (Or.inl rfl)) pgs_nil)))
      (pss_one (ps_for PassesOwn.never rfl (pi_list (pe_kp k_source_ends hr (by rfl) (pa_cons (pv 0) (pa_cons (pv 1) (pa_cons (pv 2) (pa_cons (pv 4) pa_nil)))))) (pg_name (i := 6) sc_possible.nd rfl (Or.inl rfl))
        (pss_one (ps_for PassesOwn.never rfl (pi_list (pe_kp k_target_ends hr (by rfl) (pa_cons (pv 0) (pa_cons (pv 2) (pa_cons (pv 5) pa_nil))))) (pg_name (i := 7) sc_possible.nd rfl (Or.inl rfl))
          (pss_one (ps_expr (pe_bm PySem.F.plainAttrs_list PySem.F.slot_list_append PySem.F.type_list_append mt_append (pv 3) (pa_cons (pe_tup (pa_cons (pv 4) (pa_cons (pv 6) (pa_cons (pv 5) (pa_cons (pv 7) pa_nil))))) pa_nil)))))))))
    (pss_one (ps_ret (pe_callB (cr_sortedDt hu) (by rfl) G.sorted (by decide +kernel) (pa_cons (pv 3) pa_nil)))))), ?_⟩
  obtain ⟨dx, kk, bb, l0, tt, zs, n1, n2, n3, n4, n5⟩ := id hY
  refine ⟨Nat.zero_le _, fun l hl => ?_⟩
  have s0 : Same H (upd H l (.lst [])) := Same.new hl
  have hzl : zs.length = L.length := by
    have := n5.length
    rw [List.length_map] at this
    exact this
  refine ⟨_, rfl, yd, C, dx, _, _, rfl, s0 _ _ n1, Y.cl, Y.nL, fld_get (i := 3) (yf_keys _ _ _ _) rfl, l0, rfl, ⟨_, SqL.of (s0 _ _ n4)⟩, for_list (K := K) (a := l0) (xs := zs)
    (fun i σ H' => ∃ (ys : List V) (v4 v5 v6 v7 : Option V), σ = [some (.ref yd), some (.ref ra), some v, some (.ref l), v4, v5, v6, v7] ∧ Same H H' ∧ H' l = some (.lst ys) ∧ DtAll H' ys ((moves (L.take i) devs row.length S).map dMv) ∧ ys.length ≤ 4 * i)
    ⟨[], _, _, _, _, rfl, s0, upd_same, .nil, Nat.zero_le _⟩ (fun i σ H' _ ⟨_, _, _, _, _, _, s, _⟩ => SqL.of (s _ _ n4)) ?_ ?_⟩
  · rintro i y σ H1 hi ⟨ys, v4, v5, v6, v7, rfl, s1, h1, hD1, hl1⟩
    obtain ⟨dl, hdl, hyd⟩ := n5.get' hi
    obtain ⟨lk, hlk, rfl⟩ : ∃ lk, L[i]? = some lk ∧ dl = dLink lk := by
      rw [List.getElem?_map] at hdl
      cases e : L[i]? with
      | none => rw [e] at hdl; cases hdl
      | some lk => rw [e] at hdl; exact ⟨lk, rfl, (Option.some.inj hdl).symm⟩
    obtain ⟨ta, rfl, hta⟩ := link_inv hyd
    obtain ⟨o1, o2⟩ := hL lk (List.mem_of_getElem? hlk)
    have hiL := lt_of_get hlk
    refine ⟨ta, _, rfl, SqT.of (s1 _ _ hta), rfl, _, _, rfl, _, _, rfl, rfl, ?_⟩
    refine ⟨_, rfl, _, rfl, _, rfl, _, rfl, yd, ra, v, row, devs, L, S, lk.1, rfl, hY.same s1, s1 _ _ hrow, hS.same s1, hlen, hcm, o1, fun p1 H2 s2 f2 h2 => ?_⟩
    have np1 : p1 ≠ l := fun z => by rw [z, h1] at f2; cases f2
    refine ⟨p1, rfl, ⟨_, SqL.of h2⟩, for_list (K := K) (a := p1) (xs := (srcEnds devs row.length S lk.1).map V.int)
      (fun j σ H' => ∃ (ys : List V) (v6 v7 : Option V), σ = [some (.ref yd), some (.ref ra), some v, some (.ref l), some (.int lk.1), some (.int lk.2), v6, v7] ∧ Same H H' ∧ H' l = some (.lst ys) ∧ H' p1 = some (.lst ((srcEnds devs row.length S lk.1).map V.int)) ∧
        DtAll H' ys ((moves (L.take i) devs row.length S ++ ((srcEnds devs row.length S lk.1).take j).flatMap fun o => (tgtEnds devs S lk.2).map fun e => (⟨lk.1, o, lk.2, e⟩ : Mv)).map dMv) ∧ ys.length ≤ 4 * i + 2 * j)
      ⟨ys, _, _, rfl, Same.trans s1 s2, s2 _ _ h1, h2, by rw [List.take_zero, List.flatMap_nil, List.append_nil]; exact hD1.same s2, hl1⟩ (fun j σ H' _ ⟨_, _, _, _, _, _, z, _⟩ => SqL.of z) ?_ ?_⟩
    · rintro j y σ H3 hj ⟨ys, v6, v7, rfl, s3, h3, q3, hD3, hl3⟩
      obtain ⟨o, ho, rfl⟩ := map_get hj
      have hj2 : j < 2 := Nat.lt_of_lt_of_le (lt_of_get ho) (srcEnds_len _ _ _ _)
      refine ⟨_, rfl, _, rfl, _, rfl, yd, v, devs, L, S, lk.2, rfl, hY.same s3, hS.same s3, hlen, o2, fun p2 H4 s4 f4 h4 => ?_⟩
      have np2 : p2 ≠ l := fun z => by rw [z, h3] at f4; cases f4
      refine ⟨p2, rfl, ⟨_, SqL.of h4⟩, for_list (K := K) (a := p2) (xs := (tgtEnds devs S lk.2).map V.int)
        (fun m σ H' => ∃ (ys : List V) (v7 : Option V), σ = [some (.ref yd), some (.ref ra), some v, some (.ref l), some (.int lk.1), some (.int lk.2), some (.int o), v7] ∧ Same H H' ∧ H' l = some (.lst ys) ∧ H' p1 = some (.lst ((srcEnds devs row.length S lk.1).map V.int)) ∧ H' p2 = some (.lst ((tgtEnds devs S lk.2).map V.int)) ∧
          DtAll H' ys (((moves (L.take i) devs row.length S ++ ((srcEnds devs row.length S lk.1).take j).flatMap fun o => (tgtEnds devs S lk.2).map fun e => (⟨lk.1, o, lk.2, e⟩ : Mv)) ++ ((tgtEnds devs S lk.2).take m).map fun e => (⟨lk.1, o, lk.2, e⟩ : Mv)).map dMv) ∧ ys.length ≤ 4 * i + 2 * j + m)
        ⟨ys, _, rfl, Same.trans s3 s4, s4 _ _ h3, s4 _ _ q3, h4, by rw [List.take_zero, List.map_nil, List.append_nil]; exact hD3.same s4, hl3⟩ (fun m σ H' _ ⟨_, _, _, _, _, _, z, _⟩ => SqL.of z) ?_ ?_⟩
      · rintro m y σ H5 hm ⟨ys, v7, rfl, s5, h5, q5, r5, hD5, hl5⟩
        obtain ⟨e, he, rfl⟩ := map_get hm
        have hm2 : m < 2 := Nat.lt_of_lt_of_le (lt_of_get he) (tgtEnds_len _ _ _)
        refine ⟨_, rfl, .inl ⟨rfl, _, SqL.of h5⟩, _, rfl, _, rfl, _, rfl, _, rfl, (szl rfl), fun t ht => ?_⟩
        have nlt : l ≠ t := ne_of_none h5 ht
        have n1t : p1 ≠ t := ne_of_none q5 ht
        have n2t : p2 ≠ t := ne_of_none r5 ht
        refine ⟨l, ys, .ref t, rfl, rfl, (upd_ne nlt).trans h5, small (by omega), ?_⟩
        have st : Same H5 (upd H5 t (.tup [.int lk.1, .int o, .int lk.2, .int e])) := Same.new ht
        refine ⟨ys ++ [.ref t], _, rfl, Same.mut (Same.trans s5 st) hl, upd_same, by rw [upd_ne np1, upd_ne n1t]; exact q5, by rw [upd_ne np2, upd_ne n2t]; exact r5, ?_, by rw [List.length_append, List.length_singleton]; omega⟩
        rw [map_take_add he, ← List.append_assoc, List.map_append]
        refine DtAll.snoc ?_ (.tup (by rw [upd_ne nlt.symm]; exact upd_same) (.cons (.int _) (.cons (.int _) (.cons (.int _) (.cons (.int _) .nil)))))
        exact hD5.tups (Tups.trans (Tups.of_same st) (Tups.put ((upd_ne nlt).trans h5) (fun _ z => nomatch z))) _ _ (noLists_map noList_mv _)
      · rintro σ H5 ⟨ys, v7, rfl, s5, h5, q5, r5, hD5, hl5⟩
        rw [List.length_map] at hD5 hl5
        have := tgtEnds_len devs S lk.2
        refine ⟨ys, _, _, rfl, s5, h5, q5, ?_, by omega⟩
        rw [List.take_length, List.append_assoc] at hD5
        rw [flatMap_take ho]
        exact hD5
    · rintro σ H3 ⟨ys, v6, v7, rfl, s3, h3, q3, hD3, hl3⟩
      rw [List.length_map] at hD3 hl3
      have := srcEnds_len devs row.length S lk.1
      refine ⟨ys, _, _, _, _, rfl, s3, h3, ?_, by omega⟩
      rw [List.take_length] at hD3
      unfold moves
      rw [flatMap_take hlk]
      exact hD3
  · rintro σ H1 ⟨ys, v4, v5, v6, v7, rfl, s1, h1, hD1, hl1⟩
    refine ⟨_, rfl, ?_⟩
    dsimp only [tNil]
    refine sorted_maps alike_dMv mv_tuple dMv_depth h1 hD1 fun ms us r pm hms hr' => ?_
    rw [hzl, List.take_length] at pm
    exact k r us ms _ (Same.trans s1 (Same.new hr')) (Same.free s1 hr') upd_same (hms.same (Same.new hr')) pm

abbrev s_wagon_of : Stmt := top 29
theorem sc_wagon_of : FnScope ["row", "situation", "move", "came", "held", "_"] ["row", "situation", "move"] (defScope s_wagon_of) := ⟨rfl, rfl, rfl, by decide +kernel, rfl, by decide +kernel, by decide +kernel⟩
theorem bd_wagon_of : BindsAs "wagon_of" "wagon_of" s_wagon_of ["row", "situation", "move"] := fun _ _ _ _ _ _ us hl => match us, hl with | [_, _, _], _ => rfl
def spWagon : Sp := fun vs H Q _ => ∃ (v vm : V) (ra : Addr) (row : List Int) (devs : List Dev) (S : Sit) (m : Mv), vs = [.ref ra, v, vm] ∧ H ra = some (.lst (row.map V.int)) ∧ Dt H v (dSit S) ∧ Dt H vm (dMv m) ∧
  MvOk devs row.length S m ∧ S.held.length = devs.length ∧ Q (.int (wagon row S m)) H
theorem ok_wagon_of (G : Glo mg) (D : DefAt K mg "wagon_of" s_wagon_of) : Kp P w K mg base "wagon_of" 1 ["row", "situation", "move"] spWagon := by
  refine kp_of D sc_wagon_of bd_wagon_of (fun vs H Q E ⟨_, _, _, _, _, _, _, h, _⟩ => by rw [h]; rfl) fun f cdv A outer s H vs Q E hr h => ?_
  obtain ⟨v, vm, ra, row, devs, S, m, rfl, hrow, hS, hM, hok, hlen, k⟩ := h
  obtain ⟨tO, gO⟩ := G.outside
  obtain ⟨tL, gL⟩ := G.left
  refine ⟨_, (pss_cons (ps_asg (pv 1) (pg_tup (by rfl) (pgs_cons (pg_name (i := 3) sc_wagon_of.nd rfl (Or.inl rfl)) (pgs_cons (pg_name (i := 4) sc_wagon_of.nd rfl (Or.inl rfl)) (pgs_cons (pg_name (i := 5) sc_wagon_of.nd rfl (Or.inl rfl)) pgs_nil)))))
    (pss_cons (ps_if (pt_cmpR op_eq (pe_ix ix_tup (pv 2) pe_int (fun _ _ => rfl)) (pe_glob (v := .int (-1)) (by rfl) gO ⟨_, rfl⟩) (nomark _))
      (pss_one (ps_ret (pe_ix ix_list (pv 0) (pv 3) (fun _ _ => rfl))))
      pss_nil)
    (pss_one (ps_ret (pe_ix ix_tup (pe_ix ix_tup (pv 4) (pe_ix ix_tup (pv 2) pe_int (fun _ _ => rfl)) (fun _ _ => rfl)) (pe_ifExp (pt_cmpR op_eq (pe_ix ix_tup (pv 2) pe_int (fun _ _ => rfl)) (pe_glob (v := .int 0) (by rfl) gL ⟨_, rfl⟩) (nomark _)) pe_int (pe_un un_neg pe_int)) (fun _ _ => rfl)))))), ?_⟩
  obtain ⟨a, b, g, hs, rfl, ha, hb, hhs, hg⟩ := sit_inv hS
  obtain ⟨ma, rfl, hma⟩ := mv_inv hM
  have hhl : hs.length = S.held.length := by
    have := hhs.length
    rw [List.length_map] at this
    exact this
  refine ⟨_, rfl, a, _, rfl, SqT.of ha, rfl, _, _, rfl, _, _, rfl, _, _, rfl, rfl, ?_⟩
  refine ⟨_, rfl, ma, _, _, _, rfl, rfl, SqT.of hma, at_of (j := 0) rfl rfl, rfl, _, rfl, ?_⟩
  rcases hok.src with ⟨es, hc, eo⟩ | ⟨hs0, x, t, d, hl, hd⟩
  · have c : m.src < 0 := by omega
    refine iteDT (by rw [es]) ?_
    refine ⟨_, rfl, _, rfl, ra, _, _, _, rfl, rfl, SqL.of hrow, at_of rfl (row_at hc), ?_⟩
    have e : wagon row S m = row.getD S.came 0 := by
      unfold wagon
      rw [if_pos c]
    rw [e] at k
    exact k
  · have c : ¬ m.src < 0 := by omega
    refine iteDF (by intro z; injection z with z; omega) ?_
    have hj : m.src.toNat < hs.length := by
      rw [hhl]
      exact lt_of_get hl
    have ej : m.src = ((m.src.toNat : Nat) : Int) := by omega
    obtain ⟨hv, e1, e2⟩ := hhs.get (get_map (f := dInts) hl)
    obtain ⟨ta, rfl, hta⟩ := ints_inv e2
    have eD := getD_of hl
    refine ⟨_, rfl, _, rfl, ma, _, _, _, rfl, rfl, SqT.of hma, at_of (j := 0) rfl rfl, b, _, _, _, rfl, rfl, SqT.of hb, at_of ej e1, ?_⟩
    refine ⟨_, rfl, ma, _, _, _, rfl, rfl, SqT.of hma, at_of (j := 1) rfl rfl, rfl, _, rfl, iteD2 (fun c2 => ?_) (fun c2 => ?_)⟩
    · have c2' : m.out = 0 := by injection c2
      refine ⟨ta, _, _, _, rfl, rfl, SqT.of hta, at_of (j := 0) rfl rfl, ?_⟩
      have e : wagon row S m = x := by
        unfold wagon
        rw [if_neg c, if_pos c2', eD]
        rfl
      rw [e] at k
      exact k
    · have c2' : ¬ m.out = 0 := fun z => c2 (by rw [z])
      refine ⟨_, rfl, ta, _, _, _, rfl, rfl, SqT.of hta, last_at x t, ?_⟩
      have e : wagon row S m = (x :: t).getLastD 0 := by
        unfold wagon
        rw [if_neg c, if_neg c2', eD]
      rw [e] at k
      exact k
end
end Ys
/-! The program's own moves, third part: after. -/
namespace Ys
open PySem PySem.Spec PyProof.Rows L2
section
variable {P : Program} {w : World} {K : PySem.W.Frag} {mg : Str → Option Value} {base : Heap}
abbrev s_after : Stmt := top 30
theorem sc_after : FnScope ["row", "situation", "move", "came", "held", "gone", "wagon", "devices", "source", "out", "target", "end"] ["row", "situation", "move"] (defScope s_after) := ⟨rfl, rfl, rfl, by decide +kernel, rfl, by decide +kernel, by decide +kernel⟩
theorem bd_after : BindsAs "after" "after" s_after ["row", "situation", "move"] := fun _ _ _ _ _ _ us hl => match us, hl with | [_, _, _], _ => rfl
theorem ok_after (G : Glo mg) (D : DefAt K mg "after" s_after) (k_wagon_of : Kp P w K mg base "wagon_of" 1 ["row", "situation", "move"] spWagon) : Kp P w K mg base "after" 2 ["row", "situation", "move"] spBehind := by
  refine kp_of D sc_after bd_after (fun vs H Q E ⟨_, _, _, _, _, _, _, h, _⟩ => by rw [h]; rfl) fun f cdv A outer s H vs Q E hr h => ?_
  obtain ⟨v, vm, ra, row, devs, S, m, rfl, hrow, hS, hM, hok, hlen, hsm, k⟩ := h
  obtain ⟨tO, gO⟩ := G.outside
  obtain ⟨tL, gL⟩ := G.left
  refine ⟨_, (pss_cons (ps_asg (pv 1) (pg_tup (by rfl) (pgs_cons (pg_name (i := 3) sc_after.nd rfl (Or.inl rfl)) (pgs_cons (pg_name (i := 4) sc_after.nd rfl (Or.inl rfl)) (pgs_cons (pg_name (i := 5) sc_after.nd rfl (Or.inl rfl)) pgs_nil)))))
    (pss_cons (ps_set (i := 6) sc_after.nd rfl (Or.inl rfl) (pe_kp k_wagon_of hr (by rfl) (pa_cons (pv 0) (pa_cons (pv 1) (pa_cons (pv 2) pa_nil)))))
    (pss_cons (ps_set (i := 7) sc_after.nd rfl (Or.inl rfl) (pe_callTy call_list_of (by rfl) G.list (by decide +kernel) (pa_cons (pv 4) pa_nil)))
    (pss_cons (ps_asg (pv 2) (pg_tup (by rfl) (pgs_cons (pg_name (i := 8) sc_after.nd rfl (Or.inl rfl)) (pgs_cons (pg_name (i := 9) sc_after.nd rfl (Or.inl rfl)) (pgs_cons (pg_name (i := 10) sc_after.nd rfl (Or.inl rfl)) (pgs_cons (pg_name (i := 11) sc_after.nd rfl (Or.inl rfl)) pgs_nil))))))
    (Evl.pss_cut (ps_if (pt_cmpR op_eq (pv 8) (pe_glob (v := .int (-1)) (by rfl) gO ⟨_, rfl⟩) (nomark _))
      (pss_one (ps_aug (i := 3) sc_after.nd rfl (Or.inl rfl) pe_int ip_add))
      (pss_one (ps_if (pt_cmpR op_eq (pv 9) (pe_glob (v := .int 0) (by rfl) gL ⟨_, rfl⟩) (nomark _))
        (pss_one (ps_asg (pe_slice sl_tupA (pe_ix ix_list (pv 7) (pv 8) (fun _ _ => rfl)) (po_some pe_int) po_none) (pg_sub (pv 7) (pv 8) set_list)))
        (pss_one (ps_asg (pe_slice sl_tupA (pe_ix ix_list (pv 7) (pv 8) (fun _ _ => rfl)) po_none (po_some (pe_un un_neg pe_int))) (pg_sub (pv 7) (pv 8) set_list))))))
    (Evl.pss_cut (ps_if (pt_cmpR op_eq (pv 10) (pe_glob (v := .int (-1)) (by rfl) gO ⟨_, rfl⟩) (nomark _))
      (pss_one (ps_set (i := 5) sc_after.nd rfl (Or.inl rfl) (pe_op op_catA (pv 5) (pe_tup (pa_cons (pv 6) pa_nil)))))
      (pss_one (ps_if (pt_cmpR op_eq (pv 11) (pe_glob (v := .int 0) (by rfl) gL ⟨_, rfl⟩) (nomark _))
        (pss_one (ps_asg (pe_op op_catA (pe_tup (pa_cons (pv 6) pa_nil)) (pe_ix ix_list (pv 7) (pv 10) (fun _ _ => rfl))) (pg_sub (pv 7) (pv 10) set_list)))
        (pss_one (ps_asg (pe_op op_catA (pe_ix ix_list (pv 7) (pv 10) (fun _ _ => rfl)) (pe_tup (pa_cons (pv 6) pa_nil))) (pg_sub (pv 7) (pv 10) set_list))))))
    (pss_one (ps_ret (pe_tup (pa_cons (pv 3) (pa_cons (pe_callTy call_tuple_of (by rfl) G.tuple (by decide +kernel) (pa_cons (pv 7) pa_nil)) (pa_cons (pv 5) pa_nil)))))))))))), ?_⟩
  obtain ⟨a, b, g, hs, rfl, ha, hb, hhs, hg⟩ := sit_inv hS
  obtain ⟨ma, rfl, hma⟩ := mv_inv hM
  have hhl : hs.length = S.held.length := by
    have := hhs.length
    rw [List.length_map] at this
    exact this
  refine ⟨_, rfl, a, _, rfl, SqT.of ha, rfl, _, _, rfl, _, _, rfl, _, _, rfl, rfl, ?_⟩
  refine ⟨_, rfl, _, rfl, _, rfl, .ref a, .ref ma, ra, row, devs, S, m, rfl, hrow, hS, hM, hok, hlen, ?_⟩
  refine ⟨_, rfl, b, _, rfl, .inr (SqT.of hb), fun q hq => ?_⟩
  have s1 : Same H (upd H q (.lst hs)) := Same.new hq
  refine ⟨_, rfl, ma, _, rfl, SqT.of (s1 _ _ hma), rfl, _, _, rfl, _, _, rfl, _, _, rfl, _, _, rfl, rfl, ?_⟩
  -- the taking out
  refine ⟨fun σ' H' => ∃ us : List V, σ' = [some (.ref ra), some (.ref a), some (.ref ma), some (.int ((if m.src < 0 then S.came + 1 else S.came : Nat) : Int)), some (.ref b), some (.ref g), some (.int (wagon row S m)), some (.ref q), some (.int m.src), some (.int m.out), some (.int m.tgt), some (.int m.end_)] ∧
    Same H H' ∧ H' q = some (.lst us) ∧ DtAll H' us ((heldOut S m).map dInts), ?_, ?_⟩
  · refine ⟨_, rfl, rfl, _, rfl, ?_⟩
    rcases hok.src with ⟨es, hc, eo⟩ | ⟨hs0, x, t, d, hl, hd⟩
    · have c : m.src < 0 := by omega
      refine iteDT (by rw [es]) ?_
      refine ⟨_, rfl, _, _, rfl, rfl, ?_⟩
      refine ⟨hs, ?_, s1, upd_same, ?_⟩
      · rw [if_pos c]
        rfl
      · unfold heldOut
        rw [if_pos c]
        exact hhs.same s1
    · have c : ¬ m.src < 0 := by omega
      refine iteDF (by intro z; injection z with z; omega) ?_
      have hj : m.src.toNat < hs.length := by
        rw [hhl]
        exact lt_of_get hl
      have ej : m.src = ((m.src.toNat : Nat) : Int) := by omega
      obtain ⟨hv, e1, e2⟩ := hhs.get (get_map (f := dInts) hl)
      obtain ⟨ta, rfl, hta⟩ := ints_inv e2
      have eD := getD_of hl
      have hq1 : upd H q (.lst hs) q = some (.lst hs) := upd_same
      refine ⟨_, rfl, rfl, _, rfl, iteD2 (fun c2 => ?_) (fun c2 => ?_)⟩
      · have c2' : m.out = 0 := by injection c2
        refine ⟨_, rfl, _, rfl, q, _, _, _, rfl, rfl, SqL.of hq1, at_of ej e1, _, rfl, ta, _, rfl, SqT.of (s1 _ _ hta), fun z => absurd z (tail_part x t), fun _ p hp => ?_⟩
        have nqp : q ≠ p := ne_of_none hq1 hp
        have s2 := Same.new (o := .tup (cutV ((x :: t).map V.int) (some 1) none)) hp
        have hq2 := s2 _ _ hq1
        refine ⟨_, rfl, _, rfl, q, _, _, m.src.toNat, rfl, rfl, hq2, by rw [ej]; exact ixN_lt hj, ?_⟩
        refine ⟨hs.set m.src.toNat (.ref p), ?_, Same.mut (Same.trans s1 s2) hq, upd_same, ?_⟩
        · rw [if_neg c]
          rfl
        · unfold heldOut
          rw [if_neg c, if_pos c2', eD, List.map_set]
          refine DtAll.set _ ?_ (.tup (by rw [upd_ne nqp.symm, upd_same, cut_tail]) (.ints _))
          exact hhs.tups (Tups.trans (Tups.of_same (Same.trans s1 s2)) (Tups.put hq2 (fun _ z => nomatch z))) _ _ (noLists_map noList_ints _)
      · have c2' : ¬ m.out = 0 := fun z => c2 (by rw [z])
        refine ⟨_, rfl, _, rfl, q, _, _, _, rfl, rfl, SqL.of hq1, at_of ej e1, _, rfl, _, rfl, ta, _, rfl, SqT.of (s1 _ _ hta), fun z => absurd z (init_part (init_prog x t)), fun _ p hp => ?_⟩
        have nqp : q ≠ p := ne_of_none hq1 hp
        have s2 := Same.new (o := .tup (cutV ((x :: t).map V.int) none (some (-1)))) hp
        have hq2 := s2 _ _ hq1
        refine ⟨_, rfl, _, rfl, q, _, _, m.src.toNat, rfl, rfl, hq2, by rw [ej]; exact ixN_lt hj, ?_⟩
        refine ⟨hs.set m.src.toNat (.ref p), ?_, Same.mut (Same.trans s1 s2) hq, upd_same, ?_⟩
        · rw [if_neg c]
          rfl
        · unfold heldOut
          rw [if_neg c, if_neg c2', eD, List.map_set]
          refine DtAll.set _ ?_ (.tup (by rw [upd_ne nqp.symm, upd_same, cut_init (init_prog x t)]) (.ints _))
          exact hhs.tups (Tups.trans (Tups.of_same (Same.trans s1 s2)) (Tups.put hq2 (fun _ z => nomatch z))) _ _ (noLists_map noList_ints _)
  · -- the putting in
    rintro σ' H1 ⟨us, rfl, s2, hq1, hus⟩
    have hul : us.length = S.held.length := by
      have := hus.length
      rw [List.length_map, heldOut_len] at this
      exact this
    have hg1 := s2 _ _ hg
    refine ⟨fun σ' H' => ∃ (us : List V) (ga : Addr), σ' = [some (.ref ra), some (.ref a), some (.ref ma), some (.int ((if m.src < 0 then S.came + 1 else S.came : Nat) : Int)), some (.ref b), some (.ref ga), some (.int (wagon row S m)), some (.ref q), some (.int m.src), some (.int m.out), some (.int m.tgt), some (.int m.end_)] ∧
      Same H H' ∧ H' q = some (.lst us) ∧ DtAll H' us ((heldIn (heldOut S m) (wagon row S m) m).map dInts) ∧ H' ga = some (.tup ((if m.tgt < 0 then S.gone ++ [wagon row S m] else S.gone).map V.int)), ?_, ?_⟩
    · refine ⟨_, rfl, rfl, _, rfl, ?_⟩
      rcases hok.tgt with ⟨et, ee⟩ | ⟨ht0, l2, d, hl2, hd, hb2⟩
      · have c : m.tgt < 0 := by omega
        refine iteDT (by rw [et]) ?_
        refine ⟨_, rfl, _, rfl, (szl rfl), fun u hu => ?_⟩
        have s3 := Same.new (o := .tup [.int (wagon row S m)]) hu
        have hgl : (S.gone.map V.int).length ≤ 1000 := by
          rw [List.length_map]
          exact hsm.1
        refine ⟨g, u, _, _, rfl, rfl, SqT.of (s3 _ _ hg1), SqT.of upd_same, small' (by show (S.gone.map V.int).length + 1 ≤ _; omega), fun e0 => ?_, (fun _ e0 => by cases e0), fun _ _ p hp => ?_⟩
        · refine ⟨us, u, rfl, Same.trans s2 s3, s3 _ _ hq1, ?_, ?_⟩
          · unfold heldIn
            rw [if_pos c]
            exact hus.same s3
          · rw [if_pos c, List.map_append, e0, upd_same]
            rfl
        · have s4 := Same.new (o := .tup (S.gone.map V.int ++ [.int (wagon row S m)])) hp
          refine ⟨us, p, rfl, Same.trans s2 (Same.trans s3 s4), s4 _ _ (s3 _ _ hq1), ?_, ?_⟩
          · unfold heldIn
            rw [if_pos c]
            exact hus.same (Same.trans s3 s4)
          · rw [if_pos c, List.map_append, upd_same]
            rfl
      · have c : ¬ m.tgt < 0 := by omega
        refine iteDF (by intro z; injection z with z; omega) ?_
        have hj : m.tgt.toNat < us.length := by
          rw [hul]
          exact lt_of_get hl2
        have ej : m.tgt = ((m.tgt.toNat : Nat) : Int) := by omega
        have hjo : m.tgt.toNat < (heldOut S m).length := by
          rw [heldOut_len]
          exact lt_of_get hl2
        obtain ⟨l', hl'⟩ : ∃ l', (heldOut S m)[m.tgt.toNat]? = some l' := ⟨_, List.getElem?_eq_getElem hjo⟩
        have hll : l'.length ≤ 1000 := heldOut_small m hsm l' (List.mem_of_getElem? hl')
        have eD : (heldOut S m).getD m.tgt.toNat [] = l' := by
          rw [List.getD_eq_getElem?_getD, hl']
          rfl
        obtain ⟨hv, e1, e2⟩ := hus.get (get_map (f := dInts) hl')
        obtain ⟨ta, rfl, hta⟩ := ints_inv e2
        have fin : ∀ (H2 : Hp) (p : Addr) (r : List Int), Same H1 H2 → H2 p = some (.tup (r.map V.int)) → r = (if m.end_ = 0 then wagon row S m :: l' else l' ++ [wagon row S m]) →
            ∃ (us' : List V) (ga : Addr), ([some (.ref ra), some (.ref a), some (.ref ma), some (.int ((if m.src < 0 then S.came + 1 else S.came : Nat) : Int)), some (.ref b), some (.ref g), some (.int (wagon row S m)), some (.ref q), some (.int m.src), some (.int m.out), some (.int m.tgt), some (.int m.end_)] : L2.St) = [some (.ref ra), some (.ref a), some (.ref ma), some (.int ((if m.src < 0 then S.came + 1 else S.came : Nat) : Int)), some (.ref b), some (.ref ga), some (.int (wagon row S m)), some (.ref q), some (.int m.src), some (.int m.out), some (.int m.tgt), some (.int m.end_)] ∧
              Same H (upd H2 q (.lst (us.set m.tgt.toNat (.ref p)))) ∧ upd H2 q (.lst (us.set m.tgt.toNat (.ref p))) q = some (.lst us') ∧ DtAll (upd H2 q (.lst (us.set m.tgt.toNat (.ref p)))) us' ((heldIn (heldOut S m) (wagon row S m) m).map dInts) ∧
              upd H2 q (.lst (us.set m.tgt.toNat (.ref p))) ga = some (.tup ((if m.tgt < 0 then S.gone ++ [wagon row S m] else S.gone).map V.int)) := by
          intro H2 p r s3 hp er
          have hq2 := s3 _ _ hq1
          refine ⟨us.set m.tgt.toNat (.ref p), g, rfl, Same.mut (Same.trans s2 s3) hq, upd_same, ?_, ?_⟩
          · unfold heldIn
            rw [if_neg c, eD, List.map_set, ← er]
            refine DtAll.set _ ?_ (.tup (by rw [upd_ne (ne_of hp hq2 (fun z => nomatch z))]; exact hp) (.ints _))
            exact hus.tups (Tups.trans (Tups.of_same s3) (Tups.put hq2 (fun _ z => nomatch z))) _ _ (noLists_map noList_ints _)
          · rw [if_neg c, upd_ne (ne_of (s3 _ _ hg1) hq2 (fun z => nomatch z))]
            exact s3 _ _ hg1
        refine ⟨_, rfl, rfl, _, rfl, iteD2 (fun c2 => ?_) (fun c2 => ?_)⟩
        · have c2' : m.end_ = 0 := by injection c2
          refine ⟨_, rfl, (szl rfl), fun u hu => ?_⟩
          have s3 := Same.new (o := .tup [.int (wagon row S m)]) hu
          refine ⟨_, rfl, _, rfl, q, _, _, _, rfl, rfl, SqL.of (s3 _ _ hq1), at_of ej e1, u, ta, _, _, rfl, rfl, SqT.of upd_same, SqT.of (s3 _ _ hta), small' (by rw [List.length_map]; show 1 + l'.length ≤ _; omega), (fun e0 => by cases e0), fun _ e0 => ?_, fun _ _ p hp => ?_⟩
          · have e0' : l' = [] := List.map_eq_nil_iff.mp e0
            refine ⟨_, rfl, _, rfl, q, _, _, m.tgt.toNat, rfl, rfl, s3 _ _ hq1, by rw [ej]; exact ixN_lt hj, ?_⟩
            exact fin _ u [wagon row S m] s3 upd_same (by rw [if_pos c2', e0'])
          · have s4 := Same.new (o := .tup ([V.int (wagon row S m)] ++ l'.map V.int)) hp
            refine ⟨_, rfl, _, rfl, q, _, _, m.tgt.toNat, rfl, rfl, s4 _ _ (s3 _ _ hq1), by rw [ej]; exact ixN_lt hj, ?_⟩
            exact fin _ p (wagon row S m :: l') (Same.trans s3 s4) upd_same (by rw [if_pos c2'])
        · have c2' : ¬ m.end_ = 0 := fun z => c2 (by rw [z])
          refine ⟨_, rfl, _, rfl, q, _, _, _, rfl, rfl, SqL.of hq1, at_of ej e1, _, rfl, (szl rfl), fun u hu => ?_⟩
          have s3 := Same.new (o := .tup [.int (wagon row S m)]) hu
          refine ⟨ta, u, _, _, rfl, rfl, SqT.of (s3 _ _ hta), SqT.of upd_same, small' (by rw [List.length_map]; show l'.length + 1 ≤ _; omega), fun e0 => ?_, (fun _ e0 => by cases e0), fun _ _ p hp => ?_⟩
          · have e0' : l' = [] := List.map_eq_nil_iff.mp e0
            refine ⟨_, rfl, _, rfl, q, _, _, m.tgt.toNat, rfl, rfl, s3 _ _ hq1, by rw [ej]; exact ixN_lt hj, ?_⟩
            exact fin _ u [wagon row S m] s3 upd_same (by rw [if_neg c2', e0']; rfl)
          · have s4 := Same.new (o := .tup (l'.map V.int ++ [V.int (wagon row S m)])) hp
            refine ⟨_, rfl, _, rfl, q, _, _, m.tgt.toNat, rfl, rfl, s4 _ _ (s3 _ _ hq1), by rw [ej]; exact ixN_lt hj, ?_⟩
            refine fin _ p (l' ++ [wagon row S m]) (Same.trans s3 s4) ?_ (by rw [if_neg c2'])
            rw [upd_same, List.map_append]
            rfl
    · rintro σ' H2 ⟨us2, ga, rfl, s3, hq2, hus2, hga⟩
      refine ⟨_, rfl, _, rfl, q, _, rfl, .inl ⟨SqL.of hq2, fun tb htb => ⟨_, rfl, (szl rfl), fun r hr' => ?_⟩⟩⟩
      have s4 := Same.new (o := .tup us2) htb
      have s5 := Same.new (o := .tup [.int ((if m.src < 0 then S.came + 1 else S.came : Nat) : Int), .ref tb, .ref ga]) hr'
      exact k _ _ (Same.trans s3 (Same.trans s4 s5)) (sit_mk upd_same (s5 _ _ upd_same) (hus2.same (Same.trans s4 s5)) (s5 _ _ (s4 _ _ hga)))
end
end Ys
/-! list.extend of a tuple; is_situation of a good situation. -/
namespace Ys
open PySem PySem.Spec PyProof.Rows L2
open AutoSeq1 (wpAny_loadPart')

theorem ext_tuple {l b : Addr} {xs ys : Array Value} {n m : Nat} {dc : Option Addr} {sl : Array (Option Value)} (hs : ¬ (!xs.isEmpty && Builtin.List.listTooLong (xs.size + ys.size)) = true) (h1 : xs.size ≤ sizeLine) (h2 : xs.size + ys.size ≤ sizeLine + 1) :
    Meets (Builtin.«list.extend» ⟨[.ref l, .ref b], []⟩) (fun _ R s => s.heap.get? l = some { cls := .type "list", dict := none, data := .seq xs n, slots := #[] } ∧ s.heap.get? b = some { cls := .type "tuple", dict := dc, data := .seq ys m, slots := sl } ∧
      R (.ok (.ret Value.none)) { s with heap := s.heap.update l (Obj.mapSeq fun x => x ++ ys), toks := s.toks }) := by
  refine Meets.of_wp fun pr wo Ar Rs s z => ?_
  obtain ⟨hp, gs, dr, tk, os⟩ := s
  obtain ⟨hl, hb, z⟩ := z
  have g1 := AutoSeq1.sub_tuple_tuple
  have g2 := AutoSeq1.sub_list_list
  have g3 := AutoSeq1.sub_tuple_list
  have g4 := AutoSeq1.sub_list_tuple
  have hz' : (xs ++ ys).size ≤ sizeLine + 1 := by
    rw [Array.size_append]
    exact h2
  wp_walk using (wpAny_updateSeq hl rfl (hz := h1) (_hz' := hz')), wpAny_loadPart' hl, wpAny_loadPart' hb
  exact ⟨_, rfl, z⟩

section
variable {X : Cx}
def rExtT (K : PySem.W.Frag) : V → List V → Hp → VK → Prop := fun x vs H Q => ∃ l b xs zs, x = .ref l ∧ vs = [.ref b] ∧ H l = some (.lst xs) ∧ SqT K H b zs ∧ xs.length + zs.length ≤ sizeLine ∧ Q .non (upd H l (.lst (xs ++ zs)))
theorem mt_extT : MtM X "list.extend" (rExtT X.K) := by
  intro pins s σ H x vs v us Q I rx rv h
  obtain ⟨l, b, xs, zs, rfl, rfl, hH, hB, hz, q⟩ := h
  cases rx
  obtain ⟨u, rfl, ru⟩ := rv.one
  cases ru
  obtain ⟨z, its, n, r, hl, e⟩ := I.lstM hH
  obtain ⟨its2, r2, hT, hz2⟩ := I.tuple hB
  have hl2 := r2.length
  obtain ⟨⟨cl, dc, dt, sl⟩, e2, c2, n2, d2⟩ := hT
  have c2' : cl = .type "tuple" := c2
  have d2' : dt = .seq its2.toArray n2 := d2
  subst c2'
  subst d2'
  have hsz : its.toArray.size + its2.toArray.size ≤ sizeLine := by rw [List.size_toArray, List.size_toArray]; omega
  have hlong : ¬ (!its.toArray.isEmpty && Builtin.List.listTooLong (its.toArray.size + its2.toArray.size)) = true := by
    rw [notLongL hsz, Bool.and_false]
    exact Bool.false_ne_true
  refine call_meets F.slot_list_extend ⟨_, e, rfl⟩ F.entry_list_extend (F.args_list_extend_2 _ _) (ext_tuple (n := n) (m := n2) (dc := dc) (sl := sl) hlong (by rw [List.size_toArray]; omega) (by omega)) ⟨e, e2, ?_⟩
  refine ⟨.non, _, I.lset (its' := its ++ its2) hH e (by simp) (r.append r2) ?_, rfl, q⟩
  rw [List.length_append]
  omega
end

section
variable {P : Program} {w : World} {K : PySem.W.Frag} {mg : Str → Option Value} {base : Heap}
abbrev s_is_situation : Stmt := top 25
theorem sc_is_situation : FnScope ["yard", "row", "situation", "came", "held", "gone", "wagons", "device", "inside", "bound"] ["yard", "row", "situation"] (defScope s_is_situation) := ⟨rfl, rfl, rfl, by decide +kernel, rfl, by decide +kernel, by decide +kernel⟩
theorem bd_is_situation : BindsAs "is_situation" "is_situation" s_is_situation ["yard", "row", "situation"] := fun _ _ _ _ _ _ us hl => match us, hl with | [_, _, _], _ => rfl
theorem iteNF {c A B : Prop} [Decidable c] (h : c) (b : B) : if (!decide c) = true then A else B := by
  rw [decide_eq_true h]
  exact b
theorem cut_take (xs : List V) (k : Nat) : cutV xs none (some (k : Int)) = xs.take k := by
  unfold cutV
  rw [HT.sIx_none, HT.sIx_nat, List.drop_zero, Nat.sub_zero]
  by_cases h : k ≤ xs.length
  · rw [Nat.min_eq_left h]
  · rw [Nat.min_eq_right (by omega), List.take_of_length_le (Nat.le_refl _), List.take_of_length_le (by omega)]
theorem flatten_take {l : List (List Int)} {i : Nat} {x : List Int} (h : l[i]? = some x) : (l.take (i + 1)).flatten = (l.take i).flatten ++ x := by
  rw [List.take_add_one, h]
  simp
theorem flat_le {l : List (List Int)} (i : Nat) : (l.take i).flatten.length ≤ l.flatten.length := by
  have e : l.flatten = (l.take i).flatten ++ (l.drop i).flatten := by
    rw [← List.flatten_append, List.take_append_drop]
  rw [e, List.length_append]
  omega
def spIsSit (C : Addr) : Sp := fun vs H Q _ => ∃ (y ra : Addr) (v : V) (row : List Int) (devs : List Dev) (L : List (Int × Int)) (S : Sit), vs = [.ref y, .ref ra, v] ∧ YardAt C H y devs L ∧ H ra = some (.lst (row.map V.int)) ∧ row.length ≤ 1000 ∧ devs.length ≤ 1000 ∧ Dt H v (dSit S) ∧
  Good devs row S ∧ ∀ H' : Hp, Same H H' → Q (.bl true) H'
theorem ok_is_situation {C : Addr} (G : Glo mg) (Y : YCls K mg C) (D : DefAt K mg "is_situation" s_is_situation) (k_len : KpM P w K mg base C "__len__" 1 ["self"] (spYLen C)) : Kp P w K mg base "is_situation" 3 ["yard", "row", "situation"] (spIsSit C) := by
  refine kp_of D sc_is_situation bd_is_situation (fun vs H Q E ⟨_, _, _, _, _, _, _, h, _⟩ => by rw [h]; rfl) fun f cdv A outer s H vs Q E hr h => ?_
  obtain ⟨y, ra, v, row, devs, L, S, rfl, hY, hrow, hrl, hdl, hS, hg, k⟩ := h
  obtain ⟨fl, fdl, Fl, Ml, bl⟩ := k_len
  have hu := hr.units
  refine ⟨_, (pss_cons (ps_asg (pv 2) (pg_tup (by rfl) (pgs_cons (pg_name (i := 3) sc_is_situation.nd rfl (Or.inl rfl)) (pgs_cons (pg_name (i := 4) sc_is_situation.nd rfl (Or.inl rfl)) (pgs_cons (pg_name (i := 5) sc_is_situation.nd rfl (Or.inl rfl)) pgs_nil)))))
    (pss_cons (ps_if (PW.pt (pw_or (pt_not (pt_chain op_le op_le pe_int (pv 3) (pe_callB call_len_seq (by rfl) G.len PySem.boot_len (pa_cons (pv 1) pa_nil)))) (pw_or1 (pt_cmpR op_ne (pe_callB call_len_seq (by rfl) G.len PySem.boot_len (pa_cons (pv 4) pa_nil)) (pe_callB (call_len_own Fl rfl hr Ml bl) (by rfl) G.len PySem.boot_len (pa_cons (pv 0) pa_nil)) (nomark _)))))
      (pss_one (ps_ret pe_bl))
      pss_nil)
    (pss_cons (ps_set (i := 6) sc_is_situation.nd rfl (Or.inl rfl) (pe_callTy call_list_of (by rfl) G.list (by decide +kernel) (pa_cons (pv 5) pa_nil)))
    (pss_cons (ps_for PassesOwn.never rfl (pi_enumT (by rfl) G.enumerate (pa_cons (pv 4) pa_nil)) (pg_tup (by rfl) (pgs_cons (pg_name (i := 7) sc_is_situation.nd rfl (Or.inl rfl)) (pgs_cons (pg_name (i := 8) sc_is_situation.nd rfl (Or.inl rfl)) pgs_nil)))
      (pss_cons (ps_set (i := 9) sc_is_situation.nd rfl (Or.inl rfl) (pe_ix ix_list (pe_fld (pv 0) rfl) (pv 7) (fun _ _ => rfl)))
      (pss_cons (ps_if (PW.pt (pw_and (pt_cmpR op_notN (pv 9) pe_non (nomark _)) (pw_and1 (pt_cmpR op_gt (pe_callB call_len_seq (by rfl) G.len PySem.boot_len (pa_cons (pv 8) pa_nil)) (pv 9) (nomark _)))))
        (pss_one (ps_ret pe_bl))
        pss_nil)
      (pss_one (ps_expr (pe_bm PySem.F.plainAttrs_list PySem.F.slot_list_extend PySem.F.type_list_extend mt_extT (pv 6) (pa_cons (pv 8) pa_nil)))))))
    (pss_one (ps_ret (pe_cmpR (op_eqD hu) (pe_callB cr_sortedI (by rfl) G.sorted (by decide +kernel) (pa_cons (pv 6) pa_nil)) (pe_callB cr_sortedI (by rfl) G.sorted (by decide +kernel) (pa_cons (pe_slice sl_list (pv 1) po_none (po_some (pv 3))) pa_nil)) (nomark _)))))))), ?_⟩
  obtain ⟨a, b, g, hs, rfl, ha, hb, hhs, hgn⟩ := sit_inv hS
  have hsm := hg.sm hrl hdl
  have hhl : hs.length = devs.length := by
    have := hhs.length
    rw [List.length_map] at this
    rw [← hg.len]
    exact this
  obtain ⟨dx, kk, bb, l0, tt, zs, n1, n2, n3, n4, n5⟩ := id hY
  have hcm := hg.came
  refine ⟨_, rfl, a, _, rfl, SqT.of ha, rfl, _, _, rfl, _, _, rfl, _, _, rfl, rfl, ?_⟩
  refine ⟨_, rfl, _, _, rfl, rfl, _, rfl, iteDT (by omega) ⟨_, rfl, ra, _, rfl, .inl (SqL.of hrow), _, _, rfl, rfl, _, rfl, ?_⟩⟩
  refine iteNF (by rw [List.length_map]; omega) ?_
  refine ⟨_, rfl, b, _, rfl, .inr (SqT.of hb), _, rfl, y, dx, _, rfl, n1, y, devs, L, rfl, hY, _, rfl, by omega, by omega, rfl, _, rfl, iteNF (by rw [hhl]) ?_⟩
  refine ⟨_, rfl, g, _, rfl, .inr (SqT.of hgn), fun wq hwq => ?_⟩
  have hfl : S.gone.length + S.held.flatten.length ≤ 1000 := by
    have := hg.perm.length_eq
    rw [List.length_append, List.length_take] at this
    omega
  refine ⟨_, rfl, b, hs, rfl, SqT.of (Same.new (o := .lst (S.gone.map V.int)) hwq _ _ hb), for_it walk_enumT
    (fun i σ H' => ∃ v7 v8 v9 : Option V, σ = [some (.ref y), some (.ref ra), some (.ref a), some (.int (S.came : Nat)), some (.ref b), some (.ref g), some (.ref wq), v7, v8, v9] ∧ Same H H' ∧ H' wq = some (.lst ((S.gone ++ (S.held.take i).flatten).map V.int)))
    ⟨_, _, _, rfl, Same.new hwq, by rw [List.take_zero, List.flatten_nil, List.append_nil]; exact upd_same⟩ (fun i σ H' _ ⟨_, _, _, _, z, _⟩ => SqT.of (z _ _ hb)) ?_ ?_⟩
  · rintro i x σ H1 H2 hi ⟨v7, v8, v9, rfl, s1, h1⟩ ⟨T, x0, x1, rfl, hT, rfl, e0, e1⟩
    have e0' := Option.some.inj e0
    subst e0'
    have sT : Same H1 (upd H1 T (.tup [.int (i : Nat), x1])) := Same.new hT
    have s2 := Same.trans s1 sT
    obtain ⟨dl, hdl2, hyd⟩ := hhs.get' e1
    obtain ⟨l, hl, rfl⟩ : ∃ l, S.held[i]? = some l ∧ dl = dInts l := by
      rw [List.getElem?_map] at hdl2
      cases e : S.held[i]? with
      | none => rw [e] at hdl2; cases hdl2
      | some l => rw [e] at hdl2; exact ⟨l, rfl, (Option.some.inj hdl2).symm⟩
    obtain ⟨ta, rfl, hta⟩ := ints_inv hyd
    have hid : i < devs.length := by omega
    have hdev : devs[i]? = some devs[i] := List.getElem?_eq_getElem hid
    have hbd : (devs.map bndV)[i]? = some (bndV devs[i]) := get_map hdev
    have hta2 := s2 _ _ hta
    refine ⟨T, _, rfl, SqT.of upd_same, rfl, _, _, rfl, _, _, rfl, rfl, ?_⟩
    refine ⟨_, rfl, y, C, dx, _, _, rfl, s2 _ _ n1, Y.cl, Y.nB, fld_get (i := 2) (yf_keys _ _ _ _) rfl, _, rfl, bb, _, _, _, rfl, rfl, SqL.of (s2 _ _ n3), at_of rfl hbd, ?_⟩
    have fin : ∃ v7' v8' v9' : Option V, ([some (.ref y), some (.ref ra), some (.ref a), some (.int (S.came : Nat)), some (.ref b), some (.ref g), some (.ref wq), some (.int (i : Nat)), some (.ref ta), some (bndV devs[i])] : L2.St) = [some (.ref y), some (.ref ra), some (.ref a), some (.int (S.came : Nat)), some (.ref b), some (.ref g), some (.ref wq), v7', v8', v9'] ∧
        Same H (upd (upd H1 T (.tup [.int (i : Nat), .ref ta])) wq (.lst ((S.gone ++ (S.held.take i).flatten).map V.int ++ l.map V.int))) ∧
        upd (upd H1 T (.tup [.int (i : Nat), .ref ta])) wq (.lst ((S.gone ++ (S.held.take i).flatten).map V.int ++ l.map V.int)) wq = some (.lst ((S.gone ++ (S.held.take (i + 1)).flatten).map V.int)) := by
      refine ⟨_, _, _, rfl, Same.mut s2 hwq, ?_⟩
      rw [upd_same, flatten_take hl, ← List.append_assoc]
      simp only [List.map_append]
    have hlen : ((S.gone ++ (S.held.take i).flatten).map V.int).length + (l.map V.int).length ≤ sizeLine := by
      have q := flat_le (l := S.held) (i + 1)
      rw [flatten_take hl, List.length_append] at q
      rw [List.length_map, List.length_map, List.length_append]
      exact small' (by omega)
    by_cases c : devs[i].bound = 0
    · have e : bndV devs[i] = .non := if_pos c
      rw [e] at fin ⊢
      refine ⟨_, rfl, rfl, _, rfl, iteF (iteF ?_)⟩
      exact ⟨_, rfl, .inl ⟨rfl, _, SqL.of (sT _ _ h1)⟩, _, rfl, wq, ta, _, _, rfl, rfl, sT _ _ h1, SqT.of hta2, hlen, fin⟩
    · have e : bndV devs[i] = .int (devs[i].bound : Int) := if_neg c
      rw [e] at fin ⊢
      have hbo := hg.bnd i _ l hdev hl (by omega)
      refine ⟨_, rfl, rfl, _, rfl, iteT ⟨_, rfl, ta, _, rfl, .inr (SqT.of hta2), _, rfl, _, _, rfl, rfl, _, rfl, iteDF (by rw [List.length_map]; omega) ?_⟩⟩
      exact ⟨_, rfl, .inl ⟨rfl, _, SqL.of (sT _ _ h1)⟩, _, rfl, wq, ta, _, _, rfl, rfl, sT _ _ h1, SqT.of hta2, hlen, fin⟩
  · rintro σ H1 ⟨v7, v8, v9, rfl, s1, h1⟩
    have hle : hs.length = S.held.length := by
      rw [hhl]
      exact hg.len.symm
    rw [hle, List.take_length] at h1
    refine ⟨_, rfl, wq, _, rfl, SqL.of h1, fun ns1 p1 pm1 so1 hp1 => ?_⟩
    have s2 := Same.new (o := .lst (ns1.map V.int)) hp1
    refine ⟨_, rfl, _, rfl, _, rfl, ra, _, rfl, SqL.of (s2 _ _ (s1 _ _ hrow)), fun p hp => ?_⟩
    have s3 := Same.new (o := .lst (cutV (row.map V.int) none (some ((S.came : Nat) : Int)))) hp
    refine ⟨p, row.take S.came, rfl, SqL.of (by rw [upd_same, cut_take, List.map_take]), fun ns2 p2 pm2 so2 hp2 => ?_⟩
    have s4 := Same.new (o := .lst (ns2.map V.int)) hp2
    have e : ns1 = ns2 := PySem.W.ksm_same (pm1.trans (hg.perm.trans pm2.symm)) so1 so2
    refine ⟨.list (ns1.map PyData.int), .list (ns2.map PyData.int), Dt.dp _ _ (.lst (s4 _ _ (s3 _ _ upd_same)) (.ints _)), Dt.dp _ _ (.lst upd_same (.ints _)), shaped_ints _, shaped_ints _, ?_⟩
    rw [eqv_ints, decide_eq_true e]
    exact k _ (Same.trans s1 (Same.trans s2 (Same.trans s3 s4)))
end
end Ys
/-! The search, walked within a closed set of situations without a sorted one: is_goal, look. -/
namespace Ys
open PySem PySem.Spec PyProof.Rows L2
theorem DictN.keepT {P : Program} {w : World} {H H' : Hp} {a : Addr} {Ss : List Sit} (d : DictN P w H a Ss) (s : Tups H H') (e : H' a = H a) : DictN P w H' a Ss := by
  obtain ⟨h1, h2, h3, xs, h4, h5, h6⟩ := d
  exact ⟨h1, h2, h3, xs, e.trans h4, h5, fun x hx => let ⟨S, e1, e2⟩ := h6 x hx; ⟨S, e1, Dt.tups s _ _ (noList_sit S) e2⟩⟩
theorem DtAll.sitsT {H H' : Hp} (s : Tups H H') {vs : List V} {Ss : List Sit} (h : DtAll H vs (Ss.map dSit)) : DtAll H' vs (Ss.map dSit) := h.tups s _ _ (noLists_map noList_sit _)
theorem nodup_sub_len {α : Type} [DecidableEq α] : ∀ {l m : List α}, l.Nodup → (∀ x ∈ l, x ∈ m) → l.length ≤ m.length
  | [], _, _, _ => Nat.zero_le _
  | x :: l, m, h, s => by
    obtain ⟨h1, h2⟩ := List.nodup_cons.mp h
    have hx : x ∈ m := s x (List.mem_cons_self ..)
    have q := nodup_sub_len (l := l) (m := m.erase x) h2 fun y hy => by
      have ne : y ≠ x := fun e => h1 (e ▸ hy)
      exact (List.mem_erase_of_ne ne).mpr (s y (List.mem_cons_of_mem _ hy))
    have e := List.length_erase_of_mem hx
    have : 0 < m.length := List.length_pos_of_mem hx
    rw [List.length_cons]
    omega

theorem iteNT {c A B : Prop} [Decidable c] (h : ¬ c) (a : A) : if (!decide c) = true then A else B := by
  rw [decide_eq_false h]
  exact a
/-- a closed set of situations, none of them sorted -/
structure Shut (devs : List Dev) (L : List (Int × Int)) (row : List Int) (Cs : List Sit) : Prop where
  good : ∀ S ∈ Cs, Good devs row S
  nogoal : ∀ S ∈ Cs, S.gone.length ≠ row.length
  next : ∀ S ∈ Cs, ∀ m ∈ moves L devs row.length S, Live (after row S m) → after row S m ∈ Cs
  start : startS devs.length ∈ Cs
  few : Cs.length ≤ 1000
  row_ : Row row
  devs_ : devs.length ≤ 1000
  links : LinksOk devs.length L
  links_ : L.length ≤ 1000

def sf (y wg mt kn og : Addr) : List (Str × V) := [("yard", .ref y), ("wagons", .ref wg), ("met", .ref mt), ("known", .ref kn), ("origin", .ref og), ("found", .bl false)]
theorem sf_keys (y wg mt kn og : Addr) : ((sf y wg mt kn og).map (·.1)).Nodup := by
  show ([("yard" : Str), "wagons", "met", "known", "origin", "found"] : List Str).Nodup
  decide +kernel
theorem sf_no (y wg mt kn og : Addr) {m : Str} (h : m ∉ ([("yard" : Str), "wagons", "met", "known", "origin", "found"] : List Str)) : (sf y wg mt kn og).lookup m = none := fld_none h
/-- how a search stands -/
structure SrAt (P : Program) (w : World) (SC o dx y wg mt kn og : Addr) (row : List Int) (Ss : List Sit) (H : Hp) : Prop where
  obj : H o = some (.ins SC dx (sf y wg mt kn og))
  wag : H wg = some (.lst (row.map V.int))
  met : ∃ vs, H mt = some (.lst vs) ∧ DtAll H vs (Ss.map dSit)
  kno : DictN P w H kn Ss
  ori : ∃ os, H og = some (.lst os) ∧ os.length = Ss.length
theorem SrAt.same {P : Program} {w : World} {SC o dx y wg mt kn og : Addr} {row : List Int} {Ss : List Sit} {H H' : Hp} (h : SrAt P w SC o dx y wg mt kn og row Ss H) (s : Same H H') : SrAt P w SC o dx y wg mt kn og row Ss H' := by
  obtain ⟨h1, h2, ⟨vs, h3, h4⟩, h5, os, h6, h7⟩ := h
  exact ⟨s _ _ h1, s _ _ h2, ⟨vs, s _ _ h3, h4.same s⟩, h5.same s, os, s _ _ h6, h7⟩
/-- its parts are apart from one another and new to H0 -/
structure Apart (H0 : Hp) (o wg mt kn og : Addr) : Prop where
  n1 : H0 o = none
  n2 : H0 wg = none
  n3 : H0 mt = none
  n4 : H0 kn = none
  n5 : H0 og = none
  d1 : wg ≠ mt
  d2 : wg ≠ og
  d3 : mt ≠ og
structure SCls (K : PySem.W.Frag) (mg : Str → Option Value) (SC : Addr) : Prop where
  cl : Cls K SC
  n1 : NoAttr K SC "yard"
  n2 : NoAttr K SC "wagons"
  n3 : NoAttr K SC "met"
  n4 : NoAttr K SC "known"
  n5 : NoAttr K SC "origin"
  n6 : NoAttr K SC "found"
  mg_ : mg "Search" = some (.ref SC)

section
variable {P : Program} {w : World} {K : PySem.W.Frag} {mg : Str → Option Value} {base : Heap}
abbrev s_goal : Stmt := inClass (top 34) 1
theorem sc_goal : FnScope ["self", "situation"] ["self", "situation"] (defScope s_goal) := ⟨rfl, rfl, rfl, by decide +kernel, rfl, by decide +kernel, by decide +kernel⟩
theorem bd_goal : BindsAs "is_goal" "Search.is_goal" s_goal ["self", "situation"] := fun _ _ _ _ _ _ us hl => match us, hl with | [_, _], _ => rfl
def spGoal (SC : Addr) : Sp := fun vs H Q _ => ∃ (o dx wg : Addr) (fs : List (Str × V)) (v : V) (row : List Int) (S : Sit), vs = [.ref o, v] ∧ H o = some (.ins SC dx fs) ∧ fs.lookup ("wagons" : Str) = some (V.ref wg) ∧ H wg = some (.lst (row.map V.int)) ∧ Dt H v (dSit S) ∧
  Q (.bl (decide (S.gone.length = row.length))) H
theorem ok_goal {SC : Addr} (G : Glo mg) (Y : SCls K mg SC) (D : MethAt K SC "is_goal" "Search.is_goal" s_goal) : KpM P w K mg base SC "is_goal" 1 ["self", "situation"] (spGoal SC) := by
  refine kpm_of D sc_goal bd_goal (fun vs H Q E ⟨_, _, _, _, _, _, _, h, _⟩ => by rw [h]; rfl) fun f cdv A outer s H vs Q E hr h => ?_
  obtain ⟨o, dx, wg, fs, v, row, S, rfl, ho, hf, hw, hS, k⟩ := h
  refine ⟨_, (pss_one (ps_ret (pe_cmpR op_eq (pe_callB call_len_seq (by rfl) G.len PySem.boot_len (pa_cons (pe_ix ix_tup (pv 1) pe_int (fun _ _ => rfl)) pa_nil)) (pe_callB call_len_seq (by rfl) G.len PySem.boot_len (pa_cons (pe_fld (pv 0) rfl) pa_nil)) (nomark _)))), ?_⟩
  obtain ⟨a, b, g, hs, rfl, ha, hb, hhs, hg⟩ := sit_inv hS
  refine ⟨_, rfl, a, _, _, _, rfl, rfl, SqT.of ha, at_of (j := 2) rfl rfl, g, _, rfl, .inr (SqT.of hg), ?_⟩
  refine ⟨_, rfl, o, SC, dx, _, _, rfl, ho, Y.cl, Y.n2, hf, wg, _, rfl, .inl (SqL.of hw), rfl, ?_⟩
  have e : decide (V.int (((S.gone.map V.int).length : Nat) : Int) = V.int (((row.map V.int).length : Nat) : Int)) = decide (S.gone.length = row.length) := by
    rw [List.length_map, List.length_map]
    by_cases c : S.gone.length = row.length
    · rw [decide_eq_true c, c]
      simp
    · rw [decide_eq_false c]
      refine decide_eq_false fun z => c ?_
      injection z with z
      omega
  show Q (V.bl (decide (V.int (((S.gone.map V.int).length : Nat) : Int) = V.int (((row.map V.int).length : Nat) : Int)))) H
  rw [e]
  exact k

abbrev s_look : Stmt := inClass (top 34) 2
theorem sc_look : FnScope ["self", "index", "situation", "move", "following"] ["self", "index"] (defScope s_look) := ⟨rfl, rfl, rfl, by decide +kernel, rfl, by decide +kernel, by decide +kernel⟩
theorem bd_look : BindsAs "look" "Search.look" s_look ["self", "index"] := fun _ _ _ _ _ _ us hl => match us, hl with | [_, _], _ => rfl
def spLook (P : Program) (w : World) (YC SC : Addr) : Sp := fun vs H Q _ => ∃ (H0 : Hp) (o dx y wg mt kn og : Addr) (row : List Int) (devs : List Dev) (L : List (Int × Int)) (Cs Ss : List Sit) (i : Nat), vs = [.ref o, .int (i : Int)] ∧ Same H0 H ∧ Apart H0 o wg mt kn og ∧
  YardAt YC H0 y devs L ∧ SrAt P w SC o dx y wg mt kn og row Ss H ∧ Shut devs L row Cs ∧ Ss.Nodup ∧ (∀ S ∈ Ss, S ∈ Cs) ∧ i < Ss.length ∧
  ∀ (H' : Hp) (Ss' : List Sit), Same H0 H' → SrAt P w SC o dx y wg mt kn og row Ss' H' → Ss.length ≤ Ss'.length → Ss'.Nodup → (∀ S ∈ Ss', S ∈ Cs) → Q .non H'
theorem ok_look {YC SC : Addr} (G : Glo mg) (Y : SCls K mg SC) (D : MethAt K SC "look" "Search.look" s_look) (k_possible : Kp P w K mg base "possible" 3 ["yard", "row", "situation"] (spMoves YC)) (k_after : Kp P w K mg base "after" 2 ["row", "situation", "move"] spBehind)
    (k_is_live : Kp P w K mg base "is_live" 1 ["situation"] spLive) (k_goal : KpM P w K mg base SC "is_goal" 1 ["self", "situation"] (spGoal SC)) : KpM P w K mg base SC "look" 4 ["self", "index"] (spLook P w YC SC) := by
  refine kpm_of D sc_look bd_look (fun vs H Q E ⟨_, _, _, _, _, _, _, _, _, _, _, _, _, _, h, _⟩ => by rw [h]; rfl) fun f cdv A outer s H vs Q E hr h => ?_
  obtain ⟨H0, o, dx, y, wg, mt, kn, og, row, devs, L, Cs, Ss, i, rfl, s0, ap, hY, hSr, hC, hnd, hsub, hi, k⟩ := h
  obtain ⟨tM, gM⟩ := G.mostSits
  have hu := hr.units
  have hr1 : Room 1 (A.deeper (envOfC "Search.look" (defScope s_look) s.heap.objs.size f cdv)) := hr.mono (by decide)
  refine ⟨_, (pss_cons (ps_set (i := 2) sc_look.nd rfl (Or.inl rfl) (pe_ix ix_list (pe_fld (pv 0) rfl) (pv 1) (fun _ _ => rfl)))
    (pss_one (ps_for PassesOwn.never rfl (pi_list (pe_kp k_possible hr (by rfl) (pa_cons (pe_fld (pv 0) rfl) (pa_cons (pe_fld (pv 0) rfl) (pa_cons (pv 2) pa_nil))))) (pg_name (i := 3) sc_look.nd rfl (Or.inl rfl))
      (pss_cons (ps_set (i := 4) sc_look.nd rfl (Or.inl rfl) (pe_kp k_after (hr.mono (by decide)) (by rfl) (pa_cons (pe_fld (pv 0) rfl) (pa_cons (pv 2) (pa_cons (pv 3) pa_nil)))))
      (pss_cons (ps_if (PW.pt (pw_or (pt_cmpR (op_inN hu) (pv 4) (pe_fld (pv 0) rfl) rfl) (pw_or1 (pt_not (pt_truth (pe_kp k_is_live hr1 (by rfl) (pa_cons (pv 4) pa_nil)) (by intro _; rfl))))))
        (pss_one ps_continue)
        pss_nil)
      (pss_cons (ps_if (pt_cmpR op_eq (pe_callB call_len_seq (by rfl) G.len PySem.boot_len (pa_cons (pe_fld (pv 0) rfl) pa_nil)) (pe_glob (v := .int 4000) (by rfl) gM ⟨_, rfl⟩) (nomark _))
        (pss_one ps_never)
        pss_nil)
      (pss_cons (ps_asg pe_bl (pg_sub (pe_fld (pv 0) rfl) (pv 4) (set_N hu)))
      (pss_cons (ps_expr (pe_bm PySem.F.plainAttrs_list PySem.F.slot_list_append PySem.F.type_list_append mt_append (pe_fld (pv 0) rfl) (pa_cons (pv 4) pa_nil)))
      (pss_cons (ps_expr (pe_bm PySem.F.plainAttrs_list PySem.F.slot_list_append PySem.F.type_list_append mt_append (pe_fld (pv 0) rfl) (pa_cons (pe_tup (pa_cons (pv 1) (pa_cons (pv 3) pa_nil))) pa_nil)))
      (pss_one (ps_if (pt_truth (pe_kpm k_goal hr1 Y.cl (pv 0) (pa_cons (pv 4) pa_nil)) (by intro _; rfl))
        pss_never
        pss_nil))))))))))), ?_⟩
  obtain ⟨hobj, hwag, ⟨vs, hmt, hvs⟩, hkno, os, hog, hol⟩ := id hSr
  have hSi : Ss[i]? = some Ss[i] := List.getElem?_eq_getElem hi
  generalize Ss[i] = S at hSi
  have hSC : S ∈ Cs := hsub S (List.mem_of_getElem? hSi)
  have hg := hC.good S hSC
  have hsm := hg.sm (by have := hC.row_.len; omega) hC.devs_
  obtain ⟨v, hv, hS⟩ := hvs.get (get_map (f := dSit) hSi)
  refine ⟨_, rfl, o, SC, dx, _, _, rfl, hobj, Y.cl, Y.n3, fld_get (i := 2) (sf_keys _ _ _ _ _) rfl, _, rfl, mt, _, _, _, rfl, rfl, SqL.of hmt, at_of rfl hv, ?_⟩
  refine ⟨_, rfl, o, SC, dx, _, _, rfl, hobj, Y.cl, Y.n1, fld_get (i := 0) (sf_keys _ _ _ _ _) rfl, _, rfl, o, SC, dx, _, _, rfl, hobj, Y.cl, Y.n2, fld_get (i := 1) (sf_keys _ _ _ _ _) rfl, _, rfl,
    y, wg, v, row, devs, L, S, rfl, hY.same s0, hwag, hS, hg.len, hg.came, hC.links, hC.links_, fun p ys ms H1 s1 f1 h1 hD1 pm => ?_⟩
  have npo : o ≠ p := ne_of_none hobj f1
  have npm : mt ≠ p := ne_of_none hmt f1
  have npg : og ≠ p := ne_of_none hog f1
  obtain ⟨φ0, hφ0⟩ := hkno.isExt
  have npk : kn ≠ p := ne_of_none hφ0 f1
  refine ⟨p, rfl, ⟨_, SqL.of h1⟩, for_list (K := K) (a := p) (xs := ys)
    (fun j σ H' => ∃ (Ss' : List Sit) (v3 v4 : Option V), σ = [some (.ref o), some (.int (i : Int)), some v, v3, v4] ∧ Same H0 H' ∧ SrAt P w SC o dx y wg mt kn og row Ss' H' ∧ Ss.length ≤ Ss'.length ∧ Ss'.Nodup ∧ (∀ S ∈ Ss', S ∈ Cs) ∧ H' p = some (.lst ys) ∧ DtAll H' ys (ms.map dMv) ∧ Dt H' v (dSit S))
    ⟨Ss, _, _, rfl, Same.trans s0 s1, hSr.same s1, Nat.le_refl _, hnd, hsub, h1, hD1, hS.same s1⟩ (fun j σ H' _ ⟨_, _, _, _, _, _, _, _, _, z, _⟩ => SqL.of z) ?_ ?_⟩
  · rintro j x σ H2 hj ⟨Ss2, v3, v4, rfl, s2, hSr2, hle2, hnd2, hsub2, h2, hD2, hS2⟩
    obtain ⟨dm, hdm, hxd⟩ := hD2.get' hj
    obtain ⟨m, hm, rfl⟩ : ∃ m, ms[j]? = some m ∧ dm = dMv m := by
      rw [List.getElem?_map] at hdm
      cases e : ms[j]? with
      | none => rw [e] at hdm; cases hdm
      | some m => rw [e] at hdm; exact ⟨m, rfl, (Option.some.inj hdm).symm⟩
    have hmm : m ∈ moves L devs row.length S := pm.mem_iff.mp (List.mem_of_getElem? hm)
    have hok := mv_ok hC.links hmm
    refine ⟨_, rfl, o, SC, dx, _, _, rfl, hSr2.obj, Y.cl, Y.n2, fld_get (i := 1) (sf_keys _ _ _ _ _) rfl, _, rfl, _, rfl, v, x, wg, row, devs, S, m, rfl, hSr2.wag, hS2, hxd, hok, hg.len, hsm, fun u H3 s3 hu3 => ?_⟩
    have hSr3 := hSr2.same s3
    have hga := good_after hg hok
    have hsma := hga.sm (by have := hC.row_.len; omega) hC.devs_
    have stay : ∀ (H' : Hp), Same H2 H' → ∃ (Ss' : List Sit) (v3 v4 : Option V), ([some (.ref o), some (.int (i : Int)), some v, some x, some u] : L2.St) = [some (.ref o), some (.int (i : Int)), some v, v3, v4] ∧ Same H0 H' ∧ SrAt P w SC o dx y wg mt kn og row Ss' H' ∧ Ss.length ≤ Ss'.length ∧ Ss'.Nodup ∧ (∀ S ∈ Ss', S ∈ Cs) ∧ H' p = some (.lst ys) ∧ DtAll H' ys (ms.map dMv) ∧ Dt H' v (dSit S) :=
      fun H' z => ⟨Ss2, _, _, rfl, Same.trans s2 z, hSr2.same z, hle2, hnd2, hsub2, z _ _ h2, hD2.same z, hS2.same z⟩
    obtain ⟨b, rfl⟩ := hu3.sit_ref
    refine ⟨_, rfl, _, rfl, o, SC, dx, _, _, rfl, hSr3.obj, Y.cl, Y.n4, fld_get (i := 3) (sf_keys _ _ _ _ _) rfl, kn, b, after row S m, Ss2, rfl, rfl, hSr3.kno, hu3, _, rfl, iteD2 (fun c => ?_) (fun c => ?_)⟩
    · exact iteT (stay _ s3)
    · refine ⟨_, rfl, .ref b, after row S m, rfl, hu3, hsma.1, fun H4 s4 => ⟨_, rfl, ?_⟩⟩
      by_cases hl : Live (after row S m)
      · refine iteNF hl ?_
        have hSr4 := hSr3.same s4
        have hu4 := hu3.same s4
        have hin := hC.next S hSC m hmm hl
        obtain ⟨hobj4, hwag4, ⟨vs4, hmt4, hvs4⟩, hkno4, os4, hog4, hol4⟩ := id hSr4
        have hc2 : Ss2.length ≤ 1000 := Nat.le_trans (nodup_sub_len hnd2 hsub2) hC.few
        have hvl : vs4.length = Ss2.length := by
          have := hvs4.length
          rw [List.length_map] at this
          exact this
        refine ⟨_, rfl, o, SC, dx, _, _, rfl, hobj4, Y.cl, Y.n3, fld_get (i := 2) (sf_keys _ _ _ _ _) rfl, mt, _, rfl, .inl (SqL.of hmt4), rfl, _, rfl, iteDF (by intro z; injection z with z; omega) ?_⟩
        refine ⟨_, rfl, o, SC, dx, _, _, rfl, hobj4, Y.cl, Y.n4, fld_get (i := 3) (sf_keys _ _ _ _ _) rfl, _, rfl, kn, b, after row S m, Ss2, rfl, rfl, hkno4, hu4, c, small (by omega), fun H5 e5 d5 => ?_⟩
        obtain ⟨φ, hφ⟩ := hkno4.isExt
        have nk : ∀ {c : Addr} {o' : HO}, H4 c = some o' → (∀ φ, o' ≠ .ext φ) → H5 c = some o' := fun {c o'} e n => by
          rw [e5 c (fun z => by rw [z, hφ] at e; exact n φ (Option.some.inj e).symm)]
          exact e
        have t5 : Tups H4 H5 := fun c xs e => nk e (fun _ z => nomatch z)
        have s04 : Same H0 H4 := Same.trans s2 (Same.trans s3 s4)
        have s05 : Same H0 H5 := fun c o' e => by
          rw [e5 c (fun z => by rw [z, ap.n4] at e; cases e)]
          exact s04 c o' e
        have hobj5 := nk hobj4 (fun _ z => nomatch z)
        have hwag5 := nk hwag4 (fun _ z => nomatch z)
        have hmt5 := nk hmt4 (fun _ z => nomatch z)
        have hog5 := nk hog4 (fun _ z => nomatch z)
        have hp5 := nk (s4 _ _ (s3 _ _ h2)) (fun _ z => nomatch z)
        refine ⟨_, rfl, o, SC, dx, _, _, rfl, hobj5, Y.cl, Y.n3, fld_get (i := 2) (sf_keys _ _ _ _ _) rfl, .inl ⟨rfl, _, SqL.of hmt5⟩, _, rfl, mt, vs4, .ref b, rfl, rfl, hmt5, small (by omega), ?_⟩
        obtain ⟨φ5, hφ5⟩ := d5.isExt
        have nmk : mt ≠ kn := ne_of hmt5 hφ5 (fun z => nomatch z)
        have nok : og ≠ kn := ne_of hog5 hφ5 (fun z => nomatch z)
        have nom : o ≠ mt := ne_of hobj5 hmt5 (fun z => nomatch z)
        have noo : o ≠ og := ne_of hobj5 hog5 (fun z => nomatch z)
        have t6 : Tups H5 (upd H5 mt (.lst (vs4 ++ [.ref b]))) := Tups.put hmt5 (fun _ z => nomatch z)
        have hog6 : upd H5 mt (.lst (vs4 ++ [.ref b])) og = some (.lst os4) := (upd_ne ap.d3.symm).trans hog5
        refine ⟨_, rfl, o, SC, dx, _, _, rfl, (upd_ne nom).trans hobj5, Y.cl, Y.n5, fld_get (i := 4) (sf_keys _ _ _ _ _) rfl, .inl ⟨rfl, _, SqL.of hog6⟩, _, rfl, _, rfl, (szl rfl), fun t ht => ?_⟩
        have s7 := Same.new (o := .tup [.int (i : Int), x]) ht
        have hog7 := s7 _ _ hog6
        refine ⟨og, os4, .ref t, rfl, rfl, hog7, small (by omega), ?_⟩
        have t8 := Tups.put (o' := .lst (os4 ++ [.ref t])) hog7 (fun _ z => nomatch z)
        have hobj7 := s7 _ _ ((upd_ne nom).trans hobj5)
        have hwag7 := s7 _ _ ((upd_ne ap.d1).trans hwag5)
        have hmt7 := s7 _ _ (upd_same (H := H5) (a := mt) (o := .lst (vs4 ++ [.ref b])))
        have hφ7 := s7 _ _ ((upd_ne nmk.symm).trans hφ5)
        have hp7 := s7 _ _ ((upd_ne npm.symm).trans hp5)
        have t57 : Tups H5 (upd (upd H5 mt (.lst (vs4 ++ [.ref b]))) t (.tup [.int (i : Int), x])) := Tups.trans t6 (Tups.of_same s7)
        have t58 := Tups.trans t57 t8
        have t48 := Tups.trans t5 t58
        have hkno8 : DictN P w (upd (upd (upd H5 mt (.lst (vs4 ++ [.ref b]))) t (.tup [.int (i : Int), x])) og (.lst (os4 ++ [.ref t]))) kn (Ss2 ++ [after row S m]) := by
          refine d5.keepT t58 ?_
          rw [upd_ne nok.symm, hφ7, hφ5]
        have hu8 := Dt.tups t48 _ _ (noList_sit _) hu4
        have hobj8 := (upd_ne noo (H := upd (upd H5 mt (.lst (vs4 ++ [.ref b]))) t (.tup [.int (i : Int), x])) (o := .lst (os4 ++ [.ref t]))).trans hobj7
        have hwag8 := (upd_ne ap.d2 (H := upd (upd H5 mt (.lst (vs4 ++ [.ref b]))) t (.tup [.int (i : Int), x])) (o := .lst (os4 ++ [.ref t]))).trans hwag7
        refine ⟨_, rfl, o, dx, _, rfl, hobj8, sf_no _ _ _ _ _ (by decide +kernel), _, rfl, o, dx, wg, _, .ref b, row, after row S m, rfl, hobj8, fld_get (i := 1) (sf_keys _ _ _ _ _) rfl, hwag8, hu8, _, rfl, iteDF (hC.nogoal _ hin) ?_⟩
        have hol8 : (os4 ++ [V.ref t]).length = (Ss2 ++ [after row S m]).length := by
          rw [List.length_append, List.length_append, List.length_singleton, List.length_singleton, hol4]
        refine ⟨Ss2 ++ [after row S m], _, _, rfl, ?_, ⟨hobj8, hwag8, ⟨vs4 ++ [.ref b], (upd_ne ap.d3).trans hmt7, ?_⟩, hkno8, os4 ++ [.ref t], upd_same, hol8⟩, by rw [List.length_append]; omega, ?_, ?_, (upd_ne npg.symm).trans hp7, ?_, ?_⟩
        · exact Same.mut (Same.trans (Same.mut s05 ap.n3) s7) ap.n5
        · rw [List.map_append]
          exact DtAll.snoc (hvs4.sitsT t48) hu8
        · rw [List.nodup_append]
          refine ⟨hnd2, List.nodup_cons.mpr ⟨List.not_mem_nil, List.nodup_nil⟩, ?_⟩
          intro a ha b hb e
          rw [List.mem_singleton] at hb
          rw [e, hb] at ha
          exact c ha
        · intro T hT
          rcases List.mem_append.mp hT with hT | hT
          · exact hsub2 T hT
          · rw [List.mem_singleton.mp hT]
            exact hin
        · exact (hD2.same (Same.trans s3 s4)).tups t48 _ _ (noLists_map noList_mv _)
        · exact Dt.tups t48 _ _ (noList_sit _) (hS2.same (Same.trans s3 s4))
      · refine iteNT hl (stay _ (Same.trans s3 s4))
  · rintro σ H2 ⟨Ss2, v3, v4, rfl, s2, hSr2, hle2, hnd2, hsub2, h2, hD2, hS2⟩
    exact k H2 Ss2 s2 hSr2 hle2 hnd2 hsub2
end
end Ys
/-! The search, second part: __init__, finish, search_from, solve, can_sort, closed_list. -/
namespace Ys
open PySem PySem.Spec PyProof.Rows L2
section
variable {P : Program} {w : World} {K : PySem.W.Frag} {mg : Str → Option Value} {base : Heap}
abbrev s_sinit : Stmt := inClass (top 34) 0
theorem sc_sinit : FnScope ["self", "yard", "row", "situation"] ["self", "yard", "row", "situation"] (defScope s_sinit) := ⟨rfl, rfl, rfl, by decide +kernel, rfl, by decide +kernel, by decide +kernel⟩
theorem bd_sinit : BindsAs "__init__" "Search.__init__" s_sinit ["self", "yard", "row", "situation"] := fun _ _ _ _ _ _ us hl => match us, hl with | [_, _, _, _], _ => rfl
def spSInit (P : Program) (w : World) (SC : Addr) : Sp := fun vs H Q _ => ∃ (H0 : Hp) (o dx y ra : Addr) (v : V) (row : List Int) (S : Sit), vs = [.ref o, .ref y, .ref ra, v] ∧ Same H0 H ∧ H0 o = none ∧ H o = some (.ins SC dx []) ∧ H ra = some (.lst (row.map V.int)) ∧ Dt H v (dSit S) ∧
  S.gone.length ≠ row.length ∧ ∀ (H' : Hp) (wg mt kn og : Addr), Same H0 H' → Apart H0 o wg mt kn og → SrAt P w SC o dx y wg mt kn og row [S] H' → Q .non H'
theorem add_f {fs : List (Str × V)} {f : Str} {v : V} {ks : List Str} (e : fs.map (·.1) = ks) (h : decide (f ∈ ks) = false) : putF f v fs = fs ++ [(f, v)] := fld_add (e ▸ of_decide_eq_false h)
theorem no_f {fs : List (Str × V)} {f : Str} {ks : List Str} (e : fs.map (·.1) = ks) (h : decide (f ∈ ks) = false) : fs.lookup f = none := fld_none (e ▸ of_decide_eq_false h)
theorem lt1000 {fs : List (Str × V)} {n : Nat} (e : fs.length = n) (h : decide (n < 1000) = true) : fs.length < 1000 := e ▸ of_decide_eq_true h
theorem ok_sinit {SC : Addr} (G : Glo mg) (Y : SCls K mg SC) (D : InitAt K SC "Search.__init__" s_sinit) (k_goal : KpM P w K mg base SC "is_goal" 1 ["self", "situation"] (spGoal SC)) : KpI P w K mg base SC 2 ["self", "yard", "row", "situation"] (spSInit P w SC) := by
  refine kpi_of D sc_sinit bd_sinit (fun vs H Q E ⟨_, _, _, _, _, _, _, _, h, _⟩ => by rw [h]; rfl) fun f cdv A outer s H vs Q E hr h => ?_
  obtain ⟨H0, o, dx, y, ra, v, row, S, rfl, s0, n0, ho, hrow, hS, hng, k⟩ := h
  have hu := hr.units
  refine ⟨_, (pss_cons (ps_fld (pv 0) (pv 1) rfl)
    (pss_cons (ps_fld (pv 0) (pe_callTy call_list_of (by rfl) G.list (by decide +kernel) (pa_cons (pv 2) pa_nil)) rfl)
    (pss_cons (ps_fld (pv 0) (pe_lst (pa_cons (pv 3) pa_nil)) rfl)
    (pss_cons (ps_fld (pv 0) (pe_dispN hu (pv 3) pe_bl) rfl)
    (pss_cons (ps_fld (pv 0) (pe_lst (pa_cons pe_non pa_nil)) rfl)
    (pss_one (ps_fld (pv 0) (pe_kpm k_goal hr Y.cl (pv 0) (pa_cons (pv 3) pa_nil)) rfl))))))), ?_⟩
  obtain ⟨b, rfl⟩ := hS.sit_ref
  -- yard
  refine ⟨_, rfl, _, rfl, o, SC, dx, _, rfl, ho, Y.cl, Y.n1, lt1000 (n := 0) rfl rfl, ?_⟩
  have t1 : Tups H (upd H o (.ins SC dx [("yard", .ref y)])) := Tups.put ho (fun _ z => nomatch z)
  have s1 : Same H0 (upd H o (.ins SC dx [("yard", .ref y)])) := Same.mut s0 n0
  have ho1 : upd H o (.ins SC dx [("yard", .ref y)]) o = some (.ins SC dx [("yard", .ref y)]) := upd_same
  have hrow1 : upd H o (.ins SC dx [("yard", .ref y)]) ra = some (.lst (row.map V.int)) := (upd_ne (ne_of hrow ho (fun z => nomatch z))).trans hrow
  have hS1 := Dt.tups t1 _ _ (noList_sit S) hS
  show tSeq _ _ _ _ (upd H o (.ins SC dx [("yard", .ref y)]))
  generalize upd H o (.ins SC dx [("yard", .ref y)]) = H1 at s1 ho1 hrow1 hS1 ⊢
  -- wagons
  refine ⟨_, rfl, ra, _, rfl, .inl (SqL.of hrow1), fun wg hwg => ?_⟩
  have s2 := Same.new (o := .lst (row.map V.int)) hwg
  refine ⟨_, rfl, o, SC, dx, _, rfl, s2 _ _ ho1, Y.cl, Y.n2, lt1000 (n := 1) rfl rfl, ?_⟩
  rw [add_f (f := "wagons") (ks := ["yard"]) rfl (by decide +kernel)]
  have nwo : wg ≠ o := fun z => by rw [z, ho1] at hwg; cases hwg
  have nw0 : H0 wg = none := Same.free s1 hwg
  have t2 : Tups H1 (upd (upd H1 wg (.lst (row.map V.int))) o (.ins SC dx [("yard", .ref y), ("wagons", .ref wg)])) := Tups.trans (Tups.of_same s2) (Tups.put (s2 _ _ ho1) (fun _ z => nomatch z))
  have s02 : Same H0 (upd (upd H1 wg (.lst (row.map V.int))) o (.ins SC dx [("yard", .ref y), ("wagons", .ref wg)])) := Same.mut (Same.trans s1 s2) n0
  have ho2 : upd (upd H1 wg (.lst (row.map V.int))) o (.ins SC dx [("yard", .ref y), ("wagons", .ref wg)]) o = some (.ins SC dx [("yard", .ref y), ("wagons", .ref wg)]) := upd_same
  have hwg2 : upd (upd H1 wg (.lst (row.map V.int))) o (.ins SC dx [("yard", .ref y), ("wagons", .ref wg)]) wg = some (.lst (row.map V.int)) := (upd_ne nwo).trans upd_same
  have hS2 := Dt.tups t2 _ _ (noList_sit S) hS1
  show tSeq _ _ _ _ (upd (upd H1 wg (.lst (row.map V.int))) o (.ins SC dx [("yard", .ref y), ("wagons", .ref wg)]))
  generalize upd (upd H1 wg (.lst (row.map V.int))) o (.ins SC dx [("yard", .ref y), ("wagons", .ref wg)]) = H2 at s02 ho2 hwg2 hS2 ⊢
  -- met
  refine ⟨_, rfl, (szl rfl), fun mt hmt => ?_⟩
  have s3 := Same.new (o := .lst [.ref b]) hmt
  refine ⟨_, rfl, o, SC, dx, _, rfl, s3 _ _ ho2, Y.cl, Y.n3, lt1000 (n := 2) rfl rfl, ?_⟩
  rw [add_f (f := "met") (ks := ["yard", "wagons"]) rfl (by decide +kernel)]
  have nmo : mt ≠ o := fun z => by rw [z, ho2] at hmt; cases hmt
  have nmw : wg ≠ mt := fun z => by rw [← z, hwg2] at hmt; cases hmt
  have nm0 : H0 mt = none := Same.free s02 hmt
  have t3 : Tups H2 (upd (upd H2 mt (.lst [.ref b])) o (.ins SC dx [("yard", .ref y), ("wagons", .ref wg), ("met", .ref mt)])) := Tups.trans (Tups.of_same s3) (Tups.put (s3 _ _ ho2) (fun _ z => nomatch z))
  have s03 : Same H0 (upd (upd H2 mt (.lst [.ref b])) o (.ins SC dx [("yard", .ref y), ("wagons", .ref wg), ("met", .ref mt)])) := Same.mut (Same.trans s02 s3) n0
  have ho3 : upd (upd H2 mt (.lst [.ref b])) o (.ins SC dx [("yard", .ref y), ("wagons", .ref wg), ("met", .ref mt)]) o = some (.ins SC dx [("yard", .ref y), ("wagons", .ref wg), ("met", .ref mt)]) := upd_same
  have hwg3 : upd (upd H2 mt (.lst [.ref b])) o (.ins SC dx [("yard", .ref y), ("wagons", .ref wg), ("met", .ref mt)]) wg = some (.lst (row.map V.int)) := (upd_ne nwo).trans (s3 _ _ hwg2)
  have hmt3 : upd (upd H2 mt (.lst [.ref b])) o (.ins SC dx [("yard", .ref y), ("wagons", .ref wg), ("met", .ref mt)]) mt = some (.lst [.ref b]) := (upd_ne nmo).trans upd_same
  have hS3 := Dt.tups t3 _ _ (noList_sit S) hS2
  show tSeq _ _ _ _ (upd (upd H2 mt (.lst [.ref b])) o (.ins SC dx [("yard", .ref y), ("wagons", .ref wg), ("met", .ref mt)]))
  generalize upd (upd H2 mt (.lst [.ref b])) o (.ins SC dx [("yard", .ref y), ("wagons", .ref wg), ("met", .ref mt)]) = H3 at s03 ho3 hwg3 hmt3 hS3 ⊢
  -- known
  intro kn hkn
  have s4 := Same.new (o := dnO P w kn []) hkn
  have nko : o ≠ kn := ne_of_none ho3 hkn
  have nkw : wg ≠ kn := ne_of_none hwg3 hkn
  have nkm : mt ≠ kn := ne_of_none hmt3 hkn
  have nk0 : H0 kn = none := Same.free s03 hkn
  refine ⟨_, rfl, b, S, rfl, upd_same, hS3.same s4, fun H4 e4 d4 => ?_⟩
  have e34 : ∀ c, c ≠ kn → H4 c = H3 c := fun c hc => (e4 c hc).trans (upd_ne hc)
  have s34 : Same H3 H4 := fun c u e => by
    rw [e34 c (ne_of_none e hkn)]
    exact e
  refine ⟨_, rfl, o, SC, dx, _, rfl, s34 _ _ ho3, Y.cl, Y.n4, lt1000 (n := 3) rfl rfl, ?_⟩
  rw [add_f (f := "known") (ks := ["yard", "wagons", "met"]) rfl (by decide +kernel)]
  have t5 : Tups H4 (upd H4 o (.ins SC dx [("yard", .ref y), ("wagons", .ref wg), ("met", .ref mt), ("known", .ref kn)])) := Tups.put (s34 _ _ ho3) (fun _ z => nomatch z)
  have s05 : Same H0 (upd H4 o (.ins SC dx [("yard", .ref y), ("wagons", .ref wg), ("met", .ref mt), ("known", .ref kn)])) := Same.mut (Same.trans s03 s34) n0
  have ho5 : upd H4 o (.ins SC dx [("yard", .ref y), ("wagons", .ref wg), ("met", .ref mt), ("known", .ref kn)]) o = some (.ins SC dx [("yard", .ref y), ("wagons", .ref wg), ("met", .ref mt), ("known", .ref kn)]) := upd_same
  have hwg5 : upd H4 o (.ins SC dx [("yard", .ref y), ("wagons", .ref wg), ("met", .ref mt), ("known", .ref kn)]) wg = some (.lst (row.map V.int)) := (upd_ne nwo).trans (s34 _ _ hwg3)
  have hmt5 : upd H4 o (.ins SC dx [("yard", .ref y), ("wagons", .ref wg), ("met", .ref mt), ("known", .ref kn)]) mt = some (.lst [.ref b]) := (upd_ne nmo).trans (s34 _ _ hmt3)
  have hS5 := Dt.tups t5 _ _ (noList_sit S) (hS3.same s34)
  have d5 : DictN P w (upd H4 o (.ins SC dx [("yard", .ref y), ("wagons", .ref wg), ("met", .ref mt), ("known", .ref kn)])) kn [S] := d4.keepT t5 (upd_ne nko.symm)
  show tSeq _ _ _ _ (upd H4 o (.ins SC dx [("yard", .ref y), ("wagons", .ref wg), ("met", .ref mt), ("known", .ref kn)]))
  generalize upd H4 o (.ins SC dx [("yard", .ref y), ("wagons", .ref wg), ("met", .ref mt), ("known", .ref kn)]) = H5 at s05 ho5 hwg5 hmt5 hS5 d5 ⊢
  -- origin
  refine ⟨(szl rfl), fun og hog => ?_⟩
  have s6 := Same.new (o := .lst [.non]) hog
  have noo : og ≠ o := fun z => by rw [z, ho5] at hog; cases hog
  have now : wg ≠ og := ne_of_none hwg5 hog
  have nom : mt ≠ og := ne_of_none hmt5 hog
  have no0 : H0 og = none := Same.free s05 hog
  refine ⟨_, rfl, o, SC, dx, _, rfl, s6 _ _ ho5, Y.cl, Y.n5, lt1000 (n := 4) rfl rfl, ?_⟩
  have eo : putF ("origin" : Str) (V.ref og) [(("yard" : Str), V.ref y), ("wagons", .ref wg), ("met", .ref mt), ("known", .ref kn)] = [(("yard" : Str), V.ref y), ("wagons", .ref wg), ("met", .ref mt), ("known", .ref kn), ("origin", .ref og)] :=
    add_f (ks := ["yard", "wagons", "met", "known"]) rfl (by decide +kernel)
  rw [eo]
  have t7 : Tups H5 (upd (upd H5 og (.lst [.non])) o (.ins SC dx [("yard", .ref y), ("wagons", .ref wg), ("met", .ref mt), ("known", .ref kn), ("origin", .ref og)])) := Tups.trans (Tups.of_same s6) (Tups.put (s6 _ _ ho5) (fun _ z => nomatch z))
  have s07 : Same H0 (upd (upd H5 og (.lst [.non])) o (.ins SC dx [("yard", .ref y), ("wagons", .ref wg), ("met", .ref mt), ("known", .ref kn), ("origin", .ref og)])) := Same.mut (Same.trans s05 s6) n0
  have ho7 : upd (upd H5 og (.lst [.non])) o (.ins SC dx [("yard", .ref y), ("wagons", .ref wg), ("met", .ref mt), ("known", .ref kn), ("origin", .ref og)]) o = some (.ins SC dx [("yard", .ref y), ("wagons", .ref wg), ("met", .ref mt), ("known", .ref kn), ("origin", .ref og)]) := upd_same
  have hwg7 : upd (upd H5 og (.lst [.non])) o (.ins SC dx [("yard", .ref y), ("wagons", .ref wg), ("met", .ref mt), ("known", .ref kn), ("origin", .ref og)]) wg = some (.lst (row.map V.int)) := (upd_ne nwo).trans (s6 _ _ hwg5)
  have hmt7 : upd (upd H5 og (.lst [.non])) o (.ins SC dx [("yard", .ref y), ("wagons", .ref wg), ("met", .ref mt), ("known", .ref kn), ("origin", .ref og)]) mt = some (.lst [.ref b]) := (upd_ne nmo).trans (s6 _ _ hmt5)
  have hog7 : upd (upd H5 og (.lst [.non])) o (.ins SC dx [("yard", .ref y), ("wagons", .ref wg), ("met", .ref mt), ("known", .ref kn), ("origin", .ref og)]) og = some (.lst [.non]) := (upd_ne noo).trans upd_same
  have hS7 := Dt.tups t7 _ _ (noList_sit S) hS5
  obtain ⟨φ, hφ⟩ := d5.isExt
  have d7 : DictN P w (upd (upd H5 og (.lst [.non])) o (.ins SC dx [("yard", .ref y), ("wagons", .ref wg), ("met", .ref mt), ("known", .ref kn), ("origin", .ref og)])) kn [S] :=
    d5.keepT t7 ((upd_ne nko.symm).trans ((s6 _ _ hφ).trans hφ.symm))
  generalize upd (upd H5 og (.lst [.non])) o (.ins SC dx [("yard", .ref y), ("wagons", .ref wg), ("met", .ref mt), ("known", .ref kn), ("origin", .ref og)]) = H7 at s07 ho7 hwg7 hmt7 hog7 hS7 d7 ⊢
  -- found
  refine ⟨_, rfl, o, dx, _, rfl, ho7, no_f (ks := ["yard", "wagons", "met", "known", "origin"]) rfl (by decide +kernel), _, rfl, o, dx, wg, _, .ref b, row, S, rfl, ho7, fld_get (i := 1) (by show ([("yard" : Str), "wagons", "met", "known", "origin"] : List Str).Nodup; decide +kernel) rfl, hwg7, hS7, ?_⟩
  refine ⟨_, rfl, o, SC, dx, _, rfl, ho7, Y.cl, Y.n6, lt1000 (n := 5) rfl rfl, ?_⟩
  rw [add_f (f := "found") (ks := ["yard", "wagons", "met", "known", "origin"]) rfl (by decide +kernel), decide_eq_false hng]
  have t8 : Tups H7 (upd H7 o (.ins SC dx (sf y wg mt kn og))) := Tups.put ho7 (fun _ z => nomatch z)
  refine k _ wg mt kn og (Same.mut s07 n0) ⟨n0, nw0, nm0, nk0, no0, nmw, now, nom⟩ ⟨upd_same, (upd_ne nwo).trans hwg7, ⟨_, (upd_ne nmo).trans hmt7, .cons (Dt.tups t8 _ _ (noList_sit S) hS7) .nil⟩, d7.keepT t8 (upd_ne nko.symm), _, (upd_ne noo).trans hog7, rfl⟩

abbrev s_finish : Stmt := inClass (top 34) 3
theorem sc_finish : FnScope ["self", "index"] ["self"] (defScope s_finish) := ⟨rfl, rfl, rfl, by decide +kernel, rfl, by decide +kernel, by decide +kernel⟩
theorem bd_finish : BindsAs "finish" "Search.finish" s_finish ["self"] := fun _ _ _ _ _ _ us hl => match us, hl with | [_], _ => rfl
def spFinish (P : Program) (w : World) (YC SC : Addr) : Sp := fun vs H Q _ => ∃ (H0 : Hp) (o dx y wg mt kn og : Addr) (row : List Int) (devs : List Dev) (L : List (Int × Int)) (Cs Ss : List Sit), vs = [.ref o] ∧ Same H0 H ∧ Apart H0 o wg mt kn og ∧
  YardAt YC H0 y devs L ∧ SrAt P w SC o dx y wg mt kn og row Ss H ∧ Shut devs L row Cs ∧ Ss.Nodup ∧ (∀ S ∈ Ss, S ∈ Cs) ∧
  ∀ (H' : Hp) (Ss' : List Sit), Same H0 H' → SrAt P w SC o dx y wg mt kn og row Ss' H' → Ss'.Nodup → (∀ S ∈ Ss', S ∈ Cs) → Q .non H'
theorem ok_finish {YC SC : Addr} (G : Glo mg) (Y : SCls K mg SC) (D : MethAt K SC "finish" "Search.finish" s_finish) (k_look : KpM P w K mg base SC "look" 4 ["self", "index"] (spLook P w YC SC)) : KpM P w K mg base SC "finish" 5 ["self"] (spFinish P w YC SC) := by
  refine kpm_of D sc_finish bd_finish (fun vs H Q E ⟨_, _, _, _, _, _, _, _, _, _, _, _, _, h, _⟩ => by rw [h]; rfl) fun f cdv A outer s H vs Q E hr h => ?_
  obtain ⟨H0, o, dx, y, wg, mt, kn, og, row, devs, L, Cs, Ss, rfl, s0, ap, hY, hSr, hC, hnd, hsub, k⟩ := h
  refine ⟨_, (pss_cons (ps_set (i := 1) sc_finish.nd rfl (Or.inl rfl) pe_int)
    (pss_one (ps_while PassesOwn.never (PW.pt (pw_and (pt_not (pt_truth (pe_fld (pv 0) rfl) (by intro _; rfl))) (pw_and1 (pt_cmpR op_lt (pv 1) (pe_callB call_len_seq (by rfl) G.len PySem.boot_len (pa_cons (pe_fld (pv 0) rfl) pa_nil)) (nomark _)))))
      (pss_cons (ps_expr (pe_kpm k_look hr Y.cl (pv 0) (pa_cons (pv 1) pa_nil)))
      (pss_one (ps_aug (i := 1) sc_finish.nd rfl (Or.inl rfl) pe_int ip_add)))))), ?_⟩
  refine ⟨fun m σ H' => ∃ (Ss' : List Sit) (j : Nat), σ = [some (.ref o), some (.int (j : Int))] ∧ m = 1000 - j ∧ Same H0 H' ∧ SrAt P w SC o dx y wg mt kn og row Ss' H' ∧ Ss'.Nodup ∧ (∀ S ∈ Ss', S ∈ Cs), ⟨1000, Ss, 0, rfl, rfl, s0, hSr, hnd, hsub⟩, ?_⟩
  rintro m σ H1 ⟨Ss1, j, rfl, rfl, s1, hSr1, hnd1, hsub1⟩
  obtain ⟨hobj, hwag, ⟨vs, hmt, hvs⟩, hkno, os, hog, hol⟩ := id hSr1
  have hvl : vs.length = Ss1.length := by
    have := hvs.length
    rw [List.length_map] at this
    exact this
  have hc1 : Ss1.length ≤ 1000 := Nat.le_trans (nodup_sub_len hnd1 hsub1) hC.few
  refine ⟨_, rfl, o, SC, dx, _, _, rfl, hobj, Y.cl, Y.n6, fld_get (i := 5) (sf_keys _ _ _ _ _) rfl, false, rfl, iteT ⟨_, rfl, _, rfl, o, SC, dx, _, _, rfl, hobj, Y.cl, Y.n3, fld_get (i := 2) (sf_keys _ _ _ _ _) rfl, mt, _, rfl, .inl (SqL.of hmt), _, _, rfl, rfl, _, rfl, iteD2 (fun c => ?_) (fun c => ?_)⟩⟩
  · refine ⟨fun σ' H' => ∃ Ss' : List Sit, σ' = [some (.ref o), some (.int ((j + 1 : Nat) : Int))] ∧ Same H0 H' ∧ SrAt P w SC o dx y wg mt kn og row Ss' H' ∧ Ss'.Nodup ∧ (∀ S ∈ Ss', S ∈ Cs), fun σ' H' ⟨Ss', e1, e2, e3, e4, e5⟩ => ⟨1000 - (j + 1), by omega, Ss', j + 1, e1, rfl, e2, e3, e4, e5⟩, ?_⟩
    refine ⟨_, rfl, o, dx, _, rfl, hobj, sf_no _ _ _ _ _ (by decide +kernel), _, rfl, H0, o, dx, y, wg, mt, kn, og, row, devs, L, Cs, Ss1, j, rfl, s1, ap, hY, hSr1, hC, hnd1, hsub1, by omega, fun H2 Ss2 s2 hSr2 le2 hnd2 hsub2 => ?_⟩
    exact ⟨_, rfl, _, _, rfl, rfl, Ss2, rfl, s2, hSr2, hnd2, hsub2⟩
  · exact k H1 Ss1 s1 hSr1 hnd1 hsub1

abbrev s_search_from : Stmt := top 35
theorem sc_search_from : FnScope ["yard", "row", "situation", "search"] ["yard", "row", "situation"] (defScope s_search_from) := ⟨rfl, rfl, rfl, by decide +kernel, rfl, by decide +kernel, by decide +kernel⟩
theorem bd_search_from : BindsAs "search_from" "search_from" s_search_from ["yard", "row", "situation"] := fun _ _ _ _ _ _ us hl => match us, hl with | [_, _, _], _ => rfl
def spFrom (P : Program) (w : World) (YC SC : Addr) : Sp := fun vs H Q _ => ∃ (y ra : Addr) (v : V) (row : List Int) (devs : List Dev) (L : List (Int × Int)) (Cs : List Sit) (S : Sit), vs = [.ref y, .ref ra, v] ∧ YardAt YC H y devs L ∧ H ra = some (.lst (row.map V.int)) ∧ Dt H v (dSit S) ∧ S ∈ Cs ∧ Shut devs L row Cs ∧
  ∀ (H' : Hp) (o dx wg mt kn og : Addr) (Ss' : List Sit), Same H H' → SrAt P w SC o dx y wg mt kn og row Ss' H' → (∀ S ∈ Ss', S ∈ Cs) → Ss'.length ≤ 1000 → Q (.ref o) H'
theorem ok_search_from {YC SC : Addr} (G : Glo mg) (Y : SCls K mg SC) (D : DefAt K mg "search_from" s_search_from) (k_init : KpI P w K mg base SC 2 ["self", "yard", "row", "situation"] (spSInit P w SC)) (k_finish : KpM P w K mg base SC "finish" 5 ["self"] (spFinish P w YC SC)) :
    Kp P w K mg base "search_from" 6 ["yard", "row", "situation"] (spFrom P w YC SC) := by
  refine kp_of D sc_search_from bd_search_from (fun vs H Q E ⟨_, _, _, _, _, _, _, _, h, _⟩ => by rw [h]; rfl) fun f cdv A outer s H vs Q E hr h => ?_
  obtain ⟨y, ra, v, row, devs, L, Cs, S, rfl, hY, hrow, hS, hSC, hC, k⟩ := h
  obtain ⟨fi, fdi, Fi, Mi, bi⟩ := k_init
  refine ⟨_, (pss_cons (ps_set (i := 3) sc_search_from.nd rfl (Or.inl rfl) (pe_make Mi Fi (hr.mono (by decide)) (by rfl) Y.mg_ bi .nil pass0 (pa_cons (pv 0) (pa_cons (pv 1) (pa_cons (pv 2) pa_nil)))))
    (pss_cons (ps_expr (pe_kpm0 k_finish hr Y.cl (pv 3)))
    (pss_one (ps_ret (pv 3))))), ?_⟩
  refine ⟨_, rfl, _, rfl, _, rfl, fun o dx ho hdx hne => ?_⟩
  have s1 : Same H (upd (upd H dx (.own o)) o (.ins SC dx [])) := Same.mut (Same.new hdx) ho
  refine ⟨H, o, dx, y, ra, v, row, S, rfl, s1, ho, upd_same, s1 _ _ hrow, hS.same s1, hC.nogoal S hSC, fun H2 wg mt kn og s2 ap hSr => ⟨rfl, ?_⟩⟩
  refine ⟨_, rfl, o, dx, _, rfl, hSr.obj, sf_no _ _ _ _ _ (by decide +kernel), H, o, dx, y, wg, mt, kn, og, row, devs, L, Cs, [S], rfl, s2, ap, hY, hSr, hC, List.nodup_cons.mpr ⟨List.not_mem_nil, List.nodup_nil⟩, fun T hT => by rw [List.mem_singleton.mp hT]; exact hSC, fun H3 Ss3 s3 hSr3 hnd3 hsub3 => ?_⟩
  exact ⟨_, rfl, k H3 o dx wg mt kn og Ss3 s3 hSr3 hsub3 (Nat.le_trans (nodup_sub_len hnd3 hsub3) hC.few)⟩

abbrev s_solve : Stmt := top 36
theorem sc_solve : FnScope ["yard", "row", "search"] ["yard", "row"] (defScope s_solve) := ⟨rfl, rfl, rfl, by decide +kernel, rfl, by decide +kernel, by decide +kernel⟩
theorem bd_solve : BindsAs "solve" "solve" s_solve ["yard", "row"] := fun _ _ _ _ _ _ us hl => match us, hl with | [_, _], _ => rfl
def spSolve (YC : Addr) (u : V) : Sp := fun vs H Q _ => ∃ (y ra : Addr) (row : List Int) (devs : List Dev) (L : List (Int × Int)) (Cs : List Sit), vs = [.ref y, .ref ra] ∧ YardAt YC H y devs L ∧ H ra = some (.lst (row.map V.int)) ∧ Shut devs L row Cs ∧ ∀ H' : Hp, Same H H' → Q u H'
theorem ok_solve {YC SC : Addr} (G : Glo mg) (Y : SCls K mg SC) (D : DefAt K mg "solve" s_solve) (k_search_from : Kp P w K mg base "search_from" 6 ["yard", "row", "situation"] (spFrom P w YC SC)) (k_first : Kp P w K mg base "first_situation" 3 ["yard", "row"] (spFirst YC)) :
    Kp P w K mg base "solve" 7 ["yard", "row"] (spSolve YC .non) := by
  refine kp_of D sc_solve bd_solve (fun vs H Q E ⟨_, _, _, _, _, _, h, _⟩ => by rw [h]; rfl) fun f cdv A outer s H vs Q E hr h => ?_
  obtain ⟨y, ra, row, devs, L, Cs, rfl, hY, hrow, hC, k⟩ := h
  refine ⟨_, (pss_cons (ps_set (i := 2) sc_solve.nd rfl (Or.inl rfl) (pe_kp k_search_from hr (by rfl) (pa_cons (pv 0) (pa_cons (pv 1) (pa_cons (pe_kp k_first (hr.mono (by decide)) (by rfl) (pa_cons (pv 0) (pa_cons (pv 1) pa_nil))) pa_nil)))))
    (pss_cons (ps_if (pt_truth (pe_fld (pv 2) rfl) (by intro _; rfl))
      (pss_one ps_never)
      pss_nil)
    (pss_one (ps_ret pe_non)))), ?_⟩
  refine ⟨_, rfl, _, rfl, _, rfl, _, rfl, y, ra, row, devs, L, rfl, hY, hC.devs_, hrow, hC.row_, fun v H1 s1 hv => ?_⟩
  refine ⟨y, ra, v, row, devs, L, Cs, _, rfl, hY.same s1, s1 _ _ hrow, hv, hC.start, hC, fun H2 o dx wg mt kn og Ss s2 hSr hsub _ => ?_⟩
  refine ⟨_, rfl, o, SC, dx, _, _, rfl, hSr.obj, Y.cl, Y.n6, fld_get (i := 5) (sf_keys _ _ _ _ _) rfl, false, rfl, iteF ?_⟩
  exact k _ (Same.trans s1 s2)

abbrev s_can_sort : Stmt := top 37
theorem sc_can_sort : FnScope ["yard", "row"] ["yard", "row"] (defScope s_can_sort) := ⟨rfl, rfl, rfl, by decide +kernel, rfl, by decide +kernel, by decide +kernel⟩
theorem bd_can_sort : BindsAs "can_sort" "can_sort" s_can_sort ["yard", "row"] := fun _ _ _ _ _ _ us hl => match us, hl with | [_, _], _ => rfl
theorem ok_can_sort {YC : Addr} (G : Glo mg) (D : DefAt K mg "can_sort" s_can_sort) (k_solve : Kp P w K mg base "solve" 7 ["yard", "row"] (spSolve YC .non)) : Kp P w K mg base "can_sort" 8 ["yard", "row"] (spSolve YC (.bl false)) := by
  refine kp_of D sc_can_sort bd_can_sort (fun vs H Q E ⟨_, _, _, _, _, _, h, _⟩ => by rw [h]; rfl) fun f cdv A outer s H vs Q E hr h => ?_
  obtain ⟨y, ra, row, devs, L, Cs, rfl, hY, hrow, hC, k⟩ := h
  refine ⟨_, (pss_one (ps_ret (pe_cmpR op_notN (pe_kp k_solve hr (by rfl) (pa_cons (pv 0) (pa_cons (pv 1) pa_nil))) pe_non (nomark _)))), ?_⟩
  exact ⟨_, rfl, _, rfl, y, ra, row, devs, L, Cs, rfl, hY, hrow, hC, fun H1 s1 => ⟨rfl, k _ s1⟩⟩

abbrev s_closed_list : Stmt := top 39
theorem sc_closed_list : FnScope ["yard", "row", "search"] ["yard", "row"] (defScope s_closed_list) := ⟨rfl, rfl, rfl, by decide +kernel, rfl, by decide +kernel, by decide +kernel⟩
theorem bd_closed_list : BindsAs "closed_list" "closed_list" s_closed_list ["yard", "row"] := fun _ _ _ _ _ _ us hl => match us, hl with | [_, _], _ => rfl
def spCList (YC : Addr) : Sp := fun vs H Q _ => ∃ (y ra : Addr) (row : List Int) (devs : List Dev) (L : List (Int × Int)) (Cs : List Sit), vs = [.ref y, .ref ra] ∧ YardAt YC H y devs L ∧ H ra = some (.lst (row.map V.int)) ∧ Shut devs L row Cs ∧
  ∀ (p : Addr) (ys : List V) (Ms : List Sit) (H' : Hp), Same H H' → H p = none → H' p = some (.lst ys) → DtAll H' ys (Ms.map dSit) → (∀ S ∈ Ms, S ∈ Cs) → Q (.ref p) H'
theorem ok_closed_list {YC SC : Addr} (G : Glo mg) (Y : SCls K mg SC) (D : DefAt K mg "closed_list" s_closed_list) (k_search_from : Kp P w K mg base "search_from" 6 ["yard", "row", "situation"] (spFrom P w YC SC)) (k_first : Kp P w K mg base "first_situation" 3 ["yard", "row"] (spFirst YC)) :
    Kp P w K mg base "closed_list" 7 ["yard", "row"] (spCList YC) := by
  refine kp_of D sc_closed_list bd_closed_list (fun vs H Q E ⟨_, _, _, _, _, _, h, _⟩ => by rw [h]; rfl) fun f cdv A outer s H vs Q E hr h => ?_
  obtain ⟨y, ra, row, devs, L, Cs, rfl, hY, hrow, hC, k⟩ := h
  have hu := hr.units
  refine ⟨_, (pss_cons (ps_set (i := 2) sc_closed_list.nd rfl (Or.inl rfl) (pe_kp k_search_from hr (by rfl) (pa_cons (pv 0) (pa_cons (pv 1) (pa_cons (pe_kp k_first (hr.mono (by decide)) (by rfl) (pa_cons (pv 0) (pa_cons (pv 1) pa_nil))) pa_nil)))))
    (pss_cons (ps_if (pt_truth (pe_fld (pv 2) rfl) (by intro _; rfl))
      (pss_one ps_never)
      pss_nil)
    (pss_one (ps_ret (pe_callB (cr_sortedDt hu) (by rfl) G.sorted (by decide +kernel) (pa_cons (pe_fld (pv 2) rfl) pa_nil)))))), ?_⟩
  refine ⟨_, rfl, _, rfl, _, rfl, _, rfl, y, ra, row, devs, L, rfl, hY, hC.devs_, hrow, hC.row_, fun v H1 s1 hv => ?_⟩
  refine ⟨y, ra, v, row, devs, L, Cs, _, rfl, hY.same s1, s1 _ _ hrow, hv, hC.start, hC, fun H2 o dx wg mt kn og Ss s2 hSr hsub hle => ?_⟩
  refine ⟨_, rfl, o, SC, dx, _, _, rfl, hSr.obj, Y.cl, Y.n6, fld_get (i := 5) (sf_keys _ _ _ _ _) rfl, false, rfl, iteF ?_⟩
  obtain ⟨hobj, hwag, ⟨vs, hmt, hvs⟩, hkno, os, hog, hol⟩ := id hSr
  refine ⟨_, rfl, o, SC, dx, _, _, rfl, hobj, Y.cl, Y.n3, fld_get (i := 2) (sf_keys _ _ _ _ _) rfl, ?_⟩
  dsimp only [tNil]
  refine sorted_maps alike_dSit sit_tuple dSit_depth hmt hvs fun ms us r pm hms hr' => ?_
  exact k r us ms _ (Same.trans s1 (Same.trans s2 (Same.new hr'))) (Same.free (Same.trans s1 s2) hr') upd_same (hms.same (Same.new hr')) fun T hT => hsub T (pm.mem_iff.mp hT)
end
end Ys
/-! closed.py: live_behind, is_gap, gap_from, first_gap, is_closed. -/
namespace Ys
open PySem PySem.Spec PyProof.Rows L2
section
variable {P : Program} {w : World} {K : PySem.W.Frag} {mg : Str → Option Value} {base : Heap}
theorem get_of_map {α β : Type} {f : α → β} {l : List α} {i : Nat} {d : β} (h : (l.map f)[i]? = some d) : ∃ x, l[i]? = some x ∧ d = f x := by
  rw [List.getElem?_map] at h
  cases e : l[i]? with
  | none => rw [e] at h; cases h
  | some x => rw [e] at h; exact ⟨x, rfl, (Option.some.inj h).symm⟩
abbrev s_live_behind : Stmt := top 40
theorem sc_live_behind : FnScope ["yard", "row", "situation", "behind", "move", "following"] ["yard", "row", "situation"] (defScope s_live_behind) := ⟨rfl, rfl, rfl, by decide +kernel, rfl, by decide +kernel, by decide +kernel⟩
theorem bd_live_behind : BindsAs "live_behind" "live_behind" s_live_behind ["yard", "row", "situation"] := fun _ _ _ _ _ _ us hl => match us, hl with | [_, _, _], _ => rfl
def spLB (C : Addr) : Sp := fun vs H Q _ => ∃ (y ra : Addr) (v : V) (row : List Int) (devs : List Dev) (L : List (Int × Int)) (S : Sit), vs = [.ref y, .ref ra, v] ∧ YardAt C H y devs L ∧ H ra = some (.lst (row.map V.int)) ∧ Dt H v (dSit S) ∧ Good devs row S ∧ row.length ≤ 1000 ∧ devs.length ≤ 1000 ∧
  LinksOk devs.length L ∧ L.length ≤ 1000 ∧ ∀ (p : Addr) (ys : List V) (Bs : List Sit) (H' : Hp), Same H H' → H p = none → H' p = some (.lst ys) → DtAll H' ys (Bs.map dSit) → (∀ B ∈ Bs, ∃ m ∈ moves L devs row.length S, B = after row S m ∧ Live B) → Q (.ref p) H'
theorem ok_live_behind {C : Addr} (G : Glo mg) (D : DefAt K mg "live_behind" s_live_behind) (k_possible : Kp P w K mg base "possible" 3 ["yard", "row", "situation"] (spMoves C)) (k_after : Kp P w K mg base "after" 2 ["row", "situation", "move"] spBehind)
    (k_is_live : Kp P w K mg base "is_live" 1 ["situation"] spLive) : Kp P w K mg base "live_behind" 4 ["yard", "row", "situation"] (spLB C) := by
  refine kp_of D sc_live_behind bd_live_behind (fun vs H Q E ⟨_, _, _, _, _, _, _, h, _⟩ => by rw [h]; rfl) fun f cdv A outer s H vs Q E hr h => ?_
  obtain ⟨y, ra, v, row, devs, L, S, rfl, hY, hrow, hS, hg, hrl, hdl, hL, hLl, k⟩ := h
  refine ⟨_, (pss_cons (ps_set (i := 3) sc_live_behind.nd rfl (Or.inl rfl) (pe_lst pa_nil))
    (pss_cons (ps_for PassesOwn.never rfl (pi_list (pe_kp k_possible hr (by rfl) (pa_cons (pv 0) (pa_cons (pv 1) (pa_cons (pv 2) pa_nil))))) (pg_name (i := 4) sc_live_behind.nd rfl (Or.inl rfl))
      (pss_cons (ps_set (i := 5) sc_live_behind.nd rfl (Or.inl rfl) (pe_kp k_after (hr.mono (by decide)) (by rfl) (pa_cons (pv 1) (pa_cons (pv 2) (pa_cons (pv 4) pa_nil)))))
      (pss_one (ps_if (pt_truth (pe_kp k_is_live (hr.mono (by decide)) (by rfl) (pa_cons (pv 5) pa_nil)) (by intro _; rfl))
        (pss_one (ps_expr (pe_bm PySem.F.plainAttrs_list PySem.F.slot_list_append PySem.F.type_list_append mt_append (pv 3) (pa_cons (pv 5) pa_nil))))
        pss_nil))))
    (pss_one (ps_ret (pv 3))))), ?_⟩
  have hsm := hg.sm hrl hdl
  refine ⟨Nat.zero_le _, fun l hl => ?_⟩
  have s0 : Same H (upd H l (.lst [])) := Same.new hl
  refine ⟨_, rfl, _, rfl, _, rfl, y, ra, v, row, devs, L, S, rfl, hY.same s0, s0 _ _ hrow, hS.same s0, hg.len, hg.came, hL, hLl, fun p ys ms H1 s1 f1 h1 hD1 pm => ?_⟩
  have npl : p ≠ l := fun z => by rw [z, upd_same] at f1; cases f1
  have hyl : ys.length = ms.length := by
    have := hD1.length
    rw [List.length_map] at this
    exact this
  have hml : ms.length ≤ 4000 := by
    have e := pm.length_eq
    have := moves_len L devs row.length S
    omega
  refine ⟨p, rfl, ⟨_, SqL.of h1⟩, for_list (K := K) (a := p) (xs := ys)
    (fun j σ H' => ∃ (bs : List V) (Bs : List Sit) (v4 v5 : Option V), σ = [some (.ref y), some (.ref ra), some v, some (.ref l), v4, v5] ∧ Same H H' ∧ H' l = some (.lst bs) ∧ DtAll H' bs (Bs.map dSit) ∧ bs.length ≤ j ∧ (∀ B ∈ Bs, ∃ m ∈ moves L devs row.length S, B = after row S m ∧ Live B) ∧ H' p = some (.lst ys) ∧ DtAll H' ys (ms.map dMv))
    ⟨[], [], _, _, rfl, Same.trans s0 s1, s1 _ _ upd_same, .nil, Nat.zero_le _, fun _ h => (List.not_mem_nil h).elim, h1, hD1⟩ (fun j σ H' _ ⟨_, _, _, _, _, _, _, _, _, _, z, _⟩ => SqL.of z) ?_ ?_⟩
  · rintro j x σ H2 hj ⟨bs, Bs, v4, v5, rfl, s2, h2, hD2, hle, hB, hp2, hm2⟩
    obtain ⟨dm, hdm, hxd⟩ := hm2.get' hj
    obtain ⟨m, hm, rfl⟩ := get_of_map hdm
    have hjl := lt_of_get hj
    have hmm : m ∈ moves L devs row.length S := pm.mem_iff.mp (List.mem_of_getElem? hm)
    have hok := mv_ok hL hmm
    refine ⟨_, rfl, _, rfl, _, rfl, v, x, ra, row, devs, S, m, rfl, s2 _ _ hrow, hS.same s2, hxd, hok, hg.len, hsm, fun u H3 s3 hu3 => ?_⟩
    have hsma := (good_after hg hok).sm hrl hdl
    refine ⟨_, rfl, u, after row S m, rfl, hu3, hsma.1, fun H4 s4 => ⟨_, rfl, iteD2 (fun c => ?_) (fun c => ?_)⟩⟩
    · have s24 := Same.trans s3 s4
      have h4 := s24 _ _ h2
      refine ⟨_, rfl, .inl ⟨rfl, _, SqL.of h4⟩, _, rfl, l, bs, u, rfl, rfl, h4, small (by omega), ?_⟩
      have t5 : Tups H4 (upd H4 l (.lst (bs ++ [u]))) := Tups.put h4 (fun _ z => nomatch z)
      refine ⟨bs ++ [u], Bs ++ [after row S m], _, _, rfl, Same.mut (Same.trans s2 s24) hl, upd_same, ?_, by rw [List.length_append, List.length_singleton]; omega, fun B hb => ?_, (upd_ne npl).trans (s24 _ _ hp2), (hm2.same s24).tups t5 _ _ (noLists_map noList_mv _)⟩
      · rw [List.map_append]
        exact DtAll.snoc ((hD2.same s24).sitsT t5) (Dt.tups t5 _ _ (noList_sit _) (hu3.same s4))
      · rcases List.mem_append.mp hb with hb | hb
        · exact hB B hb
        · rw [List.mem_singleton.mp hb]
          exact ⟨m, hmm, rfl, c⟩
    · have s24 := Same.trans s3 s4
      exact ⟨bs, Bs, _, _, rfl, Same.trans s2 s24, s24 _ _ h2, hD2.same s24, by omega, hB, s24 _ _ hp2, hm2.same s24⟩
  · rintro σ H2 ⟨bs, Bs, v4, v5, rfl, s2, h2, hD2, hle, hB, hp2, hm2⟩
    exact ⟨_, rfl, k l bs Bs H2 s2 hl h2 hD2 hB⟩

abbrev s_is_gap : Stmt := top 41
theorem sc_is_gap : FnScope ["yard", "row", "situation", "known", "following"] ["yard", "row", "situation", "known"] (defScope s_is_gap) := ⟨rfl, rfl, rfl, by decide +kernel, rfl, by decide +kernel, by decide +kernel⟩
theorem bd_is_gap : BindsAs "is_gap" "is_gap" s_is_gap ["yard", "row", "situation", "known"] := fun _ _ _ _ _ _ us hl => match us, hl with | [_, _, _, _], _ => rfl
def spGap (P : Program) (w : World) (C : Addr) : Sp := fun vs H Q _ => ∃ (y ra kn : Addr) (v : V) (row : List Int) (devs : List Dev) (L : List (Int × Int)) (S : Sit) (Ts : List Sit), vs = [.ref y, .ref ra, v, .ref kn] ∧ YardAt C H y devs L ∧ H ra = some (.lst (row.map V.int)) ∧ Dt H v (dSit S) ∧ Good devs row S ∧ Live S ∧ row.length ≤ 1000 ∧ devs.length ≤ 1000 ∧
  LinksOk devs.length L ∧ L.length ≤ 1000 ∧ DictN P w H kn Ts ∧ (∀ m ∈ moves L devs row.length S, Live (after row S m) → after row S m ∈ Ts) ∧ ∀ H' : Hp, Same H H' → Q (.bl (decide (S.gone.length = row.length))) H'
theorem ok_is_gap {C : Addr} (G : Glo mg) (D : DefAt K mg "is_gap" s_is_gap) (k_is_situation : Kp P w K mg base "is_situation" 3 ["yard", "row", "situation"] (spIsSit C)) (k_live_behind : Kp P w K mg base "live_behind" 4 ["yard", "row", "situation"] (spLB C))
    (k_is_live : Kp P w K mg base "is_live" 1 ["situation"] spLive) : Kp P w K mg base "is_gap" 5 ["yard", "row", "situation", "known"] (spGap P w C) := by
  refine kp_of D sc_is_gap bd_is_gap (fun vs H Q E ⟨_, _, _, _, _, _, _, _, _, h, _⟩ => by rw [h]; rfl) fun f cdv A outer s H vs Q E hr h => ?_
  obtain ⟨y, ra, kn, v, row, devs, L, S, Ts, rfl, hY, hrow, hS, hg, hlv, hrl, hdl, hL, hLl, hK, hcl, k⟩ := h
  have hu := hr.units
  refine ⟨_, (pss_cons (ps_if (PW.pt (pw_or (pt_not (pt_truth (pe_kp k_is_situation (hr.mono (by decide)) (by rfl) (pa_cons (pv 0) (pa_cons (pv 1) (pa_cons (pv 2) pa_nil)))) (by intro _; rfl))) (pw_or1 (pt_not (pt_truth (pe_kp k_is_live (hr.mono (by decide)) (by rfl) (pa_cons (pv 2) pa_nil)) (by intro _; rfl))))))
      (pss_one (ps_ret pe_bl))
      pss_nil)
    (pss_cons (ps_if (pt_cmpR op_eq (pe_callB call_len_seq (by rfl) G.len PySem.boot_len (pa_cons (pe_ix ix_tup (pv 2) pe_int (fun _ _ => rfl)) pa_nil)) (pe_callB call_len_seq (by rfl) G.len PySem.boot_len (pa_cons (pv 1) pa_nil)) (nomark _))
      (pss_one (ps_ret pe_bl))
      pss_nil)
    (pss_cons (ps_for PassesOwn.never rfl (pi_list (pe_kp k_live_behind hr (by rfl) (pa_cons (pv 0) (pa_cons (pv 1) (pa_cons (pv 2) pa_nil))))) (pg_name (i := 4) sc_is_gap.nd rfl (Or.inl rfl))
      (pss_one (ps_if (pt_cmpR (op_notInN hu) (pv 4) (pv 3) rfl)
        (pss_one ps_never)
        pss_nil)))
    (pss_one (ps_ret pe_bl))))), ?_⟩
  have hsm := hg.sm hrl hdl
  refine ⟨_, rfl, _, rfl, _, rfl, y, ra, v, row, devs, L, S, rfl, hY, hrow, hrl, hdl, hS, hg, fun H1 s1 => ⟨true, rfl, iteF ?_⟩⟩
  refine ⟨_, rfl, v, S, rfl, hS.same s1, hsm.1, fun H2 s2 => ⟨_, rfl, iteNF hlv ?_⟩⟩
  have s02 := Same.trans s1 s2
  obtain ⟨a, b, g, hs, rfl, ha, hb, hhs, hgn⟩ := sit_inv hS
  refine ⟨_, rfl, a, _, _, _, rfl, rfl, SqT.of (s02 _ _ ha), at_of (j := 2) rfl rfl, g, _, rfl, .inr (SqT.of (s02 _ _ hgn)), _, rfl, ra, _, rfl, .inl (SqL.of (s02 _ _ hrow)), rfl, _, rfl, iteD2 (fun c => ?_) (fun c => ?_)⟩
  · have c' : S.gone.length = row.length := by
      injection c with c
      rw [List.length_map, List.length_map] at c
      omega
    rw [decide_eq_true c'] at k
    exact k _ s02
  · have c' : ¬ S.gone.length = row.length := fun z => c (by rw [List.length_map, List.length_map, z])
    rw [decide_eq_false c'] at k
    refine ⟨_, rfl, _, rfl, _, rfl, y, ra, .ref a, row, devs, L, S, rfl, hY.same s02, s02 _ _ hrow, hS.same s02, hg, hrl, hdl, hL, hLl, fun p ys Bs H3 s3 f3 h3 hD3 hB => ?_⟩
    refine ⟨p, rfl, ⟨_, SqL.of h3⟩, for_list (K := K) (a := p) (xs := ys)
      (fun j σ H' => ∃ v4 : Option V, σ = [some (.ref y), some (.ref ra), some (.ref a), some (.ref kn), v4] ∧ H' = H3) ⟨_, rfl, rfl⟩ (fun j σ H' _ ⟨_, _, z⟩ => by rw [z]; exact SqL.of h3) ?_ ?_⟩
    · rintro j x σ H4 hj ⟨v4, rfl, rfl⟩
      obtain ⟨dB, hdB, hxd⟩ := hD3.get' hj
      obtain ⟨B, hBj, rfl⟩ := get_of_map hdB
      obtain ⟨m, hm, eB, lB⟩ := hB B (List.mem_of_getElem? hBj)
      obtain ⟨u, rfl⟩ := hxd.sit_ref
      have hin : B ∈ Ts := by
        rw [eB]
        exact hcl m hm (eB ▸ lB)
      refine ⟨_, rfl, _, rfl, kn, u, B, Ts, rfl, rfl, (hK.same s02).same s3, hxd, _, rfl, iteNF hin ?_⟩
      exact ⟨_, rfl, rfl⟩
    · rintro σ H4 ⟨v4, rfl, rfl⟩
      exact k _ (Same.trans s02 s3)

abbrev s_gap_from : Stmt := top 42
theorem sc_gap_from : FnScope ["yard", "row", "start", "situations", "situation", "known", "index"] ["yard", "row", "start", "situations"] (defScope s_gap_from) := ⟨rfl, rfl, rfl, by decide +kernel, rfl, by decide +kernel, by decide +kernel⟩
theorem bd_gap_from : BindsAs "gap_from" "gap_from" s_gap_from ["yard", "row", "start", "situations"] := fun _ _ _ _ _ _ us hl => match us, hl with | [_, _, _, _], _ => rfl
/-- a list of situations as the law gives it: good, live, closed, the start among them -/
structure Lst (devs : List Dev) (L : List (Int × Int)) (row : List Int) (Ss : List Sit) : Prop where
  good : ∀ S ∈ Ss, Good devs row S
  live : ∀ S ∈ Ss, Live S
  next : ∀ S ∈ Ss, ∀ m ∈ moves L devs row.length S, Live (after row S m) → after row S m ∈ Ss
  start : startS devs.length ∈ Ss
  few : Ss.length ≤ 1000
  row_ : Row row
  devs_ : devs.length ≤ 1000
  links : LinksOk devs.length L
  links_ : L.length ≤ 1000
def spGapFrom (C : Addr) : Sp := fun vs H Q _ => ∃ (y ra sl : Addr) (v : V) (row : List Int) (devs : List Dev) (L : List (Int × Int)) (xs : List V) (Ss : List Sit), vs = [.ref y, .ref ra, v, .ref sl] ∧ YardAt C H y devs L ∧ H ra = some (.lst (row.map V.int)) ∧ Dt H v (dSit (startS devs.length)) ∧
  H sl = some (.lst xs) ∧ DtAll H xs (Ss.map dSit) ∧ Lst devs L row Ss ∧ ∀ (H' : Hp) (u : V), Same H H' → ((u = .non ∧ ∀ S ∈ Ss, S.gone.length ≠ row.length) ∨ ((∃ n, u = .int n) ∧ ∃ S ∈ Ss, S.gone.length = row.length)) → Q u H'
theorem ok_gap_from {C : Addr} (G : Glo mg) (D : DefAt K mg "gap_from" s_gap_from) (k_is_gap : Kp P w K mg base "is_gap" 5 ["yard", "row", "situation", "known"] (spGap P w C)) : Kp P w K mg base "gap_from" 6 ["yard", "row", "start", "situations"] (spGapFrom C) := by
  refine kp_of D sc_gap_from bd_gap_from (fun vs H Q E ⟨_, _, _, _, _, _, _, _, _, h, _⟩ => by rw [h]; rfl) fun f cdv A outer s H vs Q E hr h => ?_
  obtain ⟨y, ra, sl, v, row, devs, L, xs, Ss, rfl, hY, hrow, hst, hsl, hxs, hL, k⟩ := h
  have hu := hr.units
  have hkn : (defScope s_gap_from).names.lookup ("known" : Str) = some .local := by decide +kernel
  refine ⟨_, (pss_cons (ps_setDcN (i := 5) rfl hu sc_gap_from.nd rfl hkn (swd_true rfl hkn (by decide +kernel) (by decide +kernel)) (pv 3) rfl (by decide +kernel) (by decide +kernel) (by decide +kernel) (by decide +kernel) (fun _ => rfl))
    (pss_cons (ps_for PassesOwn.never rfl (pi_enum (by rfl) G.enumerate (pa_cons (pv 3) pa_nil)) (pg_tup (by rfl) (pgs_cons (pg_name (i := 6) sc_gap_from.nd rfl (Or.inl rfl)) (pgs_cons (pg_name (i := 4) sc_gap_from.nd rfl (Or.inl rfl)) pgs_nil)))
      (pss_one (ps_if (pt_truth (pe_kp k_is_gap hr (by rfl) (pa_cons (pv 0) (pa_cons (pv 1) (pa_cons (pv 4) (pa_cons (pv 5) pa_nil))))) (by intro _; rfl))
        (pss_one (ps_ret (pv 6)))
        pss_nil)))
    (pss_cons (ps_if (pt_cmpR (op_notInN hu) (pv 2) (pv 5) rfl)
      (pss_one ps_never)
      pss_nil)
    (pss_one (ps_ret pe_non))))), ?_⟩
  obtain ⟨st, rfl⟩ := hst.sit_ref
  refine ⟨_, rfl, sl, xs, Ss, rfl, hsl, hxs, small' (by have := hL.few; omega), fun kn H1 Ts hkn e1 d1 hTs => ?_⟩
  have s1 : Same H H1 := fun c u e => by
    rw [e1 c (ne_of_none e hkn)]
    exact e
  have hxl : xs.length = Ss.length := by
    have := hxs.length
    rw [List.length_map] at this
    exact this
  refine ⟨_, rfl, sl, xs, rfl, SqL.of (s1 _ _ hsl), for_it walk_enum
    (fun i σ H' => ∃ v4 v6 : Option V, σ = [some (.ref y), some (.ref ra), some (.ref st), some (.ref sl), v4, some (.ref kn), v6] ∧ Same H1 H' ∧ ∀ S ∈ Ss.take i, S.gone.length ≠ row.length)
    ⟨_, _, rfl, fun _ _ e => e, fun _ z => (List.not_mem_nil z).elim⟩ (fun i σ H' _ ⟨_, _, _, z, _⟩ => SqL.of (z _ _ (s1 _ _ hsl))) ?_ ?_⟩
  · rintro i x σ H2 H3 hi ⟨v4, v6, rfl, s2, hno⟩ ⟨T, x0, x1, rfl, hT, rfl, e0, e1'⟩
    have e0' := Option.some.inj e0
    subst e0'
    have sT : Same H2 (upd H2 T (.tup [.int (i : Nat), x1])) := Same.new hT
    have s13 := Same.trans s2 sT
    have s03 := Same.trans s1 s13
    obtain ⟨dS, hdS, hxd⟩ := hxs.get' e1'
    obtain ⟨S, hSi, rfl⟩ := get_of_map hdS
    have hSm := List.mem_of_getElem? hSi
    refine ⟨T, _, rfl, SqT.of upd_same, rfl, _, _, rfl, _, _, rfl, rfl, ?_⟩
    refine ⟨_, rfl, _, rfl, _, rfl, _, rfl, y, ra, kn, x1, row, devs, L, S, Ts, rfl, hY.same s03, s03 _ _ hrow, hxd.same s03, hL.good S hSm, hL.live S hSm, by have := hL.row_.len; omega, hL.devs_, hL.links, hL.links_, d1.same s13, fun m hm lv => (hTs _).mpr (hL.next S hSm m hm lv), fun H4 s4 => ⟨_, rfl, iteD2 (fun c => ?_) (fun c => ?_)⟩⟩
    · exact ⟨_, rfl, k _ _ (Same.trans s03 s4) (.inr ⟨⟨_, rfl⟩, S, hSm, c⟩)⟩
    · refine ⟨_, _, rfl, Same.trans s13 s4, fun S' hS' => ?_⟩
      rw [List.take_add_one, hSi] at hS'
      rcases List.mem_append.mp hS' with h | h
      · exact hno S' h
      · rw [List.mem_singleton.mp h]
        exact c
  · rintro σ H2 ⟨v4, v6, rfl, s2, hno⟩
    rw [hxl, List.take_length] at hno
    have s02 := Same.trans s1 s2
    refine ⟨_, rfl, _, rfl, kn, st, _, Ts, rfl, rfl, d1.same s2, hst.same s02, _, rfl, iteNF ((hTs _).mpr hL.start) ?_⟩
    exact k _ _ s02 (.inl ⟨rfl, hno⟩)

abbrev s_first_gap : Stmt := top 43
theorem sc_first_gap : FnScope ["yard", "row", "situations"] ["yard", "row", "situations"] (defScope s_first_gap) := ⟨rfl, rfl, rfl, by decide +kernel, rfl, by decide +kernel, by decide +kernel⟩
theorem bd_first_gap : BindsAs "first_gap" "first_gap" s_first_gap ["yard", "row", "situations"] := fun _ _ _ _ _ _ us hl => match us, hl with | [_, _, _], _ => rfl
def spFGap (C : Addr) : Sp := fun vs H Q _ => ∃ (y ra sl : Addr) (row : List Int) (devs : List Dev) (L : List (Int × Int)) (xs : List V) (Ss : List Sit), vs = [.ref y, .ref ra, .ref sl] ∧ YardAt C H y devs L ∧ H ra = some (.lst (row.map V.int)) ∧
  H sl = some (.lst xs) ∧ DtAll H xs (Ss.map dSit) ∧ Lst devs L row Ss ∧ ∀ (H' : Hp) (u : V), Same H H' → ((u = .non ∧ ∀ S ∈ Ss, S.gone.length ≠ row.length) ∨ ((∃ n, u = .int n) ∧ ∃ S ∈ Ss, S.gone.length = row.length)) → Q u H'
theorem ok_first_gap {C : Addr} (G : Glo mg) (D : DefAt K mg "first_gap" s_first_gap) (k_gap_from : Kp P w K mg base "gap_from" 6 ["yard", "row", "start", "situations"] (spGapFrom C)) (k_first : Kp P w K mg base "first_situation" 3 ["yard", "row"] (spFirst C)) :
    Kp P w K mg base "first_gap" 7 ["yard", "row", "situations"] (spFGap C) := by
  refine kp_of D sc_first_gap bd_first_gap (fun vs H Q E ⟨_, _, _, _, _, _, _, _, h, _⟩ => by rw [h]; rfl) fun f cdv A outer s H vs Q E hr h => ?_
  obtain ⟨y, ra, sl, row, devs, L, xs, Ss, rfl, hY, hrow, hsl, hxs, hL, k⟩ := h
  refine ⟨_, (pss_one (ps_ret (pe_kp k_gap_from hr (by rfl) (pa_cons (pv 0) (pa_cons (pv 1) (pa_cons (pe_kp k_first (hr.mono (by decide)) (by rfl) (pa_cons (pv 0) (pa_cons (pv 1) pa_nil))) (pa_cons (pv 2) pa_nil))))))), ?_⟩
  refine ⟨_, rfl, _, rfl, _, rfl, _, rfl, y, ra, row, devs, L, rfl, hY, hL.devs_, hrow, hL.row_, fun v H1 s1 hv => ?_⟩
  exact ⟨_, rfl, y, ra, sl, v, row, devs, L, xs, Ss, rfl, hY.same s1, s1 _ _ hrow, hv, s1 _ _ hsl, hxs.same s1, hL, fun H2 u s2 hq => k H2 u (Same.trans s1 s2) hq⟩

abbrev s_is_closed : Stmt := top 44
theorem sc_is_closed : FnScope ["yard", "row", "situations"] ["yard", "row", "situations"] (defScope s_is_closed) := ⟨rfl, rfl, rfl, by decide +kernel, rfl, by decide +kernel, by decide +kernel⟩
theorem bd_is_closed : BindsAs "is_closed" "is_closed" s_is_closed ["yard", "row", "situations"] := fun _ _ _ _ _ _ us hl => match us, hl with | [_, _, _], _ => rfl
def spIsClosed (C : Addr) : Sp := fun vs H Q _ => ∃ (y ra sl : Addr) (row : List Int) (devs : List Dev) (L : List (Int × Int)) (xs : List V) (Ss : List Sit), vs = [.ref y, .ref ra, .ref sl] ∧ YardAt C H y devs L ∧ H ra = some (.lst (row.map V.int)) ∧
  H sl = some (.lst xs) ∧ DtAll H xs (Ss.map dSit) ∧ Lst devs L row Ss ∧ ∀ H' : Hp, Same H H' → Q (.bl (decide (∀ S ∈ Ss, S.gone.length ≠ row.length))) H'
theorem ok_is_closed {C : Addr} (G : Glo mg) (D : DefAt K mg "is_closed" s_is_closed) (k_first_gap : Kp P w K mg base "first_gap" 7 ["yard", "row", "situations"] (spFGap C)) : Kp P w K mg base "is_closed" 8 ["yard", "row", "situations"] (spIsClosed C) := by
  refine kp_of D sc_is_closed bd_is_closed (fun vs H Q E ⟨_, _, _, _, _, _, _, _, h, _⟩ => by rw [h]; rfl) fun f cdv A outer s H vs Q E hr h => ?_
  obtain ⟨y, ra, sl, row, devs, L, xs, Ss, rfl, hY, hrow, hsl, hxs, hL, k⟩ := h
  refine ⟨_, (pss_one (ps_ret (pe_cmpR op_isN (pe_kp k_first_gap hr (by rfl) (pa_cons (pv 0) (pa_cons (pv 1) (pa_cons (pv 2) pa_nil)))) pe_non (nomark _)))), ?_⟩
  refine ⟨_, rfl, _, rfl, _, rfl, y, ra, sl, row, devs, L, xs, Ss, rfl, hY, hrow, hsl, hxs, hL, fun H1 u s1 hq => ⟨rfl, ?_⟩⟩
  rcases hq with ⟨rfl, hno⟩ | ⟨⟨n, rfl⟩, S, hS, e⟩
  · rw [decide_eq_true hno] at k
    exact k _ s1
  · rw [decide_eq_false fun z => z S hS e] at k
    exact k _ s1
end
end Ys
/-! The reader, first part: what is read when the text of a tree is read (plain), how a Reading stands, Reading.sign, Group.__init__. -/
namespace Ys
open PySem PySem.Spec PyProof.Rows L2

/-! ### plain: what stands open while a text is read -/
inductive Fr where
  | L (par : Bool) (b : Tr)
  | R (par : Bool) (y : List Int × List Int)
def Fr.par : Fr → Bool
  | .L p _ => p
  | .R p _ => p
def Fr.wt : Fr → Nat
  | .L _ b => b.size
  | .R _ _ => 1
def Fr.pend : Fr → Nat
  | .L _ b => b.size
  | .R _ _ => 0
def wts : List Fr → Nat
  | [] => 0
  | f :: fs => f.wt + wts fs
def pends : List Fr → Nat
  | [] => 0
  | f :: fs => f.pend + pends fs
def restC : List Fr → List Nat
  | [] => []
  | .L par b :: fs => 32 :: (toldC b ++ cloC par :: restC fs)
  | .R par _ :: fs => cloC par :: restC fs
def yl2 (y : List Int × List Int) : Nat := y.1.length + y.2.length
def yls : List Fr → Nat
  | [] => 0
  | .L _ _ :: fs => yls fs
  | .R _ y :: fs => yl2 y + yls fs
theorem wts_len : ∀ fs : List Fr, fs.length ≤ wts fs
  | [] => Nat.le_refl _
  | .L p b :: fs => by
    have := wts_len fs
    have := b.size_pos
    simp only [List.length_cons, wts, Fr.wt]
    omega
  | .R p y :: fs => by
    have := wts_len fs
    simp only [List.length_cons, wts, Fr.wt]
    omega
def joinY (par : Bool) (y z : List Int × List Int) : List Int × List Int := if par = true then (y.1 ++ z.1, y.2 ++ z.2) else (y.1, z.2)
def joinL (par : Bool) (y z : List Int × List Int) : List (Int × Int) := if par = true then [] else cross y.2 z.1
def yOf (N : Net) : List Int × List Int := (N.ents, N.outs)
def ansC : List Fr → List Int × List Int → List Dev → List (Int × Int) → (List Int × List Int) × List Dev × List (Int × Int)
  | [], y, ds, Ls => (y, ds, Ls)
  | .L par b :: fs, y, ds, Ls => ansC fs (joinY par y (yOf (net b ds.length))) (ds ++ (net b ds.length).devs) (Ls ++ (net b ds.length).links ++ joinL par y (yOf (net b ds.length)))
  | .R par ya :: fs, y, ds, Ls => ansC fs (joinY par ya y) ds (Ls ++ joinL par ya y)
def ansF (t : Tr) (fs : List Fr) (ds : List Dev) (Ls : List (Int × Int)) : (List Int × List Int) × List Dev × List (Int × Int) :=
  ansC fs (yOf (net t ds.length)) (ds ++ (net t ds.length).devs) (Ls ++ (net t ds.length).links)
theorem ans_L0 (par : Bool) (b : Tr) (fs : List Fr) (y : List Int × List Int) (ds : List Dev) (Ls : List (Int × Int)) : ansC (.L par b :: fs) y ds Ls = ansC fs (joinY par y (yOf (net b ds.length))) (ds ++ (net b ds.length).devs) (Ls ++ (net b ds.length).links ++ joinL par y (yOf (net b ds.length))) := by
  rw [ansC]
theorem ans_node (par : Bool) (a b : Tr) (fs : List Fr) (ds : List Dev) (Ls : List (Int × Int)) : ansF (.node par a b) fs ds Ls = ansF a (.L par b :: fs) ds Ls := by
  have e : ((ds ++ (net a (ds.length : Int)).devs).length : Int) = (ds.length : Int) + ((net a (ds.length : Int)).devs.length : Int) := by
    rw [List.length_append]
    omega
  unfold ansF
  rw [ans_L0, e]
  cases par <;> simp [net, joinY, joinL, yOf, List.append_assoc]
theorem ans_L (par : Bool) (b : Tr) (fs : List Fr) (y : List Int × List Int) (ds : List Dev) (Ls : List (Int × Int)) : ansC (.L par b :: fs) y ds Ls = ansF b (.R par y :: fs) ds Ls := by
  unfold ansF
  rw [ansC, ansC]
theorem ans_R (par : Bool) (ya : List Int × List Int) (fs : List Fr) (y : List Int × List Int) (ds : List Dev) (Ls : List (Int × Int)) : ansC (.R par ya :: fs) y ds Ls = ansC fs (joinY par ya y) ds (Ls ++ joinL par ya y) := by
  rw [ansC]
theorem ans_dev (d : Dev) (fs : List Fr) (ds : List Dev) (Ls : List (Int × Int)) : ansF (.dev d) fs ds Ls = ansC fs ([(ds.length : Int)], [(ds.length : Int)]) (ds ++ [d]) Ls := by
  unfold ansF
  simp [net, yOf]

/-! ### texts cut -/
theorem cut_sign (T : List Nat) (p : Nat) : cutS (mk T) (some (p : Int)) (some ((p : Int) + 1)) = mk ((T.drop p).take 1) := by
  have e : ((p : Int) + 1) = ((p + 1 : Nat) : Int) := by omega
  unfold cutS
  rw [e, HT.sIx_nat, HT.sIx_nat, mk_len]
  have z : (mk T).cps.toList = T := by
    unfold mk
    simp
  rw [z]
  unfold mk
  congr 1
  by_cases h : p < T.length
  · rw [Nat.min_eq_left (by omega), Nat.min_eq_left (by omega)]
    congr 2
    omega
  · rw [Nat.min_eq_right (by omega), Nat.min_eq_right (by omega), List.drop_of_length_le (Nat.le_refl _), List.drop_of_length_le (by omega)]
    simp

/-! ### how a reading stands -/
def rf (T : Str) (p : Nat) (k b l g : Addr) : List (Str × V) := [("text", .str T), ("at", .int (p : Int)), ("kinds", .ref k), ("bounds", .ref b), ("links", .ref l), ("groups", .ref g)]
theorem rf_keys (T : Str) (p : Nat) (k b l g : Addr) : ((rf T p k b l g).map (·.1)).Nodup := by
  show ([("text" : Str), "at", "kinds", "bounds", "links", "groups"] : List Str).Nodup
  decide +kernel
theorem rf_no (T : Str) (p : Nat) (k b l g : Addr) {m : Str} (h : decide (m ∈ ([("text" : Str), "at", "kinds", "bounds", "links", "groups"] : List Str)) = false) : (rf T p k b l g).lookup m = none := no_f (ks := ["text", "at", "kinds", "bounds", "links", "groups"]) rfl h
theorem rf_at (T : Str) (p q : Nat) (k b l g : Addr) : putF "at" (V.int (q : Int)) (rf T p k b l g) = rf T q k b l g := by
  rw [fld_put (i := 1) (u := .int (p : Int)) (rf_keys T p k b l g) rfl]
  rfl
def gf (z : Str) (yl : Addr) : List (Str × V) := [("sign", .str z), ("yards", .ref yl)]
theorem gf_keys (z : Str) (yl : Addr) : ((gf z yl).map (·.1)).Nodup := by
  show ([("sign" : Str), "yards"] : List Str).Nodup
  decide +kernel
/-- a yard's ends: entries and exits -/
def YvAt (Hf : Hp) (v : V) (y : List Int × List Int) : Prop := ∃ p e o : Addr, v = .ref p ∧ Hf p = some (.tup [.ref e, .ref o]) ∧ Hf e = some (.lst (y.1.map V.int)) ∧ Hf o = some (.lst (y.2.map V.int))
theorem YvAt.same {H H' : Hp} (s : Same H H') {v : V} {y : List Int × List Int} (h : YvAt H v y) : YvAt H' v y := by
  obtain ⟨p, e, o, h1, h2, h3, h4⟩ := h
  exact ⟨p, e, o, h1, s _ _ h2, s _ _ h3, s _ _ h4⟩
def YlOk (Hf H : Hp) (yl : Addr) : Fr → Prop
  | .L _ _ => H yl = some (.lst [])
  | .R _ y => ∃ v, H yl = some (.lst [v]) ∧ YvAt Hf v y
theorem YlOk.some_ {Hf H : Hp} {yl : Addr} : ∀ {fr : Fr}, YlOk Hf H yl fr → ∃ xs, H yl = some (.lst xs)
  | .L _ _, h => ⟨_, h⟩
  | .R _ _, ⟨_, h, _⟩ => ⟨_, h⟩
theorem YlOk.keep {Hf Hf' H H' : Hp} {yl : Addr} (s : Same Hf Hf') (e : H' yl = H yl) : ∀ {fr : Fr}, YlOk Hf H yl fr → YlOk Hf' H' yl fr
  | .L _ _, h => e.trans h
  | .R _ _, ⟨v, h, h2⟩ => ⟨v, e.trans h, h2.same s⟩
def FrOk (GC : Addr) (Hf H : Hp) : List (Addr × Addr) → List Fr → Prop
  | [], [] => True
  | a :: as, fr :: fs => (∃ dx, Hf a.1 = some (.ins GC dx (gf (sgn fr.par) a.2))) ∧ YlOk Hf H a.2 fr ∧ FrOk GC Hf H as fs
  | _, _ => False
theorem FrOk.len {GC : Addr} {Hf H : Hp} : ∀ {as : List (Addr × Addr)} {fs : List Fr}, FrOk GC Hf H as fs → as.length = fs.length
  | [], [], _ => rfl
  | a :: as, fr :: fs, h => congrArg (· + 1) h.2.2.len
  | [], _ :: _, h => h.elim
  | _ :: _, [], h => h.elim
theorem FrOk.keep {GC : Addr} {Hf Hf' H H' : Hp} (s : Same Hf Hf') : ∀ {as : List (Addr × Addr)} {fs : List Fr}, (∀ a ∈ as, H' a.2 = H a.2) → FrOk GC Hf H as fs → FrOk GC Hf' H' as fs
  | [], [], _, h => h
  | a :: as, fr :: fs, e, ⟨⟨dx, h1⟩, h2, h3⟩ => ⟨⟨dx, s _ _ h1⟩, h2.keep s (e a (List.mem_cons_self ..)), FrOk.keep s (fun b hb => e b (List.mem_cons_of_mem _ hb)) h3⟩
  | [], _ :: _, _, h => h.elim
  | _ :: _, [], _, h => h.elim
theorem FrOk.known {GC : Addr} {Hf H : Hp} : ∀ {as : List (Addr × Addr)} {fs : List Fr}, FrOk GC Hf H as fs → ∀ a ∈ as, ∃ xs, H a.2 = some (.lst xs)
  | a :: as, fr :: fs, ⟨_, h2, h3⟩, b, hb => by
    rcases List.mem_cons.mp hb with e | hb
    · rw [e]
      exact h2.some_
    · exact h3.known b hb
  | [], _, _, b, hb => (List.not_mem_nil hb).elim

structure Rd (GC RC : Addr) (Hf : Hp) (o dx k b l g : Addr) (T : List Nat) (p : Nat) (xk xb : List V) (Ls : List (Int × Int)) (as : List (Addr × Addr)) (fs : List Fr) (H : Hp) : Prop where
  same : Same Hf H
  obj : H o = some (.ins RC dx (rf (mk T) p k b l g))
  hk : H k = some (.lst xk)
  hb : H b = some (.lst xb)
  hl : ∃ zs, H l = some (.lst zs) ∧ DtAll Hf zs (Ls.map dLink)
  hg : H g = some (.lst (as.reverse.map fun a => V.ref a.1))
  frs : FrOk GC Hf H as fs
  no : ∀ m ∈ o :: k :: b :: l :: g :: as.map (·.2), Hf m = none
  nd : (k :: b :: l :: g :: as.map (·.2)).Nodup
section
variable {GC RC : Addr} {Hf H H' : Hp} {o dx k b l g : Addr} {T : List Nat} {p : Nat} {xk xb : List V} {Ls : List (Int × Int)} {as : List (Addr × Addr)} {fs : List Fr}
theorem Rd.same' (r : Rd GC RC Hf o dx k b l g T p xk xb Ls as fs H) (s : Same H H') : Rd GC RC Hf o dx k b l g T p xk xb Ls as fs H' := by
  obtain ⟨h1, h2, h3, h4, ⟨zs, h5, h6⟩, h7, h8, h9, h10⟩ := r
  refine ⟨Same.trans h1 s, s _ _ h2, s _ _ h3, s _ _ h4, ⟨zs, s _ _ h5, h6⟩, s _ _ h7, h8.keep (fun _ _ e => e) (fun a ha => ?_), h9, h10⟩
  obtain ⟨xs, e⟩ := h8.known a ha
  rw [s _ _ e, e]
/-- something new that will not change -/
theorem Rd.grow (r : Rd GC RC Hf o dx k b l g T p xk xb Ls as fs H) {q : Addr} {x : HO} (hn : H q = none) : Rd GC RC (upd Hf q x) o dx k b l g T p xk xb Ls as fs (upd H q x) := by
  have s := Same.new (o := x) hn
  have hf : Hf q = none := Same.free r.same hn
  have sf := Same.new (o := x) hf
  have r' := r.same' s
  obtain ⟨h1, h2, h3, h4, ⟨zs, h5, h6⟩, h7, h8, h9, h10⟩ := r'
  refine ⟨fun c u e => ?_, h2, h3, h4, ⟨zs, h5, h6.same sf⟩, h7, h8.keep sf (fun _ _ => rfl), fun m hm => ?_, h10⟩
  · by_cases hc : c = q
    · subst hc
      rw [upd_same] at e
      rw [upd_same, e]
    · rw [upd_ne hc] at e
      rw [upd_ne hc]
      exact r.same c u e
  · have hmq : m ≠ q := by
      intro z
      have kn : ∃ u, H m = some u := by
        simp only [List.mem_cons] at hm
        rcases hm with e | e | e | e | e | e
        · rw [e]; exact ⟨_, r.obj⟩
        · rw [e]; exact ⟨_, r.hk⟩
        · rw [e]; exact ⟨_, r.hb⟩
        · rw [e]; obtain ⟨zs, e2, _⟩ := r.hl; exact ⟨_, e2⟩
        · rw [e]; exact ⟨_, r.hg⟩
        · obtain ⟨a, ha, e⟩ := List.mem_map.mp e
          obtain ⟨xs, e2⟩ := r.frs.known a ha
          rw [← e]
          exact ⟨_, e2⟩
      obtain ⟨u, hu⟩ := kn
      rw [z, hn] at hu
      cases hu
    rw [upd_ne hmq]
    exact h9 m hm
theorem Rd.ne_o (r : Rd GC RC Hf o dx k b l g T p xk xb Ls as fs H) : k ≠ o ∧ b ≠ o ∧ l ≠ o ∧ g ≠ o ∧ ∀ a ∈ as, a.2 ≠ o := by
  obtain ⟨zs, h5, _⟩ := r.hl
  refine ⟨ne_of r.hk r.obj (fun z => nomatch z), ne_of r.hb r.obj (fun z => nomatch z), ne_of h5 r.obj (fun z => nomatch z), ne_of r.hg r.obj (fun z => nomatch z), fun a ha => ?_⟩
  obtain ⟨xs, e⟩ := r.frs.known a ha
  exact ne_of e r.obj (fun z => nomatch z)
theorem Rd.ne_k (r : Rd GC RC Hf o dx k b l g T p xk xb Ls as fs H) : (k ≠ b ∧ k ≠ l ∧ k ≠ g ∧ ∀ a ∈ as, a.2 ≠ k) ∧ (b ≠ l ∧ b ≠ g ∧ ∀ a ∈ as, a.2 ≠ b) ∧ (l ≠ g ∧ ∀ a ∈ as, a.2 ≠ l) ∧ (∀ a ∈ as, a.2 ≠ g) ∧ (as.map (·.2)).Nodup := by
  have h := r.nd
  simp only [List.nodup_cons, List.mem_cons, not_or] at h
  obtain ⟨⟨h1, h2, h3, h4⟩, ⟨h5, h6, h7⟩, ⟨h8, h9⟩, h10, h11⟩ := h
  have f : ∀ {m : Addr}, m ∉ as.map (·.2) → ∀ a ∈ as, a.2 ≠ m := fun hm a ha e => hm (List.mem_map.mpr ⟨a, ha, e⟩)
  exact ⟨⟨h1, h2, h3, f h4⟩, ⟨h5, h6, f h7⟩, ⟨h8, f h9⟩, f h10, h11⟩
theorem Rd.at_ (r : Rd GC RC Hf o dx k b l g T p xk xb Ls as fs H) (q : Nat) : Rd GC RC Hf o dx k b l g T q xk xb Ls as fs (upd H o (.ins RC dx (rf (Ys.mk T) q k b l g))) := by
  obtain ⟨n1, n2, n3, n4, n5⟩ := r.ne_o
  obtain ⟨h1, h2, h3, h4, ⟨zs, h5, h6⟩, h7, h8, h9, h10⟩ := r
  exact ⟨Same.mut h1 (h9 o (List.mem_cons_self ..)), upd_same, (upd_ne n1).trans h3, (upd_ne n2).trans h4, ⟨zs, (upd_ne n3).trans h5, h6⟩, (upd_ne n4).trans h7, h8.keep (fun _ _ e => e) (fun a ha => upd_ne (n5 a ha)), h9, h10⟩
theorem Rd.setK (r : Rd GC RC Hf o dx k b l g T p xk xb Ls as fs H) (ys : List V) : Rd GC RC Hf o dx k b l g T p ys xb Ls as fs (upd H k (.lst ys)) := by
  obtain ⟨n1, _⟩ := r.ne_o
  obtain ⟨⟨m1, m2, m3, m4⟩, _⟩ := r.ne_k
  obtain ⟨h1, h2, h3, h4, ⟨zs, h5, h6⟩, h7, h8, h9, h10⟩ := r
  exact ⟨Same.mut h1 (h9 k (by simp)), (upd_ne n1.symm).trans h2, upd_same, (upd_ne m1.symm).trans h4, ⟨zs, (upd_ne m2.symm).trans h5, h6⟩, (upd_ne m3.symm).trans h7, h8.keep (fun _ _ e => e) (fun a ha => upd_ne (m4 a ha)), h9, h10⟩
theorem Rd.setB (r : Rd GC RC Hf o dx k b l g T p xk xb Ls as fs H) (ys : List V) : Rd GC RC Hf o dx k b l g T p xk ys Ls as fs (upd H b (.lst ys)) := by
  obtain ⟨_, n1, _⟩ := r.ne_o
  obtain ⟨⟨m0, _⟩, ⟨m2, m3, m4⟩, _⟩ := r.ne_k
  obtain ⟨h1, h2, h3, h4, ⟨zs, h5, h6⟩, h7, h8, h9, h10⟩ := r
  exact ⟨Same.mut h1 (h9 b (by simp)), (upd_ne n1.symm).trans h2, (upd_ne m0).trans h3, upd_same, ⟨zs, (upd_ne m2.symm).trans h5, h6⟩, (upd_ne m3.symm).trans h7, h8.keep (fun _ _ e => e) (fun a ha => upd_ne (m4 a ha)), h9, h10⟩
theorem Rd.setL (r : Rd GC RC Hf o dx k b l g T p xk xb Ls as fs H) {zs : List V} {Ls' : List (Int × Int)} (hz : DtAll Hf zs (Ls'.map dLink)) : Rd GC RC Hf o dx k b l g T p xk xb Ls' as fs (upd H l (.lst zs)) := by
  obtain ⟨_, _, n1, _⟩ := r.ne_o
  obtain ⟨⟨m0, m1, _⟩, ⟨m2, _⟩, ⟨m3, m4⟩, _⟩ := r.ne_k
  obtain ⟨h1, h2, h3, h4, ⟨zs', h5, h6⟩, h7, h8, h9, h10⟩ := r
  exact ⟨Same.mut h1 (h9 l (by simp)), (upd_ne n1.symm).trans h2, (upd_ne m1).trans h3, (upd_ne m2).trans h4, ⟨zs, upd_same, hz⟩, (upd_ne m3.symm).trans h7, h8.keep (fun _ _ e => e) (fun a ha => upd_ne (m4 a ha)), h9, h10⟩
/-- a group pushed -/
theorem Rd.push (r : Rd GC RC Hf o dx k b l g T p xk xb Ls as fs H) {H2 : Hp} {a yl dg : Addr} {par : Bool} {bt : Tr} (s : Same H H2) (ha : H a = none) (hy : H yl = none) (h2a : H2 a = some (.ins GC dg (gf (sgn par) yl))) (h2y : H2 yl = some (.lst [])) :
    Rd GC RC (upd Hf a (.ins GC dg (gf (sgn par) yl))) o dx k b l g T p xk xb Ls ((a, yl) :: as) (.L par bt :: fs) (upd H2 g (.lst (as.reverse.map (fun a => V.ref a.1) ++ [.ref a]))) := by
  have hfa : Hf a = none := Same.free r.same ha
  have hfy : Hf yl = none := Same.free r.same hy
  have nay : yl ≠ a := ne_of h2y h2a (fun z => nomatch z)
  have sf := Same.new (o := .ins GC dg (gf (sgn par) yl)) hfa
  have r2 := r.same' s
  obtain ⟨_, _, _, n4, _⟩ := r2.ne_o
  obtain ⟨⟨m1, m2, m3, m4⟩, ⟨m5, m6, m7⟩, ⟨m8, m9⟩, m10, m11⟩ := r2.ne_k
  have kn : ∀ m ∈ o :: k :: b :: l :: g :: as.map (·.2), ∃ u, H m = some u := by
    intro m hm
    simp only [List.mem_cons] at hm
    rcases hm with e | e | e | e | e | e
    · rw [e]; exact ⟨_, r.obj⟩
    · rw [e]; exact ⟨_, r.hk⟩
    · rw [e]; exact ⟨_, r.hb⟩
    · rw [e]; obtain ⟨zs, e2, _⟩ := r.hl; exact ⟨_, e2⟩
    · rw [e]; exact ⟨_, r.hg⟩
    · obtain ⟨a, ha, e⟩ := List.mem_map.mp e
      obtain ⟨xs, e2⟩ := r.frs.known a ha
      rw [← e]
      exact ⟨_, e2⟩
  have nq : ∀ {q : Addr}, H q = none → ∀ m ∈ o :: k :: b :: l :: g :: as.map (·.2), m ≠ q := fun {q} hq m hm e => by
    obtain ⟨u, hu⟩ := kn m hm
    rw [e, hq] at hu
    cases hu
  have nyg : yl ≠ g := (nq hy g (by simp)).symm
  obtain ⟨h1, h2, h3, h4, ⟨zs, h5, h6⟩, h7, h8, h9, h10⟩ := r2
  refine ⟨fun c u e => ?_, (upd_ne n4.symm).trans h2, (upd_ne m3).trans h3, (upd_ne m6).trans h4, ⟨zs, (upd_ne m8).trans h5, h6.same sf⟩, ?_, ⟨⟨dg, upd_same⟩, (upd_ne nyg).trans h2y, h8.keep sf fun c hc => upd_ne (m10 c hc)⟩, fun m hm => ?_, ?_⟩
  · by_cases hc : c = a
    · subst hc
      rw [upd_same] at e
      rw [upd_ne (nq ha g (by simp)).symm, h2a, e]
    · rw [upd_ne hc] at e
      exact Same.mut h1 (h9 g (by simp)) c u e
  · rw [upd_same, List.reverse_cons, List.map_append]
    rfl
  · have hm' : m = yl ∨ m ∈ o :: k :: b :: l :: g :: as.map (·.2) := by
      simp only [List.map_cons, List.mem_cons] at hm ⊢
      rcases hm with e | e | e | e | e | e | e
      · exact .inr (.inl e)
      · exact .inr (.inr (.inl e))
      · exact .inr (.inr (.inr (.inl e)))
      · exact .inr (.inr (.inr (.inr (.inl e))))
      · exact .inr (.inr (.inr (.inr (.inr (.inl e)))))
      · exact .inl e
      · exact .inr (.inr (.inr (.inr (.inr (.inr e)))))
    rcases hm' with e | e
    · rw [e, upd_ne nay]
      exact hfy
    · rw [upd_ne (nq ha m e)]
      exact h9 m e
  · have ny : ∀ m ∈ o :: k :: b :: l :: g :: as.map (·.2), m ≠ yl := nq hy
    have z : yl ∉ as.map (·.2) := fun hm => ny yl (by simp [hm]) rfl
    simp only [List.nodup_cons, List.mem_cons, not_or, List.map_cons] at h10 ⊢
    obtain ⟨⟨q1, q2, q3, q4⟩, ⟨q5, q6, q7⟩, ⟨q8, q9⟩, q10, q11⟩ := h10
    exact ⟨⟨q1, q2, q3, ny k (by simp), q4⟩, ⟨q5, q6, ny b (by simp), q7⟩, ⟨q8, ny l (by simp), q9⟩, ⟨ny g (by simp), q10⟩, z, q11⟩
/-- the last group's list takes a yard -/
theorem Rd.give {par : Bool} {bt : Tr} {y : List Int × List Int} {v : V} {a : Addr × Addr} (r : Rd GC RC Hf o dx k b l g T p xk xb Ls (a :: as) (.L par bt :: fs) H) (hv : YvAt Hf v y) : Rd GC RC Hf o dx k b l g T p xk xb Ls (a :: as) (.R par y :: fs) (upd H a.2 (.lst [v])) := by
  obtain ⟨n1, n2, n3, n4, n5⟩ := r.ne_o
  obtain ⟨⟨m1, m2, m3, m4⟩, ⟨m5, m6, m7⟩, ⟨m8, m9⟩, m10, m11⟩ := r.ne_k
  obtain ⟨h1, h2, h3, h4, ⟨zs, h5, h6⟩, h7, ⟨h8, h8a, h8b⟩, h9, h10⟩ := r
  have ma : a ∈ a :: as := List.mem_cons_self ..
  obtain ⟨q1, q2⟩ := List.nodup_cons.mp m11
  exact ⟨Same.mut h1 (h9 a.2 (by simp)), (upd_ne (n5 a ma).symm).trans h2, (upd_ne (m4 a ma).symm).trans h3, (upd_ne (m7 a ma).symm).trans h4, ⟨zs, (upd_ne (m9 a ma).symm).trans h5, h6⟩, (upd_ne (m10 a ma).symm).trans h7,
    ⟨h8, ⟨v, upd_same, hv⟩, h8b.keep (fun _ _ e => e) fun c hc => upd_ne fun e => q1 (List.mem_map.mpr ⟨c, hc, e⟩)⟩, h9, h10⟩
/-- the last group goes -/
theorem Rd.drop {fr : Fr} {a : Addr × Addr} {ws : List V} (r : Rd GC RC Hf o dx k b l g T p xk xb Ls (a :: as) (fr :: fs) H) : Rd GC RC Hf o dx k b l g T p xk xb Ls as fs (upd (upd H a.2 (.lst ws)) g (.lst (as.reverse.map fun a => V.ref a.1))) ∧ a.2 ≠ l ∧ a.2 ≠ g ∧ Hf a.2 = none ∧ a.2 ≠ o := by
  obtain ⟨n1, n2, n3, n4, n5⟩ := r.ne_o
  obtain ⟨⟨m1, m2, m3, m4⟩, ⟨m5, m6, m7⟩, ⟨m8, m9⟩, m10, m11⟩ := r.ne_k
  obtain ⟨h1, h2, h3, h4, ⟨zs, h5, h6⟩, h7, ⟨h8, h8a, h8b⟩, h9, h10⟩ := r
  have ma : a ∈ a :: as := List.mem_cons_self ..
  obtain ⟨q1, q2⟩ := List.nodup_cons.mp m11
  refine ⟨⟨Same.mut (Same.mut h1 (h9 a.2 (by simp))) (h9 g (by simp)), (upd_ne n4.symm).trans ((upd_ne (n5 a ma).symm).trans h2), (upd_ne m3).trans ((upd_ne (m4 a ma).symm).trans h3), (upd_ne m6).trans ((upd_ne (m7 a ma).symm).trans h4), ⟨zs, (upd_ne m8).trans ((upd_ne (m9 a ma).symm).trans h5), h6⟩, upd_same,
    h8b.keep (fun _ _ e => e) fun c hc => (upd_ne (m10 c (List.mem_cons_of_mem _ hc))).trans (upd_ne fun e => q1 (List.mem_map.mpr ⟨c, hc, e⟩)), fun m hm => h9 m ?_, ?_⟩, m9 a ma, m10 a ma, h9 a.2 (by simp), n5 a ma⟩
  · simp only [List.map_cons, List.mem_cons] at hm ⊢
    rcases hm with e | e | e | e | e | e
    · exact .inl e
    · exact .inr (.inl e)
    · exact .inr (.inr (.inl e))
    · exact .inr (.inr (.inr (.inl e)))
    · exact .inr (.inr (.inr (.inr (.inl e))))
    · exact .inr (.inr (.inr (.inr (.inr (.inr e)))))
  · simp only [List.nodup_cons, List.mem_cons, not_or, List.map_cons] at h10 ⊢
    obtain ⟨⟨q1, q2, q3, _, q4⟩, ⟨q5, q6, _, q7⟩, ⟨q8, _, q9⟩, ⟨_, q10⟩, _, q11⟩ := h10
    exact ⟨⟨q1, q2, q3, q4⟩, ⟨q5, q6, q7⟩, ⟨q8, q9⟩, q10, q11⟩
end
end Ys
/-! The reader, second part: Reading.sign, Group.__init__, Reading.device, Reading.first_device. -/
namespace Ys
open PySem PySem.Spec PyProof.Rows L2
structure RCls (K : PySem.W.Frag) (mg : Str → Option Value) (RC GC : Addr) : Prop where
  cl : Cls K RC
  nT : NoAttr K RC "text"
  nA : NoAttr K RC "at"
  nK : NoAttr K RC "kinds"
  nB : NoAttr K RC "bounds"
  nL : NoAttr K RC "links"
  nG : NoAttr K RC "groups"
  mgR : mg "Reading" = some (.ref RC)
  gcl : Cls K GC
  gS : NoAttr K GC "sign"
  gY : NoAttr K GC "yards"
  mgG : mg "Group" = some (.ref GC)
theorem take1 {T : List Nat} {p c : Nat} {r : List Nat} (h : T.drop p = c :: r) : (T.drop p).take 1 = [c] := by
  rw [h]
  rfl
theorem drop1 {T : List Nat} {p c : Nat} {r : List Nat} (h : T.drop p = c :: r) : T.drop (p + 1) = r := by
  rw [← List.drop_drop, h]
  rfl
theorem str_ne (c : Nat) (r : List Nat) : ¬ V.str (mk (c :: r)) = V.str "" := by
  intro z
  injection z with z
  have e : ("" : Str) = mk [] := by decide +kernel
  rw [e] at z
  cases mk_inj z
theorem str_nil : V.str (mk []) = V.str "" := by
  have e : ("" : Str) = mk [] := by decide +kernel
  rw [e]
theorem rest_head (fs : List Fr) : restC fs = [] ∨ ∃ c r, restC fs = c :: r ∧ (c = 32 ∨ c = 41 ∨ c = 93) := by
  cases fs with
  | nil => exact .inl rfl
  | cons f fs =>
    cases f with
    | L par b => exact .inr ⟨_, _, rfl, .inl rfl⟩
    | R par y => exact .inr ⟨_, _, rfl, by cases par <;> simp [cloC]⟩
theorem notB {c : Nat} (h : c = 32 ∨ c = 41 ∨ c = 93) : ¬ c ∈ (Str.ofString "123456").cps.toList := by
  rcases h with rfl | rfl | rfl <;> decide +kernel
theorem inB {b : Nat} (h0 : ¬ b = 0) (h : b ≤ 4) : 48 + b ∈ (Str.ofString "123456").cps.toList := by
  match b, h0, h with
  | 0, h0, _ => exact absurd rfl h0
  | 1, _, _ => decide +kernel
  | 2, _, _ => decide +kernel
  | 3, _, _ => decide +kernel
  | 4, _, _ => decide +kernel
  | n + 5, _, h => omega
theorem intB {b : Nat} (h0 : ¬ b = 0) (h : b ≤ 4) : PySem.intText? (mk [48 + b]) = some (b : Int) := by
  match b, h0, h with
  | 0, h0, _ => exact absurd rfl h0
  | 1, _, _ => decide +kernel
  | 2, _, _ => decide +kernel
  | 3, _, _ => decide +kernel
  | 4, _, _ => decide +kernel
  | n + 5, _, h => omega
theorem inK (l : Ltr) : l.code ∈ (Str.ofString "sqdio").cps.toList := by cases l <;> decide +kernel
section
variable {P : Program} {w : World} {K : PySem.W.Frag} {mg : Str → Option Value} {base : Heap}
abbrev s_sign : Stmt := inClass (top 20) 1
theorem sc_sign : FnScope ["self"] ["self"] (defScope s_sign) := ⟨rfl, rfl, rfl, by decide +kernel, rfl, by decide +kernel, by decide +kernel⟩
theorem bd_sign : BindsAs "sign" "Reading.sign" s_sign ["self"] := fun _ _ _ _ _ _ us hl => match us, hl with | [_], _ => rfl
def spSign (RC : Addr) : Sp := fun vs H Q _ => ∃ (o dx k b l g : Addr) (T : List Nat) (p : Nat), vs = [.ref o] ∧ H o = some (.ins RC dx (rf (mk T) p k b l g)) ∧ T.length ≤ 1000 ∧ Q (.str (mk ((T.drop p).take 1))) H
theorem ok_sign {RC GC : Addr} (R : RCls K mg RC GC) (D : MethAt K RC "sign" "Reading.sign" s_sign) : KpM P w K mg base RC "sign" 1 ["self"] (spSign RC) := by
  refine kpm_of D sc_sign bd_sign (fun vs H Q E ⟨_, _, _, _, _, _, _, _, h, _⟩ => by rw [h]; rfl) fun f cdv A outer s H vs Q E hr h => ?_
  obtain ⟨o, dx, k, b, l, g, T, p, rfl, ho, hT, kq⟩ := h
  refine ⟨_, (pss_one (ps_ret (pe_slice sl_str (pe_fld (pv 0) rfl) (po_some (pe_fld (pv 0) rfl)) (po_some (pe_op op_add (pe_fld (pv 0) rfl) pe_int))))), ?_⟩
  refine ⟨_, rfl, o, RC, dx, _, _, rfl, ho, R.cl, R.nT, fld_get (i := 0) (rf_keys _ _ _ _ _ _) rfl, _, rfl, o, RC, dx, _, _, rfl, ho, R.cl, R.nA, fld_get (i := 1) (rf_keys _ _ _ _ _ _) rfl, _, rfl,
    _, rfl, o, RC, dx, _, _, rfl, ho, R.cl, R.nA, fld_get (i := 1) (rf_keys _ _ _ _ _ _) rfl, _, _, rfl, rfl, _, rfl, mk T, rfl, ?_, ?_⟩
  · rw [mk_len]
    exact small' (by omega)
  · rw [cut_sign]
    exact kq

abbrev s_ginit : Stmt := inClass (top 19) 0
theorem sc_ginit : FnScope ["self", "sign"] ["self", "sign"] (defScope s_ginit) := ⟨rfl, rfl, rfl, by decide +kernel, rfl, by decide +kernel, by decide +kernel⟩
theorem bd_ginit : BindsAs "__init__" "Group.__init__" s_ginit ["self", "sign"] := fun _ _ _ _ _ _ us hl => match us, hl with | [_, _], _ => rfl
def spGInit (GC : Addr) : Sp := fun vs H Q _ => ∃ (H0 : Hp) (a dx : Addr) (z : Str), vs = [.ref a, .str z] ∧ Same H0 H ∧ H0 a = none ∧ H a = some (.ins GC dx []) ∧
  ∀ (H' : Hp) (yl : Addr), Same H0 H' → H0 yl = none → H' a = some (.ins GC dx (gf z yl)) → H' yl = some (.lst []) → Q .non H'
theorem ok_ginit {RC GC : Addr} (R : RCls K mg RC GC) (D : InitAt K GC "Group.__init__" s_ginit) : KpI P w K mg base GC 1 ["self", "sign"] (spGInit GC) := by
  refine kpi_of D sc_ginit bd_ginit (fun vs H Q E ⟨_, _, _, _, h, _⟩ => by rw [h]; rfl) fun f cdv A outer s H vs Q E hr h => ?_
  obtain ⟨H0, a, dx, z, rfl, s0, n0, ha, kq⟩ := h
  refine ⟨_, (pss_cons (ps_fld (pv 0) (pv 1) rfl)
    (pss_one (ps_fld (pv 0) (pe_lst pa_nil) rfl))), ?_⟩
  refine ⟨_, rfl, _, rfl, a, GC, dx, _, rfl, ha, R.gcl, R.gS, lt1000 (n := 0) rfl rfl, ?_⟩
  have s1 : Same H0 (upd H a (.ins GC dx [("sign", .str z)])) := Same.mut s0 n0
  refine ⟨Nat.zero_le _, fun yl hy => ?_⟩
  have nya : yl ≠ a := fun e => by rw [e, upd_same] at hy; cases hy
  have s2 := Same.new (o := .lst []) hy
  refine ⟨_, rfl, a, GC, dx, _, rfl, s2 _ _ upd_same, R.gcl, R.gY, lt1000 (n := 1) rfl rfl, ?_⟩
  rw [show putF ("yards" : Str) (V.ref yl) (putF ("sign" : Str) (V.str z) []) = gf z yl from add_f (fs := [(("sign" : Str), V.str z)]) (ks := ["sign"]) rfl (by decide +kernel)]
  exact kq _ yl (Same.mut (Same.trans s1 s2) n0) (Same.free s1 hy) upd_same ((upd_ne nya).trans upd_same)

abbrev s_device : Stmt := inClass (top 20) 3
theorem sc_device : FnScope ["self", "number", "bound"] ["self"] (defScope s_device) := ⟨rfl, rfl, rfl, by decide +kernel, rfl, by decide +kernel, by decide +kernel⟩
theorem bd_device : BindsAs "device" "Reading.device" s_device ["self"] := fun _ _ _ _ _ _ us hl => match us, hl with | [_], _ => rfl
def spDevice (GC RC : Addr) : Sp := fun vs H Q _ => ∃ (Hf : Hp) (o dx k b l g : Addr) (T : List Nat) (p : Nat) (xk xb : List V) (Ls : List (Int × Int)) (as : List (Addr × Addr)) (fs : List Fr) (d : Dev), vs = [.ref o] ∧ Rd GC RC Hf o dx k b l g T p xk xb Ls as fs H ∧ T.length ≤ 1000 ∧ xk.length ≤ 7 ∧ xb.length ≤ 100 ∧ d.bound ≤ 4 ∧
  T.drop p = toldC (.dev d) ++ restC fs ∧ ∀ (H' Hf' : Hp) (v : V), Rd GC RC Hf' o dx k b l g T (p + (toldC (.dev d)).length) (xk ++ [.str d.ltr.txt]) (xb ++ [bndV d]) Ls as fs H' → Same Hf Hf' → YvAt Hf' v ([(xk.length : Int)], [(xk.length : Int)]) → Q v H'
theorem ok_device {RC GC : Addr} (G : Glo mg) (R : RCls K mg RC GC) (D : MethAt K RC "device" "Reading.device" s_device) (k_sign : KpM P w K mg base RC "sign" 1 ["self"] (spSign RC)) : KpM P w K mg base RC "device" 2 ["self"] (spDevice GC RC) := by
  refine kpm_of D sc_device bd_device (fun vs H Q E ⟨_, _, _, _, _, _, _, _, _, _, _, _, _, _, _, h, _⟩ => by rw [h]; rfl) fun f cdv A outer s H vs Q E hr h => ?_
  obtain ⟨Hf, o, dx, k, b, l, g, T, p, xk, xb, Ls, as, fs, d, rfl, r, hT, hxk, hxb, hd, hdrop, kq⟩ := h
  obtain ⟨tM, gM⟩ := G.mostYards
  obtain ⟨tB, gB⟩ := G.bounds
  refine ⟨_, (pss_cons (ps_if (pt_cmpR op_eq (pe_callB call_len_seq (by rfl) G.len PySem.boot_len (pa_cons (pe_fld (pv 0) rfl) pa_nil)) (pe_glob (v := .int 8) (by rfl) gM ⟨_, rfl⟩) (nomark _))
      (pss_one ps_never)
      pss_nil)
    (pss_cons (ps_set (i := 1) sc_device.nd rfl (Or.inl rfl) (pe_callB call_len_seq (by rfl) G.len PySem.boot_len (pa_cons (pe_fld (pv 0) rfl) pa_nil)))
    (pss_cons (ps_expr (pe_bm PySem.F.plainAttrs_list PySem.F.slot_list_append PySem.F.type_list_append mt_append (pe_fld (pv 0) rfl) (pa_cons (pe_kpm0 k_sign hr R.cl (pv 0)) pa_nil)))
    (pss_cons (ps_fldaug (pv 0) pe_int in_add)
    (pss_cons (ps_set (i := 2) sc_device.nd rfl (Or.inl rfl) pe_non)
    (Evl.pss_cut (ps_if (PW.pt (pw_and (pt_cmpR op_ne (pe_kpm0 k_sign hr R.cl (pv 0)) pe_str (nomark _)) (pw_and1 (pt_cmpR op_in_sign (pe_kpm0 k_sign hr R.cl (pv 0)) (pe_glob (v := .str "123456") (by rfl) gB ⟨_, rfl⟩) rfl))))
      (pss_cons (ps_set (i := 2) sc_device.nd rfl (Or.inl rfl) (pe_callTy call_int_str (by rfl) G.int (by decide +kernel) (pa_cons (pe_kpm0 k_sign hr R.cl (pv 0)) pa_nil)))
      (pss_one (ps_fldaug (pv 0) pe_int in_add)))
      pss_nil)
    (pss_cons (ps_expr (pe_bm PySem.F.plainAttrs_list PySem.F.slot_list_append PySem.F.type_list_append mt_append (pe_fld (pv 0) rfl) (pa_cons (pv 2) pa_nil)))
    (pss_one (ps_ret (pe_tup (pa_cons (pe_lst (pa_cons (pv 1) pa_nil)) (pa_cons (pe_lst (pa_cons (pv 1) pa_nil)) pa_nil)))))))))))), ?_⟩
  have ht : toldC (.dev d) = d.ltr.code :: (if d.bound = 0 then [] else [48 + d.bound]) := by
    unfold toldC
    split <;> rfl
  rw [ht, List.cons_append] at hdrop
  refine ⟨_, rfl, o, RC, dx, _, _, rfl, r.obj, R.cl, R.nK, fld_get (i := 2) (rf_keys _ _ _ _ _ _) rfl, k, _, rfl, .inl (SqL.of r.hk), rfl, _, rfl, iteDF (by intro z; injection z with z; omega) ?_⟩
  refine ⟨_, rfl, o, RC, dx, _, _, rfl, r.obj, R.cl, R.nK, fld_get (i := 2) (rf_keys _ _ _ _ _ _) rfl, k, _, rfl, .inl (SqL.of r.hk), ?_⟩
  refine ⟨_, rfl, o, RC, dx, _, _, rfl, r.obj, R.cl, R.nK, fld_get (i := 2) (rf_keys _ _ _ _ _ _) rfl, .inl ⟨rfl, _, SqL.of r.hk⟩, _, rfl, o, dx, _, rfl, r.obj, rf_no _ _ _ _ _ _ (by decide +kernel), o, dx, k, b, l, g, T, p, rfl, r.obj, hT, k, xk, _, rfl, rfl, r.hk, small (by omega), ?_⟩
  rw [take1 hdrop, ← txt_mk]
  have r1 := r.setK (xk ++ [.str d.ltr.txt])
  refine ⟨_, rfl, o, RC, dx, _, _, rfl, r1.obj, R.cl, R.nA, fld_get (i := 1) (rf_keys _ _ _ _ _ _) rfl, _, _, rfl, rfl, dx, _, r1.obj, lt1000 (n := 6) rfl rfl, ?_⟩
  rw [show V.int ((p : Int) + 1) = V.int ((p + 1 : Nat) : Int) from rfl, rf_at]
  have r2 := r1.at_ (p + 1)
  have hd2 := drop1 hdrop
  generalize upd (upd H k (.lst (xk ++ [.str d.ltr.txt]))) o (.ins RC dx (rf (mk T) (p + 1) k b l g)) = H2 at r2 ⊢
  refine ⟨fun σ' H' => σ' = [some (.ref o), some (.int (xk.length : Nat)), some (bndV d)] ∧ Rd GC RC Hf o dx k b l g T (p + (toldC (.dev d)).length) (xk ++ [.str d.ltr.txt]) xb Ls as fs H', ?_, ?_⟩
  · rw [ht]
    by_cases c : d.bound = 0
    · rw [if_pos c] at hd2 ⊢
      have ebn : bndV d = .non := if_pos c
      rw [ebn]
      rw [List.nil_append] at hd2
      refine ⟨_, rfl, o, dx, _, rfl, r2.obj, rf_no _ _ _ _ _ _ (by decide +kernel), o, dx, k, b, l, g, T, p + 1, rfl, r2.obj, hT, rfl, _, rfl, ?_⟩
      rcases rest_head fs with e | ⟨c, rr, e, hc⟩
      · rw [hd2, e]
        refine iteNF str_nil (iteF ⟨rfl, r2⟩)
      · have hd3 := hd2.trans e
        rw [take1 hd3]
        refine iteNT (str_ne c []) ⟨_, rfl, o, dx, _, rfl, r2.obj, rf_no _ _ _ _ _ _ (by decide +kernel), o, dx, k, b, l, g, T, p + 1, rfl, r2.obj, hT, c, "123456", by rw [take1 hd3]; rfl, rfl, _, rfl, iteDF (notB hc) ⟨rfl, r2⟩⟩
    · rw [if_neg c] at hd2 ⊢
      have ebn : bndV d = .int (d.bound : Int) := if_neg c
      rw [ebn]
      refine ⟨_, rfl, o, dx, _, rfl, r2.obj, rf_no _ _ _ _ _ _ (by decide +kernel), o, dx, k, b, l, g, T, p + 1, rfl, r2.obj, hT, rfl, _, rfl, ?_⟩
      have hd3 : T.drop (p + 1) = (48 + d.bound) :: restC fs := hd2
      rw [take1 hd3]
      refine iteNT (str_ne _ []) ⟨_, rfl, o, dx, _, rfl, r2.obj, rf_no _ _ _ _ _ _ (by decide +kernel), o, dx, k, b, l, g, T, p + 1, rfl, r2.obj, hT, 48 + d.bound, "123456", by rw [take1 hd3]; rfl, rfl, _, rfl, iteDT (inB c hd) ?_⟩
      refine ⟨_, rfl, o, dx, _, rfl, r2.obj, rf_no _ _ _ _ _ _ (by decide +kernel), o, dx, k, b, l, g, T, p + 1, rfl, r2.obj, hT, _, _, rfl, by rw [take1 hd3]; exact intB c hd, by rw [take1 hd3, mk_len]; exact Nat.le_of_ble_eq_true rfl, ?_⟩
      refine ⟨_, rfl, o, RC, dx, _, _, rfl, r2.obj, R.cl, R.nA, fld_get (i := 1) (rf_keys _ _ _ _ _ _) rfl, _, _, rfl, rfl, dx, _, r2.obj, lt1000 (n := 6) rfl rfl, ?_⟩
      rw [show V.int (((p + 1 : Nat) : Int) + 1) = V.int ((p + 1 + 1 : Nat) : Int) from rfl, rf_at]
      exact ⟨rfl, r2.at_ (p + 1 + 1)⟩
  · rintro σ' H3 ⟨rfl, r3⟩
    refine ⟨_, rfl, o, RC, dx, _, _, rfl, r3.obj, R.cl, R.nB, fld_get (i := 3) (rf_keys _ _ _ _ _ _) rfl, .inl ⟨rfl, _, SqL.of r3.hb⟩, _, rfl, b, xb, _, rfl, rfl, r3.hb, small (by omega), ?_⟩
    have r4 := r3.setB (xb ++ [bndV d])
    refine ⟨_, rfl, (szl rfl), fun e1 h1 => ⟨_, rfl, (szl rfl), fun e2 h2 => ⟨(szl rfl), fun t h3 => ?_⟩⟩⟩
    have r5 := r4.grow (x := .lst [.int (xk.length : Nat)]) h1
    have r6 := r5.grow (x := .lst [.int (xk.length : Nat)]) h2
    have r7 := r6.grow (x := .tup [.ref e1, .ref e2]) h3
    have f1 : Hf e1 = none := Same.free r4.same h1
    have f2 := Same.free r5.same h2
    have f3 := Same.free r6.same h3
    have s1 := Same.new (o := .lst [.int (xk.length : Nat)]) f1
    have s2 := Same.new (o := .lst [.int (xk.length : Nat)]) f2
    have s3 := Same.new (o := .tup [.ref e1, .ref e2]) f3
    exact kq _ _ _ r7 (Same.trans s1 (Same.trans s2 s3)) ⟨t, e1, e2, rfl, upd_same, s3 _ _ (s2 _ _ upd_same), s3 _ _ upd_same⟩
end
end Ys
/-! The reader, third part: Reading.first_device, Reading.joined. -/
namespace Ys
open PySem PySem.Spec PyProof.Rows L2
theorem Rd.adopt {GC RC : Addr} {Hf H H' : Hp} {o dx k b l g : Addr} {T : List Nat} {p : Nat} {xk xb : List V} {Ls : List (Int × Int)} {as : List (Addr × Addr)} {fs : List Fr} (r : Rd GC RC Hf o dx k b l g T p xk xb Ls as fs H) {q : Addr} {x : HO} (hn : H q = none) (s : Same H H') (e : H' q = some x) :
    Rd GC RC (upd Hf q x) o dx k b l g T p xk xb Ls as fs H' := by
  refine (r.grow (x := x) hn).same' fun c u h => ?_
  by_cases hc : c = q
  · subst hc
    rw [upd_same] at h
    rw [e, h]
  · rw [upd_ne hc] at h
    exact s c u h
/-- a list of ints taken over by a comprehension's inner loop -/
theorem flat1 {K : PySem.W.Frag} {c : Nat} {e D : Addr} {H1 H4 : Hp} {A acc0 : List Int} {Nx : Hp → Prop} {σ2 : L2.St} (h3 : c < σ2.length) (he : H1 e = some (.lst (A.map V.int))) (h4 : Same H1 H4) (hd : H4 D = some (.lst (acc0.map V.int))) (hD : H1 D = none) (hsz : acc0.length + A.length ≤ 1000)
    (hN : ∀ H, Same H1 H → H D = some (.lst ((acc0 ++ A).map V.int)) → Nx H) :
    ∃ W1 : Nat → Nat → Hp → Prop, (∃ m, W1 0 m H4) ∧ ∀ j k H, W1 j k H →
      ((Itl K e).stop j H ∧ Nx H) ∨ ((Itl K e).go j H ∧ ∃ Nx1 : Hp → Prop, (∀ H', Nx1 H' → ∃ k', k' < k ∧ W1 (j + 1) k' H') ∧ ∀ x H', (Itl K e).yld j H x H' → gName c x (wipe σ2 [c]) H' fun σ3 H5 => wipe σ3 [c] = wipe σ2 [c] ∧ tYes σ3 H5 fun b H6 =>
        if b = true then tVar c σ3 H6 fun y H7 => ∃ acc, H7 D = some (.lst acc) ∧ acc.length < sizeLine ∧ Nx1 (upd H7 D (.lst (acc ++ [y]))) else Nx1 H6) := by
  refine ⟨fun j k H => k = A.length - j ∧ j ≤ A.length ∧ Same H1 H ∧ H D = some (.lst ((acc0 ++ A.take j).map V.int)), ⟨A.length, rfl, Nat.zero_le _, h4, by rw [List.take_zero, List.append_nil]; exact hd⟩, ?_⟩
  rintro j k H ⟨rfl, hj, s, h⟩
  have hq : SqL K H e (A.map V.int) := SqL.of (s _ _ he)
  by_cases hlt : j < A.length
  · have hA : (A.map V.int)[j]? = some (V.int A[j]) := get_map (List.getElem?_eq_getElem hlt)
    refine .inr ⟨⟨_, _, hq, hA⟩, fun H' => Same H1 H' ∧ H' D = some (.lst ((acc0 ++ A.take (j + 1)).map V.int)), fun H' ⟨z1, z2⟩ => ⟨A.length - (j + 1), by omega, rfl, hlt, z1, z2⟩, ?_⟩
    rintro x H' ⟨rfl, hy⟩
    have ex := hy _ hq
    rw [hA] at ex
    obtain rfl := Option.some.inj ex
    refine ⟨?_, V.int A[j], ?_, _, h, ?_, Same.mut s hD, ?_⟩
    · simp only [wipe, List.set_set]
    · simp only [wipe, List.set_set]
      rw [List.getElem?_set_self (by simpa using h3)]
    · rw [List.length_map, List.length_append, List.length_take]
      exact small (by omega)
    · have e1 := map_take_add (List.getElem?_eq_getElem hlt) V.int
      rw [upd_same]
      simp only [List.map_append, e1, List.append_assoc]
  · have ej : j = A.length := by omega
    refine .inl ⟨⟨_, hq, by rw [List.length_map]; omega⟩, hN H s ?_⟩
    rw [ej, List.take_length] at h
    exact h
theorem two_flat {K : PySem.W.Frag} {c : Nat} {yl D ea eb : Addr} {H1 : Hp} {σ : L2.St} {v1 v2 : V} {A B : List Int} {wi1 : TI} {Q : Hp → Prop} (h7 : c < σ.length) (h2 : 2 ≠ c) (hD : H1 D = none) (h1 : H1 yl = some (.lst [v1, v2]))
    (hA : ∀ H R, Same H1 H → R (Itl K ea) H → wi1 ((wipe σ [2, c]).set 2 (some v1)) H R) (hB : ∀ H R, Same H1 H → R (Itl K eb) H → wi1 ((wipe σ [2, c]).set 2 (some v2)) H R)
    (ha : H1 ea = some (.lst (A.map V.int))) (hb : H1 eb = some (.lst (B.map V.int))) (few : A.length + B.length ≤ 1000) (fin : ∀ H', Same H1 H' → H' D = some (.lst ((A ++ B).map V.int)) → Q H') :
    ∃ W : Nat → Nat → Hp → Prop, (∃ m, W 0 m (upd H1 D (.lst []))) ∧ ∀ i m H, W i m H →
      ((Itl K yl).stop i H ∧ Q H) ∨ ((Itl K yl).go i H ∧ ∃ Nx : Hp → Prop, (∀ H', Nx H' → ∃ m', m' < m ∧ W (i + 1) m' H') ∧ ∀ x H', (Itl K yl).yld i H x H' → gName 2 x (wipe σ [2, c]) H' fun σ2 H2 => wipe σ2 [2, c] = wipe σ [2, c] ∧ tYes σ2 H2 fun b H3 =>
        if b = true then wi1 σ2 H3 fun J1 H4 => ∃ W1 : Nat → Nat → Hp → Prop, (∃ m, W1 0 m H4) ∧ ∀ j k H, W1 j k H →
          (J1.stop j H ∧ Nx H) ∨ (J1.go j H ∧ ∃ Nx1 : Hp → Prop, (∀ H', Nx1 H' → ∃ k', k' < k ∧ W1 (j + 1) k' H') ∧ ∀ x H', J1.yld j H x H' → gName c x (wipe σ2 [c]) H' fun σ3 H5 => wipe σ3 [c] = wipe σ2 [c] ∧ tYes σ3 H5 fun b H6 =>
            if b = true then tVar c σ3 H6 fun y H7 => ∃ acc, H7 D = some (.lst acc) ∧ acc.length < sizeLine ∧ Nx1 (upd H7 D (.lst (acc ++ [y]))) else Nx1 H6)
        else Nx H3) := by
  have wl : ∀ v : V, c < ((wipe σ [2, c]).set 2 (some v)).length := fun v => by rw [List.length_set, wipe_length]; exact h7
  have ww : ∀ v : V, wipe ((wipe σ [2, c]).set 2 (some v)) [2, c] = wipe σ [2, c] := fun v => by
    simp only [wipe, List.set_set]
    rw [List.set_comm _ _ h2, List.set_set, List.set_set]
  refine ⟨fun i m H => m = 2 - i ∧ i ≤ 2 ∧ Same H1 H ∧ H D = some (.lst ((([A, B].take i).flatten).map V.int)), ⟨2, rfl, by decide, Same.new hD, upd_same⟩, ?_⟩
  rintro i m H ⟨rfl, hi, s, h⟩
  have hq : SqL K H yl [v1, v2] := SqL.of (s _ _ h1)
  match i, hi with
  | 0, _ =>
    refine .inr ⟨⟨_, v1, hq, rfl⟩, fun H' => Same H1 H' ∧ H' D = some (.lst ((([A, B].take 1).flatten).map V.int)), fun H' ⟨z1, z2⟩ => ⟨1, by decide, rfl, by decide, z1, z2⟩, ?_⟩
    rintro x H' ⟨rfl, hy⟩
    have ex := hy _ hq
    obtain rfl := Option.some.inj ex
    refine ⟨ww v1, hA _ _ s ?_⟩
    exact flat1 (acc0 := []) (wl v1) ha s h hD (by simp; omega) fun H z1 z2 => ⟨z1, by simpa using z2⟩
  | 1, _ =>
    refine .inr ⟨⟨_, v2, hq, rfl⟩, fun H' => Same H1 H' ∧ H' D = some (.lst ((([A, B].take 2).flatten).map V.int)), fun H' ⟨z1, z2⟩ => ⟨0, by decide, rfl, by decide, z1, z2⟩, ?_⟩
    rintro x H' ⟨rfl, hy⟩
    have ex := hy _ hq
    obtain rfl := Option.some.inj ex
    refine ⟨ww v2, hB _ _ s ?_⟩
    exact flat1 (acc0 := A) (wl v2) hb s (by simpa using h) hD few fun H z1 z2 => ⟨z1, by simpa using z2⟩
  | 2, _ =>
    exact .inl ⟨⟨_, hq, Nat.le_refl _⟩, fin H s (by simpa using h)⟩
def FrsOk (fs : List Fr) : Prop := ∀ q bt, Fr.L q bt ∈ fs → bt.ok
section
variable {P : Program} {w : World} {K : PySem.W.Frag} {mg : Str → Option Value} {base : Heap}
abbrev s_fdev : Stmt := inClass (top 20) 4
theorem sc_fdev : FnScope ["self"] ["self"] (defScope s_fdev) := ⟨rfl, rfl, rfl, by decide +kernel, rfl, by decide +kernel, by decide +kernel⟩
theorem bd_fdev : BindsAs "first_device" "Reading.first_device" s_fdev ["self"] := fun _ _ _ _ _ _ us hl => match us, hl with | [_], _ => rfl
def lk (ds : List Dev) : List V := ds.map fun d => V.str d.ltr.txt
def spFDev (GC RC : Addr) : Sp := fun vs H Q _ => ∃ (Hf : Hp) (o dx k b l g : Addr) (T : List Nat) (p : Nat) (ds : List Dev) (Ls : List (Int × Int)) (as : List (Addr × Addr)) (fs : List Fr) (t : Tr), vs = [.ref o] ∧ Rd GC RC Hf o dx k b l g T p (lk ds) (ds.map bndV) Ls as fs H ∧ T.length ≤ 1000 ∧
  t.ok ∧ T.drop p = toldC t ++ restC fs ∧ FrsOk fs ∧ t.size + wts fs ≤ 3 ∧ ds.length + t.size + pends fs ≤ 3 ∧ ∀ (H' Hf' : Hp) (v : V) (p' : Nat) (d : Dev) (as' : List (Addr × Addr)) (fs' : List Fr), Rd GC RC Hf' o dx k b l g T p' (lk (ds ++ [d])) ((ds ++ [d]).map bndV) Ls as' fs' H' → Same Hf Hf' → YvAt Hf' v ([(ds.length : Int)], [(ds.length : Int)]) →
    T.drop p' = restC fs' → ansC fs' ([(ds.length : Int)], [(ds.length : Int)]) (ds ++ [d]) Ls = ansF t fs ds Ls → 1 + wts fs' ≤ 3 → ds.length + 1 + pends fs' ≤ 3 → p < p' → FrsOk fs' → yls fs' = yls fs → Q v H'
theorem ok_fdev {RC GC : Addr} (G : Glo mg) (R : RCls K mg RC GC) (Tb : YTab K w mg) (D : MethAt K RC "first_device" "Reading.first_device" s_fdev) (k_sign : KpM P w K mg base RC "sign" 1 ["self"] (spSign RC)) (k_device : KpM P w K mg base RC "device" 2 ["self"] (spDevice GC RC))
    (k_ginit : KpI P w K mg base GC 1 ["self", "sign"] (spGInit GC)) : KpM P w K mg base RC "first_device" 3 ["self"] (spFDev GC RC) := by
  refine kpm_of D sc_fdev bd_fdev (fun vs H Q E ⟨_, _, _, _, _, _, _, _, _, _, _, _, _, _, h, _⟩ => by rw [h]; rfl) fun f cdv A outer s H vs Q E hr h => ?_
  obtain ⟨Hf, o, dx, k, b, l, g, T, p, ds, Ls, as, fs, t, rfl, r, hT, hok, hdrop, hfo, hw, hp, kq⟩ := h
  obtain ⟨tM, gM⟩ := G.mostYards
  obtain ⟨tK, gK⟩ := G.kinds
  obtain ⟨ca, ces, cn, gC, cD, c1, c2⟩ := Tb.closing
  obtain ⟨fi, fdi, Fi, Mi, bi⟩ := k_ginit
  have hr1 := hr.mono (show 1 ≤ 2 by decide)
  refine ⟨_, (pss_cons (ps_while PassesOwn.never (PW.pt (pw_and (pt_cmpR op_ne (pe_kpm0 k_sign hr1 R.cl (pv 0)) pe_str (nomark _)) (pw_and1 (pt_cmpR (op_in_kd cD) (pe_kpm0 k_sign hr1 R.cl (pv 0)) (pe_glob (v := .ref ca) (by rfl) gC rfl) rfl))))
      (pss_cons (ps_if (pt_cmpR op_eq (pe_callB call_len_seq (by rfl) G.len PySem.boot_len (pa_cons (pe_fld (pv 0) rfl) pa_nil)) (pe_glob (v := .int 8) (by rfl) gM ⟨_, rfl⟩) (nomark _))
        (pss_one ps_never)
        pss_nil)
      (pss_cons (ps_expr (pe_bm PySem.F.plainAttrs_list PySem.F.slot_list_append PySem.F.type_list_append mt_append (pe_fld (pv 0) rfl) (pa_cons (pe_make Mi Fi hr (by rfl) R.mgG bi .nil pass0 (pa_cons (pe_kpm0 k_sign hr1 R.cl (pv 0)) pa_nil)) pa_nil)))
      (pss_one (ps_fldaug (pv 0) pe_int in_add)))))
    (pss_cons (ps_if (PW.pt (pw_or (pt_cmpR op_eq (pe_kpm0 k_sign hr1 R.cl (pv 0)) pe_str (nomark _)) (pw_or1 (pt_cmpR op_notIn_sign (pe_kpm0 k_sign hr1 R.cl (pv 0)) (pe_glob (v := .str "sqdio") (by rfl) gK ⟨_, rfl⟩) rfl))))
      (pss_one ps_never)
      pss_nil)
    (pss_one (ps_ret (pe_kpm0 k_device hr R.cl (pv 0)))))), ?_⟩
  refine ⟨fun m σ H' => ∃ (t' : Tr) (fs' : List Fr) (as' : List (Addr × Addr)) (Hf' : Hp) (p' : Nat), σ = [some (.ref o)] ∧ m = t'.size ∧ Rd GC RC Hf' o dx k b l g T p' (lk ds) (ds.map bndV) Ls as' fs' H' ∧ T.drop p' = toldC t' ++ restC fs' ∧ t'.ok ∧ FrsOk fs' ∧ ansF t' fs' ds Ls = ansF t fs ds Ls ∧ Same Hf Hf' ∧
    t'.size + wts fs' ≤ 3 ∧ ds.length + t'.size + pends fs' ≤ 3 ∧ p ≤ p' ∧ yls fs' = yls fs, ⟨_, t, fs, as, Hf, p, rfl, rfl, r, hdrop, hok, hfo, rfl, fun _ _ e => e, hw, hp, Nat.le_refl _, rfl⟩, ?_⟩
  rintro m σ H1 ⟨t1, fs1, as1, Hf1, p1, rfl, rfl, r1, hd1, hok1, hfo1, ha1, s1, hw1, hp1, hle1, hyl1⟩
  have hln := r1.frs.len
  have hwl := wts_len fs1
  cases t1 with
  | node par a bt =>
    have hd1' : T.drop p1 = sgnC par :: (toldC a ++ restC (.L par bt :: fs1)) := by
      rw [hd1]
      simp [toldC, restC]
    have hh := take1 hd1'
    refine ⟨_, rfl, o, dx, _, rfl, r1.obj, rf_no _ _ _ _ _ _ (by decide +kernel), o, dx, k, b, l, g, T, p1, rfl, r1.obj, hT, rfl, _, rfl, ?_⟩
    rw [hh]
    obtain ⟨tc, ec⟩ := c1 par
    refine iteNT (str_ne _ []) ⟨_, rfl, o, dx, _, rfl, r1.obj, rf_no _ _ _ _ _ _ (by decide +kernel), o, dx, k, b, l, g, T, p1, rfl, r1.obj, hT, _, _, rfl, rfl, by rw [hh, ← sgn_mk]; exact ec, _, rfl, ?_⟩
    show ∃ N : L2.St → Hp → Prop, _ ∧ _
    have hsz : (Tr.node par a bt).size = a.size + bt.size := rfl
    have hbp := bt.size_pos
    refine ⟨fun σ' H' => ∃ (as' : List (Addr × Addr)) (Hf' : Hp), σ' = [some (.ref o)] ∧ Rd GC RC Hf' o dx k b l g T (p1 + 1) (lk ds) (ds.map bndV) Ls as' (.L par bt :: fs1) H' ∧ Same Hf Hf', fun σ' H' ⟨as', Hf', e1, e2, e3⟩ => ⟨a.size, by omega, a, .L par bt :: fs1, as', Hf', p1 + 1, e1, rfl, e2, drop1 hd1', hok1.1, ?_, ?_, e3, ?_, ?_, by omega, hyl1⟩, ?_⟩
    · intro q bt' hq
      rcases List.mem_cons.mp hq with e | e
      · cases e
        exact hok1.2
      · exact hfo1 q bt' e
    · rw [← ans_node]
      exact ha1
    · simp only [wts, Fr.wt]
      omega
    · simp only [pends, Fr.pend]
      omega
    refine ⟨_, rfl, o, RC, dx, _, _, rfl, r1.obj, R.cl, R.nG, fld_get (i := 5) (rf_keys _ _ _ _ _ _) rfl, g, _, rfl, .inl (SqL.of r1.hg), rfl, _, rfl, iteDF (by intro z; injection z with z; rw [List.length_map, List.length_reverse, hln] at z; omega) ?_⟩
    refine ⟨_, rfl, o, RC, dx, _, _, rfl, r1.obj, R.cl, R.nG, fld_get (i := 5) (rf_keys _ _ _ _ _ _) rfl, .inl ⟨rfl, _, SqL.of r1.hg⟩, _, rfl, o, dx, _, rfl, r1.obj, rf_no _ _ _ _ _ _ (by decide +kernel), o, dx, k, b, l, g, T, p1, rfl, r1.obj, hT, fun ga dg hga hdg hne => ?_⟩
    have s2 : Same H1 (upd (upd H1 dg (.own ga)) ga (.ins GC dg [])) := Same.mut (Same.new hdg) hga
    refine ⟨H1, ga, dg, _, rfl, s2, hga, upd_same, fun H2 yl s3 hy h2a h2y => ⟨rfl, ?_⟩⟩
    have hg2 := s3 _ _ r1.hg
    refine ⟨g, _, _, rfl, rfl, hg2, by rw [List.length_map, List.length_reverse, hln]; exact small (by omega), ?_⟩
    have h2a' : H2 ga = some (.ins GC dg (gf (sgn par) yl)) := by
      rw [sgn_mk, ← hh]
      exact h2a
    have r2 := r1.push (par := par) (bt := bt) s3 hga hy h2a' h2y
    refine ⟨_, rfl, o, RC, dx, _, _, rfl, r2.obj, R.cl, R.nA, fld_get (i := 1) (rf_keys _ _ _ _ _ _) rfl, _, _, rfl, rfl, dx, _, r2.obj, lt1000 (n := 6) rfl rfl, ?_⟩
    rw [show V.int ((p1 : Int) + 1) = V.int ((p1 + 1 : Nat) : Int) from rfl, rf_at]
    exact ⟨_, _, rfl, r2.at_ (p1 + 1), Same.trans s1 (Same.new (Same.free r1.same hga))⟩
  | dev d =>
    have ht : toldC (.dev d) = d.ltr.code :: (if d.bound = 0 then [] else [48 + d.bound]) := by
      unfold toldC
      split <;> rfl
    have hd1' : T.drop p1 = d.ltr.code :: ((if d.bound = 0 then [] else [48 + d.bound]) ++ restC fs1) := by
      rw [hd1, ht]
      rfl
    have hh := take1 hd1'
    refine ⟨_, rfl, o, dx, _, rfl, r1.obj, rf_no _ _ _ _ _ _ (by decide +kernel), o, dx, k, b, l, g, T, p1, rfl, r1.obj, hT, rfl, _, rfl, ?_⟩
    rw [hh]
    refine iteNT (str_ne _ []) ⟨_, rfl, o, dx, _, rfl, r1.obj, rf_no _ _ _ _ _ _ (by decide +kernel), o, dx, k, b, l, g, T, p1, rfl, r1.obj, hT, _, _, rfl, rfl, by rw [hh, ← txt_mk]; exact c2 d.ltr, _, rfl, ?_⟩
    refine ⟨_, rfl, o, dx, _, rfl, r1.obj, rf_no _ _ _ _ _ _ (by decide +kernel), o, dx, k, b, l, g, T, p1, rfl, r1.obj, hT, rfl, _, rfl, ?_⟩
    rw [hh]
    refine iteDF (str_ne _ []) ⟨_, rfl, o, dx, _, rfl, r1.obj, rf_no _ _ _ _ _ _ (by decide +kernel), o, dx, k, b, l, g, T, p1, rfl, r1.obj, hT, d.ltr.code, "sqdio", by rw [hh]; rfl, rfl, _, rfl, iteNF (inK d.ltr) ?_⟩
    have hdl : (lk ds).length = ds.length := by
      unfold lk
      rw [List.length_map]
    have hsz : (Tr.dev d).size = 1 := rfl
    refine ⟨_, rfl, o, dx, _, rfl, r1.obj, rf_no _ _ _ _ _ _ (by decide +kernel), Hf1, o, dx, k, b, l, g, T, p1, lk ds, ds.map bndV, Ls, as1, fs1, d, rfl, r1, hT, by omega, by rw [List.length_map]; omega, hok1, hd1, fun H2 Hf2 v r2 s2 hv => ?_⟩
    rw [hdl] at hv
    have hlt : (toldC (.dev d)).length ≥ 1 := by
      rw [ht]
      exact Nat.succ_le_succ (Nat.zero_le _)
    refine kq H2 Hf2 v (p1 + (toldC (.dev d)).length) d as1 fs1 ?_ (Same.trans s1 s2) hv ?_ ?_ (by omega) (by omega) (by omega) hfo1 hyl1
    · unfold lk at r2 ⊢
      rw [List.map_append, List.map_append]
      exact r2
    · rw [← List.drop_drop, hd1, List.drop_left]
    · rw [← ha1, ans_dev]
end
end Ys
/-! The reader, fourth part: Reading.joined. -/
namespace Ys
open PySem PySem.Spec PyProof.Rows L2
section
variable {P : Program} {w : World} {K : PySem.W.Frag} {mg : Str → Option Value} {base : Heap}
abbrev s_joined : Stmt := inClass (top 20) 5
theorem sc_joined : FnScope ["self", "group", "yard", "entry", "entries", "out", "at"] ["self", "group"] (defScope s_joined) := ⟨rfl, rfl, rfl, by decide +kernel, rfl, by decide +kernel, by decide +kernel⟩
theorem bd_joined : BindsAs "joined" "Reading.joined" s_joined ["self", "group"] := fun _ _ _ _ _ _ us hl => match us, hl with | [_, _], _ => rfl
def spJoined (GC RC : Addr) : Sp := fun vs H Q _ => ∃ (Hf : Hp) (o dx k b l g ga dg yl : Addr) (T : List Nat) (p : Nat) (xk xb : List V) (Ls : List (Int × Int)) (as : List (Addr × Addr)) (fs : List Fr) (par : Bool) (v1 v2 : V) (y1 y2 : List Int × List Int), vs = [.ref o, .ref ga] ∧ Rd GC RC Hf o dx k b l g T p xk xb Ls as fs H ∧
  Hf ga = some (.ins GC dg (gf (sgn par) yl)) ∧ H yl = some (.lst [v1, v2]) ∧ yl ≠ l ∧ YvAt Hf v1 y1 ∧ YvAt Hf v2 y2 ∧ y1.1.length + y2.1.length ≤ 100 ∧ y1.2.length + y2.2.length ≤ 100 ∧ Ls.length ≤ 500 ∧
  ∀ (H' Hf' : Hp) (v : V), Rd GC RC Hf' o dx k b l g T p xk xb (Ls ++ joinL par y1 y2) as fs H' → Same Hf Hf' → YvAt Hf' v (joinY par y1 y2) → Q v H'
theorem sgn_eq (par : Bool) : decide (V.str (sgn par) = V.str "[") = par := by cases par <;> decide +kernel
theorem ok_joined {RC GC : Addr} (G : Glo mg) (R : RCls K mg RC GC) (D : MethAt K RC "joined" "Reading.joined" s_joined) : KpM P w K mg base RC "joined" 1 ["self", "group"] (spJoined GC RC) := by
  refine kpm_of D sc_joined bd_joined (fun vs H Q E ⟨_, _, _, _, _, _, _, _, _, _, _, _, _, _, _, _, _, _, _, _, _, _, h, _⟩ => by rw [h]; rfl) fun f cdv A outer s H vs Q E hr h => ?_
  obtain ⟨Hf, o, dx, k, b, l, g, ga, dg, yl, T, p, xk, xb, Ls, as, fs, par, v1, v2, y1, y2, rfl, r, hga, hyl, nyl, hv1, hv2, n1, n2, hLs, kq⟩ := h
  have hen : (defScope s_joined).names.lookup ("entries" : Str) = some .local := by decide +kernel
  refine ⟨_, (pss_cons (ps_if (pt_cmpR op_eq (pe_fld (pv 1) rfl) pe_str (nomark _))
      (pss_cons (ps_setLc2 (i := 4) (own := [("yard", 2), ("entry", 3)]) (vs1 := [3]) (wi1 := iList K (tOp (rIxT K) (tVar 2) (tC (.int 0)))) (g := gName 2) (g1 := gName 3) rfl sc_joined.nd rfl hen (sw_true rfl hen (by decide +kernel) (by decide +kernel)) (pi_list (pe_fld (pv 1) rfl)) (blkOk_by (N := ["self", "group", "yard", "entry", "entries", "out", "at"]) (sc := defScope s_joined) (by decide +kernel)) (by decide)
          (fun _ _ _ _ _ => pg_name (i := 2) sc_joined.nd rfl (Or.inl rfl)) (fun _ _ _ _ _ => pts_nil) (fun _ _ _ _ _ => pi_list (pe_ix ix_tup (pv 2) pe_int (fun _ _ => rfl))) (fun _ _ _ _ _ => pg_name (i := 3) sc_joined.nd rfl (Or.inl rfl)) (fun _ _ _ _ _ => pts_nil) (fun _ _ _ _ _ => pv 3))
      (pss_one (ps_ret (pe_tup (pa_cons (pv 4) (pa_cons (pe_lc2 (own := [("yard", 2), ("out", 5)]) (vs1 := [5]) (wi1 := iList K (tOp (rIxT K) (tVar 2) (tC (.int 1)))) (g := gName 2) (g1 := gName 5) rfl sc_joined.nd (pi_list (pe_fld (pv 1) rfl)) (blkOk_by (N := ["self", "group", "yard", "entry", "entries", "out", "at"]) (sc := defScope s_joined) (by decide +kernel)) (by decide)
          (fun _ _ _ _ _ => pg_name (i := 2) sc_joined.nd rfl (Or.inl rfl)) (fun _ _ _ _ _ => pts_nil) (fun _ _ _ _ _ => pi_list (pe_ix ix_tup (pv 2) pe_int (fun _ _ => rfl))) (fun _ _ _ _ _ => pg_name (i := 5) sc_joined.nd rfl (Or.inl rfl)) (fun _ _ _ _ _ => pts_nil) (fun _ _ _ _ _ => pv 5)) pa_nil))))))
      pss_nil)
    (pss_cons (ps_for PassesOwn.never rfl (pi_range2 (by rfl) G.range (pa_cons pe_int (pa_cons (pe_callB call_len_seq (by rfl) G.len PySem.boot_len (pa_cons (pe_fld (pv 1) rfl) pa_nil)) pa_nil))) (pg_name (i := 6) sc_joined.nd rfl (Or.inl rfl))
      (pss_one (ps_for PassesOwn.never rfl (pi_list (pe_ix ix_tup (pe_ix ix_list (pe_fld (pv 1) rfl) (pe_op op_sub (pv 6) pe_int) (fun _ _ => rfl)) pe_int (fun _ _ => rfl))) (pg_name (i := 5) sc_joined.nd rfl (Or.inl rfl))
        (pss_one (ps_for PassesOwn.never rfl (pi_list (pe_ix ix_tup (pe_ix ix_list (pe_fld (pv 1) rfl) (pv 6) (fun _ _ => rfl)) pe_int (fun _ _ => rfl))) (pg_name (i := 3) sc_joined.nd rfl (Or.inl rfl))
          (pss_one (ps_expr (pe_bm PySem.F.plainAttrs_list PySem.F.slot_list_append PySem.F.type_list_append mt_append (pe_fld (pv 0) rfl) (pa_cons (pe_tup (pa_cons (pv 5) (pa_cons (pv 3) pa_nil))) pa_nil)))))))))
    (pss_one (ps_ret (pe_tup (pa_cons (pe_ix ix_tup (pe_ix ix_list (pe_fld (pv 1) rfl) pe_int (fun _ _ => rfl)) pe_int (fun _ _ => rfl)) (pa_cons (pe_ix ix_tup (pe_ix ix_list (pe_fld (pv 1) rfl) (pe_un un_neg pe_int) (fun _ _ => rfl)) pe_int (fun _ _ => rfl)) pa_nil))))))), ?_⟩
  obtain ⟨p1, e1, o1, rfl, hp1, he1, ho1⟩ := hv1
  obtain ⟨p2, e2, o2, rfl, hp2, he2, ho2⟩ := hv2
  have sm := r.same
  have hga' := sm _ _ hga
  refine ⟨_, rfl, ga, GC, dg, _, _, rfl, hga', R.gcl, R.gS, fld_get (i := 0) (gf_keys _ _) rfl, rfl, _, rfl, ?_⟩
  rw [sgn_eq par]
  cases par with
  | true =>
    refine iteT ⟨_, rfl, ga, GC, dg, _, _, rfl, hga', R.gcl, R.gY, fld_get (i := 1) (gf_keys _ _) rfl, yl, rfl, ⟨_, SqL.of hyl⟩, fun D1 hD1 => ?_⟩
    refine two_flat (c := 3) (σ := [some (.ref o), some (.ref ga), none, none, none, none, none]) (wi1 := iList K (tOp (rIxT K) (tVar 2) (tC (.int 0)))) (ea := e1) (eb := e2) (A := y1.1) (B := y2.1) (v1 := .ref p1) (v2 := .ref p2) (Nat.le_of_ble_eq_true rfl) (by decide) hD1 hyl
      (fun H' R' s' q => ⟨_, rfl, p1, _, _, _, rfl, rfl, SqT.of (s' _ _ (sm _ _ hp1)), at_of (j := 0) rfl rfl, e1, rfl, ⟨_, SqL.of (s' _ _ (sm _ _ he1))⟩, q⟩)
      (fun H' R' s' q => ⟨_, rfl, p2, _, _, _, rfl, rfl, SqT.of (s' _ _ (sm _ _ hp2)), at_of (j := 0) rfl rfl, e2, rfl, ⟨_, SqL.of (s' _ _ (sm _ _ he2))⟩, q⟩) (sm _ _ he1) (sm _ _ he2) (by omega) fun H2 s2 h2 => ?_
    refine ⟨_, rfl, _, rfl, ga, GC, dg, _, _, rfl, s2 _ _ hga', R.gcl, R.gY, fld_get (i := 1) (gf_keys _ _) rfl, yl, rfl, ⟨_, SqL.of (s2 _ _ hyl)⟩, fun D2 hD2 => ?_⟩
    have sm2 := Same.trans sm s2
    refine two_flat (c := 5) (σ := [some (.ref o), some (.ref ga), none, none, some (.ref D1), none, none]) (wi1 := iList K (tOp (rIxT K) (tVar 2) (tC (.int 1)))) (ea := o1) (eb := o2) (A := y1.2) (B := y2.2) (v1 := .ref p1) (v2 := .ref p2) (Nat.le_of_ble_eq_true rfl) (by decide) hD2 (s2 _ _ hyl)
      (fun H' R' s' q => ⟨_, rfl, p1, _, _, _, rfl, rfl, SqT.of (s' _ _ (sm2 _ _ hp1)), at_of (j := 1) rfl rfl, o1, rfl, ⟨_, SqL.of (s' _ _ (sm2 _ _ ho1))⟩, q⟩)
      (fun H' R' s' q => ⟨_, rfl, p2, _, _, _, rfl, rfl, SqT.of (s' _ _ (sm2 _ _ hp2)), at_of (j := 1) rfl rfl, o2, rfl, ⟨_, SqL.of (s' _ _ (sm2 _ _ ho2))⟩, q⟩) (sm2 _ _ ho1) (sm2 _ _ ho2) (by omega) fun H3 s3 h3 => ?_
    refine ⟨(szl rfl), fun t ht => ?_⟩
    have r2 := r.adopt hD1 s2 h2
    have r3 := r2.adopt hD2 s3 h3
    have r4 := r3.grow (x := .tup [.ref D1, .ref D2]) ht
    have f1 : Hf D1 = none := Same.free sm hD1
    have f2 := Same.free r2.same hD2
    have f3 := Same.free r3.same ht
    have g1 := Same.new (o := .lst ((y1.1 ++ y2.1).map V.int)) f1
    have g2 := Same.new (o := .lst ((y1.2 ++ y2.2).map V.int)) f2
    have g3 := Same.new (o := .tup [.ref D1, .ref D2]) f3
    refine kq _ _ _ ?_ (Same.trans g1 (Same.trans g2 g3)) ⟨t, D1, D2, rfl, upd_same, g3 _ _ (g2 _ _ upd_same), g3 _ _ upd_same⟩
    rw [show joinL true y1 y2 = [] from rfl, List.append_nil]
    exact r4
  | false =>
    refine iteF ?_
    refine ⟨_, rfl, ga, GC, dg, _, _, rfl, hga', R.gcl, R.gY, fld_get (i := 1) (gf_keys _ _) rfl, yl, _, rfl, .inl (SqL.of hyl), 1, 2, rfl, by decide, for_range
      (fun i σ H' => ∃ (Hf' : Hp) (v3 v5 v6 : Option V), σ = [some (.ref o), some (.ref ga), none, v3, none, v5, v6] ∧ Rd GC RC Hf' o dx k b l g T p xk xb (Ls ++ if i = 0 then [] else cross y1.2 y2.1) as fs H' ∧ Same Hf Hf' ∧ H' yl = some (.lst [.ref p1, .ref p2]))
      ⟨Hf, _, _, _, rfl, by rw [if_pos rfl, List.append_nil]; exact r, fun _ _ e => e, hyl⟩ ?_ ?_⟩
    · rintro i σ H1 hi ⟨Hf1, v3, v5, v6, rfl, r1, s1, h1⟩
      have hi0 : i = 0 := by
        have : ((2 : Int) - 1).toNat = 1 := by decide
        omega
      subst hi0
      rw [if_pos rfl, List.append_nil] at r1
      have sm1 := Same.trans s1 r1.same
      refine ⟨_, rfl, ga, GC, dg, _, _, rfl, sm1 _ _ hga, R.gcl, R.gY, fld_get (i := 1) (gf_keys _ _) rfl, _, rfl, _, _, rfl, rfl, yl, _, _, _, rfl, rfl, SqL.of h1, at_of (j := 0) rfl rfl, p1, _, _, _, rfl, rfl, SqT.of (sm1 _ _ hp1), at_of (j := 1) rfl rfl, o1, rfl, ⟨_, SqL.of (sm1 _ _ ho1)⟩, for_list (K := K) (a := o1) (xs := y1.2.map V.int)
        (fun j σ H' => ∃ (Hf' : Hp) (v3 v5 : Option V), σ = [some (.ref o), some (.ref ga), none, v3, none, v5, some (.int 1)] ∧ Rd GC RC Hf' o dx k b l g T p xk xb (Ls ++ cross (y1.2.take j) y2.1) as fs H' ∧ Same Hf Hf' ∧ H' yl = some (.lst [.ref p1, .ref p2]))
        ⟨Hf1, _, _, rfl, by rw [List.take_zero, show cross [] y2.1 = [] from rfl, List.append_nil]; exact r1, s1, h1⟩ (fun j σ H' _ ⟨_, _, _, _, z, s', _⟩ => SqL.of (z.same _ _ (s' _ _ ho1))) ?_ ?_⟩
      · rintro j y σ H2 hj ⟨Hf2, w3, w5, rfl, r2, s2, h2⟩
        obtain ⟨ov, ho, rfl⟩ := map_get hj
        have hjl := lt_of_get ho
        have sm2 := Same.trans s2 r2.same
        refine ⟨_, rfl, ga, GC, dg, _, _, rfl, sm2 _ _ hga, R.gcl, R.gY, fld_get (i := 1) (gf_keys _ _) rfl, _, rfl, yl, _, _, _, rfl, rfl, SqL.of h2, at_of (j := 1) rfl rfl, p2, _, _, _, rfl, rfl, SqT.of (sm2 _ _ hp2), at_of (j := 0) rfl rfl, e2, rfl, ⟨_, SqL.of (sm2 _ _ he2)⟩, for_list (K := K) (a := e2) (xs := y2.1.map V.int)
          (fun m σ H' => ∃ (Hf' : Hp) (v3 : Option V), σ = [some (.ref o), some (.ref ga), none, v3, none, some (.int ov), some (.int 1)] ∧ Rd GC RC Hf' o dx k b l g T p xk xb (Ls ++ cross (y1.2.take j) y2.1 ++ (y2.1.take m).map fun e => (ov, e)) as fs H' ∧ Same Hf Hf' ∧ H' yl = some (.lst [.ref p1, .ref p2]))
          ⟨Hf2, _, rfl, by rw [List.take_zero, List.map_nil, List.append_nil]; exact r2, s2, h2⟩ (fun m σ H' _ ⟨_, _, _, z, s', _⟩ => SqL.of (z.same _ _ (s' _ _ he2))) ?_ ?_⟩
        · rintro m y σ H3 hm ⟨Hf3, u3, rfl, r3, s3, h3⟩
          obtain ⟨ev, he, rfl⟩ := map_get hm
          have hml := lt_of_get he
          obtain ⟨zs, hz, hzd⟩ := r3.hl
          have hzl : zs.length ≤ 500 + 100 * 100 + 100 := by
            have e := hzd.length
            rw [List.length_map, List.length_append, List.length_append, List.length_map, List.length_take] at e
            have q : (cross (y1.2.take j) y2.1).length ≤ 100 * 100 := by
              unfold cross
              rw [List.length_flatMap]
              have q1 : ∀ l : List Int, (List.map (fun o => (List.map (fun e => (o, e)) y2.1).length) l).sum = l.length * y2.1.length := by
                intro l
                induction l with
                | nil => simp
                | cons a l ih => rw [List.map_cons, List.sum_cons, ih, List.length_map, List.length_cons, Nat.succ_mul]; omega
              rw [q1, List.length_take]
              exact Nat.mul_le_mul (by omega) (by omega)
            omega
          refine ⟨_, rfl, o, RC, dx, _, _, rfl, r3.obj, R.cl, R.nL, fld_get (i := 4) (rf_keys _ _ _ _ _ _) rfl, .inl ⟨rfl, _, SqL.of hz⟩, _, rfl, _, rfl, (szl rfl), fun t ht => ?_⟩
          have r4 := r3.grow (x := .tup [.int ov, .int ev]) ht
          have f4 : Hf3 t = none := Same.free r3.same ht
          have g4 := Same.new (o := .tup [.int ov, .int ev]) f4
          have st := Same.new (o := .tup [.int ov, .int ev]) ht
          refine ⟨l, zs, .ref t, rfl, rfl, st _ _ hz, small (by omega), ?_⟩
          have hz' : DtAll (upd Hf3 t (.tup [.int ov, .int ev])) (zs ++ [.ref t]) ((Ls ++ cross (y1.2.take j) y2.1 ++ (y2.1.take (m + 1)).map fun e => (ov, e)).map dLink) := by
            rw [map_take_add he, ← List.append_assoc, List.map_append]
            exact DtAll.snoc (hzd.same g4) (.tup upd_same (.cons (.int _) (.cons (.int _) .nil)))
          exact ⟨_, _, rfl, r4.setL hz', Same.trans s3 g4, (upd_ne nyl).trans (st _ _ h3)⟩
        · rintro σ H3 ⟨Hf3, u3, rfl, r3, s3, h3⟩
          rw [List.length_map, List.take_length] at r3
          refine ⟨Hf3, _, _, rfl, ?_, s3, h3⟩
          rw [cross_take ho, ← List.append_assoc]
          exact r3
      · rintro σ H2 ⟨Hf2, w3, w5, rfl, r2, s2, h2⟩
        rw [List.length_map, List.take_length] at r2
        exact ⟨Hf2, _, _, _, rfl, by rw [if_neg (by omega)]; exact r2, s2, h2⟩
    · rintro σ H1 ⟨Hf1, v3, v5, v6, rfl, r1, s1, h1⟩
      rw [show ((2 : Int) - 1).toNat = 1 by decide, if_neg (by decide)] at r1
      have sm1 := Same.trans s1 r1.same
      refine ⟨_, rfl, ga, GC, dg, _, _, rfl, sm1 _ _ hga, R.gcl, R.gY, fld_get (i := 1) (gf_keys _ _) rfl, yl, _, _, _, rfl, rfl, SqL.of h1, at_of (j := 0) rfl rfl, p1, _, _, _, rfl, rfl, SqT.of (sm1 _ _ hp1), at_of (j := 0) rfl rfl, ?_⟩
      refine ⟨_, rfl, ga, GC, dg, _, _, rfl, sm1 _ _ hga, R.gcl, R.gY, fld_get (i := 1) (gf_keys _ _) rfl, _, rfl, yl, _, _, _, rfl, rfl, SqL.of h1, (show atI [V.ref p1, V.ref p2] (-1) = some (V.ref p2) from atI_last [V.ref p1] (V.ref p2)), p2, _, _, _, rfl, rfl, SqT.of (sm1 _ _ hp2), at_of (j := 1) rfl rfl, (szl rfl), fun t ht => ?_⟩
      have r4 := r1.grow (x := .tup [.ref e1, .ref o2]) ht
      have g3 := Same.new (o := .tup [.ref e1, .ref o2]) (Same.free r1.same ht)
      exact kq _ _ _ r4 (Same.trans s1 g3) ⟨t, e1, o2, rfl, upd_same, g3 _ _ (s1 _ _ he1), g3 _ _ (s1 _ _ ho2)⟩
end
end Ys
/-! The reader, fifth part: Reading.closed, Reading.whole. -/
namespace Ys
open PySem PySem.Spec PyProof.Rows L2
theorem ans_pre : ∀ (fs : List Fr) (y : List Int × List Int) (ds : List Dev) (Ls : List (Int × Int)), Ls.length ≤ (ansC fs y ds Ls).2.2.length
  | [], _, _, _ => by rw [ansC]; exact Nat.le_refl _
  | .L par b :: fs, y, ds, Ls => by
    rw [ansC]
    refine Nat.le_trans ?_ (ans_pre fs _ _ _)
    rw [List.length_append, List.length_append]
    omega
  | .R par ya :: fs, y, ds, Ls => by
    rw [ansC]
    refine Nat.le_trans ?_ (ans_pre fs _ _ _)
    rw [List.length_append]
    omega
theorem join_le (par : Bool) (y z : List Int × List Int) : yl2 (joinY par y z) ≤ yl2 y + yl2 z := by
  unfold joinY yl2
  cases par
  · simp
    omega
  · simp
    omega
theorem clo_eq (par q : Bool) : (V.str (mk [cloC par]) = V.str (clo q)) ↔ par = q := by
  rw [clo_mk]
  constructor
  · intro z
    injection z with z
    have e := mk_inj z
    cases par <;> cases q <;> simp [cloC] at e ⊢
  · intro z
    rw [z]
theorem sp_ne (q : Bool) : ¬ V.str (mk [32]) = V.str (clo q) := by
  rw [clo_mk]
  intro z
  injection z with z
  have e := mk_inj z
  cases q <;> simp [cloC] at e
theorem last_of {as : List (Addr × Addr)} {a : Addr × Addr} : ((a :: as).reverse.map fun a => V.ref a.1) = (as.reverse.map fun a => V.ref a.1) ++ [V.ref a.1] := by
  rw [List.reverse_cons, List.map_append]
  rfl
section
variable {P : Program} {w : World} {K : PySem.W.Frag} {mg : Str → Option Value} {base : Heap}
abbrev s_closed : Stmt := inClass (top 20) 6
theorem sc_closed : FnScope ["self", "yard", "group"] ["self", "yard"] (defScope s_closed) := ⟨rfl, rfl, rfl, by decide +kernel, rfl, by decide +kernel, by decide +kernel⟩
theorem bd_closed : BindsAs "closed" "Reading.closed" s_closed ["self", "yard"] := fun _ _ _ _ _ _ us hl => match us, hl with | [_, _], _ => rfl
def spCls (GC RC : Addr) : Sp := fun vs H Q _ => ∃ (Hf : Hp) (o dx k b l g : Addr) (T : List Nat) (p : Nat) (xk xb : List V) (ds : List Dev) (Ls : List (Int × Int)) (as : List (Addr × Addr)) (fs : List Fr) (v : V) (y : List Int × List Int), vs = [.ref o, v] ∧ Rd GC RC Hf o dx k b l g T p xk xb Ls as fs H ∧ T.length ≤ 1000 ∧ YvAt Hf v y ∧
  T.drop p = restC fs ∧ FrsOk fs ∧ 1 + wts fs ≤ 3 ∧ yl2 y + yls fs ≤ 100 ∧ (ansC fs y ds Ls).2.2.length ≤ 500 ∧ ∀ (H' Hf' : Hp) (v' : V) (y' : List Int × List Int) (p' : Nat) (Ls' : List (Int × Int)) (as' : List (Addr × Addr)) (fs' : List Fr), Rd GC RC Hf' o dx k b l g T p' xk xb Ls' as' fs' H' → Same Hf Hf' → YvAt Hf' v' y' →
    T.drop p' = restC fs' → ansC fs' y' ds Ls' = ansC fs y ds Ls → (fs' = [] ∨ ∃ par bt fs'', fs' = .L par bt :: fs'') → FrsOk fs' → 1 + wts fs' ≤ 3 → pends fs' = pends fs → yl2 y' + yls fs' ≤ yl2 y + yls fs → p ≤ p' → Q v' H'
theorem ok_closed {RC GC : Addr} (G : Glo mg) (R : RCls K mg RC GC) (Tb : YTab K w mg) (D : MethAt K RC "closed" "Reading.closed" s_closed) (k_sign : KpM P w K mg base RC "sign" 1 ["self"] (spSign RC)) (k_joined : KpM P w K mg base RC "joined" 1 ["self", "group"] (spJoined GC RC)) :
    KpM P w K mg base RC "closed" 2 ["self", "yard"] (spCls GC RC) := by
  refine kpm_of D sc_closed bd_closed (fun vs H Q E ⟨_, _, _, _, _, _, _, _, _, _, _, _, _, _, _, _, _, h, _⟩ => by rw [h]; rfl) fun f cdv A outer s H vs Q E hr h => ?_
  obtain ⟨Hf, o, dx, k, b, l, g, T, p, xk, xb, ds, Ls, as, fs, v, y, rfl, r, hT, hv, hdrop, hfo, hw, hyl, hLs, kq⟩ := h
  obtain ⟨ca, ces, cn, gC, cD, c1, c2⟩ := Tb.closing
  refine ⟨_, (pss_cons (ps_while PassesOwn.never (pt_truth (pe_fld (pv 0) rfl) (by intro _; rfl))
      (pss_cons (ps_set (i := 2) sc_closed.nd rfl (Or.inl rfl) (pe_ix ix_list (pe_fld (pv 0) rfl) (pe_un un_neg pe_int) (fun _ _ => rfl)))
      (pss_cons (ps_if (PW.pt (pw_or (pt_cmpR op_ne (pe_kpm0 k_sign hr R.cl (pv 0)) (pe_ix (ix_kd cD) (pe_glob (v := .ref ca) (by rfl) gC rfl) (pe_fld (pv 2) rfl) (fun _ _ => rfl)) (nomark _)) (pw_or1 (pt_not (pt_truth (pe_fld (pv 2) rfl) (by intro _; rfl))))))
        (pss_one ps_break)
        pss_nil)
      (pss_cons (ps_expr (pe_bm PySem.F.plainAttrs_list PySem.F.slot_list_append PySem.F.type_list_append mt_append (pe_fld (pv 2) rfl) (pa_cons (pv 1) pa_nil)))
      (pss_cons (ps_expr (pe_bm0 PySem.F.plainAttrs_list PySem.F.slot_list_pop PySem.F.type_list_pop mt_pop (pe_fld (pv 0) rfl)))
      (pss_cons (ps_set (i := 1) sc_closed.nd rfl (Or.inl rfl) (pe_kpm k_joined hr R.cl (pv 0) (pa_cons (pv 2) pa_nil)))
      (pss_one (ps_fldaug (pv 0) pe_int in_add))))))))
    (pss_one (ps_ret (pv 1)))), ?_⟩
  refine ⟨fun m σ H' => ∃ (Hf' : Hp) (v' : V) (y' : List Int × List Int) (p' : Nat) (Ls' : List (Int × Int)) (as' : List (Addr × Addr)) (fs' : List Fr) (v2 : Option V), σ = [some (.ref o), some v', v2] ∧ m = as'.length ∧ Rd GC RC Hf' o dx k b l g T p' xk xb Ls' as' fs' H' ∧ Same Hf Hf' ∧ YvAt Hf' v' y' ∧
    T.drop p' = restC fs' ∧ ansC fs' y' ds Ls' = ansC fs y ds Ls ∧ FrsOk fs' ∧ 1 + wts fs' ≤ 3 ∧ pends fs' = pends fs ∧ yl2 y' + yls fs' ≤ yl2 y + yls fs ∧ p ≤ p', ⟨_, Hf, v, y, p, Ls, as, fs, _, rfl, rfl, r, fun _ _ e => e, hv, hdrop, rfl, hfo, hw, rfl, Nat.le_refl _, Nat.le_refl _⟩, ?_⟩
  rintro m σ H1 ⟨Hf1, v1, y1, p1, Ls1, as1, fs1, w2, rfl, rfl, r1, s1, hv1, hd1, ha1, hfo1, hw1, hp1, hy1, hle1⟩
  match as1, fs1, r1.frs with
  | [], [], _ =>
    refine ⟨_, rfl, o, RC, dx, _, _, rfl, r1.obj, R.cl, R.nG, fld_get (i := 5) (rf_keys _ _ _ _ _ _) rfl, false, .inl ⟨_, SqL.of r1.hg, rfl⟩, iteF ?_⟩
    exact ⟨_, rfl, kq H1 Hf1 v1 y1 p1 Ls1 [] [] r1 s1 hv1 hd1 ha1 (.inl rfl) hfo1 hw1 hp1 hy1 hle1⟩
  | a :: as2, fr :: fs2, ⟨⟨dg, hga⟩, hyo, hfr⟩ =>
    have hg' := r1.hg
    rw [last_of] at hg'
    refine ⟨_, rfl, o, RC, dx, _, _, rfl, r1.obj, R.cl, R.nG, fld_get (i := 5) (rf_keys _ _ _ _ _ _) rfl, true, .inl ⟨_, SqL.of hg', by simp⟩, iteT ?_⟩
    have hga' := r1.same _ _ hga
    have hln := r1.frs.len
    obtain ⟨tc, ec⟩ := c1 fr.par
    match fr, hyo, hga, hga', ec with
    | .L par bt, hyo, hga, hga', ec =>
      refine ⟨fun _ _ => False, fun _ _ z => z.elim, ?_⟩
      refine ⟨_, rfl, o, RC, dx, _, _, rfl, r1.obj, R.cl, R.nG, fld_get (i := 5) (rf_keys _ _ _ _ _ _) rfl, _, rfl, g, _, _, _, rfl, rfl, SqL.of hg', atI_last _ _, ?_⟩
      refine ⟨_, rfl, o, dx, _, rfl, r1.obj, rf_no _ _ _ _ _ _ (by decide +kernel), o, dx, k, b, l, g, T, p1, rfl, r1.obj, hT, _, rfl, a.1, GC, dg, _, _, rfl, hga', R.gcl, R.gS, fld_get (i := 0) (gf_keys _ _) rfl, _, _, .str (clo par), rfl, rfl, ec, ⟨_, rfl⟩, rfl, _, rfl, ?_⟩
      have hd1' : T.drop p1 = 32 :: (toldC bt ++ cloC par :: restC fs2) := hd1
      rw [take1 hd1']
      refine iteNT (sp_ne par) (iteT ?_)
      exact ⟨_, rfl, kq H1 Hf1 v1 y1 p1 Ls1 _ _ r1 s1 hv1 hd1 ha1 (.inr ⟨_, _, _, rfl⟩) hfo1 hw1 hp1 hy1 hle1⟩
    | .R par ya, ⟨va, hya, hva⟩, hga, hga', ec =>
      refine ⟨fun σ' H' => ∃ (Hf' : Hp) (v' : V) (v2 : Option V), σ' = [some (.ref o), some v', v2] ∧ Rd GC RC Hf' o dx k b l g T (p1 + 1) xk xb (Ls1 ++ joinL par ya y1) as2 fs2 H' ∧ Same Hf Hf' ∧ YvAt Hf' v' (joinY par ya y1), fun σ' H' ⟨Hf', v', v2, e1, e2, e3, e4⟩ => ⟨as2.length, Nat.lt_succ_self _, Hf', v', _, p1 + 1, _, as2, fs2, v2, e1, rfl, e2, e3, e4, drop1 hd1, ?_, ?_, ?_, ?_, ?_, by omega⟩, ?_⟩
      · rw [← ha1, ans_R]
      · exact fun q bt hq => hfo1 q bt (List.mem_cons_of_mem _ hq)
      · simp only [wts, Fr.wt] at hw1
        omega
      · rw [← hp1]
        simp [pends, Fr.pend]
      · have q1 := join_le par ya y1
        simp only [yls] at hy1
        omega
      refine ⟨_, rfl, o, RC, dx, _, _, rfl, r1.obj, R.cl, R.nG, fld_get (i := 5) (rf_keys _ _ _ _ _ _) rfl, _, rfl, g, _, _, _, rfl, rfl, SqL.of hg', atI_last _ _, ?_⟩
      refine ⟨_, rfl, o, dx, _, rfl, r1.obj, rf_no _ _ _ _ _ _ (by decide +kernel), o, dx, k, b, l, g, T, p1, rfl, r1.obj, hT, _, rfl, a.1, GC, dg, _, _, rfl, hga', R.gcl, R.gS, fld_get (i := 0) (gf_keys _ _) rfl, _, _, .str (clo par), rfl, rfl, ec, ⟨_, rfl⟩, rfl, _, rfl, ?_⟩
      have hd1' : T.drop p1 = cloC par :: restC fs2 := hd1
      rw [take1 hd1']
      refine iteNF ((clo_eq par par).mpr rfl) ?_
      refine ⟨_, rfl, a.1, GC, dg, _, _, rfl, hga', R.gcl, R.gY, fld_get (i := 1) (gf_keys _ _) rfl, true, .inl ⟨_, SqL.of hya, rfl⟩, iteF ?_⟩
      refine ⟨_, rfl, a.1, GC, dg, _, _, rfl, hga', R.gcl, R.gY, fld_get (i := 1) (gf_keys _ _) rfl, .inl ⟨rfl, _, SqL.of hya⟩, _, rfl, a.2, [va], v1, rfl, rfl, hya, small (by show 1 ≤ _; decide), ?_⟩
      obtain ⟨rd, nal, nag, nf, nao⟩ := r1.drop (ws := [va, v1])
      have hobj2 : upd H1 a.2 (.lst ([va] ++ [v1])) o = some (.ins RC dx (rf (mk T) p1 k b l g)) := (upd_ne nao.symm).trans r1.obj
      have hg2 : upd H1 a.2 (.lst ([va] ++ [v1])) g = some (.lst ((as2.reverse.map fun a => V.ref a.1) ++ [V.ref a.1])) := (upd_ne nag.symm).trans hg'
      refine ⟨_, rfl, o, RC, dx, _, _, rfl, hobj2, R.cl, R.nG, fld_get (i := 5) (rf_keys _ _ _ _ _ _) rfl, .inl ⟨rfl, _, SqL.of hg2⟩, g, _, .ref a.1, rfl, rfl, hg2, by simp, ?_⟩
      rw [List.dropLast_concat]
      have s11 := r1.same
      refine ⟨_, rfl, o, dx, _, rfl, rd.obj, rf_no _ _ _ _ _ _ (by decide +kernel), _, rfl, Hf1, o, dx, k, b, l, g, a.1, dg, a.2, T, p1, xk, xb, Ls1, as2, fs2, par, va, v1, ya, y1, rfl, rd, hga, (upd_ne nag).trans upd_same, nal, hva, hv1, ?_, ?_, ?_, fun H2 Hf2 v2 r2 s2 hv2 => ?_⟩
      · simp only [yls] at hy1
        unfold yl2 at hy1 hyl
        omega
      · simp only [yls] at hy1
        unfold yl2 at hy1 hyl
        omega
      · have q := ans_pre (.R par ya :: fs2) y1 ds Ls1
        rw [ha1] at q
        omega
      refine ⟨_, rfl, o, RC, dx, _, _, rfl, r2.obj, R.cl, R.nA, fld_get (i := 1) (rf_keys _ _ _ _ _ _) rfl, _, _, rfl, rfl, dx, _, r2.obj, lt1000 (n := 6) rfl rfl, ?_⟩
      rw [show V.int ((p1 : Int) + 1) = V.int ((p1 + 1 : Nat) : Int) from rfl, rf_at]
      exact ⟨Hf2, v2, _, rfl, r2.at_ (p1 + 1), Same.trans s1 s2, hv2⟩

abbrev s_whole : Stmt := inClass (top 20) 7
theorem sc_whole : FnScope ["self", "yard"] ["self"] (defScope s_whole) := ⟨rfl, rfl, rfl, by decide +kernel, rfl, by decide +kernel, by decide +kernel⟩
theorem bd_whole : BindsAs "whole" "Reading.whole" s_whole ["self"] := fun _ _ _ _ _ _ us hl => match us, hl with | [_], _ => rfl
def spWhole (GC RC : Addr) : Sp := fun vs H Q _ => ∃ (Hf : Hp) (o dx k b l g : Addr) (t : Tr), vs = [.ref o] ∧ Rd GC RC Hf o dx k b l g (toldC t) 0 [] [] [] [] [] H ∧ t.ok ∧ t.size ≤ 3 ∧
  ∀ (H' Hf' : Hp) (v : V) (p' : Nat), Rd GC RC Hf' o dx k b l g (toldC t) p' (lk (net t 0).devs) ((net t 0).devs.map bndV) (net t 0).links [] [] H' → Same Hf Hf' → YvAt Hf' v (yOf (net t 0)) → Q v H'
theorem told_pos (t : Tr) : 0 < (toldC t).length := by
  cases t with
  | dev d =>
    unfold toldC
    split <;> simp
  | node par a b =>
    unfold toldC
    simp only [List.length_append, List.length_singleton]
    omega
theorem ok_whole {RC GC : Addr} (G : Glo mg) (R : RCls K mg RC GC) (D : MethAt K RC "whole" "Reading.whole" s_whole) (k_sign : KpM P w K mg base RC "sign" 1 ["self"] (spSign RC)) (k_first : KpM P w K mg base RC "first_device" 3 ["self"] (spFDev GC RC)) (k_closed : KpM P w K mg base RC "closed" 2 ["self", "yard"] (spCls GC RC)) :
    KpM P w K mg base RC "whole" 4 ["self"] (spWhole GC RC) := by
  refine kpm_of D sc_whole bd_whole (fun vs H Q E ⟨_, _, _, _, _, _, _, _, h, _⟩ => by rw [h]; rfl) fun f cdv A outer s H vs Q E hr h => ?_
  obtain ⟨Hf, o, dx, k, b, l, g, t, rfl, r, hok, hsz, kq⟩ := h
  refine ⟨_, (pss_one (ps_while PassesOwn.never (pt_val pe_bl)
      (pss_cons (ps_set (i := 1) sc_whole.nd rfl (Or.inl rfl) (pe_kpm k_closed (hr.mono (by decide)) R.cl (pv 0) (pa_cons (pe_kpm0 k_first hr R.cl (pv 0)) pa_nil)))
      (pss_cons (ps_if (pt_not (pt_truth (pe_fld (pv 0) rfl) (by intro _; rfl)))
        (pss_cons (ps_if (pt_cmpR op_lt (pe_fld (pv 0) rfl) (pe_callB call_len_str (by rfl) G.len PySem.boot_len (pa_cons (pe_fld (pv 0) rfl) pa_nil)) (nomark _))
          (pss_one ps_never)
          pss_nil)
        (pss_one (ps_ret (pv 1))))
        pss_nil)
      (pss_cons (ps_if (pt_cmpR op_ne (pe_kpm0 k_sign (hr.mono (by decide)) R.cl (pv 0)) pe_str (nomark _))
        (pss_one ps_never)
        pss_nil)
      (pss_cons (ps_expr (pe_bm PySem.F.plainAttrs_list PySem.F.slot_list_append PySem.F.type_list_append mt_append (pe_fld (pe_ix ix_list (pe_fld (pv 0) rfl) (pe_un un_neg pe_int) (fun _ _ => rfl)) rfl) (pa_cons (pv 1) pa_nil)))
      (pss_one (ps_fldaug (pv 0) pe_int in_add)))))))), ?_⟩
  have hT : (toldC t).length ≤ 1000 := by
    have := toldC_len t
    omega
  have hfin : ansF t [] [] [] = (yOf (net t 0), (net t 0).devs, (net t 0).links) := by
    unfold ansF
    rw [ansC]
    simp
  obtain ⟨q1, q2, q3, q4⟩ := net_small hsz (Nat.le_refl 3) 0
  refine ⟨fun m σ H' => ∃ (Hf' : Hp) (t' : Tr) (fs' : List Fr) (as' : List (Addr × Addr)) (p' : Nat) (ds' : List Dev) (Ls' : List (Int × Int)) (v1 : Option V), σ = [some (.ref o), v1] ∧ m = (toldC t).length - p' ∧ Rd GC RC Hf' o dx k b l g (toldC t) p' (lk ds') (ds'.map bndV) Ls' as' fs' H' ∧ Same Hf Hf' ∧ t'.ok ∧
    (toldC t).drop p' = toldC t' ++ restC fs' ∧ FrsOk fs' ∧ t'.size + wts fs' ≤ 3 ∧ ds'.length + t'.size + pends fs' ≤ 3 ∧ ansF t' fs' ds' Ls' = ansF t [] [] [] ∧ yls fs' ≤ 2 * ds'.length,
    ⟨_, Hf, t, [], [], 0, [], [], _, rfl, rfl, r, fun _ _ e => e, hok, by rw [List.drop_zero]; exact (List.append_nil _).symm, fun _ _ h => (List.not_mem_nil h).elim, hsz, by show 0 + t.size + 0 ≤ 3; omega, rfl, Nat.zero_le _⟩, ?_⟩
  rintro m σ H1 ⟨Hf1, t1, fs1, as1, p1, ds1, Ls1, w1, rfl, rfl, r1, s1, hok1, hd1, hfo1, hw1, hp1, ha1, hy1⟩
  have hpl : p1 < (toldC t).length := by
    refine Nat.lt_of_not_le fun z => ?_
    rw [List.drop_of_length_le z] at hd1
    have := told_pos t1
    have e := congrArg List.length hd1
    rw [List.length_append] at e
    simp only [List.length_nil] at e
    omega
  refine ⟨true, rfl, iteT ?_⟩
  refine ⟨fun σ' H' => ∃ (Hf' : Hp) (t' : Tr) (fs' : List Fr) (as' : List (Addr × Addr)) (p' : Nat) (ds' : List Dev) (Ls' : List (Int × Int)) (v1 : Option V), σ' = [some (.ref o), v1] ∧ p1 < p' ∧ Rd GC RC Hf' o dx k b l g (toldC t) p' (lk ds') (ds'.map bndV) Ls' as' fs' H' ∧ Same Hf Hf' ∧ t'.ok ∧
    (toldC t).drop p' = toldC t' ++ restC fs' ∧ FrsOk fs' ∧ t'.size + wts fs' ≤ 3 ∧ ds'.length + t'.size + pends fs' ≤ 3 ∧ ansF t' fs' ds' Ls' = ansF t [] [] [] ∧ yls fs' ≤ 2 * ds'.length,
    fun σ' H' ⟨Hf', t', fs', as', p', ds', Ls', v1, e1, e2, e3⟩ => ⟨(toldC t).length - p', by omega, Hf', t', fs', as', p', ds', Ls', v1, e1, rfl, e3⟩, ?_⟩
  refine ⟨_, rfl, o, dx, _, rfl, r1.obj, rf_no _ _ _ _ _ _ (by decide +kernel), _, rfl, o, dx, _, rfl, r1.obj, rf_no _ _ _ _ _ _ (by decide +kernel), Hf1, o, dx, k, b, l, g, toldC t, p1, ds1, Ls1, as1, fs1, t1, rfl, r1, hT, hok1, hd1, hfo1, hw1, hp1, fun H2 Hf2 v p2 d as2 fs2 r2 s2 hv2 hd2 ha2 hw2 hp2 hlt2 hfo2 hyl2 => ?_⟩
  have hy2 : yl2 ([(ds1.length : Int)], [(ds1.length : Int)]) = 2 := rfl
  refine ⟨Hf2, o, dx, k, b, l, g, toldC t, p2, _, _, ds1 ++ [d], Ls1, as2, fs2, v, _, rfl, r2, hT, hv2, hd2, hfo2, hw2, by omega, ?_, fun H3 Hf3 v3 y3 p3 Ls3 as3 fs3 r3 s3 hv3 hd3 ha3 hor hfo3 hw3 hp3 hyl3 hle3 => ?_⟩
  · rw [ha2, ha1, hfin]
    show (net t 0).links.length ≤ 500
    omega
  have s03 := Same.trans s1 (Same.trans s2 s3)
  have ha03 : ansC fs3 y3 (ds1 ++ [d]) Ls3 = (yOf (net t 0), (net t 0).devs, (net t 0).links) := by rw [ha3, ha2, ha1, hfin]
  rcases hor with rfl | ⟨par, bt, fs4, rfl⟩
  · have has : as3 = [] := List.length_eq_zero_iff.mp r3.frs.len
    subst has
    refine ⟨_, rfl, o, RC, dx, _, _, rfl, r3.obj, R.cl, R.nG, fld_get (i := 5) (rf_keys _ _ _ _ _ _) rfl, false, .inl ⟨_, SqL.of r3.hg, rfl⟩, iteT ?_⟩
    have hp3l : (toldC t).length ≤ p3 := by
      have e := congrArg List.length hd3
      rw [List.length_drop] at e
      simp only [restC, List.length_nil] at e
      omega
    refine ⟨_, rfl, o, RC, dx, _, _, rfl, r3.obj, R.cl, R.nA, fld_get (i := 1) (rf_keys _ _ _ _ _ _) rfl, _, rfl, o, RC, dx, _, _, rfl, r3.obj, R.cl, R.nT, fld_get (i := 0) (rf_keys _ _ _ _ _ _) rfl, mk (toldC t), rfl, by rw [mk_len]; exact small' (by omega), _, _, rfl, rfl, _, rfl, iteDF (by rw [mk_len]; omega) ?_⟩
    rw [ansC] at ha03
    injection ha03 with z1 z2
    injection z2 with z2 z3
    rw [z2, z3] at r3
    rw [z1] at hv3
    exact ⟨_, rfl, kq H3 Hf3 v3 p3 r3 s03 hv3⟩
  · match as3, r3, r3.frs with
    | a :: as4, r3, ⟨⟨dg, hga⟩, hyo, hfr⟩ =>
      have hg' := r3.hg
      rw [last_of] at hg'
      have hga' := r3.same _ _ hga
      have hd3' : (toldC t).drop p3 = 32 :: (toldC bt ++ cloC par :: restC fs4) := hd3
      refine ⟨_, rfl, o, RC, dx, _, _, rfl, r3.obj, R.cl, R.nG, fld_get (i := 5) (rf_keys _ _ _ _ _ _) rfl, true, .inl ⟨_, SqL.of hg', by simp⟩, iteF ?_⟩
      refine ⟨_, rfl, o, dx, _, rfl, r3.obj, rf_no _ _ _ _ _ _ (by decide +kernel), o, dx, k, b, l, g, toldC t, p3, rfl, r3.obj, hT, rfl, _, rfl, ?_⟩
      rw [take1 hd3']
      refine iteNF (show V.str (mk [32]) = V.str " " from congrArg V.str (by decide +kernel)) ?_
      refine ⟨_, rfl, o, RC, dx, _, _, rfl, r3.obj, R.cl, R.nG, fld_get (i := 5) (rf_keys _ _ _ _ _ _) rfl, _, rfl, g, _, _, _, rfl, rfl, SqL.of hg', atI_last _ _, a.1, GC, dg, _, _, rfl, hga', R.gcl, R.gY, fld_get (i := 1) (gf_keys _ _) rfl, .inl ⟨rfl, _, SqL.of hyo⟩, _, rfl, a.2, [], v3, rfl, rfl, hyo, small (by show 0 ≤ _; decide), ?_⟩
      have r4 := r3.give hv3
      refine ⟨_, rfl, o, RC, dx, _, _, rfl, r4.obj, R.cl, R.nA, fld_get (i := 1) (rf_keys _ _ _ _ _ _) rfl, _, _, rfl, rfl, dx, _, r4.obj, lt1000 (n := 6) rfl rfl, ?_⟩
      rw [show V.int ((p3 : Int) + 1) = V.int ((p3 + 1 : Nat) : Int) from rfl, rf_at]
      simp only [wts, Fr.wt] at hw3
      have hp3' := hp3
      simp only [pends, Fr.pend] at hp3'
      refine ⟨Hf3, bt, .R par y3 :: fs4, _, p3 + 1, ds1 ++ [d], Ls3, _, rfl, by omega, r4.at_ (p3 + 1), s03, hfo3 par bt (List.mem_cons_self ..), ?_, fun q bt' hq => ?_, ?_, ?_, ?_, ?_⟩
      · rw [drop1 hd3']
        rfl
      · rcases List.mem_cons.mp hq with e | e
        · cases e
        · exact hfo3 q bt' (List.mem_cons_of_mem _ e)
      · simp only [wts, Fr.wt]
        omega
      · simp only [pends, Fr.pend, List.length_append, List.length_singleton]
        omega
      · rw [← ans_L, ha03, hfin]
      · simp only [yls, List.length_append, List.length_singleton] at hyl3 ⊢
        omega
end
end Ys
/-! The reader, sixth part: Reading.__init__, Yard.__init__. -/
namespace Ys
open PySem PySem.Spec PyProof.Rows L2
section
variable {P : Program} {w : World} {K : PySem.W.Frag} {mg : Str → Option Value} {base : Heap}
abbrev s_rinit : Stmt := inClass (top 20) 0
theorem sc_rinit : FnScope ["self", "text"] ["self", "text"] (defScope s_rinit) := ⟨rfl, rfl, rfl, by decide +kernel, rfl, by decide +kernel, by decide +kernel⟩
theorem bd_rinit : BindsAs "__init__" "Reading.__init__" s_rinit ["self", "text"] := fun _ _ _ _ _ _ us hl => match us, hl with | [_, _], _ => rfl
def spRInit (GC RC : Addr) : Sp := fun vs H Q _ => ∃ (H0 : Hp) (o dx : Addr) (T : List Nat), vs = [.ref o, .str (mk T)] ∧ Same H0 H ∧ H0 o = none ∧ H o = some (.ins RC dx []) ∧
  ∀ (H' : Hp) (k b l g : Addr), Rd GC RC H0 o dx k b l g T 0 [] [] [] [] [] H' → Q .non H'
theorem ok_rinit {RC GC : Addr} (R : RCls K mg RC GC) (D : InitAt K RC "Reading.__init__" s_rinit) : KpI P w K mg base RC 1 ["self", "text"] (spRInit GC RC) := by
  refine kpi_of D sc_rinit bd_rinit (fun vs H Q E ⟨_, _, _, _, h, _⟩ => by rw [h]; rfl) fun f cdv A outer s H vs Q E hr h => ?_
  obtain ⟨H0, o, dx, T, rfl, s0, n0, ho, kq⟩ := h
  refine ⟨_, (pss_cons (ps_fld (pv 0) (pv 1) rfl)
    (pss_cons (ps_fld (pv 0) pe_int rfl)
    (pss_cons (ps_fld (pv 0) (pe_lst pa_nil) rfl)
    (pss_cons (ps_fld (pv 0) (pe_lst pa_nil) rfl)
    (pss_cons (ps_fld (pv 0) (pe_lst pa_nil) rfl)
    (pss_one (ps_fld (pv 0) (pe_lst pa_nil) rfl))))))), ?_⟩
  -- text
  refine ⟨_, rfl, _, rfl, o, RC, dx, _, rfl, ho, R.cl, R.nT, lt1000 (n := 0) rfl rfl, ?_⟩
  have s1 : Same H0 (upd H o (.ins RC dx [("text", .str (mk T))])) := Same.mut s0 n0
  have ho1 : upd H o (.ins RC dx [("text", .str (mk T))]) o = some (.ins RC dx [("text", .str (mk T))]) := upd_same
  show tSeq _ _ _ _ (upd H o (.ins RC dx [("text", .str (mk T))]))
  generalize upd H o (.ins RC dx [("text", .str (mk T))]) = H1 at s1 ho1 ⊢
  -- at
  refine ⟨_, rfl, o, RC, dx, _, rfl, ho1, R.cl, R.nA, lt1000 (n := 1) rfl rfl, ?_⟩
  rw [add_f (f := "at") (ks := ["text"]) rfl (by decide +kernel)]
  have s2 : Same H0 (upd H1 o (.ins RC dx [("text", .str (mk T)), ("at", .int 0)])) := Same.mut s1 n0
  have ho2 : upd H1 o (.ins RC dx [("text", .str (mk T)), ("at", .int 0)]) o = some (.ins RC dx [("text", .str (mk T)), ("at", .int 0)]) := upd_same
  show tSeq _ _ _ _ (upd H1 o (.ins RC dx [("text", .str (mk T)), ("at", .int 0)]))
  generalize upd H1 o (.ins RC dx [("text", .str (mk T)), ("at", .int 0)]) = H2 at s2 ho2 ⊢
  -- kinds
  refine ⟨Nat.zero_le _, fun k hk => ?_⟩
  have t3 := Same.new (o := .lst []) hk
  have nk : H0 k = none := Same.free s2 hk
  have dk : k ≠ o := fun z => by rw [z, ho2] at hk; cases hk
  refine ⟨_, rfl, o, RC, dx, _, rfl, t3 _ _ ho2, R.cl, R.nK, lt1000 (n := 2) rfl rfl, ?_⟩
  rw [add_f (f := "kinds") (ks := ["text", "at"]) rfl (by decide +kernel)]
  have s3 : Same H0 (upd (upd H2 k (.lst [])) o (.ins RC dx [("text", .str (mk T)), ("at", .int 0), ("kinds", .ref k)])) := Same.mut (Same.trans s2 t3) n0
  have ho3 : upd (upd H2 k (.lst [])) o (.ins RC dx [("text", .str (mk T)), ("at", .int 0), ("kinds", .ref k)]) o = some (.ins RC dx [("text", .str (mk T)), ("at", .int 0), ("kinds", .ref k)]) := upd_same
  have hk3 : upd (upd H2 k (.lst [])) o (.ins RC dx [("text", .str (mk T)), ("at", .int 0), ("kinds", .ref k)]) k = some (.lst []) := (upd_ne dk).trans upd_same
  show tSeq _ _ _ _ (upd (upd H2 k (.lst [])) o (.ins RC dx [("text", .str (mk T)), ("at", .int 0), ("kinds", .ref k)]))
  generalize upd (upd H2 k (.lst [])) o (.ins RC dx [("text", .str (mk T)), ("at", .int 0), ("kinds", .ref k)]) = H3 at s3 ho3 hk3 ⊢
  -- bounds
  refine ⟨Nat.zero_le _, fun b hb => ?_⟩
  have t4 := Same.new (o := .lst []) hb
  have nb : H0 b = none := Same.free s3 hb
  have db : b ≠ o := fun z => by rw [z, ho3] at hb; cases hb
  have dkb : k ≠ b := ne_of_none hk3 hb
  refine ⟨_, rfl, o, RC, dx, _, rfl, t4 _ _ ho3, R.cl, R.nB, lt1000 (n := 3) rfl rfl, ?_⟩
  rw [add_f (f := "bounds") (ks := ["text", "at", "kinds"]) rfl (by decide +kernel)]
  have s4 : Same H0 (upd (upd H3 b (.lst [])) o (.ins RC dx [("text", .str (mk T)), ("at", .int 0), ("kinds", .ref k), ("bounds", .ref b)])) := Same.mut (Same.trans s3 t4) n0
  have ho4 : upd (upd H3 b (.lst [])) o (.ins RC dx [("text", .str (mk T)), ("at", .int 0), ("kinds", .ref k), ("bounds", .ref b)]) o = some (.ins RC dx [("text", .str (mk T)), ("at", .int 0), ("kinds", .ref k), ("bounds", .ref b)]) := upd_same
  have hk4 : upd (upd H3 b (.lst [])) o (.ins RC dx [("text", .str (mk T)), ("at", .int 0), ("kinds", .ref k), ("bounds", .ref b)]) k = some (.lst []) := (upd_ne dk).trans (t4 _ _ hk3)
  have hb4 : upd (upd H3 b (.lst [])) o (.ins RC dx [("text", .str (mk T)), ("at", .int 0), ("kinds", .ref k), ("bounds", .ref b)]) b = some (.lst []) := (upd_ne db).trans upd_same
  show tSeq _ _ _ _ (upd (upd H3 b (.lst [])) o (.ins RC dx [("text", .str (mk T)), ("at", .int 0), ("kinds", .ref k), ("bounds", .ref b)]))
  generalize upd (upd H3 b (.lst [])) o (.ins RC dx [("text", .str (mk T)), ("at", .int 0), ("kinds", .ref k), ("bounds", .ref b)]) = H4 at s4 ho4 hk4 hb4 ⊢
  -- links
  refine ⟨Nat.zero_le _, fun l hl => ?_⟩
  have t5 := Same.new (o := .lst []) hl
  have nl : H0 l = none := Same.free s4 hl
  have dl : l ≠ o := fun z => by rw [z, ho4] at hl; cases hl
  have dkl : k ≠ l := ne_of_none hk4 hl
  have dbl : b ≠ l := ne_of_none hb4 hl
  refine ⟨_, rfl, o, RC, dx, _, rfl, t5 _ _ ho4, R.cl, R.nL, lt1000 (n := 4) rfl rfl, ?_⟩
  have el : putF ("links" : Str) (V.ref l) [(("text" : Str), V.str (mk T)), ("at", .int 0), ("kinds", .ref k), ("bounds", .ref b)] = [(("text" : Str), V.str (mk T)), ("at", .int 0), ("kinds", .ref k), ("bounds", .ref b), ("links", .ref l)] :=
    add_f (ks := ["text", "at", "kinds", "bounds"]) rfl (by decide +kernel)
  have s5 : Same H0 (upd (upd H4 l (.lst [])) o (.ins RC dx [("text", .str (mk T)), ("at", .int 0), ("kinds", .ref k), ("bounds", .ref b), ("links", .ref l)])) := Same.mut (Same.trans s4 t5) n0
  have ho5 : upd (upd H4 l (.lst [])) o (.ins RC dx [("text", .str (mk T)), ("at", .int 0), ("kinds", .ref k), ("bounds", .ref b), ("links", .ref l)]) o = some (.ins RC dx [("text", .str (mk T)), ("at", .int 0), ("kinds", .ref k), ("bounds", .ref b), ("links", .ref l)]) := upd_same
  have hk5 : upd (upd H4 l (.lst [])) o (.ins RC dx [("text", .str (mk T)), ("at", .int 0), ("kinds", .ref k), ("bounds", .ref b), ("links", .ref l)]) k = some (.lst []) := (upd_ne dk).trans (t5 _ _ hk4)
  have hb5 : upd (upd H4 l (.lst [])) o (.ins RC dx [("text", .str (mk T)), ("at", .int 0), ("kinds", .ref k), ("bounds", .ref b), ("links", .ref l)]) b = some (.lst []) := (upd_ne db).trans (t5 _ _ hb4)
  have hl5 : upd (upd H4 l (.lst [])) o (.ins RC dx [("text", .str (mk T)), ("at", .int 0), ("kinds", .ref k), ("bounds", .ref b), ("links", .ref l)]) l = some (.lst []) := (upd_ne dl).trans upd_same
  rw [el]
  generalize upd (upd H4 l (.lst [])) o (.ins RC dx [("text", .str (mk T)), ("at", .int 0), ("kinds", .ref k), ("bounds", .ref b), ("links", .ref l)]) = H5 at s5 ho5 hk5 hb5 hl5 ⊢
  -- groups
  refine ⟨Nat.zero_le _, fun g hg => ?_⟩
  have t6 := Same.new (o := .lst []) hg
  have ng : H0 g = none := Same.free s5 hg
  have dg : g ≠ o := fun z => by rw [z, ho5] at hg; cases hg
  have dkg : k ≠ g := ne_of_none hk5 hg
  have dbg : b ≠ g := ne_of_none hb5 hg
  have dlg : l ≠ g := ne_of_none hl5 hg
  refine ⟨_, rfl, o, RC, dx, _, rfl, t6 _ _ ho5, R.cl, R.nG, lt1000 (n := 5) rfl rfl, ?_⟩
  have eg : putF ("groups" : Str) (V.ref g) [(("text" : Str), V.str (mk T)), ("at", .int 0), ("kinds", .ref k), ("bounds", .ref b), ("links", .ref l)] = rf (mk T) 0 k b l g :=
    add_f (ks := ["text", "at", "kinds", "bounds", "links"]) rfl (by decide +kernel)
  rw [eg]
  refine kq _ k b l g ⟨Same.mut (Same.trans s5 t6) n0, upd_same, (upd_ne dk).trans (t6 _ _ hk5), (upd_ne db).trans (t6 _ _ hb5), ⟨[], (upd_ne dl).trans (t6 _ _ hl5), .nil⟩, (upd_ne dg).trans upd_same, trivial, fun m hm => ?_, ?_⟩
  · simp only [List.map_nil, List.mem_cons, List.not_mem_nil, or_false] at hm
    rcases hm with e | e | e | e | e <;> rw [e] <;> assumption
  · simp [dkb, dkl, dkg, dbl, dbg, dlg]

abbrev s_yinit : Stmt := inClass (top 21) 0
theorem sc_yinit : FnScope ["self", "text", "reading", "entries", "exits", "entry", "out", "outer"] ["self", "text"] (defScope s_yinit) := ⟨rfl, rfl, rfl, by decide +kernel, rfl, by decide +kernel, by decide +kernel⟩
theorem bd_yinit : BindsAs "__init__" "Yard.__init__" s_yinit ["self", "text"] := fun _ _ _ _ _ _ us hl => match us, hl with | [_, _], _ => rfl
def spYInit (YC : Addr) : Sp := fun vs H Q _ => ∃ (H0 : Hp) (y dx : Addr) (t : Tr), vs = [.ref y, .str (mk (toldC t))] ∧ Same H0 H ∧ H0 y = none ∧ H y = some (.ins YC dx []) ∧ t.ok ∧ t.size ≤ 3 ∧
  ∀ (H' : Hp) (L : List (Int × Int)), Same H0 H' → YardAt YC H' y (net t 0).devs L → L.Perm (allLinks (net t 0)) → Q .non H'
theorem ok_yinit {YC RC GC : Addr} (G : Glo mg) (R : RCls K mg RC GC) (Y : YCls K mg YC) (D : InitAt K YC "Yard.__init__" s_yinit) (k_rinit : KpI P w K mg base RC 1 ["self", "text"] (spRInit GC RC)) (k_whole : KpM P w K mg base RC "whole" 4 ["self"] (spWhole GC RC)) :
    KpI P w K mg base YC 5 ["self", "text"] (spYInit YC) := by
  refine kpi_of D sc_yinit bd_yinit (fun vs H Q E ⟨_, _, _, _, h, _⟩ => by rw [h]; rfl) fun f cdv A outer s H vs Q E hr h => ?_
  obtain ⟨H0, y, dy, t, rfl, s0, n0, hy, hok, hsz, kq⟩ := h
  obtain ⟨tO, gO⟩ := G.outside
  obtain ⟨fi, fdi, Fi, Mi, bi⟩ := k_rinit
  have hu := hr.units
  refine ⟨_, (pss_cons (ps_set (i := 2) sc_yinit.nd rfl (Or.inl rfl) (pe_make Mi Fi (hr.mono (by decide)) (by rfl) R.mgR bi .nil pass0 (pa_cons (pv 1) pa_nil)))
    (pss_cons (ps_asg (pe_kpm0 k_whole hr R.cl (pv 2)) (pg_tup (by rfl) (pgs_cons (pg_name (i := 3) sc_yinit.nd rfl (Or.inl rfl)) (pgs_cons (pg_name (i := 4) sc_yinit.nd rfl (Or.inl rfl)) pgs_nil))))
    (pss_cons (ps_fld (pv 0) (pv 1) rfl)
    (pss_cons (ps_fld (pv 0) (pe_fld (pv 2) rfl) rfl)
    (pss_cons (ps_fld (pv 0) (pe_fld (pv 2) rfl) rfl)
    (pss_cons (ps_set (i := 7) sc_yinit.nd rfl (Or.inl rfl) (pe_op op_cat
        (pe_lc (own := [("entry", 5)]) (g := gName 5) rfl sc_yinit.nd (pi_list (pv 3)) (blkOk_by (N := ["self", "text", "reading", "entries", "exits", "entry", "out", "outer"]) (sc := defScope s_yinit) (by decide +kernel)) (fun _ _ _ _ _ => pg_name (i := 5) sc_yinit.nd rfl (Or.inl rfl)) (fun _ _ _ _ _ => pts_nil) (fun _ _ _ _ _ => (pe_tup (pa_cons (pe_glob (v := .int (-1)) (by rfl) gO ⟨_, rfl⟩) (pa_cons (pv 5) pa_nil)))))
        (pe_lc (own := [("out", 6)]) (g := gName 6) rfl sc_yinit.nd (pi_list (pv 4)) (blkOk_by (N := ["self", "text", "reading", "entries", "exits", "entry", "out", "outer"]) (sc := defScope s_yinit) (by decide +kernel)) (fun _ _ _ _ _ => pg_name (i := 6) sc_yinit.nd rfl (Or.inl rfl)) (fun _ _ _ _ _ => pts_nil) (fun _ _ _ _ _ => (pe_tup (pa_cons (pv 6) (pa_cons (pe_glob (v := .int (-1)) (by rfl) gO ⟨_, rfl⟩) pa_nil)))))))
    (pss_one (ps_fld (pv 0) (pe_callB (cr_sortedDt hu) (by rfl) G.sorted (by decide +kernel) (pa_cons (pe_op op_cat (pe_fld (pv 2) rfl) (pv 7)) pa_nil)) rfl)))))))), ?_⟩
  refine ⟨_, rfl, fun o dx ho hdx hne => ?_⟩
  have s1 : Same H (upd (upd H dx (.own o)) o (.ins RC dx [])) := Same.mut (Same.new hdx) ho
  refine ⟨H, o, dx, toldC t, rfl, s1, ho, upd_same, fun H1 k b l g r1 => ⟨rfl, ?_⟩⟩
  refine ⟨_, rfl, o, dx, _, rfl, r1.obj, rf_no _ _ _ _ _ _ (by decide +kernel), H, o, dx, k, b, l, g, t, rfl, r1, hok, hsz, fun H2 Hf2 v p2 r2 s2 hv => ?_⟩
  obtain ⟨pt, e, e', rfl, h1, h2, h3⟩ := hv
  refine ⟨pt, _, rfl, SqT.of (r2.same _ _ h1), rfl, _, _, rfl, _, _, rfl, rfl, ?_⟩
  obtain ⟨q1, q2, q3, q4⟩ := net_small hsz (Nat.le_refl 3) 0
  have hyH := s2 _ _ hy
  have hy2 := r2.same _ _ hyH
  have s02 : Same H0 H2 := Same.trans s0 (Same.trans s2 r2.same)
  have noy : o ≠ y := fun z => by rw [z, hy] at ho; cases ho
  have ho2 := r2.obj
  have hk2 := r2.hk
  have hb2 := r2.hb
  obtain ⟨zs, hl2, hz2⟩ := r2.hl
  have hz2' := hz2.same r2.same
  have he2 := r2.same _ _ h2
  have he2' := r2.same _ _ h3
  have nky : k ≠ y := ne_of hk2 hy2 (fun z => nomatch z)
  have nby : b ≠ y := ne_of hb2 hy2 (fun z => nomatch z)
  have nly : l ≠ y := ne_of hl2 hy2 (fun z => nomatch z)
  have ney : e ≠ y := ne_of he2 hy2 (fun z => nomatch z)
  have ney' : e' ≠ y := ne_of he2' hy2 (fun z => nomatch z)
  have hzl : zs.length ≤ 9 := by
    have q := hz2.length
    rw [List.length_map] at q
    omega
  -- text
  refine ⟨_, rfl, _, rfl, y, YC, dy, _, rfl, hy2, Y.cl, Y.nT, lt1000 (n := 0) rfl rfl, ?_⟩
  have st : Tups H2 (upd H2 y (.ins YC dy [("text", .str (mk (toldC t)))])) := Tups.put hy2 (fun _ z => nomatch z)
  have s3 : Same H0 (upd H2 y (.ins YC dy [("text", .str (mk (toldC t)))])) := Same.mut s02 n0
  have hy3 : upd H2 y (.ins YC dy [("text", .str (mk (toldC t)))]) y = some (.ins YC dy [("text", .str (mk (toldC t)))]) := upd_same
  have k3 : ∀ {c : Addr} {u : HO}, c ≠ y → H2 c = some u → upd H2 y (.ins YC dy [("text", .str (mk (toldC t)))]) c = some u := fun {c u} hc e => (upd_ne hc).trans e
  have ho3 := k3 noy ho2
  have hk3 := k3 nky hk2
  have hb3 := k3 nby hb2
  have hl3 := k3 nly hl2
  have he3 := k3 ney he2
  have he3' := k3 ney' he2'
  have hz3 := hz2'.tups st _ _ (noLists_map noList_link _)
  show tSeq _ _ _ _ (upd H2 y (.ins YC dy [("text", .str (mk (toldC t)))]))
  clear k3 st
  generalize upd H2 y (.ins YC dy [("text", .str (mk (toldC t)))]) = H3 at s3 hy3 ho3 hk3 hb3 hl3 he3 he3' hz3 ⊢
  -- kinds
  refine ⟨_, rfl, o, RC, dx, _, _, rfl, ho3, R.cl, R.nK, fld_get (i := 2) (rf_keys _ _ _ _ _ _) rfl, _, rfl, y, YC, dy, _, rfl, hy3, Y.cl, Y.nK, lt1000 (n := 1) rfl rfl, ?_⟩
  rw [add_f (f := "kinds") (ks := ["text"]) rfl (by decide +kernel)]
  have st : Tups H3 (upd H3 y (.ins YC dy [("text", .str (mk (toldC t))), ("kinds", .ref k)])) := Tups.put hy3 (fun _ z => nomatch z)
  have s4 : Same H0 (upd H3 y (.ins YC dy [("text", .str (mk (toldC t))), ("kinds", .ref k)])) := Same.mut s3 n0
  have hy4 : upd H3 y (.ins YC dy [("text", .str (mk (toldC t))), ("kinds", .ref k)]) y = some (.ins YC dy [("text", .str (mk (toldC t))), ("kinds", .ref k)]) := upd_same
  have k4 : ∀ {c : Addr} {u : HO}, c ≠ y → H3 c = some u → upd H3 y (.ins YC dy [("text", .str (mk (toldC t))), ("kinds", .ref k)]) c = some u := fun {c u} hc e => (upd_ne hc).trans e
  have ho4 := k4 noy ho3
  have hk4 := k4 nky hk3
  have hb4 := k4 nby hb3
  have hl4 := k4 nly hl3
  have he4 := k4 ney he3
  have he4' := k4 ney' he3'
  have hz4 := hz3.tups st _ _ (noLists_map noList_link _)
  show tSeq _ _ _ _ (upd H3 y (.ins YC dy [("text", .str (mk (toldC t))), ("kinds", .ref k)]))
  clear k4 st
  generalize upd H3 y (.ins YC dy [("text", .str (mk (toldC t))), ("kinds", .ref k)]) = H4 at s4 hy4 ho4 hk4 hb4 hl4 he4 he4' hz4 ⊢
  -- bounds
  refine ⟨_, rfl, o, RC, dx, _, _, rfl, ho4, R.cl, R.nB, fld_get (i := 3) (rf_keys _ _ _ _ _ _) rfl, _, rfl, y, YC, dy, _, rfl, hy4, Y.cl, Y.nB, lt1000 (n := 2) rfl rfl, ?_⟩
  rw [add_f (f := "bounds") (ks := ["text", "kinds"]) rfl (by decide +kernel)]
  have st : Tups H4 (upd H4 y (.ins YC dy [("text", .str (mk (toldC t))), ("kinds", .ref k), ("bounds", .ref b)])) := Tups.put hy4 (fun _ z => nomatch z)
  have s5 : Same H0 (upd H4 y (.ins YC dy [("text", .str (mk (toldC t))), ("kinds", .ref k), ("bounds", .ref b)])) := Same.mut s4 n0
  have hy5 : upd H4 y (.ins YC dy [("text", .str (mk (toldC t))), ("kinds", .ref k), ("bounds", .ref b)]) y = some (.ins YC dy [("text", .str (mk (toldC t))), ("kinds", .ref k), ("bounds", .ref b)]) := upd_same
  have k5 : ∀ {c : Addr} {u : HO}, c ≠ y → H4 c = some u → upd H4 y (.ins YC dy [("text", .str (mk (toldC t))), ("kinds", .ref k), ("bounds", .ref b)]) c = some u := fun {c u} hc e => (upd_ne hc).trans e
  have ho5 := k5 noy ho4
  have hk5 := k5 nky hk4
  have hb5 := k5 nby hb4
  have hl5 := k5 nly hl4
  have he5 := k5 ney he4
  have he5' := k5 ney' he4'
  have hz5 := hz4.tups st _ _ (noLists_map noList_link _)
  show tSeq _ _ _ _ (upd H4 y (.ins YC dy [("text", .str (mk (toldC t))), ("kinds", .ref k), ("bounds", .ref b)]))
  clear k5 st
  generalize upd H4 y (.ins YC dy [("text", .str (mk (toldC t))), ("kinds", .ref k), ("bounds", .ref b)]) = H5 at s5 hy5 ho5 hk5 hb5 hl5 he5 he5' hz5 ⊢
  -- outer
  have eE : (yOf (net t 0)).1 = (net t 0).ents := rfl
  have eO : (yOf (net t 0)).2 = (net t 0).outs := rfl
  rw [eE] at he5
  rw [eO] at he5'
  refine ⟨_, rfl, e, rfl, ⟨_, SqL.of he5⟩, fun D1 hD1 => lc_list (K := K) (a := e) (xs := (net t 0).ents.map V.int)
    (fun i H' => Same H5 H' ∧ ∃ us, H' D1 = some (.lst us) ∧ DtAll H' us (((net t 0).ents.take i).map fun x => dLink (-1, x)) ∧ us.length = i)
    ⟨Same.new hD1, [], upd_same, .nil, rfl⟩ (fun i H' _ ⟨z, _⟩ => SqL.of (z _ _ he5)) ?_ ?_⟩
  · rintro i x H6 hi ⟨s6, us, hu6, hd6, hl6⟩
    obtain ⟨xe, hxe, rfl⟩ := map_get hi
    have hil := lt_of_get hxe
    refine ⟨rfl, _, rfl, (szl rfl), fun tt ht => ?_⟩
    have nDt : D1 ≠ tt := ne_of_none hu6 ht
    have sN : Same H6 (upd H6 tt (.tup [.int (-1), .int xe])) := Same.new ht
    refine ⟨us, (upd_ne nDt).trans hu6, small (by omega), Same.mut (Same.trans s6 sN) hD1, us ++ [.ref tt], upd_same, ?_, by rw [List.length_append, List.length_singleton, hl6]⟩
    rw [map_take_add hxe]
    refine DtAll.snoc ?_ (.tup (by rw [upd_ne nDt.symm]; exact upd_same) (.cons (.int _) (.cons (.int _) .nil)))
    exact hd6.tups (Tups.trans (Tups.of_same sN) (Tups.put ((upd_ne nDt).trans hu6) (fun _ z => nomatch z))) _ _ (noLists_map (fun x => noList_link _) _)
  rintro H6 ⟨s6, us1, hu6, hd6, hl6⟩
  rw [List.length_map, List.take_length] at hd6
  rw [List.length_map] at hl6
  refine ⟨_, rfl, e', rfl, ⟨_, SqL.of (s6 _ _ he5')⟩, fun D2 hD2 => lc_list (K := K) (a := e') (xs := (net t 0).outs.map V.int)
    (fun i H' => Same H6 H' ∧ ∃ us, H' D2 = some (.lst us) ∧ DtAll H' us (((net t 0).outs.take i).map fun x => dLink (x, -1)) ∧ us.length = i)
    ⟨Same.new hD2, [], upd_same, .nil, rfl⟩ (fun i H' _ ⟨z, _⟩ => SqL.of (z _ _ (s6 _ _ he5'))) ?_ ?_⟩
  · rintro i x H7 hi ⟨s7, us, hu7, hd7, hl7⟩
    obtain ⟨xe, hxe, rfl⟩ := map_get hi
    have hil := lt_of_get hxe
    refine ⟨rfl, _, rfl, (szl rfl), fun tt ht => ?_⟩
    have nDt : D2 ≠ tt := ne_of_none hu7 ht
    have sN : Same H7 (upd H7 tt (.tup [.int xe, .int (-1)])) := Same.new ht
    refine ⟨us, (upd_ne nDt).trans hu7, small (by omega), Same.mut (Same.trans s7 sN) hD2, us ++ [.ref tt], upd_same, ?_, by rw [List.length_append, List.length_singleton, hl7]⟩
    rw [map_take_add hxe]
    refine DtAll.snoc ?_ (.tup (by rw [upd_ne nDt.symm]; exact upd_same) (.cons (.int _) (.cons (.int _) .nil)))
    exact hd7.tups (Tups.trans (Tups.of_same sN) (Tups.put ((upd_ne nDt).trans hu7) (fun _ z => nomatch z))) _ _ (noLists_map (fun x => noList_link _) _)
  rintro H7 ⟨s7, us2, hu7, hd7, hl7⟩
  rw [List.length_map, List.take_length] at hd7
  rw [List.length_map] at hl7
  refine ⟨D1, D2, us1, us2, rfl, rfl, s7 _ _ hu6, hu7, small' (by omega), fun D3 hD3 => ?_⟩
  have s8 := Same.new (o := .lst (us1 ++ us2)) hD3
  have s58 := Same.trans s6 (Same.trans s7 s8)
  refine ⟨_, rfl, o, RC, dx, _, _, rfl, s58 _ _ ho5, R.cl, R.nL, fld_get (i := 4) (rf_keys _ _ _ _ _ _) rfl, _, rfl, l, D3, zs, us1 ++ us2, rfl, rfl, s58 _ _ hl5, upd_same, small' (by rw [List.length_append]; omega), fun D4 hD4 => ?_⟩
  have s9 := Same.new (o := .lst (zs ++ (us1 ++ us2))) hD4
  have s59 := Same.trans s58 s9
  have eo : (Ys.outer (net t 0)).map dLink = ((net t 0).ents.map fun x => dLink (-1, x)) ++ ((net t 0).outs.map fun x => dLink (x, -1)) := by
    unfold Ys.outer
    rw [List.map_append, List.map_map, List.map_map]
    rfl
  have hall : DtAll (upd (upd H7 D3 (.lst (us1 ++ us2))) D4 (.lst (zs ++ (us1 ++ us2)))) (zs ++ (us1 ++ us2)) ((allLinks (net t 0)).map dLink) := by
    unfold allLinks
    rw [List.map_append, eo]
    exact DtAll.app (hz5.same s59) (DtAll.app (hd6.same (Same.trans s7 (Same.trans s8 s9))) (hd7.same (Same.trans s8 s9)))
  dsimp only [tNil]
  refine sorted_maps alike_dLink link_tuple dLink_depth upd_same hall fun ms us r pm hms hr' => ?_
  have s10 := Same.new (o := .lst us) hr'
  have s510 := Same.trans s59 s10
  have nry : r ≠ y := fun z => by rw [z, s59 _ _ hy5] at hr'; cases hr'
  refine ⟨_, rfl, y, YC, dy, _, rfl, s510 _ _ hy5, Y.cl, Y.nL, lt1000 (n := 3) rfl rfl, ?_⟩
  have el : putF ("links" : Str) (V.ref r) [(("text" : Str), V.str (mk (toldC t))), ("kinds", .ref k), ("bounds", .ref b)] = yf (mk (toldC t)) k b r :=
    add_f (ks := ["text", "kinds", "bounds"]) rfl (by decide +kernel)
  rw [el]
  have stt : Tups (upd (upd (upd H7 D3 (.lst (us1 ++ us2))) D4 (.lst (zs ++ (us1 ++ us2)))) r (.lst us)) (upd (upd (upd (upd H7 D3 (.lst (us1 ++ us2))) D4 (.lst (zs ++ (us1 ++ us2)))) r (.lst us)) y (.ins YC dy (yf (mk (toldC t)) k b r))) := Tups.put (s510 _ _ hy5) (fun _ z => nomatch z)
  refine kq _ ms (Same.mut (Same.trans s5 s510) n0) ⟨dy, k, b, r, _, us, upd_same, (upd_ne nky).trans (s510 _ _ hk5), (upd_ne nby).trans (s510 _ _ hb5), (upd_ne nry).trans upd_same, (hms.same s10).tups stt _ _ (noLists_map noList_link _)⟩ pm
end
end Ys
/-! What the law draws: _law_row, _law_drawn. -/
namespace Ys
open PySem PySem.Spec PyProof.Rows L2
theorem upTo_succ (n : Nat) : upTo (n + 1) = upTo n ++ [((n : Int) + 1)] := by
  unfold upTo
  rw [List.range_succ, List.map_append]
  rfl
theorem ins_perm {α : Type} (l : List α) (k : Nat) (x : α) : (l.take k ++ [x] ++ l.drop k).Perm (x :: l) := by
  have h : (l.take k ++ [x] ++ l.drop k).Perm (x :: (l.take k ++ l.drop k)) := by
    rw [List.append_assoc]
    exact List.perm_middle
  rw [List.take_append_drop] at h
  exact h
section
variable {P : Program} {w : World} {K : PySem.W.Frag} {mg : Str → Option Value} {base : Heap}
abbrev s_law_row : Stmt := top 59
theorem sc_law_row : FnScope ["_law_draws_here", "_law_size", "_law_row_here", "_law_wagon"] ["_law_draws_here", "_law_size"] (defScope s_law_row) := ⟨rfl, rfl, rfl, by decide +kernel, rfl, by decide +kernel, by decide +kernel⟩
theorem bd_law_row : BindsAs "_law_row" "_law_row" s_law_row ["_law_draws_here", "_law_size"] := fun _ _ _ _ _ _ us hl => match us, hl with | [_, _], _ => rfl
def spLRow : Sp := fun vs H Q _ => ∃ (d : Addr) (n : Nat), vs = [.ref d, .int (n : Int)] ∧ H d = some (drawsO d) ∧ n ≤ 1000 ∧ ∀ (p : Addr) (row : List Int) (H' : Hp), Same H H' → H p = none → H' p = some (.lst (row.map V.int)) → row.Perm (upTo n) → Q (.ref p) H'
theorem ok_lrow (G : Glo mg) (D : DefAt K mg "_law_row" s_law_row) (k_law_next : Kp P w K mg base "_law_next" 1 ["_law_draws_here"] spNext) : Kp P w K mg base "_law_row" 2 ["_law_draws_here", "_law_size"] spLRow := by
  refine kp_of D sc_law_row bd_law_row (fun vs H Q E ⟨_, _, h, _⟩ => by rw [h]; rfl) fun f cdv A outer s H vs Q E hr h => ?_
  obtain ⟨d, n, rfl, hd, hn, k⟩ := h
  refine ⟨_, (pss_cons (ps_set (i := 2) sc_law_row.nd rfl (Or.inl rfl) (pe_lst pa_nil))
    (pss_cons (ps_for PassesOwn.never rfl (pi_range2 (by rfl) G.range (pa_cons pe_int (pa_cons (pe_op op_add (pv 1) pe_int) pa_nil))) (pg_name (i := 3) sc_law_row.nd rfl (Or.inl rfl))
      (pss_one (ps_expr (pe_bm PySem.F.plainAttrs_list PySem.F.slot_list_insert PySem.F.type_list_insert mt_insert (pv 2) (pa_cons (pe_op op_mod (pe_callTy call_int1 (by rfl) G.int (by decide +kernel) (pa_cons (pe_kp k_law_next hr (by rfl) (pa_cons (pv 0) pa_nil)) pa_nil)) (pe_op op_add (pe_callB call_len_seq (by rfl) G.len PySem.boot_len (pa_cons (pv 2) pa_nil)) pe_int)) (pa_cons (pv 3) pa_nil))))))
    (pss_one (ps_ret (pv 2))))), ?_⟩
  refine ⟨Nat.zero_le _, fun l hl => ?_⟩
  refine ⟨_, rfl, _, _, rfl, rfl, 1, (n : Int) + 1, rfl, ⟨by decide, by decide, by omega, by omega⟩, for_range
    (fun i σ H' => ∃ (row : List Int) (v3 : Option V), σ = [some (.ref d), some (.int (n : Int)), some (.ref l), v3] ∧ Same H H' ∧ H' l = some (.lst (row.map V.int)) ∧ row.Perm (upTo i))
    ⟨[], _, rfl, Same.new hl, upd_same, List.Perm.refl _⟩ ?_ ?_⟩
  · rintro i σ H1 hi ⟨row, v3, rfl, s1, h1, pm⟩
    have hrl : row.length = i := by rw [pm.length_eq, upTo_len]
    have hin : i < n := by omega
    refine ⟨_, rfl, .inl ⟨rfl, _, SqL.of h1⟩, _, rfl, d, rfl, s1 _ _ hd, fun i0 => .inl ⟨_, rfl, _, rfl, l, _, rfl, .inl (SqL.of h1), _, _, rfl, rfl, _, _, rfl, rfl, ?_, ?_⟩⟩
    · rw [List.length_map]
      omega
    rw [List.length_map]
    have p0 : 0 ≤ i0 % ((row.length : Int) + 1) := Int.emod_nonneg _ (by omega)
    have p1 : i0 % ((row.length : Int) + 1) < (row.length : Int) + 1 := Int.emod_lt_of_pos _ (by omega)
    refine ⟨_, rfl, l, _, _, _, rfl, rfl, h1, by rw [List.length_map]; exact small (by omega), p0, by omega, ?_⟩
    refine ⟨row.take (i0 % ((row.length : Int) + 1)).toNat ++ [1 + (i : Int)] ++ row.drop (i0 % ((row.length : Int) + 1)).toNat, _, rfl, Same.mut s1 hl, ?_, ?_⟩
    · rw [upd_same, List.map_append, List.map_append, List.map_take, List.map_drop]
      rfl
    · refine (ins_perm _ _ _).trans ?_
      rw [upTo_succ]
      have e : (1 + (i : Int)) = (i : Int) + 1 := by omega
      rw [e]
      exact (List.Perm.cons _ pm).trans (List.perm_append_singleton _ _).symm
  · rintro σ H1 ⟨row, v3, rfl, s1, h1, pm⟩
    have e : (((n : Int) + 1) - 1).toNat = n := by omega
    rw [e] at pm
    exact ⟨_, rfl, k l row H1 s1 hl h1 pm⟩

abbrev s_law_drawn : Stmt := top 60
theorem sc_law_drawn : FnScope ["_law_draws_here", "_law_most", "_law_tree_here", "_law_net_here", "_law_size"] ["_law_draws_here", "_law_most"] (defScope s_law_drawn) := ⟨rfl, rfl, rfl, by decide +kernel, rfl, by decide +kernel, by decide +kernel⟩
theorem bd_law_drawn : BindsAs "_law_drawn" "_law_drawn" s_law_drawn ["_law_draws_here", "_law_most"] := fun _ _ _ _ _ _ us hl => match us, hl with | [_, _], _ => rfl
def spDrawn : Sp := fun vs H Q _ => ∃ d : Addr, vs = [.ref d, .int 5] ∧ H d = some (drawsO d) ∧ ∀ (p ra : Addr) (vt vn : V) (t : Tr) (L : List (Int × Int)) (row : List Int) (H' : Hp), Same H H' → H' p = some (.lst [vt, vn, .ref ra]) → TreeAt H' vt t → t.ok → t.size ≤ 3 →
  PlanAt H' vn (net t 0).devs L → L.Perm (allLinks (net t 0)) → H' ra = some (.lst (row.map V.int)) → row.Perm (upTo row.length) → row.length ≤ 5 → Q (.ref p) H'
theorem ok_drawn (G : Glo mg) (D : DefAt K mg "_law_drawn" s_law_drawn) (k_law_next : Kp P w K mg base "_law_next" 1 ["_law_draws_here"] spNext) (k_law_tree : Kp P w K mg base "_law_tree" 6 ["_law_draws_here", "_law_room"] (spTree 3)) (k_law_plan : Kp P w K mg base "_law_plan" 5 ["_law_tree_here"] spPlan)
    (k_law_row : Kp P w K mg base "_law_row" 2 ["_law_draws_here", "_law_size"] spLRow) : Kp P w K mg base "_law_drawn" 7 ["_law_draws_here", "_law_most"] spDrawn := by
  refine kp_of D sc_law_drawn bd_law_drawn (fun vs H Q E ⟨_, h, _⟩ => by rw [h]; rfl) fun f cdv A outer s H vs Q E hr h => ?_
  obtain ⟨d, rfl, hd, kq⟩ := h
  have hr1 := hr.mono (show 1 ≤ 6 by decide)
  refine ⟨_, (pss_cons (ps_set (i := 2) sc_law_drawn.nd rfl (Or.inl rfl) (pe_kp k_law_tree hr (by rfl) (pa_cons (pv 0) (pa_cons (pe_op op_add pe_int (pe_op op_mod (pe_callTy call_int1 (by rfl) G.int (by decide +kernel) (pa_cons (pe_kp k_law_next hr1 (by rfl) (pa_cons (pv 0) pa_nil)) pa_nil)) pe_int)) pa_nil))))
    (pss_cons (ps_set (i := 3) sc_law_drawn.nd rfl (Or.inl rfl) (pe_kp k_law_plan (hr.mono (by decide)) (by rfl) (pa_cons (pv 2) pa_nil)))
    (pss_cons (ps_set (i := 4) sc_law_drawn.nd rfl (Or.inl rfl) (pe_op op_mod (pe_callTy call_int1 (by rfl) G.int (by decide +kernel) (pa_cons (pe_kp k_law_next hr1 (by rfl) (pa_cons (pv 0) pa_nil)) pa_nil)) (pe_op op_add (pv 1) pe_int)))
    (pss_cons (ps_set (i := 4) sc_law_drawn.nd rfl (Or.inl rfl) (pe_callB (call_min2 rfl) (by rfl) G.min (by decide +kernel) (pa_cons (pv 4) (pa_cons (pe_op op_add (pe_op op_sub (pe_op op_add (pv 1) pe_int) (pe_callB call_len_seq (by rfl) G.len PySem.boot_len (pa_cons (pe_ix ix_list (pv 3) pe_int (fun _ _ => rfl)) pa_nil))) (pe_op op_fdiv (pe_op op_mod (pe_callTy call_int1 (by rfl) G.int (by decide +kernel) (pa_cons (pe_kp k_law_next hr1 (by rfl) (pa_cons (pv 0) pa_nil)) pa_nil)) pe_int) pe_int)) pa_nil))))
    (pss_one (ps_ret (pe_lst (pa_cons (pv 2) (pa_cons (pv 3) (pa_cons (pe_kp k_law_row (hr.mono (by decide)) (by rfl) (pa_cons (pv 0) (pa_cons (pv 4) pa_nil))) pa_nil)))))))))), ?_⟩
  refine ⟨_, rfl, _, rfl, d, rfl, hd, fun i0 => .inl ⟨_, rfl, _, _, rfl, rfl, (by show (0 : Int) < 3; decide), _, _, rfl, rfl, ?_⟩⟩
  have a0 := Int.emod_nonneg i0 (show (3 : Int) ≠ 0 by decide)
  have a1 := Int.emod_lt_of_pos i0 (show (0 : Int) < 3 by decide)
  refine ⟨d, (1 + i0 % 3).toNat, ?_, hd, by omega, by omega, by decide, fun vt t H1 s1 ht hz hok => ?_⟩
  · show [V.ref d, V.int (1 + i0 % 3)] = [V.ref d, V.int (((1 + i0 % 3).toNat : Nat) : Int)]
    rw [Int.toNat_of_nonneg (by omega)]
  have hsz : t.size ≤ 3 := by omega
  refine ⟨_, rfl, vt, t, rfl, ht, hsz, fun vn L H2 s2 hP pm => ?_⟩
  have s02 := Same.trans s1 s2
  refine ⟨_, rfl, d, rfl, s02 _ _ hd, fun i1 => .inl ⟨_, rfl, _, rfl, _, _, rfl, rfl, _, _, rfl, rfl, (by show (0 : Int) < 5 + 1; decide), ?_⟩⟩
  have b0 := Int.emod_nonneg i1 (show (5 + 1 : Int) ≠ 0 by decide)
  have b1 := Int.emod_lt_of_pos i1 (show (0 : Int) < 5 + 1 by decide)
  obtain ⟨p, dv, l0, x0, x1, x2, ys, zs, rfl, n1, n2, n3, n4, n5⟩ := id hP
  have hyl : ys.length = t.size := by
    have := n3.length
    rw [List.length_map, net_devs] at this
    exact this
  refine ⟨_, rfl, _, rfl, _, _, rfl, rfl, _, rfl, p, _, _, _, rfl, rfl, SqL.of n1, at_of (j := 3) rfl rfl, dv, _, rfl, .inl (SqL.of n2), _, _, rfl, rfl, _, rfl, d, rfl, s02 _ _ hd, fun i2 => .inl ⟨_, rfl, _, _, rfl, rfl, (by show (0 : Int) < 8; decide), _, _, rfl, rfl, ⟨by decide, by decide⟩, _, _, rfl, rfl, _, _, rfl, ?_⟩⟩
  have c0 := Int.emod_nonneg i2 (show (8 : Int) ≠ 0 by decide)
  have c1 := Int.emod_lt_of_pos i2 (show (0 : Int) < 8 by decide)
  generalize hsz' : (if 5 + 1 - (ys.length : Int) + i2 % 8 / 7 < i1 % (5 + 1) then 5 + 1 - (ys.length : Int) + i2 % 8 / 7 else i1 % (5 + 1)) = z
  have hz0 : 0 ≤ z := by
    rw [← hsz']
    split <;> omega
  have hz1 : z ≤ 5 := by
    rw [← hsz']
    split <;> omega
  refine ⟨_, rfl, _, rfl, _, rfl, _, rfl, d, z.toNat, ?_, s02 _ _ hd, by omega, fun q row H3 s3 f3 h3 pr => ⟨(szl rfl), fun r hr' => ?_⟩⟩
  · show [V.ref d, V.int z] = [V.ref d, V.int ((z.toNat : Nat) : Int)]
    rw [Int.toNat_of_nonneg hz0]
  have s4 := Same.new (o := .lst [vt, .ref p, .ref q]) hr'
  have hrl : row.length = z.toNat := by rw [pr.length_eq, upTo_len]
  exact kq r q vt (.ref p) t L row _ (Same.trans s02 (Same.trans s3 s4)) upd_same (TreeAt.same (Same.trans s2 (Same.trans s3 s4)) ht) hok hsz (hP.same (Same.trans s3 s4)) pm (s4 _ _ h3) (by rw [hrl]; exact pr) (by omega)
end
end Ys
/-! What the law draws: _law_placed. -/
namespace Ys
open PySem PySem.Spec PyProof.Rows L2
theorem inV_ints (i : Int) (ns : List Int) : inV (.int i) (ns.map V.int) = decide (i ∈ ns) := by
  unfold inV
  induction ns with
  | nil => simp
  | cons n ns ih =>
    rw [List.map_cons, List.any_cons, ih]
    by_cases h : n = i
    · simp [eqV, h]
    · have h' : ¬ i = n := fun z => h z.symm
      simp [eqV, h, h']
theorem flat_ints (ns : List Int) : (ns.map V.int).all flatV = true := by
  rw [List.all_eq_true]
  intro x hx
  obtain ⟨i, _, rfl⟩ := List.mem_map.mp hx
  rfl
theorem part_perm {l g : List Int} (hl : l.Nodup) (hg : g.Nodup) (hs : ∀ x ∈ g, x ∈ l) : (g ++ l.filter fun x => decide (x ∉ g)).Perm l := by
  rw [List.perm_iff_count]
  intro a
  rw [List.count_append]
  by_cases h : a ∈ g
  · have h1 : (l.filter fun x => decide (x ∉ g)).count a = 0 := by
      rw [List.count_eq_zero]
      intro z
      have := (List.mem_filter.mp z).2
      simp [h] at this
    rw [h1, hg.count, hl.count, if_pos h, if_pos (hs a h)]
  · rw [List.count_eq_zero.mpr h, List.count_filter (by simp [h])]
    omega
theorem upTo_nodup (n : Nat) : (upTo n).Nodup := by
  unfold upTo
  refine nd_map (fun x y e => ?_) List.nodup_range
  have e' : (x : Int) + 1 = (y : Int) + 1 := e
  omega
theorem flat_set {l : List (List Int)} {j : Nat} {x : List Int} {y : List Int} {v : Int} (h : l[j]? = some x) (p : y.Perm (v :: x)) : (l.set j y).flatten.Perm (v :: l.flatten) := by
  induction l generalizing j with
  | nil => simp at h
  | cons a l ih =>
    cases j with
    | zero =>
      have e : a = x := Option.some.inj h
      subst e
      rw [List.set_cons_zero, List.flatten_cons, List.flatten_cons]
      exact p.append_right _
    | succ j =>
      rw [List.set_cons_succ, List.flatten_cons, List.flatten_cons]
      refine ((ih (by simpa using h)).append_left a).trans ?_
      exact List.perm_middle
theorem good_start {devs : List Dev} {row : List Int} : Good devs row (startS devs.length) := by
  refine ⟨by simp [startS], Nat.zero_le _, fun k d l hd hl hb => ?_, ?_⟩
  · have hl' : (List.replicate devs.length ([] : List Int))[k]? = some l := hl
    rw [List.getElem?_replicate] at hl'
    split at hl'
    · rw [← Option.some.inj hl']
      exact Nat.zero_le _
    · cases hl'
  · show ([] ++ (List.replicate devs.length ([] : List Int)).flatten).Perm (row.take 0)
    simp
theorem live_start (n : Nat) : Live (startS n) := rfl
def rTupOf (K : PySem.W.Frag) : List V → Hp → VK → Prop := fun xs H Q => ∃ p ys, xs = [.ref p] ∧ ((SqL K H p ys ∧ ∀ l, H l = none → Q (.ref l) (upd H l (.tup ys))) ∨ (SqT K H p ys ∧ Q (.ref p) H))
def LA (H : Hp) : List Addr → List (List Int) → Prop
  | [], [] => True
  | a :: as, l :: hs => H a = some (.lst (l.map V.int)) ∧ LA H as hs
  | _, _ => False
theorem LA.len {H : Hp} : ∀ {as : List Addr} {hs : List (List Int)}, LA H as hs → as.length = hs.length
  | [], [], _ => rfl
  | a :: as, l :: hs, h => congrArg (· + 1) (LA.len h.2)
  | [], _ :: _, h => h.elim
  | _ :: _, [], h => h.elim
theorem LA.keep {H H' : Hp} : ∀ {as : List Addr} {hs : List (List Int)}, (∀ a ∈ as, H' a = H a) → LA H as hs → LA H' as hs
  | [], [], _, h => h
  | a :: as, l :: hs, e, h => ⟨(e a (List.mem_cons_self ..)).trans h.1, LA.keep (fun b hb => e b (List.mem_cons_of_mem _ hb)) h.2⟩
  | [], _ :: _, _, h => h.elim
  | _ :: _, [], _, h => h.elim
theorem LA.same {H H' : Hp} (s : Same H H') : ∀ {as : List Addr} {hs : List (List Int)}, LA H as hs → LA H' as hs
  | [], [], h => h
  | a :: as, l :: hs, h => ⟨s _ _ h.1, LA.same s h.2⟩
  | [], _ :: _, h => h.elim
  | _ :: _, [], h => h.elim
theorem LA.get {H : Hp} : ∀ {as : List Addr} {hs : List (List Int)} {j : Nat} {a : Addr}, LA H as hs → as[j]? = some a → ∃ l, hs[j]? = some l ∧ H a = some (.lst (l.map V.int))
  | a :: as, l :: hs, 0, b, h, e => by
    have e' : a = b := Option.some.inj e
    subst e'
    exact ⟨l, rfl, h.1⟩
  | a :: as, l :: hs, j + 1, b, h, e => LA.get (j := j) h.2 e
  | [], _, _, _, _, e => by simp at e
  | _ :: _, [], _, _, h, _ => h.elim
theorem LA.put {H : Hp} {y : List Int} : ∀ {as : List Addr} {hs : List (List Int)} {j : Nat} {a : Addr}, as.Nodup → LA H as hs → as[j]? = some a → LA (upd H a (.lst (y.map V.int))) as (hs.set j y)
  | a :: as, l :: hs, 0, b, n, h, e => by
    have e' : a = b := Option.some.inj e
    subst e'
    obtain ⟨n1, n2⟩ := List.nodup_cons.mp n
    exact ⟨upd_same, LA.keep (fun c hc => upd_ne fun z => n1 (by rw [← z]; exact hc)) h.2⟩
  | a :: as, l :: hs, j + 1, b, n, h, e => by
    obtain ⟨n1, n2⟩ := List.nodup_cons.mp n
    have hb : b ∈ as := List.mem_of_getElem? (show as[j]? = some b from e)
    exact ⟨(upd_ne fun z => n1 (by rw [z]; exact hb)).trans h.1, LA.put (j := j) n2 h.2 e⟩
  | [], _, _, _, _, _, e => by simp at e
  | _ :: _, [], _, _, _, h, _ => h.elim
theorem LA.snoc {H : Hp} {b : Addr} {l : List Int} (hb : H b = some (.lst (l.map V.int))) : ∀ {as : List Addr} {hs : List (List Int)}, LA H as hs → LA H (as ++ [b]) (hs ++ [l])
  | [], [], _ => ⟨hb, trivial⟩
  | a :: as, m :: hs, h => ⟨h.1, LA.snoc hb h.2⟩
  | [], _ :: _, h => h.elim
  | _ :: _, [], h => h.elim
section
variable {P : Program} {w : World} {K : PySem.W.Frag} {mg : Str → Option Value} {base : Heap}
abbrev s_law_placed : Stmt := top 61
theorem sc_law_placed : FnScope ["_law_draws_here", "_law_net_here", "_law_row_here", "_law_came", "_law_wagons", "_law_gone", "_law_wagon", "_law_device", "_law_held", "_law_k"] ["_law_draws_here", "_law_net_here", "_law_row_here"] (defScope s_law_placed) := ⟨rfl, rfl, rfl, by decide +kernel, rfl, by decide +kernel, by decide +kernel⟩
theorem bd_law_placed : BindsAs "_law_placed" "_law_placed" s_law_placed ["_law_draws_here", "_law_net_here", "_law_row_here"] := fun _ _ _ _ _ _ us hl => match us, hl with | [_, _, _], _ => rfl
def spPlaced : Sp := fun vs H Q _ => ∃ (d ra : Addr) (vn : V) (devs : List Dev) (L : List (Int × Int)) (row : List Int), vs = [.ref d, vn, .ref ra] ∧ H d = some (drawsO d) ∧ PlanAt H vn devs L ∧ 1 ≤ devs.length ∧ devs.length ≤ 1000 ∧ H ra = some (.lst (row.map V.int)) ∧ Row row ∧
  ∀ (v : V) (S : Sit) (H' : Hp), Same H H' → Dt H' v (dSit S) → Good devs row S → Live S → Q v H'
theorem ok_placed (G : Glo mg) (D : DefAt K mg "_law_placed" s_law_placed) (k_law_next : Kp P w K mg base "_law_next" 1 ["_law_draws_here"] spNext) (k_law_start : Kp P w K mg base "_law_start" 1 ["_law_net_here"] spLStart) : Kp P w K mg base "_law_placed" 2 ["_law_draws_here", "_law_net_here", "_law_row_here"] spPlaced := by
  refine kp_of D sc_law_placed bd_law_placed (fun vs H Q E ⟨_, _, _, _, _, _, h, _⟩ => by rw [h]; rfl) fun f cdv A outer s H vs Q E hr h => ?_
  obtain ⟨d, ra, vn, devs, L, row, rfl, hd, hP, hd1, hd2, hrow, R, kq⟩ := h
  have hhn : (defScope s_law_placed).names.lookup ("_law_held" : Str) = some .local := by decide +kernel
  refine ⟨_, (pss_cons (ps_set (i := 3) sc_law_placed.nd rfl (Or.inl rfl) (pe_op op_mod (pe_callTy call_int1 (by rfl) G.int (by decide +kernel) (pa_cons (pe_kp k_law_next hr (by rfl) (pa_cons (pv 0) pa_nil)) pa_nil)) (pe_op op_add (pe_callB call_len_seq (by rfl) G.len PySem.boot_len (pa_cons (pv 2) pa_nil)) pe_int)))
    (pss_cons (ps_set (i := 4) sc_law_placed.nd rfl (Or.inl rfl) (pe_callB cr_sortedI (by rfl) G.sorted (by decide +kernel) (pa_cons (pe_slice sl_list (pv 2) po_none (po_some (pv 3))) pa_nil)))
    (pss_cons (ps_set (i := 5) sc_law_placed.nd rfl (Or.inl rfl) (pe_lst pa_nil))
    (Evl.pss_cut (ps_for PassesOwn.never rfl (pi_range2 (by rfl) G.range (pa_cons pe_int (pa_cons (pe_op op_add (pe_callB call_len_seq (by rfl) G.len PySem.boot_len (pa_cons (pv 2) pa_nil)) pe_int) pa_nil))) (pg_name (i := 6) sc_law_placed.nd rfl (Or.inl rfl))
      (pss_cons (ps_if (PW.pt (pw_or (pt_cmpR op_notIn_seq (pv 6) (pv 4) rfl) (pw_or1 (pt_cmpR op_eq (pe_op op_mod (pe_callTy call_int1 (by rfl) G.int (by decide +kernel) (pa_cons (pe_kp k_law_next hr (by rfl) (pa_cons (pv 0) pa_nil)) pa_nil)) pe_int) pe_int (nomark _)))))
        (pss_one ps_break)
        pss_nil)
      (pss_one (ps_expr (pe_bm PySem.F.plainAttrs_list PySem.F.slot_list_append PySem.F.type_list_append mt_append (pv 5) (pa_cons (pv 6) pa_nil))))))
    (pss_cons (ps_setLc (i := 8) (own := [("_law_device", 7)]) (g := gName 7) rfl sc_law_placed.nd rfl hhn (sw_true rfl hhn (by decide +kernel) (by decide +kernel)) (pi_list (pe_ix ix_list (pv 1) pe_int (fun _ _ => rfl))) (blkOk_by (N := ["_law_draws_here", "_law_net_here", "_law_row_here", "_law_came", "_law_wagons", "_law_gone", "_law_wagon", "_law_device", "_law_held", "_law_k"]) (sc := defScope s_law_placed) (by decide +kernel)) (fun _ _ _ _ _ => pg_name (i := 7) sc_law_placed.nd rfl (Or.inl rfl)) (fun _ _ _ _ _ => pts_nil) (fun _ _ _ _ _ => (pe_lst pa_nil)))
    (pss_cons (ps_for PassesOwn.never rfl (pi_list (pv 4)) (pg_name (i := 6) sc_law_placed.nd rfl (Or.inl rfl))
      (pss_one (ps_if (pt_cmpR op_notIn_seq (pv 6) (pv 5) rfl)
        (pss_cons (ps_set (i := 7) sc_law_placed.nd rfl (Or.inl rfl) (pe_ix ix_list (pv 8) (pe_op op_mod (pe_callTy call_int1 (by rfl) G.int (by decide +kernel) (pa_cons (pe_kp k_law_next hr (by rfl) (pa_cons (pv 0) pa_nil)) pa_nil)) (pe_callB call_len_seq (by rfl) G.len PySem.boot_len (pa_cons (pv 8) pa_nil))) (fun _ _ => rfl)))
        (pss_one (ps_expr (pe_bm PySem.F.plainAttrs_list PySem.F.slot_list_insert PySem.F.type_list_insert mt_insert (pv 7) (pa_cons (pe_op op_mod (pe_callTy call_int1 (by rfl) G.int (by decide +kernel) (pa_cons (pe_kp k_law_next hr (by rfl) (pa_cons (pv 0) pa_nil)) pa_nil)) (pe_op op_add (pe_callB call_len_seq (by rfl) G.len PySem.boot_len (pa_cons (pv 7) pa_nil)) pe_int)) (pa_cons (pv 6) pa_nil))))))
        pss_nil)))
    (pss_cons (ps_for PassesOwn.never rfl (pi_range1 (by rfl) G.range (pa_cons (pe_callB call_len_seq (by rfl) G.len PySem.boot_len (pa_cons (pv 8) pa_nil)) pa_nil)) (pg_name (i := 9) sc_law_placed.nd rfl (Or.inl rfl))
      (pss_one (ps_if (PW.pt (pw_and (pt_cmpR op_gt (pe_ix ix_list (pe_ix ix_list (pe_ix ix_list (pv 1) pe_int (fun _ _ => rfl)) (pv 9) (fun _ _ => rfl)) pe_int (fun _ _ => rfl)) pe_int (nomark _)) (pw_and1 (pt_cmpR op_gt (pe_callB call_len_seq (by rfl) G.len PySem.boot_len (pa_cons (pe_ix ix_list (pv 8) (pv 9) (fun _ _ => rfl)) pa_nil)) (pe_ix ix_list (pe_ix ix_list (pe_ix ix_list (pv 1) pe_int (fun _ _ => rfl)) (pv 9) (fun _ _ => rfl)) pe_int (fun _ _ => rfl)) (nomark _)))))
        (pss_one (ps_ret (pe_kp k_law_start hr (by rfl) (pa_cons (pv 1) pa_nil))))
        pss_nil)))
    (pss_one (ps_ret (pe_tup (pa_cons (pv 3) (pa_cons (pe_callTy call_tuple_of (by rfl) G.tuple (by decide +kernel) (pa_cons (pe_lc (own := [("_law_device", 7)]) (g := gName 7) (te := tCB (rTupOf K) (tCons (tVar 7) tNil)) rfl sc_law_placed.nd (pi_list (pv 8)) (blkOk_by (N := ["_law_draws_here", "_law_net_here", "_law_row_here", "_law_came", "_law_wagons", "_law_gone", "_law_wagon", "_law_device", "_law_held", "_law_k"]) (sc := defScope s_law_placed) (by decide +kernel)) (fun _ _ _ _ _ => pg_name (i := 7) sc_law_placed.nd rfl (Or.inl rfl)) (fun _ _ _ _ _ => pts_nil) (fun _ _ _ _ _ => (pe_callTy call_tuple_of (by rfl) G.tuple (by decide +kernel) (pa_cons (pv 7) pa_nil)))) pa_nil)) (pa_cons (pe_callTy call_tuple_of (by rfl) G.tuple (by decide +kernel) (pa_cons (pv 5) pa_nil)) pa_nil))))))))))))), ?_⟩
  have hrl := R.len
  refine ⟨_, rfl, d, rfl, hd, fun i0 => .inl ⟨_, rfl, _, rfl, ra, _, rfl, .inl (SqL.of hrow), _, _, rfl, rfl, _, _, rfl, rfl, ?_, ?_⟩⟩
  · rw [List.length_map]
    omega
  rw [List.length_map]
  have p0 : 0 ≤ i0 % ((row.length : Int) + 1) := Int.emod_nonneg _ (by omega)
  have p1 : i0 % ((row.length : Int) + 1) < (row.length : Int) + 1 := Int.emod_lt_of_pos _ (by omega)
  obtain ⟨c, hc⟩ := Int.eq_ofNat_of_zero_le p0
  have ec : (fun i j : Int => V.int (i % j)) i0 ((row.length : Int) + 1) = V.int (c : Int) := congrArg V.int hc
  rw [ec]
  rw [hc] at p1
  have hcl : c ≤ row.length := by omega
  -- wagons
  refine ⟨_, rfl, _, rfl, _, rfl, ra, _, rfl, SqL.of hrow, fun q0 hq0 => ?_⟩
  have s0 := Same.new (o := .lst (cutV (row.map V.int) none (some ((c : Nat) : Int)))) hq0
  refine ⟨q0, row.take c, rfl, SqL.of (by rw [upd_same, cut_take, List.map_take]), fun ws wl pmw sow hwl => ?_⟩
  have s1 := Same.trans s0 (Same.new (o := .lst (ws.map V.int)) hwl)
  have hw1 : upd (upd H q0 (.lst (cutV (row.map V.int) none (some ((c : Nat) : Int))))) wl (.lst (ws.map V.int)) wl = some (.lst (ws.map V.int)) := upd_same
  have nwl0 : H wl = none := Same.free s0 hwl
  generalize upd (upd H q0 (.lst (cutV (row.map V.int) none (some ((c : Nat) : Int))))) wl (.lst (ws.map V.int)) = H1 at s1 hw1 ⊢
  have hwn : ws.Nodup := by
    have h1 : (row.take c).Nodup := (R.perm.nodup_iff.mpr (upTo_nodup _)).sublist (List.take_sublist _ _)
    exact pmw.nodup_iff.mpr h1
  have hwlen : ws.length = c := by
    rw [pmw.length_eq, List.length_take]
    omega
  -- gone
  refine ⟨Nat.zero_le _, fun gl hgl => ?_⟩
  have s2 := Same.trans s1 (Same.new (o := .lst []) hgl)
  have ngl0 : H gl = none := Same.free s1 hgl
  have nwg : wl ≠ gl := ne_of_none hw1 hgl
  refine ⟨fun σ' H' => ∃ (g : Nat) (v6 : Option V), σ' = [some (.ref d), some vn, some (.ref ra), some (.int (c : Int)), some (.ref wl), some (.ref gl), v6, none, none, none] ∧ Same H H' ∧ H' wl = some (.lst (ws.map V.int)) ∧ H' gl = some (.lst ((upTo g).map V.int)) ∧ (∀ x ∈ upTo g, x ∈ ws) ∧ g ≤ 60, ?_, ?_⟩
  · refine ⟨_, rfl, ra, _, rfl, .inl (SqL.of (s2 _ _ hrow)), _, _, rfl, rfl, 1, ((row.map V.int).length : Int) + 1, rfl, ⟨by decide, by decide, by omega, by rw [List.length_map]; omega⟩, for_range
      (fun i σ H' => ∃ v6 : Option V, σ = [some (.ref d), some vn, some (.ref ra), some (.int (c : Int)), some (.ref wl), some (.ref gl), v6, none, none, none] ∧ Same H H' ∧ H' wl = some (.lst (ws.map V.int)) ∧ H' gl = some (.lst ((upTo i).map V.int)) ∧ (∀ x ∈ upTo i, x ∈ ws))
      ⟨_, rfl, s2, (upd_ne nwg).trans hw1, upd_same, fun _ z => (List.not_mem_nil z).elim⟩ ?_ ?_⟩
    · rintro i σ H2 hi ⟨v6, rfl, t2, hw2, hg2, hin⟩
      have hi60 : i < 60 := by
        rw [List.length_map] at hi
        omega
      refine ⟨_, rfl, _, rfl, wl, _, rfl, .inl (SqL.of hw2), rfl, flat_ints _, _, rfl, ?_⟩
      show if (!inV (.int (1 + (i : Int))) (ws.map V.int)) = true then _ else _
      rw [inV_ints]
      by_cases hm : (1 + (i : Int)) ∈ ws
      · refine iteNF hm ?_
        refine ⟨_, rfl, d, rfl, t2 _ _ hd, fun i1 => .inl ⟨_, rfl, _, _, rfl, rfl, (by show (0 : Int) < 2; decide), rfl, _, rfl, iteD2 (fun _ => ?_) (fun _ => ?_)⟩⟩
        · exact ⟨i, _, rfl, t2, hw2, hg2, hin, by omega⟩
        · refine ⟨_, rfl, .inl ⟨rfl, _, SqL.of hg2⟩, _, rfl, gl, _, _, rfl, rfl, hg2, by rw [List.length_map, upTo_len]; exact small (by omega), ?_⟩
          refine ⟨_, rfl, Same.mut t2 ngl0, (upd_ne nwg).trans hw2, ?_, fun x hx => ?_⟩
          · rw [upd_same, upTo_succ, List.map_append]
            have e : (i : Int) + 1 = 1 + (i : Int) := by omega
            rw [e]
            rfl
          · rw [upTo_succ] at hx
            rcases List.mem_append.mp hx with hx | hx
            · exact hin x hx
            · have e : (i : Int) + 1 = 1 + (i : Int) := by omega
              rw [List.mem_singleton.mp hx, e]
              exact hm
      · refine iteNT hm ?_
        exact iteT ⟨i, _, rfl, t2, hw2, hg2, hin, by omega⟩
    · rintro σ H2 ⟨v6, rfl, t2, hw2, hg2, hin⟩
      exact ⟨_, _, rfl, t2, hw2, hg2, hin, by rw [List.length_map]; omega⟩
  rintro σ' H2 ⟨g, v6, rfl, t2, hw2, hg2, hin, hg60⟩
  -- held
  obtain ⟨p, dv, l0, x0, x1, x2, ys, zs, rfl, n1, n2, n3, n4, n5⟩ := id hP
  have hyl : ys.length = devs.length := by
    have := n3.length
    rw [List.length_map] at this
    exact this
  refine ⟨_, rfl, p, _, _, _, rfl, rfl, SqL.of (t2 _ _ n1), at_of (j := 3) rfl rfl, dv, rfl, ⟨_, SqL.of (t2 _ _ n2)⟩, fun h hh => lc_list (K := K) (a := dv) (xs := ys)
    (fun i H' => Same H2 H' ∧ ∃ as : List Addr, H' h = some (.lst (as.map V.ref)) ∧ as.Nodup ∧ (∀ a ∈ as, H2 a = none ∧ a ≠ h) ∧ LA H' as (List.replicate i []) ∧ as.length = i)
    ⟨Same.new hh, [], upd_same, List.nodup_nil, fun _ z => (List.not_mem_nil z).elim, trivial, rfl⟩ (fun i H' _ ⟨z, _⟩ => SqL.of (z _ _ (t2 _ _ n2))) ?_ ?_⟩
  · rintro i x H3 hi ⟨t3, as, h3, nd, fr, la, hl⟩
    have hil := lt_of_get hi
    refine ⟨rfl, Nat.zero_le _, fun b hb => ?_⟩
    have nhb : h ≠ b := ne_of_none h3 hb
    have sb := Same.new (o := .lst []) hb
    have hb2 : H2 b = none := Same.free t3 hb
    have nba : b ∉ as := fun z => by
      obtain ⟨j, hj⟩ := List.mem_iff_getElem?.mp z
      obtain ⟨l, _, e⟩ := LA.get la hj
      rw [hb] at e
      cases e
    refine ⟨_, sb _ _ h3, small (by rw [List.length_map]; omega), Same.mut (Same.trans t3 sb) hh, as ++ [b], ?_, ?_, ?_, ?_, by rw [List.length_append, List.length_singleton, hl]⟩
    · rw [upd_same, List.map_append]
      rfl
    · rw [List.nodup_append]
      refine ⟨nd, List.nodup_cons.mpr ⟨List.not_mem_nil, List.nodup_nil⟩, fun a ha b' hb' e => ?_⟩
      rw [List.mem_singleton] at hb'
      rw [e, hb'] at ha
      exact nba ha
    · intro a ha
      rcases List.mem_append.mp ha with ha | ha
      · exact fr a ha
      · rw [List.mem_singleton.mp ha]
        exact ⟨hb2, nhb.symm⟩
    · rw [List.replicate_succ']
      refine LA.snoc ?_ (LA.keep (fun a ha => ?_) la)
      · rw [upd_ne nhb.symm]
        exact upd_same
      · rw [upd_ne (fr a ha).2, upd_ne fun z => nba (by rw [← z]; exact ha)]
  rintro H3 ⟨t3, as, h3, nd, fr, la, hal⟩
  rw [hyl] at la hal
  have t03 := Same.trans t2 t3
  have frH : ∀ a ∈ as, H a = none ∧ a ≠ h ∧ a ≠ wl ∧ a ≠ gl := fun a ha => by
    obtain ⟨f1, f2⟩ := fr a ha
    exact ⟨Same.free t2 f1, f2, (fun z => by rw [z, hw2] at f1; cases f1), (fun z => by rw [z, hg2] at f1; cases f1)⟩
  have nh0 : H h = none := Same.free t2 hh
  -- placing
  refine ⟨_, rfl, wl, rfl, ⟨_, SqL.of (t3 _ _ hw2)⟩, for_list (K := K) (a := wl) (xs := ws.map V.int)
    (fun i σ H' => ∃ (hs : List (List Int)) (v6 v7 : Option V), σ = [some (.ref d), some (.ref p), some (.ref ra), some (.int (c : Int)), some (.ref wl), some (.ref gl), v6, v7, some (.ref h), none] ∧ Same H H' ∧ H' wl = some (.lst (ws.map V.int)) ∧ H' gl = some (.lst ((upTo g).map V.int)) ∧ H' h = some (.lst (as.map V.ref)) ∧ LA H' as hs ∧
      hs.flatten.Perm ((ws.take i).filter fun x => decide (x ∉ upTo g)))
    ⟨_, _, _, rfl, t03, t3 _ _ hw2, t3 _ _ hg2, h3, la, by simp⟩ (fun i σ H' _ ⟨_, _, _, _, _, z, _⟩ => SqL.of z) ?_ ?_⟩
  · rintro i y σ H4 hi ⟨hs, v6, v7, rfl, t4, hw4, hg4, h4, la4, pm4⟩
    obtain ⟨x, hx, rfl⟩ := map_get hi
    have hil := lt_of_get hx
    have hsl := la4.len
    have hst : ∀ q : Bool, q = decide (x ∉ upTo g) → (ws.take (i + 1)).filter (fun x => decide (x ∉ upTo g)) = (ws.take i).filter (fun x => decide (x ∉ upTo g)) ++ (if q = true then [x] else []) := by
      intro q hq
      rw [List.take_add_one, hx, List.filter_append]
      rw [hq]
      simp only [Option.toList_some, List.filter_cons, List.filter_nil]
    refine ⟨_, rfl, _, rfl, gl, _, rfl, .inl (SqL.of hg4), rfl, flat_ints _, _, rfl, ?_⟩
    show if (!inV (.int x) ((upTo g).map V.int)) = true then _ else _
    rw [inV_ints]
    by_cases hm : x ∈ upTo g
    · refine iteNF hm ⟨hs, _, _, rfl, t4, hw4, hg4, h4, la4, ?_⟩
      rw [hst false (by simp [hm])]
      simpa using pm4
    · refine iteNT hm ?_
      have apos : (0 : Int) < (as.map V.ref).length := by
        rw [List.length_map]
        omega
      refine ⟨_, rfl, _, rfl, d, rfl, t4 _ _ hd, fun i1 => .inl ⟨_, rfl, _, rfl, h, _, rfl, .inl (SqL.of h4), _, _, rfl, rfl, apos, ?_⟩⟩
      have j0 : 0 ≤ i1 % ((as.map V.ref).length : Int) := Int.emod_nonneg _ (by omega)
      have j1 : i1 % ((as.map V.ref).length : Int) < ((as.map V.ref).length : Int) := Int.emod_lt_of_pos _ apos
      obtain ⟨j, hj⟩ := Int.eq_ofNat_of_zero_le j0
      rw [List.length_map] at j1
      have hja : j < as.length := by
        rw [List.length_map] at hj
        omega
      have haj : as[j]? = some as[j] := List.getElem?_eq_getElem hja
      generalize as[j] = a at haj
      have ham : a ∈ as := List.mem_of_getElem? haj
      obtain ⟨l, hlj, hal'⟩ := LA.get la4 haj
      refine ⟨h, _, _, _, rfl, rfl, SqL.of h4, at_of hj (get_map haj), ?_⟩
      have hll : l.length ≤ 1000 := by
        have q := flat_le (l := hs) (j + 1)
        rw [flatten_take hlj, List.length_append, pm4.length_eq] at q
        have q2 := List.length_filter_le (fun x => decide (x ∉ upTo g)) (ws.take i)
        rw [List.length_take] at q2
        omega
      refine ⟨_, rfl, .inl ⟨rfl, _, SqL.of hal'⟩, _, rfl, d, rfl, t4 _ _ hd, fun i2 => .inl ⟨_, rfl, _, rfl, a, _, rfl, .inl (SqL.of hal'), _, _, rfl, rfl, _, _, rfl, rfl, by rw [List.length_map]; omega, ?_⟩⟩
      rw [List.length_map]
      have k0 : 0 ≤ i2 % ((l.length : Int) + 1) := Int.emod_nonneg _ (by omega)
      have k1 : i2 % ((l.length : Int) + 1) < (l.length : Int) + 1 := Int.emod_lt_of_pos _ (by omega)
      obtain ⟨f1, f2, f3, f4⟩ := frH a ham
      refine ⟨_, rfl, a, _, _, _, rfl, rfl, hal', by rw [List.length_map]; exact small (by omega), k0, by omega, ?_⟩
      have ey : (l.map V.int).take (i2 % ((l.length : Int) + 1)).toNat ++ [V.int x] ++ (l.map V.int).drop (i2 % ((l.length : Int) + 1)).toNat = (l.take (i2 % ((l.length : Int) + 1)).toNat ++ [x] ++ l.drop (i2 % ((l.length : Int) + 1)).toNat).map V.int := by
        rw [List.map_append, List.map_append, List.map_take, List.map_drop]
        rfl
      rw [ey]
      refine ⟨hs.set j (l.take (i2 % ((l.length : Int) + 1)).toNat ++ [x] ++ l.drop (i2 % ((l.length : Int) + 1)).toNat), _, _, rfl, Same.mut t4 f1, (upd_ne f3.symm).trans hw4, (upd_ne f4.symm).trans hg4, (upd_ne f2.symm).trans h4, LA.put nd la4 haj, ?_⟩
      refine (flat_set hlj (ins_perm _ _ _)).trans ?_
      rw [hst true (by simp [hm])]
      exact (List.Perm.cons x pm4).trans (List.perm_append_singleton _ _).symm
  rintro σ H4 ⟨hs, v6, v7, rfl, t4, hw4, hg4, h4, la4, pm4⟩
  rw [List.length_map, List.take_length] at pm4
  have hsl := la4.len
  -- the bounds
  refine ⟨_, rfl, h, _, rfl, .inl (SqL.of h4), _, rfl, by omega, by rw [List.length_map]; omega, for_range
    (fun i σ H' => ∃ v9 : Option V, σ = [some (.ref d), some (.ref p), some (.ref ra), some (.int (c : Int)), some (.ref wl), some (.ref gl), v6, v7, some (.ref h), v9] ∧ H' = H4 ∧ ∀ (j : Nat) (dd : Dev) (l : List Int), j < i → devs[j]? = some dd → hs[j]? = some l → 0 < dd.bound → l.length ≤ dd.bound)
    ⟨_, rfl, rfl, fun j _ _ hj => absurd hj (Nat.not_lt_zero _)⟩ ?_ ?_⟩
  · rintro i σ H5 hi ⟨v9, rfl, rfl, hbn⟩
    have hia : i < as.length := by
      rw [List.length_map] at hi
      omega
    have hid : i < devs.length := by omega
    have hdi : devs[i]? = some devs[i] := List.getElem?_eq_getElem hid
    generalize devs[i] = dd at hdi
    have haj : as[i]? = some as[i] := List.getElem?_eq_getElem hia
    generalize as[i] = a at haj
    obtain ⟨l, hlj, hal'⟩ := LA.get la4 haj
    obtain ⟨yv, y1, y2⟩ := n3.get (get_map (f := dDev) hdi)
    obtain ⟨ya, rfl, hya⟩ := dev_inv y2
    have ei : (0 : Int) + (i : Int) = ((i : Nat) : Int) := by omega
    have ai : ∀ {xs : List V} {v : V}, xs[i]? = some v → atI xs (0 + (i : Int)) = some v := fun {xs v} e => at_of ei e
    refine ⟨_, rfl, p, _, _, _, rfl, rfl, SqL.of (t4 _ _ n1), at_of (j := 3) rfl rfl, _, rfl, dv, _, _, _, rfl, rfl, SqL.of (t4 _ _ n2), ai y1, ya, _, _, _, rfl, rfl, SqL.of (t4 _ _ hya), at_of (j := 1) rfl rfl, _, _, rfl, rfl, _, rfl,
      and_test (c1 := (0 : Int) < ((dd.bound : Nat) : Int)) (c2 := ((dd.bound : Nat) : Int) < ((l.map V.int).length : Nat)) (fun c1 c2 => ?_) (fun cc => ?_) (fun z => ⟨_, rfl, _, rfl, h, _, _, _, rfl, rfl, SqL.of h4, ai (get_map haj), a, _, rfl, .inl (SqL.of hal'), _, rfl, p, _, _, _, rfl, rfl, SqL.of (t4 _ _ n1), at_of (j := 3) rfl rfl, _, rfl, dv, _, _, _, rfl, rfl, SqL.of (t4 _ _ n2), ai y1, ya, _, _, _, rfl, rfl, SqL.of (t4 _ _ hya), at_of (j := 1) rfl rfl, _, _, rfl, rfl, _, rfl, z⟩)⟩
    · refine ⟨_, rfl, .ref p, devs, L, rfl, hP.same t4, hd2, fun v H6 s6 hv => ?_⟩
      exact kq v _ H6 (Same.trans t4 s6) hv good_start (live_start _)
    · refine ⟨_, rfl, rfl, fun j de l' hj he hl' hb => ?_⟩
      by_cases e : j = i
      · subst e
        rw [hdi] at he
        rw [hlj] at hl'
        obtain rfl := Option.some.inj he
        obtain rfl := Option.some.inj hl'
        rw [List.length_map] at cc
        omega
      · exact hbn j de l' (by omega) he hl' hb
  rintro σ H5 ⟨v9, rfl, rfl, hbn⟩
  -- the situation
  have few : hs.flatten.length ≤ 1000 := by
    have q2 := List.length_filter_le (fun x => decide (x ∉ upTo g)) ws
    rw [pm4.length_eq]
    omega
  refine ⟨_, rfl, _, rfl, h, rfl, ⟨_, SqL.of h4⟩, fun D1 hD1 => lc_list (K := K) (a := h) (xs := as.map V.ref)
    (fun i H' => Same H5 H' ∧ ∃ us, H' D1 = some (.lst us) ∧ DtAll H' us ((hs.take i).map dInts) ∧ us.length = i)
    ⟨Same.new hD1, [], upd_same, .nil, rfl⟩ (fun i H' _ ⟨z, _⟩ => SqL.of (z _ _ h4)) ?_ ?_⟩
  · rintro i y H6 hi ⟨s6, us, h6, hD6, hl6⟩
    obtain ⟨a, haj, rfl⟩ := map_get hi
    have hil := lt_of_get haj
    obtain ⟨l, hlj, hal'⟩ := LA.get la4 haj
    refine ⟨rfl, _, rfl, a, _, rfl, .inl ⟨SqL.of (s6 _ _ hal'), fun tt ht => ?_⟩⟩
    have nDt : D1 ≠ tt := ne_of_none h6 ht
    have sN := Same.new (o := .tup (l.map V.int)) ht
    refine ⟨us, (upd_ne nDt).trans h6, small (by omega), Same.mut (Same.trans s6 sN) hD1, us ++ [.ref tt], upd_same, ?_, by rw [List.length_append, List.length_singleton, hl6]⟩
    rw [map_take_add hlj]
    refine DtAll.snoc ?_ (.tup (by rw [upd_ne nDt.symm]; exact upd_same) (.ints _))
    exact hD6.tups (Tups.trans (Tups.of_same sN) (Tups.put ((upd_ne nDt).trans h6) (fun _ z => nomatch z))) _ _ (noLists_map noList_ints _)
  rintro H6 ⟨s6, us, h6, hD6, hl6⟩
  rw [List.length_map, hsl, List.take_length] at hD6
  refine ⟨D1, us, rfl, .inl ⟨SqL.of h6, fun b hb => ?_⟩⟩
  have s7 := Same.new (o := .tup us) hb
  refine ⟨_, rfl, gl, _, rfl, .inl ⟨SqL.of (s7 _ _ (s6 _ _ hg4)), fun gt hgt => ⟨(szl rfl), fun tt ht => ?_⟩⟩⟩
  have s8 := Same.new (o := .tup ((upTo g).map V.int)) hgt
  have s9 := Same.new (o := .tup [.int (c : Int), .ref b, .ref gt]) ht
  refine kq (.ref tt) ⟨c, hs, upTo g⟩ _ (Same.trans t4 (Same.trans s6 (Same.trans s7 (Same.trans s8 s9)))) (sit_mk upd_same (s9 _ _ (s8 _ _ upd_same)) (hD6.same (Same.trans s7 (Same.trans s8 s9))) (s9 _ _ upd_same)) ⟨by show hs.length = devs.length; omega, hcl, fun j de l he hl hb => hbn j de l ?_ he hl hb, ?_⟩ ?_
  · have := lt_of_get hl
    rw [List.length_map]
    show j < ((as.length : Nat) : Int).toNat
    rw [Int.toNat_natCast]
    have hlt : j < hs.length := this
    omega
  · exact ((pm4.append_left _).trans (part_perm hwn (upTo_nodup g) hin)).trans pmw
  · show upTo g = upTo (upTo g).length
    rw [upTo_len]
end
end Ys
/-! What the law reaches: _law_reached. -/
namespace Ys
open PySem PySem.Spec PyProof.Rows L2
structure RInv (P : Program) (w : World) (H0 : Hp) (mt kn : Addr) (Ms : List Sit) (H : Hp) : Prop where
  same : Same H0 H
  met : ∃ ys, H mt = some (.lst ys) ∧ DtAll H ys (Ms.map dSit)
  kno : DictN P w H kn Ms
theorem RInv.same' {P : Program} {w : World} {H0 H H' : Hp} {mt kn : Addr} {Ms : List Sit} (r : RInv P w H0 mt kn Ms H) (s : Same H H') : RInv P w H0 mt kn Ms H' := by
  obtain ⟨h1, ⟨ys, h2, h3⟩, h4⟩ := r
  exact ⟨Same.trans h1 s, ⟨ys, s _ _ h2, h3.same s⟩, h4.same s⟩
theorem RInv.add {P : Program} {w : World} {H0 H1 H2 : Hp} {mt kn b : Addr} {Ms : List Sit} {S : Sit} (r : RInv P w H0 mt kn Ms H1) (n1 : H0 mt = none) (n2 : H0 kn = none) (hu : Dt H1 (.ref b) (dSit S)) (e : ∀ c, c ≠ kn → H2 c = H1 c) (d : DictN P w H2 kn (Ms ++ [S])) :
    ∃ ys, H2 mt = some (.lst ys) ∧ ys.length = Ms.length ∧ RInv P w H0 mt kn (Ms ++ [S]) (upd H2 mt (.lst (ys ++ [.ref b]))) ∧ Tups H1 (upd H2 mt (.lst (ys ++ [.ref b]))) ∧ ∀ c xs, c ≠ mt → H1 c = some (.lst xs) → upd H2 mt (.lst (ys ++ [.ref b])) c = some (.lst xs) := by
  obtain ⟨h1, ⟨ys, h2, h3⟩, h4⟩ := r
  obtain ⟨φ, hφ⟩ := h4.isExt
  have nk : ∀ {c : Addr} {o' : HO}, H1 c = some o' → (∀ φ, o' ≠ .ext φ) → H2 c = some o' := fun {c o'} q n => by
    rw [e c (fun z => by rw [z, hφ] at q; exact n φ (Option.some.inj q).symm)]
    exact q
  have h2' := nk h2 (fun _ z => nomatch z)
  obtain ⟨φ2, hφ2⟩ := d.isExt
  have nmk : mt ≠ kn := ne_of h2' hφ2 (fun z => nomatch z)
  have t1 : Tups H1 H2 := fun c xs q => nk q (fun _ z => nomatch z)
  have t2 : Tups H2 (upd H2 mt (.lst (ys ++ [.ref b]))) := Tups.put h2' (fun _ z => nomatch z)
  have t12 := Tups.trans t1 t2
  have hl := h3.length
  rw [List.length_map] at hl
  refine ⟨ys, h2', hl, ⟨fun c u q => ?_, ⟨_, upd_same, ?_⟩, d.keepT t2 (upd_ne nmk.symm)⟩, t12, fun c xs hc q => (upd_ne hc).trans (nk q (fun _ z => nomatch z))⟩
  · rw [upd_ne (ne_of_none q n1), e c (ne_of_none q n2)]
    exact h1 c u q
  · rw [List.map_append]
    exact DtAll.snoc (h3.sitsT t12) (Dt.tups t12 _ _ (noList_sit S) hu)
def AllGood (devs : List Dev) (row : List Int) (Ms : List Sit) : Prop := ∀ S ∈ Ms, Good devs row S ∧ Live S
theorem AllGood.snoc {devs : List Dev} {row : List Int} {Ms : List Sit} {S : Sit} (h : AllGood devs row Ms) (g : Good devs row S) (l : Live S) : AllGood devs row (Ms ++ [S]) := fun T hT => by
  rcases List.mem_append.mp hT with hT | hT
  · exact h T hT
  · rw [List.mem_singleton.mp hT]
    exact ⟨g, l⟩
section
variable {P : Program} {w : World} {K : PySem.W.Frag} {mg : Str → Option Value} {base : Heap}
abbrev s_law_reached : Stmt := top 62
theorem sc_law_reached : FnScope ["_law_net_here", "_law_row_here", "_law_starts", "_law_met", "_law_known", "_law_start_here", "_law_k", "_law_move", "_law_following"] ["_law_net_here", "_law_row_here", "_law_starts"] (defScope s_law_reached) := ⟨rfl, rfl, rfl, by decide +kernel, rfl, by decide +kernel, by decide +kernel⟩
theorem bd_law_reached : BindsAs "_law_reached" "_law_reached" s_law_reached ["_law_net_here", "_law_row_here", "_law_starts"] := fun _ _ _ _ _ _ us hl => match us, hl with | [_, _, _], _ => rfl
def spReached : Sp := fun vs H Q _ => ∃ (vn : V) (ra sl : Addr) (devs : List Dev) (L : List (Int × Int)) (row : List Int) (xs : List V) (Ss : List Sit), vs = [vn, .ref ra, .ref sl] ∧ PlanAt H vn devs L ∧ H ra = some (.lst (row.map V.int)) ∧ row.length ≤ 60 ∧ devs.length ≤ 1000 ∧ LinksOk devs.length L ∧ L.length ≤ 15 ∧
  H sl = some (.lst xs) ∧ DtAll H xs (Ss.map dSit) ∧ AllGood devs row Ss ∧ Ss.length ≤ 10 ∧ ∀ (p : Addr) (ys : List V) (Ms : List Sit) (H' : Hp), Same H H' → H p = none → H' p = some (.lst ys) → DtAll H' ys (Ms.map dSit) → (∀ S ∈ Ss, S ∈ Ms) → AllGood devs row Ms → Ms.length ≤ 100000 →
    (Ms.length ≤ 1500 → ∀ S ∈ Ms, ∀ m ∈ moves L devs row.length S, Live (after row S m) → after row S m ∈ Ms) → Q (.ref p) H'
theorem ok_reached (G : Glo mg) (D : DefAt K mg "_law_reached" s_law_reached) (k_law_moves : Kp P w K mg base "_law_moves" 2 ["_law_net_here", "_law_row_here", "_law_situation"] spLMoves) (k_law_behind : Kp P w K mg base "_law_behind" 1 ["_law_row_here", "_law_situation", "_law_move"] spBehind)
    (k_law_live : Kp P w K mg base "_law_live" 1 ["_law_situation"] spLive) : Kp P w K mg base "_law_reached" 3 ["_law_net_here", "_law_row_here", "_law_starts"] spReached := by
  refine kp_of D sc_law_reached bd_law_reached (fun vs H Q E ⟨_, _, _, _, _, _, _, _, h, _⟩ => by rw [h]; rfl) fun f cdv A outer s H vs Q E hr h => ?_
  obtain ⟨vn, ra, sl, devs, L, row, xs, Ss, rfl, hP, hrow, hrl, hdl, hL, hLl, hsl, hxs, hgd, hfew, kq⟩ := h
  have hu := hr.units
  have hr1 := hr.mono (show 1 ≤ 2 by decide)
  refine ⟨_, (pss_cons (ps_set (i := 3) sc_law_reached.nd rfl (Or.inl rfl) (pe_lst pa_nil))
    (pss_cons (ps_set (i := 4) sc_law_reached.nd rfl (Or.inl rfl) pe_dnewN)
    (pss_cons (ps_for PassesOwn.never rfl (pi_list (pv 2)) (pg_name (i := 5) sc_law_reached.nd rfl (Or.inl rfl))
      (pss_one (ps_if (pt_cmpR (op_notInN hu) (pv 5) (pv 4) rfl)
        (pss_cons (ps_asg pe_int (pg_sub (pv 4) (pv 5) (set_N hu)))
        (pss_one (ps_expr (pe_bm PySem.F.plainAttrs_list PySem.F.slot_list_append PySem.F.type_list_append mt_append (pv 3) (pa_cons (pv 5) pa_nil)))))
        pss_nil)))
    (Evl.pss_cut (ps_for PassesOwn.never rfl (pi_range1 (by rfl) G.range (pa_cons pe_int pa_nil)) (pg_name (i := 6) sc_law_reached.nd rfl (Or.inl rfl))
      (pss_cons (ps_if (pt_cmpR op_ge (pv 6) (pe_callB call_len_seq (by rfl) G.len PySem.boot_len (pa_cons (pv 3) pa_nil)) (nomark _))
        (pss_one ps_break)
        pss_nil)
      (pss_one (ps_for PassesOwn.never rfl (pi_list (pe_kp k_law_moves hr (by rfl) (pa_cons (pv 0) (pa_cons (pv 1) (pa_cons (pe_ix ix_list (pv 3) (pv 6) (fun _ _ => rfl)) pa_nil))))) (pg_name (i := 7) sc_law_reached.nd rfl (Or.inl rfl))
        (pss_cons (ps_set (i := 8) sc_law_reached.nd rfl (Or.inl rfl) (pe_kp k_law_behind hr1 (by rfl) (pa_cons (pv 1) (pa_cons (pe_ix ix_list (pv 3) (pv 6) (fun _ _ => rfl)) (pa_cons (pv 7) pa_nil)))))
        (pss_one (ps_if (PW.pt (pw_and (pt_truth (pe_kp k_law_live hr1 (by rfl) (pa_cons (pv 8) pa_nil)) (by intro _; rfl)) (pw_and1 (pt_cmpR (op_notInN hu) (pv 8) (pv 4) rfl))))
          (pss_cons (ps_asg pe_int (pg_sub (pv 4) (pv 8) (set_N hu)))
          (pss_one (ps_expr (pe_bm PySem.F.plainAttrs_list PySem.F.slot_list_append PySem.F.type_list_append mt_append (pv 3) (pa_cons (pv 8) pa_nil)))))
          pss_nil)))))))
    (pss_one (ps_ret (pv 3))))))), ?_⟩
  refine ⟨Nat.zero_le _, fun mt hmt => ?_⟩
  have s0 := Same.new (o := .lst []) hmt
  intro kn H1 hkn e1 d1
  have nk0 : H kn = none := Same.free s0 hkn
  have nmk : mt ≠ kn := fun z => by rw [← z, upd_same] at hkn; cases hkn
  have hm1 : H1 mt = some (.lst []) := (e1 mt nmk).trans upd_same
  have s1 : Same H H1 := fun c u q => by
    rw [e1 c (ne_of_none q nk0)]
    exact s0 c u q
  have r1 : RInv P w H mt kn [] H1 := ⟨s1, ⟨[], hm1, .nil⟩, d1⟩
  have hxl : xs.length = Ss.length := by
    have := hxs.length
    rw [List.length_map] at this
    exact this
  -- the starts
  refine ⟨_, rfl, sl, rfl, ⟨_, SqL.of (s1 _ _ hsl)⟩, for_list (K := K) (a := sl) (xs := xs)
    (fun i σ H' => ∃ (Ms : List Sit) (v5 : Option V), σ = [some vn, some (.ref ra), some (.ref sl), some (.ref mt), some (.ref kn), v5, none, none, none] ∧ RInv P w H mt kn Ms H' ∧ (∀ S ∈ Ss.take i, S ∈ Ms) ∧ AllGood devs row Ms ∧ Ms.length ≤ i)
    ⟨[], _, rfl, r1, fun _ z => (List.not_mem_nil z).elim, fun _ z => (List.not_mem_nil z).elim, Nat.le_refl _⟩ (fun i σ H' _ ⟨_, _, _, r, _⟩ => SqL.of (r.same _ _ hsl)) ?_ ?_⟩
  · rintro i x σ H2 hi ⟨Ms, v5, rfl, r2, hin, hg2, hle⟩
    have hil := lt_of_get hi
    obtain ⟨dS, hdS, hxd⟩ := hxs.get' hi
    obtain ⟨S, hS, rfl⟩ := get_of_map hdS
    have hSm := List.mem_of_getElem? hS
    obtain ⟨b, rfl⟩ := hxd.sit_ref
    have hxd2 := hxd.same r2.same
    have step : ∀ Ms' : List Sit, (∀ T ∈ Ms, T ∈ Ms') → S ∈ Ms' → ∀ T ∈ Ss.take (i + 1), T ∈ Ms' := fun Ms' h1 h2 T hT => by
      rw [List.take_add_one, hS] at hT
      rcases List.mem_append.mp hT with hT | hT
      · exact h1 T (hin T hT)
      · rw [List.mem_singleton.mp hT]
        exact h2
    refine ⟨_, rfl, _, rfl, kn, b, S, Ms, rfl, rfl, r2.kno, hxd2, _, rfl, ?_⟩
    by_cases c : S ∈ Ms
    · exact iteNF c ⟨Ms, _, rfl, r2, step Ms (fun _ h => h) c, hg2, by omega⟩
    · refine iteNT c ⟨_, rfl, _, rfl, kn, b, S, Ms, rfl, rfl, r2.kno, hxd2, c, small (by omega), fun H3 e3 d3 => ?_⟩
      obtain ⟨ys, h3, hyl, r3, _, _⟩ := r2.add hmt nk0 hxd2 e3 d3
      refine ⟨_, rfl, .inl ⟨rfl, _, SqL.of h3⟩, _, rfl, mt, ys, _, rfl, rfl, h3, small (by omega), ?_⟩
      obtain ⟨g1, g2⟩ := hgd S hSm
      exact ⟨_, _, rfl, r3, step _ (fun T h => List.mem_append_left _ h) (List.mem_append_right _ (List.mem_singleton.mpr rfl)), hg2.snoc g1 g2, by rw [List.length_append, List.length_singleton]; omega⟩
  rintro σ H2 ⟨Ms0, v5, rfl, r2, hin0, hg0, hle0⟩
  rw [hxl, List.take_length] at hin0
  rw [hxl] at hle0
  -- all that is reached
  refine ⟨fun σ' H' => ∃ (Ms : List Sit) (v6 v7 v8 : Option V), σ' = [some vn, some (.ref ra), some (.ref sl), some (.ref mt), some (.ref kn), v5, v6, v7, v8] ∧ RInv P w H mt kn Ms H' ∧ (∀ S ∈ Ss, S ∈ Ms) ∧ AllGood devs row Ms ∧ Ms.length ≤ 100000 ∧
    (Ms.length ≤ 1500 → ∀ S ∈ Ms, ∀ m ∈ moves L devs row.length S, Live (after row S m) → after row S m ∈ Ms), ?_, ?_⟩
  · refine ⟨1500, rfl, by decide, by decide, for_range (n := 1500)
      (fun i σ H' => ∃ (Ms : List Sit) (v6 v7 v8 : Option V), σ = [some vn, some (.ref ra), some (.ref sl), some (.ref mt), some (.ref kn), v5, v6, v7, v8] ∧ RInv P w H mt kn Ms H' ∧ (∀ S ∈ Ss, S ∈ Ms) ∧ AllGood devs row Ms ∧ Ms.length ≤ 10 + 60 * i ∧
        ∀ (j : Nat) (S : Sit), j < i → Ms[j]? = some S → ∀ m ∈ moves L devs row.length S, Live (after row S m) → after row S m ∈ Ms)
      ⟨Ms0, _, _, _, rfl, r2, hin0, hg0, by omega, fun j _ hj => absurd hj (Nat.not_lt_zero _)⟩ ?_ ?_⟩
    · rintro i σ H3 hi ⟨Ms, v6, v7, v8, rfl, r3, hin3, hg3, hle3, hcl3⟩
      obtain ⟨ys3, hm3, hd3⟩ := r3.met
      have hyl3 : ys3.length = Ms.length := by
        have := hd3.length
        rw [List.length_map] at this
        exact this
      refine ⟨_, rfl, _, rfl, mt, _, rfl, .inl (SqL.of hm3), _, _, rfl, rfl, _, rfl, iteD2 (fun c => ?_) (fun c => ?_)⟩
      · rw [hyl3] at c
        refine ⟨Ms, _, _, _, rfl, r3, hin3, hg3, by omega, fun _ S hS => ?_⟩
        obtain ⟨j, hj⟩ := List.mem_iff_getElem?.mp hS
        have hjl := lt_of_get hj
        exact hcl3 j S (by omega) hj
      · rw [hyl3] at c
        have hiM : i < Ms.length := by omega
        have hSi : Ms[i]? = some Ms[i] := List.getElem?_eq_getElem hiM
        generalize Ms[i] = S at hSi
        obtain ⟨gS, lS⟩ := hg3 S (List.mem_of_getElem? hSi)
        have hsm := gS.sm (by omega) hdl
        have ei : (0 : Int) + (i : Int) = ((i : Nat) : Int) := by omega
        have ai : ∀ {xs : List V} {v : V}, xs[i]? = some v → atI xs (0 + (i : Int)) = some v := fun {xs v} e => at_of ei e
        obtain ⟨v, hv, hS⟩ := hd3.get (get_map (f := dSit) hSi)
        refine ⟨_, rfl, _, rfl, _, rfl, _, rfl, mt, _, _, _, rfl, rfl, SqL.of hm3, ai hv, vn, v, ra, row, devs, L, S, rfl, hP.same r3.same, r3.same _ _ hrow, hS, gS.len, gS.came, hL, by omega, fun p mv ms H4 s4 f4 h4 hD4 pm => ?_⟩
        have npm : p ≠ mt := fun z => by rw [z, hm3] at f4; cases f4
        have hmvl : mv.length ≤ 60 := by
          have e := hD4.length
          rw [List.length_map, pm.length_eq] at e
          have := moves_len L devs row.length S
          omega
        have hml : mv.length = ms.length := by
          have := hD4.length
          rw [List.length_map] at this
          exact this
        refine ⟨p, rfl, ⟨_, SqL.of h4⟩, for_list (K := K) (a := p) (xs := mv)
          (fun j σ H' => ∃ (Ms' T : List Sit) (v7 v8 : Option V), σ = [some vn, some (.ref ra), some (.ref sl), some (.ref mt), some (.ref kn), v5, some (.int (0 + (i : Int))), v7, v8] ∧ RInv P w H mt kn Ms' H' ∧ Ms' = Ms ++ T ∧ T.length ≤ j ∧ AllGood devs row Ms' ∧ (∀ m ∈ ms.take j, Live (after row S m) → after row S m ∈ Ms') ∧ H' p = some (.lst mv) ∧ DtAll H' mv (ms.map dMv))
          ⟨Ms, [], _, _, rfl, r3.same' s4, (List.append_nil _).symm, Nat.le_refl _, hg3, fun _ z => (List.not_mem_nil z).elim, h4, hD4⟩ (fun j σ H' _ ⟨_, _, _, _, _, _, _, _, _, _, z, _⟩ => SqL.of z) ?_ ?_⟩
        · rintro j x σ H5 hj ⟨Ms5, T, w7, w8, rfl, r5, eM, hT, hg5, hcl5, h5, hD5⟩
          have hjl := lt_of_get hj
          obtain ⟨dm, hdm, hxd⟩ := hD5.get' hj
          obtain ⟨m, hm, rfl⟩ := get_of_map hdm
          have hmm : m ∈ moves L devs row.length S := pm.mem_iff.mp (List.mem_of_getElem? hm)
          have hok := mv_ok hL hmm
          obtain ⟨ys5, hm5, hd5⟩ := r5.met
          have hyl5 : ys5.length = Ms5.length := by
            have := hd5.length
            rw [List.length_map] at this
            exact this
          have hSi5 : Ms5[i]? = some S := by
            rw [eM, List.getElem?_append_left hiM]
            exact hSi
          obtain ⟨v', hv', hS'⟩ := hd5.get (get_map (f := dSit) hSi5)
          have hM5 : Ms5.length ≤ 10 + 60 * i + 60 := by
            rw [eM, List.length_append]
            omega
          refine ⟨_, rfl, _, rfl, _, rfl, mt, _, _, _, rfl, rfl, SqL.of hm5, ai hv', _, rfl, v', x, ra, row, devs, S, m, rfl, r5.same _ _ hrow, hS', hxd, hok, gS.len, hsm, fun u H6 s6 hu6 => ?_⟩
          have hga := good_after gS hok
          have hsma := hga.sm (by omega) hdl
          have step : ∀ Ms' : List Sit, (∀ T ∈ Ms5, T ∈ Ms') → (Live (after row S m) → after row S m ∈ Ms') → ∀ m' ∈ ms.take (j + 1), Live (after row S m') → after row S m' ∈ Ms' := fun Ms' h1 h2 m' hm' lv => by
            rw [List.take_add_one, hm] at hm'
            rcases List.mem_append.mp hm' with hm' | hm'
            · exact h1 _ (hcl5 m' hm' lv)
            · rw [List.mem_singleton.mp hm'] at lv ⊢
              exact h2 lv
          obtain ⟨b, rfl⟩ := hu6.sit_ref
          refine ⟨_, rfl, .ref b, after row S m, rfl, hu6, hsma.1, fun H7 s7 => ⟨_, rfl, iteD2 (fun c => ?_) (fun c => ?_)⟩⟩
          · have r7 := r5.same' (Same.trans s6 s7)
            have hu7 := hu6.same s7
            have h7 := s7 _ _ (s6 _ _ h5)
            have hD7 := hD5.same (Same.trans s6 s7)
            refine ⟨_, rfl, _, rfl, kn, b, after row S m, Ms5, rfl, rfl, r7.kno, hu7, _, rfl, ?_⟩
            by_cases cm : after row S m ∈ Ms5
            · exact iteNF cm ⟨Ms5, T, _, _, rfl, r7, eM, by omega, hg5, step Ms5 (fun _ h => h) (fun _ => cm), h7, hD7⟩
            · refine iteNT cm ⟨_, rfl, _, rfl, kn, b, after row S m, Ms5, rfl, rfl, r7.kno, hu7, cm, small (by omega), fun H8 e8 d8 => ?_⟩
              obtain ⟨ys, h8, hyl, r8, t8, l8⟩ := r7.add hmt nk0 hu7 e8 d8
              refine ⟨_, rfl, .inl ⟨rfl, _, SqL.of h8⟩, _, rfl, mt, ys, _, rfl, rfl, h8, small (by omega), ?_⟩
              refine ⟨Ms5 ++ [after row S m], T ++ [after row S m], _, _, rfl, r8, by rw [eM, List.append_assoc], by rw [List.length_append, List.length_singleton]; omega, hg5.snoc hga c, step _ (fun T h => List.mem_append_left _ h) (fun _ => List.mem_append_right _ (List.mem_singleton.mpr rfl)), l8 p _ npm h7, hD7.tups t8 _ _ (noLists_map noList_mv _)⟩
          · refine iteF ⟨Ms5, T, _, _, rfl, r5.same' (Same.trans s6 s7), eM, by omega, hg5, step Ms5 (fun _ h => h) (fun lv => absurd lv c), s7 _ _ (s6 _ _ h5), hD5.same (Same.trans s6 s7)⟩
        · rintro σ H5 ⟨Ms5, T, w7, w8, rfl, r5, eM, hT, hg5, hcl5, h5, hD5⟩
          rw [hml, List.take_length] at hcl5
          refine ⟨Ms5, _, _, _, rfl, r5, fun S' hS' => by rw [eM]; exact List.mem_append_left _ (hin3 S' hS'), hg5, by rw [eM, List.length_append]; omega, fun j S' hj hS' m hm lv => ?_⟩
          by_cases e : j = i
          · subst e
            rw [eM, List.getElem?_append_left hiM, hSi] at hS'
            obtain rfl := Option.some.inj hS'
            exact hcl5 m (pm.mem_iff.mpr hm) lv
          · rw [eM, List.getElem?_append_left (by omega)] at hS'
            rw [eM]
            exact List.mem_append_left _ (hcl3 j S' (by omega) hS' m hm lv)
    · rintro σ H3 ⟨Ms, v6, v7, v8, rfl, r3, hin3, hg3, hle3, hcl3⟩
      refine ⟨Ms, _, _, _, rfl, r3, hin3, hg3, by omega, fun hs S hS => ?_⟩
      obtain ⟨j, hj⟩ := List.mem_iff_getElem?.mp hS
      have hjl := lt_of_get hj
      exact hcl3 j S (by omega) hj
  rintro σ' H3 ⟨Ms, v6, v7, v8, rfl, r3, hin3, hg3, hle3, hcl3⟩
  obtain ⟨ys3, hm3, hd3⟩ := r3.met
  exact ⟨_, rfl, kq mt ys3 Ms H3 r3.same hmt hm3 hd3 hin3 hg3 hle3 hcl3⟩
end
end Ys
/-! The law itself. -/
namespace Ys
open PySem PySem.Spec PyProof.Rows L2
theorem DtAll.take {H : Hp} : ∀ {vs : List V} {ds : List PyData} (k : Nat), DtAll H vs ds → DtAll H (vs.take k) (ds.take k)
  | _, _, 0, _ => .nil
  | _, _, _ + 1, .nil => .nil
  | _, _, k + 1, .cons h t => .cons h (DtAll.take k t)
theorem DtAll.drop {H : Hp} : ∀ {vs : List V} {ds : List PyData} (k : Nat), DtAll H vs ds → DtAll H (vs.drop k) (ds.drop k)
  | _, _, 0, h => h
  | _, _, _ + 1, .nil => .nil
  | _, _, k + 1, .cons h t => DtAll.drop k t
theorem lay_all {α : Type} {f : α → PyData} (h : ∀ x, (f x).canLay0 = true) : ∀ l : List α, PyData.canLayAll0 (l.map f) = true
  | [] => by simp [PyData.canLayAll0]
  | x :: l => by simp [PyData.canLayAll0, h x, lay_all h l]
theorem lay_dInts (l : List Int) : (dInts l).canLay0 = true := by
  unfold dInts
  rw [PyData.canLay0]
  exact lay_ints l
theorem lay_dSit (S : Sit) : (dSit S).canLay0 = true := by
  unfold dSit
  simp only [PyData.canLay0, PyData.canLayAll0, lay_all lay_dInts, lay_dInts, Bool.and_true]
theorem shaped_sit (S : Sit) : SeqAt.shaped (dSit S) = true := by
  show ((dSit S).canLay0 && decide ((dSit S).depth ≤ 64)) = true
  rw [Bool.and_eq_true]
  have := dSit_depth S
  exact ⟨lay_dSit S, decide_eq_true (by omega)⟩
theorem shaped_sits (Ss : List Sit) : SeqAt.shaped (.list (Ss.map dSit)) = true := by
  show (PyData.canLay0 (.list (Ss.map dSit)) && decide (PyData.depth (.list (Ss.map dSit)) ≤ 64)) = true
  rw [Bool.and_eq_true]
  refine ⟨by rw [PyData.canLay0]; exact lay_all lay_dSit Ss, decide_eq_true ?_⟩
  have := depthAll_le' dSit 4 dSit_depth Ss
  simp only [PyData.depth]
  omega
theorem any_sit {S : Sit} {Ss : List Sit} (h : S ∈ Ss) : ((Ss.map dSit).any fun z => PyData.eqv z (dSit S)) = true := by
  rw [List.any_eq_true]
  exact ⟨dSit S, List.mem_map.mpr ⟨S, h, rfl⟩, PySem.W.eqv_refl_alike _ (alike_dSit S S)⟩
/-- none of them sorted -/
def ng (n : Nat) (l : List Sit) : Bool := l.all fun S => decide (S.gone.length ≠ n)
theorem ng_iff (n : Nat) (l : List Sit) : ng n l = true ↔ ∀ S ∈ l, S.gone.length ≠ n := by
  unfold ng
  rw [List.all_eq_true]
  exact ⟨fun h S hS => of_decide_eq_true (h S hS), fun h S hS => decide_eq_true (h S hS)⟩
theorem ng_eq (n : Nat) (l : List Sit) [d : Decidable (∀ S ∈ l, S.gone.length ≠ n)] : decide (∀ S ∈ l, S.gone.length ≠ n) = ng n l := by
  rw [Bool.eq_iff_iff, ng_iff]
  exact decide_eq_true_iff
theorem ng_take {n i : Nat} {l : List Sit} {S : Sit} (h : l[i]? = some S) : ng n (l.take (i + 1)) = (ng n (l.take i) && decide (S.gone.length ≠ n)) := by
  unfold ng
  rw [List.take_add_one, h, List.all_append]
  simp
section
variable {P : Program} {w : World} {K : PySem.W.Frag} {mg : Str → Option Value} {base : Heap}
abbrev s_law : Stmt := top 63
theorem sc_law : FnScope ["_law_script", "_law_draws_here", "_law_tree_here", "_law_net_here", "_law_row_here", "_law_starts", "_law_k", "_law_met", "_law_situations", "_law_situation", "_law_yard", "_law_takes", "_law_due", "_law_least"] ["_law_script"] (defScope s_law) := ⟨rfl, rfl, rfl, by decide +kernel, rfl, by decide +kernel, by decide +kernel⟩
theorem bd_law : BindsAs "law" "law" s_law ["_law_script"] := fun _ _ _ _ _ _ us hl => match us, hl with | [_], _ => rfl
def spLaw (K : PySem.W.Frag) : Sp := fun vs H Q _ => ∃ (a : Addr) (ns : List Int), vs = [.ref a] ∧ SqL K H a (ns.map V.int) ∧ ns.length ≤ 63 ∧ ∀ H', Q (.bl true) H'
theorem ok_law {YC : Addr} (G : Glo mg) (Y : YCls K mg YC) (k_law_draws : Kp P w K mg base "_law_draws" 2 ["_law_script"] (spDraws K)) (k_law_next : Kp P w K mg base "_law_next" 1 ["_law_draws_here"] spNext) (k_law_drawn : Kp P w K mg base "_law_drawn" 7 ["_law_draws_here", "_law_most"] spDrawn)
    (k_law_start : Kp P w K mg base "_law_start" 1 ["_law_net_here"] spLStart) (k_law_placed : Kp P w K mg base "_law_placed" 2 ["_law_draws_here", "_law_net_here", "_law_row_here"] spPlaced) (k_law_reached : Kp P w K mg base "_law_reached" 3 ["_law_net_here", "_law_row_here", "_law_starts"] spReached)
    (k_law_told : Kp P w K mg base "_law_told" 4 ["_law_tree_here"] (spTold 3)) (k_yinit : KpI P w K mg base YC 5 ["self", "text"] (spYInit YC)) (k_is_closed : Kp P w K mg base "is_closed" 8 ["yard", "row", "situations"] (spIsClosed YC)) (k_closed_list : Kp P w K mg base "closed_list" 7 ["yard", "row"] (spCList YC))
    (k_can_sort : Kp P w K mg base "can_sort" 8 ["yard", "row"] (spSolve YC (.bl false))) : BodyOk P w K mg base "law" s_law ["_law_script", "_law_draws_here", "_law_tree_here", "_law_net_here", "_law_row_here", "_law_starts", "_law_k", "_law_met", "_law_situations", "_law_situation", "_law_yard", "_law_takes", "_law_due", "_law_least"] 8 (spLaw K) := by
  intro f cdv A outer s H vs Q E hr h
  obtain ⟨a0, ns, rfl, hS0, hns, kq⟩ := h
  obtain ⟨fy, fdy, Fy, My, byy⟩ := k_yinit
  have hu65 : (A.deeper (envOfC "law" (defScope s_law) s.heap.objs.size f cdv)).units + 65 < cLine := by have := hr.un; omega
  have hr1 := hr.mono (show 1 ≤ 8 by decide)
  refine ⟨_, (pss_cons (ps_set (i := 1) sc_law.nd rfl (Or.inl rfl) (pe_kp k_law_draws (hr.mono (by decide)) (by rfl) (pa_cons (pv 0) pa_nil)))
    (pss_cons (ps_expr (pe_bm0 PySem.F.plainAttrs_list PySem.F.slot_list_reverse PySem.F.type_list_reverse mt_reverse (pv 1)))
    (pss_hide (pss_cons (ps_asg (pe_kp k_law_drawn (hr.mono (by decide)) (by rfl) (pa_cons (pv 1) (pa_cons pe_int pa_nil))) (pg_unl (by rfl) (pgs_cons (pg_name (i := 2) sc_law.nd rfl (Or.inl rfl)) (pgs_cons (pg_name (i := 3) sc_law.nd rfl (Or.inl rfl)) (pgs_cons (pg_name (i := 4) sc_law.nd rfl (Or.inl rfl)) pgs_nil)))))
    (pss_cons (ps_set (i := 5) sc_law.nd rfl (Or.inl rfl) (pe_lst (pa_cons (pe_kp k_law_start hr1 (by rfl) (pa_cons (pv 3) pa_nil)) pa_nil)))
    (pss_cons (ps_for PassesOwn.never rfl (pi_range1 (by rfl) G.range (pa_cons (pe_op op_mod (pe_callTy call_int1 (by rfl) G.int (by decide +kernel) (pa_cons (pe_kp k_law_next hr1 (by rfl) (pa_cons (pv 1) pa_nil)) pa_nil)) pe_int) pa_nil)) (pg_name (i := 6) sc_law.nd rfl (Or.inl rfl))
      (pss_one (ps_expr (pe_bm PySem.F.plainAttrs_list PySem.F.slot_list_append PySem.F.type_list_append mt_append (pv 5) (pa_cons (pe_kp k_law_placed (hr.mono (by decide)) (by rfl) (pa_cons (pv 1) (pa_cons (pv 3) (pa_cons (pv 4) pa_nil)))) pa_nil)))))
    (pss_cons (ps_set (i := 7) sc_law.nd rfl (Or.inl rfl) (pe_kp k_law_reached (hr.mono (by decide)) (by rfl) (pa_cons (pv 3) (pa_cons (pv 4) (pa_cons (pv 5) pa_nil)))))
    (pss_cons (ps_if (pt_cmpR op_gt (pe_callB call_len_seq (by rfl) G.len PySem.boot_len (pa_cons (pv 7) pa_nil)) pe_int (nomark _))
      (pss_one (ps_ret pe_bl))
      pss_nil)
    (pss_cons (ps_set (i := 8) sc_law.nd rfl (Or.inl rfl) (pe_lst pa_nil))
    (pss_cons (ps_for PassesOwn.never rfl (pi_list (pv 7)) (pg_name (i := 9) sc_law.nd rfl (Or.inl rfl))
      (pss_one (ps_expr (pe_bm PySem.F.plainAttrs_list PySem.F.slot_list_insert PySem.F.type_list_insert mt_insert (pv 8) (pa_cons (pe_op op_mod (pe_callTy call_int1 (by rfl) G.int (by decide +kernel) (pa_cons (pe_kp k_law_next hr1 (by rfl) (pa_cons (pv 1) pa_nil)) pa_nil)) (pe_op op_add (pe_callB call_len_seq (by rfl) G.len PySem.boot_len (pa_cons (pv 8) pa_nil)) pe_int)) (pa_cons (pv 9) pa_nil))))))
    (pss_cons (ps_set (i := 8) sc_law.nd rfl (Or.inl rfl) (pe_op op_cat (pv 8) (pe_slice sl_list (pv 8) po_none (po_some (pe_op op_mod (pe_callTy call_int1 (by rfl) G.int (by decide +kernel) (pa_cons (pe_kp k_law_next hr1 (by rfl) (pa_cons (pv 1) pa_nil)) pa_nil)) pe_int)))))
    (pss_cons (ps_set (i := 10) sc_law.nd rfl (Or.inl rfl) (pe_make My Fy (hr.mono (by decide)) (by rfl) Y.mg_ byy .nil pass0 (pa_cons (pe_kp k_law_told (hr.mono (by decide)) (by rfl) (pa_cons (pv 2) pa_nil)) pa_nil)))
    (pss_cons (ps_set (i := 11) sc_law.nd rfl (Or.inl rfl) (pe_kp k_is_closed hr (by rfl) (pa_cons (pv 10) (pa_cons (pe_callTy call_list_of (by rfl) G.list (by decide +kernel) (pa_cons (pv 4) pa_nil)) (pa_cons (pe_callTy call_list_of (by rfl) G.list (by decide +kernel) (pa_cons (pv 8) pa_nil)) pa_nil)))))
    (pss_cons (ps_set (i := 12) sc_law.nd rfl (Or.inl rfl) pe_bl)
    (pss_cons (ps_for PassesOwn.never rfl (pi_list (pv 8)) (pg_name (i := 9) sc_law.nd rfl (Or.inl rfl))
      (pss_one (ps_if (pt_cmpR op_eq (pe_callB call_len_seq (by rfl) G.len PySem.boot_len (pa_cons (pe_ix ix_tup (pv 9) pe_int (fun _ _ => rfl)) pa_nil)) (pe_callB call_len_seq (by rfl) G.len PySem.boot_len (pa_cons (pv 4) pa_nil)) (nomark _))
        (pss_one (ps_set (i := 12) sc_law.nd rfl (Or.inl rfl) pe_bl))
        pss_nil)))
    (pss_cons (ps_if (PW.pt (pw_or (pt_not (pt_truth (pe_callB call_isi (by rfl) G.isinstance (by decide +kernel) (pa_cons (pv 11) (pa_cons (pe_bltn (v := .ty "bool") (u := .type "bool") (by rfl) G.bool (by decide +kernel) rfl) pa_nil))) (by intro _; rfl))) (pw_or1 (pt_cmpR op_ne (pv 11) (pv 12) (nomark _)))))
      (pss_one ps_never)
      pss_nil)
    (pss_cons (ps_if (pt_not (pt_truth (pv 11) (by intro _; rfl)))
      (pss_one (ps_ret pe_bl))
      pss_nil)
    (pss_cons (ps_set (i := 13) sc_law.nd rfl (Or.inl rfl) (pe_kp k_closed_list (hr.mono (by decide)) (by rfl) (pa_cons (pv 10) (pa_cons (pe_callTy call_list_of (by rfl) G.list (by decide +kernel) (pa_cons (pv 4) pa_nil)) pa_nil))))
    (pss_cons (ps_if (PW.pt (pw_or (pt_cmpR op_notBl (pe_kp k_can_sort hr (by rfl) (pa_cons (pv 10) (pa_cons (pe_callTy call_list_of (by rfl) G.list (by decide +kernel) (pa_cons (pv 4) pa_nil)) pa_nil))) pe_bl (nomark _)) (pw_or1 (pt_cmpR op_isN (pv 13) pe_non (nomark _)))))
      (pss_one ps_never)
      pss_nil)
    (pss_cons (ps_for PassesOwn.never rfl (pi_list (pv 13)) (pg_name (i := 9) sc_law.nd rfl (Or.inl rfl))
      (pss_one (ps_if (pt_cmpR (op_notInD hu65) (pv 9) (pv 8) rfl)
        (pss_one ps_never)
        pss_nil)))
    (pss_one (ps_ret pe_bl)))))))))))))))))))))), ?_⟩
  -- draws
  refine ⟨_, rfl, a0, ns, rfl, hS0, hns, fun p ds H1 s1 f1 h1 hl1 => ?_⟩
  refine ⟨_, rfl, .inl ⟨rfl, _, SqL.of h1⟩, p, _, rfl, rfl, h1, ?_⟩
  refine ⟨p, ds.reverse, by rw [upd_same, List.map_reverse], by rw [List.length_reverse]; omega, ?_⟩
  have hd : upd (upd H1 p (.lst (ds.map V.int).reverse)) p (drawsO p) p = some (drawsO p) := upd_same
  generalize upd (upd H1 p (.lst (ds.map V.int).reverse)) p (drawsO p) = H2 at hd ⊢
  -- drawn
  refine ⟨_, rfl, p, rfl, hd, fun q ra vt vn t L row H3 s3 hq ht hok hsz hP pmL hrow prow hrl => ?_⟩
  refine ⟨q, _, rfl, SqL.of hq, rfl, _, _, rfl, _, _, rfl, _, _, rfl, rfl, ?_⟩
  have hdl : (net t 0).devs.length = t.size := net_devs t 0
  have hpos := t.size_pos
  generalize hdv : (net t 0).devs = devs at hP hdl
  have R : Row row := ⟨prow, by omega⟩
  have hLok : LinksOk devs.length L := by
    rw [hdl]
    exact fun l hl => allLinks_ok t l (pmL.mem_iff.mp hl)
  have hLl : L.length ≤ 15 := by
    rw [pmL.length_eq]
    exact allLinks_len t hsz
  have hd3 := s3 _ _ hd
  -- starts
  refine ⟨_, rfl, vn, devs, L, rfl, hP, by omega, fun v0 H4 s4 hv0 => ⟨(szl rfl), fun sl hsl => ?_⟩⟩
  have t5 := Same.new (o := .lst [v0]) hsl
  refine ⟨_, rfl, p, rfl, t5 _ _ (s4 _ _ hd3), fun i0 => .inl ⟨_, rfl, _, _, rfl, rfl, (by show (0 : Int) < 3; decide), _, rfl, ?_, ?_, for_range
    (fun i σ H' => ∃ (us : List V) (Ss : List Sit) (v6 : Option V), σ = [some (.ref a0), some (.ref p), some vt, some vn, some (.ref ra), some (.ref sl), v6, none, none, none, none, none, none, none] ∧ Same H4 H' ∧ H' sl = some (.lst us) ∧ DtAll H' us (Ss.map dSit) ∧ AllGood devs row Ss ∧ Ss.length = i + 1 ∧ startS devs.length ∈ Ss)
    ⟨[v0], [startS devs.length], _, rfl, t5, upd_same, .cons (hv0.same t5) .nil, fun S hS => by rw [List.mem_singleton.mp hS]; exact ⟨good_start, live_start _⟩, rfl, List.mem_singleton.mpr rfl⟩ ?_ ?_⟩⟩
  · have := Int.emod_nonneg i0 (show (3 : Int) ≠ 0 by decide)
    omega
  · have := Int.emod_lt_of_pos i0 (show (0 : Int) < 3 by decide)
    omega
  · rintro i σ H5 hi ⟨us, Ss, v6, rfl, s5, h5, hu5, hg5, hl5, hst5⟩
    have hi3 : i < 3 := by
      have := Int.emod_lt_of_pos i0 (show (0 : Int) < 3 by decide)
      omega
    have hul : us.length = Ss.length := by
      have := hu5.length
      rw [List.length_map] at this
      exact this
    have s35 := Same.trans s4 s5
    refine ⟨_, rfl, .inl ⟨rfl, _, SqL.of h5⟩, _, rfl, _, rfl, _, rfl, p, ra, vn, devs, L, row, rfl, s35 _ _ hd3, hP.same s35, by omega, by omega, s35 _ _ hrow, R, fun v S H6 s6 hv gS lS => ?_⟩
    have h6 := s6 _ _ h5
    have tt : Tups H6 (upd H6 sl (.lst (us ++ [v]))) := Tups.put h6 (fun _ z => nomatch z)
    refine ⟨sl, us, v, rfl, rfl, h6, small (by omega), us ++ [v], Ss ++ [S], _, rfl, Same.mut (Same.trans s5 s6) hsl, upd_same, ?_, hg5.snoc gS lS, by rw [List.length_append, List.length_singleton, hl5], List.mem_append_left _ hst5⟩
    rw [List.map_append]
    exact DtAll.snoc ((hu5.same s6).sitsT tt) (Dt.tups tt _ _ (noList_sit S) hv)
  rintro σ H5 ⟨us, Ss, v6, rfl, s5, h5, hu5, hg5, hl5, hst5⟩
  have hj3 : (i0 % 3).toNat ≤ 3 := by
    have := Int.emod_lt_of_pos i0 (show (0 : Int) < 3 by decide)
    omega
  have s35 := Same.trans s4 s5
  -- reached
  refine ⟨_, rfl, _, rfl, _, rfl, vn, ra, sl, devs, L, row, us, Ss, rfl, hP.same s35, s35 _ _ hrow, by omega, by omega, hLok, hLl, h5, hu5, hg5, by omega, fun mp ys Ms H6 s6 fm hm hMs hin hgd hle hcl => ?_⟩
  have hyl : ys.length = Ms.length := by
    have := hMs.length
    rw [List.length_map] at this
    exact this
  have s36 := Same.trans s35 s6
  refine ⟨_, rfl, mp, _, rfl, .inl (SqL.of hm), _, _, rfl, rfl, _, rfl, iteD2 (fun c => kq _) (fun c => ?_)⟩
  have hM : Ms.length ≤ 400 := by omega
  have hcl' := hcl (by omega)
  -- a shuffled list
  refine ⟨Nat.zero_le _, fun sp hsp => ?_⟩
  have t7 := Same.new (o := .lst []) hsp
  refine ⟨_, rfl, mp, rfl, ⟨_, SqL.of (t7 _ _ hm)⟩, for_list (K := K) (a := mp) (xs := ys)
    (fun i σ H' => ∃ (us : List V) (Ps : List Sit) (v9 : Option V), σ = [some (.ref a0), some (.ref p), some vt, some vn, some (.ref ra), some (.ref sl), v6, some (.ref mp), some (.ref sp), v9, none, none, none, none] ∧ Same H6 H' ∧ H' sp = some (.lst us) ∧ DtAll H' us (Ps.map dSit) ∧ Ps.Perm (Ms.take i))
    ⟨[], [], _, rfl, t7, upd_same, .nil, List.Perm.refl _⟩ (fun i σ H' _ ⟨_, _, _, _, z, _⟩ => SqL.of (z _ _ hm)) ?_ ?_⟩
  · rintro i x σ H7 hi ⟨us7, Ps, v9, rfl, s7, h7, hu7, pm7⟩
    have hil := lt_of_get hi
    obtain ⟨dS, hdS, hxd⟩ := hMs.get' hi
    obtain ⟨S, hS, rfl⟩ := get_of_map hdS
    have hul : us7.length = Ps.length := by
      have := hu7.length
      rw [List.length_map] at this
      exact this
    have hPl : Ps.length ≤ 400 := by
      rw [pm7.length_eq, List.length_take]
      omega
    refine ⟨_, rfl, .inl ⟨rfl, _, SqL.of h7⟩, _, rfl, p, rfl, s7 _ _ (s36 _ _ hd3), fun i1 => .inl ⟨_, rfl, _, rfl, sp, _, rfl, .inl (SqL.of h7), _, _, rfl, rfl, _, _, rfl, rfl, by omega, ?_⟩⟩
    have k0 : 0 ≤ i1 % ((us7.length : Int) + 1) := Int.emod_nonneg _ (by omega)
    have k1 : i1 % ((us7.length : Int) + 1) < (us7.length : Int) + 1 := Int.emod_lt_of_pos _ (by omega)
    refine ⟨_, rfl, sp, us7, _, x, rfl, rfl, h7, small (by omega), k0, by omega, ?_⟩
    have tt : Tups H7 (upd H7 sp (.lst (us7.take (i1 % ((us7.length : Int) + 1)).toNat ++ [x] ++ us7.drop (i1 % ((us7.length : Int) + 1)).toNat))) := Tups.put h7 (fun _ z => nomatch z)
    refine ⟨_, Ps.take (i1 % ((us7.length : Int) + 1)).toNat ++ [S] ++ Ps.drop (i1 % ((us7.length : Int) + 1)).toNat, _, rfl, Same.mut s7 hsp, upd_same, ?_, ?_⟩
    · refine DtAll.sitsT tt ?_
      rw [List.map_append, List.map_append, List.map_take, List.map_drop]
      exact DtAll.app (DtAll.app (DtAll.take _ hu7) (.cons (hxd.same s7) .nil)) (DtAll.drop _ hu7)
    · refine (ins_perm _ _ _).trans ?_
      rw [List.take_add_one, hS]
      exact (List.Perm.cons S pm7).trans (List.perm_append_singleton _ _).symm
  rintro σ H7 ⟨us7, Ps, v9, rfl, s7, h7, hu7, pm7⟩
  rw [hyl, List.take_length] at pm7
  have hul7 : us7.length = Ps.length := by
    have := hu7.length
    rw [List.length_map] at this
    exact this
  have hPl : Ps.length ≤ 400 := by rw [pm7.length_eq]; exact hM
  have s37 := Same.trans s36 s7
  -- some of it twice
  refine ⟨_, rfl, _, rfl, _, rfl, p, rfl, s37 _ _ hd3, fun i2 => .inl ⟨_, rfl, _, _, rfl, rfl, (by show (0 : Int) < 3; decide), _, rfl, sp, us7, rfl, SqL.of h7, fun c1 hc1 => ?_⟩⟩
  have m0 := Int.emod_nonneg i2 (show (3 : Int) ≠ 0 by decide)
  have m1 := Int.emod_lt_of_pos i2 (show (0 : Int) < 3 by decide)
  obtain ⟨k2, hk2⟩ := Int.eq_ofNat_of_zero_le m0
  have ek2 : cutV us7 none (some (i2 % 3)) = us7.take k2 := by
    rw [hk2]
    exact cut_take _ _
  rw [ek2]
  have t8 := Same.new (o := .lst (us7.take k2)) hc1
  refine ⟨sp, c1, us7, _, rfl, rfl, t8 _ _ h7, upd_same, small' (by rw [List.length_take]; omega), fun c2 hc2 => ?_⟩
  have t9 := Same.new (o := .lst (us7 ++ us7.take k2)) hc2
  have s39 := Same.trans s37 (Same.trans t8 t9)
  have hSs : DtAll (upd (upd H7 c1 (.lst (us7.take k2))) c2 (.lst (us7 ++ us7.take k2))) (us7 ++ us7.take k2) ((Ps ++ Ps.take k2).map dSit) := by
    rw [List.map_append, List.map_take]
    exact DtAll.app (hu7.same (Same.trans t8 t9)) (DtAll.take _ (hu7.same (Same.trans t8 t9)))
  have h9 : upd (upd H7 c1 (.lst (us7.take k2))) c2 (.lst (us7 ++ us7.take k2)) c2 = some (.lst (us7 ++ us7.take k2)) := upd_same
  have memS : ∀ S : Sit, S ∈ Ps ++ Ps.take k2 ↔ S ∈ Ms := fun S => by
    rw [List.mem_append]
    exact ⟨fun h => pm7.mem_iff.mp (h.elim id fun z => List.mem_of_mem_take z), fun h => .inl (pm7.mem_iff.mpr h)⟩
  have lenS : (Ps ++ Ps.take k2).length ≤ 1000 := by
    rw [List.length_append, List.length_take]
    omega
  generalize Ps ++ Ps.take k2 = Qs at hSs memS lenS
  generalize us7 ++ us7.take k2 = uq at hSs h9 s39 t9 ⊢
  generalize upd (upd H7 c1 (.lst (us7.take k2))) c2 (.lst uq) = H9 at hSs h9 s39 ⊢
  -- the yard
  refine ⟨_, rfl, vt, t, rfl, TreeAt.same s39 ht, hsz, by decide, hok, fun H10 s10 y dy hy hdy hne => ?_⟩
  have tm : Same H10 (upd (upd H10 dy (.own y)) y (.ins YC dy [])) := Same.mut (Same.new hdy) hy
  refine ⟨H10, y, dy, t, rfl, tm, hy, upd_same, hok, hsz, fun H11 L' s11 hY pmL' => ⟨rfl, ?_⟩⟩
  rw [hdv] at hY
  have pmLL : L'.Perm L := pmL'.trans pmL.symm
  have hLok' : LinksOk devs.length L' := fun l hl => hLok l (pmLL.mem_iff.mp hl)
  have hLl' : L'.length ≤ 1000 := by
    rw [pmLL.length_eq]
    omega
  have s311 := Same.trans s39 (Same.trans s10 s11)
  have hQ11 := Same.trans s10 s11
  have nx : ∀ S ∈ Ms, ∀ m ∈ moves L' devs row.length S, Live (after row S m) → after row S m ∈ Ms := fun S hS m hm lv => hcl' S hS m ((mem_moves pmLL m).mp hm) lv
  -- is_closed
  refine ⟨_, rfl, _, rfl, ra, _, rfl, .inl (SqL.of (s311 _ _ hrow)), fun r1 hr1' => ⟨_, rfl, c2, _, rfl, .inl (SqL.of (Same.new (o := .lst (row.map V.int)) hr1' _ _ (hQ11 _ _ h9))), fun l2 hl2 => ?_⟩⟩
  have t12 := Same.new (o := .lst (row.map V.int)) hr1'
  have t13 := Same.new (o := .lst uq) hl2
  have t1113 := Same.trans t12 t13
  refine ⟨y, r1, l2, row, devs, L', uq, Qs, rfl, hY.same t1113, t13 _ _ upd_same, upd_same, hSs.same (Same.trans hQ11 t1113), ⟨fun S hS => (hgd S ((memS S).mp hS)).1, fun S hS => (hgd S ((memS S).mp hS)).2, fun S hS m hm lv => (memS _).mpr (nx S ((memS S).mp hS) m hm lv), (memS _).mpr (hin _ hst5), lenS, R, by omega, hLok', hLl'⟩, fun H13 s13 => ?_⟩
  have s1113 := Same.trans t1113 s13
  have s313 := Same.trans s311 s1113
  have h13 := s1113 _ _ (hQ11 _ _ h9)
  have hS13 := hSs.same (Same.trans hQ11 s1113)
  have hY13 := hY.same s1113
  have hr13 := s313 _ _ hrow
  have hql : uq.length = Qs.length := by
    have := hSs.length
    rw [List.length_map] at this
    exact this
  rw [ng_eq]
  generalize hT : ng row.length Qs = T
  -- due
  refine ⟨_, rfl, c2, rfl, ⟨_, SqL.of h13⟩, for_list (K := K) (a := c2) (xs := uq)
    (fun i σ H' => ∃ v9 : Option V, σ = [some (.ref a0), some (.ref p), some vt, some vn, some (.ref ra), some (.ref sl), v6, some (.ref mp), some (.ref c2), v9, some (.ref y), some (.bl T), some (.bl (ng row.length (Qs.take i))), none] ∧ H' = H13)
    ⟨_, rfl, rfl⟩ (fun i σ H' _ ⟨_, _, z⟩ => by rw [z]; exact SqL.of h13) ?_ ?_⟩
  · rintro i x σ H14 hi ⟨v9, rfl, rfl⟩
    obtain ⟨dS, hdS, hxd⟩ := hS13.get' hi
    obtain ⟨S, hS, rfl⟩ := get_of_map hdS
    obtain ⟨a, b, g, hs, rfl, ha, hb, hhs, hg⟩ := sit_inv hxd
    refine ⟨_, rfl, a, _, _, _, rfl, rfl, SqT.of ha, at_of (j := 2) rfl rfl, g, _, rfl, .inr (SqT.of hg), _, rfl, ra, _, rfl, .inl (SqL.of hr13), rfl, _, rfl, iteD2 (fun cc => ?_) (fun cc => ?_)⟩
    · have c' : S.gone.length = row.length := by
        injection cc with cc
        rw [List.length_map, List.length_map] at cc
        omega
      refine ⟨some (.ref a), ?_, rfl⟩
      rw [ng_take hS, decide_eq_false (fun z => z c'), Bool.and_false]
      rfl
    · have c' : ¬ S.gone.length = row.length := fun z => cc (by rw [List.length_map, List.length_map, z])
      refine ⟨some (.ref a), ?_, rfl⟩
      rw [ng_take hS, decide_eq_true c', Bool.and_true]
      rfl
  rintro σ H14 ⟨v9', rfl, rfl⟩
  rw [hql, List.take_length, hT]
  -- the answers agree
  refine ⟨_, rfl, .bl T, .ty "bool", .type "bool", .type "bool", true, rfl, .ty _, .base (.bl T), kit_ty (by decide +kernel), true, rfl, iteF ?_⟩
  refine ⟨_, rfl, _, rfl, rfl, _, rfl, iteNF rfl ?_⟩
  refine ⟨_, rfl, T, rfl, ?_⟩
  cases T with
  | false => exact iteT (kq _)
  | true =>
    refine iteF ?_
    have hno := (ng_iff _ _).mp hT
    have hShut : Shut devs L' row Ms := ⟨fun S hS => (hgd S hS).1, fun S hS => hno S ((memS S).mpr hS), nx, hin _ hst5, by omega, R, by omega, hLok', hLl'⟩
    refine ⟨_, rfl, _, rfl, ra, _, rfl, .inl (SqL.of hr13), fun r2 hr2 => ?_⟩
    have t15 := Same.new (o := .lst (row.map V.int)) hr2
    refine ⟨y, r2, row, devs, L', Ms, rfl, hY13.same t15, upd_same, hShut, fun lp lys Ls H15 s15 fl hl hLs hinL => ?_⟩
    have s1315 := Same.trans t15 s15
    refine ⟨_, rfl, _, rfl, ra, _, rfl, .inl (SqL.of (s1315 _ _ hr13)), fun r3 hr3 => ?_⟩
    have t17 := Same.new (o := .lst (row.map V.int)) hr3
    refine ⟨y, r3, row, devs, L', Ms, rfl, hY13.same (Same.trans s1315 t17), upd_same, hShut, fun H17 s17 => ⟨false, false, rfl, rfl, _, rfl, iteNF rfl ⟨_, rfl, rfl, _, rfl, iteDF (by intro z; cases z) ?_⟩⟩⟩
    have s1517 := Same.trans t17 s17
    have s1317 := Same.trans s1315 s1517
    refine ⟨_, rfl, lp, rfl, ⟨_, SqL.of (s1517 _ _ hl)⟩, for_list (K := K) (a := lp) (xs := lys)
      (fun i σ H' => ∃ v9 : Option V, σ = [some (.ref a0), some (.ref p), some vt, some vn, some (.ref ra), some (.ref sl), v6, some (.ref mp), some (.ref c2), v9, some (.ref y), some (.bl true), some (.bl true), some (.ref lp)] ∧ H' = H17)
      ⟨_, rfl, rfl⟩ (fun i σ H' _ ⟨_, _, z⟩ => by rw [z]; exact SqL.of (s1517 _ _ hl)) ?_ ?_⟩
    · rintro i x σ H18 hi ⟨v9, rfl, rfl⟩
      obtain ⟨dS, hdS, hxd⟩ := hLs.get' hi
      obtain ⟨S, hS, rfl⟩ := get_of_map hdS
      have hSm : S ∈ Qs := (memS S).mpr (hinL S (List.mem_of_getElem? hS))
      refine ⟨_, rfl, _, rfl, dSit S, Qs.map dSit, Dt.dp _ _ (hxd.same s1517), Dt.dp _ _ (.lst (s1317 _ _ h13) (hS13.same s1317)), shaped_sit S, shaped_sits Qs, _, rfl, ?_⟩
      rw [any_sit hSm]
      exact iteF ⟨_, rfl, rfl⟩
    · rintro σ H18 ⟨v9, rfl, rfl⟩
      exact kq _
end
end Ys
set_option maxHeartbeats 0
/-! The head: what stands at the top, told by names; all promises joined; the law. -/
namespace Ys
open PySem PySem.Spec PyProof.Rows L2
def dF (x : Str) (st : Stmt) : He.DefD := ⟨(x, none), x, x, defArgs st, defBody st, defScope st, [], []⟩
def dM (c m q : Str) (st : Stmt) : He.DefD := ⟨(c, some m), m, q, defArgs st, defBody st, defScope st, [], []⟩
def fnL0 : List He.DefD := [dF "is_row" s_is_row, dF "check_row" s_check_row, dF "first_situation" s_first_situation, dF "is_situation" s_is_situation, dF "source_ends" s_source_ends, dF "target_ends" s_target_ends, dF "possible" s_possible, dF "wagon_of" s_wagon_of, dF "after" s_after, dF "is_live" s_is_live, dF "search_from" s_search_from, dF "solve" s_solve, dF "can_sort" s_can_sort, dF "closed_list" s_closed_list, dF "live_behind" s_live_behind, dF "is_gap" s_is_gap, dF "gap_from" s_gap_from, dF "first_gap" s_first_gap, dF "is_closed" s_is_closed, dF "_law_number" s_law_number, dF "_law_draws" s_law_draws, dF "_law_next" s_law_next, dF "_law_tree" s_law_tree, dF "_law_told" s_law_told, dF "_law_net" s_law_net, dF "_law_plan" s_law_plan, dF "_law_outs" s_law_outs, dF "_law_ins" s_law_ins, dF "_law_moves" s_law_moves, dF "_law_behind" s_law_behind]
def fnL1 : List He.DefD := [dF "_law_live" s_law_live, dF "_law_start" s_law_start, dF "_law_row" s_law_row, dF "_law_drawn" s_law_drawn, dF "_law_placed" s_law_placed, dF "_law_reached" s_law_reached, dF "law" s_law, dM "Yard" "__len__" "Yard.__len__" s_ylen, dM "Yard" "ins" "Yard.ins" s_yins, dM "Yard" "outs" "Yard.outs" s_youts, dM "Yard" "room" "Yard.room" s_yroom, dM "Reading" "sign" "Reading.sign" s_sign, dM "Reading" "device" "Reading.device" s_device, dM "Reading" "first_device" "Reading.first_device" s_fdev, dM "Reading" "joined" "Reading.joined" s_joined, dM "Reading" "closed" "Reading.closed" s_closed, dM "Reading" "whole" "Reading.whole" s_whole, dM "Search" "is_goal" "Search.is_goal" s_goal, dM "Search" "look" "Search.look" s_look, dM "Search" "finish" "Search.finish" s_finish, dM "Group" "__init__" "Group.__init__" s_ginit, dM "Reading" "__init__" "Reading.__init__" s_rinit, dM "Yard" "__init__" "Yard.__init__" s_yinit, dM "Search" "__init__" "Search.__init__" s_sinit]
def fnL : List He.DefD := fnL0 ++ fnL1
def faL0 : List He.Fa := [.glo "is_row", .glo "check_row", .glo "first_situation", .glo "is_situation", .glo "source_ends", .glo "target_ends", .glo "possible", .glo "wagon_of", .glo "after", .glo "is_live", .glo "search_from", .glo "solve", .glo "can_sort", .glo "closed_list", .glo "live_behind", .glo "is_gap", .glo "gap_from", .glo "first_gap", .glo "is_closed", .glo "_law_number", .glo "_law_draws", .glo "_law_next", .glo "_law_tree", .glo "_law_told", .glo "_law_net", .glo "_law_plan", .glo "_law_outs", .glo "_law_ins", .glo "_law_moves", .glo "_law_behind"]
def faL1 : List He.Fa := [.glo "_law_live", .glo "_law_start", .glo "_law_row", .glo "_law_drawn", .glo "_law_placed", .glo "_law_reached", .glo "law", .glo "INS", .glo "OUTS", .glo "CLOSING", .glo "Yard", .glo "Reading", .glo "Group", .glo "Search", .free "len", .free "sorted", .free "list", .free "range", .free "int", .free "tuple", .free "enumerate", .free "isinstance", .free "str", .free "min", .free "bool", .int "LEFT" (0), .int "OUTSIDE" (-1), .int "MOST_rows" (60), .int "MOST_yards" (8), .int "MOST_SITUATIONS" (4000)]
def faL2 : List He.Fa := [.str "KINDS" "sqdio", .str "BOUNDS" "123456", .cls "Yard", .noat "Yard" "text", .noat "Yard" "kinds", .noat "Yard" "bounds", .noat "Yard" "links", .cls "Reading", .noat "Reading" "text", .noat "Reading" "at", .noat "Reading" "kinds", .noat "Reading" "bounds", .noat "Reading" "links", .noat "Reading" "groups", .cls "Group", .noat "Group" "sign", .noat "Group" "yards", .cls "Search", .noat "Search" "yard", .noat "Search" "wagons", .noat "Search" "met", .noat "Search" "known", .noat "Search" "origin", .noat "Search" "found", .meth "Yard" "__len__", .meth "Yard" "ins", .meth "Yard" "outs", .meth "Yard" "room", .meth "Reading" "sign", .meth "Reading" "device"]
def faL3 : List He.Fa := [.meth "Reading" "first_device", .meth "Reading" "joined", .meth "Reading" "closed", .meth "Reading" "whole", .meth "Search" "is_goal", .meth "Search" "look", .meth "Search" "finish", .mkr "Group", .mkr "Reading", .mkr "Yard", .mkr "Search"]
def faL : List He.Fa := faL0 ++ faL1 ++ faL2 ++ faL3
def looseL0 : List Str := ["_wall", "__name__", "YardsortError", "NotRow", "TooLarge", "NotYard", "MOST_rows", "is_row", "KINDS", "BOUNDS", "MOST_yards", "LEFT", "RIGHT", "OUTSIDE", "INS", "OUTS", "CLOSING", "Group", "Reading", "Yard", "check_row", "first_situation", "is_situation", "source_ends", "target_ends", "possible", "wagon_of", "after", "MOST_SITUATIONS", "is_live"]
def looseL1 : List Str := ["Search", "search_from", "solve", "can_sort", "closed_list", "live_behind", "is_gap", "gap_from", "first_gap", "is_closed", "_law_number", "_law_draws", "_law_next", "_law_tree", "_law_told", "_law_net", "_law_plan", "_law_outs", "_law_ins", "_law_moves", "_law_behind", "_law_live", "_law_start", "_law_row", "_law_drawn", "_law_placed", "_law_reached"]
def looseL : List Str := looseL0 ++ looseL1
def tabsL : List He.Tab := [(fun K => He.ga K "INS", ["s", "q", "d", "i", "o"]), (fun K => He.ga K "OUTS", ["s", "q", "d", "i", "o"]), (fun K => He.ga K "CLOSING", ["(", "["])]
def ltrs : List Ltr := [.s, .q, .d, .i, .o]
theorem ltrs_all (l : Ltr) : l ∈ ltrs := by cases l <;> simp [ltrs]
def endsB (K : PySem.W.Frag) (x : Str) (f : Ltr → List Int) : Bool := ltrs.all fun l => match PySem.W.nsIn K (He.ga K x) l.txt with
  | some (some (.ref t)) => (match K.lookup t with
    | some ⟨.type c, _, .seq its _, _⟩ => decide (c = "tuple") && (decide (its.size ≤ sizeLine) && He.relAll ((f l).map V.int) its.toList)
    | _ => false)
  | _ => false
def closB (K : PySem.W.Frag) : Bool := ([false, true].all fun par => match PySem.W.nsIn K (He.ga K "CLOSING") (sgn par) with
  | some (some (.str z _)) => decide (z = clo par)
  | _ => false) && ltrs.all fun l => He.eqO (PySem.W.nsIn K (He.ga K "CLOSING") l.txt) (some none)
def exB (K : PySem.W.Frag) : Bool := endsB K "INS" Ltr.ins && (endsB K "OUTS" Ltr.outs && closB K)
theorem endsB_ok {K : PySem.W.Frag} {x : Str} {f : Ltr → List Int} (h : endsB K x f = true) (l : Ltr) : ∃ t : Addr, PySem.W.nsIn K (He.ga K x) l.txt = some (some (.ref t)) ∧ ∀ H, SqT K H t ((f l).map V.int) := by
  have h2 := List.all_eq_true.mp h l (ltrs_all l)
  cases e : PySem.W.nsIn K (He.ga K x) l.txt with
  | none => rw [e] at h2; cases h2
  | some r =>
    rw [e] at h2
    cases r with
    | none => cases h2
    | some u =>
      cases u with
      | ref t =>
        refine ⟨t, rfl, fun H => ?_⟩
        have h3 : (match K.lookup t with
          | some ⟨.type c, _, .seq its _, _⟩ => decide (c = "tuple") && (decide (its.size ≤ sizeLine) && He.relAll ((f l).map V.int) its.toList)
          | _ => false) = true := h2
        cases q : K.lookup t with
        | none => rw [q] at h3; cases h3
        | some ob =>
          obtain ⟨oc, od, dt, osl⟩ := ob
          rw [q] at h3
          cases oc with
          | type c =>
            cases dt with
            | seq its n =>
              obtain ⟨k1, k2⟩ := He.ba (show (decide (c = "tuple") && (decide (its.size ≤ sizeLine) && He.relAll ((f l).map V.int) its.toList)) = true from h3)
              obtain ⟨k3, k4⟩ := He.ba k2
              exact .inr ⟨_, its, n, q, congrArg Value.type (of_decide_eq_true k1), rfl, of_decide_eq_true k3, He.relAll_ok k4⟩
            | _ => cases h3
          | _ => cases dt <;> cases h3
      | _ => cases h2
theorem closB_ok {K : PySem.W.Frag} (h : closB K = true) : (∀ par, ∃ t, PySem.W.nsIn K (He.ga K "CLOSING") (sgn par) = some (some (.str (clo par) t))) ∧ ∀ l : Ltr, PySem.W.nsIn K (He.ga K "CLOSING") l.txt = some none := by
  obtain ⟨h1, h2⟩ := He.ba h
  refine ⟨fun par => ?_, fun l => He.eqO_ok (List.all_eq_true.mp h2 l (ltrs_all l))⟩
  have h3 := List.all_eq_true.mp h1 par (by cases par <;> simp)
  cases e : PySem.W.nsIn K (He.ga K "CLOSING") (sgn par) with
  | none => rw [e] at h3; cases h3
  | some r =>
    rw [e] at h3
    cases r with
    | none => cases h3
    | some u =>
      cases u with
      | str z t =>
        have ez : z = clo par := of_decide_eq_true h3
        rw [ez]
        exact ⟨t, rfl⟩
      | _ => cases h3
abbrev RW : PySem.W.OpenRow := PySem.W.OpenLaw.row PySem.Challenge.rw_yardsort_k26_whole_closed_lists_are_righ
abbrev hkL : PySem.W.Hook := He.hookX 6 faL fnL tabsL [] exB
def obL (s : PySem.W.SharedT) : He.AlX := He.obsX 6 faL fnL tabsL [] exB (HandSHeadRun.getT s)
theorem obL_eq (s : PySem.W.SharedT) : obL s = hkL.obs s.abs := He.obsX_eq (HandSHeadRun.getT_eq s)
theorem runL0 (w : World) : HandSHeadRun.RunEq RW (PySem.W.view RW.prog [63]) hkL obL 6000 looseL (w.withFollow "special-get-raises" false) := by
  intro os
  kernel_rfl
theorem runL1 (w : World) : HandSHeadRun.RunEq RW (PySem.W.view RW.prog [63]) hkL obL 6000 looseL (w.withFollow "special-get-raises" true) := by
  intro os
  kernel_rfl
theorem runL (w : World) : HandSHeadRun.RunEq RW (PySem.W.view RW.prog [63]) hkL obL 6000 looseL w :=
  PySem.W.byRow2 "special-get-raises" (P := fun w => HandSHeadRun.RunEq RW (PySem.W.view RW.prog [63]) hkL obL 6000 looseL w) runL0 runL1 w
section
variable {P : Program} {w : World} {K : PySem.W.Frag} {h : Heap} {mg : Str → Option Value}
theorem gloL (X : K.In h) (G : h.Ns mainGlobals mg) (c : He.SaysD faL fnL K) : Glo mg where
  len := He.free_ok X G (c.fact 44 (f := .free "len") rfl)
  sorted := He.free_ok X G (c.fact 45 (f := .free "sorted") rfl)
  list := He.free_ok X G (c.fact 46 (f := .free "list") rfl)
  range := He.free_ok X G (c.fact 47 (f := .free "range") rfl)
  int := He.free_ok X G (c.fact 48 (f := .free "int") rfl)
  tuple := He.free_ok X G (c.fact 49 (f := .free "tuple") rfl)
  enumerate := He.free_ok X G (c.fact 50 (f := .free "enumerate") rfl)
  isinstance := He.free_ok X G (c.fact 51 (f := .free "isinstance") rfl)
  str := He.free_ok X G (c.fact 52 (f := .free "str") rfl)
  min := He.free_ok X G (c.fact 53 (f := .free "min") rfl)
  bool := He.free_ok X G (c.fact 54 (f := .free "bool") rfl)
  left := He.int_ok X G (c.fact 55 (f := .int "LEFT" (0)) rfl)
  outside := He.int_ok X G (c.fact 56 (f := .int "OUTSIDE" (-1)) rfl)
  mostRows := He.int_ok X G (c.fact 57 (f := .int "MOST_rows" (60)) rfl)
  mostYards := He.int_ok X G (c.fact 58 (f := .int "MOST_yards" (8)) rfl)
  mostSits := He.int_ok X G (c.fact 59 (f := .int "MOST_SITUATIONS" (4000)) rfl)
  kinds := He.str_ok X G (c.fact 60 (f := .str "KINDS" "sqdio") rfl)
  bounds := He.str_ok X G (c.fact 61 (f := .str "BOUNDS" "123456") rfl)
theorem defL (X : K.In h) (G : h.Ns mainGlobals mg) (c : He.SaysD faL fnL K) {x : Str} {st : Stmt} (i j : Nat) (hi : fnL[i]? = some (dF x st)) (hj : faL[j]? = some (.glo x)) : DefAt K mg x st := by
  obtain ⟨fd, F⟩ := c.def_ i hi
  exact ⟨_, fd, F, He.glo_ok X G (c.fact j hj)⟩
theorem methL (c : He.SaysD faL fnL K) {cl m q : Str} {st : Stmt} (i j : Nat) (hi : fnL[i]? = some (dM cl m q st)) (hj : faL[j]? = some (.meth cl m)) : MethAt K (He.ga K cl) m q st := by
  obtain ⟨fd, F⟩ := c.def_ i hi
  exact ⟨_, fd, F, He.meth_ok (c.fact j hj)⟩
theorem initL (c : He.SaysD faL fnL K) {cl q : Str} {st : Stmt} (i j : Nat) (hi : fnL[i]? = some (dM cl "__init__" q st)) (hj : faL[j]? = some (.mkr cl)) : InitAt K (He.ga K cl) q st := by
  obtain ⟨fd, F⟩ := c.def_ i hi
  exact ⟨_, fd, F, He.mkr_ok (c.fact j hj)⟩
theorem ycL (X : K.In h) (G : h.Ns mainGlobals mg) (c : He.SaysD faL fnL K) : YCls K mg (He.ga K "Yard") := ⟨He.cls_ok (c.fact 62 (f := .cls "Yard") rfl), He.noat_ok (c.fact 63 (f := .noat "Yard" "text") rfl), He.noat_ok (c.fact 64 (f := .noat "Yard" "kinds") rfl), He.noat_ok (c.fact 65 (f := .noat "Yard" "bounds") rfl), He.noat_ok (c.fact 66 (f := .noat "Yard" "links") rfl), He.glo_ok X G (c.fact 40 (f := .glo "Yard") rfl)⟩
theorem rcL (X : K.In h) (G : h.Ns mainGlobals mg) (c : He.SaysD faL fnL K) : RCls K mg (He.ga K "Reading") (He.ga K "Group") := ⟨He.cls_ok (c.fact 67 (f := .cls "Reading") rfl), He.noat_ok (c.fact 68 (f := .noat "Reading" "text") rfl), He.noat_ok (c.fact 69 (f := .noat "Reading" "at") rfl), He.noat_ok (c.fact 70 (f := .noat "Reading" "kinds") rfl), He.noat_ok (c.fact 71 (f := .noat "Reading" "bounds") rfl), He.noat_ok (c.fact 72 (f := .noat "Reading" "links") rfl), He.noat_ok (c.fact 73 (f := .noat "Reading" "groups") rfl), He.glo_ok X G (c.fact 41 (f := .glo "Reading") rfl), He.cls_ok (c.fact 74 (f := .cls "Group") rfl), He.noat_ok (c.fact 75 (f := .noat "Group" "sign") rfl), He.noat_ok (c.fact 76 (f := .noat "Group" "yards") rfl), He.glo_ok X G (c.fact 42 (f := .glo "Group") rfl)⟩
theorem scL (X : K.In h) (G : h.Ns mainGlobals mg) (c : He.SaysD faL fnL K) : SCls K mg (He.ga K "Search") := ⟨He.cls_ok (c.fact 77 (f := .cls "Search") rfl), He.noat_ok (c.fact 78 (f := .noat "Search" "yard") rfl), He.noat_ok (c.fact 79 (f := .noat "Search" "wagons") rfl), He.noat_ok (c.fact 80 (f := .noat "Search" "met") rfl), He.noat_ok (c.fact 81 (f := .noat "Search" "known") rfl), He.noat_ok (c.fact 82 (f := .noat "Search" "origin") rfl), He.noat_ok (c.fact 83 (f := .noat "Search" "found") rfl), He.glo_ok X G (c.fact 43 (f := .glo "Search") rfl)⟩
theorem ytL (X : K.In h) (G : h.Ns mainGlobals mg) (c : He.SaysT faL fnL tabsL w K) (e : exB K = true) : YTab K w mg := by
  obtain ⟨e1, e⟩ := He.ba e
  obtain ⟨e2, e3⟩ := He.ba e
  obtain ⟨es1, n1, t1⟩ := c.tab 0 (t := (fun K => He.ga K "INS", ["s", "q", "d", "i", "o"])) rfl
  obtain ⟨es2, n2, t2⟩ := c.tab 1 (t := (fun K => He.ga K "OUTS", ["s", "q", "d", "i", "o"])) rfl
  obtain ⟨es3, n3, t3⟩ := c.tab 2 (t := (fun K => He.ga K "CLOSING", ["(", "["])) rfl
  obtain ⟨q1, q2⟩ := closB_ok e3
  have d := c.d
  refine ⟨⟨_, es1, n1, He.glo_ok X G (d.fact 37 (f := .glo "INS") rfl), t1, endsB_ok e1⟩, ⟨_, es2, n2, He.glo_ok X G (d.fact 38 (f := .glo "OUTS") rfl), t2, endsB_ok e2⟩, ⟨_, es3, n3, He.glo_ok X G (d.fact 39 (f := .glo "CLOSING") rfl), t3, q1, q2⟩⟩
theorem factsL {f : Addr} (X : K.In h) (G : h.Ns mainGlobals mg) (hfa : mg ("law" : Str) = some (.ref f)) (cx : He.SaysX faL fnL tabsL [] exB w h K) :
    ∃ fd : FuncData, (∀ (s : Shared) (v : Value), BindsTo s fd ⟨[v], []⟩ [("_law_script", v)]) ∧ ∀ base : Heap, K.In base → base.Ns mainGlobals mg → FnOk P w K mg base CX0 9 f fd ["_law_script"] (spLaw K) := by
  have c : He.SaysD faL fnL K := cx.t.d
  obtain ⟨fd, F⟩ := c.def_ 36 (d := dF "law" s_law) rfl
  have e := hfa.symm.trans (He.glo_ok X G (c.fact 36 (f := .glo "law") rfl))
  cases e
  have b := FunD.bindsA (ps := ["_law_script"]) F fun _ _ _ _ _ _ us hl => match us, hl with | [_], _ => rfl
  refine ⟨fd, fun s v => b s [v] rfl, fun base _ _ => fn_ok F sc_law (fun vs H Q E ⟨_, _, h, _⟩ => by rw [h]; rfl) ?_⟩
  have GG := gloL X G c
  have YY := ycL X G c
  have RR := rcL X G c
  have SS := scL X G c
  have TT := ytL X G cx.t cx.more
  have k_number := ok_number (P := P) (w := w) (base := base) (defL X G c 19 19 rfl rfl)
  have k_next := ok_next (P := P) (w := w) (base := base) (defL X G c 21 21 rfl rfl)
  have k_draws := ok_draws (P := P) (w := w) (base := base) GG (defL X G c 20 20 rfl rfl) k_number
  have k_tree := ok_tree (P := P) (w := w) (base := base) GG (defL X G c 22 22 rfl rfl) k_next (defL X G c 24 24 rfl rfl)
  have k_net := ok_net (P := P) (w := w) (base := base) GG (defL X G c 24 24 rfl rfl)
  have k_told := ok_told (P := P) (w := w) (base := base) GG (defL X G c 23 23 rfl rfl)
  have k_plan := ok_plan (P := P) (w := w) (base := base) GG (defL X G c 25 25 rfl rfl) k_net
  have k_louts := ok_louts (P := P) (w := w) (base := base) GG (defL X G c 26 26 rfl rfl)
  have k_lins := ok_lins (P := P) (w := w) (base := base) GG (defL X G c 27 27 rfl rfl)
  have k_lmoves := ok_lmoves (P := P) (w := w) (base := base) GG (defL X G c 28 28 rfl rfl) k_louts k_lins
  have k_lbehind := ok_lbehind (P := P) (w := w) (base := base) GG (defL X G c 29 29 rfl rfl)
  have k_llive := ok_llive (P := P) (w := w) (base := base) GG (defL X G c 30 30 rfl rfl)
  have k_lstart := ok_lstart (P := P) (w := w) (base := base) GG (defL X G c 31 31 rfl rfl)
  have k_lrow := ok_lrow (P := P) (w := w) (base := base) GG (defL X G c 32 32 rfl rfl) k_next
  have k_drawn := ok_drawn (P := P) (w := w) (base := base) GG (defL X G c 33 33 rfl rfl) k_next k_tree k_plan k_lrow
  have k_placed := ok_placed (P := P) (w := w) (base := base) GG (defL X G c 34 34 rfl rfl) k_next k_lstart
  have k_reached := ok_reached (P := P) (w := w) (base := base) GG (defL X G c 35 35 rfl rfl) k_lmoves k_lbehind k_llive
  have k_len := ok_ylen (P := P) (w := w) (base := base) GG YY (methL c 37 84 rfl rfl)
  have k_ins := ok_yins (P := P) (w := w) (base := base) GG YY TT (methL c 38 85 rfl rfl)
  have k_outs := ok_youts (P := P) (w := w) (base := base) GG YY TT (methL c 39 86 rfl rfl)
  have k_room := ok_yroom (P := P) (w := w) (base := base) GG YY (methL c 40 87 rfl rfl)
  have k_is_row := ok_is_row (P := P) (w := w) (base := base) GG (defL X G c 0 0 rfl rfl)
  have k_check_row := ok_check_row (P := P) (w := w) (base := base) GG (defL X G c 1 1 rfl rfl) k_is_row
  have k_first := ok_first (P := P) (w := w) (base := base) GG YY (defL X G c 2 2 rfl rfl) k_check_row k_len
  have k_live := ok_live (P := P) (w := w) (base := base) GG (defL X G c 9 9 rfl rfl)
  have k_source := ok_source_ends (P := P) (w := w) (base := base) GG YY (defL X G c 4 4 rfl rfl) k_outs
  have k_target := ok_target_ends (P := P) (w := w) (base := base) GG YY (defL X G c 5 5 rfl rfl) k_ins k_room
  have k_possible := ok_possible (P := P) (w := w) (base := base) GG YY (defL X G c 6 6 rfl rfl) k_source k_target
  have k_wagon := ok_wagon_of (P := P) (w := w) (base := base) GG (defL X G c 7 7 rfl rfl)
  have k_after := ok_after (P := P) (w := w) (base := base) GG (defL X G c 8 8 rfl rfl) k_wagon
  have k_is_sit := ok_is_situation (P := P) (w := w) (base := base) GG YY (defL X G c 3 3 rfl rfl) k_len
  have k_goal := ok_goal (P := P) (w := w) (base := base) GG SS (methL c 47 94 rfl rfl)
  have k_look := ok_look (P := P) (w := w) (base := base) GG SS (methL c 48 95 rfl rfl) k_possible k_after k_live k_goal
  have k_sinit := ok_sinit (P := P) (w := w) (base := base) GG SS (initL c 53 100 rfl rfl) k_goal
  have k_finish := ok_finish (P := P) (w := w) (base := base) GG SS (methL c 49 96 rfl rfl) k_look
  have k_from := ok_search_from (P := P) (w := w) (base := base) GG SS (defL X G c 10 10 rfl rfl) k_sinit k_finish
  have k_solve := ok_solve (P := P) (w := w) (base := base) GG SS (defL X G c 11 11 rfl rfl) k_from k_first
  have k_can := ok_can_sort (P := P) (w := w) (base := base) GG (defL X G c 12 12 rfl rfl) k_solve
  have k_clist := ok_closed_list (P := P) (w := w) (base := base) GG SS (defL X G c 13 13 rfl rfl) k_from k_first
  have k_lb := ok_live_behind (P := P) (w := w) (base := base) GG (defL X G c 14 14 rfl rfl) k_possible k_after k_live
  have k_gap := ok_is_gap (P := P) (w := w) (base := base) GG (defL X G c 15 15 rfl rfl) k_is_sit k_lb k_live
  have k_gapf := ok_gap_from (P := P) (w := w) (base := base) GG (defL X G c 16 16 rfl rfl) k_gap
  have k_fgap := ok_first_gap (P := P) (w := w) (base := base) GG (defL X G c 17 17 rfl rfl) k_gapf k_first
  have k_isc := ok_is_closed (P := P) (w := w) (base := base) GG (defL X G c 18 18 rfl rfl) k_fgap
  have k_sign := ok_sign (P := P) (w := w) (base := base) RR (methL c 41 88 rfl rfl)
  have k_ginit := ok_ginit (P := P) (w := w) (base := base) RR (initL c 50 97 rfl rfl)
  have k_device := ok_device (P := P) (w := w) (base := base) (GC := He.ga K "Group") GG RR (methL c 42 89 rfl rfl) k_sign
  have k_fdev := ok_fdev (P := P) (w := w) (base := base) GG RR TT (methL c 43 90 rfl rfl) k_sign k_device k_ginit
  have k_joined := ok_joined (P := P) (w := w) (base := base) GG RR (methL c 44 91 rfl rfl)
  have k_closed := ok_closed (P := P) (w := w) (base := base) GG RR TT (methL c 45 92 rfl rfl) k_sign k_joined
  have k_whole := ok_whole (P := P) (w := w) (base := base) GG RR (methL c 46 93 rfl rfl) k_sign k_fdev k_closed
  have k_rinit := ok_rinit (P := P) (w := w) (base := base) RR (initL c 51 98 rfl rfl)
  have k_yinit := ok_yinit (P := P) (w := w) (base := base) GG RR YY (initL c 52 99 rfl rfl) k_rinit k_whole
  exact ok_law GG YY k_draws k_next k_drawn k_lstart k_placed k_reached k_told k_yinit k_isc k_clist k_can
end
end Ys
open PySem PySem.W PySem.Calls PyProof.Rows
theorem PySem.Challenge.cw_yardsort_k26_whole_closed_lists_are_righ_holds : PySem.Challenge.rw_yardsort_k26_whole_closed_lists_are_righ.Holds := by
  w_on; o_law
  refine HandSHeadRun.head_any (r := OpenLaw.row PySem.Challenge.rw_yardsort_k26_whole_closed_lists_are_righ) (q := view (OpenLaw.row PySem.Challenge.rw_yardsort_k26_whole_closed_lists_are_righ).prog [63]) (H := Ys.hkL) (ob := Ys.obL) (M := 6000) (loose := Ys.looseL) (d := HandSHeadRun.topDef (OpenLaw.row PySem.Challenge.rw_yardsort_k26_whole_closed_lists_are_righ).prog 63) (kwd := []) Ys.obL_eq
    (by kernel_rfl) (fun s => by kernel_rfl) Ys.runL (by kernel_rfl) (by kernel_rfl) (by kernel_rfl) (by rfl) (by first | assumption | decide +kernel) (by decide +kernel) ⟨rfl, rfl, rfl, rfl, rfl, by decide +kernel⟩ ?hw ?hc
  case hw => w_witness2
  case hc =>
    refine L2.walk_ofE (l := PySem.Challenge.rw_yardsort_k26_whole_closed_lists_are_righ) (n := 63) (k := 9) (x := "_law_script") (CX := L2.CX0) rfl (by decide) (by kernel_rfl) ⟨rfl, by decide, by decide⟩ ?F (fun _ _ _ _ z => z)
    intro w mg fa h Y G hmg0
    obtain ⟨K, KX, c⟩ := Y
    have hmg : mg ("law" : PySem.Str) = some (.ref fa) := by
      have e : (HandSHeadRun.topDef (OpenLaw.row PySem.Challenge.rw_yardsort_k26_whole_closed_lists_are_righ).prog 63).name = ("law" : PySem.Str) := by kernel_rfl
      rw [← e]
      exact hmg0
    obtain ⟨fd, hb, hF⟩ := Ys.factsL (P := (PySem.Challenge.rw_yardsort_k26_whole_closed_lists_are_righ).prog) (w := w) KX G hmg c
    exact ⟨K, fd, Ys.spLaw K, KX, hb, fun H a ns hl _ hS => ⟨a, ns, rfl, hS, hl, fun _ => rfl⟩, hF⟩
