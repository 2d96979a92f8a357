import PyProof.Rows.All
import Wide.All
import OpenK.AllK
import Wide.FinOn
import KE.KStateDown
import KE.KExcSuper
import KE.KExcInit
import HandS.ForMost
import HandS.ForExc
import HandS.Evl
import HandS.Conv
import HandS.TupAny
import HandS.TupLe
import HandS.Style
import HandS.Flow
import HandS.IsInst
import HandS.Defaults
import HandS.Sort
import HandS.SortInts
import HandS.Lambda
import HandS.TryMany
import HandS.ExcField
import HandS.ExcIs
import HandS.ExcInit
import HandS.OwnEq
import HandS.CallSlots
import HandS.Wide
import HandS.DictComp
import HandS.Zip
import HandS.RaiseMore
import HandS.HotCalls
import HandS.Head0
import HandS.Head1
import HandS.Head2
import HandS.HeadEnd
import HandS.HeadHook1
import HandS.HeadHook2
import HandS.HeadHook3
import HandS.HeadHook4
import HandS.EndBits
import HandS.EndTab
import HandS.HeadWalk
import KE.GoesMore
import KE.GoesEnum
import HandS.Walk
import KE.KSuper
import PyProof.ExcBaseAll.LookupError
import PyProof.InstStoreFacts
import KE.KExcIs
import PySem.Challenge.RW_houseslessties_k30_whole_when_turns_lead
set_option linter.all false
namespace K30M
/-! ## ways between houses -/
abbrev Ties := List (Nat × Nat)
def Adj (T : Ties) (x y : Nat) : Prop := (x, y) ∈ T ∨ (y, x) ∈ T
inductive Conn (T : Ties) : Nat → Nat → Prop where
  | refl (x : Nat) : Conn T x x
  | tail {x y z : Nat} : Conn T x y → Adj T y z → Conn T x z

theorem Adj.symm {T : Ties} {x y : Nat} (h : Adj T x y) : Adj T y x := Or.symm h
theorem Conn.one {T : Ties} {x y : Nat} (h : Adj T x y) : Conn T x y := .tail (.refl x) h
theorem Conn.trans {T : Ties} {x y z : Nat} (a : Conn T x y) (b : Conn T y z) : Conn T x z := by
  induction b with
  | refl => exact a
  | tail _ h ih => exact .tail ih h
theorem Conn.symm {T : Ties} {x y : Nat} (a : Conn T x y) : Conn T y x := by
  induction a with
  | refl => exact .refl _
  | tail _ h ih => exact (Conn.one h.symm).trans ih
theorem Adj.mono {T U : Ties} (s : ∀ p, p ∈ T → p ∈ U) {x y : Nat} (h : Adj T x y) : Adj U x y := h.imp (s _) (s _)
theorem Conn.mono {T U : Ties} (s : ∀ p, p ∈ T → p ∈ U) {x y : Nat} (a : Conn T x y) : Conn U x y := by
  induction a with
  | refl => exact .refl _
  | tail _ h ih => exact .tail ih (h.mono s)
theorem Conn.perm {T U : Ties} (p : T.Perm U) {x y : Nat} : Conn T x y ↔ Conn U x y :=
  ⟨Conn.mono fun q h => p.mem_iff.mp h, Conn.mono fun q h => p.mem_iff.mpr h⟩
theorem Conn.into {T : Ties} {x y : Nat} (S : Nat → Prop) (hc : ∀ a b, S a → Adj T a b → S b) (a : Conn T x y) (hx : S x) : S y := by
  induction a with
  | refl => exact hx
  | tail _ h ih => exact hc _ _ ih h
/-- ends are houses -/
def Ends (n : Nat) (T : Ties) : Prop := ∀ p ∈ T, p.1 < n ∧ p.2 < n
theorem Adj.lt {n : Nat} {T : Ties} (e : Ends n T) {x y : Nat} (h : Adj T x y) : x < n ∧ y < n := by
  rcases h with h | h
  · exact e _ h
  · exact ⟨(e _ h).2, (e _ h).1⟩
theorem Conn.lt {n : Nat} {T : Ties} (e : Ends n T) {x y : Nat} (a : Conn T x y) (hx : x < n) : y < n :=
  a.into (fun z => z < n) (fun _ _ _ h => (h.lt e).2) hx
/-- a tie more -/
theorem Conn.cons {T : Ties} {a b x y : Nat} : Conn ((a, b) :: T) x y ↔ Conn T x y ∨ (Conn T x a ∧ Conn T b y) ∨ (Conn T x b ∧ Conn T a y) := by
  constructor
  · intro h
    induction h with
    | refl => exact .inl (.refl _)
    | @tail y z _ h ih =>
      have hh : Adj T y z ∨ (y = a ∧ z = b) ∨ (y = b ∧ z = a) := by
        rcases h with h | h
        · rcases List.mem_cons.mp h with e | h
          · exact .inr (.inl ⟨congrArg Prod.fst e, congrArg Prod.snd e⟩)
          · exact .inl (.inl h)
        · rcases List.mem_cons.mp h with e | h
          · exact .inr (.inr ⟨congrArg Prod.snd e, congrArg Prod.fst e⟩)
          · exact .inl (.inr h)
      rcases hh with h | ⟨rfl, rfl⟩ | ⟨rfl, rfl⟩
      · rcases ih with i | ⟨i, j⟩ | ⟨i, j⟩
        · exact .inl (.tail i h)
        · exact .inr (.inl ⟨i, .tail j h⟩)
        · exact .inr (.inr ⟨i, .tail j h⟩)
      · rcases ih with i | ⟨i, j⟩ | ⟨i, j⟩
        · exact .inr (.inl ⟨i, .refl _⟩)
        · exact .inr (.inl ⟨i, .refl _⟩)
        · exact .inl i
      · rcases ih with i | ⟨i, j⟩ | ⟨i, j⟩
        · exact .inr (.inr ⟨i, .refl _⟩)
        · exact .inl i
        · exact .inr (.inr ⟨i, .refl _⟩)
  · have m : ∀ {x y}, Conn T x y → Conn ((a, b) :: T) x y := fun h => h.mono fun _ q => List.mem_cons_of_mem _ q
    have e : Conn ((a, b) :: T) a b := .one (.inl List.mem_cons_self)
    rintro (h | ⟨h, k⟩ | ⟨h, k⟩)
    · exact m h
    · exact ((m h).trans e).trans (m k)
    · exact ((m h).trans e.symm).trans (m k)
theorem Conn.consC {T : Ties} {a b x y : Nat} (c : Conn T a b) : Conn ((a, b) :: T) x y ↔ Conn T x y := by
  rw [Conn.cons]
  constructor
  · rintro (h | ⟨h, k⟩ | ⟨h, k⟩)
    · exact h
    · exact (h.trans c).trans k
    · exact (h.trans c.symm).trans k
  · exact .inl

/-! ## parts, counted -/
open Classical in
noncomputable def connB (T : Ties) (x y : Nat) : Bool := decide (Conn T x y)
theorem connB_iff {T : Ties} {x y : Nat} : connB T x y = true ↔ Conn T x y := by
  unfold connB
  exact @decide_eq_true_iff _ (Classical.propDecidable _)
theorem connB_false {T : Ties} {x y : Nat} : connB T x y = false ↔ ¬ Conn T x y := by
  unfold connB
  exact @decide_eq_false_iff_not _ (Classical.propDecidable _)
theorem connB_congr {T U : Ties} {x y z v : Nat} (h : Conn T x y ↔ Conn U z v) : connB T x y = connB U z v := by
  cases e : connB U z v with
  | true => exact connB_iff.mpr (h.mpr (connB_iff.mp e))
  | false => exact connB_false.mpr fun c => connB_false.mp e (h.mp c)
noncomputable def part (T : Ties) (n h : Nat) : List Nat := (List.range n).filter (connB T h)
noncomputable def ecount (T : Ties) (h : Nat) : Nat := T.countP fun p => connB T h p.1
theorem mem_part {T : Ties} {n h x : Nat} : x ∈ part T n h ↔ x < n ∧ Conn T h x := by
  unfold part
  rw [List.mem_filter, List.mem_range, connB_iff]
theorem part_nodup (T : Ties) (n h : Nat) : (part T n h).Nodup := List.nodup_range.filter _
theorem part_congr {T : Ties} {n h x : Nat} (c : Conn T h x) : part T n h = part T n x := by
  unfold part
  refine List.filter_congr fun y _ => connB_congr ⟨fun k => c.symm.trans k, fun k => c.trans k⟩
theorem part_inj {T : Ties} {n h x : Nat} (hx : x < n) (e : part T n h = part T n x) : Conn T h x := by
  have : x ∈ part T n h := by
    rw [e]
    exact mem_part.mpr ⟨hx, .refl x⟩
  exact (mem_part.mp this).2
theorem ecount_congr {T : Ties} {h x : Nat} (c : Conn T h x) : ecount T h = ecount T x := by
  unfold ecount
  refine List.countP_congr fun p _ => ?_
  rw [connB_iff, connB_iff]
  exact ⟨fun k => c.symm.trans k, fun k => c.trans k⟩
/-- each part has one house more than ties -/
def Tree (n : Nat) (T : Ties) : Prop := ∀ h, h < n → ecount T h + 1 = (part T n h).length
theorem part_len (T : Ties) (n h : Nat) : (part T n h).length = (List.range n).countP (connB T h) := List.countP_eq_length_filter.symm
theorem countP_or {α : Type} (p q r : α → Bool) (l : List α) (hr : ∀ x ∈ l, r x = (p x || q x)) (d : ∀ x ∈ l, ¬ (p x = true ∧ q x = true)) : l.countP r = l.countP p + l.countP q := by
  induction l with
  | nil => rfl
  | cons a l ih =>
    have i := ih (fun x hx => hr x (List.mem_cons_of_mem _ hx)) (fun x hx => d x (List.mem_cons_of_mem _ hx))
    have e := hr a List.mem_cons_self
    have da := d a List.mem_cons_self
    rw [List.countP_cons, List.countP_cons, List.countP_cons, i, e]
    cases hp : p a <;> cases hq : q a <;> simp_all <;> omega
theorem Tree.nil (n : Nat) : Tree n [] := by
  intro h hn
  rw [part_len]
  have e : (List.range n).countP (connB [] h) = (List.range n).countP (fun x => x == h) := by
    refine List.countP_congr fun x _ => ?_
    rw [connB_iff, beq_iff_eq]
    constructor
    · intro c
      exact c.into (fun z => z = h) (fun a b _ k => by rcases k with k | k <;> cases k) rfl
    · rintro rfl
      exact .refl _
  rw [e]
  show 0 + 1 = List.count h (List.range n)
  have : List.count h (List.range n) = 1 := by
    rw [List.count_range, if_pos hn]
  rw [this]
theorem ecount_cons {T : Ties} {a b h : Nat} : ecount ((a, b) :: T) h = T.countP (fun p => connB ((a, b) :: T) h p.1) + if connB ((a, b) :: T) h a then 1 else 0 := by
  unfold ecount
  rw [List.countP_cons]
theorem Tree.consC {n : Nat} {T : Ties} {a b : Nat} (t : Tree n T) (ha : a < n) (c : Conn T a b) : ¬ Tree n ((a, b) :: T) := by
  intro t2
  have h1 := t a ha
  have h2 := t2 a ha
  have e1 : part ((a, b) :: T) n a = part T n a := by
    unfold part
    exact List.filter_congr fun y _ => connB_congr (Conn.consC c)
  have e2 : ecount ((a, b) :: T) a = ecount T a + 1 := by
    rw [ecount_cons, if_pos (connB_iff.mpr (.refl a))]
    unfold ecount
    congr 1
    exact List.countP_congr fun p _ => by rw [connB_iff, connB_iff]; exact Conn.consC c
  rw [e1, e2] at h2
  omega
theorem Tree.cons {n : Nat} {T : Ties} {a b : Nat} (t : Tree n T) (ha : a < n) (hb : b < n) (c : ¬ Conn T a b) : Tree n ((a, b) :: T) := by
  intro h hn
  by_cases k : Conn T h a ∨ Conn T h b
  · -- h in one of both
    have key : ∀ y, Conn ((a, b) :: T) h y ↔ (Conn T a y ∨ Conn T b y) := by
      intro y
      rw [Conn.cons]
      rcases k with k | k
      · constructor
        · rintro (q | ⟨_, q⟩ | ⟨q, r⟩)
          · exact .inl (k.symm.trans q)
          · exact .inr q
          · exact .inl r
        · rintro (q | q)
          · exact .inl (k.trans q)
          · exact .inr (.inl ⟨k, q⟩)
      · constructor
        · rintro (q | ⟨q, r⟩ | ⟨_, q⟩)
          · exact .inr (k.symm.trans q)
          · exact .inr r
          · exact .inl q
        · rintro (q | q)
          · exact .inr (.inr ⟨k, q⟩)
          · exact .inl (k.trans q)
    have apart : ∀ y, ¬ (Conn T a y ∧ Conn T b y) := fun y ⟨p, q⟩ => c (p.trans q.symm)
    have keyB : ∀ y, connB ((a, b) :: T) h y = (connB T a y || connB T b y) := by
      intro y
      rw [Bool.eq_iff_iff, Bool.or_eq_true, connB_iff, connB_iff, connB_iff]
      exact key y
    have e1 : (part ((a, b) :: T) n h).length = (part T n a).length + (part T n b).length := by
      rw [part_len, part_len, part_len]
      refine countP_or _ _ _ _ (fun y _ => keyB y) fun y _ ⟨p, q⟩ => apart y ⟨connB_iff.mp p, connB_iff.mp q⟩
    have e2 : ecount ((a, b) :: T) h = ecount T a + ecount T b + 1 := by
      rw [ecount_cons, if_pos (connB_iff.mpr ((key a).mpr (.inl (.refl a))))]
      congr 1
      unfold ecount
      refine countP_or _ _ _ _ (fun y _ => keyB y.1) fun y _ ⟨p, q⟩ => apart y.1 ⟨connB_iff.mp p, connB_iff.mp q⟩
    have h1 := t a ha
    have h2 := t b hb
    omega
  · have key : ∀ y, Conn ((a, b) :: T) h y ↔ Conn T h y := by
      intro y
      rw [Conn.cons]
      constructor
      · rintro (q | ⟨q, _⟩ | ⟨q, _⟩)
        · exact q
        · exact absurd (.inl q) k
        · exact absurd (.inr q) k
      · exact .inl
    have e1 : part ((a, b) :: T) n h = part T n h := by
      unfold part
      exact List.filter_congr fun y _ => connB_congr (key y)
    have e2 : ecount ((a, b) :: T) h = ecount T h := by
      rw [ecount_cons, if_neg (by rw [connB_iff, key]; exact fun q => k (.inl q))]
      unfold ecount
      exact List.countP_congr fun p _ => by rw [connB_iff, connB_iff]; exact key p.1
    have h1 := t h hn
    rw [e1, e2]
    exact h1
theorem Tree.perm {n : Nat} {T U : Ties} (p : T.Perm U) (t : Tree n T) : Tree n U := by
  intro h hn
  have e1 : part U n h = part T n h := by
    unfold part
    exact List.filter_congr fun y _ => connB_congr (Conn.perm p).symm
  have e2 : ecount U h = ecount T h := by
    unfold ecount
    rw [← p.countP_eq]
    exact List.countP_congr fun q _ => by rw [connB_iff, connB_iff]; exact (Conn.perm p).symm
  rw [e1, e2]
  exact t h hn
/-! ## forests -/
/-- made by ties that join what was not joined -/
inductive Forest : Ties → Prop where
  | nil : Forest []
  | cons {T : Ties} {a b : Nat} : Forest T → ¬ Conn T a b → Forest ((a, b) :: T)
  | perm {T U : Ties} : Forest T → T.Perm U → Forest U
theorem Forest.tree {n : Nat} {T : Ties} (f : Forest T) : Ends n T → Tree n T := by
  induction f with
  | nil => exact fun _ => Tree.nil n
  | cons f c ih => exact fun e => Tree.cons (ih fun p hp => e p (List.mem_cons_of_mem _ hp)) (e _ List.mem_cons_self).1 (e _ List.mem_cons_self).2 c
  | perm f p ih => exact fun e => Tree.perm p (ih fun q hq => e q (p.mem_iff.mp hq))
/-- what a tie parts -/
def Bridged (T : Ties) : Prop := ∀ (i u v : Nat), T[i]? = some (u, v) → ∃ A : Nat → Prop, A u ∧ ¬ A v ∧ ∀ (j p q : Nat), j ≠ i → T[j]? = some (p, q) → (A p ↔ A q)
/-- the ties but one do not join its houses -/
def Cut (T : Ties) : Prop := ∀ (u v : Nat) (U : Ties), T.Perm ((u, v) :: U) → ¬ Conn U u v
theorem Cut.perm {T U : Ties} (c : Cut T) (p : T.Perm U) : Cut U := fun u v W q => c u v W (p.trans q)
theorem Forest.cut {T : Ties} (f : Forest T) : Cut T := by
  induction f with
  | nil => exact fun u v U p => by have := p.length_eq; simp at this
  | perm f p ih => exact ih.perm p
  | @cons T a b f c ih =>
    intro u v U p
    by_cases e : (a, b) = (u, v)
    · injection e with e1 e2
      subst e1 e2
      intro k
      exact c ((Conn.perm (List.Perm.cons_inv p)).mpr k)
    · -- the new tie is in U
      have hm : (a, b) ∈ U := by
        have := p.mem_iff.mp (List.mem_cons_self (a := (a, b)) (l := T))
        rcases List.mem_cons.mp this with q | q
        · exact absurd q e
        · exact q
      have pU := List.perm_cons_erase hm
      have pT : T.Perm ((u, v) :: U.erase (a, b)) := by
        have : ((a, b) :: T).Perm ((a, b) :: (u, v) :: U.erase (a, b)) := p.trans (((List.Perm.cons _ pU)).trans (List.Perm.swap _ _ _))
        exact List.Perm.cons_inv this
      have no := ih u v _ pT
      intro k
      have k2 := (Conn.perm pU).mp k
      have up : ∀ {x y}, Conn (U.erase (a, b)) x y → Conn T x y := fun q => (Conn.perm pT).mpr (q.mono fun _ h => List.mem_cons_of_mem _ h)
      have uv : Conn T u v := (Conn.perm pT).mpr (.one (.inl List.mem_cons_self))
      rcases Conn.cons.mp k2 with q | ⟨q, r⟩ | ⟨q, r⟩
      · exact no q
      · exact c (((up q).symm.trans uv).trans (up r).symm)
      · exact c ((up r).trans (uv.symm.trans (up q)))
theorem perm_eraseIdx {α : Type} : ∀ {l : List α} {i : Nat} {x : α}, l[i]? = some x → l.Perm (x :: l.eraseIdx i)
  | [], i, x, h => by simp at h
  | a :: l, 0, x, h => by
    have e : a = x := by simpa using h
    subst e
    exact .refl _
  | a :: l, i + 1, x, h => by
    have := perm_eraseIdx (l := l) (i := i) (x := x) (by simpa using h)
    exact (List.Perm.cons a this).trans (.swap _ _ _)
theorem mem_eraseIdx_of {α : Type} : ∀ {l : List α} {i j : Nat} {x : α}, j ≠ i → l[j]? = some x → x ∈ l.eraseIdx i
  | [], i, j, x, _, h => by simp at h
  | a :: l, 0, 0, x, hn, h => absurd rfl hn
  | a :: l, 0, j + 1, x, _, h => by
    simp at h
    exact List.mem_of_getElem? h
  | a :: l, i + 1, 0, x, _, h => by
    simp at h
    subst h
    simp
  | a :: l, i + 1, j + 1, x, hn, h => by
    have := mem_eraseIdx_of (l := l) (i := i) (j := j) (x := x) (fun e => hn (by rw [e])) (by simpa using h)
    simp [this]
theorem Forest.bridged {T : Ties} (f : Forest T) : Bridged T := by
  intro i u v hi
  refine ⟨fun y => Conn (T.eraseIdx i) u y, .refl _, f.cut u v _ (perm_eraseIdx hi), fun j p q hj hq => ?_⟩
  have a : Adj (T.eraseIdx i) p q := .inl (mem_eraseIdx_of hj hq)
  exact ⟨fun k => .tail k a, fun k => .tail k a.symm⟩
end K30M
namespace K30M
/-! ## knowledge: what a house has heard of (houses: inl, ties: inr) -/
abbrev El := Nat ⊕ Nat
abbrev Know := Nat → El → Bool
def ins (T : Ties) (t : Nat) : Nat × Nat := T.getD t (0, 0)
/-- a meeting over the tie t -/
def meetK (T : Ties) (k : Know) (t : Nat) : Know := fun h e =>
  if h = (ins T t).1 ∨ h = (ins T t).2 then k (ins T t).1 e || k (ins T t).2 e || decide (e = .inr t) else k h e
def know0 : Know := fun h e => decide (e = .inl h)
/-- the tie at a turn -/
def turn (ts : List Nat) (k : Nat) : Nat := ts.getD (k % ts.length) 0
def know (T : Ties) (ts : List Nat) : Nat → Know
  | 0 => know0
  | k + 1 => meetK T (know T ts k) (turn ts k)
/-- ts is an order of all ties -/
def Order (T : Ties) (ts : List Nat) : Prop := ts.Perm (List.range T.length)
theorem Order.len {T : Ties} {ts : List Nat} (o : Order T ts) : ts.length = T.length := by
  have := o.length_eq
  rwa [List.length_range] at this
theorem Order.lt {T : Ties} {ts : List Nat} (o : Order T ts) {t : Nat} (h : t ∈ ts) : t < T.length := List.mem_range.mp (o.mem_iff.mp h)
theorem Order.turn {T : Ties} {ts : List Nat} (o : Order T ts) (h : 0 < T.length) (k : Nat) : turn ts k < T.length := by
  unfold K30M.turn
  have hl : k % ts.length < ts.length := Nat.mod_lt _ (by rw [o.len]; exact h)
  rw [List.getD_eq_getElem?_getD, List.getElem?_eq_getElem hl]
  exact o.lt (List.getElem_mem hl)
theorem ins_eq {T : Ties} {t : Nat} (h : t < T.length) : T[t]? = some (ins T t) := by
  unfold ins
  rw [List.getD_eq_getElem?_getD, List.getElem?_eq_getElem h]
  rfl
theorem ins_mem {T : Ties} {t : Nat} (h : t < T.length) : ins T t ∈ T := List.mem_of_getElem? (ins_eq h)
theorem ins_of {T : Ties} {t : Nat} {p : Nat × Nat} (h : T[t]? = some p) : ins T t = p ∧ t < T.length := by
  have hl : t < T.length := (List.getElem?_eq_some_iff.mp h).1
  have := ins_eq hl
  rw [h] at this
  exact ⟨(Option.some.inj this).symm, hl⟩
theorem adj_ins {T : Ties} {t : Nat} (h : t < T.length) : Adj T (ins T t).1 (ins T t).2 := .inl (ins_mem h)

theorem meetK_mono {T : Ties} {k : Know} {t h : Nat} {e : El} (q : k h e = true) : meetK T k t h e = true := by
  unfold meetK
  split
  · rename_i c
    rcases c with rfl | rfl <;> simp [q]
  · exact q
theorem know_mono {T : Ties} {ts : List Nat} {h : Nat} {e : El} : ∀ {i j : Nat}, i ≤ j → know T ts i h e = true → know T ts j h e = true := by
  intro i j hij
  induction hij with
  | refl => exact id
  | step _ ih => exact fun q => meetK_mono (ih q)
theorem know_self {T : Ties} {ts : List Nat} (k h : Nat) : know T ts k h (.inl h) = true := know_mono (Nat.zero_le k) (decide_eq_true rfl)
/-- what both say behind a meeting -/
theorem meetK_at {T : Ties} {k : Know} {t h : Nat} (c : h = (ins T t).1 ∨ h = (ins T t).2) (e : El) : meetK T k t h e = (k (ins T t).1 e || k (ins T t).2 e || decide (e = .inr t)) := if_pos c
theorem meetK_out {T : Ties} {k : Know} {t h : Nat} (c : ¬ (h = (ins T t).1 ∨ h = (ins T t).2)) (e : El) : meetK T k t h e = k h e := if_neg c
/-- who knows a tie knows its houses -/
theorem know_ends {T : Ties} {ts : List Nat} (j : Nat) : ∀ (k h : Nat), know T ts k h (.inr j) = true → know T ts k h (.inl (ins T j).1) = true ∧ know T ts k h (.inl (ins T j).2) = true
  | 0, h, q => by
    have : (Sum.inr j : El) = Sum.inl h := of_decide_eq_true q
    cases this
  | k + 1, h, q => by
    have q' : meetK T (know T ts k) (turn ts k) h (.inr j) = true := q
    show meetK T (know T ts k) (turn ts k) h _ = true ∧ meetK T (know T ts k) (turn ts k) h _ = true
    by_cases c : h = (ins T (turn ts k)).1 ∨ h = (ins T (turn ts k)).2
    · rw [meetK_at c] at q'
      rw [meetK_at c, meetK_at c]
      simp only [Bool.or_eq_true] at q' ⊢
      rcases q' with (q' | q') | q'
      · have := know_ends j k _ q'
        exact ⟨.inl (.inl this.1), .inl (.inl this.2)⟩
      · have := know_ends j k _ q'
        exact ⟨.inl (.inr this.1), .inl (.inr this.2)⟩
      · have e : turn ts k = j := (Sum.inr.inj (of_decide_eq_true q')).symm
        rw [e]
        exact ⟨.inl (.inl (know_self k _)), .inl (.inr (know_self k _))⟩
    · rw [meetK_out c] at q'
      rw [meetK_out c, meetK_out c]
      exact know_ends j k h q'
/-- nobody knows what lies apart -/
theorem know_conn {T : Ties} {ts : List Nat} (o : Order T ts) (hT : 0 < T.length) : ∀ (k h : Nat) (e : El), know T ts k h e = true → (∀ x, e = .inl x → Conn T h x) ∧ (∀ j, e = .inr j → j < T.length ∧ Conn T h (ins T j).1)
  | 0, h, e, q => by
    have : e = .inl h := of_decide_eq_true q
    subst this
    exact ⟨fun x e => by injection e with e; subst e; exact .refl _, fun j e => by cases e⟩
  | k + 1, h, e, q => by
    have q' : meetK T (know T ts k) (turn ts k) h e = true := q
    have hl := o.turn hT k
    by_cases c : h = (ins T (turn ts k)).1 ∨ h = (ins T (turn ts k)).2
    · rw [meetK_at c] at q'
      have ha : Conn T h (ins T (turn ts k)).1 := by
        rcases c with c | c
        · rw [c]; exact .refl _
        · rw [c]; exact .one (adj_ins hl).symm
      have hb : Conn T h (ins T (turn ts k)).2 := ha.trans (.one (adj_ins hl))
      simp only [Bool.or_eq_true] at q'
      rcases q' with (q' | q') | q'
      · have := know_conn o hT k _ e q'
        exact ⟨fun x ex => ha.trans (this.1 x ex), fun j ej => ⟨(this.2 j ej).1, ha.trans (this.2 j ej).2⟩⟩
      · have := know_conn o hT k _ e q'
        exact ⟨fun x ex => hb.trans (this.1 x ex), fun j ej => ⟨(this.2 j ej).1, hb.trans (this.2 j ej).2⟩⟩
      · have e' : e = .inr (turn ts k) := of_decide_eq_true q'
        subst e'
        exact ⟨fun x ex => (nomatch ex), fun j ej => (by cases ej; exact ⟨hl, ha⟩)⟩
    · rw [meetK_out c] at q'
      exact know_conn o hT k h e q'
/-! ### the forest's law: what lies on one side of a tie comes to the other side over this tie alone -/
/-- A holds what e is -/
def On (T : Ties) (A : Nat → Prop) : El → Prop
  | .inl x => A x
  | .inr j => A (ins T j).1
theorem know_side {T : Ties} {ts : List Nat} (o : Order T ts) {i u v : Nat} {A : Nat → Prop} (hi : i < T.length) (huv : (ins T i = (u, v)) ∨ (ins T i = (v, u))) (hu : A u) (hv : ¬ A v)
    (hA : ∀ j, j ≠ i → j < T.length → (A (ins T j).1 ↔ A (ins T j).2)) :
    ∀ (k : Nat), (∀ (e : El), e ≠ .inr i → On T A e → (∀ y, ¬ A y → know T ts k y e = true → know T ts k v e = true) ∧ (know T ts k v e = true → know T ts k u e = true ∧ know T ts k v (.inr i) = true)) ∧
      ∀ y, know T ts k y (.inr i) = true → know T ts k u (.inr i) = true ∧ know T ts k v (.inr i) = true
  | 0 => by
    refine ⟨fun e he hO => ⟨fun y hy q => ?_, fun q => ?_⟩, fun y q => ?_⟩
    · have : e = .inl y := of_decide_eq_true q
      subst this
      exact absurd hO hy
    · have : e = .inl v := of_decide_eq_true q
      subst this
      exact absurd hO hv
    · have : (Sum.inr i : El) = .inl y := of_decide_eq_true q
      cases this
  | k + 1 => by
    obtain ⟨ih1, ih2⟩ := know_side o hi huv hu hv hA k
    have hT : 0 < T.length := Nat.lt_of_le_of_lt (Nat.zero_le _) hi
    have hl := o.turn hT k
    have hup : ∀ {y e}, know T ts k y e = true → know T ts (k + 1) y e = true := fun q => know_mono (Nat.le_succ k) q
    have st : ∀ y e, know T ts (k + 1) y e = meetK T (know T ts k) (turn ts k) y e := fun _ _ => rfl
    by_cases ht : turn ts k = i
    · -- the tie itself
      have cu : u = (ins T (turn ts k)).1 ∨ u = (ins T (turn ts k)).2 := by
        rw [ht]
        rcases huv with e | e <;> rw [e] <;> simp
      have cv : v = (ins T (turn ts k)).1 ∨ v = (ins T (turn ts k)).2 := by
        rw [ht]
        rcases huv with e | e <;> rw [e] <;> simp
      have same : ∀ e, know T ts (k + 1) u e = know T ts (k + 1) v e := fun e => by rw [st, st, meetK_at cu, meetK_at cv]
      have kv : know T ts (k + 1) v (.inr i) = true := by
        rw [st, meetK_at cv, ht]
        simp
      refine ⟨fun e he hO => ⟨fun y hy q => ?_, fun q => ⟨by rw [same]; exact q, kv⟩⟩, fun y q => ⟨by rw [same]; exact kv, kv⟩⟩
      by_cases c : y = (ins T (turn ts k)).1 ∨ y = (ins T (turn ts k)).2
      · have : know T ts (k + 1) y e = know T ts (k + 1) v e := by rw [st, st, meetK_at c, meetK_at cv]
        rw [← this]
        exact q
      · rw [st, meetK_out c] at q
        exact hup ((ih1 e he hO).1 y hy q)
    · have hAB := hA _ ht hl
      have c2 : ∀ y, know T ts (k + 1) y (.inr i) = true → know T ts (k + 1) u (.inr i) = true ∧ know T ts (k + 1) v (.inr i) = true := fun y q => by
        rw [st] at q
        have : ∃ z, know T ts k z (.inr i) = true := by
          by_cases c : y = (ins T (turn ts k)).1 ∨ y = (ins T (turn ts k)).2
          · rw [meetK_at c] at q
            simp only [Bool.or_eq_true] at q
            rcases q with (q | q) | q
            · exact ⟨_, q⟩
            · exact ⟨_, q⟩
            · have : (Sum.inr i : El) = .inr (turn ts k) := of_decide_eq_true q
              injection this with this
              exact absurd this.symm ht
          · rw [meetK_out c] at q
            exact ⟨_, q⟩
        obtain ⟨z, q⟩ := this
        exact ⟨hup (ih2 z q).1, hup (ih2 z q).2⟩
      refine ⟨fun e he hO => ?_, c2⟩
      by_cases hp : A (ins T (turn ts k)).1
      · -- both on the side
        have hq := hAB.mp hp
        have outv : ¬ (v = (ins T (turn ts k)).1 ∨ v = (ins T (turn ts k)).2) := fun c => by
          rcases c with c | c <;> rw [c] at hv
          · exact hv hp
          · exact hv hq
        have ev : ∀ e, know T ts (k + 1) v e = know T ts k v e := fun e => by rw [st, meetK_out outv]
        refine ⟨fun y hy q => ?_, fun q => ?_⟩
        · have outy : ¬ (y = (ins T (turn ts k)).1 ∨ y = (ins T (turn ts k)).2) := fun c => by
            rcases c with c | c <;> rw [c] at hy
            · exact hy hp
            · exact hy hq
          rw [st, meetK_out outy] at q
          exact hup ((ih1 e he hO).1 y hy q)
        · rw [ev] at q ⊢
          have := (ih1 e he hO).2 q
          exact ⟨hup this.1, this.2⟩
      · have hq : ¬ A (ins T (turn ts k)).2 := fun z => hp (hAB.mpr z)
        have ne : e ≠ .inr (turn ts k) := fun z => by
          subst z
          exact hp hO
        have back : ∀ y, ¬ A y → know T ts (k + 1) y e = true → know T ts k v e = true := fun y hy q => by
          rw [st] at q
          by_cases c : y = (ins T (turn ts k)).1 ∨ y = (ins T (turn ts k)).2
          · rw [meetK_at c] at q
            simp only [Bool.or_eq_true] at q
            rcases q with (q | q) | q
            · exact (ih1 e he hO).1 _ hp q
            · exact (ih1 e he hO).1 _ hq q
            · exact absurd (of_decide_eq_true q) ne
          · rw [meetK_out c] at q
            exact (ih1 e he hO).1 y hy q
        refine ⟨fun y hy q => hup (back y hy q), fun q => ?_⟩
        have := (ih1 e he hO).2 (back v hv q)
        exact ⟨hup this.1, hup this.2⟩
/-- in a forest: the one who is farther knows less, and only if they met -/
theorem know_tie {T : Ties} {ts : List Nat} (o : Order T ts) (b : Bridged T) {i : Nat} (hi : i < T.length) (k : Nat) (e : El) :
    (know T ts k (ins T i).1 e = true → know T ts k (ins T i).2 e = true → know T ts k (ins T i).1 (.inr i) = true) ∧
      (know T ts k (ins T i).1 (.inr i) = know T ts k (ins T i).2 (.inr i)) := by
  obtain ⟨A, hu, hv, hA⟩ := b i (ins T i).1 (ins T i).2 (ins_eq hi)
  have hA' : ∀ j, j ≠ i → j < T.length → (A (ins T j).1 ↔ A (ins T j).2) := fun j hj hl => hA j _ _ hj (ins_eq hl)
  have s1 := know_side (ts := ts) (u := (ins T i).1) (v := (ins T i).2) o hi (.inl rfl) hu hv hA' k
  have s2 := know_side (ts := ts) (u := (ins T i).2) (v := (ins T i).1) (A := fun y => ¬ A y) o hi (.inr rfl) hv (fun z => z hu) (fun j hj hl => not_congr (hA' j hj hl)) k
  refine ⟨fun h1 h2 => ?_, ?_⟩
  · by_cases he : e = .inr i
    · subst he
      exact h1
    · by_cases hO : On T A e
      · exact (s1.2 _ ((s1.1 e he hO).2 h2).2).1
      · have hO2 : On T (fun y => ¬ A y) e := by
          cases e with
          | inl x => exact hO
          | inr j => exact hO
        exact ((s2.1 e he hO2).2 h1).2
  · cases q : know T ts k (ins T i).1 (.inr i) with
    | true => exact (s1.2 _ q).2.symm
    | false =>
      cases q2 : know T ts k (ins T i).2 (.inr i) with
      | true =>
        have := (s1.2 _ q2).1
        rw [q] at this
        cases this
      | false => rfl
/-- what both of a tie's houses know stays as it is while others meet -/
theorem know_both {T : Ties} {ts : List Nat} (o : Order T ts) (b : Bridged T) {i : Nat} (hi : i < T.length) (k : Nat) (ht : turn ts k ≠ i) (e : El) :
    (know T ts (k + 1) (ins T i).1 e && know T ts (k + 1) (ins T i).2 e) = (know T ts k (ins T i).1 e && know T ts k (ins T i).2 e) := by
  obtain ⟨A, hu, hv, hA⟩ := b i (ins T i).1 (ins T i).2 (ins_eq hi)
  have hA' : ∀ j, j ≠ i → j < T.length → (A (ins T j).1 ↔ A (ins T j).2) := fun j hj hl => hA j _ _ hj (ins_eq hl)
  have hT : 0 < T.length := Nat.lt_of_le_of_lt (Nat.zero_le _) hi
  have hl := o.turn hT k
  have hup : ∀ {y e}, know T ts k y e = true → know T ts (k + 1) y e = true := fun q => know_mono (Nat.le_succ k) q
  -- from behind to ahead
  have key : ∀ {u v : Nat} {A : Nat → Prop}, ((ins T i = (u, v)) ∨ (ins T i = (v, u))) → A u → ¬ A v → (∀ j, j ≠ i → j < T.length → (A (ins T j).1 ↔ A (ins T j).2)) → e ≠ .inr i → On T A e →
      know T ts (k + 1) v e = true → know T ts k u e = true ∧ know T ts k v e = true := by
    intro u v A huv hu hv hA he hO q
    obtain ⟨s1, s2⟩ := know_side (ts := ts) o hi huv hu hv hA k
    have h1 : know T ts k v e = true := by
      have q' : meetK T (know T ts k) (turn ts k) v e = true := q
      by_cases c : v = (ins T (turn ts k)).1 ∨ v = (ins T (turn ts k)).2
      · rw [meetK_at c] at q'
        have hAB := hA _ ht hl
        have no : ¬ A (ins T (turn ts k)).1 ∧ ¬ A (ins T (turn ts k)).2 := by
          rcases c with c | c <;> rw [c] at hv
          · exact ⟨hv, fun z => hv (hAB.mpr z)⟩
          · exact ⟨fun z => hv (hAB.mp z), hv⟩
        simp only [Bool.or_eq_true] at q'
        rcases q' with (q' | q') | q'
        · exact (s1 e he hO).1 _ no.1 q'
        · exact (s1 e he hO).1 _ no.2 q'
        · have : e = .inr (turn ts k) := of_decide_eq_true q'
          subst this
          exact absurd hO no.1
      · rwa [meetK_out c] at q'
    exact ⟨((s1 e he hO).2 h1).1, h1⟩
  rw [Bool.eq_iff_iff, Bool.and_eq_true, Bool.and_eq_true]
  refine ⟨fun ⟨q1, q2⟩ => ?_, fun ⟨q1, q2⟩ => ⟨hup q1, hup q2⟩⟩
  by_cases he : e = .inr i
  · subst he
    have s2 := (know_side (ts := ts) (u := (ins T i).1) (v := (ins T i).2) o hi (.inl rfl) hu hv hA' k).2
    -- somebody knew it before
    have q' : meetK T (know T ts k) (turn ts k) (ins T i).1 (.inr i) = true := q1
    have : ∃ z, know T ts k z (.inr i) = true := by
      by_cases c : (ins T i).1 = (ins T (turn ts k)).1 ∨ (ins T i).1 = (ins T (turn ts k)).2
      · rw [meetK_at c] at q'
        simp only [Bool.or_eq_true] at q'
        rcases q' with (q' | q') | q'
        · exact ⟨_, q'⟩
        · exact ⟨_, q'⟩
        · have z : (Sum.inr i : El) = .inr (turn ts k) := of_decide_eq_true q'
          injection z with z
          exact absurd z.symm ht
      · rw [meetK_out c] at q'
        exact ⟨_, q'⟩
    obtain ⟨z, qz⟩ := this
    exact s2 z qz
  · by_cases hO : On T A e
    · exact key (u := (ins T i).1) (v := (ins T i).2) (.inl rfl) hu hv hA' he hO q2
    · have hO2 : On T (fun y => ¬ A y) e := by
        cases e with
        | inl x => exact hO
        | inr j => exact hO
      have := key (u := (ins T i).2) (v := (ins T i).1) (A := fun y => ¬ A y) (.inr rfl) hv (fun z => z hu) (fun j hj hl => not_congr (hA' j hj hl)) he hO2 q1
      exact ⟨this.2, this.1⟩
end K30M
namespace K30M
/-! ## sums -/
def sumN : Nat → (Nat → Int) → Int
  | 0, _ => 0
  | n + 1, f => sumN n f + f n
theorem sumN_congr {f g : Nat → Int} : ∀ {n : Nat}, (∀ x, x < n → f x = g x) → sumN n f = sumN n g
  | 0, _ => rfl
  | n + 1, h => by
    show sumN n f + f n = sumN n g + g n
    rw [sumN_congr (n := n) fun x hx => h x (by omega), h n (by omega)]
theorem sumN_add {f g : Nat → Int} : ∀ {n : Nat}, sumN n (fun x => f x + g x) = sumN n f + sumN n g
  | 0 => rfl
  | n + 1 => by
    show sumN n (fun x => f x + g x) + (f n + g n) = (sumN n f + f n) + (sumN n g + g n)
    rw [sumN_add (n := n)]
    omega
theorem sumN_zero : ∀ {n : Nat}, sumN n (fun _ => 0) = 0
  | 0 => rfl
  | n + 1 => by
    show sumN n (fun _ => 0) + 0 = 0
    rw [sumN_zero (n := n)]
    rfl
theorem sumN_mul {c : Int} {f : Nat → Int} : ∀ {n : Nat}, sumN n (fun x => c * f x) = c * sumN n f
  | 0 => by show (0 : Int) = c * 0; rw [Int.mul_zero]
  | n + 1 => by
    show sumN n (fun x => c * f x) + c * f n = c * (sumN n f + f n)
    rw [sumN_mul (n := n), Int.mul_add]
theorem sumN_one {f : Nat → Int} {t : Nat} : ∀ {n : Nat}, t < n → sumN n (fun x => if x = t then f x else 0) = f t
  | n + 1, h => by
    show sumN n (fun x => if x = t then f x else 0) + (if n = t then f n else 0) = f t
    by_cases e : n = t
    · subst e
      rw [if_pos rfl, sumN_congr (g := fun _ => 0) (fun x hx => if_neg (by omega)), sumN_zero]
      omega
    · rw [if_neg e, sumN_one (n := n) (by omega)]
      omega
/-- picked numbers -/
def pick (n : Nat) (c : Nat → Bool) (f : Nat → Int) : Int := sumN n fun x => if c x = true then f x else 0
theorem pick_congr {n : Nat} {c d : Nat → Bool} {f : Nat → Int} (h : ∀ x, x < n → c x = d x) : pick n c f = pick n d f :=
  sumN_congr fun x hx => by rw [h x hx]
theorem pick_or {n : Nat} {a b c d : Nat → Bool} {f : Nat → Int} (hc : ∀ x, x < n → c x = (a x || b x)) (hd : ∀ x, x < n → d x = (a x && b x)) : pick n c f = pick n a f + pick n b f - pick n d f := by
  have e : pick n a f + pick n b f = pick n c f + pick n d f := by
    unfold pick
    rw [← sumN_add, ← sumN_add]
    refine sumN_congr fun x hx => ?_
    rw [hc x hx, hd x hx]
    cases a x <;> cases b x <;> simp
  omega
theorem pick_none {n : Nat} {d : Nat → Bool} {f : Nat → Int} (h : ∀ x, x < n → d x = false) : pick n d f = 0 := by
  rw [pick_congr (d := fun _ => false) h]
  unfold pick
  rw [sumN_congr (g := fun _ => 0) fun x _ => if_neg Bool.false_ne_true, sumN_zero]
theorem pick_more {n t : Nat} {c d : Nat → Bool} {f : Nat → Int} (ht : t < n) (hc : ∀ x, x < n → c x = (d x || decide (x = t))) (hd : d t = false) : pick n c f = pick n d f + f t := by
  rw [pick_or (b := fun x => decide (x = t)) (d := fun _ => false) hc fun x hx => by
    by_cases e : x = t
    · subst e
      rw [hd]
      rfl
    · rw [decide_eq_false e, Bool.and_false], pick_none (d := fun _ => false) fun _ _ => rfl]
  have : pick n (fun x => decide (x = t)) f = f t := by
    unfold pick
    rw [← sumN_one (f := f) ht]
    exact sumN_congr fun x _ => by simp
  rw [this]
  omega
/-! ## houses and ties that hold numbers -/
abbrev Held := (Nat → Int) × (Nat → Int)
def met (T : Ties) (p : Held) (t : Nat) : Int := p.1 (ins T t).1 + p.1 (ins T t).2 - p.2 t
def meetN (T : Ties) (p : Held) (t : Nat) : Held :=
  (fun h => if h = (ins T t).1 ∨ h = (ins T t).2 then met T p t else p.1 h, fun j => if j = t then met T p t else p.2 j)
def nums (T : Ties) (ts : List Nat) (s a : Nat → Int) : Nat → Held
  | 0 => (s, a)
  | k + 1 => meetN T (nums T ts s a k) (turn ts k)
def tells (n m : Nat) (s a : Nat → Int) (c : El → Bool) : Int := pick n (fun x => c (.inl x)) s - pick m (fun j => c (.inr j)) a
theorem tells_congr {n m : Nat} {s a : Nat → Int} {c d : El → Bool} (h : ∀ e, c e = d e) : tells n m s a c = tells n m s a d := by
  have : c = d := funext h
  rw [this]
/-- what stands is told by what was heard -/
structure Told (n : Nat) (T : Ties) (s a : Nat → Int) (k : Know) (p : Held) : Prop where
  house : ∀ h, h < n → p.1 h = tells n T.length s a (k h)
  new : ∀ i, i < T.length → k (ins T i).1 (.inr i) = false → p.2 i = a i
  old : ∀ i, i < T.length → k (ins T i).1 (.inr i) = true → p.2 i = tells n T.length s a fun e => k (ins T i).1 e && k (ins T i).2 e
theorem told {n : Nat} {T : Ties} {ts : List Nat} {s a : Nat → Int} (en : Ends n T) (o : Order T ts) (b : Bridged T) (hT : 0 < T.length) : ∀ k, Told n T s a (know T ts k) (nums T ts s a k)
  | 0 => by
    have z : ∀ (h i : Nat), know T ts 0 h (.inr i) = false := fun h i => decide_eq_false (p := (Sum.inr i : El) = .inl h) (fun z => nomatch z)
    refine ⟨fun h hn => ?_, fun i _ _ => rfl, fun i _ q => by rw [z] at q; cases q⟩
    show s h = pick n (fun x => decide ((Sum.inl x : El) = .inl h)) s - pick T.length (fun j => know T ts 0 h (.inr j)) a
    rw [pick_none (d := fun j => know T ts 0 h (.inr j)) fun j _ => z h j, pick_more (c := fun x => decide ((Sum.inl x : El) = .inl h)) (d := fun _ => false) hn (fun x _ => by simp) rfl, pick_none (d := fun _ => false) fun _ _ => rfl]
    omega
  | k + 1 => by
    have ih := told (s := s) (a := a) en o b hT k
    have ht := o.turn hT k
    have eu := (en _ (ins_mem ht)).1
    have ev := (en _ (ins_mem ht)).2
    have hw : met T (nums T ts s a k) (turn ts k) = tells n T.length s a (fun e => know T ts k (ins T (turn ts k)).1 e || know T ts k (ins T (turn ts k)).2 e || decide (e = .inr (turn ts k))) := by
      unfold met
      rw [ih.house _ eu, ih.house _ ev]
      have tie := fun e => know_tie (ts := ts) o b ht k e
      cases q : know T ts k (ins T (turn ts k)).1 (.inr (turn ts k)) with
      | false =>
        rw [ih.new _ ht q]
        have no : ∀ e, (know T ts k (ins T (turn ts k)).1 e && know T ts k (ins T (turn ts k)).2 e) = false := fun e => by
          cases q1 : know T ts k (ins T (turn ts k)).1 e with
          | false => rfl
          | true =>
            cases q2 : know T ts k (ins T (turn ts k)).2 e with
            | false => rfl
            | true =>
              have := (tie e).1 q1 q2
              rw [q] at this
              cases this
        unfold tells
        have h1 := pick_or (n := n) (f := s) (a := fun x => know T ts k (ins T (turn ts k)).1 (.inl x)) (b := fun x => know T ts k (ins T (turn ts k)).2 (.inl x)) (c := fun x => know T ts k (ins T (turn ts k)).1 (.inl x) || know T ts k (ins T (turn ts k)).2 (.inl x) || decide ((Sum.inl x : El) = .inr (turn ts k))) (d := fun _ => false) (fun x _ => by simp) (fun x _ => (no _).symm)
        have h2 := pick_or (n := T.length) (f := a) (a := fun j => know T ts k (ins T (turn ts k)).1 (.inr j)) (b := fun j => know T ts k (ins T (turn ts k)).2 (.inr j)) (c := fun j => know T ts k (ins T (turn ts k)).1 (.inr j) || know T ts k (ins T (turn ts k)).2 (.inr j)) (d := fun _ => false) (fun x _ => rfl) (fun x _ => (no _).symm)
        have h3 := pick_more (n := T.length) (f := a) (t := turn ts k) (c := fun j => know T ts k (ins T (turn ts k)).1 (.inr j) || know T ts k (ins T (turn ts k)).2 (.inr j) || decide ((Sum.inr j : El) = .inr (turn ts k))) (d := fun j => know T ts k (ins T (turn ts k)).1 (.inr j) || know T ts k (ins T (turn ts k)).2 (.inr j)) ht (fun x _ => by simp) (by
          have := (tie (.inr (turn ts k))).2
          rw [q] at this
          show (know T ts k (ins T (turn ts k)).1 (.inr (turn ts k)) || know T ts k (ins T (turn ts k)).2 (.inr (turn ts k))) = false
          rw [q, ← this]
          rfl)
        have z1 := pick_none (n := n) (f := s) (d := fun _ => false) fun _ _ => rfl
        have z2 := pick_none (n := T.length) (f := a) (d := fun _ => false) fun _ _ => rfl
        rw [h1, h3, h2, z1, z2]
        omega
      | true =>
        rw [ih.old _ ht q]
        unfold tells
        have h1 := pick_or (n := n) (f := s) (a := fun x => know T ts k (ins T (turn ts k)).1 (.inl x)) (b := fun x => know T ts k (ins T (turn ts k)).2 (.inl x)) (c := fun x => know T ts k (ins T (turn ts k)).1 (.inl x) || know T ts k (ins T (turn ts k)).2 (.inl x) || decide ((Sum.inl x : El) = .inr (turn ts k))) (d := fun x => know T ts k (ins T (turn ts k)).1 (.inl x) && know T ts k (ins T (turn ts k)).2 (.inl x)) (fun x _ => by simp) (fun x _ => rfl)
        have h2 := pick_or (n := T.length) (f := a) (a := fun j => know T ts k (ins T (turn ts k)).1 (.inr j)) (b := fun j => know T ts k (ins T (turn ts k)).2 (.inr j)) (c := fun j => know T ts k (ins T (turn ts k)).1 (.inr j) || know T ts k (ins T (turn ts k)).2 (.inr j) || decide ((Sum.inr j : El) = .inr (turn ts k))) (d := fun j => know T ts k (ins T (turn ts k)).1 (.inr j) && know T ts k (ins T (turn ts k)).2 (.inr j)) (fun x _ => by
          by_cases e : x = turn ts k
          · subst e
            show (know T ts k (ins T (turn ts k)).1 (.inr (turn ts k)) || know T ts k (ins T (turn ts k)).2 (.inr (turn ts k)) || _) = (know T ts k (ins T (turn ts k)).1 (.inr (turn ts k)) || know T ts k (ins T (turn ts k)).2 (.inr (turn ts k)))
            rw [q]
            rfl
          · show (_ || _ || decide ((Sum.inr x : El) = .inr (turn ts k))) = _
            rw [decide_eq_false (fun z => e (Sum.inr.inj z)), Bool.or_false]) (fun x _ => rfl)
        rw [h1, h2]
        dsimp only
        omega
    refine ⟨fun h hn => ?_, fun i hi q => ?_, fun i hi q => ?_⟩
    · show (if h = (ins T (turn ts k)).1 ∨ h = (ins T (turn ts k)).2 then met T (nums T ts s a k) (turn ts k) else (nums T ts s a k).1 h) = tells n T.length s a (meetK T (know T ts k) (turn ts k) h)
      by_cases c : h = (ins T (turn ts k)).1 ∨ h = (ins T (turn ts k)).2
      · rw [if_pos c, hw]
        exact tells_congr fun e => (meetK_at c e).symm
      · rw [if_neg c, ih.house h hn]
        exact tells_congr fun e => (meetK_out c e).symm
    · show (if i = turn ts k then met T (nums T ts s a k) (turn ts k) else (nums T ts s a k).2 i) = a i
      by_cases c : i = turn ts k
      · subst c
        have : know T ts (k + 1) (ins T (turn ts k)).1 (.inr (turn ts k)) = true := by
          show meetK T (know T ts k) (turn ts k) _ _ = true
          rw [meetK_at (.inl rfl)]
          simp
        rw [this] at q
        cases q
      · rw [if_neg c]
        refine ih.new i hi ?_
        cases q2 : know T ts k (ins T i).1 (.inr i) with
        | false => rfl
        | true =>
          rw [know_mono (Nat.le_succ k) q2] at q
          cases q
    · show (if i = turn ts k then met T (nums T ts s a k) (turn ts k) else (nums T ts s a k).2 i) = _
      by_cases c : i = turn ts k
      · rw [if_pos c, hw]
        refine tells_congr fun e => ?_
        show _ = (meetK T (know T ts k) (turn ts k) (ins T i).1 e && meetK T (know T ts k) (turn ts k) (ins T i).2 e)
        rw [c, meetK_at (.inl rfl), meetK_at (.inr rfl), Bool.and_self]
      · have both := fun e => know_both (ts := ts) o b hi k (Ne.symm c) e
        rw [if_neg c, ih.old i hi ?_]
        · exact tells_congr fun e => (both e).symm
        · have h1 := (know_tie (ts := ts) o b hi k (.inr i)).2
          have h2 := (know_tie (ts := ts) o b hi (k + 1) (.inr i)).2
          have h3 := both (.inr i)
          rw [← h1, ← h2, Bool.and_self, Bool.and_self] at h3
          rw [← h3]
          exact q
/-! ## at rest -/
/-- each tie's houses and the tie are one number -/
def Still (T : Ties) (p : Held) : Prop := ∀ i, i < T.length → p.1 (ins T i).1 = p.2 i ∧ p.1 (ins T i).2 = p.2 i
/-- each house has heard of each tie of its part -/
def Whole (n : Nat) (T : Ties) (k : Know) : Prop := ∀ h, h < n → ∀ j, j < T.length → Conn T h (ins T j).1 → k h (.inr j) = true
theorem still_of {n : Nat} {T : Ties} {ts : List Nat} {s a : Nat → Int} (en : Ends n T) (o : Order T ts) (b : Bridged T) (hT : 0 < T.length) {k : Nat} (w : Whole n T (know T ts k)) : Still T (nums T ts s a k) := by
  intro i hi
  have t := told (s := s) (a := a) en o b hT k
  have eu := (en _ (ins_mem hi)).1
  have ev := (en _ (ins_mem hi)).2
  have hmet : know T ts k (ins T i).1 (.inr i) = true := w _ eu i hi (.refl _)
  have ab := Conn.one (adj_ins hi)
  -- who is whole knows all houses of its part
  have hs : ∀ h x, h < n → Conn T h x → know T ts k h (.inl x) = true := fun h x hn c => by
    by_cases e : x = h
    · subst e
      exact know_self k _
    · have : ∃ y, Adj T y x ∧ Conn T h y := by
        cases c with
        | refl => exact absurd rfl e
        | tail c a => exact ⟨_, a, c⟩
      obtain ⟨y, ad, cy⟩ := this
      rcases ad with ad | ad
      · obtain ⟨j, hj⟩ := List.mem_iff_getElem?.mp ad
        have ej := ins_of hj
        have k1 := w h hn j ej.2 (by rw [ej.1]; exact cy)
        have := (know_ends j k h k1).2
        rw [ej.1] at this
        exact this
      · obtain ⟨j, hj⟩ := List.mem_iff_getElem?.mp ad
        have ej := ins_of hj
        have k1 := w h hn j ej.2 (by rw [ej.1]; exact cy.tail (.inr ad))
        have := (know_ends j k h k1).1
        rw [ej.1] at this
        exact this
  have same : ∀ e, know T ts k (ins T i).1 e = know T ts k (ins T i).2 e := fun e => by
    rw [Bool.eq_iff_iff]
    constructor
    · intro q
      have c := know_conn o hT k _ e q
      cases e with
      | inl x => exact hs _ x ev (ab.symm.trans (c.1 x rfl))
      | inr j => exact w _ ev j (c.2 j rfl).1 (ab.symm.trans (c.2 j rfl).2)
    · intro q
      have c := know_conn o hT k _ e q
      cases e with
      | inl x => exact hs _ x eu (ab.trans (c.1 x rfl))
      | inr j => exact w _ eu j (c.2 j rfl).1 (ab.trans (c.2 j rfl).2)
  have e1 : (nums T ts s a k).2 i = tells n T.length s a (know T ts k (ins T i).1) := by
    rw [t.old i hi hmet]
    exact tells_congr fun e => by rw [same e, Bool.and_self]
  refine ⟨by rw [t.house _ eu, e1], ?_⟩
  rw [t.house _ ev, e1]
  exact tells_congr fun e => (same e).symm
theorem pick10 (c : Nat → Bool) : ∀ n : Nat, 0 ≤ pick n c (fun x => 10 ^ x) ∧ pick n c (fun x => 10 ^ x) < 10 ^ n
  | 0 => by
    show (0 : Int) ≤ 0 ∧ (0 : Int) < 10 ^ 0
    omega
  | n + 1 => by
    have ih := pick10 c n
    show 0 ≤ pick n c (fun x => 10 ^ x) + (if c n = true then (10 : Int) ^ n else 0) ∧ pick n c (fun x => 10 ^ x) + (if c n = true then (10 : Int) ^ n else 0) < 10 ^ (n + 1)
    rw [Int.pow_succ]
    generalize (10 : Int) ^ n = P at ih ⊢
    generalize pick n c (fun x => 10 ^ x) = S at ih ⊢
    split <;> omega
theorem pick10_inj {c d : Nat → Bool} : ∀ {n : Nat}, pick n c (fun x => 10 ^ x) = pick n d (fun x => 10 ^ x) → ∀ j, j < n → c j = d j
  | n + 1, h, j, hj => by
    have i1 := pick10 c n
    have i2 := pick10 d n
    have h' : pick n c (fun x => 10 ^ x) + (if c n = true then (10 : Int) ^ n else 0) = pick n d (fun x => 10 ^ x) + (if d n = true then (10 : Int) ^ n else 0) := h
    have key : c n = d n ∧ pick n c (fun x => 10 ^ x) = pick n d (fun x => 10 ^ x) := by
      generalize (10 : Int) ^ n = P at i1 i2 h'
      generalize pick n c (fun x => 10 ^ x) = S at i1 h' ⊢
      generalize pick n d (fun x => 10 ^ x) = S' at i2 h' ⊢
      cases hc : c n <;> cases hd : d n <;> simp [hc, hd] at h' ⊢ <;> omega
    by_cases e : j = n
    · rw [e]
      exact key.1
    · exact pick10_inj (n := n) key.2 j (by omega)
theorem apart10 {P X Y D F : Int} (hX : 0 ≤ X ∧ X < P) (hY : 0 ≤ Y ∧ Y < P) (h : X - P * D = Y - P * F) : D = F := by
  have e1 : (X - P * D) % P = X := by
    rw [Int.sub_mul_emod_self_left]
    exact Int.emod_eq_of_lt hX.1 hX.2
  have e2 : (Y - P * F) % P = Y := by
    rw [Int.sub_mul_emod_self_left]
    exact Int.emod_eq_of_lt hY.1 hY.2
  have e3 : X = Y := by rw [← e1, ← e2, h]
  have e4 : P * D = P * F := by omega
  exact Int.eq_of_mul_eq_mul_left (by omega) e4
theorem whole_of {n : Nat} {T : Ties} {ts : List Nat} (en : Ends n T) (o : Order T ts) (b : Bridged T) (hT : 0 < T.length) {k : Nat} (st : Still T (nums T ts (fun x => 10 ^ x) (fun j => 10 ^ (n + j)) k)) : Whole n T (know T ts k) := by
  have t := told (s := fun x => 10 ^ x) (a := fun j => 10 ^ (n + j)) en o b hT k
  have form : ∀ c : El → Bool, tells n T.length (fun x => 10 ^ x) (fun j => 10 ^ (n + j)) c = pick n (fun x => c (.inl x)) (fun x => 10 ^ x) - 10 ^ n * pick T.length (fun j => c (.inr j)) (fun j => 10 ^ j) := fun c => by
    unfold tells
    congr 1
    unfold pick
    rw [← sumN_mul]
    refine sumN_congr fun x _ => ?_
    split
    · exact Int.pow_add 10 n x
    · rw [Int.mul_zero]
  -- each tie has met
  have hmet : ∀ i, i < T.length → know T ts k (ins T i).1 (.inr i) = true := fun i hi => by
    cases q : know T ts k (ins T i).1 (.inr i) with
    | true => rfl
    | false =>
      have e := (st i hi).1
      rw [t.new i hi q, t.house _ (en _ (ins_mem hi)).1, form] at e
      have h1 := pick10 (fun x => know T ts k (ins T i).1 (.inl x)) n
      have h2 := pick10 (fun j => know T ts k (ins T i).1 (.inr j)) T.length
      have h3 : (10 : Int) ^ (n + i) = 10 ^ n * 10 ^ i := Int.pow_add 10 n i
      have h4 : (0 : Int) < 10 ^ i := Int.pow_pos (by omega)
      have h5 : (0 : Int) < 10 ^ n := Int.pow_pos (by omega)
      rw [h3] at e
      have h6 : (10 : Int) ^ n * 1 ≤ 10 ^ n * 10 ^ i := Int.mul_le_mul_of_nonneg_left (by omega) (by omega)
      have h7 : (0 : Int) ≤ 10 ^ n * pick T.length (fun j => know T ts k (ins T i).1 (.inr j)) (fun j => 10 ^ j) := Int.mul_nonneg (by omega) h2.1
      omega
  -- both houses of a tie have heard of the same ties
  have same : ∀ i, i < T.length → ∀ j, j < T.length → know T ts k (ins T i).1 (.inr j) = know T ts k (ins T i).2 (.inr j) := fun i hi => by
    have e : (nums T ts (fun x => 10 ^ x) (fun j => 10 ^ (n + j)) k).1 (ins T i).1 = (nums T ts (fun x => 10 ^ x) (fun j => 10 ^ (n + j)) k).1 (ins T i).2 := (st i hi).1.trans (st i hi).2.symm
    rw [t.house _ (en _ (ins_mem hi)).1, t.house _ (en _ (ins_mem hi)).2, form, form] at e
    exact pick10_inj (apart10 (pick10 _ n) (pick10 _ n) e)
  intro h hn j hj c
  refine Conn.into (fun z => know T ts k z (.inr j) = true) (fun x y q ad => ?_) c.symm (hmet j hj)
  rcases ad with ad | ad
  · obtain ⟨i, hi⟩ := List.mem_iff_getElem?.mp ad
    have ei := ins_of hi
    have := same i ei.2 j hj
    rw [ei.1] at this
    exact this.symm.trans q
  · obtain ⟨i, hi⟩ := List.mem_iff_getElem?.mp ad
    have ei := ins_of hi
    have := same i ei.2 j hj
    rw [ei.1] at this
    exact this.trans q
end K30M
namespace K30M
/-! ## how fast it spreads -/
structure Spreads (T : Ties) (ts : List Nat) (P : Nat → Nat → Bool) : Prop where
  up : ∀ k h, P k h = true → P (k + 1) h = true
  over : ∀ k, P k (ins T (turn ts k)).1 = true ∨ P k (ins T (turn ts k)).2 = true → P (k + 1) (ins T (turn ts k)).1 = true ∧ P (k + 1) (ins T (turn ts k)).2 = true
theorem Spreads.mono {T : Ties} {ts : List Nat} {P : Nat → Nat → Bool} (S : Spreads T ts P) {h : Nat} : ∀ {i j : Nat}, i ≤ j → P i h = true → P j h = true := by
  intro i j hij
  induction hij with
  | refl => exact id
  | step _ ih => exact fun q => S.up _ _ (ih q)
theorem window {m : Nat} (hm : 0 < m) (b p : Nat) (hp : p < m) : ∃ s, s < m ∧ (b + s) % m = p := by
  have hb := Nat.mod_lt b hm
  by_cases h : b % m ≤ p
  · refine ⟨p - b % m, by omega, ?_⟩
    have e : b + (p - b % m) = p + m * (b / m) := by
      have := Nat.mod_add_div b m
      omega
    rw [e, Nat.add_mul_mod_self_left, Nat.mod_eq_of_lt hp]
  · refine ⟨p + m - b % m, by omega, ?_⟩
    have e : b + (p + m - b % m) = p + m * (b / m + 1) := by
      have := Nat.mod_add_div b m
      rw [Nat.mul_add, Nat.mul_one]
      omega
    rw [e, Nat.add_mul_mod_self_left, Nat.mod_eq_of_lt hp]
theorem Order.at_ {T : Ties} {ts : List Nat} (o : Order T ts) {i : Nat} (hi : i < T.length) : ∃ p, p < T.length ∧ ∀ k, k % T.length = p → K30M.turn ts k = i := by
  have hm : i ∈ ts := o.mem_iff.mpr (List.mem_range.mpr hi)
  obtain ⟨p, hp⟩ := List.mem_iff_getElem?.mp hm
  have hl := (List.getElem?_eq_some_iff.mp hp).1
  refine ⟨p, by rw [← o.len]; exact hl, fun k e => ?_⟩
  unfold K30M.turn
  rw [o.len, e, List.getD_eq_getElem?_getD, hp]
  rfl
theorem countP_lt {p q : Nat → Bool} : ∀ {l : List Nat}, (∀ x ∈ l, p x = true → q x = true) → ∀ {b : Nat}, b ∈ l → p b = false → q b = true → l.countP p < l.countP q
  | a :: l, h, b, hb, hp, hq => by
    rw [List.countP_cons, List.countP_cons]
    have mono : l.countP p ≤ l.countP q := List.countP_mono_left fun x hx => h x (List.mem_cons_of_mem _ hx)
    rcases List.mem_cons.mp hb with e | hb
    · subst e
      rw [hp, hq]
      simp
      omega
    · have ih := countP_lt (fun x hx => h x (List.mem_cons_of_mem _ hx)) hb hp hq
      have := h a List.mem_cons_self
      cases pa : p a with
      | false => simp; omega
      | true => rw [this pa]; simp; omega
theorem spread {n : Nat} {T : Ties} {ts : List Nat} {P : Nat → Nat → Bool} (en : Ends n T) (o : Order T ts) (hT : 0 < T.length) (S : Spreads T ts P) {k0 h0 : Nat} (hn : h0 < n) (h : P k0 h0 = true) :
    ∀ r, (∀ x, Conn T h0 x → P (k0 + r * T.length) x = true) ∨ r + 1 ≤ (part T n h0).countP (P (k0 + r * T.length))
  | 0 => by
    refine .inr ?_
    have : 0 < (part T n h0).countP (P (k0 + 0 * T.length)) := by
      rw [List.countP_pos_iff]
      exact ⟨h0, mem_part.mpr ⟨hn, .refl _⟩, by rw [Nat.zero_mul, Nat.add_zero]; exact h⟩
    omega
  | r + 1 => by
    have el : k0 + (r + 1) * T.length = (k0 + r * T.length) + T.length := by
      rw [Nat.succ_mul]
      omega
    rw [el]
    generalize hb : k0 + r * T.length = base
    have ih := spread en o hT S hn h r
    rw [hb] at ih
    have hk : k0 ≤ base := by omega
    by_cases all : ∀ x, Conn T h0 x → P base x = true
    · exact .inl fun x c => S.mono (Nat.le_add_right _ _) (all x c)
    · rcases ih with ih | ih
      · exact absurd ih all
      · refine .inr ?_
        -- a tie between one that has heard and one that has not
        have hP : P base h0 = true := S.mono hk h
        have ex : ∃ a b, Conn T h0 a ∧ Adj T a b ∧ P base a = true ∧ P base b = false := by
          apply Classical.byContradiction
          intro no
          refine all fun x c => ?_
          have := Conn.into (fun z => Conn T h0 z ∧ P base z = true) (fun a b ⟨ca, pa⟩ ad => ⟨ca.tail ad, by
            cases q : P base b with
            | true => rfl
            | false => exact absurd ⟨a, b, ca, ad, pa, q⟩ no⟩) c ⟨.refl _, hP⟩
          exact this.2
        obtain ⟨a, b, ca, ad, pa, pb⟩ := ex
        have hi : ∃ i, i < T.length ∧ ((ins T i).1 = a ∧ (ins T i).2 = b ∨ (ins T i).1 = b ∧ (ins T i).2 = a) := by
          rcases ad with ad | ad
          · obtain ⟨i, hi⟩ := List.mem_iff_getElem?.mp ad
            have := ins_of hi
            exact ⟨i, this.2, .inl ⟨by rw [this.1], by rw [this.1]⟩⟩
          · obtain ⟨i, hi⟩ := List.mem_iff_getElem?.mp ad
            have := ins_of hi
            exact ⟨i, this.2, .inr ⟨by rw [this.1], by rw [this.1]⟩⟩
        obtain ⟨i, hi, ei⟩ := hi
        obtain ⟨p, hp, hturn⟩ := o.at_ hi
        obtain ⟨s, hs, es⟩ := window hT base p hp
        have ht := hturn _ es
        have pa' : P (base + s) a = true := S.mono (Nat.le_add_right _ _) pa
        have ov := S.over (base + s)
        rw [ht] at ov
        have pb' : P (base + s + 1) b = true := by
          rcases ei with ⟨e1, e2⟩ | ⟨e1, e2⟩
          · rw [e1, e2] at ov
            exact (ov (.inl pa')).2
          · rw [e1, e2] at ov
            exact (ov (.inr pa')).1
        have pb2 : P (base + T.length) b = true := S.mono (by omega) pb'
        have hb' : b ∈ part T n h0 := mem_part.mpr ⟨(ad.lt en).2, ca.tail ad⟩
        have := countP_lt (p := P base) (q := P (base + T.length)) (fun x _ q => S.mono (Nat.le_add_right _ _) q) hb' pb pb2
        omega
theorem spread_all {n : Nat} {T : Ties} {ts : List Nat} {P : Nat → Nat → Bool} (en : Ends n T) (o : Order T ts) (hT : 0 < T.length) (S : Spreads T ts P) {k0 h0 k x : Nat} (hn : h0 < n) (h : P k0 h0 = true) (c : Conn T h0 x) (hk : k0 + (n - 1) * T.length ≤ k) : P k x = true := by
  refine S.mono hk ?_
  rcases spread en o hT S hn h (n - 1) with a | a
  · exact a x c
  · -- as many as there are
    have hl : (part T n h0).length ≤ n := by
      rw [part_len]
      have := List.countP_le_length (p := connB T h0) (l := List.range n)
      rwa [List.length_range] at this
    have e : (part T n h0).countP (P (k0 + (n - 1) * T.length)) = (part T n h0).length := by
      have := List.countP_le_length (p := P (k0 + (n - 1) * T.length)) (l := part T n h0)
      omega
    exact List.countP_eq_length.mp e x (mem_part.mpr ⟨c.lt en hn, c⟩)
/-! ## all is whole in time -/
theorem know_spreads (T : Ties) (ts : List Nat) (e : El) : Spreads T ts fun k h => know T ts k h e := by
  refine ⟨fun k h q => meetK_mono q, fun k q => ?_⟩
  show meetK T (know T ts k) (turn ts k) _ e = true ∧ meetK T (know T ts k) (turn ts k) _ e = true
  rw [meetK_at (.inl rfl), meetK_at (.inr rfl)]
  rcases q with q | q
  · have q' : know T ts k (ins T (turn ts k)).1 e = true := q
    rw [q']
    simp
  · have q' : know T ts k (ins T (turn ts k)).2 e = true := q
    rw [q']
    simp
theorem whole_by {n : Nat} {T : Ties} {ts : List Nat} (en : Ends n T) (o : Order T ts) (hT : 0 < T.length) : Whole n T (know T ts (n * T.length)) := by
  intro h hn j hj c
  obtain ⟨p, hp, ht⟩ := o.at_ hj
  have ht := ht p (Nat.mod_eq_of_lt hp)
  have eu := (en _ (ins_mem hj)).1
  have k1 : know T ts (p + 1) (ins T j).1 (.inr j) = true := by
    show meetK T (know T ts p) (turn ts p) (ins T j).1 (.inr j) = true
    rw [ht, meetK_at (.inl rfl)]
    simp
  refine spread_all en o hT (know_spreads T ts (.inr j)) eu k1 c.symm ?_
  have : n * T.length = (n - 1) * T.length + T.length := by
    have : n = (n - 1) + 1 := by omega
    rw [this, Nat.succ_mul]
    simp
  omega
/-! ## when: the least number -/
structure Due (n : Nat) (T : Ties) (ts : List Nat) (k : Nat) : Prop where
  whole : Whole n T (know T ts k)
  first : ∀ j, j < k → ¬ Whole n T (know T ts j)
theorem Due.same {n : Nat} {T : Ties} {ts : List Nat} {k j : Nat} (a : Due n T ts k) (b : Due n T ts j) : k = j := by
  apply Classical.byContradiction
  intro ne
  rcases Nat.lt_or_gt_of_ne ne with h | h
  · exact b.first k h a.whole
  · exact a.first j h b.whole
/-! ## a deed that is heard -/
def hear (T : Ties) (ts : List Nat) (h0 : Nat) : Nat → Nat → Bool
  | 0 => fun x => decide (x = h0)
  | k + 1 => fun x => hear T ts h0 k x || ((decide (x = (ins T (turn ts k)).1) || decide (x = (ins T (turn ts k)).2)) && (hear T ts h0 k (ins T (turn ts k)).1 || hear T ts h0 k (ins T (turn ts k)).2))
theorem hear_spreads (T : Ties) (ts : List Nat) (h0 : Nat) : Spreads T ts (hear T ts h0) := by
  refine ⟨fun k h q => ?_, fun k q => ?_⟩
  · show (hear T ts h0 k h || _) = true
    rw [q]
    rfl
  · show (hear T ts h0 k (ins T (turn ts k)).1 || ((decide ((ins T (turn ts k)).1 = (ins T (turn ts k)).1) || decide ((ins T (turn ts k)).1 = (ins T (turn ts k)).2)) && (hear T ts h0 k (ins T (turn ts k)).1 || hear T ts h0 k (ins T (turn ts k)).2))) = true ∧
      (hear T ts h0 k (ins T (turn ts k)).2 || ((decide ((ins T (turn ts k)).2 = (ins T (turn ts k)).1) || decide ((ins T (turn ts k)).2 = (ins T (turn ts k)).2)) && (hear T ts h0 k (ins T (turn ts k)).1 || hear T ts h0 k (ins T (turn ts k)).2))) = true
    rcases q with q | q <;> rw [q] <;> simp
theorem hear_by {n : Nat} {T : Ties} {ts : List Nat} (en : Ends n T) (o : Order T ts) {h0 x : Nat} (hn : h0 < n) (c : Conn T h0 x) : ∃ k, k ≤ (n - 1) * T.length ∧ hear T ts h0 k x = true := by
  by_cases hT : 0 < T.length
  · exact ⟨_, Nat.le_refl _, spread_all (k0 := 0) en o hT (hear_spreads T ts h0) hn (decide_eq_true rfl) c (by omega)⟩
  · have : x = h0 := by
      cases c with
      | refl => rfl
      | tail _ a =>
        have : T = [] := List.eq_nil_of_length_eq_zero (by omega)
        subst this
        rcases a with a | a <;> cases a
    exact ⟨0, Nat.zero_le _, decide_eq_true this⟩
/-- the least number of meetings behind which it is heard -/
structure HeardAt (T : Ties) (ts : List Nat) (h0 x k : Nat) : Prop where
  now : hear T ts h0 k x = true
  first : ∀ j, j < k → hear T ts h0 j x = false
theorem HeardAt.same {T : Ties} {ts : List Nat} {h0 x k j : Nat} (a : HeardAt T ts h0 x k) (b : HeardAt T ts h0 x j) : k = j := by
  apply Classical.byContradiction
  intro ne
  rcases Nat.lt_or_gt_of_ne ne with h | h
  · have := b.first k h
    rw [a.now] at this
    cases this
  · have := a.first j h
    rw [b.now] at this
    cases this
/-! ## what is lacking -/
noncomputable def cnt (m : Nat) (k : Know) (h : Nat) : Nat := (List.range m).countP fun j => k h (.inr j)
theorem countP_range (T : Ties) (p : Nat × Nat → Bool) : T.countP p = (List.range T.length).countP fun j => p (ins T j) := by
  have e : T = (List.range T.length).map (ins T) := by
    apply List.ext_getElem?
    intro i
    rw [List.getElem?_map]
    by_cases h : i < T.length
    · rw [ins_eq h, List.getElem?_range h]
      rfl
    · rw [List.getElem?_eq_none (by omega), List.getElem?_eq_none (by rw [List.length_range]; omega)]
      rfl
  have : T.countP p = ((List.range T.length).map (ins T)).countP p := by rw [← e]
  rw [this, List.countP_map]
  rfl
theorem ecount_range (T : Ties) (h : Nat) : ecount T h = (List.range T.length).countP fun j => connB T h (ins T j).1 := countP_range T _
theorem cnt_le {T : Ties} {ts : List Nat} (o : Order T ts) (hT : 0 < T.length) (k h : Nat) : cnt T.length (know T ts k) h ≤ ecount T h := by
  rw [ecount_range]
  unfold cnt
  refine List.countP_mono_left fun j _ q => ?_
  rw [connB_iff]
  exact ((know_conn o hT k h _ q).2 j rfl).2
theorem countP_same {p q : Nat → Bool} {l : List Nat} (h : ∀ x ∈ l, p x = true → q x = true) (e : l.countP p = l.countP q) : ∀ x ∈ l, q x = true → p x = true := fun x hx hq => by
  cases hp : p x with
  | true => rfl
  | false =>
    have := countP_lt h hx hp hq
    omega
noncomputable def lack (n : Nat) (T : Ties) (k : Know) : Int := sumN n fun h => (ecount T h : Int) - (cnt T.length k h : Int)
theorem sumN_nonneg {f : Nat → Int} : ∀ {n : Nat}, (∀ x, x < n → 0 ≤ f x) → 0 ≤ sumN n f
  | 0, _ => by show (0 : Int) ≤ 0; omega
  | n + 1, h => by
    have := sumN_nonneg (n := n) fun x hx => h x (by omega)
    have := h n (by omega)
    show 0 ≤ sumN n f + f n
    omega
theorem sumN_pos {f : Nat → Int} : ∀ {n : Nat}, (∀ x, x < n → 0 ≤ f x) → (∃ x, x < n ∧ 0 < f x) → 0 < sumN n f
  | 0, _, ⟨x, hx, _⟩ => by omega
  | n + 1, h, ⟨x, hx, p⟩ => by
    have h0 := sumN_nonneg (n := n) fun x hx => h x (by omega)
    have h1 := h n (by omega)
    show 0 < sumN n f + f n
    by_cases e : x = n
    · subst e
      omega
    · have := sumN_pos (n := n) (fun x hx => h x (by omega)) ⟨x, by omega, p⟩
      omega
theorem lack_whole {n : Nat} {T : Ties} {ts : List Nat} (o : Order T ts) (hT : 0 < T.length) (k : Nat) : 0 < lack n T (know T ts k) ↔ ¬ Whole n T (know T ts k) := by
  have nn : ∀ x, x < n → 0 ≤ (ecount T x : Int) - (cnt T.length (know T ts k) x : Int) := fun x _ => by
    have := cnt_le o hT k x
    omega
  constructor
  · intro q w
    have : lack n T (know T ts k) = 0 := by
      unfold lack
      rw [sumN_congr (g := fun _ => 0) fun x hx => ?_, sumN_zero]
      have e : cnt T.length (know T ts k) x = ecount T x := by
        rw [ecount_range]
        unfold cnt
        refine List.countP_congr fun j hj => ?_
        rw [connB_iff]
        exact ⟨fun q => ((know_conn o hT k x _ q).2 j rfl).2, fun c => w x hx j (List.mem_range.mp hj) c⟩
      omega
    omega
  · intro w
    apply sumN_pos nn
    apply Classical.byContradiction
    intro no
    refine w fun h hn j hj c => ?_
    have e : cnt T.length (know T ts k) h = ecount T h := by
      have := cnt_le o hT k h
      have : ¬ (0 < (ecount T h : Int) - (cnt T.length (know T ts k) h : Int)) := fun z => no ⟨h, hn, z⟩
      omega
    rw [ecount_range] at e
    exact countP_same (p := fun j => know T ts k h (.inr j)) (fun i _ q => connB_iff.mpr ((know_conn o hT k h _ q).2 i rfl).2) e j (List.mem_range.mpr hj) (connB_iff.mpr c)
/-- two numbers are changed -/
theorem sumN_two {f g : Nat → Int} {u v : Nat} (ne : u ≠ v) : ∀ {n : Nat}, u < n → v < n → (∀ x, x < n → x ≠ u → x ≠ v → g x = f x) → sumN n g = sumN n f + (g u - f u) + (g v - f v) := by
  intro n hu hv h
  have e : sumN n g = sumN n (fun x => f x + ((if x = u then (g x - f x) else 0) + (if x = v then (g x - f x) else 0))) := by
    refine sumN_congr fun x hx => ?_
    by_cases e1 : x = u
    · subst e1
      rw [if_pos rfl, if_neg ne]
      omega
    · by_cases e2 : x = v
      · subst e2
        rw [if_neg e1, if_pos rfl]
        omega
      · rw [if_neg e1, if_neg e2, h x hx e1 e2]
        omega
  rw [e, sumN_add, sumN_add, sumN_one (f := fun x => g x - f x) hu, sumN_one (f := fun x => g x - f x) hv]
  omega
theorem cnt_zero (m h : Nat) : cnt m know0 h = 0 := by
  unfold cnt
  rw [List.countP_eq_zero]
  intro j _
  show ¬ (decide ((Sum.inr j : El) = .inl h) = true)
  simp
theorem lack_step {n : Nat} {T : Ties} {ts : List Nat} (en : Ends n T) (o : Order T ts) (hT : 0 < T.length) (un : ∀ i, i < T.length → (ins T i).1 ≠ (ins T i).2) (k : Nat) :
    lack n T (know T ts (k + 1)) = lack n T (know T ts k) - (2 * (cnt T.length (know T ts (k + 1)) (ins T (turn ts k)).1 : Int) - cnt T.length (know T ts k) (ins T (turn ts k)).1 - cnt T.length (know T ts k) (ins T (turn ts k)).2) := by
  have ht := o.turn hT k
  unfold lack
  rw [sumN_two (f := fun h => (ecount T h : Int) - (cnt T.length (know T ts k) h : Int)) (un _ ht) (en _ (ins_mem ht)).1 (en _ (ins_mem ht)).2 fun x hx h1 h2 => ?_]
  · have e : cnt T.length (know T ts (k + 1)) (ins T (turn ts k)).2 = cnt T.length (know T ts (k + 1)) (ins T (turn ts k)).1 := by
      unfold cnt
      refine List.countP_congr fun j _ => ?_
      show (meetK T (know T ts k) (turn ts k) _ _ = true) ↔ (meetK T (know T ts k) (turn ts k) _ _ = true)
      rw [meetK_at (.inl rfl), meetK_at (.inr rfl)]
    rw [e]
    omega
  · have e : cnt T.length (know T ts (k + 1)) x = cnt T.length (know T ts k) x := by
      unfold cnt
      refine List.countP_congr fun j _ => ?_
      show (meetK T (know T ts k) (turn ts k) x _ = true) ↔ _
      rw [meetK_out (by rintro (z | z); exact h1 z; exact h2 z)]
    rw [e]
/-- lists of parts -/
structure Parts (n : Nat) (T : Ties) (ps : List (List Nat)) : Prop where
  nd : ps.Nodup
  mem : ∀ p, p ∈ ps ↔ ∃ h, h < n ∧ p = part T n h
def listSum (f : List Nat → Int) : List (List Nat) → Int
  | [] => 0
  | p :: r => f p + listSum f r
theorem listSum_one {f : List Nat → Int} {q : List Nat} : ∀ {ps : List (List Nat)}, ps.Nodup → listSum (fun p => if q = p then f p else 0) ps = if q ∈ ps then f q else 0
  | [], _ => by rw [if_neg (by simp)]; rfl
  | p :: r, nd => by
    obtain ⟨h1, h2⟩ := List.nodup_cons.mp nd
    have ih := listSum_one (f := f) (q := q) h2
    show (if q = p then f p else 0) + listSum (fun p => if q = p then f p else 0) r = _
    rw [ih]
    by_cases e : q = p
    · subst e
      rw [if_pos rfl, if_neg h1, if_pos List.mem_cons_self]
      omega
    · rw [if_neg e]
      by_cases e2 : q ∈ r
      · rw [if_pos e2, if_pos (List.mem_cons_of_mem _ e2)]
        omega
      · rw [if_neg e2, if_neg (by rw [List.mem_cons]; rintro (z | z); exact e z; exact e2 z)]
        omega
theorem listSum_add {f g : List Nat → Int} : ∀ {ps : List (List Nat)}, listSum (fun p => f p + g p) ps = listSum f ps + listSum g ps
  | [] => rfl
  | p :: r => by
    show (f p + g p) + listSum (fun p => f p + g p) r = (f p + listSum f r) + (g p + listSum g r)
    rw [listSum_add (ps := r)]
    omega
theorem listSum_congr {f g : List Nat → Int} : ∀ {ps : List (List Nat)}, (∀ p ∈ ps, f p = g p) → listSum f ps = listSum g ps
  | [], _ => rfl
  | p :: r, h => by
    show f p + listSum f r = g p + listSum g r
    rw [h p List.mem_cons_self, listSum_congr fun q hq => h q (List.mem_cons_of_mem _ hq)]
theorem fibre {F : Nat → List Nat} {g : List Nat → Int} {ps : List (List Nat)} (nd : ps.Nodup) : ∀ {n : Nat}, (∀ h, h < n → F h ∈ ps) →
    sumN n (fun h => g (F h)) = listSum (fun p => ((List.range n).countP (fun h => decide (F h = p)) : Int) * g p) ps
  | 0, _ => by
    rw [listSum_congr (g := fun _ => 0) fun p _ => by show ((0 : Nat) : Int) * g p = 0; simp]
    show (0 : Int) = _
    have : ∀ l : List (List Nat), listSum (fun _ => 0) l = 0 := fun l => by
      induction l with
      | nil => rfl
      | cons a l ih => show (0 : Int) + listSum (fun _ => 0) l = 0; rw [ih]; rfl
    rw [this]
  | n + 1, h => by
    show sumN n (fun h => g (F h)) + g (F n) = _
    rw [fibre nd fun x hx => h x (by omega)]
    have e : listSum (fun p => if F n = p then g p else 0) ps = g (F n) := by
      rw [listSum_one (f := g) nd, if_pos (h n (by omega))]
    rw [← e, ← listSum_add]
    refine listSum_congr fun p _ => ?_
    rw [List.range_succ, List.countP_append, List.countP_singleton]
    by_cases c : F n = p
    · rw [if_pos c, if_pos (decide_eq_true c), Int.natCast_add, Int.add_mul]
      simp
    · rw [if_neg c, if_neg (by simpa using c)]
      simp
/-- what lacks at first -/
theorem lack_first {n : Nat} {T : Ties} {ps : List (List Nat)} (t : Tree n T) (P : Parts n T ps) : listSum (fun p => (p.length : Int) * ((p.length : Int) - 1)) ps = lack n T know0 := by
  have e1 : lack n T know0 = sumN n fun h => (fun p : List Nat => (p.length : Int) - 1) (part T n h) := by
    unfold lack
    refine sumN_congr fun x hx => ?_
    have := t x hx
    rw [cnt_zero]
    dsimp only
    omega
  rw [e1, fibre (F := part T n) (g := fun p => (p.length : Int) - 1) P.nd fun h hn => (P.mem _).mpr ⟨h, hn, rfl⟩]
  refine listSum_congr fun p hp => ?_
  obtain ⟨h, hn, e⟩ := (P.mem p).mp hp
  have : (List.range n).countP (fun x => decide (part T n x = p)) = p.length := by
    rw [e, part_len]
    refine List.countP_congr fun x hx => ?_
    rw [decide_eq_true_iff, connB_iff]
    exact ⟨fun z => (part_inj hn z).symm, fun c => (part_congr c).symm⟩
  rw [this]
end K30M
namespace K30M
/-! ## the search of a part -/
def tiesAt (T : Ties) (c : Nat) : List Nat := (List.range T.length).filter fun i => decide ((ins T i).1 = c) || decide ((ins T i).2 = c)
def other (p : Nat × Nat) (c : Nat) : Nat := if p.1 = c then p.2 else p.1
theorem mem_tiesAt {T : Ties} {c i : Nat} : i ∈ tiesAt T c ↔ i < T.length ∧ ((ins T i).1 = c ∨ (ins T i).2 = c) := by
  unfold tiesAt
  rw [List.mem_filter, List.mem_range, Bool.or_eq_true, decide_eq_true_iff, decide_eq_true_iff]
theorem ins_get {T : Ties} {i : Nat} (h : i < T.length) : T[i]? = some (ins T i) := by
  unfold ins
  rw [List.getElem?_eq_getElem h, List.getD_eq_getElem?_getD, List.getElem?_eq_getElem h, Option.getD_some]
theorem get_ins {T : Ties} {i : Nat} {p : Nat × Nat} (h : T[i]? = some p) : ins T i = p := by
  unfold ins
  rw [List.getD_eq_getElem?_getD, h, Option.getD_some]
theorem tiesAt_adj {T : Ties} {c i : Nat} (h : i ∈ tiesAt T c) : Adj T c (other (ins T i) c) := by
  obtain ⟨hi, h⟩ := mem_tiesAt.mp h
  have m := ins_mem hi
  unfold other
  by_cases e : (ins T i).1 = c
  · rw [if_pos e]
    exact .inl (by rw [← e]; exact m)
  · rw [if_neg e]
    have e2 := h.resolve_left e
    exact .inr (by rw [← e2]; exact m)
theorem adj_tiesAt {T : Ties} {c y : Nat} (h : Adj T c y) : ∃ i, i ∈ tiesAt T c ∧ other (ins T i) c = y := by
  rcases h with h | h
  · obtain ⟨i, hi, e⟩ := List.mem_iff_getElem.mp h
    have g : ins T i = (c, y) := get_ins (by rw [List.getElem?_eq_getElem hi, e])
    refine ⟨i, mem_tiesAt.mpr ⟨hi, .inl (by rw [g])⟩, ?_⟩
    unfold other
    rw [g, if_pos rfl]
  · obtain ⟨i, hi, e⟩ := List.mem_iff_getElem.mp h
    have g : ins T i = (y, c) := get_ins (by rw [List.getElem?_eq_getElem hi, e])
    refine ⟨i, mem_tiesAt.mpr ⟨hi, .inr (by rw [g])⟩, ?_⟩
    unfold other
    rw [g]
    by_cases z : y = c
    · rw [if_pos z, z]
    · rw [if_neg z]
theorem nodup_one (x : Nat) : [x].Nodup := List.nodup_cons.mpr ⟨by simp, List.nodup_nil⟩
structure Srch (n : Nat) (T : Ties) (h : Nat) (ks ws : List Nat) : Prop where
  start : h ∈ ks
  conn : ∀ x ∈ ks, x < n ∧ Conn T h x
  nodup : ks.Nodup
  sub : ∀ x ∈ ws, x ∈ ks
  closed : ∀ x ∈ ks, x ∉ ws → ∀ y, Adj T x y → y ∈ ks
  le : ws.length ≤ ks.length
structure SrchIn (n : Nat) (T : Ties) (h c i : Nat) (ks ws : List Nat) : Prop where
  start : h ∈ ks
  conn : ∀ x ∈ ks, x < n ∧ Conn T h x
  nodup : ks.Nodup
  sub : ∀ x ∈ ws, x ∈ ks
  here : c ∈ ks
  closed : ∀ x ∈ ks, x ∉ ws → x ≠ c → ∀ y, Adj T x y → y ∈ ks
  done : ∀ j t, j < i → (tiesAt T c)[j]? = some t → other (ins T t) c ∈ ks
  le : ws.length ≤ ks.length
theorem Srch.first {n : Nat} {T : Ties} {h : Nat} (hn : h < n) : Srch n T h [h] [h] :=
  ⟨List.mem_singleton.mpr rfl, fun x hx => by rw [List.mem_singleton.mp hx]; exact ⟨hn, Conn.refl _⟩, nodup_one _, fun x hx => hx, fun x hx hw => absurd hx hw, Nat.le_refl _⟩
theorem Srch.pop {n : Nat} {T : Ties} {h c : Nat} {ks ws : List Nat} (S : Srch n T h ks (ws ++ [c])) : SrchIn n T h c 0 ks ws :=
  ⟨S.start, S.conn, S.nodup, fun x hx => S.sub x (List.mem_append_left _ hx), S.sub c (by simp), fun x hx hw hc => S.closed x hx (by simp [hw, hc]), fun _ _ hj => absurd hj (Nat.not_lt_zero _), by have := S.le; rw [List.length_append] at this; omega⟩
theorem SrchIn.skip {n : Nat} {T : Ties} {h c i t : Nat} {ks ws : List Nat} (S : SrchIn n T h c i ks ws) (ht : (tiesAt T c)[i]? = some t) (hm : other (ins T t) c ∈ ks) : SrchIn n T h c (i + 1) ks ws :=
  ⟨S.start, S.conn, S.nodup, S.sub, S.here, S.closed, fun j t' hj e => by
    rcases Nat.lt_succ_iff_lt_or_eq.mp hj with hj | rfl
    · exact S.done j t' hj e
    · rw [ht] at e
      cases e
      exact hm, S.le⟩
theorem SrchIn.add {n : Nat} {T : Ties} (en : Ends n T) {h c i t : Nat} {ks ws : List Nat} (S : SrchIn n T h c i ks ws) (ht : (tiesAt T c)[i]? = some t) (hm : other (ins T t) c ∉ ks) : SrchIn n T h c (i + 1) (ks ++ [other (ins T t) c]) (ws ++ [other (ins T t) c]) := by
  have hmem := List.mem_of_getElem? ht
  have ad := tiesAt_adj hmem
  refine ⟨List.mem_append_left _ S.start, fun x hx => ?_, ?_, fun x hx => ?_, List.mem_append_left _ S.here, fun x hx hw hc y a => ?_, fun j t' hj e => ?_, by have := S.le; simp only [List.length_append, List.length_singleton]; omega⟩
  · rcases List.mem_append.mp hx with hx | hx
    · exact S.conn x hx
    · rw [List.mem_singleton.mp hx]
      refine ⟨?_, Conn.tail (S.conn c S.here).2 ad⟩
      rcases ad with ad | ad
      · exact (en _ ad).2
      · exact (en _ ad).1
  · rw [List.nodup_append]
    exact ⟨S.nodup, nodup_one _, fun a ha b hb => by
      rw [List.mem_singleton.mp hb]
      intro z
      rw [z] at ha
      exact hm ha⟩
  · rcases List.mem_append.mp hx with hx | hx
    · exact List.mem_append_left _ (S.sub x hx)
    · exact List.mem_append_right _ hx
  · rcases List.mem_append.mp hx with hx | hx
    · exact List.mem_append_left _ (S.closed x hx (fun z => hw (List.mem_append_left _ z)) hc y a)
    · exact absurd (List.mem_append_right _ hx) hw
  · rcases Nat.lt_succ_iff_lt_or_eq.mp hj with hj | rfl
    · exact List.mem_append_left _ (S.done j t' hj e)
    · rw [ht] at e
      cases e
      exact List.mem_append_right _ (List.mem_singleton.mpr rfl)
theorem SrchIn.out {n : Nat} {T : Ties} {h c : Nat} {ks ws : List Nat} (S : SrchIn n T h c (tiesAt T c).length ks ws) : Srch n T h ks ws :=
  ⟨S.start, S.conn, S.nodup, S.sub, fun x hx hw y a => by
    by_cases e : x = c
    · subst e
      obtain ⟨t, ht, rfl⟩ := adj_tiesAt a
      obtain ⟨j, hj, e⟩ := List.mem_iff_getElem.mp ht
      exact S.done j t hj (by rw [List.getElem?_eq_getElem hj, e])
    · exact S.closed x hx hw e y a, S.le⟩
theorem Srch.count {n : Nat} {T : Ties} {h : Nat} {ks ws : List Nat} (S : Srch n T h ks ws) : ks.length ≤ n := by
  have := S.nodup.length_le_of_subset (l₂ := List.range n) fun x hx => List.mem_range.mpr (S.conn x hx).1
  simpa using this
theorem SrchIn.count {n : Nat} {T : Ties} {h c i : Nat} {ks ws : List Nat} (S : SrchIn n T h c i ks ws) : ks.length ≤ n := by
  have := S.nodup.length_le_of_subset (l₂ := List.range n) fun x hx => List.mem_range.mpr (S.conn x hx).1
  simpa using this
theorem Srch.all {n : Nat} {T : Ties} {h : Nat} {ks : List Nat} (S : Srch n T h ks []) (x : Nat) : x ∈ ks ↔ x < n ∧ Conn T h x := by
  refine ⟨S.conn x, fun hc => ?_⟩
  have c := hc.2
  clear hc
  induction c with
  | refl => exact S.start
  | tail c1 a ih => exact S.closed _ ih (by simp) _ a
theorem part_sorted (T : Ties) (n h : Nat) : (part T n h).Pairwise (· ≤ ·) := by
  unfold part
  exact (List.pairwise_le_range).filter _
theorem Srch.perm {n : Nat} {T : Ties} {h : Nat} {ks : List Nat} (S : Srch n T h ks []) : ks.Perm (part T n h) :=
  (List.perm_ext_iff_of_nodup S.nodup (part_nodup T n h)).mpr fun x => (S.all x).trans mem_part.symm
end K30M
set_option Elab.async false
set_option maxRecDepth 100000
set_option maxHeartbeats 2000000
namespace K30
open PySem PySem.Spec PyProof.Rows L2 Evl
/-! ### the text by places -/
def top (i : Nat) : Stmt := PySem.Challenge.pw_houseslessties_k30_whole_when_turns_lead.main.body.getD i (.Pass ⟨0, 0, 0, 0⟩)
def dD (x : Str) (i : Nat) : He.DefD := ⟨(x, none), x, x, defArgs (top i), defBody (top i), defScope (top i), [], []⟩
def dM (c m q : Str) (i j : Nat) : He.DefD := ⟨(c, some m), m, q, defArgs (inClass (top i) j), defBody (inClass (top i) j), defScope (inClass (top i) j), [], []⟩
def fn : List He.DefD := [
  dD "is_integer" 10,
  dD "is_number" 11,
  dD "is_below" 12,
  dD "is_within" 13,
  dD "is_sequence" 14,
  dD "is_pair" 16,
  dD "check_ties" 17,
  dD "need_house" 19,
  dD "need_tie" 20,
  dD "other_end" 21,
  dD "ties_at" 22,
  dD "joined_houses" 23,
  dD "parts_of" 24,
  dD "rings_in" 25,
  dD "is_forest" 26,
  dD "check_modulus" 30,
  dD "is_counter" 31,
  dD "check_numbers" 32,
  dD "counted_as" 33,
  dD "is_rest" 36,
  dD "tie_ends" 37,
  dD "distances_from" 38,
  dD "need_forest" 39,
  dD "check_turns" 40,
  dD "rest_after" 41,
  dD "turns_heard" 42,
  dD "_law_box" 44,
  dD "_law_take" 45,
  dD "_law_pick" 46,
  dD "_law_mixed" 47,
  dD "_law_forest" 48,
  dD "_law_part" 49,
  dD "_law_heard" 50,
  dD "_law_web_refused" 51,
  dD "_law_power" 52,
  dD "_law_still" 53,
  dD "_law_met" 54,
  dD "_law_due" 55,
  dD "_law_hears" 56,
  dD "_law_rest_right" 57,
  dD "_law_none_right" 58,
  dD "law" 59,
  dM "Web" "__init__" "Web.__init__" 18 0,
  dM "Web" "__eq__" "Web.__eq__" 18 1,
  dM "CounterNet" "__init__" "CounterNet.__init__" 34 0,
  dM "CounterNet" "meet" "CounterNet.meet" 34 2]
def fa : List He.Fa := [
  .glo "is_integer",
  .glo "is_number",
  .glo "is_below",
  .glo "is_within",
  .glo "is_sequence",
  .glo "is_pair",
  .glo "check_ties",
  .glo "need_house",
  .glo "need_tie",
  .glo "other_end",
  .glo "ties_at",
  .glo "joined_houses",
  .glo "parts_of",
  .glo "rings_in",
  .glo "is_forest",
  .glo "check_modulus",
  .glo "is_counter",
  .glo "check_numbers",
  .glo "counted_as",
  .glo "is_rest",
  .glo "tie_ends",
  .glo "distances_from",
  .glo "need_forest",
  .glo "check_turns",
  .glo "rest_after",
  .glo "turns_heard",
  .glo "_law_box",
  .glo "_law_take",
  .glo "_law_pick",
  .glo "_law_mixed",
  .glo "_law_forest",
  .glo "_law_part",
  .glo "_law_heard",
  .glo "_law_web_refused",
  .glo "_law_power",
  .glo "_law_still",
  .glo "_law_met",
  .glo "_law_due",
  .glo "_law_hears",
  .glo "_law_rest_right",
  .glo "_law_none_right",
  .glo "law",
  .glo "Refused",
  .glo "NoHouse",
  .glo "Web",
  .glo "CounterNet",
  .glo "NetError",
  .free "len",
  .free "isinstance",
  .free "int",
  .free "bool",
  .free "list",
  .free "tuple",
  .free "all",
  .free "enumerate",
  .free "range",
  .free "sorted",
  .free "zip",
  .free "sum",
  .free "dict",
  .free "abs",
  .free "repr",
  .free "super",
  .free "KeyError",
  .int "MOST_HOUSES" 12,
  .int "MOST_TIES" 20,
  .int "MOST_WRAP" 1000000,
  .int "MOST_NUMBER" 1000000000000000000,
  .cls "Web",
  .mkr "Web",
  .cls "CounterNet",
  .mkr "CounterNet",
  .noat "Web" "ties",
  .noat "Web" "houses",
  .noat "CounterNet" "web",
  .noat "CounterNet" "modulus",
  .noat "CounterNet" "states",
  .noat "CounterNet" "archives",
  .meth "CounterNet" "meet",
  .meth "Web" "__eq__",
  .exm "Refused" "NoHouse" false,
  .exm "NoHouse" "NoHouse" true,
  .exm "Refused" "Refused" true,
  .exm "NoHouse" "Refused" false]
/-- what the top has left, as the walk wants it -/
structure Txt (K : PySem.W.Frag) (mg : Str → Option Value) (base : Heap) : Prop where
  kin : K.In base
  ns : base.Ns mainGlobals mg
  says : He.SaysD fa fn K
section
variable {K : PySem.W.Frag} {mg : Str → Option Value} {base : Heap} (T : Txt K mg base)
theorem Txt.g_is_integer (T : Txt K mg base) : mg "is_integer" = some (.ref (He.ga K "is_integer")) := He.glo_ok T.kin T.ns (T.says.fact 0 (f := .glo "is_integer") rfl)
theorem Txt.g_is_number (T : Txt K mg base) : mg "is_number" = some (.ref (He.ga K "is_number")) := He.glo_ok T.kin T.ns (T.says.fact 1 (f := .glo "is_number") rfl)
theorem Txt.g_is_below (T : Txt K mg base) : mg "is_below" = some (.ref (He.ga K "is_below")) := He.glo_ok T.kin T.ns (T.says.fact 2 (f := .glo "is_below") rfl)
theorem Txt.g_is_within (T : Txt K mg base) : mg "is_within" = some (.ref (He.ga K "is_within")) := He.glo_ok T.kin T.ns (T.says.fact 3 (f := .glo "is_within") rfl)
theorem Txt.g_is_sequence (T : Txt K mg base) : mg "is_sequence" = some (.ref (He.ga K "is_sequence")) := He.glo_ok T.kin T.ns (T.says.fact 4 (f := .glo "is_sequence") rfl)
theorem Txt.g_is_pair (T : Txt K mg base) : mg "is_pair" = some (.ref (He.ga K "is_pair")) := He.glo_ok T.kin T.ns (T.says.fact 5 (f := .glo "is_pair") rfl)
theorem Txt.g_check_ties (T : Txt K mg base) : mg "check_ties" = some (.ref (He.ga K "check_ties")) := He.glo_ok T.kin T.ns (T.says.fact 6 (f := .glo "check_ties") rfl)
theorem Txt.g_need_house (T : Txt K mg base) : mg "need_house" = some (.ref (He.ga K "need_house")) := He.glo_ok T.kin T.ns (T.says.fact 7 (f := .glo "need_house") rfl)
theorem Txt.g_need_tie (T : Txt K mg base) : mg "need_tie" = some (.ref (He.ga K "need_tie")) := He.glo_ok T.kin T.ns (T.says.fact 8 (f := .glo "need_tie") rfl)
theorem Txt.g_other_end (T : Txt K mg base) : mg "other_end" = some (.ref (He.ga K "other_end")) := He.glo_ok T.kin T.ns (T.says.fact 9 (f := .glo "other_end") rfl)
theorem Txt.g_ties_at (T : Txt K mg base) : mg "ties_at" = some (.ref (He.ga K "ties_at")) := He.glo_ok T.kin T.ns (T.says.fact 10 (f := .glo "ties_at") rfl)
theorem Txt.g_joined_houses (T : Txt K mg base) : mg "joined_houses" = some (.ref (He.ga K "joined_houses")) := He.glo_ok T.kin T.ns (T.says.fact 11 (f := .glo "joined_houses") rfl)
theorem Txt.g_parts_of (T : Txt K mg base) : mg "parts_of" = some (.ref (He.ga K "parts_of")) := He.glo_ok T.kin T.ns (T.says.fact 12 (f := .glo "parts_of") rfl)
theorem Txt.g_rings_in (T : Txt K mg base) : mg "rings_in" = some (.ref (He.ga K "rings_in")) := He.glo_ok T.kin T.ns (T.says.fact 13 (f := .glo "rings_in") rfl)
theorem Txt.g_is_forest (T : Txt K mg base) : mg "is_forest" = some (.ref (He.ga K "is_forest")) := He.glo_ok T.kin T.ns (T.says.fact 14 (f := .glo "is_forest") rfl)
theorem Txt.g_check_modulus (T : Txt K mg base) : mg "check_modulus" = some (.ref (He.ga K "check_modulus")) := He.glo_ok T.kin T.ns (T.says.fact 15 (f := .glo "check_modulus") rfl)
theorem Txt.g_is_counter (T : Txt K mg base) : mg "is_counter" = some (.ref (He.ga K "is_counter")) := He.glo_ok T.kin T.ns (T.says.fact 16 (f := .glo "is_counter") rfl)
theorem Txt.g_check_numbers (T : Txt K mg base) : mg "check_numbers" = some (.ref (He.ga K "check_numbers")) := He.glo_ok T.kin T.ns (T.says.fact 17 (f := .glo "check_numbers") rfl)
theorem Txt.g_counted_as (T : Txt K mg base) : mg "counted_as" = some (.ref (He.ga K "counted_as")) := He.glo_ok T.kin T.ns (T.says.fact 18 (f := .glo "counted_as") rfl)
theorem Txt.g_is_rest (T : Txt K mg base) : mg "is_rest" = some (.ref (He.ga K "is_rest")) := He.glo_ok T.kin T.ns (T.says.fact 19 (f := .glo "is_rest") rfl)
theorem Txt.g_tie_ends (T : Txt K mg base) : mg "tie_ends" = some (.ref (He.ga K "tie_ends")) := He.glo_ok T.kin T.ns (T.says.fact 20 (f := .glo "tie_ends") rfl)
theorem Txt.g_distances_from (T : Txt K mg base) : mg "distances_from" = some (.ref (He.ga K "distances_from")) := He.glo_ok T.kin T.ns (T.says.fact 21 (f := .glo "distances_from") rfl)
theorem Txt.g_need_forest (T : Txt K mg base) : mg "need_forest" = some (.ref (He.ga K "need_forest")) := He.glo_ok T.kin T.ns (T.says.fact 22 (f := .glo "need_forest") rfl)
theorem Txt.g_check_turns (T : Txt K mg base) : mg "check_turns" = some (.ref (He.ga K "check_turns")) := He.glo_ok T.kin T.ns (T.says.fact 23 (f := .glo "check_turns") rfl)
theorem Txt.g_rest_after (T : Txt K mg base) : mg "rest_after" = some (.ref (He.ga K "rest_after")) := He.glo_ok T.kin T.ns (T.says.fact 24 (f := .glo "rest_after") rfl)
theorem Txt.g_turns_heard (T : Txt K mg base) : mg "turns_heard" = some (.ref (He.ga K "turns_heard")) := He.glo_ok T.kin T.ns (T.says.fact 25 (f := .glo "turns_heard") rfl)
theorem Txt.g__law_box (T : Txt K mg base) : mg "_law_box" = some (.ref (He.ga K "_law_box")) := He.glo_ok T.kin T.ns (T.says.fact 26 (f := .glo "_law_box") rfl)
theorem Txt.g__law_take (T : Txt K mg base) : mg "_law_take" = some (.ref (He.ga K "_law_take")) := He.glo_ok T.kin T.ns (T.says.fact 27 (f := .glo "_law_take") rfl)
theorem Txt.g__law_pick (T : Txt K mg base) : mg "_law_pick" = some (.ref (He.ga K "_law_pick")) := He.glo_ok T.kin T.ns (T.says.fact 28 (f := .glo "_law_pick") rfl)
theorem Txt.g__law_mixed (T : Txt K mg base) : mg "_law_mixed" = some (.ref (He.ga K "_law_mixed")) := He.glo_ok T.kin T.ns (T.says.fact 29 (f := .glo "_law_mixed") rfl)
theorem Txt.g__law_forest (T : Txt K mg base) : mg "_law_forest" = some (.ref (He.ga K "_law_forest")) := He.glo_ok T.kin T.ns (T.says.fact 30 (f := .glo "_law_forest") rfl)
theorem Txt.g__law_part (T : Txt K mg base) : mg "_law_part" = some (.ref (He.ga K "_law_part")) := He.glo_ok T.kin T.ns (T.says.fact 31 (f := .glo "_law_part") rfl)
theorem Txt.g__law_heard (T : Txt K mg base) : mg "_law_heard" = some (.ref (He.ga K "_law_heard")) := He.glo_ok T.kin T.ns (T.says.fact 32 (f := .glo "_law_heard") rfl)
theorem Txt.g__law_web_refused (T : Txt K mg base) : mg "_law_web_refused" = some (.ref (He.ga K "_law_web_refused")) := He.glo_ok T.kin T.ns (T.says.fact 33 (f := .glo "_law_web_refused") rfl)
theorem Txt.g__law_power (T : Txt K mg base) : mg "_law_power" = some (.ref (He.ga K "_law_power")) := He.glo_ok T.kin T.ns (T.says.fact 34 (f := .glo "_law_power") rfl)
theorem Txt.g__law_still (T : Txt K mg base) : mg "_law_still" = some (.ref (He.ga K "_law_still")) := He.glo_ok T.kin T.ns (T.says.fact 35 (f := .glo "_law_still") rfl)
theorem Txt.g__law_met (T : Txt K mg base) : mg "_law_met" = some (.ref (He.ga K "_law_met")) := He.glo_ok T.kin T.ns (T.says.fact 36 (f := .glo "_law_met") rfl)
theorem Txt.g__law_due (T : Txt K mg base) : mg "_law_due" = some (.ref (He.ga K "_law_due")) := He.glo_ok T.kin T.ns (T.says.fact 37 (f := .glo "_law_due") rfl)
theorem Txt.g__law_hears (T : Txt K mg base) : mg "_law_hears" = some (.ref (He.ga K "_law_hears")) := He.glo_ok T.kin T.ns (T.says.fact 38 (f := .glo "_law_hears") rfl)
theorem Txt.g__law_rest_right (T : Txt K mg base) : mg "_law_rest_right" = some (.ref (He.ga K "_law_rest_right")) := He.glo_ok T.kin T.ns (T.says.fact 39 (f := .glo "_law_rest_right") rfl)
theorem Txt.g__law_none_right (T : Txt K mg base) : mg "_law_none_right" = some (.ref (He.ga K "_law_none_right")) := He.glo_ok T.kin T.ns (T.says.fact 40 (f := .glo "_law_none_right") rfl)
theorem Txt.g_law (T : Txt K mg base) : mg "law" = some (.ref (He.ga K "law")) := He.glo_ok T.kin T.ns (T.says.fact 41 (f := .glo "law") rfl)
theorem Txt.g_Refused (T : Txt K mg base) : mg "Refused" = some (.ref (He.ga K "Refused")) := He.glo_ok T.kin T.ns (T.says.fact 42 (f := .glo "Refused") rfl)
theorem Txt.g_NoHouse (T : Txt K mg base) : mg "NoHouse" = some (.ref (He.ga K "NoHouse")) := He.glo_ok T.kin T.ns (T.says.fact 43 (f := .glo "NoHouse") rfl)
theorem Txt.g_Web (T : Txt K mg base) : mg "Web" = some (.ref (He.ga K "Web")) := He.glo_ok T.kin T.ns (T.says.fact 44 (f := .glo "Web") rfl)
theorem Txt.g_CounterNet (T : Txt K mg base) : mg "CounterNet" = some (.ref (He.ga K "CounterNet")) := He.glo_ok T.kin T.ns (T.says.fact 45 (f := .glo "CounterNet") rfl)
theorem Txt.g_NetError (T : Txt K mg base) : mg "NetError" = some (.ref (He.ga K "NetError")) := He.glo_ok T.kin T.ns (T.says.fact 46 (f := .glo "NetError") rfl)
theorem Txt.f_len (T : Txt K mg base) : mg "len" = none := He.free_ok T.kin T.ns (T.says.fact 47 (f := .free "len") rfl)
theorem Txt.f_isinstance (T : Txt K mg base) : mg "isinstance" = none := He.free_ok T.kin T.ns (T.says.fact 48 (f := .free "isinstance") rfl)
theorem Txt.f_int (T : Txt K mg base) : mg "int" = none := He.free_ok T.kin T.ns (T.says.fact 49 (f := .free "int") rfl)
theorem Txt.f_bool (T : Txt K mg base) : mg "bool" = none := He.free_ok T.kin T.ns (T.says.fact 50 (f := .free "bool") rfl)
theorem Txt.f_list (T : Txt K mg base) : mg "list" = none := He.free_ok T.kin T.ns (T.says.fact 51 (f := .free "list") rfl)
theorem Txt.f_tuple (T : Txt K mg base) : mg "tuple" = none := He.free_ok T.kin T.ns (T.says.fact 52 (f := .free "tuple") rfl)
theorem Txt.f_all (T : Txt K mg base) : mg "all" = none := He.free_ok T.kin T.ns (T.says.fact 53 (f := .free "all") rfl)
theorem Txt.f_enumerate (T : Txt K mg base) : mg "enumerate" = none := He.free_ok T.kin T.ns (T.says.fact 54 (f := .free "enumerate") rfl)
theorem Txt.f_range (T : Txt K mg base) : mg "range" = none := He.free_ok T.kin T.ns (T.says.fact 55 (f := .free "range") rfl)
theorem Txt.f_sorted (T : Txt K mg base) : mg "sorted" = none := He.free_ok T.kin T.ns (T.says.fact 56 (f := .free "sorted") rfl)
theorem Txt.f_zip (T : Txt K mg base) : mg "zip" = none := He.free_ok T.kin T.ns (T.says.fact 57 (f := .free "zip") rfl)
theorem Txt.f_sum (T : Txt K mg base) : mg "sum" = none := He.free_ok T.kin T.ns (T.says.fact 58 (f := .free "sum") rfl)
theorem Txt.f_dict (T : Txt K mg base) : mg "dict" = none := He.free_ok T.kin T.ns (T.says.fact 59 (f := .free "dict") rfl)
theorem Txt.f_abs (T : Txt K mg base) : mg "abs" = none := He.free_ok T.kin T.ns (T.says.fact 60 (f := .free "abs") rfl)
theorem Txt.f_repr (T : Txt K mg base) : mg "repr" = none := He.free_ok T.kin T.ns (T.says.fact 61 (f := .free "repr") rfl)
theorem Txt.f_super (T : Txt K mg base) : mg "super" = none := He.free_ok T.kin T.ns (T.says.fact 62 (f := .free "super") rfl)
theorem Txt.f_KeyError (T : Txt K mg base) : mg "KeyError" = none := He.free_ok T.kin T.ns (T.says.fact 63 (f := .free "KeyError") rfl)
theorem Txt.i_MOST_HOUSES (T : Txt K mg base) : ∃ t, mg "MOST_HOUSES" = some (.int 12 t) := He.int_ok T.kin T.ns (T.says.fact 64 (f := .int "MOST_HOUSES" 12) rfl)
theorem Txt.i_MOST_TIES (T : Txt K mg base) : ∃ t, mg "MOST_TIES" = some (.int 20 t) := He.int_ok T.kin T.ns (T.says.fact 65 (f := .int "MOST_TIES" 20) rfl)
theorem Txt.i_MOST_WRAP (T : Txt K mg base) : ∃ t, mg "MOST_WRAP" = some (.int 1000000 t) := He.int_ok T.kin T.ns (T.says.fact 66 (f := .int "MOST_WRAP" 1000000) rfl)
theorem Txt.i_MOST_NUMBER (T : Txt K mg base) : ∃ t, mg "MOST_NUMBER" = some (.int 1000000000000000000 t) := He.int_ok T.kin T.ns (T.says.fact 67 (f := .int "MOST_NUMBER" 1000000000000000000) rfl)
theorem Txt.c_Web (T : Txt K mg base) : Cls K (He.ga K "Web") := He.cls_ok (T.says.fact 68 (f := .cls "Web") rfl)
theorem Txt.m_Web (T : Txt K mg base) : Mk K (He.ga K "Web") (He.ma K (He.ga K "Web") "__init__") := He.mkr_ok (T.says.fact 69 (f := .mkr "Web") rfl)
theorem Txt.c_CounterNet (T : Txt K mg base) : Cls K (He.ga K "CounterNet") := He.cls_ok (T.says.fact 70 (f := .cls "CounterNet") rfl)
theorem Txt.m_CounterNet (T : Txt K mg base) : Mk K (He.ga K "CounterNet") (He.ma K (He.ga K "CounterNet") "__init__") := He.mkr_ok (T.says.fact 71 (f := .mkr "CounterNet") rfl)
theorem Txt.n_Web_ties (T : Txt K mg base) : NoAttr K (He.ga K "Web") "ties" := He.noat_ok (T.says.fact 72 (f := .noat "Web" "ties") rfl)
theorem Txt.n_Web_houses (T : Txt K mg base) : NoAttr K (He.ga K "Web") "houses" := He.noat_ok (T.says.fact 73 (f := .noat "Web" "houses") rfl)
theorem Txt.n_CounterNet_web (T : Txt K mg base) : NoAttr K (He.ga K "CounterNet") "web" := He.noat_ok (T.says.fact 74 (f := .noat "CounterNet" "web") rfl)
theorem Txt.n_CounterNet_modulus (T : Txt K mg base) : NoAttr K (He.ga K "CounterNet") "modulus" := He.noat_ok (T.says.fact 75 (f := .noat "CounterNet" "modulus") rfl)
theorem Txt.n_CounterNet_states (T : Txt K mg base) : NoAttr K (He.ga K "CounterNet") "states" := He.noat_ok (T.says.fact 76 (f := .noat "CounterNet" "states") rfl)
theorem Txt.n_CounterNet_archives (T : Txt K mg base) : NoAttr K (He.ga K "CounterNet") "archives" := He.noat_ok (T.says.fact 77 (f := .noat "CounterNet" "archives") rfl)
theorem Txt.t_CounterNet_meet (T : Txt K mg base) : Meth K (He.ga K "CounterNet") "meet" (He.ma K (He.ga K "CounterNet") "meet") := He.meth_ok (T.says.fact 78 (f := .meth "CounterNet" "meet") rfl)
theorem Txt.t_Web_eq (T : Txt K mg base) : Meth K (He.ga K "Web") "__eq__" (He.ma K (He.ga K "Web") "__eq__") := He.meth_ok (T.says.fact 79 (f := .meth "Web" "__eq__") rfl)
theorem Txt.x_Refused_NoHouse (T : Txt K mg base) : PySem.W.exmOne K (.ref (He.ga K "Refused")) (.ref (He.ga K "NoHouse")) = some false := He.exm_ok (T.says.fact 80 (f := .exm "Refused" "NoHouse" false) rfl)
theorem Txt.x_NoHouse_NoHouse (T : Txt K mg base) : PySem.W.exmOne K (.ref (He.ga K "NoHouse")) (.ref (He.ga K "NoHouse")) = some true := He.exm_ok (T.says.fact 81 (f := .exm "NoHouse" "NoHouse" true) rfl)
theorem Txt.x_Refused_Refused (T : Txt K mg base) : PySem.W.exmOne K (.ref (He.ga K "Refused")) (.ref (He.ga K "Refused")) = some true := He.exm_ok (T.says.fact 82 (f := .exm "Refused" "Refused" true) rfl)
theorem Txt.x_NoHouse_Refused (T : Txt K mg base) : PySem.W.exmOne K (.ref (He.ga K "NoHouse")) (.ref (He.ga K "Refused")) = some false := He.exm_ok (T.says.fact 83 (f := .exm "NoHouse" "Refused" false) rfl)
end
abbrev Fn_is_integer (K : PySem.W.Frag) (fd : FuncData) : Prop := FunD K "is_integer" "is_integer" (defArgs (top 10)) (defBody (top 10)) (defScope (top 10)) [] [] (He.ga K "is_integer") fd
theorem Txt.d_is_integer {K : PySem.W.Frag} {mg : Str → Option Value} {base : Heap} (T : Txt K mg base) : ∃ fd, Fn_is_integer K fd := T.says.def_ 0 (d := dD "is_integer" 10) rfl
abbrev Fn_is_number (K : PySem.W.Frag) (fd : FuncData) : Prop := FunD K "is_number" "is_number" (defArgs (top 11)) (defBody (top 11)) (defScope (top 11)) [] [] (He.ga K "is_number") fd
theorem Txt.d_is_number {K : PySem.W.Frag} {mg : Str → Option Value} {base : Heap} (T : Txt K mg base) : ∃ fd, Fn_is_number K fd := T.says.def_ 1 (d := dD "is_number" 11) rfl
abbrev Fn_is_below (K : PySem.W.Frag) (fd : FuncData) : Prop := FunD K "is_below" "is_below" (defArgs (top 12)) (defBody (top 12)) (defScope (top 12)) [] [] (He.ga K "is_below") fd
theorem Txt.d_is_below {K : PySem.W.Frag} {mg : Str → Option Value} {base : Heap} (T : Txt K mg base) : ∃ fd, Fn_is_below K fd := T.says.def_ 2 (d := dD "is_below" 12) rfl
abbrev Fn_is_within (K : PySem.W.Frag) (fd : FuncData) : Prop := FunD K "is_within" "is_within" (defArgs (top 13)) (defBody (top 13)) (defScope (top 13)) [] [] (He.ga K "is_within") fd
theorem Txt.d_is_within {K : PySem.W.Frag} {mg : Str → Option Value} {base : Heap} (T : Txt K mg base) : ∃ fd, Fn_is_within K fd := T.says.def_ 3 (d := dD "is_within" 13) rfl
abbrev Fn_is_sequence (K : PySem.W.Frag) (fd : FuncData) : Prop := FunD K "is_sequence" "is_sequence" (defArgs (top 14)) (defBody (top 14)) (defScope (top 14)) [] [] (He.ga K "is_sequence") fd
theorem Txt.d_is_sequence {K : PySem.W.Frag} {mg : Str → Option Value} {base : Heap} (T : Txt K mg base) : ∃ fd, Fn_is_sequence K fd := T.says.def_ 4 (d := dD "is_sequence" 14) rfl
abbrev Fn_is_pair (K : PySem.W.Frag) (fd : FuncData) : Prop := FunD K "is_pair" "is_pair" (defArgs (top 16)) (defBody (top 16)) (defScope (top 16)) [] [] (He.ga K "is_pair") fd
theorem Txt.d_is_pair {K : PySem.W.Frag} {mg : Str → Option Value} {base : Heap} (T : Txt K mg base) : ∃ fd, Fn_is_pair K fd := T.says.def_ 5 (d := dD "is_pair" 16) rfl
abbrev Fn_check_ties (K : PySem.W.Frag) (fd : FuncData) : Prop := FunD K "check_ties" "check_ties" (defArgs (top 17)) (defBody (top 17)) (defScope (top 17)) [] [] (He.ga K "check_ties") fd
theorem Txt.d_check_ties {K : PySem.W.Frag} {mg : Str → Option Value} {base : Heap} (T : Txt K mg base) : ∃ fd, Fn_check_ties K fd := T.says.def_ 6 (d := dD "check_ties" 17) rfl
abbrev Fn_need_house (K : PySem.W.Frag) (fd : FuncData) : Prop := FunD K "need_house" "need_house" (defArgs (top 19)) (defBody (top 19)) (defScope (top 19)) [] [] (He.ga K "need_house") fd
theorem Txt.d_need_house {K : PySem.W.Frag} {mg : Str → Option Value} {base : Heap} (T : Txt K mg base) : ∃ fd, Fn_need_house K fd := T.says.def_ 7 (d := dD "need_house" 19) rfl
abbrev Fn_need_tie (K : PySem.W.Frag) (fd : FuncData) : Prop := FunD K "need_tie" "need_tie" (defArgs (top 20)) (defBody (top 20)) (defScope (top 20)) [] [] (He.ga K "need_tie") fd
theorem Txt.d_need_tie {K : PySem.W.Frag} {mg : Str → Option Value} {base : Heap} (T : Txt K mg base) : ∃ fd, Fn_need_tie K fd := T.says.def_ 8 (d := dD "need_tie" 20) rfl
abbrev Fn_other_end (K : PySem.W.Frag) (fd : FuncData) : Prop := FunD K "other_end" "other_end" (defArgs (top 21)) (defBody (top 21)) (defScope (top 21)) [] [] (He.ga K "other_end") fd
theorem Txt.d_other_end {K : PySem.W.Frag} {mg : Str → Option Value} {base : Heap} (T : Txt K mg base) : ∃ fd, Fn_other_end K fd := T.says.def_ 9 (d := dD "other_end" 21) rfl
abbrev Fn_ties_at (K : PySem.W.Frag) (fd : FuncData) : Prop := FunD K "ties_at" "ties_at" (defArgs (top 22)) (defBody (top 22)) (defScope (top 22)) [] [] (He.ga K "ties_at") fd
theorem Txt.d_ties_at {K : PySem.W.Frag} {mg : Str → Option Value} {base : Heap} (T : Txt K mg base) : ∃ fd, Fn_ties_at K fd := T.says.def_ 10 (d := dD "ties_at" 22) rfl
abbrev Fn_joined_houses (K : PySem.W.Frag) (fd : FuncData) : Prop := FunD K "joined_houses" "joined_houses" (defArgs (top 23)) (defBody (top 23)) (defScope (top 23)) [] [] (He.ga K "joined_houses") fd
theorem Txt.d_joined_houses {K : PySem.W.Frag} {mg : Str → Option Value} {base : Heap} (T : Txt K mg base) : ∃ fd, Fn_joined_houses K fd := T.says.def_ 11 (d := dD "joined_houses" 23) rfl
abbrev Fn_parts_of (K : PySem.W.Frag) (fd : FuncData) : Prop := FunD K "parts_of" "parts_of" (defArgs (top 24)) (defBody (top 24)) (defScope (top 24)) [] [] (He.ga K "parts_of") fd
theorem Txt.d_parts_of {K : PySem.W.Frag} {mg : Str → Option Value} {base : Heap} (T : Txt K mg base) : ∃ fd, Fn_parts_of K fd := T.says.def_ 12 (d := dD "parts_of" 24) rfl
abbrev Fn_rings_in (K : PySem.W.Frag) (fd : FuncData) : Prop := FunD K "rings_in" "rings_in" (defArgs (top 25)) (defBody (top 25)) (defScope (top 25)) [] [] (He.ga K "rings_in") fd
theorem Txt.d_rings_in {K : PySem.W.Frag} {mg : Str → Option Value} {base : Heap} (T : Txt K mg base) : ∃ fd, Fn_rings_in K fd := T.says.def_ 13 (d := dD "rings_in" 25) rfl
abbrev Fn_is_forest (K : PySem.W.Frag) (fd : FuncData) : Prop := FunD K "is_forest" "is_forest" (defArgs (top 26)) (defBody (top 26)) (defScope (top 26)) [] [] (He.ga K "is_forest") fd
theorem Txt.d_is_forest {K : PySem.W.Frag} {mg : Str → Option Value} {base : Heap} (T : Txt K mg base) : ∃ fd, Fn_is_forest K fd := T.says.def_ 14 (d := dD "is_forest" 26) rfl
abbrev Fn_check_modulus (K : PySem.W.Frag) (fd : FuncData) : Prop := FunD K "check_modulus" "check_modulus" (defArgs (top 30)) (defBody (top 30)) (defScope (top 30)) [] [] (He.ga K "check_modulus") fd
theorem Txt.d_check_modulus {K : PySem.W.Frag} {mg : Str → Option Value} {base : Heap} (T : Txt K mg base) : ∃ fd, Fn_check_modulus K fd := T.says.def_ 15 (d := dD "check_modulus" 30) rfl
abbrev Fn_is_counter (K : PySem.W.Frag) (fd : FuncData) : Prop := FunD K "is_counter" "is_counter" (defArgs (top 31)) (defBody (top 31)) (defScope (top 31)) [] [] (He.ga K "is_counter") fd
theorem Txt.d_is_counter {K : PySem.W.Frag} {mg : Str → Option Value} {base : Heap} (T : Txt K mg base) : ∃ fd, Fn_is_counter K fd := T.says.def_ 16 (d := dD "is_counter" 31) rfl
abbrev Fn_check_numbers (K : PySem.W.Frag) (fd : FuncData) : Prop := FunD K "check_numbers" "check_numbers" (defArgs (top 32)) (defBody (top 32)) (defScope (top 32)) [] [] (He.ga K "check_numbers") fd
theorem Txt.d_check_numbers {K : PySem.W.Frag} {mg : Str → Option Value} {base : Heap} (T : Txt K mg base) : ∃ fd, Fn_check_numbers K fd := T.says.def_ 17 (d := dD "check_numbers" 32) rfl
abbrev Fn_counted_as (K : PySem.W.Frag) (fd : FuncData) : Prop := FunD K "counted_as" "counted_as" (defArgs (top 33)) (defBody (top 33)) (defScope (top 33)) [] [] (He.ga K "counted_as") fd
theorem Txt.d_counted_as {K : PySem.W.Frag} {mg : Str → Option Value} {base : Heap} (T : Txt K mg base) : ∃ fd, Fn_counted_as K fd := T.says.def_ 18 (d := dD "counted_as" 33) rfl
abbrev Fn_is_rest (K : PySem.W.Frag) (fd : FuncData) : Prop := FunD K "is_rest" "is_rest" (defArgs (top 36)) (defBody (top 36)) (defScope (top 36)) [] [] (He.ga K "is_rest") fd
theorem Txt.d_is_rest {K : PySem.W.Frag} {mg : Str → Option Value} {base : Heap} (T : Txt K mg base) : ∃ fd, Fn_is_rest K fd := T.says.def_ 19 (d := dD "is_rest" 36) rfl
abbrev Fn_tie_ends (K : PySem.W.Frag) (fd : FuncData) : Prop := FunD K "tie_ends" "tie_ends" (defArgs (top 37)) (defBody (top 37)) (defScope (top 37)) [] [] (He.ga K "tie_ends") fd
theorem Txt.d_tie_ends {K : PySem.W.Frag} {mg : Str → Option Value} {base : Heap} (T : Txt K mg base) : ∃ fd, Fn_tie_ends K fd := T.says.def_ 20 (d := dD "tie_ends" 37) rfl
abbrev Fn_distances_from (K : PySem.W.Frag) (fd : FuncData) : Prop := FunD K "distances_from" "distances_from" (defArgs (top 38)) (defBody (top 38)) (defScope (top 38)) [] [] (He.ga K "distances_from") fd
theorem Txt.d_distances_from {K : PySem.W.Frag} {mg : Str → Option Value} {base : Heap} (T : Txt K mg base) : ∃ fd, Fn_distances_from K fd := T.says.def_ 21 (d := dD "distances_from" 38) rfl
abbrev Fn_need_forest (K : PySem.W.Frag) (fd : FuncData) : Prop := FunD K "need_forest" "need_forest" (defArgs (top 39)) (defBody (top 39)) (defScope (top 39)) [] [] (He.ga K "need_forest") fd
theorem Txt.d_need_forest {K : PySem.W.Frag} {mg : Str → Option Value} {base : Heap} (T : Txt K mg base) : ∃ fd, Fn_need_forest K fd := T.says.def_ 22 (d := dD "need_forest" 39) rfl
abbrev Fn_check_turns (K : PySem.W.Frag) (fd : FuncData) : Prop := FunD K "check_turns" "check_turns" (defArgs (top 40)) (defBody (top 40)) (defScope (top 40)) [] [] (He.ga K "check_turns") fd
theorem Txt.d_check_turns {K : PySem.W.Frag} {mg : Str → Option Value} {base : Heap} (T : Txt K mg base) : ∃ fd, Fn_check_turns K fd := T.says.def_ 23 (d := dD "check_turns" 40) rfl
abbrev Fn_rest_after (K : PySem.W.Frag) (fd : FuncData) : Prop := FunD K "rest_after" "rest_after" (defArgs (top 41)) (defBody (top 41)) (defScope (top 41)) [] [] (He.ga K "rest_after") fd
theorem Txt.d_rest_after {K : PySem.W.Frag} {mg : Str → Option Value} {base : Heap} (T : Txt K mg base) : ∃ fd, Fn_rest_after K fd := T.says.def_ 24 (d := dD "rest_after" 41) rfl
abbrev Fn_turns_heard (K : PySem.W.Frag) (fd : FuncData) : Prop := FunD K "turns_heard" "turns_heard" (defArgs (top 42)) (defBody (top 42)) (defScope (top 42)) [] [] (He.ga K "turns_heard") fd
theorem Txt.d_turns_heard {K : PySem.W.Frag} {mg : Str → Option Value} {base : Heap} (T : Txt K mg base) : ∃ fd, Fn_turns_heard K fd := T.says.def_ 25 (d := dD "turns_heard" 42) rfl
abbrev Fn__law_box (K : PySem.W.Frag) (fd : FuncData) : Prop := FunD K "_law_box" "_law_box" (defArgs (top 44)) (defBody (top 44)) (defScope (top 44)) [] [] (He.ga K "_law_box") fd
theorem Txt.d__law_box {K : PySem.W.Frag} {mg : Str → Option Value} {base : Heap} (T : Txt K mg base) : ∃ fd, Fn__law_box K fd := T.says.def_ 26 (d := dD "_law_box" 44) rfl
abbrev Fn__law_take (K : PySem.W.Frag) (fd : FuncData) : Prop := FunD K "_law_take" "_law_take" (defArgs (top 45)) (defBody (top 45)) (defScope (top 45)) [] [] (He.ga K "_law_take") fd
theorem Txt.d__law_take {K : PySem.W.Frag} {mg : Str → Option Value} {base : Heap} (T : Txt K mg base) : ∃ fd, Fn__law_take K fd := T.says.def_ 27 (d := dD "_law_take" 45) rfl
abbrev Fn__law_pick (K : PySem.W.Frag) (fd : FuncData) : Prop := FunD K "_law_pick" "_law_pick" (defArgs (top 46)) (defBody (top 46)) (defScope (top 46)) [] [] (He.ga K "_law_pick") fd
theorem Txt.d__law_pick {K : PySem.W.Frag} {mg : Str → Option Value} {base : Heap} (T : Txt K mg base) : ∃ fd, Fn__law_pick K fd := T.says.def_ 28 (d := dD "_law_pick" 46) rfl
abbrev Fn__law_mixed (K : PySem.W.Frag) (fd : FuncData) : Prop := FunD K "_law_mixed" "_law_mixed" (defArgs (top 47)) (defBody (top 47)) (defScope (top 47)) [] [] (He.ga K "_law_mixed") fd
theorem Txt.d__law_mixed {K : PySem.W.Frag} {mg : Str → Option Value} {base : Heap} (T : Txt K mg base) : ∃ fd, Fn__law_mixed K fd := T.says.def_ 29 (d := dD "_law_mixed" 47) rfl
abbrev Fn__law_forest (K : PySem.W.Frag) (fd : FuncData) : Prop := FunD K "_law_forest" "_law_forest" (defArgs (top 48)) (defBody (top 48)) (defScope (top 48)) [] [] (He.ga K "_law_forest") fd
theorem Txt.d__law_forest {K : PySem.W.Frag} {mg : Str → Option Value} {base : Heap} (T : Txt K mg base) : ∃ fd, Fn__law_forest K fd := T.says.def_ 30 (d := dD "_law_forest" 48) rfl
abbrev Fn__law_part (K : PySem.W.Frag) (fd : FuncData) : Prop := FunD K "_law_part" "_law_part" (defArgs (top 49)) (defBody (top 49)) (defScope (top 49)) [] [] (He.ga K "_law_part") fd
theorem Txt.d__law_part {K : PySem.W.Frag} {mg : Str → Option Value} {base : Heap} (T : Txt K mg base) : ∃ fd, Fn__law_part K fd := T.says.def_ 31 (d := dD "_law_part" 49) rfl
abbrev Fn__law_heard (K : PySem.W.Frag) (fd : FuncData) : Prop := FunD K "_law_heard" "_law_heard" (defArgs (top 50)) (defBody (top 50)) (defScope (top 50)) [] [] (He.ga K "_law_heard") fd
theorem Txt.d__law_heard {K : PySem.W.Frag} {mg : Str → Option Value} {base : Heap} (T : Txt K mg base) : ∃ fd, Fn__law_heard K fd := T.says.def_ 32 (d := dD "_law_heard" 50) rfl
abbrev Fn__law_web_refused (K : PySem.W.Frag) (fd : FuncData) : Prop := FunD K "_law_web_refused" "_law_web_refused" (defArgs (top 51)) (defBody (top 51)) (defScope (top 51)) [] [] (He.ga K "_law_web_refused") fd
theorem Txt.d__law_web_refused {K : PySem.W.Frag} {mg : Str → Option Value} {base : Heap} (T : Txt K mg base) : ∃ fd, Fn__law_web_refused K fd := T.says.def_ 33 (d := dD "_law_web_refused" 51) rfl
abbrev Fn__law_power (K : PySem.W.Frag) (fd : FuncData) : Prop := FunD K "_law_power" "_law_power" (defArgs (top 52)) (defBody (top 52)) (defScope (top 52)) [] [] (He.ga K "_law_power") fd
theorem Txt.d__law_power {K : PySem.W.Frag} {mg : Str → Option Value} {base : Heap} (T : Txt K mg base) : ∃ fd, Fn__law_power K fd := T.says.def_ 34 (d := dD "_law_power" 52) rfl
abbrev Fn__law_still (K : PySem.W.Frag) (fd : FuncData) : Prop := FunD K "_law_still" "_law_still" (defArgs (top 53)) (defBody (top 53)) (defScope (top 53)) [] [] (He.ga K "_law_still") fd
theorem Txt.d__law_still {K : PySem.W.Frag} {mg : Str → Option Value} {base : Heap} (T : Txt K mg base) : ∃ fd, Fn__law_still K fd := T.says.def_ 35 (d := dD "_law_still" 53) rfl
abbrev Fn__law_met (K : PySem.W.Frag) (fd : FuncData) : Prop := FunD K "_law_met" "_law_met" (defArgs (top 54)) (defBody (top 54)) (defScope (top 54)) [] [] (He.ga K "_law_met") fd
theorem Txt.d__law_met {K : PySem.W.Frag} {mg : Str → Option Value} {base : Heap} (T : Txt K mg base) : ∃ fd, Fn__law_met K fd := T.says.def_ 36 (d := dD "_law_met" 54) rfl
abbrev Fn__law_due (K : PySem.W.Frag) (fd : FuncData) : Prop := FunD K "_law_due" "_law_due" (defArgs (top 55)) (defBody (top 55)) (defScope (top 55)) [] [] (He.ga K "_law_due") fd
theorem Txt.d__law_due {K : PySem.W.Frag} {mg : Str → Option Value} {base : Heap} (T : Txt K mg base) : ∃ fd, Fn__law_due K fd := T.says.def_ 37 (d := dD "_law_due" 55) rfl
abbrev Fn__law_hears (K : PySem.W.Frag) (fd : FuncData) : Prop := FunD K "_law_hears" "_law_hears" (defArgs (top 56)) (defBody (top 56)) (defScope (top 56)) [] [] (He.ga K "_law_hears") fd
theorem Txt.d__law_hears {K : PySem.W.Frag} {mg : Str → Option Value} {base : Heap} (T : Txt K mg base) : ∃ fd, Fn__law_hears K fd := T.says.def_ 38 (d := dD "_law_hears" 56) rfl
abbrev Fn__law_rest_right (K : PySem.W.Frag) (fd : FuncData) : Prop := FunD K "_law_rest_right" "_law_rest_right" (defArgs (top 57)) (defBody (top 57)) (defScope (top 57)) [] [] (He.ga K "_law_rest_right") fd
theorem Txt.d__law_rest_right {K : PySem.W.Frag} {mg : Str → Option Value} {base : Heap} (T : Txt K mg base) : ∃ fd, Fn__law_rest_right K fd := T.says.def_ 39 (d := dD "_law_rest_right" 57) rfl
abbrev Fn__law_none_right (K : PySem.W.Frag) (fd : FuncData) : Prop := FunD K "_law_none_right" "_law_none_right" (defArgs (top 58)) (defBody (top 58)) (defScope (top 58)) [] [] (He.ga K "_law_none_right") fd
theorem Txt.d__law_none_right {K : PySem.W.Frag} {mg : Str → Option Value} {base : Heap} (T : Txt K mg base) : ∃ fd, Fn__law_none_right K fd := T.says.def_ 40 (d := dD "_law_none_right" 58) rfl
abbrev Fn_law (K : PySem.W.Frag) (fd : FuncData) : Prop := FunD K "law" "law" (defArgs (top 59)) (defBody (top 59)) (defScope (top 59)) [] [] (He.ga K "law") fd
theorem Txt.d_law {K : PySem.W.Frag} {mg : Str → Option Value} {base : Heap} (T : Txt K mg base) : ∃ fd, Fn_law K fd := T.says.def_ 41 (d := dD "law" 59) rfl
abbrev Fn_Web_init (K : PySem.W.Frag) (fd : FuncData) : Prop := FunD K "__init__" "Web.__init__" (defArgs (inClass (top 18) 0)) (defBody (inClass (top 18) 0)) (defScope (inClass (top 18) 0)) [] [] (He.ma K (He.ga K "Web") "__init__") fd
theorem Txt.d_Web_init {K : PySem.W.Frag} {mg : Str → Option Value} {base : Heap} (T : Txt K mg base) : ∃ fd, Fn_Web_init K fd := T.says.def_ 42 (d := dM "Web" "__init__" "Web.__init__" 18 0) rfl
abbrev Fn_Web_eq (K : PySem.W.Frag) (fd : FuncData) : Prop := FunD K "__eq__" "Web.__eq__" (defArgs (inClass (top 18) 1)) (defBody (inClass (top 18) 1)) (defScope (inClass (top 18) 1)) [] [] (He.ma K (He.ga K "Web") "__eq__") fd
theorem Txt.d_Web_eq {K : PySem.W.Frag} {mg : Str → Option Value} {base : Heap} (T : Txt K mg base) : ∃ fd, Fn_Web_eq K fd := T.says.def_ 43 (d := dM "Web" "__eq__" "Web.__eq__" 18 1) rfl
abbrev Fn_CounterNet_init (K : PySem.W.Frag) (fd : FuncData) : Prop := FunD K "__init__" "CounterNet.__init__" (defArgs (inClass (top 34) 0)) (defBody (inClass (top 34) 0)) (defScope (inClass (top 34) 0)) [] [] (He.ma K (He.ga K "CounterNet") "__init__") fd
theorem Txt.d_CounterNet_init {K : PySem.W.Frag} {mg : Str → Option Value} {base : Heap} (T : Txt K mg base) : ∃ fd, Fn_CounterNet_init K fd := T.says.def_ 44 (d := dM "CounterNet" "__init__" "CounterNet.__init__" 34 0) rfl
abbrev Fn_CounterNet_meet (K : PySem.W.Frag) (fd : FuncData) : Prop := FunD K "meet" "CounterNet.meet" (defArgs (inClass (top 34) 2)) (defBody (inClass (top 34) 2)) (defScope (inClass (top 34) 2)) [] [] (He.ma K (He.ga K "CounterNet") "meet") fd
theorem Txt.d_CounterNet_meet {K : PySem.W.Frag} {mg : Str → Option Value} {base : Heap} (T : Txt K mg base) : ∃ fd, Fn_CounterNet_meet K fd := T.says.def_ 45 (d := dM "CounterNet" "meet" "CounterNet.meet" 34 2) rfl
/-! ### a def and its promise -/
/-- the def x keeps the promise sp at the level k -/
structure Df (P : Program) (w : World) (K : PySem.W.Frag) (mg : Str → Option Value) (base : Heap) (k : Nat) (x : Str) (ps : List Str) (sp : Sp) : Prop where
  ex : ∃ (f : Addr) (fd : FuncData), mg x = some (.ref f) ∧ PySem.W.keepIn K (.ref f) = true ∧ Binds K fd ps [] ∧ FnOk P w K mg base (L2.CX P w) k f fd ps sp ∧ ∃ (oc : Value) (od : Option Addr) (osl : Array (Option Value)), K.lookup f = some ⟨oc, od, .func fd, osl⟩
section
variable {X : Cx} {k : Nat} {ps : List Str} {sp : Sp} {E : XK} {x : Str} {p pos : Pos} {e : Expr} {es : List Expr} {t : TA}
theorem pe_df (D : Df X.prog X.w X.K X.mg X.base k x ps sp) (hr : Room k X.A) (hx : Passes (L2.CX X.prog X.w) X E) (ha : PA X (e :: es) t) (hg : Gl X x := by rfl) (hdb : (x == ("__debug__" : Str)) = false := by decide)
    (he : starEach (e :: es) X.env = (false, eval e X.env) :: starEach es X.env := by rfl) (hpl : (backTo pos (starEach es X.env)).any (·.1) = false := by rfl) : PE X (.Call (.Name x p) (e :: es) [] pos) (tCall sp [] E t) := by
  obtain ⟨f, fd, g, kp, b, F, _⟩ := D.ex
  exact pe_call F hr hg g kp b .nil hx ha hdb he hpl
/-- a call that raises nothing -/
theorem pe_d0 (D : Df X.prog X.w X.K X.mg X.base k x ps sp) (hr : Room k X.A) (ha : PA X (e :: es) t) (hg : Gl X x := by rfl) (hdb : (x == ("__debug__" : Str)) = false := by decide)
    (he : starEach (e :: es) X.env = (false, eval e X.env) :: starEach es X.env := by rfl) (hpl : (backTo pos (starEach es X.env)).any (·.1) = false := by rfl) : PE X (.Call (.Name x p) (e :: es) [] pos) (tCall sp [] E0 t) :=
  pe_df D hr passL ha hg hdb he hpl
end
section
variable {P : Program} {w : World} {K : PySem.W.Frag} {mg : Str → Option Value} {base : Heap}
theorem Df.mk1 {x : Str} {f : Addr} {fd : FuncData} {ps : List Str} {k : Nat} {sp : Sp} {i : Nat} (g : mg x = some (.ref f)) (F : FunD K x x (defArgs (top i)) (defBody (top i)) (defScope (top i)) [] [] f fd)
    (h : ∀ (kV doc pm : Value) (an : Option Addr) (cdv ct : Value) (us : List Value), us.length = ps.length → bindArgs (PySem.W.fnOf x x (defArgs (top i)) (defBody (top i)) (defScope (top i)) .none kV doc pm an cdv ct) ⟨us, []⟩ = pure (ps.zip us))
    (ok : FnOk P w K mg base (L2.CX P w) k f fd ps sp) : Df P w K mg base k x ps sp := ⟨f, fd, g, F.kp, F.bindsN h, ok, by
      obtain ⟨oc, od, dV, kV, doc, pm, an, cdv, ct, osl, e, lk, _⟩ := F.ex
      exact ⟨oc, od, osl, lk⟩⟩
end
end K30
namespace K30
open PySem PySem.Spec PyProof.Rows L2 Evl
theorem bt_isinstance : bootBuiltins "isinstance" = some (.builtin "isinstance") := by decide +kernel
theorem bt_int : bootBuiltins "int" = some (.type "int") := by decide +kernel
theorem bt_bool : bootBuiltins "bool" = some (.type "bool") := by decide +kernel
theorem bt_list : bootBuiltins "list" = some (.type "list") := by decide +kernel
theorem bt_tuple : bootBuiltins "tuple" = some (.type "tuple") := by decide +kernel
theorem bt_len : bootBuiltins "len" = some (.builtin "len") := by decide +kernel
theorem bt_all : bootBuiltins "all" = some (.builtin "all") := by decide +kernel
theorem bt_sorted : bootBuiltins "sorted" = some (.builtin "sorted") := by decide +kernel
theorem bt_sum : bootBuiltins "sum" = some (.builtin "sum") := by decide +kernel
theorem bt_dict : bootBuiltins "dict" = some (.type "dict") := by decide +kernel
theorem bt_abs : bootBuiltins "abs" = some (.builtin "abs") := by decide +kernel
theorem bt_repr : bootBuiltins "repr" = some (.builtin "repr") := by decide +kernel
/-! ### whole numbers, sequences -/
/-- None, a bool, an int, a text -/
def Sc : V → Prop
  | .non => True
  | .bl _ => True
  | .int _ => True
  | .str _ => True
  | _ => False
def isI : V → Bool
  | .int _ => true
  | _ => false
def ty1 : V → Value
  | .non => .type "NoneType"
  | .bl _ => .type "bool"
  | .int _ => .type "int"
  | _ => .type "str"
theorem sc_ty {K : PySem.W.Frag} {H : Hp} {v : V} (h : Sc v) : TyX K H v (ty1 v) := by
  cases v with
  | non => exact .base .non
  | bl b => exact .base (.bl b)
  | int i => exact .base (.int i)
  | str x => exact .base (.str x)
  | _ => exact h.elim
theorem sc_int {K : PySem.W.Frag} {v : V} (h : Sc v) : ∃ b, PySem.W.kitOne K (ty1 v) (.type "int") = some b ∧ (b = true ↔ (isI v = true ∨ ∃ k, v = .bl k)) := by
  cases v with
  | non => exact ⟨false, kit_ty (by decide +kernel), by simp [isI]⟩
  | bl b => exact ⟨true, kit_ty (by decide +kernel), by simp [isI]⟩
  | int i => exact ⟨true, kit_ty (by decide +kernel), by simp [isI]⟩
  | str x => exact ⟨false, kit_ty (by decide +kernel), by simp [isI]⟩
  | _ => exact h.elim
theorem sc_bool {K : PySem.W.Frag} {v : V} (h : Sc v) : ∃ b, PySem.W.kitOne K (ty1 v) (.type "bool") = some b ∧ (b = true ↔ ∃ k, v = .bl k) := by
  cases v with
  | non => exact ⟨false, kit_ty (by decide +kernel), by simp⟩
  | bl b => exact ⟨true, kit_ty (by decide +kernel), by simp⟩
  | int i => exact ⟨false, kit_ty (by decide +kernel), by simp⟩
  | str x => exact ⟨false, kit_ty (by decide +kernel), by simp⟩
  | _ => exact h.elim
/-- a value in, a value out, the heap as it was -/
def spIsInteger : Sp := fun vs H Q _ => ∃ v, vs = [v] ∧ Sc v ∧ Q (.bl (isI v)) H
section
variable {P : Program} {w : World} {K : PySem.W.Frag} {mg : Str → Option Value} {base : Heap}
theorem sc_1 : FnScope ["value"] ["value"] (defScope (top 10)) := ⟨rfl, rfl, rfl, by decide +kernel, rfl, by decide +kernel, by decide +kernel⟩
theorem ok_is_integer (T : Txt K mg base) : Df P w K mg base 1 "is_integer" ["value"] spIsInteger := by
  obtain ⟨fd, F⟩ := T.d_is_integer
  refine Df.mk1 (i := 10) T.g_is_integer F (fun _ _ _ _ _ _ us hl => match us, hl with | [_], _ => rfl) (F.ok sc_1 (fun vs H Q E h => ?_) (fun cdv A outer s H vs Q E hr h => ?_))
  · obtain ⟨v, rfl, _⟩ := h
    rfl
  · obtain ⟨v, rfl, hv, k⟩ := h
    refine ⟨_, PSs.nox (pss_one (ps_ret (pe_and (pe_callB call_isi (by rfl) T.f_isinstance bt_isinstance (pa_cons (pv 0) (pa_cons (pe_bltn (v := .ty "int") (by rfl) T.f_int bt_int rfl) pa_nil)))
      (pe_one (pe_not (pe_callB call_isi (by rfl) T.f_isinstance bt_isinstance (pa_cons (pv 0) (pa_cons (pe_bltn (v := .ty "bool") (by rfl) T.f_bool bt_bool rfl) pa_nil)))))))), ?_⟩
    obtain ⟨b1, e1, h1⟩ := sc_int (K := K) hv
    obtain ⟨b2, e2, h2⟩ := sc_bool (K := K) hv
    refine ⟨_, rfl, _, _, _, _, b1, rfl, .ty _, sc_ty hv, e1, b1, rfl, ?_⟩
    cases b1 with
    | true =>
      refine iteT ⟨_, rfl, _, _, _, _, b2, rfl, .ty _, sc_ty hv, e2, b2, rfl, ?_⟩
      have : (!b2) = isI v := by
        rcases h1.mp rfl with z | ⟨c, z⟩
        · rw [z]
          cases b2 with
          | false => rfl
          | true =>
            obtain ⟨c, q⟩ := h2.mp rfl
            rw [q] at z
            cases z
        · have : b2 = true := h2.mpr ⟨c, z⟩
          rw [this, z]
          rfl
      rw [this]
      exact k
    | false =>
      refine iteF ?_
      have : isI v = false := by
        cases q : isI v with
        | false => rfl
        | true => exact (Bool.noConfusion (h1.mpr (.inl q)))
      rw [this] at k
      exact k
end
end K30
namespace K30
open PySem PySem.Spec PyProof.Rows L2 Evl
def isN : V → Bool
  | .int i => decide (0 ≤ i)
  | _ => false
def isB (m : Int) : V → Bool
  | .int i => decide (0 ≤ i) && decide (i < m)
  | _ => false
def spIsNumber : Sp := fun vs H Q _ => ∃ v, vs = [v] ∧ Sc v ∧ Q (.bl (isN v)) H
def spIsBelow : Sp := fun vs H Q _ => ∃ v m, vs = [v, .int m] ∧ Sc v ∧ Q (.bl (isB m v)) H
/-- of whole numbers alone -/
def spIsWithin : Sp := fun vs H Q _ => ∃ i l m, vs = [.int i, .int l, .int m] ∧ Q (.bl (decide (l ≤ i) && decide (i ≤ m))) H
/-- what is a sequence: b -/
def SqV (H : Hp) (v : V) (b : Bool) : Prop := (Sc v ∧ b = false) ∨ (∃ a xs, v = .ref a ∧ (H a = some (.lst xs) ∨ H a = some (.tup xs)) ∧ b = true)
def spIsSequence : Sp := fun vs H Q _ => ∃ v b, vs = [v] ∧ SqV H v b ∧ ∀ H2, Ex H H2 → Q (.bl b) H2
theorem isI_int {v : V} (h : isI v = true) : ∃ i, v = .int i := by
  cases v with
  | int i => exact ⟨i, rfl⟩
  | _ => exact Bool.noConfusion h
theorem isN_int {v : V} (h : isN v = true) : ∃ i, v = .int i ∧ 0 ≤ i := by
  cases v with
  | int i => exact ⟨i, rfl, of_decide_eq_true h⟩
  | _ => exact Bool.noConfusion h
section
variable {P : Program} {w : World} {K : PySem.W.Frag} {mg : Str → Option Value} {base : Heap}
theorem sc_number : FnScope ["value"] ["value"] (defScope (top 11)) := ⟨rfl, rfl, rfl, by decide +kernel, rfl, by decide +kernel, by decide +kernel⟩
theorem ok_is_number (T : Txt K mg base) (D1 : Df P w K mg base 1 "is_integer" ["value"] spIsInteger) : Df P w K mg base 2 "is_number" ["value"] spIsNumber := by
  obtain ⟨fd, F⟩ := T.d_is_number
  refine Df.mk1 (i := 11) T.g_is_number F (fun _ _ _ _ _ _ us hl => match us, hl with | [_], _ => rfl) (F.ok sc_number (fun vs H Q E h => ?_) (fun cdv A outer s H vs Q E hr h => ?_))
  · obtain ⟨v, rfl, _⟩ := h
    rfl
  · obtain ⟨v, rfl, hv, k⟩ := h
    refine ⟨_, PSs.nox (pss_one (ps_ret (pe_and (pe_d0 D1 hr (pa_cons (pv 0) pa_nil)) (pe_one (pe_cmpR op_ge (pv 0) pe_int (nomark _)))))), ?_⟩
    refine ⟨_, rfl, _, rfl, hv, _, rfl, ?_⟩
    cases e : isI v with
    | true =>
      obtain ⟨i, rfl⟩ := isI_int e
      exact iteT ⟨_, rfl, _, _, rfl, rfl, k⟩
    | false =>
      refine iteF ?_
      have : isN v = false := by
        cases v with
        | int i => exact Bool.noConfusion e
        | _ => rfl
      rw [this] at k
      exact k
theorem sc_below : FnScope ["value", "most"] ["value", "most"] (defScope (top 12)) := ⟨rfl, rfl, rfl, by decide +kernel, rfl, by decide +kernel, by decide +kernel⟩
theorem ok_is_below (T : Txt K mg base) (D1 : Df P w K mg base 2 "is_number" ["value"] spIsNumber) : Df P w K mg base 3 "is_below" ["value", "most"] spIsBelow := by
  obtain ⟨fd, F⟩ := T.d_is_below
  refine Df.mk1 (i := 12) T.g_is_below F (fun _ _ _ _ _ _ us hl => match us, hl with | [_, _], _ => rfl) (F.ok sc_below (fun vs H Q E h => ?_) (fun cdv A outer s H vs Q E hr h => ?_))
  · obtain ⟨v, m, rfl, _⟩ := h
    rfl
  · obtain ⟨v, m, rfl, hv, k⟩ := h
    refine ⟨_, PSs.nox (pss_one (ps_ret (pe_and (pe_d0 D1 hr (pa_cons (pv 0) pa_nil)) (pe_one (pe_cmpR op_lt (pv 0) (pv 1) (nomark _)))))), ?_⟩
    refine ⟨_, rfl, _, rfl, hv, _, rfl, ?_⟩
    cases e : isN v with
    | true =>
      obtain ⟨i, rfl, h0⟩ := isN_int e
      refine iteT ⟨_, rfl, _, rfl, _, _, rfl, rfl, ?_⟩
      have : isB m (.int i) = decide (i < m) := by
        show (decide (0 ≤ i) && decide (i < m)) = decide (i < m)
        rw [decide_eq_true h0]
        rfl
      rw [this] at k
      exact k
    | false =>
      refine iteF ?_
      have : isB m v = false := by
        cases v with
        | int i =>
          show (decide (0 ≤ i) && decide (i < m)) = false
          have e' : decide (0 ≤ i) = false := e
          rw [e']
          rfl
        | _ => rfl
      rw [this] at k
      exact k
theorem sc_within : FnScope ["value", "least", "most"] ["value", "least", "most"] (defScope (top 13)) := ⟨rfl, rfl, rfl, by decide +kernel, rfl, by decide +kernel, by decide +kernel⟩
theorem ok_is_within (T : Txt K mg base) (D1 : Df P w K mg base 1 "is_integer" ["value"] spIsInteger) : Df P w K mg base 2 "is_within" ["value", "least", "most"] spIsWithin := by
  obtain ⟨fd, F⟩ := T.d_is_within
  refine Df.mk1 (i := 13) T.g_is_within F (fun _ _ _ _ _ _ us hl => match us, hl with | [_, _, _], _ => rfl) (F.ok sc_within (fun vs H Q E h => ?_) (fun cdv A outer s H vs Q E hr h => ?_))
  · obtain ⟨i, l, m, rfl, _⟩ := h
    rfl
  · obtain ⟨i, l, m, rfl, k⟩ := h
    refine ⟨_, PSs.nox (pss_one (ps_ret (pe_and (pe_d0 D1 hr (pa_cons (pv 0) pa_nil)) (pe_one (pe_chain op_le op_le (pv 1) (pv 0) (pv 2)))))), ?_⟩
    refine ⟨_, rfl, _, rfl, trivial, _, rfl, iteT ?_⟩
    refine ⟨_, rfl, _, rfl, _, _, rfl, rfl, _, rfl, ?_⟩
    by_cases c : l ≤ i
    · rw [decide_eq_true c] at k ⊢
      exact iteT ⟨_, rfl, _, _, rfl, rfl, k⟩
    · rw [decide_eq_false c] at k ⊢
      exact iteF k
theorem sc_seq : FnScope ["value"] ["value"] (defScope (top 14)) := ⟨rfl, rfl, rfl, by decide +kernel, rfl, by decide +kernel, by decide +kernel⟩
theorem lt_any {K : PySem.W.Frag} {H : Hp} {v : V} {b : Bool} (h : SqV H v b) : ∃ t, TyX K H v t ∧ PySem.W.kitAny K t [.type "list", .type "tuple"] = some b := by
  rcases h with ⟨hv, rfl⟩ | ⟨a, xs, rfl, h, rfl⟩
  · refine ⟨ty1 v, sc_ty hv, ?_⟩
    cases v with
    | non => exact kitAny_cons (kit_ty (b := "list") (r := false) (by decide +kernel)) (fun _ => kitAny_cons (kit_ty (b := "tuple") (r := false) (by decide +kernel)) (fun _ => rfl) (fun z => Bool.noConfusion z)) (fun z => Bool.noConfusion z)
    | bl b => exact kitAny_cons (kit_ty (b := "list") (r := false) (by decide +kernel)) (fun _ => kitAny_cons (kit_ty (b := "tuple") (r := false) (by decide +kernel)) (fun _ => rfl) (fun z => Bool.noConfusion z)) (fun z => Bool.noConfusion z)
    | int i => exact kitAny_cons (kit_ty (b := "list") (r := false) (by decide +kernel)) (fun _ => kitAny_cons (kit_ty (b := "tuple") (r := false) (by decide +kernel)) (fun _ => rfl) (fun z => Bool.noConfusion z)) (fun z => Bool.noConfusion z)
    | str x => exact kitAny_cons (kit_ty (b := "list") (r := false) (by decide +kernel)) (fun _ => kitAny_cons (kit_ty (b := "tuple") (r := false) (by decide +kernel)) (fun _ => rfl) (fun z => Bool.noConfusion z)) (fun z => Bool.noConfusion z)
    | _ => exact hv.elim
  · rcases h with h | h
    · exact ⟨.type "list", .base (.lst h), kitAny_cons (b := true) (kit_ty (by decide +kernel)) (fun z => Bool.noConfusion z) (fun _ => rfl)⟩
    · exact ⟨.type "tuple", .base (.tup h), kitAny_cons (b := false) (kit_ty (by decide +kernel)) (fun _ => kitAny_cons (b := true) (kit_ty (by decide +kernel)) (fun z => Bool.noConfusion z) (fun _ => rfl)) (fun z => Bool.noConfusion z)⟩
theorem SqV.ex {H H2 : Hp} {v : V} {b : Bool} (h : SqV H v b) (e : Ex H H2) : SqV H2 v b := by
  rcases h with h | ⟨a, xs, rfl, h, rfl⟩
  · exact .inl h
  · refine .inr ⟨a, xs, rfl, ?_, rfl⟩
    rcases h with h | h
    · exact .inl (e _ _ h)
    · exact .inr (e _ _ h)
theorem ok_is_sequence (T : Txt K mg base) : Df P w K mg base 1 "is_sequence" ["value"] spIsSequence := by
  obtain ⟨fd, F⟩ := T.d_is_sequence
  refine Df.mk1 (i := 14) T.g_is_sequence F (fun _ _ _ _ _ _ us hl => match us, hl with | [_], _ => rfl) (F.ok sc_seq (fun vs H Q E h => ?_) (fun cdv A outer s H vs Q E hr h => ?_))
  · obtain ⟨v, b, rfl, _⟩ := h
    rfl
  · obtain ⟨v, b, rfl, hv, k⟩ := h
    refine ⟨_, PSs.nox (pss_one (ps_ret (pe_callB call_isiT (by rfl) T.f_isinstance bt_isinstance (pa_cons (pv 0) (pa_cons (pe_tup (pa_cons (pe_bltn (v := .ty "list") (by rfl) T.f_list bt_list rfl) (pa_cons (pe_bltn (v := .ty "tuple") (by rfl) T.f_tuple bt_tuple rfl) pa_nil))) pa_nil))))), ?_⟩
    refine ⟨_, rfl, (by show 2 ≤ sizeLine; decide), fun p hp => ?_⟩
    have e := Ex.new (o := .tup [.ty "list", .ty "tuple"]) hp
    obtain ⟨t, ht, ka⟩ := lt_any (K := K) (hv.ex e)
    exact ⟨v, p, _, t, _, b, rfl, upd_same, .cons (.ty _) (.cons (.ty _) .nil), ht, ka, k _ e⟩
end
end K30
namespace PySem
open Sem (wp)
set_option maxHeartbeats 1000000 in
theorem meets_enumerate_newB1 {v : Value} {o : Obj} {H : Heap → Prop} (B : Begins v o H) :
    Meets (Builtin.«enumerate.__new__» ⟨[.type "enumerate", v], []⟩) (fun _ R s => H s.heap ∧
      R (.ok (.ret (.ref (s.heap.push o).objs.size))) { s with heap := (s.heap.push o).push { cls := .type "enumerate", data := .fields #[.none, .bool false, .ref s.heap.objs.size, rawInt 0, .none, .none] } }) :=
  .of_wp fun prog w A R s h => by
    obtain ⟨hp, g, d, tk, os⟩ := s; obtain ⟨h1, h⟩ := h
    have hsub := sub_enumerate
    have q1 : ∀ {A' : Around} {E : Value → Shared → Prop} {Q : Value → Shared → Prop}, Q (.ref hp.objs.size) ⟨hp.push o, g, d, tk, os⟩ → wpAny (model prog w) A' (pyIter v) Q E ⟨hp, g, d, tk, os⟩ :=
      fun q => B.iter prog w _ _ ⟨hp, g, d, tk, os⟩ _ h1 q
    wp_walk using q1
    refine wpAny_stack_any fun st => wpAny_pure ?_
    split
    · rename_i c _ _ _ _ _
      cases (c == Value.type "enumerate")
      · wp_walk using q1
        exact ⟨_, rfl, h⟩
      · wp_walk using q1
        exact ⟨_, rfl, h⟩
    · wp_walk using q1
      exact ⟨_, rfl, h⟩
section
variable {prog : Program} {w : World} {A : Around} {E : Value → Shared → Prop} {s : Shared}
theorem enum_begins1 {v : Value} {o : Obj} {H : Heap → Prop} {Q : Value → Shared → Prop} (B : Begins v o H) (h1 : H s.heap)
    (h : ∀ h', IsEnum h' (s.heap.objs.size + 1) s.heap.objs.size 0 .none → h'.get? s.heap.objs.size = some o → h'.objs.size = s.heap.objs.size + 2 →
      (∀ b o, s.heap.get? b = some o → h'.get? b = some o) → Q (.ref (s.heap.objs.size + 1)) { s with heap := h' }) :
    wpAny (model prog w) A (call (.type "enumerate") [v]) Q E s := by
  refine callType_new F.called_enumerate (by decide) (F.typeCall_enumerate_1 _) (F.newCall_enumerate_1 _) (fun obj => F.args_object_init_2 obj _) F.entry_enumerate_new
    (meets_enumerate_newB1 B) ⟨h1, ?_⟩
  have hz : (s.heap.push o).objs.size = s.heap.objs.size + 1 := Heap.size_push ..
  show _ ∧ _
  rw [hz]
  have he : IsEnum ((s.heap.push o).push { cls := .type "enumerate", data := .fields #[.none, .bool false, .ref s.heap.objs.size, rawInt 0, .none, .none] }) (s.heap.objs.size + 1) s.heap.objs.size 0 .none := by
    have := Heap.get?_push_size (s.heap.push o) (o := { cls := .type "enumerate", data := .fields #[.none, .bool false, .ref s.heap.objs.size, rawInt 0, .none, .none] }) rfl
    rw [hz] at this; exact this
  refine ⟨⟨_, he, rfl⟩, h _ he (Heap.get?_push_of_some _ (Heap.get?_push_size _ B.free)) (by rw [Heap.size_push, hz]) fun b o x => Heap.get?_push_of_some _ (Heap.get?_push_of_some _ x)⟩
end
end PySem
namespace K30
open PySem PySem.Spec PyProof.Rows L2 Evl
/-- the tuple at a, each item in a new pair -/
def IteT (K : PySem.W.Frag) (a : Addr) : It :=
  ⟨fun i H => ∃ (xs : List V) (x : V), SqT K H a xs ∧ xs[i]? = some x, fun i H v H' => ∃ T x, v = .ref T ∧ H T = none ∧ H' = upd H T (.tup [.int (i : Nat), x]) ∧ ∀ xs, SqT K H a xs → xs[i]? = some x, fun i H => ∃ xs : List V, SqT K H a xs ∧ xs.length ≤ i⟩
theorem turn_enumT {P : Program} {w : World} {K : PySem.W.Frag} {elts : List Expr} {kk : Nat} {tpos : Pos} (a e it : Addr) :
    Turn P w K (.Tuple elts kk tpos) (IteT K a) [e, it] e (fun i h => (∃ old, IsEnum h e it ((i : Nat) : Int) old) ∧ h.IsTupleIter it a i ∧ e ≠ it ∧ a ≠ it ∧ a ≠ e) where
  mem := by simp
  obj := fun i h st b hb => by
    obtain ⟨⟨old, he⟩, ⟨o, ho, hc, hd⟩, _⟩ := st
    have e' : b = e ∨ b = it := by simpa using hb
    rcases e' with z | z
    · rw [z]; exact ⟨_, he, fun v q => nomatch q⟩
    · rw [z]; exact ⟨o, ho, fun v q => by rw [hd] at q; cases q⟩
  keep := fun i h h' st k => let ⟨⟨old, he⟩, hi, hne⟩ := st; ⟨⟨old, k e (by simp) _ he⟩, hi.at fun o q => k it (by simp) o q, hne⟩
  item := by
    intro X hP hw hK hc i pins s σ H E I hf st hg
    subst hP hw hK
    obtain ⟨⟨old, he⟩, hit, hne, hai, hae⟩ := st
    obtain ⟨xs, x, hq, hx⟩ := hg
    obtain ⟨its, rv, p, hz⟩ := I.tuple hq
    obtain ⟨u, hu, ru⟩ := rv.get hx
    have hel : e < s.heap.objs.size := Heap.lt_size he
    have hil : it < s.heap.objs.size := by obtain ⟨_, q, _⟩ := hit; exact Heap.lt_size q
    have pt : s.heap.IsTuple a its.toArray := p
    have hi' : i < its.toArray.size := by
      have := (List.getElem?_eq_some_iff.mp hu).1
      simpa using this
    have D := Draws.tuple (prog := X.prog) (w := X.w) (A := X.A.in1) (I.ok.hd hc) it a hai its.toArray
    refine wpAny_pyNext_enum_itemC D he ⟨hit, pt⟩ hi' hne (by simp; exact ⟨hne, fun z => hae z.symm⟩) fun y h' tk hP ho hst' hT hsz hk => ?_
    have ey : y = u := by
      have : its.toArray[i]? = some y := hP
      have h2 : its[i]? = some y := by simpa using this
      rw [hu] at h2
      exact (Option.some.inj h2).symm
    subst ey
    refine ⟨_, rfl, wpAny_letOwnedTupleGo_enum (s := { s with heap := h', toks := tk + 1 }) ho fun h'' he' sb => ?_⟩
    have hT2 : h''.get? s.heap.objs.size = some { cls := .type "tuple", data := .seq #[.int i tk, y] } := (sb.2 _ (Nat.ne_of_gt hel)).trans hT
    have new : ObjOk X.prog X.w (upd H s.heap.objs.size (.tup [.int (i : Nat), x])) h'' s.heap.objs.size (.tup [.int (i : Nat), x]) :=
      ⟨by show 2 ≤ sizeLine; decide, [.int i tk, y], .cons ⟨_, rfl⟩ (.cons ru .nil), ⟨_, hT2, rfl, _, rfl⟩⟩
    have I1 : Inv X pins σ (upd H s.heap.objs.size (.tup [.int (i : Nat), x])) { s with heap := h'', toks := tk + 1 } :=
      I.turnedNew (ch := [e, it]) (fun b ob hb q => (sb.2 b (fun z => hb (by simp [z]))).trans (hk b ob (fun z => hb (by simp [z])) (fun z => hb (by simp [z])) q)) hf (Nat.le_refl _) new
    refine ⟨.ref s.heap.objs.size, _, I1, rfl, ⟨_, x, rfl, I.hok.fresh (Nat.le_refl _), rfl, fun ys hy => by rw [I.tuple_inj hy hq]; exact hx⟩, ⟨⟨y, ?_⟩, hst'.1.at fun o q => (sb.2 it (Ne.symm hne)).trans q, hne, hai, hae⟩, fun b hb => ?_⟩
    · have e1 : ((i + 1 : Nat) : Int) = (i : Int) + 1 := by omega
      rw [e1]; exact he'
    · have hb' : b < s.heap.objs.size := by
        have e' : b = e ∨ b = it := by simpa using hb
        rcases e' with z | z
        · rw [z]; exact hel
        · rw [z]; exact hil
      rw [upd_ne (Nat.ne_of_lt hb')]
      exact (hf b hb).1
  done := by
    intro X hP hw hK hc i pins s σ H E I hf st hg
    subst hP hw hK
    obtain ⟨⟨old, he⟩, hit, hne, hai, hae⟩ := st
    obtain ⟨xs, hq, hx⟩ := hg
    obtain ⟨its, rv, p, hz⟩ := I.tuple hq
    obtain ⟨f0, f1, f2, f3, f4, f5⟩ := hf it (by simp)
    have hl := rv.length
    have pt : s.heap.IsTuple a its.toArray := p
    have D' : Draws X.prog X.w X.A.in1 it [it, a] i (fun _ _ => False) (fun j h => j = i ∧ h.IsTupleIter it a i ∧ h.IsTuple a its.toArray) :=
      ⟨fun _ _ st => let ⟨o, ho, _⟩ := st.2.1; ⟨o, ho⟩, fun _ _ _ st hk => ⟨st.1, st.2.1.at fun o e => hk it (by simp) o e, st.2.2.at fun o e => hk a (by simp) o e⟩,
        fun j s Q E hj st hQ => absurd st.1 (Nat.ne_of_lt hj), fun s Q E st hE => PySem.wpAny_nextOf_tuple_end (I.ok.hd hc) st.2.1 st.2.2 (by simp; omega) hE⟩
    exact wpAny_pyNext_enum_endD D' he ⟨rfl, hit, pt⟩ fun h' eb => ⟨rfl, I.turned (t' := s.toks) (fun b o hb q => eb b o hb q) f0 f1 f3 f4 f5⟩
  self := fun A i s Q E st h => let ⟨⟨_, he⟩, _⟩ := st; wpAny_pyIter_enum he h
def iEnumT (K : PySem.W.Frag) (ta : TA) : TI := fun σ H R => ta σ H fun vs H1 => ∃ a xs, vs = [.ref a] ∧ ((SqL K H1 a xs ∧ R (Ite K a) H1) ∨ (SqT K H1 a xs ∧ R (IteT K a) H1))
theorem pi_enumT {X : Cx} {e : Expr} {ta : TA} {p pos tpos : Pos} {elts : List Expr} {kk : Nat} (hg : Gl X "enumerate") (hm : X.mg "enumerate" = none) (ha : PA X [e] ta) (hs : starEach [e] X.env = [(false, eval e X.env)] := by rfl) :
    PI X (.Tuple elts kk tpos) (.Call (.Name "enumerate" p) [e] [] pos) (iEnumT X.K ta) := by
  refine ⟨fun pins s σ H R I h => ?_⟩
  refine Call_ (ld_blt I hg hm boot_enumerate (PyProof.Rows.callWith_type1 (thn (ha.run pos pins s σ H _ I h) fun us s1 ⟨vs, H1, I1, r1, q1⟩ => ?_) hs rfl))
  obtain ⟨a, xs, ex, q⟩ := q1
  subst ex
  cases r1 with
  | cons r rr =>
    cases rr
    cases r
    rcases q with ⟨hq, q⟩ | ⟨hq, q⟩
    · obtain ⟨its, rv, p', hz⟩ := I1.list hq
      refine call_enumerate_list p'.isList fun h' he hit hsz hk => wpAny_pyIter_enum he ?_
      have I2 : Inv X pins σ H1 { s1 with heap := h' } := I1.kept (t' := s1.toks) hk
      refine ⟨s1.heap.objs.size + 1, [s1.heap.objs.size + 1, s1.heap.objs.size], _, _, H1, rfl, I2, turn_enum a (s1.heap.objs.size + 1) s1.heap.objs.size, ⟨⟨.none, he⟩, hit, Nat.succ_ne_self _⟩, fun b hb => ?_, q⟩
      have e' : b = s1.heap.objs.size + 1 ∨ b = s1.heap.objs.size := by simpa using hb
      have hle : s1.heap.objs.size ≤ b := by
        rcases e' with z | z
        · rw [z]; exact Nat.le_add_right _ _
        · rw [z]; exact Nat.le_refl _
      exact I1.fpOk hle (I1.hok.fresh hle)
    · obtain ⟨its, rv, p', hz⟩ := I1.tuple hq
      have pt : s1.heap.IsTuple a its.toArray := p'
      have ha' : a < s1.heap.objs.size := by obtain ⟨_, z, _⟩ := pt; exact Heap.lt_size z
      refine PySem.enum_begins1 (PySem.begins_tuple a its.toArray) pt fun h' he hit hsz hk => wpAny_pyIter_enum he ?_
      have I2 : Inv X pins σ H1 { s1 with heap := h' } := I1.kept (t' := s1.toks) hk
      refine ⟨s1.heap.objs.size + 1, [s1.heap.objs.size + 1, s1.heap.objs.size], _, _, H1, rfl, I2, turn_enumT a (s1.heap.objs.size + 1) s1.heap.objs.size, ⟨⟨.none, he⟩, ⟨_, hit, rfl, rfl⟩, Nat.succ_ne_self _, Nat.ne_of_lt ha', Nat.ne_of_lt (Nat.lt_succ_of_lt ha')⟩, fun b hb => ?_, q⟩
      have e' : b = s1.heap.objs.size + 1 ∨ b = s1.heap.objs.size := by simpa using hb
      have hle : s1.heap.objs.size ≤ b := by
        rcases e' with z | z
        · rw [z]; exact Nat.le_add_right _ _
        · rw [z]; exact Nat.le_refl _
      exact I1.fpOk hle (I1.hok.fresh hle)
theorem walk_enumT {K : PySem.W.Frag} {a : Addr} {xs : List V} : Walk (IteT K a) xs.length (fun H => SqT K H a xs) (YPair (fun i => some (.int (i : Nat))) (fun i => xs[i]?)) := by
  refine ⟨fun i _ hi q => ⟨xs, xs[i], q, by simp [hi]⟩, fun _ q => ⟨xs, q, Nat.le_refl _⟩, fun i H v H' _ q y => ?_⟩
  obtain ⟨T, x, h1, h2, h3, h4⟩ := y
  exact ⟨T, .int (i : Nat), x, h1, h2, h3, rfl, h4 xs q⟩
theorem walk_zipT {K : PySem.W.Frag} {a b : Addr} {xs ys : List V} {n : Nat} (hn : n = min xs.length ys.length) : Walk (RZ.ItzT K a b) n (fun H => SqT K H a xs ∧ SqT K H b ys) (YPair (fun i => xs[i]?) (fun i => ys[i]?)) := by
  subst hn
  refine ⟨fun i _ hi q => ?_, fun _ q => ⟨xs, ys, q.1, q.2, by omega⟩, fun i H v H' _ q y => ?_⟩
  · have h1 : i < xs.length := by omega
    have h2 : i < ys.length := by omega
    exact ⟨xs, ys, xs[i], ys[i], q.1, q.2, by simp [h1], by simp [h2]⟩
  · obtain ⟨T, x, z, h1, h2, h3, h4, h5⟩ := y
    exact ⟨T, x, z, h1, h2, h3, h4 xs q.1, h5 ys q.2⟩
/-! ### a loop over a list or a tuple -/
theorem PI.or {X : Cx} {tg iter : Expr} {a b : TI} (ha : PI X tg iter a) (hb : PI X tg iter b) : PI X tg iter (fun σ H R => a σ H R ∨ b σ H R) :=
  ⟨fun pins s σ H R I h => h.elim (ha.run pins s σ H R I) (hb.run pins s σ H R I)⟩
/-- a list or a tuple, whatever it is -/
def SqA (K : PySem.W.Frag) (H : Hp) (a : Addr) (xs : List V) : Prop := SqL K H a xs ∨ SqT K H a xs
theorem ex_a {K : PySem.W.Frag} {H H' : Hp} {a : Addr} {xs : List V} (e : Ex H H') (h : SqA K H a xs) : SqA K H' a xs := h.imp (ex_l e) (ex_t e)
/-- for over what a name holds: a list or a tuple -/
def iSeq (K : PySem.W.Frag) (tl : TE) : TI := fun σ H R => tl σ H fun x H1 => ∃ a xs, x = .ref a ∧ ((SqL K H1 a xs ∧ R (Itl K a) H1) ∨ (SqT K H1 a xs ∧ R (Itt K a) H1))
theorem pi_seq {X : Cx} {tg l : Expr} {tl : TE} (hl : PE X l tl) : PI X tg l (iSeq X.K tl) := by
  refine ⟨fun pins s σ H R I h => ?_⟩
  refine thn (hl.run pins s σ H _ I h) fun u s1 ⟨x, H1, I1, rx, a, xs, ex, q⟩ => ?_
  subst ex
  obtain rfl : u = Value.ref a := rx
  rcases q with ⟨hq, q⟩ | ⟨hq, q⟩
  · obtain ⟨its, rv, p, hz⟩ := I1.list hq
    refine wpAny_pyIter_list p.isList ?_
    have I2 : Inv X pins σ H1 { s1 with heap := s1.heap.push { cls := .type "list_iterator", data := .fields #[.ref a, .int 0 0] } } := I1.kept (t' := s1.toks) fun b ob q => Heap.get?_push_of_some _ q
    exact ⟨s1.heap.objs.size, [s1.heap.objs.size], _, _, H1, rfl, I2, turn_list a s1.heap.objs.size, ⟨_, Heap.get?_push_size _ rfl, rfl, rfl⟩, fun b hb => by
      rw [List.mem_singleton.mp hb]; exact I1.fpOk (Nat.le_refl _) (I1.hok.fresh (Nat.le_refl _)), q⟩
  · obtain ⟨its, rv, p, hz⟩ := I1.tuple hq
    have pt : s1.heap.IsTuple a its.toArray := p
    refine wpAny_pyIter_tuple pt ?_
    have I2 : Inv X pins σ H1 { s1 with heap := s1.heap.push { cls := .type "tuple_iterator", data := .fields #[.ref a, .int 0 0] } } := I1.kept (t' := s1.toks) fun b ob q => Heap.get?_push_of_some _ q
    exact ⟨s1.heap.objs.size, [s1.heap.objs.size], _, _, H1, rfl, I2, turn_tuple a s1.heap.objs.size, ⟨_, Heap.get?_push_size _ rfl, rfl, rfl⟩, fun b hb => by
      rw [List.mem_singleton.mp hb]; exact I1.fpOk (Nat.le_refl _) (I1.hok.fresh (Nat.le_refl _)), q⟩
end K30
namespace K30
open PySem PySem.Spec PyProof.Rows L2 Evl
/-- what a source gives: n turns, each YY; G stands where H0 is extended -/
def Src (wi : TI) (σ : L2.St) (H0 H : Hp) (n : Nat) (YY : Nat → V → Hp → Prop) : Prop :=
  ∀ H1, Ex H H1 → ∀ R : It → Hp → Prop, (∀ J H2 Y G, Ex H1 H2 → Walk J n G Y → (∀ H3, Ex H0 H3 → G H3) → (∀ i H3 x H4, i < n → Ex H0 H3 → Y i H3 x H4 → Ex H3 H4 ∧ YY i x H4) → R J H2) → wi σ H1 R
section
variable {K : PySem.W.Frag} {σ : L2.St} {H0 H H' : Hp} {ta tb te tx tl : TE} {tA : TA} {t u tt : TT} {x y z v : V} {D : Ends} {tu tw tz : TS} {g : TG} {wi : TI} {n : Nat} {YY : Nat → V → Hp → Prop} {vs : List Nat}
theorem src_seq {a : Addr} {xs : List V} (h : Ev tl σ H (.ref a)) (e0 : Ex H0 H) (hx : SqA K H0 a xs) : Src (iSeq K tl) σ H0 H xs.length fun i x _ => xs[i]? = some x := fun H1 e1 R r =>
  h H1 e1 _ fun H2 e2 => by
    refine ⟨a, xs, rfl, ?_⟩
    rcases hx with hx | hx
    · exact .inl ⟨ex_l (e0.trans (e1.trans e2)) hx, r _ _ _ _ e2 (walk_list (xs := xs)) (fun H3 e3 => ex_l e3 hx) fun i H3 x H4 _ _ q => ⟨by rw [q.1]; exact Ex.refl _, q.2⟩⟩
    · exact .inr ⟨ex_t (e0.trans (e1.trans e2)) hx, r _ _ _ _ e2 (walk_tup (xs := xs)) (fun H3 e3 => ex_t e3 hx) fun i H3 x H4 _ _ q => ⟨by rw [q.1]; exact Ex.refl _, q.2⟩⟩
theorem src_list {a : Addr} {xs : List V} (h : Ev tl σ H (.ref a)) (e0 : Ex H0 H) (hx : SqL K H0 a xs) : Src (iList K tl) σ H0 H xs.length fun i x _ => xs[i]? = some x := fun H1 e1 R r =>
  h H1 e1 _ fun H2 e2 => ⟨a, rfl, ⟨xs, ex_l (e0.trans (e1.trans e2)) hx⟩, r _ _ _ _ e2 (walk_list (xs := xs)) (fun H3 e3 => ex_l e3 hx) fun i H3 x H4 _ _ q => ⟨by rw [q.1]; exact Ex.refl _, q.2⟩⟩
theorem src_tup {a : Addr} {xs : List V} (h : Ev tl σ H (.ref a)) (e0 : Ex H0 H) (hx : SqT K H0 a xs) : Src (iTup K tl) σ H0 H xs.length fun i x _ => xs[i]? = some x := fun H1 e1 R r =>
  h H1 e1 _ fun H2 e2 => ⟨a, rfl, ⟨xs, ex_t (e0.trans (e1.trans e2)) hx⟩, r _ _ _ _ e2 (walk_tup (xs := xs)) (fun H3 e3 => ex_t e3 hx) fun i H3 x H4 _ _ q => ⟨by rw [q.1]; exact Ex.refl _, q.2⟩⟩
theorem src_enum {a : Addr} {xs : List V} (h : EvA tA σ H [.ref a]) (e0 : Ex H0 H) (hx : SqA K H0 a xs) :
    Src (iEnumT K tA) σ H0 H xs.length fun i x H4 => ∃ T y, x = .ref T ∧ H4 T = some (.tup [.int (i : Nat), y]) ∧ xs[i]? = some y := fun H1 e1 R r =>
  h H1 e1 _ fun H2 e2 => by
    refine ⟨a, xs, rfl, ?_⟩
    rcases hx with hx | hx
    · refine .inl ⟨ex_l (e0.trans (e1.trans e2)) hx, r _ _ _ _ e2 (walk_enum (xs := xs)) (fun H3 e3 => ex_l e3 hx) fun i H3 x H4 _ _ q => ?_⟩
      obtain ⟨T, p, q, rfl, hT, rfl, h1, h2⟩ := q
      cases h1
      exact ⟨Ex.new hT, T, q, rfl, upd_same, h2⟩
    · refine .inr ⟨ex_t (e0.trans (e1.trans e2)) hx, r _ _ _ _ e2 (walk_enumT (xs := xs)) (fun H3 e3 => ex_t e3 hx) fun i H3 x H4 _ _ q => ?_⟩
      obtain ⟨T, p, q, rfl, hT, rfl, h1, h2⟩ := q
      cases h1
      exact ⟨Ex.new hT, T, q, rfl, upd_same, h2⟩
theorem src_zip {a b : Addr} {xs ys : List V} (h : EvA tA σ H [.ref a, .ref b]) (e0 : Ex H0 H) (hx : SqT K H0 a xs) (hy : SqT K H0 b ys) :
    Src (RZ.iZipA K tA) σ H0 H (min xs.length ys.length) fun i x H4 => ∃ T p q, x = .ref T ∧ H4 T = some (.tup [p, q]) ∧ xs[i]? = some p ∧ ys[i]? = some q := fun H1 e1 R r =>
  h H1 e1 _ fun H2 e2 => by
    refine ⟨a, b, xs, ys, rfl, .inr ⟨ex_t (e0.trans (e1.trans e2)) hx, ex_t (e0.trans (e1.trans e2)) hy, ?_⟩⟩
    refine r _ _ _ _ e2 (walk_zipT (xs := xs) (ys := ys) rfl) (fun H3 e3 => ⟨ex_t e3 hx, ex_t e3 hy⟩) fun i H3 x H4 _ _ q => ?_
    obtain ⟨T, p, q, rfl, hT, rfl, h1, h2⟩ := q
    exact ⟨Ex.new hT, T, p, q, rfl, upd_same, h1, h2⟩
theorem src_r1 {m : Int} (h : EvA tA σ H [.int m]) (hm : 0 ≤ m ∧ m ≤ 1000000) : Src (iRng1 tA) σ H0 H m.toNat fun i x _ => x = .int (i : Nat) := fun H1 e1 R r =>
  h H1 e1 _ fun H2 e2 => ⟨m, rfl, by omega, by omega, r _ _ _ _ e2 walk_range (fun _ _ => trivial) fun i H3 x H4 _ _ q => ⟨by rw [q.1]; exact Ex.refl _, q.2.trans (by show V.int (0 + (i : Int)) = _; rw [Int.zero_add])⟩⟩
theorem src_r2 {l m : Int} (h : EvA tA σ H [.int l, .int m]) (hl : 0 ≤ l ∧ l ≤ 1000000) (hm : 0 ≤ m ∧ m ≤ 1000000) : Src (iRng2 tA) σ H0 H (m - l).toNat fun i x _ => x = .int (l + (i : Nat)) := fun H1 e1 R r =>
  h H1 e1 _ fun H2 e2 => ⟨l, m, rfl, by omega, r _ _ _ _ e2 walk_range (fun _ _ => trivial) fun i H3 x H4 _ _ q => ⟨by rw [q.1]; exact Ex.refl _, q.2⟩⟩
/-- a comprehension -/
theorem el_lcW (src : Src wi σ H H n YY) (hn : n ≤ 40000) (f : Nat → Bool) (w : Nat → V)
    (hs : ∀ i x H1, Ex H H1 → i < n → YY i x H1 → ∀ Q : L2.St → Hp → Prop, (∀ σ2, wipe σ2 vs = wipe σ vs → EvT tt σ2 H1 (f i) → (f i = true → Ev te σ2 H1 (w i)) → Q σ2 H1) → g x (wipe σ vs) H1 Q) :
    EvL (tLc wi g tt te vs) σ H (given n f w) := fun H1 e1 Q q => src H1 e1 _ fun J H2 Y G e2 W hG hY Dl hD => by
  refine lc_it W (fun i H' => Ex H2 H' ∧ H' Dl = some (.lst (given i f w))) ⟨Ex.new hD, upd_same⟩ (fun i H' _ p => hG _ ((e1.trans e2).trans p.1)) ?_ (fun H' p => q Dl H' (fresh_back e2 hD) (e2.trans p.1) p.2)
  intro i x H3 H4 hi p hy
  obtain ⟨e3, yy⟩ := hY i H3 x H4 hi ((e1.trans e2).trans p.1) hy
  refine hs i x H4 ((e1.trans e2).trans (p.1.trans e3)) hi yy _ fun σ2 hw ht he => ⟨hw, ht H4 (Ex.refl _) _ fun H5 e5 => ?_⟩
  have k5 := e5 _ _ (e3 _ _ p.2)
  cases hf : f i with
  | true =>
    rw [if_pos rfl]
    refine he hf H5 e5 _ fun H6 e6 => ⟨_, e6 _ _ k5, ?_, ?_, ?_⟩
    · have := given_len i f w
      exact sz_lt (by omega)
    · exact ((p.1.trans e3).trans (e5.trans e6)).mut hD
    · rw [upd_same, given_yes hf]
  | false =>
    rw [if_neg Bool.false_ne_true]
    exact ⟨(p.1.trans e3).trans e5, by rw [given_no hf]; exact k5⟩
theorem given_all {n : Nat} {w : Nat → V} : given n (fun _ => true) w = (List.range n).map w := by
  unfold given
  rw [List.filter_eq_self.mpr (fun _ _ => rfl)]
/-- a for -/
theorem s_forW (src : Src wi σ H0 H n YY) (Pv : Nat → L2.St → Hp → Prop) (h0 : ∀ H1, Ex H H1 → Pv 0 σ H1) (hl : ∀ i σ' H', i ≤ n → Pv i σ' H' → Ex H0 H')
    (hs : ∀ i x σ' H1 H2, i < n → Pv i σ' H1 → Ex H1 H2 → YY i x H2 → g x σ' H2 fun σ2 H3 => tu { D with nx := Pv (i + 1), ct := Pv (i + 1), bk := D.nx } σ2 H3) (hd : ∀ σ' H', Pv n σ' H' → D.nx σ' H') :
    tFor wi g tu D σ H := src H (Ex.refl _) _ fun J H2 Y G e2 W hG hY =>
  for_it W Pv (h0 _ e2) (fun i σ' H' hi p => hG _ (hl i σ' H' hi p)) (fun i x σ' H3 H4 hi p hy => by
    obtain ⟨e3, yy⟩ := hY i H3 x H4 hi (hl i σ' H3 (Nat.le_of_lt hi) p) hy
    exact hs i x σ' H3 H4 hi p e3 yy) hd
theorem q_forW (src : Src wi σ H0 H n YY) (Pv : Nat → L2.St → Hp → Prop) (h0 : ∀ H1, Ex H H1 → Pv 0 σ H1) (hl : ∀ i σ' H', i ≤ n → Pv i σ' H' → Ex H0 H')
    (hs : ∀ i x σ' H1 H2, i < n → Pv i σ' H1 → Ex H1 H2 → YY i x H2 → g x σ' H2 fun σ2 H3 => tu { D with nx := Pv (i + 1), ct := Pv (i + 1), bk := tz D } σ2 H3) (hd : ∀ σ' H', Pv n σ' H' → tz D σ' H') :
    tSeq (tFor wi g tu) tz D σ H := s_forW (D := { D with nx := tz D }) src Pv h0 hl hs hd
/-- targets -/
theorem g_pair {i j : Nat} {T : Addr} {p q : V} {Q : L2.St → Hp → Prop} (hT : H T = some (.tup [p, q])) (h : Q ((σ.set i (some p)).set j (some q)) H) : gTup K 2 (gCons (gName i) (gCons (gName j) gNil)) (.ref T) σ H Q :=
  ⟨T, [p, q], rfl, st_of hT, rfl, p, [q], rfl, q, [], rfl, rfl, h⟩
/-- i, (j, k) -/
theorem g_1p {i j k : Nat} {T U : Addr} {p q r : V} {Q : L2.St → Hp → Prop} (hT : H T = some (.tup [p, .ref U])) (hU : SqT K H U [q, r]) (h : Q (((σ.set i (some p)).set j (some q)).set k (some r)) H) :
    gTup K 2 (gCons (gName i) (gCons (gTup K 2 (gCons (gName j) (gCons (gName k) gNil))) gNil)) (.ref T) σ H Q :=
  ⟨T, _, rfl, st_of hT, rfl, p, _, rfl, _, [], rfl, ⟨U, [q, r], rfl, hU, rfl, q, [r], rfl, r, [], rfl, rfl, rfl, h⟩⟩
/-- (i, j), k -/
theorem g_p1 {i j k : Nat} {T U : Addr} {p q r : V} {Q : L2.St → Hp → Prop} (hT : H T = some (.tup [.ref U, p])) (hU : SqT K H U [q, r]) (h : Q (((σ.set i (some q)).set j (some r)).set k (some p)) H) :
    gTup K 2 (gCons (gTup K 2 (gCons (gName i) (gCons (gName j) gNil))) (gCons (gName k) gNil)) (.ref T) σ H Q :=
  ⟨T, _, rfl, st_of hT, rfl, _, _, rfl, ⟨U, [q, r], rfl, hU, rfl, q, [r], rfl, r, [], rfl, rfl, p, [], rfl, rfl, h⟩⟩
/-! ### values -/
theorem ev_fld {a C dx : Addr} {fs : List (Str × V)} {f : Str} (h : Ev ta σ H (.ref a)) (ha : H a = some (.ins C dx fs)) (c : Cls K C) (na : NoAttr K C f) (hl : fs.lookup f = some v) : Ev (tFld K ta f) σ H v := fun H1 e1 Q q =>
  h H1 e1 _ fun H2 e2 => ⟨a, C, dx, fs, v, rfl, e2 _ _ (e1 _ _ ha), c, na, hl, q H2 e2⟩
theorem ev_dget {d : Addr} {kvs : List (Key × V)} {k : Key} (hd : Ev ta σ H (.ref d)) (hy : Ev tb σ H (kV k)) (h : H d = some (.dK kvs)) (hv : valV kvs k = some v) : Ev (tDGet ta tb) σ H v := fun H1 e1 Q q =>
  hd H1 e1 _ fun H2 e2 => hy H2 (e1.trans e2) _ fun H3 e3 => ⟨d, v, rfl, by rw [← hv]; exact DGet.k (((e1.trans e2).trans e3) _ _ h), q H3 (e2.trans e3)⟩
theorem ev_din {d : Addr} {kvs : List (Key × V)} {k : Key} (hy : Ev tb σ H (kV k)) (hd : Ev ta σ H (.ref d)) (h : H d = some (.dK kvs)) : Ev (tDIn tb ta) σ H (.bl (valV kvs k).isSome) := fun H1 e1 Q q =>
  hy H1 e1 _ fun H2 e2 => hd H2 (e1.trans e2) _ fun H3 e3 => ⟨d, _, rfl, DGet.k (((e1.trans e2).trans e3) _ _ h), q H3 (e2.trans e3)⟩
theorem ev_dnotin {d : Addr} {kvs : List (Key × V)} {k : Key} (hy : Ev tb σ H (kV k)) (hd : Ev ta σ H (.ref d)) (h : H d = some (.dK kvs)) : Ev (tDNotIn tb ta) σ H (.bl (!(valV kvs k).isSome)) := fun H1 e1 Q q =>
  hy H1 e1 _ fun H2 e2 => hd H2 (e1.trans e2) _ fun H3 e3 => ⟨d, _, rfl, DGet.k (((e1.trans e2).trans e3) _ _ h), q H3 (e2.trans e3)⟩
theorem ev_all {bs : List Bool} (h : EvL tl σ H (bs.map V.bl)) : Ev (tCB (rAll K) (tCons tl tNil)) σ H (.bl (bs.all id)) := fun H1 e1 Q q =>
  h H1 e1 _ fun p H2 _ e2 h2 => ⟨p, bs, rfl, sq_of h2, q H2 e2⟩
theorem ev_sum {ns : List Int} (h : EvL tl σ H (ns.map V.int)) : Ev (tCB (rSum K) (tCons tl tNil)) σ H (.int ns.sum) := fun H1 e1 Q q =>
  h H1 e1 _ fun p H2 _ e2 h2 => ⟨p, ns, rfl, sq_of h2, q H2 e2⟩
def rTupS (K : PySem.W.Frag) : List V → Hp → VK → Prop := fun xs H Q => ∃ p ys, xs = [.ref p] ∧ ((SqL K H p ys ∧ ∀ l, H l = none → Q (.ref l) (upd H l (.tup ys))) ∨ (SqT K H p ys ∧ Q (.ref p) H))
theorem eu_tupN {xs : List V} (h : EvL tl σ H xs) : EvU (tCB (rTupS K) (tCons tl tNil)) σ H xs := fun H1 e1 Q q =>
  h H1 e1 _ fun p H2 hp e2 h2 => ⟨p, xs, rfl, .inl ⟨sq_of h2, fun l hl => q l _ (fresh_back e2 hl) (e2.trans (Ex.new hl)) upd_same⟩⟩
theorem ev_tupT {a : Addr} {xs : List V} (h : Ev tl σ H (.ref a)) (hx : SqT K H a xs) : Ev (tCB (rTupS K) (tCons tl tNil)) σ H (.ref a) := fun H1 e1 Q q =>
  h H1 e1 _ fun H2 e2 => ⟨a, xs, rfl, .inr ⟨ex_t (e1.trans e2) hx, q H2 e2⟩⟩
theorem ev_lenA {a : Addr} {xs : List V} (h : Ev tl σ H (.ref a)) (hx : SqA K H a xs) : Ev (tCB (rLenS K) (tCons tl tNil)) σ H (.int (xs.length : Int)) := fun H1 e1 Q q =>
  h H1 e1 _ fun H2 e2 => ⟨a, xs, rfl, ex_a (e1.trans e2) hx, q H2 e2⟩
theorem ev_cmpI {g : Int → Int → V} {i j : Int} (ha : Ev ta σ H (.int i)) (hb : Ev tb σ H (.int j)) : Ev (tOp (rI0 g) ta tb) σ H (g i j) := ev_op ha hb rv_I0
theorem ev_ixT {a : Addr} {xs : List V} {i : Nat} (ha : Ev ta σ H (.ref a)) (hb : Ev tb σ H (.int (i : Nat))) (hx : SqT K H a xs) (hi : xs[i]? = some v) : Ev (tOp (rIxT K) ta tb) σ H v := ev_op ha hb (rv_ixT hx (atI_nat hi))
theorem ev_ixL {a : Addr} {xs : List V} {i : Nat} (ha : Ev ta σ H (.ref a)) (hb : Ev tb σ H (.int (i : Nat))) (hx : SqL K H a xs) (hi : xs[i]? = some v) : Ev (tOp (rIxL K) ta tb) σ H v := ev_op ha hb (rv_ixL hx (atI_nat hi))
/-- a call whose promise says a value, and that raises nothing -/
theorem SpV.call {sp : Sp} {E : XK} {vs : List V} (h : EvA tA σ H vs) (hs : SpV sp vs H z) : Ev (tCall sp [] E tA) σ H z := ev_call h (by rw [List.append_nil]; exact hs)
theorem SpL.call {sp : Sp} {E : XK} {vs xs : List V} (h : EvA tA σ H vs) (hs : SpL sp vs H xs) : EvL (tCall sp [] E tA) σ H xs := el_call h (by rw [List.append_nil]; exact hs)
def SpU (sp : Sp) (vs : List V) (H : Hp) (xs : List V) : Prop := ∀ H1, Ex H H1 → ∀ Q : VK, (∀ p H2, H1 p = none → Ex H1 H2 → H2 p = some (.tup xs) → Q (.ref p) H2) → ∀ E : XK, sp vs H1 Q E
theorem SpU.call {sp : Sp} {E : XK} {vs xs : List V} (h : EvA tA σ H vs) (hs : SpU sp vs H xs) : EvU (tCall sp [] E tA) σ H xs := fun H1 e Q q =>
  h H1 e _ fun H2 e2 => by
    show sp (vs ++ []) H2 Q E
    rw [List.append_nil]
    exact hs H2 (e.trans e2) _ (fun p H3 hp e3 h3 => q p H3 (fresh_back e2 hp) (e2.trans e3) h3) E
theorem EvU.mono {xs : List V} (e : Ex H H') (h : EvU te σ H xs) : EvU te σ H' xs := fun H1 a Q q => h H1 (e.trans a) Q q
/-! ### statements -/
theorem q_set {i : Nat} (h : Ev te σ H v) (k : ∀ H1, Ex H H1 → tz D (σ.set i (some v)) H1) : tSeq (tAsg te (gName i)) tz D σ H := q_asg h k
/-- name = xs.pop() -/
theorem q_pop {i : Nat} {l : Addr} {xs : List V} (hl : H l = some (.lst (xs ++ [v]))) (ha : Ev ta σ H (.ref l)) (k : ∀ H1, Ex H H1 → tz D (σ.set i (some v)) (upd H1 l (.lst xs))) : tSeq (tAsg (tBM0 K "list" rPop ta) (gName i)) tz D σ H :=
  ha H (Ex.refl H) _ fun H1 e1 => ⟨Or.inl ⟨rfl, _, sq_of (e1 l _ hl)⟩, l, xs ++ [v], v, rfl, rfl, e1 l _ hl, by simp, by rw [List.dropLast_concat]; exact k H1 e1⟩
theorem s_dput {d : Addr} {kvs : List (Key × V)} {k : Key} (hv : Ev te σ H v) (hd : Ev ta σ H (.ref d)) (hy : Ev tb σ H (kV k)) (h : H d = some (.dK kvs)) (hz : kvs.length < 100000)
    (c : ∀ H1, Ex H H1 → D.nx σ (upd H1 d (.dK (putK kvs k v)))) : sDPut ta tb te D σ H :=
  hv H (Ex.refl H) _ fun H1 e1 => hd H1 e1 _ fun H2 e2 => hy H2 (e1.trans e2) _ fun H3 e3 => ⟨d, _, rfl, DPut.k (((e1.trans e2).trans e3) _ _ h) (sz_lt hz), c H3 ((e1.trans e2).trans e3)⟩
theorem q_dput {d : Addr} {kvs : List (Key × V)} {k : Key} (hv : Ev te σ H v) (hd : Ev ta σ H (.ref d)) (hy : Ev tb σ H (kV k)) (h : H d = some (.dK kvs)) (hz : kvs.length < 100000)
    (c : ∀ H1, Ex H H1 → tz D σ (upd H1 d (.dK (putK kvs k v)))) : tSeq (sDPut ta tb te) tz D σ H := s_dput (D := { D with nx := tz D }) hv hd hy h hz c
/-- a, b = a pair -/
theorem q_two {i j : Nat} {T : Addr} {p q : V} (h : Ev te σ H (.ref T)) (hT : SqT K H T [p, q]) (k : ∀ H1, Ex H H1 → tz D ((σ.set i (some p)).set j (some q)) H1) :
    tSeq (tAsg te (gTup K 2 (gCons (gName i) (gCons (gName j) gNil)))) tz D σ H :=
  h H (Ex.refl H) _ fun H1 e1 => ⟨T, [p, q], rfl, ex_t e1 hT, rfl, p, [q], rfl, q, [], rfl, rfl, k H1 e1⟩
/-! ### rules by K -/
section
variable {X : Cx} {K : PySem.W.Frag}
theorem bix_tup (h : X.K = K) : IxR X (rIxT K) := h ▸ ix_tup
theorem bix_list (h : X.K = K) : IxR X (rIxL K) := h ▸ ix_list
theorem bsl_tup (h : X.K = K) : SlR X (rSlA K) := h ▸ sl_tupA
theorem bsl_list (h : X.K = K) : SlR X (rSlL K) := h ▸ sl_list
theorem bcat (h : X.K = K) : OpR X (binaryOp .Add) (rCatA K) := h ▸ op_catA
theorem bin_seq (h : X.K = K) : OpR X (compareOp .In) (rIn K false) := h ▸ op_in_seq
theorem bnotin_seq (h : X.K = K) : OpR X (compareOp .NotIn) (rIn K true) := h ▸ op_notIn_seq
theorem beqD (h : X.K = K) (hu : X.A.units + 64 < cLine) : OpR X (compareOp .Eq) (rEqD K) := h ▸ op_eqD hu
theorem bneD (h : X.K = K) (hu : X.A.units + 64 < cLine) : OpR X (compareOp .NotEq) (rNeD K) := h ▸ op_neD hu
theorem bc_len (h : X.K = K) : CallR X (.builtin "len") (rLenS K) := h ▸ call_len_seq
theorem bc_list (h : X.K = K) : CallR X (.type "list") (rListS K) := h ▸ call_list_of
theorem bc_tup (h : X.K = K) : CallR X (.type "tuple") (rTupS K) := h ▸ call_tuple_of
theorem bc_all (h : X.K = K) (hc : X.calm = true) : CallR X (.builtin "all") (rAll K) := h ▸ cr_all hc
theorem bc_sum (h : X.K = K) (hc : X.calm = true) : CallR X (.builtin "sum") (rSum K) := h ▸ cr_sum hc
theorem bc_sorted (h : X.K = K) : CallR X (.builtin "sorted") (rSortedI K) := h ▸ cr_sortedI
theorem bpe_fld {e : Expr} {f : Str} {ta : TE} {pos : Pos} (h : X.K = K) (he : PE X e ta) (hb : attributeBase e f X.env (eval e X.env) = eval e X.env) : PE X (.Attribute e f pos) (tFld K ta f) := h ▸ pe_fld he hb
end
end
end K30
namespace K30
open PySem PySem.Spec PyProof.Rows L2 Evl K30M
theorem Df.mono {P : Program} {w : World} {K : PySem.W.Frag} {mg : Str → Option Value} {base : Heap} {j k : Nat} {x : Str} {ps : List Str} {sp : Sp} (D : Df P w K mg base j x ps sp) (h : j ≤ k) : Df P w K mg base k x ps sp := by
  obtain ⟨f, fd, g, kp, b, F, lk⟩ := D.ex
  exact ⟨f, fd, g, kp, b, F.mono h, lk⟩
/-! ### pairs, ties, webs -/
def PairAt (H : Hp) (r : Addr) (p : Nat × Nat) : Prop := H r = some (.tup [.int p.1, .int p.2])
structure TiesAt (H : Hp) (tt : Addr) (rs : List Addr) (T : Ties) : Prop where
  at_ : H tt = some (.tup (rs.map V.ref))
  len : rs.length = T.length
  pair : ∀ (i : Nat) r p, rs[i]? = some r → T[i]? = some p → PairAt H r p
theorem TiesAt.ex {H H' : Hp} {tt : Addr} {rs : List Addr} {T : Ties} (t : TiesAt H tt rs T) (e : Ex H H') : TiesAt H' tt rs T := ⟨e _ _ t.at_, t.len, fun i r p a b => e _ _ (t.pair i r p a b)⟩
theorem TiesAt.get {H : Hp} {tt : Addr} {rs : List Addr} {T : Ties} (t : TiesAt H tt rs T) {i : Nat} {p : Nat × Nat} (h : T[i]? = some p) : ∃ r, (rs.map V.ref)[i]? = some (.ref r) ∧ PairAt H r p := by
  have hi := (List.getElem?_eq_some_iff.mp h).1
  have hr : i < rs.length := by rw [t.len]; exact hi
  have h2 : rs[i]? = some rs[i] := List.getElem?_eq_getElem hr
  exact ⟨rs[i], by rw [List.getElem?_map, h2]; rfl, t.pair i _ p h2 h⟩
theorem TiesAt.back {H : Hp} {tt : Addr} {rs : List Addr} {T : Ties} (t : TiesAt H tt rs T) {i : Nat} {v : V} (h : (rs.map V.ref)[i]? = some v) : ∃ r p, v = .ref r ∧ T[i]? = some p ∧ PairAt H r p := by
  rw [List.getElem?_map] at h
  cases hr : rs[i]? with
  | none => rw [hr] at h; cases h
  | some r =>
    rw [hr] at h
    cases h
    have hi : i < T.length := by
      rw [← t.len]
      exact (List.getElem?_eq_some_iff.mp hr).1
    exact ⟨r, T[i], rfl, List.getElem?_eq_getElem hi, t.pair i r _ hr (List.getElem?_eq_getElem hi)⟩
structure Good (n : Nat) (T : Ties) : Prop where
  n1 : 1 ≤ n
  n12 : n ≤ 12
  t20 : T.length ≤ 20
  ends : Ends n T
  un : ∀ p ∈ T, p.1 ≠ p.2
theorem Good.get {n : Nat} {T : Ties} (g : Good n T) {i : Nat} {p : Nat × Nat} (h : T[i]? = some p) : p.1 < n ∧ p.2 < n ∧ p.1 ≠ p.2 :=
  ⟨(g.ends p (List.mem_of_getElem? h)).1, (g.ends p (List.mem_of_getElem? h)).2, g.un p (List.mem_of_getElem? h)⟩
structure WebAt (K : PySem.W.Frag) (H : Hp) (x : Addr) (n : Nat) (T : Ties) : Prop where
  ex : ∃ dx tt rs, H x = some (.ins (He.ga K "Web") dx [("ties", .ref tt), ("houses", .int (n : Int))]) ∧ TiesAt H tt rs T
  good : Good n T
theorem WebAt.mono {K : PySem.W.Frag} {H H' : Hp} {x : Addr} {n : Nat} {T : Ties} (w : WebAt K H x n T) (e : Ex H H') : WebAt K H' x n T := by
  obtain ⟨⟨dx, tt, rs, h, t⟩, g⟩ := w
  exact ⟨⟨dx, tt, rs, e _ _ h, t.ex e⟩, g⟩
theorem map_getD (xs : List V) : (List.range xs.length).map (fun i => xs.getD i .non) = xs := by
  apply List.ext_getElem?
  intro i
  rw [List.getElem?_map]
  by_cases hi : i < xs.length
  · rw [List.getElem?_range hi, List.getElem?_eq_getElem hi]
    simp only [Option.map_some, List.getD_eq_getElem?_getD, List.getElem?_eq_getElem hi, Option.getD_some]
  · rw [List.getElem?_eq_none (by simpa using hi), List.getElem?_eq_none (by simpa using hi)]
    rfl
/-! ### promises -/
def spIsPair : Sp := fun vs H Q _ => ∃ (r : Addr) (p : Nat × Nat) (n : Nat), vs = [.ref r, .int (n : Int)] ∧ PairAt H r p ∧ p.1 < n ∧ p.2 < n ∧ p.1 ≠ p.2 ∧ ∀ H2, Ex H H2 → Q (.bl true) H2
def spCheckTies : Sp := fun vs H Q _ => ∃ (n : Nat) (tt : Addr) (rs : List Addr) (T : Ties), vs = [.int (n : Int), .ref tt] ∧ TiesAt H tt rs T ∧ Good n T ∧ ∀ p H2, H p = none → Ex H H2 → TiesAt H2 p rs T → Q (.ref p) H2
theorem sv_is_sequence {H : Hp} {v : V} {b : Bool} (h : SqV H v b) : SpV spIsSequence [v] H (.bl b) := fun H1 e1 Q q E => ⟨v, b, rfl, h.ex e1, q⟩
theorem sv_is_below {H : Hp} {v : V} {m : Int} (h : Sc v) : SpV spIsBelow [v, .int m] H (.bl (isB m v)) := fun H1 e1 Q q E => ⟨v, m, rfl, h, q H1 (Ex.refl _)⟩
theorem sv_is_integer {H : Hp} {v : V} (h : Sc v) : SpV spIsInteger [v] H (.bl (isI v)) := fun H1 e1 Q q E => ⟨v, rfl, h, q H1 (Ex.refl _)⟩
theorem sv_is_within {H : Hp} {i l m : Int} : SpV spIsWithin [.int i, .int l, .int m] H (.bl (decide (l ≤ i) && decide (i ≤ m))) := fun H1 e1 Q q E => ⟨i, l, m, rfl, q H1 (Ex.refl _)⟩
theorem sv_is_pair {H : Hp} {r : Addr} {p : Nat × Nat} {n : Nat} (h : PairAt H r p) (h1 : p.1 < n) (h2 : p.2 < n) (h3 : p.1 ≠ p.2) : SpV spIsPair [.ref r, .int (n : Int)] H (.bl true) := fun H1 e1 Q q E => ⟨r, p, n, rfl, e1 _ _ h, h1, h2, h3, q⟩
section
variable {P : Program} {w : World} {K : PySem.W.Frag} {mg : Str → Option Value} {base : Heap}
theorem k_is_integer (T : Txt K mg base) : Df P w K mg base 1 "is_integer" ["value"] spIsInteger := ok_is_integer T
theorem k_is_number (T : Txt K mg base) : Df P w K mg base 2 "is_number" ["value"] spIsNumber := ok_is_number T (k_is_integer T)
theorem k_is_below (T : Txt K mg base) : Df P w K mg base 3 "is_below" ["value", "most"] spIsBelow := ok_is_below T (k_is_number T)
theorem k_is_within (T : Txt K mg base) : Df P w K mg base 2 "is_within" ["value", "least", "most"] spIsWithin := ok_is_within T (k_is_integer T)
theorem k_is_sequence (T : Txt K mg base) : Df P w K mg base 1 "is_sequence" ["value"] spIsSequence := ok_is_sequence T
theorem isB_lt {a n : Nat} (h : a < n) : isB (n : Int) (.int (a : Int)) = true := by
  show (decide ((0 : Int) ≤ (a : Int)) && decide ((a : Int) < (n : Int))) = true
  rw [decide_eq_true (by omega : (0 : Int) ≤ (a : Int)), decide_eq_true (by omega : (a : Int) < (n : Int))]
  rfl
theorem sc_is_pair : FnScope ["value", "houses", "house"] ["value", "houses"] (defScope (top 16)) := ⟨rfl, rfl, rfl, by decide +kernel, rfl, by decide +kernel, by decide +kernel⟩
theorem k_is_pair (T : Txt K mg base) : Df P w K mg base 4 "is_pair" ["value", "houses"] spIsPair := by
  obtain ⟨fd, F⟩ := T.d_is_pair
  have D_is_sequence := (k_is_sequence (P := P) (w := w) T).mono (show 1 ≤ 3 by decide)
  have D_is_below := (k_is_below (P := P) (w := w) T).mono (show 3 ≤ 3 by decide)
  refine Df.mk1 (i := 16) T.g_is_pair F (fun _ _ _ _ _ _ us hl => match us, hl with | [_, _], _ => rfl) (F.ok sc_is_pair (fun vs H Q E h => ?_) (fun cdv A outer s H vs Q E hr h => ?_))
  · obtain ⟨_, _, _, rfl, _⟩ := h
    rfl
  · obtain ⟨r, p, n, rfl, hp, h1, h2, h3, k⟩ := h
    refine ⟨_, PSs.nox (pss_cons (ps_if (pw_or (pt_not (pt_val (pe_d0 D_is_sequence hr (pa_cons (pv 0) pa_nil)))) (pw_or (pt_cmpR op_ne (pe_callB (bc_len (K := K) rfl) (by rfl) T.f_len bt_len (pa_cons (pv 0) pa_nil)) pe_int (nomark _)) (pw_or1 (pt_not (pt_val (pe_callB (bc_all (K := K) rfl rfl) (by rfl) T.f_all bt_all (pa_cons (pe_lc (own := [("house", 2)]) (g := (gName 2)) rfl sc_is_pair.nd (pi_tup (pv 0)) (blkOk_by (N := ["value", "houses", "house"]) (sc := defScope (top 16)) (by decide +kernel)) (fun _ _ _ _ _ => (pg_name (i := 2) sc_is_pair.nd rfl (Or.inl rfl))) (fun _ _ _ _ _ => pts_nil) (fun _ _ _ _ _ => (pe_d0 D_is_below hr (pa_cons (pv 2) (pa_cons (pv 1) pa_nil))))) pa_nil))))))).pt (pss_one (ps_ret pe_bl)) pss_nil) (pss_one (ps_ret (pe_cmpR op_ne (pe_ix (bix_tup (K := K) rfl) (pv 0) pe_int (fun _ _ => rfl)) (pe_ix (bix_tup (K := K) rfl) (pv 0) pe_int (fun _ _ => rfl)) (nomark _))))), ?_⟩
    have t := st_of (K := K) hp
    refine q_when (b := false) (et_is (et_or (et_not (et_B (SpV.call (ea_cons (ev_var rfl) ea_nil) (sv_is_sequence (b := true) (.inr ⟨r, _, rfl, .inr hp, rfl⟩))))) fun _ => et_or (et_test (ev_op (ev_lenA (ev_var rfl) (.inr t)) ev_c (rv_ne rfl))) fun _ =>
      et_not (et_B (ev_all (bs := [true, true]) (el_lcW (src_tup (ev_var rfl) (Ex.refl _) t) (by show 2 ≤ 40000; decide) (fun _ => true) (fun _ => .bl true) fun i x H1 e1 hi hx Q q => q _ rfl (fun H2 e2 Q2 q2 => q2 H2 (Ex.refl _)) fun _ => ?_)))) rfl) (fun z => Bool.noConfusion z) fun _ H1 e1 => ?_
    · refine ev_is (SpV.call (ea_cons (ev_var rfl) (ea_cons (ev_var rfl) ea_nil)) (sv_is_below ?_)) ?_
      · match i, hx with
        | 0, hx => cases hx; trivial
        | 1, hx => cases hx; trivial
      · match i, hx with
        | 0, hx => cases hx; rw [isB_lt h1]
        | 1, hx => cases hx; rw [isB_lt h2]
    · refine s_ret (v := .bl true) (ev_is (ev_op (ev_ixT (i := 0) (ev_var rfl) ev_c (ex_t e1 t) rfl) (ev_ixT (i := 1) (ev_var rfl) ev_c (ex_t e1 t) rfl) (rv_ne rfl)) ?_) fun H2 e2 => k H2 (e1.trans e2)
      rw [decide_eq_false (by intro z; injection z with z; omega)]
      rfl
theorem sc_check_ties : FnScope ["houses", "ties", "at", "tie"] ["houses", "ties"] (defScope (top 17)) := ⟨rfl, rfl, rfl, by decide +kernel, rfl, by decide +kernel, by decide +kernel⟩
theorem k_check_ties (T : Txt K mg base) : Df P w K mg base 5 "check_ties" ["houses", "ties"] spCheckTies := by
  obtain ⟨fd, F⟩ := T.d_check_ties
  obtain ⟨_, m_MOST_HOUSES⟩ := T.i_MOST_HOUSES
  obtain ⟨_, m_MOST_TIES⟩ := T.i_MOST_TIES
  have D_is_sequence := (k_is_sequence (P := P) (w := w) T).mono (show 1 ≤ 4 by decide)
  have D_is_within := (k_is_within (P := P) (w := w) T).mono (show 2 ≤ 4 by decide)
  have D_is_pair := (k_is_pair (P := P) (w := w) T).mono (show 4 ≤ 4 by decide)
  refine Df.mk1 (i := 17) T.g_check_ties F (fun _ _ _ _ _ _ us hl => match us, hl with | [_, _], _ => rfl) (F.ok sc_check_ties (fun vs H Q E h => ?_) (fun cdv A outer s H vs Q E hr h => ?_))
  · obtain ⟨_, _, _, _, rfl, _⟩ := h
    rfl
  · obtain ⟨n, tt, rs, S, rfl, ht, g, k⟩ := h
    refine ⟨_, PSs.nox (pss_cons (ps_if (pw_or (pt_not (pt_val (pe_d0 D_is_within hr (pa_cons (pv 0) (pa_cons pe_int (pa_cons (pe_glob (v := .int _) (by rfl) m_MOST_HOUSES ⟨_, rfl⟩) pa_nil)))))) (pw_or (pt_not (pt_val (pe_d0 D_is_sequence hr (pa_cons (pv 1) pa_nil)))) (pw_or1 (pt_cmpR op_gt (pe_callB (bc_len (K := K) rfl) (by rfl) T.f_len bt_len (pa_cons (pv 1) pa_nil)) (pe_glob (v := .int _) (by rfl) m_MOST_TIES ⟨_, rfl⟩) (nomark _))))).pt (pss_one ps_never) pss_nil) (pss_cons (ps_for PassesOwn.never rfl (pi_enumT (by rfl) T.f_enumerate (pa_cons (pv 1) pa_nil)) (pg_tup rfl (pgs_cons (pg_name (i := 2) sc_check_ties.nd rfl (Or.inl rfl)) (pgs_cons (pg_name (i := 3) sc_check_ties.nd rfl (Or.inl rfl)) pgs_nil))) (pss_one (ps_if (pt_not (pt_val (pe_d0 D_is_pair hr (pa_cons (pv 3) (pa_cons (pv 0) pa_nil))))) (pss_one ps_never) pss_nil))) (pss_one (ps_ret (pe_callTy (bc_tup (K := K) rfl) (by rfl) T.f_tuple bt_tuple (pa_cons (pe_lc (own := [("tie", 3)]) (g := (gName 3)) rfl sc_check_ties.nd (pi_seq (pv 1)) (blkOk_by (N := ["houses", "ties", "at", "tie"]) (sc := defScope (top 17)) (by decide +kernel)) (fun _ _ _ _ _ => (pg_name (i := 3) sc_check_ties.nd rfl (Or.inl rfl))) (fun _ _ _ _ _ => pts_nil) (fun _ _ _ _ _ => (pe_callTy (bc_tup (K := K) rfl) (by rfl) T.f_tuple bt_tuple (pa_cons (pv 3) pa_nil)))) pa_nil)))))), ?_⟩
    have t := st_of (K := K) ht.at_
    have n1 := g.n1
    have n12 := g.n12
    have hlen : (rs.map V.ref).length ≤ 20 := by rw [List.length_map, ht.len]; exact g.t20
    refine q_when (b := false) (et_is (et_or (et_not (et_B (SpV.call (ea_cons (ev_var rfl) (ea_cons ev_c (ea_cons ev_c ea_nil))) sv_is_within))) fun _ => et_or (et_not (et_B (SpV.call (ea_cons (ev_var rfl) ea_nil) (sv_is_sequence (b := true) (.inr ⟨tt, _, rfl, .inr ht.at_, rfl⟩))))) fun _ =>
      et_test (ev_op (ev_lenA (ev_var rfl) (.inr t)) ev_c rv_I0)) ?_) (fun z => Bool.noConfusion z) fun _ H1 e1 => ?_
    · rw [decide_eq_true (show (1 : Int) ≤ (n : Int) by omega), decide_eq_true (show (n : Int) ≤ 12 by omega), decide_eq_false (by omega)]
      rfl
    · refine q_forW (src_enum (H0 := H) (ea_cons (ev_var rfl) ea_nil) e1 (.inr t)) (fun i σ' H' => Ex H H' ∧ σ'[0]? = some (some (.int (n : Int))) ∧ σ'[1]? = some (some (.ref tt)) ∧ σ'.length = 4) (fun H2 e2 => ⟨e1.trans e2, rfl, rfl, rfl⟩) (fun i σ' H' _ p => p.1) ?_ ?_
      · rintro i x σ' H2 H3 hi ⟨p1, p2, p3, p4⟩ e2 ⟨U, y, rfl, hU, hy⟩
        obtain ⟨r, p, rfl, hp, hpa⟩ := ht.back hy
        obtain ⟨g1, g2, g3⟩ := g.get hp
        refine g_pair hU ?_
        have e3 := p1.trans e2
        have l0 : ((σ'.set 2 (some (.int (i : Nat)))).set 3 (some (.ref r)))[0]? = some (some (.int (n : Int))) := by simpa using p2
        have l1 : ((σ'.set 2 (some (.int (i : Nat)))).set 3 (some (.ref r)))[1]? = some (some (.ref tt)) := by simpa using p3
        have l3 : ((σ'.set 2 (some (.int (i : Nat)))).set 3 (some (.ref r)))[3]? = some (some (.ref r)) := by simp [p4]
        exact s_when (b := false) (et_is (et_not (et_B (SpV.call (ea_cons (ev_var l3) (ea_cons (ev_var l0) ea_nil)) (sv_is_pair (e3 _ _ hpa) g1 g2 g3)))) rfl) (fun z => Bool.noConfusion z) fun _ H4 e4 => ⟨e3.trans e4, l0, l1, by simpa using p4⟩
      · rintro σ' H2 ⟨p1, p2, p3, p4⟩
        match σ', p2, p3, p4 with
        | [_, _, a, b], rfl, rfl, _ =>
          refine s_retU (xs := rs.map V.ref) ?_ fun p H3 hp e3 h3 => k p H3 (fresh_back p1 hp) (p1.trans e3) ⟨h3, ht.len, (ht.ex (p1.trans e3)).pair⟩
          refine eu_tupN ?_
          have := el_lcW (tt := tYes) (g := gName 3) (te := tCB (rTupS K) (tCons (tVar 3) tNil)) (vs := [3]) (src_seq (ev_var (σ := [some (V.int n), some (V.ref tt), a, b]) (i := 1) rfl) (Ex.refl H2) (.inr (ex_t p1 t))) (by omega) (fun _ => true) (fun i => (rs.map V.ref).getD i .non) fun i x H4 e4 hi hx Q q => q _ rfl (fun H5 e5 Q2 q2 => q2 H5 (Ex.refl _)) fun _ => by
            obtain ⟨r, p, rfl, hp, hpa⟩ := ht.back hx
            refine ev_is (ev_tupT (ev_var rfl) (st_of ((p1.trans e4) _ _ hpa))) ?_
            rw [List.getD_eq_getElem?_getD, hx]
            rfl
          rw [given_all] at this
          rw [map_getD] at this
          exact this
end
end K30
namespace K30
open PySem PySem.Spec PyProof.Rows L2 Evl
theorem tupleKind_roomD {prog : Program} {w : World} {A : Around} {κ : Type} [DecidableEq κ] {knd : PySem.KeyKind prog w κ} (hu : A.units + 1 < cLine) : (tupleKind knd).room A := by
  first | exact hu | (show A.units < cLine; omega)
/-- d[k] = v by a comprehension, k a tuple -/
theorem d_dictSetT {X : Cx} {pins : List (Addr × Obj)} {σ : L2.St} {H : Hp} {s : Shared} {E : Value → Shared → Prop} {D b : Addr} {kvs : List (List Key × V)} {k : List Key} {v : V} {r : Value} {Q : Unit → Shared → Prop} (hu : X.A.units + 1 < cLine) (I : Inv X pins σ H s) (hD : H D = some (.dT kvs)) (hz : kvs.length < sizeLine)
    (hb : H b = some (.tup (k.map kV))) (rv : RelV v r) (h : ∀ s', Inv X pins σ (upd H D (.dT (putK kvs k v))) s' → Q () s') : wpAny (model X.prog X.w) X.A (dictSet D (.ref b) r) Q E s := by
  obtain ⟨z, hd, xs, rel, dd⟩ := dt_of I.hok hD
  have hzx : xs.length < sizeLine := by rw [← Paired.length rel]; exact hz
  have hl : (putK kvs k v).length ≤ sizeLine := by have := length_putK kvs k v; omega
  refine wpAny_dictSet_heap (hsz := Nat.le_of_lt hzx) (tupleKind_roomD hu) (key_of I.hok hb) dd fun h' dd' hs => h _ ?_
  obtain ⟨q, es, ep, hq, h2, h3, h4, _, h5⟩ := dd'
  refine d_write I (by rw [hD]; exact True.intro) hs ⟨q, hq⟩ ⟨hl, hd, _, (rel.put k hb rv).keeps fun c ys ec => ?_, q, es, ep, hq, h2, h3, h4, h5⟩
  rw [upd_ne (ne_of ec hD (fun z => nomatch z))]
  exact ec
section
variable {X : Cx}
/-- {k: v for target in iter if ..}, keys ints or texts: D the new dict -/
def tDcT (wi : TI) (g : TG) (tt : TT) (tk tv : TE) (vs : List Nat) : TE := fun σ H Q => wi σ H fun J H1 => ∀ D, H1 D = none → ∃ W : Nat → Nat → Hp → Prop, (∃ m, W 0 m (upd H1 D (.dT []))) ∧ ∀ i m H, W i m H →
  (J.stop i H ∧ Q (.ref D) H) ∨ (J.go i H ∧ ∃ Nx : Hp → Prop, (∀ H', Nx H' → ∃ m', m' < m ∧ W (i + 1) m' H') ∧ ∀ x H', J.yld i H x H' → g x (wipe σ vs) H' fun σ2 H2 => wipe σ2 vs = wipe σ vs ∧ tt σ2 H2 fun b H3 =>
    if b = true then tk σ2 H3 fun y H4 => tv σ2 H4 fun z H5 => ∃ (kvs : List (List Key × V)) (k : List Key) (b : Addr), y = .ref b ∧ H5 b = some (.tup (k.map kV)) ∧ H5 D = some (.dT kvs) ∧ kvs.length < sizeLine ∧ Nx (upd H5 D (.dT (putK kvs k z))) else Nx H3)
theorem dc_coreT {pins : List (Addr × Obj)} {s : Shared} {σ : L2.St} {H : Hp} {Q : VK} {kx vx tg iter : Expr} {ifs : List Expr} {scope : Scope} {own : List (Str × Nat)} {pos pos' : Pos} {wi : TI} {g : TG} {tt : TT} {tk tv : TE} {use : Option (Value → Sem Unit)} {Qf : Value → Shared → Prop}
    (hu : X.A.units + 1 < cLine) (hc : X.calm = true) (hN : X.N.Nodup) (I : Inv X pins σ H s) (hi : PI X tg iter wi) (ok : BlkOk X.N X.env.scope scope own)
    (hg : ∀ (s : Shared) (H : Hp) (C : Addr) (cl : List (Str × Addr)) (fp : List Addr), PG (X.blk s H scope (compEnvC scope cl C X.env) fp) tg g) (ht : ∀ (s : Shared) (H : Hp) (C : Addr) (cl : List (Str × Addr)) (fp : List Addr), PTs (X.blk s H scope (compEnvC scope cl C X.env) fp) ifs tt)
    (hk : ∀ (s : Shared) (H : Hp) (C : Addr) (cl : List (Str × Addr)) (fp : List Addr), PE (X.blk s H scope (compEnvC scope cl C X.env) fp) kx tk)
    (he : ∀ (s : Shared) (H : Hp) (C : Addr) (cl : List (Str × Addr)) (fp : List Addr), PE (X.blk s H scope (compEnvC scope cl C X.env) fp) vx tv) (hs : ∀ x, foldedSetIterable iter X.env x = pure x)
    (h : tDcT wi g tt tk tv (own.map (·.2)) σ H Q)
    (hRR : ∀ D C s' m H', Inv X pins σ H' s' → Q (.ref D) H' → s'.heap.Ns C m → FpOk X pins H' C → compPost (model X.prog X.w) X.A X.xe use Qf (.ref D) C (.ok .next) s') :
    wpAny (model X.prog X.w) X.A (comprehension (.DictComp kx vx [⟨tg, iter, ifs, 0⟩] scope pos) scope X.env pos' newDict false (eval iter X.env) use) Qf X.xe s := by
  have hfree : ∀ y ∈ scope.names, y.2 = .free → ∃ c, X.env.cells.lookup y.1 = some c := fun y hy e => by
    rcases ok.free y hy e with k | k
    · exact I.ok.has _ (.inl k)
    · exact I.ok.has _ (.inr k)
  refine wpAny_comprehension_free (use := use) rfl hs (closure_ok hfree) ok.kind (fun y hy e => by rw [ok.uniq y hy, e])
    (thn (hi.run pins s σ H _ I h) fun xv s1 hx => thn hx fun itv s2 h2 => ?_)
  obtain ⟨it, fp, tn, J, H2, e, I2, T, st2, f2, q⟩ := h2
  subst e
  refine wpAny_newObj_type (newEnv_comp ?_)
  generalize hD : s2.heap.objs.size = D
  have hDn : H2 D = none := I2.hok.fresh (Nat.le_of_eq hD)
  obtain ⟨W, ⟨m0, w0⟩, turn⟩ := q D hDn
  -- the new list
  generalize hs3 : ({ s2 with heap := s2.heap.push { cls := .type "dict", data := .dict #[] } } : Shared) = s3
  have I3 : Inv X pins σ (upd H2 D (.dT [])) s3 := by
    rw [← hs3]
    refine I2.laid (t' := s2.toks) (fun b o e => Heap.get?_push_of_some _ e) (Nat.le_of_eq hD) ?_
    rw [← hD]
    exact dt_empty s2.heap I2.big
  have h3 : s3.heap = s2.heap.push { cls := .type "dict", data := .dict #[] } := by rw [← hs3]
  have sz : ∀ b ∈ fp, b < s2.heap.objs.size := fun b hb => by
    obtain ⟨o, e, _⟩ := T.obj _ _ st2 b hb
    exact Heap.lt_size e
  have f3 : ∀ b ∈ fp, FpOk X pins (upd H2 D (.dT [])) b ∧ b < s3.heap.objs.size := fun b hb => by
    have hlt := sz b hb
    refine ⟨⟨?_, (f2 b hb).2⟩, by rw [h3, Heap.size_push]; exact Nat.lt_succ_of_lt hlt⟩
    rw [upd_ne (by rw [← hD]; exact Nat.ne_of_lt hlt)]
    exact (f2 b hb).1
  have st3 : tn 0 s3.heap := T.keep _ _ _ st2 fun b _ o e => by rw [h3]; exact Heap.get?_push_of_some _ e
  have I4 := block_start I3 ok hN f3
  have pg := hg s3 (upd H2 D (.dT [])) s3.heap.objs.size (cellsFrom (s3.heap.objs.size + 1) scope.names (cloFrom X.env.cells scope.names [])) fp
  have pt := ht s3 (upd H2 D (.dT [])) s3.heap.objs.size (cellsFrom (s3.heap.objs.size + 1) scope.names (cloFrom X.env.cells scope.names [])) fp
  have pk := hk s3 (upd H2 D (.dT [])) s3.heap.objs.size (cellsFrom (s3.heap.objs.size + 1) scope.names (cloFrom X.env.cells scope.names [])) fp
  have pe := he s3 (upd H2 D (.dT [])) s3.heap.objs.size (cellsFrom (s3.heap.objs.size + 1) scope.names (cloFrom X.env.cells scope.names [])) fp
  show codeAny _ _ (.compStart (.DictComp kx vx [⟨tg, iter, ifs, 0⟩] scope pos) 0 (.ref it) (.ref D) (compEnvC scope (cellsFrom (s3.heap.objs.size + 1) scope.names (cloFrom X.env.cells scope.names [])) s3.heap.objs.size X.env)) (compPost (model X.prog X.w) X.A X.xe use Qf (.ref D) s3.heap.objs.size) { s3 with heap := pushCells (s3.heap.push { cls := .type "dict", data := .dict #[] }) scope.names }
  have nfp : ∀ b ∈ fp, (upd H2 D (.dT [])) b = none := fun b hb => (f3 b hb).1.1
  generalize hce : compEnvC scope (cellsFrom (s3.heap.objs.size + 1) scope.names (cloFrom X.env.cells scope.names [])) s3.heap.objs.size X.env = ce at I4 pg pt pk pe ⊢
  have cL : ce.locals = s3.heap.objs.size := by subst hce; rfl
  generalize hH3 : upd H2 D (.dT []) = H3 at I3 I4 pg pt pk pe w0 nfp f3
  generalize hs4 : ({ s3 with heap := pushCells (s3.heap.push { cls := .type "dict", data := .dict #[] }) scope.names } : Shared) = s4 at I4 ⊢
  have st4 : tn 0 s4.heap := T.keep _ _ _ st3 fun b _ o e => by rw [← hs4]; exact pushCells_keeps _ _ _ _ (Heap.get?_push_of_some _ e)
  have stat : ∀ {σ' : L2.St} {H' : Hp} {s' : Shared}, Inv (X.blk s3 H3 scope ce fp) [] σ' H' s' → (∀ b ∈ fp, H' b = none) → ∀ b ∈ fp, FpOk (X.blk s3 H3 scope ce fp) [] H' b := fun {σ' H' s'} I' hn b hb =>
    ⟨hn b hb, (I'.ok.exf b hb).1, I'.ok.exfs b hb, .inl hb, fun x c e => (I'.ok.exf b hb).2 x c e, fun p hp => absurd (show p ∈ ([] : List (Addr × Obj)) ++ [] from hp) (by simp)⟩
  have loop : codeAny (model X.prog X.w) X.A (.compLoop (.DictComp kx vx [⟨tg, iter, ifs, 0⟩] scope pos) 0 (.ref it) (.ref D) ce) (compPost (model X.prog X.w) X.A X.xe use Qf (.ref D) s3.heap.objs.size) s4 := by
    refine compLoop_anyD (fun n s' => ∃ i H', Inv (X.blk s3 H3 scope ce fp) [] (wipe σ (own.map (·.2))) H' s' ∧ tn i s'.heap ∧ (∀ b ∈ fp, H' b = none) ∧ W i n H') ?_ m0 ⟨0, H3, I4, st4, nfp, w0⟩
    rintro n s5 ⟨i, H5, I5, st5, n5, w5⟩
    rcases turn i n H5 w5 with ⟨stop, qq⟩ | ⟨go, Nx, hNx, step⟩
    · have td := T.done (X.blk s3 H3 scope ce fp) rfl rfl rfl hc i [] s5 _ H5 (fun _ _ => False) I5 (stat I5 n5) st5 stop
      refine thnF td fun r s6 ⟨hr, I6⟩ => ?_
      subst hr
      -- back in the def's context
      have I7 : Inv X pins σ H5 s6 := I3.call' (ch := fp) I6.os I6.base I6.hok I6.bare fun b hb => ⟨(f3 b hb).1.2.2.2.1, (f3 b hb).1.2.1, (f3 b hb).1.2.2.2.2.1, (f3 b hb).1.2.2.2.2.2⟩
      have nC : H5 s3.heap.objs.size = none := by
        have z : H5 ce.locals = none := I6.free
        rw [cL] at z
        exact z
      obtain ⟨m, hn, _⟩ := I6.loc
      have hn : s6.heap.Ns ce.locals m := hn
      rw [cL] at hn
      exact hRR D s3.heap.objs.size s6 m H5 I7 qq hn (I3.fpOk (Nat.le_refl _) nC)
    · have ti := T.item (X.blk s3 H3 scope ce fp) rfl rfl rfl hc i [] s5 _ H5 (fun _ _ => False) I5 (stat I5 n5) st5 go
      refine thnF ti fun r s6 ⟨u, hr, h6⟩ => ?_
      subst hr
      refine thnF h6 fun _ s7 ⟨x, H7, I7, r7, y7, st7, n7⟩ => ?_
      have I7' := I7.pinned (stat I7 n7) (T.obj _ _ st7)
      refine thnF (pg.run _ s7 _ H7 x u _ I7' r7 (step x H7 y7)) fun _ s8 ⟨σ8, H8, I8, hw8, q8⟩ => ?_
      refine thnF (pt.run _ s8 σ8 H8 _ I8 q8) fun b s9 ⟨H9, I9, q9⟩ => ?_
      -- the turn's end
      have fin : ∀ {s' : Shared} {H' : Hp}, Inv (X.blk s3 H3 scope ce fp) ([] ++ pinsAt fp s7.heap) σ8 H' s' → Nx H' → ∃ m, m < n ∧ ∃ i H', Inv (X.blk s3 H3 scope ce fp) [] (wipe σ (own.map (·.2))) H' s' ∧ tn i s'.heap ∧ (∀ b ∈ fp, H' b = none) ∧ W i m H' := fun {s' H'} I' nx => by
        obtain ⟨m', hm, w'⟩ := hNx H' nx
        have pin' : ∀ b ∈ fp, ∀ o, s7.heap.get? b = some o → s'.heap.get? b = some o ∧ H' b = none := fun b hb o e =>
          let z := I'.pin (b, o) (List.mem_append_right _ (List.mem_append_right _ (mem_pinsAt hb e)))
          ⟨z.1, z.2.1⟩
        have hl : (wipe σ (own.map (·.2))).length = σ8.length := by rw [← hw8, wipe_length]
        refine ⟨m', hm, i + 1, H', (I'.unpinned (pins := [])).weak hl (fun j v e => ?_), T.keep _ _ _ st7 fun b hb o e => (pin' b hb o e).1, fun b hb => ?_, w'⟩
        · rw [← hw8] at e
          exact (wipe_some e).1
        · obtain ⟨o, e, _⟩ := T.obj _ _ st7 b hb
          exact (pin' b hb o e).2
      cases b with
      | false =>
        simp only [Bool.false_eq_true, if_false] at q9 ⊢
        exact fin I9 q9
      | true =>
        simp only [if_true] at q9 ⊢
        refine thnF (pk.run _ s9 σ8 H9 _ I9 q9) fun z s10 ⟨yk, H10, I10, r10, q10⟩ => ?_
        refine thnF (pe.run _ s10 σ8 H10 _ I10 q10) fun z2 s11 ⟨yv, H11, I11, r11, kvs, k, bk, ek, hbk, hD11, hz11, nx⟩ => ?_
        subst ek
        cases (show z = Value.ref bk from r10)
        exact d_dictSetT (X := X.blk s3 H3 scope ce fp) hu I11 hD11 hz11 hbk r11 fun s12 I12 => fin I12 nx
  exact codeAny_compStart_dict loop (T.self X.A 0 _ _ _ st4 loop)
/-- as a value -/
theorem pe_dcT {kx vx tg iter : Expr} {ifs : List Expr} {scope : Scope} {own : List (Str × Nat)} {pos : Pos} {wi : TI} {g : TG} {tt : TT} {tk tv : TE} (hu : X.A.units + 1 < cLine) (hc : X.calm = true) (hN : X.N.Nodup) (hi : PI X tg iter wi) (ok : BlkOk X.N X.env.scope scope own)
    (hg : ∀ (s : Shared) (H : Hp) (C : Addr) (cl : List (Str × Addr)) (fp : List Addr), PG (X.blk s H scope (compEnvC scope cl C X.env) fp) tg g) (ht : ∀ (s : Shared) (H : Hp) (C : Addr) (cl : List (Str × Addr)) (fp : List Addr), PTs (X.blk s H scope (compEnvC scope cl C X.env) fp) ifs tt)
    (hk : ∀ (s : Shared) (H : Hp) (C : Addr) (cl : List (Str × Addr)) (fp : List Addr), PE (X.blk s H scope (compEnvC scope cl C X.env) fp) kx tk)
    (he : ∀ (s : Shared) (H : Hp) (C : Addr) (cl : List (Str × Addr)) (fp : List Addr), PE (X.blk s H scope (compEnvC scope cl C X.env) fp) vx tv) (hs : ∀ x, foldedSetIterable iter X.env x = pure x := by intro _; rfl) :
    PE X (.DictComp kx vx [⟨tg, iter, ifs, 0⟩] scope pos) (tDcT wi g tt tk tv (own.map (·.2))) := by
  refine ⟨fun pins s σ H Q I h => ?_⟩
  rw [arm_eval_DictComp]
  refine dc_coreT hu hc hN I hi ok hg ht hk he hs h fun D C s' m H' I' q hn f => ⟨m, hn, fun h'' sb => ?_⟩
  obtain ⟨f0, f1, f2, f3, f4, f5⟩ := f
  exact ⟨.ref D, H', I'.turned (t' := s'.toks) (fun b o hb e => (sb.2 b hb).trans e) f0 f1 f3 f4 f5, rfl, q⟩
end
/-! ### sorted: tuples of ints -/
section
open PySem.W Srt
variable {prog : Program} {w : World} {A : Around} {E : Value → Shared → Prop} {s : Shared}
theorem klex (fin : Bool) : ∀ {xs ys : List Value} {ns ms : List Int} (i : Nat), IntsAre xs ns → IntsAre ys ms → ∃ b : Bool, KatLex prog w A true fin (fun r s' => s' = s ∧ r = b) (xs.zip ys) i s
  | [], _, _, _, i, _, _ => ⟨fin, kat_nil ⟨rfl, rfl⟩⟩
  | _ :: _, [], _, _, i, _, _ => ⟨fin, kat_nil ⟨rfl, rfl⟩⟩
  | x :: xs, y :: ys, _, _, i, hx, hy => by
    cases hx with
    | cons a t hx =>
      cases hy with
      | cons c u hy =>
        obtain ⟨b', hb'⟩ := klex fin (i + 1) hx hy
        refine ⟨if a = c then b' else decide (a < c), ?_⟩
        show KatLex prog w A true fin _ ((.int a t, .int c u) :: xs.zip ys) i s
        refine kat_cons (SeqAt.EqAt.int_int a t c u prog w _ _ ?_)
        refine kat_go (fun e1 => ?_) (fun e1 => ?_)
        · have ex : a = c := by simpa using e1
          rw [if_pos ex]
          exact kat_yes hb'
        · have ex : ¬ a = c := by simpa using e1
          rw [if_neg ex]
          cases hi : i == 0 with
          | true =>
            refine kat_no ?_
            rw [hi]
            exact TS.oneLt_ints _ ⟨rfl, rfl⟩
          | false =>
            refine kat_no ?_
            rw [hi]
            exact kat_one _ _ (PyProof.Rows.lt_int ⟨rfl, rfl⟩)
/-- v is a tuple of one int or more in the heap -/
def IsInts (h : Heap) (v : Value) : Prop := ∃ a o xs n ns, v = .ref a ∧ h.get? a = some o ∧ o.cls = .type "tuple" ∧ o.data = .seq xs n ∧ IntsAre xs.toList ns ∧ ns ≠ []
theorem IsInts.keeps {h h' : Heap} {v : Value} (p : IsInts h v) (k : ∀ b o, h.get? b = some o → o.cls = .type "tuple" → h'.get? b = some o) : IsInts h' v := by
  obtain ⟨a, o, xs, n, ns, e, ho, hc, hd, hi, h0⟩ := p
  exact ⟨a, o, xs, n, ns, e, k _ _ ho hc, hc, hd, hi, h0⟩
theorem ints_tot {vs : List Value} (hp : ∀ v ∈ vs, IsInts s.heap v) : Tot prog w A s (tuples' true) (fun p => p.1 ∈ vs) := by
  intro p q hm hm'
  obtain ⟨a, o, xs, n, ns, e, ho, hc, hd, hi, _⟩ := hp _ hm
  obtain ⟨a', o', xs', n', ns', e', ho', hc', hd', hi', _⟩ := hp _ hm'
  rw [e, e']
  obtain ⟨b, hb⟩ := klex (prog := prog) (w := w) (A := A) (s := s) (decide (xs.size < xs'.size)) 0 hi hi'
  exact ⟨b, kat_lt ho hd ho' hd' hb⟩
theorem ints_firsts {h : Heap} : ∀ {vs : List Value}, (∀ v ∈ vs, IsInts h v) → ∃ fs : List Value, KatTups h vs fs ∧ fs.length = vs.length ∧ ∀ f ∈ fs, ∃ x t, f = Value.int x t
  | [], _ => ⟨[], KatTups.nil, rfl, fun _ hm => by simp at hm⟩
  | v :: vs, hp => by
    obtain ⟨fs, h1, h2, h3⟩ := ints_firsts (vs := vs) fun v' hm => hp v' (List.mem_cons_of_mem _ hm)
    obtain ⟨a, o, xs, n, ns, e, ho, hc, hd, hi, h0⟩ := hp v (List.mem_cons_self ..)
    subst e
    obtain ⟨xl⟩ := xs
    have hi : IntsAre xl ns := hi
    cases hi with
    | nil => exact absurd rfl h0
    | cons x t r =>
      refine ⟨.int x t :: fs, KatTups.cons ho hc hd rfl h1, by rw [List.length_cons, List.length_cons, h2], fun f hm => ?_⟩
      rcases List.mem_cons.mp hm with rfl | hm
      · exact ⟨x, t, rfl⟩
      · exact h3 f hm
theorem ints_sortable {a : Addr} {vs : List Value} (h0 : 0 < vs.length) (hp : ∀ v ∈ vs, IsInts s.heap v) (ha : ∀ o, s.heap.get? a = some o → o.cls ≠ .type "tuple") : Sortable prog w A s a vs := by
  intro h' keep
  have hp' : ∀ v ∈ vs, IsInts h' v := fun v hm => (hp v hm).keeps fun b o e c => keep b o (fun z => by subst z; exact ha o e c) e
  obtain ⟨fs, h1, h2, h3⟩ := ints_firsts hp'
  refine ⟨tuples' true, fun Q E hq => ?_, ints_tot hp'⟩
  refine kat_kind (T := .type "int") h1 (by omega) (fun f hm => ?_) (by rfl) ?_
  · obtain ⟨x, t, rfl⟩ := h3 f hm
    exact Looks.now
  · have e : (Value.type "int" != Value.type "tuple") = true := by first | decide +kernel | rfl | decide
    rw [e]
    exact hq
end
section
variable {X : Cx} {K : PySem.W.Frag}
/-- sorted(xs), xs a list of tuples of ints: a new list of the same tuples, in some order -/
def rSortedTI (K : PySem.W.Frag) : List V → Hp → VK → Prop := fun vs H Q => ∃ a xs, vs = [V.ref a] ∧ SqL K H a xs ∧ (∀ x ∈ xs, ∃ t ns, x = V.ref t ∧ H t = some (.tup (ns.map V.int)) ∧ ns ≠ []) ∧
  ∀ ys p, ys.Perm xs → H p = none → Q (.ref p) (upd H p (.lst ys))
theorem bc_sortedTI (hK : X.K = K) : CallR X (.builtin "sorted") (rSortedTI K) := by
  subst hK
  intro pins s σ H vs us Q I r h
  obtain ⟨a, xs, rfl, hs, hx, q⟩ := h
  obtain ⟨its, rv, hl, hz⟩ := I.list hs
  obtain ⟨u, rfl, ru⟩ := vals1 r
  obtain rfl : u = Value.ref a := ru
  obtain ⟨e1, e2⟩ := refs_back rv fun x m => by
    obtain ⟨t, _, e, _⟩ := hx x m
    exact ⟨t, e⟩
  have hi : ∀ v ∈ its, IsInts s.heap v := fun v hv => by
    obtain ⟨t, rfl⟩ := e2 v hv
    have hm : V.ref t ∈ xs := by rw [e1]; exact List.mem_map.mpr ⟨_, hv, rfl⟩
    obtain ⟨t', ns, e, ht, h0⟩ := hx _ hm
    cases e
    obtain ⟨_, its2, r2, o, ho, hc, n, hd⟩ := I.hok _ _ ht
    exact ⟨t, o, its2.toArray, n, ns, rfl, ho, hc, hd, Vals.ints r2, h0⟩
  refine Srt.sorted_any hl.isList (by rw [← rv.length]; exact hz) (fun h2 h₁ a ha k => ?_) fun out hp => ?_
  · refine ints_sortable (s := { s with heap := h₁ }) (by omega) (fun v hm => (hi v hm).keeps fun b o e _ => (k b o e).2) fun o e => ?_
    have e' : some o = some (seqObj "list" its.toArray 0) := e.symm.trans ha
    cases e'
    intro c
    exact absurd (Value.type.inj c) (by decide)
  · have h3 : ∀ u ∈ out, ∃ a, u = Value.ref a := fun u hu => e2 u (hp.mem_iff.mp hu)
    obtain ⟨n, hn⟩ := PyProof.Rows.sortedAll_at s.heap its out.toArray
    refine ⟨.ref _, upd H (s.heap.objs.size + 1) (.lst (out.map backV)), I.laid (t' := s.toks) (fun _ _ => PyProof.Rows.sortedAll_old) (Nat.le_succ _) ⟨?_, out, n, vals_back h3, hn⟩, rfl, q _ _ ?_ (I.hok.fresh (Nat.le_succ _))⟩
    · rw [List.length_map, hp.length_eq, ← rv.length]; exact hz
    · rw [e1]; exact hp.map backV
end
end K30
namespace K30
open PySem PySem.Spec PyProof.Rows L2 Evl K30M
def natV (l : List Nat) : List V := l.map fun (i : Nat) => V.int (i : Int)
theorem natV_get {l : List Nat} {i x : Nat} (h : l[i]? = some x) : (natV l)[i]? = some (.int (x : Int)) := by
  unfold natV
  rw [List.getElem?_map, h]
  rfl
theorem natV_back {l : List Nat} {i : Nat} {v : V} (h : (natV l)[i]? = some v) : ∃ x : Nat, v = .int (x : Int) ∧ l[i]? = some x := by
  unfold natV at h
  rw [List.getElem?_map] at h
  cases hx : l[i]? with
  | none => rw [hx] at h; cases h
  | some x => rw [hx] at h; cases h; exact ⟨x, rfl, rfl⟩
theorem natV_flat (l : List Nat) : (natV l).all flatV = true := by
  unfold natV
  rw [List.all_map]
  exact List.all_eq_true.mpr fun _ _ => rfl
theorem inV_nat (x : Nat) (l : List Nat) : inV (.int (x : Int)) (natV l) = decide (x ∈ l) := by
  unfold inV natV
  rw [List.any_map]
  cases h : decide (x ∈ l) with
  | true =>
    rw [List.any_eq_true]
    exact ⟨x, of_decide_eq_true h, by show ((x : Int) == (x : Int)) = true; simp⟩
  | false =>
    rw [List.any_eq_false]
    intro y hy
    show ¬ (((y : Int) == (x : Int)) = true)
    intro z
    have : y = x := by
      have := eq_of_beq z
      omega
    exact of_decide_eq_false h (this ▸ hy)
/-- a method or an __init__ at f that keeps its promise -/
structure Mf (P : Program) (w : World) (K : PySem.W.Frag) (mg : Str → Option Value) (base : Heap) (k : Nat) (f : Addr) (ps : List Str) (sp : Sp) : Prop where
  ex : ∃ fd : FuncData, Binds K fd ps [] ∧ FnOk P w K mg base (L2.CX P w) k f fd ps sp
theorem Mf.mono {P : Program} {w : World} {K : PySem.W.Frag} {mg : Str → Option Value} {base : Heap} {j k : Nat} {f : Addr} {ps : List Str} {sp : Sp} (D : Mf P w K mg base j f ps sp) (h : j ≤ k) : Mf P w K mg base k f ps sp := by
  obtain ⟨fd, b, F⟩ := D.ex
  exact ⟨fd, b, F.mono h⟩
def spWebInit (K : PySem.W.Frag) : Sp := fun vs H Q _ => ∃ (x dx : Addr) (n : Nat) (tt : Addr) (rs : List Addr) (T : Ties), vs = [.ref x, .int (n : Int), .ref tt] ∧ H x = some (.ins (He.ga K "Web") dx []) ∧ TiesAt H tt rs T ∧ Good n T ∧
  ∀ p H1, H p = none → Ex H H1 → TiesAt H1 p rs T → Q .non (upd H1 x (.ins (He.ga K "Web") dx [("ties", .ref p), ("houses", .int (n : Int))]))
def spOtherEnd (K : PySem.W.Frag) : Sp := fun vs H Q _ => ∃ (x : Addr) (n : Nat) (T : Ties) (i h : Nat), vs = [.ref x, .int (i : Int), .int (h : Int)] ∧ WebAt K H x n T ∧ i < T.length ∧ ∀ H2, Ex H H2 → Q (.int (other (ins T i) h : Nat)) H2
def spTiesAt (K : PySem.W.Frag) : Sp := fun vs H Q _ => ∃ (x : Addr) (n : Nat) (T : Ties) (h : Nat), vs = [.ref x, .int (h : Int)] ∧ WebAt K H x n T ∧ ∀ p H2, H p = none → Ex H H2 → H2 p = some (.lst (natV (tiesAt T h))) → Q (.ref p) H2
theorem sv_other_end {K : PySem.W.Frag} {H : Hp} {x : Addr} {n : Nat} {T : Ties} {i h : Nat} (W : WebAt K H x n T) (hi : i < T.length) : SpV (spOtherEnd K) [.ref x, .int (i : Int), .int (h : Int)] H (.int (other (ins T i) h : Nat)) := fun H1 e1 Q q E => ⟨x, n, T, i, h, rfl, W.mono e1, hi, q⟩
theorem sl_ties_at {K : PySem.W.Frag} {H : Hp} {x : Addr} {n : Nat} {T : Ties} {h : Nat} (W : WebAt K H x n T) : SpL (spTiesAt K) [.ref x, .int (h : Int)] H (natV (tiesAt T h)) := fun H1 e1 Q q E => ⟨x, n, T, h, rfl, W.mono e1, q⟩
section
variable {P : Program} {w : World} {K : PySem.W.Frag} {mg : Str → Option Value} {base : Heap}
theorem ev_ties (T : Txt K mg base) {σ : L2.St} {H : Hp} {te : TE} {x dx tt : Addr} {n : Nat} (h : Ev te σ H (.ref x)) (hx : H x = some (.ins (He.ga K "Web") dx [("ties", .ref tt), ("houses", .int (n : Int))])) : Ev (tFld K te "ties") σ H (.ref tt) :=
  ev_fld h hx T.c_Web T.n_Web_ties rfl
theorem ev_houses (T : Txt K mg base) {σ : L2.St} {H : Hp} {te : TE} {x dx tt : Addr} {n : Nat} (h : Ev te σ H (.ref x)) (hx : H x = some (.ins (He.ga K "Web") dx [("ties", .ref tt), ("houses", .int (n : Int))])) : Ev (tFld K te "houses") σ H (.int (n : Int)) :=
  ev_fld h hx T.c_Web T.n_Web_houses rfl
theorem sc_Web___init__ : FnScope ["self", "houses", "ties"] ["self", "houses", "ties"] (defScope (inClass (top 18) 0)) := ⟨rfl, rfl, rfl, by decide +kernel, rfl, by decide +kernel, by decide +kernel⟩
theorem k_Web_init (T : Txt K mg base) : Mf P w K mg base 6 (He.ma K (He.ga K "Web") "__init__") ["self", "houses", "ties"] (spWebInit K) := by
  obtain ⟨fd, F⟩ := T.d_Web_init
  have D_check_ties := (k_check_ties (P := P) (w := w) T).mono (show 5 ≤ 5 by decide)
  refine ⟨fd, F.bindsN (fun _ _ _ _ _ _ us hl => match us, hl with | [_, _, _], _ => rfl), F.ok sc_Web___init__ (fun vs H Q E h => ?_) (fun cdv A outer s H vs Q E hr h => ?_)⟩
  · obtain ⟨_, _, _, _, _, _, rfl, _⟩ := h
    rfl
  · obtain ⟨x, dx, n, tt, rs, S, rfl, hx, ht, g, k⟩ := h
    refine ⟨_, PSs.nox (pss_cons (ps_fld (pv 0) (pe_d0 D_check_ties hr (pa_cons (pv 1) (pa_cons (pv 2) pa_nil))) rfl) (pss_one (ps_fld (pv 0) (pv 1) rfl))), ?_⟩
    refine ⟨_, rfl, _, rfl, ⟨n, tt, rs, S, rfl, ht, g, fun p H1 hp e1 h1 => ?_⟩⟩
    refine ⟨_, rfl, x, _, dx, [], rfl, e1 _ _ hx, T.c_Web, T.n_Web_ties, by decide, ?_⟩
    refine ⟨_, rfl, _, rfl, x, _, dx, _, rfl, upd_same, T.c_Web, T.n_Web_houses, by show 1 < 1000; decide, ?_⟩
    rw [upd_upd]
    exact k p H1 hp e1 h1
theorem pe_web (T : Txt K mg base) {X : Cx} {a b : Expr} {t : TA} {p pos : Pos} {k : Nat} (hK : X.K = K) (hm : X.mg = mg) (hb : X.base = base) (hr : Room k X.A) (hk : 7 ≤ k) (ha : PA X [a, b] t) (hg : Gl X "Web" := by rfl)
    (he : starEach (a :: [b]) X.env = (false, eval a X.env) :: starEach [b] X.env := by rfl) (hpl : (backTo pos (starEach [b] X.env)).any (·.1) = false := by rfl) : PE X (.Call (.Name "Web" p) [a, b] [] pos) (tMake (He.ga K "Web") (spWebInit K) [] E0 t) := by
  subst hK hm hb
  obtain ⟨fd, b, F⟩ := (k_Web_init (P := X.prog) (w := X.w) T).ex
  exact pe_make T.m_Web F (hr.mono hk) hg T.g_Web b .nil passL ha (by decide) he hpl
/-- a new web -/
theorem ev_web {σ : L2.St} {H : Hp} {t : TA} {E : XK} {n : Nat} {tt : Addr} {rs : List Addr} {T : Ties} (h : EvA t σ H [.int (n : Int), .ref tt]) (ht : TiesAt H tt rs T) (g : Good n T) :
    ∀ H1, Ex H H1 → ∀ Q : VK, (∀ x H2, H1 x = none → Ex H1 H2 → WebAt K H2 x n T → Q (.ref x) H2) → tMake (He.ga K "Web") (spWebInit K) [] E t σ H1 Q := fun H1 e1 Q q =>
  h H1 e1 _ fun H2 e2 x dx hx hd ne => by
    have e3 : Ex H2 (upd H2 dx (.own x)) := Ex.new hd
    have hx' : upd H2 dx (.own x) x = none := by rw [upd_ne (Ne.symm ne)]; exact hx
    refine ⟨x, dx, n, tt, rs, T, rfl, upd_same, ht.ex ((e1.trans e2).trans (e3.trans (Ex.new hx'))), g, fun p H4 hp e4 h4 => ⟨rfl, ?_⟩⟩
    have e5 : Ex H2 (upd H4 x (.ins (He.ga K "Web") dx [("ties", .ref p), ("houses", .int (n : Int))])) := (e3.trans ((Ex.new (o := .ins (He.ga K "Web") dx []) hx').trans e4)).mut hx
    refine q x _ (fresh_back e2 hx) (e2.trans e5) ⟨⟨dx, p, rs, upd_same, ?_⟩, g⟩
    have hxp : ∀ b xs, H4 b = some (.tup xs) → b ≠ x := fun b xs hb => ne_of hb (e4 _ _ upd_same) (fun z => nomatch z)
    exact ⟨by rw [upd_ne (hxp _ _ h4.at_)]; exact h4.at_, h4.len, fun i r p' a b => by
      have := h4.pair i r p' a b
      unfold PairAt at this ⊢
      rw [upd_ne (hxp _ _ this)]
      exact this⟩
theorem sc_other_end : FnScope ["web", "tie", "house", "here", "there"] ["web", "tie", "house"] (defScope (top 21)) := ⟨rfl, rfl, rfl, by decide +kernel, rfl, by decide +kernel, by decide +kernel⟩
theorem k_other_end (T : Txt K mg base) : Df P w K mg base 1 "other_end" ["web", "tie", "house"] (spOtherEnd K) := by
  obtain ⟨fd, F⟩ := T.d_other_end
  refine Df.mk1 (i := 21) T.g_other_end F (fun _ _ _ _ _ _ us hl => match us, hl with | [_, _, _], _ => rfl) (F.ok sc_other_end (fun vs H Q E h => ?_) (fun cdv A outer s H vs Q E hr h => ?_))
  · obtain ⟨_, _, _, _, _, rfl, _⟩ := h
    rfl
  · obtain ⟨x, n, S, i, h, rfl, W, hi, k⟩ := h
    refine ⟨_, PSs.nox (pss_cons (ps_asg (pe_ix (bix_tup (K := K) rfl) (bpe_fld (K := K) rfl (pv 0) rfl) (pv 1) (fun _ _ => rfl)) (pg_tup rfl (pgs_cons (pg_name (i := 3) sc_other_end.nd rfl (Or.inl rfl)) (pgs_cons (pg_name (i := 4) sc_other_end.nd rfl (Or.inl rfl)) pgs_nil)))) (pss_one (ps_ret (pe_ifExp (pt_cmpR op_eq (pv 3) (pv 2) (nomark _)) (pv 4) (pv 3))))), ?_⟩
    obtain ⟨dx, tt, rs, hx, ht⟩ := W.ex
    obtain ⟨r, hr1, hp⟩ := ht.get (ins_get hi)
    refine q_two (T := r) (ev_ixT (i := i) (ev_ties T (ev_var rfl) hx) (ev_var rfl) (st_of ht.at_) hr1) (st_of hp) fun H1 e1 => ?_
    refine s_ret (v := .int (other (ins S i) h : Nat)) ?_ fun H2 e2 => k H2 (e1.trans e2)
    refine ev_if (b := decide ((ins S i).1 = h)) (et_is (et_test (ev_op (ev_var rfl) (ev_var rfl) (rv_eq rfl))) ?_) (fun z => ?_) (fun z => ?_)
    · rw [decide_eq_decide]
      exact ⟨fun z => by injection z with z; omega, fun z => by rw [z]⟩
    · refine ev_is (ev_var rfl) ?_
      unfold other
      rw [if_pos (of_decide_eq_true z)]
    · refine ev_is (ev_var rfl) ?_
      unfold other
      rw [if_neg (of_decide_eq_false z)]
theorem sc_ties_at : FnScope ["web", "house", "tie", "pair"] ["web", "house"] (defScope (top 22)) := ⟨rfl, rfl, rfl, by decide +kernel, rfl, by decide +kernel, by decide +kernel⟩
theorem k_ties_at (T : Txt K mg base) : Df P w K mg base 1 "ties_at" ["web", "house"] (spTiesAt K) := by
  obtain ⟨fd, F⟩ := T.d_ties_at
  refine Df.mk1 (i := 22) T.g_ties_at F (fun _ _ _ _ _ _ us hl => match us, hl with | [_, _], _ => rfl) (F.ok sc_ties_at (fun vs H Q E h => ?_) (fun cdv A outer s H vs Q E hr h => ?_))
  · obtain ⟨_, _, _, _, rfl, _⟩ := h
    rfl
  · obtain ⟨x, n, S, h, rfl, W, k⟩ := h
    refine ⟨_, PSs.nox (pss_one (ps_ret (pe_lc (own := [("tie", 2), ("pair", 3)]) (g := (gTup K 2 (gCons (gName 2) (gCons (gName 3) gNil)))) rfl sc_ties_at.nd (pi_enumT (by rfl) T.f_enumerate (pa_cons (bpe_fld (K := K) rfl (pv 0) rfl) pa_nil)) (blkOk_by (N := ["web", "house", "tie", "pair"]) (sc := defScope (top 22)) (by decide +kernel)) (fun _ _ _ _ _ => (pg_tup rfl (pgs_cons (pg_name (i := 2) sc_ties_at.nd rfl (Or.inl rfl)) (pgs_cons (pg_name (i := 3) sc_ties_at.nd rfl (Or.inl rfl)) pgs_nil)))) (fun _ _ _ _ _ => (pts_one (pt_cmpR (bin_seq (K := K) rfl) (pv 1) (pv 3) (by with_unfolding_all rfl)))) (fun _ _ _ _ _ => (pv 2))))), ?_⟩
    obtain ⟨dx, tt, rs, hx, ht⟩ := W.ex
    have t20 := W.good.t20
    have hl : (rs.map V.ref).length = S.length := by rw [List.length_map, ht.len]
    refine s_retL (xs := natV (tiesAt S h)) ?_ fun p H1 hp e1 h1 => k p H1 hp e1 h1
    have := el_lcW (vs := [2, 3]) (te := tVar 2) (tt := tTest (tOp (rIn K false) (tVar 1) (tVar 3))) (src_enum (K := K) (H0 := H) (ea_cons (ev_ties T (ev_var (σ := start ["web", "house", "tie", "pair"] [V.ref x, V.int h]) (i := 0) rfl) hx) ea_nil) (Ex.refl H) (.inr (st_of ht.at_))) (by omega)
      (fun i => decide ((ins S i).1 = h) || decide ((ins S i).2 = h)) (fun i => .int (i : Int)) (g := gTup K 2 (gCons (gName 2) (gCons (gName 3) gNil))) fun i v H1 e1 hi hv Q q => by
      obtain ⟨U, y, rfl, hU, hy⟩ := hv
      obtain ⟨r, p, rfl, hp, hpa⟩ := ht.back hy
      refine g_pair hU (q _ rfl ?_ fun _ => ev_var rfl)
      refine et_is (et_test (ev_op (ev_var rfl) (ev_var rfl) (rv_isT (st_of (e1 _ _ hpa)) rfl rfl))) ?_
      have := inV_nat h [p.1, p.2]
      unfold natV at this
      rw [show [V.int (p.1 : Int), V.int (p.2 : Int)] = List.map (fun (i : Nat) => V.int (i : Int)) [p.1, p.2] from rfl, this, get_ins hp]
      rw [Bool.eq_iff_iff, decide_eq_true_iff, Bool.or_eq_true, decide_eq_true_iff, decide_eq_true_iff, List.mem_cons, List.mem_singleton]
      exact ⟨fun z => z.imp Eq.symm Eq.symm, fun z => z.imp Eq.symm Eq.symm⟩
    rw [hl] at this
    exact this
end
end K30
namespace K30
open PySem PySem.Spec PyProof.Rows L2 Evl K30M
/-- a dict of names, each True -/
def seen (ks : List Nat) : List (Key × V) := ks.map fun (x : Nat) => (.inl (x : Int), .bl true)
theorem seen_val (ks : List Nat) (y : Nat) : (valV (seen ks) (.inl (y : Int))).isSome = decide (y ∈ ks) := by
  induction ks with
  | nil => rfl
  | cons a l ih =>
    show (valV ((.inl (a : Int), .bl true) :: seen l) (.inl (y : Int))).isSome = _
    by_cases e : a = y
    · rw [valV_pos (by rw [e]), Option.isSome_some, decide_eq_true (by rw [e]; exact List.mem_cons_self)]
    · rw [valV_neg (fun z => e (by injection z with z; omega)), ih, decide_eq_decide, List.mem_cons]
      exact ⟨Or.inr, fun z => z.resolve_left (Ne.symm e)⟩
theorem seen_put {ks : List Nat} {y : Nat} (h : y ∉ ks) : putK (seen ks) (.inl (y : Int)) (.bl true) = seen (ks ++ [y]) := by
  rw [putK_new]
  · unfold seen
    rw [List.map_append]
    rfl
  · have := seen_val ks y
    rw [decide_eq_false h] at this
    exact Option.not_isSome_iff_eq_none.mp (by rw [this]; exact Bool.false_ne_true)
theorem seen_len (ks : List Nat) : (seen ks).length = ks.length := by unfold seen; rw [List.length_map]
theorem seen_keys (ks : List Nat) : (seen ks).map (fun kv => kV kv.1) = natV ks := by
  unfold seen natV
  rw [List.map_map]
  rfl
def spJoined (K : PySem.W.Frag) : Sp := fun vs H Q _ => ∃ (x : Addr) (n : Nat) (T : Ties) (h : Nat), vs = [.ref x, .int (h : Int)] ∧ WebAt K H x n T ∧ h < n ∧ ∀ p H2, H p = none → Ex H H2 → H2 p = some (.tup (natV (part T n h))) → Q (.ref p) H2
theorem su_joined {K : PySem.W.Frag} {H : Hp} {x : Addr} {n : Nat} {T : Ties} {h : Nat} (W : WebAt K H x n T) (hh : h < n) : SpU (spJoined K) [.ref x, .int (h : Int)] H (natV (part T n h)) := fun H1 e1 Q q E => ⟨x, n, T, h, rfl, W.mono e1, hh, q⟩
section
variable {K : PySem.W.Frag} {σ : L2.St} {H : Hp} {tl : TE}
theorem el_sortedI {ns : List Nat} {ms : List Nat} (h : EvL tl σ H (natV ns)) (hp : ns.Perm ms) (hs : ms.Pairwise (· ≤ ·)) : EvL (tCB (rSortedI K) (tCons tl tNil)) σ H (natV ms) := fun H1 e1 Q q =>
  h H1 e1 _ fun p H2 hp2 e2 h2 => ⟨p, ns.map fun (i : Nat) => (i : Int), rfl, by rw [List.map_map]; exact sq_of h2, fun ns' l pm sr hl => by
    have e : ns' = ms.map fun (i : Nat) => (i : Int) := by
      refine List.Perm.eq_of_pairwise (le := fun a b => a ≤ b) (fun a b _ _ x y => Int.le_antisymm x y) sr ?_ (pm.trans (hp.map _))
      exact List.pairwise_map.mpr (hs.imp fun {a b} z => by omega)
    subst e
    refine q l _ (fresh_back e2 hl) (e2.trans (Ex.new hl)) ?_
    rw [upd_same, List.map_map]
    rfl⟩
theorem el_listD {d : Addr} {ks : List Nat} (h : Ev tl σ H (.ref d)) (hd : H d = some (.dK (seen ks))) : EvL (tCB rListD (tCons tl tNil)) σ H (natV ks) := fun H1 e1 Q q =>
  h H1 e1 _ fun H2 e2 => ⟨d, _, rfl, (e1.trans e2) _ _ hd, fun l hl => q l _ (fresh_back e2 hl) (e2.trans (Ex.new hl)) (by rw [upd_same, ← seen_keys])⟩
end
theorem q_dispOne {i : Nat} {σ : L2.St} {H : Hp} {x : Nat} {ta : TE} {tz : TS} {D : Ends} (h : Ev ta σ H (.int (x : Int))) (k : ∀ d H1, H d = none → Ex H H1 → H1 d = some (.dK (seen [x])) → tz D (σ.set i (some (.ref d))) H1) :
    tSeq (tAsg (tDisp [(ta, tC (.bl true))]) (gName i)) tz D σ H := fun p hp =>
  h _ (Ex.new hp) _ fun H2 e2 => ⟨e2 _ _ upd_same, [(.inl (x : Int), .bl true)], rfl, by show 1 ≤ 15; decide, k p _ hp (((Ex.new hp).trans e2).mut hp) (by rw [upd_same]; rfl)⟩
section
variable {P : Program} {w : World} {K : PySem.W.Frag} {mg : Str → Option Value} {base : Heap}
theorem sc_joined_houses : FnScope ["web", "house", "found", "waiting", "here", "tie", "there"] ["web", "house"] (defScope (top 23)) := ⟨rfl, rfl, rfl, by decide +kernel, rfl, by decide +kernel, by decide +kernel⟩
theorem k_joined_houses (T : Txt K mg base) : Df P w K mg base 2 "joined_houses" ["web", "house"] (spJoined K) := by
  obtain ⟨fd, F⟩ := T.d_joined_houses
  have D_ties_at := k_ties_at (P := P) (w := w) T
  have D_other_end := k_other_end (P := P) (w := w) T
  refine Df.mk1 (i := 23) T.g_joined_houses F (fun _ _ _ _ _ _ us hl => match us, hl with | [_, _], _ => rfl) (F.ok sc_joined_houses (fun vs H Q E h => ?_) (fun cdv A outer s H vs Q E hr h => ?_))
  · obtain ⟨_, _, _, _, rfl, _⟩ := h
    rfl
  · obtain ⟨x, n, S, h, rfl, W, hn, k⟩ := h
    have hu1 : (A.deeper (envOfC "joined_houses" (defScope (top 23)) s.heap.objs.size (He.ga K "joined_houses") cdv)).units + 1 < cLine := by have := hr.units; omega
    refine ⟨_, PSs.nox (pss_cons (ps_set (i := 2) sc_joined_houses.nd rfl (Or.inl rfl) (pe_disp (pps_cons (pv 1) pe_bl pps_nil) rfl rfl (by simp) (by decide))) (pss_cons (ps_set (i := 3) sc_joined_houses.nd rfl (Or.inl rfl) (pe_lst (pa_cons (pv 1) pa_nil))) (pss_cons (ps_while PassesOwn.never (pt_cmpR op_gt (pe_callB (bc_len (K := K) rfl) (by rfl) T.f_len bt_len (pa_cons (pv 3) pa_nil)) pe_int (nomark _)) (pss_cons (ps_set (i := 4) sc_joined_houses.nd rfl (Or.inl rfl) (pe_bm0 PySem.F.plainAttrs_list PySem.F.slot_list_pop PySem.F.type_list_pop mt_pop (pv 3))) (pss_one (ps_for PassesOwn.never rfl (pi_list (pe_d0 D_ties_at hr (pa_cons (pv 0) (pa_cons (pv 4) pa_nil)))) (pg_name (i := 5) sc_joined_houses.nd rfl (Or.inl rfl)) (pss_cons (ps_set (i := 6) sc_joined_houses.nd rfl (Or.inl rfl) (pe_d0 D_other_end hr (pa_cons (pv 0) (pa_cons (pv 5) (pa_cons (pv 4) pa_nil))))) (pss_one (ps_if (pt_cmp (pc_dnotin hu1 (pv 6) (pv 2))) (pss_cons (ps_dput hu1 (pv 2) (pv 6) pe_bl rfl) (pss_one (ps_expr (pe_bm PySem.F.plainAttrs_list PySem.F.slot_list_append PySem.F.type_list_append mt_append (pv 3) (pa_cons (pv 6) pa_nil))))) pss_nil))))))) (pss_one (ps_ret (pe_callTy (bc_tup (K := K) rfl) (by rfl) T.f_tuple bt_tuple (pa_cons (pe_callB (bc_sorted (K := K) rfl) (by rfl) T.f_sorted bt_sorted (pa_cons (pe_callTy (call_list_dK rfl) (by rfl) T.f_list bt_list (pa_cons (pv 2) pa_nil)) pa_nil)) pa_nil))))))), ?_⟩
    have n12 := W.good.n12
    refine q_dispOne (x := h) (ev_var rfl) fun d H1 hd e1 h1 => ?_
    refine q_asgL (xs := natV [h]) (el_lst (ea_cons (ev_var rfl) ea_nil) (by show 1 ≤ 100000; decide)) fun l H2 hl e2 h2 => ?_
    have dl : d ≠ l := ne_of_none h1 hl
    have hl0 : H l = none := fresh_back e1 hl
    have keep : ∀ ks ws H', Ex H H' → Ex H (upd (upd H' d (.dK ks)) l (.lst ws)) := fun ks ws H' e => (e.mut hd).mut hl0
    refine q_while (fun m σ' H' => ∃ ks ws, m = 2 * (n - ks.length) + ws.length ∧ Srch n S h ks ws ∧ Ex H H' ∧ H' d = some (.dK (seen ks)) ∧ H' l = some (.lst (natV ws)) ∧ ∃ a b c, σ' = [some (.ref x), some (.int (h : Int)), some (.ref d), some (.ref l), a, b, c]) _ ⟨[h], [h], rfl, Srch.first hn, e1.trans e2, e2 _ _ h1, h2, none, none, none, rfl⟩ ?_
    rintro m σ' H' ⟨ks, ws, rfl, sr, ex, kd, kl, a, b, c, rfl⟩
    refine ⟨decide (0 < ws.length), et_is (et_test (ev_op (ev_len (ev_var rfl) (sq_of kl)) ev_c rv_I0)) ?_, fun hb H3 e3 => ?_, fun hb H3 e3 => ?_⟩
    · rw [decide_eq_decide]
      unfold natV
      rw [List.length_map]
      omega
    · have hw : 0 < ws.length := of_decide_eq_true hb
      obtain ⟨ws', y, rfl⟩ : ∃ ws' y, ws = ws' ++ [y] := ⟨ws.dropLast, ws.getLast (fun z => by rw [z] at hw; exact Nat.lt_irrefl _ hw), (List.dropLast_concat_getLast _).symm⟩
      have yk : y ∈ ks := sr.sub y (by simp)
      have yn := (sr.conn y yk).1
      refine ⟨fun σ2 H4 => ∃ ks' ws'', 2 * (n - ks'.length) + ws''.length < 2 * (n - ks.length) + (ws' ++ [y]).length ∧ Srch n S h ks' ws'' ∧ Ex H H4 ∧ H4 d = some (.dK (seen ks')) ∧ H4 l = some (.lst (natV ws'')) ∧ ∃ a b c, σ2 = [some (.ref x), some (.int (h : Int)), some (.ref d), some (.ref l), a, b, c], fun σ2 H4 ⟨ks', ws'', hm, r⟩ => ⟨_, hm, ks', ws'', rfl, r⟩, ?_⟩
      have kl3 := e3 _ _ kl
      have e : natV (ws' ++ [y]) = natV ws' ++ [.int (y : Int)] := by unfold natV; rw [List.map_append]; rfl
      rw [e] at kl3
      refine q_pop (v := .int (y : Int)) kl3 (ev_var rfl) fun H4 e4 => ?_
      have ex4 : Ex H (upd H4 l (.lst (natV ws'))) := ((ex.trans e3).trans e4).mut hl0
      have kd4 : upd H4 l (.lst (natV ws')) d = some (.dK (seen ks)) := by rw [upd_ne dl]; exact e4 _ _ (e3 _ _ kd)
      have W4 := W.mono ex4
      refine s_forNL (xs := natV (tiesAt S y)) (D := _) (SpL.call (ea_cons (ev_var rfl) (ea_cons (ev_var rfl) ea_nil)) (sl_ties_at W4))
        (fun p i σ2 H5 => H5 p = some (.lst (natV (tiesAt S y))) ∧ p ≠ d ∧ p ≠ l ∧ ∃ ks' ws'', 2 * (n - ks'.length) + ws''.length ≤ 2 * (n - ks.length) + ws'.length ∧ SrchIn n S h y i ks' ws'' ∧ Ex H H5 ∧ H5 d = some (.dK (seen ks')) ∧ H5 l = some (.lst (natV ws'')) ∧ ∃ b c, σ2 = [some (.ref x), some (.int (h : Int)), some (.ref d), some (.ref l), some (.int (y : Int)), b, c])
        (fun p H5 hp e5 h5 => ⟨h5, (ne_of_none kd4 hp).symm, (ne_of_none upd_same hp).symm, ks, ws', Nat.le_refl _, sr.pop, ex4.trans e5, e5 _ _ kd4, e5 _ _ upd_same, _, _, rfl⟩) (fun p i σ2 H5 _ q => sq_of q.1) ?_ ?_
      · rintro p i v σ2 H5 hv ⟨hp, pd, pl, ks', ws'', hm, si, ex5, kd5, kl5, b, c, rfl⟩
        obtain ⟨t, rfl, ht⟩ := natV_back hv
        have htm := List.mem_of_getElem? ht
        have tl := (mem_tiesAt.mp htm).1
        have W5 := W.mono ex5
        have hcount := si.count
        refine q_asg (v := .int (other (ins S t) y : Nat)) (SpV.call (ea_cons (ev_var rfl) (ea_cons (ev_var rfl) (ea_cons (ev_var rfl) ea_nil))) (sv_other_end W5 tl)) fun H6 e6 => ?_
        refine s_when (b := !decide (other (ins S t) y ∈ ks')) (et_B (ev_is (ev_dnotin (k := .inl (other (ins S t) y : Nat)) (ev_var rfl) (ev_var rfl) (e6 _ _ kd5)) (by rw [seen_val]))) (fun hb2 H7 e7 => ?_) (fun hb2 H7 e7 => ?_)
        · have hnot : other (ins S t) y ∉ ks' := by
            intro z
            rw [decide_eq_true z] at hb2
            cases hb2
          have kd7 := e7 _ _ (e6 _ _ kd5)
          have kl7 := e7 _ _ (e6 _ _ kl5)
          have si2 := si.add W.good.ends ht hnot
          have hc2 := si2.count
          rw [List.length_append] at hc2
          refine q_dput (k := .inl (other (ins S t) y : Nat)) (v := .bl true) ev_c (ev_var rfl) (ev_var rfl) kd7 (by rw [seen_len]; omega) fun H8 e8 => ?_
          rw [seen_put hnot]
          refine s_app (xs := natV ws'') (v := .int (other (ins S t) y : Nat)) (by rw [upd_ne dl.symm]; exact e8 _ _ kl7) (ev_var rfl) (ev_var rfl) ?_ fun H9 e9 => ?_
          · have := si.le
            unfold natV
            rw [List.length_map]
            omega
          · refine ⟨?_, pd, pl, ks' ++ [other (ins S t) y], ws'' ++ [other (ins S t) y], ?_, si2, ?_, ?_, ?_, _, _, rfl⟩
            · rw [upd_ne pl]
              exact e9 _ _ (by rw [upd_ne pd]; exact e8 _ _ (e7 _ _ (e6 _ _ hp)))
            · rw [List.length_append, List.length_append]
              simp only [List.length_singleton] at hc2 ⊢
              omega
            · exact (((((ex5.trans e6).trans e7).trans e8).mut hd).trans e9).mut hl0
            · rw [upd_ne dl]
              exact e9 _ _ upd_same
            · rw [upd_same]
              unfold natV
              rw [List.map_append]
              rfl
        · have hin : other (ins S t) y ∈ ks' := by
            apply Classical.byContradiction
            intro z
            rw [decide_eq_false z] at hb2
            cases hb2
          exact ⟨e7 _ _ (e6 _ _ hp), pd, pl, ks', ws'', hm, si.skip ht hin, (ex5.trans e6).trans e7, e7 _ _ (e6 _ _ kd5), e7 _ _ (e6 _ _ kl5), _, _, rfl⟩
      · rintro p σ2 H5 ⟨hp, pd, pl, ks', ws'', hm, si, ex5, kd5, kl5, b, c, rfl⟩
        have e : (natV (tiesAt S y)).length = (tiesAt S y).length := by unfold natV; rw [List.length_map]
        rw [e] at si
        refine ⟨ks', ws'', ?_, si.out, ex5, kd5, kl5, _, _, _, rfl⟩
        rw [List.length_append, List.length_singleton]
        omega
    · have hw : ws = [] := by
        have : ¬ 0 < ws.length := of_decide_eq_false hb
        exact List.eq_nil_of_length_eq_zero (by omega)
      subst hw
      refine s_retU (xs := natV (part S n h)) ?_ fun p H4 hp e4 h4 => k p H4 (fresh_back (ex.trans e3) hp) ((ex.trans e3).trans e4) h4
      exact eu_tupN (el_sortedI (el_listD (ev_var rfl) (e3 _ _ kd)) sr.perm (part_sorted S n h))
end
end K30
namespace K30
open PySem PySem.Spec PyProof.Rows L2 Evl K30M
theorem given_length (n : Nat) (f : Nat → Bool) (v : Nat → V) : (given n f v).length = (List.range n).countP f := by
  unfold given
  rw [List.length_map, List.countP_eq_length_filter]
theorem natV_len (l : List Nat) : (natV l).length = l.length := by unfold natV; rw [List.length_map]
def spRingsIn (K : PySem.W.Frag) : Sp := fun vs H Q _ => ∃ (x : Addr) (n : Nat) (T : Ties) (r : Addr) (h : Nat), vs = [.ref x, .ref r] ∧ WebAt K H x n T ∧ h < n ∧ H r = some (.tup (natV (K30M.part T n h))) ∧
  ∀ H2, Ex H H2 → Q (.int ((ecount T h : Int) - ((K30M.part T n h).length : Int) + 1)) H2
theorem sv_rings_in {K : PySem.W.Frag} {H : Hp} {x r : Addr} {n : Nat} {T : Ties} {h : Nat} (W : WebAt K H x n T) (hh : h < n) (hr : H r = some (.tup (natV (K30M.part T n h)))) : SpV (spRingsIn K) [.ref x, .ref r] H (.int ((ecount T h : Int) - ((K30M.part T n h).length : Int) + 1)) :=
  fun H1 e1 Q q E => ⟨x, n, T, r, h, rfl, W.mono e1, hh, e1 _ _ hr, q⟩
/-! ### a dict of tuples -/
def keyN (l : List Nat) : List Key := l.map fun (x : Nat) => .inl (x : Int)
theorem keyN_V (l : List Nat) : (keyN l).map kV = natV l := by
  unfold keyN natV
  rw [List.map_map]
  rfl
theorem keyN_inj {a b : List Nat} (h : keyN a = keyN b) : a = b := by
  unfold keyN at h
  refine (List.map_inj_right fun x y z => ?_).mp h
  injection z with z
  omega
def tabT (ps : List (List Nat)) : List (List Key × V) := ps.map fun l => (keyN l, .bl true)
theorem tabT_put (ps : List (List Nat)) (l : List Nat) : putK (tabT ps) (keyN l) (.bl true) = if l ∈ ps then tabT ps else tabT (ps ++ [l]) := by
  have hany : ((tabT ps).any fun kv => decide (kv.1 = keyN l)) = decide (l ∈ ps) := by
    rw [Bool.eq_iff_iff, List.any_eq_true, decide_eq_true_iff]
    constructor
    · rintro ⟨kv, hm, e⟩
      obtain ⟨l', hl', rfl⟩ := List.mem_map.mp hm
      rw [← keyN_inj (of_decide_eq_true e)]
      exact hl'
    · intro hm
      exact ⟨_, List.mem_map.mpr ⟨l, hm, rfl⟩, decide_eq_true rfl⟩
  unfold putK
  rw [hany]
  by_cases h : l ∈ ps
  · rw [if_pos (decide_eq_true h), if_pos h]
    unfold tabT
    rw [List.map_map]
    refine List.map_congr_left fun l' _ => ?_
    show (if keyN l' = keyN l then (keyN l', V.bl true) else (keyN l', V.bl true)) = _
    rw [ite_self]
  · rw [if_neg (by rw [decide_eq_false h]; exact Bool.false_ne_true), if_neg h]
    unfold tabT
    rw [List.map_append]
    rfl
/-- the first ones of F 0, F 1, .. -/
def firsts (F : Nat → List Nat) : Nat → List (List Nat)
  | 0 => []
  | i + 1 => if F i ∈ firsts F i then firsts F i else firsts F i ++ [F i]
theorem firsts_nodup (F : Nat → List Nat) : ∀ i, (firsts F i).Nodup
  | 0 => List.nodup_nil
  | i + 1 => by
    unfold firsts
    by_cases h : F i ∈ firsts F i
    · rw [if_pos h]; exact firsts_nodup F i
    · rw [if_neg h, List.nodup_append]
      exact ⟨firsts_nodup F i, List.nodup_cons.mpr ⟨by simp, List.nodup_nil⟩, fun a ha b hb z => h (by rw [← List.mem_singleton.mp hb, ← z]; exact ha)⟩
theorem firsts_mem (F : Nat → List Nat) (l : List Nat) : ∀ i, l ∈ firsts F i ↔ ∃ j, j < i ∧ F j = l
  | 0 => ⟨fun h => (nomatch h), fun ⟨j, hj, _⟩ => absurd hj (Nat.not_lt_zero j)⟩
  | i + 1 => by
    have ih := firsts_mem F l i
    unfold firsts
    constructor
    · intro h
      by_cases hm : F i ∈ firsts F i
      · rw [if_pos hm] at h
        obtain ⟨j, hj, e⟩ := ih.mp h
        exact ⟨j, Nat.lt_succ_of_lt hj, e⟩
      · rw [if_neg hm] at h
        rcases List.mem_append.mp h with h | h
        · obtain ⟨j, hj, e⟩ := ih.mp h
          exact ⟨j, Nat.lt_succ_of_lt hj, e⟩
        · exact ⟨i, Nat.lt_succ_self i, (List.mem_singleton.mp h).symm⟩
    · rintro ⟨j, hj, e⟩
      have hl : l ∈ firsts F i ∨ F i = l := by
        rcases Nat.lt_succ_iff_lt_or_eq.mp hj with hj | rfl
        · exact .inl (ih.mpr ⟨j, hj, e⟩)
        · exact .inr e
      by_cases hm : F i ∈ firsts F i
      · rw [if_pos hm]
        exact hl.elim id fun z => z ▸ hm
      · rw [if_neg hm]
        exact hl.elim (List.mem_append_left _) fun z => List.mem_append_right _ (by rw [z]; exact List.mem_singleton.mpr rfl)
theorem firsts_len (F : Nat → List Nat) : ∀ i, (firsts F i).length ≤ i
  | 0 => Nat.le_refl 0
  | i + 1 => by
    have := firsts_len F i
    unfold firsts
    by_cases h : F i ∈ firsts F i
    · rw [if_pos h]; omega
    · rw [if_neg h, List.length_append, List.length_singleton]; omega
section
variable {K : PySem.W.Frag} {σ : L2.St} {H : Hp} {tl tk : TE} {wi : TI} {n : Nat} {g : TG} {vs : List Nat} {YY : Nat → V → Hp → Prop}
theorem ed_dcT (src : Src wi σ H H n YY) (hn : n ≤ 40000) (F : Nat → List Nat)
    (hs : ∀ i x H1, Ex H H1 → i < n → YY i x H1 → ∀ Q : L2.St → Hp → Prop, (∀ σ2, wipe σ2 vs = wipe σ vs → EvU tk σ2 H1 (natV (F i)) → Q σ2 H1) → g x (wipe σ vs) H1 Q) :
    ∀ H1, Ex H H1 → ∀ Q : VK, (∀ p H2, H1 p = none → Ex H1 H2 → H2 p = some (.dT (tabT (firsts F n))) → Q (.ref p) H2) → tDcT wi g tYes tk (tC (.bl true)) vs σ H1 Q := fun H1 e1 Q q => src H1 e1 _ fun J H2 Y G e2 W hG hY Dl hD => by
  refine ⟨fun i m H' => m = n - i ∧ i ≤ n ∧ Ex H2 H' ∧ H' Dl = some (.dT (tabT (firsts F i))), ⟨n, by simp, Nat.zero_le _, Ex.new hD, upd_same⟩, ?_⟩
  rintro i m H3 ⟨rfl, hi, ex, hd⟩
  have gg := hG H3 ((e1.trans e2).trans ex)
  by_cases hlt : i < n
  · refine .inr ⟨W.goes i H3 hlt gg, fun H' => Ex H2 H' ∧ H' Dl = some (.dT (tabT (firsts F (i + 1)))), fun H' p => ⟨n - (i + 1), by omega, rfl, hlt, p.1, p.2⟩, fun x H4 y => ?_⟩
    obtain ⟨e3, yy⟩ := hY i H3 x H4 hlt ((e1.trans e2).trans ex) (W.yields i H3 x H4 hlt gg y)
    refine hs i x H4 ((e1.trans e2).trans (ex.trans e3)) hlt yy _ fun σ2 hw hk => ⟨hw, ?_⟩
    refine iteT (B := Ex H2 H4 ∧ H4 Dl = some (.dT (tabT (firsts F (i + 1))))) ?_
    refine hk H4 (Ex.refl _) _ fun b H5 hb e5 h5 => ?_
    have hd5 := e5 _ _ (e3 _ _ hd)
    have hlen := firsts_len F i
    refine ⟨tabT (firsts F i), keyN (F i), b, rfl, by rw [keyN_V]; exact h5, hd5, ?_, ?_, ?_⟩
    · unfold tabT
      rw [List.length_map]
      exact sz_lt (by omega)
    · exact ((ex.trans e3).trans e5).mut hD
    · rw [upd_same, tabT_put]
      show some (HO.dT _) = some (HO.dT (tabT (if F i ∈ firsts F i then firsts F i else firsts F i ++ [F i])))
      by_cases hm : F i ∈ firsts F i
      · rw [if_pos hm, if_pos hm]
      · rw [if_neg hm, if_neg hm]
  · have e : i = n := by omega
    subst e
    exact .inl ⟨W.stops H3 gg, q Dl H3 (fresh_back e2 hD) (e2.trans ex) hd⟩
end
theorem s_ret3 {te : TE} {r1 r2 r3 : List V → Hp → VK → Prop} {σ : L2.St} {H : Hp} {D : Ends} (h : te σ H fun v H1 => r3 [v] H1 fun v2 H2 => r2 [v2] H2 fun v3 H3 => r1 [v3] H3 D.rt) :
    tRet (tCB r1 (tCons (tCB r2 (tCons (tCB r3 (tCons te tNil)) tNil)) tNil)) D σ H := h
theorem perm_lift {α β : Type} {f : α → β} : ∀ {ys : List β} {l : List α}, ys.Perm (l.map f) → ∃ zs : List α, zs.Perm l ∧ zs.map f = ys
  | [], l, h => by
    have : l = [] := by
      have := h.length_eq
      rw [List.length_map] at this
      exact List.eq_nil_of_length_eq_zero this.symm
    subst this
    exact ⟨[], List.Perm.refl _, rfl⟩
  | y :: ys, l, h => by
    obtain ⟨a, ha, rfl⟩ := List.mem_map.mp (h.mem_iff.mp List.mem_cons_self)
    obtain ⟨s, t, rfl⟩ := List.append_of_mem ha
    have h2 : (f a :: ys).Perm (f a :: (s ++ t).map f) := by
      refine h.trans ?_
      rw [List.map_append, List.map_cons, List.map_append]
      exact List.perm_middle
    obtain ⟨zs, pz, e⟩ := perm_lift h2.cons_inv
    exact ⟨a :: zs, (pz.cons a).trans List.perm_middle.symm, by rw [List.map_cons, e]⟩
/-- tuples of names, at their places -/
structure TupsAt (H : Hp) (qs : List Addr) (ps : List (List Nat)) : Prop where
  len : qs.length = ps.length
  at_ : ∀ (i : Nat) q l, qs[i]? = some q → ps[i]? = some l → H q = some (.tup (natV l))
theorem TupsAt.ex {H H' : Hp} {qs : List Addr} {ps : List (List Nat)} (t : TupsAt H qs ps) (e : Ex H H') : TupsAt H' qs ps := ⟨t.len, fun i q l a b => e _ _ (t.at_ i q l a b)⟩
theorem TupsAt.back {H : Hp} {qs : List Addr} {ps : List (List Nat)} (t : TupsAt H qs ps) {i : Nat} {v : V} (h : (qs.map V.ref)[i]? = some v) : ∃ q l, v = .ref q ∧ ps[i]? = some l ∧ H q = some (.tup (natV l)) := by
  rw [List.getElem?_map] at h
  cases hr : qs[i]? with
  | none => rw [hr] at h; cases h
  | some r =>
    rw [hr] at h
    cases h
    have hi : i < ps.length := by
      rw [← t.len]
      exact (List.getElem?_eq_some_iff.mp hr).1
    exact ⟨r, ps[i], rfl, List.getElem?_eq_getElem hi, t.at_ i r _ hr (List.getElem?_eq_getElem hi)⟩
theorem isKeys_tups {H : Hp} : ∀ {ps : List (List Nat)} {bs : List Addr}, IsKeys H (tabT ps) bs → ∀ z ∈ bs.zip ps, H z.1 = some (.tup (natV z.2))
  | [], _, h => by
    cases h
    intro z hz
    simp at hz
  | l :: ps, _, h => by
    cases h with
    | cons a t =>
      intro z hz
      rw [List.zip_cons_cons] at hz
      rcases List.mem_cons.mp hz with e | hz
      · subst e
        have : H _ = some (.tup ((keyN l).map kV)) := a
        rw [keyN_V] at this
        exact this
      · exact isKeys_tups t z hz
theorem isKeys_len {H : Hp} {kvs : List (List Key × V)} {bs : List Addr} (h : IsKeys H kvs bs) : kvs.length = bs.length := Paired.length h
def spPartsOf (K : PySem.W.Frag) : Sp := fun vs H Q _ => ∃ (x : Addr) (n : Nat) (T : Ties), vs = [.ref x] ∧ WebAt K H x n T ∧
  ∀ p H2 qs ps, H p = none → Ex H H2 → H2 p = some (.tup (qs.map V.ref)) → TupsAt H2 qs ps → Parts n T ps → Q (.ref p) H2
section
variable {P : Program} {w : World} {K : PySem.W.Frag} {mg : Str → Option Value} {base : Heap}
theorem sc_rings_in : FnScope ["web", "part", "pair"] ["web", "part"] (defScope (top 25)) := ⟨rfl, rfl, rfl, by decide +kernel, rfl, by decide +kernel, by decide +kernel⟩
theorem k_rings_in (T : Txt K mg base) : Df P w K mg base 1 "rings_in" ["web", "part"] (spRingsIn K) := by
  obtain ⟨fd, F⟩ := T.d_rings_in
  refine Df.mk1 (i := 25) T.g_rings_in F (fun _ _ _ _ _ _ us hl => match us, hl with | [_, _], _ => rfl) (F.ok sc_rings_in (fun vs H Q E h => ?_) (fun cdv A outer s H vs Q E hr h => ?_))
  · obtain ⟨_, _, _, _, _, rfl, _⟩ := h
    rfl
  · obtain ⟨x, n, S, r, h, rfl, W, hh, hr1, k⟩ := h
    refine ⟨_, PSs.nox (pss_one (ps_ret (pe_op op_add (pe_op op_sub (pe_callB (bc_len (K := K) rfl) (by rfl) T.f_len bt_len (pa_cons (pe_lc (own := [("pair", 2)]) (g := (gName 2)) rfl sc_rings_in.nd (pi_tup (bpe_fld (K := K) rfl (pv 0) rfl)) (blkOk_by (N := ["web", "part", "pair"]) (sc := defScope (top 25)) (by decide +kernel)) (fun _ _ _ _ _ => (pg_name (i := 2) sc_rings_in.nd rfl (Or.inl rfl))) (fun _ _ _ _ _ => (pts_one (pt_cmpR (bin_seq (K := K) rfl) (pe_ix (bix_tup (K := K) rfl) (pv 2) pe_int (fun _ _ => rfl)) (pv 1) (by with_unfolding_all rfl)))) (fun _ _ _ _ _ => (pv 2))) pa_nil)) (pe_callB (bc_len (K := K) rfl) (by rfl) T.f_len bt_len (pa_cons (pv 1) pa_nil))) pe_int))), ?_⟩
    obtain ⟨dx, tt, rs, hx, ht⟩ := W.ex
    have hl : (rs.map V.ref).length = S.length := by rw [List.length_map, ht.len]
    have t20 := W.good.t20
    have := el_lcW (vs := [2]) (te := tVar 2) (tt := tTest (tOp (rIn K false) (tOp (rIxT K) (tVar 2) (tC (.int 0))) (tVar 1))) (src_tup (K := K) (H0 := H) (ev_ties T (ev_var (σ := start ["web", "part", "pair"] [V.ref x, V.ref r]) (i := 0) rfl) hx) (Ex.refl H) (st_of ht.at_)) (by omega)
      (fun i => connB S h (ins S i).1) (fun i => (rs.map V.ref).getD i .non) (g := gName 2) fun i v H1 e1 hi hv Q q => by
      obtain ⟨r', p, rfl, hp, hpa⟩ := ht.back hv
      refine q _ rfl ?_ fun _ => ?_
      · refine et_is (et_test (ev_op (ev_ixT (i := 0) (ev_var rfl) ev_c (st_of (e1 _ _ hpa)) rfl) (ev_var rfl) (rv_isT (st_of (e1 _ _ hr1)) rfl (natV_flat _)))) ?_
        rw [inV_nat, get_ins hp, Bool.eq_iff_iff, decide_eq_true_iff, mem_part, connB_iff]
        exact ⟨fun z => z.2, fun z => ⟨(W.good.get hp).1, z⟩⟩
      · refine ev_is (ev_var rfl) ?_
        rw [List.getD_eq_getElem?_getD, hv]
        rfl
    refine s_ret (v := .int ((ecount S h : Int) - ((K30M.part S n h).length : Int) + 1)) ?_ k
    refine ev_is (ev_op (ev_op (ev_lenN this) (ev_lenA (ev_var rfl) (.inr (st_of hr1))) rv_I0) ev_c rv_I0) ?_
    rw [given_length, natV_len, hl, ecount_range]
theorem sc_parts_of : FnScope ["web", "house"] ["web"] (defScope (top 24)) := ⟨rfl, rfl, rfl, by decide +kernel, rfl, by decide +kernel, by decide +kernel⟩
theorem k_parts_of (T : Txt K mg base) : Df P w K mg base 3 "parts_of" ["web"] (spPartsOf K) := by
  obtain ⟨fd, F⟩ := T.d_parts_of
  have D_joined_houses := k_joined_houses (P := P) (w := w) T
  refine Df.mk1 (i := 24) T.g_parts_of F (fun _ _ _ _ _ _ us hl => match us, hl with | [_], _ => rfl) (F.ok sc_parts_of (fun vs H Q E h => ?_) (fun cdv A outer s H vs Q E hr h => ?_))
  · obtain ⟨_, _, _, rfl, _⟩ := h
    rfl
  · obtain ⟨x, n, S, rfl, W, k⟩ := h
    have hu1 : (A.deeper (envOfC "parts_of" (defScope (top 24)) s.heap.objs.size (He.ga K "parts_of") cdv)).units + 1 < cLine := by have := hr.units; omega
    have n1 := W.good.n1
    have n12 := W.good.n12
    obtain ⟨dx, tt, rs, hx, ht⟩ := W.ex
    refine ⟨_, PSs.nox (pss_one (ps_ret (pe_callTy (bc_tup (K := K) rfl) (by rfl) T.f_tuple bt_tuple (pa_cons (pe_callB (bc_sortedTI (K := K) rfl) (by rfl) T.f_sorted bt_sorted (pa_cons (pe_callTy (call_list_dT rfl) (by rfl) T.f_list bt_list (pa_cons (pe_dcT hu1 (own := [("house", 1)]) (g := (gName 1)) rfl sc_parts_of.nd (pi_range1 (by rfl) T.f_range (pa_cons (bpe_fld (K := K) rfl (pv 0) rfl) pa_nil)) (blkOk_by (N := ["web", "house"]) (sc := defScope (top 24)) (by decide +kernel)) (fun _ _ _ _ _ => (pg_name (i := 1) sc_parts_of.nd rfl (Or.inl rfl))) (fun _ _ _ _ _ => pts_nil) (fun _ _ _ _ _ => (pe_d0 D_joined_houses hr (pa_cons (pv 0) (pa_cons (pv 1) pa_nil)))) (fun _ _ _ _ _ => pe_bl)) pa_nil)) pa_nil)) pa_nil)))), ?_⟩
    refine s_ret3 (ed_dcT (vs := [1]) (σ := start ["web", "house"] [V.ref x]) (g := gName 1) (tk := tCall (spJoined K) [] E0 (tCons (tVar 0) (tCons (tVar 1) tNil))) (src_r1 (m := (n : Int)) (ea_cons (ev_houses T (ev_var (i := 0) rfl) hx) ea_nil) (by omega)) (by omega) (fun i => K30M.part S n i) (fun i v H1 e1 hi hv Q q => ?_) H (Ex.refl H) _ fun d H1 hd e1 h1 => ?_)
    · obtain rfl : v = .int (i : Nat) := hv
      exact q _ rfl (SpU.call (ea_cons (ev_var rfl) (ea_cons (ev_var rfl) ea_nil)) (su_joined (W.mono e1) (by omega)))
    · refine ⟨d, _, rfl, .inl h1, fun l bs hl hk => ?_⟩
      have ln := isKeys_len hk
      have hz := isKeys_tups hk
      have el : Ex H1 (upd H1 l (.lst (bs.map V.ref))) := Ex.new hl
      have e0 : (bs.zip (firsts (fun i => K30M.part S n i) (n : Int).toNat)).map (fun z => V.ref z.1) = bs.map V.ref := by
        rw [show (fun z : Addr × List Nat => V.ref z.1) = V.ref ∘ Prod.fst from rfl, ← List.map_map, List.map_fst_zip]
        unfold tabT at ln
        rw [List.length_map] at ln
        omega
      refine ⟨l, bs.map V.ref, rfl, sq_of upd_same, fun v hv => ?_, fun ys q hp hq => ?_⟩
      · rw [← e0] at hv
        obtain ⟨z, hm, rfl⟩ := List.mem_map.mp hv
        refine ⟨z.1, z.2.map fun (x : Nat) => (x : Int), rfl, ?_, ?_⟩
        · rw [List.map_map]
          exact el _ _ (hz z hm)
        · obtain ⟨i, hi, e⟩ := (firsts_mem _ _ _).mp (List.of_mem_zip hm).2
          rw [← e]
          intro zz
          have hin : i ∈ K30M.part S n i := mem_part.mpr ⟨by omega, Conn.refl _⟩
          have : K30M.part S n i = [] := List.map_eq_nil_iff.mp zz
          rw [this] at hin
          cases hin
      · rw [← e0] at hp
        obtain ⟨zs, pz, rfl⟩ := perm_lift hp
        have eq : Ex H1 (upd (upd H1 l (.lst (bs.map V.ref))) q (.lst (zs.map fun z => V.ref z.1))) := el.trans (Ex.new hq)
        refine ⟨q, _, rfl, .inl ⟨sq_of upd_same, fun r hr2 => ?_⟩⟩
        have er := eq.trans (Ex.new (o := .tup (zs.map fun z => V.ref z.1)) hr2)
        refine k r _ (zs.map Prod.fst) (zs.map Prod.snd) (fresh_back (e1.trans eq) hr2) (e1.trans er) ?_ ⟨by rw [List.length_map, List.length_map], fun i a b ha hb => ?_⟩ ?_
        · rw [upd_same, List.map_map]
          rfl
        · rw [List.getElem?_map] at ha hb
          cases hzi : zs[i]? with
          | none => rw [hzi] at ha; cases ha
          | some z =>
            rw [hzi] at ha hb
            cases ha
            cases hb
            exact er _ _ (hz z (pz.mem_iff.mp (List.mem_of_getElem? hzi)))
        · have p2 : (zs.map Prod.snd).Perm (firsts (fun i => K30M.part S n i) (n : Int).toNat) := by
            refine (pz.map Prod.snd).trans ?_
            rw [List.map_snd_zip]
            unfold tabT at ln
            rw [List.length_map] at ln
            omega
          refine ⟨p2.nodup_iff.mpr (firsts_nodup _ _), fun l => ?_⟩
          rw [p2.mem_iff, firsts_mem]
          exact ⟨fun ⟨j, hj, e⟩ => ⟨j, by omega, e.symm⟩, fun ⟨j, hj, e⟩ => ⟨j, by omega, e.symm⟩⟩
end
end K30
namespace K30
open PySem PySem.Spec PyProof.Rows L2 Evl K30M
theorem ecount_mem {n : Nat} {T : Ties} (en : Ends n T) (h : Nat) : T.countP (fun p => decide (p.1 ∈ K30M.part T n h)) = ecount T h := by
  unfold ecount
  refine List.countP_congr fun p hp => ?_
  rw [decide_eq_true_iff, mem_part, connB_iff]
  exact ⟨fun z => z.2, fun z => ⟨(en p hp).1, z⟩⟩
def ringsL (T : Ties) (l : List Nat) : Int := (T.countP (fun p => decide (p.1 ∈ l)) : Int) - (l.length : Int) + 1
theorem ringsL_part {n : Nat} {T : Ties} (en : Ends n T) (h : Nat) : ringsL T (K30M.part T n h) = (ecount T h : Int) - ((K30M.part T n h).length : Int) + 1 := by
  unfold ringsL
  rw [ecount_mem en]
theorem tree_rings {n : Nat} {T : Ties} (en : Ends n T) {ps : List (List Nat)} (hp : Parts n T ps) : (∀ l ∈ ps, ringsL T l = 0) ↔ Tree n T := by
  constructor
  · intro h x hx
    have := h _ ((hp.mem _).mpr ⟨x, hx, rfl⟩)
    rw [ringsL_part en] at this
    omega
  · intro t l hl
    obtain ⟨x, hx, rfl⟩ := (hp.mem l).mp hl
    rw [ringsL_part en]
    have := t x hx
    omega
def spIsForest (K : PySem.W.Frag) : Sp := fun vs H Q _ => ∃ (x : Addr) (n : Nat) (T : Ties), vs = [.ref x] ∧ WebAt K H x n T ∧ ∀ b H2, (b = true ↔ Tree n T) → Ex H H2 → Q (.bl b) H2
theorem lc_bind {K : PySem.W.Frag} {tl : TE} {g : TG} {tt : TT} {te : TE} {vs : List Nat} {σ : L2.St} {H : Hp} {Q : VK} (h : tl σ H fun x H1 => tLc (iTup K (tC x)) g tt te vs σ H1 Q) : tLc (iTup K tl) g tt te vs σ H Q := h
theorem s_ret1 {te : TE} {r1 : List V → Hp → VK → Prop} {σ : L2.St} {H : Hp} {D : Ends} (h : te σ H fun v3 H3 => r1 [v3] H3 D.rt) : tRet (tCB r1 (tCons te tNil)) D σ H := h
section
variable {P : Program} {w : World} {K : PySem.W.Frag} {mg : Str → Option Value} {base : Heap}
theorem sc_is_forest : FnScope ["web", "part"] ["web"] (defScope (top 26)) := ⟨rfl, rfl, rfl, by decide +kernel, rfl, by decide +kernel, by decide +kernel⟩
theorem k_is_forest (T : Txt K mg base) : Df P w K mg base 4 "is_forest" ["web"] (spIsForest K) := by
  obtain ⟨fd, F⟩ := T.d_is_forest
  have D_parts_of := k_parts_of (P := P) (w := w) T
  have D_rings_in := (k_rings_in (P := P) (w := w) T).mono (show 1 ≤ 3 by decide)
  refine Df.mk1 (i := 26) T.g_is_forest F (fun _ _ _ _ _ _ us hl => match us, hl with | [_], _ => rfl) (F.ok sc_is_forest (fun vs H Q E h => ?_) (fun cdv A outer s H vs Q E hr h => ?_))
  · obtain ⟨_, _, _, rfl, _⟩ := h
    rfl
  · obtain ⟨x, n, S, rfl, W, k⟩ := h
    refine ⟨_, PSs.nox (pss_one (ps_ret (pe_callB (bc_all (K := K) rfl rfl) (by rfl) T.f_all bt_all (pa_cons (pe_lc (own := [("part", 1)]) (g := (gName 1)) rfl sc_is_forest.nd (pi_tup (pe_d0 D_parts_of hr (pa_cons (pv 0) pa_nil))) (blkOk_by (N := ["web", "part"]) (sc := defScope (top 26)) (by decide +kernel)) (fun _ _ _ _ _ => (pg_name (i := 1) sc_is_forest.nd rfl (Or.inl rfl))) (fun _ _ _ _ _ => pts_nil) (fun _ _ _ _ _ => (pe_cmpR op_eq (pe_d0 D_rings_in hr (pa_cons (pv 0) (pa_cons (pv 1) pa_nil))) pe_int (nomark _)))) pa_nil)))), ?_⟩
    refine s_ret1 (lc_bind ?_)
    refine ⟨_, rfl, ?_⟩
    refine ⟨x, n, S, rfl, W, fun p H1 qs ps hp e1 h1 ht hP => ?_⟩
    have lp : (qs.map V.ref).length = ps.length := by rw [List.length_map, ht.len]
    have n12 := W.good.n12
    have lps : ps.length ≤ n := by
      have : (ps.map fun l => l).length ≤ n := by
        have h2 : ∀ l ∈ ps, ∃ h, h < n ∧ l = K30M.part S n h := fun l hl => (hP.mem l).mp hl
        have h3 : ps ⊆ (List.range n).map (fun h => K30M.part S n h) := fun l hl => by
          obtain ⟨h, hn, e⟩ := h2 l hl
          exact List.mem_map.mpr ⟨h, List.mem_range.mpr hn, e.symm⟩
        have h4 := hP.nd.length_le_of_subset h3
        rw [List.length_map, List.length_range] at h4
        rw [List.length_map]
        exact h4
      rwa [List.length_map] at this
    have hcomp := el_lcW (vs := [1]) (tt := tYes) (te := tOp rEq (tCall (spRingsIn K) [] E0 (tCons (tVar 0) (tCons (tVar 1) tNil))) (tC (.int 0))) (src_tup (K := K) (H0 := H1) (H := H1) (σ := start ["web", "part"] [V.ref x]) (ev_c (v := .ref p)) (Ex.refl H1) (st_of h1)) (by omega)
      (fun _ => true) (fun i => .bl (decide (ringsL S (ps.getD i []) = 0))) (g := gName 1) fun i v H2 e2 hi hv Q q => by
      obtain ⟨r, l, rfl, hl, hr2⟩ := ht.back hv
      refine q _ rfl (fun H3 e3 Q3 q3 => q3 H3 (Ex.refl _)) fun _ => ?_
      obtain ⟨h, hn, rfl⟩ := (hP.mem l).mp (List.mem_of_getElem? hl)
      refine ev_is (ev_op (SpV.call (ea_cons (ev_var rfl) (ea_cons (ev_var rfl) ea_nil)) (sv_rings_in (W.mono (e1.trans e2)) hn (e2 _ _ hr2))) ev_c (rv_eq rfl)) ?_
      rw [List.getD_eq_getElem?_getD, hl, Option.getD_some, ringsL_part W.good.ends, V.bl.injEq, decide_eq_decide]
      exact ⟨fun z => by injection z, fun z => by rw [z]⟩
    rw [given_all, lp] at hcomp
    refine hcomp H1 (Ex.refl _) _ fun l H2 hl e2 h2 => ⟨l, (List.range ps.length).map fun i => decide (ringsL S (ps.getD i []) = 0), rfl, sq_of (by rw [h2, List.map_map]; rfl), ?_⟩
    refine k _ H2 ?_ (e1.trans e2)
    rw [← tree_rings W.good.ends hP, List.all_map, List.all_eq_true]
    constructor
    · intro h l hl
      obtain ⟨i, hi, rfl⟩ := List.mem_iff_getElem.mp hl
      have := of_decide_eq_true (h i (List.mem_range.mpr hi))
      rw [List.getD_eq_getElem?_getD, List.getElem?_eq_getElem hi, Option.getD_some] at this
      exact this
    · intro h i hi
      have hi := List.mem_range.mp hi
      refine decide_eq_true ?_
      rw [List.getD_eq_getElem?_getD, List.getElem?_eq_getElem hi, Option.getD_some]
      exact h _ (List.getElem_mem hi)
end
end K30
namespace K30
/-! ## an own error over a built-in one, whose __init__ says super().__init__(text) and keeps its one argument -/
namespace Er
open PySem PySem.W PySem.Calls PyProof.Rows PySem.HandSPX
def iA (fld : Str) (p1 p2 : Pos) : Arguments := { posonlyargs := [], args := [{ arg := "self", annotation := none, pos := p1 }, { arg := fld, annotation := none, pos := p2 }], vararg := none, kwonlyargs := [], kw_defaults := [], kwarg := none, defaults := [] }
def iB (fld msg : Str) (j : Nat) (q1 q2 q3 q4 q5 q6 q7 q8 q9 q10 : Pos) : List Stmt :=
  [.Expr (.Call (.Attribute (.Call (.Name "super" q1) [] [] q2) "__init__" q3) [.Constant (.str msg) j q4] [] q5) q6, .Assign [.Attribute (.Name "self" q7) fld q8] (.Name fld q9) q10]
def iS (fld : Str) : Scope := { kind := .function, names := [("self", .local), (fld, .local), ("__class__", .free), ("super", .globalImplicit)], isGenerator := false, isCoroutine := false, more := [] }
/-! ### facts of built-in classes -/
/-- the built-in __init__ i of the class B, called by super -/
structure SupF (B i : String) : Prop where
  kxs : KxsFacts B i
  kind : builtinKind i = some .slot
  row : Manifest.signature? i = some ⟨.positional, "*", B, .self, [⟨"args", .varPos, false⟩]⟩
  star : (B != "*") = true
  entry : entryFor table i = some Builtin.«BaseException.__init__»
  plain : plainId i = true
theorem sup_VE : SupF "ValueError" "ValueError.__init__" := ⟨kxs_ValueError, F.excBase_ValueError.initKind, F.excBase_ValueError.initRow, F.excBase_ValueError.noStar, F.excBase_ValueError.initEntry, F.excBase_ValueError.init.plain⟩
theorem sup_KE : SupF "KeyError" "KeyError.__init__" where
  kxs := ⟨by show builtinType _ = _; rw [builtinType_eq_fast]; kernel_rfl, by first | kernel_rfl | rfl⟩
  kind := by kernel_rfl
  row := by kernel_rfl
  star := by decide +kernel
  entry := entryFor_alias (id' := "BaseException.__init__") (by rw [fastTable_eq_tree]; kernel_rfl) (by first | rfl | decide +kernel) (by decide +kernel) (by rw [fastTable_eq_tree]; kernel_rfl)
  plain := by decide +kernel
abbrev bmV : List Value := [.type "ValueError", .type "Exception", .type "BaseException", .type "object"]
abbrev bmK : List Value := [.type "KeyError", .type "LookupError", .type "Exception", .type "BaseException", .type "object"]
/-- the __new__ of the class B, where bmB stands behind the own classes -/
structure NewF (B newId : String) (bmB : List Value) : Prop where
  ex : ∃ initId bm, ExcBaseFacts B newId initId bm
  hasB : bmB.contains (.type B) = true
  noA : bmB.contains (.type "AttributeError") = false
  noN : bmB.contains (.type "NameError") = false
theorem new_VE : NewF "ValueError" "ValueError.__new__" bmV := ⟨⟨_, _, F.excBase_ValueError⟩, by decide +kernel, by decide +kernel, by decide +kernel⟩
theorem new_KE : NewF "LookupError" "LookupError.__new__" bmK := ⟨⟨_, _, F.excBase_LookupError⟩, by decide +kernel, by decide +kernel, by decide +kernel⟩
theorem store_KE : StoreFacts "KeyError" bmK "object.__setattr__" "object" where
  mro := by kernel_rfl
  slot := .of (owner := "object") (n := "__setattr__") (by rw [typeLookup_type, builtinLookup_eq_fast]; kernel_rfl) (by decide +kernel) (by decide +kernel) (by decide +kernel)
    (by first | exact .inl (by decide +kernel) | exact .inr (by decide +kernel)) (by rw [isSubtype_type]; kernel_rfl)
  entry := F.entry_object_sa
  kind := by decide +kernel
  split := by decide +kernel
  hasOwner := by decide +kernel
  args := fun a b c => by unfold argsOk; kernel_rfl
  passes := fun self => by kernel_rfl
/-! ### such a class called -/
section
variable {M : Model} {A : Around} {E : Value → Shared → Prop} {h : Heap} {g : Array GenState} {d : Drawn} {t : Nat} {os : OsState}
variable {nm q : Str} {C N : Addr} {bs bm bmB : List Value} {hdct : Bool} {sn : List Str} {sub : List Value} {ab : Bool} {col : Option Bool} {dd : Option Addr} {k0 k1 k2 k3 k5 : Option Value} {B newId i : String}
theorem check_new (F : NewF B newId bmB) (hT : ∀ X : String, bm.contains (.type X) = bmB.contains (.type X)) {rest : List Value} {Q : Unit → Shared → Prop}
    (hC : h.get? C = some (excClassObj nm q C N bs bm hdct sn sub ab col dd k0 k1 k2 k3 k5 newId)) (hq : Q () ⟨h, g, d, t, os⟩) : wpAny M A (checkBuiltinCall newId ⟨.ref C :: rest, []⟩) Q E ⟨h, g, d, t, os⟩ := by
  obtain ⟨_, _, G⟩ := F.ex
  have hcont : (Value.ref C :: bm).contains (.type B) = true := by rw [List.contains_cons, hT, F.hasB, Bool.or_true]
  have hstar := G.noStar
  simp only [checkBuiltinCall, G.newKind, G.newSplit, G.newRow]
  repeat (first | refine wpAny_loadPart_at hC ?_ | (refine wpAny_isSubtype_exc hC ?_; rw [hcont]) | refine wpAny_staticBase_exc hC ?_ | refine wpAny_madeBy_exc hC ?_ | simp only [bne_self_eq_false, Bool.false_eq_true, if_false] | wp_step)
  exact hq
theorem check_sup (F : SupF B i) {e : Addr} {oe : Obj} {rest : List Value} {Q : Unit → Shared → Prop}
    (hC : h.get? C = some (excClassObj nm q C N bs bm hdct sn sub ab col dd k0 k1 k2 k3 k5 newId)) (he : h.get? e = some oe) (hcls : oe.cls = .ref C) (hq : Q () ⟨h, g, d, t, os⟩) : wpAny M A (checkBoundCall i ⟨.ref e :: rest, []⟩) Q E ⟨h, g, d, t, os⟩ := by
  have hshort := F.star
  simp only [checkBoundCall, F.kind, F.row]
  repeat (first | (with_reducible refine wpAny_loadPart_at he ?_; rw [hcls]) | with_reducible refine wpAny_loadPart_at hC ?_ | wp_step)
  refine wpAny_onRaise ?_
  rw [show ∀ (a b : String) (n : Nat), Bind.check ⟨.positional, "*", B, .self, [⟨"args", .varPos, false⟩]⟩ a b n (List.map (fun x => x.fst) ({ pos := Value.ref e :: rest } : Args).kw) = pure () from
    fun a b n => check_star_args _ _ _ _ _ _]
  exact wpAny_pure hq
end
section
variable {prog : Program} {w : World} {A : Around} {E : Value → Shared → Prop} {R : Result → Shared → Prop} {h : Heap} {g : Array GenState} {d : Drawn} {t : Nat} {os : OsState}
variable {nm q : Str} {C N : Addr} {bs bm bmB : List Value} {hdct : Bool} {sn : List Str} {sub : List Value} {ab : Bool} {col : Option Bool} {dd : Option Addr} {k0 k1 k2 k3 k5 : Option Value} {B newId i : String}
theorem new_obj (F : NewF B newId bmB) (hT : ∀ X : String, bm.contains (.type X) = bmB.contains (.type X)) {rest : List Value}
    (hC : h.get? C = some (excClassObj nm q C N bs bm hdct sn sub ab col dd k0 k1 k2 k3 k5 newId))
    (hq : R (.ok (.ret (.ref (h.objs.size + 1)))) ⟨(h.push { cls := .type "tuple", data := .seq rest.toArray }).push
      { cls := .ref C, data := .fields #[.ref h.objs.size, .none, .none, .none, .bool false, .none] }, g, d, t, os⟩) (hrest : rest.length ≤ sizeLine) :
    codeAny (model prog w) A (.builtin newId ⟨.ref C :: rest, []⟩) R ⟨h, g, d, t, os⟩ := by
  obtain ⟨_, _, G⟩ := F.ex
  have hends := G.ends
  have hcB : (Value.ref C :: bm).contains (.type B) = true := by rw [List.contains_cons, hT, F.hasB, Bool.or_true]
  have hcA : (Value.ref C :: bm).contains (.type "AttributeError") = false := by rw [List.contains_cons, hT, F.noA]; rfl
  have hcN : (Value.ref C :: bm).contains (.type "NameError") = false := by rw [List.contains_cons, hT, F.noN]; rfl
  refine codeAny_builtinAt G.entry ?_
  unfold Builtin.«BaseException.__new__»
  refine _root_.PySem.wpAt_bind ?_
  show _root_.PySem.wpAt _ _ _ (stack >>= _) _ _ _
  refine _root_.PySem.wpAt_bind (_root_.PySem.wpAt_stack fun p below => _root_.PySem.wpAt_of_wpAny ?_)
  wp_walk
  refine _root_.PySem.wpAt_of_wpAny ?_
  rw [G.owner]
  repeat (first | with_reducible refine wpAny_madeHere_exc G.canon hC ?_ | with_reducible refine wpAny_loadPart_at hC ?_ | (with_reducible refine wpAny_isSubtype_exc hC ?_; first | rw [hcB] | rw [hcA] | rw [hcN]) | wp_step)
  show R _ _
  rw [Heap.size_push]
  exact hq
theorem type_call (F : NewF B newId bmB) (hT : ∀ X : String, bm.contains (.type X) = bmB.contains (.type X)) {rest : List Value} {fI : Addr} {Q : Fin → Shared → Prop}
    (hC : h.get? C = some (excClassObj nm q C N bs bm hdct sn sub ab col dd k0 k1 k2 k3 k5 newId))
    (hi : W.Looks (model prog w) h (typeLookup (.ref C) "__init__") (some (.ref fI))) (hb : ∀ self, W.Looks (model prog w) h (bindSpecial (.ref fI) self) (.ref fI, [self])) (hrest : rest.length ≤ sizeLine)
    (hq : codeAny (model prog w) A (.call (.ref fI) ⟨.ref (h.objs.size + 1) :: rest, []⟩)
      (fun r s' => match r with | .ok (.ret v) => v = .none ∧ Q (.done (.ret (.ref (h.objs.size + 1)))) s' | .ok _ => False | .error e => E e s')
      ⟨(h.push (W.kdv_tup rest)).push (excO C h.objs.size), g, d, t, os⟩) :
    wpAny (model prog w) A (Builtin.«type.__call__» ⟨.ref C :: rest, []⟩) Q E ⟨h, g, d, t, os⟩ := by
  obtain ⟨_, _, G⟩ := F.ex
  repeat (first | with_reducible refine wpAny_loadPart_at hC ?_ | with_reducible refine wpAny_madeBy_exc hC ?_ | wp_step)
  refine codeAny_call_builtin_code (Code.quiet_builtin _ G.quiet) (check_new F hT hC ?_)
  refine new_obj F hT hC ?_ hrest
  show wpAny _ _ _ _ _ _
  have k : ∀ b o, h.get? b = some o → ((h.push (W.kdv_tup rest)).push (excO C h.objs.size)).get? b = some o := fun b o e => Heap.get?_push_of_some _ (Heap.get?_push_of_some _ e)
  have hC₁ := k _ _ hC
  have hget : ((h.push (W.kdv_tup rest)).push (excO C h.objs.size)).get? (h.objs.size + 1) = some (excO C h.objs.size) := by heap_get
  have hcC : (Value.ref C :: bm).contains (.ref C) = true := by simp
  have i1 := hi.keeps k
  have b1 := (hb (.ref (h.objs.size + 1))).keeps k
  unfold isInstance
  repeat (first | with_reducible refine wpAny_loadPart_at hget ?_ | (with_reducible refine wpAny_isSubtype_exc hC₁ ?_; rw [hcC]) | wp_step)
  show wpAny _ _ (typeLookup (.ref C) _) _ _ _
  refine i1.at ?_
  refine wpAny_holding (wpAny_bind (b1.at ?_))
  refine wpAny_bind (wpAny_call (codeAny_mono hq fun r s' z => ?_))
  rcases r with e | (v | _ | _ | _) <;> first | exact z | exact z.elim | skip
  obtain ⟨rfl, z⟩ := z
  first
    | exact wpAny_pure (wpAny_pure z)
    | (wp_walk; exact z)
theorem call_cls (F : NewF B newId bmB) (hT : ∀ X : String, bm.contains (.type X) = bmB.contains (.type X)) {rest : List Value} {fI : Addr}
    (hC : h.get? C = some (excClassObj nm q C N bs bm hdct sn sub ab col dd k0 k1 k2 k3 k5 newId))
    (hi : W.Looks (model prog w) h (typeLookup (.ref C) "__init__") (some (.ref fI))) (hb : ∀ self, W.Looks (model prog w) h (bindSpecial (.ref fI) self) (.ref fI, [self])) (hrest : rest.length ≤ sizeLine)
    (hq : codeAny (model prog w) (A.under (.builtin "type.__call__" ⟨.ref C :: rest, []⟩)) (.call (.ref fI) ⟨.ref (h.objs.size + 1) :: rest, []⟩) (W.InitBack (h.objs.size + 1) R)
      ⟨(h.push (W.kdv_tup rest)).push (excO C h.objs.size), g, d, t, os⟩) :
    codeAny (model prog w) A (.call (.ref C) ⟨rest, []⟩) R ⟨h, g, d, t, os⟩ := by
  have f1 := tc_lookup
  have f2 := tc_bind (.ref C)
  have hTy : (⟨h, g, d, t, os⟩ : Shared).TypeIs (.ref C) "type" := ⟨_, hC, rfl⟩
  refine codeAny_of_tree ?_
  show wpAny _ _ (callAny (.ref C) _) _ _ _
  repeat (any_goals (first | assumption | with_reducible refine wpAny_loadPart_at hC ?_ | wp_step))
  refine ⟨rfl, ?_⟩
  refine codeAny_call_builtin_at (Code.quiet_builtin _ (by decide +kernel)) entry_typeCall (wpAny_check_type_call_sub hC (type_call F hT hC hi hb hrest ?_))
  refine codeAny_mono hq fun r s' z => ?_
  rcases r with e | (v | _ | _ | _) <;> exact z
/-- super().__init__(..): the bound __init__ called -/
theorem call_sup (F : SupF B i) {u e t0 : Addr} {rest : List Value} {Q : Value → Shared → Prop}
    (hC : h.get? C = some (excClassObj nm q C N bs bm hdct sn sub ab col dd k0 k1 k2 k3 k5 newId)) (he : h.get? e = some (excO C t0)) (hu : h.get? u = some (kxs_mw i e)) (hrest : rest.length ≤ sizeLine)
    (hq : ∀ h' t1, (∀ b o, b ≠ e → h.get? b = some o → h'.get? b = some o) → h'.get? e = some (excO C t1) → Q .none ⟨h', g, d, t, os⟩) :
    wpAny (model prog w) A (call (.ref u) rest) Q E ⟨h, g, d, t, os⟩ := by
  refine wpAny_call (codeAny_of_tree ?_)
  show wpAny _ A.in1 (callAny (.ref u) ⟨rest, []⟩) _ _ _
  simp only [callAny]
  refine wpAny_bind (wpAny_load hu ?_)
  simp only [kxs_mw, show (Value.type "method-wrapper" == Value.type "method" || Value.type "method-wrapper" == Value.type "builtin_function_or_method" || Value.type "method-wrapper" == Value.type "method-wrapper") = true by decide, if_true]
  refine W.KFB.if_so (by decide) ?_
  refine wpAny_bind (check_sup F hC he rfl ?_)
  refine wpAny_bind (wpAny_pure (wpAny_pure ?_))
  refine ⟨plainId_quiet F.plain _, codeAny_builtin F.entry ?_⟩
  refine exc_init_tree (cls := .ref C) (t0 := t0) (dv := none) (c2 := .none) (c3 := .none) (b4 := .bool false) he hrest fun h' k e' t' => hq h' _ k e'
end
end Er
end K30
namespace K30
namespace Er
open PySem PySem.W PySem.Calls PyProof.Rows PySem.HandSPX
open Builtin Builtin.ObjectAttr
/-- what the written part says of the error class nm, at C, its field fld, and of its __init__, at fI -/
structure ErrTxt (P : Program) (K : Frag) (mg : Str → Option Value) (nm fld msg qual : Str) (newId : String) (bmB : List Value) (BI iI : String) (C fI : Addr) : Prop where
  gC : mg nm = some (.ref C)
  cls : excInitIn K C bmB newId = true
  over : excOver K C bmB = true
  sa : findIn K (.ref C) "__setattr__" = some (some (.builtin "object.__setattr__"))
  ga : findIn K (.ref C) "__getattribute__" = some (some (.builtin "BaseException.__getattribute__"))
  gg : findIn K (.ref C) "__getattr__" = some none
  noF : findIn K (.ref C) fld = some none
  iC : findIn K (.ref C) "__init__" = some (some (.ref fI))
  tI : typeIn K (.ref fI) = some (.type "function")
  kC : keepIn K (.ref C) = true
  exC : subIn K (.ref C) (.type "BaseException") = some true
  tyC : typeIn K (.ref C) = some (.type "type")
  hdC : hasDictIn K C = true
  sup : ks_superIn K C C "__init__" = some (some (.builtin iI))
  subB : subIn K (.ref C) (.type BI) = some true
  op : nsIn K cStatics "thirdparty.any" = some none
  mroC : mroIn K C (.ref C) = some true
  msup : mg "super" = none
  top : (P.main.scope.names.lookup ("super" : Str)).isSome = false
  fn : ∃ (oc : Value) (od : Option Addr) (doc pm : Value) (an : Option Addr) (cda : Addr) (ct : Value) (osl : Array (Option Value)) (cc : Addr) (p1 p2 : Pos) (j : Nat) (q1 q2 q3 q4 q5 q6 q7 q8 q9 q10 : Pos), (q3.endLine == q5.line) = true ∧
    K.lookup fI = some ⟨oc, od, .func (fnX "__init__" qual (iA fld p1 p2) (iB fld msg j q1 q2 q3 q4 q5 q6 q7 q8 q9 q10) (iS fld) [("__class__", cc)] .none .none doc pm an (.ref cda) ct), osl⟩ ∧ codeIn K (.ref cda) qual = true ∧
    (∃ (ccl : Value) (cdd : Option Addr) (vs : Array Value) (ccs : Array (Option Value)) (file : Str) (tf : Tok), K.lookup cda = some ⟨ccl, cdd, .fields vs, ccs⟩ ∧ vs[2]? = some (.str file tf) ∧ ((P.main.file : Str) == file) = true) ∧
    (∃ (cl : Value) (cld : Option Addr) (csl : Array (Option Value)), K.lookup cc = some ⟨cl, cld, .cell (some (.ref C)), csl⟩)
theorem one_size (v : Value) : [v].length ≤ sizeLine := by
  rw [sizeLine_eq]
  exact (by decide : 1 ≤ 16777216)
theorem kept_but {K : Frag} {h h' : Heap} {x : Addr} (X : K.In h) (hx : K.lookup x = none) (k : ∀ b o, b ≠ x → h.get? b = some o → h'.get? b = some o) : K.In h' := fun a o e =>
  k a o (fun z => by rw [z, hx] at e; cases e) (X a o e)
theorem excOver_cls {K : Frag} {C : Addr} {bmB : List Value} (h : excOver K C bmB = true) : ∃ cd, clsIn K C = some cd := by
  obtain ⟨cd, hc, _⟩ := any_some h
  exact ⟨cd, hc⟩
/-- what __init__ leaves of a fresh error at x -/
structure InitEnd (fld : Str) (h h' : Heap) (x C dx t1 : Addr) (v : Value) : Prop where
  keep : ∀ b o, b ≠ x → h.get? b = some o → h'.get? b = some o
  obj : h'.get? x = some { cls := .ref C, dict := some dx, data := .fields #[.ref t1, .none, .none, .none, .bool false, .none] }
  dbig : h.objs.size ≤ dx
  dne : dx ≠ x
  ns : h'.Ns1 dx (fun y => if y = fld then some v else none)
section
variable {prog : Program} {w : World} {A : Around} {E : Value → Shared → Prop} {R : Result → Shared → Prop} {s : Shared} {K : Frag} {mg mb : Str → Option Value} {C fI : Addr} {nm fld msg qual : Str} {newId BI iI BS : String} {bmB : List Value}
/-- self.fld = v, the first one -/
theorem store_first {tk : Tok} {x t1 : Addr} {v : Value} {cd : ClassData} (ST : StoreFacts BS bmB "object.__setattr__" "object") (X : K.In s.heap) (hx : s.heap.get? x = some (excO C t1)) (hcl : clsIn K C = some cd) (hov : excOver K C bmB = true) (hdC : hasDictIn K C = true) (noF : findIn K (.ref C) fld = some none)
    (hq : ∀ h' tk' dx, (∀ b o, b ≠ x → s.heap.get? b = some o → h'.get? b = some o) → s.heap.objs.size ≤ dx → dx ≠ x → h'.get? x = some { cls := .ref C, dict := some dx, data := .fields #[.ref t1, .none, .none, .none, .bool false, .none] } →
      h'.Ns1 dx (fun y => if y = fld then some v else none) → R (.ok (.ret .none)) { s with heap := h', toks := tk' }) :
    codeAny (model prog w) A (.call (.builtin "object.__setattr__") ⟨[.ref x, .str fld tk, v], []⟩) R s := by
  have ht : takerIn K C fld = some none := by unfold takerIn; rw [noF] <;> rfl
  refine osa_openX (od := none) ST X ⟨hx, rfl, rfl, trivial⟩ hov ht fun b => ?_
  obtain ⟨hp, g, d, t, os⟩ := s
  have hxs : x ≠ hp.objs.size := Nat.ne_of_lt (Heap.lt_size hx)
  have hcls : W.Looks (model prog w) hp (classData C) cd := W.looks_clsIn X hcl
  have hh : cd.hasDict = true := by
    obtain ⟨cd', hc, hd⟩ := any_some hdC
    rw [hcl] at hc
    cases hc
    exact hd
  show wpAny _ _ (storeInOwnDict (.ref x) (.ref C) (.str fld tk) fld v b) _ _ _
  obtain ⟨nm, bs, mro, ns, qn, hd, sn, sb, ab, col, del⟩ := cd
  dsimp only at hh
  subst hh
  have hx' : hp.get? x = some { cls := .ref C, data := .fields #[.ref t1, .none, .none, .none, .bool false, .none] } := hx
  unfold storeInOwnDict ownDictForStores
  repeat (first | with_reducible refine HandSPX.store_in_new ?_ ?_ | with_reducible refine wpAny_loadPart_at hx' ?_ | with_reducible refine hcls.at ?_ | wp_step)
  · exact ⟨_, #[], _, (Heap.get?_update_ne _ _ _ _ hxs.symm).trans (Heap.get?_push_at rfl rfl), rfl, fun e he => absurd he (by simp), fun _ => rfl⟩
  · intro h' tk' hn' hs
    have hx₁ : (hp.push { cls := .type "dict", data := .dict #[] }).get? x = some { cls := .ref C, data := .fields #[.ref t1, .none, .none, .none, .bool false, .none] } := Heap.get?_push_of_some _ hx'
    refine hq h' tk' hp.objs.size (fun b o hb ho => ?_) (Nat.le_refl _) hxs.symm ?_ hn'
    · exact (hs.2 b (Nat.ne_of_lt (Heap.lt_size ho))).trans ((Heap.get?_update_ne _ _ _ _ hb).trans (Heap.get?_push_of_some _ ho))
    · exact (hs.2 x hxs).trans (Heap.get?_update_self _ hx₁ rfl)
theorem er_init (T : ErrTxt prog K mg nm fld msg qual newId bmB BI iI C fI) (SF : SupF BI iI) (ST : StoreFacts BS bmB "object.__setattr__" "object") {x t0 : Addr} {v : Value} (X : K.In s.heap) (G : s.heap.Ns mainGlobals mg) (Bl : s.heap.Ns builtinsNs mb) (hbs : mb "super" = bootBuiltins "super")
    (hlim : s.heap.NoLimit) (hx : s.heap.get? x = some (excO C t0)) (hnx : K.lookup x = none) (hroom : A.depth < recursionLimit) (hfs : (("self" : Str) == fld) = false) (hfl : (iS fld).names.lookup fld = some .local) (hks : (iS fld).names.lookup ("super" : Str) = some .globalImplicit) (hkc : (iS fld).names.lookup ("__class__" : Str) = some .free) (hfd : (fld == ("__debug__" : Str)) = false)
    (hbind : ∀ (doc pm ct : Value) (an : Option Addr) (cda cc : Addr) (p1 p2 : Pos) (body : List Stmt), bindArgs (fnX "__init__" qual (iA fld p1 p2) body (iS fld) [("__class__", cc)] .none .none doc pm an (.ref cda) ct) ⟨[.ref x, v], []⟩ = pure [(("self" : Str), .ref x), (fld, v)])
    (hq : ∀ h' tk dx t1, InitEnd fld s.heap h' x C dx t1 v → R (.ok (.ret .none)) { s with heap := h', toks := tk }) :
    codeAny (model prog w) A (.call (.ref fI) ⟨[.ref x, v], []⟩) R s := by
  obtain ⟨oc, od, doc, pm, an, cda, ct, osl, cc, p1, p2, j, q1, q2, q3, q4, q5, q6, q7, q8, q9, q10, hln, ho, hcd, ⟨ccl, cdd, vs, ccs, file, tf, hcode, hvs, hfile⟩, ⟨cl, cld, csl, hcell⟩⟩ := T.fn
  obtain ⟨cd, hcl⟩ := excOver_cls T.over
  refine ks_codeAny_call_defAt (fd := fnX "__init__" qual (iA fld p1 p2) (iB fld msg j q1 q2 q3 q4 q5 q6 q7 q8 q9 q10) (iS fld) [("__class__", cc)] .none .none doc pm an (.ref cda) ct) (body := iB fld msg j q1 q2 q3 q4 q5 q6 q7 q8 q9 q10) (binds := [(("self" : Str), .ref x), (fld, v)]) hroom (X _ _ ho) rfl hlim (codeRec_of X hcd) rfl (BindsTo.of_eq (hbind ..)) ?_ ?_ (fun h₁ hns k₁ => ?_)
  · intro y hy
    have hy : y ∈ [(("self" : Str), NameKind.local), (fld, .local), ("__class__", .free), ("super", .globalImplicit)] := hy
    simp only [List.mem_cons, List.not_mem_nil, or_false] at hy
    rcases hy with rfl | rfl | rfl | rfl <;> intro z <;> cases z
  · intro y hy
    simp only [List.mem_cons, List.not_mem_nil, or_false] at hy
    rcases hy with rfl | rfl
    · rfl
    · exact hfl
  have X₁ : K.In h₁ := X.keeps k₁
  have hx₁ := k₁ _ _ hx
  have mS : ([(("self" : Str), Value.ref x), (fld, v)].reverse.lookup ("self" : Str)) = some (.ref x) := by
    show List.lookup ("self" : Str) [(fld, v), ("self", .ref x)] = _
    simp [List.lookup, hfs]
  have mF : ([(("self" : Str), Value.ref x), (fld, v)].reverse.lookup fld) = some v := by
    show List.lookup fld [(fld, v), ("self", .ref x)] = _
    simp [List.lookup]
  have he : ∀ env : Env, eval (.Call (.Attribute (.Call (.Name "super" q1) [] [] q2) "__init__" q3) [.Constant (.str msg) j q4] [] q5) env = (do
      let ov ← attributeBase (.Call (.Name "super" q1) [] [] q2) "__init__" env (eval (.Call (.Name "super" q1) [] [] q2) env)
      standAt q3.atName
      let (f, first) ← holding [ov] (getMethod ov "__init__" (L2.plainOf (.Call (.Name "super" q1) [] [] q2) env))
      callWith q5 f first (backTo q5 (starEach [.Constant (.str msg) j q4] env)) []) := fun env => by
    rw [arm_eval_Call]
    have hm : ∀ ov, methodCall (.Call (.Name "super" q1) [] [] q2) "__init__" q3 q5 env ov ([Expr.Constant (.str msg) j q4].length + ([] : List Keyword).length) (backTo q5 (starEach [.Constant (.str msg) j q4] env)) (backToKw q5 (keywordEach [] env)) = _ := fun ov => L2.mcall_line (by rfl) hln
    simp only [hm]
    rfl
  refine ks_wpAt_execs_cons (ks_wpAt_Expr_any (ks_wpAt_MethodCall ?_ (he _)) (by rfl) (by rfl))
  refine ks_wpAt_super_base (f := fI) (cc := cda) (ar := { arg := "self", annotation := none, pos := p1 }) (vs := vs) (file := file) (tf := tf) hks hkc (by decide) rfl (X₁ _ _ ho) rfl rfl rfl (X₁ _ _ hcode) rfl hvs hfile T.top ?_
  refine ks_loadName_global (by rfl) hks (loadGlobal_builtin (G.keeps k₁) T.msup (Bl.keeps k₁) (hbs.trans (by decide +kernel : bootBuiltins "super" = some (.type "super"))) ⟨rfl, ?_⟩)
  refine wpAny_loadName_free (by rfl) hkc (by rfl) ⟨_, X₁ _ _ hcell, rfl⟩ ?_
  refine wpAny_loadName_local (by rfl) (by rfl) hns mS ?_
  obtain ⟨oD, hD1, hD2⟩ : ∃ oD, h₁.get? C = some oD ∧ oD.data = .cls cd := by
    unfold clsIn at hcl
    split at hcl
    · rename_i c d cd' sl ho
      cases hcl
      exact ⟨_, X₁ _ _ ho, rfl⟩
    · cases hcl
  refine ks_wpAny_isType_cls hD1 hD2 ⟨rfl, ?_⟩
  refine ks_wpAny_call_super hD1 hD2 hx₁ rfl (fun c e => by cases e) (looks_mroIn X₁ T.mroC) (fun h₂ hso k₂ => ?_)
  have X₂ : K.In h₂ := X₁.keeps k₂
  have hm := T.sup
  unfold ks_superIn at hm
  rw [hcl] at hm
  have I₂ : InstAt h₂ x (excO C t0) C none := ⟨k₂ _ _ hx₁, rfl, rfl, trivial⟩
  refine kxs_getMethod SF.kxs hso (looks_opaque X₂ T.op) (l₀ := cd.mro) (fun A Q E s k q => wpAny_bind ((looks_clsIn X₂ hcl) A _ E s k (wpAny_pure q))) rfl X₂ hm (I₂.type.andThen (looks_subIn X₂ T.subB)) (ks_ne X₂ I₂ hcl) (by decide) ?_
  refine kxs_callWith (i := iI) (x := x) (by rfl) (evalArgs_plain ?_)
  show wpAny _ _ (spliced ((false, eval (.Constant (.str msg) j q4) _) :: [])) _ _ _
  refine Calls.spliced_cons (Calls.Constant_str ?_)
  refine Calls.spliced_nil ⟨Heap.get?_push_at rfl rfl, ?_⟩
  have k₃ : ∀ b o, h₂.get? b = some o → (h₂.push (kxs_mw iI x)).get? b = some o := fun b o e => Heap.get?_push_of_some _ e
  obtain ⟨nm', N', qn, bs, bm, hdct, sn, sub, ab, col, dd, z0, z1, z2, z3, z5, hC, hT⟩ := excInit_of (X₂.keeps k₃) T.cls
  refine call_sup SF hC (k₃ _ _ (k₂ _ _ hx₁)) (Heap.get?_push_at rfl rfl) (one_size _) fun h₄ t1 k₄ hx₄ => ?_
  have X₄ : K.In h₄ := kept_but (X₂.keeps k₃) hnx k₄
  have hns₄ : h₄.Ns s.heap.objs.size (fun y => [(("self" : Str), Value.ref x), (fld, v)].reverse.lookup y) := by
    obtain ⟨oL, es, ep, hL, r⟩ := hns
    have nx : s.heap.objs.size ≠ x := Nat.ne_of_gt (Heap.lt_size hx)
    exact ⟨oL, es, ep, k₄ _ _ nx (k₃ _ _ (k₂ _ _ hL)), r⟩
  refine _root_.PySem.wpAt_of_wpAny (wpAny_execs_cons (plainObj_wpAny_Assign_Attribute ?_))
  refine wpAny_Name (wpAny_loadName_local (by rfl) hfl hns₄ mF ?_) hfd
  refine wpAny_Name (wpAny_loadName_local (by rfl) (by rfl) hns₄ mS ?_) (by decide)
  refine set_plain X₄ (ox := excO C t1) (od := none) ⟨hx₄, rfl, rfl, trivial⟩ T.sa ?_
  refine store_first ST X₄ hx₄ hcl T.over T.hdC T.noF (fun h₅ tk₅ dx k₅ dn dne hx₅ hn₅ => ?_)
  show wpAny _ _ (execs _ _) _ _ _
  have nz : s.heap.objs.size < h₁.objs.size := hns.lt
  have sz : s.heap.objs.size ≤ dx := by
    have h2 := Heap.lt_size (k₄ s.heap.objs.size _ (Nat.ne_of_gt (Heap.lt_size hx)) (k₃ _ _ (k₂ _ _ hns.choose_spec.choose_spec.choose_spec.1)))
    exact Nat.le_of_lt (Nat.lt_of_lt_of_le h2 dn)
  exact wpAny_execs_nil (hq h₅ tk₅ dx t1 ⟨fun b o hb e => k₅ b o hb (k₄ b o hb (k₃ _ _ (k₂ _ _ (k₁ b o e)))), hx₅, sz, dne, hn₅⟩)
end
end Er
end K30
namespace K30
namespace Er
open PySem PySem.W PySem.Calls PyProof.Rows PySem.HandSPX
structure OwnMade (fld : Str) (h h' : Heap) (e C d : Addr) (v : Value) : Prop where
  keep : ∀ b o, h.get? b = some o → h'.get? b = some o
  new : h.objs.size ≤ e
  obj : ∃ oe vs, h'.get? e = some oe ∧ oe.cls = .ref C ∧ oe.dict = some d ∧ oe.data = .fields vs ∧ vs[1]? = some .none
  dbig : h.objs.size ≤ d
  dne : d ≠ e
  ns : h'.Ns1 d (fun y => if y = fld then some v else none)
/-- what of the field's name must be seen -/
structure FldOk (fld qual : Str) : Prop where
  hfs : (("self" : Str) == fld) = false
  hfl : (iS fld).names.lookup fld = some .local
  hks : (iS fld).names.lookup ("super" : Str) = some .globalImplicit
  hkc : (iS fld).names.lookup ("__class__" : Str) = some .free
  hfd : (fld == ("__debug__" : Str)) = false
  hbind : ∀ (x : Addr) (v doc pm ct : Value) (an : Option Addr) (cda cc : Addr) (p1 p2 : Pos) (body : List Stmt), bindArgs (fnX "__init__" qual (iA fld p1 p2) body (iS fld) [("__class__", cc)] .none .none doc pm an (.ref cda) ct) ⟨[.ref x, v], []⟩ = pure [(("self" : Str), .ref x), (fld, v)]
theorem fld_at {qual : Str} : FldOk "at" qual := ⟨by decide, by rfl, by rfl, by rfl, by decide, fun _ _ _ _ _ _ _ _ _ _ _ => by first | rfl | with_unfolding_all rfl⟩
theorem fld_house {qual : Str} : FldOk "house" qual := ⟨by decide, by rfl, by rfl, by rfl, by decide, fun _ _ _ _ _ _ _ _ _ _ _ => by first | rfl | with_unfolding_all rfl⟩
section
variable {prog : Program} {w : World} {A : Around} {E : Value → Shared → Prop} {R : Result → Shared → Prop} {s : Shared} {K : Frag} {mg mb : Str → Option Value} {C fI : Addr} {nm fld msg qual : Str} {newId BI iI BS BN : String} {bmB : List Value}
theorem er_made (T : ErrTxt prog K mg nm fld msg qual newId bmB BI iI C fI) (NF : NewF BN newId bmB) (SF : SupF BI iI) (ST : StoreFacts BS bmB "object.__setattr__" "object") (FO : FldOk fld qual) {v : Value} (X : K.In s.heap) (G : s.heap.Ns mainGlobals mg) (Bl : s.heap.Ns builtinsNs mb) (hbs : mb "super" = bootBuiltins "super")
    (hlim : s.heap.NoLimit) (hroom : A.depth + 1 < recursionLimit)
    (hq : ∀ h' tk e d, OwnMade fld s.heap h' e C d v → R (.ok (.ret (.ref e))) { s with heap := h', toks := tk }) :
    codeAny (model prog w) A (.call (.ref C) ⟨[v], []⟩) R s := by
  obtain ⟨nm', N', qn, bs, bm, hdct, sn, sub, ab, col, dd, z0, z1, z2, z3, z5, hC, hT⟩ := excInit_of X T.cls
  obtain ⟨hp, g, dr, tk, os⟩ := s
  have k : ∀ b o, hp.get? b = some o → ((hp.push (kdv_tup [v])).push (excO C hp.objs.size)).get? b = some o := fun b o e => Heap.get?_push_of_some _ (Heap.get?_push_of_some _ e)
  have hget : ((hp.push (kdv_tup [v])).push (excO C hp.objs.size)).get? (hp.objs.size + 1) = some (excO C hp.objs.size) := by heap_get
  have hnx : K.lookup (hp.objs.size + 1) = none := by
    cases e : K.lookup (hp.objs.size + 1) with
    | none => rfl
    | some o =>
      have z : hp.get? (hp.objs.size + 1) = some o := X _ _ e
      exact absurd (Nat.lt_of_succ_lt (Heap.lt_size z)) (Nat.lt_irrefl _)
  refine call_cls NF hT hC (looks_findIn X T.iC) (fun self => bind_fn X self T.tI) (one_size v) ?_
  refine er_init (s := ⟨(hp.push (kdv_tup [v])).push (excO C hp.objs.size), g, dr, tk, os⟩) T SF ST (X.keeps k) (G.keeps k) (Bl.keeps k) hbs (hlim.keeps k) hget hnx ?_ FO.hfs FO.hfl FO.hks FO.hkc FO.hfd (FO.hbind _ _) fun h' tk' dx t1 ⟨k', hx, dn, dne, hns⟩ => ?_
  · show A.depth + 1 < recursionLimit
    exact hroom
  · have old : ∀ b o, hp.get? b = some o → h'.get? b = some o := fun b o e => k' b o (Nat.ne_of_lt (Nat.lt_succ_of_lt (Heap.lt_size e))) (k b o e)
    have z : hp.objs.size + 1 + 1 ≤ dx := by
      first
        | (simpa only [Heap.size_push] using dn)
        | exact dn
        | (have q := dn; rw [Heap.size_push, Heap.size_push] at q; exact q)
    exact ⟨rfl, hq h' tk' (hp.objs.size + 1) dx ⟨old, Nat.le_succ _, ⟨_, _, hx, rfl, rfl, rfl, rfl⟩, Nat.le_trans (Nat.le_trans (Nat.le_succ _) (Nat.le_succ _)) z, dne, hns⟩⟩
end
end Er
open PySem PySem.Spec PyProof.Rows L2 Evl
theorem relO_fld {fld : Str} {v : V} {v' : Value} (r : RelV v v') (f : Str) : RelO (List.lookup f [(fld, v)]) (if f = fld then some v' else none) := by
  by_cases hw : f = fld
  · subst hw
    rw [if_pos rfl]
    have q : List.lookup f [(f, v)] = some v := by simp [List.lookup]
    rw [q]
    exact r
  · rw [if_neg hw]
    have qw : (f == fld) = false := by simpa using hw
    have q2 : List.lookup f [(fld, v)] = none := by simp [List.lookup, qw]
    rw [q2]
    trivial
/-- an error class of the text: its name, its field, where it stands -/
structure ErrKit (P : Program) (K : PySem.W.Frag) (mg : Str → Option Value) (nm fld : Str) (C : Addr) : Prop where
  ex : ∃ (fI : Addr) (msg qual : Str) (newId BI iI BS BN : String) (bmB : List Value), Er.ErrTxt P K mg nm fld msg qual newId bmB BI iI C fI ∧ Er.NewF BN newId bmB ∧ Er.SupF BI iI ∧ PySem.StoreFacts BS bmB "object.__setattr__" "object" ∧ Er.FldOk fld qual
/-- C(e) -/
def tMkE (fld : Str) (C : Addr) (ta : TA) : L2.St → Hp → XK → Prop := fun σ H Q => ta σ H fun vs H1 => ∃ v, vs = [v] ∧ ∀ d, H1 d = none → Q (.ref C) (some d) (upd H1 d (.xd [(fld, v)]))
section
variable {X : Cx} {C : Addr} {nm fld : Str}
theorem pmk_err {a : Expr} {ta : TA} {p pos : Pos} {k : Nat} (T : ErrKit X.prog X.K X.mg nm fld C) (hr : Room k X.A) (ha : PA X [a] ta) (hg : Gl X nm := by rfl) (hdb : (nm == ("__debug__" : Str)) = false := by decide)
    (he : starEach (a :: []) X.env = (false, eval a X.env) :: starEach [] X.env := by rfl) (hpl : (backTo pos (starEach [] X.env)).any (·.1) = false := by rfl) :
    L2.PMk X (.Call (.Name nm p) [a] [] pos) (tMkE fld C ta) := by
  obtain ⟨fI, msg, qual, newId, BI, iI, BS, BN, bmB, T, NF, SF, ST, FO⟩ := T.ex
  intro pins s σ H Q I h
  refine wpAny_Call_Name_kw (ld_glob I hg T.gC ?_ hdb)
  refine PySem.W.callWith_K (h₀ := X.base) I.ok.mod.kin T.kC (thn (ha.run pos pins s σ H _ I h) fun us s1 hh => ?_) he hpl
  obtain ⟨vs, H1, I1, r1, v, ev, q1⟩ := hh
  subst ev
  refine ⟨I1.kIn, ?_⟩
  cases r1 with
  | cons rv rn =>
    rename_i v' us'
    cases rn
    show wpAny _ _ (call (.ref C) [v']) _ _ _
    have hlim := I1.nolimit
    obtain ⟨mb, hmb, hbs⟩ := I1.mod.blt
    have hG := I1.mod.glob.keeps I1.bk
    have hB := hmb.keeps I1.bk
    obtain ⟨hp, g, dr, tk, os⟩ := s1
    refine wpAny_call (Er.er_made T NF SF ST FO I1.kIn hG hB (hbs "super" (by decide)) hlim (by have := hr.dp; omega) fun h' tk' e d M => ?_)
    show MkP X pins σ Q (.ref e) ⟨h', g, dr, tk', os⟩
    obtain ⟨oe, fv, hoe, hc, hd, hdat, h1⟩ := M.obj
    have hns := M.ns
    obtain ⟨G', g1, g2⟩ := restrict h' fun b => decide (b ≠ e)
    have gk : ∀ b, b ≠ e → G'.get? b = h'.get? b := fun b hb => g1 b (decide_eq_true hb)
    have ge : G'.get? e = none := g2 e (by simp)
    have old : ∀ b o, hp.get? b = some o → G'.get? b = some o := fun b o q => (gk b (Nat.ne_of_lt (Nat.lt_of_lt_of_le (Heap.lt_size q) M.new))).trans (M.keep b o q)
    have ob : ObjOk X.prog X.w (upd H1 d (.xd [(fld, v)])) G' d (.xd [(fld, v)]) :=
      ⟨_, hns.at (fun o q => (gk d M.dne).trans q), fun f => relO_fld rv f⟩
    have J : Inv X pins σ (upd H1 d (.xd [(fld, v)])) ⟨G', g, dr, tk', os⟩ := I1.laid (t' := tk') old M.dbig ob
    refine ⟨e, oe, fv, ⟨G', g, dr, tk', os⟩, _, .ref C, some d, rfl, J, fun b o q => ?_, ge, hoe, ⟨hc, hd⟩, hdat, h1, ?_, rfl, I1.bare, raises_own T.exC T.tyC, q1 d (I1.hok.fresh M.dbig)⟩
    · by_cases hb : b = e
      · have q' : G'.get? b = some o := q
        rw [hb, ge] at q'; cases q'
      · exact (gk b hb).symm.trans q
    · rw [upd_ne (Ne.symm M.dne)]
      exact I1.hok.fresh M.new
/-- raise C(e) -/
def tRaiseE (fld : Str) (C : Addr) (W : WX) (ta : TA) : TS := fun _ σ H => tMkE fld C ta σ H fun cls d H' => W cls d σ H'
theorem ps_raiseE {a : Expr} {ta : TA} {W : WX} {p pos pos2 : Pos} {k : Nat} (hc : X.calm = true) (T : ErrKit X.prog X.K X.mg nm fld C) (hr : Room k X.A) (tk : Takes X W) (ha : PA X [a] ta) (hg : Gl X nm := by rfl) (hdb : (nm == ("__debug__" : Str)) = false := by decide)
    (he : starEach (a :: []) X.env = (false, eval a X.env) :: starEach [] X.env := by rfl) (hpl : (backTo pos (starEach [] X.env)).any (·.1) = false := by rfl) :
    PS X (.Raise (some (.Call (.Name nm p) [a] [] pos)) none pos2) (tRaiseE fld C W ta) := L2.ps_raise hc tk (pmk_err T hr ha hg hdb he hpl)
end
end K30
namespace K30
/-! ## sorted of a tuple of ints -/
namespace SoT
open PySem PySem.Spec PyProof.Rows L2 SrtO Srt
section
variable {prog : Program} {w : World} {A : Around} {E : Value → Shared → Prop} {s : Shared}
theorem collect_tup {l : Addr} {vs : List Value} {Q : List Value → Shared → Prop} (hl : s.heap.IsTuple l vs.toArray)
    (h : Q vs { s with heap := (s.heap.push (seqObj "list" #[] 0)).update s.heap.objs.size (Obj.mapSeq (· ++ vs.toArray)) }) (hsz : vs.length ≤ sizeLine) :
    wpAny (model prog w) A (collect (.ref l)) Q E s := by
  obtain ⟨o, ho, hc, n, hd⟩ := id hl
  unfold collect
  refine wpAny_bind (wpAny_runValue (codeAny_builtin entry_proto_collect' ?_))
  show wpAny _ _ (do again (.builtin "list.__iadd__" ⟨[← newList [], .ref l], []⟩)) _ _ s
  refine wpAny_bind (wpAny_newList (wpAny_pure ⟨Code.quiet_builtin _ (by decide +kernel), codeAny_builtin entry_list_iadd' ?_⟩))
  show wpAny _ _ (Builtin.List.listExtendWith (.ref s.heap.objs.size) (.ref l) (.ref s.heap.objs.size)) _ _ { s with heap := s.heap.push (seqObj "list" #[] 0) }
  unfold Builtin.List.listExtendWith
  have ho' : (s.heap.push (seqObj "list" #[] 0)).get? l = some o := Heap.get?_push_of_some _ ho
  refine wpAny_bind (wpAny_typeOf (T := "tuple") ⟨o, ho', hc⟩ ?_)
  rw [if_pos (by rw [show (Value.type "tuple" == Value.type "tuple") = true by decide]; simp)]
  refine wpAny_bind (listItems_at ho' hd ?_)
  refine wpAny_bind (listItems_at (xs := #[]) (n := 0) (Heap.get?_push_size _ rfl) rfl ?_)
  rw [if_neg (by simp)]
  refine wpAny_bind (listUpdate_at (xs := #[]) (n := 0) (Heap.get?_push_size _ rfl) rfl ?_ (Nat.zero_le _) (by show (#[] ++ vs.toArray).size ≤ sizeLine + 1; simp only [Array.size_append, List.size_toArray, List.length_nil]; omega))
  refine wpAny_pure ?_
  show wpAny (model prog w) A (do
      let o ← load s.heap.objs.size
      match o.data with
      | .seq xs _ => pure xs.toList
      | _ => unsupported "internal:collect") Q E { s with heap := (s.heap.push (seqObj "list" #[] 0)).update s.heap.objs.size (Obj.mapSeq (· ++ vs.toArray)) }
  refine wpAny_bind (wpAny_load (get?_update_seq (Heap.get?_push_size _ rfl) _) ?_)
  show wpAny _ _ (pure ((#[] : Array Value) ++ vs.toArray).toList) Q E _
  rw [show ((#[] : Array Value) ++ vs.toArray).toList = vs by simp]
  exact wpAny_pure h
theorem sorted_tup {l : Addr} {vs : List Value} {ltv : Value → Value → Bool} {Q : Value → Shared → Prop} (O : Swo ltv) (hl : s.heap.IsTuple l vs.toArray) (hz : vs.length ≤ sizeLine)
    (hS : 2 ≤ vs.length → ∀ (h₁ : Heap) (a : Addr), h₁.get? a = some (seqObj "list" vs.toArray 0) → (∀ b o, s.heap.get? b = some o → b ≠ a ∧ h₁.get? b = some o) → SortableO prog w A.in1.in1 { s with heap := h₁ } a vs ltv)
    (h : ∀ out : List Value, Srtd ltv out → Stb ltv out vs → Q (.ref (s.heap.objs.size + 1)) { s with heap := sortedAll s.heap vs out.toArray }) :
    wpAny (model prog w) A (call (.builtin "sorted") [.ref l]) Q E s := by
  refine Calls.call_function_entry kind_sorted plain_sorted entry_sorted (args_sorted1 _) ?_
  unfold Builtin.«sorted»
  refine wpAny_bind (m := checkCount "sorted" 1 1 _) (wpAny_pure ?_)
  refine wpAny_bind (collect_tup hl ?_ hz)
  refine wpAny_bind (wpAny_newList ?_ hz)
  have hsz : ((s.heap.push (seqObj "list" #[] 0)).update s.heap.objs.size (Obj.mapSeq (· ++ vs.toArray))).objs.size = s.heap.objs.size + 1 := by
    rw [Heap.size_update, size_push']
  have hoL : (((s.heap.push (seqObj "list" #[] 0)).update s.heap.objs.size (Obj.mapSeq (· ++ vs.toArray))).push (seqObj "list" vs.toArray 0)).get? (s.heap.objs.size + 1) = some (seqObj "list" vs.toArray 0) := by
    rw [← hsz]; exact Heap.get?_push_size _ rfl
  have keep : ∀ b o, s.heap.get? b = some o → b ≠ s.heap.objs.size + 1 ∧ (((s.heap.push (seqObj "list" #[] 0)).update s.heap.objs.size (Obj.mapSeq (· ++ vs.toArray))).push (seqObj "list" vs.toArray 0)).get? b = some o := fun b o q => by
    have hlt : b < s.heap.objs.size := Heap.lt_size q
    refine ⟨Nat.ne_of_lt (Nat.lt_succ_of_lt hlt), Heap.get?_push_of_some _ ?_⟩
    rw [Heap.get?_update_ne _ _ _ _ (Nat.ne_of_lt hlt)]
    exact Heap.get?_push_of_some _ q
  show wpAny _ _ _ _ _ { s with heap := ((s.heap.push (seqObj "list" #[] 0)).update s.heap.objs.size (Obj.mapSeq (· ++ vs.toArray))).push (seqObj "list" vs.toArray 0) }
  rw [hsz]
  refine wpAny_bind (wpAny_holding (wpAny_call_entry slot_list_sort ⟨_, hoL, rfl⟩ entry_list_sort (list_sort_ord O hoL hz (fun h2 => hS h2 _ _ hoL keep) fun out hs hb => ⟨_, rfl, ?_⟩) (args_list_sort _)))
  exact wpAny_pure ⟨_, rfl, h out hs hb⟩
end
end SoT
open PySem PySem.Spec PyProof.Rows L2 Evl
/-- sorted(xs), a list or a tuple of ints -/
def rSortedA (K : PySem.W.Frag) : List V → Hp → VK → Prop := fun vs H Q => ∃ (a : Addr) (ns : List Int), vs = [V.ref a] ∧ SqA K H a (ns.map V.int) ∧
  ∀ (ns' : List Int) (p : Addr), ns'.Perm ns → ns'.Pairwise (· ≤ ·) → H p = none → Q (.ref p) (upd H p (.lst (ns'.map V.int)))
theorem bc_sortedA {X : Cx} {K : PySem.W.Frag} (hK : X.K = K) : CallR X (.builtin "sorted") (rSortedA K) := by
  subst hK
  intro pins s σ H vs us Q I r h
  obtain ⟨a, ns, rfl, hs, q⟩ := h
  rcases hs with hs | hs
  · exact cr_sortedI pins s σ H _ us Q I r ⟨a, ns, rfl, hs, q⟩
  · obtain ⟨its, rv, hl, hz⟩ := I.tuple hs
    rw [Vals.ref1 r]
    have hi := rv.ints
    have pt : s.heap.IsTuple a its.toArray := hl
    refine SoT.sorted_tup SrtO.swo_int pt (by rw [← rv.length]; exact hz) (fun h2 h₁ a' _ _ => SrtO.ints_sortable hi h2) fun out h1 h2 => ?_
    obtain ⟨k1, k2, k3⟩ := SrtO.ints_out hi h1 h2
    obtain ⟨ep, he'⟩ := PyProof.Rows.sortedAll_at s.heap its out.toArray
    have hlen : ((out.map SrtO.iv).map V.int).length ≤ sizeLine := by
      rw [List.length_map, k2.length_eq]
      rw [List.length_map] at hz
      exact hz
    exact ⟨.ref _, upd H (s.heap.objs.size + 1) (.lst ((out.map SrtO.iv).map V.int)), I.laid (t' := s.toks) (fun _ _ => PyProof.Rows.sortedAll_old) (Nat.le_succ _) ⟨hlen, out, ep, vals_of_ints k1, he'⟩, rfl, q _ _ k2 k3 (I.hok.fresh (Nat.le_succ _))⟩
end K30
namespace K30
open PySem PySem.Spec PyProof.Rows L2 Evl K30M
/-- the text, with its errors -/
structure Tx (P : Program) (K : PySem.W.Frag) (mg : Str → Option Value) (base : Heap) : Prop extends Txt K mg base where
  re : ErrKit P K mg "Refused" "at" (He.ga K "Refused")
  nh : ErrKit P K mg "NoHouse" "house" (He.ga K "NoHouse")
/-! ### lists of ints compared -/
theorem canLay_ints : ∀ ns : List Int, PyData.canLayAll0 (ns.map PyData.int) = true
  | [] => rfl
  | n :: ns => by
    have := canLay_ints ns
    show (PyData.canLay0 (.int n) && PyData.canLayAll0 (ns.map PyData.int)) = true
    rw [this]
    rfl
theorem depth_ints : ∀ ns : List Int, PyData.depthAll (ns.map PyData.int) = 0
  | [] => rfl
  | n :: ns => by
    show max (PyData.depth (.int n)) (PyData.depthAll (ns.map PyData.int)) = 0
    rw [depth_ints ns]
    rfl
theorem eqv_ints : ∀ ns ms : List Int, PyData.eqvAll (ns.map PyData.int) (ms.map PyData.int) = decide (ns = ms)
  | [], [] => rfl
  | [], _ :: _ => rfl
  | _ :: _, [] => rfl
  | n :: ns, m :: ms => by
    show (n == m && PyData.eqvAll (ns.map PyData.int) (ms.map PyData.int)) = _
    rw [eqv_ints ns ms, Bool.eq_iff_iff, Bool.and_eq_true, beq_iff_eq, decide_eq_true_iff, decide_eq_true_iff, List.cons.injEq]
theorem dpAll_ints {K : PySem.W.Frag} {H : Hp} : ∀ ns : List Int, DpAll K H (ns.map V.int) (ns.map PyData.int)
  | [] => .nil
  | n :: ns => .cons (.int n) (dpAll_ints ns)
theorem shaped_ints (ns : List Int) : SeqAt.shaped (.list (ns.map PyData.int)) = true := by
  show (PyData.canLayAll0 (ns.map PyData.int) && decide (PyData.depthAll (ns.map PyData.int) + 1 ≤ 64)) = true
  rw [canLay_ints, depth_ints]
  rfl
theorem ev_neInts {K : PySem.W.Frag} {σ : L2.St} {H : Hp} {ta tb : TE} {ns ms : List Int} (ha : EvL ta σ H (ns.map V.int)) (hb : EvL tb σ H (ms.map V.int)) : Ev (tOp (rNeD K) ta tb) σ H (.bl (!decide (ns = ms))) :=
  ev_opLL ha hb fun p q H1 hp hq _ H2 e2 Q k => ⟨_, _, .lst (sq_of (e2 _ _ hp)) (dpAll_ints ns), .lst (sq_of (e2 _ _ hq)) (dpAll_ints ms), shaped_ints ns, shaped_ints ms, by
    show Q (.bl (!PyData.eqvAll (ns.map PyData.int) (ms.map PyData.int))) H2
    rw [eqv_ints]
    exact k H2 (Ex.refl _)⟩
theorem natV_ints (l : List Nat) : natV l = (l.map fun (i : Nat) => (i : Int)).map V.int := by
  unfold natV
  rw [List.map_map]
  rfl
theorem el_listR {σ : L2.St} {H : Hp} {ta : TE} {m : Nat} (h : Ev ta σ H (.int (m : Int))) (hm : m ≤ 1000) : EvL (tLstRg (tRg1 ta)) σ H (natV (List.range m)) := fun H1 e1 Q q =>
  h H1 e1 _ fun H2 e2 => ⟨_, rfl, RgOk.of_le (by omega) (by omega) (by omega) (by omega), fun l hl => q l _ (fresh_back e2 hl) (e2.trans (Ex.new hl)) (by
    rw [upd_same]
    unfold rgV natV
    rw [show ((m : Int) - 0).toNat = m by omega]
    congr 2
    refine List.map_congr_left fun i _ => ?_
    rw [Int.zero_add])⟩
/-- sorted of ints: its ints, ascending -/
theorem el_sortA {K : PySem.W.Frag} {σ : L2.St} {H : Hp} {tl : TE} {a : Addr} {ns : List Int} (h : Ev tl σ H (.ref a)) (hx : SqA K H a (ns.map V.int)) :
    EvL (tCB (rSortedA K) (tCons tl tNil)) σ H ((ns.mergeSort fun x y => decide (x ≤ y)).map V.int) := fun H1 e1 Q q =>
  h H1 e1 _ fun H2 e2 => ⟨a, ns, rfl, ex_a (e1.trans e2) hx, fun ns' l pm sr hl => by
    have e : ns' = ns.mergeSort fun x y => decide (x ≤ y) := by
      refine List.Perm.eq_of_pairwise (le := fun a b => a ≤ b) (fun a b _ _ x y => Int.le_antisymm x y) sr ?_ (pm.trans (List.mergeSort_perm _ _).symm)
      have := List.pairwise_mergeSort (le := fun (x y : Int) => decide (x ≤ y)) (fun a b c h1 h2 => decide_eq_true (Int.le_trans (of_decide_eq_true h1) (of_decide_eq_true h2))) (fun a b => by rcases Int.le_total a b with z | z <;> simp [z]) ns
      exact this.imp fun z => of_decide_eq_true z
    subst e
    exact q l _ (fresh_back e2 hl) (e2.trans (Ex.new hl)) upd_same⟩
theorem natV_of {m : Nat} : ∀ {xs : List V}, (∀ x ∈ xs, isB (m : Int) x = true) → ∃ ts, xs = natV ts ∧ ∀ t ∈ ts, t < m
  | [], _ => ⟨[], rfl, fun _ h => (nomatch h)⟩
  | x :: xs, h => by
    obtain ⟨ts, rfl, hl⟩ := natV_of (m := m) (xs := xs) fun y hy => h y (List.mem_cons_of_mem _ hy)
    have hx := h x List.mem_cons_self
    cases x with
    | int i =>
      obtain ⟨h0, h1⟩ := Bool.and_eq_true_iff.mp (show (decide (0 ≤ i) && decide (i < (m : Int))) = true from hx)
      have h0 := of_decide_eq_true h0
      have h1 := of_decide_eq_true h1
      refine ⟨i.toNat :: ts, ?_, fun t ht => ?_⟩
      · show V.int i :: natV ts = V.int (i.toNat : Int) :: natV ts
        rw [Int.toNat_of_nonneg h0]
      · rcases List.mem_cons.mp ht with rfl | ht
        · omega
        · exact hl t ht
    | _ => exact Bool.noConfusion hx
theorem natI_inj {a b : List Nat} (h : (a.map fun (i : Nat) => (i : Int)) = b.map fun (i : Nat) => (i : Int)) : a = b := (List.map_inj_right fun x y z => by omega).mp h
theorem sort_range {ts : List Nat} {m : Nat} : ((ts.map fun (i : Nat) => (i : Int)).mergeSort fun x y => decide (x ≤ y)) = (List.range m).map (fun (i : Nat) => (i : Int)) ↔ ts.Perm (List.range m) := by
  constructor
  · intro h
    have p : (ts.map fun (i : Nat) => (i : Int)).Perm ((List.range m).map fun (i : Nat) => (i : Int)) := by
      rw [← h]
      exact (List.mergeSort_perm _ _).symm
    obtain ⟨zs, pz, e⟩ := perm_lift p
    rw [← natI_inj e]
    exact pz
  · intro p
    refine List.Perm.eq_of_pairwise (le := fun a b => a ≤ b) (fun a b _ _ x y => Int.le_antisymm x y) ?_ ?_ ((List.mergeSort_perm _ _).trans (p.map _))
    · have := List.pairwise_mergeSort (le := fun (x y : Int) => decide (x ≤ y)) (fun a b c h1 h2 => decide_eq_true (Int.le_trans (of_decide_eq_true h1) (of_decide_eq_true h2))) (fun a b => by rcases Int.le_total a b with z | z <;> simp [z]) (ts.map fun (i : Nat) => (i : Int))
      exact this.imp fun z => of_decide_eq_true z
    · exact List.pairwise_map.mpr ((List.pairwise_le_range).imp fun {a b} z => by omega)
theorem isB_all {m : Nat} {ts : List Nat} (h : ∀ t ∈ ts, t < m) : (natV ts).all (isB (m : Int)) = true := by
  unfold natV
  rw [List.all_map, List.all_eq_true]
  exact fun t ht => isB_lt (h t ht)
def spNeedHouse (K : PySem.W.Frag) : Sp := fun vs H Q E => ∃ (x : Addr) (n : Nat) (T : Ties) (v : V), vs = [.ref x, v] ∧ WebAt K H x n T ∧ Sc v ∧
  ((isB (n : Int) v = true ∧ ∀ H2, Ex H H2 → Q v H2) ∨ (isB (n : Int) v = false ∧ ∀ d H2, Ex H H2 → H2 d = some (.xd [("house", v)]) → E (.ref (He.ga K "NoHouse")) (some d) H2))
def spNeedForest (K : PySem.W.Frag) : Sp := fun vs H Q E => ∃ (x : Addr) (n : Nat) (T : Ties), vs = [.ref x] ∧ WebAt K H x n T ∧
  ((Tree n T ∧ ∀ H2, Ex H H2 → Q (.ref x) H2) ∨ (¬ Tree n T ∧ ∀ d H2, Ex H H2 → H2 d = some (.xd [("at", .ref x)]) → E (.ref (He.ga K "Refused")) (some d) H2))
/-- an order of all ties, as a list or a tuple -/
def TurnsAt (H : Hp) (a : Addr) (ts : List Nat) : Prop := H a = some (.lst (natV ts)) ∨ H a = some (.tup (natV ts))
theorem TurnsAt.sq {K : PySem.W.Frag} {H : Hp} {a : Addr} {ts : List Nat} (h : TurnsAt H a ts) : SqA K H a (natV ts) := h.imp sq_of st_of
theorem TurnsAt.ex {H H' : Hp} {a : Addr} {ts : List Nat} (h : TurnsAt H a ts) (e : Ex H H') : TurnsAt H' a ts := h.imp (e _ _) (e _ _)
/-- no order of m ties -/
def BadTurns (H : Hp) (m : Nat) (v : V) : Prop := Sc v ∨ ∃ a xs, v = .ref a ∧ H a = some (.tup xs) ∧ (∀ x ∈ xs, Sc x) ∧ xs.length ≤ 1000 ∧ ∀ ts, xs = natV ts → ¬ ts.Perm (List.range m)
theorem BadTurns.ex {H H' : Hp} {m : Nat} {v : V} (h : BadTurns H m v) (e : Ex H H') : BadTurns H' m v := by
  rcases h with h | ⟨a, xs, h1, h2, h3⟩
  · exact .inl h
  · exact .inr ⟨a, xs, h1, e _ _ h2, h3⟩
def spCheckTurns (K : PySem.W.Frag) : Sp := fun vs H Q E => ∃ (x : Addr) (n : Nat) (T : Ties) (v : V), vs = [.ref x, v] ∧ WebAt K H x n T ∧
  ((∃ a ts, v = .ref a ∧ TurnsAt H a ts ∧ Order T ts ∧ ∀ p H2, Ex H H2 → H2 p = some (.tup (natV ts)) → Q (.ref p) H2) ∨
    (BadTurns H T.length v ∧ ∀ d H2, Ex H H2 → H2 d = some (.xd [("at", v)]) → E (.ref (He.ga K "Refused")) (some d) H2))
section
variable {P : Program} {w : World} {K : PySem.W.Frag} {mg : Str → Option Value} {base : Heap}
theorem sc_need_house : FnScope ["web", "house"] ["web", "house"] (defScope (top 19)) := ⟨rfl, rfl, rfl, by decide +kernel, rfl, by decide +kernel, by decide +kernel⟩
theorem k_need_house (T : Tx P K mg base) : Df P w K mg base 4 "need_house" ["web", "house"] (spNeedHouse K) := by
  obtain ⟨fd, F⟩ := T.d_need_house
  have D_is_below := k_is_below (P := P) (w := w) T.toTxt
  refine Df.mk1 (i := 19) T.g_need_house F (fun _ _ _ _ _ _ us hl => match us, hl with | [_, _], _ => rfl) (F.ok sc_need_house (fun vs H Q E h => ?_) (fun cdv A outer s H vs Q E hr h => ?_))
  · obtain ⟨_, _, _, _, rfl, _⟩ := h
    rfl
  · obtain ⟨x, n, S, v, rfl, W, sc, k⟩ := h
    obtain ⟨dx, tt, rs, hx, ht⟩ := W.ex
    refine ⟨_, (pss_cons (ps_if (pt_not (pt_val (pe_d0 D_is_below hr (pa_cons (pv 1) (pa_cons (bpe_fld (K := K) rfl (pv 0) rfl) pa_nil))))) (pss_one (ps_raiseE rfl T.nh hr (takes_of rfl rfl rfl rfl) (pa_cons (pv 1) pa_nil))) pss_nil) (pss_one (ps_ret (pv 1)))), ?_⟩
    refine q_when (b := !isB (n : Int) v) (et_not (et_B (SpV.call (ea_cons (ev_var rfl) (ea_cons (ev_houses T.toTxt (ev_var rfl) hx) ea_nil)) (sv_is_below sc)))) (fun z H1 e1 => ?_) fun z H1 e1 => ?_
    · rcases k with ⟨g, k⟩ | ⟨g, k⟩
      · rw [g] at z
        cases z
      · exact ⟨_, rfl, _, rfl, fun d hd => k d _ (e1.trans (Ex.new hd)) upd_same⟩
    · rcases k with ⟨g, k⟩ | ⟨g, k⟩
      · exact s_ret (ev_var rfl) fun H2 e2 => k H2 (e1.trans e2)
      · rw [g] at z
        cases z
theorem sc_need_forest : FnScope ["web"] ["web"] (defScope (top 39)) := ⟨rfl, rfl, rfl, by decide +kernel, rfl, by decide +kernel, by decide +kernel⟩
theorem k_need_forest (T : Tx P K mg base) : Df P w K mg base 5 "need_forest" ["web"] (spNeedForest K) := by
  obtain ⟨fd, F⟩ := T.d_need_forest
  have D_is_forest := k_is_forest (P := P) (w := w) T.toTxt
  refine Df.mk1 (i := 39) T.g_need_forest F (fun _ _ _ _ _ _ us hl => match us, hl with | [_], _ => rfl) (F.ok sc_need_forest (fun vs H Q E h => ?_) (fun cdv A outer s H vs Q E hr h => ?_))
  · obtain ⟨_, _, _, rfl, _⟩ := h
    rfl
  · obtain ⟨x, n, S, rfl, W, k⟩ := h
    refine ⟨_, (pss_cons (ps_if (pt_not (pt_val (pe_d0 D_is_forest hr (pa_cons (pv 0) pa_nil)))) (pss_one (ps_raiseE rfl T.re hr (takes_of rfl rfl rfl rfl) (pa_cons (pv 0) pa_nil))) pss_nil) (pss_one (ps_ret (pv 0)))), ?_⟩
    refine ⟨_, rfl, ⟨x, n, S, rfl, W, fun b H1 hb e1 => ⟨b, rfl, ?_⟩⟩⟩
    cases b with
    | true =>
      have ht := hb.mp rfl
      rcases k with ⟨g, k⟩ | ⟨g, k⟩
      · exact s_ret (ev_var rfl) fun H2 e2 => k H2 (e1.trans e2)
      · exact absurd ht g
    | false =>
      have ht : ¬ Tree n S := fun z => Bool.noConfusion (hb.mpr z)
      rcases k with ⟨g, k⟩ | ⟨g, k⟩
      · exact absurd g ht
      · exact ⟨_, rfl, _, rfl, fun d hd => k d _ (e1.trans (Ex.new hd)) upd_same⟩
theorem sc_check_turns : FnScope ["web", "value", "many", "tie"] ["web", "value"] (defScope (top 40)) := ⟨rfl, rfl, rfl, by decide +kernel, rfl, by decide +kernel, by decide +kernel⟩
theorem k_check_turns (T : Tx P K mg base) : Df P w K mg base 4 "check_turns" ["web", "value"] (spCheckTurns K) := by
  obtain ⟨fd, F⟩ := T.d_check_turns
  have D_is_below := k_is_below (P := P) (w := w) T.toTxt
  have D_is_sequence := (k_is_sequence (P := P) (w := w) T.toTxt).mono (show 1 ≤ 3 by decide)
  refine Df.mk1 (i := 40) T.g_check_turns F (fun _ _ _ _ _ _ us hl => match us, hl with | [_, _], _ => rfl) (F.ok sc_check_turns (fun vs H Q E h => ?_) (fun cdv A outer s H vs Q E hr h => ?_))
  · obtain ⟨_, _, _, _, rfl, _⟩ := h
    rfl
  · obtain ⟨x, n, S, v, rfl, W, k⟩ := h
    obtain ⟨dx, tt, rs, hx, ht⟩ := W.ex
    have t20 := W.good.t20
    have hl : (rs.map V.ref).length = S.length := by rw [List.length_map, ht.len]
    have hu64 : (A.deeper (envOfC "check_turns" (defScope (top 40)) s.heap.objs.size (He.ga K "check_turns") cdv)).units + 64 < cLine := hr.units
    refine ⟨_, (pss_cons (ps_set (i := 2) sc_check_turns.nd rfl (Or.inr rfl) (pe_callB (bc_len (K := K) rfl) (by rfl) T.f_len bt_len (pa_cons (bpe_fld (K := K) rfl (pv 0) rfl) pa_nil))) (pss_cons (ps_if (pw_or (pt_not (pt_val (pe_d0 D_is_sequence hr (pa_cons (pv 1) pa_nil)))) (pw_or (pt_cmpR op_ne (pe_callB (bc_len (K := K) rfl) (by rfl) T.f_len bt_len (pa_cons (pv 1) pa_nil)) (pv 2) (nomark _)) (pw_or1 (pt_not (pt_val (pe_callB (bc_all (K := K) rfl rfl) (by rfl) T.f_all bt_all (pa_cons (pe_lc (own := [("tie", 3)]) (g := (gName 3)) rfl sc_check_turns.nd (pi_seq (pv 1)) (blkOk_by (N := ["web", "value", "many", "tie"]) (sc := defScope (top 40)) (by decide +kernel)) (fun _ _ _ _ _ => (pg_name (i := 3) sc_check_turns.nd rfl (Or.inl rfl))) (fun _ _ _ _ _ => pts_nil) (fun _ _ _ _ _ => (pe_d0 D_is_below hr (pa_cons (pv 3) (pa_cons (pv 2) pa_nil))))) pa_nil))))))).pt (pss_one (ps_raiseE rfl T.re hr (takes_of rfl rfl rfl rfl) (pa_cons (pv 1) pa_nil))) pss_nil) (pss_cons (ps_if (pt_cmpR (bneD (K := K) rfl hu64) (pe_callB (bc_sortedA (K := K) rfl) (by rfl) T.f_sorted bt_sorted (pa_cons (pv 1) pa_nil)) (pe_listRg rfl (by rfl) T.f_list (prg_1 (by rfl) T.f_range (pv 2))) (nomark _)) (pss_one (ps_raiseE rfl T.re hr (takes_of rfl rfl rfl rfl) (pa_cons (pv 1) pa_nil))) pss_nil) (pss_one (ps_ret (pe_callTy (bc_tup (K := K) rfl) (by rfl) T.f_tuple bt_tuple (pa_cons (pv 1) pa_nil))))))), ?_⟩
    refine q_asg (v := .int (S.length : Int)) (ev_is (ev_lenA (ev_ties T.toTxt (ev_var rfl) hx) (.inr (st_of ht.at_))) (by rw [hl])) fun H1 e1 => ?_
    have hseq : ∀ a xs, v = .ref a → (H a = some (.lst xs) ∨ H a = some (.tup xs)) → xs.length ≤ 1000 → (∀ y ∈ xs, Sc y) → EvT (tOr (tNot (tB (tCall spIsSequence [] E0 (tCons (tVar 1) tNil)))) (tOr (tTest (tOp rNe (tCB (rLenS K) (tCons (tVar 1) tNil)) (tVar 2)))
        (tNot (tB (tCB (rAll K) (tCons (tLc (iSeq K (tVar 1)) (gName 3) tYes (tCall spIsBelow [] E0 (tCons (tVar 3) (tCons (tVar 2) tNil))) [3]) tNil)))))) [some (.ref x), some v, some (.int (S.length : Int)), none] H1 (decide (xs.length ≠ S.length) || !xs.all (isB (S.length : Int))) := by
      rintro a xs rfl hq hz hsc
      have sq : SqA K H1 a xs := ex_a e1 (hq.imp sq_of st_of)
      refine et_is (et_or (et_not (et_B (SpV.call (ea_cons (ev_var rfl) ea_nil) (sv_is_sequence (b := true) (.inr ⟨a, xs, rfl, hq.imp (e1 _ _) (e1 _ _), rfl⟩))))) fun _ => et_or (et_test (ev_op (ev_lenA (ev_var rfl) sq) (ev_var rfl) (rv_ne rfl))) fun _ =>
        et_not (et_B (ev_all (bs := xs.map (isB (S.length : Int))) ?_))) ?_
      · have := el_lcW (vs := [3]) (tt := tYes) (te := tCall spIsBelow [] E0 (tCons (tVar 3) (tCons (tVar 2) tNil))) (g := gName 3) (src_seq (ev_var (σ := [some (V.ref x), some (.ref a), some (.int (S.length : Int)), none]) (i := 1) rfl) (Ex.refl H1) sq) (by omega)
          (fun _ => true) (fun i => .bl (isB (S.length : Int) (xs.getD i .non))) fun i y H2 e2 hi hy Q q => q _ rfl (fun H3 e3 Q3 q3 => q3 H3 (Ex.refl _)) fun _ => by
            refine ev_is (SpV.call (ea_cons (ev_var rfl) (ea_cons (ev_var rfl) ea_nil)) (sv_is_below (hsc y (List.mem_of_getElem? hy)))) ?_
            rw [List.getD_eq_getElem?_getD, hy]
            rfl
        rw [given_all] at this
        have e : (List.range xs.length).map (fun i => V.bl (isB (S.length : Int) (xs.getD i .non))) = (xs.map (isB (S.length : Int))).map V.bl := by
          conv => rhs; rw [← map_getD xs]
          rw [List.map_map, List.map_map]
          rfl
        rw [e] at this
        exact this
      · rw [List.all_map]
        show (false || _) = _
        rw [Bool.false_or]
        congr 1
        rw [Bool.not_eq_eq_eq_not, Bool.eq_iff_iff, decide_eq_true_iff]
        simp
        omega
    rcases k with ⟨a, ts, rfl, ha, ho, k⟩ | ⟨hb, k⟩
    · have hts : ∀ t ∈ ts, t < S.length := fun t ht => List.mem_range.mp (ho.mem_iff.mp ht)
      have hlen : ts.length = S.length := by have := ho.length_eq; rwa [List.length_range] at this
      refine q_when (b := false) (et_is (hseq a (natV ts) rfl ha (by rw [natV_len]; omega) fun y hy => by
        obtain ⟨t, _, rfl⟩ := List.mem_map.mp hy
        trivial) (by rw [isB_all hts, natV_len, decide_eq_false (by omega)]; rfl)) (fun z => Bool.noConfusion z) fun _ H2 e2 => ?_
      have sq2 : SqA K H2 a ((ts.map fun (i : Nat) => (i : Int)).map V.int) := by rw [← natV_ints]; exact (ha.ex (e1.trans e2)).sq
      refine q_when (b := false) (et_is (et_test (ev_neInts (el_sortA (ev_var rfl) sq2) (show EvL _ _ _ (((List.range S.length).map fun (i : Nat) => (i : Int)).map V.int) by rw [← natV_ints]; exact el_listR (ev_var rfl) (by omega)))) ?_) (fun z => Bool.noConfusion z) fun _ H3 e3 => ?_
      · rw [decide_eq_true (sort_range.mpr ho)]
        rfl
      · have e13 := (e1.trans e2).trans e3
        rcases ha with ha | ha
        · refine ⟨_, rfl, a, natV ts, rfl, .inl ⟨sq_of (e13 _ _ ha), fun l hl => ?_⟩⟩
          exact k l _ (e13.trans (Ex.new hl)) upd_same
        · exact ⟨_, rfl, a, natV ts, rfl, .inr ⟨st_of (e13 _ _ ha), k a _ e13 (e13 _ _ ha)⟩⟩
    · rcases hb with hv | ⟨a, xs, rfl, ha, hsc, hz, hno⟩
      · refine q_when (b := true) (et_is (et_or (a := true) (b := true) (et_is (et_not (et_B (SpV.call (ea_cons (ev_var rfl) ea_nil) (sv_is_sequence (b := false) (.inl ⟨hv, rfl⟩))))) rfl) (fun z => Bool.noConfusion z)) rfl) (fun _ H2 e2 => ?_) fun z => Bool.noConfusion z
        exact ⟨_, rfl, _, rfl, fun d hd => k d _ ((e1.trans e2).trans (Ex.new hd)) upd_same⟩
      · refine q_when (hseq a xs rfl (.inr ha) hz hsc) (fun _ H2 e2 => ⟨_, rfl, _, rfl, fun d hd => k d _ ((e1.trans e2).trans (Ex.new hd)) upd_same⟩) fun z H2 e2 => ?_
        obtain ⟨z1, z2⟩ := Bool.or_eq_false_iff.mp z
        have hall : xs.all (isB (S.length : Int)) = true := by
          cases q : xs.all (isB (S.length : Int)) with
          | true => rfl
          | false => rw [q] at z2; cases z2
        obtain ⟨ts, rfl, hts⟩ := natV_of (List.all_eq_true.mp hall)
        have sq2 : SqA K H2 a ((ts.map fun (i : Nat) => (i : Int)).map V.int) := by rw [← natV_ints]; exact .inr (st_of ((e1.trans e2) _ _ ha))
        refine q_when (b := true) (et_is (et_test (ev_neInts (el_sortA (ev_var rfl) sq2) (show EvL _ _ _ (((List.range S.length).map fun (i : Nat) => (i : Int)).map V.int) by rw [← natV_ints]; exact el_listR (ev_var rfl) (by omega)))) ?_) (fun _ H3 e3 => ⟨_, rfl, _, rfl, fun d hd => k d _ (((e1.trans e2).trans e3).trans (Ex.new hd)) upd_same⟩) fun z => Bool.noConfusion z
        rw [decide_eq_false fun y => hno ts rfl (sort_range.mp y)]
        rfl
end
end K30
namespace K30
namespace Mg
open PySem PySem.Spec PyProof.Rows L2
section
variable {prog : Program} {w : World} {K : Type} [DecidableEq K] {knd : KeyKind prog w K} {A : Around} {E : Value → Shared → Prop} {s : Shared}
theorem dictPut_pairs {d : Addr} {kvs : List (K × Value)} {k : K} {key v : Value} {Q : Unit → Shared → Prop} (hkey : knd.is k key = true) (hm : s.heap.DictOf knd d kvs)
    (hQ : ∀ h', h'.DictOf knd d (stored kvs k v) → Heap.SameBut d s.heap h' → Q () { s with heap := h' })
    (hsz : kvs.length ≤ sizeLine) :
    wpAny (model prog w) A (dictPut d (knd.hash k) key v) Q E s := by
  obtain ⟨o, es, ep, ho, hc, hd, hk, hp, hn⟩ := hm
  have hes : es.size ≤ sizeLine := by
    have e1 := hp.length
    have e2 : es.toList.length = es.size := by simp
    omega
  unfold dictPut
  refine wpAny_bind (wpAny_dictFind_of hkey ho hd hk ?_)
  have hidx : (es.findIdx? fun e => knd.is k e.key) = kvs.findIdx? fun kv => decide (kv.1 = k) := by
    rw [← hp.findIdx k]; obtain ⟨l⟩ := es; simp
  cases hi : es.findIdx? fun e => knd.is k e.key with
  | some i =>
    refine wpAny_updateDict ho hd (hQ _ ⟨_, _, ep, Heap.get?_update_self _ ho (Obj.isFreed_of_dict (Obj.data_mapDict hd _)),
      hc.mapDict _, Obj.data_mapDict hd _, hk.modify _ _, ?_, ?_⟩ (Heap.SameBut.update ..))
    · rw [stored, if_pos (any_of_findIdx_some (hidx ▸ hi))]
      have hl : (es.toList.findIdx? fun e => knd.is k e.key) = some i := by rw [← hi]; obtain ⟨l⟩ := es; simp
      have := hp.modify hn hl v
      obtain ⟨l⟩ := es
      simpa using this
    · rw [stored, if_pos (any_of_findIdx_some (hidx ▸ hi)), keys_map_store]; exact hn
  | none =>
    have hnot : k ∉ kvs.map (·.1) := not_mem_of_findIdx_none (hidx ▸ hi)
    have hany : ¬ (kvs.any fun kv => decide (kv.1 = k)) = true := by
      rw [List.any_eq_true]; rintro ⟨kv, hkv, he⟩
      exact hnot (List.mem_map.mpr ⟨kv, hkv, of_decide_eq_true he⟩)
    refine wpAny_updateDictKeys (hz := hes) ho hd (hQ _ ⟨_, _, ep + 1, Heap.get?_update_self _ ho (Obj.isFreed_of_dict (Obj.data_mapDictKeys hd _)),
      hc.mapDictKeys _, Obj.data_mapDictKeys hd _, hk.push hkey _, ?_, ?_⟩ (Heap.SameBut.update ..))
    · rw [stored, if_neg hany]
      have := hp.append hkey (knd.hash k) v
      obtain ⟨l⟩ := es
      simpa using this
    · rw [stored, if_neg hany, List.map_append, List.nodup_append]
      refine ⟨hn, by simp, ?_⟩
      intro a ha b hb
      simp only [List.map_cons, List.map_nil, List.mem_singleton] at hb
      subst hb
      exact fun e => hnot (e ▸ ha)
theorem forIn_idle {α β : Type} (f : α → β → Sem (ForInStep β)) (b : β) : ∀ l : List α, (∀ x ∈ l, f x b = pure (.yield b)) → forIn l b f = pure b
  | [], _ => rfl
  | x :: l, h => by
    rw [List.forIn_cons, h x List.mem_cons_self, pure_bind]
    exact forIn_idle f b l fun y hy => h y (List.mem_cons_of_mem _ hy)
/-- {.., **o, ..}: o's pairs put into d -/
theorem merge_pairs {d o : Addr} {kvs more : List (K × Value)} {Q : Unit → Shared → Prop} (hdo : d ≠ o) (hoS : (o == sysModules) = false)
    (hd : s.heap.DictOf knd d kvs) (ho : s.heap.DictOf knd o more) (hnr : ∀ k v a, knd.is k v = true → v ≠ .ref a)
    (hQ : ∀ h', h'.DictOf knd d (merged kvs more) → Heap.SameBut d s.heap h' → Q () { s with heap := h' })
    (hsz : kvs.length + more.length ≤ sizeLine) :
    wpAny (model prog w) A (mergeMapping d (.ref o) false) Q E s := by
  obtain ⟨od, esd, epd, hod, hcd, hdd, hkd, hpd, hnd⟩ := id hd
  obtain ⟨oo, eso, epo, hoo, hco, hdo', hko, hpo, hno⟩ := id ho
  have hlen : more.length = eso.size := by rw [← hpo.length]; simp
  unfold mergeMapping
  refine wpAny_bind (wpAny_isInstance ho.typeIs isSubtype_dict_dict ?_)
  show wpAny _ _ (specialOf (.ref o) (Str.ofString "__iter__") >>= _) _ _ _
  refine wpAny_bind (wpAny_specialOf ho.typeIs F.slot_dict_iter.lookup ?_)
  show wpAny _ _ (if (o == sysModules) = true then _ else _) _ _ _
  rw [if_neg (by rw [hoS]; exact Bool.false_ne_true)]
  have hloop : wpAny (model prog w) A (forIn (List.range eso.size) PUnit.unit fun i (_ : PUnit) => (do
          let l' ← dictEntries o
          match l'[i]? with
            | some e => do
              holding [e.key, e.val] (dictPut d e.hash e.key e.val)
              let ep' ← dictEpoch o
              if (ep' != epo) = true then do
                  (unsupported "dict.changed-during-merge" : Sem PUnit)
                  pure (ForInStep.yield PUnit.unit)
                else pure (ForInStep.yield PUnit.unit)
            | _ => do
              (unsupported "dict.changed-during-merge" : Sem PUnit)
              pure (ForInStep.yield PUnit.unit) : Sem (ForInStep PUnit))) Q E s := by
    refine wpAny_forIn_list _
      (fun rest _ s' => ∃ h' i, s' = { s with heap := h' } ∧ rest = List.range' i (eso.size - i) ∧ i ≤ eso.size ∧ h'.DictOf knd d (merged kvs (more.take i)) ∧ h'.get? o = some oo ∧ Heap.SameBut d s.heap h')
      _ ?_ ?_ _ _ ⟨s.heap, 0, rfl, by simp [List.range_eq_range'], Nat.zero_le _, by simpa [merged] using hd, hoo, Heap.SameBut.refl _ _⟩
    · rintro x rest b s' ⟨h', i, rfl, hr, hi, hd', hoo', hs'⟩
      have hlt : i < eso.size := by
        rcases Nat.lt_or_ge i eso.size with h | h
        · exact h
        · rw [Nat.sub_eq_zero_of_le h] at hr; simp at hr
      obtain ⟨rfl, hrest⟩ : x = i ∧ rest = List.range' (i + 1) (eso.size - (i + 1)) := by
        have e : eso.size - i = (eso.size - (i + 1)) + 1 := by omega
        rw [e, List.range'_succ] at hr
        injection hr with h1 h2
        exact ⟨h1, h2⟩
      refine wpAny_bind (wpAny_dictEntries hoo' hdo' ?_)
      rw [Array.getElem?_eq_getElem hlt]
      obtain ⟨kv, hkv⟩ : ∃ kv, more[x]? = some kv := ⟨more[x]'(by rw [hlen]; exact hlt), List.getElem?_eq_getElem _⟩
      obtain ⟨k, v⟩ := kv
      obtain ⟨hkey, hval⟩ := hpo.get? (e := eso[x]) (by simp [hlt]) hkv
      obtain ⟨k', hkey', hhash⟩ := hko eso[x] (Array.getElem_mem hlt)
      obtain rfl : k' = k := knd.inj _ _ _ hkey' hkey
      show wpAny _ _ (holding [eso[x].key, eso[x].val] (dictPut d eso[x].hash eso[x].key eso[x].val) >>= _) _ _ _
      rw [hhash, hval]
      have hmx : (merged kvs (more.take x)).length ≤ sizeLine := by
        have := merged_length_le kvs (more.take x)
        have e2 : (more.take x).length ≤ more.length := by simp; omega
        omega
      refine wpAny_bind (wpAny_holding (dictPut_pairs hkey hd' (fun h'' hd'' hs'' => ?_) hmx))
      have hoo'' : h''.get? o = some oo := (hs''.2 o (Ne.symm hdo)).trans hoo'
      refine wpAny_bind (wpAny_dictEpoch hoo'' hdo' ?_)
      rw [if_neg (by simp)]
      refine wpAny_pure ⟨h'', x + 1, rfl, hrest, hlt, ?_, hoo'', hs'.trans hs''⟩
      rw [merged_take_succ kvs more x _ hkv]
      exact hd''
    · rintro b s' ⟨h', i, rfl, hr, hi, hd', hoo', hs'⟩
      have hz : i = eso.size := by
        rcases Nat.lt_or_ge i eso.size with h | h
        · have e : eso.size - i = (eso.size - (i + 1)) + 1 := by omega
          rw [e, List.range'_succ] at hr
          cases hr
        · omega
      subst hz
      rw [← hlen, List.take_length] at hd'
      exact hQ h' hd' hs'
  have hrest : wpAny (model prog w) A (do
      let es2 ← dictEntries o
      let epoch ← dictEpoch o
      forIn (List.range es2.size) PUnit.unit fun i (_ : PUnit) => (do
          let l' ← dictEntries o
          match l'[i]? with
            | some e => do
              holding [e.key, e.val] (dictPut d e.hash e.key e.val)
              let ep' ← dictEpoch o
              if (ep' != epoch) = true then do
                  (unsupported "dict.changed-during-merge" : Sem PUnit)
                  pure (ForInStep.yield PUnit.unit)
                else pure (ForInStep.yield PUnit.unit)
            | _ => do
              (unsupported "dict.changed-during-merge" : Sem PUnit)
              pure (ForInStep.yield PUnit.unit) : Sem (ForInStep PUnit))
      pure ()) Q E s := by
    refine wpAny_bind (wpAny_dictEntries hoo hdo' ?_)
    refine wpAny_bind (wpAny_dictEpoch hoo hdo' ?_)
    exact wpAny_bind (wpAny_mono hloop (fun _ _ q => wpAny_pure q) fun _ _ e => e)
  refine wpAny_bind (wpAny_dictEntries hod hdd ?_)
  cases hem : esd.isEmpty with
  | false => exact hrest
  | true =>
    show wpAny _ _ (dictEntries o >>= _) _ _ _
    refine wpAny_bind (wpAny_dictEntries hoo hdo' ?_)
    obtain ⟨lo⟩ := eso
    refine wpAny_bind ?_
    rw [← Array.forIn_toList, forIn_idle _ _ _ fun x hx => ?_]
    · exact wpAny_pure hrest
    · obtain ⟨k, hk1, _⟩ := hko x (by simpa using hx)
      obtain ⟨hh, ke, ve⟩ := x
      have hnk := hnr k ke
      cases ke with
      | ref a => exact absurd rfl (hnk a hk1)
      | _ => rfl
/-- {**a, **b, k: v} -/
theorem disp3 {pos : Pos} {ta tb tk tv : Sem Value} {Q : Value → Shared → Prop} 
    (h : wpAny (model prog w) A ta (fun x s1 => ∃ a ma, x = .ref a ∧ s.heap.objs.size ≠ a ∧ (a == sysModules) = false ∧ s1.heap.DictOf knd s.heap.objs.size [] ∧ s1.heap.DictOf knd a ma ∧ ma.length ≤ 1000 ∧
      ∀ h2, h2.DictOf knd s.heap.objs.size (merged [] ma) → Heap.SameBut s.heap.objs.size s1.heap h2 → wpAny (model prog w) A tb (fun y s3 => ∃ b mb m2, y = .ref b ∧ s.heap.objs.size ≠ b ∧ (b == sysModules) = false ∧ s3.heap.DictOf knd s.heap.objs.size m2 ∧ m2.length ≤ 1000 ∧ s3.heap.DictOf knd b mb ∧ mb.length ≤ 1000 ∧
        ∀ h4, h4.DictOf knd s.heap.objs.size (merged m2 mb) → Heap.SameBut s.heap.objs.size s3.heap h4 →
          wpAny (model prog w) A (evalPairs [(tk, tv)]) (fun vs s5 => ∃ k u r, vs = [(u, r)] ∧ knd.is k u = true ∧ h4.objs.size ≠ s.heap.objs.size ∧ (h4.objs.size == sysModules) = false ∧ s5.heap.DictOf knd h4.objs.size [] ∧
            ∀ h6, h6.DictOf knd h4.objs.size [(k, r)] → Heap.SameBut h4.objs.size s5.heap h6 → ∃ m6, m6.length ≤ 2000 ∧ h6.DictOf knd s.heap.objs.size m6 ∧
              ∀ h7, h7.DictOf knd s.heap.objs.size (stored m6 k r) → Heap.SameBut s.heap.objs.size h6 h7 → Q (.ref s.heap.objs.size) { s5 with heap := h7, toks := s5.toks + 1 }) E
            { s3 with heap := h4.push { cls := .type "dict", data := .dict #[] } }) E { s1 with heap := h2 }) E
      { s with heap := s.heap.push { cls := .type "dict", data := .dict #[] } })
    (hnr : ∀ k v a, knd.is k v = true → v ≠ .ref a) : wpAny (model prog w) A (dictDisplay [(none, ta), (none, tb), (some tk, tv)]) Q E s := by
  unfold dictDisplay
  dsimp only
  simp only [List.forIn_cons, List.forIn_nil, List.isEmpty_nil, if_true, pure_bind, List.length_append, List.nil_append, List.length_cons, List.length_nil]
  refine wpAny_bind (wpAny_bind (wpAny_bind (wpAny_alloc ?_)))
  refine wpAny_bind (wpAny_holding (wpAny_mono h (fun x s1 hx => ?_) fun _ _ e => e))
  obtain ⟨a, ma, rfl, ne1, sy1, hd1, ha1, hz1, h⟩ := hx
  refine wpAny_bind (wpAny_onRaise (wpAny_tryCatch (wpAny_onRaise (wpAny_holding (merge_pairs ne1 sy1 hd1 ha1 hnr (fun h2 hd2 sb2 => ?_) (by rw [sizeLine_eq, List.length_nil]; omega))))))
  refine wpAny_pure ?_
  refine wpAny_bind (wpAny_bind (wpAny_pure ?_))
  refine wpAny_bind (wpAny_holding (wpAny_mono (h h2 hd2 sb2) (fun y s3 hy => ?_) fun _ _ e => e))
  obtain ⟨b, mb, m2, rfl, ne3, sy3, hd3, z1, hb3, hz3, h⟩ := hy
  refine wpAny_bind (wpAny_onRaise (wpAny_tryCatch (wpAny_onRaise (wpAny_holding (merge_pairs ne3 sy3 hd3 hb3 hnr (fun h4 hd4 sb4 => ?_) (by rw [sizeLine_eq]; omega))))))
  refine wpAny_pure ?_
  refine wpAny_bind (wpAny_pure ?_)
  refine wpAny_pure ?_
  refine wpAny_bind (wpAny_bind (wpAny_holding (wpAny_subDict (knd := knd) (by show 1 ≤ 15; omega) (wpAny_mono (h h4 hd4 sb4) (fun vs s5 hv => ?_) fun _ _ e => e))))
  obtain ⟨k, u, r, rfl, hk, hne, hsy, hd5, h⟩ := hv
  refine ⟨[(k, r)], ⟨hk, rfl, trivial⟩, hd5, fun h6 hd6 sb6 => ?_⟩
  obtain ⟨m6, z6, hm6, h⟩ := h h6 hd6 sb6
  refine wpAny_bind (wpAny_onRaise (wpAny_holding (merge_pairs (s := { s5 with heap := h6, toks := s5.toks + 1 }) (Ne.symm hne) hsy hm6 hd6 hnr (fun h7 hd7 sb7 => ?_) (by rw [sizeLine_eq]; show _ + 1 ≤ _; omega))))
  exact wpAny_pure (wpAny_pure (h h7 hd7 sb7))
end
end Mg
open PySem PySem.Spec PyProof.Rows L2 Evl
/-- {**a, **b, k: v} -/
def tMerge3 (ta tb tk tv : TE) : TE := fun σ H Q => ∀ d, H d = none → ta σ (upd H d (.dK [])) fun x H1 => ∃ (a : Addr) (ka : List (Key × V)), x = .ref a ∧ d ≠ a ∧ H1 d = some (.dK []) ∧ H1 a = some (.dK ka) ∧ ka.length ≤ 1000 ∧
  tb σ (upd H1 d (.dK (mergeK [] ka))) fun y H2 => ∃ (b : Addr) (kb : List (Key × V)), y = .ref b ∧ d ≠ b ∧ H2 d = some (.dK (mergeK [] ka)) ∧ H2 b = some (.dK kb) ∧ kb.length ≤ 1000 ∧
    ∀ e, (upd H2 d (.dK (mergeK (mergeK [] ka) kb))) e = none → tPairs [(tk, tv)] σ (upd (upd H2 d (.dK (mergeK (mergeK [] ka) kb))) e (.dK [])) fun ps H3 => ∃ (k : Key) (v : V), ps = [(kV k, v)] ∧ H3 e = some (.dK []) ∧ H3 d = some (.dK (mergeK (mergeK [] ka) kb)) ∧
      Q (.ref d) (upd (upd H3 e (.dK [(k, v)])) d (.dK (putK (mergeK (mergeK [] ka) kb) k v)))
theorem pe_disp3 {X : Cx} {pos : Pos} {a b k v : Expr} {ta tb tk tv : TE} (ha : PE X a ta) (hb : PE X b tb) (hk : PE X k tk) (hv : PE X v tv) : PE X (.Dict [none, none, some k] [a, b, v] pos) (tMerge3 ta tb tk tv) := by
  refine ⟨fun pins s σ H Q I q => ?_⟩
  have hn := I.hok.fresh (Nat.le_refl s.heap.objs.size)
  have I1 := I.laid (a := s.heap.objs.size) (o := .dK []) (h' := s.heap.push { cls := .type "dict", data := .dict #[] }) (t' := s.toks) (fun _ _ q => Heap.get?_push_of_some _ q) (Nat.le_refl _) (dk_empty s.heap I.big)
  have hnr : ∀ (k : Key) (v : Value) (a : Addr), (mixKind X.prog X.w).is k v = true → v ≠ .ref a := fun k v a h z => by
    subst z
    rcases keyIs_shape (k := k) (v := .ref a) h with ⟨_, _, _, e⟩ | ⟨_, _, _, e⟩ <;> cases e
  have hw : ∀ {r : List (Key × V)} {vs : List (Key × Value)}, KV r vs → vs.length = r.length := fun r => r.length.symm
  rw [arm_eval_Dict]
  refine wpAny_bind (wpAny_standAt ?_)
  show wpAny _ _ (dictDisplay [(none, do let x ← eval a X.env; standAt pos; pure x), (none, do let x ← eval b X.env; standAt pos; pure x), (some (eval k X.env), do let x ← eval v X.env; standAt pos; pure x)]) _ _ _
  refine Mg.disp3 (knd := mixKind X.prog X.w) (pos := pos) ?_ hnr
  refine wpAny_bind (thn (ha.run pins _ σ _ _ I1 (q _ hn)) fun u s1 ⟨x, H1, I2, rx, a, ka, ex, ne, ed, ea, la, q1⟩ => wpAny_bind (wpAny_standAt (wpAny_pure ?_)))
  subst ex
  obtain rfl : u = Value.ref a := rx
  obtain ⟨z0, hd0, vs0, r0, dd0⟩ := dk_of I2.hok ed
  cases r0
  obtain ⟨za, hda, vsa, ra, dda⟩ := dk_of I2.hok ea
  refine ⟨a, vsa, rfl, ne, hda, dd0, dda, by rw [hw ra]; exact la, fun h2 d2 sb2 => ?_⟩
  have l1 := length_mergeK ka []
  rw [List.length_nil] at l1
  have I3 := d_write (t' := s1.toks) I2 (by rw [ed]; exact True.intro) sb2 (let ⟨q, _, _, hq, _⟩ := d2; ⟨q, hq⟩) (dk_new (by rw [sizeLine_eq]; omega) hd0 (ra.merge .nil) d2)
  refine wpAny_bind (thn (hb.run pins _ σ _ _ I3 q1) fun u s3 ⟨y, H2, I4, ry, b, kb, ey, ne3, ed3, eb, lb, q2⟩ => wpAny_bind (wpAny_standAt (wpAny_pure ?_)))
  subst ey
  obtain rfl : u = Value.ref b := ry
  obtain ⟨z4, hd4, vs4, r4, dd4⟩ := dk_of I4.hok ed3
  obtain ⟨zb, hdb, vsb, rb, ddb⟩ := dk_of I4.hok eb
  refine ⟨b, vsb, vs4, rfl, ne3, hdb, dd4, by rw [hw r4]; omega, ddb, by rw [hw rb]; exact lb, fun h4 d4 sb4 => ?_⟩
  have l2 := length_mergeK kb (mergeK [] ka)
  have I5 := d_write (t' := s3.toks) I4 (by rw [ed3]; exact True.intro) sb4 (let ⟨q, _, _, hq, _⟩ := d4; ⟨q, hq⟩) (dk_new (by rw [sizeLine_eq]; omega) hd4 (rb.merge r4) d4)
  have I6 := I5.laid (a := h4.objs.size) (o := .dK []) (h' := h4.push { cls := .type "dict", data := .dict #[] }) (t' := s3.toks) (fun _ _ q => Heap.get?_push_of_some _ q) (Nat.le_refl _) (dk_empty h4 I5.big)
  have hn5 := I5.hok.fresh (Nat.le_refl h4.objs.size)
  refine thn (((pps_cons hk hv pps_nil : PPs X pos [some k] [v] [(tk, tv)])).run pins _ σ _ _ I6 (q2 _ hn5)) fun vs s5 ⟨ps, H3, I7, rel, kk, v, eps, ee, edd, q3⟩ => ?_
  subst eps
  cases rel with
  | @cons _ p0 _ _ hh tl =>
    cases tl
    obtain ⟨p1, p2⟩ := p0
    have hne : h4.objs.size ≠ s.heap.objs.size := fun z => by
      rw [z, upd_same] at hn5
      cases hn5
    obtain ⟨z7, hd7, vs7, r7, dd7⟩ := dk_of I7.hok ee
    cases r7
    refine ⟨kk, p1, p2, rfl, kV_is hh.1, hne, hd7, dd7, fun h6 d6 sb6 => ?_⟩
    have I8 := d_write (t' := s5.toks + 1) I7 (by rw [ee]; exact True.intro) sb6 (let ⟨q, _, _, hq, _⟩ := d6; ⟨q, hq⟩) (dk_new (kvs := [(kk, v)]) (by rw [sizeLine_eq]; show 1 ≤ _; omega) hd7 (.cons ⟨rfl, hh.2⟩ .nil) d6)
    have ed8 : (upd H3 h4.objs.size (.dK [(kk, v)])) s.heap.objs.size = some (.dK (mergeK (mergeK [] ka) kb)) := by rw [upd_ne (Ne.symm hne)]; exact edd
    obtain ⟨z8, hd8, vs8, r8, dd8⟩ := dk_of I8.hok ed8
    refine ⟨vs8, by rw [hw r8]; omega, dd8, fun h7 d7 sb7 => ⟨.ref s.heap.objs.size, _, ?_, rfl, q3⟩⟩
    have l3 := length_putK (mergeK (mergeK [] ka) kb) kk v
    exact d_write (s := { s5 with heap := h6, toks := s5.toks + 1 }) (t' := s5.toks + 1) I8 (by rw [ed8]; exact True.intro) sb7 (let ⟨q, _, _, hq, _⟩ := d7; ⟨q, hq⟩) (dk_new (by rw [sizeLine_eq]; omega) hd8 (r8.put kk hh.2) d7)
theorem ev_merge3 {σ : L2.St} {H : Hp} {ta tb tk tv : TE} {a b : Addr} {ka kb : List (Key × V)} {k : Key} {v : V} (ha : Ev ta σ H (.ref a)) (hb : Ev tb σ H (.ref b)) (hk : Ev tk σ H (kV k)) (hv : Ev tv σ H v) (ea : H a = some (.dK ka)) (eb : H b = some (.dK kb)) (la : ka.length ≤ 1000) (lb : kb.length ≤ 1000) :
    ∀ H1, Ex H H1 → ∀ Q : VK, (∀ p H2, H1 p = none → Ex H1 H2 → H2 p = some (.dK (putK (mergeK (mergeK [] ka) kb) k v)) → Q (.ref p) H2) → tMerge3 ta tb tk tv σ H1 Q := fun H1 e1 Q q d hd => by
  have x0 : Ex H1 (upd H1 d (.dK [])) := Ex.new hd
  refine ha _ (e1.trans x0) _ fun H2 e2 => ⟨a, ka, rfl, fun z => ?_, e2 _ _ upd_same, e2 _ _ (x0 _ _ (e1 _ _ ea)), la, ?_⟩
  · subst z
    rw [e1 _ _ ea] at hd
    cases hd
  have x2 : Ex H1 (upd H2 d (.dK (mergeK [] ka))) := (x0.trans e2).mut hd
  refine hb _ (e1.trans x2) _ fun H3 e3 => ⟨b, kb, rfl, fun z => ?_, e3 _ _ upd_same, e3 _ _ (x2 _ _ (e1 _ _ eb)), lb, fun e he => ?_⟩
  · subst z
    rw [e1 _ _ eb] at hd
    cases hd
  have x4 : Ex H1 (upd H3 d (.dK (mergeK (mergeK [] ka) kb))) := (x2.trans e3).mut hd
  have x5 : Ex H1 (upd (upd H3 d (.dK (mergeK (mergeK [] ka) kb))) e (.dK [])) := x4.trans (Ex.new he)
  have hne : e ≠ d := fun z => by
    rw [z, upd_same] at he
    cases he
  refine hk _ (e1.trans x5) _ fun H4 e4 => hv _ (e1.trans (x5.trans e4)) _ fun H5 e5 => ⟨k, v, rfl, e5 _ _ (e4 _ _ upd_same), e5 _ _ (e4 _ _ ?_), ?_⟩
  · rw [upd_ne (Ne.symm hne), upd_same]
  have he1 : H1 e = none := fresh_back x4 he
  exact q d _ hd ((((x5.trans e4).trans e5).mut he1).mut hd) upd_same
end K30
namespace K30
open PySem PySem.Spec PyProof.Rows L2 Evl K30M
theorem passE {X : Cx} {E : XK} (tk : Takes X (fun cls d _ H => E cls d H)) : Passes (L2.CX X.prog X.w) X E := passes_call tk fun _ _ _ _ h => h
/-! ### dicts of names put together -/
def add1 (l : List Nat) (j : Nat) : List Nat := if j ∈ l then l else l ++ [j]
theorem mem_add1 {l : List Nat} {j x : Nat} : x ∈ add1 l j ↔ x ∈ l ∨ x = j := by
  unfold add1
  by_cases h : j ∈ l
  · rw [if_pos h]
    exact ⟨Or.inl, fun z => z.elim id fun e => e ▸ h⟩
  · rw [if_neg h, List.mem_append, List.mem_singleton]
theorem add1_nodup {l : List Nat} (h : l.Nodup) (j : Nat) : (add1 l j).Nodup := by
  unfold add1
  by_cases hm : j ∈ l
  · rwa [if_pos hm]
  · rw [if_neg hm, List.nodup_append]
    exact ⟨h, List.nodup_cons.mpr ⟨by simp, List.nodup_nil⟩, fun a ha b hb z => hm (by rw [← List.mem_singleton.mp hb, ← z]; exact ha)⟩
theorem seen_stay {l : List Nat} {j : Nat} (h : j ∈ l) : putK (seen l) (.inl (j : Int)) (.bl true) = seen l := by
  unfold putK
  rw [if_pos]
  · unfold seen
    rw [List.map_map]
    refine List.map_congr_left fun x _ => ?_
    show (if (Sum.inl (x : Int) : Key) = .inl (j : Int) then ((Sum.inl (x : Int) : Key), V.bl true) else (Sum.inl (x : Int), V.bl true)) = _
    rw [ite_self]
  · rw [List.any_eq_true]
    exact ⟨_, List.mem_map.mpr ⟨j, h, rfl⟩, decide_eq_true rfl⟩
theorem seen_add {l : List Nat} (j : Nat) : putK (seen l) (.inl (j : Int)) (.bl true) = seen (add1 l j) := by
  unfold add1
  by_cases h : j ∈ l
  · rw [if_pos h, seen_stay h]
  · rw [if_neg h, seen_put h]
def addAll (l m : List Nat) : List Nat := m.foldl add1 l
theorem mem_addAll {x : Nat} : ∀ {m l : List Nat}, x ∈ addAll l m ↔ x ∈ l ∨ x ∈ m
  | [], l => ⟨Or.inl, fun z => z.elim id fun y => (nomatch y)⟩
  | j :: m, l => by
    show x ∈ addAll (add1 l j) m ↔ _
    rw [mem_addAll (m := m), mem_add1, List.mem_cons, or_assoc]
theorem addAll_nodup : ∀ {m l : List Nat}, l.Nodup → (addAll l m).Nodup
  | [], l, h => h
  | j :: m, l, h => addAll_nodup (m := m) (add1_nodup h j)
theorem seen_merge : ∀ {m l : List Nat}, mergeK (seen l) (seen m) = seen (addAll l m)
  | [], l => rfl
  | j :: m, l => by
    show mergeK (putK (seen l) (.inl (j : Int)) (.bl true)) (seen m) = seen (addAll (add1 l j) m)
    rw [seen_add, seen_merge]
/-! ### what a house has heard, as a dict -/
def HeardD (H : Hp) (d : Addr) (T : Ties) (k : Know) (h : Nat) : Prop := ∃ ls : List Nat, H d = some (.dK (seen ls)) ∧ ls.Nodup ∧ ls.length = K30M.cnt T.length k h ∧ ls.length ≤ T.length ∧ ∀ j, j ∈ ls ↔ k h (.inr j) = true
theorem heardD_of {H : Hp} {d : Addr} {T : Ties} {k : Know} {h : Nat} {ls : List Nat} (hd : H d = some (.dK (seen ls))) (nd : ls.Nodup) (lt : ∀ j, k h (.inr j) = true → j < T.length) (m : ∀ j, j ∈ ls ↔ k h (.inr j) = true) : HeardD H d T k h := by
  have e : ls.length = K30M.cnt T.length k h := by
    unfold K30M.cnt
    rw [List.countP_eq_length_filter]
    have nf : ((List.range T.length).filter fun j => k h (.inr j)).Nodup := List.Pairwise.filter _ List.nodup_range
    have h1 := nd.length_le_of_subset (l₂ := (List.range T.length).filter fun j => k h (.inr j)) fun j hj => List.mem_filter.mpr ⟨List.mem_range.mpr (lt j ((m j).mp hj)), (m j).mp hj⟩
    have h2 := nf.length_le_of_subset (l₂ := ls) fun j hj => (m j).mpr (List.mem_filter.mp hj).2
    omega
  refine ⟨ls, hd, nd, e, ?_, m⟩
  rw [e]
  unfold K30M.cnt
  have := List.countP_le_length (p := fun j => k h (.inr j)) (l := List.range T.length)
  rwa [List.length_range] at this
theorem HeardD.ex {H H' : Hp} {d : Addr} {T : Ties} {k : Know} {h : Nat} (a : HeardD H d T k h) (e : Ex H H') : HeardD H' d T k h := by
  obtain ⟨ls, h1, h2⟩ := a
  exact ⟨ls, e _ _ h1, h2⟩
theorem HeardD.mut {H H' : Hp} {d a : Addr} {xs : List V} {T : Ties} {k : Know} {h : Nat} (q : HeardD H d T k h) (ha : ∃ ys, H a = some (.lst ys)) : HeardD (upd H a (.lst xs)) d T k h := by
  obtain ⟨ls, h1, h2⟩ := q
  refine ⟨ls, ?_, h2⟩
  rw [upd_ne]
  · exact h1
  · intro z
    obtain ⟨ys, hy⟩ := ha
    rw [z, hy] at h1
    cases h1
section
variable {K : PySem.W.Frag} {σ : L2.St} {H : Hp} {wi : TI} {n : Nat} {g : TG} {vs : List Nat} {YY : Nat → V → Hp → Prop}
/-- [{} for ..] -/
theorem lc_news (src : Src wi σ H H n YY) (hn : n ≤ 40000)
    (hs : ∀ i x H1, Ex H H1 → i < n → YY i x H1 → ∀ Q : L2.St → Hp → Prop, (∀ σ2, wipe σ2 vs = wipe σ vs → Q σ2 H1) → g x (wipe σ vs) H1 Q) :
    ∀ H1, Ex H H1 → ∀ Q : VK, (∀ p H2 (ds : List Addr), H1 p = none → Ex H1 H2 → H2 p = some (.lst (ds.map V.ref)) → ds.length = n → (∀ d ∈ ds, H2 d = some (.dK [])) → Q (.ref p) H2) → tLc wi g tYes tDNewK vs σ H1 Q := fun H1 e1 Q q => src H1 e1 _ fun J H2 Y G e2 W hG hY Dl hD => by
  refine lc_it W (fun i H' => Ex H2 H' ∧ ∃ ds : List Addr, H' Dl = some (.lst (ds.map V.ref)) ∧ ds.length = i ∧ ∀ d ∈ ds, H' d = some (.dK [])) ⟨Ex.new hD, [], upd_same, rfl, fun _ h => (nomatch h)⟩ (fun i H' _ p => hG _ ((e1.trans e2).trans p.1)) ?_ (fun H' p => by
    obtain ⟨p1, ds, p2, p3, p4⟩ := p
    exact q Dl H' ds (fresh_back e2 hD) (e2.trans p1) p2 p3 p4)
  intro i x H3 H4 hi p hy
  obtain ⟨p1, ds, p2, p3, p4⟩ := p
  obtain ⟨e3, yy⟩ := hY i H3 x H4 hi ((e1.trans e2).trans p1) hy
  refine hs i x H4 ((e1.trans e2).trans (p1.trans e3)) hi yy _ fun σ2 hw => ⟨hw, ?_⟩
  refine iteT (B := Ex H2 H4 ∧ ∃ ds : List Addr, H4 Dl = some (.lst (ds.map V.ref)) ∧ ds.length = i + 1 ∧ ∀ d ∈ ds, H4 d = some (.dK [])) ?_
  intro d hd
  have e4 : Ex H4 (upd H4 d (.dK [])) := Ex.new hd
  refine ⟨ds.map V.ref, e4 _ _ (e3 _ _ p2), by rw [List.length_map, sizeLine_eq]; omega, ((p1.trans e3).trans e4).mut hD, ds ++ [d], by rw [upd_same, List.map_append]; rfl, by rw [List.length_append, p3]; rfl, fun b hb => ?_⟩
  have hbD : upd H4 d (.dK []) b = some (.dK []) := by
    rcases List.mem_append.mp hb with hb | hb
    · exact e4 _ _ (e3 _ _ (p4 b hb))
    · rw [List.mem_singleton.mp hb]
      exact upd_same
  rw [upd_ne]
  · exact hbD
  · intro z
    rw [z] at hbD
    rw [e4 _ _ (e3 _ _ p2)] at hbD
    cases hbD
end
theorem listSum_sum (f : List Nat → Int) : ∀ ps : List (List Nat), (ps.map f).sum = listSum f ps
  | [] => rfl
  | p :: ps => by
    rw [List.map_cons, List.sum_cons, listSum_sum f ps]
    rfl
theorem lack_nil (n : Nat) (k : Know) : lack n [] k = 0 := by
  unfold lack
  rw [sumN_congr (g := fun _ => 0) fun x _ => ?_, sumN_zero]
  show ((ecount [] x : Nat) : Int) - ((K30M.cnt 0 k x : Nat) : Int) = 0
  unfold ecount K30M.cnt
  simp
theorem whole_nil (n : Nat) (k : Know) : Whole n [] k := fun h _ j hj => absurd hj (Nat.not_lt_zero j)
/-- > 0 as long as not whole, ties or none -/
theorem lack_iff {n : Nat} {T : Ties} {ts : List Nat} (o : Order T ts) (k : Nat) : 0 < lack n T (know T ts k) ↔ ¬ Whole n T (know T ts k) := by
  by_cases hT : 0 < T.length
  · exact lack_whole o hT k
  · have : T = [] := List.eq_nil_of_length_eq_zero (by omega)
    subst this
    rw [lack_nil]
    exact ⟨fun z => absurd z (by omega), fun z => absurd (whole_nil n _) z⟩
theorem q_any {te : TE} {i : Nat} {σ : L2.St} {H : Hp} {tz : TS} {D : Ends} (h : te σ H fun v H1 => tz D (σ.set i (some v)) H1) : tSeq (tAsg te (gName i)) tz D σ H := h
theorem q_setNew {te ta tb : TE} {σ : L2.St} {H : Hp} {tz : TS} {D : Ends} {ob : HO} {l : Addr} {xs : List V} {j : Nat} (h : ∀ Q : VK, (∀ p H1, H p = none → Ex H H1 → H1 p = some ob → Q (.ref p) H1) → te σ H Q) (hl : H l = some (.lst xs)) (ho : Ev ta σ H (.ref l)) (hi : Ev tb σ H (.int (j : Int))) (hj : j < xs.length)
    (k : ∀ p H1, H p = none → Ex H H1 → H1 p = some ob → tz D σ (upd H1 l (.lst (xs.set j (.ref p))))) : tSeq (tAsg te (gSub ta tb rSetL)) tz D σ H :=
  h _ fun p H1 hp e1 h1 => ho H1 e1 _ fun H2 e2 => hi H2 (e1.trans e2) _ fun H3 e3 => ⟨l, xs, (j : Int), j, rfl, rfl, ((e1.trans e2).trans e3) l _ hl, ixN_nat hj, k p H3 hp ((e1.trans e2).trans e3) (e3 _ _ (e2 _ _ h1))⟩
theorem ev_lenD {tl : TE} {σ : L2.St} {H : Hp} {d : Addr} {kvs : List (Key × V)} (h : Ev tl σ H (.ref d)) (hd : H d = some (.dK kvs)) :
    Ev (tCB (fun xs H Q => ∃ a kvs, xs = [V.ref a] ∧ H a = some (.dK kvs) ∧ Q (.int kvs.length) H) (tCons tl tNil)) σ H (.int (kvs.length : Int)) := fun H1 e1 Q q =>
  h H1 e1 _ fun H2 e2 => ⟨d, kvs, rfl, (e1.trans e2) _ _ hd, q H2 e2⟩
theorem ev1 {te : TE} {r : List V → Hp → VK → Prop} {σ : L2.St} {H : Hp} {Q : VK} (h : te σ H fun v H1 => r [v] H1 Q) : tCB r (tCons te tNil) σ H Q := h
theorem turn_get {ts : List Nat} (h : 0 < ts.length) (k : Nat) : ts[k % ts.length]? = some (K30M.turn ts k) := by
  unfold K30M.turn
  rw [List.getD_eq_getElem?_getD, List.getElem?_eq_getElem (Nat.mod_lt _ h)]
  rfl
theorem map_getD2 {α β : Type} (f : α → β) (l : List α) (d : α) : (List.range l.length).map (fun i => f (l.getD i d)) = l.map f := by
  apply List.ext_getElem?
  intro i
  rw [List.getElem?_map, List.getElem?_map]
  by_cases hi : i < l.length
  · rw [List.getElem?_range hi, List.getElem?_eq_getElem hi]
    simp only [Option.map_some, List.getD_eq_getElem?_getD, List.getElem?_eq_getElem hi, Option.getD_some]
  · rw [List.getElem?_eq_none (by simpa using hi), List.getElem?_eq_none (by simpa using hi)]
    rfl
theorem parts_le {n : Nat} {T : Ties} {ps : List (List Nat)} (hP : Parts n T ps) : ps.length ≤ n := by
  have h3 : ps ⊆ (List.range n).map (fun h => K30M.part T n h) := fun l hl => by
    obtain ⟨h, hn, e⟩ := (hP.mem l).mp hl
    exact List.mem_map.mpr ⟨h, List.mem_range.mpr hn, e.symm⟩
  have h4 := hP.nd.length_le_of_subset h3
  rwa [List.length_map, List.length_range] at h4
def RestJ (H : Hp) (x a p l : Addr) (n : Nat) (S : Ties) (ts : List Nat) (k : Nat) (σ' : L2.St) (H' : Hp) : Prop := ∃ ds : List Addr, Ex H H' ∧ H' p = some (.tup (natV ts)) ∧ H' l = some (.lst (ds.map V.ref)) ∧ ds.length = n ∧ (∀ (h : Nat) d, ds[h]? = some d → HeardD H' d S (know S ts k) h) ∧ (∀ j, j < k → ¬ Whole n S (know S ts j)) ∧
        ∃ a6 a7 a8 a9 a10 a11, σ' = [some (.ref x), some (.ref a), some (.ref p), some (.ref l), some (.int (lack n S (know S ts k))), some (.int (k : Int)), a6, a7, a8, a9, a10, a11]
def spRestAfter (K : PySem.W.Frag) : Sp := fun vs H Q E => ∃ (x : Addr) (n : Nat) (T : Ties) (v : V), vs = [.ref x, v] ∧ WebAt K H x n T ∧
  ((Tree n T ∧ ∃ a ts, v = .ref a ∧ TurnsAt H a ts ∧ Order T ts ∧ ∀ k H2, Due n T ts k → Ex H H2 → Q (.int (k : Int)) H2) ∨
    (¬ Tree n T ∧ ∀ d H2, Ex H H2 → H2 d = some (.xd [("at", .ref x)]) → E (.ref (He.ga K "Refused")) (some d) H2) ∨
    (Tree n T ∧ BadTurns H T.length v ∧ ∀ d H2, Ex H H2 → H2 d = some (.xd [("at", v)]) → E (.ref (He.ga K "Refused")) (some d) H2))
section
variable {P : Program} {w : World} {K : PySem.W.Frag} {mg : Str → Option Value} {base : Heap}
theorem sc_rest_after : FnScope ["web", "turns", "told", "heard", "lacking", "many", "tie", "one", "other", "both", "_", "part"] ["web", "turns"] (defScope (top 41)) := ⟨rfl, rfl, rfl, by decide +kernel, rfl, by decide +kernel, by decide +kernel⟩
theorem k_rest_after (T : Tx P K mg base) : Df P w K mg base 6 "rest_after" ["web", "turns"] (spRestAfter K) := by
  obtain ⟨fd, F⟩ := T.d_rest_after
  have D_need_forest := k_need_forest (P := P) (w := w) T
  have D_check_turns := (k_check_turns (P := P) (w := w) T).mono (show 4 ≤ 5 by decide)
  have D_parts_of := (k_parts_of (P := P) (w := w) T.toTxt).mono (show 3 ≤ 5 by decide)
  refine Df.mk1 (i := 41) T.g_rest_after F (fun _ _ _ _ _ _ us hl => match us, hl with | [_, _], _ => rfl) (F.ok sc_rest_after (fun vs H Q E h => ?_) (fun cdv A outer s H vs Q E hr h => ?_))
  · obtain ⟨_, _, _, _, rfl, _⟩ := h
    rfl
  · obtain ⟨x, n, S, v, rfl, W, k⟩ := h
    obtain ⟨dx, tt, rs, hx, ht⟩ := W.ex
    have t20 := W.good.t20
    have n12 := W.good.n12
    refine ⟨_, (pss_cons (ps_set (i := 2) sc_rest_after.nd rfl (Or.inl rfl) (pe_df (E := E) D_check_turns hr (passE (takes_of rfl rfl rfl rfl)) (pa_cons (pe_df (E := E) D_need_forest hr (passE (takes_of rfl rfl rfl rfl)) (pa_cons (pv 0) pa_nil)) (pa_cons (pv 1) pa_nil)))) (pss_cons (ps_setLc (i := 3) (own := [("_", 10)]) (g := (gName 10)) rfl sc_rest_after.nd rfl rfl (sw_true rfl rfl rfl (by decide +kernel)) (pi_range1 (by rfl) T.f_range (pa_cons (bpe_fld (K := K) rfl (pv 0) rfl) pa_nil)) (blkOk_by (N := ["web", "turns", "told", "heard", "lacking", "many", "tie", "one", "other", "both", "_", "part"]) (sc := defScope (top 41)) (by decide +kernel)) (fun _ _ _ _ _ => (pg_name (i := 10) sc_rest_after.nd rfl (Or.inl rfl))) (fun _ _ _ _ _ => pts_nil) (fun _ _ _ _ _ => pe_dnewK)) (pss_cons (ps_set (i := 4) sc_rest_after.nd rfl (Or.inl rfl) (pe_callB (bc_sum (K := K) rfl rfl) (by rfl) T.f_sum bt_sum (pa_cons (pe_lc (own := [("part", 11)]) (g := (gName 11)) rfl sc_rest_after.nd (pi_tup (pe_d0 D_parts_of hr (pa_cons (pv 0) pa_nil))) (blkOk_by (N := ["web", "turns", "told", "heard", "lacking", "many", "tie", "one", "other", "both", "_", "part"]) (sc := defScope (top 41)) (by decide +kernel)) (fun _ _ _ _ _ => (pg_name (i := 11) sc_rest_after.nd rfl (Or.inl rfl))) (fun _ _ _ _ _ => pts_nil) (fun _ _ _ _ _ => (pe_op op_mul (pe_callB (bc_len (K := K) rfl) (by rfl) T.f_len bt_len (pa_cons (pv 11) pa_nil)) (pe_op op_sub (pe_callB (bc_len (K := K) rfl) (by rfl) T.f_len bt_len (pa_cons (pv 11) pa_nil)) pe_int)))) pa_nil))) (pss_cons (ps_set (i := 5) sc_rest_after.nd rfl (Or.inl rfl) pe_int) (pss_cons (ps_while (passes_of rfl) (pt_cmpR op_gt (pv 4) pe_int (nomark _)) (pss_cons (ps_set (i := 6) sc_rest_after.nd rfl (Or.inl rfl) (pe_ix (bix_tup (K := K) rfl) (pv 2) (pe_op op_mod (pv 5) (pe_callB (bc_len (K := K) rfl) (by rfl) T.f_len bt_len (pa_cons (pv 2) pa_nil))) (fun _ _ => rfl))) (pss_cons (ps_asg (pe_ix (bix_tup (K := K) rfl) (bpe_fld (K := K) rfl (pv 0) rfl) (pv 6) (fun _ _ => rfl)) (pg_tup rfl (pgs_cons (pg_name (i := 7) sc_rest_after.nd rfl (Or.inl rfl)) (pgs_cons (pg_name (i := 8) sc_rest_after.nd rfl (Or.inl rfl)) pgs_nil)))) (pss_cons (ps_set (i := 9) sc_rest_after.nd rfl (Or.inl rfl) (pe_disp3 (pe_ix (bix_list (K := K) rfl) (pv 3) (pv 7) (fun _ _ => rfl)) (pe_ix (bix_list (K := K) rfl) (pv 3) (pv 8) (fun _ _ => rfl)) (pv 6) pe_bl)) (pss_cons (ps_aug (i := 4) sc_rest_after.nd rfl (Or.inl rfl) (pe_op op_sub (pe_op op_sub (pe_op op_mul pe_int (pe_callB call_lenD (by rfl) T.f_len bt_len (pa_cons (pv 9) pa_nil))) (pe_callB call_lenD (by rfl) T.f_len bt_len (pa_cons (pe_ix (bix_list (K := K) rfl) (pv 3) (pv 7) (fun _ _ => rfl)) pa_nil))) (pe_callB call_lenD (by rfl) T.f_len bt_len (pa_cons (pe_ix (bix_list (K := K) rfl) (pv 3) (pv 8) (fun _ _ => rfl)) pa_nil))) ip_sub) (pss_cons (ps_asg (pv 9) (pg_sub (pv 3) (pv 7) set_list)) (pss_cons (ps_asg (pe_callTy call_dictD (by rfl) T.f_dict bt_dict (pa_cons (pv 9) pa_nil)) (pg_sub (pv 3) (pv 8) set_list)) (pss_one (ps_aug (i := 5) sc_rest_after.nd rfl (Or.inl rfl) pe_int ip_add))))))))) (pss_one (ps_ret (pv 5)))))))), ?_⟩
    have call2 : ∀ {σ : L2.St} {H1 : Hp}, Ex H H1 → σ[0]? = some (some (.ref x)) → σ[1]? = some (some v) → ∀ {tz : TS} {D : Ends}, Tree n S →
        ((∃ a ts, v = .ref a ∧ TurnsAt H a ts ∧ Order S ts ∧ ∀ p H2, Ex H1 H2 → H2 p = some (.tup (natV ts)) → tz D (σ.set 2 (some (.ref p))) H2) ∨ (BadTurns H S.length v ∧ ∀ d H2, Ex H H2 → H2 d = some (.xd [("at", v)]) → E (.ref (He.ga K "Refused")) (some d) H2)) →
        tSeq (tAsg (tCall (spCheckTurns K) [] E (tCons (tCall (spNeedForest K) [] E (tCons (tVar 0) tNil)) (tCons (tVar 1) tNil))) (gName 2)) tz D σ H1 := by
      intro σ H1 e1 h0 h1 tz D tr q
      refine ⟨_, h0, x, n, S, rfl, W.mono e1, .inl ⟨tr, fun H2 e2 => ⟨_, h1, x, n, S, v, rfl, W.mono (e1.trans e2), ?_⟩⟩⟩
      rcases q with ⟨a, ts, rfl, ha, ho, q⟩ | ⟨hb, q⟩
      · exact .inl ⟨a, ts, rfl, ha.ex (e1.trans e2), ho, fun p H3 e3 h3 => q p H3 (e2.trans e3) h3⟩
      · exact .inr ⟨hb.ex (e1.trans e2), fun d H3 e3 h3 => q d H3 ((e1.trans e2).trans e3) h3⟩
    rcases k with ⟨tr, a, ts, rfl, ha, ho, k⟩ | ⟨ntr, k⟩ | ⟨tr, hb, k⟩
    · refine call2 (Ex.refl H) rfl rfl tr (.inl ⟨a, ts, rfl, ha, ho, fun p H1 e1 h1 => ?_⟩)
      refine q_any (lc_news (σ := [some (V.ref x), some (.ref a), some (.ref p), none, none, none, none, none, none, none, none, none]) (vs := [10]) (g := gName 10) (src_r1 (m := (n : Int)) (ea_cons (ev_houses T.toTxt (ev_var (i := 0) rfl) (e1 _ _ hx)) ea_nil) (by omega)) (by omega) (fun i y H2 e2 hi hy Q q => q _ rfl) H1 (Ex.refl _) _ fun l H2 ds hl e2 h2 ld hd => ?_)
      have e2' := e1.trans e2
      have ld : ds.length = n := by omega
      -- what is lacking at first
      refine q_asg (v := .int (lack n S know0)) ?_ fun H3 e3 => ?_
      · refine fun H3 e3 Q q => ev1 (lc_bind ?_)
        refine ⟨_, rfl, x, n, S, rfl, W.mono (e2'.trans e3), fun pp H4 qs ps hp e4 h4 htu hP => ?_⟩
        have lp : (qs.map V.ref).length = ps.length := by rw [List.length_map, htu.len]
        have lps := parts_le hP
        have hcomp := el_lcW (vs := [11]) (tt := tYes) (te := tOp (rI CMul fun i j => V.int (i * j)) (tCB (rLenS K) (tCons (tVar 11) tNil)) (tOp (rI0 fun i j => V.int (i - j)) (tCB (rLenS K) (tCons (tVar 11) tNil)) (tC (.int 1)))) (src_tup (K := K) (H0 := H4) (H := H4) (σ := [some (V.ref x), some (.ref a), some (.ref p), some (.ref l), none, none, none, none, none, none, none, none]) (ev_c (v := .ref pp)) (Ex.refl H4) (st_of h4)) (by omega)
          (fun _ => true) (fun i => (fun l : List Nat => V.int ((l.length : Int) * ((l.length : Int) - 1))) (ps.getD i [])) (g := gName 11) fun i v H5 e5 hi hv Q q => by
          obtain ⟨r, l, rfl, hl, hr2⟩ := htu.back hv
          refine q _ rfl (fun H6 e6 Q3 q3 => q3 H6 (Ex.refl _)) fun _ => ?_
          have sq := st_of (K := K) (e5 _ _ hr2)
          have hlen : l.length ≤ 12 := by
            obtain ⟨h, hn, rfl⟩ := (hP.mem l).mp (List.mem_of_getElem? hl)
            rw [part_len]
            have := List.countP_le_length (p := connB S h) (l := List.range n)
            rw [List.length_range] at this
            omega
          refine ev_is (ev_op (ev_lenA (ev_var rfl) (.inr sq)) (ev_op (ev_lenA (ev_var rfl) (.inr sq)) ev_c rv_I0) (rv_I ?_)) ?_
          · rw [natV_len]
            exact .inl ⟨by omega, by omega⟩
          · rw [List.getD_eq_getElem?_getD, hl, Option.getD_some, natV_len]
        rw [given_all, lp, map_getD2 (fun l : List Nat => V.int ((l.length : Int) * ((l.length : Int) - 1)))] at hcomp
        refine hcomp H4 (Ex.refl _) _ fun l2 H5 hl2 e5 h5 => ⟨l2, ps.map (fun l : List Nat => (l.length : Int) * ((l.length : Int) - 1)), rfl, sq_of (by rw [h5, List.map_map]; rfl), ?_⟩
        rw [listSum_sum, lack_first tr hP]
        exact q H5 (e4.trans e5)
      refine q_asg (v := .int 0) ev_c fun H4 e4 => ?_
      have e34 := e3.trans e4
      have hl0 : H l = none := fresh_back e1 hl
      refine q_while (fun m σ' H' => ∃ (k : Nat), m = n * S.length - k ∧ k ≤ n * S.length ∧ RestJ H x a p l n S ts k σ' H') _ ⟨0, rfl, Nat.zero_le _, ds, e2'.trans e34, e34 _ _ (e2 _ _ h1), e34 _ _ h2, ld, fun h d hd2 => ?_, fun j hj => absurd hj (Nat.not_lt_zero j), _, _, _, _, _, _, rfl⟩ ?_
      · refine heardD_of (ls := []) (e34 _ _ (hd d (List.mem_of_getElem? hd2))) List.nodup_nil (fun j z => ?_) (fun j => ⟨fun z => (nomatch z), fun z => ?_⟩)
        · have z : (Sum.inr j : El) = .inl h := of_decide_eq_true z
          cases z
        · have z : (Sum.inr j : El) = .inl h := of_decide_eq_true z
          cases z
      rintro m σ' H' ⟨k0, rfl, hk, ds, ex, kp, kl, ld, hds, first, a6, a7, a8, a9, a10, a11, rfl⟩
      refine ⟨decide (0 < lack n S (know S ts k0)), et_is (et_test (ev_op (ev_var rfl) ev_c rv_I0)) ?_, fun hb H5 e5 => ?_, fun hb H5 e5 => ?_⟩
      · rfl
      · have nw : ¬ Whole n S (know S ts k0) := (lack_iff ho k0).mp (of_decide_eq_true hb)
        have hT : 0 < S.length := Nat.pos_of_ne_zero fun z => nw (by
          rw [List.eq_nil_of_length_eq_zero z]
          exact whole_nil n _)
        have hk2 : k0 < n * S.length := by
          rcases Nat.lt_or_ge k0 (n * S.length) with z | z
          · exact z
          · have : k0 = n * S.length := by omega
            rw [this] at nw
            exact absurd (whole_by W.good.ends ho hT) nw
        have hts := ho.len
        have htl := ho.turn hT k0
        have ex5 := ex.trans e5
        have kp5 := e5 _ _ kp
        refine ⟨RestJ H x a p l n S ts (k0 + 1), fun σ2 H2 q => ⟨_, by omega, k0 + 1, rfl, hk2, q⟩, ?_⟩
        have hmod : ((k0 : Int) % ((natV ts).length : Int)) = ((k0 % ts.length : Nat) : Int) := by rw [natV_len]; exact (Int.natCast_emod k0 ts.length).symm
        refine q_asg (v := .int (K30M.turn ts k0 : Int)) (ev_ixT (i := k0 % ts.length) (ev_var rfl) (ev_is (ev_op (ev_var rfl) (ev_lenA (ev_var rfl) (.inr (st_of kp5))) (rv_I (by rw [natV_len]; omega))) (by rw [hmod])) (st_of kp5) (natV_get (turn_get (by omega) k0))) fun H6 e6 => ?_
        obtain ⟨r, hr1, hp⟩ := ht.get (ins_get htl)
        obtain ⟨g1, g2, g3⟩ := W.good.get (ins_get htl)
        have ex6 := ex5.trans e6
        refine q_two (T := r) (ev_ixT (i := K30M.turn ts k0) (ev_ties T.toTxt (ev_var rfl) (ex6 _ _ hx)) (ev_var rfl) (st_of (ex6 _ _ ht.at_)) hr1) (st_of (ex6 _ _ hp)) fun H7 e7 => ?_
        have ex7 := ex6.trans e7
        have e57 := e5.trans (e6.trans e7)
        obtain ⟨d1, hd1⟩ : ∃ d1, ds[(ins S (K30M.turn ts k0)).1]? = some d1 := ⟨_, List.getElem?_eq_getElem (by omega)⟩
        obtain ⟨d2, hd2⟩ : ∃ d2, ds[(ins S (K30M.turn ts k0)).2]? = some d2 := ⟨_, List.getElem?_eq_getElem (by omega)⟩
        obtain ⟨l1, q1, nd1, len1, le1, m1⟩ := (hds _ _ hd1).ex e57
        obtain ⟨l2, q2, nd2, len2, le2, m2⟩ := (hds _ _ hd2).ex e57
        have kl7 := e57 _ _ kl
        have i1 : (ds.map V.ref)[(ins S (K30M.turn ts k0)).1]? = some (.ref d1) := by rw [List.getElem?_map, hd1]; rfl
        have i2 : (ds.map V.ref)[(ins S (K30M.turn ts k0)).2]? = some (.ref d2) := by rw [List.getElem?_map, hd2]; rfl
        refine q_any (ev_merge3 (a := d1) (b := d2) (ka := seen l1) (kb := seen l2) (k := .inl (K30M.turn ts k0 : Int)) (v := .bl true) (ev_ixL (i := (ins S (K30M.turn ts k0)).1) (ev_var rfl) (ev_var rfl) (sq_of kl7) i1) (ev_ixL (i := (ins S (K30M.turn ts k0)).2) (ev_var rfl) (ev_var rfl) (sq_of kl7) i2) (ev_var rfl) ev_c q1 q2 (by rw [seen_len]; omega) (by rw [seen_len]; omega) H7 (Ex.refl _) _ fun b H8 hb8 e8 h8 => ?_)
        have hm8 : mergeK (mergeK [] (seen l1)) (seen l2) = seen (addAll (addAll [] l1) l2) := by
          rw [show ([] : List (Key × V)) = seen [] from rfl, seen_merge, seen_merge]
        rw [hm8, seen_add] at h8
        have nd8 : (add1 (addAll (addAll [] l1) l2) (K30M.turn ts k0)).Nodup := add1_nodup (addAll_nodup (addAll_nodup List.nodup_nil)) _
        have m8 : ∀ j, j ∈ add1 (addAll (addAll [] l1) l2) (K30M.turn ts k0) ↔ (know S ts k0 (ins S (K30M.turn ts k0)).1 (.inr j) || know S ts k0 (ins S (K30M.turn ts k0)).2 (.inr j) || decide ((Sum.inr j : El) = .inr (K30M.turn ts k0))) = true := fun j => by
          rw [mem_add1, mem_addAll, mem_addAll, m1, m2, Bool.or_eq_true, Bool.or_eq_true, decide_eq_true_iff]
          constructor
          · rintro ((z | z) | z)
            · rcases z with z | z
              · cases z
              · exact .inl (.inl z)
            · exact .inl (.inr z)
            · exact .inr (by rw [z])
          · rintro ((z | z) | z)
            · exact .inl (.inl (.inr z))
            · exact .inl (.inr z)
            · exact .inr (by injection z)
        have hnew : ∀ {H' : Hp} {q : Addr} {h : Nat}, H' q = some (.dK (seen (add1 (addAll (addAll [] l1) l2) (K30M.turn ts k0)))) → (h = (ins S (K30M.turn ts k0)).1 ∨ h = (ins S (K30M.turn ts k0)).2) → HeardD H' q S (know S ts (k0 + 1)) h := fun {H' q h} hq hh => by
          refine heardD_of hq nd8 (fun j z => ((know_conn ho hT (k0 + 1) _ _ z).2 j rfl).1) fun j => ?_
          rw [m8]
          show _ ↔ meetK S (know S ts k0) (K30M.turn ts k0) h (.inr j) = true
          rw [meetK_at hh]
        obtain ⟨lb, qb, ndb, lenb, leb, mb⟩ := hnew h8 (.inl rfl)
        have lb8 : (add1 (addAll (addAll [] l1) l2) (K30M.turn ts k0)).length = K30M.cnt S.length (know S ts (k0 + 1)) (ins S (K30M.turn ts k0)).1 := by
          have e : HO.dK (seen lb) = .dK (seen (add1 (addAll (addAll [] l1) l2) (K30M.turn ts k0))) := Option.some.inj (qb.symm.trans h8)
          injection e with e
          have := congrArg List.length e
          rw [seen_len, seen_len] at this
          omega
        have e58 := e57.trans e8
        have kl8 := e8 _ _ kl7
        have un : ∀ i, i < S.length → (ins S i).1 ≠ (ins S i).2 := fun i hi => (W.good.get (ins_get hi)).2.2
        refine q_aug (a := lack n S (know S ts k0)) (b := 2 * ((seen (add1 (addAll (addAll [] l1) l2) (K30M.turn ts k0))).length : Int) - ((seen l1).length : Int) - ((seen l2).length : Int)) rfl ?_ fun H9 e9 => ?_
        · refine ev_op (ev_op (ev_op ev_c (ev_lenD (ev_var rfl) h8) (rv_I (.inl ⟨by omega, by omega⟩))) (ev_lenD (ev_ixL (i := (ins S (K30M.turn ts k0)).1) (ev_var rfl) (ev_var rfl) (sq_of kl8) i1) (e8 _ _ q1)) rv_I0) (ev_lenD (ev_ixL (i := (ins S (K30M.turn ts k0)).2) (ev_var rfl) (ev_var rfl) (sq_of kl8) i2) (e8 _ _ q2)) rv_I0
        have e59 := e58.trans e9
        have hst : lack n S (know S ts k0) - (2 * ((seen (add1 (addAll (addAll [] l1) l2) (K30M.turn ts k0))).length : Int) - ((seen l1).length : Int) - ((seen l2).length : Int)) = lack n S (know S ts (k0 + 1)) := by
          rw [lack_step W.good.ends ho hT un k0, seen_len, seen_len, seen_len, lb8, len1, len2]
        rw [hst]
        refine q_setL (j := (ins S (K30M.turn ts k0)).1) (e59 _ _ kl) (ev_var rfl) (ev_var rfl) (ev_var rfl) (by rw [List.length_map]; omega) fun H10 e10 => ?_
        have e510 := e59.trans e10
        have nel : ∀ q kvs, (H10 q = some (.dK kvs)) → q ≠ l := fun q kvs hq z => by
          rw [z, e510 _ _ kl] at hq
          cases hq
        have b10 : upd H10 l (.lst ((ds.map V.ref).set (ins S (K30M.turn ts k0)).1 (.ref b))) b = some (.dK (seen (add1 (addAll (addAll [] l1) l2) (K30M.turn ts k0)))) := by
          have := (e9.trans e10) _ _ h8
          rw [upd_ne (nel _ _ this)]
          exact this
        refine q_setNew (ob := .dK (seen (add1 (addAll (addAll [] l1) l2) (K30M.turn ts k0)))) (j := (ins S (K30M.turn ts k0)).2) (fun Q q => ⟨_, rfl, _, _, rfl, .inl b10, fun p hp => q p _ hp (Ex.new hp) upd_same⟩) upd_same (ev_var rfl) (ev_var rfl) (by rw [List.length_set, List.length_map]; omega) fun c H11 hc e11 h11 => ?_
        refine s_aug (a := (k0 : Int)) (b := 1) rfl ev_c fun H12 e12 => ?_
        have f5 : Ex H (upd H10 l (.lst ((ds.map V.ref).set (ins S (K30M.turn ts k0)).1 (.ref b)))) := (ex.trans e510).mut hl0
        have f6 : Ex H (upd H11 l (.lst (((ds.map V.ref).set (ins S (K30M.turn ts k0)).1 (.ref b)).set (ins S (K30M.turn ts k0)).2 (.ref c)))) := (f5.trans e11).mut hl0
        have keep : ∀ q o, H' q = some o → q ≠ l → H12 q = some o := fun q o hq hne => by
          refine e12 _ _ ?_
          rw [upd_ne hne]
          refine e11 _ _ ?_
          rw [upd_ne hne]
          exact e510 _ _ hq
        have b12 : H12 b = some (.dK (seen (add1 (addAll (addAll [] l1) l2) (K30M.turn ts k0)))) := by
          refine e12 _ _ ?_
          rw [upd_ne (nel b _ ((e9.trans e10) _ _ h8))]
          exact e11 _ _ b10
        have c12 : H12 c = some (.dK (seen (add1 (addAll (addAll [] l1) l2) (K30M.turn ts k0)))) := by
          refine e12 _ _ ?_
          rw [upd_ne]
          · exact h11
          · intro z
            rw [z, upd_same] at hc
            cases hc
        refine ⟨(ds.set (ins S (K30M.turn ts k0)).1 b).set (ins S (K30M.turn ts k0)).2 c, f6.trans e12, ?_, ?_, by rw [List.length_set, List.length_set, ld], fun h d hd => ?_, fun j hj => ?_, _, _, _, _, _, _, rfl⟩
        · refine keep _ _ kp fun z => ?_
          rw [z, kl] at kp
          cases kp
        · rw [e12 _ _ upd_same, List.map_set, List.map_set]
        · by_cases h2 : h = (ins S (K30M.turn ts k0)).2
          · subst h2
            rw [List.getElem?_set_self (by rw [List.length_set]; omega)] at hd
            cases hd
            exact hnew c12 (.inr rfl)
          · rw [List.getElem?_set_ne (fun z => h2 z.symm)] at hd
            by_cases h1 : h = (ins S (K30M.turn ts k0)).1
            · subst h1
              rw [List.getElem?_set_self (by omega)] at hd
              cases hd
              exact hnew b12 (.inl rfl)
            · rw [List.getElem?_set_ne (fun z => h1 z.symm)] at hd
              obtain ⟨ls, hq, nd, en, le, m⟩ := hds _ _ hd
              have hne : d ≠ l := fun z => by
                rw [z, kl] at hq
                cases hq
              refine heardD_of (keep _ _ hq hne) nd (fun j z => ((know_conn ho hT (k0 + 1) _ _ z).2 j rfl).1) fun j => ?_
              rw [m]
              show _ ↔ meetK S (know S ts k0) (K30M.turn ts k0) h (.inr j) = true
              rw [meetK_out (by rintro (z | z); exact h1 z; exact h2 z)]
        · rcases Nat.lt_succ_iff_lt_or_eq.mp hj with hj | rfl
          · exact first j hj
          · exact nw
      · have nw : Whole n S (know S ts k0) := Classical.byContradiction fun z => of_decide_eq_false hb ((lack_iff ho k0).mpr z)
        exact s_ret (ev_var rfl) fun H6 e6 => k k0 H6 ⟨nw, first⟩ ((ex.trans e5).trans e6)
    · exact ⟨_, rfl, x, n, S, rfl, W, .inr ⟨ntr, fun d H2 e2 h2 => k d H2 e2 h2⟩⟩
    · exact call2 (Ex.refl H) rfl rfl tr (.inr ⟨hb, k⟩)
end
end K30
namespace K30
open PySem PySem.Spec PyProof.Rows L2 Evl K30M
section
variable {X : Cx}
/-- name = {k: v for ..} on one line, the name a local -/
theorem ps_setDc {i : Nat} {y : Str} {py : Pos} {kx vx tg iter : Expr} {ifs : List Expr} {scope : Scope} {own : List (Str × Nat)} {pos spos : Pos} {wi : TI} {g : TG} {tt : TT} {tk tv : TE} (hc : X.calm = true) (hN : X.N.Nodup) (hy : X.N[i]? = some y) (hyl : X.env.scope.names.lookup y = some .local)
    (hsw : swapsWith (.DictComp kx vx [⟨tg, iter, ifs, 0⟩] scope pos) (some (.Name y py)) spos.line X.env = pure true) (hi : PI X tg iter wi) (ok : BlkOk X.N X.env.scope scope own)
    (hg : ∀ (s : Shared) (H : Hp) (C : Addr) (cl : List (Str × Addr)) (fp : List Addr), PG (X.blk s H scope (compEnvC scope cl C X.env) fp) tg g) (ht : ∀ (s : Shared) (H : Hp) (C : Addr) (cl : List (Str × Addr)) (fp : List Addr), PTs (X.blk s H scope (compEnvC scope cl C X.env) fp) ifs tt)
    (hk : ∀ (s : Shared) (H : Hp) (C : Addr) (cl : List (Str × Addr)) (fp : List Addr), PE (X.blk s H scope (compEnvC scope cl C X.env) fp) kx tk)
    (he : ∀ (s : Shared) (H : Hp) (C : Addr) (cl : List (Str × Addr)) (fp : List Addr), PE (X.blk s H scope (compEnvC scope cl C X.env) fp) vx tv) (hs : ∀ x, foldedSetIterable iter X.env x = pure x := by intro _; rfl) :
    PS X (.Assign [.Name y py] (.DictComp kx vx [⟨tg, iter, ifs, 0⟩] scope pos) spos) (tAsg (tDc wi g tt tk tv (own.map (·.2))) (gName i)) := by
  refine ⟨fun pins s σ H D I h => ?_⟩
  rw [exec_Assign_Name_used _ _ _ _ hsw]
  refine wpAny_bind (wpAny_standAt (wpAny_bind ?_))
  show wpAny _ X.A (do let _ ← comprehension (.DictComp kx vx [⟨tg, iter, ifs, 0⟩] scope pos) scope X.env (firstIterPos [⟨tg, iter, ifs, 0⟩] pos) newDict false (eval iter X.env) (some (assign (.Name y py) X.env))) _ _ s
  have h : tDc wi g tt tk tv (own.map (·.2)) σ H (fun x H1 => gName i x σ H1 D.nx) := h
  refine wpAny_bind (thn (dc_core (Qf := fun _ s' => SP X pins D .next s') hc hN I hi ok hg ht hk he hs h fun L C s' m H' I' q hn f => ?_) fun _ s' hq => wpAny_pure (wpAny_pure hq))
  show wpAny _ _ (assign (.Name y py) X.env (.ref L)) _ _ _
  refine wpAny_assign_Name (store_ok2 (v := V.ref L) I' hN hy (.inl hyl) rfl (fun s2 I2 ⟨a, sb, ha⟩ => ?_) (.inr hyl))
  obtain ⟨f0, f1, f2, f3, f4, f5⟩ := f
  have haC : C ≠ a := by
    rcases ha with z | z
    · rw [z]; exact f1
    · exact fun e => f4 y a z e.symm
  refine ⟨m, hn.sameBut sb haC, fun h3 sb3 => ?_⟩
  exact ⟨_, H', I2.turned (t' := s2.toks) (fun b o hb e => (sb3.2 b hb).trans e) f0 f1 f3 f4 f5, q⟩
theorem sw_trueD {kx vx : Expr} {gs : List Comprehension} {scope : Scope} {pos py : Pos} {y : Str} {l : Nat} {env : Env} (hk : env.scope.kind = .function) (hy : env.scope.names.lookup y = some .local) (hl : (py.line == pos.line) = true)
    (ha : (scope.names.any fun (n, k) => n == y && (k == .local || k == .cell)) = false) : swapsWith (.DictComp kx vx gs scope pos) (some (.Name y py)) l env = pure true := by
  have ky : env.kindOf y = some .local := hy
  have hb : env.blockKind = .function := by unfold Env.blockKind; rw [hk]; rfl
  unfold swapsWith
  simp only [hb, ky, ha, Expr.pos, hl]
  rfl
end
end K30
namespace K30
open PySem PySem.Spec PyProof.Rows L2 Evl K30M
/-- (tie, house at its other end), at their places -/
structure EndsAt (H : Hp) (qs : List Addr) (ts : List Nat) (T : Ties) (h : Nat) : Prop where
  len : qs.length = ts.length
  at_ : ∀ (i : Nat) q t, qs[i]? = some q → ts[i]? = some t → H q = some (.tup [.int (t : Int), .int (other (ins T t) h : Nat)])
theorem EndsAt.ex {H H' : Hp} {qs : List Addr} {ts : List Nat} {T : Ties} {h : Nat} (a : EndsAt H qs ts T h) (e : Ex H H') : EndsAt H' qs ts T h := ⟨a.len, fun i q t x y => e _ _ (a.at_ i q t x y)⟩
theorem EndsAt.get {H : Hp} {qs : List Addr} {ts : List Nat} {T : Ties} {h : Nat} (a : EndsAt H qs ts T h) {i : Nat} {v : V} (hv : (qs.map V.ref)[i]? = some v) : ∃ q t, v = .ref q ∧ ts[i]? = some t ∧ H q = some (.tup [.int (t : Int), .int (other (ins T t) h : Nat)]) := by
  rw [List.getElem?_map] at hv
  cases hr : qs[i]? with
  | none => rw [hr] at hv; cases hv
  | some r =>
    rw [hr] at hv
    cases hv
    have hi : i < ts.length := by
      rw [← a.len]
      exact (List.getElem?_eq_some_iff.mp hr).1
    exact ⟨r, ts[i], rfl, List.getElem?_eq_getElem hi, a.at_ i r _ hr (List.getElem?_eq_getElem hi)⟩
theorem EndsAt.mut {H : Hp} {l : Addr} {xs : List V} {qs : List Addr} {ts : List Nat} {T : Ties} {h : Nat} (a : EndsAt H qs ts T h) (hl : ∃ ys, H l = some (.lst ys)) : EndsAt (upd H l (.lst xs)) qs ts T h := ⟨a.len, fun i q t x y => by
  have := a.at_ i q t x y
  rw [upd_ne]
  · exact this
  · intro z
    obtain ⟨ys, hl⟩ := hl
    rw [z, hl] at this
    cases this⟩
theorem EndsAt.snoc {H : Hp} {qs : List Addr} {ts : List Nat} {T : Ties} {h p t : Nat} (a : EndsAt H qs ts T h) (hp : H p = some (.tup [.int (t : Int), .int (other (ins T t) h : Nat)])) : EndsAt H (qs ++ [p]) (ts ++ [t]) T h := by
  refine ⟨by rw [List.length_append, List.length_append, a.len]; rfl, fun i q t' x y => ?_⟩
  by_cases hi : i < qs.length
  · rw [List.getElem?_append_left hi] at x
    rw [List.getElem?_append_left (by rw [← a.len]; exact hi)] at y
    exact a.at_ i q t' x y
  · rw [List.getElem?_append_right (by omega)] at x
    rw [List.getElem?_append_right (by rw [← a.len]; omega), ← a.len] at y
    obtain ⟨e, rfl⟩ : i - qs.length = 0 ∧ q = p := by
      have := (List.getElem?_eq_some_iff.mp x).1
      have e : i - qs.length = 0 := by simp at this; omega
      rw [e] at x
      exact ⟨e, (Option.some.inj x).symm⟩
    rw [e] at y
    cases y
    exact hp
def spTieEnds (K : PySem.W.Frag) : Sp := fun vs H Q _ => ∃ (x : Addr) (n : Nat) (T : Ties) (h : Nat), vs = [.ref x, .int (h : Int)] ∧ WebAt K H x n T ∧ ∀ p H2 qs, H p = none → Ex H H2 → H2 p = some (.lst (qs.map V.ref)) → EndsAt H2 qs (tiesAt T h) T h → Q (.ref p) H2
def spDist (K : PySem.W.Frag) : Sp := fun vs H Q _ => ∃ (x : Addr) (n : Nat) (T : Ties) (h : Nat) (r : Addr), vs = [.ref x, .ref r] ∧ WebAt K H x n T ∧ h < n ∧ H r = some (.tup [.int (h : Int)]) ∧
  ∀ p H2 kvs, H p = none → Ex H H2 → H2 p = some (.dK kvs) → (∀ y : Nat, (valV kvs (.inl (y : Int))).isSome = true ↔ y < n ∧ Conn T h y) → Q (.ref p) H2
theorem s_forX {K : PySem.W.Frag} {tl : TE} {g : TG} {tu : TS} {D : Ends} {σ : L2.St} {H : Hp} (h : tl σ H fun v H1 => tFor (iList K (tC v)) g tu D σ H1) : tFor (iList K tl) g tu D σ H := h
theorem q_forX {K : PySem.W.Frag} {tl : TE} {g : TG} {tu tz : TS} {D : Ends} {σ : L2.St} {H : Hp} (h : tl σ H fun v H1 => tSeq (tFor (iList K (tC v)) g tu) tz D σ H1) : tSeq (tFor (iList K tl) g tu) tz D σ H := h
section
variable {K : PySem.W.Frag} {σ : L2.St} {H : Hp} {tk : TE} {wi : TI} {g : TG} {vs : List Nat} {YY : Nat → V → Hp → Prop} {h : Nat}
/-- {h: 0 for the one h} -/
theorem ed_dc1 (src : Src wi σ H H 1 YY) (hs : ∀ x H1, Ex H H1 → YY 0 x H1 → ∀ Q : L2.St → Hp → Prop, (∀ σ2, wipe σ2 vs = wipe σ vs → Ev tk σ2 H1 (.int (h : Int)) → Q σ2 H1) → g x (wipe σ vs) H1 Q) :
    ∀ H1, Ex H H1 → ∀ Q : VK, (∀ p H2, H1 p = none → Ex H1 H2 → H2 p = some (.dK [(.inl (h : Int), .int 0)]) → Q (.ref p) H2) → tDc wi g tYes tk (tC (.int 0)) vs σ H1 Q := fun H1 e1 Q q => src H1 e1 _ fun J H2 Y G e2 W hG hY Dl hD => by
  refine ⟨fun i m H' => m = 1 - i ∧ i ≤ 1 ∧ Ex H2 H' ∧ H' Dl = some (.dK (if i = 0 then [] else [(.inl (h : Int), .int 0)])), ⟨1, by simp, Nat.zero_le _, Ex.new hD, upd_same⟩, ?_⟩
  rintro i m H3 ⟨rfl, hi, ex, hd⟩
  have gg := hG H3 ((e1.trans e2).trans ex)
  by_cases hlt : i < 1
  · obtain rfl : i = 0 := by omega
    refine .inr ⟨W.goes 0 H3 hlt gg, fun H' => Ex H2 H' ∧ H' Dl = some (.dK [(.inl (h : Int), .int 0)]), fun H' p => ⟨0, by omega, rfl, by omega, p.1, p.2⟩, fun x H4 y => ?_⟩
    obtain ⟨e3, yy⟩ := hY 0 H3 x H4 hlt ((e1.trans e2).trans ex) (W.yields 0 H3 x H4 hlt gg y)
    refine hs x H4 ((e1.trans e2).trans (ex.trans e3)) yy _ fun σ2 hw hk => ⟨hw, ?_⟩
    refine iteT (B := Ex H2 H4 ∧ H4 Dl = some (.dK [(.inl (h : Int), .int 0)])) ?_
    refine hk H4 (Ex.refl _) _ fun H5 e5 => ?_
    exact ⟨[], .inl (h : Int), rfl, e5 _ _ (e3 _ _ hd), by rw [sizeLine_eq]; show 0 < _; omega, ((ex.trans e3).trans e5).mut hD, by rw [upd_same]; rfl⟩
  · obtain rfl : i = 1 := by omega
    exact .inl ⟨W.stops H3 gg, q Dl H3 (fresh_back e2 hD) (e2.trans ex) hd⟩
end
theorem el_listT {K : PySem.W.Frag} {σ : L2.St} {H : Hp} {tl : TE} {a : Addr} {xs : List V} (h : Ev tl σ H (.ref a)) (hx : SqT K H a xs) : EvL (tCB (rListS K) (tCons tl tNil)) σ H xs := fun H1 e1 Q q =>
  h H1 e1 _ fun H2 e2 => ⟨a, xs, rfl, .inr (ex_t (e1.trans e2) hx), fun l hl => q l _ (fresh_back e2 hl) (e2.trans (Ex.new hl)) upd_same⟩
/-- names, each with a number -/
def Table (ks : List Nat) (kvs : List (Key × V)) : Prop := kvs.map Prod.fst = ks.map (fun (k : Nat) => (.inl (k : Int) : Key)) ∧ ∀ kv ∈ kvs, ∃ i, kv.2 = .int i
theorem Table.has {ks : List Nat} {kvs : List (Key × V)} (t : Table ks kvs) (y : Nat) : (valV kvs (.inl (y : Int))).isSome = decide (y ∈ ks) := by
  rw [← valV_any, Bool.eq_iff_iff, List.any_eq_true, decide_eq_true_iff]
  constructor
  · rintro ⟨kv, hm, e⟩
    have : kv.1 ∈ kvs.map Prod.fst := List.mem_map.mpr ⟨kv, hm, rfl⟩
    rw [t.1, of_decide_eq_true e] at this
    obtain ⟨k, hk, e⟩ := List.mem_map.mp this
    injection e with e
    have : k = y := by omega
    exact this ▸ hk
  · intro h
    have : (.inl (y : Int) : Key) ∈ kvs.map Prod.fst := by
      rw [t.1]
      exact List.mem_map.mpr ⟨y, h, rfl⟩
    obtain ⟨kv, hm, e⟩ := List.mem_map.mp this
    exact ⟨kv, hm, decide_eq_true e⟩
theorem Table.val {ks : List Nat} {kvs : List (Key × V)} (t : Table ks kvs) {y : Nat} (h : y ∈ ks) : ∃ i, valV kvs (.inl (y : Int)) = some (.int i) := by
  have := t.has y
  rw [decide_eq_true h] at this
  obtain ⟨v, hv⟩ := Option.isSome_iff_exists.mp this
  unfold valV at hv
  cases hf : kvs.find? fun kv => decide (kv.1 = (.inl (y : Int) : Key)) with
  | none => rw [hf] at hv; cases hv
  | some kv =>
    obtain ⟨i, e⟩ := t.2 kv (List.mem_of_find?_eq_some hf)
    refine ⟨i, ?_⟩
    unfold valV
    rw [hf, ← e]
    rfl
theorem Table.put {ks : List Nat} {kvs : List (Key × V)} (t : Table ks kvs) {y : Nat} (h : y ∉ ks) (i : Int) : Table (ks ++ [y]) (putK kvs (.inl (y : Int)) (.int i)) := by
  have : valV kvs (.inl (y : Int)) = none := by
    have := t.has y
    rw [decide_eq_false h] at this
    exact Option.not_isSome_iff_eq_none.mp (by rw [this]; exact Bool.false_ne_true)
  rw [putK_new _ this]
  refine ⟨by rw [List.map_append, List.map_append, t.1]; rfl, fun kv hkv => ?_⟩
  rcases List.mem_append.mp hkv with hkv | hkv
  · exact t.2 kv hkv
  · rw [List.mem_singleton.mp hkv]
    exact ⟨i, rfl⟩
theorem Table.len {ks : List Nat} {kvs : List (Key × V)} (t : Table ks kvs) : kvs.length = ks.length := by
  have := congrArg List.length t.1
  rwa [List.length_map, List.length_map] at this
theorem srch_popF {n : Nat} {T : Ties} {h c : Nat} {ks ws : List Nat} (S : Srch n T h ks (c :: ws)) : SrchIn n T h c 0 ks ws :=
  ⟨S.start, S.conn, S.nodup, fun x hx => S.sub x (List.mem_cons_of_mem _ hx), S.sub c List.mem_cons_self, fun x hx hw hc => S.closed x hx (by simp [hw, hc]), fun _ _ hj => absurd hj (Nat.not_lt_zero _), by have := S.le; rw [List.length_cons] at this; omega⟩
section
variable {P : Program} {w : World} {K : PySem.W.Frag} {mg : Str → Option Value} {base : Heap}
theorem sc_tie_ends : FnScope ["web", "house", "found", "tie", "one", "other"] ["web", "house"] (defScope (top 37)) := ⟨rfl, rfl, rfl, by decide +kernel, rfl, by decide +kernel, by decide +kernel⟩
theorem k_tie_ends (T : Txt K mg base) : Df P w K mg base 1 "tie_ends" ["web", "house"] (spTieEnds K) := by
  obtain ⟨fd, F⟩ := T.d_tie_ends
  refine Df.mk1 (i := 37) T.g_tie_ends F (fun _ _ _ _ _ _ us hl => match us, hl with | [_, _], _ => rfl) (F.ok sc_tie_ends (fun vs H Q E h => ?_) (fun cdv A outer s H vs Q E hr h => ?_))
  · obtain ⟨_, _, _, _, rfl, _⟩ := h
    rfl
  · obtain ⟨x, n, S, h, rfl, W, k⟩ := h
    obtain ⟨dx, tt, rs, hx, ht⟩ := W.ex
    have t20 := W.good.t20
    have hl : (rs.map V.ref).length = S.length := by rw [List.length_map, ht.len]
    refine ⟨_, PSs.nox (pss_cons (ps_set (i := 2) sc_tie_ends.nd rfl (Or.inl rfl) (pe_lst pa_nil)) (pss_cons (ps_for PassesOwn.never rfl (pi_enumT (by rfl) T.f_enumerate (pa_cons (bpe_fld (K := K) rfl (pv 0) rfl) pa_nil)) (pg_tup rfl (pgs_cons (pg_name (i := 3) sc_tie_ends.nd rfl (Or.inl rfl)) (pgs_cons (pg_tup rfl (pgs_cons (pg_name (i := 4) sc_tie_ends.nd rfl (Or.inl rfl)) (pgs_cons (pg_name (i := 5) sc_tie_ends.nd rfl (Or.inl rfl)) pgs_nil))) pgs_nil))) (pss_one (ps_if (pt_cmpR (bin_seq (K := K) rfl) (pv 1) (pe_tup (pa_cons (pv 4) (pa_cons (pv 5) pa_nil))) (by with_unfolding_all rfl)) (pss_one (ps_expr (pe_bm PySem.F.plainAttrs_list PySem.F.slot_list_append PySem.F.type_list_append mt_append (pv 2) (pa_cons (pe_tup (pa_cons (pv 3) (pa_cons (pe_ifExp (pt_cmpR op_eq (pv 1) (pv 4) (nomark _)) (pv 5) (pv 4)) pa_nil))) pa_nil)))) pss_nil))) (pss_one (ps_ret (pv 2))))), ?_⟩
    refine q_asgL (xs := []) (el_lst ea_nil (by show 0 ≤ 100000; decide)) fun l H1 hl1 e1 h1 => ?_
    refine q_forW (src_enum (K := K) (H0 := H) (H := H1) (ea_cons (ev_ties T (ev_var rfl) (e1 _ _ hx)) ea_nil) e1 (.inr (st_of ht.at_))) (fun i σ' H' => ∃ qs : List Addr, Ex H H' ∧ H' l = some (.lst (qs.map V.ref)) ∧ qs.length ≤ i ∧ EndsAt H' qs ((List.range i).filter fun i => decide ((ins S i).1 = h) || decide ((ins S i).2 = h)) S h ∧
        ∃ a b c, σ' = [some (.ref x), some (.int (h : Int)), some (.ref l), a, b, c]) (fun H2 e2 => ⟨[], e1.trans e2, e2 _ _ h1, Nat.le_refl _, ⟨rfl, fun i q t a => (nomatch a)⟩, _, _, _, rfl⟩) (fun i σ' H' _ p => by obtain ⟨_, p, _⟩ := p; exact p) ?_ ?_
    · rintro i y σ' H2 H3 hi ⟨qs, ex, kl, ql, en, a, b, c, rfl⟩ e3 ⟨U, z, rfl, hU, hz⟩
      obtain ⟨r, p, rfl, hp, hpa⟩ := ht.back hz
      have ex3 := ex.trans e3
      refine g_1p hU (st_of (ex3 _ _ hpa)) ?_
      have ei := get_ins hp
      have hin : inV (.int (h : Int)) [V.int (p.1 : Int), .int (p.2 : Int)] = (decide ((ins S i).1 = h) || decide ((ins S i).2 = h)) := by
        have := inV_nat h [p.1, p.2]
        unfold natV at this
        rw [show [V.int (p.1 : Int), V.int (p.2 : Int)] = List.map (fun (i : Nat) => V.int (i : Int)) [p.1, p.2] from rfl, this, ei]
        rw [Bool.eq_iff_iff, decide_eq_true_iff, Bool.or_eq_true, decide_eq_true_iff, decide_eq_true_iff, List.mem_cons, List.mem_singleton]
        exact ⟨fun z => z.imp Eq.symm Eq.symm, fun z => z.imp Eq.symm Eq.symm⟩
      refine s_when (b := decide ((ins S i).1 = h) || decide ((ins S i).2 = h)) ?_ (fun hb H4 e4 => ?_) (fun hb H4 e4 => ?_)
      · refine et_is (et_test (ev_inU (ev_var rfl) (eu_tup (ea_cons (ev_var rfl) (ea_cons (ev_var rfl) ea_nil)) (by show 2 ≤ 100000; decide)) rfl rfl)) ?_
        rw [hin]
      · have kl4 := e4 _ _ (e3 _ _ kl)
        refine s_appU (ys := [.int (i : Int), .int (other (ins S i) h : Nat)]) kl4 (ev_var rfl) (eu_tup (ea_cons (ev_var rfl) (ea_cons ?_ ea_nil)) (by show 2 ≤ 100000; decide)) (by rw [List.length_map]; omega) fun pp H5 hpp e5 h5 => ?_
        · refine ev_if (b := decide (h = (ins S i).1)) (et_is (et_test (ev_op (ev_var rfl) (ev_var rfl) (rv_eq rfl))) ?_) (fun z => ev_is (ev_var rfl) ?_) (fun z => ev_is (ev_var rfl) ?_)
          · rw [ei, decide_eq_decide]
            exact ⟨fun z => by injection z with z; omega, fun z => by rw [z]⟩
          · unfold other
            rw [if_pos (of_decide_eq_true z).symm, ei]
          · unfold other
            rw [if_neg (fun y => of_decide_eq_false z y.symm), ei]
        · have kl5 := e5 _ _ kl4
          refine ⟨qs ++ [pp], ((ex3.trans e4).trans e5).mut hl1, by rw [upd_same, List.map_append]; rfl, by rw [List.length_append]; simp only [List.length_singleton]; omega, ?_, _, _, _, rfl⟩
          rw [List.range_succ, List.filter_append, List.filter_cons, if_pos hb, List.filter_nil]
          exact ((en.ex ((e3.trans e4).trans e5)).snoc h5).mut ⟨_, kl5⟩
      · refine ⟨qs, ex3.trans e4, e4 _ _ (e3 _ _ kl), by omega, ?_, _, _, _, rfl⟩
        rw [List.range_succ, List.filter_append, List.filter_cons, if_neg (by rw [hb]; exact Bool.false_ne_true), List.filter_nil, List.append_nil]
        exact en.ex (e3.trans e4)
    · rintro σ' H2 ⟨qs, ex, kl, ql, en, a, b, c, rfl⟩
      rw [hl] at en
      exact s_ret (ev_var rfl) fun H3 e3 => k l H3 qs (fresh_back (Ex.refl H) hl1) (ex.trans e3) (e3 _ _ kl) (en.ex e3)
theorem sc_distances_from : FnScope ["web", "houses", "found", "waiting", "at", "tie", "other", "house"] ["web", "houses"] (defScope (top 38)) := ⟨rfl, rfl, rfl, by decide +kernel, rfl, by decide +kernel, by decide +kernel⟩
theorem k_distances_from (T : Txt K mg base) : Df P w K mg base 2 "distances_from" ["web", "houses"] (spDist K) := by
  obtain ⟨fd, F⟩ := T.d_distances_from
  have D_tie_ends := k_tie_ends (P := P) (w := w) T
  refine Df.mk1 (i := 38) T.g_distances_from F (fun _ _ _ _ _ _ us hl => match us, hl with | [_, _], _ => rfl) (F.ok sc_distances_from (fun vs H Q E h => ?_) (fun cdv A outer s H vs Q E hr h => ?_))
  · obtain ⟨_, _, _, _, _, rfl, _⟩ := h
    rfl
  · obtain ⟨x, n, S, h, r, rfl, W, hn, hr1, k⟩ := h
    have hu1 : (A.deeper (envOfC "distances_from" (defScope (top 38)) s.heap.objs.size (He.ga K "distances_from") cdv)).units + 1 < cLine := by have := hr.units; omega
    have n12 := W.good.n12
    refine ⟨_, PSs.nox (pss_cons (ps_setDc (i := 2) (own := [("house", 7)]) (g := (gName 7)) rfl sc_distances_from.nd rfl rfl (sw_trueD rfl rfl rfl (by decide +kernel)) (pi_tup (pv 1)) (blkOk_by (N := ["web", "houses", "found", "waiting", "at", "tie", "other", "house"]) (sc := defScope (top 38)) (by decide +kernel)) (fun _ _ _ _ _ => (pg_name (i := 7) sc_distances_from.nd rfl (Or.inl rfl))) (fun _ _ _ _ _ => pts_nil) (fun _ _ _ _ _ => (pv 7)) (fun _ _ _ _ _ => pe_int)) (pss_cons (ps_set (i := 3) sc_distances_from.nd rfl (Or.inl rfl) (pe_callTy (bc_list (K := K) rfl) (by rfl) T.f_list bt_list (pa_cons (pv 1) pa_nil))) (pss_cons (ps_set (i := 4) sc_distances_from.nd rfl (Or.inl rfl) pe_int) (pss_cons (ps_while PassesOwn.never (pt_cmpR op_lt (pv 4) (pe_callB (bc_len (K := K) rfl) (by rfl) T.f_len bt_len (pa_cons (pv 3) pa_nil)) (nomark _)) (pss_cons (ps_for PassesOwn.never rfl (pi_list (pe_d0 D_tie_ends hr (pa_cons (pv 0) (pa_cons (pe_ix (bix_list (K := K) rfl) (pv 3) (pv 4) (fun _ _ => rfl)) pa_nil)))) (pg_tup rfl (pgs_cons (pg_name (i := 5) sc_distances_from.nd rfl (Or.inl rfl)) (pgs_cons (pg_name (i := 6) sc_distances_from.nd rfl (Or.inl rfl)) pgs_nil))) (pss_one (ps_if (pt_cmp (pc_dnotin hu1 (pv 6) (pv 2))) (pss_cons (ps_dput hu1 (pv 2) (pv 6) (pe_op op_add (pe_dget hu1 (pv 2) (pe_ix (bix_list (K := K) rfl) (pv 3) (pv 4) (fun _ _ => rfl)) (fun _ _ => rfl)) pe_int) rfl) (pss_one (ps_expr (pe_bm PySem.F.plainAttrs_list PySem.F.slot_list_append PySem.F.type_list_append mt_append (pv 3) (pa_cons (pv 6) pa_nil))))) pss_nil))) (pss_one (ps_aug (i := 4) sc_distances_from.nd rfl (Or.inl rfl) pe_int ip_add)))) (pss_one (ps_ret (pv 2))))))), ?_⟩
    refine q_any (ed_dc1 (h := h) (σ := [some (V.ref x), some (.ref r), none, none, none, none, none, none]) (vs := [7]) (g := gName 7) (src_tup (K := K) (H0 := H) (xs := [.int (h : Int)]) (ev_var (i := 1) rfl) (Ex.refl H) (st_of hr1)) (fun v H1 e1 hv Q q => q _ rfl ?_) H (Ex.refl H) _ fun d H1 hd e1 h1 => ?_)
    · obtain rfl : V.int (h : Int) = v := Option.some.inj hv
      exact ev_var rfl
    refine q_asgL (xs := natV [h]) (el_listT (ev_var rfl) (st_of (e1 _ _ hr1))) fun l H2 hl e2 h2 => ?_
    have dl : d ≠ l := ne_of_none h1 hl
    have hl0 : H l = none := fresh_back e1 hl
    refine q_asg (v := .int 0) ev_c fun H3 e3 => ?_
    refine q_while (fun m σ' H' => ∃ (i : Nat) (ks : List Nat) (kvs : List (Key × V)), m = n - i ∧ i ≤ ks.length ∧ Srch n S h ks (ks.drop i) ∧ Table ks kvs ∧ Ex H H' ∧ H' d = some (.dK kvs) ∧ H' l = some (.lst (natV ks)) ∧ ∃ a b c, σ' = [some (.ref x), some (.ref r), some (.ref d), some (.ref l), some (.int (i : Int)), a, b, c]) _ ⟨0, [h], _, rfl, by simp, Srch.first hn, ⟨rfl, fun kv hkv => ⟨0, by rw [List.mem_singleton.mp hkv]⟩⟩, (e1.trans e2).trans e3, e3 _ _ (e2 _ _ h1), e3 _ _ h2, none, none, none, rfl⟩ ?_
    rintro m σ' H' ⟨i, ks, kvs, rfl, hi, sr, tb, ex, kd, kl, a, b, c, rfl⟩
    refine ⟨decide (i < ks.length), et_is (et_test (ev_op (ev_var rfl) (ev_len (ev_var rfl) (sq_of kl)) rv_I0)) ?_, fun hb H4 e4 => ?_, fun hb H4 e4 => ?_⟩
    · rw [natV_len, decide_eq_decide]
      omega
    · have hw : i < ks.length := of_decide_eq_true hb
      have hc := sr.count
      have hdrop : ks.drop i = ks[i] :: ks.drop (i + 1) := List.drop_eq_getElem_cons hw
      rw [hdrop] at sr
      have gi : ks[i]? = some ks[i] := List.getElem?_eq_getElem hw
      generalize ks[i] = y at sr gi
      have yk : y ∈ ks := List.mem_of_getElem? gi
      have kl4 := e4 _ _ kl
      have kd4 := e4 _ _ kd
      have ex4 := ex.trans e4
      refine ⟨fun σ2 H4 => ∃ (ks : List Nat) (kvs : List (Key × V)), i + 1 ≤ ks.length ∧ Srch n S h ks (ks.drop (i + 1)) ∧ Table ks kvs ∧ Ex H H4 ∧ H4 d = some (.dK kvs) ∧ H4 l = some (.lst (natV ks)) ∧ ∃ a b c, σ2 = [some (.ref x), some (.ref r), some (.ref d), some (.ref l), some (.int ((i + 1 : Nat) : Int)), a, b, c], fun σ2 H4 ⟨ks', kvs', q1, q2⟩ => ⟨_, by omega, i + 1, ks', kvs', rfl, q1, q2⟩, ?_⟩
      refine q_forX ?_
      refine ⟨_, rfl, ?_⟩
      refine ev_ixL (i := i) (v := .int (y : Int)) (ev_var rfl) (ev_var rfl) (sq_of kl4) (natV_get gi) H4 (Ex.refl _) _ fun H5 e5 => ⟨x, n, S, y, rfl, W.mono (ex4.trans e5), fun p H6 qs hp e6 h6 en => ?_⟩
      have ex6 := ex4.trans (e5.trans e6)
      have kl6 := e6 _ _ (e5 _ _ kl4)
      have kd6 := e6 _ _ (e5 _ _ kd4)
      have pl : p ≠ l := (ne_of_none (e5 _ _ kl4) hp).symm
      have pd : p ≠ d := (ne_of_none (e5 _ _ kd4) hp).symm
      refine q_forL (ev_c) (sq_of h6) (fun j σ2 H7 => ∃ (ks : List Nat) (kvs : List (Key × V)), i + 1 ≤ ks.length ∧ ks[i]? = some y ∧ SrchIn n S h y j ks (ks.drop (i + 1)) ∧ Table ks kvs ∧ Ex H H7 ∧ H7 p = some (.lst (qs.map V.ref)) ∧ EndsAt H7 qs (tiesAt S y) S y ∧ H7 d = some (.dK kvs) ∧ H7 l = some (.lst (natV ks)) ∧ ∃ a b c, σ2 = [some (.ref x), some (.ref r), some (.ref d), some (.ref l), some (.int (i : Int)), a, b, c])
        (fun H7 e7 => ⟨ks, kvs, hw, gi, srch_popF sr, tb, ex6.trans e7, e7 _ _ h6, en.ex e7, e7 _ _ kd6, e7 _ _ kl6, a, b, c, rfl⟩) (fun j σ2 H7 _ q => ?_) ?_ ?_
      · obtain ⟨ks, kvs, q1, q2, si, tb, ex7, hp7, q⟩ := q
        exact sq_of hp7
      · rintro j v σ2 H7 hv ⟨ks, kvs, q1, q2, si, tb, ex7, hp7, en7, kd7, kl7, a, b, c, rfl⟩
        obtain ⟨q, t, rfl, ht, hq⟩ := en7.get hv
        refine g_pair hq ?_
        have hcount := si.count
        refine s_when (b := !decide (other (ins S t) y ∈ ks)) (et_B (ev_is (ev_dnotin (k := .inl (other (ins S t) y : Nat)) (ev_var rfl) (ev_var rfl) kd7) (by rw [tb.has]))) (fun hb2 H8 e8 => ?_) (fun hb2 H8 e8 => ?_)
        · have hnot : other (ins S t) y ∉ ks := by
            intro z
            rw [decide_eq_true z] at hb2
            cases hb2
          obtain ⟨i0, hi0⟩ := tb.val (List.mem_of_getElem? q2)
          have kd8 := e8 _ _ kd7
          have kl8 := e8 _ _ kl7
          have si2 := si.add W.good.ends ht hnot
          refine q_dput (k := .inl (other (ins S t) y : Nat)) (v := .int (i0 + 1)) (ev_op (ev_dget (k := .inl (y : Int)) (ev_var rfl) (ev_ixL (i := i) (ev_var rfl) (ev_var rfl) (sq_of kl8) (natV_get q2)) kd8 hi0) ev_c rv_I0) (ev_var rfl) (ev_var rfl) kd8 (by rw [tb.len]; omega) fun H9 e9 => ?_
          have dne : ∀ z o, H9 z = some o → (∀ k, o ≠ .dK k) → z ≠ d := fun z o hz no e => by
            rw [e, e9 _ _ kd8] at hz
            exact no _ (Option.some.inj hz).symm
          have lne : ∀ z o, H9 z = some o → (∀ k, o ≠ .lst k) → z ≠ l := fun z o hz no e => by
            rw [e, e9 _ _ kl8] at hz
            exact no _ (Option.some.inj hz).symm
          refine s_app (xs := natV ks) (v := .int (other (ins S t) y : Nat)) (by rw [upd_ne dl.symm]; exact e9 _ _ kl8) (ev_var rfl) (ev_var rfl) (by rw [natV_len]; omega) fun H10 e10 => ?_
          have e79 := e8.trans e9
          refine ⟨ks ++ [other (ins S t) y], _, by rw [List.length_append]; omega, by rw [List.getElem?_append_left (by omega)]; exact q2, ?_, tb.put hnot (i0 + 1), ?_, ?_, ⟨en7.len, fun i' q' t' x1 x2 => ?_⟩, ?_, ?_, _, _, _, rfl⟩
          · rw [List.drop_append_of_le_length (by omega)]
            exact si2
          · exact ((((ex7.trans e8).trans e9).mut hd).trans e10).mut hl0
          · rw [upd_ne pl]
            refine e10 _ _ ?_
            rw [upd_ne pd]
            exact e79 _ _ hp7
          · have := e79 _ _ (en7.at_ i' q' t' x1 x2)
            rw [upd_ne (lne _ _ this fun k z => by cases z)]
            refine e10 _ _ ?_
            rw [upd_ne (dne _ _ this fun k z => by cases z)]
            exact this
          · rw [upd_ne dl]
            exact e10 _ _ upd_same
          · rw [upd_same]
            unfold natV
            rw [List.map_append]
            rfl
        · have hin : other (ins S t) y ∈ ks := by
            apply Classical.byContradiction
            intro z
            rw [decide_eq_false z] at hb2
            cases hb2
          exact ⟨ks, kvs, q1, q2, si.skip ht hin, tb, ex7.trans e8, e8 _ _ hp7, en7.ex e8, e8 _ _ kd7, e8 _ _ kl7, _, _, _, rfl⟩
      · rintro σ2 H7 ⟨ks, kvs, q1, q2, si, tb, ex7, hp7, en7, kd7, kl7, a, b, c, rfl⟩
        rw [List.length_map, en7.len] at si
        refine s_aug (a := (i : Int)) (b := 1) rfl ev_c fun H8 e8 => ?_
        exact ⟨ks, kvs, q1, si.out, tb, ex7.trans e8, e8 _ _ kd7, e8 _ _ kl7, _, _, _, rfl⟩
    · have hw : ks.drop i = [] := List.drop_eq_nil_of_le (by have := of_decide_eq_false hb; omega)
      rw [hw] at sr
      exact s_ret (ev_var rfl) fun H5 e5 => k d H5 kvs hd ((ex.trans e4).trans e5) (e5 _ _ (e4 _ _ kd)) fun y => by rw [tb.has, decide_eq_true_iff]; exact sr.all y
end
end K30
namespace K30
open PySem PySem.Spec PyProof.Rows L2 Evl K30M
def spTurnsHeard (K : PySem.W.Frag) : Sp := fun vs H Q E => ∃ (x : Addr) (n : Nat) (T : Ties) (v a b : V), vs = [.ref x, v, a, b] ∧ WebAt K H x n T ∧
  ((BadTurns H T.length v ∧ ∀ d H2, Ex H H2 → H2 d = some (.xd [("at", v)]) → E (.ref (He.ga K "Refused")) (some d) H2) ∨
    ∃ t ts, v = .ref t ∧ TurnsAt H t ts ∧ Order T ts ∧
      ((Sc a ∧ isB (n : Int) a = false ∧ ∀ d H2, Ex H H2 → H2 d = some (.xd [("house", a)]) → E (.ref (He.ga K "NoHouse")) (some d) H2) ∨
        ∃ h : Nat, h < n ∧ a = .int (h : Int) ∧ ((Sc b ∧ isB (n : Int) b = false ∧ ∀ d H2, Ex H H2 → H2 d = some (.xd [("house", b)]) → E (.ref (He.ga K "NoHouse")) (some d) H2) ∨
          ∃ o : Nat, o < n ∧ b = .int (o : Int) ∧ (∀ H2, ¬ Conn T h o → Ex H H2 → Q .non H2) ∧ ∀ k H2, Conn T h o → HeardAt T ts h o k → Ex H H2 → Q (.int (k : Int)) H2)))
def HearJ (H : Hp) (x t p d : Addr) (h o : Nat) (S : Ties) (ts : List Nat) (k : Nat) (σ' : L2.St) (H' : Hp) : Prop := ∃ ls : List Nat, Ex H H' ∧ H' p = some (.tup (natV ts)) ∧ H' d = some (.dK (seen ls)) ∧ ls.length ≤ 2 * k + 1 ∧ (∀ y, y ∈ ls ↔ hear S ts h k y = true) ∧ (∀ j, j < k → hear S ts h j o = false) ∧
  ∃ a7 a8, σ' = [some (.ref x), some (.ref t), some (.int (h : Int)), some (.int (o : Int)), some (.ref p), some (.ref d), some (.int (k : Int)), a7, a8]
theorem add1_len (l : List Nat) (j : Nat) : (add1 l j).length ≤ l.length + 1 := by
  unfold add1
  by_cases h : j ∈ l
  · rw [if_pos h]; omega
  · rw [if_neg h, List.length_append]; exact Nat.le_refl _
section
variable {P : Program} {w : World} {K : PySem.W.Frag} {mg : Str → Option Value} {base : Heap}
theorem sc_turns_heard : FnScope ["web", "turns", "house", "other", "told", "heard", "many", "one", "two"] ["web", "turns", "house", "other"] (defScope (top 42)) := ⟨rfl, rfl, rfl, by decide +kernel, rfl, by decide +kernel, by decide +kernel⟩
theorem k_turns_heard (T : Tx P K mg base) : Df P w K mg base 5 "turns_heard" ["web", "turns", "house", "other"] (spTurnsHeard K) := by
  obtain ⟨fd, F⟩ := T.d_turns_heard
  have D_check_turns := k_check_turns (P := P) (w := w) T
  have D_need_house := k_need_house (P := P) (w := w) T
  have D_distances_from := (k_distances_from (P := P) (w := w) T.toTxt).mono (show 2 ≤ 4 by decide)
  refine Df.mk1 (i := 42) T.g_turns_heard F (fun _ _ _ _ _ _ us hl => match us, hl with | [_, _, _, _], _ => rfl) (F.ok sc_turns_heard (fun vs H Q E h => ?_) (fun cdv A outer s H vs Q E hr h => ?_))
  · obtain ⟨_, _, _, _, _, _, rfl, _⟩ := h
    rfl
  · obtain ⟨x, n, S, v, a, b, rfl, W, k⟩ := h
    obtain ⟨dx, tt, rs, hx, ht⟩ := W.ex
    have t20 := W.good.t20
    have n12 := W.good.n12
    have hu1 : (A.deeper (envOfC "turns_heard" (defScope (top 42)) s.heap.objs.size (He.ga K "turns_heard") cdv)).units + 1 < cLine := by have := hr.units; omega
    refine ⟨_, (pss_cons (ps_set (i := 4) sc_turns_heard.nd rfl (Or.inl rfl) (pe_df (E := E) D_check_turns hr (passE (takes_of rfl rfl rfl rfl)) (pa_cons (pv 0) (pa_cons (pv 1) pa_nil)))) (pss_cons (ps_expr (pe_df (E := E) D_need_house hr (passE (takes_of rfl rfl rfl rfl)) (pa_cons (pv 0) (pa_cons (pv 2) pa_nil)))) (pss_cons (ps_expr (pe_df (E := E) D_need_house hr (passE (takes_of rfl rfl rfl rfl)) (pa_cons (pv 0) (pa_cons (pv 3) pa_nil)))) (pss_cons (ps_if (pt_cmp (pc_dnotin hu1 (pv 3) (pe_d0 D_distances_from hr (pa_cons (pv 0) (pa_cons (pe_tup (pa_cons (pv 2) pa_nil)) pa_nil))))) (pss_one (ps_ret pe_non)) pss_nil) (pss_cons (ps_set (i := 5) sc_turns_heard.nd rfl (Or.inl rfl) (pe_disp (pps_cons (pv 2) pe_bl pps_nil) rfl rfl (by simp) (by decide))) (pss_cons (ps_set (i := 6) sc_turns_heard.nd rfl (Or.inl rfl) pe_int) (pss_cons (ps_while (passes_of rfl) (pt_cmp (pc_dnotin hu1 (pv 3) (pv 5))) (pss_cons (ps_asg (pe_ix (bix_tup (K := K) rfl) (bpe_fld (K := K) rfl (pv 0) rfl) (pe_ix (bix_tup (K := K) rfl) (pv 4) (pe_op op_mod (pv 6) (pe_callB (bc_len (K := K) rfl) (by rfl) T.f_len bt_len (pa_cons (pv 4) pa_nil))) (fun _ _ => rfl)) (fun _ _ => rfl)) (pg_tup rfl (pgs_cons (pg_name (i := 7) sc_turns_heard.nd rfl (Or.inl rfl)) (pgs_cons (pg_name (i := 8) sc_turns_heard.nd rfl (Or.inl rfl)) pgs_nil)))) (pss_cons (ps_if (pw_or (pt_cmp (pc_din hu1 (pv 7) (pv 5))) (pw_or1 (pt_cmp (pc_din hu1 (pv 8) (pv 5))))).pt (pss_cons (ps_dput hu1 (pv 5) (pv 7) pe_bl rfl) (pss_one (ps_dput hu1 (pv 5) (pv 8) pe_bl rfl))) pss_nil) (pss_one (ps_aug (i := 6) sc_turns_heard.nd rfl (Or.inl rfl) pe_int ip_add))))) (pss_one (ps_ret (pv 6)))))))))), ?_⟩
    rcases k with ⟨hb, k⟩ | ⟨t, ts, rfl, ha, ho, k⟩
    · exact ⟨_, rfl, _, rfl, x, n, S, v, rfl, W, .inr ⟨hb, k⟩⟩
    refine ⟨_, rfl, _, rfl, x, n, S, _, rfl, W, .inl ⟨t, ts, rfl, ha, ho, fun p H1 e1 h1 => ?_⟩⟩
    rcases k with ⟨sa, na, k⟩ | ⟨h, hn, rfl, k⟩
    · exact ⟨_, rfl, _, rfl, x, n, S, a, rfl, W.mono e1, sa, .inr ⟨na, fun d H2 e2 h2 => k d H2 (e1.trans e2) h2⟩⟩
    refine ⟨_, rfl, _, rfl, x, n, S, _, rfl, W.mono e1, trivial, .inl ⟨isB_lt hn, fun H2 e2 => ?_⟩⟩
    have e12 := e1.trans e2
    rcases k with ⟨sb, nb, k⟩ | ⟨o, on, rfl, k1, k2⟩
    · exact ⟨_, rfl, _, rfl, x, n, S, b, rfl, W.mono e12, sb, .inr ⟨nb, fun d H3 e3 h3 => k d H3 (e12.trans e3) h3⟩⟩
    refine ⟨_, rfl, _, rfl, x, n, S, _, rfl, W.mono e12, trivial, .inl ⟨isB_lt on, fun H3 e3 => ?_⟩⟩
    have e13 := e12.trans e3
    have p3 := e3 _ _ (e2 _ _ h1)
    show tSeq (tIfS (tB (tDNotIn (tVar 3) (tCall (spDist K) [] E0 (tCons (tVar 0) (tCons (tTup (tCons (tVar 2) tNil)) tNil))))) _ _) _ _ _ _
    refine q_when (b := !connB S h o) (et_B fun H4 e4 Q q => ⟨_, rfl, _, rfl, eu_tup (ea_cons (ev_var rfl) ea_nil) (by show 1 ≤ 100000; decide) H4 (Ex.refl _) _ fun r H5 hr5 e5 h5 => ⟨x, n, S, h, r, rfl, W.mono (e13.trans (e4.trans e5)), hn, h5, fun d H6 kvs hd e6 h6 hk => ⟨d, _, rfl, DGet.k (k := .inl (o : Int)) h6, ?_⟩⟩⟩) (fun hb H4 e4 => ?_) (fun hb H4 e4 => ?_)
    · have : (valV kvs (.inl (o : Int))).isSome = connB S h o := by
        rw [Bool.eq_iff_iff, hk, connB_iff]
        exact ⟨fun z => z.2, fun z => ⟨on, z⟩⟩
      rw [this]
      exact q H6 (e5.trans e6)
    · have nc : ¬ Conn S h o := fun z => by
        rw [connB_iff.mpr z] at hb
        cases hb
      exact s_ret (v := .non) ev_c fun H5 e5 => k1 H5 nc (e13.trans (e4.trans e5))
    · have co : Conn S h o := connB_iff.mp (by
        cases q : connB S h o with
        | true => rfl
        | false => rw [q] at hb; cases hb)
      have e14 := e13.trans e4
      refine q_dispOne (x := h) (ev_var rfl) fun d H5 hd e5 h5 => ?_
      refine q_asg (v := .int 0) ev_c fun H6 e6 => ?_
      have e46 := e5.trans e6
      have hd0 : H d = none := fresh_back e14 hd
      have by_ : ∃ k, k ≤ (n - 1) * S.length ∧ hear S ts h k o = true := hear_by W.good.ends ho hn co
      obtain ⟨M, hM, hear_M⟩ := by_
      refine q_while (fun m σ' H' => ∃ (k : Nat), m = M - k ∧ k ≤ M ∧ HearJ H x t p d h o S ts k σ' H') _ ⟨0, rfl, Nat.zero_le _, [h], e14.trans e46, e46 _ _ (e4 _ _ p3), e6 _ _ h5, by simp, fun y => ?_, fun j hj => absurd hj (Nat.not_lt_zero j), _, _, rfl⟩ ?_
      · show y ∈ [h] ↔ decide (y = h) = true
        rw [List.mem_singleton, decide_eq_true_iff]
      rintro m σ' H' ⟨k0, rfl, hk, ls, ex, kp, kd, ll, ml, first, a7, a8, rfl⟩
      refine ⟨!decide (o ∈ ls), et_B (ev_is (ev_dnotin (k := .inl (o : Int)) (ev_var rfl) (ev_var rfl) kd) (by rw [seen_val])), fun hb H5 e5 => ?_, fun hb H5 e5 => ?_⟩
      · have hno : o ∉ ls := by
          intro z
          rw [decide_eq_true z] at hb
          cases hb
        have hfo : hear S ts h k0 o = false := by
          cases q : hear S ts h k0 o with
          | false => rfl
          | true => exact absurd ((ml o).mpr q) hno
        have hk2 : k0 < M := by
          rcases Nat.lt_or_ge k0 M with z | z
          · exact z
          · have := (hear_spreads S ts h).mono z hear_M
            rw [hfo] at this
            cases this
        have hT : 0 < S.length := Nat.pos_of_ne_zero fun z => by
          rw [z, Nat.mul_zero] at hM
          omega
        have M220 : M ≤ 220 := Nat.le_trans hM (Nat.mul_le_mul (show n - 1 ≤ 11 by omega) t20)
        have hts := ho.len
        have htl := ho.turn hT k0
        have ex5 := ex.trans e5
        have kp5 := e5 _ _ kp
        refine ⟨HearJ H x t p d h o S ts (k0 + 1), fun σ2 H2 q => ⟨_, by omega, k0 + 1, rfl, hk2, q⟩, ?_⟩
        have hmod : ((k0 : Int) % ((natV ts).length : Int)) = ((k0 % ts.length : Nat) : Int) := by rw [natV_len]; exact (Int.natCast_emod k0 ts.length).symm
        obtain ⟨r, hr1, hp⟩ := ht.get (ins_get htl)
        refine q_two (T := r) (ev_ixT (i := K30M.turn ts k0) (ev_ties T.toTxt (ev_var rfl) (ex5 _ _ hx)) (ev_ixT (i := k0 % ts.length) (ev_var rfl) (ev_is (ev_op (ev_var rfl) (ev_lenA (ev_var rfl) (.inr (st_of kp5))) (rv_I (by rw [natV_len]; omega))) (by rw [hmod])) (st_of kp5) (natV_get (turn_get (by omega) k0))) (st_of (ex5 _ _ ht.at_)) hr1) (st_of (ex5 _ _ hp)) fun H7 e7 => ?_
        have kd7 := e7 _ _ (e5 _ _ kd)
        have kp7 := e7 _ _ kp5
        have ex7 := ex5.trans e7
        refine q_when (b := decide ((ins S (K30M.turn ts k0)).1 ∈ ls) || decide ((ins S (K30M.turn ts k0)).2 ∈ ls)) (et_or (et_B (ev_is (ev_din (k := .inl ((ins S (K30M.turn ts k0)).1 : Int)) (ev_var rfl) (ev_var rfl) kd7) (by rw [seen_val]))) fun _ => (et_B (ev_is (ev_din (k := .inl ((ins S (K30M.turn ts k0)).2 : Int)) (ev_var rfl) (ev_var rfl) kd7) (by rw [seen_val])))) (fun hb H8 e8 => ?_) (fun hb H8 e8 => ?_)
        · have kd8 := e8 _ _ kd7
          have hd8 : ∀ z o, H8 z = some o → (∀ k, o ≠ .dK k) → z ≠ d := fun z o hz no e => by
            rw [e, kd8] at hz
            exact no _ (Option.some.inj hz).symm
          have a1 := add1_len ls (ins S (K30M.turn ts k0)).1
          have a2 := add1_len (add1 ls (ins S (K30M.turn ts k0)).1) (ins S (K30M.turn ts k0)).2
          refine q_dput (k := .inl ((ins S (K30M.turn ts k0)).1 : Int)) (v := .bl true) ev_c (ev_var rfl) (ev_var rfl) kd8 (by rw [seen_len]; omega) fun H9 e9 => ?_
          rw [seen_add]
          refine s_dput (k := .inl ((ins S (K30M.turn ts k0)).2 : Int)) (v := .bl true) ev_c (ev_var rfl) (ev_var rfl) upd_same (by rw [seen_len]; omega) fun H10 e10 => ?_
          rw [seen_add]
          refine s_aug (a := (k0 : Int)) (b := 1) rfl ev_c fun H11 e11 => ?_
          refine ⟨add1 (add1 ls (ins S (K30M.turn ts k0)).1) (ins S (K30M.turn ts k0)).2, ?_, ?_, e11 _ _ upd_same, by omega, fun y => ?_, fun j hj => ?_, _, _, rfl⟩
          · exact ((((ex7.trans e8).trans e9).mut hd0).trans e10).mut hd0 |>.trans e11
          · have pd := hd8 _ _ (e8 _ _ kp7) (fun k z => by cases z)
            refine e11 _ _ ?_
            rw [upd_ne pd]
            refine e10 _ _ ?_
            rw [upd_ne pd]
            exact e9 _ _ (e8 _ _ kp7)
          · rw [mem_add1, mem_add1, ml]
            show _ ↔ (hear S ts h k0 y || ((decide (y = (ins S (K30M.turn ts k0)).1) || decide (y = (ins S (K30M.turn ts k0)).2)) && (hear S ts h k0 (ins S (K30M.turn ts k0)).1 || hear S ts h k0 (ins S (K30M.turn ts k0)).2))) = true
            have hb2 : (hear S ts h k0 (ins S (K30M.turn ts k0)).1 || hear S ts h k0 (ins S (K30M.turn ts k0)).2) = true := by
              rw [Bool.or_eq_true] at hb ⊢
              exact hb.imp (fun z => (ml _).mp (of_decide_eq_true z)) fun z => (ml _).mp (of_decide_eq_true z)
            rw [hb2, Bool.and_true, Bool.or_eq_true, Bool.or_eq_true, decide_eq_true_iff, decide_eq_true_iff, or_assoc]
          · rcases Nat.lt_succ_iff_lt_or_eq.mp hj with hj | rfl
            · exact first j hj
            · exact hfo
        · refine s_aug (a := (k0 : Int)) (b := 1) rfl ev_c fun H11 e11 => ?_
          have e811 := e8.trans e11
          refine ⟨ls, ex7.trans e811, e811 _ _ kp7, e811 _ _ kd7, by omega, fun y => ?_, fun j hj => ?_, _, _, rfl⟩
          · rw [ml]
            show _ ↔ (hear S ts h k0 y || ((decide (y = (ins S (K30M.turn ts k0)).1) || decide (y = (ins S (K30M.turn ts k0)).2)) && (hear S ts h k0 (ins S (K30M.turn ts k0)).1 || hear S ts h k0 (ins S (K30M.turn ts k0)).2))) = true
            have hb2 : (hear S ts h k0 (ins S (K30M.turn ts k0)).1 || hear S ts h k0 (ins S (K30M.turn ts k0)).2) = false := by
              rw [Bool.or_eq_false_iff] at hb ⊢
              refine hb.imp (fun z => ?_) fun z => ?_
              · cases q : hear S ts h k0 (ins S (K30M.turn ts k0)).1 with
                | false => rfl
                | true => exact absurd ((ml _).mpr q) (of_decide_eq_false z)
              · cases q : hear S ts h k0 (ins S (K30M.turn ts k0)).2 with
                | false => rfl
                | true => exact absurd ((ml _).mpr q) (of_decide_eq_false z)
            rw [hb2, Bool.and_false, Bool.or_false]
          · rcases Nat.lt_succ_iff_lt_or_eq.mp hj with hj | rfl
            · exact first j hj
            · exact hfo
      · have hin : o ∈ ls := by
          apply Classical.byContradiction
          intro z
          rw [decide_eq_false z] at hb
          cases hb
        exact s_ret (ev_var rfl) fun H6 e6 => k2 k0 H6 co ⟨(ml o).mp hin, first⟩ ((ex.trans e5).trans e6)
end
end K30
namespace K30
open PySem PySem.Spec PyProof.Rows L2 Evl K30M
/-! ### all stays but a -/
def ExB (a : Addr) (H H' : Hp) : Prop := ∀ b o, b ≠ a → H b = some o → H' b = some o
theorem ExB.of {a : Addr} {H H' : Hp} (e : Ex H H') : ExB a H H' := fun b o _ h => e b o h
theorem ExB.trans {a : Addr} {H H' H'' : Hp} (e : ExB a H H') (f : ExB a H' H'') : ExB a H H'' := fun b o n h => f b o n (e b o n h)
theorem ExB.upd {a : Addr} {H H' : Hp} {o : HO} (e : ExB a H H') : ExB a H (upd H' a o) := fun b o' n h => by
  rw [upd_ne n]
  exact e b o' n h
theorem ExB.ex {a : Addr} {H H' : Hp} (e : ExB a H H') (h : H a = none) : Ex H H' := fun b o hb => e b o (fun z => by rw [z, h] at hb; cases hb) hb
theorem ExB.web {a : Addr} {H H' : Hp} {K : PySem.W.Frag} {x : Addr} {n : Nat} {T : Ties} {C dx : Addr} {fs : List (Str × V)} (e : ExB a H H') (w : WebAt K H x n T) (ha : H a = some (.ins C dx fs)) (hf : fs.lookup ("ties" : Str) = none) : WebAt K H' x n T := by
  obtain ⟨⟨dx', tt, rs, h, t⟩, g⟩ := w
  have ne : ∀ b o, H b = some o → (∀ C dx fs, o ≠ .ins C dx fs) → b ≠ a := fun b o hb hn z => by
    rw [z, ha] at hb
    exact hn _ _ _ (Option.some.inj hb).symm
  have hx : x ≠ a := fun z => by
    rw [z, ha] at h
    injection h with h
    injection h with h1 h2 h3
    rw [h3] at hf
    cases hf
  exact ⟨⟨dx', tt, rs, e _ _ hx h, e _ _ (ne _ _ t.at_ fun _ _ _ z => by cases z) t.at_, t.len, fun i r p a b => e _ _ (ne _ _ (t.pair i r p a b) fun _ _ _ z => by cases z) (t.pair i r p a b)⟩, g⟩
/-! ### numbers by a modulus -/
def cM (m v : Int) : Int := if 0 < m then v % m else v
def hV (n : Nat) (m : Int) (f : Nat → Int) : List V := (List.range n).map fun i => .int (cM m (f i))
theorem hV_get {n i : Nat} {m : Int} {f : Nat → Int} (h : i < n) : (hV n m f)[i]? = some (.int (cM m (f i))) := by
  unfold hV
  rw [List.getElem?_map, List.getElem?_range h]
  rfl
theorem hV_len (n : Nat) (m : Int) (f : Nat → Int) : (hV n m f).length = n := by unfold hV; rw [List.length_map, List.length_range]
theorem hV_congr {n : Nat} {m : Int} {f g : Nat → Int} (h : ∀ i, i < n → cM m (f i) = cM m (g i)) : hV n m f = hV n m g := by
  unfold hV
  refine List.map_congr_left fun i hi => ?_
  rw [h i (List.mem_range.mp hi)]
theorem cM_add (m a b c : Int) : cM m (cM m a + cM m b - cM m c) = cM m (a + b - c) := by
  unfold cM
  by_cases h : 0 < m
  · rw [if_pos h, if_pos h, if_pos h, if_pos h, if_pos h]
    rw [Int.sub_emod, Int.add_emod, Int.emod_emod_of_dvd _ (Int.dvd_refl m), Int.emod_emod_of_dvd _ (Int.dvd_refl m), Int.emod_emod_of_dvd _ (Int.dvd_refl m), ← Int.add_emod, ← Int.sub_emod]
  · rw [if_neg h, if_neg h, if_neg h, if_neg h, if_neg h]
structure NetAt (K : PySem.W.Frag) (H : Hp) (a x : Addr) (n : Nat) (T : Ties) (m : Int) (p : Held) : Prop where
  ex : ∃ dx sa aa, H a = some (.ins (He.ga K "CounterNet") dx [("web", .ref x), ("modulus", .int m), ("states", .ref sa), ("archives", .ref aa)]) ∧ H sa = some (.tup (hV n m p.1)) ∧ H aa = some (.tup (hV T.length m p.2))
theorem NetAt.mono {K : PySem.W.Frag} {H H' : Hp} {a x : Addr} {n : Nat} {T : Ties} {m : Int} {p : Held} (N : NetAt K H a x n T m p) (e : Ex H H') : NetAt K H' a x n T m p := by
  obtain ⟨dx, sa, aa, h1, h2, h3⟩ := N.ex
  exact ⟨dx, sa, aa, e _ _ h1, e _ _ h2, e _ _ h3⟩
theorem ev_chain {r r' : R2} {ta tb tc : TE} {σ : L2.St} {H : Hp} {x y z : V} {b c : Bool} (ha : Ev ta σ H x) (hb : Ev tb σ H y) (hc : Ev tc σ H z) (h1 : RV r x y H (.bl b)) (h2 : RV r' y z H (.bl c)) : Ev (tChain r r' ta tb tc) σ H (.bl (b && c)) := fun H1 e1 Q q =>
  ha H1 e1 _ fun H2 e2 => hb H2 (e1.trans e2) _ fun H3 e3 => h1 H3 ((e1.trans e2).trans e3) _ fun H4 e4 => ⟨b, rfl, by
    have ee := ((e1.trans e2).trans e3).trans e4
    have e14 := (e2.trans e3).trans e4
    cases b with
    | true => exact hc H4 ee _ fun H5 e5 => h2 H5 (ee.trans e5) _ fun H6 e6 => q H6 ((e14.trans e5).trans e6)
    | false => exact q H4 e14⟩
def spCheckMod : Sp := fun vs H Q _ => ∃ m : Int, vs = [.int m] ∧ (m = 0 ∨ m = 10) ∧ ∀ H2, Ex H H2 → Q (.int m) H2
def spIsCounter : Sp := fun vs H Q _ => ∃ v m : Int, vs = [.int v, .int m] ∧ (m = 0 ∨ m = 10) ∧ 0 ≤ v ∧ v ≤ 9 ∧ ∀ H2, Ex H H2 → Q (.bl true) H2
def spCountedAs : Sp := fun vs H Q _ => ∃ v m : Int, vs = [.int v, .int m] ∧ ∀ H2, Ex H H2 → Q (.int (cM m v)) H2
def spCheckNumbers : Sp := fun vs H Q _ => ∃ (l : Addr) (ns : List Int) (m : Int), vs = [.ref l, .int (ns.length : Int), .int m] ∧ H l = some (.lst (ns.map V.int)) ∧ ns.length ≤ 1000 ∧ (m = 0 ∨ m = 10) ∧ (∀ v ∈ ns, 0 ≤ v ∧ v ≤ 9) ∧
  ∀ p H2, H p = none → Ex H H2 → H2 p = some (.tup (ns.map V.int)) → Q (.ref p) H2
def spNeedTie (K : PySem.W.Frag) : Sp := fun vs H Q _ => ∃ (x : Addr) (n : Nat) (T : Ties) (t : Nat), vs = [.ref x, .int (t : Int)] ∧ WebAt K H x n T ∧ t < T.length ∧ ∀ H2, Ex H H2 → Q (.int (t : Int)) H2
theorem sv_is_counter {H : Hp} {v m : Int} (hm : m = 0 ∨ m = 10) (h0 : 0 ≤ v) (h9 : v ≤ 9) : SpV spIsCounter [.int v, .int m] H (.bl true) := fun H1 e1 Q q E => ⟨v, m, rfl, hm, h0, h9, q⟩
theorem sv_counted_as {H : Hp} {v m : Int} : SpV spCountedAs [.int v, .int m] H (.int (cM m v)) := fun H1 e1 Q q E => ⟨v, m, rfl, q⟩
theorem sv_check_mod {H : Hp} {m : Int} (hm : m = 0 ∨ m = 10) : SpV spCheckMod [.int m] H (.int m) := fun H1 e1 Q q E => ⟨m, rfl, hm, q⟩
theorem sv_need_tie {K : PySem.W.Frag} {H : Hp} {x : Addr} {n : Nat} {T : Ties} {t : Nat} (W : WebAt K H x n T) (ht : t < T.length) : SpV (spNeedTie K) [.ref x, .int (t : Int)] H (.int (t : Int)) := fun H1 e1 Q q E => ⟨x, n, T, t, rfl, W.mono e1, ht, q⟩
theorem su_check_numbers {H : Hp} {l : Addr} {ns : List Int} {m : Int} {k : Int} (hk : k = (ns.length : Int)) (h : H l = some (.lst (ns.map V.int))) (hz : ns.length ≤ 1000) (hm : m = 0 ∨ m = 10) (hs : ∀ v ∈ ns, 0 ≤ v ∧ v ≤ 9) : SpU spCheckNumbers [.ref l, .int k, .int m] H (ns.map V.int) := fun H1 e1 Q q E => ⟨l, ns, m, by rw [hk], e1 _ _ h, hz, hm, hs, q⟩
section
variable {P : Program} {w : World} {K : PySem.W.Frag} {mg : Str → Option Value} {base : Heap}
theorem sc_check_modulus : FnScope ["value"] ["value"] (defScope (top 30)) := ⟨rfl, rfl, rfl, by decide +kernel, rfl, by decide +kernel, by decide +kernel⟩
theorem k_check_modulus (T : Txt K mg base) : Df P w K mg base 2 "check_modulus" ["value"] spCheckMod := by
  obtain ⟨fd, F⟩ := T.d_check_modulus
  obtain ⟨_, m_MOST_WRAP⟩ := T.i_MOST_WRAP
  have D_is_integer := k_is_integer (P := P) (w := w) T
  refine Df.mk1 (i := 30) T.g_check_modulus F (fun _ _ _ _ _ _ us hl => match us, hl with | [_], _ => rfl) (F.ok sc_check_modulus (fun vs H Q E h => ?_) (fun cdv A outer s H vs Q E hr h => ?_))
  · obtain ⟨_, rfl, _⟩ := h
    rfl
  · obtain ⟨m, rfl, hm, k⟩ := h
    refine ⟨_, PSs.nox (pss_cons (ps_if (pw_or (pt_not (pt_val (pe_d0 D_is_integer hr (pa_cons (pv 0) pa_nil)))) (pw_or1 (pw_and (pt_cmpR op_ne (pv 0) pe_int (nomark _)) (pw_and1 (pt_not (pt_chain op_le op_le pe_int (pv 0) (pe_glob (v := .int _) (by rfl) m_MOST_WRAP ⟨_, rfl⟩))))).pt)).pt (pss_one ps_never) pss_nil) (pss_one (ps_ret (pv 0)))), ?_⟩
    refine q_when (b := false) (et_is (et_or (et_not (et_B (SpV.call (ea_cons (ev_var rfl) ea_nil) (sv_is_integer trivial)))) fun _ => et_and (et_test (ev_op (ev_var rfl) ev_c (rv_ne rfl))) fun _ => et_not (et_test (ev_chain ev_c (ev_var rfl) ev_c rv_I0 rv_I0))) ?_) (fun z => Bool.noConfusion z) fun _ H1 e1 => s_ret (ev_var rfl) fun H2 e2 => k H2 (e1.trans e2)
    rcases hm with rfl | rfl <;> rfl
theorem sc_is_counter : FnScope ["value", "modulus"] ["value", "modulus"] (defScope (top 31)) := ⟨rfl, rfl, rfl, by decide +kernel, rfl, by decide +kernel, by decide +kernel⟩
theorem k_is_counter (T : Txt K mg base) : Df P w K mg base 3 "is_counter" ["value", "modulus"] spIsCounter := by
  obtain ⟨fd, F⟩ := T.d_is_counter
  obtain ⟨_, m_MOST_NUMBER⟩ := T.i_MOST_NUMBER
  have D_is_within := k_is_within (P := P) (w := w) T
  refine Df.mk1 (i := 31) T.g_is_counter F (fun _ _ _ _ _ _ us hl => match us, hl with | [_, _], _ => rfl) (F.ok sc_is_counter (fun vs H Q E h => ?_) (fun cdv A outer s H vs Q E hr h => ?_))
  · obtain ⟨_, _, rfl, _⟩ := h
    rfl
  · obtain ⟨v, m, rfl, hm, h0, h9, k⟩ := h
    refine ⟨_, PSs.nox (pss_one (ps_ret (pe_ifExp (pt_cmpR op_gt (pv 1) pe_int (nomark _)) (pe_d0 D_is_within hr (pa_cons (pv 0) (pa_cons pe_int (pa_cons (pe_op op_sub (pv 1) pe_int) pa_nil)))) (pe_d0 D_is_within hr (pa_cons (pv 0) (pa_cons (pe_un un_neg (pe_glob (v := .int _) (by rfl) m_MOST_NUMBER ⟨_, rfl⟩)) (pa_cons (pe_glob (v := .int _) (by rfl) m_MOST_NUMBER ⟨_, rfl⟩) pa_nil))))))), ?_⟩
    refine s_ret (v := .bl true) (ev_if (b := decide (m > 0)) (et_test (ev_op (ev_var rfl) ev_c rv_I0)) (fun z => ?_) (fun z => ?_)) k
    · obtain rfl : m = 10 := by
        have := of_decide_eq_true z
        omega
      refine ev_is (SpV.call (ea_cons (ev_var rfl) (ea_cons ev_c (ea_cons (ev_op (ev_var rfl) ev_c rv_I0) ea_nil))) sv_is_within) ?_
      rw [decide_eq_true h0, decide_eq_true (by omega)]
      rfl
    · refine ev_is (SpV.call (ea_cons (ev_var rfl) (ea_cons (ev_un ev_c ru_neg) (ea_cons ev_c ea_nil))) sv_is_within) ?_
      rw [decide_eq_true (by omega), decide_eq_true (by omega)]
      rfl
theorem sc_counted_as : FnScope ["number", "modulus"] ["number", "modulus"] (defScope (top 33)) := ⟨rfl, rfl, rfl, by decide +kernel, rfl, by decide +kernel, by decide +kernel⟩
theorem k_counted_as (T : Txt K mg base) : Df P w K mg base 1 "counted_as" ["number", "modulus"] spCountedAs := by
  obtain ⟨fd, F⟩ := T.d_counted_as
  refine Df.mk1 (i := 33) T.g_counted_as F (fun _ _ _ _ _ _ us hl => match us, hl with | [_, _], _ => rfl) (F.ok sc_counted_as (fun vs H Q E h => ?_) (fun cdv A outer s H vs Q E hr h => ?_))
  · obtain ⟨_, _, rfl, _⟩ := h
    rfl
  · obtain ⟨v, m, rfl, k⟩ := h
    refine ⟨_, PSs.nox (pss_one (ps_ret (pe_ifExp (pt_cmpR op_gt (pv 1) pe_int (nomark _)) (pe_op op_mod (pv 0) (pv 1)) (pv 0)))), ?_⟩
    refine s_ret (v := .int (cM m v)) (ev_if (b := decide (m > 0)) (et_test (ev_op (ev_var rfl) ev_c rv_I0)) (fun z => ?_) (fun z => ?_)) k
    · have := of_decide_eq_true z
      refine ev_is (ev_op (ev_var rfl) (ev_var rfl) (rv_I (by omega))) ?_
      unfold cM
      rw [if_pos (by omega)]
    · have := of_decide_eq_false z
      refine ev_is (ev_var rfl) ?_
      unfold cM
      rw [if_neg (by omega)]
theorem sc_need_tie : FnScope ["web", "tie"] ["web", "tie"] (defScope (top 20)) := ⟨rfl, rfl, rfl, by decide +kernel, rfl, by decide +kernel, by decide +kernel⟩
theorem k_need_tie (T : Txt K mg base) : Df P w K mg base 4 "need_tie" ["web", "tie"] (spNeedTie K) := by
  obtain ⟨fd, F⟩ := T.d_need_tie
  have D_is_below := k_is_below (P := P) (w := w) T
  refine Df.mk1 (i := 20) T.g_need_tie F (fun _ _ _ _ _ _ us hl => match us, hl with | [_, _], _ => rfl) (F.ok sc_need_tie (fun vs H Q E h => ?_) (fun cdv A outer s H vs Q E hr h => ?_))
  · obtain ⟨_, _, _, _, rfl, _⟩ := h
    rfl
  · obtain ⟨x, n, S, t, rfl, W, ht1, k⟩ := h
    obtain ⟨dx, tt, rs, hx, ht⟩ := W.ex
    have hl : (rs.map V.ref).length = S.length := by rw [List.length_map, ht.len]
    refine ⟨_, PSs.nox (pss_cons (ps_if (pt_not (pt_val (pe_d0 D_is_below hr (pa_cons (pv 1) (pa_cons (pe_callB (bc_len (K := K) rfl) (by rfl) T.f_len bt_len (pa_cons (bpe_fld (K := K) rfl (pv 0) rfl) pa_nil)) pa_nil))))) (pss_one ps_never) pss_nil) (pss_one (ps_ret (pv 1)))), ?_⟩
    refine q_when (b := false) (et_is (et_not (et_B (SpV.call (ea_cons (ev_var rfl) (ea_cons (ev_lenA (ev_ties T (ev_var rfl) hx) (.inr (st_of ht.at_))) ea_nil)) (sv_is_below trivial)))) ?_) (fun z => Bool.noConfusion z) fun _ H1 e1 => s_ret (ev_var rfl) fun H2 e2 => k H2 (e1.trans e2)
    rw [hl, isB_lt ht1]
    rfl
theorem sc_check_numbers : FnScope ["value", "many", "modulus", "number"] ["value", "many", "modulus"] (defScope (top 32)) := ⟨rfl, rfl, rfl, by decide +kernel, rfl, by decide +kernel, by decide +kernel⟩
theorem k_check_numbers (T : Txt K mg base) : Df P w K mg base 4 "check_numbers" ["value", "many", "modulus"] spCheckNumbers := by
  obtain ⟨fd, F⟩ := T.d_check_numbers
  have D_is_counter := k_is_counter (P := P) (w := w) T
  have D_is_sequence := (k_is_sequence (P := P) (w := w) T).mono (show 1 ≤ 3 by decide)
  refine Df.mk1 (i := 32) T.g_check_numbers F (fun _ _ _ _ _ _ us hl => match us, hl with | [_, _, _], _ => rfl) (F.ok sc_check_numbers (fun vs H Q E h => ?_) (fun cdv A outer s H vs Q E hr h => ?_))
  · obtain ⟨_, _, _, rfl, _⟩ := h
    rfl
  · obtain ⟨l, ns, m, rfl, hl, hz, hm, hs, k⟩ := h
    refine ⟨_, PSs.nox (pss_cons (ps_if (pw_or (pt_not (pt_val (pe_d0 D_is_sequence hr (pa_cons (pv 0) pa_nil)))) (pw_or (pt_cmpR op_ne (pe_callB (bc_len (K := K) rfl) (by rfl) T.f_len bt_len (pa_cons (pv 0) pa_nil)) (pv 1) (nomark _)) (pw_or1 (pt_not (pt_val (pe_callB (bc_all (K := K) rfl rfl) (by rfl) T.f_all bt_all (pa_cons (pe_lc (own := [("number", 3)]) (g := (gName 3)) rfl sc_check_numbers.nd (pi_seq (pv 0)) (blkOk_by (N := ["value", "many", "modulus", "number"]) (sc := defScope (top 32)) (by decide +kernel)) (fun _ _ _ _ _ => (pg_name (i := 3) sc_check_numbers.nd rfl (Or.inl rfl))) (fun _ _ _ _ _ => pts_nil) (fun _ _ _ _ _ => (pe_d0 D_is_counter hr (pa_cons (pv 3) (pa_cons (pv 2) pa_nil))))) pa_nil))))))).pt (pss_one ps_never) pss_nil) (pss_one (ps_ret (pe_callTy (bc_tup (K := K) rfl) (by rfl) T.f_tuple bt_tuple (pa_cons (pv 0) pa_nil))))), ?_⟩
    have sq : SqA K H l (ns.map V.int) := .inl (sq_of hl)
    refine q_when (b := false) (et_is (et_or (et_not (et_B (SpV.call (ea_cons (ev_var rfl) ea_nil) (sv_is_sequence (b := true) (.inr ⟨l, _, rfl, .inl hl, rfl⟩))))) fun _ => et_or (et_test (ev_op (ev_lenA (ev_var rfl) sq) (ev_var rfl) (rv_ne rfl))) fun _ =>
      et_not (et_B (ev_all (bs := ns.map fun _ => true) ?_))) ?_) (fun z => Bool.noConfusion z) fun _ H1 e1 => ?_
    · have := el_lcW (vs := [3]) (tt := tYes) (te := tCall spIsCounter [] E0 (tCons (tVar 3) (tCons (tVar 2) tNil))) (g := gName 3) (src_seq (ev_var (σ := [some (V.ref l), some (.int (ns.length : Int)), some (.int m), none]) (i := 0) rfl) (Ex.refl H) sq) (by rw [List.length_map]; omega)
        (fun _ => true) (fun i => .bl true) fun i y H2 e2 hi hy Q q => q _ rfl (fun H3 e3 Q3 q3 => q3 H3 (Ex.refl _)) fun _ => by
          rw [List.getElem?_map] at hy
          cases hv : ns[i]? with
          | none => rw [hv] at hy; cases hy
          | some v =>
            rw [hv] at hy
            cases hy
            have := hs v (List.mem_of_getElem? hv)
            exact SpV.call (ea_cons (ev_var rfl) (ea_cons (ev_var rfl) ea_nil)) (sv_is_counter hm this.1 this.2)
      rw [given_all] at this
      have e : (List.range (ns.map V.int).length).map (fun _ => V.bl true) = (ns.map fun _ => true).map V.bl := by
        rw [List.map_map, List.map_const', List.length_range, List.length_map]
        exact (List.map_const' ..).symm
      rw [e] at this
      exact this
    · rw [List.length_map, List.all_map]
      have : (ns.all (id ∘ fun _ => true)) = true := List.all_eq_true.mpr fun _ _ => rfl
      rw [this, decide_eq_true rfl]
      rfl
    · refine ⟨_, rfl, l, _, rfl, .inl ⟨sq_of (e1 _ _ hl), fun p hp => k p _ (fresh_back e1 hp) (e1.trans (Ex.new hp)) upd_same⟩⟩
end
end K30
namespace K30
open PySem PySem.Spec PyProof.Rows L2 Evl K30M
/-! ### a tuple, new or not -/
def EvW (te : TE) (σ : L2.St) (H : Hp) (xs : List V) : Prop := ∀ H1, Ex H H1 → ∀ Q : VK, (∀ p H2, Ex H1 H2 → H2 p = some (.tup xs) → Q (.ref p) H2) → te σ H1 Q
section
variable {K : PySem.W.Frag} {σ : L2.St} {H : Hp} {ta tb te : TE} {tz : TS} {D : Ends}
theorem EvU.w {xs : List V} (h : EvU ta σ H xs) : EvW ta σ H xs := fun H1 e Q q => h H1 e Q fun p H2 _ e2 h2 => q p H2 e2 h2
theorem ew_of {a : Addr} {xs : List V} (h : Ev ta σ H (.ref a)) (ha : H a = some (.tup xs)) : EvW ta σ H xs := fun H1 e Q q => h H1 e Q fun H2 e2 => q a H2 e2 ((e.trans e2) _ _ ha)
theorem ew_sl {tl th : TO} {lo hi : Option Int} {xs : List V} (h : EvW ta σ H xs) (hl : EvO tl σ H lo) (hh : EvO th σ H hi) : EvW (tSl (rSlA K) ta tl th) σ H (cutV xs lo hi) := fun H1 e Q q =>
  h H1 e _ fun p H2 e2 hp => hl H2 (e.trans e2) _ fun H3 e3 => hh H3 ((e.trans e2).trans e3) _ fun H4 e4 => by
    have h4 := e4 _ _ (e3 _ _ hp)
    have e24 := (e2.trans e3).trans e4
    refine ⟨p, xs, rfl, st_of h4, fun hw => ?_, fun _ r hr => q r _ (e24.trans (Ex.new hr)) upd_same⟩
    refine q p H4 e24 ?_
    unfold cutV
    rw [hw.1, hw.2, Nat.sub_zero, List.drop_zero, List.take_length]
    exact h4
theorem ew_cat {xs ys : List V} (ha : EvW ta σ H xs) (hb : EvW tb σ H ys) (hz : xs.length + ys.length ≤ 100000) : EvW (tOp (rCatA K) ta tb) σ H (xs ++ ys) := fun H1 e Q q =>
  ha H1 e _ fun p H2 e2 hp => hb H2 (e.trans e2) _ fun r H3 e3 hr => by
    have hp3 := e3 _ _ hp
    refine ⟨p, r, xs, ys, rfl, rfl, st_of hp3, st_of hr, sz_of hz, fun hx => ?_, fun _ hy => ?_, fun _ _ z hz => q z _ ((e2.trans e3).trans (Ex.new hz)) upd_same⟩
    · subst hx
      exact q r H3 (e2.trans e3) hr
    · subst hy
      refine q p H3 (e2.trans e3) ?_
      rw [List.append_nil]
      exact hp3
theorem cut_take {xs : List V} {t : Nat} (h : t ≤ xs.length) : cutV xs none (some (t : Int)) = xs.take t := by
  unfold cutV
  rw [HT.sIx_none, HT.sIx_nat, List.drop_zero, Nat.sub_zero, Nat.min_eq_left h]
theorem cut_drop {xs : List V} {t : Nat} (h : t ≤ xs.length) : cutV xs (some (t : Int)) none = xs.drop t := by
  unfold cutV
  rw [HT.sIx_none, HT.sIx_nat, Nat.min_eq_left h]
  exact List.take_of_length_le (by rw [List.length_drop]; omega)
/-! ### fields set -/
theorem q_fld {a C dx : Addr} {fs : List (Str × V)} {f : Str} {v : V} (h : Ev te σ H v) (ho : Ev ta σ H (.ref a)) (ha : H a = some (.ins C dx fs)) (c : Cls K C) (na : NoAttr K C f) (hz : fs.length < 1000)
    (k : ∀ H1, Ex H H1 → tz D σ (upd H1 a (.ins C dx (putF f v fs)))) : tSeq (sFld K ta te f) tz D σ H :=
  h H (Ex.refl H) _ fun H1 e1 => ho H1 e1 _ fun H2 e2 => ⟨a, C, dx, fs, rfl, (e1.trans e2) _ _ ha, c, na, hz, k H2 (e1.trans e2)⟩
theorem s_fld {a C dx : Addr} {fs : List (Str × V)} {f : Str} {v : V} (h : Ev te σ H v) (ho : Ev ta σ H (.ref a)) (ha : H a = some (.ins C dx fs)) (c : Cls K C) (na : NoAttr K C f) (hz : fs.length < 1000)
    (k : ∀ H1, Ex H H1 → D.nx σ (upd H1 a (.ins C dx (putF f v fs)))) : sFld K ta te f D σ H :=
  h H (Ex.refl H) _ fun H1 e1 => ho H1 e1 _ fun H2 e2 => ⟨a, C, dx, fs, rfl, (e1.trans e2) _ _ ha, c, na, hz, k H2 (e1.trans e2)⟩
theorem q_fldW {a C dx : Addr} {fs : List (Str × V)} {f : Str} {xs : List V} (h : EvW te σ H xs) (ho : Ev ta σ H (.ref a)) (ha : H a = some (.ins C dx fs)) (c : Cls K C) (na : NoAttr K C f) (hz : fs.length < 1000)
    (k : ∀ p H1, Ex H H1 → H1 p = some (.tup xs) → tz D σ (upd H1 a (.ins C dx (putF f (.ref p) fs)))) : tSeq (sFld K ta te f) tz D σ H :=
  h H (Ex.refl H) _ fun p H1 e1 hp => ho H1 e1 _ fun H2 e2 => ⟨a, C, dx, fs, rfl, (e1.trans e2) _ _ ha, c, na, hz, k p H2 (e1.trans e2) (e2 _ _ hp)⟩
theorem s_fldW {a C dx : Addr} {fs : List (Str × V)} {f : Str} {xs : List V} (h : EvW te σ H xs) (ho : Ev ta σ H (.ref a)) (ha : H a = some (.ins C dx fs)) (c : Cls K C) (na : NoAttr K C f) (hz : fs.length < 1000)
    (k : ∀ p H1, Ex H H1 → H1 p = some (.tup xs) → D.nx σ (upd H1 a (.ins C dx (putF f (.ref p) fs)))) : sFld K ta te f D σ H := q_fldW (tz := tNext) h ho ha c na hz k
end
theorem tup_ne {H : Hp} {a C dx b : Addr} {fs : List (Str × V)} {xs : List V} (ha : H a = some (.ins C dx fs)) (hb : H b = some (.tup xs)) : b ≠ a := fun z => by
  rw [z, ha] at hb
  cases hb
def spNetInit (K : PySem.W.Frag) : Sp := fun vs H Q _ => ∃ (a x la lb dx : Addr) (n : Nat) (T : Ties) (m : Int) (p : Held), vs = [.ref a, .ref x, .int m, .ref la, .ref lb] ∧ H a = some (.ins (He.ga K "CounterNet") dx []) ∧ WebAt K H x n T ∧ (m = 0 ∨ m = 10) ∧ (∀ i, i < n → 0 ≤ p.1 i ∧ p.1 i ≤ 9) ∧ (∀ i, i < T.length → 0 ≤ p.2 i ∧ p.2 i ≤ 9) ∧
  H la = some (.lst (hV n m p.1)) ∧ H lb = some (.lst (hV T.length m p.2)) ∧ ∀ H1, ExB a H H1 → NetAt K H1 a x n T m p → Q .non H1
def spMeet (K : PySem.W.Frag) : Sp := fun vs H Q _ => ∃ (a x : Addr) (n : Nat) (T : Ties) (m : Int) (p : Held) (t : Nat), vs = [.ref a, .int (t : Int)] ∧ WebAt K H x n T ∧ NetAt K H a x n T m p ∧ t < T.length ∧
  ∀ v H1, ExB a H H1 → NetAt K H1 a x n T m (meetN T p t) → Q v H1
def StillM (T : Ties) (m : Int) (p : Held) : Prop := ∀ i, i < T.length → cM m (p.1 (ins T i).1) = cM m (p.1 (ins T i).2) ∧ cM m (p.1 (ins T i).2) = cM m (p.2 i)
def spIsRest (K : PySem.W.Frag) : Sp := fun vs H Q _ => ∃ (a x : Addr) (n : Nat) (T : Ties) (m : Int) (p : Held), vs = [.ref a] ∧ WebAt K H x n T ∧ NetAt K H a x n T m p ∧ StillM T m p ∧ ∀ H1, Ex H H1 → Q (.bl true) H1
theorem hV_ints (n : Nat) (m : Int) (f : Nat → Int) : hV n m f = ((List.range n).map fun i => cM m (f i)).map V.int := by
  unfold hV
  rw [List.map_map]
  rfl
section
variable {P : Program} {w : World} {K : PySem.W.Frag} {mg : Str → Option Value} {base : Heap}
theorem sc_CounterNet___init__ : FnScope ["self", "web", "modulus", "states", "archives"] ["self", "web", "modulus", "states", "archives"] (defScope (inClass (top 34) 0)) := ⟨rfl, rfl, rfl, by decide +kernel, rfl, by decide +kernel, by decide +kernel⟩
theorem k_Net_init (T : Txt K mg base) : Mf P w K mg base 5 (He.ma K (He.ga K "CounterNet") "__init__") ["self", "web", "modulus", "states", "archives"] (spNetInit K) := by
  obtain ⟨fd, F⟩ := T.d_CounterNet_init
  have D_check_numbers := k_check_numbers (P := P) (w := w) T
  have D_check_modulus := (k_check_modulus (P := P) (w := w) T).mono (show 2 ≤ 4 by decide)
  refine ⟨fd, F.bindsN (fun _ _ _ _ _ _ us hl => match us, hl with | [_, _, _, _, _], _ => rfl), F.ok sc_CounterNet___init__ (fun vs H Q E h => ?_) (fun cdv A outer s H vs Q E hr h => ?_)⟩
  · obtain ⟨_, _, _, _, _, _, _, _, _, rfl, _⟩ := h
    rfl
  · obtain ⟨a, x, la, lb, dx, n, S, m, p, rfl, ha, W, hm, h1, h2, hla, hlb, k⟩ := h
    have c := T.c_CounterNet
    have n12 := W.good.n12
    have t20 := W.good.t20
    refine ⟨_, PSs.nox (pss_cons (ps_fld (pv 0) (pv 1) rfl) (pss_cons (ps_fld (pv 0) (pe_d0 D_check_modulus hr (pa_cons (pv 2) pa_nil)) rfl) (pss_cons (ps_fld (pv 0) (pe_d0 D_check_numbers hr (pa_cons (pv 3) (pa_cons (bpe_fld (K := K) rfl (pv 1) rfl) (pa_cons (pv 2) pa_nil)))) rfl) (pss_one (ps_fld (pv 0) (pe_d0 D_check_numbers hr (pa_cons (pv 4) (pa_cons (pe_callB (bc_len (K := K) rfl) (by rfl) T.f_len bt_len (pa_cons (bpe_fld (K := K) rfl (pv 1) rfl) pa_nil)) (pa_cons (pv 2) pa_nil)))) rfl))))), ?_⟩
    have hcm : ∀ v : Int, 0 ≤ v ∧ v ≤ 9 → cM m v = v := fun v hv => by
      unfold cM
      rcases hm with rfl | rfl
      · exact if_neg (by omega)
      · rw [if_pos (by omega)]
        exact Int.emod_eq_of_lt hv.1 (by omega)
    have lne : ∀ b xs, H b = some (.lst xs) → b ≠ a := fun b xs hb z => by
      rw [z, ha] at hb
      cases hb
    refine q_fld (ev_var rfl) (ev_var rfl) ha c T.n_CounterNet_web (by decide) fun H1 e1 => ?_
    have b1 : ExB a H (upd H1 a (.ins (He.ga K "CounterNet") dx (putF "web" (.ref x) []))) := (ExB.of e1).upd
    refine q_fld (SpV.call (ea_cons (ev_var rfl) ea_nil) (sv_check_mod hm)) (ev_var rfl) upd_same c T.n_CounterNet_modulus (by show 1 < 1000; decide) fun H2 e2 => ?_
    have b2 := (b1.trans (ExB.of e2)).upd (o := .ins (He.ga K "CounterNet") dx (putF "modulus" (.int m) (putF "web" (.ref x) [])))
    have W2 := b2.web W ha rfl
    obtain ⟨dx2, tt, rs, hx, ht⟩ := W2.ex
    refine q_fldW (xs := ((List.range n).map fun i => cM m (p.1 i)).map V.int) (EvU.w (SpU.call (ea_cons (ev_var rfl) (ea_cons (ev_houses T (ev_var rfl) hx) (ea_cons (ev_var rfl) ea_nil))) (su_check_numbers (by rw [List.length_map, List.length_range]) (by rw [← hV_ints]; exact b2 _ _ (lne _ _ hla) hla) (by rw [List.length_map, List.length_range]; omega) hm fun v hv => ?_))) (ev_var rfl) upd_same c T.n_CounterNet_states (by show 2 < 1000; decide) fun sa H3 e3 hsa => ?_
    · obtain ⟨i, hi, rfl⟩ := List.mem_map.mp hv
      rw [hcm _ (h1 i (List.mem_range.mp hi))]
      exact h1 i (List.mem_range.mp hi)
    have b3 := (b2.trans (ExB.of e3)).upd (o := .ins (He.ga K "CounterNet") dx (putF "states" (.ref sa) (putF "modulus" (.int m) (putF "web" (.ref x) []))))
    have W3 := b3.web W ha rfl
    obtain ⟨dx3, tt, rs, hx, ht⟩ := W3.ex
    have hl : (rs.map V.ref).length = S.length := by rw [List.length_map, ht.len]
    have ha3 := e3 _ _ upd_same
    have sne : sa ≠ a := tup_ne ha3 hsa
    refine s_fldW (xs := ((List.range S.length).map fun i => cM m (p.2 i)).map V.int) (EvU.w (SpU.call (ea_cons (ev_var rfl) (ea_cons (ev_lenA (ev_ties T (ev_var rfl) hx) (.inr (st_of ht.at_))) (ea_cons (ev_var rfl) ea_nil))) (su_check_numbers (by simp only [List.length_map, List.length_range, ht.len]) (by rw [← hV_ints]; exact b3 _ _ (lne _ _ hlb) hlb) (by rw [List.length_map, List.length_range]; omega) hm fun v hv => ?_))) (ev_var rfl) upd_same c T.n_CounterNet_archives (by show 3 < 1000; decide) fun aa H4 e4 haa => ?_
    · obtain ⟨i, hi, rfl⟩ := List.mem_map.mp hv
      rw [hcm _ (h2 i (List.mem_range.mp hi))]
      exact h2 i (List.mem_range.mp hi)
    have ha4 := e4 _ _ upd_same
    refine k _ (b3.trans (ExB.of e4)).upd ⟨dx, sa, aa, upd_same, ?_, ?_⟩
    · rw [upd_ne sne, hV_ints]
      refine e4 _ _ ?_
      rw [upd_ne sne]
      exact hsa
    · rw [upd_ne (tup_ne ha4 haa), hV_ints]
      exact haa
theorem set_mid {α : Type} {xs : List α} {t : Nat} {v : α} (h : t < xs.length) : xs.take t ++ [v] ++ xs.drop (t + 1) = xs.set t v := by
  rw [List.set_eq_take_append_cons_drop, if_pos h, List.append_assoc]
  rfl
theorem sc_CounterNet_meet : FnScope ["self", "tie", "one", "other", "state", "house", "old"] ["self", "tie"] (defScope (inClass (top 34) 2)) := ⟨rfl, rfl, rfl, by decide +kernel, rfl, by decide +kernel, by decide +kernel⟩
theorem k_Net_meet (T : Txt K mg base) : Mf P w K mg base 5 (He.ma K (He.ga K "CounterNet") "meet") ["self", "tie"] (spMeet K) := by
  obtain ⟨fd, F⟩ := T.d_CounterNet_meet
  have D_need_tie := k_need_tie (P := P) (w := w) T
  have D_counted_as := (k_counted_as (P := P) (w := w) T).mono (show 1 ≤ 4 by decide)
  refine ⟨fd, F.bindsN (fun _ _ _ _ _ _ us hl => match us, hl with | [_, _], _ => rfl), F.ok sc_CounterNet_meet (fun vs H Q E h => ?_) (fun cdv A outer s H vs Q E hr h => ?_)⟩
  · obtain ⟨_, _, _, _, _, _, _, rfl, _⟩ := h
    rfl
  · obtain ⟨a, x, n, S, m, p, t, rfl, W, N, htl, k⟩ := h
    have c := T.c_CounterNet
    have n12 := W.good.n12
    have t20 := W.good.t20
    obtain ⟨dx, sa, aa, ha, hsa, haa⟩ := N.ex
    obtain ⟨dx2, tt, rs, hx, ht⟩ := W.ex
    refine ⟨_, PSs.nox (pss_cons (ps_asg (pe_ix (bix_tup (K := K) rfl) (bpe_fld (K := K) rfl (bpe_fld (K := K) rfl (pv 0) rfl) rfl) (pe_d0 D_need_tie hr (pa_cons (bpe_fld (K := K) rfl (pv 0) rfl) (pa_cons (pv 1) pa_nil))) (fun _ _ => rfl)) (pg_tup rfl (pgs_cons (pg_name (i := 2) sc_CounterNet_meet.nd rfl (Or.inr rfl)) (pgs_cons (pg_name (i := 3) sc_CounterNet_meet.nd rfl (Or.inr rfl)) pgs_nil)))) (pss_cons (ps_set (i := 4) sc_CounterNet_meet.nd rfl (Or.inr rfl) (pe_d0 D_counted_as hr (pa_cons (pe_op op_sub (pe_op op_add (pe_ix (bix_tup (K := K) rfl) (bpe_fld (K := K) rfl (pv 0) rfl) (pv 2) (fun _ _ => rfl)) (pe_ix (bix_tup (K := K) rfl) (bpe_fld (K := K) rfl (pv 0) rfl) (pv 3) (fun _ _ => rfl))) (pe_ix (bix_tup (K := K) rfl) (bpe_fld (K := K) rfl (pv 0) rfl) (pv 1) (fun _ _ => rfl))) (pa_cons (bpe_fld (K := K) rfl (pv 0) rfl) pa_nil)))) (pss_cons (ps_fld (pv 0) (pe_callTy (bc_tup (K := K) rfl) (by rfl) T.f_tuple bt_tuple (pa_cons (pe_lc (own := [("house", 5), ("old", 6)]) (g := (gTup K 2 (gCons (gName 5) (gCons (gName 6) gNil)))) rfl sc_CounterNet_meet.nd (pi_enumT (by rfl) T.f_enumerate (pa_cons (bpe_fld (K := K) rfl (pv 0) rfl) pa_nil)) (blkOk_by (N := ["self", "tie", "one", "other", "state", "house", "old"]) (sc := defScope (inClass (top 34) 2)) (by decide +kernel)) (fun _ _ _ _ _ => (pg_tup rfl (pgs_cons (pg_name (i := 5) sc_CounterNet_meet.nd rfl (Or.inl rfl)) (pgs_cons (pg_name (i := 6) sc_CounterNet_meet.nd rfl (Or.inl rfl)) pgs_nil)))) (fun _ _ _ _ _ => pts_nil) (fun _ _ _ _ _ => (pe_ifExp (pt_cmpR (bin_seq (K := K) rfl) (pv 5) (pe_tup (pa_cons (pv 2) (pa_cons (pv 3) pa_nil))) (by with_unfolding_all rfl)) (pv 4) (pv 6)))) pa_nil)) rfl) (pss_cons (ps_fld (pv 0) (pe_op (bcat (K := K) rfl) (pe_op (bcat (K := K) rfl) (pe_slice (bsl_tup (K := K) rfl) (bpe_fld (K := K) rfl (pv 0) rfl) po_none (po_some (pv 1))) (pe_tup (pa_cons (pv 4) pa_nil))) (pe_slice (bsl_tup (K := K) rfl) (bpe_fld (K := K) rfl (pv 0) rfl) (po_some (pe_op op_add (pv 1) pe_int)) po_none)) rfl) (pss_one (ps_ret (pv 4))))))), ?_⟩
    obtain ⟨r, hr1, hp⟩ := ht.get (ins_get htl)
    obtain ⟨g1, g2, g3⟩ := W.good.get (ins_get htl)
    have fw : ∀ {σ : L2.St} {H' : Hp} {te : TE}, Ex H H' → Ev te σ H' (.ref a) → Ev (tFld K te "web") σ H' (.ref x) := fun e h => ev_fld h (e _ _ ha) c T.n_CounterNet_web rfl
    refine q_two (T := r) (ev_ixT (i := t) (ev_ties T (fw (Ex.refl H) (ev_var rfl)) hx) (SpV.call (ea_cons (fw (Ex.refl H) (ev_var rfl)) (ea_cons (ev_var rfl) ea_nil)) (sv_need_tie W htl)) (st_of ht.at_) hr1) (st_of hp) fun H1 e1 => ?_
    have fs : ∀ {σ : L2.St} {H' : Hp} {te : TE}, Ex H H' → Ev te σ H' (.ref a) → Ev (tFld K te "states") σ H' (.ref sa) := fun e h => ev_fld h (e _ _ ha) c T.n_CounterNet_states rfl
    refine q_asg (v := .int (cM m (met S p t))) (ev_is (SpV.call (ea_cons (ev_op (ev_op (ev_ixT (i := (ins S t).1) (fs e1 (ev_var rfl)) (ev_var rfl) (st_of (e1 _ _ hsa)) (hV_get g1)) (ev_ixT (i := (ins S t).2) (fs e1 (ev_var rfl)) (ev_var rfl) (st_of (e1 _ _ hsa)) (hV_get g2)) rv_I0) (ev_ixT (i := t) (ev_fld (ev_var rfl) (e1 _ _ ha) c T.n_CounterNet_archives rfl) (ev_var rfl) (st_of (e1 _ _ haa)) (hV_get htl)) rv_I0) (ea_cons (ev_fld (ev_var rfl) (e1 _ _ ha) c T.n_CounterNet_modulus rfl) ea_nil)) sv_counted_as) ?_) fun H2 e2 => ?_
    · rw [cM_add]
      rfl
    have e12 := e1.trans e2
    have hst : hV n m (meetN S p t).1 = (List.range n).map fun i => V.int (if i = (ins S t).1 ∨ i = (ins S t).2 then cM m (met S p t) else cM m (p.1 i)) := by
      unfold hV
      refine List.map_congr_left fun i _ => ?_
      show V.int (cM m (if i = (ins S t).1 ∨ i = (ins S t).2 then met S p t else p.1 i)) = _
      split <;> rfl
    refine q_fldW (xs := hV n m (meetN S p t).1) ?_ (ev_var rfl) (e12 _ _ ha) c T.n_CounterNet_states (by show 4 < 1000; decide) fun sa' H3 e3 hsa' => ?_
    · refine EvU.w (eu_tupN ?_)
      have := el_lcW (vs := [5, 6]) (tt := tYes) (te := tIf (tTest (tOp (rIn K false) (tVar 5) (tTup (tCons (tVar 2) (tCons (tVar 3) tNil))))) (tVar 4) (tVar 6)) (g := gTup K 2 (gCons (gName 5) (gCons (gName 6) gNil)))
        (src_enum (K := K) (H0 := H2) (H := H2) (σ := [some (V.ref a), some (.int (t : Int)), some (.int ((ins S t).1 : Int)), some (.int ((ins S t).2 : Int)), some (.int (cM m (met S p t))), none, none]) (ea_cons (fs e12 (ev_var (i := 0) rfl)) ea_nil) (Ex.refl H2) (.inr (st_of (e12 _ _ hsa)))) (by rw [hV_len]; omega)
        (fun _ => true) (fun i => .int (if i = (ins S t).1 ∨ i = (ins S t).2 then cM m (met S p t) else cM m (p.1 i))) fun i y H3 e3 hi hy Q q => by
          obtain ⟨U, z, rfl, hU, hz⟩ := hy
          rw [hV_len] at hi
          rw [hV_get hi] at hz
          cases hz
          refine g_pair hU (q _ rfl (fun H4 e4 Q3 q3 => q3 H4 (Ex.refl _)) fun _ => ?_)
          refine ev_if (b := decide (i = (ins S t).1 ∨ i = (ins S t).2)) (et_is (et_test (ev_inU (ev_var rfl) (eu_tup (ea_cons (ev_var rfl) (ea_cons (ev_var rfl) ea_nil)) (by show 2 ≤ 100000; decide)) rfl rfl)) ?_) (fun z => ?_) (fun z => ?_)
          · have := inV_nat i [(ins S t).1, (ins S t).2]
            unfold natV at this
            rw [show [V.int ((ins S t).1 : Int), V.int ((ins S t).2 : Int)] = List.map (fun (i : Nat) => V.int (i : Int)) [(ins S t).1, (ins S t).2] from rfl, this, decide_eq_decide, List.mem_cons, List.mem_singleton]
          · rw [if_pos (of_decide_eq_true z)]
            exact ev_var rfl
          · rw [if_neg (of_decide_eq_false z)]
            exact ev_var rfl
      rw [given_all, hV_len] at this
      rw [hst]
      exact this
    have ha3 := (e12.trans e3) _ _ ha
    have b3 := (ExB.of (a := a) (e12.trans e3)).upd (o := .ins (He.ga K "CounterNet") dx (putF "states" (.ref sa') [("web", .ref x), ("modulus", .int m), ("states", .ref sa), ("archives", .ref aa)]))
    have haa3 := b3 _ _ (tup_ne ha haa) haa
    have hat : hV S.length m (meetN S p t).2 = (hV S.length m p.2).take t ++ [V.int (cM m (met S p t))] ++ (hV S.length m p.2).drop (t + 1) := by
      rw [set_mid (by rw [hV_len]; exact htl)]
      apply List.ext_getElem?
      intro i
      by_cases hi : i < S.length
      · rw [hV_get hi, List.getElem?_set, hV_len, hV_get hi]
        show some (V.int (cM m (if i = t then met S p t else p.2 i))) = _
        by_cases e : t = i
        · subst e
          rw [if_pos rfl, if_pos rfl, if_pos hi]
        · rw [if_neg e, if_neg (fun z => e z.symm)]
      · rw [List.getElem?_eq_none (by rw [hV_len]; omega), List.getElem?_eq_none (by rw [List.length_set, hV_len]; omega)]
    have fa : ∀ {H' : Hp}, Ex (upd H3 a (.ins (He.ga K "CounterNet") dx (putF "states" (.ref sa') [("web", .ref x), ("modulus", .int m), ("states", .ref sa), ("archives", .ref aa)]))) H' → Ev (tFld K (tVar 0) "archives") [some (V.ref a), some (.int (t : Int)), some (.int ((ins S t).1 : Int)), some (.int ((ins S t).2 : Int)), some (.int (cM m (met S p t))), none, none] H' (.ref aa) := fun e => ev_fld (ev_var rfl) (e _ _ upd_same) c T.n_CounterNet_archives rfl
    refine q_fldW (xs := hV S.length m (meetN S p t).2) ?_ (ev_var rfl) upd_same c T.n_CounterNet_archives (by show 4 < 1000; decide) fun aa' H4 e4 haa' => ?_
    · rw [hat, ← cut_take (by rw [hV_len]; omega), ← cut_drop (by rw [hV_len]; omega)]
      refine ew_cat (ew_cat (ew_sl (ew_of (fa (Ex.refl _)) haa3) eo_none (eo_some (ev_var rfl))) (EvU.w (eu_tup (ea_cons (ev_var rfl) ea_nil) (by show 1 ≤ 100000; decide))) ?_) (ew_sl (ew_of (fa (Ex.refl _)) haa3) (eo_some (ev_is (ev_op (ev_var rfl) ev_c rv_I0) (by congr 1))) eo_none) ?_
      · have := cutV_length (hV S.length m p.2) none (some (t : Int))
        rw [hV_len] at this
        show _ + 1 ≤ _
        omega
      · have h1 := cutV_length (hV S.length m p.2) none (some (t : Int))
        have h2 := cutV_length (hV S.length m p.2) (some ((t + 1 : Nat) : Int)) none
        rw [hV_len] at h1 h2
        rw [List.length_append, List.length_singleton]
        omega
    have ha4 := e4 _ _ upd_same
    have sne : sa' ≠ a := tup_ne ha3 hsa'
    refine s_ret (ev_var rfl) fun H5 e5 => k _ _ ((b3.trans (ExB.of e4)).upd.trans (ExB.of e5)) ⟨dx, sa', aa', e5 _ _ upd_same, e5 _ _ ?_, e5 _ _ ?_⟩
    · rw [upd_ne sne]
      refine e4 _ _ ?_
      rw [upd_ne sne]
      exact hsa'
    · rw [upd_ne (tup_ne ha4 haa')]
      exact haa'
theorem sc_is_rest : FnScope ["net", "states", "one", "other", "archive"] ["net"] (defScope (top 36)) := ⟨rfl, rfl, rfl, by decide +kernel, rfl, by decide +kernel, by decide +kernel⟩
theorem k_is_rest (T : Txt K mg base) : Df P w K mg base 1 "is_rest" ["net"] (spIsRest K) := by
  obtain ⟨fd, F⟩ := T.d_is_rest
  refine Df.mk1 (i := 36) T.g_is_rest F (fun _ _ _ _ _ _ us hl => match us, hl with | [_], _ => rfl) (F.ok sc_is_rest (fun vs H Q E h => ?_) (fun cdv A outer s H vs Q E hr h => ?_))
  · obtain ⟨_, _, _, _, _, _, rfl, _⟩ := h
    rfl
  · obtain ⟨a, x, n, S, m, p, rfl, W, N, st, k⟩ := h
    have c := T.c_CounterNet
    have t20 := W.good.t20
    obtain ⟨dx, sa, aa, ha, hsa, haa⟩ := N.ex
    obtain ⟨dx2, tt, rs, hx, ht⟩ := W.ex
    have hl : (rs.map V.ref).length = S.length := by rw [List.length_map, ht.len]
    refine ⟨_, PSs.nox (pss_cons (ps_set (i := 1) sc_is_rest.nd rfl (Or.inr rfl) (bpe_fld (K := K) rfl (pv 0) rfl)) (pss_one (ps_ret (pe_callB (bc_all (K := K) rfl rfl) (by rfl) T.f_all bt_all (pa_cons (pe_lc (own := [("one", 2), ("other", 3), ("archive", 4)]) (g := (gTup K 2 (gCons (gTup K 2 (gCons (gName 2) (gCons (gName 3) gNil))) (gCons (gName 4) gNil)))) rfl sc_is_rest.nd (RZ.pi_zipA (by rfl) T.f_zip (pa_cons (bpe_fld (K := K) rfl (bpe_fld (K := K) rfl (pv 0) rfl) rfl) (pa_cons (bpe_fld (K := K) rfl (pv 0) rfl) pa_nil))) (blkOk_by (N := ["net", "states", "one", "other", "archive"]) (sc := defScope (top 36)) (by decide +kernel)) (fun _ _ _ _ _ => (pg_tup rfl (pgs_cons (pg_tup rfl (pgs_cons (pg_name (i := 2) sc_is_rest.nd rfl (Or.inl rfl)) (pgs_cons (pg_name (i := 3) sc_is_rest.nd rfl (Or.inl rfl)) pgs_nil))) (pgs_cons (pg_name (i := 4) sc_is_rest.nd rfl (Or.inl rfl)) pgs_nil)))) (fun _ _ _ _ _ => pts_nil) (fun _ _ _ _ _ => (pe_chain op_eq op_eq (pe_ix (bix_tup (K := K) rfl) (pv 1) (pv 2) (fun _ _ => rfl)) (pe_ix (bix_tup (K := K) rfl) (pv 1) (pv 3) (fun _ _ => rfl)) (pv 4)))) pa_nil))))), ?_⟩
    refine q_asg (ev_fld (ev_var rfl) ha c T.n_CounterNet_states rfl) fun H1 e1 => ?_
    refine s_ret (v := .bl true) (ev_is (ev_all (bs := (List.range S.length).map fun _ => true) ?_) ?_) fun H2 e2 => k H2 (e1.trans e2)
    · have := el_lcW (vs := [2, 3, 4]) (tt := tYes) (te := tChain rEq rEq (tOp (rIxT K) (tVar 1) (tVar 2)) (tOp (rIxT K) (tVar 1) (tVar 3)) (tVar 4)) (g := gTup K 2 (gCons (gTup K 2 (gCons (gName 2) (gCons (gName 3) gNil))) (gCons (gName 4) gNil)))
        (src_zip (K := K) (H0 := H1) (H := H1) (σ := [some (V.ref a), some (.ref sa), none, none, none]) (ea_cons (ev_ties T (ev_fld (ev_var (i := 0) rfl) (e1 _ _ ha) c T.n_CounterNet_web rfl) (e1 _ _ hx)) (ea_cons (ev_fld (ev_var (i := 0) rfl) (e1 _ _ ha) c T.n_CounterNet_archives rfl) ea_nil)) (Ex.refl H1) (st_of (e1 _ _ ht.at_)) (st_of (e1 _ _ haa))) (by rw [hV_len, hl]; omega)
        (fun _ => true) (fun i => .bl true) fun i y H2 e2 hi hy Q q => by
          obtain ⟨U, z1, z2, rfl, hU, hz1, hz2⟩ := hy
          rw [hV_len, hl, Nat.min_self] at hi
          rw [hV_get hi] at hz2
          cases hz2
          obtain ⟨r, pp, rfl, hp, hpa⟩ := ht.back hz1
          obtain ⟨g1, g2, g3⟩ := W.good.get hp
          have s2 := st_of (K := K) (e2 _ _ (e1 _ _ hsa))
          obtain ⟨s3, s4⟩ := st i hi
          rw [get_ins hp] at s3 s4
          refine g_p1 hU (st_of (e2 _ _ (e1 _ _ hpa))) (q _ rfl (fun H4 e4 Q3 q3 => q3 H4 (Ex.refl _)) fun _ => ?_)
          refine ev_is (ev_chain (ev_ixT (i := pp.1) (ev_var rfl) (ev_var rfl) s2 (hV_get g1)) (ev_ixT (i := pp.2) (ev_var rfl) (ev_var rfl) s2 (hV_get g2)) (ev_var rfl) (rv_eq rfl) (rv_eq rfl)) ?_
          rw [s3, s4, decide_eq_true rfl]
          rfl
      rw [given_all, hV_len, hl, Nat.min_self] at this
      rw [List.map_map]
      exact this
    · rw [List.all_map]
      have : ((List.range S.length).all (id ∘ fun _ => true)) = true := List.all_eq_true.mpr fun _ _ => rfl
      rw [this]
end
end K30
namespace K30
open PySem PySem.Spec PyProof.Rows L2 Evl K30M
/-! ### boxes -/
def BoxAt (H : Hp) (b : Addr) : Prop := ∃ g r : Int, H b = some (.lst [.int g, .int r]) ∧ 0 ≤ g ∧ 1 ≤ r ∧ r ≤ 2147483587
theorem BoxAt.ex {H H' : Hp} {b : Addr} (h : BoxAt H b) (e : Ex H H') : BoxAt H' b := by
  obtain ⟨g, r, h1, h2⟩ := h
  exact ⟨g, r, e _ _ h1, h2⟩
def spBox (K : PySem.W.Frag) : Sp := fun vs H Q _ => ∃ (s : Addr) (ns : List Int) (k : Nat), vs = [.ref s, .int (k : Int)] ∧ SqL K H s (ns.map V.int) ∧ ns.length ≤ 1000 ∧ k ≤ 1000 ∧ ∀ p H2, H p = none → Ex H H2 → BoxAt H2 p → Q (.ref p) H2
def spTake : Sp := fun vs H Q _ => ∃ (b : Addr) (m : Nat), vs = [.ref b, .int (m : Int)] ∧ BoxAt H b ∧ 1 ≤ m ∧ m ≤ 1000 ∧ ∀ (v : Nat) H2, v < m → ExB b H H2 → BoxAt H2 b → Q (.int (v : Int)) H2
def spPick : Sp := fun vs H Q _ => ∃ (b l : Addr) (xs : List V), vs = [.ref b, .ref l] ∧ BoxAt H b ∧ H l = some (.lst xs) ∧ l ≠ b ∧ 1 ≤ xs.length ∧ xs.length ≤ 1000 ∧ ∀ (i : Nat) x H2, xs[i]? = some x → ExB b H H2 → BoxAt H2 b → Q x H2
def spMixed : Sp := fun vs H Q _ => ∃ (b l : Addr) (xs : List V), vs = [.ref b, .ref l] ∧ BoxAt H b ∧ H l = some (.lst xs) ∧ xs.length ≤ 1000 ∧ ∀ p ys H2, ys.Perm xs → H p = none → ExB b H H2 → BoxAt H2 b → H2 p = some (.lst ys) → Q (.ref p) H2
theorem log_lt {m : Nat} (h : m ≤ 8999) : ((m : Int)).natAbs.log2 < 9000 := by
  have := Nat.log2_le_self m
  show m.log2 < 9000
  omega
theorem ev_int1 {σ : L2.St} {H : Hp} {te : TE} {i : Int} (h : Ev te σ H (.int i)) : Ev (tCB (fun xs H Q => (∃ i, xs = [.int i] ∧ Q (.int i) H) ∨ ∃ k, xs = [.bl k] ∧ Q (.int (if k then 1 else 0)) H) (tCons te tNil)) σ H (.int i) := fun H1 e1 Q q =>
  h H1 e1 _ fun H2 e2 => .inl ⟨i, rfl, q H2 e2⟩
theorem ev_abs1 {σ : L2.St} {H : Hp} {te : TE} {i : Int} (h : Ev te σ H (.int i)) : Ev (tCB (fun xs H Q => ∃ i, xs = [.int i] ∧ Q (.int (if i < 0 then -i else i)) H) (tCons te tNil)) σ H (.int (if i < 0 then -i else i)) := fun H1 e1 Q q =>
  h H1 e1 _ fun H2 e2 => ⟨i, rfl, q H2 e2⟩
theorem abs_nn (i : Int) : 0 ≤ (if i < 0 then -i else i) := by split <;> omega
theorem small_mul {i j : Int} (h : 0 ≤ i ∧ i < 2 ^ 64) : CMul i j := .inl ⟨by omega, h.2⟩
section
variable {P : Program} {w : World} {K : PySem.W.Frag} {mg : Str → Option Value} {base : Heap}
theorem sc__law_box : FnScope ["_law_script", "_law_k", "_law_cell", "_law_great"] ["_law_script", "_law_k"] (defScope (top 44)) := ⟨rfl, rfl, rfl, by decide +kernel, rfl, by decide +kernel, by decide +kernel⟩
theorem k_box (T : Txt K mg base) : Df P w K mg base 1 "_law_box" ["_law_script", "_law_k"] (spBox K) := by
  obtain ⟨fd, F⟩ := T.d__law_box
  refine Df.mk1 (i := 44) T.g__law_box F (fun _ _ _ _ _ _ us hl => match us, hl with | [_, _], _ => rfl) (F.ok sc__law_box (fun vs H Q E h => ?_) (fun cdv A outer s H vs Q E hr h => ?_))
  · obtain ⟨_, _, _, rfl, _⟩ := h
    rfl
  · obtain ⟨sa, ns, kk, rfl, hs, hl, hk, k⟩ := h
    refine ⟨_, PSs.nox (pss_cons (ps_set (i := 2) sc__law_box.nd rfl (Or.inl rfl) (pe_op op_add (pe_op op_mul pe_int (pv 1)) pe_int)) (pss_cons (ps_if (pt_cmpR op_lt (pv 1) (pe_callB (bc_len (K := K) rfl) (by rfl) T.f_len bt_len (pa_cons (pv 0) pa_nil)) (nomark _)) (pss_one (ps_set (i := 2) sc__law_box.nd rfl (Or.inl rfl) (pe_callB call_abs (by rfl) T.f_abs bt_abs (pa_cons (pe_callTy call_int1 (by rfl) T.f_int bt_int (pa_cons (pe_ix (bix_list (K := K) rfl) (pv 0) (pv 1) (fun _ _ => rfl)) pa_nil)) pa_nil)))) (pss_one (ps_if (pt_cmpR op_gt (pe_callB (bc_len (K := K) rfl) (by rfl) T.f_len bt_len (pa_cons (pv 0) pa_nil)) pe_int (nomark _)) (pss_one (ps_set (i := 2) sc__law_box.nd rfl (Or.inl rfl) (pe_op op_add (pv 2) (pe_op op_mul (pe_op op_mod (pe_callTy call_int1 (by rfl) T.f_int bt_int (pa_cons (pe_callB call_abs (by rfl) T.f_abs bt_abs (pa_cons (pe_callTy call_int1 (by rfl) T.f_int bt_int (pa_cons (pe_ix (bix_list (K := K) rfl) (pv 0) (pe_op op_mod (pe_callTy call_int1 (by rfl) T.f_int bt_int (pa_cons (pv 1) pa_nil)) (pe_callB (bc_len (K := K) rfl) (by rfl) T.f_len bt_len (pa_cons (pv 0) pa_nil))) (fun _ _ => rfl)) pa_nil)) pa_nil)) pa_nil)) pe_int) pe_int)))) pss_nil))) (pss_cons (ps_set (i := 3) sc__law_box.nd rfl (Or.inl rfl) (pe_ifExp (pt_cmpR op_ge (pv 2) (pe_op op_pow pe_int pe_int) (nomark _)) (pv 2) pe_int)) (pss_one (ps_ret (pe_lst (pa_cons (pv 3) (pa_cons (pe_op op_add (pe_op op_mod (pe_callTy call_int1 (by rfl) T.f_int bt_int (pa_cons (pe_op op_add (pe_op op_mul (pe_op op_mod (pe_callTy call_int1 (by rfl) T.f_int bt_int (pa_cons (pv 2) pa_nil)) pe_int) pe_int) (pe_op op_mul pe_int (pv 1))) pa_nil)) pe_int) pe_int) pa_nil)))))))), ?_⟩
    refine q_asg (v := .int (9091 * (kk : Int) + 227)) (ev_op (ev_op ev_c (ev_var rfl) (rv_I (small_mul (by omega)))) ev_c rv_I0) fun H1 e1 => ?_
    have len : ∀ {σ H'} (_ : Ex H H') (_ : σ[0]? = some (some (V.ref sa))), Ev (tCB (rLenS K) (tCons (tVar 0) tNil)) σ H' (.int (ns.length : Int)) := fun e h => ev_is (ev_len (ev_var h) (ex_l e hs)) (by rw [List.length_map])
    have fin : ∀ (c : Int) H', 0 ≤ c → Ex H H' → ∀ {tz : TS} {D : Ends}, (∀ g r H2, 0 ≤ g → 1 ≤ r → r ≤ 2147483587 → Ex H H2 → tz D [some (.ref sa), some (.int (kk : Int)), some (.int c), some (.int g)] H2) → True := fun _ _ _ _ _ _ _ => trivial
    have m1 : ∀ x : Int, 0 ≤ x % 2147483587 ∧ x % 2147483587 < 2147483587 := fun x => ⟨Int.emod_nonneg _ (by omega), Int.emod_lt_of_pos _ (by omega)⟩
    have main : ∀ (c : Int) H', 0 ≤ c → Ex H H' → tSeq (tAsg (tIf (tTest (tOp (rI0 fun i j => V.bl (decide (i ≥ j))) (tVar 2) (tOp (rI CPow fun i j => V.int (i ^ j.toNat)) (tC (.int 10)) (tC (.int 18))))) (tVar 2) (tC (.int 0))) (gName 3)) (tRet (tLst (tCons (tVar 3) (tCons (tOp (rI0 fun i j => V.int (i + j)) (tOp (rI (fun _ j => 0 < j) fun i j => V.int (i % j)) (tCB (fun xs H Q => (∃ i, xs = [.int i] ∧ Q (.int i) H) ∨ ∃ k, xs = [.bl k] ∧ Q (.int (if k then 1 else 0)) H) (tCons (tOp (rI0 fun i j => V.int (i + j)) (tOp (rI CMul fun i j => V.int (i * j)) (tOp (rI (fun _ j => 0 < j) fun i j => V.int (i % j)) (tCB (fun xs H Q => (∃ i, xs = [.int i] ∧ Q (.int i) H) ∨ ∃ k, xs = [.bl k] ∧ Q (.int (if k then 1 else 0)) H) (tCons (tVar 2) tNil)) (tC (.int 2147483587))) (tC (.int 69697))) (tOp (rI CMul fun i j => V.int (i * j)) (tC (.int 227)) (tVar 1))) tNil)) (tC (.int 2147483587))) (tC (.int 1))) tNil)))) { nx := fun x H' => Q V.non H', rt := Q } [some (.ref sa), some (.int (kk : Int)), some (.int c), none] H' := by
      intro c H' hc ex
      refine q_asg (v := .int (if c ≥ 1000000000000000000 then c else 0)) ?_ fun H2 e2 => ?_
      · refine ev_if (b := decide (c ≥ 1000000000000000000)) (et_test (ev_op (ev_var rfl) (ev_op ev_c ev_c (rv_I ⟨by omega, by omega, by decide⟩)) rv_I0)) (fun z => ?_) (fun z => ?_)
        · rw [if_pos (of_decide_eq_true z)]
          exact ev_var rfl
        · rw [if_neg (of_decide_eq_false z)]
          exact ev_c
      · refine s_retL (el_lst (ea_cons (ev_var rfl) (ea_cons (ev_op (ev_op (ev_int1 (ev_op (ev_op (ev_op (ev_int1 (ev_var rfl)) ev_c (rv_I (by omega))) ev_c (rv_I (small_mul (by have := m1 c; omega)))) (ev_op ev_c (ev_var rfl) (rv_I (small_mul (by omega)))) rv_I0)) ev_c (rv_I (by omega))) ev_c rv_I0) ea_nil)) (by show 2 ≤ 100000; decide)) fun p H3 hp e3 h3 => k p H3 (fresh_back (ex.trans e2) hp) (ex.trans (e2.trans e3)) ⟨_, _, h3, ?_, ?_, ?_⟩
        · split <;> omega
        · have := m1 (c % 2147483587 * 69697 + 227 * (kk : Int))
          omega
        · have := m1 (c % 2147483587 * 69697 + 227 * (kk : Int))
          omega
    refine q_if (b := decide ((kk : Int) < (ns.length : Int))) (et_test (ev_op (ev_var rfl) (len e1 rfl) rv_I0)) (fun hb H2 e2 => ?_) (fun hb H2 e2 => ?_)
    · have hlt : kk < ns.length := by have := of_decide_eq_true hb; omega
      have e12 := e1.trans e2
      refine s_asg (ev_abs1 (ev_int1 (ev_ixL (i := kk) (v := .int ns[kk]) (ev_var rfl) (ev_var rfl) (ex_l e12 hs) (by rw [List.getElem?_map, List.getElem?_eq_getElem hlt]; rfl)))) fun H3 e3 => main _ H3 (abs_nn _) (e12.trans e3)
    · refine s_if (b := decide ((ns.length : Int) > 0)) (et_test (ev_op (len (e1.trans e2) rfl) ev_c rv_I0)) (fun hb H3 e3 => ?_) (fun hb H3 e3 => ?_)
      · have hpos : 0 < ns.length := by have := of_decide_eq_true hb; omega
        have e13 := (e1.trans e2).trans e3
        have hmod : ((kk : Int) % (ns.length : Int)) = ((kk % ns.length : Nat) : Int) := (Int.natCast_emod kk ns.length).symm
        have hi : kk % ns.length < ns.length := Nat.mod_lt _ hpos
        refine s_asg (ev_op (ev_var rfl) (ev_op (ev_op (ev_int1 (ev_abs1 (ev_int1 (ev_ixL (i := kk % ns.length) (v := .int ns[kk % ns.length]) (ev_var rfl) (ev_is (ev_op (ev_int1 (ev_var rfl)) (len e13 rfl) (rv_I (by omega))) (by rw [hmod])) (ex_l e13 hs) (by rw [List.getElem?_map, List.getElem?_eq_getElem hi]; rfl))))) ev_c (rv_I (by omega))) ev_c (rv_I (small_mul (by have := m1 (if ns[kk % ns.length] < 0 then -ns[kk % ns.length] else ns[kk % ns.length]); omega)))) rv_I0) fun H4 e4 => main _ H4 ?_ (e13.trans e4)
        have := m1 (if ns[kk % ns.length] < 0 then -ns[kk % ns.length] else ns[kk % ns.length])
        omega
      · exact main _ H3 (by omega) ((e1.trans e2).trans e3)
theorem sc__law_take : FnScope ["_law_box_here", "_law_many", "_law_digit", "_law_raw"] ["_law_box_here", "_law_many"] (defScope (top 45)) := ⟨rfl, rfl, rfl, by decide +kernel, rfl, by decide +kernel, by decide +kernel⟩
theorem k_take (T : Txt K mg base) : Df P w K mg base 1 "_law_take" ["_law_box_here", "_law_many"] spTake := by
  obtain ⟨fd, F⟩ := T.d__law_take
  refine Df.mk1 (i := 45) T.g__law_take F (fun _ _ _ _ _ _ us hl => match us, hl with | [_, _], _ => rfl) (F.ok sc__law_take (fun vs H Q E h => ?_) (fun cdv A outer s H vs Q E hr h => ?_))
  · obtain ⟨_, _, rfl, _⟩ := h
    rfl
  · obtain ⟨b, m, rfl, ⟨g, r, hb, hg, hr1, hr2⟩, m1, m2, k⟩ := h
    refine ⟨_, PSs.nox (pss_cons (ps_if (pt_cmpR op_gt (pe_ix (bix_list (K := K) rfl) (pv 0) pe_int (fun _ _ => rfl)) pe_int (nomark _)) (pss_cons (ps_set (i := 2) sc__law_take.nd rfl (Or.inl rfl) (pe_op op_mod (pe_callTy call_int1 (by rfl) T.f_int bt_int (pa_cons (pe_ix (bix_list (K := K) rfl) (pv 0) pe_int (fun _ _ => rfl)) pa_nil)) (pv 1))) (pss_cons (ps_asg (pe_op op_fdivW (pe_ix (bix_list (K := K) rfl) (pv 0) pe_int (fun _ _ => rfl)) (pv 1)) (pg_sub (pv 0) pe_int set_list)) (pss_one (ps_ret (pv 2))))) pss_nil) (pss_cons (ps_set (i := 3) sc__law_take.nd rfl (Or.inl rfl) (pe_op op_mod (pe_callTy call_int1 (by rfl) T.f_int bt_int (pa_cons (pe_op op_add (pe_op op_mul (pe_ix (bix_list (K := K) rfl) (pv 0) pe_int (fun _ _ => rfl)) pe_int) pe_int) pa_nil)) pe_int)) (pss_cons (ps_asg (pe_op op_add (pe_op op_mod (pe_callTy call_int1 (by rfl) T.f_int bt_int (pa_cons (pe_op op_add (pe_op op_mul (pv 3) pe_int) pe_int) pa_nil)) pe_int) pe_int) (pg_sub (pv 0) pe_int set_list)) (pss_one (ps_ret (pe_op op_mod (pe_callTy call_int1 (by rfl) T.f_int bt_int (pa_cons (pe_op op_fdivW (pe_op op_add (pe_op op_mul (pv 3) pe_int) (pe_ix (bix_list (K := K) rfl) (pv 0) pe_int (fun _ _ => rfl))) pe_int) pa_nil)) (pv 1))))))), ?_⟩
    have dm : ∀ x : Int, x % (m : Int) = ((x % (m : Int)).toNat : Int) ∧ (x % (m : Int)).toNat < m := fun x => by
      have h0 : 0 ≤ x % (m : Int) := Int.emod_nonneg _ (by omega)
      have h1 : x % (m : Int) < m := Int.emod_lt_of_pos _ (by omega)
      omega
    refine q_when (b := decide (g > 0)) (et_test (ev_op (ev_ixL (i := 0) (ev_var rfl) ev_c (sq_of hb) rfl) ev_c rv_I0)) (fun z H1 e1 => ?_) (fun z H1 e1 => ?_)
    · refine q_asg (v := .int (g % (m : Int))) (ev_op (ev_int1 (ev_ixL (i := 0) (ev_var rfl) ev_c (sq_of (e1 _ _ hb)) rfl)) (ev_var rfl) (rv_I (by omega))) fun H2 e2 => ?_
      have hb2 := e2 _ _ (e1 _ _ hb)
      refine q_setL (j := 0) (v := .int (g / (m : Int))) hb2 (ev_op (ev_ixL (i := 0) (ev_var rfl) ev_c (sq_of hb2) rfl) (ev_var rfl) (rv_I ⟨by omega, log_lt (by omega)⟩)) (ev_var rfl) ev_c (by show 0 < 2; omega) fun H3 e3 => ?_
      refine s_ret (ev_var rfl) fun H4 e4 => ?_
      rw [(dm g).1]
      exact k _ H4 (dm g).2 ((ExB.of ((e1.trans e2).trans e3)).upd.trans (ExB.of e4)) ⟨_, r, e4 _ _ upd_same, Int.ediv_nonneg hg (by omega), hr1, hr2⟩
    · have hb1 := e1 _ _ hb
      refine q_asg (v := .int ((r * 40692 + 83) % 2147483399)) (ev_op (ev_int1 (ev_op (ev_op (ev_ixL (i := 1) (ev_var rfl) ev_c (sq_of hb1) rfl) ev_c (rv_I (small_mul (by omega)))) ev_c rv_I0)) ev_c (rv_I (by omega))) fun H2 e2 => ?_
      have a1 : 0 ≤ (r * 40692 + 83) % 2147483399 := Int.emod_nonneg _ (by omega)
      have a2 : (r * 40692 + 83) % 2147483399 < 2147483399 := Int.emod_lt_of_pos _ (by omega)
      generalize (r * 40692 + 83) % 2147483399 = raw at a1 a2
      refine q_setL (j := 1) (v := .int ((raw * 39373 + 19) % 2147483587 + 1)) (e2 _ _ hb1) (ev_op (ev_op (ev_int1 (ev_op (ev_op (ev_var rfl) ev_c (rv_I (small_mul (by omega)))) ev_c rv_I0)) ev_c (rv_I (by omega))) ev_c rv_I0) (ev_var rfl) ev_c (by show 1 < 2; omega) fun H3 e3 => ?_
      have b1 : 0 ≤ (raw * 39373 + 19) % 2147483587 := Int.emod_nonneg _ (by omega)
      have b2 : (raw * 39373 + 19) % 2147483587 < 2147483587 := Int.emod_lt_of_pos _ (by omega)
      generalize (raw * 39373 + 19) % 2147483587 = nx at b1 b2
      refine s_ret (v := .int (((raw * 2147483629 + (nx + 1)) / 8179) % (m : Int))) (ev_op (ev_int1 (ev_op (ev_op (ev_op (ev_var rfl) ev_c (rv_I (small_mul (by omega)))) (ev_ixL (i := 1) (ev_var rfl) ev_c (sq_of upd_same) rfl) rv_I0) ev_c (rv_I ⟨by omega, log_lt (m := 8179) (by omega)⟩))) (ev_var rfl) (rv_I (by omega))) fun H4 e4 => ?_
      rw [(dm _).1]
      exact k _ H4 (dm _).2 ((ExB.of ((e1.trans e2).trans e3)).upd.trans (ExB.of e4)) ⟨g, nx + 1, e4 _ _ upd_same, hg, by omega, by omega⟩
end
end K30
namespace K30
open PySem PySem.Spec PyProof.Rows L2 Evl K30M
theorem ne_box {H : Hp} {b l : Addr} (hb : BoxAt H b) (hl : H l = none) : l ≠ b := fun z => by
  obtain ⟨g, r, h, _⟩ := hb
  rw [← z, hl] at h
  cases h
theorem perm_move {α : Type} {xs : List α} {i : Nat} {x : α} (h : xs[i]? = some x) (ys : List α) : (ys ++ [x] ++ xs.eraseIdx i).Perm (ys ++ xs) := by
  rw [List.append_assoc]
  exact List.Perm.append_left ys (perm_eraseIdx h).symm
theorem q_par {i j : Nat} {ta : TA} {σ : L2.St} {H : Hp} {tz : TS} {D : Ends} (h : ta σ H fun vs H1 => ∃ v w, vs = [v, w] ∧ tz D ((σ.set i (some v)).set j (some w)) H1) : tSeq (tPar i j ta) tz D σ H := h
theorem ta_cons {ta : TE} {tr : TA} {σ : L2.St} {H : Hp} {Q : List V → Hp → Prop} (h : ta σ H fun x H1 => tr σ H1 fun xs H2 => Q (x :: xs) H2) : tCons ta tr σ H Q := h
def iV (n : Nat) (f : Nat → Int) : List V := (List.range n).map fun i => .int (f i)
theorem iV_get {n i : Nat} {f : Nat → Int} (h : i < n) : (iV n f)[i]? = some (.int (f i)) := by
  unfold iV
  rw [List.getElem?_map, List.getElem?_range h]
  rfl
theorem iV_len (n : Nat) (f : Nat → Int) : (iV n f).length = n := by unfold iV; rw [List.length_map, List.length_range]
theorem iV_set {n i : Nat} {f : Nat → Int} {v : Int} (h : i < n) : (iV n f).set i (.int v) = iV n (fun j => if j = i then v else f j) := by
  apply List.ext_getElem?
  intro j
  by_cases hj : j < n
  · rw [iV_get hj, List.getElem?_set, iV_len, iV_get hj]
    by_cases e : i = j
    · subst e
      rw [if_pos rfl, if_pos hj, if_pos rfl]
    · rw [if_neg e, if_neg (fun z => e z.symm)]
  · rw [List.getElem?_eq_none (by rw [List.length_set, iV_len]; omega), List.getElem?_eq_none (by rw [iV_len]; omega)]
theorem iV_congr {n : Nat} {f g : Nat → Int} (h : ∀ i, i < n → f i = g i) : iV n f = iV n g := by
  unfold iV
  refine List.map_congr_left fun i hi => ?_
  rw [h i (List.mem_range.mp hi)]
def spPower : Sp := fun vs H Q _ => ∃ n : Nat, vs = [.int (n : Int)] ∧ n ≤ 1000 ∧ ∀ H2, Ex H H2 → Q (.int (10 ^ n)) H2
def spStill : Sp := fun vs H Q _ => ∃ (tt sa aa : Addr) (rs : List Addr) (n : Nat) (T : Ties) (p : Held), vs = [.ref tt, .ref sa, .ref aa] ∧ TiesAt H tt rs T ∧ Good n T ∧ H sa = some (.lst (iV n p.1)) ∧ H aa = some (.lst (iV T.length p.2)) ∧ ∀ b H2, (b = true ↔ Still T p) → Ex H H2 → Q (.bl b) H2
def ExC (a c : Addr) (H H' : Hp) : Prop := ∀ b o, b ≠ a → b ≠ c → H b = some o → H' b = some o
def spMet : Sp := fun vs H Q _ => ∃ (tt sa aa : Addr) (rs : List Addr) (n : Nat) (T : Ties) (p : Held) (t : Nat), vs = [.ref tt, .ref sa, .ref aa, .int (t : Int)] ∧ TiesAt H tt rs T ∧ Good n T ∧ H sa = some (.lst (iV n p.1)) ∧ H aa = some (.lst (iV T.length p.2)) ∧ sa ≠ aa ∧ t < T.length ∧
  ∀ H2, ExC sa aa H H2 → H2 sa = some (.lst (iV n (meetN T p t).1)) → H2 aa = some (.lst (iV T.length (meetN T p t).2)) → Q .non H2
def spDue : Sp := fun vs H Q _ => ∃ (tt tn : Addr) (rs : List Addr) (n : Nat) (T : Ties) (ts : List Nat), vs = [.ref tt, .int (n : Int), .ref tn] ∧ TiesAt H tt rs T ∧ Good n T ∧ H tn = some (.tup (natV ts)) ∧ Order T ts ∧ Bridged T ∧ ∀ k H2, Due n T ts k → Ex H H2 → Q (.int (k : Int)) H2
theorem sv_power {H : Hp} {n : Nat} (h : n ≤ 1000) : SpV spPower [.int (n : Int)] H (.int (10 ^ n)) := fun H1 e1 Q q E => ⟨n, rfl, h, q⟩
section
variable {P : Program} {w : World} {K : PySem.W.Frag} {mg : Str → Option Value} {base : Heap}
theorem sc__law_pick : FnScope ["_law_box_here", "_law_some"] ["_law_box_here", "_law_some"] (defScope (top 46)) := ⟨rfl, rfl, rfl, by decide +kernel, rfl, by decide +kernel, by decide +kernel⟩
theorem k_pick (T : Txt K mg base) : Df P w K mg base 2 "_law_pick" ["_law_box_here", "_law_some"] spPick := by
  obtain ⟨fd, F⟩ := T.d__law_pick
  have D__law_take := k_take (P := P) (w := w) T
  refine Df.mk1 (i := 46) T.g__law_pick F (fun _ _ _ _ _ _ us hl => match us, hl with | [_, _], _ => rfl) (F.ok sc__law_pick (fun vs H Q E h => ?_) (fun cdv A outer s H vs Q E hr h => ?_))
  · obtain ⟨_, _, _, rfl, _⟩ := h
    rfl
  · obtain ⟨b, l, xs, rfl, hb, hl, ne, z1, z2, k⟩ := h
    refine ⟨_, PSs.nox (pss_one (ps_ret (pe_ix (bix_list (K := K) rfl) (pv 1) (pe_d0 D__law_take hr (pa_cons (pv 0) (pa_cons (pe_callB (bc_len (K := K) rfl) (by rfl) T.f_len bt_len (pa_cons (pv 1) pa_nil)) pa_nil))) (fun _ _ => rfl)))), ?_⟩
    refine ⟨_, rfl, _, rfl, _, rfl, l, xs, rfl, .inl (sq_of hl), b, xs.length, rfl, hb, z1, z2, fun v H2 hv e2 hb2 => ?_⟩
    have hx : xs[v]? = some xs[v] := List.getElem?_eq_getElem hv
    exact ⟨l, xs, (v : Int), xs[v], rfl, rfl, sq_of (e2 _ _ ne hl), atI_nat hx, k v _ H2 hx e2 hb2⟩
theorem sc__law_mixed : FnScope ["_law_box_here", "_law_some", "_law_found", "_law_left", "_law_turn"] ["_law_box_here", "_law_some"] (defScope (top 47)) := ⟨rfl, rfl, rfl, by decide +kernel, rfl, by decide +kernel, by decide +kernel⟩
theorem k_mixed (T : Txt K mg base) : Df P w K mg base 2 "_law_mixed" ["_law_box_here", "_law_some"] spMixed := by
  obtain ⟨fd, F⟩ := T.d__law_mixed
  have D__law_take := k_take (P := P) (w := w) T
  refine Df.mk1 (i := 47) T.g__law_mixed F (fun _ _ _ _ _ _ us hl => match us, hl with | [_, _], _ => rfl) (F.ok sc__law_mixed (fun vs H Q E h => ?_) (fun cdv A outer s H vs Q E hr h => ?_))
  · obtain ⟨_, _, _, rfl, _⟩ := h
    rfl
  · obtain ⟨b, l, xs, rfl, hb, hl, z2, k⟩ := h
    refine ⟨_, PSs.nox (pss_cons (ps_par (i := 2) (j := 3) rfl sc__law_mixed.nd rfl rfl (by decide) rfl rfl (pa_cons (pe_lst pa_nil) (pa_cons (pe_callTy (bc_list (K := K) rfl) (by rfl) T.f_list bt_list (pa_cons (pv 1) pa_nil)) pa_nil)) rfl) (pss_cons (ps_for PassesOwn.never rfl (pi_range1 (by rfl) T.f_range (pa_cons (pe_callB (bc_len (K := K) rfl) (by rfl) T.f_len bt_len (pa_cons (pv 3) pa_nil)) pa_nil)) (pg_name (i := 4) sc__law_mixed.nd rfl (Or.inl rfl)) (pss_one (ps_expr (pe_bm PySem.F.plainAttrs_list PySem.F.slot_list_append PySem.F.type_list_append mt_append (pv 2) (pa_cons (pe_bm PySem.F.plainAttrs_list PySem.F.slot_list_pop PySem.F.type_list_pop mt_popAt (pv 3) (pa_cons (pe_d0 D__law_take hr (pa_cons (pv 0) (pa_cons (pe_callB (bc_len (K := K) rfl) (by rfl) T.f_len bt_len (pa_cons (pv 3) pa_nil)) pa_nil))) pa_nil)) pa_nil))))) (pss_one (ps_ret (pv 2))))), ?_⟩
    refine q_par (ta_cons (el_lst (σ := [some (V.ref b), some (.ref l), none, none, none]) ea_nil (by show 0 ≤ 100000; decide) H (Ex.refl H) _ fun f H1 hf e1 h1 => ⟨_, rfl, l, xs, rfl, .inl (sq_of (e1 _ _ hl)), fun g hg => ⟨_, _, rfl, ?_⟩⟩))
    have e2 : Ex H1 (upd H1 g (.lst xs)) := Ex.new hg
    have hg0 : H g = none := fresh_back e1 hg
    have fb := ne_box hb hf
    have gb := ne_box hb hg0
    have fg : f ≠ g := ne_of_none h1 hg
    have ex2 := e1.trans e2
    have h1' := e2 _ _ h1
    have g1' : upd H1 g (.lst xs) g = some (.lst xs) := upd_same
    have hb1 := hb.ex ex2
    refine q_forR1 (j := 4) (n := (xs.length : Int)) (ea_cons (ev_len (ev_var rfl) (sq_of g1')) ea_nil) (by omega) (fun i σ' H' => ∃ ys zs : List V, (ys ++ zs).Perm xs ∧ zs.length + i = xs.length ∧ BoxAt H' b ∧ ExB b H H' ∧ H' f = some (.lst ys) ∧ H' g = some (.lst zs) ∧ ∃ c, σ' = [some (.ref b), some (.ref l), some (.ref f), some (.ref g), c])
      (fun H3 e3 => ⟨[], xs, List.Perm.refl _, rfl, hb1.ex e3, ExB.of (ex2.trans e3), e3 _ _ h1', e3 _ _ g1', _, rfl⟩) ?_ ?_
    · rintro i σ' H' hi ⟨ys, zs, pm, ln, hb', ex, kf, kg, c, rfl⟩
      have lz : 0 < zs.length := by omega
      refine ⟨_, rfl, Or.inl ⟨rfl, ys, sq_of kf⟩, ?_⟩
      refine ⟨_, rfl, Or.inl ⟨rfl, zs, sq_of kg⟩, ?_⟩
      refine ⟨_, rfl, _, rfl, g, zs, rfl, .inl (sq_of kg), b, zs.length, rfl, hb', lz, by omega, fun v H2 hv e2 hb2 => ?_⟩
      have hx : zs[v]? = some zs[v] := List.getElem?_eq_getElem hv
      refine ⟨g, zs, (v : Int), v, zs[v], rfl, rfl, e2 _ _ gb kg, by omega, by omega, ?_, hx, ?_⟩
      · exact (ixN_seq (ixN_nat hv)).1
      have kf2 : upd H2 g (.lst (zs.eraseIdx v)) f = some (.lst ys) := by
        rw [upd_ne fg]
        exact e2 _ _ fb kf
      refine ⟨f, ys, _, rfl, rfl, kf2, ?_, ys ++ [zs[v]], zs.eraseIdx v, (perm_move hx ys).trans pm, ?_, ?_, ?_, upd_same, ?_, _, rfl⟩
      · have := pm.length_eq
        rw [List.length_append] at this
        exact sz_lt (by omega)
      · rw [List.length_eraseIdx_of_lt hv]
        omega
      · obtain ⟨g', r', hh, h'⟩ := hb2
        refine ⟨g', r', ?_, h'⟩
        rw [upd_ne (Ne.symm fb), upd_ne (Ne.symm gb)]
        exact hh
      · intro c' o' hc ho
        have c1 : c' ≠ f := fun z => by rw [z, hf] at ho; cases ho
        have c2 : c' ≠ g := fun z => by rw [z, hg0] at ho; cases ho
        rw [upd_ne c1, upd_ne c2]
        exact e2 _ _ hc (ex _ _ hc ho)
      · rw [upd_ne (Ne.symm fg)]
        exact upd_same
    · rintro σ' H' ⟨ys, zs, pm, ln, hb', ex, kf, kg, c, rfl⟩
      have : zs = [] := List.eq_nil_of_length_eq_zero (by omega)
      subst this
      rw [List.append_nil] at pm
      exact s_ret (ev_var rfl) fun H3 e3 => k f ys H3 pm hf (ex.trans (ExB.of e3)) (hb'.ex e3) (e3 _ _ kf)
theorem sc__law_power : FnScope ["_law_number", "_law_found", "_law_turn"] ["_law_number"] (defScope (top 52)) := ⟨rfl, rfl, rfl, by decide +kernel, rfl, by decide +kernel, by decide +kernel⟩
theorem k_power (T : Txt K mg base) : Df P w K mg base 1 "_law_power" ["_law_number"] spPower := by
  obtain ⟨fd, F⟩ := T.d__law_power
  refine Df.mk1 (i := 52) T.g__law_power F (fun _ _ _ _ _ _ us hl => match us, hl with | [_], _ => rfl) (F.ok sc__law_power (fun vs H Q E h => ?_) (fun cdv A outer s H vs Q E hr h => ?_))
  · obtain ⟨_, rfl, _⟩ := h
    rfl
  · obtain ⟨n, rfl, hn, k⟩ := h
    refine ⟨_, PSs.nox (pss_cons (ps_set (i := 1) sc__law_power.nd rfl (Or.inl rfl) pe_int) (pss_cons (ps_for PassesOwn.never rfl (pi_range1 (by rfl) T.f_range (pa_cons (pv 0) pa_nil)) (pg_name (i := 2) sc__law_power.nd rfl (Or.inl rfl)) (pss_one (ps_set (i := 1) sc__law_power.nd rfl (Or.inl rfl) (pe_op op_mul (pv 1) pe_int)))) (pss_one (ps_ret (pv 1))))), ?_⟩
    refine q_asg (v := .int 1) ev_c fun H1 e1 => ?_
    refine q_forR1 (n := (n : Int)) (ea_cons (ev_var rfl) ea_nil) (by omega) (fun i σ' H' => Ex H H' ∧ ∃ c, σ' = [some (.int (n : Int)), some (.int (10 ^ i)), c]) (fun H2 e2 => ⟨e1.trans e2, _, rfl⟩) ?_ ?_
    · rintro i σ' H' hi ⟨ex, c, rfl⟩
      refine s_asg (v := .int (10 ^ (i + 1))) (ev_is (ev_op (ev_var rfl) ev_c (rv_I (.inr ⟨by omega, by omega⟩))) ?_) fun H2 e2 => ⟨ex.trans e2, _, rfl⟩
      rw [Int.pow_succ]
    · rintro σ' H' ⟨ex, c, rfl⟩
      exact s_ret (ev_var rfl) fun H3 e3 => k H3 (ex.trans e3)
theorem sc__law_still : FnScope ["_law_ties", "_law_states", "_law_archives", "_law_tie"] ["_law_ties", "_law_states", "_law_archives"] (defScope (top 53)) := ⟨rfl, rfl, rfl, by decide +kernel, rfl, by decide +kernel, by decide +kernel⟩
theorem k_still (T : Txt K mg base) : Df P w K mg base 1 "_law_still" ["_law_ties", "_law_states", "_law_archives"] spStill := by
  obtain ⟨fd, F⟩ := T.d__law_still
  refine Df.mk1 (i := 53) T.g__law_still F (fun _ _ _ _ _ _ us hl => match us, hl with | [_, _, _], _ => rfl) (F.ok sc__law_still (fun vs H Q E h => ?_) (fun cdv A outer s H vs Q E hr h => ?_))
  · obtain ⟨_, _, _, _, _, _, _, rfl, _⟩ := h
    rfl
  · obtain ⟨tt, sa, aa, rs, n, S, p, rfl, ht, g, hs, ha, k⟩ := h
    have t20 := g.t20
    have hl : (rs.map V.ref).length = S.length := by rw [List.length_map, ht.len]
    refine ⟨_, PSs.nox (pss_cons (ps_for PassesOwn.never rfl (pi_range1 (by rfl) T.f_range (pa_cons (pe_callB (bc_len (K := K) rfl) (by rfl) T.f_len bt_len (pa_cons (pv 0) pa_nil)) pa_nil)) (pg_name (i := 3) sc__law_still.nd rfl (Or.inl rfl)) (pss_one (ps_if (pw_or (pt_cmpR op_ne (pe_ix (bix_list (K := K) rfl) (pv 1) (pe_ix (bix_tup (K := K) rfl) (pe_ix (bix_tup (K := K) rfl) (pv 0) (pv 3) (fun _ _ => rfl)) pe_int (fun _ _ => rfl)) (fun _ _ => rfl)) (pe_ix (bix_list (K := K) rfl) (pv 2) (pv 3) (fun _ _ => rfl)) (nomark _)) (pw_or1 (pt_cmpR op_ne (pe_ix (bix_list (K := K) rfl) (pv 1) (pe_ix (bix_tup (K := K) rfl) (pe_ix (bix_tup (K := K) rfl) (pv 0) (pv 3) (fun _ _ => rfl)) pe_int (fun _ _ => rfl)) (fun _ _ => rfl)) (pe_ix (bix_list (K := K) rfl) (pv 2) (pv 3) (fun _ _ => rfl)) (nomark _)))).pt (pss_one (ps_ret pe_bl)) pss_nil))) (pss_one (ps_ret pe_bl))), ?_⟩
    refine q_forR1 (n := (S.length : Int)) (ea_cons (ev_is (ev_lenA (ev_var rfl) (.inr (st_of ht.at_))) (by rw [hl])) ea_nil) (by omega) (fun i σ' H' => Ex H H' ∧ (∀ j, j < i → p.1 (ins S j).1 = p.2 j ∧ p.1 (ins S j).2 = p.2 j) ∧ ∃ c, σ' = [some (.ref tt), some (.ref sa), some (.ref aa), c]) (fun H2 e2 => ⟨e2, fun j hj => absurd hj (Nat.not_lt_zero j), _, rfl⟩) ?_ ?_
    · rintro i σ' H' hi ⟨ex, hj, c, rfl⟩
      have hi : i < S.length := by omega
      obtain ⟨r, hr1, hp⟩ := ht.get (ins_get hi)
      obtain ⟨g1, g2, g3⟩ := g.get (ins_get hi)
      have tp := st_of (K := K) (ex _ _ hp)
      have el : ∀ {j : Nat} {v : V}, [V.int ((ins S i).1 : Int), .int ((ins S i).2 : Int)][j]? = some v → Ev (tOp (rIxT K) (tOp (rIxT K) (tVar 0) (tVar 3)) (tC (.int (j : Int)))) [some (V.ref tt), some (.ref sa), some (.ref aa), some (.int (i : Int))] H' v := fun {j v} h => ev_ixT (i := j) (ev_ixT (i := i) (ev_var rfl) (ev_var rfl) (st_of (ex _ _ ht.at_)) hr1) ev_c tp h
      refine s_when (b := decide (p.1 (ins S i).1 ≠ p.2 i) || decide (p.1 (ins S i).2 ≠ p.2 i)) (et_is (et_or (et_test (ev_op (ev_ixL (i := (ins S i).1) (ev_var rfl) (el (j := 0) rfl) (sq_of (ex _ _ hs)) (iV_get g1)) (ev_ixL (i := i) (ev_var rfl) (ev_var rfl) (sq_of (ex _ _ ha)) (iV_get hi)) (rv_ne rfl))) fun _ => et_test (ev_op (ev_ixL (i := (ins S i).2) (ev_var rfl) (el (j := 1) rfl) (sq_of (ex _ _ hs)) (iV_get g2)) (ev_ixL (i := i) (ev_var rfl) (ev_var rfl) (sq_of (ex _ _ ha)) (iV_get hi)) (rv_ne rfl))) ?_) (fun hb H2 e2 => ?_) (fun hb H2 e2 => ?_)
      · congr 1 <;> rw [Bool.eq_iff_iff] <;> simp
      · refine s_ret (v := .bl false) ev_c fun H3 e3 => k false H3 ⟨fun z => Bool.noConfusion z, fun z => ?_⟩ (ex.trans (e2.trans e3))
        have := z i hi
        rw [Bool.or_eq_true, decide_eq_true_iff, decide_eq_true_iff] at hb
        exact absurd hb (by rintro (y | y); exact y this.1; exact y this.2)
      · rw [Bool.or_eq_false_iff, decide_eq_false_iff_not, decide_eq_false_iff_not] at hb
        refine ⟨ex.trans e2, fun j hj2 => ?_, _, rfl⟩
        rcases Nat.lt_succ_iff_lt_or_eq.mp hj2 with h | rfl
        · exact hj j h
        · exact ⟨Classical.not_not.mp hb.1, Classical.not_not.mp hb.2⟩
    · rintro σ' H' ⟨ex, hj, c, rfl⟩
      exact s_ret (v := .bl true) ev_c fun H3 e3 => k true H3 ⟨fun _ i hi => hj i (by omega), fun _ => rfl⟩ (ex.trans e3)
end
end K30
namespace K30
open PySem PySem.Spec PyProof.Rows L2 Evl K30M
theorem if_two {a b i : Nat} {m x : Int} : (if i = b then m else if i = a then m else x) = if i = a ∨ i = b then m else x := by
  by_cases e2 : i = b
  · rw [if_pos e2, if_pos (Or.inr e2)]
  · rw [if_neg e2]
    by_cases e1 : i = a
    · rw [if_pos e1, if_pos (Or.inl e1)]
    · rw [if_neg e1, if_neg (by rintro (z | z); exact e1 z; exact e2 z)]
theorem iV_meet1 {n : Nat} {T : Ties} {p : Held} {t : Nat} (h1 : (ins T t).1 < n) (h2 : (ins T t).2 < n) : ((iV n p.1).set (ins T t).1 (.int (met T p t))).set (ins T t).2 (.int (met T p t)) = iV n (meetN T p t).1 := by
  rw [iV_set h1, iV_set h2]
  refine iV_congr fun i _ => ?_
  show (if i = (ins T t).2 then met T p t else if i = (ins T t).1 then met T p t else p.1 i) = if i = (ins T t).1 ∨ i = (ins T t).2 then met T p t else p.1 i
  exact if_two
theorem iV_meet2 {n : Nat} {T : Ties} {p : Held} {t : Nat} (h : t < n) : (iV n p.2).set t (.int (met T p t)) = iV n (meetN T p t).2 := iV_set h
/-- the search by turns -/
structure PIn (n : Nat) (T : Ties) (h c j : Nat) (i : Nat) (ks : List Nat) : Prop where
  start : h ∈ ks
  conn : ∀ x ∈ ks, x < n ∧ Conn T h x
  nodup : ks.Nodup
  get : ks[i]? = some c
  closed : ∀ (i' : Nat) x, i' < i → ks[i']? = some x → ∀ y, Adj T x y → y ∈ ks
  done : ∀ j', j' < j → ((ins T j').1 = c → (ins T j').2 ∈ ks) ∧ ((ins T j').2 = c → (ins T j').1 ∈ ks)
structure POut (n : Nat) (T : Ties) (h : Nat) (i : Nat) (ks : List Nat) : Prop where
  start : h ∈ ks
  conn : ∀ x ∈ ks, x < n ∧ Conn T h x
  nodup : ks.Nodup
  closed : ∀ (i' : Nat) x, i' < i → ks[i']? = some x → ∀ y, Adj T x y → y ∈ ks
theorem POut.count {n : Nat} {T : Ties} {h i : Nat} {ks : List Nat} (S : POut n T h i ks) : ks.length ≤ n := by
  have := S.nodup.length_le_of_subset (l₂ := List.range n) fun x hx => List.mem_range.mpr (S.conn x hx).1
  simpa using this
theorem PIn.count {n : Nat} {T : Ties} {h c j i : Nat} {ks : List Nat} (S : PIn n T h c j i ks) : ks.length ≤ n := by
  have := S.nodup.length_le_of_subset (l₂ := List.range n) fun x hx => List.mem_range.mpr (S.conn x hx).1
  simpa using this
theorem PIn.add {n : Nat} {T : Ties} {h c j i y : Nat} {ks : List Nat} (en : Ends n T) (S : PIn n T h c j i ks) (a : Adj T c y) (hy : y ∉ ks) : PIn n T h c j i (ks ++ [y]) := by
  have hi : i < ks.length := (List.getElem?_eq_some_iff.mp S.get).1
  refine ⟨List.mem_append_left _ S.start, fun x hx => ?_, ?_, by rw [List.getElem?_append_left hi]; exact S.get, fun i' x hi' hx y' a' => ?_, fun j' hj => ?_⟩
  · rcases List.mem_append.mp hx with hx | hx
    · exact S.conn x hx
    · rw [List.mem_singleton.mp hx]
      exact ⟨(a.lt en).2, (S.conn c (List.mem_of_getElem? S.get)).2.tail a⟩
  · rw [List.nodup_append]
    exact ⟨S.nodup, nodup_one _, fun a ha b hb z => hy (by rw [← List.mem_singleton.mp hb, ← z]; exact ha)⟩
  · rw [List.getElem?_append_left (by omega)] at hx
    exact List.mem_append_left _ (S.closed i' x hi' hx y' a')
  · exact ⟨fun z => List.mem_append_left _ ((S.done j' hj).1 z), fun z => List.mem_append_left _ ((S.done j' hj).2 z)⟩
theorem PIn.next {n : Nat} {T : Ties} {h c j i : Nat} {ks : List Nat} (S : PIn n T h c j i ks) (h1 : (ins T j).1 = c → (ins T j).2 ∈ ks) (h2 : (ins T j).2 = c → (ins T j).1 ∈ ks) : PIn n T h c (j + 1) i ks :=
  ⟨S.start, S.conn, S.nodup, S.get, S.closed, fun j' hj => by
    rcases Nat.lt_succ_iff_lt_or_eq.mp hj with hj | rfl
    · exact S.done j' hj
    · exact ⟨h1, h2⟩⟩
theorem PIn.out {n : Nat} {T : Ties} {h c i : Nat} {ks : List Nat} (S : PIn n T h c T.length i ks) : POut n T h (i + 1) ks :=
  ⟨S.start, S.conn, S.nodup, fun i' x hi hx y a => by
    rcases Nat.lt_succ_iff_lt_or_eq.mp hi with hi | rfl
    · exact S.closed i' x hi hx y a
    · rw [S.get] at hx
      cases hx
      rcases a with a | a
      · obtain ⟨j, hj⟩ := List.mem_iff_getElem?.mp a
        have e := ins_of hj
        have := (S.done j e.2).1 (by rw [e.1])
        rwa [e.1] at this
      · obtain ⟨j, hj⟩ := List.mem_iff_getElem?.mp a
        have e := ins_of hj
        have := (S.done j e.2).2 (by rw [e.1])
        rwa [e.1] at this⟩
theorem POut.perm {n : Nat} {T : Ties} {h i : Nat} {ks : List Nat} (S : POut n T h i ks) (hi : ks.length ≤ i) : ks.Perm (part T n h) := by
  refine (List.perm_ext_iff_of_nodup S.nodup (part_nodup T n h)).mpr fun x => ?_
  rw [mem_part]
  refine ⟨S.conn x, fun hc => ?_⟩
  refine Conn.into (fun z => z ∈ ks) (fun a b ha ad => ?_) hc.2 S.start
  obtain ⟨j, hj, e⟩ := List.mem_iff_getElem.mp ha
  exact S.closed j a (by omega) (by rw [List.getElem?_eq_getElem hj, e]) b ad
def spPart : Sp := fun vs H Q _ => ∃ (tt : Addr) (rs : List Addr) (n : Nat) (T : Ties) (h : Nat), vs = [.ref tt, .int (h : Int)] ∧ TiesAt H tt rs T ∧ Good n T ∧ h < n ∧ ∀ p H2, H p = none → Ex H H2 → H2 p = some (.lst (natV (part T n h))) → Q (.ref p) H2
def spHears : Sp := fun vs H Q _ => ∃ (tt tn : Addr) (rs : List Addr) (n : Nat) (T : Ties) (ts : List Nat) (h o : Nat), vs = [.ref tt, .ref tn, .int (h : Int), .int (o : Int)] ∧ TiesAt H tt rs T ∧ Good n T ∧ T.length ≤ 12 ∧ H tn = some (.tup (natV ts)) ∧ Order T ts ∧ h < n ∧ o < n ∧
  (∀ H2, ¬ Conn T h o → Ex H H2 → Q .non H2) ∧ ∀ k H2, Conn T h o → HeardAt T ts h o k → Ex H H2 → Q (.int (k : Int)) H2
theorem sl_part {H : Hp} {tt : Addr} {rs : List Addr} {n : Nat} {T : Ties} {h : Nat} (ht : TiesAt H tt rs T) (g : Good n T) (hh : h < n) : SpL spPart [.ref tt, .int (h : Int)] H (natV (part T n h)) := fun H1 e1 Q q E => ⟨tt, rs, n, T, h, rfl, ht.ex e1, g, hh, q⟩
theorem el_cat {ta tb : TE} {σ : L2.St} {H : Hp} {l : Addr} {xs zs : List V} (h : Ev ta σ H (.ref l)) (hl : H l = some (.lst xs)) (hb : EvL tb σ H zs) (hz : xs.length + zs.length ≤ 100000) : EvL (tOp rCat ta tb) σ H (xs ++ zs) := fun H1 e1 Q q =>
  h H1 e1 _ fun H2 e2 => hb H2 (e1.trans e2) _ fun p H3 hp e3 h3 => ⟨l, p, xs, zs, rfl, rfl, ((e1.trans e2).trans e3) _ _ hl, h3, sz_of hz, fun r hr => q r _ (fresh_back (e2.trans e3) hr) ((e2.trans e3).trans (Ex.new hr)) upd_same⟩
theorem s_dropCall {sp : Sp} {E : XK} {t : TA} {σ : L2.St} {H : Hp} {D : Ends} {vs : List V} (h : EvA t σ H vs) (k : ∀ H1, Ex H H1 → sp (vs ++ []) H1 (fun _ H2 => D.nx σ H2) E) : tDrop (tCall sp [] E t) D σ H := h H (Ex.refl H) _ fun H1 e1 => k H1 e1
section
variable {P : Program} {w : World} {K : PySem.W.Frag} {mg : Str → Option Value} {base : Heap}
theorem sc__law_met : FnScope ["_law_ties", "_law_states", "_law_archives", "_law_tie", "_law_one", "_law_other", "_law_state"] ["_law_ties", "_law_states", "_law_archives", "_law_tie"] (defScope (top 54)) := ⟨rfl, rfl, rfl, by decide +kernel, rfl, by decide +kernel, by decide +kernel⟩
theorem k_met (T : Txt K mg base) : Df P w K mg base 1 "_law_met" ["_law_ties", "_law_states", "_law_archives", "_law_tie"] spMet := by
  obtain ⟨fd, F⟩ := T.d__law_met
  refine Df.mk1 (i := 54) T.g__law_met F (fun _ _ _ _ _ _ us hl => match us, hl with | [_, _, _, _], _ => rfl) (F.ok sc__law_met (fun vs H Q E h => ?_) (fun cdv A outer s H vs Q E hr h => ?_))
  · obtain ⟨_, _, _, _, _, _, _, _, rfl, _⟩ := h
    rfl
  · obtain ⟨tt, sa, aa, rs, n, S, p, t, rfl, ht, g, hs, ha, ne, htl, k⟩ := h
    refine ⟨_, PSs.nox (pss_cons (ps_asg (pe_ix (bix_tup (K := K) rfl) (pv 0) (pv 3) (fun _ _ => rfl)) (pg_tup rfl (pgs_cons (pg_name (i := 4) sc__law_met.nd rfl (Or.inl rfl)) (pgs_cons (pg_name (i := 5) sc__law_met.nd rfl (Or.inl rfl)) pgs_nil)))) (pss_cons (ps_set (i := 6) sc__law_met.nd rfl (Or.inl rfl) (pe_op op_sub (pe_op op_add (pe_ix (bix_list (K := K) rfl) (pv 1) (pv 4) (fun _ _ => rfl)) (pe_ix (bix_list (K := K) rfl) (pv 1) (pv 5) (fun _ _ => rfl))) (pe_ix (bix_list (K := K) rfl) (pv 2) (pv 3) (fun _ _ => rfl)))) (pss_cons (ps_asg (pv 6) (pg_sub (pv 1) (pv 4) set_list)) (pss_cons (ps_asg (pv 6) (pg_sub (pv 1) (pv 5) set_list)) (pss_one (ps_asg (pv 6) (pg_sub (pv 2) (pv 3) set_list))))))), ?_⟩
    obtain ⟨r, hr1, hp⟩ := ht.get (ins_get htl)
    obtain ⟨g1, g2, g3⟩ := g.get (ins_get htl)
    refine q_two (T := r) (ev_ixT (i := t) (ev_var rfl) (ev_var rfl) (st_of ht.at_) hr1) (st_of hp) fun H1 e1 => ?_
    refine q_asg (v := .int (met S p t)) (ev_op (ev_op (ev_ixL (i := (ins S t).1) (ev_var rfl) (ev_var rfl) (sq_of (e1 _ _ hs)) (iV_get g1)) (ev_ixL (i := (ins S t).2) (ev_var rfl) (ev_var rfl) (sq_of (e1 _ _ hs)) (iV_get g2)) rv_I0) (ev_ixL (i := t) (ev_var rfl) (ev_var rfl) (sq_of (e1 _ _ ha)) (iV_get htl)) rv_I0) fun H2 e2 => ?_
    have e12 := e1.trans e2
    refine q_setL (j := (ins S t).1) (e12 _ _ hs) (ev_var rfl) (ev_var rfl) (ev_var rfl) (by rw [iV_len]; exact g1) fun H3 e3 => ?_
    refine q_setL (j := (ins S t).2) upd_same (ev_var rfl) (ev_var rfl) (ev_var rfl) (by rw [List.length_set, iV_len]; exact g2) fun H4 e4 => ?_
    have k4 := e4 _ _ upd_same
    refine s_setL (l := aa) (j := t) (xs := iV S.length p.2) ?_ (ev_var rfl) (ev_var rfl) (ev_var rfl) (by rw [iV_len]; exact htl) fun H5 e5 => ?_
    · rw [upd_ne (Ne.symm ne)]
      refine e4 _ _ ?_
      rw [upd_ne (Ne.symm ne)]
      exact e3 _ _ (e12 _ _ ha)
    · refine k _ (fun b o h1 h2 hb => ?_) ?_ ?_
      · rw [upd_ne h2]
        refine e5 _ _ ?_
        rw [upd_ne h1]
        refine e4 _ _ ?_
        rw [upd_ne h1]
        exact e3 _ _ (e12 _ _ hb)
      · rw [upd_ne ne]
        refine e5 _ _ ?_
        rw [upd_same, iV_meet1 g1 g2]
      · rw [upd_same, iV_meet2 htl]
theorem sc__law_due : FnScope ["_law_ties", "_law_many", "_law_turns", "_law_states", "_law_archives", "_law_turn", "_law_house", "_law_tie"] ["_law_ties", "_law_many", "_law_turns"] (defScope (top 55)) := ⟨rfl, rfl, rfl, by decide +kernel, rfl, by decide +kernel, by decide +kernel⟩
theorem k_due (T : Txt K mg base) : Df P w K mg base 2 "_law_due" ["_law_ties", "_law_many", "_law_turns"] spDue := by
  obtain ⟨fd, F⟩ := T.d__law_due
  have D__law_power := k_power (P := P) (w := w) T
  have D__law_still := k_still (P := P) (w := w) T
  have D__law_met := k_met (P := P) (w := w) T
  refine Df.mk1 (i := 55) T.g__law_due F (fun _ _ _ _ _ _ us hl => match us, hl with | [_, _, _], _ => rfl) (F.ok sc__law_due (fun vs H Q E h => ?_) (fun cdv A outer s H vs Q E hr h => ?_))
  · obtain ⟨_, _, _, _, _, _, rfl, _⟩ := h
    rfl
  · obtain ⟨tt, tn, rs, n, S, ts, rfl, ht, g, hn, ho, br, k⟩ := h
    have t20 := g.t20
    have n12 := g.n12
    have hl : (rs.map V.ref).length = S.length := by rw [List.length_map, ht.len]
    refine ⟨_, PSs.nox (pss_cons (ps_setLc (i := 3) (own := [("_law_house", 6)]) (g := (gName 6)) rfl sc__law_due.nd rfl rfl (sw_true rfl rfl rfl (by decide +kernel)) (pi_range1 (by rfl) T.f_range (pa_cons (pv 1) pa_nil)) (blkOk_by (N := ["_law_ties", "_law_many", "_law_turns", "_law_states", "_law_archives", "_law_turn", "_law_house", "_law_tie"]) (sc := defScope (top 55)) (by decide +kernel)) (fun _ _ _ _ _ => (pg_name (i := 6) sc__law_due.nd rfl (Or.inl rfl))) (fun _ _ _ _ _ => pts_nil) (fun _ _ _ _ _ => (pe_d0 D__law_power hr (pa_cons (pv 6) pa_nil)))) (pss_cons (ps_setLc (i := 4) (own := [("_law_tie", 7)]) (g := (gName 7)) rfl sc__law_due.nd rfl rfl (sw_true rfl rfl rfl (by decide +kernel)) (pi_range1 (by rfl) T.f_range (pa_cons (pe_callB (bc_len (K := K) rfl) (by rfl) T.f_len bt_len (pa_cons (pv 0) pa_nil)) pa_nil)) (blkOk_by (N := ["_law_ties", "_law_many", "_law_turns", "_law_states", "_law_archives", "_law_turn", "_law_house", "_law_tie"]) (sc := defScope (top 55)) (by decide +kernel)) (fun _ _ _ _ _ => (pg_name (i := 7) sc__law_due.nd rfl (Or.inl rfl))) (fun _ _ _ _ _ => pts_nil) (fun _ _ _ _ _ => (pe_d0 D__law_power hr (pa_cons (pe_op op_add (pv 1) (pv 7)) pa_nil)))) (pss_cons (ps_for PassesOwn.never rfl (pi_range1 (by rfl) T.f_range (pa_cons (pe_op op_add (pe_op op_mul (pv 1) (pe_callB (bc_len (K := K) rfl) (by rfl) T.f_len bt_len (pa_cons (pv 0) pa_nil))) pe_int) pa_nil)) (pg_name (i := 5) sc__law_due.nd rfl (Or.inl rfl)) (pss_cons (ps_if (pt_val (pe_d0 D__law_still hr (pa_cons (pv 0) (pa_cons (pv 3) (pa_cons (pv 4) pa_nil))))) (pss_one (ps_ret (pv 5))) pss_nil) (pss_one (ps_expr (pe_d0 D__law_met hr (pa_cons (pv 0) (pa_cons (pv 3) (pa_cons (pv 4) (pa_cons (pe_ix (bix_tup (K := K) rfl) (pv 2) (pe_op op_mod (pe_callTy call_int1 (by rfl) T.f_int bt_int (pa_cons (pv 5) pa_nil)) (pe_callB (bc_len (K := K) rfl) (by rfl) T.f_len bt_len (pa_cons (pv 2) pa_nil))) (fun _ _ => rfl)) pa_nil))))))))) (pss_one (ps_ret pe_non))))), ?_⟩
    refine q_asgL (xs := iV n fun x => 10 ^ x) ?_ fun sa H1 hsa e1 h1 => ?_
    · have := el_lcW (vs := [6]) (tt := tYes) (te := tCall spPower [] E0 (tCons (tVar 6) tNil)) (g := gName 6) (src_r1 (H0 := H) (H := H) (σ := [some (V.ref tt), some (.int (n : Int)), some (.ref tn), none, none, none, none, none]) (m := (n : Int)) (ea_cons (ev_var (i := 1) rfl) ea_nil) (by omega)) (by omega)
        (fun _ => true) (fun i => .int (10 ^ i)) fun i y H2 e2 hi hy Q q => q _ rfl (fun H3 e3 Q3 q3 => q3 H3 (Ex.refl _)) fun _ => by
          obtain rfl : y = .int (i : Nat) := hy
          exact SpV.call (ea_cons (ev_var rfl) ea_nil) (sv_power (by omega))
      rw [given_all, show (n : Int).toNat = n by omega] at this
      exact this
    refine q_asgL (xs := iV S.length fun j => 10 ^ (n + j)) ?_ fun aa H2 haa e2 h2 => ?_
    · have := el_lcW (vs := [7]) (tt := tYes) (te := tCall spPower [] E0 (tCons (tOp (rI0 fun i j => V.int (i + j)) (tVar 1) (tVar 7)) tNil)) (g := gName 7) (src_r1 (H0 := H1) (H := H1) (σ := [some (V.ref tt), some (.int (n : Int)), some (.ref tn), some (.ref sa), none, none, none, none]) (m := (S.length : Int)) (ea_cons (ev_is (ev_lenA (K := K) (ev_var (i := 0) rfl) (.inr (st_of (e1 _ _ ht.at_)))) (by rw [hl])) ea_nil) (by omega)) (by omega)
        (fun _ => true) (fun i => .int (10 ^ (n + i))) fun i y H2 e2 hi hy Q q => q _ rfl (fun H3 e3 Q3 q3 => q3 H3 (Ex.refl _)) fun _ => by
          obtain rfl : y = .int (i : Nat) := hy
          exact SpV.call (ea_cons (ev_is (ev_op (ev_var rfl) (ev_var rfl) rv_I0) (by congr 1)) ea_nil) (sv_power (n := n + i) (by omega))
      rw [given_all, show (S.length : Int).toNat = S.length by omega] at this
      exact this
    have ne : sa ≠ aa := ne_of_none h1 haa
    have haa0 : H aa = none := fresh_back e1 haa
    have e12 := e1.trans e2
    have hlen : n * S.length ≤ 240 := Nat.le_trans (Nat.mul_le_mul n12 t20) (by decide)
    refine q_forR1 (j := 5) (n := ((n * S.length + 1 : Nat) : Int)) (ea_cons (ev_is (ev_op (ev_op (ev_var rfl) (ev_lenA (ev_var rfl) (.inr (st_of (e12 _ _ ht.at_)))) (rv_I (small_mul (by omega)))) ev_c rv_I0) (by rw [hl]; congr 1)) ea_nil) (by omega)
      (fun i σ' H' => Ex H H' ∧ H' sa = some (.lst (iV n (nums S ts (fun x => 10 ^ x) (fun j => 10 ^ (n + j)) i).1)) ∧ H' aa = some (.lst (iV S.length (nums S ts (fun x => 10 ^ x) (fun j => 10 ^ (n + j)) i).2)) ∧ (∀ j, j < i → ¬ Still S (nums S ts (fun x => 10 ^ x) (fun j => 10 ^ (n + j)) j)) ∧ ∃ c, σ' = [some (.ref tt), some (.int (n : Int)), some (.ref tn), some (.ref sa), some (.ref aa), c, none, none])
      (fun H3 e3 => ⟨e12.trans e3, e3 _ _ (e2 _ _ h1), e3 _ _ h2, fun j hj => absurd hj (Nat.not_lt_zero j), _, rfl⟩) ?_ ?_
    · rintro i σ' H' hi ⟨ex, hs, ha, first, c, rfl⟩
      refine ⟨_, rfl, _, rfl, _, rfl, tt, sa, aa, rs, n, S, _, rfl, ht.ex ex, g, hs, ha, fun b H3 hb e3 => ⟨b, rfl, ?_⟩⟩
      cases b with
      | true =>
        have st := hb.mp rfl
        refine s_ret (ev_var rfl) fun H4 e4 => k i H4 ?_ (ex.trans (e3.trans e4))
        by_cases hT : 0 < S.length
        · exact ⟨whole_of g.ends ho br hT st, fun j hj z => first j hj (still_of g.ends ho br hT z)⟩
        · have z : S = [] := List.eq_nil_of_length_eq_zero (by omega)
          refine ⟨by rw [z]; exact whole_nil n _, fun j hj _ => first j hj fun i' hi' => absurd hi' (by omega)⟩
      | false =>
        have ns : ¬ Still S (nums S ts (fun x => 10 ^ x) (fun j => 10 ^ (n + j)) i) := fun z => Bool.noConfusion (hb.mpr z)
        have hT : 0 < S.length := Nat.pos_of_ne_zero fun z => ns fun i' hi' => absurd hi' (by omega)
        have hts := ho.len
        have htl := ho.turn hT i
        have hmod : ((i : Int) % ((natV ts).length : Int)) = ((i % ts.length : Nat) : Int) := by rw [natV_len]; exact (Int.natCast_emod i ts.length).symm
        have ex3 := ex.trans e3
        have kn := st_of (K := K) (ex3 _ _ hn)
        refine s_dropCall (vs := [.ref tt, .ref sa, .ref aa, .int (K30M.turn ts i : Int)]) (ea_cons (ev_var rfl) (ea_cons (ev_var rfl) (ea_cons (ev_var rfl) (ea_cons (ev_ixT (i := i % ts.length) (v := .int (K30M.turn ts i : Int)) (ev_var rfl) (ev_is (ev_op (ev_int1 (ev_var rfl)) (ev_lenA (ev_var rfl) (.inr kn)) (rv_I (by rw [natV_len]; omega))) (by rw [hmod])) kn (natV_get (turn_get (by omega) i))) ea_nil)))) fun H4 e4 => ?_
        have e34 := e3.trans e4
        refine ⟨tt, sa, aa, rs, n, S, _, K30M.turn ts i, rfl, (ht.ex (ex.trans e34)), g, e34 _ _ hs, e34 _ _ ha, ne, htl, fun H5 e5 h5 h6 => ?_⟩
        refine ⟨fun b o hb' => e5 b o (fun z => ?_) (fun z => ?_) ((ex.trans e34) _ _ hb'), h5, h6, fun j hj => ?_, _, rfl⟩
        · rw [z, hsa] at hb'
          cases hb'
        · rw [z, haa0] at hb'
          cases hb'
        · rcases Nat.lt_succ_iff_lt_or_eq.mp hj with hj | rfl
          · exact first j hj
          · exact ns
    · rintro σ' H' ⟨ex, hs, ha, first, c, rfl⟩
      refine absurd ?_ (first (n * S.length) (by omega))
      by_cases hT : 0 < S.length
      · exact still_of g.ends ho br hT (whole_by g.ends ho hT)
      · exact fun i' hi' => absurd hi' (by omega)
theorem sc__law_part : FnScope ["_law_ties", "_law_house", "_law_found", "_law_turn", "_law_one", "_law_other"] ["_law_ties", "_law_house"] (defScope (top 49)) := ⟨rfl, rfl, rfl, by decide +kernel, rfl, by decide +kernel, by decide +kernel⟩
theorem k_part (T : Txt K mg base) : Df P w K mg base 1 "_law_part" ["_law_ties", "_law_house"] spPart := by
  obtain ⟨fd, F⟩ := T.d__law_part
  refine Df.mk1 (i := 49) T.g__law_part F (fun _ _ _ _ _ _ us hl => match us, hl with | [_, _], _ => rfl) (F.ok sc__law_part (fun vs H Q E h => ?_) (fun cdv A outer s H vs Q E hr h => ?_))
  · obtain ⟨_, _, _, _, _, rfl, _⟩ := h
    rfl
  · obtain ⟨tt, rs, n, S, h, rfl, ht, g, hh, k⟩ := h
    have t20 := g.t20
    have n12 := g.n12
    have hl : (rs.map V.ref).length = S.length := by rw [List.length_map, ht.len]
    refine ⟨_, PSs.nox (pss_cons (ps_set (i := 2) sc__law_part.nd rfl (Or.inl rfl) (pe_lst (pa_cons (pv 1) pa_nil))) (pss_cons (ps_for PassesOwn.never rfl (pi_range1 (by rfl) T.f_range (pa_cons pe_int pa_nil)) (pg_name (i := 3) sc__law_part.nd rfl (Or.inl rfl)) (pss_one (ps_if (pt_cmpR op_lt (pv 3) (pe_callB (bc_len (K := K) rfl) (by rfl) T.f_len bt_len (pa_cons (pv 2) pa_nil)) (nomark _)) (pss_one (ps_for PassesOwn.never rfl (pi_tup (pv 0)) (pg_tup rfl (pgs_cons (pg_name (i := 4) sc__law_part.nd rfl (Or.inl rfl)) (pgs_cons (pg_name (i := 5) sc__law_part.nd rfl (Or.inl rfl)) pgs_nil))) (pss_cons (ps_if (pw_and (pt_cmpR op_eq (pv 4) (pe_ix (bix_list (K := K) rfl) (pv 2) (pv 3) (fun _ _ => rfl)) (nomark _)) (pw_and1 (pt_cmpR (bnotin_seq (K := K) rfl) (pv 5) (pv 2) (by with_unfolding_all rfl)))).pt (pss_one (ps_expr (pe_bm PySem.F.plainAttrs_list PySem.F.slot_list_append PySem.F.type_list_append mt_append (pv 2) (pa_cons (pv 5) pa_nil)))) pss_nil) (pss_one (ps_if (pw_and (pt_cmpR op_eq (pv 5) (pe_ix (bix_list (K := K) rfl) (pv 2) (pv 3) (fun _ _ => rfl)) (nomark _)) (pw_and1 (pt_cmpR (bnotin_seq (K := K) rfl) (pv 4) (pv 2) (by with_unfolding_all rfl)))).pt (pss_one (ps_expr (pe_bm PySem.F.plainAttrs_list PySem.F.slot_list_append PySem.F.type_list_append mt_append (pv 2) (pa_cons (pv 4) pa_nil)))) pss_nil))))) pss_nil))) (pss_one (ps_ret (pe_callB (bc_sortedA (K := K) rfl) (by rfl) T.f_sorted bt_sorted (pa_cons (pv 2) pa_nil)))))), ?_⟩
    refine q_asgL (xs := natV [h]) (el_lst (ea_cons (ev_var rfl) ea_nil) (by show 1 ≤ 100000; decide)) fun l H1 hl0 e1 h1 => ?_
    refine q_forR1 (j := 3) (n := 12) (ea_cons ev_c ea_nil) (by omega) (fun i σ' H' => ∃ ks : List Nat, POut n S h i ks ∧ Ex H H' ∧ H' l = some (.lst (natV ks)) ∧ ∃ a b c, σ' = [some (.ref tt), some (.int (h : Int)), some (.ref l), a, b, c])
      (fun H2 e2 => ⟨[h], ⟨List.mem_singleton.mpr rfl, fun x hx => by rw [List.mem_singleton.mp hx]; exact ⟨hh, Conn.refl _⟩, nodup_one _, fun _ _ hi => absurd hi (Nat.not_lt_zero _)⟩, e1.trans e2, e2 _ _ h1, _, _, _, rfl⟩) ?_ ?_
    · rintro i σ' H' hi ⟨ks, po, ex, kl, a, b, c, rfl⟩
      refine s_when (b := decide (i < ks.length)) (et_is (et_test (ev_op (ev_var rfl) (ev_len (ev_var rfl) (sq_of kl)) rv_I0)) ?_) (fun hb H2 e2 => ?_) (fun hb H2 e2 => ?_)
      · rw [natV_len, decide_eq_decide]
        omega
      · have hw : i < ks.length := of_decide_eq_true hb
        have gi : ks[i]? = some ks[i] := List.getElem?_eq_getElem hw
        generalize ks[i] = y at gi
        refine s_forW (src_tup (K := K) (H0 := H) (H := H2) (ev_var rfl) (ex.trans e2) (st_of ht.at_)) (fun j σ' H' => ∃ ks : List Nat, PIn n S h y j i ks ∧ Ex H H' ∧ H' l = some (.lst (natV ks)) ∧ ∃ b c, σ' = [some (.ref tt), some (.int (h : Int)), some (.ref l), some (.int (i : Int)), b, c])
          (fun H3 e3 => ⟨ks, ⟨po.start, po.conn, po.nodup, gi, po.closed, fun j' hj => absurd hj (Nat.not_lt_zero _)⟩, ex.trans (e2.trans e3), e3 _ _ (e2 _ _ kl), _, _, rfl⟩) (fun j σ' H' _ p => by obtain ⟨_, _, p, _⟩ := p; exact p) ?_ ?_
        · rintro j v σ' H3 H4 hj ⟨ks, pin, ex3, kl3, b, c, rfl⟩ e4 hv
          obtain ⟨r, p, rfl, hp, hpa⟩ := ht.back hv
          have ex4 := ex3.trans e4
          have ei := get_ins hp
          refine ⟨r, [.int (p.1 : Int), .int (p.2 : Int)], rfl, st_of (ex4 _ _ hpa), rfl, _, _, rfl, _, _, rfl, rfl, ?_⟩
          have kl4 := e4 _ _ kl3
          have gy := pin.get
          have hc := pin.count
          have flat : ∀ ks, (natV ks).all flatV = true := natV_flat
          have adj1 : p.1 = y → Adj S y p.2 := fun z => .inl (by rw [← z]; exact List.mem_of_getElem? hp)
          have adj2 : p.2 = y → Adj S y p.1 := fun z => .inr (by rw [← z]; exact List.mem_of_getElem? hp)
          refine q_when (b := decide (p.1 = y) && !decide (p.2 ∈ ks)) (et_is (et_and (et_test (ev_op (ev_var rfl) (ev_ixL (i := i) (ev_var rfl) (ev_var rfl) (sq_of kl4) (natV_get gy)) (rv_eq rfl))) fun _ => et_test (ev_op (ev_var rfl) (ev_var rfl) (rv_niL (sq_of kl4) rfl (flat ks)))) ?_) (fun hb H5 e5 => ?_) (fun hb H5 e5 => ?_)
          · rw [inV_nat]
            congr 1
            rw [decide_eq_decide]
            exact ⟨fun z => by injection z with z; omega, fun z => by rw [z]⟩
          · obtain ⟨b1, b2⟩ := Bool.and_eq_true_iff.mp hb
            have b1 := of_decide_eq_true b1
            have b2 : p.2 ∉ ks := fun z => by rw [decide_eq_true z] at b2; cases b2
            refine q_app (xs := natV ks) (v := .int (p.2 : Int)) (e5 _ _ kl4) (ev_var rfl) (ev_var rfl) (by rw [natV_len]; omega) fun H6 e6 => ?_
            have F : ∃ ks' : List Nat, PIn n S h y j i ks' ∧ (p.1 = y → p.2 ∈ ks') ∧ Ex H (upd H6 l (.lst (natV ks ++ [.int (p.2 : Int)]))) ∧ upd H6 l (.lst (natV ks ++ [.int (p.2 : Int)])) l = some (.lst (natV ks')) :=
              ⟨ks ++ [p.2], pin.add g.ends (adj1 b1) b2, fun _ => List.mem_append_right _ (List.mem_singleton.mpr rfl), ((ex4.trans e5).trans e6).mut hl0, by rw [upd_same]; unfold natV; rw [List.map_append]; rfl⟩
            generalize upd H6 l (.lst (natV ks ++ [.int (p.2 : Int)])) = HH at F ⊢
            obtain ⟨ks', pin', d1, ex', kl'⟩ := F
            have gy' := pin'.get
            have hc' := pin'.count
            refine s_when (b := decide (p.2 = y) && !decide (p.1 ∈ ks')) (et_is (et_and (et_test (ev_op (ev_var rfl) (ev_ixL (i := i) (ev_var rfl) (ev_var rfl) (sq_of kl') (natV_get gy')) (rv_eq rfl))) fun _ => et_test (ev_op (ev_var rfl) (ev_var rfl) (rv_niL (sq_of kl') rfl (flat ks')))) ?_) (fun hb H7 e7 => ?_) (fun hb H7 e7 => ?_)
            · rw [inV_nat]
              congr 1
              rw [decide_eq_decide]
              exact ⟨fun z => by injection z with z; omega, fun z => by rw [z]⟩
            · obtain ⟨b1, b2⟩ := Bool.and_eq_true_iff.mp hb
              have b1 := of_decide_eq_true b1
              have b2 : p.1 ∉ ks' := fun z => by rw [decide_eq_true z] at b2; cases b2
              refine s_app (xs := natV ks') (v := .int (p.1 : Int)) (e7 _ _ kl') (ev_var rfl) (ev_var rfl) (by rw [natV_len]; omega) fun H8 e8 => ?_
              refine ⟨ks' ++ [p.1], (pin'.add g.ends (adj2 b1) b2).next (fun z => ?_) (fun z => ?_), ((ex'.trans e7).trans e8).mut hl0, by rw [upd_same]; unfold natV; rw [List.map_append]; rfl, _, _, rfl⟩
              · rw [ei] at z ⊢
                exact List.mem_append_left _ (d1 z)
              · rw [ei]
                exact List.mem_append_right _ (List.mem_singleton.mpr rfl)
            · refine ⟨ks', pin'.next (fun z => ?_) (fun z => ?_), ex'.trans e7, e7 _ _ kl', _, _, rfl⟩
              · rw [ei] at z ⊢
                exact d1 z
              · rw [ei] at z ⊢
                apply Classical.byContradiction
                intro y2
                rw [decide_eq_true z, decide_eq_false y2] at hb
                cases hb
          · have F : ∃ ks' : List Nat, PIn n S h y j i ks' ∧ (p.1 = y → p.2 ∈ ks') ∧ Ex H H5 ∧ H5 l = some (.lst (natV ks')) :=
              ⟨ks, pin, (fun z => by
                apply Classical.byContradiction
                intro y2
                rw [decide_eq_true z, decide_eq_false y2] at hb
                exact Bool.noConfusion hb), ex4.trans e5, e5 _ _ kl4⟩
            obtain ⟨ks', pin', d1, ex', kl'⟩ := F
            have gy' := pin'.get
            have hc' := pin'.count
            refine s_when (b := decide (p.2 = y) && !decide (p.1 ∈ ks')) (et_is (et_and (et_test (ev_op (ev_var rfl) (ev_ixL (i := i) (ev_var rfl) (ev_var rfl) (sq_of kl') (natV_get gy')) (rv_eq rfl))) fun _ => et_test (ev_op (ev_var rfl) (ev_var rfl) (rv_niL (sq_of kl') rfl (flat ks')))) ?_) (fun hb H7 e7 => ?_) (fun hb H7 e7 => ?_)
            · rw [inV_nat]
              congr 1
              rw [decide_eq_decide]
              exact ⟨fun z => by injection z with z; omega, fun z => by rw [z]⟩
            · obtain ⟨b1, b2⟩ := Bool.and_eq_true_iff.mp hb
              have b1 := of_decide_eq_true b1
              have b2 : p.1 ∉ ks' := fun z => by rw [decide_eq_true z] at b2; cases b2
              refine s_app (xs := natV ks') (v := .int (p.1 : Int)) (e7 _ _ kl') (ev_var rfl) (ev_var rfl) (by rw [natV_len]; omega) fun H8 e8 => ?_
              refine ⟨ks' ++ [p.1], (pin'.add g.ends (adj2 b1) b2).next (fun z => ?_) (fun z => ?_), ((ex'.trans e7).trans e8).mut hl0, by rw [upd_same]; unfold natV; rw [List.map_append]; rfl, _, _, rfl⟩
              · rw [ei] at z ⊢
                exact List.mem_append_left _ (d1 z)
              · rw [ei]
                exact List.mem_append_right _ (List.mem_singleton.mpr rfl)
            · refine ⟨ks', pin'.next (fun z => ?_) (fun z => ?_), ex'.trans e7, e7 _ _ kl', _, _, rfl⟩
              · rw [ei] at z ⊢
                exact d1 z
              · rw [ei] at z ⊢
                apply Classical.byContradiction
                intro y2
                rw [decide_eq_true z, decide_eq_false y2] at hb
                cases hb
        · rintro σ' H3 ⟨ks, pin, ex3, kl3, b, c, rfl⟩
          rw [hl] at pin
          exact ⟨ks, pin.out, ex3, kl3, _, _, _, rfl⟩
      · have hw : ks.length ≤ i := by have := of_decide_eq_false hb; omega
        refine ⟨ks, ⟨po.start, po.conn, po.nodup, fun i' x hi' hx => ?_⟩, ex.trans e2, e2 _ _ kl, _, _, _, rfl⟩
        have := (List.getElem?_eq_some_iff.mp hx).1
        exact po.closed i' x (by omega) hx
    · rintro σ' H' ⟨ks, po, ex, kl, a, b, c, rfl⟩
      have pm := po.perm (Nat.le_trans po.count (by omega))
      have sq : SqA K H' l ((ks.map fun (i : Nat) => (i : Int)).map V.int) := by rw [← natV_ints]; exact .inl (sq_of kl)
      refine s_retL (xs := natV (K30M.part S n h)) ?_ fun p H3 hp e3 h3 => k p H3 (fresh_back ex hp) (ex.trans e3) h3
      have e : ((ks.map fun (i : Nat) => (i : Int)).mergeSort fun x y => decide (x ≤ y)) = (K30M.part S n h).map fun (i : Nat) => (i : Int) := by
        refine List.Perm.eq_of_pairwise (le := fun a b => a ≤ b) (fun a b _ _ x y => Int.le_antisymm x y) ?_ (List.pairwise_map.mpr ((part_sorted S n h).imp fun {a b} z => by omega)) ((List.mergeSort_perm _ _).trans (pm.map _))
        have := List.pairwise_mergeSort (le := fun (x y : Int) => decide (x ≤ y)) (fun a b c h1 h2 => decide_eq_true (Int.le_trans (of_decide_eq_true h1) (of_decide_eq_true h2))) (fun a b => by rcases Int.le_total a b with z | z <;> simp [z]) (ks.map fun (i : Nat) => (i : Int))
        exact this.imp fun z => of_decide_eq_true z
      have := el_sortA (K := K) (σ := [some (V.ref tt), some (.int (h : Int)), some (.ref l), a, b, c]) (ev_var (i := 2) rfl) sq
      rw [e, ← natV_ints] at this
      exact this
theorem sc__law_hears : FnScope ["_law_ties", "_law_turns", "_law_house", "_law_other", "_law_heard_here", "_law_turn", "_law_one", "_law_two"] ["_law_ties", "_law_turns", "_law_house", "_law_other"] (defScope (top 56)) := ⟨rfl, rfl, rfl, by decide +kernel, rfl, by decide +kernel, by decide +kernel⟩
theorem k_hears (T : Txt K mg base) : Df P w K mg base 2 "_law_hears" ["_law_ties", "_law_turns", "_law_house", "_law_other"] spHears := by
  obtain ⟨fd, F⟩ := T.d__law_hears
  have D__law_part := k_part (P := P) (w := w) T
  refine Df.mk1 (i := 56) T.g__law_hears F (fun _ _ _ _ _ _ us hl => match us, hl with | [_, _, _, _], _ => rfl) (F.ok sc__law_hears (fun vs H Q E h => ?_) (fun cdv A outer s H vs Q E hr h => ?_))
  · obtain ⟨_, _, _, _, _, _, _, _, rfl, _⟩ := h
    rfl
  · obtain ⟨tt, tn, rs, n, S, ts, h, o, rfl, ht, g, t12, hn, ord, hh, ho, k1, k2⟩ := h
    have n12 := g.n12
    refine ⟨_, PSs.nox (pss_cons (ps_if (pt_cmpR (bnotin_seq (K := K) rfl) (pv 3) (pe_d0 D__law_part hr (pa_cons (pv 0) (pa_cons (pv 2) pa_nil))) (by with_unfolding_all rfl)) (pss_one (ps_ret pe_non)) pss_nil) (pss_cons (ps_set (i := 4) sc__law_hears.nd rfl (Or.inl rfl) (pe_lst (pa_cons (pv 2) pa_nil))) (pss_cons (ps_for PassesOwn.never rfl (pi_range1 (by rfl) T.f_range (pa_cons pe_int pa_nil)) (pg_name (i := 5) sc__law_hears.nd rfl (Or.inl rfl)) (pss_cons (ps_if (pt_cmpR (bin_seq (K := K) rfl) (pv 3) (pv 4) (by with_unfolding_all rfl)) (pss_one (ps_ret (pv 5))) pss_nil) (pss_cons (ps_asg (pe_ix (bix_tup (K := K) rfl) (pv 0) (pe_ix (bix_tup (K := K) rfl) (pv 1) (pe_op op_mod (pe_callTy call_int1 (by rfl) T.f_int bt_int (pa_cons (pv 5) pa_nil)) (pe_callB (bc_len (K := K) rfl) (by rfl) T.f_len bt_len (pa_cons (pv 1) pa_nil))) (fun _ _ => rfl)) (fun _ _ => rfl)) (pg_tup rfl (pgs_cons (pg_name (i := 6) sc__law_hears.nd rfl (Or.inl rfl)) (pgs_cons (pg_name (i := 7) sc__law_hears.nd rfl (Or.inl rfl)) pgs_nil)))) (pss_one (ps_if (pw_or (pt_cmpR (bin_seq (K := K) rfl) (pv 6) (pv 4) (by with_unfolding_all rfl)) (pw_or1 (pt_cmpR (bin_seq (K := K) rfl) (pv 7) (pv 4) (by with_unfolding_all rfl)))).pt (pss_one (ps_set (i := 4) sc__law_hears.nd rfl (Or.inl rfl) (pe_op op_cat (pv 4) (pe_lst (pa_cons (pv 6) (pa_cons (pv 7) pa_nil)))))) pss_nil))))) (pss_one (ps_ret pe_non))))), ?_⟩
    refine q_when (b := !decide (o ∈ K30M.part S n h)) (et_is (et_test (ev_opL (xs := natV (K30M.part S n h)) (ev_var rfl) (SpL.call (ea_cons (ev_var rfl) (ea_cons (ev_var rfl) ea_nil)) (sl_part ht g hh)) fun p H1 hp e1 => rv_niL (sq_of hp) rfl (natV_flat _))) (by rw [inV_nat])) (fun hb H1 e1 => ?_) (fun hb H1 e1 => ?_)
    · refine s_ret (v := .non) ev_c fun H2 e2 => k1 H2 (fun z => ?_) (e1.trans e2)
      rw [decide_eq_true (mem_part.mpr ⟨ho, z⟩)] at hb
      cases hb
    · have co : Conn S h o := by
        have : o ∈ K30M.part S n h := by
          apply Classical.byContradiction
          intro z
          rw [decide_eq_false z] at hb
          cases hb
        exact (mem_part.mp this).2
      refine q_asgL (xs := natV [h]) (el_lst (ea_cons (ev_var rfl) ea_nil) (by show 1 ≤ 100000; decide)) fun l H2 hl2 e2 h2 => ?_
      obtain ⟨M, hM, hear_M⟩ := hear_by g.ends ord hh co
      have M132 : M ≤ 132 := Nat.le_trans hM (Nat.mul_le_mul (show n - 1 ≤ 11 by omega) t12)
      refine q_forR1 (j := 5) (n := 200) (ea_cons ev_c ea_nil) (by omega) (fun i σ' H' => ∃ (l : Addr) (ls : List Nat), Ex H H' ∧ H' l = some (.lst (natV ls)) ∧ ls.length ≤ 2 * i + 1 ∧ (∀ y, y ∈ ls ↔ hear S ts h i y = true) ∧ (∀ j, j < i → hear S ts h j o = false) ∧ ∃ a b c, σ' = [some (.ref tt), some (.ref tn), some (.int (h : Int)), some (.int (o : Int)), some (.ref l), a, b, c])
        (fun H3 e3 => ⟨l, [h], (e1.trans e2).trans e3, e3 _ _ h2, by simp, fun y => by
          show y ∈ [h] ↔ decide (y = h) = true
          rw [List.mem_singleton, decide_eq_true_iff], fun j hj => absurd hj (Nat.not_lt_zero j), _, _, _, rfl⟩) ?_ ?_
      · rintro i σ' H' hi ⟨l, ls, ex, kl, ll, ml, first, a, b, c, rfl⟩
        refine q_when (b := decide (o ∈ ls)) (et_is (et_test (ev_op (ev_var rfl) (ev_var rfl) (rv_isL (sq_of kl) rfl (natV_flat _)))) (by rw [inV_nat])) (fun hb H3 e3 => ?_) (fun hb H3 e3 => ?_)
        · exact s_ret (ev_var rfl) fun H4 e4 => k2 i H4 co ⟨(ml o).mp (of_decide_eq_true hb), first⟩ (ex.trans (e3.trans e4))
        · have hno : o ∉ ls := of_decide_eq_false hb
          have hfo : hear S ts h i o = false := by
            cases q : hear S ts h i o with
            | false => rfl
            | true => exact absurd ((ml o).mpr q) hno
          have hk2 : i < M := by
            rcases Nat.lt_or_ge i M with z | z
            · exact z
            · have := (hear_spreads S ts h).mono z hear_M
              rw [hfo] at this
              cases this
          have hT : 0 < S.length := Nat.pos_of_ne_zero fun z => by
            rw [z, Nat.mul_zero] at hM
            omega
          have hts := ord.len
          have htl := ord.turn hT i
          have ex3 := ex.trans e3
          have kn := st_of (K := K) (ex3 _ _ hn)
          have hmod : ((i : Int) % ((natV ts).length : Int)) = ((i % ts.length : Nat) : Int) := by rw [natV_len]; exact (Int.natCast_emod i ts.length).symm
          obtain ⟨r, hr1, hp⟩ := ht.get (ins_get htl)
          refine q_two (T := r) (ev_ixT (i := K30M.turn ts i) (ev_var rfl) (ev_ixT (i := i % ts.length) (ev_var rfl) (ev_is (ev_op (ev_int1 (ev_var rfl)) (ev_lenA (ev_var rfl) (.inr kn)) (rv_I (by rw [natV_len]; omega))) (by rw [hmod])) kn (natV_get (turn_get (by omega) i))) (st_of (ex3 _ _ ht.at_)) hr1) (st_of (ex3 _ _ hp)) fun H4 e4 => ?_
          have kl4 := e4 _ _ (e3 _ _ kl)
          have ex4 := ex3.trans e4
          refine s_when (b := decide ((ins S (K30M.turn ts i)).1 ∈ ls) || decide ((ins S (K30M.turn ts i)).2 ∈ ls)) (et_is (et_or (et_test (ev_op (ev_var rfl) (ev_var rfl) (rv_isL (sq_of kl4) rfl (natV_flat _)))) fun _ => et_test (ev_op (ev_var rfl) (ev_var rfl) (rv_isL (sq_of kl4) rfl (natV_flat _)))) (by rw [inV_nat, inV_nat])) (fun hb H5 e5 => ?_) (fun hb H5 e5 => ?_)
          · refine s_asgL (xs := natV ls ++ natV [(ins S (K30M.turn ts i)).1, (ins S (K30M.turn ts i)).2]) (el_cat (ev_var rfl) (e5 _ _ kl4) (el_lst (ea_cons (ev_var rfl) (ea_cons (ev_var rfl) ea_nil)) (by show 2 ≤ 100000; decide)) (by rw [natV_len]; show _ + 2 ≤ _; omega)) fun q H6 hq e6 h6 => ?_
            refine ⟨q, ls ++ [(ins S (K30M.turn ts i)).1, (ins S (K30M.turn ts i)).2], ex4.trans (e5.trans e6), by rw [h6]; unfold natV; rw [List.map_append], by rw [List.length_append]; show _ + 2 ≤ _; omega, fun y => ?_, fun j hj => ?_, _, _, _, rfl⟩
            · rw [List.mem_append, ml, List.mem_cons, List.mem_singleton]
              show _ ↔ (hear S ts h i y || ((decide (y = (ins S (K30M.turn ts i)).1) || decide (y = (ins S (K30M.turn ts i)).2)) && (hear S ts h i (ins S (K30M.turn ts i)).1 || hear S ts h i (ins S (K30M.turn ts i)).2))) = true
              have hb2 : (hear S ts h i (ins S (K30M.turn ts i)).1 || hear S ts h i (ins S (K30M.turn ts i)).2) = true := by
                rw [Bool.or_eq_true] at hb ⊢
                exact hb.imp (fun z => (ml _).mp (of_decide_eq_true z)) fun z => (ml _).mp (of_decide_eq_true z)
              rw [hb2, Bool.and_true, Bool.or_eq_true, Bool.or_eq_true, decide_eq_true_iff, decide_eq_true_iff]
            · rcases Nat.lt_succ_iff_lt_or_eq.mp hj with hj | rfl
              · exact first j hj
              · exact hfo
          · refine ⟨l, ls, ex4.trans e5, e5 _ _ kl4, by omega, fun y => ?_, fun j hj => ?_, _, _, _, rfl⟩
            · rw [ml]
              show _ ↔ (hear S ts h i y || ((decide (y = (ins S (K30M.turn ts i)).1) || decide (y = (ins S (K30M.turn ts i)).2)) && (hear S ts h i (ins S (K30M.turn ts i)).1 || hear S ts h i (ins S (K30M.turn ts i)).2))) = true
              have hb2 : (hear S ts h i (ins S (K30M.turn ts i)).1 || hear S ts h i (ins S (K30M.turn ts i)).2) = false := by
                rw [Bool.or_eq_false_iff] at hb ⊢
                refine hb.imp (fun z => ?_) fun z => ?_
                · cases q : hear S ts h i (ins S (K30M.turn ts i)).1 with
                  | false => rfl
                  | true => exact absurd ((ml _).mpr q) (of_decide_eq_false z)
                · cases q : hear S ts h i (ins S (K30M.turn ts i)).2 with
                  | false => rfl
                  | true => exact absurd ((ml _).mpr q) (of_decide_eq_false z)
              rw [hb2, Bool.and_false, Bool.or_false]
            · rcases Nat.lt_succ_iff_lt_or_eq.mp hj with hj | rfl
              · exact first j hj
              · exact hfo
      · rintro σ' H' ⟨l, ls, ex, kl, ll, ml, first, a, b, c, rfl⟩
        have := first M (by show M < 200; omega)
        rw [hear_M] at this
        cases this
end
end K30
namespace K30
open PySem PySem.Spec PyProof.Rows L2 Evl K30M
theorem tk {E : XK} {ta tb : TE} {σ : L2.St} {H : Hp} {Q : VK} {b : Addr} {m : Nat} (ha : Ev ta σ H (.ref b)) (hm : Ev tb σ H (.int (m : Int))) (hb : BoxAt H b) (m1 : 1 ≤ m) (m2 : m ≤ 1000) (k : ∀ (v : Nat) H2, v < m → ExB b H H2 → BoxAt H2 b → Q (.int (v : Int)) H2) :
    tCall spTake [] E (tCons ta (tCons tb tNil)) σ H Q := ha H (Ex.refl H) _ fun H1 e1 => hm H1 e1 _ fun H2 e2 => ⟨b, m, rfl, hb.ex (e1.trans e2), m1, m2, fun v H3 hv e3 h3 => k v H3 hv ((ExB.of (e1.trans e2)).trans e3) h3⟩
/-! ### a forest that grows -/
theorem conn_alone {U : Ties} {a y : Nat} (h : ∀ p ∈ U, p.1 ≠ a ∧ p.2 ≠ a) (c : Conn U a y) : y = a := by
  induction c with
  | refl => rfl
  | tail _ ad ih =>
    subst ih
    rcases ad with ad | ad
    · exact absurd rfl (h _ ad).1
    · exact absurd rfl (h _ ad).2
structure Grow (n k : Nat) (nm : List Nat) (U : Ties) : Prop where
  forest : Forest U
  ends : ∀ p ∈ U, ∃ i j, i < k ∧ j < k ∧ nm[i]? = some p.1 ∧ nm[j]? = some p.2 ∧ p.1 ≠ p.2
  len : U.length + 1 ≤ k
theorem Grow.skip {n k : Nat} {nm : List Nat} {U : Ties} (g : Grow n k nm U) : Grow n (k + 1) nm U :=
  ⟨g.forest, fun p hp => by
    obtain ⟨i, j, h1, h2, h3⟩ := g.ends p hp
    exact ⟨i, j, by omega, by omega, h3⟩, by have := g.len; omega⟩
theorem nodup_idx {nm : List Nat} (nd : nm.Nodup) {i j x : Nat} (h1 : nm[i]? = some x) (h2 : nm[j]? = some x) : i = j := by
  obtain ⟨a1, a2⟩ := List.getElem?_eq_some_iff.mp h1
  obtain ⟨b1, b2⟩ := List.getElem?_eq_some_iff.mp h2
  apply Classical.byContradiction
  intro ne
  rcases Nat.lt_or_gt_of_ne ne with h | h
  · exact List.pairwise_iff_getElem.mp nd i j a1 b1 h (a2.trans b2.symm)
  · exact List.pairwise_iff_getElem.mp nd j i b1 a1 h (b2.trans a2.symm)
theorem op_c {r : R2} {c : V} {tb : TE} {σ : L2.St} {H : Hp} {Q : VK} (h : tb σ H fun y H2 => r c y H2 Q) : tOp r (tC c) tb σ H Q := h
theorem op_2 {r : R2} {ta tb : TE} {σ : L2.St} {H : Hp} {Q : VK} (h : ta σ H fun x H1 => tb σ H1 fun y H2 => r x y H2 Q) : tOp r ta tb σ H Q := h
theorem lst_of {t : TA} {σ : L2.St} {H : Hp} {Q : VK} (h : t σ H fun xs H1 => xs.length ≤ sizeLine ∧ ∀ p, H1 p = none → Q (.ref p) (upd H1 p (.lst xs))) : tLst t σ H Q := h
theorem tup_of {t : TA} {σ : L2.St} {H : Hp} {Q : VK} (h : t σ H fun xs H1 => xs.length ≤ sizeLine ∧ ∀ p, H1 p = none → Q (.ref p) (upd H1 p (.tup xs))) : tTup t σ H Q := h
theorem ret_of {te : TE} {σ : L2.St} {H : Hp} {D : Ends} (h : te σ H D.rt) : tRet te D σ H := h
theorem tst {te : TE} {σ : L2.St} {H : Hp} {Q : Bool → Hp → Prop} (h : te σ H fun v H1 => ∃ b, v = .bl b ∧ Q b H1) : tTest te σ H Q := h
theorem q_par3 {i j l : Nat} {ta : TA} {σ : L2.St} {H : Hp} {tz : TS} {D : Ends} (h : ta σ H fun vs H1 => ∃ u v w, vs = [u, v, w] ∧ tz D (((σ.set i (some u)).set j (some v)).set l (some w)) H1) : tSeq (tPar3 i j l ta) tz D σ H := h
theorem Grow.add {n k near x y : Nat} {nm : List Nat} {U : Ties} (g : Grow n k nm U) (nd : nm.Nodup) (hx : nm[k]? = some x) (hn : near < k) (hy : nm[near]? = some y) (q : Nat × Nat) (hq : q = (x, y) ∨ q = (y, x)) : Grow n (k + 1) nm (U ++ [q]) := by
  have ne : x ≠ y := fun z => by
    rw [z] at hx
    have := nodup_idx nd hx hy
    omega
  have no : ¬ Conn U x y := fun c => by
    refine ne (conn_alone (fun p hp => ?_) c).symm
    obtain ⟨i, j, h1, h2, h3, h4, _⟩ := g.ends p hp
    exact ⟨fun z => by rw [z] at h3; have := nodup_idx nd h3 hx; omega, fun z => by rw [z] at h4; have := nodup_idx nd h4 hx; omega⟩
  have f : Forest (q :: U) := by
    rcases hq with rfl | rfl
    · exact .cons g.forest no
    · exact .cons g.forest fun z => no z.symm
  refine ⟨f.perm (List.perm_append_singleton q U).symm, fun p hp => ?_, by rw [List.length_append, List.length_singleton]; have := g.len; omega⟩
  rcases List.mem_append.mp hp with hp | hp
  · obtain ⟨i, j, h1, h2, h3⟩ := g.ends p hp
    exact ⟨i, j, by omega, by omega, h3⟩
  · rw [List.mem_singleton.mp hp]
    rcases hq with rfl | rfl
    · exact ⟨k, near, by omega, by omega, hx, hy, ne⟩
    · exact ⟨near, k, by omega, by omega, hy, hx, ne.symm⟩
def PairsAt (H : Hp) (rs : List Addr) (U : Ties) : Prop := rs.length = U.length ∧ ∀ (i : Nat) r p, rs[i]? = some r → U[i]? = some p → PairAt H r p
theorem PairsAt.map {H H' : Hp} {rs : List Addr} {U : Ties} (h : PairsAt H rs U) (k : ∀ b xs, H b = some (.tup xs) → H' b = some (.tup xs)) : PairsAt H' rs U := ⟨h.1, fun i r p a b => k _ _ (h.2 i r p a b)⟩
theorem PairsAt.snoc {H : Hp} {rs : List Addr} {U : Ties} {r : Addr} {p : Nat × Nat} (h : PairsAt H rs U) (hr : PairAt H r p) : PairsAt H (rs ++ [r]) (U ++ [p]) := by
  refine ⟨by rw [List.length_append, List.length_append, h.1]; rfl, fun i q t x y => ?_⟩
  by_cases hi : i < rs.length
  · rw [List.getElem?_append_left hi] at x
    rw [List.getElem?_append_left (by rw [← h.1]; exact hi)] at y
    exact h.2 i q t x y
  · rw [List.getElem?_append_right (by omega)] at x
    rw [List.getElem?_append_right (by rw [← h.1]; omega), ← h.1] at y
    have := (List.getElem?_eq_some_iff.mp x).1
    have e : i - rs.length = 0 := by simp at this; omega
    rw [e] at x y
    cases x
    cases y
    exact hr
def ForJ (H : Hp) (b l np : Addr) (m n v2 : Nat) (nm : List Nat) (i : Nat) (σ' : L2.St) (H' : Hp) : Prop := ∃ (rs : List Addr) (U : Ties), Grow n (i + 1) nm U ∧ PairsAt H' rs U ∧ ExB b H H' ∧ BoxAt H' b ∧ H' l = some (.lst (rs.map V.ref)) ∧ H' np = some (.lst (natV nm)) ∧ ∃ c d e, σ' = [some (.ref b), some (.int (m : Int)), some (.int (n : Int)), some (.int (v2 : Int)), some (.ref l), some (.ref np), c, d, e]
def spForest : Sp := fun vs H Q _ => ∃ (b : Addr) (m : Nat), vs = [.ref b, .int (m : Int)] ∧ BoxAt H b ∧ 1 ≤ m ∧ m ≤ 12 ∧
  ∀ p tt rs n T H2, H p = none → H tt = none → ExB b H H2 → BoxAt H2 b → H2 p = some (.tup [.int (n : Nat), .ref tt]) → TiesAt H2 tt rs T → Good n T → T.length + 1 ≤ n → Forest T → Q (.ref p) H2
section
variable {P : Program} {w : World} {K : PySem.W.Frag} {mg : Str → Option Value} {base : Heap}
theorem sc__law_forest : FnScope ["_law_box_here", "_law_most", "_law_many", "_law_style", "_law_ties", "_law_names", "_law_at", "_law_near", "_law_pair"] ["_law_box_here", "_law_most"] (defScope (top 48)) := ⟨rfl, rfl, rfl, by decide +kernel, rfl, by decide +kernel, by decide +kernel⟩
theorem k_forest (T : Txt K mg base) : Df P w K mg base 3 "_law_forest" ["_law_box_here", "_law_most"] spForest := by
  obtain ⟨fd, F⟩ := T.d__law_forest
  have D__law_take := (k_take (P := P) (w := w) T).mono (show 1 ≤ 2 by decide)
  have D__law_mixed := k_mixed (P := P) (w := w) T
  refine Df.mk1 (i := 48) T.g__law_forest F (fun _ _ _ _ _ _ us hl => match us, hl with | [_, _], _ => rfl) (F.ok sc__law_forest (fun vs H Q E h => ?_) (fun cdv A outer s H vs Q E hr h => ?_))
  · obtain ⟨_, _, rfl, _⟩ := h
    rfl
  · obtain ⟨b, m, rfl, hb, m1, m2, k⟩ := h
    refine ⟨_, PSs.nox (pss_cons (ps_par3 (i := 2) (j := 3) (l := 4) rfl sc__law_forest.nd rfl rfl rfl (by decide) (by decide) (by decide) rfl rfl rfl (pa_cons (pe_op op_add pe_int (pe_d0 D__law_take hr (pa_cons (pv 0) (pa_cons (pv 1) pa_nil)))) (pa_cons (pe_d0 D__law_take hr (pa_cons (pv 0) (pa_cons pe_int pa_nil))) (pa_cons (pe_lst pa_nil) pa_nil))) rfl) (pss_cons (ps_set (i := 5) sc__law_forest.nd rfl (Or.inl rfl) (pe_d0 D__law_mixed hr (pa_cons (pv 0) (pa_cons (pe_listRg rfl (by rfl) T.f_list (prg_1 (by rfl) T.f_range (pv 2))) pa_nil)))) (pss_cons (ps_for PassesOwn.never rfl (pi_range2 (by rfl) T.f_range (pa_cons pe_int (pa_cons (pv 2) pa_nil))) (pg_name (i := 6) sc__law_forest.nd rfl (Or.inl rfl)) (pss_cons (ps_set (i := 7) sc__law_forest.nd rfl (Or.inl rfl) (pe_ix (bix_list (K := K) rfl) (pe_lst (pa_cons (pe_d0 D__law_take hr (pa_cons (pv 0) (pa_cons (pv 6) pa_nil))) (pa_cons (pe_op op_sub (pv 6) pe_int) (pa_cons pe_int (pa_cons (pe_d0 D__law_take hr (pa_cons (pv 0) (pa_cons (pv 6) pa_nil))) pa_nil))))) (pv 3) (fun _ _ => rfl))) (pss_one (ps_if (pt_cmpR op_gt (pe_d0 D__law_take hr (pa_cons (pv 0) (pa_cons pe_int pa_nil))) pe_int (nomark _)) (pss_cons (ps_set (i := 8) sc__law_forest.nd rfl (Or.inl rfl) (pe_tup (pa_cons (pe_ix (bix_list (K := K) rfl) (pv 5) (pv 6) (fun _ _ => rfl)) (pa_cons (pe_ix (bix_list (K := K) rfl) (pv 5) (pv 7) (fun _ _ => rfl)) pa_nil)))) (pss_one (ps_expr (pe_bm PySem.F.plainAttrs_list PySem.F.slot_list_append PySem.F.type_list_append mt_append (pv 4) (pa_cons (pe_ifExp (pt_cmpR op_eq (pe_d0 D__law_take hr (pa_cons (pv 0) (pa_cons pe_int pa_nil))) pe_int (nomark _)) (pv 8) (pe_tup (pa_cons (pe_ix (bix_tup (K := K) rfl) (pv 8) pe_int (fun _ _ => rfl)) (pa_cons (pe_ix (bix_tup (K := K) rfl) (pv 8) pe_int (fun _ _ => rfl)) pa_nil)))) pa_nil))))) pss_nil)))) (pss_one (ps_ret (pe_tup (pa_cons (pv 2) (pa_cons (pe_callTy (bc_tup (K := K) rfl) (by rfl) T.f_tuple bt_tuple (pa_cons (pe_d0 D__law_mixed hr (pa_cons (pv 0) (pa_cons (pv 4) pa_nil))) pa_nil)) pa_nil)))))))), ?_⟩
    have hcl : ∀ {v : Nat}, (1 : Int) + (v : Int) = ((v + 1 : Nat) : Int) := fun {v} => by omega
    refine q_par3 (ta_cons (op_c (tk (ev_var rfl) (ev_var rfl) hb m1 (by omega) fun v1 H1 hv1 e1 hb1 => ⟨1, (v1 : Int), rfl, rfl, ?_⟩)))
    dsimp only
    rw [hcl]
    refine ta_cons (tk (m := 4) (ev_var rfl) ev_c hb1 (by omega) (by omega) fun v2 H2 hv2 e2 hb2 => ?_)
    refine ta_cons (el_lst ea_nil (by show 0 ≤ 100000; decide) H2 (Ex.refl _) _ fun l H3 hl e3 h3 => ⟨_, _, _, rfl, ?_⟩)
    have hb3 := hb2.ex e3
    have n12 : v1 + 1 ≤ 12 := by omega
    have n1 : 1 ≤ v1 + 1 := by omega
    generalize v1 + 1 = n at n12 n1 ⊢
    have b3 := (e1.trans e2).trans (ExB.of e3)
    have hbv : ∃ o, H b = some o := by obtain ⟨g, r, h, _⟩ := hb; exact ⟨_, h⟩
    have fresh : ∀ {H' : Hp} {p : Addr}, ExB b H H' → H' p = none → p ≠ b → H p = none := fun {H' p} e hp ne => by
      cases q : H p with
      | none => rfl
      | some o => rw [e p o ne q] at hp; cases hp
    have lb : l ≠ b := ne_box hb2 hl
    have hl0 : H l = none := fresh (e1.trans e2) hl lb
    refine q_any ?_
    refine ⟨_, rfl, ?_⟩
    refine ta_cons (el_listR (m := n) (ev_var rfl) (by omega) H3 (Ex.refl _) _ fun r H4 hr4 e4 h4 => ?_)
    refine ⟨b, r, _, rfl, hb3.ex e4, h4, by rw [natV_len, List.length_range]; omega, fun np ys H5 pm hp5 e5 hb5 h5 => ?_⟩
    obtain ⟨nm, pnm, rfl⟩ := perm_lift (f := fun (i : Nat) => V.int (i : Int)) pm
    have nd : nm.Nodup := pnm.nodup_iff.mpr List.nodup_range
    have nlen : nm.length = n := by rw [pnm.length_eq, List.length_range]
    have nlt : ∀ x ∈ nm, x < n := fun x hx => List.mem_range.mp (pnm.mem_iff.mp hx)
    have npb : np ≠ b := ne_box (hb3.ex e4) hp5
    have b5 := (b3.trans (ExB.of e4)).trans e5
    have np0 : H np = none := fresh (b3.trans (ExB.of e4)) hp5 npb
    have hl5 : H5 l = some (.lst []) := e5 _ _ lb (e4 _ _ h3)
    have nl : l ≠ np := fun z => by rw [← z, e4 _ _ h3] at hp5; cases hp5
    refine q_forR2 (lo := 1) (n := (n : Int)) (ea_cons ev_c (ea_cons (ev_var rfl) ea_nil)) (by omega) (ForJ H b l np m n v2 nm)
      (fun H6 e6 => ⟨[], [], ⟨.nil, fun p hp => (nomatch hp), by simp⟩, ⟨rfl, fun i r p a => (nomatch a)⟩, b5.trans (ExB.of e6), hb5.ex e6, e6 _ _ hl5, e6 _ _ h5, _, _, _, rfl⟩) ?_ ?_
    · rintro i σ' H' hi ⟨rs, U, gr, pa, ex, hb', kl, kn, c, d, e, rfl⟩
      have hin : i + 1 < n := by omega
      have hat : (1 : Int) + (i : Int) = ((i + 1 : Nat) : Int) := by omega
      have grl := gr.len
      refine q_any ?_
      refine op_2 (lst_of ?_)
      refine ta_cons (tk (m := i + 1) (ev_var rfl) (ev_is (ev_var rfl) (by rw [hat])) hb' (by omega) (by omega) fun a H6 ha e6 hb6 => ?_)
      refine ta_cons (ev_op (ev_var rfl) ev_c rv_I0 H6 (Ex.refl _) _ fun H7 e7 => ?_)
      refine ta_cons (ev_c H7 (Ex.refl _) _ fun H8 e8 => ?_)
      refine ta_cons (tk (m := i + 1) (ev_var rfl) (ev_is (ev_var rfl) (by rw [hat])) (hb6.ex (e7.trans e8)) (by omega) (by omega) fun a2 H9 ha2 e9 hb9 => ?_)
      refine ⟨by show 4 ≤ _; rw [sizeLine_eq]; omega, fun q hq => ⟨_, rfl, ?_⟩⟩
      have near : ∃ nr : Nat, nr < i + 1 ∧ [V.int (a : Int), .int (1 + (i : Int) - 1), .int 0, .int (a2 : Int)][v2]? = some (.int (nr : Int)) := by
        match v2, hv2 with
        | 0, _ => exact ⟨a, ha, rfl⟩
        | 1, _ => exact ⟨i, by omega, by show some (V.int (1 + (i : Int) - 1)) = _; congr 2; omega⟩
        | 2, _ => exact ⟨0, by omega, rfl⟩
        | 3, _ => exact ⟨a2, ha2, rfl⟩
      obtain ⟨nr, hnr, gn⟩ := near
      refine ⟨q, _, (v2 : Int), _, rfl, rfl, sq_of upd_same, atI_nat gn, ?_⟩
      have ex9 := ((ex.trans e6).trans (ExB.of (e7.trans e8))).trans e9
      have eq9 : Ex H9 (upd H9 q (.lst [V.int (a : Int), .int (1 + (i : Int) - 1), .int 0, .int (a2 : Int)])) := Ex.new hq
      have b69 := (e6.trans (ExB.of (e7.trans e8))).trans (e9.trans (ExB.of eq9))
      have ex10 := ex9.trans (ExB.of eq9)
      have hb10 := hb9.ex eq9
      generalize upd H9 q (.lst [V.int (a : Int), .int (1 + (i : Int) - 1), .int 0, .int (a2 : Int)]) = H10 at b69 ex10 hb10 ⊢
      have tne : ∀ {H' : Hp} {c : Addr} {xs : List V}, BoxAt H' b → H' c = some (.tup xs) → c ≠ b := fun {H' c xs} hb hc z => by
        obtain ⟨g, r, h, _⟩ := hb
        rw [z, h] at hc
        cases hc
      obtain ⟨x, hx⟩ : ∃ x, nm[i + 1]? = some x := ⟨_, List.getElem?_eq_getElem (by omega)⟩
      obtain ⟨y, hy⟩ : ∃ y, nm[nr]? = some y := ⟨_, List.getElem?_eq_getElem (by omega)⟩
      refine tst (op_2 (tk (m := 9) (ev_var rfl) ev_c hb10 (by omega) (by omega) fun t H11 ht e11 hb11 => ⟨(t : Int), 0, rfl, rfl, _, rfl, ?_⟩))
      have b611 := b69.trans e11
      have ex11 := ex10.trans e11
      have kl11 := b611 _ _ lb kl
      have kn11 := b611 _ _ npb kn
      have pa11 : PairsAt H11 rs U := pa.map fun c xs hc => b611 _ _ (tne hb' hc) hc
      split
      · refine q_asgU (xs := [.int (x : Int), .int (y : Int)]) (eu_tup (ea_cons (ev_ixL (i := i + 1) (ev_var rfl) (ev_is (ev_var rfl) (by rw [hat])) (sq_of kn11) (natV_get hx)) (ea_cons (ev_ixL (i := nr) (ev_var rfl) (ev_var rfl) (sq_of kn11) (natV_get hy)) ea_nil)) (by show 2 ≤ 100000; decide)) fun pr H12 hpr e12 h12 => ?_
        have kl12 := e12 _ _ kl11
        have hb12 := hb11.ex e12
        have fin : ∀ (H13 : Hp) (r2 : Addr) (q : Nat × Nat), (q = (x, y) ∨ q = (y, x)) → ExB b H12 H13 → BoxAt H13 b → PairAt H13 r2 q → ∀ c d e, ForJ H b l np m n v2 nm (i + 1) [some (.ref b), some (.int (m : Int)), some (.int (n : Int)), some (.int (v2 : Int)), some (.ref l), some (.ref np), c, d, e] (upd H13 l (.lst (rs.map V.ref ++ [.ref r2]))) := by
          intro H13 r2 q hq e13 hb13 hr2 c d e
          have kl13 := e13 _ _ lb kl12
          have tl : ∀ {c : Addr} {xs : List V}, H13 c = some (.tup xs) → upd H13 l (.lst (rs.map V.ref ++ [.ref r2])) c = some (.tup xs) := fun {c xs} hc => by
            rw [upd_ne]
            · exact hc
            · intro z
              rw [z, kl13] at hc
              cases hc
          refine ⟨rs ++ [r2], U ++ [q], gr.add nd hx hnr hy q hq, PairsAt.snoc (pa11.map fun c xs hc => tl (e13 _ _ (tne hb12 (e12 _ _ hc)) (e12 _ _ hc))) (tl hr2), ?_, ?_, by rw [upd_same, List.map_append]; rfl, ?_, _, _, _, rfl⟩
          · intro c' o' hc ho
            have c1 : c' ≠ l := fun z => by rw [z, hl0] at ho; cases ho
            rw [upd_ne c1]
            exact e13 _ _ hc (e12 _ _ (ex11 _ _ hc ho))
          · obtain ⟨g', r', hh, h'⟩ := hb13
            refine ⟨g', r', ?_, h'⟩
            rw [upd_ne (Ne.symm lb)]
            exact hh
          · rw [upd_ne (Ne.symm nl)]
            exact e13 _ _ npb (e12 _ _ kn11)
        have lenr : (rs.map V.ref).length < sizeLine := by rw [List.length_map, pa.1, sizeLine_eq]; omega
        refine ⟨_, rfl, Or.inl ⟨rfl, _, sq_of kl12⟩, ?_⟩
        refine ta_cons (tst (op_2 (tk (m := 2) (ev_var rfl) ev_c hb12 (by omega) (by omega) fun u H13 hu e13 hb13 => ⟨rfl, _, rfl, ?_⟩)))
        have p13 : PairAt H13 pr (x, y) := e13 _ _ (tne hb12 h12) h12
        split
        · exact ⟨_, rfl, l, _, .ref pr, rfl, rfl, e13 _ _ lb kl12, lenr, fin H13 pr (x, y) (.inl rfl) e13 hb13 p13 _ _ _⟩
        · refine eu_tup (ea_cons (ev_ixT (i := 1) (ev_var rfl) ev_c (st_of p13) rfl) (ea_cons (ev_ixT (i := 0) (ev_var rfl) ev_c (st_of p13) rfl) ea_nil)) (by show 2 ≤ 100000; decide) H13 (Ex.refl _) _ fun r2 H14 hr2 e14 h14 => ?_
          exact ⟨l, _, .ref r2, rfl, rfl, e14 _ _ (e13 _ _ lb kl12), lenr, fin H14 r2 (y, x) (.inr rfl) (e13.trans (ExB.of e14)) (hb13.ex e14) h14 _ _ _⟩
      · exact ⟨rs, U, gr.skip, pa11, ex11, hb11, kl11, kn11, _, _, _, rfl⟩
    · rintro σ' H' ⟨rs, U, gr, pa, ex, hb', kl, kn, c, d, e, rfl⟩
      have grl := gr.len
      have en : ((n : Int) - 1).toNat + 1 = n := by omega
      rw [en] at gr grl
      have lenr : (rs.map V.ref).length = U.length := by rw [List.length_map, pa.1]
      refine ret_of (tup_of (ta_cons ⟨_, rfl, ta_cons (ev1 ⟨_, rfl, _, rfl, b, l, _, rfl, hb', kl, by rw [lenr]; omega, fun q ys H6 pm hq e6 hb6 h6 => ?_⟩)⟩))
      have e0 : (rs.zip U).map (fun z : Addr × (Nat × Nat) => V.ref z.1) = rs.map V.ref := by
        rw [show (fun z : Addr × (Nat × Nat) => V.ref z.1) = V.ref ∘ Prod.fst from rfl, ← List.map_map, List.map_fst_zip (by rw [pa.1]; exact Nat.le_refl _)]
      rw [← e0] at pm
      obtain ⟨zs, pz, rfl⟩ := perm_lift pm
      refine ⟨q, _, rfl, .inl ⟨sq_of h6, fun tt htt => ⟨by show 2 ≤ _; rw [sizeLine_eq]; omega, fun p hp => ?_⟩⟩⟩
      have e7 : Ex H6 (upd H6 tt (.tup (zs.map fun z => V.ref z.1))) := Ex.new htt
      have e8 := e7.trans (Ex.new (o := .tup [.int (n : Int), .ref tt]) hp)
      have pU : (zs.map Prod.snd).Perm U := by
        have := pz.map Prod.snd
        rwa [List.map_snd_zip (by rw [pa.1]; exact Nat.le_refl _)] at this
      have tne : ∀ {H' : Hp} {c : Addr} {xs : List V}, BoxAt H' b → H' c = some (.tup xs) → c ≠ b := fun {H' c xs} hb hc z => by
        obtain ⟨g, r, h, _⟩ := hb
        rw [z, h] at hc
        cases hc
      have lU := pU.length_eq
      have ends : ∀ p ∈ zs.map Prod.snd, p.1 < n ∧ p.2 < n ∧ p.1 ≠ p.2 := fun p hp => by
        obtain ⟨i, j, _, _, h1, h2, h3⟩ := gr.ends p (pU.mem_iff.mp hp)
        exact ⟨nlt _ (List.mem_of_getElem? h1), nlt _ (List.mem_of_getElem? h2), h3⟩
      have fr2 : ∀ {H'' : Hp} {p : Addr}, Ex H6 H'' → H'' p = none → H p = none := fun {H'' p} e hp => fresh (ex.trans e6) (fresh_back e hp) fun z => by
        obtain ⟨g, r, h, _⟩ := hb6.ex e
        rw [← z, hp] at h
        cases h
      refine k p tt (zs.map Prod.fst) n (zs.map Prod.snd) _ (fr2 e7 hp) (fr2 (Ex.refl _) htt) ((ex.trans e6).trans (ExB.of e8)) (hb6.ex e8) upd_same ⟨?_, by rw [List.length_map, List.length_map], fun i r p a b2 => ?_⟩ ⟨n1, n12, by omega, fun p hp => ⟨(ends p hp).1, (ends p hp).2.1⟩, fun p hp => (ends p hp).2.2⟩ (by omega) (gr.forest.perm pU.symm)
      · have := (Ex.new (o := .tup [.int (n : Int), .ref tt]) hp) _ _ (upd_same (H := H6) (a := tt) (o := .tup (zs.map fun z => V.ref z.1)))
        rw [this, List.map_map]
        rfl
      · rw [List.getElem?_map] at a b2
        cases hzi : zs[i]? with
        | none => rw [hzi] at a; cases a
        | some z =>
          rw [hzi] at a b2
          cases a
          cases b2
          have hz := pz.mem_iff.mp (List.mem_of_getElem? hzi)
          obtain ⟨j, hj⟩ := List.mem_iff_getElem?.mp hz
          obtain ⟨j1, j2⟩ := List.getElem?_zip_eq_some.mp hj
          have pp := pa.2 j _ _ j1 j2
          exact e8 _ _ (e6 _ _ (tne hb' pp) pp)
end
end K30
namespace K30
open PySem PySem.Spec PyProof.Rows L2 Evl K30M
/-! ### called by keywords alone -/
structure KDf (P : Program) (w : World) (K : PySem.W.Frag) (mg : Str → Option Value) (base : Heap) (k : Nat) (x : Str) (ks ps : List Str) (gV : List V → List V → List V) (sp : Sp) : Prop where
  ex : ∃ (f : Addr) (fd : FuncData) (g : List Value → List Value → List Value), mg x = some (.ref f) ∧ PySem.W.keepIn K (.ref f) = true ∧ KBinds K fd ps ks g gV ∧ FnOk P w K mg base (L2.CX P w) k f fd ps sp
theorem KDf.mono {P : Program} {w : World} {K : PySem.W.Frag} {mg : Str → Option Value} {base : Heap} {j k : Nat} {x : Str} {ks ps : List Str} {gV : List V → List V → List V} {sp : Sp} (D : KDf P w K mg base j x ks ps gV sp) (h : j ≤ k) : KDf P w K mg base k x ks ps gV sp := by
  obtain ⟨f, fd, g, a, b, c, F⟩ := D.ex
  exact ⟨f, fd, g, a, b, c, F.mono h⟩
section
variable {P : Program} {w : World} {K : PySem.W.Frag} {mg : Str → Option Value} {base : Heap}
/-- the def's own data -/
theorem Df.fn {k : Nat} {x : Str} {ps : List Str} {sp : Sp} {f : Addr} {fd : FuncData} {params : Arguments} {body : List Stmt} {scope : Scope} {kws : List (Str × V)} (D : Df P w K mg base k x ps sp) (g : mg x = some (.ref f)) (F : FunD K x x params body scope [] kws f fd) : FnOk P w K mg base (L2.CX P w) k f fd ps sp := by
  obtain ⟨f', fd', g', kp, b, O, oc, od, osl, lk⟩ := D.ex
  rw [g] at g'
  cases g'
  obtain ⟨oc2, od2, dV, kV, doc, pm, an, cdv, ct, osl2, e, lk2, _⟩ := F.ex
  rw [lk2] at lk
  cases lk
  exact O
def gk2 {α : Type} : List α → List α → List α
  | [], [a, b] => [b, a]
  | _, _ => []
def gk4 {α : Type} : List α → List α → List α
  | [], [o, h, t, w] => [w, t, h, o]
  | _, _ => []
theorem vals_nil2 {vs : List V} (h : Vals vs []) : vs = [] := by cases h; rfl
theorem gk2_rel {vs : List V} {us : List Value} {zs : List V} {ws : List Value} (h1 : Vals vs us) (h2 : Vals zs ws) : Vals (gk2 vs zs) (gk2 us ws) := by
  cases h1 with
  | cons _ _ => exact .nil
  | nil =>
    cases h2 with
    | nil => exact .nil
    | cons a t =>
      cases t with
      | nil => exact .nil
      | cons b t =>
        cases t with
        | nil => exact .cons b (.cons a .nil)
        | cons _ _ => exact .nil
theorem gk4_rel {vs : List V} {us : List Value} {zs : List V} {ws : List Value} (h1 : Vals vs us) (h2 : Vals zs ws) : Vals (gk4 vs zs) (gk4 us ws) := by
  cases h1 with
  | cons _ _ => exact .nil
  | nil =>
    cases h2 with
    | nil => exact .nil
    | cons a t =>
      cases t with
      | nil => exact .nil
      | cons b t =>
        cases t with
        | nil => exact .nil
        | cons c t =>
          cases t with
          | nil => exact .nil
          | cons d t =>
            cases t with
            | nil => exact .cons d (.cons c (.cons b (.cons a .nil)))
            | cons _ _ => exact .nil
theorem kb2 {x a b p q : Str} {f : Addr} {fd : FuncData} {params : Arguments} {body : List Stmt} {scope : Scope} {kws : List (Str × V)} (F : FunD K x x params body scope [] kws f fd)
    (h : ∀ (kV doc pm : Value) (an : Option Addr) (cdv ct u v : Value), bindArgs (PySem.W.fnOf x x params body scope .none kV doc pm an cdv ct) ⟨[], [(a, u), (b, v)]⟩ = pure [(p, v), (q, u)]) : KBinds K fd [p, q] [a, b] gk2 gk2 := by
  obtain ⟨oc, od, dV, kV, doc, pm, an, cdv, ct, osl, rfl, lk, hcd, hD, hK⟩ := F.ex
  rcases hD with ⟨_, rfl⟩ | ⟨e, _⟩
  · refine ⟨fun s us ws _ hl => ?_, gk2_rel⟩
    match us, ws, hl with
    | [], [u, v], _ => exact BindsTo.of_eq (h kV doc pm an cdv ct u v)
    | [], [], hl => cases hl
    | [], [_], hl => cases hl
    | [], _ :: _ :: _ :: _, hl => cases hl
    | _ :: _, _, hl => cases hl
  · exact absurd rfl e
theorem kb4 {x a b c d p q r t : Str} {f : Addr} {fd : FuncData} {params : Arguments} {body : List Stmt} {scope : Scope} {kws : List (Str × V)} (F : FunD K x x params body scope [] kws f fd)
    (h : ∀ (kV doc pm : Value) (an : Option Addr) (cdv ct u v y z : Value), bindArgs (PySem.W.fnOf x x params body scope .none kV doc pm an cdv ct) ⟨[], [(a, u), (b, v), (c, y), (d, z)]⟩ = pure [(p, z), (q, y), (r, v), (t, u)]) : KBinds K fd [p, q, r, t] [a, b, c, d] gk4 gk4 := by
  obtain ⟨oc, od, dV, kV, doc, pm, an, cdv, ct, osl, rfl, lk, hcd, hD, hK⟩ := F.ex
  rcases hD with ⟨_, rfl⟩ | ⟨e, _⟩
  · refine ⟨fun s us ws _ hl => ?_, gk4_rel⟩
    match us, ws, hl with
    | [], [u, v, y, z], _ => exact BindsTo.of_eq (h kV doc pm an cdv ct u v y z)
    | [], [], hl => cases hl
    | [], [_], hl => cases hl
    | [], [_, _], hl => cases hl
    | [], [_, _, _], hl => cases hl
    | [], _ :: _ :: _ :: _ :: _ :: _, hl => cases hl
    | _ :: _, _, hl => cases hl
  · exact absurd rfl e
theorem kd_rest_after (T : Tx P K mg base) : KDf P w K mg base 6 "rest_after" ["turns", "web"] ["web", "turns"] gk2 (spRestAfter K) := by
  obtain ⟨fd, F⟩ := T.d_rest_after
  exact ⟨_, fd, gk2, T.g_rest_after, F.kp, kb2 F fun _ _ _ _ _ _ _ _ => rfl, (k_rest_after T).fn T.g_rest_after F⟩
theorem kd_check_turns (T : Tx P K mg base) : KDf P w K mg base 4 "check_turns" ["value", "web"] ["web", "value"] gk2 (spCheckTurns K) := by
  obtain ⟨fd, F⟩ := T.d_check_turns
  exact ⟨_, fd, gk2, T.g_check_turns, F.kp, kb2 F fun _ _ _ _ _ _ _ _ => rfl, (k_check_turns T).fn T.g_check_turns F⟩
theorem kd_turns_heard (T : Tx P K mg base) : KDf P w K mg base 5 "turns_heard" ["other", "house", "turns", "web"] ["web", "turns", "house", "other"] gk4 (spTurnsHeard K) := by
  obtain ⟨fd, F⟩ := T.d_turns_heard
  exact ⟨_, fd, gk4, T.g_turns_heard, F.kp, kb4 F fun _ _ _ _ _ _ _ _ _ _ => rfl, (k_turns_heard T).fn T.g_turns_heard F⟩
end
section
variable {X : Cx} {k : Nat} {ps ks : List Str} {sp : Sp} {x : Str} {p pos : Pos} {kws : List Keyword} {tk : TA} {gV : List V → List V → List V}
theorem pe_kw (D : KDf X.prog X.w X.K X.mg X.base k x ks ps gV sp) (hr : Room k X.A) (hkw : PK X kws tk) (hg : Gl X x := by rfl) (hall : (backToKw pos (keywordEach kws X.env)).all (·.1.isSome) = true := by rfl) (hks : (backToKw pos (keywordEach kws X.env)).filterMap (·.1) = ks := by rfl)
    (hdb : (x == ("__debug__" : Str)) = false := by decide) (hpl : ((backTo pos (starEach [] X.env)).any (·.1) || (backToKw pos (keywordEach kws X.env)).any (·.1.isNone)) = false := by rfl) :
    PE X (.Call (.Name x p) [] kws pos) (tCallK sp gV E0 tNil tk) := by
  obtain ⟨f, fd, g, hm, kp, hb, F⟩ := D.ex
  refine ⟨fun pins s σ H Q I h => ?_⟩
  refine wpAny_Call_Name_kw (ld_glob I hg hm ?_ hdb)
  refine PySem.W.callWith_KW0 (h₀ := X.base) I.ok.mod.kin kp hall (thn (hkw.run pos pins s σ H _ I h) fun ws s2 ⟨zs, H2, I2, rz, q2⟩ => ⟨I2.kIn, ?_⟩) hpl
  rw [hks]
  exact run_fnk (us := []) (vs := []) F hr hb passL I2 .nil rz q2
theorem pe_net {K : PySem.W.Frag} {mg : Str → Option Value} {base : Heap} (T : Txt K mg base) {X : Cx} {a b c d : Expr} {t : TA} {p pos : Pos} {k : Nat} (hK : X.K = K) (hm : X.mg = mg) (hb : X.base = base) (hr : Room k X.A) (hk : 6 ≤ k) (ha : PA X [a, b, c, d] t) (hg : Gl X "CounterNet" := by rfl)
    (he : starEach (a :: [b, c, d]) X.env = (false, eval a X.env) :: starEach [b, c, d] X.env := by rfl) (hpl : (backTo pos (starEach [b, c, d] X.env)).any (·.1) = false := by rfl) : PE X (.Call (.Name "CounterNet" p) [a, b, c, d] [] pos) (tMake (He.ga K "CounterNet") (spNetInit K) [] E0 t) := by
  subst hK hm hb
  obtain ⟨fd, b, F⟩ := (k_Net_init (P := X.prog) (w := X.w) T).ex
  exact pe_make T.m_CounterNet F (hr.mono hk) hg T.g_CounterNet b .nil passL ha (by decide) he hpl
theorem pe_meet {K : PySem.W.Frag} {mg : Str → Option Value} {base : Heap} (T : Txt K mg base) {X : Cx} {o e : Expr} {ta : TE} {t : TA} {apos pos : Pos} {k : Nat} {pl : Sem Bool} (hK : X.K = K) (hm : X.mg = mg) (hb : X.base = base) (hr : Room k X.A) (hk : 5 ≤ k) (he : PE X o ta) (ha : PA X [e] t)
    (hst : starEach (e :: []) X.env = (false, eval e X.env) :: starEach [] X.env := by rfl) (hpl : (backTo pos (starEach [] X.env)).any (·.1) = false := by rfl)
    (ht : eval (.Call (.Attribute o "meet" apos) (e :: []) [] pos) X.env = (do
      let ov ← eval o X.env
      standAt apos.atName
      let (f, first) ← holding [ov] (getMethod ov "meet" pl)
      callWith pos f first (backTo pos (starEach (e :: []) X.env)) (backToKw pos (keywordEach [] X.env))) := by rfl) :
    PE X (.Call (.Attribute o "meet" apos) [e] [] pos) (tMeth (He.ga K "CounterNet") "meet" (spMeet K) [] E0 ta t) := by
  subst hK hm hb
  obtain ⟨fd, b, F⟩ := (k_Net_meet (P := X.prog) (w := X.w) T).ex
  exact pe_meth he T.c_CounterNet T.t_CounterNet_meet F (hr.mono hk) b .nil passL ha hst hpl ht
/-! ### repr -/
def ShS : V → Str → Prop
  | .non, t => t = "None"
  | .bl b, t => t = if b then "True" else "False"
  | .int i, t => i.natAbs.log2 < 1920 ∧ t = toString i
  | .str x, t => (reprText x).length ≤ sizeLine ∧ t = reprText x
  | _, _ => False
def rReprS : List V → Hp → VK → Prop := fun xs H Q => ∃ v t, xs = [v] ∧ ShS v t ∧ Q (.str t) H
theorem call_reprS : CallR X (.builtin "repr") rReprS := by
  intro pins s σ H xs us Q I r h
  obtain ⟨v, t, rfl, hs, q⟩ := h
  obtain ⟨u, rfl, rv⟩ := vals1 r
  cases v with
  | non =>
    obtain rfl : u = Value.none := rv
    obtain rfl : t = "None" := hs
    exact PySem.P.repr_of_none ⟨.str _, H, I.tok _, ⟨_, rfl⟩, q⟩
  | bl b =>
    obtain rfl : u = Value.bool b := rv
    obtain rfl : t = if b then "True" else "False" := hs
    exact PySem.P.repr_of_bool ⟨.str _, H, I.tok _, ⟨_, rfl⟩, by cases b <;> exact q⟩
  | int i =>
    obtain ⟨t', rfl⟩ := (show ∃ t, u = Value.int i t from rv)
    obtain ⟨hz, rfl⟩ := (show i.natAbs.log2 < 1920 ∧ t = toString i from hs)
    exact PySem.P.repr_of_int hz ⟨.str _, H, I.tok _, ⟨_, rfl⟩, q⟩
  | str y =>
    obtain ⟨t', rfl⟩ := (show ∃ t, u = Value.str y t from rv)
    obtain ⟨hz, rfl⟩ := (show (reprText y).length ≤ sizeLine ∧ t = reprText y from hs)
    exact PySem.P.repr_of_str ⟨.str _, H, I.tok _, ⟨_, rfl⟩, q⟩ hz
  | _ => exact False.elim hs
end
end K30
namespace K30
open PySem PySem.Spec PyProof.Rows L2 Evl K30M
theorem due_le {n : Nat} {T : Ties} {ts : List Nat} {k : Nat} (en : Ends n T) (o : Order T ts) (d : Due n T ts k) : k ≤ n * T.length := by
  apply Classical.byContradiction
  intro z
  by_cases hT : 0 < T.length
  · exact d.first (n * T.length) (by omega) (whole_by en o hT)
  · have e : T = [] := List.eq_nil_of_length_eq_zero (by omega)
    subst e
    exact d.first 0 (by omega) (whole_nil n _)
theorem sv_rest {K : PySem.W.Frag} {H : Hp} {x tn : Addr} {n : Nat} {T : Ties} {ts : List Nat} {k : Nat} (W : WebAt K H x n T) (tr : Tree n T) (ht : TurnsAt H tn ts) (ho : Order T ts) (hd : Due n T ts k) : SpV (spRestAfter K) [.ref x, .ref tn] H (.int (k : Int)) := fun H1 e1 Q q E =>
  ⟨x, n, T, _, rfl, W.mono e1, .inl ⟨tr, tn, ts, rfl, ht.ex e1, ho, fun k' H2 d e2 => by rw [Due.same d hd]; exact q H2 e2⟩⟩
theorem ev_kwL {sp : Sp} {E : XK} {te tb : TE} {σ : L2.St} {H : Hp} {xs : List V} {x : Addr} {z : V} (h : EvL te σ H xs) (hb : Ev tb σ H (.ref x)) (hs : ∀ l H1, Ex H H1 → H1 l = some (.lst xs) → SpV sp [.ref x, .ref l] H1 z) :
    Ev (tCallK sp gk2 E tNil (tCons te (tCons tb tNil))) σ H z := fun H1 e1 Q q =>
  h H1 e1 _ fun l H2 hl e2 h2 => hb H2 (e1.trans e2) _ fun H3 e3 => hs l H3 ((e1.trans e2).trans e3) (e3 _ _ h2) H3 (Ex.refl _) Q (fun H4 e4 => q H4 ((e2.trans e3).trans e4)) E
theorem ev_reprS {σ : L2.St} {H : Hp} {te : TE} {v : V} {t : Str} (h : Ev te σ H v) (hs : ShS v t) : Ev (tCB rReprS (tCons te tNil)) σ H (.str t) := fun H1 e1 Q q => h H1 e1 _ fun H2 e2 => ⟨v, t, rfl, hs, q H2 e2⟩
theorem shS_nat {k : Nat} (h : k ≤ 1900) : ShS (.int (k : Int)) (toString (k : Int)) := ⟨by
  have := Nat.log2_le_self k
  show k.log2 < 1920
  omega, rfl⟩
/-- a comprehension whose items draw from the box -/
theorem lc_box {K : PySem.W.Frag} {σ : L2.St} {H H0 : Hp} {te : TE} {wi : TI} {n : Nat} {g : TG} {vs : List Nat} {YY : Nat → V → Hp → Prop} {b : Addr} {Pi : Int → Prop} (src : Src wi σ H0 H n YY) (hn : n ≤ 40000) (hb : BoxAt H b) (hG : ∀ H', ExB b H H' → Ex H0 H')
    (hs : ∀ i x H1, ExB b H H1 → BoxAt H1 b → i < n → YY i x H1 → ∀ Q : L2.St → Hp → Prop, (∀ σ2, wipe σ2 vs = wipe σ vs → (∀ Q2 : VK, (∀ v H2, Pi v → ExB b H1 H2 → BoxAt H2 b → Q2 (.int v) H2) → te σ2 H1 Q2) → Q σ2 H1) → g x (wipe σ vs) H1 Q)
    {Q : VK} (q : ∀ p H2 (ns : List Int), H p = none → ExB b H H2 → BoxAt H2 b → H2 p = some (.lst (ns.map V.int)) → ns.length = n → (∀ v ∈ ns, Pi v) → Q (.ref p) H2) : tLc wi g tYes te vs σ H Q :=
  src H (Ex.refl H) _ fun J H2 Y G e2 W hGG hY Dl hD => by
  have hb2 := hb.ex e2
  have Db : Dl ≠ b := ne_box hb2 hD
  refine lc_it W (fun i H' => ExB b H H' ∧ BoxAt H' b ∧ ∃ ns : List Int, H' Dl = some (.lst (ns.map V.int)) ∧ ns.length = i ∧ ∀ v ∈ ns, Pi v) ⟨(ExB.of e2).trans (ExB.of (Ex.new hD)), hb2.ex (Ex.new hD), [], upd_same, rfl, fun _ h => (nomatch h)⟩ (fun i H' _ p => hGG _ (hG _ p.1)) ?_ (fun H' p => by
    obtain ⟨p1, p2, ns, p3, p4, p5⟩ := p
    exact q Dl H' ns (fresh_back e2 hD) p1 p2 p3 p4 p5)
  intro i x H3 H4 hi p hy
  obtain ⟨p1, p2, ns, p3, p4, p5⟩ := p
  obtain ⟨e3, yy⟩ := hY i H3 x H4 hi (hG _ p1) hy
  refine hs i x H4 (p1.trans (ExB.of e3)) (p2.ex e3) hi yy _ fun σ2 hw ht => ⟨hw, ?_⟩
  refine iteT (B := ExB b H H4 ∧ BoxAt H4 b ∧ ∃ ns : List Int, H4 Dl = some (.lst (ns.map V.int)) ∧ ns.length = i + 1 ∧ ∀ v ∈ ns, Pi v) ?_
  refine ht _ fun v H5 hv e5 hb5 => ?_
  have h5 := e5 _ _ Db (e3 _ _ p3)
  refine ⟨ns.map V.int, h5, by rw [List.length_map, sizeLine_eq]; omega, ?_, ?_, ns ++ [v], by rw [upd_same, List.map_append]; rfl, by rw [List.length_append, p4]; rfl, fun u hu => ?_⟩
  · intro c o hc ho
    rw [upd_ne (fun z => by rw [z, fresh_back e2 hD] at ho; cases ho)]
    exact e5 _ _ hc (e3 _ _ (p1 _ _ hc ho))
  · obtain ⟨g', r', hh, h'⟩ := hb5
    exact ⟨g', r', by rw [upd_ne (Ne.symm Db)]; exact hh, h'⟩
  · rcases List.mem_append.mp hu with hu | hu
    · exact p5 u hu
    · rw [List.mem_singleton.mp hu]
      exact hv
/-- from numbers, all small -/
theorem ints_hV {m : Int} (hm : m = 0 ∨ m = 10) {ns : List Int} {f : Nat → Int} (h : ∀ v ∈ ns, 0 ≤ v ∧ v ≤ 9) (hf : ∀ i, i < ns.length → f i = ns.getD i 0) : ns.map V.int = hV ns.length m f := by
  unfold hV
  rw [← map_getD2 V.int ns 0]
  refine List.map_congr_left fun i hi => ?_
  have hi := List.mem_range.mp hi
  rw [hf i hi]
  have := h (ns.getD i 0) (by rw [List.getD_eq_getElem?_getD, List.getElem?_eq_getElem hi]; exact List.getElem_mem hi)
  unfold cM
  rcases hm with rfl | rfl
  · rw [if_neg (by omega)]
  · rw [if_pos (by omega), Int.emod_eq_of_lt this.1 (by omega)]
theorem ex_one {tt : Addr} {u : HO} {H' : Hp} (h : H' tt = some u) : Ex (fun a => if a = tt then some u else none) H' := fun a o z => by
  by_cases e : a = tt
  · subst e
    have z := (if_pos rfl : (if a = a then some u else none) = some u).symm.trans z
    cases z
    exact h
  · have z := (if_neg e : (if a = tt then some u else none) = none).symm.trans z
    cases z
theorem make_of {C : Addr} {sp : Sp} {dvs : List V} {E : XK} {t : TA} {σ : L2.St} {H : Hp} {Q : VK} (h : t σ H fun vs H1 => ∀ x dx, H1 x = none → H1 dx = none → dx ≠ x → sp (.ref x :: (vs ++ dvs)) (upd (upd H1 dx (.own x)) x (.ins C dx [])) (fun v H2 => v = .non ∧ Q (.ref x) H2) E) : tMake C sp dvs E t σ H Q := h
def spRestRight : Sp := fun vs H Q _ => ∃ (b tt tn : Addr) (rs : List Addr) (n : Nat) (T : Ties) (ts : List Nat), vs = [.ref b, .int (n : Int), .ref tt, .ref tn] ∧ BoxAt H b ∧ TiesAt H tt rs T ∧ Good n T ∧ Forest T ∧ H tn = some (.tup (natV ts)) ∧ Order T ts ∧
  ∀ H2, ExB b H H2 → BoxAt H2 b → Q (.bl true) H2
section
variable {P : Program} {w : World} {K : PySem.W.Frag} {mg : Str → Option Value} {base : Heap}
theorem sc__law_rest_right : FnScope ["_law_box_here", "_law_many", "_law_ties", "_law_turns", "_law_web", "_law_due_here", "_law_states", "_law_net", "_law_turn", "_law_house", "_law_state", "_law_tie"] ["_law_box_here", "_law_many", "_law_ties", "_law_turns"] (defScope (top 57)) := ⟨rfl, rfl, rfl, by decide +kernel, rfl, by decide +kernel, by decide +kernel⟩
theorem k_rest_right (T : Tx P K mg base) : Df P w K mg base 8 "_law_rest_right" ["_law_box_here", "_law_many", "_law_ties", "_law_turns"] spRestRight := by
  obtain ⟨fd, F⟩ := T.d__law_rest_right
  have D_rest_after := (k_rest_after (w := w) T).mono (show 6 ≤ 7 by decide)
  have KD_rest_after := (kd_rest_after (w := w) T).mono (show 6 ≤ 7 by decide)
  have D__law_due := (k_due (P := P) (w := w) T.toTxt).mono (show 2 ≤ 7 by decide)
  have D__law_take := (k_take (P := P) (w := w) T.toTxt).mono (show 1 ≤ 7 by decide)
  have D__law_pick := (k_pick (P := P) (w := w) T.toTxt).mono (show 2 ≤ 7 by decide)
  have D_is_rest := (k_is_rest (P := P) (w := w) T.toTxt).mono (show 1 ≤ 7 by decide)
  refine Df.mk1 (i := 57) T.g__law_rest_right F (fun _ _ _ _ _ _ us hl => match us, hl with | [_, _, _, _], _ => rfl) (F.ok sc__law_rest_right (fun vs H Q E h => ?_) (fun cdv A outer s H vs Q E hr h => ?_))
  · obtain ⟨_, _, _, _, _, _, _, rfl, _⟩ := h
    rfl
  · obtain ⟨b, tt, tn, rs, n, S, ts, rfl, hb, ht, g, fo, hn, ho, k⟩ := h
    have t20 := g.t20
    have n12 := g.n12
    have tr := fo.tree g.ends
    have br := fo.bridged
    refine ⟨_, PSs.nox (pss_cons (ps_set (i := 4) sc__law_rest_right.nd rfl (Or.inl rfl) (pe_web T.toTxt rfl rfl rfl hr (by decide) (pa_cons (pv 1) (pa_cons (pv 2) pa_nil)))) (pss_cons (ps_set (i := 5) sc__law_rest_right.nd rfl (Or.inl rfl) (pe_d0 D__law_due hr (pa_cons (pv 2) (pa_cons (pv 1) (pa_cons (pv 3) pa_nil))))) (pss_cons (ps_if (pw_or (pt_cmpR op_ne (pe_callB call_reprS (by rfl) T.f_repr bt_repr (pa_cons (pe_d0 D_rest_after hr (pa_cons (pv 4) (pa_cons (pv 3) pa_nil))) pa_nil)) (pe_callB call_reprS (by rfl) T.f_repr bt_repr (pa_cons (pv 5) pa_nil)) (nomark _)) (pw_or1 (pt_cmpR op_ne (pe_kw KD_rest_after hr (pk_cons (pe_callTy (bc_list (K := K) rfl) (by rfl) T.f_list bt_list (pa_cons (pv 3) pa_nil)) (pk_cons (pv 4) pk_nil))) (pv 5) (nomark _)))).pt (pss_one (ps_ret pe_bl)) pss_nil) (pss_cons (ps_setLc (i := 6) (own := [("_law_house", 9)]) (g := (gName 9)) rfl sc__law_rest_right.nd rfl rfl (sw_true rfl rfl rfl (by decide +kernel)) (pi_range1 (by rfl) T.f_range (pa_cons (pv 1) pa_nil)) (blkOk_by (N := ["_law_box_here", "_law_many", "_law_ties", "_law_turns", "_law_web", "_law_due_here", "_law_states", "_law_net", "_law_turn", "_law_house", "_law_state", "_law_tie"]) (sc := defScope (top 57)) (by decide +kernel)) (fun _ _ _ _ _ => (pg_name (i := 9) sc__law_rest_right.nd rfl (Or.inl rfl))) (fun _ _ _ _ _ => pts_nil) (fun _ _ _ _ _ => (pe_op op_sub (pe_d0 D__law_take hr (pa_cons (pv 0) (pa_cons pe_int pa_nil))) pe_int))) (pss_cons (ps_set (i := 7) sc__law_rest_right.nd rfl (Or.inl rfl) (pe_net T.toTxt rfl rfl rfl hr (by decide) (pa_cons (pv 4) (pa_cons (pe_d0 D__law_pick hr (pa_cons (pv 0) (pa_cons (pe_lst (pa_cons pe_int (pa_cons pe_int pa_nil))) pa_nil))) (pa_cons (pe_lc (own := [("_law_state", 10)]) (g := (gName 10)) rfl sc__law_rest_right.nd (pi_list (pv 6)) (blkOk_by (N := ["_law_box_here", "_law_many", "_law_ties", "_law_turns", "_law_web", "_law_due_here", "_law_states", "_law_net", "_law_turn", "_law_house", "_law_state", "_law_tie"]) (sc := defScope (top 57)) (by decide +kernel)) (fun _ _ _ _ _ => (pg_name (i := 10) sc__law_rest_right.nd rfl (Or.inl rfl))) (fun _ _ _ _ _ => pts_nil) (fun _ _ _ _ _ => (pe_callB call_abs (by rfl) T.f_abs bt_abs (pa_cons (pv 10) pa_nil)))) (pa_cons (pe_lc (own := [("_law_tie", 11)]) (g := (gName 11)) rfl sc__law_rest_right.nd (pi_tup (pv 2)) (blkOk_by (N := ["_law_box_here", "_law_many", "_law_ties", "_law_turns", "_law_web", "_law_due_here", "_law_states", "_law_net", "_law_turn", "_law_house", "_law_state", "_law_tie"]) (sc := defScope (top 57)) (by decide +kernel)) (fun _ _ _ _ _ => (pg_name (i := 11) sc__law_rest_right.nd rfl (Or.inl rfl))) (fun _ _ _ _ _ => pts_nil) (fun _ _ _ _ _ => (pe_d0 D__law_take hr (pa_cons (pv 0) (pa_cons pe_int pa_nil))))) pa_nil)))))) (pss_cons (ps_for PassesOwn.never rfl (pi_range1 (by rfl) T.f_range (pa_cons (pv 5) pa_nil)) (pg_name (i := 8) sc__law_rest_right.nd rfl (Or.inl rfl)) (pss_one (ps_expr (pe_meet T.toTxt rfl rfl rfl hr (by decide) (pv 7) (pa_cons (pe_ix (bix_tup (K := K) rfl) (pv 3) (pe_op op_mod (pe_callTy call_int1 (by rfl) T.f_int bt_int (pa_cons (pv 8) pa_nil)) (pe_callB (bc_len (K := K) rfl) (by rfl) T.f_len bt_len (pa_cons (pv 3) pa_nil))) (fun _ _ => rfl)) pa_nil))))) (pss_one (ps_ret (pe_cmpR op_is_bl (pe_d0 D_is_rest hr (pa_cons (pv 7) pa_nil)) pe_bl (nomark _)))))))))), ?_⟩
    refine q_any (ev_web (ea_cons (ev_var rfl) (ea_cons (ev_var rfl) ea_nil)) ht g H (Ex.refl H) _ fun x H1 hx e1 W => ?_)
    refine q_any ⟨_, rfl, _, rfl, _, rfl, tt, tn, rs, n, S, ts, rfl, ht.ex e1, g, e1 _ _ hn, ho, br, fun kk H2 hd e2 => ?_⟩
    have kle := due_le g.ends ho hd
    have k240 : kk ≤ 240 := Nat.le_trans kle (Nat.le_trans (Nat.mul_le_mul n12 t20) (by decide))
    have e12 := e1.trans e2
    have W2 := W.mono e2
    have hn2 := e12 _ _ hn
    refine q_when (b := false) (et_is (et_or (et_test (ev_op (ev_reprS (SpV.call (ea_cons (ev_var rfl) (ea_cons (ev_var rfl) ea_nil)) (sv_rest W2 tr (.inr hn2) ho hd)) (shS_nat (by omega))) (ev_reprS (ev_var rfl) (shS_nat (by omega))) (rv_ne rfl))) fun _ => et_test (ev_op (ev_kwL (el_listT (ev_var rfl) (st_of hn2)) (ev_var rfl) fun l H3 e3 h3 => sv_rest (W2.mono e3) tr (.inl h3) ho hd) (ev_var rfl) (rv_ne rfl))) ?_) (fun z => Bool.noConfusion z) fun _ H3 e3 => ?_
    · rw [decide_eq_true rfl, decide_eq_true rfl]
      rfl
    have e13 := e12.trans e3
    have hb3 := hb.ex e13
    have W3 := W2.mono e3
    -- the states
    refine q_any (lc_box (K := K) (b := b) (σ := [some (V.ref b), some (.int (n : Int)), some (.ref tt), some (.ref tn), some (.ref x), some (.int (kk : Int)), none, none, none, none, none, none]) (vs := [9]) (g := gName 9) (Pi := fun v => -9 ≤ v ∧ v ≤ 9) (src_r1 (H0 := fun _ => none) (m := (n : Int)) (ea_cons (ev_var (i := 1) rfl) ea_nil) (by omega)) (by omega) hb3 (fun H' _ a o z => by cases z)
      (fun i y H4 e4 hb4 hi hy Q q => q _ rfl fun Q2 q2 => op_2 (tk (m := 19) (ev_var rfl) ev_c hb4 (by omega) (by omega) fun v H5 hv e5 hb5 => ⟨(v : Int), 9, rfl, rfl, q2 _ H5 (by omega) e5 hb5⟩)) fun sl H4 ns hsl e4 hb4 h4 nl nr => ?_)
    have nl : ns.length = n := by omega
    have bs : ∃ o, H3 b = some o := by obtain ⟨g, r, h, _⟩ := hb3; exact ⟨_, h⟩
    have slb : sl ≠ b := ne_box hb3 hsl
    have tne : ∀ {H' : Hp} {c : Addr} {o : HO}, BoxAt H' b → H' c = some o → (∀ l, o ≠ .lst l) → c ≠ b := fun {H' c o} hb hc no z => by
      obtain ⟨g, r, h, _⟩ := hb
      rw [z, h] at hc
      exact no _ (Option.some.inj hc).symm
    have webB : ∀ {H' H'' : Hp}, BoxAt H' b → ExB b H' H'' → WebAt K H' x n S → WebAt K H'' x n S := fun {H' H''} hb e w => by
      obtain ⟨⟨dx, tt, rs, h, t⟩, g⟩ := w
      exact ⟨⟨dx, tt, rs, e _ _ (tne hb h fun _ z => by cases z) h, e _ _ (tne hb t.at_ fun _ z => by cases z) t.at_, t.len, fun i r p a b2 => e _ _ (tne hb (t.pair i r p a b2) fun _ z => by cases z) (t.pair i r p a b2)⟩, g⟩
    have W4 := webB hb3 e4 W3
    have hn3 := e3 _ _ hn2
    have hn4 := e4 _ _ (tne hb3 hn3 fun _ z => by cases z) hn3
    have ht3 : SqT K H3 tt (rs.map V.ref) := st_of (e13 _ _ ht.at_)
    have htt3 := e13 _ _ ht.at_
    have htt4 := e4 _ _ (tne hb3 htt3 fun _ z => by cases z) htt3
    -- the net
    refine q_any (make_of (ta_cons ⟨_, rfl, ta_cons ⟨_, rfl, ta_cons (el_lst (ea_cons ev_c (ea_cons ev_c ea_nil)) (by show 2 ≤ 100000; decide) H4 (Ex.refl _) _ fun pl H5 hpl e5 h5 => ⟨b, pl, _, rfl, hb4.ex e5, h5, ne_box hb4 hpl, by show 1 ≤ 2; omega, by show 2 ≤ 1000; omega, fun i mv H6 hmv e6 hb6 => ?_⟩)⟩⟩))
    have hm : ∃ m : Int, mv = .int m ∧ (m = 0 ∨ m = 10) := by
      match i, hmv with
      | 0, hmv => cases hmv; exact ⟨0, rfl, .inl rfl⟩
      | 1, hmv => cases hmv; exact ⟨10, rfl, .inr rfl⟩
    obtain ⟨m, rfl, hm⟩ := hm
    have b46 := (ExB.of e5).trans e6
    have h6 := b46 _ _ slb h4
    have W6 := webB hb4 b46 W4
    have hn6 := b46 _ _ (tne hb4 hn4 fun _ z => by cases z) hn4
    have htt6 := b46 _ _ (tne hb4 htt4 fun _ z => by cases z) htt4
    have habs := el_lcW (vs := [10]) (tt := tYes) (te := tCB (fun xs H Q => ∃ i, xs = [.int i] ∧ Q (.int (if i < 0 then -i else i)) H) (tCons (tVar 10) tNil)) (g := gName 10) (src_list (K := K) (H0 := H6) (H := H6) (σ := [some (V.ref b), some (.int (n : Int)), some (.ref tt), some (.ref tn), some (.ref x), some (.int (kk : Int)), some (.ref sl), none, none, none, none, none]) (ev_var (i := 6) rfl) (Ex.refl H6) (sq_of h6)) (by rw [List.length_map]; omega)
      (fun _ => true) (fun i => (fun v : Int => V.int (if v < 0 then -v else v)) (ns.getD i 0)) fun i y H7 e7 hi hy Q q => q _ rfl (fun H8 e8 Q3 q3 => q3 H8 (Ex.refl _)) fun _ => by
        rw [List.getElem?_map] at hy
        cases hv : ns[i]? with
        | none => rw [hv] at hy; cases hy
        | some v =>
          rw [hv] at hy
          cases hy
          rw [List.getD_eq_getElem?_getD, hv, Option.getD_some]
          exact ev_abs1 (ev_var rfl)
    rw [given_all, List.length_map, map_getD2 (fun v : Int => V.int (if v < 0 then -v else v))] at habs
    refine ta_cons (habs H6 (Ex.refl _) _ fun la H7 hla e7 h7 => ?_)
    have hb7 := hb6.ex e7
    have htt7 := e7 _ _ htt6
    refine ta_cons (lc_box (K := K) (b := b) (H0 := fun a => if a = tt then some (.tup (rs.map V.ref)) else none) (vs := [11]) (g := gName 11) (Pi := fun v => 0 ≤ v ∧ v ≤ 9) (src_tup (K := K) (ev_var rfl) (ex_one htt7) (xs := rs.map V.ref) (.inl (.inl (if_pos rfl)))) (by rw [List.length_map, ht.len]; omega) hb7 (fun H' e => ex_one (e _ _ (tne hb7 htt7 fun _ z => by cases z) htt7))
      (fun i y H8 e8 hb8 hi hy Q q => q _ rfl fun Q2 q2 => tk (m := 10) (ev_var rfl) ev_c hb8 (by omega) (by omega) fun v H9 hv e9 hb9 => q2 _ H9 (by omega) e9 hb9) fun lb H8 as hlb e8 hb8 h8 al ar => ?_)
    have al : as.length = S.length := by rw [al, List.length_map, ht.len]
    intro a dx ha hdx ndx
    have W8 := webB hb7 e8 (W6.mono e7)
    have hn7 := e7 _ _ hn6
    have hn8 := e8 _ _ (tne hb7 hn7 fun _ z => by cases z) hn7
    have lab : la ≠ b := ne_box hb6 hla
    have h7' := e8 _ _ lab h7
    have eN1 : Ex H8 (upd H8 dx (.own a)) := Ex.new hdx
    have ha' : upd H8 dx (.own a) a = none := by rw [upd_ne (Ne.symm ndx)]; exact ha
    have eN : Ex H8 (upd (upd H8 dx (.own a)) a (.ins (He.ga K "CounterNet") dx [])) := eN1.trans (Ex.new ha')
    have absr : ∀ v ∈ ns.map (fun v : Int => if v < 0 then -v else v), 0 ≤ v ∧ v ≤ 9 := fun v hv => by
      obtain ⟨u, hu, rfl⟩ := List.mem_map.mp hv
      have := nr u hu
      split <;> omega
    have absl : (ns.map (fun v : Int => if v < 0 then -v else v)).length = n := by rw [List.length_map, nl]
    have e1' : ns.map (fun v : Int => V.int (if v < 0 then -v else v)) = hV n m fun i => (ns.map (fun v : Int => if v < 0 then -v else v)).getD i 0 := by
      have := ints_hV hm (ns := ns.map (fun v : Int => if v < 0 then -v else v)) (f := fun i => (ns.map (fun v : Int => if v < 0 then -v else v)).getD i 0) absr (fun i _ => rfl)
      rw [absl, List.map_map] at this
      exact this
    have e2' : as.map V.int = hV S.length m fun i => as.getD i 0 := by
      have := ints_hV hm (ns := as) (f := fun i => as.getD i 0) ar (fun i _ => rfl)
      rw [al] at this
      exact this
    rw [e1'] at h7'
    rw [e2'] at h8
    have gd : ∀ {l : List Int} {i : Nat}, i < l.length → (∀ v ∈ l, 0 ≤ v ∧ v ≤ 9) → 0 ≤ l.getD i 0 ∧ l.getD i 0 ≤ 9 := fun {l i} hi h => by
      rw [List.getD_eq_getElem?_getD, List.getElem?_eq_getElem hi]
      exact h _ (List.getElem_mem hi)
    refine ⟨a, x, la, lb, dx, n, S, m, (fun i => (ns.map (fun v : Int => if v < 0 then -v else v)).getD i 0, fun j => as.getD j 0), rfl, upd_same, W8.mono eN, hm, fun i hi => gd (by rw [absl]; exact hi) absr, fun i hi => gd (by rw [al]; exact hi) ar, eN _ _ h7', eN _ _ h8, fun H9 b9 N => ⟨rfl, ?_⟩⟩
    generalize ((fun i => (ns.map (fun v : Int => if v < 0 then -v else v)).getD i 0, fun j => as.getD j 0) : Held) = p0 at N
    have aw : ∀ {H' : Hp} {fs : List (Str × V)}, H' a = some (.ins (He.ga K "CounterNet") dx fs) → True := fun _ => trivial
    have hbN := hb8.ex eN
    have ab : a ≠ b := ne_box hb8 ha
    have boxA : ∀ {H' H'' : Hp}, BoxAt H' b → ExB a H' H'' → BoxAt H'' b := fun {H' H''} hb e => by
      obtain ⟨g, r, h, h'⟩ := hb
      exact ⟨g, r, e _ _ (Ne.symm ab) h, h'⟩
    have hb9 := boxA hbN b9
    have ha0 : H a = none := by
      cases q : H a with
      | none => rfl
      | some o =>
        have c1 := (((ExB.of (a := b) e13).trans e4).trans (b46.trans (ExB.of e7))).trans e8
        rw [c1 a o ab q] at ha
        cases ha
    have ex8 := (((ExB.of (a := b) e13).trans e4).trans (b46.trans (ExB.of e7))).trans e8
    have exN := ex8.trans (ExB.of eN)
    have cap : ∀ {H' H'' : Hp}, ExB b H H' → ExB a H' H'' → ExB b H H'' := fun {H' H''} e f c o hc ho => f c o (fun z => by rw [z, ha0] at ho; cases ho) (e c o hc ho)
    have hN8 : (upd (upd H8 dx (.own a)) a (.ins (He.ga K "CounterNet") dx [])) a = some (.ins (He.ga K "CounterNet") dx []) := upd_same
    have W9 : WebAt K H9 x n S := b9.web (W8.mono eN) hN8 rfl
    have tna : tn ≠ a := fun z => by rw [z] at hn8; rw [hn8] at ha; cases ha
    have hn9 := b9 _ _ tna (eN _ _ hn8)
    refine q_forR1 (j := 8) (n := (kk : Int)) (ea_cons (ev_var rfl) ea_nil) (by omega) (fun i σ' H' => ExB b H H' ∧ BoxAt H' b ∧ WebAt K H' x n S ∧ H' tn = some (.tup (natV ts)) ∧ NetAt K H' a x n S m (nums S ts p0.1 p0.2 i) ∧ ∃ c d e f, σ' = [some (.ref b), some (.int (n : Int)), some (.ref tt), some (.ref tn), some (.ref x), some (.int (kk : Int)), some (.ref sl), some (.ref a), c, d, e, f])
      (fun H10 e10 => ⟨(cap exN b9).trans (ExB.of e10), hb9.ex e10, W9.mono e10, e10 _ _ hn9, N.mono e10, _, _, _, _, rfl⟩) ?_ ?_
    · rintro i σ' H' hi ⟨ex, hb', W', hn', N', c, d, e, f, rfl⟩
      have hT : 0 < S.length := Nat.pos_of_ne_zero fun z => by
        have z : S = [] := List.eq_nil_of_length_eq_zero z
        subst z
        exact hd.first 0 (by omega) (whole_nil n _)
      have hts := ho.len
      have htl := ho.turn hT i
      have hmod : ((i : Int) % ((natV ts).length : Int)) = ((i % ts.length : Nat) : Int) := by rw [natV_len]; exact (Int.natCast_emod i ts.length).symm
      obtain ⟨dx', sa, aa, hA, hsa, haa⟩ := N'.ex
      have fld : ((([("web", .ref x), ("modulus", .int m), ("states", .ref sa), ("archives", .ref aa)] : List (Str × V)).lookup ("meet" : Str)) = none) := rfl
      refine ⟨_, rfl, a, dx', _, rfl, hA, fld, ?_⟩
      refine ea_cons (ev_ixT (K := K) (i := i % ts.length) (v := .int (K30M.turn ts i : Int)) (ev_var (i := 3) rfl) (ev_is (ev_op (ev_int1 (ev_var (i := 8) rfl)) (ev_lenA (ev_var (i := 3) rfl) (.inr (st_of hn'))) (rv_I (by rw [natV_len]; omega))) (by rw [hmod])) (st_of hn') (natV_get (turn_get (by omega) i))) ea_nil H' (Ex.refl _) _ fun H10 e10 => ?_
      refine ⟨a, x, n, S, m, nums S ts p0.1 p0.2 i, K30M.turn ts i, rfl, W'.mono e10, N'.mono e10, htl, fun v H11 e11 N11 => ?_⟩
      have hA10 := e10 _ _ hA
      have tna' : tn ≠ a := fun z => by rw [z, hA] at hn'; cases hn'
      exact ⟨cap (ex.trans (ExB.of e10)) e11, boxA (hb'.ex e10) e11, e11.web (W'.mono e10) hA10 rfl, e11 _ _ tna' (e10 _ _ hn'), N11, _, _, _, _, rfl⟩
    · rintro σ' H' ⟨ex, hb', W', hn', N', c, d, e, f, rfl⟩
      have ek : (kk : Int).toNat = kk := by omega
      rw [ek] at N'
      have st : StillM S m (nums S ts p0.1 p0.2 kk) := fun i hi => by
        have := still_of (s := p0.1) (a := p0.2) g.ends ho br (show 0 < S.length by omega) hd.whole i hi
        rw [this.1, this.2]
        exact ⟨rfl, rfl⟩
      refine ret_of (op_2 ⟨_, rfl, a, x, n, S, m, _, rfl, W', N', st, fun H10 e10 => ⟨true, true, rfl, rfl, ?_⟩⟩)
      exact k H10 (ex.trans (ExB.of e10)) (hb'.ex e10)
end
end K30
namespace K30
open PySem PySem.Spec PyProof.Rows L2 Evl K30M
/-! ### try, several clauses, each 'as n' -/
def backEnds (D : Ends) (i : Nat) : Ends := { nx := fun σ' H' => D.nx (σ'.set i none) H', rt := D.rt, bk := fun σ' H' => D.bk (σ'.set i none) H', ct := fun σ' H' => D.ct (σ'.set i none) H' }
def wManyA (K : PySem.W.Frag) (L : Nat) (Wout : WX) (i : Nat) (D : Ends) : List (Value × (Addr → Value → Option Addr → TS)) → WX
  | [] => Wout
  | (c, ts) :: r => fun cls d σ H => ∃ b, PySem.W.exmOne K cls c = some b ∧ (b = true → ∀ a, H a = none → σ.length = L → ts a cls d (backEnds D i) (σ.set i (some (.ref a))) H) ∧ (b = false → wManyA K L Wout i D r cls d σ H)
inductive HdsA (X : Cx) (n : Str) : List ExceptHandler → List (Value × (Addr → Value → Option Addr → TS)) → Prop
  | nil : HdsA X n [] []
  | cons {x : Str} {c : Value} {ts : Addr → Value → Option Addr → TS} {b₀ : Stmt} {suite : List Stmt} {np pos' : Pos} {hds : List ExceptHandler} {l : List (Value × (Addr → Value → Option Addr → TS))} (hc : Names X x c)
      (hsu : ∀ (a : Addr) (oe : Obj) (cls : Value) (d : Option Addr) (pn : List (Addr × Obj)), Zc cls d oe → (∃ vs, oe.data = .fields vs) → PSs (X.suite a ((a, oe) :: pn)) (b₀ :: suite) (ts a cls d)) (r : HdsA X n hds l) :
      HdsA X n (.ExceptHandler (some (.Name x np)) (some n) (b₀ :: suite) pos' :: hds) ((c, ts) :: l)
section
variable {X : Cx} {n : Str} {i : Nat} {body : List Stmt} {h₀ : ExceptHandler} {hds : List ExceptHandler} {l : List (Value × (Addr → Value → Option Addr → TS))} {pos : Pos} {tb : WX → TS} {Wout : WX}
theorem ps_try_manyA (hs : X.stack = X.env :: X.outer) (hf : X.env.frame = some X.env.locals) (hN : X.N.Nodup) (hi : X.N[i]? = some n) (hln : X.env.kindOf n = some .local) (tk : Takes X Wout)
    (hb : ∀ (W : WX) (pn : List (Addr × Obj)) (xe : Value → Shared → Prop), Takes (X.tr pn xe) W → PassesOwn (model X.prog X.w) X.A X.env xe → PSs (X.tr pn xe) body (tb W))
    (hh : HdsA X n (h₀ :: hds) l) : PS X (.Try body (h₀ :: hds) [] [] pos) (fun D σ H => tb (wManyA X.K X.N.length Wout i D l) D σ H) := by
  refine ⟨fun pins s σ H D I h => ?_⟩
  have ok := I.ok
  have hfr : X.A.frames = some (X.env :: X.outer) := by rw [ok.frames, hs]
  have hloc : Loc X.env.scope n := .inl hln
  refine wpAny_Try_except ?_
  refine wpAny_mono ((hb (wManyA X.K X.N.length Wout i D l) (X.pn ++ pins) (fun e s₁ => wpAny (model X.prog X.w) X.A (noteFrame e X.env) (fun _ s₂ => wpAny (model X.prog X.w) X.A (setFlight e none) (fun _ s₃ =>
    wpAny (model X.prog X.w) X.A (handleBy e X.env (h₀ :: hds)) (SP X pins D) X.xe s₃) X.xe s₂) X.xe s₁) (fun u s' xx => ?_) PassesOwn.looking).run [] s σ H D (I.toTry _) h) (fun f s1 hsp => ?_) (fun e s1 he => he)
  · obtain ⟨a, B, sI, pins', σ', H', cls, d, rfl, J', nb, up, sky, na, os, ag, w⟩ := xx
    have J : Inv X pins σ' H' sI := J'.ofTry ok
    have sky' : Sky B (X.env :: X.outer) a (Zc cls d) X.env.locals s'.heap := by rw [← hs]; exact sky
    show wpAny (model X.prog X.w) X.A (noteFrame (.ref a) X.env) _ _ _
    refine Sky.land Zc.steady hfr hf sky' fun h3 fl3 up3 => ?_
    have J3 : Inv X pins σ' H' { s' with heap := h3 } := J.landed nb fl3.1 (up.trans up3) os ag
    obtain ⟨oe3, vs3, he3, hz3, hd3⟩ := fl3.there
    have nfr : a ∉ frs (X.env :: X.outer) := fun hm => by
      obtain ⟨_, o', e', hnf⟩ := fl3.2.2.1.mem hm
      rw [he3] at e'
      cases e'
      exact hnf _ hd3
    have nL : a ≠ X.env.locals := fun z => nfr (List.mem_filterMap.mpr ⟨X.env, List.mem_cons_self, by rw [hf, z]⟩)
    have nF : a ∉ X.fs := fun hm => by
      obtain ⟨e, he, q⟩ := List.mem_filterMap.mp hm
      exact nfr (List.mem_filterMap.mpr ⟨e, List.mem_cons_of_mem _ he, q⟩)
    have S3 := J3.suite he3 hd3 na nL nF
    have go : ∀ {hds' : List ExceptHandler} {l' : List (Value × (Addr → Value → Option Addr → TS))}, HdsA X n hds' l' → wManyA X.K X.N.length Wout i D l' cls d σ' H' →
        wpAny (model X.prog X.w) X.A (handleBy (.ref a) X.env hds') (SP X pins D) X.xe { s' with heap := h3 } := by
      intro hds' l' hk
      induction hk with
      | nil =>
        intro w
        refine wpAny_handleBy_nil ?_
        obtain ⟨k1, k2, k3, oe, vs, T, oT, ts', he, hz, hd, h1, hr⟩ := id fl3
        unfold PySem.passOn
        refine wpAny_bind (wpAny_field he hd h1 ?_)
        rw [if_neg (show ¬ ((Value.ref T == Value.none) = true) from by simp)]
        have fin : wpAny (model X.prog X.w) X.A (setFlight (.ref a) X.env.frame) (fun _ s4 => wpAny (model X.prog X.w) X.A (throw (.ref a) : Sem Flow) (SP X pins D) X.xe s4) X.xe { s' with heap := h3 } := by
          rw [hf]
          refine HandSPX.setFlight_upZ fl3 fun h4 hh4 up4 => wpAny_throw (tk _ _ ?_)
          exact ⟨a, B, sI, pins, σ', H', cls, d, rfl, J, nb, (up.trans up3).trans up4, .inr (.inr (by rw [hs]; exact hh4)), na, os, ag, w⟩
        first
          | exact wpAny_bind (wpAny_pure (wpAny_bind fin))
          | exact wpAny_bind fin
      | @cons x c ts b₀ suite np pos' hds2 l2 hc hsu r ih =>
        intro w
        obtain ⟨b, hb1, hyes, hno⟩ := w
        refine wpAny_handleBy_cons (codeAny_handlers_test ?_) (by intro q; cases q)
        have LT : PySem.W.Looks (model X.prog X.w) h3 (typeOf (.ref a)) cls := fun A Q E s k q => wpAny_typeOf_ref (k _ _ he3) (by rw [hz3.1]; exact q)
        have LM := PySem.W.exm_one (M := model X.prog X.w) (J3.kIn) LT hb1
        have test : ∀ {Q : Value → Shared → Prop} {E : Value → Shared → Prop}, Q c { s' with heap := h3 } → wpAny (model X.prog X.w) (X.A.mark (some (.ref a))) (eval (.Name x np) X.env) Q E { s' with heap := h3 } := fun {Q E} q => by
          obtain ⟨hg, hdbg, hm | ⟨hm, hv, hnn⟩⟩ := hc
          · exact ld_glob (X := X.suite a ((a, oe3) :: (X.pn ++ pins))) S3 hg hm q hdbg
          · exact ld_blt (X := X.suite a ((a, oe3) :: (X.pn ++ pins))) S3 hg hm hv q hnn hdbg
        refine test (LM.here ?_)
        cases b with
        | true =>
          refine codeAny_handlers_suite_as ?_
          refine HandSPX.lands_againZ fl3 fun h4 fl4 up4 => ?_
          have J4 : Inv X pins σ' H' { s' with heap := h4 } := J.landed nb fl4.1 ((up.trans up3).trans up4) os ag
          obtain ⟨oe4, vs4, he4, hz4, hd4⟩ := fl4.there
          have S4 := J4.suite he4 hd4 na nL nF
          refine store_ok (X := X.suite a ((a, oe4) :: (X.pn ++ pins))) (v := .ref a) S4 hN hi hloc rfl (fun s5 S5 => ?_) (.inr hln)
          refine wpAny_mono ((hsu a oe4 cls d (X.pn ++ pins) hz4 ⟨_, hd4⟩).run [] s5 _ H' _ S5 (hyes rfl a na J.len)) (fun f s6 hsp => ?_) (fun _ _ z => False.elim z)
          have end_ : ∀ {σ6 : L2.St} {H6 : Hp} {Q : Shared → Prop}, Inv (X.suite a ((a, oe4) :: (X.pn ++ pins))) [] σ6 H6 s6 → (∀ s7, Inv X pins (σ6.set i none) H6 s7 → Q s7) →
              wpAny (model X.prog X.w) X.A (do bindName X.env n .none; unbindBehindTheSuite X.env n pos') (fun _ s7 => Q s7) X.xe s6 := fun {σ6 H6 Q} S6 hq => gone_ok (S6.unsuite ok) hN hi hln hq
          cases f with
          | next =>
            obtain ⟨σ6, H6, S6, q6⟩ := hsp
            exact end_ S6 fun s7 J7 => ⟨_, _, J7, q6⟩
          | brk =>
            obtain ⟨σ6, H6, S6, q6⟩ := hsp
            exact end_ S6 fun s7 J7 => ⟨_, _, J7, q6⟩
          | cont =>
            obtain ⟨σ6, H6, S6, q6⟩ := hsp
            exact end_ S6 fun s7 J7 => ⟨_, _, J7, q6⟩
          | ret u =>
            obtain ⟨v6, σ6, H6, S6, r6, q6⟩ := hsp
            exact end_ S6 fun s7 J7 => ⟨_, _, _, J7, r6, q6⟩
        | false =>
          show wpAny _ X.A (handleBy (.ref a) X.env hds2) _ _ _
          exact ih (hno rfl)
    exact go hh w
  · cases f with
    | next =>
      obtain ⟨σ', H', J', q⟩ := hsp
      exact wpAny_execs_nil ⟨σ', H', J'.ofTry ok, q⟩
    | brk =>
      obtain ⟨σ', H', J', q⟩ := hsp
      exact ⟨σ', H', J'.ofTry ok, q⟩
    | cont =>
      obtain ⟨σ', H', J', q⟩ := hsp
      exact ⟨σ', H', J'.ofTry ok, q⟩
    | ret u =>
      obtain ⟨v, σ', H', J', r, q⟩ := hsp
      exact ⟨v, σ', H', J'.ofTry ok, r, q⟩
end
/-! ### repr of a tuple of scalars -/
inductive ShAll : List V → List Str → Prop
  | nil : ShAll [] []
  | cons {v : V} {t : Str} {vs : List V} {ts : List Str} : ShS v t → ShAll vs ts → ShAll (v :: vs) (t :: ts)
theorem reprAll_of {P : Program} {w : World} : ∀ {ys : List V} {ts : List Str} {us : List Value}, ShAll ys ts → Vals ys us → ReprAll P w us ts := by
  intro ys ts us h
  induction h generalizing us with
  | nil => intro r; cases r; exact .nil
  | @cons v t vs ts hs _ ih =>
    intro r
    cases r with
    | cons rv rr =>
      refine .cons ?_ (ih rr)
      cases v with
      | non =>
        cases (show _ = Value.none from rv)
        obtain rfl : t = "None" := hs
        exact ReprIs.none
      | bl b =>
        cases (show _ = Value.bool b from rv)
        obtain rfl : t = if b then "True" else "False" := hs
        have := ReprIs.bool (prog := P) (w := w) b
        cases b <;> exact this
      | int i =>
        obtain ⟨t', e⟩ := (show ∃ t, _ = Value.int i t from rv)
        subst e
        obtain ⟨hz, rfl⟩ := (show i.natAbs.log2 < 1920 ∧ t = toString i from hs)
        exact ReprIs.int t' hz
      | str y =>
        obtain ⟨t', e⟩ := (show ∃ t, _ = Value.str y t from rv)
        subst e
        obtain ⟨hz, rfl⟩ := (show (reprText y).length ≤ sizeLine ∧ t = reprText y from hs)
        exact ReprIs.str y t' hz
      | _ => exact False.elim hs
/-- what repr says of v -/
def ShV (K : PySem.W.Frag) (H : Hp) (v : V) (t : Str) : Prop := ShS v t ∨ ∃ a ys ts, v = .ref a ∧ SqT K H a ys ∧ ShAll ys ts ∧ (tupleText ts).length ≤ sizeLine ∧ t = tupleText ts
theorem ShV.ex {K : PySem.W.Frag} {H H' : Hp} {v : V} {t : Str} (h : ShV K H v t) (e : Ex H H') : ShV K H' v t := h.imp id fun ⟨a, ys, ts, h1, h2, h3⟩ => ⟨a, ys, ts, h1, ex_t e h2, h3⟩
def rReprV (K : PySem.W.Frag) : List V → Hp → VK → Prop := fun xs H Q => ∃ v t, xs = [v] ∧ ShV K H v t ∧ Q (.str t) H
theorem call_reprV {X : Cx} {K : PySem.W.Frag} (hK : X.K = K) (hg : X.A.guards = some []) (hu : X.A.units + 64 < cLine) : CallR X (.builtin "repr") (rReprV K) := by
  subst hK
  intro pins s σ H xs us Q I r h
  obtain ⟨v, t, rfl, hv, q⟩ := h
  rcases hv with hv | ⟨a, ys, ts, rfl, hs, ha, hz, rfl⟩
  · exact call_reprS pins s σ H _ us Q I r ⟨v, t, rfl, hv, q⟩
  · obtain ⟨u, rfl, rv⟩ := vals1 r
    obtain rfl : u = Value.ref a := rv
    obtain ⟨its, rr, hl, _⟩ := I.tuple hs
    obtain ⟨o, ho, hc, n, hd⟩ := id hl
    refine call_repr_slot (by omega) ⟨o, ho, hc⟩ F.slot_tuple_repr (call_tuple_repr (A := X.A.in1) ⟨o, ho, hc⟩ (g := []) hg (fun c hc => nomatch hc) ho hd (by simpa using reprAll_of ha rr) (fun u tk => ⟨_, u, rfl, .str _, H, I.tok _, ⟨_, rfl⟩, q⟩) hz)
/-! ### isinstance of an error with a dict -/
def rIsX (K : PySem.W.Frag) (D a : Addr) : List V → Hp → VK → Prop := fun xs H Q => ∃ (c : V) (cv : Value) (b : Bool), xs = [.ref a, c] ∧ (∀ u, RelV c u → u = cv) ∧ PySem.W.kitOne K (.ref D) cv = some b ∧ Q (.bl b) H
theorem kitX_of {K : PySem.W.Frag} {D a : Addr} {oe od : Obj} (C : ExcC K D) : PySem.W.KitX K (.ref a) (.ref D) (fun h => PySem.W.InstAt h a oe D (some od)) :=
  PySem.W.kitx_exc (by obtain ⟨cd, hc, _⟩ := PySem.W.any_some C.hd; rw [hc]; rfl) C.hg C.hk C.hs C.ha C.hn C.ht C.hm
theorem call_isX {X : Cx} {a D dd : Addr} {oe : Obj} {pn : List (Addr × Obj)} (C : ExcC X.K D) (hz : Zc (.ref D) (some dd) oe) (hf : ∃ vs, oe.data = .fields vs) :
    CallR (X.suite a ((a, oe) :: pn)) (.builtin "isinstance") (fun xs H Q => (∃ fs, H dd = some (.xd fs)) ∧ rIsX X.K D a xs H Q) := by
  intro pins s σ H xs us Q I r h
  obtain ⟨⟨fs, hfs⟩, c, cv, b, rfl, hcv, e, q⟩ := h
  cases r with
  | cons rx rr =>
    cases rr with
    | cons rt rr =>
      cases rr
      cases rx
      have ec := hcv _ rt
      subst ec
      obtain ⟨hget, _⟩ := I.pin (a, oe) (List.mem_append.mpr (.inl List.mem_cons_self))
      obtain ⟨vs, hv⟩ := hf
      have hx : ObjOk X.prog X.w H s.heap dd (.xd fs) := I.hok dd _ hfs
      obtain ⟨mA, hns, hr⟩ := hx
      obtain ⟨od, ho, hl⟩ := lookIn_ns hns
      have J : PySem.W.InstAt s.heap a oe D (some od) := ⟨hget, hz.1, by unfold PySem.W.notCls; rw [hv] <;> rfl, by rw [hz.2]; exact ho⟩
      exact PySem.W.kia_one (kitX_of C) I.kIn J e (fun z => nomatch z) fun tk => ⟨.bl b, H, I.kept (t' := tk) fun _ _ z => z, rfl, q⟩
end K30
namespace K30
open PySem PySem.Spec PyProof.Rows L2 Evl K30M
/-- the text, with what the two errors' classes say -/
structure TX (P : Program) (K : PySem.W.Frag) (mg : Str → Option Value) (base : Heap) : Prop extends Tx P K mg base where
  xR : XfC K (He.ga K "Refused")
  xN : XfC K (He.ga K "NoHouse")
  nR : PySem.W.findIn K (.ref (He.ga K "Refused")) "at" = some none
  nN : PySem.W.findIn K (.ref (He.ga K "NoHouse")) "house" = some none
  eR : ExcC K (He.ga K "Refused")
  eN : ExcC K (He.ga K "NoHouse")
  mNN : PySem.W.exmOne K (.ref (He.ga K "NoHouse")) (.ref (He.ga K "NoHouse")) = some true
  mRN : PySem.W.exmOne K (.ref (He.ga K "Refused")) (.ref (He.ga K "NoHouse")) = some false
  mRR : PySem.W.exmOne K (.ref (He.ga K "Refused")) (.ref (He.ga K "Refused")) = some true
  kN : PySem.W.kitOne K (.ref (He.ga K "NoHouse")) (.type "KeyError") = some true
  kR : PySem.W.kitOne K (.ref (He.ga K "Refused")) (.ref (He.ga K "NetError")) = some true
theorem bt_KeyError : bootBuiltins "KeyError" = some (.type "KeyError") := by rfl
def rIsC (K : PySem.W.Frag) (D a : Addr) (cls : Value) (d : Option Addr) : List V → Hp → VK → Prop := fun xs H Q => cls = .ref D ∧ ∃ dd fs, d = some dd ∧ H dd = some (.xd fs) ∧ rIsX K D a xs H Q
theorem call_isC {X : Cx} {K : PySem.W.Frag} {a D : Addr} {oe : Obj} {cls : Value} {d : Option Addr} {pn : List (Addr × Obj)} (hK : X.K = K) (C : ExcC K D) (hz : Zc cls d oe) (hf : ∃ vs, oe.data = .fields vs) :
    CallR (X.suite a ((a, oe) :: pn)) (.builtin "isinstance") (rIsC K D a cls d) := by
  subst hK
  intro pins s σ H xs us Q I r h
  obtain ⟨rfl, dd, fs, rfl, hfs, h⟩ := h
  exact call_isX C hz hf pins s σ H xs us Q I r ⟨⟨fs, hfs⟩, h⟩
/-- what _law_heard makes of an error -/
def heardE (K : PySem.W.Frag) (Q : VK) : XK := fun cls d H => ∃ dd v t, d = some dd ∧ ShV K H v t ∧
  ((cls = .ref (He.ga K "NoHouse") ∧ H dd = some (.xd [("house", v)]) ∧ ∀ p, H p = none → Q (.ref p) (upd H p (.tup [.str "house", .str t, .bl true]))) ∨
    (cls = .ref (He.ga K "Refused") ∧ H dd = some (.xd [("at", v)]) ∧ ∀ p, H p = none → Q (.ref p) (upd H p (.tup [.str "refused", .str t, .bl true]))))
def THeard (K : PySem.W.Frag) : (XK → Hp → VK → Prop) → Hp → VK → Prop := fun tl H Q => ∀ Qn : VK, tl (heardE K Q) H Qn
theorem c_of {v : V} {σ : L2.St} {H : Hp} {Q : VK} (h : Q v H) : tC v σ H Q := h
theorem cb_of {t : TA} {r : List V → Hp → VK → Prop} {σ : L2.St} {H : Hp} {Q : VK} (h : t σ H fun vs H1 => r vs H1 Q) : tCB r t σ H Q := h
theorem heard_gives {P : Program} {K : PySem.W.Frag} {mg : Str → Option Value} {base : Heap} {X : Cx} (T : TX P K mg base) (hK : X.K = K) (hm : X.mg = mg) (hg : X.A.guards = some []) (hu : X.A.units + 100 < cLine) {g : Addr} {cdg : Value} {q : Str} :
    LamX.GivesTo X ["_law_ask", "fault"] "_law_heard" (defScope (top 50)) g cdg (defBody (top 50)) "_law_ask" q (THeard K) := by
  subst hK hm
  intro f c' s H Q tl act hc h
  have hu2 : ∀ a pn, (((cxOf C8.CX0 X.prog X.w X.K X.mg X.base ["_law_ask", "fault"] "_law_heard" (defScope (top 50)) g cdg X.A X.stack s H C8.E0).nox).suite a pn).A.units + 64 < cLine := fun a pn => by
    show X.A.units + 3 + 64 < cLine
    omega
  refine ⟨_, pss_one (ps_try_manyA (X := (cxOf C8.CX0 X.prog X.w X.K X.mg X.base ["_law_ask", "fault"] "_law_heard" (defScope (top 50)) g cdg X.A X.stack s H C8.E0).nox) (i := 1)
      (tb := fun W D σ H => ∃ Ech : XK, (∀ cls d σ' H', Ech cls d H' → W cls d σ' H') ∧ σ[0]? = some (some (.ref f)) ∧ H c' = some (LamX.CodeO c' q) ∧ ∀ Qn : VK, tl Ech H Qn)
      rfl rfl (show (["_law_ask", "fault"] : List Str).Nodup by decide +kernel) rfl rfl LamX.takes0 (fun W pn xe tk _ => ?_)
      (.cons ⟨rfl, by decide, .inl T.g_NoHouse⟩ (fun a oe cls d pn hz hf => pss_one (ps_ret (pe_tup (pa_cons pe_str (pa_cons (pe_callB (call_reprV (K := X.K) rfl hg (hu2 _ _)) (by rfl) T.f_repr bt_repr (pa_cons (pe_xf T.xN T.nN hz hf (pv 1)) pa_nil)) (pa_cons (pe_callB (call_isC rfl T.eN hz hf) (by rfl) T.f_isinstance bt_isinstance (pa_cons (pv 1) (pa_cons (pe_bltn (v := .ty "KeyError") (by rfl) T.f_KeyError bt_KeyError rfl) pa_nil))) pa_nil))))))
        (.cons ⟨rfl, by decide, .inl T.g_Refused⟩ (fun a oe cls d pn hz hf => pss_one (ps_ret (pe_tup (pa_cons pe_str (pa_cons (pe_callB (call_reprV (K := X.K) rfl hg (hu2 _ _)) (by rfl) T.f_repr bt_repr (pa_cons (pe_xf T.xR T.nR hz hf (pv 1)) pa_nil)) (pa_cons (pe_callB (call_isC rfl T.eR hz hf) (by rfl) T.f_isinstance bt_isinstance (pa_cons (pv 1) (pa_cons (pe_glob (v := .ref _) (by rfl) T.g_NetError rfl) pa_nil))) pa_nil)))))) .nil))), ?_⟩
  · refine ⟨fun pins s' σ H' D I h' => ?_⟩
    obtain ⟨Ech, hW, h1, h2, h3⟩ := h'
    exact (pss_one (ps_ret (pe_tup (pa_cons pe_str (pa_cons (act W pn xe Ech _ _ tk hW) pa_nil))))).run pins s' σ H' D I ⟨h1, h2, h3 _⟩
  · refine ⟨heardE X.K Q, fun cls d σ' H' hh => ?_, rfl, hc, h⟩
    obtain ⟨dd, v, t, rfl, hv, hh⟩ := hh
    have len3 : ∀ l : List V, l.length = 3 → l.length ≤ sizeLine := fun l e => by rw [e, sizeLine_eq]; omega
    rcases hh with ⟨rfl, hd, k⟩ | ⟨rfl, hd, k⟩
    · refine ⟨true, T.mNN, fun _ a ha hl => ?_, fun z => Bool.noConfusion z⟩
      have h1 : (σ'.set 1 (some (.ref a)))[1]? = some (some (V.ref a)) := by rw [List.getElem?_set_self (by rw [hl]; show 1 < 2; omega)]
      refine ret_of (tup_of (ta_cons (c_of (ta_cons (ev1 ⟨_, h1, rfl, rfl, dd, _, v, rfl, hd, rfl, v, t, rfl, hv, ta_cons (cb_of (ta_cons ⟨_, h1, ta_cons (c_of ⟨rfl, dd, _, rfl, hd, .ty "KeyError", .type "KeyError", true, rfl, fun u hu => hu, T.kN, len3 _ rfl, k⟩)⟩))⟩)))))
    · refine ⟨false, T.mRN, fun z => Bool.noConfusion z, fun _ => ⟨true, T.mRR, fun _ a ha hl => ?_, fun z => Bool.noConfusion z⟩⟩
      have h1 : (σ'.set 1 (some (.ref a)))[1]? = some (some (V.ref a)) := by rw [List.getElem?_set_self (by rw [hl]; show 1 < 2; omega)]
      refine ret_of (tup_of (ta_cons (c_of (ta_cons (ev1 ⟨_, h1, rfl, rfl, dd, _, v, rfl, hd, rfl, v, t, rfl, hv, ta_cons (cb_of (ta_cons ⟨_, h1, ta_cons (c_of ⟨rfl, dd, _, rfl, hd, .ref (He.ga X.K "NetError"), .ref (He.ga X.K "NetError"), true, rfl, fun u hu => hu, T.kR, len3 _ rfl, k⟩)⟩))⟩)))))
end K30
namespace K30
open PySem PySem.Spec PyProof.Rows L2 Evl K30M
/-- .. and what Web's class says -/
structure TW (P : Program) (K : PySem.W.Frag) (mg : Str → Option Value) (base : Heap) : Prop extends TX P K mg base where
  wA : PySem.W.findIn K (.ref (He.ga K "Web")) "__class__" = some (some (.builtin "object.__class__"))
  wM : PySem.W.mroIn K (He.ga K "Web") (.type "object") = some true
  wE : PySem.W.findIn K (.ref (He.ga K "Web")) "__eq__" = some (some (.ref (He.ma K (He.ga K "Web") "__eq__")))
  wF : PySem.W.isFn K (.ref (He.ma K (He.ga K "Web") "__eq__")) = true
  wN : PySem.W.notFirst K (He.ga K "Web") (.ref (He.ga K "Web")) = true
section
variable {P : Program} {w : World} {K : PySem.W.Frag} {mg : Str → Option Value} {base : Heap}
theorem ty_web (T : TW P K mg base) {H : Hp} {x dx : Addr} {fs : List (Str × V)} (hx : H x = some (.ins (He.ga K "Web") dx fs)) : TyX K H (.ref x) (.ref (He.ga K "Web")) :=
  .base (.ins hx T.c_Web T.wA T.eR.hn T.eR.ht T.wM)
theorem kit_same (K : PySem.W.Frag) (t : Value) : PySem.W.kitOne K t t = some true := by
  unfold PySem.W.kitOne
  rw [if_pos (beq_self_eq_true t)]
theorem ev_isWeb (T : TW P K mg base) {σ : L2.St} {H : Hp} {te : TE} {x dx : Addr} {fs : List (Str × V)} (h : Ev te σ H (.ref x)) (hx : H x = some (.ins (He.ga K "Web") dx fs)) : Ev (tCB (rIsi K) (tCons te (tCons (tC (.ref (He.ga K "Web"))) tNil))) σ H (.bl true) := fun H1 e1 Q q =>
  h H1 e1 _ fun H2 e2 => ⟨.ref x, .ref (He.ga K "Web"), .ref (He.ga K "Web"), .ref (He.ga K "Web"), true, rfl, .own _, ty_web T (e2 _ _ (e1 _ _ hx)), kit_same K _, q H2 e2⟩
/-! ### the same web is equal to itself, whatever is handled -/
theorem sc_Web___eq__ : FnScope ["self", "other"] ["self", "other"] (defScope (inClass (top 18) 1)) := ⟨rfl, rfl, rfl, by decide +kernel, rfl, by decide +kernel, by decide +kernel⟩
/-- ties as plain data -/
def tieD (T : Ties) : List PyData := T.map fun p => .tuple [.int (p.1 : Int), .int (p.2 : Int)]
theorem tieD_eqv : ∀ T : Ties, PyData.eqvAll (tieD T) (tieD T) = true
  | [] => rfl
  | p :: T => by
    show (((p.1 : Int) == (p.1 : Int) && (((p.2 : Int) == (p.2 : Int)) && true)) && PyData.eqvAll (tieD T) (tieD T)) = true
    rw [tieD_eqv T, beq_self_eq_true, beq_self_eq_true]
    rfl
theorem tieD_lay : ∀ T : Ties, PyData.canLayAll0 (tieD T) = true
  | [] => rfl
  | p :: T => by
    show (PyData.canLay0 (.tuple [.int (p.1 : Int), .int (p.2 : Int)]) && PyData.canLayAll0 (tieD T)) = true
    rw [tieD_lay T]
    rfl
theorem tieD_deep : ∀ T : Ties, PyData.depthAll (tieD T) ≤ 1
  | [] => Nat.zero_le _
  | p :: T => by
    show max (PyData.depth (.tuple [.int (p.1 : Int), .int (p.2 : Int)])) (PyData.depthAll (tieD T)) ≤ 1
    exact Nat.max_le.mpr ⟨Nat.le_refl _, tieD_deep T⟩
theorem tieD_shaped (T : Ties) : SeqAt.shaped (.tuple (tieD T)) = true := by
  show (PyData.canLayAll0 (tieD T) && decide (PyData.depthAll (tieD T) + 1 ≤ 64)) = true
  have := tieD_deep T
  rw [tieD_lay, decide_eq_true (by omega)]
  rfl
theorem dp_ties {K : PySem.W.Frag} {H : Hp} : ∀ {rs : List Addr} {T : Ties}, rs.length = T.length → (∀ (i : Nat) r p, rs[i]? = some r → T[i]? = some p → PairAt H r p) → DpAll K H (rs.map V.ref) (tieD T)
  | [], [], _, _ => .nil
  | r :: rs, p :: T, hl, h => .cons (.tup (st_of (h 0 r p rfl rfl)) (.cons (.int _) (.cons (.int _) .nil))) (dp_ties (by simpa using hl) fun i r' p' a b => h (i + 1) r' p' a b)
  | [], _ :: _, hl, _ => by cases hl
  | _ :: _, [], hl, _ => by cases hl
theorem web_eq_runs (T : TW P K mg base) {A : Around} {outer : List Env} {s : Shared} {H : Hp} {p : Addr × Obj} {x : Addr} {n : Nat} {S : Ties} {Q : VK} {E : XK} (hr : L2H.RoomH 1 A) (hpin : L2H.PinOk outer H s p) (e0 : Env0 P w K mg base A outer s H) (W : WebAt K H x n S) (k : ∀ H2, Ex H H2 → Q (.bl true) H2) :
    codeAny (model P w) A (.call (.ref (He.ma K (He.ga K "Web") "__eq__")) ⟨[.ref x, .ref x], []⟩) (CR (L2.CX P w) outer P w H s Q E) s := by
  obtain ⟨fd, F⟩ := T.d_Web_eq
  have bnd := F.bindsN (ps := ["self", "other"]) (fun _ _ _ _ _ _ us hl => match us, hl with | [_, _], _ => rfl)
  obtain ⟨oc, od, dV, kV, doc, pm, an, cdv, ct, osl, rfl, lk, hcd, hD, hK⟩ := F.ex
  have KX : K.In s.heap := e0.mod.kin.keeps fun b o e => (e0.bs b o e).1
  have lim : s.heap.NoLimit := e0.mod.nolimit.keeps fun b o e => (e0.bs b o e).1
  have Sc_ := sc_Web___eq__
  have hb := bnd s [.ref x, .ref x] KX rfl
  rw [List.append_nil] at hb
  have r : Vals [V.ref x, .ref x] [Value.ref x, .ref x] := .cons rfl (.cons rfl .nil)
  have hkind : ∀ y ∈ (["self", "other"] : List Str).zip [Value.ref x, .ref x], (defScope (inClass (top 18) 1)).names.lookup y.1 = some .local ∨ ((defScope (inClass (top 18) 1)).names.lookup y.1 = some .cell ∧ ((cellsFrom (s.heap.objs.size + 1) (defScope (inClass (top 18) 1)).names []).lookup y.1).isSome = true) := fun ⟨n, v⟩ hy => by
    rcases Sc_.par n (List.of_mem_zip hy).1 with q | q
    · exact .inl q
    · exact .inr ⟨q, PySem.W.cellsFrom_some _ _ _ (.inl q)⟩
  refine codeAny_call_function hr.depth (KX _ _ lk) rfl Sc_.co Sc_.gen rfl (PySem.W.codeRec_of KX hcd) (hb _ _ _ _ ?_)
  refine wpAny_newFunctionEnv_cells Sc_.kind hkind fun env he s1 xx => ?_
  subst he
  refine ⟨lim.keeps xx.toInCall.keep, codeAny_func ?_⟩
  have hr2 := hr.deeper (envOfC "Web.__eq__" (defScope (inClass (top 18) 1)) s.heap.objs.size (He.ma K (He.ga K "Web") "__eq__") cdv)
  have hu64 : (A.deeper (envOfC "Web.__eq__" (defScope (inClass (top 18) 1)) s.heap.objs.size (He.ma K (He.ga K "Web") "__eq__") cdv)).units + 64 < cLine := by have := hr2.un; omega
  have I : Inv (L2H.cxH (L2.CX P w) P w K mg base ["self", "other"] "Web.__eq__" (defScope (inClass (top 18) 1)) (He.ma K (He.ga K "Web") "__eq__") cdv A outer s H E p) [] (L2.start ["self", "other"] [V.ref x, .ref x]) H s1 := L2H.inv_startH Sc_ hpin e0 rfl r xx
  have ht : ∃ t, PSs (L2H.cxH (L2.CX P w) P w K mg base ["self", "other"] "Web.__eq__" (defScope (inClass (top 18) 1)) (He.ma K (He.ga K "Web") "__eq__") cdv A outer s H E p) (defBody (inClass (top 18) 1)) t ∧ t { nx := fun _ H' => Q .non H', rt := Q } (L2.start ["self", "other"] [V.ref x, .ref x]) H := by
    refine ⟨_, PSs.nox (pss_one (ps_ret (pe_and (pe_callB call_isi (by rfl) T.f_isinstance bt_isinstance (pa_cons (pv 1) (pa_cons (pe_glob (v := .ref _) (by rfl) T.g_Web rfl) pa_nil))) (pe_and (pe_cmpR op_eq (bpe_fld (K := K) rfl (pv 0) rfl) (bpe_fld (K := K) rfl (pv 1) rfl) (nomark _)) (pe_one (pe_cmpR (beqD (K := K) rfl hu64) (bpe_fld (K := K) rfl (pv 0) rfl) (bpe_fld (K := K) rfl (pv 1) rfl) (nomark _))))))), ?_⟩
    obtain ⟨dx, tt, rs, hx, htt⟩ := W.ex
    have eqD : Ev (tOp (rEqD K) (tFld K (tVar 0) "ties") (tFld K (tVar 1) "ties")) (L2.start ["self", "other"] [V.ref x, .ref x]) H (.bl true) := by
      refine ev_op (x := .ref tt) (y := .ref tt) (ev_ties T.toTxt (ev_var rfl) hx) (ev_ties T.toTxt (ev_var rfl) hx) fun H1 e1 Q q => ?_
      have h1 := htt.ex e1
      have d1 : Dp K H1 (.ref tt) (.tuple (tieD S)) := .tup (st_of h1.at_) (dp_ties h1.len h1.pair)
      refine ⟨_, _, d1, d1, tieD_shaped S, tieD_shaped S, ?_⟩
      rw [show PyData.eqv (.tuple (tieD S)) (.tuple (tieD S)) = true from tieD_eqv S]
      exact q H1 (Ex.refl _)
    refine s_ret (v := .bl true) (ev_is (ev_andV (ev_isWeb T (ev_var rfl) hx) fun _ => ev_andV (ev_op (ev_houses T.toTxt (ev_var rfl) hx) (ev_houses T.toTxt (ev_var rfl) hx) (rv_eq rfl)) fun _ => eqD) ?_) k
    rw [decide_eq_true rfl]
    rfl
  obtain ⟨t, ht, hq⟩ := ht
  refine wpAny_mono (ht.run [] s1 _ H _ I hq) (fun fl s' hs => ?_) fun e s' hs => hs
  cases fl with
  | ret u =>
    obtain ⟨v, σ', H', J, rv, q⟩ := hs
    exact ⟨v, H', J.os, J.bare, J.base, J.hok, rv, q⟩
  | next =>
    obtain ⟨σ', H', J, q⟩ := hs
    exact ⟨V.non, H', J.os, J.bare, J.base, J.hok, rfl, q⟩
  | brk =>
    obtain ⟨_, _, _, q⟩ := hs
    exact False.elim q
  | cont =>
    obtain ⟨_, _, _, q⟩ := hs
    exact False.elim q
/-- == of a web with itself, in the suite of a caught error -/
def rEqW (K : PySem.W.Frag) : R2 := fun u v H Q => ∃ (x : Addr) (n : Nat) (T : Ties), u = .ref x ∧ v = .ref x ∧ WebAt K H x n T ∧ ∀ H2, Ex H H2 → Q (.bl true) H2
theorem op_eqW (T : TW P K mg base) {X : Cx} {a : Addr} {oe : Obj} {pn : List (Addr × Obj)} (hP : X.prog = P) (hK : X.K = K) (hm : X.mg = mg) (hb : X.base = base) (hr : L2H.RoomH 1 X.A) (hu : X.A.units + 64 < cLine) : OpR (X.suite a ((a, oe) :: pn)) (compareOp .Eq) (rEqW K) := by
  subst hP hK hm hb
  intro pins s σ H x y v u Q I rx ry h
  obtain ⟨x, n, S, rfl, rfl, W, k⟩ := h
  cases rx
  cases ry
  obtain ⟨dx, tt, rs, hx, htt⟩ := W.ex
  obtain ⟨mA, J, _⟩ := ins_get I.hok hx
  obtain ⟨od, J, _⟩ := J.look
  obtain ⟨m, hF⟩ := I.fr
  show wpAny (model X.prog X.w) (X.A.mark (some (.ref a))) (richCompare .Eq (.ref x) (.ref x)) _ _ s
  refine PySem.W.cmp_K (op := .Eq) (tb := .ref (He.ga X.K "Web")) (by show X.A.units < cLine; omega) hF I.ok.mod.kin J J.type T.wN T.wE T.wF ?_
  have P1 := I.pin (a, oe) (List.mem_append_left _ List.mem_cons_self)
  have hpin : L2H.PinOk X.stack H s (a, oe) := ⟨P1.1, P1.2.1, fun hm => (List.mem_cons.mp (I.stkSub a hm)).elim P1.2.2.1 P1.2.2.2.1, P1.2.2.2.2⟩
  have hr' : L2H.RoomH 1 (X.A.mark (some (.ref a))) := ⟨hr.dp, hr.un⟩
  refine wpAny_call (codeAny_mono (web_eq_runs (E := E0) T hr' hpin I.env0 W (Q := fun v H' => v = .bl true ∧ Q v H') fun H2 e2 => ⟨rfl, k H2 e2⟩) fun r s' hq => ?_)
  cases r with
  | error e =>
    obtain ⟨_, _, _, _, _, _, _, _, _, _, _, _, z⟩ := hq
    exact z.elim
  | ok fl =>
    cases fl with
    | ret w' =>
      obtain ⟨z, H', I', rz, ez, q⟩ := I.after hq
      subst ez
      cases rz
      exact ⟨.bl true, H', I', rfl, q⟩
    | next => exact False.elim hq
    | brk => exact False.elim hq
    | cont => exact False.elim hq
end
end K30
namespace K30
open PySem PySem.Spec PyProof.Rows L2 Evl K30M LamX
/-! ### a lambda and a name handed to a def -/
section
variable {X : Cx} {pins : List (Addr × Obj)} {σ : L2.St} {H HZ : Hp} {s s1 : Shared}
/-- x() there, the wish told at the slots of the call -/
theorem pe_act2 {CXg : CXT} {Eg : XK} {Ng : List Str} {qg : Str} {sg : Scope} {g f c' : Addr} {cdg pm ctv : Value} {params : Arguments} {body : Expr} {scope : Scope} {k i : Nat} {a : Str} {pn : List (Addr × Obj)} {xe : Value → Shared → Prop} {W : WX} {t : XK → TE} {p1 p2 : Pos}
    (I : Inv X pins σ H s) (L : LamS X.env.scope scope) (hf : s.heap.get? f = some (PySem.W.kla_obj "<lambda>" (X.env.qual ++ "<lambda>") params body scope (cloFrom X.env.cells scope.names []) pm c' ctv)) (hfn : H f = none) (hfr : f ∉ frs X.stack)
    (hbind : bindArgs (PySem.W.kla_fn "<lambda>" (X.env.qual ++ "<lambda>") params body scope (cloFrom X.env.cells scope.names []) pm (.ref c') ctv) ⟨[], []⟩ = pure [])
    (tk : Takes ((cxOf CXg X.prog X.w X.K X.mg X.base Ng qg sg g cdg X.A X.stack s H Eg).tr pn xe) W) (hr : Room (k + 1) (X.A.deeper (envOfC qg sg s.heap.objs.size g cdg)))
    (hbody : ∀ (E : XK) (A : Around) (outer : List Env) (s : Shared) (H : Hp), Room k (A.deeper (lamEnv X scope s.heap.objs.size f c')) → PE (lamCx X A outer s H E scope f c') body (t E))
    (hN : Ng[i]? = some a) (hv : Vis sg a) (hd : (a == ("__debug__" : Str)) = false := by decide) (hcd : (a == ("__classdict__" : Str)) = false := by decide) :
    PE ((cxOf CXg X.prog X.w X.K X.mg X.base Ng qg sg g cdg X.A X.stack s H Eg).tr pn xe) (.Call (.Name a p1) [] [] p2)
      (fun σZ HZ Q => ∃ E : XK, σZ[i]? = some (some (.ref f)) ∧ HZ c' = some (CodeO c' (X.env.qual ++ "<lambda>")) ∧ (∀ cls d H', E cls d H' → W cls d σZ H') ∧ t E σ HZ Q) := by
  refine ⟨fun pinsZ sZ σZ HZ Q IZ h => ?_⟩
  obtain ⟨E, hs, hc, hW, ht⟩ := h
  refine wpAny_Call_Name_kw (thn ((pe_var (pos := p1) (i := i) hN hv hd hcd).run pinsZ sZ σZ HZ (fun v H1 => v = .ref f ∧ H1 = HZ) IZ ⟨.ref f, hs, rfl, rfl⟩) fun u s1 ⟨v, H1, I1, r1, q1⟩ => ?_)
  obtain ⟨ev, eH⟩ := q1
  subst ev
  rw [eH] at I1
  obtain rfl : u = Value.ref f := r1
  have of1 : s1.heap.get? f = some (PySem.W.kla_obj "<lambda>" (X.env.qual ++ "<lambda>") params body scope (cloFrom X.env.cells scope.names []) pm c' ctv) := I1.base.keep f _ hf hfn hfr (fun z => nomatch (show f ∈ ([] : List Addr) from z))
  refine PySem.W.callWith_F0 ⟨_, _, _, _, of1⟩ ?_
  have un : Un (frs X.stack) [] H HZ s.heap s1.heap := I1.base
  obtain ⟨⟨oc, vs, t', hoc, hdc, hvc⟩, _, _⟩ := I1.hok c' _ hc
  have rc : codeAny (model X.prog X.w) (X.A.deeper (envOfC qg sg s.heap.objs.size g cdg)) (.call (.ref f) ⟨[], []⟩) (CR (L2.CX X.prog X.w) (envOfC qg sg s.heap.objs.size g cdg :: X.stack) X.prog X.w HZ s1 Q E) s1 := by
    refine PySem.W.kla_callFunE hr.depth of1 rfl L.co L.gen rfl ⟨c', oc, vs, t', rfl, hoc, hdc, hvc⟩ ?_
    rw [hbind]
    refine wpAny_pure (wpAny_newFunctionEnv (fun y hy => (L.own y hy).2) (fun y hy => absurd hy (by simp)) (fun h₁ hns hsb => ⟨I1.nolimit.fresh _ hsb, ?_⟩) L.kind)
    show codeAny _ _ (.expr body (lamEnv X scope s1.heap.objs.size f c')) _ _
    have kp : ∀ b o, s1.heap.get? b = some o → h₁.get? b = some o := fun b o e => hsb.extBut b o (Nat.ne_of_lt (Heap.lt_size e)) (Heap.get?_push_of_some _ e)
    have J : Inv (lamCx X (X.A.deeper (envOfC qg sg s.heap.objs.size g cdg)) (envOfC qg sg s.heap.objs.size g cdg :: X.stack) s1 HZ E scope f c') [] σ HZ { s1 with heap := h₁, toks := s1.toks + ([] : List (Str × Value)).length } :=
      lam_start2 I L I1.env0 hr.hd un hns kp
    refine PySem.W.kla_codeExpr (wpAny_mono ((hbody E _ _ s1 HZ (hr.deeper _)).run [] _ _ HZ Q J ht) (fun v s' hq => ?_) fun e s' hq => hq)
    obtain ⟨w', H', J', rv, q⟩ := hq
    exact ⟨w', H', J'.os, J'.bare, J'.base, J'.hok, rv, q⟩
  refine wpAny_call (codeAny_mono rc fun r s' hq => ?_)
  cases r with
  | error e => exact tk e s' (XE.of_call I1 (fun cls d H' h => hW cls d H' h) hq)
  | ok fl =>
    cases fl with
    | ret u => exact I1.after hq
    | next => exact False.elim hq
    | brk => exact False.elim hq
    | cont => exact False.elim hq
end
def Gives2 (X : Cx) (Ng : List Str) (x : Str) (sg : Scope) (g : Addr) (cdg : Value) (bg : List Stmt) (a : Str) (q : Str) (TT : (XK → Hp → VK → Prop) → V → Hp → VK → Prop) : Prop :=
  ∀ (f c' : Addr) (s : Shared) (H : Hp) (Q : VK) (tl : XK → Hp → VK → Prop) (v : V),
    (∀ (W : WX) (pn : List (Addr × Obj)) (xe : Value → Shared → Prop) (p1 p2 : Pos), Takes ((cxOf C8.CX0 X.prog X.w X.K X.mg X.base Ng x sg g cdg X.A X.stack s H C8.E0).tr pn xe) W →
      PE ((cxOf C8.CX0 X.prog X.w X.K X.mg X.base Ng x sg g cdg X.A X.stack s H C8.E0).tr pn xe) (.Call (.Name a p1) [] [] p2) (fun σZ HZ Q => ∃ E : XK, σZ[0]? = some (some (.ref f)) ∧ HZ c' = some (CodeO c' q) ∧ (∀ cls d H', E cls d H' → W cls d σZ H') ∧ tl E HZ Q)) →
    H c' = some (CodeO c' q) → TT tl v H Q →
    ∃ t, PSs (cxOf C8.CX0 X.prog X.w X.K X.mg X.base Ng x sg g cdg X.A X.stack s H C8.E0).nox bg t ∧ t { nx := fun _ H' => Q .non H', rt := Q } (L2.start Ng [.ref f, v]) H
def tLam2 (T : List (Addr × Str)) (TT : (XK → Hp → VK → Prop) → V → Hp → VK → Prop) (j : Nat) (t : XK → TE) : TE := fun σ H Q => ∃ v, σ[j]? = some (some v) ∧ Tabs T H ∧ ∀ H1, ExtN H H1 → Tabs T H1 → TT (fun E H' Q' => t E σ H' Q') v H1 Q
section
variable {X : Cx}
/-- x(lambda: body, y) -/
theorem pe_lamcall2 {T : List (Addr × Str)} {TT : (XK → Hp → VK → Prop) → V → Hp → VK → Prop} {x a b : Str} {g c P : Addr} {k j : Nat} {pg : Arguments} {bg : List Stmt} {sg : Scope} {dV kV doc pm cdv ct oc : Value} {an od : Option Addr} {osl : Array (Option Value)} {Ng : List Str}
    {params : Arguments} {body e : Expr} {scope : Scope} {t : XK → TE} {p lpos pos : Pos} (hg : Gl X x) (hm : X.mg x = some (.ref g)) (hk : PySem.W.keepIn X.K (.ref g) = true)
    (lk : X.K.lookup g = some ⟨oc, od, .func (PySem.W.fnOf x x pg bg sg dV kV doc pm an cdv ct), osl⟩) (hcg : PySem.W.codeIn X.K cdv x = true) (hb : L2.Binds X.K (PySem.W.fnOf x x pg bg sg dV kV doc pm an cdv ct) [a, b] []) (Sg : FnScope Ng [a, b] sg) (hNg : Ng[0]? = some a) (hva : Vis sg a)
    (hG : Gives2 X Ng x sg g cdv bg a (X.env.qual ++ "<lambda>") TT) (hs : X.stack = X.env :: X.outer) (hfm : X.env.frame = some X.env.locals)
    (TB : TabB X.base X.mg c P) (hcode : X.env.code = .ref c) (hmT : (P, X.env.qual ++ "<lambda>") ∈ T) (hu : ∀ p ∈ T, p.1 = P → p.2 = X.env.qual ++ "<lambda>") (hr : Room (k + 2) X.A) (L : LamS X.env.scope scope) (hdef : defaultsOf params X.env = ([], []))
    (hbind : ∀ (q : Str) (cl : List (Str × Addr)) (pm cv ctv : Value), bindArgs (PySem.W.kla_fn "<lambda>" q params body scope cl pm cv ctv) ⟨[], []⟩ = pure [])
    (hbody : ∀ (A : Around) (outer : List Env) (s : Shared) (H : Hp) (E : XK) (f c' : Addr), Room k (A.deeper (lamEnv X scope s.heap.objs.size f c')) → PE (lamCx X A outer s H E scope f c') body (t E)) (he : PA X [e] (tCons (tVar j) tNil))
    (hdb : (x == ("__debug__" : Str)) = false := by decide) (hd : (a == ("__debug__" : Str)) = false := by decide) (hcd : (a == ("__classdict__" : Str)) = false := by decide) (hpl : (backTo pos (starEach [e] X.env)).any (·.1) = false := by rfl) :
    PE X (.Call (.Name x p) [.Lambda params body scope lpos, e] [] pos) (tLam2 T TT j t) := by
  refine ⟨fun pins s σ H Q I h => ?_⟩
  obtain ⟨v, hv, hT, h⟩ := h
  refine wpAny_Call_Name_kw (ld_glob I hg hm ?_ hdb)
  refine PySem.W.callWith_K (h₀ := X.base) I.ok.mod.kin hk ?_ (by rfl) hpl
  show wpAny _ _ (spliced ((false, eval (.Lambda params body scope lpos) X.env) :: backTo pos (starEach [e] X.env))) _ _ s
  refine Calls.spliced_cons (lam_make2 I TB hcode hmT hu hT hdef (L.has I.ok) fun f c' pm' ctv H1 s' I1 eN T1 hf hfn hfr hco => ?_)
  have nL : f ≠ X.env.locals := fun z => hfr (by rw [hs]; exact List.mem_filterMap.mpr ⟨X.env, List.mem_cons_self, by rw [hfm, z]⟩)
  have nF : f ∉ X.fs := fun hm => by
    obtain ⟨e, he, q⟩ := List.mem_filterMap.mp hm
    exact hfr (by rw [hs]; exact List.mem_filterMap.mpr ⟨e, List.mem_cons_of_mem _ he, q⟩)
  generalize hof : PySem.W.kla_obj "<lambda>" (X.env.qual ++ "<lambda>") params body scope (cloFrom X.env.cells scope.names []) pm' c' ctv = of at hf
  have ndat : ∀ v, of.data ≠ .cell v := fun v z => by
    rw [← hof] at z
    cases z
  have I1p : Inv X ((f, of) :: pins) σ H1 s' := I1.pins_of fun p hp => by
    rcases List.mem_cons.mp hp with z | z
    · rw [z]
      exact ⟨hf, hfn, nL, nF, ndat⟩
    · exact I1.pin p (List.mem_append_right _ z)
  refine thn (he.run pos ((f, of) :: pins) s' σ H1 (fun vs H' => vs = [v] ∧ H' = H1) I1p ⟨v, hv, rfl, rfl⟩) fun us s2 ⟨vs, H2, I2, r2, ev, eH⟩ => ?_
  subst ev
  rw [eH] at I2
  obtain ⟨u, rfl, rv⟩ := vals1 r2
  have hf2 : s2.heap.get? f = some of := (I2.pin (f, of) (List.mem_append_right _ List.mem_cons_self)).1
  rw [← hof] at hf2
  have I2' : Inv X pins σ H1 s2 := I2.pins_of fun p hp => by
    exact I2.pin p (List.mem_append_right _ (List.mem_cons_of_mem _ hp))
  refine ⟨I2'.kIn, ?_⟩
  have rc : codeAny (model X.prog X.w) X.A (.call (.ref g) ⟨[.ref f, u], []⟩) (CR C8.CX0 X.stack X.prog X.w H1 s2 Q C8.E0) s2 := by
    refine run_ofS (N := Ng) (ps := [a, b]) (us := [.ref f, u]) (vs := [.ref f, v]) lk hcg Sg hr I2'.env0 (hb s2 [.ref f, u] I2'.kIn rfl) (.cons rfl (.cons rv .nil)) rfl fun hr' => ?_
    obtain ⟨t', ht', hq'⟩ := hG f c' s2 H1 Q (fun E H' Q' => t E σ H' Q') v (fun W pn xe p1 p2 tk => pe_act2 (i := 0) I2' L hf2 hfn hfr (hbind _ _ _ _ _) tk hr' (fun E A outer s H hr2 => hbody A outer s H E f c' hr2) hNg hva hd hcd) hco (h H1 eN T1)
    exact ⟨t', ht'.nox, hq'⟩
  refine wpAny_call (codeAny_mono rc fun r s2 hq => ?_)
  cases r with
  | error e => exact (show False from hq).elim
  | ok fl =>
    cases fl with
    | ret u => exact I2'.after hq
    | next => exact False.elim hq
    | brk => exact False.elim hq
    | cont => exact False.elim hq
end
end K30
namespace K30
open PySem PySem.Spec PyProof.Rows L2 Evl K30M LamX
/-- what _law_web_refused makes of an error -/
def refE (K : PySem.W.Frag) (v : V) (Q : VK) : XK := fun cls d H => ∃ dd x n T, d = some dd ∧ cls = .ref (He.ga K "Refused") ∧ v = .ref x ∧ H dd = some (.xd [("at", .ref x)]) ∧ WebAt K H x n T ∧ ∀ H2, Ex H H2 → Q (.bl true) H2
theorem bc_isi {X : Cx} {K : PySem.W.Frag} (h : X.K = K) : CallR X (.builtin "isinstance") (rIsi K) := h ▸ call_isi
def TRef (K : PySem.W.Frag) : (XK → Hp → VK → Prop) → V → Hp → VK → Prop := fun tl v H Q => ∀ Qn : VK, tl (refE K v Q) H Qn
theorem refused_gives {P : Program} {K : PySem.W.Frag} {mg : Str → Option Value} {base : Heap} {X : Cx} (T : TW P K mg base) (hP : X.prog = P) (hK : X.K = K) (hm : X.mg = mg) (hb : X.base = base) (hr : Room 4 X.A) {g : Addr} {cdg : Value} {q : Str} :
    Gives2 X ["_law_ask", "_law_web", "fault"] "_law_web_refused" (defScope (top 51)) g cdg (defBody (top 51)) "_law_ask" q (TRef K) := by
  subst hP hK hm hb
  intro f c' s H Q tl v act hc h
  have hr2 : L2H.RoomH 1 ((cxOf C8.CX0 X.prog X.w X.K X.mg X.base ["_law_ask", "_law_web", "fault"] "_law_web_refused" (defScope (top 51)) g cdg X.A X.stack s H C8.E0).nox).A := ⟨by have := hr.dp; show X.A.depth + 1 + 3 * 1 + 5 < _; omega, by have := hr.un; show X.A.units + 3 + 16 * 1 + 200 < _; omega⟩
  have hu2 : ((cxOf C8.CX0 X.prog X.w X.K X.mg X.base ["_law_ask", "_law_web", "fault"] "_law_web_refused" (defScope (top 51)) g cdg X.A X.stack s H C8.E0).nox).A.units + 64 < cLine := by have := hr2.un; omega
  refine ⟨_, pss_cons (ps_try_manyA (X := (cxOf C8.CX0 X.prog X.w X.K X.mg X.base ["_law_ask", "_law_web", "fault"] "_law_web_refused" (defScope (top 51)) g cdg X.A X.stack s H C8.E0).nox) (i := 2)
      (tb := fun W D σ H => ∃ E : XK, σ[0]? = some (some (.ref f)) ∧ H c' = some (CodeO c' q) ∧ (∀ cls d H', E cls d H' → W cls d σ H') ∧ ∀ Qn : VK, tl E H Qn)
      rfl rfl (show (["_law_ask", "_law_web", "fault"] : List Str).Nodup by decide +kernel) rfl rfl LamX.takes0 (fun W pn xe tk _ => ⟨fun pins s' σ H' D I h' => ?_⟩)
      (.cons ⟨rfl, by decide, .inl T.g_Refused⟩ (fun a oe cls d pn hz hf => pss_one (ps_ret (pe_and (pe_callB (bc_isi (K := X.K) rfl) (by rfl) T.f_isinstance bt_isinstance (pa_cons (pe_xf T.xR T.nR hz hf (pv 2)) (pa_cons (pe_glob (v := .ref _) (by rfl) T.g_Web rfl) pa_nil))) (pe_one (pe_cmpR (op_eqW (X := (cxOf C8.CX0 X.prog X.w X.K X.mg X.base ["_law_ask", "_law_web", "fault"] "_law_web_refused" (defScope (top 51)) g cdg X.A X.stack s H C8.E0).nox) T rfl rfl rfl rfl hr2 hu2) (pe_xf T.xR T.nR hz hf (pv 2)) (pv 1) (nomark _)))))) .nil)) (pss_one (ps_ret pe_bl)), ?_⟩
  · obtain ⟨E, h1, h2, hW, h3⟩ := h'
    exact (pss_one (ps_expr (act W pn xe _ _ tk))).run pins s' σ H' D I ⟨E, h1, h2, hW, h3 _⟩
  · refine ⟨refE X.K v Q, rfl, hc, fun cls d H' hh => ?_, h⟩
    obtain ⟨dd, x, n, S, rfl, rfl, rfl, hd, W, k⟩ := hh
    obtain ⟨dx, tt, rs, hx, htt⟩ := W.ex
    refine ⟨true, T.mRR, fun _ a ha hl => ?_, fun z => Bool.noConfusion z⟩
    have g2 : ((L2.start ["_law_ask", "_law_web", "fault"] [V.ref f, .ref x]).set 2 (some (.ref a)))[2]? = some (some (V.ref a)) := rfl
    have ex : ∀ {C : Addr}, He.ga X.K "Refused" = C → Ev (tXf a (.ref (He.ga X.K "Refused")) (some dd) C "at" (tVar 2)) ((L2.start ["_law_ask", "_law_web", "fault"] [V.ref f, .ref x]).set 2 (some (.ref a))) H' (.ref x) := fun hC H1 e1 Q q => ⟨_, g2, rfl, by rw [hC], dd, _, _, rfl, e1 _ _ hd, rfl, q H1 (Ex.refl _)⟩
    have main : Ev (tAndV (tCB (rIsi X.K) (tCons (tXf a (.ref (He.ga X.K "Refused")) (some dd) (He.ga X.K "Refused") "at" (tVar 2)) (tCons (tC (.ref (He.ga X.K "Web"))) tNil))) (tOp (rEqW X.K) (tXf a (.ref (He.ga X.K "Refused")) (some dd) (He.ga X.K "Refused") "at" (tVar 2)) (tVar 1))) ((L2.start ["_law_ask", "_law_web", "fault"] [V.ref f, .ref x]).set 2 (some (.ref a))) H' (.bl (true && true)) :=
      ev_andV (ev_isWeb T (ex rfl) hx) fun _ => ev_op (ex rfl) (ev_var (i := 1) rfl) fun H1 e1 Q q => ⟨x, n, S, rfl, rfl, W.mono e1, q⟩
    exact ret_of (main H' (Ex.refl _) _ k)
end K30
namespace K30
open PySem PySem.Spec PyProof.Rows L2 Evl K30M LamX
/-! ### "0" * n -/
def zer (n : Nat) : Str := if n = 0 then Str.empty else if n = 1 then "0" else ⟨(List.replicate n (("0" : String) : Str).cps).foldl (· ++ ·) #[]⟩
theorem zer_fits : ∀ n : Fin 21, (reprText (zer n.val)).length ≤ sizeLine ∧ (zer n.val).length ≤ sizeLine ∧ PyData.strOk (reprText (zer n.val)) = true := by
  intro n
  have h : ∀ n : Fin 21, (reprText (zer n.val)).length ≤ 100 ∧ (zer n.val).length ≤ 100 ∧ PyData.strOk (reprText (zer n.val)) = true := by decide +kernel
  obtain ⟨h1, h2, h3⟩ := h n
  rw [sizeLine_eq]
  exact ⟨by omega, by omega, h3⟩
def rZer : R2 := fun x y H Q => ∃ n : Nat, x = .str "0" ∧ y = .int (n : Int) ∧ n ≤ 20 ∧ Q (.str (zer n)) H
theorem op_zer {X : Cx} : OpR X (binaryOp .Mult) rZer := by
  intro pins s σ H x y v u Q I rx ry h
  obtain ⟨n, rfl, rfl, hn, q⟩ := h
  obtain ⟨t, rfl⟩ := (show ∃ t, v = Value.str "0" t from rx)
  obtain ⟨t', rfl⟩ := (show ∃ t, u = Value.int (n : Int) t from ry)
  have hl : (("0" : String) : Str).length = 1 := by decide
  have hf := (zer_fits ⟨n, by omega⟩).2.1
  refine PySem.P.mul_str (by rw [decide_eq_false (by omega), decide_eq_false (by omega)]; rfl) (fun h1 h2 => ?_) (fun h1 h2 => ?_) ?_
  · rw [hl]
    have : (1 : Int) ≤ (2 ^ 63 - 1) / (n : Int) := by
      refine (Int.le_ediv_iff_mul_le (by omega)).mpr ?_
      omega
    omega
  · rw [hl]
    unfold Builtin.Str.tooLong
    exact decide_eq_false (by rw [sizeLine_eq]; omega)
  · by_cases h0 : n = 0
    · subst h0
      rw [if_pos (by omega)]
      exact ⟨by decide, .str _, H, I.tok _, ⟨_, rfl⟩, q⟩
    · rw [if_neg (by omega)]
      by_cases h1 : n = 1
      · subst h1
        rw [if_pos (by rfl)]
        exact ⟨.str _, H, I, ⟨_, rfl⟩, q⟩
      · rw [if_neg (by
          rw [hl]
          simp
          omega)]
        have e : zer n = ⟨(List.replicate n (("0" : String) : Str).cps).foldl (· ++ ·) #[]⟩ := by unfold zer; rw [if_neg h0, if_neg h1]
        rw [e] at q hf
        rw [Int.toNat_natCast]
        exact ⟨hf, .str _, H, I.tok _, ⟨_, rfl⟩, q⟩
/-! ### values whose repr is short -/
def SmallV : V → Prop
  | .non => True
  | .bl _ => True
  | .int i => -1 ≤ i ∧ i ≤ 20
  | _ => False
theorem small_int : ∀ n : Fin 22, (Str.ofString (toString ((n.val : Int) - 1))).length ≤ 5 ∧ PyData.strOk (Str.ofString (toString ((n.val : Int) - 1))) = true := by decide +kernel
theorem small_sh {v : V} (h : SmallV v) : ∃ t, ShS v t ∧ t.length ≤ 5 ∧ PyData.strOk t = true := by
  cases v with
  | non => exact ⟨"None", rfl, by decide, by decide +kernel⟩
  | bl b =>
    cases b with
    | false => exact ⟨"False", rfl, by decide, by decide +kernel⟩
    | true => exact ⟨"True", rfl, by decide, by decide +kernel⟩
  | int i =>
    have h : -1 ≤ i ∧ i ≤ 20 := h
    refine ⟨toString i, ⟨?_, rfl⟩, ?_⟩
    · have := Nat.log2_le_self i.natAbs
      omega
    · have := small_int ⟨(i + 1).toNat, by omega⟩
      have e : (((i + 1).toNat : Nat) : Int) - 1 = i := by omega
      dsimp only at this
      rw [e] at this
      exact this
  | _ => exact False.elim h
theorem small_all : ∀ {xs : List V}, (∀ x ∈ xs, SmallV x) → ∃ ts, ShAll xs ts ∧ ts.length = xs.length ∧ piled ts ≤ 7 * xs.length ∧ ∀ t ∈ ts, PyData.strOk t = true
  | [], _ => ⟨[], .nil, rfl, Nat.le_refl _, fun _ h => (nomatch h)⟩
  | x :: xs, h => by
    obtain ⟨ts, h1, h2, h3, h4⟩ := small_all fun y hy => h y (List.mem_cons_of_mem _ hy)
    obtain ⟨t, g1, g2, g3⟩ := small_sh (h x List.mem_cons_self)
    refine ⟨t :: ts, .cons g1 h1, by rw [List.length_cons, List.length_cons, h2], ?_, fun u hu => ?_⟩
    · rw [piled_cons, List.length_cons]
      omega
    · rcases List.mem_cons.mp hu with rfl | hu
      · exact g3
      · exact h4 u hu
theorem ok_app {x y : Str} (h1 : PyData.strOk x = true) (h2 : PyData.strOk y = true) : PyData.strOk (x ++ y) = true := by
  show (x.cps ++ y.cps).all _ = true
  rw [Array.all_append]
  exact Bool.and_eq_true_iff.mpr ⟨h1, h2⟩
theorem ok_join : ∀ {ts : List Str}, (∀ t ∈ ts, PyData.strOk t = true) → PyData.strOk (Str.join ", " ts) = true
  | [], _ => by decide +kernel
  | [t], h => h t List.mem_cons_self
  | t :: u :: r, h => ok_app (ok_app (h t List.mem_cons_self) (by decide +kernel)) (ok_join (ts := u :: r) fun v hv => h v (List.mem_cons_of_mem _ hv))
theorem ok_tuple {ts : List Str} (h : ∀ t ∈ ts, PyData.strOk t = true) : PyData.strOk (tupleText ts) = true := by
  unfold tupleText
  refine ok_app (ok_app (by decide +kernel) (ok_join h)) ?_
  split <;> decide +kernel
theorem small_text {xs : List V} {ts : List Str} (hl : xs.length ≤ 40) (h2 : ts.length = xs.length) (h3 : piled ts ≤ 7 * xs.length) : (tupleText ts).length ≤ sizeLine := by
  unfold tupleText
  rw [strLen_append, strLen_append, sizeLine_eq]
  have e1 : ((("(" : String) : Str)).length = 1 := rfl
  have e3 : (((if ts.length == 1 then ",)" else ")" : String) : Str)).length ≤ 2 := by split <;> decide
  have e2 : (Str.join ", " ts).length ≤ piled ts := by
    by_cases h : ts = []
    · subst h
      exact Nat.zero_le _
    · have := join_length_add ts h
      omega
  omega
/-- no order of m ties, with a repr -/
def WrongV (K : PySem.W.Frag) (H : Hp) (m : Nat) (v : V) : Prop := BadTurns H m v ∧ ∃ t, ShV K H v t ∧ PyData.strOk t = true
theorem small_sc {v : V} (h : SmallV v) : Sc v := by
  cases v with
  | non => trivial
  | bl b => trivial
  | int i => trivial
  | _ => exact False.elim h
theorem wrong_tup {K : PySem.W.Frag} {H : Hp} {m : Nat} {a : Addr} {xs : List V} (h : H a = some (.tup xs)) (hs : ∀ x ∈ xs, SmallV x) (hl : xs.length ≤ 40) (no : ∀ ts, xs = natV ts → ¬ ts.Perm (List.range m)) : WrongV K H m (.ref a) := by
  obtain ⟨ts, h1, h2, h3, h4⟩ := small_all hs
  exact ⟨.inr ⟨a, xs, rfl, h, fun x hx => small_sc (hs x hx), by omega, no⟩, tupleText ts, .inr ⟨a, xs, ts, rfl, st_of h, h1, small_text hl h2 h3, rfl⟩, ok_tuple h4⟩
theorem wrong_sc {K : PySem.W.Frag} {H : Hp} {m : Nat} {v : V} {t : Str} (h : Sc v) (hs : ShS v t) (ok : PyData.strOk t = true) : WrongV K H m v := ⟨.inl h, t, .inl hs, ok⟩
theorem WrongV.ex {K : PySem.W.Frag} {H H' : Hp} {m : Nat} {v : V} (h : WrongV K H m v) (e : Ex H H') : WrongV K H' m v := ⟨h.1.ex e, let ⟨t, q, ok⟩ := h.2; ⟨t, q.ex e, ok⟩⟩
theorem len_no {m : Nat} {xs : List V} (h : xs.length ≠ m) : ∀ ts, xs = natV ts → ¬ ts.Perm (List.range m) := fun ts e p => by
  have := p.length_eq
  rw [List.length_range] at this
  rw [e, natV_len] at h
  omega
/-! ### defs that are called where no repr is under way -/
structure FnG (P : Program) (w : World) (K : PySem.W.Frag) (mg : Str → Option Value) (base : Heap) (CX : CXT) (k : Nat) (f : Addr) (fd : FuncData) (ps : List Str) (sp : Sp) : Prop where
  len : ∀ vs H Q E, sp vs H Q E → vs.length = ps.length
  run : ∀ (A : Around) (outer : List Env) (s : Shared) (H : Hp) (args : Args) (us : List Value) (vs : List V) (Q : VK) (E : XK), A.guards = some [] → Room k A → Env0 P w K mg base A outer s H → BindsTo s fd args (ps.zip us) → Vals vs us → sp vs H Q E →
    codeAny (model P w) A (.call (.ref f) args) (CR CX outer P w H s Q E) s
structure DfG (P : Program) (w : World) (K : PySem.W.Frag) (mg : Str → Option Value) (base : Heap) (k : Nat) (x : Str) (ps : List Str) (sp : Sp) : Prop where
  ex : ∃ (f : Addr) (fd : FuncData), mg x = some (.ref f) ∧ PySem.W.keepIn K (.ref f) = true ∧ Binds K fd ps [] ∧ FnG P w K mg base (L2.CX P w) k f fd ps sp
theorem fnG_of {P : Program} {w : World} {K : PySem.W.Frag} {mg : Str → Option Value} {base : Heap} {CX : CXT} {x : Str} {f : Addr} {fd : FuncData} {N ps : List Str} {k : Nat} {sp : Sp} {params : Arguments} {body : List Stmt} {scope : Scope} {dvs : List V} {kws : List (Str × V)} (F : FunD K x x params body scope dvs kws f fd) (S : FnScope N ps scope) (len : ∀ vs H Q E, sp vs H Q E → vs.length = ps.length)
    (hbody : ∀ (cdv : Value) (A : Around) (outer : List Env) (s : Shared) (H : Hp) (vs : List V) (Q : VK) (E : XK), A.guards = some [] → (∃ (oc : Value) (od : Option Addr) (dV kV doc pm : Value) (an : Option Addr) (ct : Value) (osl : Array (Option Value)), K.lookup f = some ⟨oc, od, .func (PySem.W.fnOf x x params body scope dV kV doc pm an cdv ct), osl⟩) → Room k (A.deeper (envOfC x scope s.heap.objs.size f cdv)) → sp vs H Q E →
      ∃ t, PSs (cxOf CX P w K mg base N x scope f cdv A outer s H E) body t ∧ t { nx := fun _ H' => Q .non H', rt := Q } (L2.start N vs) H) : FnG P w K mg base CX (k + 1) f fd ps sp := by
  obtain ⟨oc, od, dV, kV, doc, pm, an, cdv, ct, osl, rfl, lk, hcd, _, _⟩ := F.ex
  exact ⟨len, fun A outer s H args us vs Q E hg hr e0 hb r hsp => run_ofS lk hcd S hr e0 hb r (len _ _ _ _ hsp) fun hr' => hbody cdv A outer s H vs Q E hg ⟨_, _, _, _, _, _, _, _, _, lk⟩ hr' hsp⟩
section
variable {X : Cx} {k : Nat} {ps : List Str} {sp : Sp} {x : Str} {p pos : Pos} {e : Expr} {es : List Expr} {t : TA}
theorem pe_dG (D : DfG X.prog X.w X.K X.mg X.base k x ps sp) (hr : Room k X.A) (hgd : X.A.guards = some []) (ha : PA X (e :: es) t) (hg : Gl X x := by rfl) (hdb : (x == ("__debug__" : Str)) = false := by decide)
    (he : starEach (e :: es) X.env = (false, eval e X.env) :: starEach es X.env := by rfl) (hpl : (backTo pos (starEach es X.env)).any (·.1) = false := by rfl) : PE X (.Call (.Name x p) (e :: es) [] pos) (tCall sp [] E0 t) := by
  obtain ⟨f, fd, hm, hk, hb, F⟩ := D.ex
  refine ⟨fun pins s σ H Q I h => ?_⟩
  refine wpAny_Call_Name_kw (ld_glob I hg hm ?_ hdb)
  refine PySem.W.callWith_K (h₀ := X.base) I.ok.mod.kin hk (thn (ha.run pos pins s σ H _ I h) fun us s1 ⟨vs, H1, I1, r, q⟩ => ⟨I1.kIn, ?_⟩) he hpl
  have q : sp (vs ++ []) H1 Q E0 := q
  rw [List.append_nil] at q
  have hl : us.length = ps.length := by rw [← r.length]; exact F.len _ _ _ _ q
  have hb' := hb s1 us I1.kIn (by rw [List.append_nil]; exact hl)
  rw [List.append_nil] at hb'
  refine wpAny_call (codeAny_mono (F.run X.A X.stack s1 H1 ⟨us, []⟩ us vs Q E0 hgd hr I1.env0 hb' r q) fun r s' hq => ?_)
  cases r with
  | error e => exact passL pins σ H1 s1 e s' I1 hq
  | ok fl =>
    cases fl with
    | ret u => exact I1.after hq
    | next => exact False.elim hq
    | brk => exact False.elim hq
    | cont => exact False.elim hq
end
end K30
namespace K30
open PySem PySem.Spec PyProof.Rows L2 Evl K30M LamX
theorem sc_heard : FnScope ["_law_ask", "fault"] ["_law_ask"] (defScope (top 50)) := ⟨rfl, rfl, rfl, by decide +kernel, rfl, by decide +kernel, by decide +kernel⟩
theorem sc_refused : FnScope ["_law_ask", "_law_web", "fault"] ["_law_ask", "_law_web"] (defScope (top 51)) := ⟨rfl, rfl, rfl, by decide +kernel, rfl, by decide +kernel, by decide +kernel⟩
section
variable {P : Program} {K : PySem.W.Frag} {mg : Str → Option Value} {base : Heap} {X : Cx} {Tb : List (Addr × Str)} {c Pt : Addr} {params : Arguments} {body : Expr} {scope : Scope} {t : XK → TE} {p lpos pos : Pos}
theorem pe_heard (T : TW P K mg base) (hP : X.prog = P) (hK : X.K = K) (hm : X.mg = mg) (hb : X.base = base) (hgd : X.A.guards = some [])
    (TB : TabB X.base X.mg c Pt) (hcode : X.env.code = .ref c) (hmT : (Pt, X.env.qual ++ "<lambda>") ∈ Tb) (hu : ∀ p ∈ Tb, p.1 = Pt → p.2 = X.env.qual ++ "<lambda>") (hr : Room 8 X.A) (L : LamS X.env.scope scope) (hdef : defaultsOf params X.env = ([], []))
    (hbind : ∀ (q : Str) (cl : List (Str × Addr)) (pm cv ctv : Value), bindArgs (PySem.W.kla_fn "<lambda>" q params body scope cl pm cv ctv) ⟨[], []⟩ = pure [])
    (hbody : ∀ (A : Around) (outer : List Env) (s : Shared) (H : Hp) (E : XK) (f c' : Addr), Room 6 (A.deeper (lamEnv X scope s.heap.objs.size f c')) → PE (lamCx X A outer s H E scope f c') body (t E)) (hg : Gl X "_law_heard" := by rfl) :
    PE X (.Call (.Name "_law_heard" p) [.Lambda params body scope lpos] [] pos) (tLam Tb (THeard K) t) := by
  subst hP hK hm hb
  obtain ⟨fd, F⟩ := T.d__law_heard
  have bnd := F.bindsN (ps := ["_law_ask"]) (fun _ _ _ _ _ _ us hl => match us, hl with | [_], _ => rfl)
  obtain ⟨oc, od, dV, kV, doc, pm, an, cdv, ct, osl, rfl, lk, hcd, hD, hK⟩ := F.ex
  exact pe_lamcall (a := "_law_ask") (Ng := ["_law_ask", "fault"]) hg T.g__law_heard F.kp lk hcd bnd sc_heard rfl (.inl rfl) (heard_gives T.toTX rfl rfl hgd (by have := hr.un; omega)) TB hcode hmT hu hr L hdef hbind hbody
theorem pe_refused {e : Expr} {j : Nat} (T : TW P K mg base) (hP : X.prog = P) (hK : X.K = K) (hm : X.mg = mg) (hb : X.base = base) (hgd : X.A.guards = some [])
    (TB : TabB X.base X.mg c Pt) (hcode : X.env.code = .ref c) (hmT : (Pt, X.env.qual ++ "<lambda>") ∈ Tb) (hu : ∀ p ∈ Tb, p.1 = Pt → p.2 = X.env.qual ++ "<lambda>") (hr : Room 8 X.A) (L : LamS X.env.scope scope) (hdef : defaultsOf params X.env = ([], []))
    (hbind : ∀ (q : Str) (cl : List (Str × Addr)) (pm cv ctv : Value), bindArgs (PySem.W.kla_fn "<lambda>" q params body scope cl pm cv ctv) ⟨[], []⟩ = pure [])
    (hbody : ∀ (A : Around) (outer : List Env) (s : Shared) (H : Hp) (E : XK) (f c' : Addr), Room 6 (A.deeper (lamEnv X scope s.heap.objs.size f c')) → PE (lamCx X A outer s H E scope f c') body (t E)) (he : PA X [e] (tCons (tVar j) tNil)) (hg : Gl X "_law_web_refused" := by rfl)
    (hs : X.stack = X.env :: X.outer := by rfl) (hfm : X.env.frame = some X.env.locals := by rfl) (hpl : (backTo pos (starEach [e] X.env)).any (·.1) = false := by rfl) :
    PE X (.Call (.Name "_law_web_refused" p) [.Lambda params body scope lpos, e] [] pos) (tLam2 Tb (TRef K) j t) := by
  subst hP hK hm hb
  obtain ⟨fd, F⟩ := T.d__law_web_refused
  have bnd := F.bindsN (ps := ["_law_ask", "_law_web"]) (fun _ _ _ _ _ _ us hl => match us, hl with | [_, _], _ => rfl)
  obtain ⟨oc, od, dV, kV, doc, pm, an, cdv, ct, osl, rfl, lk, hcd, hD, hK⟩ := F.ex
  exact pe_lamcall2 (a := "_law_ask") (b := "_law_web") (Ng := ["_law_ask", "_law_web", "fault"]) hg T.g__law_web_refused F.kp lk hcd bnd sc_refused rfl (.inl rfl) (refused_gives T rfl rfl rfl rfl (hr.mono (by decide))) hs hfm TB hcode hmT hu hr L hdef hbind hbody he (hpl := hpl)
end
end K30
namespace K30
open PySem PySem.Spec PyProof.Rows L2 Evl K30M LamX
/-! ### what stays past a lambda -/
theorem BoxAt.exN {H H' : Hp} {b : Addr} (h : BoxAt H b) (e : ExtN H H') : BoxAt H' b := by
  obtain ⟨g, r, h1, h2⟩ := h
  exact ⟨g, r, e _ _ h1 (fun ps z => by cases z), h2⟩
theorem tup_exN {H H' : Hp} {a : Addr} {xs : List V} (h : H a = some (.tup xs)) (e : ExtN H H') : H' a = some (.tup xs) := e _ _ h fun ps z => by cases z
theorem WebAt.exN {K : PySem.W.Frag} {H H' : Hp} {x : Addr} {n : Nat} {T : Ties} (w : WebAt K H x n T) (e : ExtN H H') : WebAt K H' x n T := by
  obtain ⟨⟨dx, tt, rs, h, t⟩, g⟩ := w
  exact ⟨⟨dx, tt, rs, e _ _ h (fun ps z => by cases z), tup_exN t.at_ e, t.len, fun i r p a b => tup_exN (t.pair i r p a b) e⟩, g⟩
theorem WebAt.exB {K : PySem.W.Frag} {H H' : Hp} {b x : Addr} {n : Nat} {T : Ties} (w : WebAt K H x n T) (hb : BoxAt H b) (e : ExB b H H') : WebAt K H' x n T := by
  obtain ⟨⟨dx, tt, rs, h, t⟩, g⟩ := w
  have tne : ∀ {c : Addr} {o : HO}, H c = some o → (∀ l, o ≠ .lst l) → c ≠ b := fun {c o} hc no z => by
    obtain ⟨g, r, h, _⟩ := hb
    rw [z, h] at hc
    exact no _ (Option.some.inj hc).symm
  exact ⟨⟨dx, tt, rs, e _ _ (tne h fun _ z => by cases z) h, e _ _ (tne t.at_ fun _ z => by cases z) t.at_, t.len, fun i r p a b2 => e _ _ (tne (t.pair i r p a b2) fun _ z => by cases z) (t.pair i r p a b2)⟩, g⟩
theorem tup_exB {H H' : Hp} {a b : Addr} {xs : List V} (h : H a = some (.tup xs)) (hb : BoxAt H b) (e : ExB b H H') : H' a = some (.tup xs) := e _ _ (fun z => by
  obtain ⟨g, r, q, _⟩ := hb
  rw [z, q] at h
  cases h) h
theorem sqT_exN {K : PySem.W.Frag} {H H' : Hp} {a : Addr} {xs : List V} (h : SqT K H a xs) (e : ExtN H H') : SqT K H' a xs := by
  rcases h with h | h
  · rcases h with h | ⟨o, h⟩
    · exact .inl (.inl (e _ _ h fun ps z => by cases z))
    · exact .inl (.inr ⟨o, e _ _ h fun ps z => by cases z⟩)
  · exact .inr h
theorem ShV.exN {K : PySem.W.Frag} {H H' : Hp} {v : V} {t : Str} (h : ShV K H v t) (e : ExtN H H') : ShV K H' v t := h.imp id fun ⟨a, ys, ts, h1, h2, h3⟩ => ⟨a, ys, ts, h1, sqT_exN h2 e, h3⟩
theorem BadTurns.exN {H H' : Hp} {m : Nat} {v : V} (h : BadTurns H m v) (e : ExtN H H') : BadTurns H' m v := by
  rcases h with h | ⟨a, xs, h1, h2, h3⟩
  · exact .inl h
  · exact .inr ⟨a, xs, h1, tup_exN h2 e, h3⟩
theorem WrongV.exN {K : PySem.W.Frag} {H H' : Hp} {m : Nat} {v : V} (h : WrongV K H m v) (e : ExtN H H') : WrongV K H' m v := ⟨h.1.exN e, let ⟨t, q, ok⟩ := h.2; ⟨t, q.exN e, ok⟩⟩
theorem TabS.exB {H H' : Hp} {b P : Addr} {q : Str} (t : TabS H P q) (hb : BoxAt H b) (e : ExB b H H') : TabS H' P q := by
  obtain ⟨ps, h1, h2, h3⟩ := t
  have ne : ∀ {c : Addr} {o : HO}, H c = some o → (∀ l, o ≠ .lst l) → c ≠ b := fun {c o} hc no z => by
    obtain ⟨g, r, h, _⟩ := hb
    rw [z, h] at hc
    exact no _ (Option.some.inj hc).symm
  refine ⟨ps, e _ _ (ne h1 fun _ z => by cases z) h1, h2, fun pos cv hc => ?_⟩
  obtain ⟨c, e1, e2⟩ := h3 pos cv hc
  exact ⟨c, e1, e _ _ (ne e2 fun _ z => by unfold CodeO at z; cases z) e2⟩
theorem Tabs.exB {T : List (Addr × Str)} {H H' : Hp} {b : Addr} (t : Tabs T H) (hb : BoxAt H b) (e : ExB b H H') : Tabs T H' := fun p hp => TabS.exB (t p hp) hb e
theorem sqT_exB {K : PySem.W.Frag} {H H' : Hp} {a b : Addr} {xs : List V} (h : SqT K H a xs) (hb : BoxAt H b) (e : ExB b H H') : SqT K H' a xs := by
  have ne : ∀ {c : Addr} {o : HO}, H c = some o → (∀ l, o ≠ .lst l) → c ≠ b := fun {c o} hc no z => by
    obtain ⟨g, r, h, _⟩ := hb
    rw [z, h] at hc
    exact no _ (Option.some.inj hc).symm
  rcases h with h | h
  · rcases h with h | ⟨o, h⟩
    · exact .inl (.inl (e _ _ (ne h fun _ z => by cases z) h))
    · exact .inl (.inr ⟨o, e _ _ (ne h fun _ z => by cases z) h⟩)
  · exact .inr h
theorem WrongV.exB {K : PySem.W.Frag} {H H' : Hp} {m : Nat} {v : V} {b : Addr} (h : WrongV K H m v) (hb : BoxAt H b) (e : ExB b H H') : WrongV K H' m v := by
  obtain ⟨h1, t, h2, ok⟩ := h
  refine ⟨?_, t, ?_, ok⟩
  · rcases h1 with h1 | ⟨a, xs, q, q2, q3⟩
    · exact .inl h1
    · exact .inr ⟨a, xs, q, tup_exB q2 hb e, q3⟩
  · rcases h2 with h2 | ⟨a, ys, ts, q, q2, q3⟩
    · exact .inl h2
    · exact .inr ⟨a, ys, ts, q, sqT_exB q2 hb e, q3⟩
theorem cut_dropM {xs : List V} (t : Nat) : cutV xs (some (t : Int)) none = xs.drop t := by
  unfold cutV
  rw [HT.sIx_none, HT.sIx_nat]
  by_cases h : t ≤ xs.length
  · rw [Nat.min_eq_left h]
    exact List.take_of_length_le (by rw [List.length_drop]; omega)
  · rw [Nat.min_eq_right (by omega), Nat.sub_self, List.take_zero, List.drop_eq_nil_of_le (by omega)]
theorem mem_natV {x : V} {ts : List Nat} (h : x ∈ natV ts) : ∃ t : Nat, x = .int (t : Int) ∧ t ∈ ts := by
  obtain ⟨t, ht, rfl⟩ := List.mem_map.mp h
  exact ⟨t, rfl, ht⟩
theorem natV_inj {a b : List Nat} (h : natV a = natV b) : a = b := (List.map_inj_right fun x y z => by injection z with z; omega).mp h
/-! ### joins -/
theorem q_whenJ {t : TT} {tu tz : TS} {D : Ends} {σ : L2.St} {H : Hp} {b : Bool} (M : L2.St → Hp → Prop) (h : EvT t σ H b) (h1 : b = true → ∀ H1, Ex H H1 → ∀ D' : Ends, (∀ σ' H', M σ' H' → D'.nx σ' H') → tu D' σ H1) (h2 : b = false → ∀ H1, Ex H H1 → M σ H1) (k : ∀ σ' H', M σ' H' → tz D σ' H') :
    tSeq (tIfS t tu tNext) tz D σ H := q_when h (fun hb H1 e => h1 hb H1 e { D with nx := tz D } k) (fun hb H1 e => k _ _ (h2 hb H1 e))
theorem q_tst {te : TE} {tu tz : TS} {D : Ends} {σ : L2.St} {H : Hp} (h : te σ H fun v H1 => ∃ b, v = .bl b ∧ if b = true then tu { D with nx := tz D } σ H1 else tz D σ H1) : tSeq (tIfS (tTest te) tu tNext) tz D σ H := h
theorem ta_tst {te : TE} {t u : TS} {D : Ends} {σ : L2.St} {H : Hp} (h : te σ H fun v H1 => ∃ b, v = .bl b ∧ if b = true then t D σ H1 else u D σ H1) : tIfS (tTest te) t u D σ H := h
/-- heard(lambda: ..) against (w, repr(v), True), a lambda that raises what is told -/
theorem heard_op {K : PySem.W.Frag} {Tb : List (Addr × Str)} {t : XK → TE} {σ : L2.St} {H : Hp} {Q : VK} {w fld : Str} {C : Addr} {j : Nat} {v : V} {txt : Str} {ne : Bool} (hT : Tabs Tb H) (hv : σ[j]? = some (some v)) (hs : ShV K H v txt) (ok : PyData.strOk txt = true)
    (hC : (C = He.ga K "Refused" ∧ w = "refused" ∧ fld = "at") ∨ (C = He.ga K "NoHouse" ∧ w = "house" ∧ fld = "house"))
    (ht : ∀ H1, ExtN H H1 → ∀ E : XK, (∀ d H2, Ex H1 H2 → H2 d = some (.xd [(fld, v)]) → E (.ref C) (some d) H2) → ∀ Qn, t E σ H1 Qn)
    (k : ∀ H2, ExtN H H2 → Tabs Tb H2 → Q (.bl (!ne)) H2) :
    tOp (if ne = true then rNeD K else rEqD K) (tLam Tb (THeard K) t) (tTup (tCons (tC (.str w)) (tCons (tCB (rReprV K) (tCons (tVar j) tNil)) (tCons (tC (.bl true)) tNil)))) σ H Q := by
  refine op_2 ⟨hT, fun H1 eN T1 Qn => ht H1 eN _ (fun d H2 e2 h2 => ?_) Qn⟩
  have s2 : ShV K H2 v txt := (hs.exN eN).ex e2
  have fin : ∀ p, H2 p = none → (tTup (tCons (tC (.str w)) (tCons (tCB (rReprV K) (tCons (tVar j) tNil)) (tCons (tC (.bl true)) tNil)))) σ (upd H2 p (.tup [.str w, .str txt, .bl true])) fun y H3 => (if ne = true then rNeD K else rEqD K) (.ref p) y H3 Q := fun p hp => by
    have e3 : Ex H2 (upd H2 p (.tup [.str w, .str txt, .bl true])) := Ex.new hp
    refine tup_of (ta_cons (c_of (ta_cons (ev1 ⟨_, hv, v, txt, rfl, s2.ex e3, ta_cons (c_of ⟨by show 3 ≤ _; rw [sizeLine_eq]; omega, fun q hq => ?_⟩)⟩))))
    have e4 : Ex (upd H2 p (.tup [.str w, .str txt, .bl true])) (upd (upd H2 p (.tup [.str w, .str txt, .bl true])) q (.tup [.str w, .str txt, .bl true])) := Ex.new hq
    have d1 : Dp K (upd (upd H2 p (.tup [.str w, .str txt, .bl true])) q (.tup [.str w, .str txt, .bl true])) (.ref p) (.tuple [.str w, .str txt, .bool true]) := .tup (st_of (e4 _ _ upd_same)) (.cons (.str _) (.cons (.str _) (.cons (.bl _) .nil)))
    have d2 : Dp K (upd (upd H2 p (.tup [.str w, .str txt, .bl true])) q (.tup [.str w, .str txt, .bl true])) (.ref q) (.tuple [.str w, .str txt, .bool true]) := .tup (st_of upd_same) (.cons (.str _) (.cons (.str _) (.cons (.bl _) .nil)))
    have eq : PyData.eqv (.tuple [.str w, .str txt, .bool true]) (.tuple [.str w, .str txt, .bool true]) = true := by
      show ((w == w) && ((txt == txt) && (true && true))) = true
      rw [beq_self_eq_true, beq_self_eq_true]
      rfl
    have okw : PyData.strOk w = true := by rcases hC with ⟨_, rfl, _⟩ | ⟨_, rfl, _⟩ <;> decide +kernel
    have sh : SeqAt.shaped (.tuple [.str w, .str txt, .bool true]) = true := by
      show (PyData.canLayAll0 [.str w, .str txt, .bool true] && decide (PyData.depthAll [.str w, .str txt, .bool true] + 1 ≤ 64)) = true
      simp [PyData.canLayAll0, PyData.canLay0, PyData.depthAll, PyData.depth, ok, okw]
    have kk := k _ (eN.trans (ExtN.of (fun b o h => e4 _ _ (e3 _ _ (e2 _ _ h))))) (T1.ext fun b o h => e4 _ _ (e3 _ _ (e2 _ _ h)))
    cases ne with
    | true => exact ⟨_, _, d1, d2, sh, sh, by rw [eq]; exact kk⟩
    | false => exact ⟨_, _, d1, d2, sh, sh, by rw [eq]; exact kk⟩
  rcases hC with ⟨rfl, rfl, rfl⟩ | ⟨rfl, rfl, rfl⟩
  · exact ⟨d, v, txt, rfl, s2, .inr ⟨rfl, h2, fin⟩⟩
  · exact ⟨d, v, txt, rfl, s2, .inl ⟨rfl, h2, fin⟩⟩
end K30
namespace K30
open PySem PySem.Spec PyProof.Rows L2 Evl K30M LamX
def qLam : Str := (envOfC "_law_none_right" (defScope (top 58)) 0 0 .none).qual ++ "<lambda>"
/-- all but the box and the tables stay -/
def ExT (b : Addr) (H H' : Hp) : Prop := ∀ a o, a ≠ b → H a = some o → (∀ ps, o ≠ .tbl ps) → H' a = some o
theorem ExT.of {b : Addr} {H H' : Hp} (e : ExtN H H') : ExT b H H' := fun a o _ h n => e a o h n
theorem ExT.ofB {b : Addr} {H H' : Hp} (e : ExB b H H') : ExT b H H' := fun a o n h _ => e a o n h
theorem ExT.trans {b : Addr} {H H' H'' : Hp} (e : ExT b H H') (f : ExT b H' H'') : ExT b H H'' := fun a o n h m => f a o n (e a o n h m) m
def spNone (K : PySem.W.Frag) (Tb : List (Addr × Str)) : Sp := fun vs H Q _ => ∃ (b x tn : Addr) (n : Nat) (S : Ties) (ts : List Nat) (rg : Bool), vs = [.ref b, .ref x, .ref tn, .bl rg] ∧ BoxAt H b ∧ WebAt K H x n S ∧ S.length ≤ 12 ∧ H tn = some (.tup (natV ts)) ∧ Order S ts ∧ Tabs Tb H ∧ (rg = true → ¬ Tree n S) ∧ (rg = false → Tree n S) ∧
  ∀ H2, ExT b H H2 → BoxAt H2 b → Tabs Tb H2 → Q (.bl true) H2
section
variable {P : Program} {w : World} {K : PySem.W.Frag} {mg : Str → Option Value} {base : Heap}
theorem sc__law_none_right : FnScope ["_law_box_here", "_law_web", "_law_turns", "_law_ringed", "_law_at", "_law_some", "_law_wrong", "_law_bad"] ["_law_box_here", "_law_web", "_law_turns", "_law_ringed"] (defScope (top 58)) := ⟨rfl, rfl, rfl, by decide +kernel, rfl, by decide +kernel, by decide +kernel⟩
theorem k_none_right (T : TW P K mg base) {Pt : Addr} (hC : ∀ (cdv : Value), (∃ (oc : Value) (od : Option Addr) (dV kV doc pm : Value) (an : Option Addr) (ct : Value) (osl : Array (Option Value)), K.lookup (He.ga K "_law_none_right") = some ⟨oc, od, .func (PySem.W.fnOf "_law_none_right" "_law_none_right" (defArgs (top 58)) (defBody (top 58)) (defScope (top 58)) dV kV doc pm an cdv ct), osl⟩) → ∃ c, cdv = .ref c ∧ TabB base mg c Pt) :
    DfG P w K mg base 9 "_law_none_right" ["_law_box_here", "_law_web", "_law_turns", "_law_ringed"] (spNone K [(Pt, qLam)]) := by
  obtain ⟨fd, F⟩ := T.d__law_none_right
  have D_check_turns := (k_check_turns (w := w) T.toTx).mono (show 4 ≤ 6 by decide)
  have D_turns_heard := (k_turns_heard (w := w) T.toTx).mono (show 5 ≤ 6 by decide)
  have D_rest_after := k_rest_after (w := w) T.toTx
  have D__law_take := (k_take (P := P) (w := w) T.toTxt).mono (show 1 ≤ 8 by decide)
  have D__law_pick := (k_pick (P := P) (w := w) T.toTxt).mono (show 2 ≤ 8 by decide)
  refine ⟨_, fd, T.g__law_none_right, F.kp, F.bindsN (fun _ _ _ _ _ _ us hl => match us, hl with | [_, _, _, _], _ => rfl), fnG_of F sc__law_none_right (fun vs H Q E h => ?_) (fun cdv A outer s H vs Q E hg hlk hr h => ?_)⟩
  · obtain ⟨_, _, _, _, _, _, _, rfl, _⟩ := h
    rfl
  · obtain ⟨c, rfl, TB⟩ := hC cdv hlk
    obtain ⟨b, x, tn, n, S, ts, rg, rfl, hb, W, t12, hn, ho, hT, rg1, rg2, k⟩ := h
    have hgd : (A.deeper (envOfC "_law_none_right" (defScope (top 58)) s.heap.objs.size (He.ga K "_law_none_right") (.ref c))).guards = some [] := hg
    have hu64 : (A.deeper (envOfC "_law_none_right" (defScope (top 58)) s.heap.objs.size (He.ga K "_law_none_right") (.ref c))).units + 64 < cLine := hr.units
    have hcode : (envOfC "_law_none_right" (defScope (top 58)) s.heap.objs.size (He.ga K "_law_none_right") (.ref c)).code = .ref c := rfl
    have hmT : (Pt, (envOfC "_law_none_right" (defScope (top 58)) s.heap.objs.size (He.ga K "_law_none_right") (.ref c)).qual ++ "<lambda>") ∈ [(Pt, qLam)] := List.mem_singleton.mpr rfl
    have hu : ∀ p ∈ [(Pt, qLam)], p.1 = Pt → p.2 = (envOfC "_law_none_right" (defScope (top 58)) s.heap.objs.size (He.ga K "_law_none_right") (.ref c)).qual ++ "<lambda>" := fun p hp _ => by rw [List.mem_singleton.mp hp]; rfl
    refine ⟨_, PSs.nox (pss_cons (ps_set (i := 4) sc__law_none_right.nd rfl (Or.inl rfl) (pe_d0 D__law_take hr (pa_cons (pv 0) (pa_cons (pe_op op_add (pe_callB (bc_len (K := K) rfl) (by rfl) T.f_len bt_len (pa_cons (pv 2) pa_nil)) pe_int) pa_nil)))) (pss_cons (ps_set (i := 5) sc__law_none_right.nd rfl (Or.inl rfl) (pe_lst (pa_cons pe_non (pa_cons (pe_op (bcat (K := K) rfl) (pv 2) (pe_tup (pa_cons pe_int pa_nil))) (pa_cons (pe_op (bcat (K := K) rfl) (pe_op (bcat (K := K) rfl) (pe_slice (bsl_tup (K := K) rfl) (pv 2) po_none (po_some (pv 4))) (pe_tup (pa_cons (pe_callB (bc_len (K := K) rfl) (by rfl) T.f_len bt_len (pa_cons (pv 2) pa_nil)) pa_nil))) (pe_slice (bsl_tup (K := K) rfl) (pv 2) (po_some (pe_op op_add (pv 4) pe_int)) po_none)) (pa_cons (pe_op op_zer pe_str (pe_callB (bc_len (K := K) rfl) (by rfl) T.f_len bt_len (pa_cons (pv 2) pa_nil))) (pa_cons pe_int (pa_cons (pe_op (bcat (K := K) rfl) (pv 2) (pe_tup (pa_cons pe_non pa_nil))) pa_nil)))))))) (pss_cons (ps_if (pt_cmpR (bneD (K := K) rfl hu64) (pv 2) (pe_tup pa_nil) (nomark _)) (pss_one (ps_set (i := 5) sc__law_none_right.nd rfl (Or.inl rfl) (pe_op op_cat (pv 5) (pe_lst (pa_cons (pe_slice (bsl_tup (K := K) rfl) (pv 2) (po_some pe_int) po_none) (pa_cons (pe_op (bcat (K := K) rfl) (pe_slice (bsl_tup (K := K) rfl) (pv 2) (po_some pe_int) po_none) (pe_slice (bsl_tup (K := K) rfl) (pv 2) (po_some pe_int) (po_some pe_int))) (pa_cons (pe_op (bcat (K := K) rfl) (pe_slice (bsl_tup (K := K) rfl) (pv 2) (po_some pe_int) po_none) (pe_tup (pa_cons pe_bl pa_nil))) (pa_cons (pe_op (bcat (K := K) rfl) (pe_slice (bsl_tup (K := K) rfl) (pv 2) (po_some pe_int) po_none) (pe_tup (pa_cons (pe_op op_sub pe_int pe_int) pa_nil))) pa_nil)))))))) pss_nil) (pss_cons (ps_set (i := 6) sc__law_none_right.nd rfl (Or.inr rfl) (pe_d0 D__law_pick hr (pa_cons (pv 0) (pa_cons (pv 5) pa_nil)))) (pss_cons (ps_if (pt_cmpR (bneD (K := K) rfl hu64) (pe_heard T rfl rfl rfl rfl hgd TB hcode hmT hu hr (lamS_by (sc := defScope (top 58)) (by decide +kernel)) rfl (fun _ _ _ _ _ => rfl) (fun A outer s H E f c2 hr2 => (pe_df (E := E) D_check_turns hr2 (passE (takes_of rfl rfl rfl rfl)) (pa_cons (pv 1) (pa_cons (pv 6) pa_nil))))) (pe_tup (pa_cons pe_str (pa_cons (pe_callB (call_reprV (K := K) rfl hgd hu64) (by rfl) T.f_repr bt_repr (pa_cons (pv 6) pa_nil)) (pa_cons pe_bl pa_nil)))) (nomark _)) (pss_one (ps_ret pe_bl)) pss_nil) (pss_cons (ps_if (pt_cmpR (bneD (K := K) rfl hu64) (pe_heard T rfl rfl rfl rfl hgd TB hcode hmT hu hr (lamS_by (sc := defScope (top 58)) (by decide +kernel)) rfl (fun _ _ _ _ _ => rfl) (fun A outer s H E f c2 hr2 => (pe_df (E := E) D_turns_heard hr2 (passE (takes_of rfl rfl rfl rfl)) (pa_cons (pv 1) (pa_cons (pv 6) (pa_cons pe_non (pa_cons pe_non pa_nil))))))) (pe_tup (pa_cons pe_str (pa_cons (pe_callB (call_reprV (K := K) rfl hgd hu64) (by rfl) T.f_repr bt_repr (pa_cons (pv 6) pa_nil)) (pa_cons pe_bl pa_nil)))) (nomark _)) (pss_one (ps_ret pe_bl)) pss_nil) (pss_cons (ps_set (i := 7) sc__law_none_right.nd rfl (Or.inr rfl) (pe_d0 D__law_pick hr (pa_cons (pv 0) (pa_cons (pe_lst (pa_cons (bpe_fld (K := K) rfl (pv 1) rfl) (pa_cons (pe_op op_sub pe_int pe_int) (pa_cons pe_non (pa_cons pe_bl (pa_cons pe_str pa_nil)))))) pa_nil)))) (pss_cons (ps_if (pt_cmpR (bneD (K := K) rfl hu64) (pe_heard T rfl rfl rfl rfl hgd TB hcode hmT hu hr (lamS_by (sc := defScope (top 58)) (by decide +kernel)) rfl (fun _ _ _ _ _ => rfl) (fun A outer s H E f c2 hr2 => (pe_df (E := E) D_turns_heard hr2 (passE (takes_of rfl rfl rfl rfl)) (pa_cons (pv 1) (pa_cons (pv 2) (pa_cons (pv 7) (pa_cons pe_non pa_nil))))))) (pe_tup (pa_cons pe_str (pa_cons (pe_callB (call_reprV (K := K) rfl hgd hu64) (by rfl) T.f_repr bt_repr (pa_cons (pv 7) pa_nil)) (pa_cons pe_bl pa_nil)))) (nomark _)) (pss_one (ps_ret pe_bl)) pss_nil) (pss_cons (ps_if (pt_cmpR (bneD (K := K) rfl hu64) (pe_heard T rfl rfl rfl rfl hgd TB hcode hmT hu hr (lamS_by (sc := defScope (top 58)) (by decide +kernel)) rfl (fun _ _ _ _ _ => rfl) (fun A outer s H E f c2 hr2 => (pe_df (E := E) D_turns_heard hr2 (passE (takes_of rfl rfl rfl rfl)) (pa_cons (pv 1) (pa_cons (pv 2) (pa_cons pe_int (pa_cons (pv 7) pa_nil))))))) (pe_tup (pa_cons pe_str (pa_cons (pe_callB (call_reprV (K := K) rfl hgd hu64) (by rfl) T.f_repr bt_repr (pa_cons (pv 7) pa_nil)) (pa_cons pe_bl pa_nil)))) (nomark _)) (pss_one (ps_ret pe_bl)) pss_nil) (pss_cons (ps_if (pt_val (pv 3)) (pss_one (ps_ret (pe_refused T rfl rfl rfl rfl hgd TB hcode hmT hu hr (lamS_by (sc := defScope (top 58)) (by decide +kernel)) rfl (fun _ _ _ _ _ => rfl) (fun A outer s H E f c2 hr2 => (pe_df (E := E) D_rest_after hr2 (passE (takes_of rfl rfl rfl rfl)) (pa_cons (pv 1) (pa_cons (pv 6) pa_nil)))) (pa_cons (pv 1) pa_nil)))) pss_nil) (pss_one (ps_ret (pe_cmpR (beqD (K := K) rfl hu64) (pe_heard T rfl rfl rfl rfl hgd TB hcode hmT hu hr (lamS_by (sc := defScope (top 58)) (by decide +kernel)) rfl (fun _ _ _ _ _ => rfl) (fun A outer s H E f c2 hr2 => (pe_df (E := E) D_rest_after hr2 (passE (takes_of rfl rfl rfl rfl)) (pa_cons (pv 1) (pa_cons (pv 6) pa_nil))))) (pe_tup (pa_cons pe_str (pa_cons (pe_callB (call_reprV (K := K) rfl hgd hu64) (by rfl) T.f_repr bt_repr (pa_cons (pv 6) pa_nil)) (pa_cons pe_bl pa_nil)))) (nomark _)))))))))))))), ?_⟩
    have ln : (natV ts).length = S.length := by rw [natV_len, ho.len]
    have lt : ∀ t ∈ ts, t < S.length := fun t ht => List.mem_range.mp (ho.mem_iff.mp ht)
    have sm : ∀ y ∈ natV ts, SmallV y := fun y hy => by
      obtain ⟨t, rfl, ht⟩ := mem_natV hy
      have := lt t ht
      exact ⟨by omega, by omega⟩
    have t20 := W.good.t20
    have hbv : ∃ o, H b = some o := by obtain ⟨g, r, h, _⟩ := hb; exact ⟨_, h⟩
    refine q_any (tk (m := S.length + 1) (ev_var rfl) (ev_is (ev_op (ev_lenA (ev_var rfl) (.inr (st_of hn))) ev_c rv_I0) (by rw [ln]; congr 1)) hb (by omega) (by omega) fun at_ H1 hat e1 hb1 => ?_)
    have W1 := W.exB hb e1
    have n1 := tup_exB hn hb e1
    have T1 := K30.Tabs.exB hT hb e1
    -- the wrong ones
    refine q_any (lst_of (ta_cons (c_of (ta_cons (ew_cat (ew_of (ev_var rfl) n1) (EvU.w (eu_tup (ea_cons ev_c ea_nil) (by show 1 ≤ 100000; decide))) (by rw [ln]; show _ + 1 ≤ _; omega) H1 (Ex.refl _) _ fun p1 H2 e2 h2 => ?_)))))
    refine ta_cons (ew_cat (ew_cat (ew_sl (ew_of (ev_var rfl) (e2 _ _ n1)) eo_none (eo_some (ev_var rfl))) (EvU.w (eu_tup (ea_cons (ev_lenA (ev_var rfl) (.inr (st_of (e2 _ _ n1)))) ea_nil) (by show 1 ≤ 100000; decide))) ?_) (ew_sl (ew_of (ev_var rfl) (e2 _ _ n1)) (eo_some (ev_is (ev_op (ev_var rfl) ev_c rv_I0) (show V.int ((at_ : Int) + 1) = .int ((at_ + 1 : Nat) : Int) from by congr 1))) eo_none) ?_ H2 (Ex.refl _) _ fun p2 H3 e3 h3 => ?_)
    · have := cutV_length (natV ts) none (some (at_ : Int))
      show _ + 1 ≤ _
      omega
    · have h1 := cutV_length (natV ts) none (some (at_ : Int))
      have h2 := cutV_length (natV ts) (some ((at_ + 1 : Nat) : Int)) none
      rw [List.length_append]
      show _ + 1 + _ ≤ _
      omega
    have n3 := e3 _ _ (e2 _ _ n1)
    refine ta_cons (ev_op ev_c (ev_is (ev_lenA (ev_var rfl) (.inr (st_of n3))) (by rw [ln])) (fun H4 _ Q q => (⟨S.length, rfl, rfl, by omega, q H4 (Ex.refl _)⟩ : rZer _ _ H4 Q)) H3 (Ex.refl _) _ fun H4 e4 => ?_)
    refine ta_cons (c_of (ta_cons (ew_cat (ew_of (ev_var rfl) (e4 _ _ n3)) (EvU.w (eu_tup (ea_cons ev_c ea_nil) (by show 1 ≤ 100000; decide))) (by rw [ln]; show _ + 1 ≤ _; omega) H4 (Ex.refl _) _ fun p3 H5 e5 h5 => ⟨by show 6 ≤ _; rw [sizeLine_eq]; omega, fun l hl => ?_⟩)))
    have e15 := (e2.trans e3).trans (e4.trans e5)
    have e6 : Ex H5 (upd H5 l (.lst [.non, .ref p1, .ref p2, .str (zer S.length), .int 0, .ref p3])) := Ex.new hl
    have L0 : ∀ v ∈ ([.non, .ref p1, .ref p2, .str (zer S.length), .int 0, .ref p3] : List V), WrongV K (upd H5 l (.lst [.non, .ref p1, .ref p2, .str (zer S.length), .int 0, .ref p3])) S.length v := by
      have z := zer_fits ⟨S.length, by omega⟩
      intro v hv
      rcases List.mem_cons.mp hv with rfl | hv
      · exact wrong_sc trivial (show ShS .non "None" from rfl) (by decide +kernel)
      rcases List.mem_cons.mp hv with rfl | hv
      · refine (wrong_tup h2 (fun y hy => ?_) (by rw [List.length_append, ln]; show _ + 1 ≤ _; omega) (len_no (by rw [List.length_append, ln]; show _ + 1 ≠ _; omega))).ex (((e3.trans e4).trans e5).trans e6)
        rcases List.mem_append.mp hy with hy | hy
        · exact sm y hy
        · rw [List.mem_singleton.mp hy]
          exact ⟨by omega, by omega⟩
      rcases List.mem_cons.mp hv with rfl | hv
      · refine (wrong_tup h3 (fun y hy => ?_) ?_ fun ts' e p => ?_).ex ((e4.trans e5).trans e6)
        · rcases List.mem_append.mp hy with hy | hy
          · rcases List.mem_append.mp hy with hy | hy
            · rw [cut_take (by omega)] at hy
              exact sm y (List.mem_of_mem_take hy)
            · rw [List.mem_singleton.mp hy, ln]
              exact ⟨by omega, by omega⟩
          · rw [cut_dropM] at hy
            exact sm y (List.mem_of_mem_drop hy)
        · have h1 := cutV_length (natV ts) none (some (at_ : Int))
          have h2 := cutV_length (natV ts) (some ((at_ + 1 : Nat) : Int)) none
          rw [List.length_append, List.length_append]
          show _ + 1 + _ ≤ _
          omega
        · have : V.int (((natV ts).length : Nat) : Int) ∈ natV ts' := by
            rw [← e]
            simp
          obtain ⟨t, e2, ht⟩ := mem_natV this
          have := List.mem_range.mp (p.mem_iff.mp ht)
          injection e2 with e2
          omega
      rcases List.mem_cons.mp hv with rfl | hv
      · exact wrong_sc trivial (show ShS (.str (zer S.length)) (reprText (zer S.length)) from ⟨z.1, rfl⟩) z.2.2
      rcases List.mem_cons.mp hv with rfl | hv
      · obtain ⟨t, g1, _, g3⟩ := small_sh (v := .int 0) ⟨by omega, by omega⟩
        exact wrong_sc trivial g1 g3
      rcases List.mem_cons.mp hv with rfl | hv
      · refine (wrong_tup h5 (fun y hy => ?_) (by rw [List.length_append, ln]; show _ + 1 ≤ _; omega) (len_no (by rw [List.length_append, ln]; show _ + 1 ≠ _; omega))).ex e6
        rcases List.mem_append.mp hy with hy | hy
        · exact sm y hy
        · rw [List.mem_singleton.mp hy]
          trivial
      · cases hv
    have e16 := e15.trans e6
    have hb6 := hb1.ex e16
    have lb : l ≠ b := ne_box (hb1.ex e15) hl
    refine q_whenJ (b := !decide (ts.map (fun (i : Nat) => (i : Int)) = [])) (fun σ' H' => ∃ (l : Addr) (vs : List V), Ex H1 H' ∧ H' l = some (.lst vs) ∧ l ≠ b ∧ 1 ≤ vs.length ∧ vs.length ≤ 20 ∧ (∀ v ∈ vs, WrongV K H' S.length v) ∧ σ' = [some (.ref b), some (.ref x), some (.ref tn), some (.bl rg), some (.int (at_ : Int)), some (.ref l), none, none])
      (et_test (ev_opU (xs := []) (ev_var rfl) (eu_tup ea_nil (by show 0 ≤ 100000; decide)) fun q H7 hq e7 => fun H8 e8 Q q8 => ?_)) (fun hb7 H7 e7 D' hD => ?_) (fun hb7 H7 e7 => ⟨l, _, e16.trans e7, e7 _ _ upd_same, lb, by show 1 ≤ 6; omega, by show 6 ≤ 20; omega, fun v hv => (L0 v hv).ex e7, rfl⟩) ?_
    · have n8 := e8 _ _ (e7 _ _ (e16 _ _ n1))
      have d1 : Dp K H8 (.ref tn) (.tuple ((ts.map (fun (i : Nat) => (i : Int))).map PyData.int)) := .tup (st_of n8) (by rw [natV_ints]; exact dpAll_ints _)
      have d2 : Dp K H8 (.ref q) (.tuple (([] : List Int).map PyData.int)) := .tup (st_of (e8 _ _ hq)) .nil
      refine ⟨_, _, d1, d2, shaped_ints _, shaped_ints _, ?_⟩
      rw [show PyData.eqv (.tuple ((ts.map (fun (i : Nat) => (i : Int))).map PyData.int)) (.tuple (([] : List Int).map PyData.int)) = PyData.eqvAll ((ts.map (fun (i : Nat) => (i : Int))).map PyData.int) (([] : List Int).map PyData.int) from rfl, eqv_ints]
      exact q8 H8 (Ex.refl _)
    · have m1 : 1 ≤ S.length := by
        rw [← ho.len]
        cases ts with
        | nil => cases hb7
        | cons a r => show 1 ≤ r.length + 1; omega
      have e17 := e16.trans e7
      have n7 := e17 _ _ n1
      have c1 : cutV (natV ts) (some ((1 : Nat) : Int)) none = (natV ts).drop 1 := cut_dropM 1
      have lc : (cutV (natV ts) (some ((1 : Nat) : Int)) (some ((2 : Nat) : Int))).length ≤ 12 := Nat.le_trans (cutV_length _ _ _) (by omega)
      have ld : ((natV ts).drop 1).length = S.length - 1 := by rw [List.length_drop, ln]
      refine op_2 ⟨_, rfl, lst_of (ta_cons (ew_sl (ew_of (ev_var rfl) n7) (eo_some (ev_c (v := .int ((1 : Nat) : Int)))) eo_none H7 (Ex.refl _) _ fun q1 H8 e8 h8 => ?_))⟩
      rw [c1] at h8
      have n8 := e8 _ _ n7
      refine ta_cons (ew_cat (ew_sl (ew_of (ev_var rfl) n8) (eo_some (ev_c (v := .int ((1 : Nat) : Int)))) eo_none) (ew_sl (ew_of (ev_var rfl) n8) (eo_some (ev_c (v := .int ((1 : Nat) : Int)))) (eo_some (ev_c (v := .int ((2 : Nat) : Int))))) (by rw [c1, ld]; omega) H8 (Ex.refl _) _ fun q2 H9 e9 h9 => ?_)
      rw [c1] at h9
      have n9 := e9 _ _ n8
      refine ta_cons (ew_cat (ew_sl (ew_of (ev_var rfl) n9) (eo_some (ev_c (v := .int ((1 : Nat) : Int)))) eo_none) (EvU.w (eu_tup (ea_cons ev_c ea_nil) (by show 1 ≤ 100000; decide))) (by rw [c1, ld]; show _ + 1 ≤ _; omega) H9 (Ex.refl _) _ fun q3 H10 e10 h10 => ?_)
      rw [c1] at h10
      have n10 := e10 _ _ n9
      refine ta_cons (ew_cat (ew_sl (ew_of (ev_var rfl) n10) (eo_some (ev_c (v := .int ((1 : Nat) : Int)))) eo_none) (EvU.w (eu_tup (ea_cons (ev_op ev_c ev_c rv_I0) ea_nil) (by show 1 ≤ 100000; decide))) (by rw [c1, ld]; show _ + 1 ≤ _; omega) H10 (Ex.refl _) _ fun q4 H11 e11 h11 => ?_)
      rw [c1] at h11
      refine ⟨by show 4 ≤ _; rw [sizeLine_eq]; omega, fun l2 hl2 => ?_⟩
      have e12 : Ex H11 (upd H11 l2 (.lst [.ref q1, .ref q2, .ref q3, .ref q4])) := Ex.new hl2
      have e712 := (((e8.trans e9).trans e10).trans e11).trans e12
      have kl12 := e712 _ _ (e7 _ _ (upd_same (H := H5) (a := l)))
      refine ⟨l, l2, _, _, rfl, rfl, kl12, upd_same, by show 6 + 4 ≤ _; rw [sizeLine_eq]; omega, fun l3 hl3 => hD _ _ ?_⟩
      have e13 : Ex (upd H11 l2 (.lst [.ref q1, .ref q2, .ref q3, .ref q4])) (upd (upd H11 l2 (.lst [.ref q1, .ref q2, .ref q3, .ref q4])) l3 (.lst ([.non, .ref p1, .ref p2, .str (zer S.length), .int 0, .ref p3] ++ [.ref q1, .ref q2, .ref q3, .ref q4]))) := Ex.new hl3
      have e713 := e712.trans e13
      refine ⟨l3, _, e17.trans e713, upd_same, ne_box ((hb6.ex e7).ex e712) hl3, by show 1 ≤ 10; omega, by show 10 ≤ 20; omega, fun v hv => ?_, rfl⟩
      have smd : ∀ y ∈ (natV ts).drop 1, SmallV y := fun y hy => sm y (List.mem_of_mem_drop hy)
      rcases List.mem_append.mp hv with hv | hv
      · exact ((L0 v hv).ex e7).ex e713
      rcases List.mem_cons.mp hv with rfl | hv
      · exact (wrong_tup h8 smd (by omega) (len_no (by omega))).ex ((((e9.trans e10).trans e11).trans e12).trans e13)
      rcases List.mem_cons.mp hv with rfl | hv
      · have c2 : cutV (natV ts) (some ((1 : Nat) : Int)) (some ((2 : Nat) : Int)) = ((natV ts).drop 1).take (min 2 S.length - 1) := by
          unfold cutV
          rw [HT.sIx_nat, HT.sIx_nat, ln, Nat.min_eq_left m1]
        rw [c2] at h9
        refine (wrong_tup h9 (fun y hy => ?_) ?_ fun ts' e p => ?_).ex (((e10.trans e11).trans e12).trans e13)
        · rcases List.mem_append.mp hy with hy | hy
          · exact smd y hy
          · exact smd y (List.mem_of_mem_take hy)
        · rw [List.length_append, List.length_take, ld]
          omega
        · have hl := congrArg List.length e
          rw [List.length_append, List.length_take, ld, natV_len, p.length_eq, List.length_range] at hl
          have m2 : 2 ≤ S.length := by omega
          have nd : ts'.Nodup := p.nodup_iff.mpr List.nodup_range
          have ed : (natV ts).drop 1 = natV (ts.drop 1) := by unfold natV; rw [List.map_drop]
          have et : (natV (ts.drop 1)).take 1 = natV ((ts.drop 1).take 1) := by unfold natV; rw [List.map_take]
          rw [show min 2 S.length - 1 = 1 by omega, ed, et] at e
          have e' : natV (ts.drop 1 ++ (ts.drop 1).take 1) = natV ts' := by rw [← e]; unfold natV; rw [List.map_append]
          rw [← natV_inj e', List.nodup_append] at nd
          obtain ⟨y, hy⟩ : ∃ y, (ts.drop 1)[0]? = some y := ⟨_, List.getElem?_eq_getElem (by rw [List.length_drop, ho.len]; omega)⟩
          refine nd.2.2 y (List.mem_of_getElem? hy) y ?_ rfl
          refine List.mem_of_getElem? (i := 0) ?_
          rw [List.getElem?_take]
          simpa using hy
      rcases List.mem_cons.mp hv with rfl | hv
      · refine (wrong_tup h10 (fun y hy => ?_) (by rw [List.length_append, ld]; show _ + 1 ≤ _; omega) fun ts' e p => ?_).ex ((e11.trans e12).trans e13)
        · rcases List.mem_append.mp hy with hy | hy
          · exact smd y hy
          · rw [List.mem_singleton.mp hy]
            trivial
        · obtain ⟨t, e2, ht⟩ := mem_natV (x := .bl true) (ts := ts') (by rw [← e]; simp)
          cases e2
      rcases List.mem_cons.mp hv with rfl | hv
      · refine (wrong_tup h11 (fun y hy => ?_) (by rw [List.length_append, ld]; show _ + 1 ≤ _; omega) fun ts' e p => ?_).ex (e12.trans e13)
        · rcases List.mem_append.mp hy with hy | hy
          · exact smd y hy
          · rw [List.mem_singleton.mp hy]
            exact ⟨by omega, by omega⟩
        · obtain ⟨t, e2, ht⟩ := mem_natV (x := .int (0 - 1)) (ts := ts') (by rw [← e]; simp)
          injection e2 with e2
          omega
      · cases hv
    rintro σ' H7 ⟨l, vs, e7, kl, lb, v1, v2, LW, rfl⟩
    have hb7 := hb1.ex e7
    refine q_any ⟨_, rfl, _, rfl, b, l, vs, rfl, hb7, kl, lb, v1, by omega, fun i v H8 hv e8 hb8 => ?_⟩
    obtain ⟨bad, txt, hs, ok⟩ := (LW v (List.mem_of_getElem? hv)).exB hb7 e8
    have W8 := (W1.mono e7).exB hb7 e8
    have n8 := tup_exB (e7 _ _ n1) hb7 e8
    have T8 := K30.Tabs.exB (T1.ext e7) hb7 e8
    have x8 : ExT b H H8 := ((ExT.ofB e1).trans (ExT.ofB (ExB.of e7))).trans (ExT.ofB e8)
    clear LW kl lb v1 v2 hv
    refine q_tst (heard_op (ne := true) (w := "refused") (fld := "at") (C := He.ga K "Refused") (j := 6) (v := v) T8 rfl hs ok (.inl ⟨rfl, rfl, rfl⟩) (fun H9 e9 E hE Qn => ⟨_, rfl, _, rfl, x, n, S, v, rfl, W8.exN e9, .inr ⟨bad.exN e9, hE⟩⟩) fun H9 e9 T9 => ⟨false, rfl, iteF ?_⟩)
    have W9 := W8.exN e9
    have n9 := tup_exN n8 e9
    have hb9 := hb8.exN e9
    have bad9 := bad.exN e9
    have hs9 := hs.exN e9
    have x9 := x8.trans (ExT.of e9)
    show tSeq (tIfS _ _ _) _ _ _ _
    refine q_tst (heard_op (ne := true) (w := "refused") (fld := "at") (C := He.ga K "Refused") (j := 6) (v := v) T9 rfl hs9 ok (.inl ⟨rfl, rfl, rfl⟩) (fun H10 e10 E hE Qn => ⟨_, rfl, _, rfl, x, n, S, v, .non, .non, rfl, W9.exN e10, .inl ⟨bad9.exN e10, hE⟩⟩) fun H10 e10 T10 => ⟨false, rfl, iteF ?_⟩)
    have W10 := W9.exN e10
    have n10 := tup_exN n9 e10
    have hb10 := hb9.exN e10
    have bad10 := bad9.exN e10
    have hs10 := hs9.exN e10
    have x10 := x9.trans (ExT.of e10)
    obtain ⟨dx, tt, rs, hx, ht⟩ := W10.ex
    show tSeq (tAsg _ _) _ _ _ _
    refine q_any ⟨_, rfl, ta_cons (el_lst (ea_cons (ev_houses T.toTxt (ev_var rfl) hx) (ea_cons (ev_op ev_c ev_c rv_I0) (ea_cons ev_c (ea_cons ev_c (ea_cons ev_c ea_nil))))) (by show 5 ≤ 100000; decide) H10 (Ex.refl _) _ fun pl H11 hpl e11 h11 => ⟨b, pl, _, rfl, hb10.ex e11, h11, ne_box hb10 hpl, by show 1 ≤ 5; omega, by show 5 ≤ 1000; omega, fun i y H12 hy e12 hb12 => ?_⟩)⟩
    have yy : Sc y ∧ isB (n : Int) y = false ∧ ∃ t, ShS y t ∧ PyData.strOk t = true := by
      have n12 := W.good.n12
      match i, hy with
      | 0, hy =>
        cases hy
        obtain ⟨t, g1, _, g3⟩ := small_sh (v := .int (n : Int)) ⟨by omega, by omega⟩
        refine ⟨trivial, ?_, t, g1, g3⟩
        show (decide ((0 : Int) ≤ (n : Int)) && decide ((n : Int) < (n : Int))) = false
        rw [decide_eq_false (show ¬ (n : Int) < (n : Int) by omega), Bool.and_false]
      | 1, hy =>
        cases hy
        obtain ⟨t, g1, _, g3⟩ := small_sh (v := .int (0 - 1)) ⟨by omega, by omega⟩
        exact ⟨trivial, rfl, t, g1, g3⟩
      | 2, hy =>
        cases hy
        exact ⟨trivial, rfl, "None", rfl, by decide +kernel⟩
      | 3, hy =>
        cases hy
        exact ⟨trivial, rfl, "True", rfl, by decide +kernel⟩
      | 4, hy =>
        cases hy
        have z := zer_fits ⟨1, by omega⟩
        exact ⟨trivial, rfl, reprText "0", ⟨z.1, rfl⟩, z.2.2⟩
    obtain ⟨ysc, yb, yt, ys, yok⟩ := yy
    have b12 := (ExB.of (a := b) e11).trans e12
    have hb11 := hb10.ex e11
    have W12 := (W10.mono e11).exB hb11 e12
    have n12' := tup_exB (e11 _ _ n10) hb11 e12
    have T12 := K30.Tabs.exB (T10.ext e11) hb11 e12
    obtain ⟨bad12, t2, hs12', ok2⟩ := WrongV.exB (K := K) (WrongV.ex (show WrongV K H10 S.length v from ⟨bad10, txt, hs10, ok⟩) e11) hb11 e12
    have x12 := x10.trans (ExT.ofB b12)
    refine q_tst (heard_op (ne := true) (w := "house") (fld := "house") (C := He.ga K "NoHouse") (j := 7) (v := y) T12 rfl (.inl ys) yok (.inr ⟨rfl, rfl, rfl⟩) (fun H13 e13 E hE Qn => ⟨_, rfl, _, rfl, _, rfl, x, n, S, .ref tn, y, .non, rfl, W12.exN e13, .inr ⟨tn, ts, rfl, .inr (tup_exN n12' e13), ho, .inl ⟨ysc, yb, hE⟩⟩⟩) fun H13 e13 T13 => ⟨false, rfl, iteF ?_⟩)
    have W13 := W12.exN e13
    have n13 := tup_exN n12' e13
    have hb13 := hb12.exN e13
    have x13 := x12.trans (ExT.of e13)
    show tSeq (tIfS _ _ _) _ _ _ _
    refine q_tst (heard_op (ne := true) (w := "house") (fld := "house") (C := He.ga K "NoHouse") (j := 7) (v := y) T13 rfl (.inl ys) yok (.inr ⟨rfl, rfl, rfl⟩) (fun H14 e14 E hE Qn => ⟨_, rfl, _, rfl, _, rfl, x, n, S, .ref tn, .int ((0 : Nat) : Int), y, rfl, W13.exN e14, .inr ⟨tn, ts, rfl, .inr (tup_exN n13 e14), ho, .inr ⟨0, W.good.n1, rfl, .inl ⟨ysc, yb, hE⟩⟩⟩⟩) fun H14 e14 T14 => ⟨false, rfl, iteF ?_⟩)
    have W14 := W13.exN e14
    have hb14 := hb13.exN e14
    have x14 := x13.trans (ExT.of e14)
    have bad14 := (bad12.exN e13).exN e14
    have hs14 := (hs12'.exN e13).exN e14
    show tSeq (tIfS _ _ _) _ _ _ _
    refine q_when (b := rg) (et_B (ev_var rfl)) (fun hr1 H15 e15 => ?_) (fun hr0 H15 e15 => ?_)
    · refine ret_of ⟨.ref x, rfl, T14.ext e15, fun H16 e16 T16 Qn => ⟨_, rfl, _, rfl, x, n, S, v, rfl, (W14.mono e15).exN e16, .inr (.inl ⟨rg1 hr1, fun d H17 e17 h17 => ⟨d, x, n, S, rfl, rfl, rfl, h17, ((W14.mono e15).exN e16).mono e17, fun H18 e18 => ?_⟩⟩)⟩⟩
      exact k H18 (((x14.trans (ExT.ofB (ExB.of e15))).trans (ExT.of e16)).trans (ExT.ofB (ExB.of (e17.trans e18)))) ((((hb14.ex e15).exN e16).ex e17).ex e18) ((T16.ext e17).ext e18)
    · refine ret_of (heard_op (ne := false) (w := "refused") (fld := "at") (C := He.ga K "Refused") (j := 6) (v := v) (T14.ext e15) rfl (hs14.ex e15) ok2 (.inl ⟨rfl, rfl, rfl⟩) (fun H16 e16 E hE Qn => ⟨_, rfl, _, rfl, x, n, S, v, rfl, (W14.mono e15).exN e16, .inr (.inr ⟨rg2 hr0, (bad14.ex e15).exN e16, hE⟩)⟩) fun H16 e16 T16 => ?_)
      exact k H16 ((x14.trans (ExT.ofB (ExB.of e15))).trans (ExT.of e16)) ((hb14.ex e15).exN e16) T16
end
end K30
namespace K30
open PySem PySem.Spec PyProof.Rows L2 Evl K30M LamX
def spLaw (K : PySem.W.Frag) (Tb : List (Addr × Str)) : Sp := fun vs H Q _ => ∃ (s : Addr) (ns : List Int), vs = [.ref s] ∧ SqL K H s (ns.map V.int) ∧ ns.length ≤ 1000 ∧ Tabs Tb H ∧ ∀ H2, Q (.bl true) H2
theorem q_asg {te : TE} {g : TG} {σ : L2.St} {H : Hp} {tz : TS} {D : Ends} (h : te σ H fun v H1 => g v σ H1 fun σ2 H2 => tz D σ2 H2) : tSeq (tAsg te g) tz D σ H := h
theorem s_any {te : TE} {i : Nat} {σ : L2.St} {H : Hp} {D : Ends} (h : te σ H fun v H1 => D.nx (σ.set i (some v)) H1) : tAsg te (gName i) D σ H := h
theorem small_turns {K : PySem.W.Frag} {ts : List Nat} (hl : ts.length ≤ 40) (h : ∀ t ∈ ts, t ≤ 20) : ∃ t, ∀ H p, H p = some (.tup (natV ts)) → ShV K H (.ref p) t := by
  have sm : ∀ y ∈ natV ts, SmallV y := fun y hy => by
    obtain ⟨t, rfl, ht⟩ := mem_natV hy
    have := h t ht
    exact ⟨by omega, by omega⟩
  obtain ⟨tx, h1, h2, h3, _⟩ := small_all sm
  exact ⟨tupleText tx, fun H p hp => .inr ⟨p, natV ts, tx, rfl, st_of hp, h1, small_text (by rw [natV_len]; exact hl) h2 h3, rfl⟩⟩
theorem mixed_turns {K : PySem.W.Frag} {σ : L2.St} {H : Hp} {Q : VK} {E : XK} {b tt : Addr} {rs : List Addr} {S : Ties} (s2 : σ[2]? = some (some (.ref b))) (s4 : σ[4]? = some (some (.ref tt))) (hb : BoxAt H b) (ht : TiesAt H tt rs S) (hl : S.length ≤ 20)
    (k : ∀ tn ts H', H' tn = some (.tup (natV ts)) → Order S ts → ExB b H H' → BoxAt H' b → Q (.ref tn) H') :
    tCB (rTupS K) (tCons (tCall spMixed [] E (tCons (tVar 2) (tCons (tLstRg (tRg1 (tCB (rLenS K) (tCons (tVar 4) tNil)))) tNil))) tNil) σ H Q := by
  refine ⟨_, s2, ?_⟩
  refine ta_cons (el_listR (m := S.length) (ev_is (ev_lenA (K := K) (ev_var s4) (.inr (st_of ht.at_))) (by rw [List.length_map, ht.len])) (by omega) H (Ex.refl H) _ fun r H1 hr e1 h1 => ?_)
  refine ⟨b, r, _, rfl, hb.ex e1, h1, by rw [natV_len, List.length_range]; omega, fun p ys H2 pm hp e2 hb2 h2 => ?_⟩
  obtain ⟨ts, pt, rfl⟩ := perm_lift (f := fun (i : Nat) => V.int (i : Int)) pm
  refine ⟨p, _, rfl, .inl ⟨sq_of h2, fun l hl => ?_⟩⟩
  have e3 : Ex H2 (upd H2 l (.tup (natV ts))) := Ex.new hl
  exact k l ts _ upd_same pt ((((ExB.of e1)).trans e2).trans (ExB.of e3)) (hb2.ex e3)
theorem sqL_ext {K : PySem.W.Frag} {H H' : Hp} {a b : Addr} {xs : List V} (h : SqL K H a xs) (hb : H b = none) (e : ExT b H H') : SqL K H' a xs := by
  have ne : ∀ {c : Addr} {o : HO}, H c = some o → c ≠ b := fun {c o} hc z => by rw [z, hb] at hc; cases hc
  rcases h with h | h
  · rcases h with h | ⟨o, h⟩
    · exact .inl (.inl (e _ _ (ne h) h fun ps z => by cases z))
    · exact .inl (.inr ⟨o, e _ _ (ne h) h fun ps z => by cases z⟩)
  · exact .inr h
theorem TiesAt.exB {H H' : Hp} {b tt : Addr} {rs : List Addr} {T : Ties} (t : TiesAt H tt rs T) (hb : BoxAt H b) (e : ExB b H H') : TiesAt H' tt rs T := ⟨tup_exB t.at_ hb e, t.len, fun i r p h1 h2 => tup_exB (t.pair i r p h1 h2) hb e⟩
theorem ring_add {n : Nat} {S : Ties} {a b : Nat} (f : Tree n S) (ha : a < n) (hb : b < n) : (Conn S a b → ¬ Tree n (S ++ [(a, b)])) ∧ (¬ Conn S a b → Tree n (S ++ [(a, b)])) :=
  ⟨fun c t => f.consC ha c (t.perm (List.perm_append_singleton _ _)), fun c => (f.cons ha hb c).perm (List.perm_append_singleton _ _).symm⟩
theorem Good.add {n : Nat} {S : Ties} {a b : Nat} (g : Good n S) (hl : S.length ≤ 11) (ha : a < n) (hb : b < n) (ne : a ≠ b) : Good n (S ++ [(a, b)]) :=
  ⟨g.n1, g.n12, by rw [List.length_append]; show _ + 1 ≤ 20; omega, fun p hp => by
    rcases List.mem_append.mp hp with hp | hp
    · exact g.ends p hp
    · rw [List.mem_singleton.mp hp]
      exact ⟨ha, hb⟩, fun p hp => by
    rcases List.mem_append.mp hp with hp | hp
    · exact g.un p hp
    · rw [List.mem_singleton.mp hp]
      exact ne⟩
theorem iteT' {c : Bool} {a b : Prop} (h : c = true) (x : a) : if c = true then a else b := by rw [if_pos h]; exact x
theorem iteF' {c : Bool} {a b : Prop} (h : c = false) (x : b) : if c = true then a else b := by rw [if_neg (by rw [h]; exact Bool.false_ne_true)]; exact x
theorem ev_use {te : TE} {σ : L2.St} {H : Hp} {Q : VK} {v : V} (h : Ev te σ H v) (k : ∀ H1, Ex H H1 → Q v H1) : te σ H Q := h H (Ex.refl H) Q k
theorem call4 {sp : Sp} {E : XK} {i1 i2 i3 i4 : Nat} {σ : L2.St} {H : Hp} {Q : VK} {v1 v2 v3 v4 : V} (h1 : σ[i1]? = some (some v1)) (h2 : σ[i2]? = some (some v2)) (h3 : σ[i3]? = some (some v3)) (h4 : σ[i4]? = some (some v4)) (h : sp [v1, v2, v3, v4] H Q E) :
    tCall sp [] E (tCons (tVar i1) (tCons (tVar i2) (tCons (tVar i3) (tCons (tVar i4) tNil)))) σ H Q := ⟨_, h1, _, h2, _, h3, _, h4, h⟩
theorem callK4 {sp : Sp} {E : XK} {te : TE} {i j m : Nat} {σ : L2.St} {H : Hp} {Q : VK} {vo vh vw : V} {xs : List V} (h1 : σ[i]? = some (some vo)) (h2 : σ[j]? = some (some vh)) (hl : EvL te σ H xs) (h3 : σ[m]? = some (some vw)) (k : ∀ l H1, Ex H H1 → H1 l = some (.lst xs) → sp [vw, .ref l, vh, vo] H1 Q E) :
    tCallK sp gk4 E tNil (tCons (tVar i) (tCons (tVar j) (tCons te (tCons (tVar m) tNil)))) σ H Q := ⟨_, h1, _, h2, hl H (Ex.refl H) _ fun l H1 _ e1 hl1 => ⟨_, h3, k l H1 e1 hl1⟩⟩
theorem q_nC {te : TE} {tu tz : TS} {D : Ends} {σ : L2.St} {H : Hp} (h : te σ H fun v H1 => ∃ c, v = .bl c ∧ if (!c) = true then tu { D with nx := tz D } σ H1 else tz D σ H1) : tSeq (tIfS (tNot (tB te)) tu tNext) tz D σ H := h
theorem s_nC {te : TE} {tu : TS} {D : Ends} {σ : L2.St} {H : Hp} (h : te σ H fun v H1 => ∃ c, v = .bl c ∧ if (!c) = true then tu D σ H1 else D.nx σ H1) : tIfS (tNot (tB te)) tu tNext D σ H := h
theorem s_tst {te : TE} {tu : TS} {D : Ends} {σ : L2.St} {H : Hp} (h : te σ H fun v H1 => ∃ c, v = .bl c ∧ if c = true then tu D σ H1 else D.nx σ H1) : tIfS (tTest te) tu tNext D σ H := h
theorem cb1 {f : List V → Hp → VK → Prop} {te : TE} {σ : L2.St} {H : Hp} {Q : VK} (h : te σ H fun v H1 => f [v] H1 Q) : tCB f (tCons te tNil) σ H Q := h
theorem ring_first {σ : L2.St} {H : Hp} {Q : VK} {E : XK} {b : Addr} {n : Nat} (s2 : σ[2]? = some (some (.ref b))) (s3 : σ[3]? = some (some (.int (n : Int)))) (hb : BoxAt H b) (k : ∀ rg H', (rg = true → 1 < n) → ExB b H H' → BoxAt H' b → Q (.bl rg) H') :
    tAndV (tOp (rI0 fun i j => V.bl (decide (j < i))) (tVar 3) (tC (V.int 1))) (tOp rEq (tCall spTake [] E (tCons (tVar 2) (tCons (tC (V.int 2)) tNil))) (tC (V.int 0))) σ H Q := by
  refine (ev_op (ev_var s3) ev_c rv_I0) H (Ex.refl _) _ fun H1 e1 => ⟨_, rfl, ?_⟩
  by_cases h1 : (1 : Int) < (n : Int)
  · refine iteT' (decide_eq_true h1) ?_
    refine op_2 (tk (m := 2) (ev_var s2) ev_c (hb.ex e1) (by omega) (by omega) fun v H2 hv e2 hb2 => ⟨rfl, ?_⟩)
    exact k _ _ (fun _ => by omega) ((ExB.of e1).trans e2) hb2
  · refine iteF' (decide_eq_false h1) ?_
    exact k false _ (fun z => Bool.noConfusion z) (ExB.of e1) (hb.ex e1)
theorem tie_add {K : PySem.W.Frag} {σ : L2.St} {H : Hp} {Q : VK} {tt : Addr} {rs : List Addr} {S : Ties} {a b : Nat} (s4 : σ[4]? = some (some (.ref tt))) (s7 : σ[7]? = some (some (.int (a : Int)))) (s8 : σ[8]? = some (some (.int (b : Int)))) (ht : TiesAt H tt rs S) (hl : S.length ≤ 20)
    (k : ∀ p rs' H', Ex H H' → TiesAt H' p rs' (S ++ [(a, b)]) → Q (.ref p) H') : tOp (rCatA K) (tVar 4) (tTup (tCons (tTup (tCons (tVar 7) (tCons (tVar 8) tNil))) tNil)) σ H Q := by
  refine op_2 ⟨_, s4, tup_of (ta_cons (tup_of ⟨_, s7, _, s8, by rw [sizeLine_eq]; show 2 ≤ _; omega, fun r hr => ⟨by rw [sizeLine_eq]; show 1 ≤ _; omega, fun q hq => ?_⟩⟩))⟩
  have e1 : Ex H (upd H r (.tup [.int (a : Int), .int (b : Int)])) := Ex.new hr
  have e2 : Ex (upd H r (.tup [.int (a : Int), .int (b : Int)])) (upd (upd H r (.tup [.int (a : Int), .int (b : Int)])) q (.tup [.ref r])) := Ex.new hq
  have pr : ∀ H', Ex (upd (upd H r (.tup [.int (a : Int), .int (b : Int)])) q (.tup [.ref r])) H' → H' r = some (.tup [.int (a : Int), .int (b : Int)]) := fun H' e => e _ _ (e2 _ _ upd_same)
  have mk : ∀ p H', Ex (upd (upd H r (.tup [.int (a : Int), .int (b : Int)])) q (.tup [.ref r])) H' → H' p = some (.tup ((rs ++ [r]).map V.ref)) → TiesAt H' p (rs ++ [r]) (S ++ [(a, b)]) := fun p H' e h => by
    refine ⟨h, by rw [List.length_append, List.length_append, ht.len]; rfl, fun i r' p' h1 h2 => ?_⟩
    rcases Nat.lt_trichotomy i rs.length with hi | hi | hi
    · rw [List.getElem?_append_left hi] at h1
      rw [List.getElem?_append_left (by rw [← ht.len]; exact hi)] at h2
      exact ((e1.trans e2).trans e) _ _ (ht.pair i r' p' h1 h2)
    · subst hi
      rw [List.getElem?_append_right (Nat.le_refl _), Nat.sub_self] at h1
      rw [ht.len, List.getElem?_append_right (Nat.le_refl _), Nat.sub_self] at h2
      cases h1
      cases h2
      exact pr _ e
    · rw [List.getElem?_eq_none (by rw [List.length_append]; show rs.length + 1 ≤ i; omega)] at h1
      cases h1
  have hl' := ht.len
  refine ⟨tt, q, rs.map V.ref, [.ref r], rfl, rfl, st_of ((e1.trans e2) _ _ ht.at_), st_of upd_same, by rw [sizeLine_eq, List.length_map]; show _ + 1 ≤ _; omega, fun z => ?_, fun _ z => absurd z (List.cons_ne_nil _ _), fun _ _ p hp => ?_⟩
  · have z : rs = [] := List.map_eq_nil_iff.mp z
    refine k q (rs ++ [r]) _ (e1.trans e2) (mk q _ (Ex.refl _) ?_)
    rw [z]
    exact upd_same
  · have e3 := Ex.new (o := .tup (rs.map V.ref ++ [.ref r])) hp
    refine k p (rs ++ [r]) _ ((e1.trans e2).trans e3) (mk p _ e3 ?_)
    rw [List.map_append]
    exact upd_same
def DueV (S : Ties) (ts : List Nat) (h o : Nat) (v : V) : Prop := (v = .non ∧ ¬ Conn S h o) ∨ ∃ k : Nat, v = .int (k : Int) ∧ Conn S h o ∧ HeardAt S ts h o k
theorem DueV.same {S : Ties} {ts : List Nat} {h o : Nat} {v u : V} (a : DueV S ts h o v) (b : DueV S ts h o u) : v = u := by
  rcases a with ⟨rfl, a⟩ | ⟨k, rfl, a, c⟩ <;> rcases b with ⟨rfl, b⟩ | ⟨j, rfl, b, d⟩
  · rfl
  · exact absurd b a
  · exact absurd a b
  · rw [c.same d]
theorem DueV.sh {n : Nat} {S : Ties} {ts : List Nat} {h o : Nat} {v : V} (a : DueV S ts h o v) (g : Good n S) (hl : S.length ≤ 12) (od : Order S ts) (hh : h < n) : ∃ t, ShS v t := by
  rcases a with ⟨rfl, a⟩ | ⟨k, rfl, a, c⟩
  · exact ⟨_, rfl⟩
  · obtain ⟨j, hj, hr⟩ := hear_by g.ends od hh a
    have : k ≤ j := Nat.le_of_not_lt fun z => by rw [c.first j z] at hr; cases hr
    have n12 := g.n12
    have : (n - 1) * S.length ≤ 12 * 12 := Nat.mul_le_mul (by omega) hl
    exact ⟨_, shS_nat (by omega)⟩
theorem DueV.scal {S : Ties} {ts : List Nat} {h o : Nat} {v : V} (a : DueV S ts h o v) : scal v v = true := by
  rcases a with ⟨rfl, a⟩ | ⟨k, rfl, a, c⟩ <;> rfl
theorem sp_turns {K : PySem.W.Frag} {H : Hp} {Q : VK} {E : XK} {x t : Addr} {n : Nat} {S : Ties} {ts : List Nat} {h o : Nat} (W : WebAt K H x n S) (ht : TurnsAt H t ts) (od : Order S ts) (hh : h < n) (ho : o < n) (k : ∀ v H', DueV S ts h o v → Ex H H' → Q v H') : spTurnsHeard K [.ref x, .ref t, .int (h : Int), .int (o : Int)] H Q E :=
  ⟨x, n, S, _, _, _, rfl, W, .inr ⟨t, ts, rfl, ht, od, .inr ⟨h, hh, rfl, .inr ⟨o, ho, rfl, fun H2 nc e => k _ _ (.inl ⟨rfl, nc⟩) e, fun j H2 c a e => k _ _ (.inr ⟨j, rfl, c, a⟩) e⟩⟩⟩⟩
theorem sp_hears {H : Hp} {Q : VK} {E : XK} {tt tn : Addr} {rs : List Addr} {n : Nat} {S : Ties} {ts : List Nat} {h o : Nat} (t : TiesAt H tt rs S) (g : Good n S) (hl : S.length ≤ 12) (ht : H tn = some (.tup (natV ts))) (od : Order S ts) (hh : h < n) (ho : o < n) (k : ∀ v H', DueV S ts h o v → Ex H H' → Q v H') : spHears [.ref tt, .ref tn, .int (h : Int), .int (o : Int)] H Q E :=
  ⟨tt, tn, rs, n, S, ts, h, o, rfl, t, g, hl, ht, od, hh, ho, fun H2 nc e => k _ _ (.inl ⟨rfl, nc⟩) e, fun j H2 c a e => k _ _ (.inr ⟨j, rfl, c, a⟩) e⟩
/-- what stands ahead of the last part of a round -/
def LawJ (H : Hp) (c b : Addr) (n : Nat) (kk : V) (σ' : L2.St) (H' : Hp) : Prop := ∃ (tt tn : Addr) (rs : List Addr) (S : Ties) (ts : List Nat) (rg : Bool) (a7 a8 a9 a10 a11 a12 : Option V),
  σ' = [some (.ref c), some kk, some (.ref b), some (.int (n : Int)), some (.ref tt), some (.ref tn), some (.bl rg), a7, a8, a9, a10, a11, a12] ∧ ExB b H H' ∧ BoxAt H' b ∧ TiesAt H' tt rs S ∧ Good n S ∧ S.length ≤ 12 ∧ H' tn = some (.tup (natV ts)) ∧ Order S ts ∧ (rg = true → ¬ Tree n S) ∧ (rg = false → Tree n S)
section
variable {P : Program} {w : World} {K : PySem.W.Frag} {mg : Str → Option Value} {base : Heap}
theorem sc_law : FnScope ["_law_script", "_law_k", "_law_box_here", "_law_many", "_law_ties", "_law_turns", "_law_ringed", "_law_one", "_law_other", "_law_web", "_law_turn", "_law_house", "_law_due_here"] ["_law_script"] (defScope (top 59)) := ⟨rfl, rfl, rfl, by decide +kernel, rfl, by decide +kernel, by decide +kernel⟩
theorem k_law (T : TW P K mg base) {Pt : Addr} (hN : DfG P w K mg base 9 "_law_none_right" ["_law_box_here", "_law_web", "_law_turns", "_law_ringed"] (spNone K [(Pt, qLam)])) :
    DfG P w K mg base 10 "law" ["_law_script"] (spLaw K [(Pt, qLam)]) := by
  obtain ⟨fd, F⟩ := T.d_law
  have KD_check_turns := (kd_check_turns (w := w) T.toTx).mono (show 4 ≤ 9 by decide)
  have D_turns_heard := (k_turns_heard (w := w) T.toTx).mono (show 5 ≤ 9 by decide)
  have KD_turns_heard := (kd_turns_heard (w := w) T.toTx).mono (show 5 ≤ 9 by decide)
  have D__law_box := (k_box (P := P) (w := w) T.toTxt).mono (show 1 ≤ 9 by decide)
  have D__law_take := (k_take (P := P) (w := w) T.toTxt).mono (show 1 ≤ 9 by decide)
  have D__law_pick := (k_pick (P := P) (w := w) T.toTxt).mono (show 2 ≤ 9 by decide)
  have D__law_mixed := (k_mixed (P := P) (w := w) T.toTxt).mono (show 2 ≤ 9 by decide)
  have D__law_forest := (k_forest (P := P) (w := w) T.toTxt).mono (show 3 ≤ 9 by decide)
  have D__law_part := (k_part (P := P) (w := w) T.toTxt).mono (show 1 ≤ 9 by decide)
  have D__law_hears := (k_hears (P := P) (w := w) T.toTxt).mono (show 2 ≤ 9 by decide)
  have D__law_rest_right := (k_rest_right (w := w) T.toTx).mono (show 8 ≤ 9 by decide)
  refine ⟨_, fd, T.g_law, F.kp, F.bindsN (fun _ _ _ _ _ _ us hl => match us, hl with | [_], _ => rfl), fnG_of F sc_law (fun vs H Q E h => ?_) (fun cdv A outer s H vs Q E hg hlk hr h => ?_)⟩
  · obtain ⟨_, _, rfl, _⟩ := h
    rfl
  · obtain ⟨c, ns, rfl, hs, hl, hT, k⟩ := h
    have hgd : (A.deeper (envOfC "law" (defScope (top 59)) s.heap.objs.size (He.ga K "law") cdv)).guards = some [] := hg
    have hu64 : (A.deeper (envOfC "law" (defScope (top 59)) s.heap.objs.size (He.ga K "law") cdv)).units + 64 < cLine := hr.units
    refine ⟨_, PSs.nox (pss_cons (ps_for PassesOwn.never rfl (pi_range1 (by rfl) T.f_range (pa_cons pe_int pa_nil)) (pg_name (i := 1) sc_law.nd rfl (Or.inl rfl)) (pss_cons (ps_set (i := 2) sc_law.nd rfl (Or.inl rfl) (pe_d0 D__law_box hr (pa_cons (pv 0) (pa_cons (pv 1) pa_nil)))) (pss_cons (ps_asg (pe_d0 D__law_forest hr (pa_cons (pv 2) (pa_cons (pe_d0 D__law_pick hr (pa_cons (pv 2) (pa_cons (pe_lst (pa_cons pe_int (pa_cons pe_int (pa_cons pe_int (pa_cons pe_int pa_nil))))) pa_nil))) pa_nil))) (pg_tup rfl (pgs_cons (pg_name (i := 3) sc_law.nd rfl (Or.inl rfl)) (pgs_cons (pg_name (i := 4) sc_law.nd rfl (Or.inl rfl)) pgs_nil)))) (pss_cons (ps_set (i := 5) sc_law.nd rfl (Or.inl rfl) (pe_callTy (bc_tup (K := K) rfl) (by rfl) T.f_tuple bt_tuple (pa_cons (pe_d0 D__law_mixed hr (pa_cons (pv 2) (pa_cons (pe_listRg rfl (by rfl) T.f_list (prg_1 (by rfl) T.f_range (pe_callB (bc_len (K := K) rfl) (by rfl) T.f_len bt_len (pa_cons (pv 4) pa_nil)))) pa_nil))) pa_nil))) (pss_cons (ps_if (pt_cmpR op_ne (pe_callB (call_reprV (K := K) rfl hgd hu64) (by rfl) T.f_repr bt_repr (pa_cons (pe_kw KD_check_turns hr (pk_cons (pe_callTy (bc_list (K := K) rfl) (by rfl) T.f_list bt_list (pa_cons (pv 5) pa_nil)) (pk_cons (pe_web T.toTxt rfl rfl rfl hr (by decide) (pa_cons (pv 3) (pa_cons (pv 4) pa_nil))) pk_nil))) pa_nil)) (pe_callB (call_reprV (K := K) rfl hgd hu64) (by rfl) T.f_repr bt_repr (pa_cons (pv 5) pa_nil)) (nomark _)) (pss_one (ps_ret pe_bl)) pss_nil) (pss_cons (ps_if (pt_not (pt_val (pe_d0 D__law_rest_right hr (pa_cons (pv 2) (pa_cons (pv 3) (pa_cons (pv 4) (pa_cons (pv 5) pa_nil))))))) (pss_one (ps_ret pe_bl)) pss_nil) (pss_cons (ps_set (i := 6) sc_law.nd rfl (Or.inl rfl) (pe_and (pe_cmpR op_gt (pv 3) pe_int (nomark _)) (pe_one (pe_cmpR op_eq (pe_d0 D__law_take hr (pa_cons (pv 2) (pa_cons pe_int pa_nil))) pe_int (nomark _))))) (pss_cons (ps_if (pt_val (pv 6)) (pss_cons (ps_set (i := 7) sc_law.nd rfl (Or.inl rfl) (pe_d0 D__law_take hr (pa_cons (pv 2) (pa_cons (pv 3) pa_nil)))) (pss_cons (ps_set (i := 8) sc_law.nd rfl (Or.inl rfl) (pe_op op_mod (pe_callTy call_int1 (by rfl) T.f_int bt_int (pa_cons (pe_op op_add (pe_op op_add (pv 7) pe_int) (pe_d0 D__law_take hr (pa_cons (pv 2) (pa_cons (pe_op op_sub (pv 3) pe_int) pa_nil)))) pa_nil)) (pv 3))) (pss_cons (ps_set (i := 6) sc_law.nd rfl (Or.inl rfl) (pe_cmpR (bin_seq (K := K) rfl) (pv 8) (pe_d0 D__law_part hr (pa_cons (pv 4) (pa_cons (pv 7) pa_nil))) (by with_unfolding_all rfl))) (pss_cons (ps_set (i := 4) sc_law.nd rfl (Or.inl rfl) (pe_op (bcat (K := K) rfl) (pv 4) (pe_tup (pa_cons (pe_tup (pa_cons (pv 7) (pa_cons (pv 8) pa_nil))) pa_nil)))) (pss_one (ps_set (i := 5) sc_law.nd rfl (Or.inl rfl) (pe_callTy (bc_tup (K := K) rfl) (by rfl) T.f_tuple bt_tuple (pa_cons (pe_d0 D__law_mixed hr (pa_cons (pv 2) (pa_cons (pe_listRg rfl (by rfl) T.f_list (prg_1 (by rfl) T.f_range (pe_callB (bc_len (K := K) rfl) (by rfl) T.f_len bt_len (pa_cons (pv 4) pa_nil)))) pa_nil))) pa_nil)))))))) pss_nil) (pss_cons (ps_set (i := 9) sc_law.nd rfl (Or.inl rfl) (pe_web T.toTxt rfl rfl rfl hr (by decide) (pa_cons (pv 3) (pa_cons (pv 4) pa_nil)))) (pss_cons (ps_for PassesOwn.never rfl (pi_range1 (by rfl) T.f_range (pa_cons pe_int pa_nil)) (pg_name (i := 10) sc_law.nd rfl (Or.inl rfl)) (pss_cons (ps_par (i := 11) (j := 8) rfl sc_law.nd rfl rfl (by decide) rfl rfl (pa_cons (pe_d0 D__law_take hr (pa_cons (pv 2) (pa_cons (pv 3) pa_nil))) (pa_cons (pe_d0 D__law_take hr (pa_cons (pv 2) (pa_cons (pv 3) pa_nil))) pa_nil)) rfl) (pss_cons (ps_set (i := 12) sc_law.nd rfl (Or.inl rfl) (pe_d0 D__law_hears hr (pa_cons (pv 4) (pa_cons (pv 5) (pa_cons (pv 11) (pa_cons (pv 8) pa_nil)))))) (pss_cons (ps_if (pt_cmpR op_ne (pe_callB (call_reprV (K := K) rfl hgd hu64) (by rfl) T.f_repr bt_repr (pa_cons (pe_d0 D_turns_heard hr (pa_cons (pv 9) (pa_cons (pv 5) (pa_cons (pv 11) (pa_cons (pv 8) pa_nil))))) pa_nil)) (pe_callB (call_reprV (K := K) rfl hgd hu64) (by rfl) T.f_repr bt_repr (pa_cons (pv 12) pa_nil)) (nomark _)) (pss_one (ps_ret pe_bl)) pss_nil) (pss_one (ps_if (pt_cmpR op_ne (pe_kw KD_turns_heard hr (pk_cons (pv 8) (pk_cons (pv 11) (pk_cons (pe_callTy (bc_list (K := K) rfl) (by rfl) T.f_list bt_list (pa_cons (pv 5) pa_nil)) (pk_cons (pv 9) pk_nil))))) (pv 12) (nomark _)) (pss_one (ps_ret pe_bl)) pss_nil)))))) (pss_one (ps_if (pt_not (pt_val (pe_dG hN hr hgd (pa_cons (pv 2) (pa_cons (pv 9) (pa_cons (pv 5) (pa_cons (pv 6) pa_nil))))))) (pss_one (ps_ret pe_bl)) pss_nil)))))))))))) (pss_one (ps_ret pe_bl))), ?_⟩
    have sh := fun (H : Hp) => H
    refine q_forR1 (j := 1) (n := (3 : Int)) (ea_cons ev_c ea_nil) (by omega) (fun i σ' H' => SqL K H' c (ns.map V.int) ∧ Tabs [(Pt, qLam)] H' ∧ ∃ a1 a2 a3 a4 a5 a6 a7 a8 a9 a10 a11 a12, σ' = [some (.ref c), a1, a2, a3, a4, a5, a6, a7, a8, a9, a10, a11, a12])
      (fun H1 e1 => ⟨ex_l e1 hs, hT.ext e1, _, _, _, _, _, _, _, _, _, _, _, _, rfl⟩) ?_ ?_
    · rintro i σ' H1 hi ⟨hs, hT, a1, a2, a3, a4, a5, a6, a7, a8, a9, a10, a11, a12, rfl⟩
      refine q_any ⟨_, rfl, _, rfl, c, ns, i, rfl, hs, hl, by omega, fun b H2 hb0 e2 hb2 => ?_⟩
      refine q_asg ⟨_, rfl, ta_cons ⟨_, rfl, ta_cons (el_lst (ea_cons ev_c (ea_cons ev_c (ea_cons ev_c (ea_cons ev_c ea_nil)))) (by show 4 ≤ 100000; decide) H2 (Ex.refl _) _ fun pl H3 hpl e3 h3 => ⟨b, pl, _, rfl, hb2.ex e3, h3, ne_box hb2 hpl, by show 1 ≤ 4; omega, by show 4 ≤ 1000; omega, fun j m H4 hj e4 hb4 => ?_⟩)⟩⟩
      have hm : ∃ mm : Nat, m = .int (mm : Int) ∧ 1 ≤ mm ∧ mm ≤ 12 := by
        match j, hj with
        | 0, hj => cases hj; exact ⟨7, rfl, by omega, by omega⟩
        | 1, hj => cases hj; exact ⟨6, rfl, by omega, by omega⟩
        | 2, hj => cases hj; exact ⟨7, rfl, by omega, by omega⟩
        | 3, hj => cases hj; exact ⟨12, rfl, by omega, by omega⟩
      obtain ⟨mm, rfl, m1, m2⟩ := hm
      refine ⟨b, mm, rfl, hb4, m1, m2, fun p tt rs n S H5 hp htt e5 hb5 h5 t5 g fl fo => g_pair h5 ?_⟩
      have n12 := g.n12
      have tr : Tree n S := fo.tree g.ends
      have b25 := ((ExB.of (a := b) e3).trans e4).trans e5
      clear hp htt h5 h3 hpl hj e3 e4 e5 hb4
      refine q_any (mixed_turns rfl rfl hb5 t5 (by omega) fun tn ts H6 hn6 ho e6 hb6 => ?_)
      have t6 := t5.exB hb5 e6
      have b26 := b25.trans e6
      have hlt : ∀ t ∈ ts, t ≤ 20 := fun t ht => by have := ho.lt ht; omega
      obtain ⟨tx, shT⟩ := small_turns (K := K) (ts := ts) (by rw [ho.len]; omega) hlt
      refine q_tst (op_2 (el_listT (ev_var rfl) (st_of hn6) H6 (Ex.refl _) _ fun l H7 hl7 e7 h7 => ?_))
      refine ta_cons (ev_web (ea_cons (ev_var rfl) (ea_cons (ev_var rfl) ea_nil)) (t6.ex e7) g H7 (Ex.refl _) _ fun x H8 hx e8 W8 => ?_)
      refine ⟨x, n, S, .ref l, rfl, W8, .inl ⟨l, ts, rfl, .inl (e8 _ _ h7), ho, fun p H9 e9 h9 => ⟨_, tx, rfl, shT _ _ h9, ?_⟩⟩⟩
      have e69 := (e7.trans e8).trans e9
      refine ⟨_, rfl, _, tx, rfl, shT _ _ (e69 _ _ hn6), rv_ne rfl H9 (Ex.refl _) _ fun H10 e10 => ⟨false, by rw [decide_eq_true rfl]; rfl, iteF ?_⟩⟩
      have n10 := (e69.trans e10) _ _ hn6
      have t10 := t6.ex (e69.trans e10)
      have hb10 := hb6.ex (e69.trans e10)
      have b210 := b26.trans (ExB.of (e69.trans e10))
      clear h9 h7 hl7 hx W8 e7 e8 e9 e10 e69
      refine q_nC ⟨_, rfl, _, rfl, _, rfl, _, rfl, b, tt, tn, rs, n, S, ts, rfl, hb10, t10, g, fo, n10, ho, fun H11 e11 hb11 => ⟨true, rfl, iteF ?_⟩⟩
      have n11 := tup_exB n10 hb10 e11
      have t11 := t10.exB hb10 e11
      refine q_any (ring_first rfl rfl hb11 fun rg H12 hrg e12 hb12 => ?_)
      have n12' := tup_exB n11 hb11 e12
      have t12 := t11.exB hb11 e12
      have b212 := (b210.trans e11).trans e12
      refine q_whenJ (b := rg) (LawJ H2 c b n (.int (i : Int))) (et_B (ev_var rfl)) (fun hr H13 e13 D' kD => ?_) (fun hr H13 e13 => ?_) (fun σ' H13 m => ?_)
      · have n2 := hrg hr
        have t13 := t12.ex e13
        have hb13 := hb12.ex e13
        refine q_any (tk (ev_var rfl) (ev_var rfl) hb13 (by omega) (by omega) fun one H14 hone e14 hb14 => ?_)
        refine q_any (op_2 (cb1 (op_2 ((ev_op (ev_var rfl) ev_c rv_I0) H14 (Ex.refl _) _ fun H15 e15 => tk (m := n - 1) (ev_var rfl) (ev_is (ev_op (ev_var rfl) ev_c rv_I0) (show V.int ((n : Int) - 1) = V.int ((n - 1 : Nat) : Int) from by congr 1; omega)) (hb14.ex e15) (by omega) (by omega) fun t H16 ht e16 hb16 => ⟨_, _, rfl, rfl, .inl ⟨_, rfl, ⟨_, rfl, _, _, rfl, rfl, by omega, ?_⟩⟩⟩))))
        have eo : V.int (((one : Int) + 1 + (t : Int)) % (n : Int)) = .int (((one + 1 + t) % n : Nat) : Int) := by
          congr 1
        dsimp only
        rw [eo]
        have hne : one ≠ (one + 1 + t) % n := by
          by_cases z : one + 1 + t < n
          · rw [Nat.mod_eq_of_lt z]; omega
          · rw [Nat.mod_eq_sub_mod (by omega), Nat.mod_eq_of_lt (by omega)]; omega
        have hlt2 : (one + 1 + t) % n < n := Nat.mod_lt _ (by omega)
        generalize (one + 1 + t) % n = other at hne hlt2 ⊢
        have b1316 := (e14.trans (ExB.of e15)).trans e16
        have t16 := t13.exB hb13 b1316
        have b216 := (b212.trans (ExB.of e13)).trans b1316
        refine q_any (ev_use (ev_is (ev_opL (xs := natV (K30M.part S n one)) (ev_var (i := 8) rfl) (SpL.call (ea_cons (ev_var (i := 4) rfl) (ea_cons (ev_var (i := 7) rfl) ea_nil)) (sl_part t16 g hone)) fun p H1 hp e1 => rv_isL (x := .int (other : Int)) (sq_of hp) rfl (natV_flat _)) (by rw [inV_nat])) fun H17 e17 => ?_)
        have t17 := t16.ex e17
        refine q_any (tie_add rfl rfl rfl t17 (by omega) fun tt2 rs2 H18 e18 t18 => ?_)
        have hb18 := (hb16.ex e17).ex e18
        have ra := ring_add tr hone hlt2
        have g2 := g.add (by omega) hone hlt2 hne
        have l2 : (S ++ [(one, other)]).length ≤ 12 := by rw [List.length_append]; show _ + 1 ≤ 12; omega
        refine s_any (mixed_turns rfl rfl hb18 t18 (by omega) fun tn2 ts2 H19 hn19 ho2 e19 hb19 => kD _ _ ?_)
        refine ⟨tt2, tn2, rs2, _, ts2, _, _, _, _, _, _, _, rfl, (b216.trans (ExB.of (e17.trans e18))).trans e19, hb19, t18.exB hb18 e19, g2, l2, hn19, ho2, fun z => ra.1 ?_, fun z => ra.2 ?_⟩
        · exact (mem_part.mp (of_decide_eq_true z)).2
        · exact fun cc => of_decide_eq_false z (mem_part.mpr ⟨hlt2, cc⟩)
      · exact ⟨tt, tn, rs, S, ts, rg, _, _, _, _, _, _, rfl, b212.trans (ExB.of e13), hb12.ex e13, t12.ex e13, g, by omega, e13 _ _ n12', ho, fun z => (by rw [hr] at z; cases z), fun _ => tr⟩
      clear n12' t12 hb12 b212 n11 t11 hb11 b210 t10 n10 hb10 t6 hn6 hb6 b26 t5 hb5 b25 shT tx hlt ho ts tn rs tt fo tr fl g
      clear e11 e12 e6
      obtain ⟨tt, tn, rs, S, ts, rg, a7, a8, a9, a10, a11, a12, rfl, b13, hb13, t13, g, l12, n13, ho, rg1, rg2⟩ := m
      refine q_any (ev_web (ea_cons (ev_var rfl) (ea_cons (ev_var rfl) ea_nil)) t13 g H13 (Ex.refl _) _ fun x H14 hx e14 W14 => ?_)
      refine q_forR1 (j := 10) (n := (4 : Int)) (ea_cons ev_c ea_nil) (by omega) (fun j σ' H' => ExB b H2 H' ∧ BoxAt H' b ∧ TiesAt H' tt rs S ∧ WebAt K H' x n S ∧ H' tn = some (.tup (natV ts)) ∧ ∃ a8 a10 a11 a12, σ' = [some (.ref c), some (.int (i : Int)), some (.ref b), some (.int (n : Int)), some (.ref tt), some (.ref tn), some (.bl rg), a7, a8, some (.ref x), a10, a11, a12])
        (fun H15 e15 => ⟨b13.trans (ExB.of (e14.trans e15)), hb13.ex (e14.trans e15), t13.ex (e14.trans e15), W14.mono e15, (e14.trans e15) _ _ n13, _, _, _, _, rfl⟩) ?_ ?_
      · rintro j σ' H15 hj ⟨b15, hb15, t15, W15, n15, a8, a10, a11, a12, rfl⟩
        have g1 := g.n1
        refine q_par (ta_cons (tk (ev_var rfl) (ev_var rfl) hb15 (by omega) (by omega) fun h H16 hh e16 hb16 => ta_cons (tk (ev_var rfl) (ev_var rfl) hb16 (by omega) (by omega) fun o H17 ho2 e17 hb17 => ⟨_, _, rfl, ?_⟩)))
        have e57 := e16.trans e17
        have t17 := t15.exB hb15 e57
        have W17 := W15.exB hb15 e57
        have n17 := tup_exB n15 hb15 e57
        refine q_any (call4 rfl rfl rfl rfl (sp_hears t17 g l12 n17 ho hh ho2 fun v H18 dv e18 => ?_))
        obtain ⟨tv, hv⟩ := dv.sh g l12 ho hh
        have n18 := e18 _ _ n17
        refine q_tst (op_2 (cb1 (call4 rfl rfl rfl rfl (sp_turns (W17.mono e18) (.inr n18) ho hh ho2 fun u H19 du e19 => ?_))))
        obtain rfl := du.same dv
        refine ⟨_, tv, rfl, .inl hv, ⟨_, rfl, _, tv, rfl, .inl hv, rv_ne rfl H19 (Ex.refl _) _ fun H20 e20 => ⟨false, by rw [decide_eq_true rfl]; rfl, iteF ?_⟩⟩⟩
        have e8 := (e18.trans e19).trans e20
        refine s_tst (op_2 (callK4 rfl rfl (el_listT (ev_var rfl) (st_of (e8 _ _ n17))) rfl fun l H21 e21 h21 => sp_turns (W17.mono (e8.trans e21)) (.inl h21) ho hh ho2 fun u2 H22 du2 e22 => ?_))
        obtain rfl := du2.same du
        have e82 := (e8.trans e21).trans e22
        refine ⟨_, rfl, rv_ne du.scal H22 (Ex.refl _) _ fun H23 e23 => ⟨false, by rw [decide_eq_true rfl]; rfl, iteF ?_⟩⟩
        have e83 := e82.trans e23
        exact ⟨(b15.trans e57).trans (ExB.of e83), hb17.ex e83, t17.ex e83, W17.mono e83, e83 _ _ n17, _, _, _, _, rfl⟩
      · rintro σ' H15 ⟨b15, hb15, t15, W15, n15, a8, a10, a11, a12, rfl⟩
        refine s_nC ⟨_, rfl, _, rfl, _, rfl, _, rfl, b, x, tn, n, S, ts, rg, rfl, hb15, W15, l12, n15, ho, K30.Tabs.exB (hT.ext e2) hb2 b15, rg1, rg2, fun H16 e16 hb16 T16 => ⟨true, rfl, iteF ?_⟩⟩
        refine ⟨sqL_ext hs hb0 (((ExT.ofB (ExB.of e2)).trans (ExT.ofB b15)).trans e16), T16, _, _, _, _, _, _, _, _, _, _, _, _, rfl⟩
    · rintro σ' H' _
      exact ret_of (k _)
end
end K30
namespace K30
open PySem PySem.Spec PyProof.Rows L2 Evl K30M LamX
/-! ### the end: the law is called by the claim, where no guard stands -/
/-- what is tracked at first: the lambda's table, and the script unless the fragment holds it -/
def first (K : PySem.W.Frag) (Pt a : Addr) (ob : Obj) (o : HO) : Hp := fun b => if b = Pt then some (.tbl #[]) else if b = a then (match K.lookup a with | none => some (.frz ob o) | some _ => none) else none
theorem first_inv {K : PySem.W.Frag} {Pt a : Addr} {ob : Obj} {o : HO} {b : Addr} {u : HO} (h : first K Pt a ob o b = some u) : (b = Pt ∧ u = .tbl #[]) ∨ (b = a ∧ K.lookup a = none ∧ u = .frz ob o) := by
  unfold first at h
  by_cases h1 : b = Pt
  · rw [if_pos h1] at h
    exact .inl ⟨h1, (Option.some.inj h).symm⟩
  · rw [if_neg h1] at h
    by_cases h2 : b = a
    · rw [if_pos h2] at h
      split at h
      · exact .inr ⟨h2, ‹_›, (Option.some.inj h).symm⟩
      · cases h
    · rw [if_neg h2] at h
      cases h
theorem law_callG {P : Program} {w : World} {K : PySem.W.Frag} {mg mb : Str → Option Value} {CX : CXT} {k : Nat} {fa a c Pt : Addr} {x : Str} {sp : Sp} {s₁ : Shared} {vs : List Value} {ns : List Int}
    (KX : K.In s₁.heap) (hns : s₁.heap.Ns mainGlobals mg) (hb : s₁.heap.Ns builtinsNs mb) (hbb : ∀ x : Str, x ≠ "__name__" → mb x = bootBuiltins x) (hlim : s₁.heap.NoLimit) (hg : s₁.gens = #[])
    (hT : s₁.heap.get? Pt = some { cls := .none, data := .fields #[] }) (nT : K.lookup Pt = none) (C : PySem.W.CodeHd s₁.heap c Pt)
    (hbm : ∃ (bm : Addr) (ob : Obj), mg "__builtins__" = some (.ref bm) ∧ bm ≠ builtinsNs ∧ s₁.heap.get? bm = some ob ∧ ob.cls = .type "module" ∧ ob.dict = some builtinsNs ∧ ob.data = .plain)
    (ha : s₁.heap.get? a = some { cls := .type "list", data := .seq vs.toArray }) (hi : IntsAre vs ns) (hl : ns.length ≤ sizeLine) (hr : Room k callerA)
    (F : ∀ base : Heap, K.In base → base.Ns mainGlobals mg → TabB base mg c Pt → ∃ fd : FuncData, FnG P w K mg base CX k fa fd [x] sp ∧ Binds K fd [x] [])
    (hsp : ∀ H : Hp, H Pt = some (.tbl #[]) → SqL K H a (ns.map V.int) → sp [.ref a] H (fun v _ => v = .bl true) fun _ _ _ => False)
    (hCX : ∀ H e s', CX [] H s₁ (fun _ _ _ => False) e s' → False) :
    codeAny (model P w) callerA (.call (.ref fa) ⟨[.ref a], []⟩) (fun r s' => r = .ok (.ret (.bool true)) ∧ OldK s₁.heap s'.heap ∧ s'.os = s₁.os ∧ AllBare s'.gens) s₁ := by
  have rv := vals_ints hi
  have lenV := hi.length
  have aP : a ≠ Pt := fun z => by
    rw [z, hT] at ha
    have := congrArg Obj.data (Option.some.inj ha)
    cases this
  let H : Hp := first K Pt a { cls := .type "list", data := .seq vs.toArray } (.lst (ns.map V.int))
  have inv : ∀ {b : Addr} {u : HO}, H b = some u → (b = Pt ∧ u = .tbl #[]) ∨ (b = a ∧ K.lookup a = none ∧ u = .frz { cls := .type "list", data := .seq vs.toArray } (.lst (ns.map V.int))) := fun h => first_inv h
  have hP : H Pt = some (.tbl #[]) := if_pos rfl
  -- what is neither the table nor the list is not tracked
  have off : ∀ {b : Addr} {o : Obj}, s₁.heap.get? b = some o → (∀ us n, o.data ≠ .seq us n) → o.data ≠ .fields #[] → H b = none := fun {b o} e h1 h2 => by
    cases q : H b with
    | none => rfl
    | some u =>
      rcases inv q with ⟨z, _⟩ | ⟨z, _, _⟩
      · rw [z, hT] at e
        cases e
        exact absurd rfl h2
      · rw [z, ha] at e
        cases e
        exact absurd rfl (h1 _ _)
  have base_of : ∀ {b : Addr} {o : Obj}, s₁.heap.get? b = some o → (∀ us n, o.data ≠ .seq us n) → o.data ≠ .fields #[] → (hidT s₁.heap H).get? b = some o := fun e h1 h2 => hidT_get e (off e h1 h2)
  have nsK : ∀ {b : Addr} {m : Str → Option Value}, s₁.heap.Ns b m → (hidT s₁.heap H).Ns b m := fun {b m} ⟨o, es, ep, e, d, r⟩ =>
    ⟨o, es, ep, base_of e (fun us n z => by rw [d] at z; cases z) (fun z => by rw [d] at z; cases z), d, r⟩
  have hKb : K.In (hidT s₁.heap H) := fun b o e => hidT_get (KX b o e) (by
    cases q : H b with
    | none => rfl
    | some u =>
      rcases inv q with ⟨z, _⟩ | ⟨z, z2, _⟩
      · rw [z, nT] at e
        cases e
      · rw [z, z2] at e
        cases e)
  have hM : L2.Mod K mg (hidT s₁.heap H) := by
    obtain ⟨mc, h1, h2⟩ := hlim
    exact ⟨hKb, nsK hns, ⟨mb, nsK hb, hbb⟩, ⟨mc, nsK h1, h2⟩⟩
  have TB : TabB (hidT s₁.heap H) mg c Pt := by
    refine ⟨?_, ?_, fun z => ?_⟩
    · obtain ⟨o, us, file, tf, flags, tg, inF, text, tt, e1, r1, r2, r3, r⟩ := C
      exact ⟨o, us, file, tf, flags, tg, inF, text, tt, base_of e1 (fun us n z => by rw [r2] at z; cases z) (fun z => by rw [r2] at z; cases z; simp at r3), r1, r2, r3, r⟩
    · obtain ⟨bm, ob, b1, b2, b3, b4, b5, b6⟩ := hbm
      refine ⟨bm, ob, b1, b2, fun q => ?_, fun q => ?_, base_of b3 (fun us n z => by rw [b6] at z; cases z) (fun z => by rw [b6] at z; cases z), b4, b5, b6⟩
      · obtain ⟨o, es, ep, e, hd, _⟩ := hns
        rw [q, e] at b3
        cases b3
        rw [hd] at b6
        cases b6
      · rw [q, hT] at b3
        cases b3
        cases b6
    · obtain ⟨o, es, ep, e, hd, _⟩ := hns
      rw [z, hT] at e
      cases e
      cases hd
  have hS : SqL K H a (ns.map V.int) := by
    cases hk : K.lookup a with
    | some o =>
      have e := KX a o hk
      rw [ha] at e
      cases e
      exact .inr ⟨_, vs.toArray, _, hk, rfl, rfl, rfl, by rw [List.size_toArray, lenV]; exact hl, by simpa using rv⟩
    | none =>
      refine .inl (.inr ⟨{ cls := .type "list", data := .seq vs.toArray }, ?_⟩)
      show first K Pt a _ _ a = _
      unfold first
      rw [if_neg aP, if_pos rfl, hk]
  have hok : HOk P w H s₁.heap := fun b u q => by
    rcases inv q with ⟨rfl, rfl⟩ | ⟨rfl, _, rfl⟩
    · exact hT
    · exact ⟨ha, by rw [List.length_map]; exact hl, vs, _, rv, ha⟩
  have e0 : Env0 P w K mg (hidT s₁.heap H) callerA [] s₁ H := ⟨rfl, hM, fun b o e => of_hidT e, Nat.le_of_eq (hidT_size _ _), trivial, fun b hb => absurd (show b ∈ ([] : List Addr) from hb) List.not_mem_nil, hok, .of_eq hg⟩
  obtain ⟨fd, FF, B⟩ := F _ hKb (nsK hns) TB
  refine codeAny_mono (FF.run callerA [] s₁ H ⟨[.ref a], []⟩ [.ref a] [.ref a] _ _ rfl hr e0 (B s₁ [.ref a] KX rfl) (.cons rfl .nil) (hsp H hP hS)) fun r s' h => ?_
  cases r with
  | error e => exact (hCX H e s' h).elim
  | ok fl =>
    cases fl with
    | next => exact False.elim h
    | brk => exact False.elim h
    | cont => exact False.elim h
    | ret u =>
      obtain ⟨v, H', os, bare, un, hok', r', q⟩ := h
      obtain rfl : v = .bl true := q
      obtain rfl : u = Value.bool true := r'
      obtain ⟨more, hm0⟩ := un.tbls Pt #[] hP
      have hm := hok' Pt _ hm0
      have key : ∀ b o, b ≠ Pt → s₁.heap.get? b = some o → s'.heap.get? b = some o := fun b o nb e => by
        cases q : H b with
        | none => exact un.keep b o e q (fun z => absurd (show b ∈ ([] : List Addr) from z) List.not_mem_nil) (fun z => absurd z List.not_mem_nil)
        | some u =>
          rcases inv q with ⟨z, _⟩ | ⟨z, _, z2⟩
          · exact absurd z nb
          · rw [z2] at q
            have g1 := hok b _ q
            have g2 := hok' b _ (un.frzs b _ _ q)
            obtain ⟨g1, _⟩ := g1
            obtain ⟨g2, _⟩ := g2
            rw [e] at g1
            cases g1
            exact g2
      refine ⟨rfl, ⟨fun b o e => ?_, fun b o e => ?_⟩, os, bare⟩
      · by_cases hb : b = Pt
        · rw [hb] at e ⊢
          rw [hT] at e
          cases e
          exact .inr (.inl ⟨(C.tab hT).isCodeTable, rfl, #[], _, rfl, by rw [Array.empty_append]; exact hm⟩)
        · exact .inl (key b o hb e)
      · by_cases hb : b = Pt
        · rw [hb]
          exact ⟨_, hm⟩
        · exact ⟨o, key b o hb e⟩
end K30
namespace K30
open PySem PySem.Spec PyProof.Rows L2 Evl K30M LamX
/-! ### what the head tells -/
/-- the tracked part: from the main module's names and the builtins' statics on -/
def asC (g : Addr → Option Obj) : Nat → List Addr
  | 0 => [mainGlobals, cStatics]
  | n + 1 => He.growD g (asC g n)
/-- an __init__ as written: name, qualified name, parameters, body, scope, globals, the closure's names, builtins -/
abbrev IniW : Type := Option (Str × Str × Arguments × FuncBody × Scope × Addr × List Str × Addr)
def iniW (K : PySem.W.Frag) (f : Addr) : IniW := match K.lookup f with
  | some ⟨_, _, .func fd, _⟩ => some (fd.name, fd.qualname, fd.params, fd.body, fd.scope, fd.globals, fd.closure.map (·.1), fd.builtins)
  | _ => none
def iniB (K : PySem.W.Frag) (f C : Addr) (qual file0 : Str) : Bool := match K.lookup (f) with
    | some ⟨_, _, .func fd, _⟩ => decide (fd.defaults = .none) && (decide (fd.kwdefaults = .none) && ((match fd.closure with
      | [(_, cc)] => (match K.lookup cc with
        | some ⟨_, _, .cell (some v), _⟩ => decide (v = .ref (C))
        | _ => false)
      | _ => false) && (match fd.code with
      | .ref cda => PySem.W.codeIn K (.ref cda) qual && (match K.lookup cda with
        | some ⟨_, _, .fields vs, _⟩ => (match (vs[2]? : Option Value) with
          | some (.str file _) => file0 == file
          | _ => false)
        | _ => false)
      | _ => false)))
    | _ => false
/-- an error class of the text: the Bool of what is asked -/
def errB (K : PySem.W.Frag) (nm fld qual : Str) (newId : String) (bmB : List Value) (BI iI : String) (file0 : Str) : Bool :=
  He.eqO (PySem.W.nsIn K mainGlobals nm) (some (some (.ref (He.ga K nm)))) && (PySem.W.excInitIn K (He.ga K nm) bmB newId && (PySem.W.excOver K (He.ga K nm) bmB && (He.eqO (PySem.W.findIn K (.ref (He.ga K nm)) "__setattr__") (some (some (.builtin "object.__setattr__"))) &&
  (He.eqO (PySem.W.findIn K (.ref (He.ga K nm)) "__getattribute__") (some (some (.builtin "BaseException.__getattribute__"))) && (He.eqO (PySem.W.findIn K (.ref (He.ga K nm)) "__getattr__") (some none) && (He.eqO (PySem.W.findIn K (.ref (He.ga K nm)) fld) (some none) &&
  (He.eqO (PySem.W.findIn K (.ref (He.ga K nm)) "__init__") (some (some (.ref (He.ma K (He.ga K nm) "__init__")))) && (decide (PySem.W.typeIn K (.ref (He.ma K (He.ga K nm) "__init__")) = some (.type "function")) && (PySem.W.keepIn K (.ref (He.ga K nm)) &&
  (decide (PySem.W.subIn K (.ref (He.ga K nm)) (.type "BaseException") = some true) && (decide (PySem.W.typeIn K (.ref (He.ga K nm)) = some (.type "type")) && (PySem.W.hasDictIn K (He.ga K nm) && (He.eqO (PySem.W.ks_superIn K (He.ga K nm) (He.ga K nm) "__init__") (some (some (.builtin iI))) &&
  (decide (PySem.W.subIn K (.ref (He.ga K nm)) (.type BI) = some true) && (He.eqO (PySem.W.nsIn K cStatics "thirdparty.any") (some none) && (decide (PySem.W.mroIn K (He.ga K nm) (.ref (He.ga K nm)) = some true) &&
  iniB K (He.ma K (He.ga K nm) "__init__") (He.ga K nm) qual file0))))))))))))))))
theorem ini_of {P : Program} {K : PySem.W.Frag} {f C : Addr} {fld msg qual : Str} {p1 p2 : Pos} {j : Nat} {q1 q2 q3 q4 q5 q6 q7 q8 q9 q10 : Pos} (h : iniB K f C qual P.main.file = true) (hq : (q3.endLine == q5.line) = true) (hw : iniW K f = some (("__init__" : Str), qual, Er.iA fld p1 p2, FuncBody.stmts (Er.iB fld msg j q1 q2 q3 q4 q5 q6 q7 q8 q9 q10), Er.iS fld, mainGlobals, ([("__class__" : Str)] : List Str), builtinsNs)) :
    ∃ (oc : Value) (od : Option Addr) (doc pm : Value) (an : Option Addr) (cda : Addr) (ct : Value) (osl : Array (Option Value)) (cc : Addr) (p1 p2 : Pos) (j : Nat) (q1 q2 q3 q4 q5 q6 q7 q8 q9 q10 : Pos), (q3.endLine == q5.line) = true ∧
    K.lookup f = some ⟨oc, od, .func (PySem.W.fnX "__init__" qual (Er.iA fld p1 p2) (Er.iB fld msg j q1 q2 q3 q4 q5 q6 q7 q8 q9 q10) (Er.iS fld) [("__class__", cc)] .none .none doc pm an (.ref cda) ct), osl⟩ ∧ PySem.W.codeIn K (.ref cda) qual = true ∧
    (∃ (ccl : Value) (cdd : Option Addr) (vs : Array Value) (ccs : Array (Option Value)) (file : Str) (tf : Tok), K.lookup cda = some ⟨ccl, cdd, .fields vs, ccs⟩ ∧ vs[2]? = some (.str file tf) ∧ ((P.main.file : Str) == file) = true) ∧
    (∃ (cl : Value) (cld : Option Addr) (csl : Array (Option Value)), K.lookup cc = some ⟨cl, cld, .cell (some (.ref C)), csl⟩) := by
  unfold iniB at h
  unfold iniW at hw
  split at h
  · rename_i oc od fd osl hk
    rw [hk] at hw
    obtain ⟨b1, h2⟩ := He.ba h
    clear h
    obtain ⟨b2, h3⟩ := He.ba h2
    clear h2
    obtain ⟨b3, b4⟩ := He.ba h3
    clear h3
    obtain ⟨name, quals, params, body, scope, globals, closure, defaults, kwdefaults, doc, pm, an, code, ct, bs⟩ := fd
    injection hw with hw
    injection hw with w1 hw
    injection hw with w2 hw
    injection hw with w3 hw
    injection hw with w4 hw
    injection hw with w5 hw
    injection hw with w6 hw
    injection hw with w7 w8
    have e1 := of_decide_eq_true b1
    have e2 := of_decide_eq_true b2
    clear b1 b2
    dsimp only at e1 e2
    subst e1 e2
    dsimp only at w1 w2 w3 w4 w5 w6 w7 w8 b3 b4
    subst w1 w2 w3 w4 w5 w6 w8
    split at b3
    · rename_i x cc
      injection w7 with w7 _
      dsimp only at w7
      subst w7
      split at b3
      · rename_i v c1 c2 c3 hcc
        have := of_decide_eq_true b3
        subst this
        split at b4
        · rename_i cda
          obtain ⟨b5, b6⟩ := He.ba b4
          split at b6
          · rename_i d1 d2 vs d3 hda
            split at b6
            · rename_i file tf hf
              refine ⟨oc, od, doc, pm, an, cda, ct, osl, cc, p1, p2, j, q1, q2, q3, q4, q5, q6, q7, q8, q9, q10, hq, ?_, b5, ⟨_, _, _, _, _, _, hda, hf, b6⟩, ⟨_, _, _, hcc⟩⟩
              exact hk
            · cases b6
          · cases b6
        · cases b4
      · cases b3
    · cases b3
  · cases h
theorem err_of {P : Program} {K : PySem.W.Frag} {mg : Str → Option Value} {base : Heap} {nm fld msg qual : Str} {newId : String} {bmB : List Value} {BI iI : String} {p1 p2 : Pos} {j : Nat} {q1 q2 q3 q4 q5 q6 q7 q8 q9 q10 : Pos} (kin : K.In base) (ns : base.Ns mainGlobals mg) (hs : mg "super" = none) (top : (P.main.scope.names.lookup ("super" : Str)).isSome = false)
    (h : errB K nm fld qual newId bmB BI iI P.main.file = true) (hq : (q3.endLine == q5.line) = true) (hw : iniW K (He.ma K (He.ga K nm) "__init__") = some (("__init__" : Str), qual, Er.iA fld p1 p2, FuncBody.stmts (Er.iB fld msg j q1 q2 q3 q4 q5 q6 q7 q8 q9 q10), Er.iS fld, mainGlobals, ([("__class__" : Str)] : List Str), builtinsNs)) :
    Er.ErrTxt P K mg nm fld msg qual newId bmB BI iI (He.ga K nm) (He.ma K (He.ga K nm) "__init__") := by
  unfold errB at h
  obtain ⟨a1, h⟩ := He.ba h
  obtain ⟨a2, h⟩ := He.ba h
  obtain ⟨a3, h⟩ := He.ba h
  obtain ⟨a4, h⟩ := He.ba h
  obtain ⟨a5, h⟩ := He.ba h
  obtain ⟨a6, h⟩ := He.ba h
  obtain ⟨a7, h⟩ := He.ba h
  obtain ⟨a8, h⟩ := He.ba h
  obtain ⟨a9, h⟩ := He.ba h
  obtain ⟨a10, h⟩ := He.ba h
  obtain ⟨a11, h⟩ := He.ba h
  obtain ⟨a12, h⟩ := He.ba h
  obtain ⟨a13, h⟩ := He.ba h
  obtain ⟨a14, h⟩ := He.ba h
  obtain ⟨a15, h⟩ := He.ba h
  obtain ⟨a16, h⟩ := He.ba h
  obtain ⟨a17, h⟩ := He.ba h
  refine ⟨PySem.W.mg_of kin ns (He.eqO_ok a1), a2, a3, He.eqO_ok a4, He.eqO_ok a5, He.eqO_ok a6, He.eqO_ok a7, He.eqO_ok a8, of_decide_eq_true a9, a10, of_decide_eq_true a11, of_decide_eq_true a12, a13, He.eqO_ok a14, of_decide_eq_true a15, He.eqO_ok a16, of_decide_eq_true a17, hs, top, ?_⟩
  exact ini_of h hq hw
end K30
namespace K30
open PySem PySem.Spec PyProof.Rows L2 Evl K30M LamX
/-- ExcC as a Bool -/
def ecB (K : PySem.W.Frag) (D : Addr) : Bool := He.eqO (PySem.W.findIn K (.ref D) "__getattribute__") (some (some (.builtin "BaseException.__getattribute__"))) && (He.eqO (PySem.W.findIn K (.ref D) "__getattr__") (some none) && (decide (PySem.W.subIn K (.ref D) (.type "BaseException") = some true) && (PySem.W.hasDictIn K D &&
  (He.eqO (PySem.W.findIn K (.ref D) "__class__") (some (some (.builtin "object.__class__"))) && (He.eqO (PySem.W.specialIn K (.builtin "object.__class__") "__get__") (some (some (.builtin "getset_descriptor.__get__"))) && (decide (PySem.W.takesIn K (.builtin "object.__class__") = some true) && decide (PySem.W.mroIn K D (.type "object") = some true)))))))
theorem ecB_ok {K : PySem.W.Frag} {D : Addr} (h : ecB K D = true) : ExcC K D := by
  unfold ecB at h
  obtain ⟨a1, h1⟩ := He.ba h
  obtain ⟨a2, h2⟩ := He.ba h1
  obtain ⟨a3, h3⟩ := He.ba h2
  obtain ⟨a4, h4⟩ := He.ba h3
  obtain ⟨a5, h5⟩ := He.ba h4
  obtain ⟨a6, h6⟩ := He.ba h5
  obtain ⟨a7, a8⟩ := He.ba h6
  exact ⟨He.eqO_ok a1, He.eqO_ok a2, of_decide_eq_true a3, a4, He.eqO_ok a5, He.eqO_ok a6, of_decide_eq_true a7, of_decide_eq_true a8⟩
abbrev pw : Program := PySem.Challenge.pw_houseslessties_k30_whole_when_turns_lead
def tB1 (K : PySem.W.Frag) : Bool := xfB K (He.ga K "Refused") && (xfB K (He.ga K "NoHouse") && (ecB K (He.ga K "Refused") && (ecB K (He.ga K "NoHouse") &&
  (decide (PySem.W.exmOne K (.ref (He.ga K "NoHouse")) (.ref (He.ga K "NoHouse")) = some true) && (decide (PySem.W.exmOne K (.ref (He.ga K "Refused")) (.ref (He.ga K "NoHouse")) = some false) && (decide (PySem.W.exmOne K (.ref (He.ga K "Refused")) (.ref (He.ga K "Refused")) = some true) &&
  (decide (PySem.W.kitOne K (.ref (He.ga K "NoHouse")) (.type "KeyError") = some true) && (decide (PySem.W.kitOne K (.ref (He.ga K "Refused")) (.ref (He.ga K "NetError")) = some true) &&
  (He.eqO (PySem.W.findIn K (.ref (He.ga K "Web")) "__class__") (some (some (.builtin "object.__class__"))) && (decide (PySem.W.mroIn K (He.ga K "Web") (.type "object") = some true) && (He.eqO (PySem.W.findIn K (.ref (He.ga K "Web")) "__eq__") (some (some (.ref (He.ma K (He.ga K "Web") "__eq__")))) &&
  (PySem.W.isFn K (.ref (He.ma K (He.ga K "Web") "__eq__")) && PySem.W.notFirst K (He.ga K "Web") (.ref (He.ga K "Web"))))))))))))))
def defI (s : Stmt) (qual : Str) : IniW := some ("__init__", qual, defArgs s, FuncBody.stmts (defBody s), defScope s, mainGlobals, ["__class__"], builtinsNs)
theorem tw_of {K : PySem.W.Frag} {mg : Str → Option Value} {base : Heap} (kin : K.In base) (ns : base.Ns mainGlobals mg) (says : He.SaysD fa fn K) (h : tB1 K = true)
    (r : errB K "Refused" "at" "Refused.__init__" "ValueError.__new__" Er.bmV "ValueError" "ValueError.__init__" pw.main.file = true) (n : errB K "NoHouse" "house" "NoHouse.__init__" "LookupError.__new__" Er.bmK "KeyError" "KeyError.__init__" pw.main.file = true)
    (ri : iniW K (He.ma K (He.ga K "Refused") "__init__") = defI (inClass (top 4) 0) "Refused.__init__") (ni : iniW K (He.ma K (He.ga K "NoHouse") "__init__") = defI (inClass (top 5) 0) "NoHouse.__init__") : TW pw K mg base := by
  have T : Txt K mg base := ⟨kin, ns, says⟩
  have R := err_of (P := pw) kin ns T.f_super (by decide +kernel) r (hw := ri) (hq := by rfl)
  have N := err_of (P := pw) kin ns T.f_super (by decide +kernel) n (hw := ni) (hq := by rfl)
  unfold tB1 at h
  obtain ⟨a1, h⟩ := He.ba h
  obtain ⟨a2, h⟩ := He.ba h
  obtain ⟨a3, h⟩ := He.ba h
  obtain ⟨a4, h⟩ := He.ba h
  obtain ⟨a5, h⟩ := He.ba h
  obtain ⟨a6, h⟩ := He.ba h
  obtain ⟨a7, h⟩ := He.ba h
  obtain ⟨a8, h⟩ := He.ba h
  obtain ⟨a9, h⟩ := He.ba h
  obtain ⟨b1, h⟩ := He.ba h
  obtain ⟨b2, h⟩ := He.ba h
  obtain ⟨b3, h⟩ := He.ba h
  obtain ⟨b4, b5⟩ := He.ba h
  exact { toTxt := T, re := ⟨_, _, _, _, _, _, _, _, _, R, Er.new_VE, Er.sup_VE, PySem.F.store_ValueError, Er.fld_at⟩, nh := ⟨_, _, _, _, _, _, _, _, _, N, Er.new_KE, Er.sup_KE, Er.store_KE, Er.fld_house⟩, xR := xfB_ok a1, xN := xfB_ok a2, nR := R.noF, nN := N.noF, eR := ecB_ok a3, eN := ecB_ok a4, mNN := of_decide_eq_true a5, mRN := of_decide_eq_true a6, mRR := of_decide_eq_true a7, kN := of_decide_eq_true a8, kR := of_decide_eq_true a9, wA := He.eqO_ok b1, wM := of_decide_eq_true b2, wE := He.eqO_ok b3, wF := b4, wN := b5 }
end K30
namespace K30
open PySem PySem.Spec PyProof.Rows L2 Evl K30M LamX
/-! ### the Hook: what is looked at behind the top -/
abbrev nR : He.Defn := ("_law_none_right", none)
def errR (K : PySem.W.Frag) : Bool := errB K "Refused" "at" "Refused.__init__" "ValueError.__new__" Er.bmV "ValueError" "ValueError.__init__" pw.main.file
def errN (K : PySem.W.Frag) : Bool := errB K "NoHouse" "house" "NoHouse.__init__" "LookupError.__new__" Er.bmK "KeyError" "KeyError.__init__" pw.main.file
def restB (g : Addr → Option Obj) (K : PySem.W.Frag) : Bool := tB1 K && (errR K && (errN K && He.tabsB g [nR] K))
abbrev AlK : Type := He.AlD × ((IniW × IniW) × Bool)
def obsIn (g : Addr → Option Obj) (K : PySem.W.Frag) : AlK := (He.obsD fa fn K, ((iniW K (He.ma K (He.ga K "Refused") "__init__"), iniW K (He.ma K (He.ga K "NoHouse") "__init__")), restB g K))
def frK (g : Addr → Option Obj) : PySem.W.Frag := He.frT g (cStatics :: He.asD g 4)
def obsK (g : Addr → Option Obj) : AlK := obsIn g (frK g)
def valK : AlK := (He.valD fn, ((defI (inClass (top 4) 0) "Refused.__init__", defI (inClass (top 5) 0) "NoHouse.__init__"), true))
/-- what is told: the facts of K; none_right's table is empty and not in K -/
structure SaysK (h : Heap) (K : PySem.W.Frag) : Prop where
  d : He.SaysD fa fn K
  ri : iniW K (He.ma K (He.ga K "Refused") "__init__") = defI (inClass (top 4) 0) "Refused.__init__"
  ni : iniW K (He.ma K (He.ga K "NoHouse") "__init__") = defI (inClass (top 5) 0) "NoHouse.__init__"
  b : tB1 K = true
  r : errR K = true
  n : errN K = true
  hd : PySem.W.codeHdIn K (He.cT K nR).1 (He.cT K nR).2 = true
  out : K.lookup (He.cT K nR).2 = none
  empty : h.get? (He.cT K nR).2 = some { cls := .none, data := .fields #[] }
theorem saysK_of {h : Heap} (e : obsK h.get? = valK) : SaysK h (frK h.get?) := by
  have e1 : He.obsD fa fn (frK h.get?) = He.valD fn := congrArg (fun z : AlK => z.1) e
  have e2 : iniW (frK h.get?) (He.ma (frK h.get?) (He.ga (frK h.get?) "Refused") "__init__") = defI (inClass (top 4) 0) "Refused.__init__" := congrArg (fun z : AlK => z.2.1.1) e
  have e3 : iniW (frK h.get?) (He.ma (frK h.get?) (He.ga (frK h.get?) "NoHouse") "__init__") = defI (inClass (top 5) 0) "NoHouse.__init__" := congrArg (fun z : AlK => z.2.1.2) e
  have e4 : restB h.get? (frK h.get?) = true := congrArg (fun z : AlK => z.2.2) e
  unfold restB at e4
  obtain ⟨h1, e4⟩ := He.ba e4
  obtain ⟨h2, e4⟩ := He.ba e4
  obtain ⟨h3, h4⟩ := He.ba e4
  obtain ⟨h5, h6⟩ := He.ba (List.all_eq_true.mp h4 nR List.mem_cons_self)
  have key : ∃ o, h.get? (He.cT (frK h.get?) nR).2 = some o ∧ He.emptyTab o = true := by
    cases q : h.get? (He.cT (frK h.get?) nR).2 with
    | none =>
      rw [q] at h6
      cases h6
    | some o =>
      rw [q] at h6
      exact ⟨o, rfl, h6⟩
  obtain ⟨o, q, z⟩ := key
  exact ⟨e1, e2, e3, h1, h2, h3, h5, He.frT_none q z, by rw [q, He.emptyTab_eq z]⟩
def hookK : PySem.W.Hook where
  α := AlK
  obs := fun s => obsK s.heap.get?
  val := fun _ => valK
  says := fun _ h => ∃ K : PySem.W.Frag, K.In h ∧ SaysK h K
  of := fun _ _ e => ⟨_, He.frT_in, saysK_of e⟩
  keeps := fun _ _ _ ⟨K, hK, c⟩ k => ⟨K, PySem.W.Frag.In.keeps hK k, ⟨c.d, c.ri, c.ni, c.b, c.r, c.n, c.hd, c.out, k _ _ c.empty⟩⟩
def obT (s : PySem.W.SharedT) : AlK := obsK (HandSHeadRun.getT s)
theorem obT_eq (s : PySem.W.SharedT) : obT s = hookK.obs s.abs := by
  have e : HandSHeadRun.getT s = s.abs.heap.get? := funext (HandSHeadRun.getT_eq s)
  show obsK (HandSHeadRun.getT s) = obsK s.abs.heap.get?
  rw [e]
/-! ### the walk of the law, called by the claim -/
theorem law_G {w : World} {K : PySem.W.Frag} {mg : Str → Option Value} {h base : Heap} (S : SaysK h K) (kin : K.In base) (ns : base.Ns mainGlobals mg) (TB : TabB base mg (He.cT K nR).1 (He.cT K nR).2) :
    DfG pw w K mg base 10 "law" ["_law_script"] (spLaw K [((He.cT K nR).2, qLam)]) := by
  have T : TW pw K mg base := tw_of kin ns S.d S.b S.r S.n S.ri S.ni
  refine k_law T (k_none_right T fun cdv hk => ?_)
  obtain ⟨oc, od, dV, kV, doc, pm, an, ct, osl, lk⟩ := hk
  obtain ⟨fd, F⟩ := T.d__law_none_right
  obtain ⟨oc', od', dV', kV', doc', pm', an', cdv', ct', osl', rfl, lk', hcd, _, _⟩ := F.ex
  have z := congrArg Obj.data (Option.some.inj (lk.symm.trans lk'))
  injection z with z
  have z2 : cdv = cdv' := congrArg FuncData.code z
  subst z2
  obtain ⟨c, rfl⟩ := He.codeIn_ref hcd
  have ec : (He.cT K nR).1 = c := He.codeOf_eq (p := nR) lk rfl
  rw [ec] at TB
  exact ⟨c, rfl, TB⟩
abbrev rwL : PySem.W.OpenLaw := PySem.Challenge.rw_houseslessties_k30_whole_when_turns_lead
theorem walk_K {q : Program} {loose : List Str} {XP : (Str → Option Value) → Heap → Prop} {d : DefRec} (hdf : d.params.defaults = []) (hnm : d.name = ("law" : Str)) :
    PySem.W.WalkO q loose XP hookK.says rwL.row.toRowW d [] (fun f vs => PySem.call f vs) := by
  refine Att.attach_callB (n := 63) rfl hdf fun w s₀ s₁ mg mb fa o pm cd doc a vs ns G Y ho hd hcd hmg hobj hints hlen hbits hg => ?_
  obtain ⟨K, KX, S⟩ := Y
  rw [hnm] at hmg
  have TB : ∀ base : Heap, K.In base → base.Ns mainGlobals mg → TabB base mg (He.cT K nR).1 (He.cT K nR).2 → ∃ fd : FuncData, FnG pw w K mg base (L2.CX pw w) 10 fa fd ["_law_script"] (spLaw K [((He.cT K nR).2, qLam)]) ∧ Binds K fd ["_law_script"] [] := fun base kin ns TB => by
    obtain ⟨f, fd, g, _, b, F⟩ := (law_G (w := w) S kin ns TB).ex
    have e := Option.some.inj (hmg.symm.trans g)
    injection e with e
    subst e
    exact ⟨fd, F, b⟩
  refine law_callG KX G.T.g G.T.b G.T.builtins G.T.nolimit hg S.empty S.out (PySem.W.codeHd_of_K KX S.hd) G.T.bmain hobj hints (Nat.le_trans hlen (by rw [sizeLine_eq]; omega)) ⟨rfl, by decide, by decide⟩ TB (fun H hP hS => ⟨a, ns, rfl, hS, by omega, fun p hp => ?_, fun _ => rfl⟩) fun H e s' ⟨_, _, _, _, _, _, _, _, _, _, _, _, h⟩ => h
  obtain rfl := List.mem_singleton.mp hp
  exact TabS.nil hP
end K30
set_option maxHeartbeats 0
namespace K30
open PySem PySem.W PySem.Calls PyProof.Rows
abbrev R : OpenRow := OpenLaw.row PySem.Challenge.rw_houseslessties_k30_whole_when_turns_lead
abbrev qv : Program := view R.prog [59]
def names1 : List PySem.Str := ["_wall", "NetError", "BadWeb", "Refused", "NoHouse", "NoTie", "MOST_HOUSES", "MOST_TIES", "is_integer", "is_number", "is_below", "is_within", "is_sequence", "is_pair", "check_ties", "Web", "need_house", "need_tie", "other_end", "ties_at", "joined_houses", "parts_of", "rings_in", "is_forest"]
def names2 : List PySem.Str := ["MOST_WRAP", "MOST_NUMBER", "check_modulus", "is_counter", "check_numbers", "counted_as", "CounterNet", "is_rest", "tie_ends", "distances_from", "need_forest", "check_turns", "rest_after", "turns_heard", "_law_box", "_law_take", "_law_pick", "_law_mixed", "_law_forest", "_law_part", "_law_heard", "_law_web_refused", "_law_power", "_law_still", "_law_met", "_law_due", "_law_hears", "_law_rest_right", "_law_none_right"]
def names : List PySem.Str := names1 ++ names2
theorem run (w : World) : HandSHeadRun.RunEq R qv hookK obT 12000 names w := by
  intro os
  kernel_rfl
end K30
open PySem PySem.W PySem.Calls PyProof.Rows
theorem PySem.Challenge.cw_houseslessties_k30_whole_when_turns_lead_holds : PySem.Challenge.rw_houseslessties_k30_whole_when_turns_lead.Holds := by
  w_on; o_law
  refine HandSHeadRun.head_any (r := OpenLaw.row PySem.Challenge.rw_houseslessties_k30_whole_when_turns_lead) (q := K30.qv) (H := K30.hookK) (ob := K30.obT) (M := 12000) (loose := K30.names) (d := HandSHeadRun.topDef (OpenLaw.row PySem.Challenge.rw_houseslessties_k30_whole_when_turns_lead).prog 59) (kwd := []) K30.obT_eq
    (by kernel_rfl) (fun s => by kernel_rfl) K30.run (by kernel_rfl) (by kernel_rfl) (by kernel_rfl) (by rfl) (by first | assumption | decide +kernel) (by decide +kernel) ⟨rfl, rfl, rfl, rfl, rfl, by decide +kernel⟩ ?hw ?hc
  case hw => w_witness2
  case hc => exact K30.walk_K (by kernel_rfl) (by kernel_rfl)
