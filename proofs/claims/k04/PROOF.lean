import PyProof.Rows.All
import Wide.All
import OpenK.AllK
import Wide.FinOn
import HandS.ForMost
import HandS.Wide
import HandS.Flow
import HandS.Deep
import HandS.IsInst
import HandS.More
import HandS.DictComp
import HandS.Words
import HandS.Text
import HandS.Defaults
import PyProof.ReprBulk
import PySem.Challenge.RW_nearlocks_k04_hands_groups_and_paths
set_option Elab.async false
set_option linter.all false
/-! Nl, part A: values by content, memory, the relation to the abstract heap. -/
namespace Nl
open PySem L2
set_option autoImplicit false

/-- a value: tuples by their items; what can change by a number of the memory -/
inductive D where
  | non | bl (b : Bool) | int (i : Int) | str (x : Str) | tup (ds : List D) | ref (n : Nat) | rol (xs : List Int) | fn (f : Nat) | ty (n : String)
instance : Inhabited D := ⟨.non⟩
/-! ### values can be told apart -/
mutual
def eqDD : D → D → Bool
  | .non, .non => true
  | .bl a, .bl b => a == b
  | .int a, .int b => a == b
  | .str a, .str b => a == b
  | .tup a, .tup b => eqDL a b
  | .ref a, .ref b => a == b
  | .rol a, .rol b => a == b
  | .fn a, .fn b => a == b
  | .ty a, .ty b => a == b
  | _, _ => false
def eqDL : List D → List D → Bool
  | [], [] => true
  | a :: as, b :: bs => eqDD a b && eqDL as bs
  | _, _ => false
end
mutual
theorem eqDD_refl : ∀ a, eqDD a a = true
  | .non => rfl
  | .bl _ => by simp [eqDD]
  | .int _ => by simp [eqDD]
  | .str _ => by simp [eqDD]
  | .tup a => by rw [eqDD]; exact eqDL_refl a
  | .ref _ => by simp [eqDD]
  | .rol _ => by simp [eqDD]
  | .fn _ => by simp [eqDD]
  | .ty _ => by simp [eqDD]
theorem eqDL_refl : ∀ a, eqDL a a = true
  | [] => rfl
  | a :: as => by rw [eqDL, eqDD_refl a, eqDL_refl as]; rfl
end
mutual
theorem eqDD_eq : ∀ a b, eqDD a b = true → a = b
  | .non, b, h => by cases b <;> first | rfl | simp [eqDD] at h
  | .bl _, b, h => by cases b <;> simp [eqDD] at h; rw [h]
  | .int _, b, h => by cases b <;> simp [eqDD] at h; rw [h]
  | .str _, b, h => by cases b <;> simp [eqDD] at h; rw [h]
  | .tup a, b, h => by cases b <;> simp [eqDD] at h; rw [eqDL_eq _ _ h]
  | .ref _, b, h => by cases b <;> simp [eqDD] at h; rw [h]
  | .rol _, b, h => by cases b <;> simp [eqDD] at h; rw [h]
  | .fn _, b, h => by cases b <;> simp [eqDD] at h; rw [h]
  | .ty _, b, h => by cases b <;> simp [eqDD] at h; rw [h]
theorem eqDL_eq : ∀ a b, eqDL a b = true → a = b
  | [], b, h => by cases b <;> first | rfl | simp [eqDL] at h
  | a :: as, b, h => by
    cases b with
    | nil => simp [eqDL] at h
    | cons b bs =>
      rw [eqDL, Bool.and_eq_true] at h
      rw [eqDD_eq a b h.1, eqDL_eq as bs h.2]
end
instance : DecidableEq D := fun a b => if h : eqDD a b = true then .isTrue (eqDD_eq a b h) else .isFalse fun e => h (by rw [e]; exact eqDD_refl b)

/-- what stands in the memory -/
inductive O where
  | lst (xs : List D)
  | dct (kvs : List (Key × D))
  | lck (kvs : List (Key × D))
  | dtt (kvs : List (List Key × D))
  | ins (c : Nat) (fs : List (Str × D))
  deriving DecidableEq
instance : Inhabited O := ⟨.lst []⟩

structure Mem where
  arr : Array O
namespace Mem
def sz (M : Mem) : Nat := M.arr.size
def get (M : Mem) (n : Nat) : Option O := M.arr[n]?
def put (M : Mem) (n : Nat) (o : O) : Mem := ⟨M.arr.setIfInBounds n o⟩
def new (M : Mem) (o : O) : Mem := ⟨M.arr.push o⟩
theorem get_lt {M : Mem} {n : Nat} {o : O} (h : M.get n = some o) : n < M.sz := by
  unfold get at h; unfold sz
  exact (Array.getElem?_eq_some_iff.mp h).1
theorem get_some {M : Mem} {n : Nat} (h : n < M.sz) : ∃ o, M.get n = some o := by
  unfold get; unfold sz at h
  exact ⟨M.arr[n], Array.getElem?_eq_getElem h⟩
@[simp] theorem sz_put (M : Mem) (n : Nat) (o : O) : (M.put n o).sz = M.sz := by simp [put, sz]
@[simp] theorem sz_new (M : Mem) (o : O) : (M.new o).sz = M.sz + 1 := by simp [new, sz]
theorem get_put (M : Mem) (n m : Nat) (o : O) : (M.put n o).get m = if n = m then (if n < M.sz then some o else none) else M.get m := by
  unfold put get sz
  rw [Array.getElem?_setIfInBounds]
  all_goals rfl
theorem get_put_same {M : Mem} {n : Nat} {o : O} (h : n < M.sz) : (M.put n o).get n = some o := by simp [get_put, h]
theorem get_put_ne {M : Mem} {n m : Nat} {o : O} (h : n ≠ m) : (M.put n o).get m = M.get m := by simp [get_put, h]
theorem get_new (M : Mem) (m : Nat) (o : O) : (M.new o).get m = if m = M.sz then some o else M.get m := by
  unfold new get sz
  rw [Array.getElem?_push]
  all_goals rfl
theorem get_new_same {M : Mem} {o : O} : (M.new o).get M.sz = some o := by simp [get_new]
theorem get_new_lt {M : Mem} {m : Nat} {o : O} (h : m < M.sz) : (M.new o).get m = M.get m := by simp [get_new, Nat.ne_of_lt h]
end Mem

abbrev Out (α : Type) := Option (α × Mem)
abbrev Rho := List (Option D)
abbrev Ev := Rho → Mem → Out D
abbrev Evs := Rho → Mem → Out (List D)

/-! ### the relation -/
/-- what is fixed through a law: the text, the world, the written part, where defs and classes stand -/
structure Ga where
  P : Program
  w : World
  K : PySem.W.Frag
  mg : Str → Option Value
  base : Heap
  fa : Nat → Addr
  ca : Nat → Addr

/-- a list that is read, never written -/
def RoL (K : PySem.W.Frag) (H : Hp) (a : Addr) (xs : List V) : Prop :=
  (∃ o, H a = some (.frz o (.lst xs))) ∨ ∃ (o : Obj) (its : Array Value) (n : Nat), K.lookup a = some o ∧ o.cls = .type "list" ∧ o.dict = none ∧ o.data = .seq its n ∧ its.size ≤ sizeLine ∧ Vals xs its.toList
theorem RoL.sq {K : PySem.W.Frag} {H : Hp} {a : Addr} {xs : List V} (h : RoL K H a xs) : SqL K H a xs := by
  rcases h with ⟨o, h⟩ | h
  · exact .inl (.inr ⟨o, h⟩)
  · exact .inr h

mutual
inductive R (Γ : Ga) (ι : Nat → Addr) (N : Nat) (H : Hp) : D → V → Prop
  | non : R Γ ι N H .non .non
  | bl (b : Bool) : R Γ ι N H (.bl b) (.bl b)
  | int (i : Int) : R Γ ι N H (.int i) (.int i)
  | str (x : Str) : R Γ ι N H (.str x) (.str x)
  | tup {a : Addr} {ds : List D} {xs : List V} : SqT Γ.K H a xs → RL Γ ι N H ds xs → R Γ ι N H (.tup ds) (.ref a)
  | ref {n : Nat} : n < N → R Γ ι N H (.ref n) (.ref (ι n))
  | rol {a : Addr} {xs : List Int} : RoL Γ.K H a (xs.map V.int) → R Γ ι N H (.rol xs) (.ref a)
  | fn (f : Nat) : R Γ ι N H (.fn f) (.ref (Γ.fa f))
  | ty (n : String) : R Γ ι N H (.ty n) (.ty n)
inductive RL (Γ : Ga) (ι : Nat → Addr) (N : Nat) (H : Hp) : List D → List V → Prop
  | nil : RL Γ ι N H [] []
  | cons {d : D} {ds : List D} {v : V} {vs : List V} : R Γ ι N H d v → RL Γ ι N H ds vs → RL Γ ι N H (d :: ds) (v :: vs)
end

/-- pairs of keys (or names) and values -/
inductive RK {κ : Type} (Γ : Ga) (ι : Nat → Addr) (N : Nat) (H : Hp) : List (κ × D) → List (κ × V) → Prop
  | nil : RK Γ ι N H [] []
  | cons {k : κ} {d : D} {v : V} {ds : List (κ × D)} {vs : List (κ × V)} : R Γ ι N H d v → RK Γ ι N H ds vs → RK Γ ι N H ((k, d) :: ds) ((k, v) :: vs)

def RO (Γ : Ga) (ι : Nat → Addr) (N : Nat) (H : Hp) (a : Addr) : O → Prop
  | .lst ds => ∃ xs, H a = some (.lst xs) ∧ RL Γ ι N H ds xs
  | .dct kvs => ∃ xs, H a = some (.dK xs) ∧ RK Γ ι N H kvs xs
  | .lck kvs => ∃ od xs, H a = some (.frz od (.dK xs)) ∧ RK Γ ι N H kvs xs
  | .dtt kvs => ∃ xs, H a = some (.dT xs) ∧ RK Γ ι N H kvs xs
  | .ins c fs => ∃ dx xs, H a = some (.ins (Γ.ca c) dx xs) ∧ RK Γ ι N H fs xs

structure RM (Γ : Ga) (ι : Nat → Addr) (M : Mem) (H : Hp) : Prop where
  ob : ∀ n o, M.get n = some o → RO Γ ι M.sz H (ι n) o
  inj : ∀ m n, m < M.sz → n < M.sz → ι m = ι n → m = n

/-- kinds of things that no value by content leans on -/
def Loose : Option HO → Prop
  | none => True
  | some (.lst _) => True
  | some (.dK _) => True
  | some (.dT _) => True
  | some (.ins _ _ _) => True
  | some (.frz _ (.dK _)) => True
  | some (.own _) => True
  | _ => False

theorem ro_loose {Γ : Ga} {ι : Nat → Addr} {N : Nat} {H : Hp} {a : Addr} {o : O} (h : RO Γ ι N H a o) : Loose (H a) := by
  cases o with
  | lst ds => obtain ⟨xs, e, _⟩ := h; rw [e]; trivial
  | dct ds => obtain ⟨xs, e, _⟩ := h; rw [e]; trivial
  | lck ds => obtain ⟨od, xs, e, _⟩ := h; rw [e]; trivial
  | dtt ds => obtain ⟨xs, e, _⟩ := h; rw [e]; trivial
  | ins c fs => obtain ⟨dx, xs, e, _⟩ := h; rw [e]; trivial
theorem ro_there {Γ : Ga} {ι : Nat → Addr} {N : Nat} {H : Hp} {a : Addr} {o : O} (h : RO Γ ι N H a o) : H a ≠ none := by
  cases o with
  | lst ds => obtain ⟨xs, e, _⟩ := h; rw [e]; simp
  | dct ds => obtain ⟨xs, e, _⟩ := h; rw [e]; simp
  | lck ds => obtain ⟨od, xs, e, _⟩ := h; rw [e]; simp
  | dtt ds => obtain ⟨xs, e, _⟩ := h; rw [e]; simp
  | ins c fs => obtain ⟨dx, xs, e, _⟩ := h; rw [e]; simp
theorem RM.loose {Γ : Ga} {ι : Nat → Addr} {M : Mem} {H : Hp} (r : RM Γ ι M H) {n : Nat} (h : n < M.sz) : Loose (H (ι n)) := by
  obtain ⟨o, e⟩ := Mem.get_some h
  exact ro_loose (r.ob n o e)
theorem RM.there {Γ : Ga} {ι : Nat → Addr} {M : Mem} {H : Hp} (r : RM Γ ι M H) {n : Nat} (h : n < M.sz) : H (ι n) ≠ none := by
  obtain ⟨o, e⟩ := Mem.get_some h
  exact ro_there (r.ob n o e)

/-- from one moment to a later one -/
structure Ext (ι ι' : Nat → Addr) (N N' : Nat) (H H' : Hp) : Prop where
  le : N ≤ N'
  ag : ∀ n, n < N → ι' n = ι n
  new : ∀ n, N ≤ n → n < N' → H (ι' n) = none
  keep : ∀ a o, H a = some o → (∀ n, n < N → ι n ≠ a) → H' a = some o

theorem Ext.refl (ι : Nat → Addr) (N : Nat) (H : Hp) : Ext ι ι N N H H :=
  ⟨Nat.le_refl _, fun _ _ => rfl, fun n h1 h2 => absurd h2 (Nat.not_lt.mpr h1), fun _ _ h _ => h⟩

theorem sqT_keep {K : PySem.W.Frag} {H H' : Hp} {a : Addr} {xs : List V} (h : SqT K H a xs) (k : ∀ o, H a = some o → ¬ Loose (H a) → H' a = some o) : SqT K H' a xs := by
  rcases h with (h | ⟨o, h⟩) | h
  · exact .inl (.inl (k _ h (by rw [h]; exact id)))
  · exact .inl (.inr ⟨o, k _ h (by rw [h]; exact id)⟩)
  · exact .inr h
theorem rol_keep {K : PySem.W.Frag} {H H' : Hp} {a : Addr} {xs : List V} (h : RoL K H a xs) (k : ∀ o, H a = some o → ¬ Loose (H a) → H' a = some o) : RoL K H' a xs := by
  rcases h with ⟨o, h⟩ | h
  · exact .inl ⟨o, k _ h (by rw [h]; exact id)⟩
  · exact .inr h

section
variable {Γ : Ga} {ι ι' : Nat → Addr} {N N' : Nat} {H H' : Hp}
mutual
theorem R.mono (hl : N ≤ N') (ha : ∀ n, n < N → ι' n = ι n) (k : ∀ a o, H a = some o → ¬ Loose (H a) → H' a = some o) : ∀ (d : D) (v : V), R Γ ι N H d v → R Γ ι' N' H' d v
  | .non, _, h => by cases h; exact .non
  | .bl _, _, h => by cases h; exact .bl _
  | .int _, _, h => by cases h; exact .int _
  | .str _, _, h => by cases h; exact .str _
  | .tup ds, _, h => by
    cases h with
    | tup hs hr => exact .tup (sqT_keep hs (k _)) (RL.mono hl ha k ds _ hr)
  | .ref n, _, h => by
    cases h with
    | ref hn => rw [← ha n hn]; exact .ref (Nat.lt_of_lt_of_le hn hl)
  | .rol _, _, h => by
    cases h with
    | rol hs => exact .rol (rol_keep hs (k _))
  | .fn _, _, h => by cases h; exact .fn _
  | .ty _, _, h => by cases h; exact .ty _
theorem RL.mono (hl : N ≤ N') (ha : ∀ n, n < N → ι' n = ι n) (k : ∀ a o, H a = some o → ¬ Loose (H a) → H' a = some o) : ∀ (ds : List D) (vs : List V), RL Γ ι N H ds vs → RL Γ ι' N' H' ds vs
  | [], _, h => by cases h; exact .nil
  | d :: ds, _, h => by
    cases h with
    | cons h1 h2 => exact .cons (R.mono hl ha k d _ h1) (RL.mono hl ha k ds _ h2)
end
theorem RK.mono {κ : Type} (hl : N ≤ N') (ha : ∀ n, n < N → ι' n = ι n) (k : ∀ a o, H a = some o → ¬ Loose (H a) → H' a = some o) : ∀ {ds : List (κ × D)} {vs : List (κ × V)}, RK Γ ι N H ds vs → RK Γ ι' N' H' ds vs
  | _, _, .nil => .nil
  | _, _, .cons h t => .cons (R.mono hl ha k _ _ h) (RK.mono hl ha k t)
theorem ro_mono {a : Addr} {o : O} (hl : N ≤ N') (ha : ∀ n, n < N → ι' n = ι n) (k : ∀ a o, H a = some o → ¬ Loose (H a) → H' a = some o) (hk : H' a = H a) (h : RO Γ ι N H a o) : RO Γ ι' N' H' a o := by
  cases o with
  | lst ds => obtain ⟨xs, e, r⟩ := h; exact ⟨xs, hk.trans e, RL.mono hl ha k _ _ r⟩
  | dct ds => obtain ⟨xs, e, r⟩ := h; exact ⟨xs, hk.trans e, RK.mono hl ha k r⟩
  | lck ds => obtain ⟨od, xs, e, r⟩ := h; exact ⟨od, xs, hk.trans e, RK.mono hl ha k r⟩
  | dtt ds => obtain ⟨xs, e, r⟩ := h; exact ⟨xs, hk.trans e, RK.mono hl ha k r⟩
  | ins c fs => obtain ⟨dx, xs, e, r⟩ := h; exact ⟨dx, xs, hk.trans e, RK.mono hl ha k r⟩
end

section
variable {Γ : Ga} {ι ι' : Nat → Addr} {M M' : Mem} {N' : Nat} {H H' : Hp}
theorem RM.keeps (r : RM Γ ι M H) (e : Ext ι ι' M.sz N' H H') : ∀ a o, H a = some o → ¬ Loose (H a) → H' a = some o := fun a o h nl =>
  e.keep a o h fun n hn z => nl (by rw [← z]; exact r.loose hn)
theorem R.ext {d : D} {v : V} (h : R Γ ι M.sz H d v) (r : RM Γ ι M H) (e : Ext ι ι' M.sz N' H H') : R Γ ι' N' H' d v := R.mono e.le e.ag (r.keeps e) _ _ h
theorem RL.ext {d : List D} {v : List V} (h : RL Γ ι M.sz H d v) (r : RM Γ ι M H) (e : Ext ι ι' M.sz N' H H') : RL Γ ι' N' H' d v := RL.mono e.le e.ag (r.keeps e) _ _ h
theorem RK.ext {κ : Type} {d : List (κ × D)} {v : List (κ × V)} (h : RK Γ ι M.sz H d v) (r : RM Γ ι M H) (e : Ext ι ι' M.sz N' H H') : RK Γ ι' N' H' d v := RK.mono e.le e.ag (r.keeps e) h
/-- one step behind another -/
theorem Ext.trans {ι1 ι2 : Nat → Addr} {M1 : Mem} {N2 : Nat} {H1 H2 : Hp} (e1 : Ext ι ι1 M.sz M1.sz H H1) (r1 : RM Γ ι1 M1 H1) (e2 : Ext ι1 ι2 M1.sz N2 H1 H2) : Ext ι ι2 M.sz N2 H H2 where
  le := Nat.le_trans e1.le e2.le
  ag := fun n hn => (e2.ag n (Nat.lt_of_lt_of_le hn e1.le)).trans (e1.ag n hn)
  new := fun n h1 h2 => by
    by_cases hn : n < M1.sz
    · rw [e2.ag n hn]
      exact e1.new n h1 hn
    · have z := e2.new n (Nat.not_lt.mp hn) h2
      cases q : H (ι2 n) with
      | none => rfl
      | some o =>
        by_cases hm : ∃ m, m < M.sz ∧ ι m = ι2 n
        · obtain ⟨m, hm, e⟩ := hm
          rw [← e, ← e1.ag m hm] at z
          exact absurd z (r1.there (Nat.lt_of_lt_of_le hm e1.le))
        · have w := e1.keep _ o q fun m h3 e => hm ⟨m, h3, e⟩
          rw [z] at w
          cases w
  keep := fun a o h hn => e2.keep a o (e1.keep a o h hn) fun n h2 e => by
    by_cases hm : n < M.sz
    · exact hn n hm ((e1.ag n hm).symm.trans e)
    · have z := e1.new n (Nat.not_lt.mp hm) h2
      rw [e, h] at z
      cases z
/-- a thing that no one here leans on is laid at a free place, or changed -/
theorem RM.junk (r : RM Γ ι M H) {p : Addr} {o : HO} (hp : H p = none) : RM Γ ι M (upd H p o) where
  ob := fun n ob h => by
    have ne : ι n ≠ p := fun e => r.there (Mem.get_lt h) (by rw [e]; exact hp)
    refine ro_mono (Nat.le_refl _) (fun _ _ => rfl) (fun a u h1 _ => ?_) (upd_ne ne) (r.ob n ob h)
    rw [upd_ne (ne_of_none h1 hp)]; exact h1
  inj := r.inj
theorem Ext.junk {N : Nat} {p : Addr} {o : HO} (hp : H p = none) : Ext ι ι N N H (upd H p o) :=
  ⟨Nat.le_refl _, fun _ _ => rfl, fun n h1 h2 => absurd h2 (Nat.not_lt.mpr h1), fun a u h _ => by rw [upd_ne (ne_of_none h hp)]; exact h⟩
/-- the numbering with one more -/
def more (ι : Nat → Addr) (N : Nat) (p : Addr) : Nat → Addr := fun n => if n = N then p else ι n
theorem more_same {N : Nat} {p : Addr} : more ι N p N = p := if_pos rfl
theorem more_lt {N n : Nat} {p : Addr} (h : n < N) : more ι N p n = ι n := if_neg (Nat.ne_of_lt h)
theorem Ext.more {p : Addr} {o : HO} (hp : H p = none) : Ext ι (Nl.more ι M.sz p) M.sz (M.sz + 1) H (upd H p o) where
  le := Nat.le_succ _
  ag := fun n h => more_lt h
  new := fun n h1 h2 => by
    have e : n = M.sz := by omega
    subst e
    rw [more_same]; exact hp
  keep := fun a u h _ => by rw [upd_ne (ne_of_none h hp)]; exact h
/-- an object is tracked already at p (not of the numbering): it gets the next number -/
theorem RM.adopt (r : RM Γ ι M H) {p : Addr} {ob : O} (hp : ∀ n, n < M.sz → ι n ≠ p) (h : RO Γ (more ι M.sz p) (M.sz + 1) H p ob) : RM Γ (more ι M.sz p) (M.new ob) H where
  ob := fun n o e => by
    rw [Mem.sz_new]
    rw [Mem.get_new] at e
    by_cases hn : n = M.sz
    · rw [if_pos hn] at e
      cases e
      subst hn
      rw [more_same]; exact h
    · rw [if_neg hn] at e
      have lt := Mem.get_lt e
      rw [more_lt lt]
      exact ro_mono (Nat.le_succ _) (fun m hm => more_lt hm) (fun _ _ z _ => z) rfl (r.ob n o e)
  inj := fun m n hm hn e => by
    rw [Mem.sz_new] at hm hn
    by_cases h1 : m = M.sz
    · by_cases h2 : n = M.sz
      · rw [h1, h2]
      · have lt : n < M.sz := by omega
        rw [h1, more_same, more_lt lt] at e
        exact absurd e.symm (hp n lt)
    · have lm : m < M.sz := by omega
      by_cases h2 : n = M.sz
      · rw [h2, more_same, more_lt lm] at e
        exact absurd e (hp m lm)
      · have lt : n < M.sz := by omega
        rw [more_lt lm, more_lt lt] at e
        exact r.inj m n lm lt e
theorem RM.fresh (r : RM Γ ι M H) {p : Addr} (hp : H p = none) : ∀ n, n < M.sz → ι n ≠ p := fun n hn e => r.there hn (by rw [e]; exact hp)
/-- a new object of the memory -/
theorem RM.laid (r : RM Γ ι M H) {p : Addr} {o : HO} {ob : O} (hp : H p = none) (h : RO Γ (more ι M.sz p) (M.sz + 1) (upd H p o) p ob) : RM Γ (more ι M.sz p) (M.new ob) (upd H p o) :=
  (r.junk hp).adopt (r.fresh hp) h
/-- an object of the memory changes -/
theorem RM.put (r : RM Γ ι M H) {n : Nat} {o : HO} {ob : O} (hn : n < M.sz) (h : RO Γ ι M.sz (upd H (ι n) o) (ι n) ob) : RM Γ ι (M.put n ob) (upd H (ι n) o) where
  ob := fun m u e => by
    rw [Mem.sz_put]
    by_cases hm : n = m
    · subst hm
      rw [Mem.get_put_same hn] at e
      cases e
      exact h
    · rw [Mem.get_put_ne hm] at e
      have ne : ι m ≠ ι n := fun q => hm (r.inj n m hn (Mem.get_lt e) q.symm)
      refine ro_mono (Nat.le_refl _) (fun _ _ => rfl) (fun a y h1 nl => ?_) (upd_ne ne) (r.ob m u e)
      rw [upd_ne fun q => nl (by rw [q]; exact r.loose hn)]; exact h1
  inj := fun m k hm hk => by
    rw [Mem.sz_put] at hm hk
    exact r.inj m k hm hk
theorem Ext.put {n : Nat} {o : HO} {N : Nat} (hn : n < N) : Ext ι ι N N H (upd H (ι n) o) :=
  ⟨Nat.le_refl _, fun _ _ => rfl, fun n h1 h2 => absurd h2 (Nat.not_lt.mpr h1), fun a u h hne => by rw [upd_ne (Ne.symm (hne n hn))]; exact h⟩
/-- values stay what they are where loose things alone change -/
theorem R.upd {N : Nat} {d : D} {v : V} {a : Addr} {o : HO} (h : R Γ ι N H d v) (l : Loose (H a)) : R Γ ι N (upd H a o) d v :=
  R.mono (Nat.le_refl _) (fun _ _ => rfl) (fun b u h1 nl => by rw [upd_ne fun q => nl (by rw [q]; exact l)]; exact h1) _ _ h
theorem RL.upd {N : Nat} {d : List D} {v : List V} {a : Addr} {o : HO} (h : RL Γ ι N H d v) (l : Loose (H a)) : RL Γ ι N (upd H a o) d v :=
  RL.mono (Nat.le_refl _) (fun _ _ => rfl) (fun b u h1 nl => by rw [upd_ne fun q => nl (by rw [q]; exact l)]; exact h1) _ _ h
theorem RK.upd {κ : Type} {N : Nat} {d : List (κ × D)} {v : List (κ × V)} {a : Addr} {o : HO} (h : RK Γ ι N H d v) (l : Loose (H a)) : RK Γ ι N (upd H a o) d v :=
  RK.mono (Nat.le_refl _) (fun _ _ => rfl) (fun b u h1 nl => by rw [upd_ne fun q => nl (by rw [q]; exact l)]; exact h1) h
theorem loose_none {p : Addr} (h : H p = none) : Loose (H p) := by rw [h]; trivial
/-- values at the numbering with one more -/
theorem R.more {d : D} {v : V} {p : Addr} {o : HO} (h : R Γ ι M.sz H d v) (hp : H p = none) : R Γ (Nl.more ι M.sz p) (M.sz + 1) (L2.upd H p o) d v :=
  R.mono (Nat.le_succ _) (fun n hn => more_lt hn) (fun b u h1 _ => by rw [upd_ne (ne_of_none h1 hp)]; exact h1) _ _ h
theorem RL.more {d : List D} {v : List V} {p : Addr} {o : HO} (h : RL Γ ι M.sz H d v) (hp : H p = none) : RL Γ (Nl.more ι M.sz p) (M.sz + 1) (L2.upd H p o) d v :=
  RL.mono (Nat.le_succ _) (fun n hn => more_lt hn) (fun b u h1 _ => by rw [upd_ne (ne_of_none h1 hp)]; exact h1) _ _ h
theorem RK.more {κ : Type} {d : List (κ × D)} {v : List (κ × V)} {p : Addr} {o : HO} (h : RK Γ ι M.sz H d v) (hp : H p = none) : RK Γ (Nl.more ι M.sz p) (M.sz + 1) (L2.upd H p o) d v :=
  RK.mono (Nat.le_succ _) (fun n hn => more_lt hn) (fun b u h1 _ => by rw [upd_ne (ne_of_none h1 hp)]; exact h1) h
end

/-! ### slots -/
structure RS (Γ : Ga) (ι : Nat → Addr) (N : Nat) (H : Hp) (ρ : Rho) (σ : St) : Prop where
  len : ρ.length = σ.length
  at_ : ∀ (i : Nat) (d : D), ρ[i]? = some (some d) → ∃ v, σ[i]? = some (some v) ∧ R Γ ι N H d v
section
variable {Γ : Ga} {ι ι' : Nat → Addr} {M : Mem} {N N' : Nat} {H H' : Hp} {ρ : Rho} {σ : St}
theorem RS.ext (h : RS Γ ι M.sz H ρ σ) (r : RM Γ ι M H) (e : Ext ι ι' M.sz N' H H') : RS Γ ι' N' H' ρ σ :=
  ⟨h.len, fun i d q => let ⟨v, e1, e2⟩ := h.at_ i d q; ⟨v, e1, e2.ext r e⟩⟩
theorem RS.set (h : RS Γ ι N H ρ σ) {d : D} {v : V} (i : Nat) (r : R Γ ι N H d v) : RS Γ ι N H (ρ.set i (some d)) (σ.set i (some v)) := by
  refine ⟨by rw [List.length_set, List.length_set]; exact h.len, fun j e q => ?_⟩
  by_cases hj : i = j
  · subst hj
    by_cases hl : i < ρ.length
    · rw [List.getElem?_set_self hl] at q
      cases q
      exact ⟨v, List.getElem?_set_self (by rw [← h.len]; exact hl), r⟩
    · rw [List.getElem?_eq_none (by rw [List.length_set]; omega)] at q
      cases q
  · rw [List.getElem?_set_ne hj] at q ⊢
    exact h.at_ j e q
end

/-! ### readings -/
/-- the end of a run, wished for -/
def ResT (Γ : Ga) (ι : Nat → Addr) (M : Mem) (H : Hp) (out : Out D) (Q : VK) : Prop :=
  ∃ d M', out = some (d, M') ∧ ∀ v H' ι', Ext ι ι' M.sz M'.sz H H' → RM Γ ι' M' H' → R Γ ι' M'.sz H' d v → Q v H'
def ResB (Γ : Ga) (ι : Nat → Addr) (M : Mem) (H : Hp) (out : Out Bool) (Q : Bool → Hp → Prop) : Prop :=
  ∃ b M', out = some (b, M') ∧ ∀ H' ι', Ext ι ι' M.sz M'.sz H H' → RM Γ ι' M' H' → Q b H'
def ResL (Γ : Ga) (ι : Nat → Addr) (M : Mem) (H : Hp) (out : Out (List D)) (Q : List V → Hp → Prop) : Prop :=
  ∃ ds M', out = some (ds, M') ∧ ∀ vs H' ι', Ext ι ι' M.sz M'.sz H H' → RM Γ ι' M' H' → RL Γ ι' M'.sz H' ds vs → Q vs H'
/-- the state of both sides -/
structure Sim (Γ : Ga) (ι : Nat → Addr) (M : Mem) (H : Hp) (ρ : Rho) (σ : St) : Prop where
  m : RM Γ ι M H
  s : RS Γ ι M.sz H ρ σ
theorem Sim.ext {Γ : Ga} {ι ι' : Nat → Addr} {M M' : Mem} {H H' : Hp} {ρ : Rho} {σ : St} (h : Sim Γ ι M H ρ σ) (e : Ext ι ι' M.sz M'.sz H H') (r : RM Γ ι' M' H') : Sim Γ ι' M' H' ρ σ := ⟨r, h.s.ext h.m e⟩
def tE (Γ : Ga) (m : Ev) : TE := fun σ H Q => ∃ ι ρ M, Sim Γ ι M H ρ σ ∧ ResT Γ ι M H (m ρ M) Q
def tB (Γ : Ga) (m : Rho → Mem → Out Bool) : TT := fun σ H Q => ∃ ι ρ M, Sim Γ ι M H ρ σ ∧ ResB Γ ι M H (m ρ M) Q
def tL (Γ : Ga) (m : Evs) : TA := fun σ H Q => ∃ ι ρ M, Sim Γ ι M H ρ σ ∧ ResL Γ ι M H (m ρ M) Q
inductive Fl where
  | nx (ρ : Rho) | rt (d : D) | bk (ρ : Rho) | ct (ρ : Rho)
abbrev Sv := Rho → Mem → Out Fl
def FlT (Γ : Ga) (ι : Nat → Addr) (N : Nat) (H : Hp) (M' : Mem) (E : Ends) : Fl → Prop
  | .nx ρ' => ∀ σ' H' ι', Ext ι ι' N M'.sz H H' → Sim Γ ι' M' H' ρ' σ' → E.nx σ' H'
  | .rt d => ∀ v H' ι', Ext ι ι' N M'.sz H H' → RM Γ ι' M' H' → R Γ ι' M'.sz H' d v → E.rt v H'
  | .bk ρ' => ∀ σ' H' ι', Ext ι ι' N M'.sz H H' → Sim Γ ι' M' H' ρ' σ' → E.bk σ' H'
  | .ct ρ' => ∀ σ' H' ι', Ext ι ι' N M'.sz H H' → Sim Γ ι' M' H' ρ' σ' → E.ct σ' H'
def ResS (Γ : Ga) (ι : Nat → Addr) (M : Mem) (H : Hp) (out : Out Fl) (E : Ends) : Prop := ∃ f M', out = some (f, M') ∧ FlT Γ ι M.sz H M' E f
def tS (Γ : Ga) (m : Sv) : TS := fun E σ H => ∃ ι ρ M, Sim Γ ι M H ρ σ ∧ ResS Γ ι M H (m ρ M) E

/-- a stronger asking serves, too -/
theorem PE.of {X : Cx} {e : Expr} {t t' : TE} (h : PE X e t) (w : ∀ σ H Q, t' σ H Q → t σ H Q) : PE X e t' := ⟨fun pins s σ H Q I q => h.run pins s σ H Q I (w _ _ _ q)⟩
theorem PT.of {X : Cx} {e : Expr} {t t' : TT} (h : PT X e t) (w : ∀ σ H Q, t' σ H Q → t σ H Q) : PT X e t' := ⟨fun pins s σ H Q I q => h.run pins s σ H Q I (w _ _ _ q)⟩
theorem PA.of {X : Cx} {e : List Expr} {t t' : TA} (h : PA X e t) (w : ∀ σ H Q, t' σ H Q → t σ H Q) : PA X e t' := ⟨fun pos pins s σ H Q I q => h.run pos pins s σ H Q I (w _ _ _ q)⟩
theorem PS.of {X : Cx} {e : Stmt} {t t' : TS} (h : PS X e t) (w : ∀ E σ H, t' E σ H → t E σ H) : PS X e t' := ⟨fun pins s σ H E I q => h.run pins s σ H E I (w _ _ _ q)⟩
theorem PSs.of {X : Cx} {e : List Stmt} {t t' : TS} (h : PSs X e t) (w : ∀ E σ H, t' E σ H → t E σ H) : PSs X e t' := ⟨fun pins s σ H E I q => h.run pins s σ H E I (w _ _ _ q)⟩
/-- two readings of one expression -/
theorem PE.either {X : Cx} {e : Expr} {t t' : TE} (h : PE X e t) (h' : PE X e t') : PE X e (fun σ H Q => t σ H Q ∨ t' σ H Q) := ⟨fun pins s σ H Q I q => q.elim (h.run pins s σ H Q I) (h'.run pins s σ H Q I)⟩
end Nl

set_option autoImplicit false
/-! Nl, part B: names, constants, operators, comparisons, tests. -/
namespace Nl
open PySem L2

def bnd {α β : Type} (x : Out α) (f : α → Mem → Out β) : Out β := match x with
  | none => none
  | some (a, M) => f a M
@[simp] theorem bnd_some {α β : Type} (a : α) (M : Mem) (f : α → Mem → Out β) : bnd (some (a, M)) f = f a M := rfl
@[simp] theorem bnd_none {α β : Type} (f : α → Mem → Out β) : bnd none f = none := rfl
theorem bnd_inv {α β : Type} {x : Out α} {f : α → Mem → Out β} {r : β × Mem} (h : bnd x f = some r) : ∃ a M, x = some (a, M) ∧ f a M = some r := by
  cases x with
  | none => cases h
  | some p => exact ⟨p.1, p.2, rfl, h⟩

/-! ### names, constants -/
def eVar (i : Nat) : Ev := fun ρ M => match ρ[i]? with
  | some (some d) => some (d, M)
  | _ => none
def eCon (d : D) : Ev := fun _ M => some (d, M)
section
variable {Γ : Ga} {X : Cx}
theorem p_var (i : Nat) {x : Str} {pos : Pos} (hN : X.N[i]? = some x := by rfl) (hv : Vis X.env.scope x := by first | exact Or.inl rfl | exact Or.inr (Or.inl rfl) | exact Or.inr (Or.inr rfl)) (hd : (x == ("__debug__" : Str)) = false := by decide)
    (hcd : (x == ("__classdict__" : Str)) = false := by decide) : PE X (.Name x pos) (tE Γ (eVar i)) := by
  refine PE.of (pe_var hN hv hd hcd) fun σ H Q h => ?_
  obtain ⟨ι, ρ, M, S, d, M', e, q⟩ := h
  unfold eVar at e
  split at e
  · rename_i d' hd'
    cases e
    obtain ⟨v, e1, r⟩ := S.s.at_ i _ hd'
    exact ⟨v, e1, q v H ι (Ext.refl _ _ _) S.m r⟩
  · cases e
/-- a thing that is the same at all times -/
theorem p_con {e : Expr} {v : V} {d : D} (h : PE X e (tC v)) (r : ∀ ι N H, R Γ ι N H d v) : PE X e (tE Γ (eCon d)) := by
  refine PE.of h fun σ H Q h => ?_
  obtain ⟨ι, ρ, M, S, d', M', e, q⟩ := h
  cases e
  exact q v H ι (Ext.refl _ _ _) S.m (r ι _ H)
theorem p_int {i j pos} : PE X (.Constant (.int i) j pos) (tE Γ (eCon (.int i))) := p_con pe_int fun _ _ _ => .int i
theorem p_bl {b j pos} : PE X (.Constant (.bool b) j pos) (tE Γ (eCon (.bl b))) := p_con pe_bl fun _ _ _ => .bl b
theorem p_non {j pos} : PE X (.Constant .none j pos) (tE Γ (eCon .non)) := p_con pe_non fun _ _ _ => .non
theorem p_str {x j pos} : PE X (.Constant (.str x) j pos) (tE Γ (eCon (.str x))) := p_con pe_str fun _ _ _ => .str x
end

/-! ### operators of two values -/
def eOp (g : D → D → Mem → Out D) (ma mb : Ev) : Ev := fun ρ M => bnd (ma ρ M) fun a M1 => bnd (mb ρ M1) fun b M2 => g a b M2
def rD (Γ : Ga) (g : D → D → Mem → Out D) : R2 := fun x y H Q => ∃ ι M a b, RM Γ ι M H ∧ R Γ ι M.sz H a x ∧ R Γ ι M.sz H b y ∧ ResT Γ ι M H (g a b M) Q
section
variable {Γ : Ga} {X : Cx} {a b c : Expr} {ma mb mc : Ev} {pos : Pos}
theorem op2_go {g : D → D → Mem → Out D} {σ : St} {H : Hp} {Q : VK} (h : tE Γ (eOp g ma mb) σ H Q) : tOp (rD Γ g) (tE Γ ma) (tE Γ mb) σ H Q := by
  obtain ⟨ι, ρ, M, S, d, M', e, q⟩ := h
  obtain ⟨a, M1, e1, e⟩ := bnd_inv e
  obtain ⟨b, M2, e2, e⟩ := bnd_inv e
  refine ⟨ι, ρ, M, S, a, M1, e1, fun x H1 ι1 x1 r1 ra => ⟨ι1, ρ, M1, S.ext x1 r1, b, M2, e2, fun y H2 ι2 x2 r2 rb => ?_⟩⟩
  refine ⟨ι2, M2, a, b, r2, ra.ext r1 x2, rb, d, M', e, fun v H3 ι3 x3 r3 rd => ?_⟩
  exact q v H3 ι3 ((x1.trans r1 x2).trans r2 x3) r3 rd
theorem p_op {op : Operator} {g : D → D → Mem → Out D} (ho : OpR X (binaryOp op) (rD Γ g)) (ha : PE X a (tE Γ ma)) (hb : PE X b (tE Γ mb)) : PE X (.BinOp a op b pos) (tE Γ (eOp g ma mb)) :=
  PE.of (pe_op ho ha hb) fun _ _ _ h => op2_go h
theorem p_cmp {op : CmpOp} {g : D → D → Mem → Out D} (ho : OpR X (compareOp op) (rD Γ g)) (ha : PE X a (tE Γ ma)) (hb : PE X b (tE Γ mb)) (hm : behindInMarks op b = false) : PE X (.Compare a [op] [b] pos) (tE Γ (eOp g ma mb)) :=
  PE.of (pe_cmpR ho ha hb hm) fun _ _ _ h => op2_go h
end

/-- what the value rules see -/
theorem ResT.same {Γ : Ga} {ι : Nat → Addr} {M : Mem} {H : Hp} {d : D} {v : V} {Q : VK} (q : ∀ v H' ι', Ext ι ι' M.sz M.sz H H' → RM Γ ι' M H' → R Γ ι' M.sz H' d v → Q v H') (r : RM Γ ι M H) (h : R Γ ι M.sz H d v) : Q v H :=
  q v H ι (Ext.refl _ _ _) r h

/-! ### arithmetic -/
def mulOk (i j : Int) : Bool := decide (i.natAbs < 2 ^ 64) || decide (j.natAbs < 2 ^ 64) || decide (i.natAbs.log2 + j.natAbs.log2 < 1000000)
theorem mulOk_ok {i j : Int} (h : mulOk i j = true) : IntMulOk i j := by
  unfold mulOk at h
  rw [Bool.or_eq_true, Bool.or_eq_true] at h
  rcases h with (h | h) | h
  · have h := of_decide_eq_true h
    exact CMul.ok (.inl ⟨by omega, by omega⟩)
  · have h := of_decide_eq_true h
    exact CMul.ok (.inr ⟨by omega, by omega⟩)
  · have h2 : i.natAbs.log2 + j.natAbs.log2 < 1000000 := of_decide_eq_true h
    exact CMulW.ok h2
def repS (x : Str) (k : Int) : Str := if k < 1 then Str.empty else if (k == 1 || x.length == 0) = true then x else ⟨(List.replicate k.toNat x.cps).foldl (· ++ ·) #[]⟩
def gAdd : D → D → Mem → Out D
  | .int i, .int j, M => some (.int (i + j), M)
  | .str x, .str y, M => if x.length + y.length ≤ sizeLine then some (.str (x ++ y), M) else none
  | .tup xs, .tup ys, M => if xs.length + ys.length ≤ sizeLine then some (.tup (xs ++ ys), M) else none
  | .ref a, .ref b, M => match M.get a, M.get b with
    | some (.lst xs), some (.lst ys) => if xs.length + ys.length ≤ sizeLine then some (.ref M.sz, M.new (.lst (xs ++ ys))) else none
    | _, _ => none
  | _, _, _ => none
def gSub : D → D → Mem → Out D
  | .int i, .int j, M => some (.int (i - j), M)
  | _, _, _ => none
def gMul : D → D → Mem → Out D
  | .int i, .int j, M => if mulOk i j then some (.int (i * j), M) else none
  | .str x, .int k, M => if -1000 ≤ k ∧ k ≤ 1000 ∧ x.length ≤ 1000 then some (.str (repS x k), M) else none
  | .ref a, .int k, M => match M.get a with
    | some (.lst xs) => if -1000 ≤ k ∧ k ≤ 1000 ∧ xs.length * k.toNat ≤ sizeLine then some (.ref M.sz, M.new (.lst (List.replicate k.toNat xs).flatten)) else none
    | _ => none
  | _, _, _ => none
def gFdiv : D → D → Mem → Out D
  | .int i, .int j, M => if 0 < j ∧ j.natAbs.log2 < 9000 then some (.int (i / j), M) else none
  | _, _, _ => none
def gMod : D → D → Mem → Out D
  | .int i, .int j, M => if 0 < j then some (.int (i % j), M) else none
  | _, _, _ => none
def gPow : D → D → Mem → Out D
  | .int i, .int j, M => if 0 ≤ j ∧ (Builtin.Int.intBits i : Int) * j ≤ 2 ^ 27 then some (.int (i ^ j.toNat), M) else none
  | _, _, _ => none

theorem RL.length {Γ : Ga} {ι : Nat → Addr} {N : Nat} {H : Hp} : ∀ {ds : List D} {vs : List V}, RL Γ ι N H ds vs → ds.length = vs.length
  | _, _, .nil => rfl
  | _, _, .cons _ t => congrArg Nat.succ (RL.length t)
theorem RL.append {Γ : Ga} {ι : Nat → Addr} {N : Nat} {H : Hp} : ∀ {ds es : List D} {vs ws : List V}, RL Γ ι N H ds vs → RL Γ ι N H es ws → RL Γ ι N H (ds ++ es) (vs ++ ws)
  | _, _, _, _, .nil, s => s
  | _, _, _, _, .cons r t, s => .cons r (RL.append t s)
theorem RL.get {Γ : Ga} {ι : Nat → Addr} {N : Nat} {H : Hp} : ∀ {ds : List D} {vs : List V} {i : Nat} {d : D}, RL Γ ι N H ds vs → ds[i]? = some d → ∃ v, vs[i]? = some v ∧ R Γ ι N H d v
  | _, _, _, _, .nil, e => by simp at e
  | _, _, 0, _, .cons r _, e => by simp at e; subst e; exact ⟨_, rfl, r⟩
  | _, _, i + 1, d, .cons _ t, e => by
    obtain ⟨u, h1, h2⟩ := RL.get (i := i) (d := d) t (by simpa using e)
    exact ⟨u, by simpa using h1, h2⟩
theorem RL.take {Γ : Ga} {ι : Nat → Addr} {N : Nat} {H : Hp} : ∀ {ds : List D} {vs : List V} (n : Nat), RL Γ ι N H ds vs → RL Γ ι N H (ds.take n) (vs.take n)
  | _, _, 0, _ => by rw [List.take_zero, List.take_zero]; exact .nil
  | _, _, _ + 1, .nil => .nil
  | _, _, n + 1, .cons r t => .cons r (RL.take n t)
theorem RL.drop {Γ : Ga} {ι : Nat → Addr} {N : Nat} {H : Hp} : ∀ {ds : List D} {vs : List V} (n : Nat), RL Γ ι N H ds vs → RL Γ ι N H (ds.drop n) (vs.drop n)
  | _, _, 0, r => r
  | _, _, _ + 1, .nil => .nil
  | _, _, n + 1, .cons _ t => RL.drop n t
theorem RL.set {Γ : Ga} {ι : Nat → Addr} {N : Nat} {H : Hp} {d : D} {v : V} (r : R Γ ι N H d v) : ∀ {ds : List D} {vs : List V} (i : Nat), RL Γ ι N H ds vs → RL Γ ι N H (ds.set i d) (vs.set i v)
  | _, _, _, .nil => .nil
  | _, _, 0, .cons _ t => .cons r t
  | _, _, i + 1, .cons q t => .cons q (RL.set r i t)
theorem RL.eraseIdx {Γ : Ga} {ι : Nat → Addr} {N : Nat} {H : Hp} : ∀ {ds : List D} {vs : List V} (i : Nat), RL Γ ι N H ds vs → RL Γ ι N H (ds.eraseIdx i) (vs.eraseIdx i)
  | _, _, _, .nil => .nil
  | _, _, 0, .cons _ t => t
  | _, _, i + 1, .cons q t => .cons q (RL.eraseIdx i t)
theorem RL.reverse {Γ : Ga} {ι : Nat → Addr} {N : Nat} {H : Hp} : ∀ {ds : List D} {vs : List V}, RL Γ ι N H ds vs → RL Γ ι N H ds.reverse vs.reverse
  | _, _, .nil => .nil
  | _, _, .cons r t => by
    rw [List.reverse_cons, List.reverse_cons]
    exact (RL.reverse t).append (.cons r .nil)
theorem RL.rep {Γ : Ga} {ι : Nat → Addr} {N : Nat} {H : Hp} {ds : List D} {vs : List V} (r : RL Γ ι N H ds vs) : ∀ k : Nat, RL Γ ι N H (List.replicate k ds).flatten (List.replicate k vs).flatten
  | 0 => .nil
  | k + 1 => by
    rw [List.replicate_succ, List.replicate_succ, List.flatten_cons, List.flatten_cons]
    exact r.append (RL.rep r k)

/-- a new list -/
theorem new_list {Γ : Ga} {ι : Nat → Addr} {M : Mem} {H : Hp} {ds : List D} {xs : List V} {Q : VK} (r : RM Γ ι M H) (h : RL Γ ι M.sz H ds xs)
    (q : ∀ v H' ι', Ext ι ι' M.sz (M.new (.lst ds)).sz H H' → RM Γ ι' (M.new (.lst ds)) H' → R Γ ι' (M.new (.lst ds)).sz H' (.ref M.sz) v → Q v H') :
    ∀ p, H p = none → Q (.ref p) (upd H p (.lst xs)) := fun p hp => by
  refine q (.ref p) _ (more ι M.sz p) ?_ (r.laid hp ⟨xs, upd_same, h.more hp⟩) ?_
  · rw [Mem.sz_new]; exact Ext.more hp
  · rw [Mem.sz_new]
    have e : p = more ι M.sz p M.sz := more_same.symm
    exact (congrArg (fun z => R Γ (more ι M.sz p) (M.sz + 1) (upd H p (.lst xs)) (.ref M.sz) (.ref z)) e).mpr (R.ref (Nat.lt_succ_self _))
/-- a new tuple -/
theorem new_tup {Γ : Ga} {ι : Nat → Addr} {M : Mem} {H : Hp} {ds : List D} {xs : List V} {Q : VK} (r : RM Γ ι M H) (h : RL Γ ι M.sz H ds xs)
    (q : ∀ v H' ι', Ext ι ι' M.sz M.sz H H' → RM Γ ι' M H' → R Γ ι' M.sz H' (.tup ds) v → Q v H') :
    ∀ p, H p = none → Q (.ref p) (upd H p (.tup xs)) := fun p hp =>
  q (.ref p) _ ι (Ext.junk hp) (r.junk hp) (.tup (SqT.of upd_same) (h.upd (loose_none hp)))

section
variable {Γ : Ga} {X : Cx}
theorem catT0 {pins : List (Addr × Obj)} {s : Shared} {σ : St} {H : Hp} {Q : VK} {a b : Addr} {ys : List V} (I : Inv X pins σ H s) (ha : SqT X.K H a []) (hb : SqT X.K H b ys) (q : Q (.ref b) H) :
    wpAny (model X.prog X.w) X.A (binaryOp .Add (.ref a) (.ref b)) (EP X pins σ Q) X.xe s := by
  obtain ⟨its, r1, p1, _⟩ := I.tuple ha
  obtain ⟨its2, r2, p2, _⟩ := I.tuple hb
  cases r1
  obtain ⟨⟨cls, dd, data, sl⟩, ho, hc, n, hd⟩ := p1
  obtain ⟨⟨cls2, dd2, data2, sl2⟩, ho2, hc2, n2, hd2⟩ := p2
  simp only at hc hd hc2 hd2
  subst hc hd hc2 hd2
  exact concat_meets ⟨_, ho, rfl⟩ ⟨_, ho2, rfl⟩ PySem.noFill_tuple_add PySem.seq_tuple_add PySem.F.slot_tuple_add PySem.F.entry_tuple_add (PySem.F.args_tuple_add_2 _ _)
    (PyProof.Rows.tuple_addW0 a b _ _ n n2 dd dd2 sl sl2 (by rfl)) ⟨ho, ho2, ⟨.ref b, H, I, rfl, q⟩⟩
theorem op_gAdd (hK : X.K = Γ.K) : OpR X (binaryOp .Add) (rD Γ gAdd) := by
  intro pins s σ H x y v u Q I rx ry h
  obtain ⟨ι, M, a, b, rm, ra, rb, d, M', e, q⟩ := h
  unfold gAdd at e
  split at e
  · cases ra; cases rb; cases e
    exact op_add pins s σ H _ _ v u Q I rx ry ⟨_, _, rfl, rfl, ResT.same q rm (.int _)⟩
  · cases ra; cases rb
    split at e
    · rename_i hz
      cases e
      exact op_add_str pins s σ H _ _ v u Q I rx ry ⟨_, _, rfl, rfl, hz, ResT.same q rm (.str _)⟩
    · cases e
  · cases ra with
    | tup h1 l1 =>
      cases rb with
      | tup h2 l2 =>
        rename_i xs ys _ aa xs' bb ys'
        split at e
        · rename_i hz
          cases e
          rw [← hK] at h1 h2
          by_cases hx : xs' = []
          · subst hx
            cases l1
            cases rx; cases ry
            exact catT0 I h1 h2 (ResT.same q rm (.tup (by rw [← hK]; exact h2) l2))
          · refine op_catT pins s σ H _ _ v u Q I rx ry ⟨_, _, _, _, rfl, rfl, h1, h2, hx, ?_, fun hy => ?_, fun hy => ?_⟩
            · rw [← l1.length, ← l2.length]; exact hz
            · subst hy
              cases l2
              rw [List.append_nil] at q
              exact ResT.same q rm (.tup (by rw [← hK]; exact h1) l1)
            · exact new_tup rm (l1.append l2) q
        · cases e
  · cases ra; cases rb
    rename_i n1 n2 M _ _
    split at e
    · rename_i xs ys g1 g2
      split at e
      · rename_i hz
        cases e
        obtain ⟨vs, e1, r1⟩ := rm.ob _ _ g1
        obtain ⟨ws, e2, r2⟩ := rm.ob _ _ g2
        refine op_cat pins s σ H _ _ v u Q I rx ry ⟨_, _, _, _, rfl, rfl, e1, e2, ?_, new_list rm (r1.append r2) q⟩
        rw [← r1.length, ← r2.length]; exact hz
      · cases e
    · cases e
  · cases e
theorem op_gSub : OpR X (binaryOp .Sub) (rD Γ gSub) := by
  intro pins s σ H x y v u Q I rx ry h
  obtain ⟨ι, M, a, b, rm, ra, rb, d, M', e, q⟩ := h
  unfold gSub at e
  split at e
  · cases ra; cases rb; cases e
    exact op_sub pins s σ H _ _ v u Q I rx ry ⟨_, _, rfl, rfl, ResT.same q rm (.int _)⟩
  · cases e
theorem repS_len {x : Str} {k : Int} (h : k ≤ 1000) (hx : x.length ≤ 1000) : x.length * k.toNat ≤ 1000000 := by
  have h1 : k.toNat ≤ 1000 := by omega
  exact Nat.le_trans (Nat.mul_le_mul hx h1) (by decide)
theorem op_gMul : OpR X (binaryOp .Mult) (rD Γ gMul) := by
  intro pins s σ H x y v u Q I rx ry h
  obtain ⟨ι, M, a, b, rm, ra, rb, d, M', e, q⟩ := h
  unfold gMul at e
  split at e
  · cases ra; cases rb
    split at e
    · rename_i hz
      cases e
      obtain ⟨t, rfl⟩ := rx
      obtain ⟨t', rfl⟩ := ry
      exact PyProof.Rows.mul_int ⟨.int _, H, I.tok _, ⟨_, rfl⟩, ResT.same q rm (.int _)⟩ (mulOk_ok hz)
    · cases e
  · rename_i _ x k
    cases ra; cases rb
    split at e
    · rename_i hz
      cases e
      obtain ⟨t, rfl⟩ := rx
      obtain ⟨t', rfl⟩ := ry
      obtain ⟨h1, h2, h3⟩ := hz
      have hl := repS_len h2 h3
      have e1 : decide (k < -(2 ^ 63 : Int)) = false := decide_eq_false (by omega)
      have e2 : decide (k ≥ 2 ^ 63) = false := decide_eq_false (by omega)
      have fin : Q (.str (repS x k)) H := ResT.same q rm (.str _)
      have tl : Builtin.Str.tooLong (x.length * k.toNat) = false := by
        unfold Builtin.Str.tooLong
        rw [PySem.sizeLine_eq]
        exact decide_eq_false (by omega)
      refine PySem.P.mul_str (by rw [e1, e2]; rfl) (fun g1 g2 => ?_) (fun g1 g2 => tl) ?_
      · have g3 : (0 : Int) < k := by omega
        have : (1000 : Int) ≤ (2 ^ 63 - 1) / k := by
          rw [Int.le_ediv_iff_mul_le g3]
          omega
        omega
      · unfold repS at fin
        split
        · rename_i g
          rw [if_pos g] at fin
          exact ⟨by decide, ⟨.str _, H, I.tok _, ⟨_, rfl⟩, fin⟩⟩
        · rename_i g
          rw [if_neg g] at fin
          split
          · rename_i g'
            rw [if_pos g'] at fin
            exact ⟨.str _, H, I, ⟨_, rfl⟩, fin⟩
          · rename_i g'
            rw [if_neg g'] at fin
            exact ⟨PySem.fits_reps tl, ⟨.str _, H, I.tok _, ⟨_, rfl⟩, fin⟩⟩
    · cases e
  · cases ra; cases rb
    split at e
    · rename_i xs g1
      split at e
      · rename_i hz
        cases e
        obtain ⟨vs, e1, r1⟩ := rm.ob _ _ g1
        obtain ⟨h1, h2, h3⟩ := hz
        refine op_rep pins s σ H _ _ v u Q I rx ry ⟨_, _, _, rfl, rfl, e1, by omega, by omega, ?_, new_list rm (r1.rep _) q⟩
        rw [← r1.length]; exact h3
      · cases e
    · cases e
  · cases e
theorem op_gFdiv : OpR X (binaryOp .FloorDiv) (rD Γ gFdiv) := by
  intro pins s σ H x y v u Q I rx ry h
  obtain ⟨ι, M, a, b, rm, ra, rb, d, M', e, q⟩ := h
  unfold gFdiv at e
  split at e
  · cases ra; cases rb
    split at e
    · rename_i hz
      cases e
      exact op_fdivW pins s σ H _ _ v u Q I rx ry ⟨_, _, rfl, rfl, hz, ResT.same q rm (.int _)⟩
    · cases e
  · cases e
theorem op_gMod : OpR X (binaryOp .Mod) (rD Γ gMod) := by
  intro pins s σ H x y v u Q I rx ry h
  obtain ⟨ι, M, a, b, rm, ra, rb, d, M', e, q⟩ := h
  unfold gMod at e
  split at e
  · cases ra; cases rb
    split at e
    · rename_i hz
      cases e
      exact op_mod pins s σ H _ _ v u Q I rx ry ⟨_, _, rfl, rfl, hz, ResT.same q rm (.int _)⟩
    · cases e
  · cases e
theorem op_gPow : OpR X (binaryOp .Pow) (rD Γ gPow) := by
  intro pins s σ H x y v u Q I rx ry h
  obtain ⟨ι, M, a, b, rm, ra, rb, d, M', e, q⟩ := h
  unfold gPow at e
  split at e
  · cases ra; cases rb
    split at e
    · rename_i hz
      cases e
      obtain ⟨t, rfl⟩ := rx
      obtain ⟨t', rfl⟩ := ry
      exact PyProof.Rows.pow_int hz.1 hz.2 ⟨.int _, H, I.tok _, ⟨_, rfl⟩, ResT.same q rm (.int _)⟩
    · cases e
  · cases e
end
end Nl

set_option autoImplicit false
/-! Nl, part C: things as plain data; comparisons; truth; and, or, not. -/
namespace Nl
open PySem L2

/-! ### plain data -/
mutual
def toPs (rf : Nat → Option PyData) : D → Option PyData
  | .non => some .none
  | .bl b => some (.bool b)
  | .int i => some (.int i)
  | .str x => some (.str x)
  | .tup ds => (toPl rf ds).map .tuple
  | .ref n => rf n
  | .rol xs => some (.list (xs.map .int))
  | .fn _ => none
  | .ty _ => none
def toPl (rf : Nat → Option PyData) : List D → Option (List PyData)
  | [] => some []
  | d :: ds => match toPs rf d, toPl rf ds with
    | some p, some q => some (p :: q)
    | _, _ => none
end
def refP : Nat → Mem → Nat → Option PyData
  | 0, _, _ => none
  | k + 1, M, n => match M.get n with
    | some (.lst xs) => (toPl (refP k M) xs).map .list
    | _ => none
/-- a thing with its lists as they stand, as data -/
def toP (M : Mem) (d : D) : Option PyData := toPs (refP 40 M) d

section
variable {Γ : Ga} {ι : Nat → Addr} {M : Mem} {H : Hp}
theorem dpAll_ints {K : PySem.W.Frag} : ∀ xs : List Int, DpAll K H (xs.map V.int) (xs.map PyData.int)
  | [] => .nil
  | x :: xs => .cons (.int x) (dpAll_ints xs)
mutual
theorem dp_of (rf : Nat → Option PyData) (hr : ∀ n p, n < M.sz → rf n = some p → Dp Γ.K H (.ref (ι n)) p) : ∀ (d : D) (v : V) (p : PyData), R Γ ι M.sz H d v → toPs rf d = some p → Dp Γ.K H v p
  | .non, _, _, h, e => by cases h; cases e; exact .non
  | .bl _, _, _, h, e => by cases h; cases e; exact .bl _
  | .int _, _, _, h, e => by cases h; cases e; exact .int _
  | .str _, _, _, h, e => by cases h; cases e; exact .str _
  | .tup ds, _, p, h, e => by
    cases h with
    | tup hs hl =>
      rw [toPs] at e
      obtain ⟨q, e1, rfl⟩ := Option.map_eq_some_iff.mp e
      exact .tup hs (dpl_of rf hr ds _ q hl e1)
  | .ref n, _, p, h, e => by
    cases h with
    | ref hn => exact hr n p hn e
  | .rol xs, _, p, h, e => by
    cases h with
    | rol hs =>
      cases e
      exact .lst hs.sq (dpAll_ints xs)
  | .fn _, _, _, h, e => by cases e
  | .ty _, _, _, h, e => by cases e
theorem dpl_of (rf : Nat → Option PyData) (hr : ∀ n p, n < M.sz → rf n = some p → Dp Γ.K H (.ref (ι n)) p) : ∀ (ds : List D) (vs : List V) (ps : List PyData), RL Γ ι M.sz H ds vs → toPl rf ds = some ps → DpAll Γ.K H vs ps
  | [], _, _, h, e => by cases h; cases e; exact .nil
  | d :: ds, _, ps, h, e => by
    cases h with
    | cons h1 h2 =>
      rw [toPl] at e
      split at e
      · rename_i p q e1 e2
        cases e
        exact .cons (dp_of rf hr d _ _ h1 e1) (dpl_of rf hr ds _ _ h2 e2)
      · cases e
end
theorem dp_ref (rm : RM Γ ι M H) : ∀ (k n : Nat) (p : PyData), n < M.sz → refP k M n = some p → Dp Γ.K H (.ref (ι n)) p
  | 0, _, _, _, e => by cases e
  | k + 1, n, p, hn, e => by
    rw [refP] at e
    split at e
    · rename_i xs g
      obtain ⟨q, e1, rfl⟩ := Option.map_eq_some_iff.mp e
      obtain ⟨vs, e2, rl⟩ := rm.ob n _ g
      exact .lst (SqL.of e2) (dpl_of (refP k M) (dp_ref rm k) xs vs q rl e1)
    · cases e
theorem toP_dp (rm : RM Γ ι M H) {d : D} {v : V} {p : PyData} (r : R Γ ι M.sz H d v) (e : toP M d = some p) : Dp Γ.K H v p := dp_of _ (dp_ref rm 40) d v p r e
end

/-! ### == and its like -/
/-- two plain values -/
def eqS : D → D → Option Bool
  | .non, .non => some true
  | .bl a, .bl b => some (a == b)
  | .int a, .int b => some (a == b)
  | .str a, .str b => some (a == b)
  | .non, .int _ => some false
  | .non, .bl _ => some false
  | .non, .str _ => some false
  | .int _, .non => some false
  | .bl _, .non => some false
  | .str _, .non => some false
  | .int _, .str _ => some false
  | .str _, .int _ => some false
  | .bl _, .str _ => some false
  | .str _, .bl _ => some false
  | _, _ => none
def eqD (a b : D) (M : Mem) : Option Bool := match eqS a b with
  | some r => some r
  | none => match toP M a, toP M b with
    | some p, some q => if SeqAt.shaped p = true ∧ SeqAt.shaped q = true then some (PyData.eqv p q) else none
    | _, _ => none
def gEq (a b : D) (M : Mem) : Out D := (eqD a b M).map fun r => (.bl r, M)
def gNe (a b : D) (M : Mem) : Out D := (eqD a b M).map fun r => (.bl (!r), M)
def ltD : D → D → Option Bool
  | .int a, .int b => some (decide (a < b))
  | .str a, .str b => some (decide (a.cps.toList < b.cps.toList))
  | _, _ => none
def gLt (a b : D) (M : Mem) : Out D := (ltD a b).map fun r => (.bl r, M)
def gLe : D → D → Mem → Out D
  | .int a, .int b, M => some (.bl (decide (a ≤ b)), M)
  | _, _, _ => none
def gGt : D → D → Mem → Out D
  | .int a, .int b, M => some (.bl (decide (b < a)), M)
  | _, _, _ => none
def gGe : D → D → Mem → Out D
  | .int a, .int b, M => some (.bl (decide (b ≤ a)), M)
  | _, _, _ => none
def isN : D → Bool
  | .non => true
  | _ => false
def gIsN (a : D) (M : Mem) : Out D := some (.bl (isN a), M)
def gNotN (a : D) (M : Mem) : Out D := some (.bl (!isN a), M)
theorem isN_dec {Γ : Ga} {ι : Nat → Addr} {N : Nat} {H : Hp} {d : D} {v : V} (r : R Γ ι N H d v) : decide (v = .non) = isN d := by
  cases r <;> rfl
section
variable {Γ : Ga} {X : Cx}
theorem eqS_ok {ι : Nat → Addr} {N : Nat} {H : Hp} {a b : D} {x y : V} {r : Bool} (ra : R Γ ι N H a x) (rb : R Γ ι N H b y) (e : eqS a b = some r) : scal x y = true ∧ decide (x = y) = r := by
  cases ra <;> cases rb <;> first
    | (cases e; exact ⟨rfl, by first | rfl | exact dec_bl | exact dec_int | exact dec_str⟩)
    | cases e
theorem op_gEq (hK : X.K = Γ.K) (hu : X.A.units + 64 < cLine) : OpR X (compareOp .Eq) (rD Γ gEq) := by
  intro pins s σ H x y v u Q I rx ry h
  obtain ⟨ι, M, a, b, rm, ra, rb, d, M', e, q⟩ := h
  obtain ⟨r, e1, e2⟩ := Option.map_eq_some_iff.mp e
  cases e2
  have fin : Q (.bl r) H := ResT.same q rm (.bl _)
  unfold eqD at e1
  split at e1
  · rename_i r' es
    cases e1
    obtain ⟨h1, h2⟩ := eqS_ok ra rb es
    exact op_eq pins s σ H x y v u Q I rx ry ⟨h1, by rw [h2]; exact fin⟩
  · split at e1
    · rename_i p1 p2 g1 g2
      split at e1
      · rename_i hs
        cases e1
        exact op_eqD hu pins s σ H x y v u Q I rx ry ⟨p1, p2, by rw [hK]; exact toP_dp rm ra g1, by rw [hK]; exact toP_dp rm rb g2, hs.1, hs.2, fin⟩
      · cases e1
    · cases e1
theorem op_gNe (hK : X.K = Γ.K) (hu : X.A.units + 64 < cLine) : OpR X (compareOp .NotEq) (rD Γ gNe) := by
  intro pins s σ H x y v u Q I rx ry h
  obtain ⟨ι, M, a, b, rm, ra, rb, d, M', e, q⟩ := h
  obtain ⟨r, e1, e2⟩ := Option.map_eq_some_iff.mp e
  cases e2
  have fin : Q (.bl (!r)) H := ResT.same q rm (.bl _)
  unfold eqD at e1
  split at e1
  · rename_i r' es
    cases e1
    obtain ⟨h1, h2⟩ := eqS_ok ra rb es
    exact op_ne pins s σ H x y v u Q I rx ry ⟨h1, by rw [h2]; exact fin⟩
  · split at e1
    · rename_i p1 p2 g1 g2
      split at e1
      · rename_i hs
        cases e1
        exact op_neD hu pins s σ H x y v u Q I rx ry ⟨p1, p2, by rw [hK]; exact toP_dp rm ra g1, by rw [hK]; exact toP_dp rm rb g2, hs.1, hs.2, fin⟩
      · cases e1
    · cases e1
theorem op_gLt : OpR X (compareOp .Lt) (rD Γ gLt) := by
  intro pins s σ H x y v u Q I rx ry h
  obtain ⟨ι, M, a, b, rm, ra, rb, d, M', e, q⟩ := h
  obtain ⟨r, e1, e2⟩ := Option.map_eq_some_iff.mp e
  cases e2
  unfold ltD at e1
  split at e1
  · cases ra; cases rb; cases e1
    exact op_lt pins s σ H _ _ v u Q I rx ry ⟨_, _, rfl, rfl, ResT.same q rm (.bl _)⟩
  · cases ra; cases rb; cases e1
    exact op_lt_str pins s σ H _ _ v u Q I rx ry ⟨_, _, rfl, rfl, ResT.same q rm (.bl _)⟩
  · cases e1
theorem op_gLe : OpR X (compareOp .LtE) (rD Γ gLe) := by
  intro pins s σ H x y v u Q I rx ry h
  obtain ⟨ι, M, a, b, rm, ra, rb, d, M', e, q⟩ := h
  unfold gLe at e
  split at e
  · cases ra; cases rb; cases e
    exact op_le pins s σ H _ _ v u Q I rx ry ⟨_, _, rfl, rfl, ResT.same q rm (.bl _)⟩
  · cases e
theorem op_gGt : OpR X (compareOp .Gt) (rD Γ gGt) := by
  intro pins s σ H x y v u Q I rx ry h
  obtain ⟨ι, M, a, b, rm, ra, rb, d, M', e, q⟩ := h
  unfold gGt at e
  split at e
  · cases ra; cases rb; cases e
    exact op_gt pins s σ H _ _ v u Q I rx ry ⟨_, _, rfl, rfl, ResT.same q rm (.bl _)⟩
  · cases e
theorem op_gGe : OpR X (compareOp .GtE) (rD Γ gGe) := by
  intro pins s σ H x y v u Q I rx ry h
  obtain ⟨ι, M, a, b, rm, ra, rb, d, M', e, q⟩ := h
  unfold gGe at e
  split at e
  · cases ra; cases rb; cases e
    exact op_ge pins s σ H _ _ v u Q I rx ry ⟨_, _, rfl, rfl, ResT.same q rm (.bl _)⟩
  · cases e
end

/-! ### in, not in -/
/-- flat items are told apart by their values -/
def flatD : D → Bool
  | .non => true
  | .bl _ => true
  | .int _ => true
  | .str _ => true
  | _ => false
def eqF : D → D → Bool
  | .non, .non => true
  | .bl a, .bl b => a == b
  | .bl a, .int b => (if a then 1 else 0) == b
  | .int a, .bl b => a == (if b then 1 else 0)
  | .int a, .int b => a == b
  | .str a, .str b => a == b
  | _, _ => false
def inF (x : D) (xs : List D) : Bool := xs.any fun y => eqF y x
def keyD : D → Option Key
  | .int i => some (.inl i)
  | .str x => some (.inr x)
  | _ => none
def hasK {κ : Type} [DecidableEq κ] (kvs : List (κ × D)) (k : κ) : Bool := kvs.any fun p => decide (p.1 = k)
def inSeq (x : D) (xs : List D) : Option Bool := if flatD x = true ∧ xs.all flatD = true then some (inF x xs) else none
def inD (x y : D) (M : Mem) : Option Bool := match y with
  | .tup ys => inSeq x ys
  | .str z => match x with
    | .str w => some (!(Builtin.Str.occurrences z w 0 z.length 1).isEmpty)
    | _ => none
  | .ref n => match M.get n with
    | some (.lst ys) => inSeq x ys
    | some (.dct kvs) => (keyD x).map fun k => hasK kvs k
    | _ => none
  | _ => none
def gIn (x y : D) (M : Mem) : Out D := (inD x y M).map fun r => (.bl r, M)
def gNotIn (x y : D) (M : Mem) : Out D := (inD x y M).map fun r => (.bl (!r), M)
section
variable {Γ : Ga} {ι : Nat → Addr} {N : Nat} {H : Hp}
theorem flat_ok {d : D} {v : V} (r : R Γ ι N H d v) (h : flatD d = true) : flatV v = true := by
  cases r <;> first | rfl | cases h
theorem eqF_ok {a b : D} {x y : V} (ra : R Γ ι N H a x) (rb : R Γ ι N H b y) (ha : flatD a = true) (hb : flatD b = true) : eqV x y = eqF a b := by
  cases ra <;> first
    | (cases rb <;> first | rfl | cases hb)
    | cases ha
theorem flats_ok : ∀ {ds : List D} {vs : List V}, RL Γ ι N H ds vs → ds.all flatD = true → vs.all flatV = true
  | _, _, .nil, _ => rfl
  | _, _, .cons r t, h => by
    rw [List.all_cons, Bool.and_eq_true] at h ⊢
    exact ⟨flat_ok r h.1, flats_ok t h.2⟩
theorem inF_ok {d : D} {v : V} (r : R Γ ι N H d v) (hd : flatD d = true) : ∀ {ds : List D} {vs : List V}, RL Γ ι N H ds vs → ds.all flatD = true → inV v vs = inF d ds
  | _, _, .nil, _ => rfl
  | _, _, .cons q t, h => by
    rw [List.all_cons, Bool.and_eq_true] at h
    have ih := inF_ok r hd t h.2
    unfold inV inF at ih ⊢
    rw [List.any_cons, List.any_cons, eqF_ok q r h.1 hd, ih]
theorem hasK_ok {κ : Type} [DecidableEq κ] {k : κ} : ∀ {ds : List (κ × D)} {vs : List (κ × V)}, RK Γ ι N H ds vs → (vs.any fun p => decide (p.1 = k)) = hasK ds k
  | _, _, .nil => rfl
  | _, _, .cons _ t => by
    have ih := hasK_ok (k := k) t
    unfold hasK at ih ⊢
    rw [List.any_cons, List.any_cons, ih]
end

section
variable {Γ : Ga} {X : Cx}
theorem in_seq_go {Γ : Ga} {ι : Nat → Addr} {N : Nat} {H : Hp} {a : D} {x : V} {ys : List D} {vs : List V} {r : Bool} (ra : R Γ ι N H a x) (rl : RL Γ ι N H ys vs) (e : inSeq a ys = some r) :
    flatV x = true ∧ vs.all flatV = true ∧ inV x vs = r := by
  unfold inSeq at e
  split at e
  · rename_i h
    cases e
    exact ⟨flat_ok ra h.1, flats_ok rl h.2, inF_ok ra h.1 rl h.2⟩
  · cases e
/-- what in asks, by where it looks -/
theorem in_go {ι : Nat → Addr} {M : Mem} {H : Hp} {a b : D} {x y : V} {r : Bool} (rm : RM Γ ι M H) (ra : R Γ ι M.sz H a x) (rb : R Γ ι M.sz H b y) (e : inD a b M = some r) :
    (∃ p vs, y = .ref p ∧ (SqL Γ.K H p vs ∨ SqT Γ.K H p vs) ∧ flatV x = true ∧ vs.all flatV = true ∧ inV x vs = r) ∨
    (∃ w z, x = .str w ∧ y = .str z ∧ (!(Builtin.Str.occurrences z w 0 z.length 1).isEmpty) = r) ∨
    ∃ p kvs k, y = .ref p ∧ H p = some (.dK kvs) ∧ x = kV k ∧ (valV kvs k).isSome = r := by
  unfold inD at e
  split at e
  · cases rb with
    | tup hs rl =>
      obtain ⟨h1, h2, h3⟩ := in_seq_go ra rl e
      exact .inl ⟨_, _, rfl, .inr hs, h1, h2, h3⟩
  · cases rb
    split at e
    · cases ra
      cases e
      exact .inr (.inl ⟨_, _, rfl, rfl, rfl⟩)
    · cases e
  · cases rb
    split at e
    · rename_i ys g
      obtain ⟨vs, e1, rl⟩ := rm.ob _ _ g
      obtain ⟨h1, h2, h3⟩ := in_seq_go ra rl e
      exact .inl ⟨_, _, rfl, .inl (SqL.of e1), h1, h2, h3⟩
    · rename_i kvs g
      obtain ⟨vs, e1, rl⟩ := rm.ob _ _ g
      obtain ⟨k, hk, e2⟩ := Option.map_eq_some_iff.mp e
      refine .inr (.inr ⟨_, vs, k, rfl, e1, ?_, ?_⟩)
      · unfold keyD at hk
        split at hk
        · cases ra; cases hk; rfl
        · cases ra; cases hk; rfl
        · cases hk
      · rw [← valV_any, hasK_ok rl]; exact e2
    · cases e
  · cases e
theorem op_gIn (hK : X.K = Γ.K) (hu : X.A.units + 1 < cLine) : OpR X (compareOp .In) (rD Γ gIn) := by
  intro pins s σ H x y v u Q I rx ry h
  obtain ⟨ι, M, a, b, rm, ra, rb, d, M', e, q⟩ := h
  obtain ⟨r, e1, e2⟩ := Option.map_eq_some_iff.mp e
  cases e2
  have fin : Q (.bl r) H := ResT.same q rm (.bl _)
  rcases in_go rm ra rb e1 with ⟨p, vs, rfl, hq, h1, h2, h3⟩ | ⟨w, z, rfl, rfl, h3⟩ | ⟨p, kvs, k, rfl, hp, rfl, h3⟩
  · rw [← hK] at hq
    refine op_in_seq pins s σ H x _ v u Q I rx ry ⟨p, vs, rfl, hq, h1, h2, ?_⟩
    show Q (.bl (inV x vs)) H
    rw [h3]; exact fin
  · exact op_in_str pins s σ H _ _ v u Q I rx ry ⟨w, z, rfl, rfl, by rw [h3]; exact fin⟩
  · cases ry
    exact d_in hu I (DGet.k hp) rx fun s' I' => ⟨.bl _, H, I', rfl, by rw [h3]; exact fin⟩
theorem op_gNotIn (hK : X.K = Γ.K) (hu : X.A.units + 1 < cLine) : OpR X (compareOp .NotIn) (rD Γ gNotIn) := by
  intro pins s σ H x y v u Q I rx ry h
  obtain ⟨ι, M, a, b, rm, ra, rb, d, M', e, q⟩ := h
  obtain ⟨r, e1, e2⟩ := Option.map_eq_some_iff.mp e
  cases e2
  have fin : Q (.bl (!r)) H := ResT.same q rm (.bl _)
  rcases in_go rm ra rb e1 with ⟨p, vs, rfl, hq, h1, h2, h3⟩ | ⟨w, z, rfl, rfl, h3⟩ | ⟨p, kvs, k, rfl, hp, rfl, h3⟩
  · rw [← hK] at hq
    refine op_notIn_seq pins s σ H x _ v u Q I rx ry ⟨p, vs, rfl, hq, h1, h2, ?_⟩
    show Q (.bl (!inV x vs)) H
    rw [h3]; exact fin
  · exact op_notIn_str pins s σ H _ _ v u Q I rx ry ⟨w, z, rfl, rfl, by rw [h3]; exact fin⟩
  · cases ry
    exact d_notIn hu I (DGet.k hp) rx fun s' I' => ⟨.bl _, H, I', rfl, by rw [h3]; exact fin⟩
end

/-! ### truth; tests -/
abbrev Bv := Rho → Mem → Out Bool
def truth (M : Mem) : D → Option Bool
  | .non => some false
  | .bl b => some b
  | .int i => some (i != 0)
  | .str x => if x.length ≤ sizeLine then some ((x.length : Int) != 0) else none
  | .tup ds => some (!ds.isEmpty)
  | .rol xs => some (!xs.isEmpty)
  | .ref n => match M.get n with
    | some (.lst xs) => some (!xs.isEmpty)
    | some (.dct kvs) => some (!kvs.isEmpty)
    | _ => none
  | _ => none
theorem RL.isEmpty {Γ : Ga} {ι : Nat → Addr} {N : Nat} {H : Hp} {ds : List D} {vs : List V} (r : RL Γ ι N H ds vs) : vs.isEmpty = ds.isEmpty := by cases r <;> rfl
theorem RK.isEmpty {κ : Type} {Γ : Ga} {ι : Nat → Addr} {N : Nat} {H : Hp} {ds : List (κ × D)} {vs : List (κ × V)} (r : RK Γ ι N H ds vs) : vs.isEmpty = ds.isEmpty := by cases r <;> rfl
theorem truth_ok {Γ : Ga} {ι : Nat → Addr} {M : Mem} {H : Hp} {d : D} {v : V} {b : Bool} (rm : RM Γ ι M H) (r : R Γ ι M.sz H d v) (e : truth M d = some b) : TruV Γ.K v H b := by
  unfold truth at e
  split at e
  · cases r; cases e; exact rfl
  · cases r; cases e; exact rfl
  · cases r; cases e; exact rfl
  · cases r
    split at e
    · rename_i h
      cases e; exact ⟨h, rfl⟩
    · cases e
  · cases r with
    | tup hs rl => cases e; exact .inr (.inl ⟨_, hs, by rw [rl.isEmpty]⟩)
  · cases r with
    | rol hs => cases e; exact .inl ⟨_, hs.sq, by rw [List.isEmpty_map]⟩
  · cases r
    split at e
    · rename_i g
      cases e
      obtain ⟨vs, e1, rl⟩ := rm.ob _ _ g
      exact .inl ⟨_, SqL.of e1, by rw [rl.isEmpty]⟩
    · rename_i g
      cases e
      obtain ⟨vs, e1, rl⟩ := rm.ob _ _ g
      exact .inr (.inr ⟨_, e1, by rw [rl.isEmpty]⟩)
    · cases e
  · cases e
/-- a value's truth -/
def xVal (m : Ev) : Bv := fun ρ M => bnd (m ρ M) fun d M1 => (truth M1 d).map fun b => (b, M1)
def xNot (m : Bv) : Bv := fun ρ M => bnd (m ρ M) fun b M1 => some (!b, M1)
def xAnd (m n : Bv) : Bv := fun ρ M => bnd (m ρ M) fun b M1 => if b = true then n ρ M1 else some (false, M1)
def xOr (m n : Bv) : Bv := fun ρ M => bnd (m ρ M) fun b M1 => if b = true then some (true, M1) else n ρ M1
def eNot (m : Ev) : Ev := fun ρ M => bnd (m ρ M) fun d M1 => (truth M1 d).map fun b => (.bl (!b), M1)
def eAnd (m n : Ev) : Ev := fun ρ M => bnd (m ρ M) fun d M1 => match truth M1 d with
  | some true => n ρ M1
  | some false => some (d, M1)
  | none => none
def eOr (m n : Ev) : Ev := fun ρ M => bnd (m ρ M) fun d M1 => match truth M1 d with
  | some true => some (d, M1)
  | some false => n ρ M1
  | none => none
def eIf (c : Bv) (m n : Ev) : Ev := fun ρ M => bnd (c ρ M) fun b M1 => if b = true then m ρ M1 else n ρ M1
def eChain (g g' : D → D → Mem → Out D) (ma mb mc : Ev) : Ev := fun ρ M => bnd (ma ρ M) fun a M1 => bnd (mb ρ M1) fun b M2 => bnd (g a b M2) fun r M3 => match r with
  | .bl true => bnd (mc ρ M3) fun c M4 => g' b c M4
  | .bl false => some (.bl false, M3)
  | _ => none
section
variable {Γ : Ga} {X : Cx} {a b c : Expr} {rest : List Expr} {ma mb mc : Ev} {ta tb : Bv} {pos : Pos}
theorem xVal_go (hK : X.K = Γ.K) {σ : St} {H : Hp} {Q : Bool → Hp → Prop} (h : tB Γ (xVal ma) σ H Q) : tE Γ ma σ H fun x H' => ∃ k, TruV X.K x H' k ∧ Q k H' := by
  obtain ⟨ι, ρ, M, S, r, M', e, q⟩ := h
  obtain ⟨d, M1, e1, e⟩ := bnd_inv e
  obtain ⟨r', e2, e3⟩ := Option.map_eq_some_iff.mp e
  cases e3
  exact ⟨ι, ρ, M, S, d, _, e1, fun v H' ι' x1 r1 rd => ⟨r, by rw [hK]; exact truth_ok r1 rd e2, q H' ι' x1 r1⟩⟩
/-- any expression as a test, by its value's truth -/
theorem x_val (hK : X.K = Γ.K) (ha : PE X a (tE Γ ma)) (he : ∀ whole, isTrue a X.env whole = (do let v ← whole; standAt a.pos; holding [v] (truthy v)) := by intro _; rfl) : PT X a (tB Γ (xVal ma)) :=
  PT.of (pt_truth ha he) fun _ _ _ h => xVal_go hK h
/-- a comparison as a test -/
theorem x_cmp {op : CmpOp} {g : D → D → Mem → Out D} (ho : OpR X (compareOp op) (rD Γ g)) (hb1 : ∀ a b M d M', g a b M = some (d, M') → ∃ k, d = .bl k) (ha : PE X a (tE Γ ma)) (hb : PE X b (tE Γ mb)) (hm : behindInMarks op b = false) :
    PT X (.Compare a [op] [b] pos) (tB Γ (xVal (eOp g ma mb))) := by
  refine PT.of (pt_cmpR ho ha hb hm) fun σ H Q h => ?_
  obtain ⟨ι, ρ, M, S, r, M', e, q⟩ := h
  obtain ⟨d, M1, e1, e⟩ := bnd_inv e
  obtain ⟨r', e2, e3⟩ := Option.map_eq_some_iff.mp e
  cases e3
  refine op2_go ⟨ι, ρ, M, S, d, _, e1, fun v H' ι' x1 r1 rd => ?_⟩
  obtain ⟨_, M2, _, e4⟩ := bnd_inv e1
  obtain ⟨_, M3, _, e5⟩ := bnd_inv e4
  obtain ⟨k, rfl⟩ := hb1 _ _ _ _ _ e5
  cases rd
  cases e2
  exact ⟨r, rfl, q H' ι' x1 r1⟩
theorem x_not (ha : PT X a (tB Γ ta)) : PT X (.UnaryOp .Not a pos) (tB Γ (xNot ta)) := by
  refine PT.of (pt_not ha) fun σ H Q h => ?_
  obtain ⟨ι, ρ, M, S, r, M', e, q⟩ := h
  obtain ⟨d, M1, e1, e⟩ := bnd_inv e
  cases e
  exact ⟨ι, ρ, M, S, d, _, e1, q⟩
theorem xw_one (ha : PT X a (tB Γ ta)) : PW X (.BoolOp .And [a] pos) (tB Γ ta) := pw_and1 ha
theorem xw_one' (ha : PT X a (tB Γ ta)) : PW X (.BoolOp .Or [a] pos) (tB Γ ta) := pw_or1 ha
theorem PW.of {e : Expr} {t t' : TT} (h : PW X e t) (w : ∀ σ H Q, t' σ H Q → t σ H Q) : PW X e t' := ⟨fun wh pins s σ H Q I q => h.run wh pins s σ H Q I (w _ _ _ q)⟩
theorem xw_and (ha : PT X a (tB Γ ta)) (hb : PW X (.BoolOp .And (b :: rest) pos) (tB Γ tb)) : PW X (.BoolOp .And (a :: b :: rest) pos) (tB Γ (xAnd ta tb)) := by
  refine PW.of (pw_and ha hb) fun σ H Q h => ?_
  obtain ⟨ι, ρ, M, S, r, M', e, q⟩ := h
  obtain ⟨d, M1, e1, e⟩ := bnd_inv e
  refine ⟨ι, ρ, M, S, d, M1, e1, fun H1 ι1 x1 r1 => ?_⟩
  cases d with
  | true => exact ⟨ι1, ρ, M1, S.ext x1 r1, r, M', e, fun H2 ι2 x2 r2 => q H2 ι2 (x1.trans r1 x2) r2⟩
  | false => cases e; exact q H1 ι1 x1 r1
theorem xw_or (ha : PT X a (tB Γ ta)) (hb : PW X (.BoolOp .Or (b :: rest) pos) (tB Γ tb)) : PW X (.BoolOp .Or (a :: b :: rest) pos) (tB Γ (xOr ta tb)) := by
  refine PW.of (pw_or ha hb) fun σ H Q h => ?_
  obtain ⟨ι, ρ, M, S, r, M', e, q⟩ := h
  obtain ⟨d, M1, e1, e⟩ := bnd_inv e
  refine ⟨ι, ρ, M, S, d, M1, e1, fun H1 ι1 x1 r1 => ?_⟩
  cases d with
  | true => cases e; exact q H1 ι1 x1 r1
  | false => exact ⟨ι1, ρ, M1, S.ext x1 r1, r, M', e, fun H2 ι2 x2 r2 => q H2 ι2 (x1.trans r1 x2) r2⟩
/-- values -/
theorem p_one {op : PySem.BoolOp} (h : PE X a (tE Γ ma)) : PE X (.BoolOp op [a] pos) (tE Γ ma) := pe_one h
theorem p_not (hK : X.K = Γ.K) (ha : PE X a (tE Γ ma)) : PE X (.UnaryOp .Not a pos) (tE Γ (eNot ma)) := by
  refine PE.of (pe_notT ha) fun σ H Q h => ?_
  obtain ⟨ι, ρ, M, S, r, M', e, q⟩ := h
  obtain ⟨d, M1, e1, e⟩ := bnd_inv e
  obtain ⟨b, e2, e3⟩ := Option.map_eq_some_iff.mp e
  cases e3
  exact ⟨ι, ρ, M, S, d, _, e1, fun v H' ι' x1 r1 rd => ⟨b, by rw [hK]; exact truth_ok r1 rd e2, q _ H' ι' x1 r1 (.bl _)⟩⟩
theorem p_and (hK : X.K = Γ.K) (ha : PE X a (tE Γ ma)) (hb : PE X (.BoolOp .And (b :: rest) pos) (tE Γ mb)) : PE X (.BoolOp .And (a :: b :: rest) pos) (tE Γ (eAnd ma mb)) := by
  refine PE.of (pe_andT ha hb) fun σ H Q h => ?_
  obtain ⟨ι, ρ, M, S, r, M', e, q⟩ := h
  obtain ⟨d, M1, e1, e⟩ := bnd_inv e
  refine ⟨ι, ρ, M, S, d, M1, e1, fun v H1 ι1 x1 r1 rd => ?_⟩
  split at e
  · rename_i ht
    refine ⟨true, by rw [hK]; exact truth_ok r1 rd ht, iteT ?_⟩
    exact ⟨ι1, ρ, M1, S.ext x1 r1, r, M', e, fun v H2 ι2 x2 r2 rd => q v H2 ι2 (x1.trans r1 x2) r2 rd⟩
  · rename_i ht
    cases e
    exact ⟨false, by rw [hK]; exact truth_ok r1 rd ht, iteF (q v H1 ι1 x1 r1 rd)⟩
  · cases e
theorem p_or (hK : X.K = Γ.K) (ha : PE X a (tE Γ ma)) (hb : PE X (.BoolOp .Or (b :: rest) pos) (tE Γ mb)) : PE X (.BoolOp .Or (a :: b :: rest) pos) (tE Γ (eOr ma mb)) := by
  refine PE.of (pe_orT ha hb) fun σ H Q h => ?_
  obtain ⟨ι, ρ, M, S, r, M', e, q⟩ := h
  obtain ⟨d, M1, e1, e⟩ := bnd_inv e
  refine ⟨ι, ρ, M, S, d, M1, e1, fun v H1 ι1 x1 r1 rd => ?_⟩
  split at e
  · rename_i ht
    cases e
    exact ⟨true, by rw [hK]; exact truth_ok r1 rd ht, iteT (q v H1 ι1 x1 r1 rd)⟩
  · rename_i ht
    refine ⟨false, by rw [hK]; exact truth_ok r1 rd ht, iteF ?_⟩
    exact ⟨ι1, ρ, M1, S.ext x1 r1, r, M', e, fun v H2 ι2 x2 r2 rd => q v H2 ι2 (x1.trans r1 x2) r2 rd⟩
  · cases e
theorem p_if (hc : PT X c (tB Γ ta)) (ha : PE X a (tE Γ ma)) (hb : PE X b (tE Γ mb)) : PE X (.IfExp c a b pos) (tE Γ (eIf ta ma mb)) := by
  refine PE.of (pe_ifExp hc ha hb) fun σ H Q h => ?_
  obtain ⟨ι, ρ, M, S, r, M', e, q⟩ := h
  obtain ⟨d, M1, e1, e⟩ := bnd_inv e
  refine ⟨ι, ρ, M, S, d, M1, e1, fun H1 ι1 x1 r1 => ?_⟩
  cases d with
  | true => exact iteT ⟨ι1, ρ, M1, S.ext x1 r1, r, M', e, fun v H2 ι2 x2 r2 rd => q v H2 ι2 (x1.trans r1 x2) r2 rd⟩
  | false => exact iteF ⟨ι1, ρ, M1, S.ext x1 r1, r, M', e, fun v H2 ι2 x2 r2 rd => q v H2 ι2 (x1.trans r1 x2) r2 rd⟩
theorem chain_go {g g' : D → D → Mem → Out D} {σ : St} {H : Hp} {Q : VK} (h : tE Γ (eChain g g' ma mb mc) σ H Q) : tChain (rD Γ g) (rD Γ g') (tE Γ ma) (tE Γ mb) (tE Γ mc) σ H Q := by
  obtain ⟨ι, ρ, M, S, d, M', e, q⟩ := h
  obtain ⟨a, M1, e1, e⟩ := bnd_inv e
  obtain ⟨b, M2, e2, e⟩ := bnd_inv e
  obtain ⟨r, M3, e3, e⟩ := bnd_inv e
  refine ⟨ι, ρ, M, S, a, M1, e1, fun x H1 ι1 x1 r1 ra => ⟨ι1, ρ, M1, S.ext x1 r1, b, M2, e2, fun y H2 ι2 x2 r2 rb => ?_⟩⟩
  refine ⟨ι2, M2, a, b, r2, ra.ext r1 x2, rb, r, M3, e3, fun v H3 ι3 x3 r3 rd => ?_⟩
  have x12 := x1.trans r1 x2
  have x13 := x12.trans r2 x3
  split at e
  · cases rd
    refine ⟨true, rfl, iteT ?_⟩
    obtain ⟨c, M4, e4, e⟩ := bnd_inv e
    refine ⟨ι3, ρ, M3, S.ext x13 r3, c, M4, e4, fun z H4 ι4 x4 r4 rc => ?_⟩
    exact ⟨ι4, M4, b, c, r4, (rb.ext r2 x3).ext r3 x4, rc, d, M', e, fun v H5 ι5 x5 r5 rd => q v H5 ι5 ((x13.trans r3 x4).trans r4 x5) r5 rd⟩
  · cases rd
    cases e
    exact ⟨false, rfl, iteF (q _ H3 ι3 x13 r3 (.bl _))⟩
  · cases e
theorem p_chain {op op' : CmpOp} {g g' : D → D → Mem → Out D} (ho : OpR X (compareOp op) (rD Γ g)) (ho' : OpR X (compareOp op') (rD Γ g')) (ha : PE X a (tE Γ ma)) (hb : PE X b (tE Γ mb)) (hc : PE X c (tE Γ mc))
    (hm : lastMarks [op, op'] [b, c] = false := by with_unfolding_all rfl) : PE X (.Compare a [op, op'] [b, c] pos) (tE Γ (eChain g g' ma mb mc)) :=
  PE.of (pe_chain ho ho' ha hb hc hm) fun _ _ _ h => chain_go h
end

/-! ### which answers are truths -/
theorem b_gEq (a b : D) (M : Mem) (d : D) (M' : Mem) (h : gEq a b M = some (d, M')) : ∃ k, d = .bl k := by
  obtain ⟨r, _, e⟩ := Option.map_eq_some_iff.mp h
  cases e; exact ⟨_, rfl⟩
theorem b_gNe (a b : D) (M : Mem) (d : D) (M' : Mem) (h : gNe a b M = some (d, M')) : ∃ k, d = .bl k := by
  obtain ⟨r, _, e⟩ := Option.map_eq_some_iff.mp h
  cases e; exact ⟨_, rfl⟩
theorem b_gLt (a b : D) (M : Mem) (d : D) (M' : Mem) (h : gLt a b M = some (d, M')) : ∃ k, d = .bl k := by
  obtain ⟨r, _, e⟩ := Option.map_eq_some_iff.mp h
  cases e; exact ⟨_, rfl⟩
theorem b_gIn (a b : D) (M : Mem) (d : D) (M' : Mem) (h : gIn a b M = some (d, M')) : ∃ k, d = .bl k := by
  obtain ⟨r, _, e⟩ := Option.map_eq_some_iff.mp h
  cases e; exact ⟨_, rfl⟩
theorem b_gNotIn (a b : D) (M : Mem) (d : D) (M' : Mem) (h : gNotIn a b M = some (d, M')) : ∃ k, d = .bl k := by
  obtain ⟨r, _, e⟩ := Option.map_eq_some_iff.mp h
  cases e; exact ⟨_, rfl⟩
theorem b_gLe (a b : D) (M : Mem) (d : D) (M' : Mem) (h : gLe a b M = some (d, M')) : ∃ k, d = .bl k := by
  unfold gLe at h
  split at h
  · cases h; exact ⟨_, rfl⟩
  · cases h
theorem b_gGt (a b : D) (M : Mem) (d : D) (M' : Mem) (h : gGt a b M = some (d, M')) : ∃ k, d = .bl k := by
  unfold gGt at h
  split at h
  · cases h; exact ⟨_, rfl⟩
  · cases h
theorem b_gGe (a b : D) (M : Mem) (d : D) (M' : Mem) (h : gGe a b M = some (d, M')) : ∃ k, d = .bl k := by
  unfold gGe at h
  split at h
  · cases h; exact ⟨_, rfl⟩
  · cases h

/-! ### is None; a minus -/
def eIsN (m : Ev) : Ev := fun ρ M => bnd (m ρ M) fun d M1 => some (.bl (isN d), M1)
def eNotN (m : Ev) : Ev := fun ρ M => bnd (m ρ M) fun d M1 => some (.bl (!isN d), M1)
def eNeg (m : Ev) : Ev := fun ρ M => bnd (m ρ M) fun d M1 => match d with
  | .int i => some (.int (-i), M1)
  | _ => none
section
variable {Γ : Ga} {X : Cx} {a : Expr} {ma : Ev} {pos pos' : Pos} {j : Nat}
theorem isN_go {σ : St} {H : Hp} {Q : VK} (h : tE Γ (eIsN ma) σ H Q) : tIsN (tE Γ ma) σ H Q := by
  obtain ⟨ι, ρ, M, S, d, M', e, q⟩ := h
  obtain ⟨a, M1, e1, e⟩ := bnd_inv e
  cases e
  refine ⟨ι, ρ, M, S, a, _, e1, fun v H' ι' x1 r1 rd => ?_⟩
  show Q (.bl (decide (v = .non))) H'
  rw [isN_dec rd]
  exact q _ H' ι' x1 r1 (.bl _)
theorem notN_go {σ : St} {H : Hp} {Q : VK} (h : tE Γ (eNotN ma) σ H Q) : tNotN (tE Γ ma) σ H Q := by
  obtain ⟨ι, ρ, M, S, d, M', e, q⟩ := h
  obtain ⟨a, M1, e1, e⟩ := bnd_inv e
  cases e
  refine ⟨ι, ρ, M, S, a, _, e1, fun v H' ι' x1 r1 rd => ?_⟩
  show Q (.bl (!decide (v = .non))) H'
  rw [isN_dec rd]
  exact q _ H' ι' x1 r1 (.bl _)
theorem p_isN (ha : PE X a (tE Γ ma)) : PE X (.Compare a [.Is] [.Constant .none j pos'] pos) (tE Γ (eIsN ma)) := PE.of (pe_cmp (pc_isN ha) rfl) fun _ _ _ h => isN_go h
theorem p_notN (ha : PE X a (tE Γ ma)) : PE X (.Compare a [.IsNot] [.Constant .none j pos'] pos) (tE Γ (eNotN ma)) := PE.of (pe_cmp (pc_notN ha) rfl) fun _ _ _ h => notN_go h
theorem x_isN (ha : PE X a (tE Γ ma)) : PT X (.Compare a [.Is] [.Constant .none j pos'] pos) (tB Γ (xVal (eIsN ma))) := by
  refine PT.of (pt_cmp (pc_isN ha) rfl) fun σ H Q h => ?_
  obtain ⟨ι, ρ, M, S, r, M', e, q⟩ := h
  obtain ⟨d, M1, e1, e⟩ := bnd_inv e
  obtain ⟨r', e2, e3⟩ := Option.map_eq_some_iff.mp e
  cases e3
  refine isN_go ⟨ι, ρ, M, S, d, _, e1, fun v H' ι' x1 r1 rd => ?_⟩
  obtain ⟨_, M2, _, e4⟩ := bnd_inv e1
  cases e4
  cases rd
  cases e2
  exact ⟨_, rfl, q H' ι' x1 r1⟩
theorem x_notN (ha : PE X a (tE Γ ma)) : PT X (.Compare a [.IsNot] [.Constant .none j pos'] pos) (tB Γ (xVal (eNotN ma))) := by
  refine PT.of (pt_cmp (pc_notN ha) rfl) fun σ H Q h => ?_
  obtain ⟨ι, ρ, M, S, r, M', e, q⟩ := h
  obtain ⟨d, M1, e1, e⟩ := bnd_inv e
  obtain ⟨r', e2, e3⟩ := Option.map_eq_some_iff.mp e
  cases e3
  refine notN_go ⟨ι, ρ, M, S, d, _, e1, fun v H' ι' x1 r1 rd => ?_⟩
  obtain ⟨_, M2, _, e4⟩ := bnd_inv e1
  cases e4
  cases rd
  cases e2
  exact ⟨_, rfl, q H' ι' x1 r1⟩
theorem p_neg (ha : PE X a (tE Γ ma)) : PE X (.UnaryOp .USub a pos) (tE Γ (eNeg ma)) := by
  refine PE.of (pe_un un_neg ha) fun σ H Q h => ?_
  obtain ⟨ι, ρ, M, S, d, M', e, q⟩ := h
  obtain ⟨a, M1, e1, e⟩ := bnd_inv e
  split at e
  · cases e
    refine ⟨ι, ρ, M, S, _, _, e1, fun v H' ι' x1 r1 rd => ?_⟩
    cases rd
    exact ⟨_, rfl, q _ H' ι' x1 r1 (.int _)⟩
  · cases e
end
end Nl

set_option autoImplicit false
/-! Nl, part D: displays, fields, items, slices, calls of what is built in. -/
namespace Nl
open PySem L2

/-! ### argument lists -/
def eArgs : List Ev → Evs
  | [] => fun _ M => some ([], M)
  | m :: ms => fun ρ M => bnd (m ρ M) fun d M1 => bnd (eArgs ms ρ M1) fun ds M2 => some (d :: ds, M2)
@[simp] theorem eArgs_nil (ρ : Rho) (M : Mem) : eArgs [] ρ M = some ([], M) := rfl
@[simp] theorem eArgs_cons (m : Ev) (ms : List Ev) (ρ : Rho) (M : Mem) : eArgs (m :: ms) ρ M = bnd (m ρ M) fun d M1 => bnd (eArgs ms ρ M1) fun ds M2 => some (d :: ds, M2) := rfl
theorem eArgs_len : ∀ {ms : List Ev} {ρ : Rho} {M M' : Mem} {ds : List D}, eArgs ms ρ M = some (ds, M') → ds.length = ms.length
  | [], _, _, _, _, e => by cases e; rfl
  | m :: ms, _, _, _, _, e => by
    obtain ⟨d, M1, _, e⟩ := bnd_inv e
    obtain ⟨ds, M2, e2, e⟩ := bnd_inv e
    cases e
    exact congrArg Nat.succ (eArgs_len e2)
section
variable {Γ : Ga} {X : Cx} {e : Expr} {es : List Expr} {m : Ev} {ms : List Ev}
theorem a_nil : PA X [] (tL Γ (eArgs [])) := by
  refine PA.of pa_nil fun σ H Q h => ?_
  obtain ⟨ι, ρ, M, S, d, M', e, q⟩ := h
  cases e
  exact q [] H ι (Ext.refl _ _ _) S.m .nil
theorem a_cons (ha : PE X e (tE Γ m)) (hr : PA X es (tL Γ (eArgs ms))) (hs : starEach (e :: es) X.env = (false, eval e X.env) :: starEach es X.env := by rfl) : PA X (e :: es) (tL Γ (eArgs (m :: ms))) := by
  refine PA.of (pa_cons ha hr hs) fun σ H Q h => ?_
  obtain ⟨ι, ρ, M, S, d, M', e, q⟩ := h
  obtain ⟨d1, M1, e1, e⟩ := bnd_inv e
  obtain ⟨ds, M2, e2, e⟩ := bnd_inv e
  cases e
  refine ⟨ι, ρ, M, S, d1, M1, e1, fun v H1 ι1 x1 r1 rd => ⟨ι1, ρ, M1, S.ext x1 r1, ds, _, e2, fun vs H2 ι2 x2 r2 rl => ?_⟩⟩
  exact q _ H2 ι2 (x1.trans r1 x2) r2 (.cons (rd.ext r1 x2) rl)
end

/-! ### displays -/
def eTup (ms : List Ev) : Ev := fun ρ M => bnd (eArgs ms ρ M) fun ds M1 => some (.tup ds, M1)
def eLst (ms : List Ev) : Ev := fun ρ M => bnd (eArgs ms ρ M) fun ds M1 => some (.ref M1.sz, M1.new (.lst ds))
def eDnK : Ev := fun _ M => some (.ref M.sz, M.new (.dct []))
def eDnT : Ev := fun _ M => some (.ref M.sz, M.new (.dtt []))
section
variable {Γ : Ga} {X : Cx} {es : List Expr} {ms : List Ev} {pos : Pos}
theorem p_tup {x1} (h : PA X es (tL Γ (eArgs ms))) (hl : ms.length ≤ 1000 := by exact Nat.le_of_ble_eq_true rfl) : PE X (.Tuple es x1 pos) (tE Γ (eTup ms)) := by
  refine PE.of (pe_tup h) fun σ H Q h => ?_
  obtain ⟨ι, ρ, M, S, d, M', e, q⟩ := h
  obtain ⟨ds, M1, e1, e⟩ := bnd_inv e
  cases e
  refine ⟨ι, ρ, M, S, ds, _, e1, fun vs H1 ι1 x1 r1 rl => ⟨?_, new_tup r1 rl fun v H' ι' x2 r2 rd => q v H' ι' (x1.trans r1 x2) r2 rd⟩⟩
  rw [← rl.length, eArgs_len e1, sizeLine_eq]; omega
theorem p_lst (h : PA X es (tL Γ (eArgs ms))) (hl : ms.length ≤ 1000 := by exact Nat.le_of_ble_eq_true rfl) : PE X (.List es pos) (tE Γ (eLst ms)) := by
  refine PE.of (pe_lst h) fun σ H Q h => ?_
  obtain ⟨ι, ρ, M, S, d, M', e, q⟩ := h
  obtain ⟨ds, M1, e1, e⟩ := bnd_inv e
  cases e
  refine ⟨ι, ρ, M, S, ds, _, e1, fun vs H1 ι1 x1 r1 rl => ⟨?_, new_list r1 rl fun v H' ι' x2 r2 rd => q v H' ι' (x1.trans r1 x2) r2 rd⟩⟩
  rw [← rl.length, eArgs_len e1, sizeLine_eq]; omega
/-- any new object -/
theorem new_any {Γ : Ga} {ι : Nat → Addr} {M : Mem} {H : Hp} {ob : O} {o : HO} {Q : VK} (r : RM Γ ι M H) (h : ∀ p, H p = none → RO Γ (more ι M.sz p) (M.sz + 1) (upd H p o) p ob)
    (q : ∀ v H' ι', Ext ι ι' M.sz (M.new ob).sz H H' → RM Γ ι' (M.new ob) H' → R Γ ι' (M.new ob).sz H' (.ref M.sz) v → Q v H') :
    ∀ p, H p = none → Q (.ref p) (upd H p o) := fun p hp => by
  refine q (.ref p) _ (more ι M.sz p) ?_ (r.laid hp (h p hp)) ?_
  · rw [Mem.sz_new]; exact Ext.more hp
  · rw [Mem.sz_new]
    have e : p = more ι M.sz p M.sz := more_same.symm
    exact (congrArg (fun z => R Γ (more ι M.sz p) (M.sz + 1) (upd H p o) (.ref M.sz) (.ref z)) e).mpr (R.ref (Nat.lt_succ_self _))
theorem p_dnK : PE X (.Dict [] [] pos) (tE Γ eDnK) := by
  refine PE.of pe_dnewK fun σ H Q h => ?_
  obtain ⟨ι, ρ, M, S, d, M', e, q⟩ := h
  cases e
  exact new_any (o := .dK []) (ob := .dct []) S.m (fun p hp => ⟨[], upd_same, .nil⟩) q
theorem p_dnT : PE X (.Dict [] [] pos) (tE Γ eDnT) := by
  refine PE.of pe_dnewT fun σ H Q h => ?_
  obtain ⟨ι, ρ, M, S, d, M', e, q⟩ := h
  cases e
  exact new_any (o := .dT []) (ob := .dtt []) S.m (fun p hp => ⟨[], upd_same, .nil⟩) q
end

/-! ### an object that is made beside, then taken into the memory -/
section
variable {Γ : Ga} {ι ι1 : Nat → Addr} {M M1 : Mem} {H H1 : Hp} {p : Addr} {o o0 : HO}
theorem side_ne (rm : RM Γ ι M H) (hp : H p = none) (x : Ext ι ι1 M.sz M1.sz (upd H p o0) H1) : ∀ n, n < M1.sz → ι1 n ≠ p := fun n hn e => by
  by_cases h2 : n < M.sz
  · rw [x.ag n h2] at e
    exact rm.there h2 (by rw [e]; exact hp)
  · have z := x.new n (Nat.not_lt.mp h2) hn
    rw [e, upd_same] at z
    cases z
theorem side_at (rm : RM Γ ι M H) (hp : H p = none) (x : Ext ι ι1 M.sz M1.sz (upd H p o0) H1) : H1 p = some o0 := x.keep p _ upd_same fun n hn e => rm.there hn (by rw [e]; exact hp)
theorem side_ext (rm : RM Γ ι M H) (hp : H p = none) (x : Ext ι ι1 M.sz M1.sz (upd H p o0) H1) : Ext ι (more ι1 M1.sz p) M.sz (M1.sz + 1) H (upd H1 p o) where
  le := Nat.le_succ_of_le x.le
  ag := fun n hn => (more_lt (Nat.lt_of_lt_of_le hn x.le)).trans (x.ag n hn)
  new := fun n h1 h2 => by
    by_cases h : n = M1.sz
    · rw [h, more_same]; exact hp
    · have lt : n < M1.sz := by omega
      rw [more_lt lt]
      have z := x.new n h1 lt
      rw [upd_ne (side_ne rm hp x n lt)] at z
      exact z
  keep := fun a u h hne => by
    have na : a ≠ p := ne_of_none h hp
    rw [upd_ne na]
    exact x.keep a u (by rw [upd_ne na]; exact h) hne
theorem RM.side (r : RM Γ ι M H) (hne : ∀ n, n < M.sz → ι n ≠ p) (lo : Loose (H p)) : RM Γ ι M (upd H p o) where
  ob := fun n ob h => by
    refine ro_mono (Nat.le_refl _) (fun _ _ => rfl) (fun a u h1 nl => ?_) (upd_ne (hne n (Mem.get_lt h))) (r.ob n ob h)
    rw [upd_ne fun e => nl (by rw [e]; exact lo)]; exact h1
  inj := r.inj
theorem keep_side (lo : Loose (H p)) : ∀ a u, H a = some u → ¬ Loose (H a) → upd H p o a = some u := fun a u h1 nl => by
  rw [upd_ne fun e => nl (by rw [e]; exact lo)]; exact h1
theorem R.late {d : D} {v : V} (h : R Γ ι M.sz H d v) (lo : Loose (H p)) : R Γ (Nl.more ι M.sz p) (M.sz + 1) (L2.upd H p o) d v := R.mono (Nat.le_succ _) (fun n hn => more_lt hn) (keep_side lo) _ _ h
theorem RL.late {d : List D} {v : List V} (h : RL Γ ι M.sz H d v) (lo : Loose (H p)) : RL Γ (Nl.more ι M.sz p) (M.sz + 1) (L2.upd H p o) d v := RL.mono (Nat.le_succ _) (fun n hn => more_lt hn) (keep_side lo) _ _ h
theorem RK.late {κ : Type} {d : List (κ × D)} {v : List (κ × V)} (h : RK Γ ι M.sz H d v) (lo : Loose (H p)) : RK Γ (Nl.more ι M.sz p) (M.sz + 1) (L2.upd H p o) d v := RK.mono (Nat.le_succ _) (fun n hn => more_lt hn) (keep_side lo) h
theorem ref_more {N : Nat} : R Γ (Nl.more ι N p) (N + 1) H (.ref N) (.ref p) := by
  have e : p = more ι N p N := more_same.symm
  exact (congrArg (fun z => R Γ (Nl.more ι N p) (N + 1) H (.ref N) (.ref z)) e).mpr (R.ref (Nat.lt_succ_self _))
end

/-! ### dicts: what is found, what is put -/
def findK {κ : Type} [DecidableEq κ] (kvs : List (κ × D)) (k : κ) : Option D := (kvs.find? fun p => decide (p.1 = k)).map (·.2)
def putD {κ : Type} [DecidableEq κ] (kvs : List (κ × D)) (k : κ) (d : D) : List (κ × D) := if hasK kvs k = true then kvs.map (fun p => if p.1 = k then (p.1, d) else p) else kvs ++ [(k, d)]
section
variable {κ : Type} [DecidableEq κ] {Γ : Ga} {ι : Nat → Addr} {N : Nat} {H : Hp}
theorem findK_ok {k : κ} : ∀ {ds : List (κ × D)} {vs : List (κ × V)}, RK Γ ι N H ds vs → ∀ d, findK ds k = some d → ∃ v, valV vs k = some v ∧ R Γ ι N H d v
  | _, _, .nil, d, e => by cases e
  | _, _, .cons (k := j) (d := d0) (v := v0) (ds := ds) (vs := vs) r t, d, e => by
    unfold findK at e
    rw [List.find?_cons] at e
    by_cases hj : j = k
    · simp only [hj, decide_true] at e
      cases e
      exact ⟨v0, valV_pos (p := (j, v0)) hj, r⟩
    · simp only [hj, decide_false] at e
      obtain ⟨v, h1, h2⟩ := findK_ok (k := k) t d e
      exact ⟨v, by rw [valV_neg (p := (j, v0)) hj]; exact h1, h2⟩
theorem findK_none {k : κ} : ∀ {ds : List (κ × D)} {vs : List (κ × V)}, RK Γ ι N H ds vs → findK ds k = none → valV vs k = none
  | _, _, .nil, e => rfl
  | _, _, .cons (k := j) (d := d0) (v := v0) (ds := ds) (vs := vs) r t, e => by
    unfold findK at e
    rw [List.find?_cons] at e
    by_cases hj : j = k
    · simp [hj] at e
    · simp only [hj, decide_false] at e
      rw [valV_neg (p := (j, v0)) hj]
      exact findK_none (k := k) t e
theorem RK.append : ∀ {ds es : List (κ × D)} {vs ws : List (κ × V)}, RK Γ ι N H ds vs → RK Γ ι N H es ws → RK Γ ι N H (ds ++ es) (vs ++ ws)
  | _, _, _, _, .nil, s => s
  | _, _, _, _, .cons r t, s => .cons r (RK.append t s)
theorem RK.length : ∀ {ds : List (κ × D)} {vs : List (κ × V)}, RK Γ ι N H ds vs → ds.length = vs.length
  | _, _, .nil => rfl
  | _, _, .cons _ t => congrArg Nat.succ (RK.length t)
theorem RK.repl {k : κ} {d : D} {v : V} (r : R Γ ι N H d v) : ∀ {ds : List (κ × D)} {vs : List (κ × V)}, RK Γ ι N H ds vs → RK Γ ι N H (ds.map fun p => if p.1 = k then (p.1, d) else p) (vs.map fun p => if p.1 = k then (p.1, v) else p)
  | _, _, .nil => .nil
  | _, _, .cons (k := j) (d := d0) (v := v0) (ds := ds) (vs := vs) q t => by
    rw [List.map_cons, List.map_cons]
    by_cases hj : j = k
    · rw [if_pos hj, if_pos hj]; exact .cons r (RK.repl r t)
    · rw [if_neg hj, if_neg hj]; exact .cons q (RK.repl r t)
theorem putD_ok {k : κ} {d : D} {v : V} {ds : List (κ × D)} {vs : List (κ × V)} (t : RK Γ ι N H ds vs) (r : R Γ ι N H d v) : RK Γ ι N H (putD ds k d) (putK vs k v) := by
  unfold putD putK
  rw [← hasK_ok t]
  split
  · exact t.repl r
  · exact t.append (.cons r .nil)
end
/-- names and values -/
theorem lookup_ok {Γ : Ga} {ι : Nat → Addr} {N : Nat} {H : Hp} {f : Str} : ∀ {ds : List (Str × D)} {vs : List (Str × V)}, RK Γ ι N H ds vs → ∀ d, ds.lookup f = some d → ∃ v, vs.lookup f = some v ∧ R Γ ι N H d v
  | _, _, .nil, d, e => by cases e
  | _, _, .cons (k := j) (d := d0) (v := v0) (ds := ds) (vs := vs) r t, d, e => by
    rw [List.lookup_cons] at e ⊢
    split at e
    · cases e; exact ⟨v0, rfl, r⟩
    · exact lookup_ok t d e
theorem lookup_no {Γ : Ga} {ι : Nat → Addr} {N : Nat} {H : Hp} {f : Str} : ∀ {ds : List (Str × D)} {vs : List (Str × V)}, RK Γ ι N H ds vs → ds.lookup f = none → vs.lookup f = none
  | _, _, .nil, e => rfl
  | _, _, .cons (k := j) (d := d0) (v := v0) (ds := ds) (vs := vs) r t, e => by
    rw [List.lookup_cons] at e ⊢
    split at e
    · cases e
    · exact lookup_no t e
def putN (f : Str) (v : D) : List (Str × D) → List (Str × D)
  | [] => [(f, v)]
  | (g, x) :: r => if g = f then (g, v) :: r else (g, x) :: putN f v r
theorem putN_ok {Γ : Ga} {ι : Nat → Addr} {N : Nat} {H : Hp} {f : Str} {d : D} {v : V} (r : R Γ ι N H d v) : ∀ {ds : List (Str × D)} {vs : List (Str × V)}, RK Γ ι N H ds vs → RK Γ ι N H (putN f d ds) (putF f v vs)
  | _, _, .nil => .cons r .nil
  | _, _, .cons (k := j) (d := d0) (v := v0) (ds := ds) (vs := vs) q t => by
    rw [putN, putF]
    by_cases hj : j = f
    · rw [if_pos hj, if_pos hj]; exact .cons r t
    · rw [if_neg hj, if_neg hj]; exact .cons q (putN_ok r t)

/-! ### {k: v, ..} -/
def eKeys : List (Ev × Ev) → Rho → Mem → Out (List (Key × D))
  | [] => fun _ M => some ([], M)
  | (mk, mv) :: r => fun ρ M => bnd (mk ρ M) fun a M1 => bnd (mv ρ M1) fun b M2 => match keyD a with
    | some k => bnd (eKeys r ρ M2) fun ps M3 => some ((k, b) :: ps, M3)
    | none => none
def mergeD (kvs more : List (Key × D)) : List (Key × D) := more.foldl (fun acc kv => putD acc kv.1 kv.2) kvs
def eDisp (ms : List (Ev × Ev)) : Ev := fun ρ M => bnd (eKeys ms ρ M) fun ps M1 => some (.ref M1.sz, M1.new (.dct (mergeD [] ps)))
theorem eKeys_len : ∀ {ms : List (Ev × Ev)} {ρ : Rho} {M M' : Mem} {ps : List (Key × D)}, eKeys ms ρ M = some (ps, M') → ps.length = ms.length
  | [], _, _, _, _, e => by cases e; rfl
  | (mk, mv) :: ms, _, _, _, _, e => by
    obtain ⟨a, M1, _, e⟩ := bnd_inv e
    obtain ⟨b, M2, _, e⟩ := bnd_inv e
    split at e
    · obtain ⟨ps, M3, e3, e⟩ := bnd_inv e
      cases e
      exact congrArg Nat.succ (eKeys_len e3)
    · cases e
theorem keyD_ok {Γ : Ga} {ι : Nat → Addr} {N : Nat} {H : Hp} {d : D} {v : V} {k : Key} (r : R Γ ι N H d v) (e : keyD d = some k) : v = kV k := by
  unfold keyD at e
  split at e
  · cases r; cases e; rfl
  · cases r; cases e; rfl
  · cases e
theorem mergeD_ok {Γ : Ga} {ι : Nat → Addr} {N : Nat} {H : Hp} : ∀ {ds : List (Key × D)} {vs : List (Key × V)}, RK Γ ι N H ds vs → ∀ {as : List (Key × D)} {bs : List (Key × V)}, RK Γ ι N H as bs → RK Γ ι N H (mergeD as ds) (mergeK bs vs)
  | _, _, .nil, _, _, q => q
  | _, _, .cons r t, _, _, q => mergeD_ok t (putD_ok q r)
section
variable {Γ : Ga} {X : Cx} {pos : Pos}
def tTs (Γ : Ga) (ms : List (Ev × Ev)) : List (TE × TE) := ms.map fun p => (tE Γ p.1, tE Γ p.2)
theorem pairs_go : ∀ {ms : List (Ev × Ev)} {σ : St} {H : Hp} {Q : List (V × V) → Hp → Prop} {ι : Nat → Addr} {ρ : Rho} {M M' : Mem} {ps : List (Key × D)}, Sim Γ ι M H ρ σ → eKeys ms ρ M = some (ps, M') →
    (∀ (vs : List (Key × V)) H' ι', Ext ι ι' M.sz M'.sz H H' → RM Γ ι' M' H' → RK Γ ι' M'.sz H' ps vs → Q (vs.map fun kv => (kV kv.1, kv.2)) H') → tPairs (tTs Γ ms) σ H Q
  | [], σ, H, Q, ι, ρ, M, M', ps, S, e, q => by
    cases e
    exact q [] H ι (Ext.refl _ _ _) S.m .nil
  | (mk, mv) :: ms, σ, H, Q, ι, ρ, M, M', ps, S, e, q => by
    obtain ⟨a, M1, e1, e⟩ := bnd_inv e
    obtain ⟨b, M2, e2, e⟩ := bnd_inv e
    split at e
    · rename_i k hk
      obtain ⟨ps', M3, e3, e⟩ := bnd_inv e
      cases e
      refine ⟨ι, ρ, M, S, a, M1, e1, fun x H1 ι1 x1 r1 ra => ⟨ι1, ρ, M1, S.ext x1 r1, b, M2, e2, fun y H2 ι2 x2 r2 rb => ?_⟩⟩
      have x12 := x1.trans r1 x2
      refine pairs_go (ms := ms) (S.ext x12 r2) e3 fun vs H3 ι3 x3 r3 rk => ?_
      have hx := keyD_ok ra hk
      subst hx
      exact q ((k, y) :: vs) H3 ι3 (x12.trans r2 x3) r3 (.cons (rb.ext r2 x3) rk)
    · cases e
theorem q_nil : PPs X pos [] [] (tTs Γ []) := pps_nil
theorem q_cons {k v : Expr} {ks : List (Option Expr)} {vs : List Expr} {mk mv : Ev} {ms : List (Ev × Ev)} (hk : PE X k (tE Γ mk)) (hv : PE X v (tE Γ mv)) (hr : PPs X pos ks vs (tTs Γ ms)) : PPs X pos (some k :: ks) (v :: vs) (tTs Γ ((mk, mv) :: ms)) := pps_cons hk hv hr
theorem p_disp {keys : List (Option Expr)} {values : List Expr} {ms : List (Ev × Ev)} (h : PPs X pos keys values (tTs Γ ms)) (h15 : ms.length ≤ 15 := by exact Nat.le_of_ble_eq_true rfl) (hall : keys.all (·.isSome) = true := by rfl) (hl : keys.length = values.length := by rfl)
    (h0 : keys ≠ [] := by intro z; cases z) (h15' : keys.length ≤ 15 := by exact Nat.le_of_ble_eq_true rfl) : PE X (.Dict keys values pos) (tE Γ (eDisp ms)) := by
  refine PE.of (pe_disp h hall hl h0 h15') fun σ H Q h => ?_
  obtain ⟨ι, ρ, M, S, d, M', e, q⟩ := h
  obtain ⟨ps, M1, e1, e⟩ := bnd_inv e
  cases e
  intro p hp
  have S1 : Sim Γ ι M (upd H p (.dK [])) ρ σ := S.ext (M' := M) (Ext.junk hp) (S.m.junk hp)
  refine pairs_go S1 e1 fun vs H1 ι1 x1 r1 rk => ?_
  have hn := side_ne S.m hp x1
  have hH := side_at S.m hp x1
  refine ⟨hH, vs, rfl, by rw [← rk.length, eKeys_len e1]; exact h15, ?_⟩
  have lo : Loose (H1 p) := by rw [hH]; trivial
  refine q (.ref p) _ (more ι1 M1.sz p) ?_ ((r1.side hn lo).adopt hn ⟨_, upd_same, mergeD_ok (rk.late lo) .nil⟩) (by rw [Mem.sz_new]; exact ref_more)
  rw [Mem.sz_new]; exact side_ext S.m hp x1
end
end Nl

set_option autoImplicit false
/-! Nl, part E: fields, items, slices, targets. -/
namespace Nl
open PySem L2

/-- facts of the text that the rules lean on -/
structure Cf (Γ : Ga) : Prop where
  cl : ∀ c, Cls Γ.K (Γ.ca c)

/-! ### e.f -/
def eFld (f : Str) (m : Ev) : Ev := fun ρ M => bnd (m ρ M) fun d M1 => match d with
  | .ref n => match M1.get n with
    | some (.ins _ fs) => match fs.lookup f with
      | some v => some (v, M1)
      | none => none
    | _ => none
  | _ => none
section
variable {Γ : Ga} {X : Cx} {e : Expr} {f : Str} {pos : Pos} {m : Ev}
theorem p_fld (hK : X.K = Γ.K) (C : Cf Γ) (hn : ∀ c, NoAttr Γ.K (Γ.ca c) f) (he : PE X e (tE Γ m)) (hb : attributeBase e f X.env (eval e X.env) = eval e X.env := by rfl) : PE X (.Attribute e f pos) (tE Γ (eFld f m)) := by
  refine PE.of (pe_fld he hb) fun σ H Q h => ?_
  obtain ⟨ι, ρ, M, S, d, M', e, q⟩ := h
  obtain ⟨d1, M1, e1, e⟩ := bnd_inv e
  refine ⟨ι, ρ, M, S, d1, M1, e1, fun x H1 ι1 x1 r1 rd => ?_⟩
  split at e
  · cases rd
    split at e
    · rename_i c fs g
      split at e
      · rename_i v hv
        cases e
        obtain ⟨dx, xs, e2, rk⟩ := r1.ob _ _ g
        obtain ⟨w, e3, rw'⟩ := lookup_ok rk _ hv
        exact ⟨_, _, dx, xs, w, rfl, e2, by rw [hK]; exact C.cl c, by rw [hK]; exact hn c, e3, q w H1 ι1 x1 r1 rw'⟩
      · cases e
    · cases e
  · cases e
end

/-! ### e[i] -/
def gIx : D → D → Mem → Out D
  | .tup ds, .int i, M => (atI ds i).map fun d => (d, M)
  | .rol xs, .int i, M => (atI xs i).map fun d => (.int d, M)
  | .str z, .int i, M => if z.length ≤ sizeLine then (atI z.cps.toList i).map fun c => (.str ⟨#[c]⟩, M) else none
  | .ref n, y, M => match M.get n with
    | some (.lst ds) => match y with
      | .int i => (atI ds i).map fun d => (d, M)
      | _ => none
    | some (.dct kvs) => match keyD y with
      | some k => (findK kvs k).map fun d => (d, M)
      | none => none
    | some (.lck kvs) => match keyD y with
      | some k => (findK kvs k).map fun d => (d, M)
      | none => none
    | _ => none
  | _, _, _ => none
section
variable {Γ : Ga} {X : Cx}
theorem atI_ok {ι : Nat → Addr} {N : Nat} {H : Hp} {ds : List D} {vs : List V} {i : Int} {d : D} (r : RL Γ ι N H ds vs) (e : atI ds i = some d) : ∃ v, atI vs i = some v ∧ R Γ ι N H d v := by
  unfold atI at e ⊢
  rw [r.length] at e
  obtain ⟨j, h1, h2⟩ := Option.bind_eq_some_iff.mp e
  obtain ⟨v, h3, h4⟩ := r.get h2
  exact ⟨v, by rw [h1]; exact h3, h4⟩
theorem atI_map {α β : Type} (f : α → β) {xs : List α} {i : Int} {a : α} (e : atI xs i = some a) : atI (xs.map f) i = some (f a) := by
  unfold atI at e ⊢
  rw [List.length_map]
  obtain ⟨j, h1, h2⟩ := Option.bind_eq_some_iff.mp e
  rw [h1]
  show (xs.map f)[j]? = _
  rw [List.getElem?_map, h2]
  rfl
variable {a b : Expr} {ma mb : Ev} {pos : Pos}
theorem gIx_go {ι : Nat → Addr} {M : Mem} {H : Hp} {a b d : D} {x y : V} {M' : Mem} (rm : RM Γ ι M H) (ra : R Γ ι M.sz H a x) (rb : R Γ ι M.sz H b y) (e : gIx a b M = some (d, M')) :
    M' = M ∧ ∃ v, R Γ ι M.sz H d v ∧ ((∃ p xs i, x = .ref p ∧ y = .int i ∧ SqL Γ.K H p xs ∧ atI xs i = some v) ∨ (∃ p xs i, x = .ref p ∧ y = .int i ∧ SqT Γ.K H p xs ∧ atI xs i = some v) ∨
      (∃ z i c, x = .str z ∧ y = .int i ∧ z.length ≤ sizeLine ∧ atI z.cps.toList i = some c ∧ v = .str ⟨#[c]⟩) ∨ ∃ p, x = .ref p ∧ DGet H p y (some v)) := by
  unfold gIx at e
  split at e
  · cases rb
    cases ra with
    | tup hs rl =>
      obtain ⟨d', h1, h2⟩ := Option.map_eq_some_iff.mp e
      cases h2
      obtain ⟨v, h3, h4⟩ := atI_ok rl h1
      exact ⟨rfl, v, h4, .inr (.inl ⟨_, _, _, rfl, rfl, hs, h3⟩)⟩
  · cases rb
    cases ra with
    | rol hs =>
      obtain ⟨d', h1, h2⟩ := Option.map_eq_some_iff.mp e
      cases h2
      exact ⟨rfl, _, .int _, .inl ⟨_, _, _, rfl, rfl, hs.sq, atI_map V.int h1⟩⟩
  · cases rb
    cases ra
    split at e
    · rename_i hz
      obtain ⟨d', h1, h2⟩ := Option.map_eq_some_iff.mp e
      cases h2
      exact ⟨rfl, _, .str _, .inr (.inr (.inl ⟨_, _, _, rfl, rfl, hz, h1, rfl⟩))⟩
    · cases e
  · cases ra
    split at e
    · rename_i g
      obtain ⟨vs, e1, rl⟩ := rm.ob _ _ g
      split at e
      · cases rb
        obtain ⟨d', h1, h2⟩ := Option.map_eq_some_iff.mp e
        cases h2
        obtain ⟨v, h3, h4⟩ := atI_ok rl h1
        exact ⟨rfl, v, h4, .inl ⟨_, _, _, rfl, rfl, SqL.of e1, h3⟩⟩
      · cases e
    · rename_i g
      obtain ⟨vs, e1, rk⟩ := rm.ob _ _ g
      split at e
      · rename_i k hk
        obtain ⟨d', h1, h2⟩ := Option.map_eq_some_iff.mp e
        cases h2
        obtain ⟨v, h3, h4⟩ := findK_ok rk _ h1
        exact ⟨rfl, v, h4, .inr (.inr (.inr ⟨_, rfl, .inl ⟨_, k, .inl e1, keyD_ok rb hk, h3.symm⟩⟩))⟩
      · cases e
    · rename_i g
      obtain ⟨od, vs, e1, rk⟩ := rm.ob _ _ g
      split at e
      · rename_i k hk
        obtain ⟨d', h1, h2⟩ := Option.map_eq_some_iff.mp e
        cases h2
        obtain ⟨v, h3, h4⟩ := findK_ok rk _ h1
        exact ⟨rfl, v, h4, .inr (.inr (.inr ⟨_, rfl, .inl ⟨_, k, .inr ⟨_, e1⟩, keyD_ok rb hk, h3.symm⟩⟩))⟩
      · cases e
    · cases e
  · cases e
theorem p_ix (hK : X.K = Γ.K) (hu : X.A.units + 1 < cLine) (ha : PE X a (tE Γ ma)) (hb : PE X b (tE Γ mb)) (hs : PlainIx b := by intro _ _; rfl) : PE X (.Subscript a b pos) (tE Γ (eOp gIx ma mb)) := by
  refine ⟨fun pins s σ H Q I h => ?_⟩
  obtain ⟨ι, ρ, M, S, d, M', e, q⟩ := h
  obtain ⟨a', M1, e1, e⟩ := bnd_inv e
  obtain ⟨b', M2, e2, e⟩ := bnd_inv e
  refine PyProof.Rows.Subscript_ (binT (R := fun x y H2 => ∃ v, Q v H2 ∧ ((∃ p xs i, x = .ref p ∧ y = .int i ∧ SqL X.K H2 p xs ∧ atI xs i = some v) ∨ (∃ p xs i, x = .ref p ∧ y = .int i ∧ SqT X.K H2 p xs ∧ atI xs i = some v) ∨
      (∃ z i c, x = .str z ∧ y = .int i ∧ z.length ≤ sizeLine ∧ atI z.cps.toList i = some c ∧ v = .str ⟨#[c]⟩) ∨ ∃ p, x = .ref p ∧ DGet H2 p y (some v))) ha hb I ?_ fun v u s2 x y H2 I2 rx ry hv => ?_)
  · refine ⟨ι, ρ, M, S, a', M1, e1, fun x H1 ι1 x1 r1 ra => ⟨ι1, ρ, M1, S.ext x1 r1, b', M2, e2, fun y H2 ι2 x2 r2 rb => ?_⟩⟩
    obtain ⟨hM, v, hv, w⟩ := gIx_go r2 (ra.ext r1 x2) rb e
    subst hM
    exact ⟨v, q v H2 ι2 (x1.trans r1 x2) r2 hv, by rw [hK]; exact w⟩
  · obtain ⟨w, fin, h⟩ := hv
    rcases h with ⟨p, xs, i, rfl, rfl, h1, h2⟩ | ⟨p, xs, i, rfl, rfl, h1, h2⟩ | ⟨z, i, c, rfl, rfl, h1, h2, rfl⟩ | ⟨p, rfl, h1⟩
    · exact ix_list a b pins s2 σ H2 _ _ v u Q I2 rx ry ⟨p, xs, i, w, rfl, rfl, h1, h2, fin⟩ (hs _ _)
    · exact ix_tup a b pins s2 σ H2 _ _ v u Q I2 rx ry ⟨p, xs, i, w, rfl, rfl, h1, h2, fin⟩ (hs _ _)
    · exact ix_str a b pins s2 σ H2 _ _ v u Q I2 rx ry ⟨z, i, c, rfl, rfl, h1, h2, fin⟩ (hs _ _)
    · cases rx
      refine PyProof.Rows.tail_any (dict_typeIs I2 h1) PySem.F.slot_dict_getitem.lookup ?_ (hs _ _)
      exact d_getItem hu I2 h1 ry fun w' s3 I3 rw' => ⟨w, H2, I3, rw', fin⟩
end

/-! ### e[a:b] -/
def ePart (m : Option Ev) : Rho → Mem → Out (Option Int) := match m with
  | none => fun _ M => some (none, M)
  | some m => fun ρ M => bnd (m ρ M) fun d M1 => match d with
    | .int i => some (some i, M1)
    | _ => none
def cutD {α : Type} (xs : List α) (lo hi : Option Int) : List α := (xs.drop (HT.sIx xs.length 0 lo)).take (HT.sIx xs.length xs.length hi - HT.sIx xs.length 0 lo)
def gSl (d : D) (lo hi : Option Int) (M : Mem) : Out D := match d with
  | .tup ds => some (.tup (cutD ds lo hi), M)
  | .rol xs => some (.ref M.sz, M.new (.lst ((cutD xs lo hi).map .int)))
  | .str z => if z.length ≤ sizeLine then some (.str (cutS z lo hi), M) else none
  | .ref n => match M.get n with
    | some (.lst ds) => some (.ref M.sz, M.new (.lst (cutD ds lo hi)))
    | _ => none
  | _ => none
def eSl (m : Ev) (lo hi : Option Ev) : Ev := fun ρ M => bnd (m ρ M) fun d M1 => bnd (ePart lo ρ M1) fun i M2 => bnd (ePart hi ρ M2) fun j M3 => gSl d i j M3
def tO (Γ : Ga) (m : Rho → Mem → Out (Option Int)) : TO := fun σ H Q => ∃ ι ρ M, Sim Γ ι M H ρ σ ∧ ∃ o M', m ρ M = some (o, M') ∧ ∀ H' ι', Ext ι ι' M.sz M'.sz H H' → RM Γ ι' M' H' → Q o H'
theorem cutD_map {α β : Type} (f : α → β) (xs : List α) (lo hi : Option Int) : (cutD xs lo hi).map f = cutD (xs.map f) lo hi := by
  unfold cutD
  rw [List.map_take, List.map_drop, List.length_map]
section
variable {Γ : Ga} {X : Cx} {e : Expr} {m : Ev} {pos p2 : Pos} {lo hi : Option Expr} {ml mh : Option Ev}
theorem o_none : PO X none (tO Γ (ePart none)) := by
  refine ⟨fun pins s σ H Q I h => po_none.run pins s σ H Q I ?_⟩
  obtain ⟨ι, ρ, M, S, o, M', e, q⟩ := h
  cases e
  exact q H ι (Ext.refl _ _ _) S.m
theorem o_some (he : PE X e (tE Γ m)) : PO X (some e) (tO Γ (ePart (some m))) := by
  refine ⟨fun pins s σ H Q I h => (po_some he).run pins s σ H Q I ?_⟩
  obtain ⟨ι, ρ, M, S, o, M', e, q⟩ := h
  obtain ⟨d, M1, e1, e⟩ := bnd_inv e
  split at e
  · cases e
    refine ⟨ι, ρ, M, S, _, _, e1, fun v H1 ι1 x1 r1 rd => ?_⟩
    cases rd
    exact ⟨_, rfl, q H1 ι1 x1 r1⟩
  · cases e
theorem RL.cut {ι : Nat → Addr} {N : Nat} {H : Hp} {ds : List D} {vs : List V} (r : RL Γ ι N H ds vs) (lo hi : Option Int) : RL Γ ι N H (cutD ds lo hi) (cutV vs lo hi) := by
  unfold cutD cutV
  rw [r.length]
  exact (r.drop _).take _
/-- the whole of a tuple is that tuple -/
theorem sl_whole {Γ : Ga} {X : Cx} {pins : List (Addr × Obj)} {s : Shared} {σ : St} {H : Hp} {a sl : Addr} {vl vu : Value} {lo hi : Option Int} {xs : List V} {Q : VK} (I : Inv X pins σ H s) (ht : SqT X.K H a xs) (hs : s.heap.IsSliceOf sl vl vu .none) (pl : IsPart vl lo) (pu : IsPart vu hi)
    (hw : HT.sIx xs.length 0 lo = 0 ∧ HT.sIx xs.length xs.length hi = xs.length) (q : Q (.ref a) H) : wpAny (model X.prog X.w) X.A (getItem (.ref a) (.ref sl)) (EP X pins σ Q) X.xe s := by
  obtain ⟨its, r, ht', hz⟩ := I.tuple ht
  have hlen : its.toArray.size = xs.length := by rw [List.size_toArray]; exact r.length.symm
  have fin : EP X pins σ Q (.ref a) s := ⟨.ref a, H, I, rfl, q⟩
  obtain ⟨os, hos, hcs, hds⟩ := id hs
  have ts : s.TypeIs (.ref sl) "slice" := ⟨os, hos, hcs⟩
  unfold getItem
  refine wpAny_holding ?_
  refine wpAny_bind (wpAny_sequenceKey ht'.typeIs (by decide) ?_)
  refine wpAny_bind (wpAny_callSpecial?_slot (name := Str.ofString "__getitem__") ht'.typeIs PyProof.Rows.slot_tuple_getitem (wpAny_call_entry PyProof.Rows.slot_tuple_getitem ht'.typeIs PyProof.Rows.entry_tuple_getitem ?_ (PyProof.Rows.args_tuple_getitem _ _)))
  show wpAny _ _ (Builtin.Tuple.tupleItemsOf (.ref a) >>= _) _ _ s
  refine wpAny_bind (PyProof.Rows.tupleItemsOf_ ht' ?_)
  refine wpAny_bind (wpAny_typeOf ts ?_)
  rw [if_pos (by decide)]
  refine wpAny_bind (HT.sliceApplied_gen hs pl pu ?_)
  rw [hlen, hw.1, hw.2]
  have yes : (((0 : Nat) : Int) == 0 && (1 : Int) == 1 && (xs.length - 0) == xs.length) = true := by simp
  show wpAny _ _ (if (((0 : Nat) : Int) == 0 && (1 : Int) == 1 && (xs.length - 0) == xs.length) = true then _ else _) _ _ s
  rw [if_pos yes]
  refine wpAny_bind ?_
  show wpAny _ _ (typeOf (.ref a) >>= fun t => pure (t == .type "tuple")) _ _ s
  refine wpAny_bind (wpAny_typeOf ht'.typeIs (wpAny_pure ?_))
  rw [if_pos (by decide)]
  exact wpAny_bind (wpAny_rule (wpAny_pure ⟨_, rfl, wpAny_pure fin⟩))
def rSl (Γ : Ga) : V → Option Int → Option Int → Hp → VK → Prop := fun x lo hi H Q => ∃ ι M d, RM Γ ι M H ∧ R Γ ι M.sz H d x ∧ ResT Γ ι M H (gSl d lo hi M) Q
theorem sl_ok (hK : X.K = Γ.K) : SlR X (rSl Γ) := by
  intro pins s σ H x v vl vu lo hi sl Q I rx hs pl pu h
  obtain ⟨ι, M, a, rm, ra, d, M', e, q⟩ := h
  unfold gSl at e
  split at e
  · cases e
    cases ra with
    | tup ht rl =>
      rw [← hK] at ht
      rename_i aa xs
      by_cases hw : HT.sIx xs.length 0 lo = 0 ∧ HT.sIx xs.length xs.length hi = xs.length
      · cases rx
        obtain ⟨its, r, pt, hz⟩ := I.tuple ht
        refine ⟨"tuple", _, PyProof.Rows.slot_tuple_getitem.lookup, pt.typeIs, sl_whole (Γ := Γ) I ht hs pl pu hw ?_⟩
        have e1 : cutV xs lo hi = xs := by
          unfold cutV
          rw [hw.1, hw.2, List.drop_zero, Nat.sub_zero, List.take_length]
        have rc := rl.cut lo hi
        rw [e1] at rc
        exact ResT.same q rm (.tup (by rw [← hK]; exact ht) rc)
      · exact sl_tup pins s σ H _ v vl vu lo hi sl Q I rx hs pl pu ⟨_, _, rfl, ht, hw, new_tup rm (rl.cut lo hi) q⟩
  · cases e
    cases ra with
    | rol hr =>
      have hq := hr.sq
      rw [← hK] at hq
      refine sl_list pins s σ H _ v vl vu lo hi sl Q I rx hs pl pu ⟨_, _, rfl, hq, ?_⟩
      refine new_list (ds := (cutD _ lo hi).map .int) rm ?_ q
      have : ∀ xs : List Int, RL Γ ι M.sz H (xs.map .int) (xs.map V.int) := fun xs => by
        induction xs with
        | nil => exact .nil
        | cons x xs ih => exact .cons (.int x) ih
      rw [show cutV (List.map V.int _) lo hi = (cutD _ lo hi).map V.int from (cutD_map V.int _ lo hi).symm]
      exact this _
  · cases ra
    split at e
    · rename_i hz
      cases e
      exact sl_str pins s σ H _ v vl vu lo hi sl Q I rx hs pl pu ⟨_, rfl, hz, ResT.same q rm (.str _)⟩
    · cases e
  · cases ra
    split at e
    · rename_i g
      cases e
      obtain ⟨vs, e1, rl⟩ := rm.ob _ _ g
      exact sl_list pins s σ H _ v vl vu lo hi sl Q I rx hs pl pu ⟨_, _, rfl, SqL.of e1, new_list rm (rl.cut lo hi) q⟩
    · cases e
  · cases e
theorem p_sl (hK : X.K = Γ.K) (he : PE X e (tE Γ m)) (hl : PO X lo (tO Γ (ePart ml))) (hh : PO X hi (tO Γ (ePart mh))) : PE X (.Subscript e (.Slice lo hi none p2) pos) (tE Γ (eSl m ml mh)) := by
  refine PE.of (pe_slice (sl_ok hK) he hl hh) fun σ H Q h => ?_
  obtain ⟨ι, ρ, M, S, d, M', e, q⟩ := h
  obtain ⟨d1, M1, e1, e⟩ := bnd_inv e
  obtain ⟨i, M2, e2, e⟩ := bnd_inv e
  obtain ⟨j, M3, e3, e⟩ := bnd_inv e
  refine ⟨ι, ρ, M, S, d1, M1, e1, fun x H1 ι1 x1 r1 rd => ⟨ι1, ρ, M1, S.ext x1 r1, i, M2, e2, fun H2 ι2 x2 r2 => ?_⟩⟩
  have x12 := x1.trans r1 x2
  refine ⟨ι2, ρ, M2, S.ext x12 r2, j, M3, e3, fun H3 ι3 x3 r3 => ?_⟩
  exact ⟨ι3, M3, d1, r3, (rd.ext r1 x2).ext r2 x3, d, M', e, fun v H4 ι4 x4 r4 rv => q v H4 ι4 ((x12.trans r2 x3).trans r3 x4) r4 rv⟩
end

/-! ### targets -/
abbrev Gv := D → Rho → Mem → Option (Rho × Mem)
abbrev Gvs := List D → Rho → Mem → Option (Rho × Mem)
def tG (Γ : Ga) (g : Gv) : TG := fun v σ H Q => ∃ ι ρ M d, Sim Γ ι M H ρ σ ∧ R Γ ι M.sz H d v ∧ ∃ ρ' M', g d ρ M = some (ρ', M') ∧ ∀ σ' H' ι', Ext ι ι' M.sz M'.sz H H' → Sim Γ ι' M' H' ρ' σ' → Q σ' H'
def tGs (Γ : Ga) (g : Gvs) : TGs := fun vs σ H Q => ∃ ι ρ M ds, Sim Γ ι M H ρ σ ∧ RL Γ ι M.sz H ds vs ∧ ∃ ρ' M', g ds ρ M = some (ρ', M') ∧ ∀ σ' H' ι', Ext ι ι' M.sz M'.sz H H' → Sim Γ ι' M' H' ρ' σ' → Q σ' H'
def gNm (i : Nat) : Gv := fun d ρ M => some (ρ.set i (some d), M)
def gSeq : List Gv → Gvs
  | [] => fun ds ρ M => match ds with
    | [] => some (ρ, M)
    | _ :: _ => none
  | g :: gs => fun ds ρ M => match ds with
    | [] => none
    | d :: ds => match g d ρ M with
      | some (ρ1, M1) => gSeq gs ds ρ1 M1
      | none => none
def gTp (gs : List Gv) : Gv := fun d ρ M => match d with
  | .tup ds => gSeq gs ds ρ M
  | _ => none
theorem gSeq_len : ∀ {gs : List Gv} {ds : List D} {ρ ρ' : Rho} {M M' : Mem}, gSeq gs ds ρ M = some (ρ', M') → ds.length = gs.length
  | [], [], _, _, _, _, _ => rfl
  | [], _ :: _, _, _, _, _, e => by cases e
  | _ :: _, [], _, _, _, _, e => by cases e
  | g :: gs, d :: ds, ρ, ρ', M, M', e => by
    rw [gSeq] at e
    dsimp only at e
    split at e
    · exact congrArg Nat.succ (gSeq_len e)
    · cases e
section
variable {Γ : Ga} {X : Cx} {pos : Pos}
theorem PG.of {e : Expr} {t t' : TG} (h : PG X e t) (w : ∀ v σ H Q, t' v σ H Q → t v σ H Q) : PG X e t' := ⟨fun pins s σ H v u Q I r q => h.run pins s σ H v u Q I r (w _ _ _ _ q)⟩
theorem PGs.of {e : List Expr} {t t' : TGs} (h : PGs X e t) (w : ∀ v σ H Q, t' v σ H Q → t v σ H Q) : PGs X e t' := ⟨fun pins s σ H v u Q I r q => h.run pins s σ H v u Q I r (w _ _ _ _ q)⟩
theorem g_nm (i : Nat) {x : Str} (hN : X.N.Nodup) (hi : X.N[i]? = some x := by rfl) (hx : Loc X.env.scope x := by first | exact Or.inl rfl | exact Or.inr rfl) (hf : X.fn x = true ∨ X.env.scope.names.lookup x = some .local := by first | exact .inl rfl | exact .inr rfl | assumption) :
    PG X (.Name x pos) (tG Γ (gNm i)) := by
  refine PG.of (pg_name hN hi hx hf) fun v σ H Q h => ?_
  obtain ⟨ι, ρ, M, d, S, rd, ρ', M', e, q⟩ := h
  cases e
  exact q _ H ι (Ext.refl _ _ _) ⟨S.m, S.s.set i rd⟩
theorem gs_nil : PGs X [] (tGs Γ (gSeq [])) := by
  refine PGs.of pgs_nil fun v σ H Q h => ?_
  obtain ⟨ι, ρ, M, d, S, rd, ρ', M', e, q⟩ := h
  cases d with
  | nil =>
    cases rd
    cases e
    exact ⟨rfl, q σ H ι (Ext.refl _ _ _) S⟩
  | cons _ _ => cases e
theorem gs_cons {e : Expr} {es : List Expr} {g : Gv} {gs : List Gv} (h1 : PG X e (tG Γ g)) (h2 : PGs X es (tGs Γ (gSeq gs)))
    (hs : (assignEach (e :: es) X.env).map (·.2) = assign e X.env :: (assignEach es X.env).map (·.2) := by rfl) : PGs X (e :: es) (tGs Γ (gSeq (g :: gs))) := by
  refine PGs.of (pgs_cons h1 h2 hs) fun v σ H Q h => ?_
  obtain ⟨ι, ρ, M, d, S, rd, ρ', M', e, q⟩ := h
  cases d with
  | nil => cases e
  | cons d ds =>
    cases rd with
    | cons r1 r2 =>
      rw [gSeq] at e
      dsimp only at e
      split at e
      · rename_i ρ1 M1 e1
        refine ⟨_, _, rfl, ι, ρ, M, d, S, r1, ρ1, M1, e1, fun σ1 H1 ι1 x1 S1 => ?_⟩
        exact ⟨ι1, ρ1, M1, ds, S1, r2.ext S.m x1, ρ', M', e, fun σ2 H2 ι2 x2 S2 => q σ2 H2 ι2 (x1.trans S1.m x2) S2⟩
      · cases e
theorem g_tp {es : List Expr} {k : Nat} {gs : List Gv} (hK : X.K = Γ.K) (hc : X.calm = true) (h : PGs X es (tGs Γ (gSeq gs))) (hn : (assignEach es X.env).length = gs.length := by rfl) (hst : (assignEach es X.env).findIdx? (·.1) = none := by rfl) :
    PG X (.Tuple es k pos) (tG Γ (gTp gs)) := by
  refine PG.of (pg_tup (n := gs.length) hc h hn hst) fun v σ H Q h => ?_
  obtain ⟨ι, ρ, M, d, S, rd, ρ', M', e, q⟩ := h
  unfold gTp at e
  split at e
  · cases rd with
    | tup hs rl =>
      refine ⟨_, _, rfl, by rw [hK]; exact hs, ?_, ι, ρ, M, _, S, rl, ρ', M', e, q⟩
      rw [← rl.length]; exact gSeq_len e
  · cases e
end

/-! ### o[i] = v, o.f = v -/
def gSet : D → D → D → Mem → Option Mem
  | .ref n, i, v, M => match M.get n with
    | some (.lst ds) => match i with
      | .int k => (ixN ds.length k).map fun j => M.put n (.lst (ds.set j v))
      | _ => none
    | some (.dct kvs) => match keyD i with
      | some k => if kvs.length < sizeLine then some (M.put n (.dct (putD kvs k v))) else none
      | none => none
    | _ => none
  | _, _, _, _ => none
def gSb (mo mi : Ev) : Gv := fun d ρ M => bnd (mo ρ M) fun o M1 => bnd (mi ρ M1) fun i M2 => (gSet o i d M2).map fun M3 => (ρ, M3)
def gSetF (f : Str) : D → D → Mem → Option Mem
  | .ref n, v, M => match M.get n with
    | some (.ins c fs) => if fs.length < 1000 then some (M.put n (.ins c (putN f v fs))) else none
    | _ => none
  | _, _, _ => none
def gFl (mo : Ev) (f : Str) : Gv := fun d ρ M => bnd (mo ρ M) fun o M1 => (gSetF f o d M1).map fun M3 => (ρ, M3)
section
variable {Γ : Ga} {X : Cx} {pos : Pos}
def rSet (Γ : Ga) : TSet := fun o i v H Q => ∃ ι M a b c, RM Γ ι M H ∧ R Γ ι M.sz H a o ∧ R Γ ι M.sz H b i ∧ R Γ ι M.sz H c v ∧ ∃ M', gSet a b c M = some M' ∧ ∀ H' ι', Ext ι ι' M.sz M'.sz H H' → RM Γ ι' M' H' → Q H'
/-- an object of the memory changes -/
theorem put_any {ι : Nat → Addr} {M : Mem} {H : Hp} {n : Nat} {ob : O} {o : HO} {Q : Hp → Prop} (r : RM Γ ι M H) (hn : n < M.sz) (h : RO Γ ι M.sz (upd H (ι n) o) (ι n) ob) (q : ∀ H' ι', Ext ι ι' M.sz (M.put n ob).sz H H' → RM Γ ι' (M.put n ob) H' → Q H') : Q (upd H (ι n) o) := by
  refine q _ ι ?_ (r.put hn h)
  rw [Mem.sz_put]; exact Ext.put hn
theorem set_ok (hu : X.A.units + 1 < cLine) : PSet X (rSet Γ) := by
  intro pins s σ H o i v ov iv u Q I ro ri rv h
  obtain ⟨ι, M, a, b, c, rm, ra, rb, rc, M', e, q⟩ := h
  unfold gSet at e
  split at e
  · cases ra
    split at e
    · rename_i ds g
      have lo := ro_loose (rm.ob _ _ g)
      obtain ⟨vs, e1, rl⟩ := rm.ob _ _ g
      split at e
      · cases rb
        obtain ⟨j, h1, h2⟩ := Option.map_eq_some_iff.mp e
        cases h2
        refine set_list pins s σ H _ _ _ ov iv u Q I ro ri rv ⟨_, _, _, j, rfl, rfl, e1, by rw [← rl.length]; exact h1, ?_⟩
        exact put_any (ob := .lst _) rm (Mem.get_lt g) ⟨_, upd_same, (RL.set rc j rl).upd lo⟩ q
      · cases e
    · rename_i kvs g
      have lo := ro_loose (rm.ob _ _ g)
      obtain ⟨vs, e1, rk⟩ := rm.ob _ _ g
      split at e
      · rename_i k hk
        split at e
        · rename_i hl
          cases e
          cases ro
          refine d_setItem hu I (.inl ⟨_, k, e1, keyD_ok rb hk, by rw [← rk.length]; exact hl, rfl⟩) ri rv fun s' I' => ⟨_, I', ?_⟩
          exact put_any (ob := .dct _) rm (Mem.get_lt g) ⟨_, upd_same, (putD_ok rk rc).upd lo⟩ q
        · cases e
      · cases e
    · cases e
  · cases e
theorem g_sb {o i : Expr} {mo mi : Ev} (hu : X.A.units + 1 < cLine) (ho : PE X o (tE Γ mo)) (hi : PE X i (tE Γ mi))
    (ha : ∀ v, assign (.Subscript o i pos) X.env v = (do
      let ov ← holding [v] (eval o X.env)
      let iv ← holding [v, ov] (eval i X.env)
      standAt pos
      holding [v, ov, iv] (setItem ov iv v)
      release [v, ov, iv] []) := by intro _; rfl) : PG X (.Subscript o i pos) (tG Γ (gSb mo mi)) := by
  refine PG.of (pg_sub ho hi (set_ok (Γ := Γ) hu) ha) fun v σ H Q h => ?_
  obtain ⟨ι, ρ, M, d, S, rd, ρ', M', e, q⟩ := h
  obtain ⟨o', M1, e1, e⟩ := bnd_inv e
  obtain ⟨i', M2, e2, e⟩ := bnd_inv e
  obtain ⟨M3, e3, e4⟩ := Option.map_eq_some_iff.mp e
  cases e4
  refine ⟨ι, ρ, M, S, o', M1, e1, fun x H1 ι1 x1 r1 ro => ⟨ι1, ρ, M1, S.ext x1 r1, i', M2, e2, fun y H2 ι2 x2 r2 ri => ?_⟩⟩
  have x12 := x1.trans r1 x2
  refine ⟨ι2, M2, o', i', d, r2, ro.ext r1 x2, ri, rd.ext S.m x12, _, e3, fun H3 ι3 x3 r3 => ?_⟩
  have x13 := x12.trans r2 x3
  exact q σ H3 ι3 x13 (S.ext x13 r3)
/-- a store to a field, by values -/
theorem fld_ok {pins : List (Addr × Obj)} {s : Shared} {σ : St} {H : Hp} {f : Str} {ι : Nat → Addr} {M M' : Mem} {a c : D} {o v : V} {ov u : Value} {Q : Hp → Prop} {A : Around} {E : Value → Shared → Prop} (hK : X.K = Γ.K) (C : Cf Γ) (hn : ∀ c, NoAttr Γ.K (Γ.ca c) f) (I : Inv X pins σ H s) (ro : RelV o ov) (rv : RelV v u)
    (rm : RM Γ ι M H) (ra : R Γ ι M.sz H a o) (rc : R Γ ι M.sz H c v) (e : gSetF f a c M = some M') (q : ∀ H' ι', Ext ι ι' M.sz M'.sz H H' → RM Γ ι' M' H' → Q H') :
    wpAny (model X.prog X.w) A (setAttr ov f u) (fun _ s' => ∃ H', Inv X pins σ H' s' ∧ Q H') E s := by
  unfold gSetF at e
  split at e
  · cases ra
    split at e
    · rename_i cc fs g
      have lo := ro_loose (rm.ob _ _ g)
      obtain ⟨dx, vs, e1, rk⟩ := rm.ob _ _ g
      split at e
      · rename_i hl
        cases e
        cases ro
        refine setattr_ok I e1 (by rw [hK]; exact C.cl cc) (by rw [hK]; exact hn cc) (by rw [← rk.length]; exact hl) rv fun s' I' => ⟨_, I', ?_⟩
        exact put_any (ob := .ins _ _) rm (Mem.get_lt g) ⟨dx, _, upd_same, (putN_ok rc rk).upd lo⟩ q
      · cases e
    · cases e
  · cases e
theorem g_fl {o : Expr} {f : Str} {mo : Ev} (hK : X.K = Γ.K) (C : Cf Γ) (hn : ∀ c, NoAttr Γ.K (Γ.ca c) f) (ho : PE X o (tE Γ mo)) : PG X (.Attribute o f pos) (tG Γ (gFl mo f)) := by
  refine ⟨fun pins s σ H v u Q I r h => ?_⟩
  obtain ⟨ι, ρ, M, d, S, rd, ρ', M', e, q⟩ := h
  obtain ⟨o', M1, e1, e⟩ := bnd_inv e
  obtain ⟨M3, e3, e4⟩ := Option.map_eq_some_iff.mp e
  cases e4
  rw [arm_assign_Attribute]
  refine wpAny_bind (wpAny_holding (thn (ho.run pins s σ H (fun x H1 => ∃ ι1, Ext ι ι1 M.sz M1.sz H H1 ∧ RM Γ ι1 M1 H1 ∧ R Γ ι1 M1.sz H1 o' x) I ⟨ι, ρ, M, S, o', M1, e1, fun x H1 ι1 x1 r1 ro => ⟨ι1, x1, r1, ro⟩⟩) fun ov s1 ⟨x, H1, I1, rx, ι1, x1, r1, ro⟩ => ?_))
  refine wpAny_bind (wpAny_standAt (wpAny_bind (wpAny_holding (thn (fld_ok (Q := fun H' => Q σ H') hK C hn I1 rx r r1 ro (rd.ext S.m x1) e3 fun H3 ι3 x3 r3 => ?_) fun _ s3 ⟨H3, I3, q3⟩ => ?_))))
  · have x13 := x1.trans r1 x3
    exact q σ H3 ι3 x13 (S.ext x13 r3)
  · exact wpAny_release ⟨σ, H3, I3, q3⟩
end
end Nl

set_option autoImplicit false
/-! Nl, part F: what is built in: functions, methods. -/
namespace Nl
open PySem L2

abbrev Bf := List D → Mem → Out D
def eCall (g : Bf) (ms : List Ev) : Ev := fun ρ M => bnd (eArgs ms ρ M) fun ds M1 => g ds M1
def rB (Γ : Ga) (g : Bf) : List V → Hp → VK → Prop := fun vs H Q => ∃ ι M ds, RM Γ ι M H ∧ RL Γ ι M.sz H ds vs ∧ ResT Γ ι M H (g ds M) Q
section
variable {Γ : Ga} {X : Cx} {x : Str} {p pos : Pos} {e : Expr} {es : List Expr} {ms : List Ev} {id T : String} {g : Bf}
theorem call_go {σ : St} {H : Hp} {Q : VK} (h : tE Γ (eCall g ms) σ H Q) : tCB (rB Γ g) (tL Γ (eArgs ms)) σ H Q := by
  obtain ⟨ι, ρ, M, S, d, M', e, q⟩ := h
  obtain ⟨ds, M1, e1, e⟩ := bnd_inv e
  exact ⟨ι, ρ, M, S, ds, M1, e1, fun vs H1 ι1 x1 r1 rl => ⟨ι1, M1, ds, r1, rl, d, M', e, fun v H2 ι2 x2 r2 rd => q v H2 ι2 (x1.trans r1 x2) r2 rd⟩⟩
theorem p_bi (hc : CallR X (.builtin id) (rB Γ g)) (hm : X.mg x = none) (hv : bootBuiltins x = some (.builtin id)) (ha : PA X (e :: es) (tL Γ (eArgs ms))) (hg : Gl X x := by rfl) (hn : x ≠ "__name__" := by decide) (hdb : (x == ("__debug__" : Str)) = false := by decide)
    (he : starEach (e :: es) X.env = (false, eval e X.env) :: starEach es X.env := by rfl) (hpl : (backTo pos (starEach es X.env)).any (·.1) = false := by rfl) : PE X (.Call (.Name x p) (e :: es) [] pos) (tE Γ (eCall g ms)) :=
  PE.of (pe_callB hc hg hm hv ha hn hdb he hpl) fun _ _ _ h => call_go h
theorem p_bt (hc : CallR X (.type T) (rB Γ g)) (hm : X.mg x = none) (hv : bootBuiltins x = some (.type T)) (ha : PA X (e :: es) (tL Γ (eArgs ms))) (hg : Gl X x := by rfl) (hn : x ≠ "__name__" := by decide) (hdb : (x == ("__debug__" : Str)) = false := by decide)
    (he : starEach (e :: es) X.env = (false, eval e X.env) :: starEach es X.env := by rfl) (hpl : (backTo pos (starEach es X.env)).any (·.1) = false := by rfl) : PE X (.Call (.Name x p) (e :: es) [] pos) (tE Γ (eCall g ms)) :=
  PE.of (pe_callTy hc hg hm hv ha hn hdb he hpl) fun _ _ _ h => call_go h
end

/-! ### lists of numbers, of truths, of texts -/
def intsD : List D → Option (List Int)
  | [] => some []
  | .int i :: r => (intsD r).map (i :: ·)
  | _ :: _ => none
def blsD : List D → Option (List Bool)
  | [] => some []
  | .bl b :: r => (blsD r).map (b :: ·)
  | _ :: _ => none
def strsD : List D → Option (List Str)
  | [] => some []
  | .str b :: r => (strsD r).map (b :: ·)
  | _ :: _ => none
section
variable {Γ : Ga} {ι : Nat → Addr} {N : Nat} {H : Hp}
theorem ints_ok : ∀ {ds : List D} {vs : List V} {ns : List Int}, RL Γ ι N H ds vs → intsD ds = some ns → vs = ns.map V.int
  | [], _, _, r, e => by cases r; cases e; rfl
  | .int i :: ds, _, ns, .cons r t, e => by
    obtain ⟨ms, h1, h2⟩ := Option.map_eq_some_iff.mp e
    subst h2
    cases r
    rw [ints_ok t h1]; rfl
  | .non :: _, _, _, _, e => by cases e
  | .bl _ :: _, _, _, _, e => by cases e
  | .str _ :: _, _, _, _, e => by cases e
  | .tup _ :: _, _, _, _, e => by cases e
  | .ref _ :: _, _, _, _, e => by cases e
  | .rol _ :: _, _, _, _, e => by cases e
  | .fn _ :: _, _, _, _, e => by cases e
  | .ty _ :: _, _, _, _, e => by cases e
theorem bls_ok : ∀ {ds : List D} {vs : List V} {ns : List Bool}, RL Γ ι N H ds vs → blsD ds = some ns → vs = ns.map V.bl
  | [], _, _, r, e => by cases r; cases e; rfl
  | .bl i :: ds, _, ns, .cons r t, e => by
    obtain ⟨ms, h1, h2⟩ := Option.map_eq_some_iff.mp e
    subst h2
    cases r
    rw [bls_ok t h1]; rfl
  | .non :: _, _, _, _, e => by cases e
  | .int _ :: _, _, _, _, e => by cases e
  | .str _ :: _, _, _, _, e => by cases e
  | .tup _ :: _, _, _, _, e => by cases e
  | .ref _ :: _, _, _, _, e => by cases e
  | .rol _ :: _, _, _, _, e => by cases e
  | .fn _ :: _, _, _, _, e => by cases e
  | .ty _ :: _, _, _, _, e => by cases e
theorem strs_ok : ∀ {ds : List D} {vs : List V} {ns : List Str}, RL Γ ι N H ds vs → strsD ds = some ns → vs = ns.map V.str
  | [], _, _, r, e => by cases r; cases e; rfl
  | .str i :: ds, _, ns, .cons r t, e => by
    obtain ⟨ms, h1, h2⟩ := Option.map_eq_some_iff.mp e
    subst h2
    cases r
    rw [strs_ok t h1]; rfl
  | .non :: _, _, _, _, e => by cases e
  | .int _ :: _, _, _, _, e => by cases e
  | .bl _ :: _, _, _, _, e => by cases e
  | .tup _ :: _, _, _, _, e => by cases e
  | .ref _ :: _, _, _, _, e => by cases e
  | .rol _ :: _, _, _, _, e => by cases e
  | .fn _ :: _, _, _, _, e => by cases e
  | .ty _ :: _, _, _, _, e => by cases e
theorem rl_strs : ∀ xs : List Str, RL Γ ι N H (xs.map .str) (xs.map V.str)
  | [] => .nil
  | x :: xs => .cons (.str x) (rl_strs xs)
theorem rl_ints : ∀ xs : List Int, RL Γ ι N H (xs.map .int) (xs.map V.int)
  | [] => .nil
  | x :: xs => .cons (.int x) (rl_ints xs)
end
/-- the list that a value is, as it stands -/
def lstOf (M : Mem) : D → Option (List D)
  | .ref n => match M.get n with
    | some (.lst ds) => some ds
    | _ => none
  | .rol xs => some (xs.map .int)
  | _ => none
theorem lstOf_ok {Γ : Ga} {ι : Nat → Addr} {M : Mem} {H : Hp} {d : D} {v : V} {ds : List D} (rm : RM Γ ι M H) (r : R Γ ι M.sz H d v) (e : lstOf M d = some ds) : ∃ a vs, v = .ref a ∧ SqL Γ.K H a vs ∧ RL Γ ι M.sz H ds vs := by
  unfold lstOf at e
  split at e
  · cases r
    split at e
    · rename_i g
      cases e
      obtain ⟨vs, e1, rl⟩ := rm.ob _ _ g
      exact ⟨_, vs, rfl, SqL.of e1, rl⟩
    · cases e
  · cases r with
    | rol hs =>
      cases e
      exact ⟨_, _, rfl, hs.sq, rl_ints _⟩
  · cases e

/-! ### len, abs, min, max, int, all, any, sum -/
def gLen : Bf
  | [.str x], M => if x.length ≤ sizeLine then some (.int x.length, M) else none
  | [.tup ds], M => some (.int ds.length, M)
  | [.rol xs], M => some (.int xs.length, M)
  | [.ref n], M => match M.get n with
    | some (.lst ds) => some (.int ds.length, M)
    | some (.dct kvs) => some (.int kvs.length, M)
    | some (.lck kvs) => some (.int kvs.length, M)
    | _ => none
  | _, _ => none
def gAbs : Bf
  | [.int i], M => some (.int (if i < 0 then -i else i), M)
  | _, _ => none
def gMax2 : Bf
  | [.int i, .int j], M => some (.int (if j > i then j else i), M)
  | _, _ => none
def gMin2 : Bf
  | [.int i, .int j], M => some (.int (if j < i then j else i), M)
  | _, _ => none
def gInt : Bf
  | [.int i], M => some (.int i, M)
  | [.bl k], M => some (.int (if k then 1 else 0), M)
  | _, _ => none
def gAll : Bf
  | [d], M => (lstOf M d).bind fun ds => (blsD ds).map fun bs => (.bl (bs.all id), M)
  | _, _ => none
def gAny : Bf
  | [d], M => (lstOf M d).bind fun ds => (blsD ds).map fun bs => (.bl (bs.any id), M)
  | _, _ => none
def gSum : Bf
  | [d], M => (lstOf M d).bind fun ds => (intsD ds).map fun ns => (.int ns.sum, M)
  | _, _ => none
section
variable {Γ : Ga} {X : Cx}
theorem b_len (hK : X.K = Γ.K) : CallR X (.builtin "len") (rB Γ gLen) := by
  intro pins s σ H xs us Q I rv h
  obtain ⟨ι, M, ds, rm, rl, d, M', e, q⟩ := h
  unfold gLen at e
  split at e
  · cases rl with
    | cons r t =>
      cases t; cases r
      split at e
      · rename_i hz
        cases e
        exact call_len pins s σ H _ us Q I rv ⟨_, _, rfl, ⟨hz, rfl⟩, ResT.same q rm (.int _)⟩
      · cases e
  · cases rl with
    | cons r t =>
      cases t
      cases r with
      | tup hs r2 =>
        cases e
        rw [← hK] at hs
        refine call_len pins s σ H _ us Q I rv ⟨_, _, rfl, .inr ⟨_, hs, rfl⟩, ?_⟩
        rw [← r2.length]
        exact ResT.same q rm (.int _)
  · cases rl with
    | cons r t =>
      cases t
      cases r with
      | rol hs =>
        cases e
        have hq := hs.sq
        rw [← hK] at hq
        refine call_len pins s σ H _ us Q I rv ⟨_, _, rfl, .inl ⟨_, hq, rfl⟩, ?_⟩
        rw [List.length_map]
        exact ResT.same q rm (.int _)
  · cases rl with
    | cons r t =>
      cases t; cases r
      split at e
      · rename_i g
        cases e
        obtain ⟨vs, e1, r2⟩ := rm.ob _ _ g
        refine call_len pins s σ H _ us Q I rv ⟨_, _, rfl, .inl ⟨_, SqL.of e1, rfl⟩, ?_⟩
        rw [← r2.length]
        exact ResT.same q rm (.int _)
      · rename_i g
        cases e
        obtain ⟨vs, e1, r2⟩ := rm.ob _ _ g
        obtain ⟨u, rfl, ru⟩ := vals1 rv
        cases ru
        refine d_len I (.inl e1) fun t s' I' => ⟨.int vs.length, H, I', ⟨t, rfl⟩, ?_⟩
        rw [← r2.length]
        exact ResT.same q rm (.int _)
      · rename_i g
        cases e
        obtain ⟨od, vs, e1, r2⟩ := rm.ob _ _ g
        obtain ⟨u, rfl, ru⟩ := vals1 rv
        cases ru
        refine d_len I (.inr ⟨_, e1⟩) fun t s' I' => ⟨.int vs.length, H, I', ⟨t, rfl⟩, ?_⟩
        rw [← r2.length]
        exact ResT.same q rm (.int _)
      · cases e
  · cases e
theorem one_of {ι : Nat → Addr} {N : Nat} {H : Hp} {d : D} {vs : List V} (r : RL Γ ι N H [d] vs) : ∃ v, vs = [v] ∧ R Γ ι N H d v := by
  cases r with
  | cons r t => cases t; exact ⟨_, rfl, r⟩
theorem two_of {ι : Nat → Addr} {N : Nat} {H : Hp} {d e : D} {vs : List V} (r : RL Γ ι N H [d, e] vs) : ∃ v w, vs = [v, w] ∧ R Γ ι N H d v ∧ R Γ ι N H e w := by
  cases r with
  | cons r t => cases t with
    | cons r2 t => cases t; exact ⟨_, _, rfl, r, r2⟩
theorem b_abs : CallR X (.builtin "abs") (rB Γ gAbs) := by
  intro pins s σ H xs us Q I rv h
  obtain ⟨ι, M, ds, rm, rl, d, M', e, q⟩ := h
  unfold gAbs at e
  split at e
  · obtain ⟨v, rfl, r⟩ := one_of rl
    cases r; cases e
    exact call_abs pins s σ H _ us Q I rv ⟨_, rfl, ResT.same q rm (.int _)⟩
  · cases e
theorem b_max2 (hc : X.calm = true) : CallR X (.builtin "max") (rB Γ gMax2) := by
  intro pins s σ H xs us Q I rv h
  obtain ⟨ι, M, ds, rm, rl, d, M', e, q⟩ := h
  unfold gMax2 at e
  split at e
  · obtain ⟨v, w, rfl, r, r2⟩ := two_of rl
    cases r; cases r2; cases e
    exact call_max2 hc pins s σ H _ us Q I rv ⟨_, _, rfl, ResT.same q rm (.int _)⟩
  · cases e
theorem b_min2 (hc : X.calm = true) : CallR X (.builtin "min") (rB Γ gMin2) := by
  intro pins s σ H xs us Q I rv h
  obtain ⟨ι, M, ds, rm, rl, d, M', e, q⟩ := h
  unfold gMin2 at e
  split at e
  · obtain ⟨v, w, rfl, r, r2⟩ := two_of rl
    cases r; cases r2; cases e
    exact call_min2 hc pins s σ H _ us Q I rv ⟨_, _, rfl, ResT.same q rm (.int _)⟩
  · cases e
theorem b_int : CallR X (.type "int") (rB Γ gInt) := by
  intro pins s σ H xs us Q I rv h
  obtain ⟨ι, M, ds, rm, rl, d, M', e, q⟩ := h
  unfold gInt at e
  split at e
  · obtain ⟨v, rfl, r⟩ := one_of rl
    cases r; cases e
    exact call_int1 pins s σ H _ us Q I rv (.inl ⟨_, rfl, ResT.same q rm (.int _)⟩)
  · obtain ⟨v, rfl, r⟩ := one_of rl
    cases r; cases e
    exact call_int1 pins s σ H _ us Q I rv (.inr ⟨_, rfl, ResT.same q rm (.int _)⟩)
  · cases e
theorem b_all (hK : X.K = Γ.K) (hc : X.calm = true) : CallR X (.builtin "all") (rB Γ gAll) := by
  intro pins s σ H xs us Q I rv h
  obtain ⟨ι, M, ds, rm, rl, d, M', e, q⟩ := h
  unfold gAll at e
  split at e
  · obtain ⟨v, rfl, r⟩ := one_of rl
    obtain ⟨ys, h1, h2⟩ := Option.bind_eq_some_iff.mp e
    obtain ⟨bs, h3, h4⟩ := Option.map_eq_some_iff.mp h2
    cases h4
    obtain ⟨a, vs, rfl, hq, r2⟩ := lstOf_ok rm r h1
    rw [bls_ok r2 h3, ← hK] at hq
    exact cr_all hc pins s σ H _ us Q I rv ⟨a, bs, rfl, hq, ResT.same q rm (.bl _)⟩
  · cases e
theorem b_any (hK : X.K = Γ.K) (hc : X.calm = true) : CallR X (.builtin "any") (rB Γ gAny) := by
  intro pins s σ H xs us Q I rv h
  obtain ⟨ι, M, ds, rm, rl, d, M', e, q⟩ := h
  unfold gAny at e
  split at e
  · obtain ⟨v, rfl, r⟩ := one_of rl
    obtain ⟨ys, h1, h2⟩ := Option.bind_eq_some_iff.mp e
    obtain ⟨bs, h3, h4⟩ := Option.map_eq_some_iff.mp h2
    cases h4
    obtain ⟨a, vs, rfl, hq, r2⟩ := lstOf_ok rm r h1
    rw [bls_ok r2 h3, ← hK] at hq
    exact cr_any hc pins s σ H _ us Q I rv ⟨a, bs, rfl, hq, ResT.same q rm (.bl _)⟩
  · cases e
theorem b_sum (hK : X.K = Γ.K) (hc : X.calm = true) : CallR X (.builtin "sum") (rB Γ gSum) := by
  intro pins s σ H xs us Q I rv h
  obtain ⟨ι, M, ds, rm, rl, d, M', e, q⟩ := h
  unfold gSum at e
  split at e
  · obtain ⟨v, rfl, r⟩ := one_of rl
    obtain ⟨ys, h1, h2⟩ := Option.bind_eq_some_iff.mp e
    obtain ⟨bs, h3, h4⟩ := Option.map_eq_some_iff.mp h2
    cases h4
    obtain ⟨a, vs, rfl, hq, r2⟩ := lstOf_ok rm r h1
    rw [ints_ok r2 h3, ← hK] at hq
    exact cr_sum hc pins s σ H _ us Q I rv ⟨a, bs, rfl, hq, ResT.same q rm (.int _)⟩
  · cases e
end

/-! ### tuple(x), list(x) -/
def gTuple : Bf
  | [.tup ds], M => some (.tup ds, M)
  | [.ref n], M => match M.get n with
    | some (.lst ds) => some (.tup ds, M)
    | _ => none
  | _, _ => none
def gList : Bf
  | [.tup ds], M => some (.ref M.sz, M.new (.lst ds))
  | [.rol xs], M => some (.ref M.sz, M.new (.lst (xs.map .int)))
  | [.ref n], M => match M.get n with
    | some (.lst ds) => some (.ref M.sz, M.new (.lst ds))
    | _ => none
  | _, _ => none
section
variable {Γ : Ga} {X : Cx}
theorem b_tuple (hK : X.K = Γ.K) : CallR X (.type "tuple") (rB Γ gTuple) := by
  intro pins s σ H xs us Q I rv h
  obtain ⟨ι, M, ds, rm, rl, d, M', e, q⟩ := h
  unfold gTuple at e
  split at e
  · obtain ⟨v, rfl, r⟩ := one_of rl
    cases e
    cases r with
    | tup hs r2 =>
      have hs' := hs
      rw [← hK] at hs
      exact call_tuple_of pins s σ H _ us Q I rv ⟨_, _, rfl, .inr ⟨hs, ResT.same q rm (.tup hs' r2)⟩⟩
  · obtain ⟨v, rfl, r⟩ := one_of rl
    cases r
    split at e
    · rename_i g
      cases e
      obtain ⟨vs, e1, r2⟩ := rm.ob _ _ g
      exact call_tuple_of pins s σ H _ us Q I rv ⟨_, _, rfl, .inl ⟨SqL.of e1, new_tup rm r2 q⟩⟩
    · cases e
  · cases e
theorem b_list (hK : X.K = Γ.K) : CallR X (.type "list") (rB Γ gList) := by
  intro pins s σ H xs us Q I rv h
  obtain ⟨ι, M, ds, rm, rl, d, M', e, q⟩ := h
  unfold gList at e
  split at e
  · obtain ⟨v, rfl, r⟩ := one_of rl
    cases e
    cases r with
    | tup hs r2 =>
      rw [← hK] at hs
      exact call_list_of pins s σ H _ us Q I rv ⟨_, _, rfl, .inr hs, new_list rm r2 q⟩
  · obtain ⟨v, rfl, r⟩ := one_of rl
    cases e
    cases r with
    | rol hs =>
      have hq := hs.sq
      rw [← hK] at hq
      exact call_list_of pins s σ H _ us Q I rv ⟨_, _, rfl, .inl hq, new_list rm (rl_ints _) q⟩
  · obtain ⟨v, rfl, r⟩ := one_of rl
    cases r
    split at e
    · rename_i g
      cases e
      obtain ⟨vs, e1, r2⟩ := rm.ob _ _ g
      exact call_list_of pins s σ H _ us Q I rv ⟨_, _, rfl, .inl (SqL.of e1), new_list rm r2 q⟩
    · cases e
  · cases e
end

/-! ### sorted, of texts -/
def leS (a b : Str) : Bool := !Spec.ltCps b.cps.toList a.cps.toList
def sortT (xs : List Str) : List Str := xs.mergeSort leS
theorem leS_iff {a b : Str} : leS a b = true ↔ a.cps.toList ≤ b.cps.toList := by
  unfold leS
  rw [PyProof.Rows.ltCps_eq]
  by_cases h : b.cps.toList < a.cps.toList
  · rw [decide_eq_true h]
    exact ⟨fun z => by simp at z, fun z => absurd h (List.not_lt.mpr z)⟩
  · rw [decide_eq_false h]
    exact ⟨fun _ => List.not_lt.mp h, fun _ => rfl⟩
theorem leS_trans (a b c : Str) (h1 : leS a b = true) (h2 : leS b c = true) : leS a c = true := leS_iff.mpr (List.le_trans (leS_iff.mp h1) (leS_iff.mp h2))
theorem leS_total (a b : Str) : (leS a b || leS b a) = true := by
  rw [Bool.or_eq_true, leS_iff, leS_iff]
  exact List.le_total _ _
theorem leS_anti {a b : Str} (h1 : leS a b = true) (h2 : leS b a = true) : a = b := by
  have h := List.le_antisymm (leS_iff.mp h1) (leS_iff.mp h2)
  cases a; cases b
  congr
  exact Array.ext' h
theorem rises : ∀ (ys : List Str), PyProof.Rows.sortedS ys = true → ys.Pairwise fun a b => leS a b = true
  | [], _ => .nil
  | x :: r, h => by
    have go : ∀ (r : List Str) (x : Str), PyProof.Rows.risingS x r = true → (x :: r).Pairwise fun a b => leS a b = true := by
      intro r
      induction r with
      | nil => intro x _; exact List.pairwise_singleton _ _
      | cons y r ih =>
        intro x h
        have h' : (!Spec.ltCps y.cps.toList x.cps.toList && PyProof.Rows.risingS y r) = true := h
        rw [Bool.and_eq_true] at h'
        have p := ih y h'.2
        refine List.pairwise_cons.mpr ⟨fun z hz => ?_, p⟩
        rcases List.mem_cons.mp hz with e | hz
        · rw [e]; exact h'.1
        · exact leS_trans _ _ _ h'.1 ((List.pairwise_cons.mp p).1 z hz)
    exact go r x h
theorem sortT_unique {xs ys : List Str} (hp : ys.Perm xs) (hs : PyProof.Rows.sortedS ys = true) : ys = sortT xs :=
  List.Perm.eq_of_pairwise (fun a b _ _ => leS_anti) (rises ys hs) (List.pairwise_mergeSort leS_trans leS_total xs) (hp.trans (List.mergeSort_perm xs leS).symm)
/-- the texts that are a dict's keys -/
def keysT : List (Key × D) → Option (List Str)
  | [] => some []
  | (.inr x, _) :: r => (keysT r).map (x :: ·)
  | (.inl _, _) :: _ => none
theorem keysT_ok {Γ : Ga} {ι : Nat → Addr} {N : Nat} {H : Hp} : ∀ {ds : List (Key × D)} {vs : List (Key × V)} {ks : List Str}, RK Γ ι N H ds vs → keysT ds = some ks → vs.map (·.1) = ks.map Sum.inr
  | _, _, _, .nil, e => by cases e; rfl
  | _, _, ks, .cons (k := .inr x) r t, e => by
    obtain ⟨ys, h1, h2⟩ := Option.map_eq_some_iff.mp e
    subst h2
    rw [List.map_cons, keysT_ok t h1]; rfl
  | _, _, _, .cons (k := .inl _) r t, e => by cases e
def gSorted : Bf
  | [.ref n], M => match M.get n with
    | some (.lst ds) => match strsD ds with
      | some xs => if xs.length < 64 then some (.ref M.sz, M.new (.lst ((sortT xs).map .str))) else none
      | none => none
    | some (.dct kvs) => match keysT kvs with
      | some xs => if xs.length < 64 then some (.ref M.sz, M.new (.lst ((sortT xs).map .str))) else none
      | none => none
    | _ => none
  | _, _ => none
section
variable {Γ : Ga} {X : Cx}
theorem b_sorted (hK : X.K = Γ.K) (hc : X.calm = true) : CallR X (.builtin "sorted") (rB Γ gSorted) := by
  intro pins s σ H xs us Q I rv h
  obtain ⟨ι, M, ds, rm, rl, d, M', e, q⟩ := h
  unfold gSorted at e
  split at e
  · obtain ⟨v, rfl, r⟩ := one_of rl
    cases r
    split at e
    · rename_i g
      split at e
      · rename_i xs hx
        split at e
        · rename_i hl
          cases e
          obtain ⟨vs, e1, r2⟩ := rm.ob _ _ g
          have e2 := strs_ok r2 hx
          subst e2
          refine cr_sortedS pins s σ H _ us Q I rv ⟨_, xs, rfl, SqL.of e1, hl, fun ys p hp hs hn => ?_⟩
          rw [sortT_unique hp hs]
          exact new_list rm (rl_strs _) q p hn
        · cases e
      · cases e
    · rename_i g
      split at e
      · rename_i xs hx
        split at e
        · rename_i hl
          cases e
          obtain ⟨vs, e1, r2⟩ := rm.ob _ _ g
          refine call_sortedD hc pins s σ H _ us Q I rv ⟨_, vs, xs, rfl, .inl e1, keysT_ok r2 hx, hl, fun ys p hp hs hn => ?_⟩
          rw [sortT_unique hp hs]
          exact new_list rm (rl_strs _) q p hn
        · cases e
      · cases e
    · cases e
  · cases e
end

/-! ### repr -/
def gRepr : Bf
  | [d], M => match toP M d with
    | some p => if PyData.showable p = true ∧ (PyData.shown p).length ≤ sizeLine ∧ p.depth ≤ 64 then some (.str (PyData.shown p), M) else none
    | none => none
  | _, _ => none
mutual
theorem dp_noDict {K : PySem.W.Frag} {H : Hp} : ∀ (p : PyData) (v : V), Dp K H v p → p.hasDict = false
  | .none, _, _ => by simp only [PyData.hasDict]
  | .bool _, _, _ => by simp only [PyData.hasDict]
  | .int _, _, _ => by simp only [PyData.hasDict]
  | .str _, _, _ => by simp only [PyData.hasDict]
  | .list xs, _, h => by
    cases h with
    | lst _ ha => simp only [PyData.hasDict]; exact dpl_noDict xs _ ha
  | .tuple xs, _, h => by
    cases h with
    | tup _ ha => simp only [PyData.hasDict]; exact dpl_noDict xs _ ha
  | .dict _, _, h => by cases h
theorem dpl_noDict {K : PySem.W.Frag} {H : Hp} : ∀ (ps : List PyData) (vs : List V), DpAll K H vs ps → PyData.hasDictAll ps = false
  | [], _, _ => by simp only [PyData.hasDictAll]
  | p :: ps, _, h => by
    cases h with
    | cons h1 h2 => simp only [PyData.hasDictAll, dp_noDict p _ h1, dpl_noDict ps _ h2, Bool.or_self]
end
section
variable {Γ : Ga} {X : Cx}
theorem b_repr (hK : X.K = Γ.K) (hG : X.A.guards = some []) (hu : X.A.units + 70 < cLine) : CallR X (.builtin "repr") (rB Γ gRepr) := by
  intro pins s σ H xs us Q I rv h
  obtain ⟨ι, M, ds, rm, rl, d, M', e, q⟩ := h
  unfold gRepr at e
  split at e
  · obtain ⟨v, rfl, r⟩ := one_of rl
    split at e
    · rename_i p hp
      split at e
      · rename_i hz
        cases e
        obtain ⟨hs, hl, hd⟩ := hz
        have dp := toP_dp rm r hp
        rw [← hK] at dp
        obtain ⟨u, rfl, ru⟩ := vals1 rv
        obtain ⟨as, rd⟩ := Dp.reads I p v u dp ru
        have fin : Q (.str (PyData.shown p)) H := ResT.same q rm (.str _)
        have hn := PyData.noDict_hsm (as := as) (dp_noDict p v dp)
        cases dp with
        | non =>
          cases ru
          exact PySem.P.repr_of_none ⟨.str _, H, I.tok _, ⟨_, rfl⟩, fin⟩
        | bl b =>
          cases ru
          exact PySem.P.repr_of_bool ⟨.str _, H, I.tok _, ⟨_, rfl⟩, by cases b <;> exact fin⟩
        | int i =>
          obtain ⟨t, rfl⟩ := ru
          have hi : i.natAbs.log2 < 1920 := by
            simp only [PyData.showable] at hs
            exact of_decide_eq_true hs
          exact PySem.P.repr_of_int hi ⟨.str _, H, I.tok _, ⟨_, rfl⟩, fin⟩
        | str x =>
          obtain ⟨t, rfl⟩ := ru
          exact PySem.P.repr_of_str ⟨.str _, H, I.tok _, ⟨_, rfl⟩, fin⟩ hl
        | lst h1 h2 =>
          cases ru
          exact repr_of_reads' rd hs hn hG (by omega) (fun _ _ z => z) (fun h' t tk hk => ⟨.str _, H, I.kept hk, ⟨t, rfl⟩, fin⟩) hl
        | tup h1 h2 =>
          cases ru
          exact repr_of_reads' rd hs hn hG (by omega) (fun _ _ z => z) (fun h' t tk hk => ⟨.str _, H, I.kept hk, ⟨t, rfl⟩, fin⟩) hl
      · cases e
    · cases e
  · cases e
end
end Nl

set_option autoImplicit false
/-! Nl, part G: statements, loops, comprehensions. -/
namespace Nl
open PySem L2

/-! ### what is walked -/
structure Wk where
  items : List D
  gs : List (Nat × O)
def Wk.ok (w : Wk) (M : Mem) : Bool := w.gs.all fun p => decide (M.get p.1 = some p.2)
abbrev Wv := Rho → Mem → Out Wk
structure ItOk (Γ : Ga) (J : It) (w : Wk) (ι : Nat → Addr) (M : Mem) (H : Hp) : Prop where
  go : ∀ ι2 M2 H2 i, Ext ι ι2 M.sz M2.sz H H2 → RM Γ ι2 M2 H2 → w.ok M2 = true → i < w.items.length → J.go i H2
  stop : ∀ ι2 M2 H2 i, Ext ι ι2 M.sz M2.sz H H2 → RM Γ ι2 M2 H2 → w.ok M2 = true → w.items.length ≤ i → J.stop i H2
  yld : ∀ ι2 M2 H2 i x H3, Ext ι ι2 M.sz M2.sz H H2 → RM Γ ι2 M2 H2 → w.ok M2 = true → i < w.items.length → J.yld i H2 x H3 →
    ∃ d, w.items[i]? = some d ∧ R Γ ι2 M2.sz H3 d x ∧ Ext ι2 ι2 M2.sz M2.sz H2 H3 ∧ RM Γ ι2 M2 H3
def iW (Γ : Ga) (m : Wv) : TI := fun σ H Rr => ∃ ι ρ M, Sim Γ ι M H ρ σ ∧ ∃ w M', m ρ M = some (w, M') ∧ ∀ J H' ι', Ext ι ι' M.sz M'.sz H H' → RM Γ ι' M' H' → ItOk Γ J w ι' M' H' → Rr J H'
theorem PI.of {X : Cx} {tg e : Expr} {t t' : TI} (h : PI X tg e t) (w : ∀ σ H Q, t' σ H Q → t σ H Q) : PI X tg e t' := ⟨fun pins s σ H Q I q => h.run pins s σ H Q I (w _ _ _ q)⟩

/-! ### for -/
def forL (ok : Mem → Bool) (g : Gv) (b : Sv) : List D → Sv
  | [], ρ, M => if ok M = true then some (.nx ρ, M) else none
  | d :: ds, ρ, M => if ok M = true then match g d ρ M with
    | none => none
    | some (ρ1, M1) => match b ρ1 M1 with
      | none => none
      | some (.nx ρ2, M2) => forL ok g b ds ρ2 M2
      | some (.ct ρ2, M2) => forL ok g b ds ρ2 M2
      | some (.bk ρ2, M2) => some (.nx ρ2, M2)
      | some (.rt v, M2) => some (.rt v, M2)
    else none
def sFor (m : Wv) (g : Gv) (b : Sv) : Sv := fun ρ M => bnd (m ρ M) fun w M1 => forL w.ok g b w.items ρ M1
section
variable {Γ : Ga} {X : Cx} {tg iter : Expr} {body : List Stmt} {m : Wv} {g : Gv} {b : Sv} {pos : Pos}
/-- behind a stretch, what is wished for at the end is wished for here -/
theorem FlT.later {ι ι1 : Nat → Addr} {M M1 : Mem} {H H1 : Hp} {M' : Mem} {E : Ends} (x1 : Ext ι ι1 M.sz M1.sz H H1) (r1 : RM Γ ι1 M1 H1) : ∀ {f : Fl}, FlT Γ ι M.sz H M' E f → FlT Γ ι1 M1.sz H1 M' E f
  | .nx _, q => fun σ' H' ι' x' S' => q σ' H' ι' (x1.trans r1 x') S'
  | .rt _, q => fun v H' ι' x' r' rd => q v H' ι' (x1.trans r1 x') r' rd
  | .bk _, q => fun σ' H' ι' x' S' => q σ' H' ι' (x1.trans r1 x') S'
  | .ct _, q => fun σ' H' ι' x' S' => q σ' H' ι' (x1.trans r1 x') S'
theorem for_go {J : It} {w : Wk} {ι : Nat → Addr} {M : Mem} {H : Hp} {ρ : Rho} {σ : St} {E : Ends} (S : Sim Γ ι M H ρ σ) (ok : ItOk Γ J w ι M H) (q : ResS Γ ι M H (forL w.ok g b w.items ρ M) E) (hbc : ∀ f M', forL w.ok g b w.items ρ M = some (f, M') → (∃ ρ', f = .nx ρ') ∨ ∃ v, f = .rt v) :
    ∃ W : Nat → Nat → St → Hp → Prop, (∃ m, W 0 m σ H) ∧ ∀ i m σ H, W i m σ H →
      (J.stop i H ∧ E.nx σ H) ∨ (J.go i H ∧ ∃ N : St → Hp → Prop, (∀ σ' H', N σ' H' → ∃ m', m' < m ∧ W (i + 1) m' σ' H') ∧ ∀ x H', J.yld i H x H' → tG Γ g x σ H' fun σ2 H2 => tS Γ b { E with nx := N, ct := N, bk := E.nx } σ2 H2) := by
  refine ⟨fun i m σ2 H2 => m = w.items.length - i ∧ i ≤ w.items.length ∧ ∃ ι2 ρ2 M2, Ext ι ι2 M.sz M2.sz H H2 ∧ Sim Γ ι2 M2 H2 ρ2 σ2 ∧ ResS Γ ι2 M2 H2 (forL w.ok g b (w.items.drop i) ρ2 M2) E, ⟨w.items.length, rfl, Nat.zero_le _, ι, ρ, M, Ext.refl _ _ _, S, q⟩, ?_⟩
  rintro i m σ2 H2 ⟨rfl, hi, ι2, ρ2, M2, x2, S2, f, M', e, fq⟩
  by_cases hlt : i < w.items.length
  · rw [List.drop_eq_getElem_cons hlt, forL] at e
    split at e
    · rename_i hok
      refine .inr ⟨ok.go ι2 M2 H2 i x2 S2.m hok hlt, fun σ3 H3 => ∃ ι3 ρ3 M3, Ext ι ι3 M.sz M3.sz H H3 ∧ Sim Γ ι3 M3 H3 ρ3 σ3 ∧ ResS Γ ι3 M3 H3 (forL w.ok g b (w.items.drop (i + 1)) ρ3 M3) E, fun σ' H' ⟨ι3, ρ3, M3, x3, S3, q3⟩ => ⟨w.items.length - (i + 1), by omega, rfl, hlt, ι3, ρ3, M3, x3, S3, q3⟩, fun x H3 y => ?_⟩
      obtain ⟨d, hd, rd, x3, r3⟩ := ok.yld ι2 M2 H2 i x H3 x2 S2.m hok hlt y
      have hd' : w.items[i] = d := by
        rw [List.getElem?_eq_getElem hlt] at hd
        exact Option.some.inj hd
      rw [hd'] at e
      have S3 : Sim Γ ι2 M2 H3 ρ2 σ2 := S2.ext (M' := M2) x3 r3
      have x23 := x2.trans S2.m x3
      split at e
      · cases e
      · rename_i ρ4 M4 e4
        refine ⟨ι2, ρ2, M2, d, S3, rd, ρ4, M4, e4, fun σ4 H4 ι4 x4 S4 => ?_⟩
        have x24 := x23.trans S3.m x4
        refine ⟨ι4, ρ4, M4, S4, ?_⟩
        split at e
        · cases e
        · rename_i ρ5 M5 e5
          refine ⟨_, _, e5, fun σ5 H5 ι5 x5 S5 => ?_⟩
          have x25 := x24.trans S4.m x5
          exact ⟨ι5, ρ5, M5, x25, S5, f, M', e, FlT.later ((x3.trans S3.m x4).trans S4.m x5) S5.m fq⟩
        · rename_i ρ5 M5 e5
          refine ⟨_, _, e5, fun σ5 H5 ι5 x5 S5 => ?_⟩
          have x25 := x24.trans S4.m x5
          exact ⟨ι5, ρ5, M5, x25, S5, f, M', e, FlT.later ((x3.trans S3.m x4).trans S4.m x5) S5.m fq⟩
        · rename_i ρ5 M5 e5
          cases e
          refine ⟨_, _, e5, fun σ5 H5 ι5 x5 S5 => fq σ5 H5 ι5 ((x3.trans S3.m x4).trans S4.m x5) S5⟩
        · rename_i v5 M5 e5
          cases e
          refine ⟨_, _, e5, fun v H5 ι5 x5 r5 rd => fq v H5 ι5 ((x3.trans S3.m x4).trans S4.m x5) r5 rd⟩
    · cases e
  · have hn : w.items.length ≤ i := Nat.not_lt.mp hlt
    rw [List.drop_eq_nil_of_le hn, forL] at e
    split at e
    · rename_i hok
      cases e
      exact .inl ⟨ok.stop ι2 M2 H2 i x2 S2.m hok hn, fq σ2 H2 ι2 (Ext.refl _ _ _) S2⟩
    · cases e
theorem forL_ends (ok : Mem → Bool) (g : Gv) (b : Sv) : ∀ (ds : List D) (ρ : Rho) (M : Mem) (f : Fl) (M' : Mem), forL ok g b ds ρ M = some (f, M') → (∃ ρ', f = .nx ρ') ∨ ∃ v, f = .rt v
  | [], ρ, M, f, M', e => by
    rw [forL] at e
    split at e
    · cases e; exact .inl ⟨_, rfl⟩
    · cases e
  | d :: ds, ρ, M, f, M', e => by
    rw [forL] at e
    split at e
    · split at e
      · cases e
      · split at e
        · cases e
        · exact forL_ends ok g b ds _ _ f M' e
        · exact forL_ends ok g b ds _ _ f M' e
        · cases e; exact .inl ⟨_, rfl⟩
        · cases e; exact .inr ⟨_, rfl⟩
    · cases e
theorem s_for (hp : PassesOwn (model X.prog X.w) X.A X.env X.xe) (hc : X.calm = true) (hi : PI X tg iter (iW Γ m)) (hg : PG X tg (tG Γ g)) (hb : PSs X body (tS Γ b)) (hs : ∀ x, foldedSetIterable iter X.env x = pure x := by intro _; rfl) :
    PS X (.For tg iter body [] pos) (tS Γ (sFor m g b)) := by
  refine PS.of (ps_for hp hc hi hg hb hs) fun E σ H h => ?_
  obtain ⟨ι, ρ, M, S, f, M', e, q⟩ := h
  obtain ⟨w, M1, e1, e⟩ := bnd_inv e
  refine ⟨ι, ρ, M, S, w, M1, e1, fun J H1 ι1 x1 r1 ok => ?_⟩
  exact for_go (S.ext x1 r1) ok ⟨f, M', e, FlT.later x1 r1 q⟩ fun f M' e => forL_ends _ _ _ _ _ _ f M' e
end

/-! ### while -/
def whileN (c : Bv) (b : Sv) : Nat → Sv
  | 0, _, _ => none
  | k + 1, ρ, M => bnd (c ρ M) fun t M1 => if t = true then match b ρ M1 with
      | none => none
      | some (.nx ρ2, M2) => whileN c b k ρ2 M2
      | some (.ct ρ2, M2) => whileN c b k ρ2 M2
      | some (.bk ρ2, M2) => some (.nx ρ2, M2)
      | some (.rt v, M2) => some (.rt v, M2)
    else some (.nx ρ, M1)
/-- so many turns are gone at most -/
def turns : Nat := 1000000
def sWhile (c : Bv) (b : Sv) : Sv := whileN c b turns
section
variable {Γ : Ga} {X : Cx} {c : Expr} {body : List Stmt} {t : Bv} {b : Sv} {pos : Pos}
theorem while_go {σ : St} {H : Hp} {E : Ends} {ι : Nat → Addr} {ρ : Rho} {M : Mem} (S : Sim Γ ι M H ρ σ) (k : Nat) (q : ResS Γ ι M H (whileN t b k ρ M) E) : tWhile (tB Γ t) (tS Γ b) E σ H := by
  refine ⟨fun m σ H => ∃ ι ρ M, Sim Γ ι M H ρ σ ∧ ResS Γ ι M H (whileN t b m ρ M) E, ⟨k, ι, ρ, M, S, q⟩, ?_⟩
  rintro m σ H ⟨ι, ρ, M, S, f, M', e, q⟩
  cases m with
  | zero => cases e
  | succ m =>
    obtain ⟨v, M1, e1, e⟩ := bnd_inv e
    refine ⟨ι, ρ, M, S, v, M1, e1, fun H1 ι1 x1 r1 => ?_⟩
    have S1 := S.ext x1 r1
    cases v with
    | false =>
      rw [if_neg Bool.false_ne_true] at e
      cases e
      exact iteF (q σ H1 ι1 x1 S1)
    | true =>
      rw [if_pos rfl] at e
      refine iteT ⟨fun σ H => ∃ ι ρ M, Sim Γ ι M H ρ σ ∧ ResS Γ ι M H (whileN t b m ρ M) E, fun σ' H' h => ⟨m, Nat.lt_succ_self m, h⟩, ι1, ρ, M1, S1, ?_⟩
      split at e
      · cases e
      · rename_i ρ5 M5 e5
        exact ⟨_, _, e5, fun σ5 H5 ι5 x5 S5 => ⟨ι5, ρ5, M5, S5, f, M', e, FlT.later (x1.trans r1 x5) S5.m q⟩⟩
      · rename_i ρ5 M5 e5
        exact ⟨_, _, e5, fun σ5 H5 ι5 x5 S5 => ⟨ι5, ρ5, M5, S5, f, M', e, FlT.later (x1.trans r1 x5) S5.m q⟩⟩
      · rename_i ρ5 M5 e5
        cases e
        exact ⟨_, _, e5, fun σ5 H5 ι5 x5 S5 => q σ5 H5 ι5 (x1.trans r1 x5) S5⟩
      · rename_i v5 M5 e5
        cases e
        exact ⟨_, _, e5, fun v H5 ι5 x5 r5 rd => q v H5 ι5 (x1.trans r1 x5) r5 rd⟩
theorem s_while (hp : PassesOwn (model X.prog X.w) X.A X.env X.xe) (hc : PT X c (tB Γ t)) (hb : PSs X body (tS Γ b)) : PS X (.While c body [] pos) (tS Γ (sWhile t b)) := by
  refine PS.of (ps_while hp hc hb) fun E σ H h => ?_
  obtain ⟨ι, ρ, M, S, q⟩ := h
  exact while_go S turns q
end

/-! ### small statements, blocks -/
def sNil : Sv := fun ρ M => some (.nx ρ, M)
def sCons (m n : Sv) : Sv := fun ρ M => match m ρ M with
  | none => none
  | some (.nx ρ1, M1) => n ρ1 M1
  | some (f, M1) => some (f, M1)
def sEx (m : Ev) : Sv := fun ρ M => bnd (m ρ M) fun _ M1 => some (.nx ρ, M1)
def sRet (m : Ev) : Sv := fun ρ M => bnd (m ρ M) fun d M1 => some (.rt d, M1)
def sRetN : Sv := fun _ M => some (.rt .non, M)
def sIf (c : Bv) (m n : Sv) : Sv := fun ρ M => bnd (c ρ M) fun t M1 => if t = true then m ρ M1 else n ρ M1
def sAsg (m : Ev) (g : Gv) : Sv := fun ρ M => bnd (m ρ M) fun d M1 => (g d ρ M1).map fun p => (.nx p.1, p.2)
def sBrk : Sv := fun ρ M => some (.bk ρ, M)
def sCnt : Sv := fun ρ M => some (.ct ρ, M)
def sNo : Sv := fun _ _ => none
section
variable {Γ : Ga} {X : Cx} {st : Stmt} {rest : List Stmt} {m n : Sv} {e : Expr} {me : Ev} {pos : Pos}
theorem s_nil : PSs X [] (tS Γ sNil) := by
  refine PSs.of pss_nil fun E σ H h => ?_
  obtain ⟨ι, ρ, M, S, f, M', e, q⟩ := h
  cases e
  exact q σ H ι (Ext.refl _ _ _) S
theorem s_cons (h1 : PS X st (tS Γ m)) (h2 : PSs X rest (tS Γ n)) : PSs X (st :: rest) (tS Γ (sCons m n)) := by
  refine PSs.of (pss_cons h1 h2) fun E σ H h => ?_
  obtain ⟨ι, ρ, M, S, f, M', e, q⟩ := h
  refine ⟨ι, ρ, M, S, ?_⟩
  unfold sCons at e
  split at e
  · cases e
  · rename_i ρ1 M1 e1
    exact ⟨_, _, e1, fun σ1 H1 ι1 x1 S1 => ⟨ι1, ρ1, M1, S1, f, M', e, FlT.later x1 S1.m q⟩⟩
  · rename_i f1 M1 hn e1
    cases e
    refine ⟨_, _, e1, ?_⟩
    cases f with
    | nx ρ' => exact absurd rfl (hn ρ')
    | rt d => exact q
    | bk ρ' => exact q
    | ct ρ' => exact q
theorem s_ex (he : PE X e (tE Γ me)) (hs : swapsWith e none pos.line X.env = pure false := by rfl) : PS X (.Expr e pos) (tS Γ (sEx me)) := by
  refine PS.of (ps_expr he hs) fun E σ H h => ?_
  obtain ⟨ι, ρ, M, S, f, M', e, q⟩ := h
  obtain ⟨d, M1, e1, e⟩ := bnd_inv e
  cases e
  exact ⟨ι, ρ, M, S, d, _, e1, fun v H1 ι1 x1 r1 rd => q σ H1 ι1 x1 (S.ext x1 r1)⟩
theorem s_ret (he : PE X e (tE Γ me)) : PS X (.Return (some e) pos) (tS Γ (sRet me)) := by
  refine PS.of (ps_ret he) fun E σ H h => ?_
  obtain ⟨ι, ρ, M, S, f, M', e, q⟩ := h
  obtain ⟨d, M1, e1, e⟩ := bnd_inv e
  cases e
  exact ⟨ι, ρ, M, S, d, _, e1, q⟩
theorem s_retN : PS X (.Return none pos) (tS Γ sRetN) := by
  refine PS.of ps_retN fun E σ H h => ?_
  obtain ⟨ι, ρ, M, S, f, M', e, q⟩ := h
  cases e
  exact q _ H ι (Ext.refl _ _ _) S.m .non
theorem s_if {c : Expr} {a b : List Stmt} {t : Bv} (hc : PT X c (tB Γ t)) (ha : PSs X a (tS Γ m)) (hb : PSs X b (tS Γ n)) : PS X (.If c a b pos) (tS Γ (sIf t m n)) := by
  refine PS.of (ps_if hc ha hb) fun E σ H h => ?_
  obtain ⟨ι, ρ, M, S, f, M', e, q⟩ := h
  obtain ⟨v, M1, e1, e⟩ := bnd_inv e
  refine ⟨ι, ρ, M, S, v, M1, e1, fun H1 ι1 x1 r1 => ?_⟩
  cases v with
  | true => exact iteT ⟨ι1, ρ, M1, S.ext x1 r1, f, M', e, FlT.later x1 r1 q⟩
  | false => exact iteF ⟨ι1, ρ, M1, S.ext x1 r1, f, M', e, FlT.later x1 r1 q⟩
theorem asg_go {g : Gv} {E : Ends} {σ : St} {H : Hp} (h : tS Γ (sAsg me g) E σ H) : tAsg (tE Γ me) (tG Γ g) E σ H := by
  obtain ⟨ι, ρ, M, S, f, M', e, q⟩ := h
  obtain ⟨d, M1, e1, e⟩ := bnd_inv e
  obtain ⟨p, e2, e3⟩ := Option.map_eq_some_iff.mp e
  cases e3
  refine ⟨ι, ρ, M, S, d, M1, e1, fun v H1 ι1 x1 r1 rd => ⟨ι1, ρ, M1, d, S.ext x1 r1, rd, p.1, p.2, e2, fun σ2 H2 ι2 x2 S2 => ?_⟩⟩
  exact q σ2 H2 ι2 (x1.trans r1 x2) S2
theorem s_asg {tg : Expr} {g : Gv} (he : PE X e (tE Γ me)) (hg : PG X tg (tG Γ g)) (hs : swapsWithSole [tg] e pos.line X.env = pure false := by rfl) (hw : swappedStores [tg] e X.env = pure none := by rfl)
    (h1 : (assignEach [tg] X.env).map (·.2) = [assign tg X.env] := by rfl) : PS X (.Assign [tg] e pos) (tS Γ (sAsg me g)) := PS.of (ps_asg he hg hs hw h1) fun _ _ _ h => asg_go h
theorem s_brk : PS X (.Break pos) (tS Γ sBrk) := by
  refine PS.of ps_break fun E σ H h => ?_
  obtain ⟨ι, ρ, M, S, f, M', e, q⟩ := h
  cases e
  exact q σ H ι (Ext.refl _ _ _) S
theorem s_cnt : PS X (.Continue pos) (tS Γ sCnt) := by
  refine PS.of ps_continue fun E σ H h => ?_
  obtain ⟨ι, ρ, M, S, f, M', e, q⟩ := h
  cases e
  exact q σ H ι (Ext.refl _ _ _) S
theorem s_pass : PS X (.Pass pos) (tS Γ sNil) := by
  refine PS.of ps_pass fun E σ H h => ?_
  obtain ⟨ι, ρ, M, S, f, M', e, q⟩ := h
  cases e
  exact q σ H ι (Ext.refl _ _ _) S
/-- a text that says what a def does -/
theorem s_doc {x j pos pos'} : PS X (.Expr (.Constant (.str x) j pos) pos') (tS Γ sNil) := by
  refine PS.of ps_doc fun E σ H h => ?_
  obtain ⟨ι, ρ, M, S, f, M', e, q⟩ := h
  cases e
  exact q σ H ι (Ext.refl _ _ _) S
/-- what is never come to -/
theorem s_no : PS X st (tS Γ sNo) := ⟨fun _ _ _ _ _ _ h => by
  obtain ⟨ι, ρ, M, S, f, M', e, q⟩ := h
  cases e⟩
end
end Nl

set_option autoImplicit false
/-! Nl, part H: what is walked; comprehensions; methods of what is built in. -/
namespace Nl
open PySem L2

theorem PI.either {X : Cx} {tg e : Expr} {t t' : TI} (h : PI X tg e t) (h' : PI X tg e t') : PI X tg e (fun σ H Q => t σ H Q ∨ t' σ H Q) := ⟨fun pins s σ H Q I q => q.elim (h.run pins s σ H Q I) (h'.run pins s σ H Q I)⟩
theorem wk_ok {w : Wk} {M : Mem} {n : Nat} {o : O} (h : w.ok M = true) (hm : (n, o) ∈ w.gs) : M.get n = some o := by
  unfold Wk.ok at h
  exact of_decide_eq_true (List.all_eq_true.mp h _ hm)

/-! ### a list, a tuple, a text -/
def wSeq (m : Ev) : Wv := fun ρ M => bnd (m ρ M) fun d M1 => match d with
  | .tup ds => some (⟨ds, []⟩, M1)
  | .rol xs => some (⟨xs.map .int, []⟩, M1)
  | .str z => some (⟨z.cps.toList.map fun c => .str ⟨#[c]⟩, []⟩, M1)
  | .ref n => match M1.get n with
    | some (.lst ds) => some (⟨ds, [(n, .lst ds)]⟩, M1)
    | _ => none
  | _ => none
section
variable {Γ : Ga} {X : Cx} {ι : Nat → Addr} {M : Mem} {H : Hp}
theorem itok_list {n : Nat} {ds : List D} (rm : RM Γ ι M H) (hn : n < M.sz) : ItOk Γ (Itl Γ.K (ι n)) ⟨ds, [(n, .lst ds)]⟩ ι M H where
  go := fun ι2 M2 H2 i x r ok hi => by
    obtain ⟨vs, e, rl⟩ := r.ob n _ (wk_ok ok (List.mem_singleton.mpr rfl))
    rw [x.ag n hn] at e
    obtain ⟨v, hv, _⟩ := rl.get (List.getElem?_eq_getElem hi)
    exact ⟨vs, v, SqL.of e, hv⟩
  stop := fun ι2 M2 H2 i x r ok hi => by
    obtain ⟨vs, e, rl⟩ := r.ob n _ (wk_ok ok (List.mem_singleton.mpr rfl))
    rw [x.ag n hn] at e
    exact ⟨vs, SqL.of e, by rw [← rl.length]; exact hi⟩
  yld := fun ι2 M2 H2 i v H3 x r ok hi y => by
    obtain ⟨e3, y⟩ := y
    subst e3
    obtain ⟨vs, e, rl⟩ := r.ob n _ (wk_ok ok (List.mem_singleton.mpr rfl))
    rw [x.ag n hn] at e
    obtain ⟨v', hv, rv⟩ := rl.get (List.getElem?_eq_getElem hi)
    have := y vs (SqL.of e)
    rw [hv] at this
    cases this
    exact ⟨_, List.getElem?_eq_getElem hi, rv, Ext.refl _ _ _, r⟩
/-- things that stand still -/
theorem itok_still {ds : List D} {vs : List V} {J : It} (rm : RM Γ ι M H) (rl : RL Γ ι M.sz H ds vs) (hgo : ∀ ι2 N2 H2 i, Ext ι ι2 M.sz N2 H H2 → i < vs.length → J.go i H2) (hstop : ∀ ι2 N2 H2 i, Ext ι ι2 M.sz N2 H H2 → vs.length ≤ i → J.stop i H2)
    (hy : ∀ ι2 N2 H2 i v H3, Ext ι ι2 M.sz N2 H H2 → i < vs.length → J.yld i H2 v H3 → H3 = H2 ∧ vs[i]? = some v) : ItOk Γ J ⟨ds, []⟩ ι M H where
  go := fun ι2 M2 H2 i x r ok hi => hgo ι2 _ H2 i x (by rw [← rl.length]; exact hi)
  stop := fun ι2 M2 H2 i x r ok hi => hstop ι2 _ H2 i x (by rw [← rl.length]; exact hi)
  yld := fun ι2 M2 H2 i v H3 x r ok hi y => by
    obtain ⟨e3, hv⟩ := hy ι2 _ H2 i v H3 x (by rw [← rl.length]; exact hi) y
    subst e3
    obtain ⟨v', hv', rv⟩ := rl.get (List.getElem?_eq_getElem (show i < ds.length from hi))
    rw [hv'] at hv
    cases hv
    exact ⟨_, List.getElem?_eq_getElem hi, rv.ext rm x, Ext.refl _ _ _, r⟩
theorem itok_tup {a : Addr} {ds : List D} {vs : List V} (rm : RM Γ ι M H) (hs : SqT Γ.K H a vs) (rl : RL Γ ι M.sz H ds vs) : ItOk Γ (Itt Γ.K a) ⟨ds, []⟩ ι M H := by
  refine itok_still rm rl (fun ι2 N2 H2 i x hi => ?_) (fun ι2 N2 H2 i x hi => ?_) fun ι2 N2 H2 i v H3 x hi y => ?_
  · exact ⟨vs, _, sqT_keep hs (rm.keeps x _), List.getElem?_eq_getElem hi⟩
  · exact ⟨vs, sqT_keep hs (rm.keeps x _), hi⟩
  · obtain ⟨e3, y⟩ := y
    exact ⟨e3, y vs (sqT_keep hs (rm.keeps x _))⟩
theorem itok_rol {a : Addr} {xs : List Int} (rm : RM Γ ι M H) (hs : RoL Γ.K H a (xs.map V.int)) : ItOk Γ (Itl Γ.K a) ⟨xs.map .int, []⟩ ι M H := by
  refine itok_still rm (rl_ints xs) (fun ι2 N2 H2 i x hi => ?_) (fun ι2 N2 H2 i x hi => ?_) fun ι2 N2 H2 i v H3 x hi y => ?_
  · exact ⟨_, _, (rol_keep hs (rm.keeps x _)).sq, List.getElem?_eq_getElem hi⟩
  · exact ⟨_, (rol_keep hs (rm.keeps x _)).sq, hi⟩
  · obtain ⟨e3, y⟩ := y
    exact ⟨e3, y _ (rol_keep hs (rm.keeps x _)).sq⟩
theorem rl_signs : ∀ cs : List Nat, RL Γ ι M.sz H (cs.map fun c => .str ⟨#[c]⟩) (cs.map fun c => V.str ⟨#[c]⟩)
  | [] => .nil
  | c :: cs => .cons (.str _) (rl_signs cs)
theorem itok_str {z : Str} (rm : RM Γ ι M H) : ItOk Γ (Its z) ⟨z.cps.toList.map fun c => .str ⟨#[c]⟩, []⟩ ι M H := by
  refine itok_still rm (rl_signs z.cps.toList) (fun ι2 N2 H2 i x hi => ?_) (fun ι2 N2 H2 i x hi => ?_) fun ι2 N2 H2 i v H3 x hi y => ?_
  · rw [List.length_map, Array.length_toList] at hi; exact hi
  · rw [List.length_map, Array.length_toList] at hi; exact hi
  · obtain ⟨e3, c, hc, ev⟩ := y
    refine ⟨e3, ?_⟩
    rw [List.getElem?_map, Array.getElem?_toList, hc, ev]
    rfl
theorem itok_rng {lo : Int} {n : Nat} (rm : RM Γ ι M H) : ItOk Γ (Itr lo n) ⟨(List.range n).map fun i => .int (lo + (i : Nat)), []⟩ ι M H := by
  have rl : RL Γ ι M.sz H ((List.range n).map fun i => .int (lo + (i : Nat))) ((List.range n).map fun i => V.int (lo + (i : Nat))) := by
    have : ∀ l : List Nat, RL Γ ι M.sz H (l.map fun i => .int (lo + (i : Nat))) (l.map fun i => V.int (lo + (i : Nat))) := fun l => by
      induction l with
      | nil => exact .nil
      | cons x xs ih => exact .cons (.int _) ih
    exact this _
  refine itok_still rm rl (fun ι2 N2 H2 i x hi => ?_) (fun ι2 N2 H2 i x hi => ?_) fun ι2 N2 H2 i v H3 x hi y => ?_
  · rw [List.length_map, List.length_range] at hi; exact hi
  · rw [List.length_map, List.length_range] at hi; exact hi
  · obtain ⟨e3, ev⟩ := y
    rw [List.length_map, List.length_range] at hi
    refine ⟨e3, ?_⟩
    rw [List.getElem?_map, List.getElem?_range hi, ev]
    rfl
variable {tg e : Expr} {m : Ev}
theorem w_seq (hK : X.K = Γ.K) (he : PE X e (tE Γ m)) : PI X tg e (iW Γ (wSeq m)) := by
  have h1 := Nl.PI.either (pi_list (tg := tg) he) (Nl.PI.either (pi_tup (tg := tg) he) (pi_str (tg := tg) he))
  refine ⟨fun pins s σ H Rr I h => ?_⟩
  obtain ⟨ι, ρ, M, S, w, M', e, q⟩ := h
  obtain ⟨d, M1, e1, e⟩ := bnd_inv e
  refine h1.run pins s σ H Rr I ?_
  split at e
  · cases e
    refine .inr (.inl ⟨ι, ρ, M, S, _, _, e1, fun v H1 ι1 x1 r1 rd => ?_⟩)
    cases rd with
    | tup hs rl => exact ⟨_, rfl, ⟨_, by rw [hK]; exact hs⟩, by rw [hK]; exact q _ H1 ι1 x1 r1 (itok_tup r1 hs rl)⟩
  · cases e
    refine .inl ⟨ι, ρ, M, S, _, _, e1, fun v H1 ι1 x1 r1 rd => ?_⟩
    cases rd with
    | rol hs => exact ⟨_, rfl, ⟨_, by rw [hK]; exact hs.sq⟩, by rw [hK]; exact q _ H1 ι1 x1 r1 (itok_rol r1 hs)⟩
  · cases e
    refine .inr (.inr ⟨ι, ρ, M, S, _, _, e1, fun v H1 ι1 x1 r1 rd => ?_⟩)
    cases rd
    exact ⟨_, rfl, q _ H1 ι1 x1 r1 (itok_str r1)⟩
  · split at e
    · rename_i g
      cases e
      refine .inl ⟨ι, ρ, M, S, _, _, e1, fun v H1 ι1 x1 r1 rd => ?_⟩
      cases rd
      obtain ⟨vs, e2, rl⟩ := r1.ob _ _ g
      exact ⟨_, rfl, ⟨_, SqL.of e2⟩, by rw [hK]; exact q _ H1 ι1 x1 r1 (itok_list r1 (Mem.get_lt g))⟩
    · cases e
  · cases e
end

/-! ### range -/
def wRng1 (m : Ev) : Wv := fun ρ M => bnd (m ρ M) fun d M1 => match d with
  | .int j => if -(2 ^ 62) ≤ j ∧ j < 2 ^ 62 then some (⟨(List.range j.toNat).map fun i => .int (0 + (i : Nat)), []⟩, M1) else none
  | _ => none
def wRng2 (m n : Ev) : Wv := fun ρ M => bnd (m ρ M) fun a M1 => bnd (n ρ M1) fun b M2 => match a, b with
  | .int i, .int j => if (-(2 ^ 62) ≤ i ∧ i < 2 ^ 62) ∧ -(2 ^ 62) ≤ j ∧ j < 2 ^ 62 then some (⟨(List.range (j - i).toNat).map fun k => .int (i + (k : Nat)), []⟩, M2) else none
  | _, _ => none
section
variable {Γ : Ga} {X : Cx} {tg a b : Expr} {ma mb : Ev} {p pos : Pos}
theorem w_rng1 (hm : X.mg "range" = none) (ha : PE X a (tE Γ ma)) (hg : Gl X "range" := by rfl) (hs : starEach [a] X.env = [(false, eval a X.env)] := by rfl) : PI X tg (.Call (.Name "range" p) [a] [] pos) (iW Γ (wRng1 ma)) := by
  refine PI.of (pi_range1 hg hm (pa_cons ha pa_nil hs) hs) fun σ H Rr h => ?_
  obtain ⟨ι, ρ, M, S, w, M', e, q⟩ := h
  obtain ⟨d, M1, e1, e⟩ := bnd_inv e
  split at e
  · split at e
    · rename_i hz
      cases e
      refine ⟨ι, ρ, M, S, _, _, e1, fun v H1 ι1 x1 r1 rd => ?_⟩
      cases rd
      exact ⟨_, rfl, hz.1, hz.2, q _ H1 ι1 x1 r1 (itok_rng r1)⟩
    · cases e
  · cases e
theorem w_rng2 (hm : X.mg "range" = none) (ha : PE X a (tE Γ ma)) (hb : PE X b (tE Γ mb)) (hg : Gl X "range" := by rfl) (hs : starEach [a, b] X.env = [(false, eval a X.env), (false, eval b X.env)] := by rfl) (hs2 : starEach [b] X.env = [(false, eval b X.env)] := by rfl) :
    PI X tg (.Call (.Name "range" p) [a, b] [] pos) (iW Γ (wRng2 ma mb)) := by
  refine PI.of (pi_range2 hg hm (pa_cons ha (pa_cons hb pa_nil hs2) (by rw [hs, hs2])) hs hs2) fun σ H Rr h => ?_
  obtain ⟨ι, ρ, M, S, w, M', e, q⟩ := h
  obtain ⟨d1, M1, e1, e⟩ := bnd_inv e
  obtain ⟨d2, M2, e2, e⟩ := bnd_inv e
  split at e
  · split at e
    · rename_i hz
      cases e
      refine ⟨ι, ρ, M, S, _, _, e1, fun v H1 ι1 x1 r1 rd => ⟨ι1, ρ, M1, S.ext x1 r1, _, _, e2, fun v2 H2 ι2 x2 r2 rd2 => ?_⟩⟩
      cases rd; cases rd2
      exact ⟨_, _, rfl, ⟨hz.1.1, hz.1.2, hz.2.1, hz.2.2⟩, q _ H2 ι2 (x1.trans r1 x2) r2 (itok_rng r2)⟩
    · cases e
  · cases e
end

/-! ### enumerate, zip, of lists -/
def enumD (k : Nat) : List D → List D
  | [] => []
  | d :: ds => .tup [.int (k : Nat), d] :: enumD (k + 1) ds
def zipD : List D → List D → List D
  | a :: as, b :: bs => .tup [a, b] :: zipD as bs
  | _, _ => []
theorem enumD_len : ∀ (k : Nat) (ds : List D), (enumD k ds).length = ds.length
  | _, [] => rfl
  | k, d :: ds => congrArg Nat.succ (enumD_len (k + 1) ds)
theorem enumD_get : ∀ (k : Nat) (ds : List D) (i : Nat) (d : D), ds[i]? = some d → (enumD k ds)[i]? = some (.tup [.int ((k + i : Nat)), d])
  | _, [], _, _, h => by simp at h
  | k, d :: ds, 0, e, h => by simp at h; subst h; rfl
  | k, d :: ds, i + 1, e, h => by
    rw [enumD, List.getElem?_cons_succ, enumD_get (k + 1) ds i e (by simpa using h)]
    rw [Nat.add_right_comm, Nat.add_assoc]
theorem zipD_len : ∀ (as bs : List D), (zipD as bs).length = min as.length bs.length
  | [], _ => by simp [zipD]
  | _ :: _, [] => by simp [zipD]
  | a :: as, b :: bs => by rw [zipD, List.length_cons, List.length_cons, List.length_cons, zipD_len as bs]; omega
theorem zipD_get : ∀ (as bs : List D) (i : Nat) (a b : D), as[i]? = some a → bs[i]? = some b → (zipD as bs)[i]? = some (.tup [a, b])
  | [], _, _, _, _, h, _ => by simp at h
  | _ :: _, [], _, _, _, _, h => by simp at h
  | a :: as, b :: bs, 0, x, y, h1, h2 => by simp at h1 h2; subst h1 h2; rfl
  | a :: as, b :: bs, i + 1, x, y, h1, h2 => by rw [zipD, List.getElem?_cons_succ]; exact zipD_get as bs i x y (by simpa using h1) (by simpa using h2)
def wEnum (m : Ev) : Wv := fun ρ M => bnd (m ρ M) fun d M1 => match d with
  | .ref n => match M1.get n with
    | some (.lst ds) => some (⟨enumD 0 ds, [(n, .lst ds)]⟩, M1)
    | _ => none
  | _ => none
def wZip (m n : Ev) : Wv := fun ρ M => bnd (m ρ M) fun a M1 => bnd (n ρ M1) fun b M2 => match a, b with
  | .ref i, .ref j => match M2.get i, M2.get j with
    | some (.lst ds), some (.lst es) => some (⟨zipD ds es, [(i, .lst ds), (j, .lst es)]⟩, M2)
    | _, _ => none
  | _, _ => none
section
variable {Γ : Ga} {X : Cx} {e e2 : Expr} {m m2 : Ev} {p pos tpos : Pos} {elts : List Expr} {kk : Nat}
theorem two_tup {ι : Nat → Addr} {N : Nat} {H : Hp} {T : Addr} {a b : D} {x y : V} (hT : H T = none) (ra : R Γ ι N H a x) (rb : R Γ ι N H b y) : R Γ ι N (upd H T (.tup [x, y])) (.tup [a, b]) (.ref T) :=
  .tup (SqT.of upd_same) (.cons (ra.upd (loose_none hT)) (.cons (rb.upd (loose_none hT)) .nil))
theorem w_enum (hK : X.K = Γ.K) (hm : X.mg "enumerate" = none) (he : PE X e (tE Γ m)) (hg : Gl X "enumerate" := by rfl) (hs : starEach [e] X.env = [(false, eval e X.env)] := by rfl) : PI X (.Tuple elts kk tpos) (.Call (.Name "enumerate" p) [e] [] pos) (iW Γ (wEnum m)) := by
  refine PI.of (pi_enum hg hm (pa_cons he pa_nil hs) hs) fun σ H Rr h => ?_
  obtain ⟨ι, ρ, M, S, w, M', e, q⟩ := h
  obtain ⟨d, M1, e1, e⟩ := bnd_inv e
  split at e
  · rename_i n
    split at e
    · rename_i ds g
      cases e
      refine ⟨ι, ρ, M, S, _, _, e1, fun v H1 ι1 x1 r1 rd => ?_⟩
      cases rd
      obtain ⟨vs, e2, rl⟩ := r1.ob _ _ g
      refine ⟨_, vs, rfl, SqL.of e2, ?_⟩
      rw [hK]
      have hn := Mem.get_lt g
      refine q _ H1 ι1 x1 r1 ⟨fun ι2 M2 H2 i x r ok hi => ?_, fun ι2 M2 H2 i x r ok hi => ?_, fun ι2 M2 H2 i v H3 x r ok hi y => ?_⟩
      · obtain ⟨vs, e3, rl⟩ := r.ob n _ (wk_ok ok (List.mem_singleton.mpr rfl))
        rw [x.ag n hn] at e3
        rw [enumD_len] at hi
        obtain ⟨v, hv, _⟩ := rl.get (List.getElem?_eq_getElem hi)
        exact ⟨vs, v, SqL.of e3, hv⟩
      · obtain ⟨vs, e3, rl⟩ := r.ob n _ (wk_ok ok (List.mem_singleton.mpr rfl))
        rw [x.ag n hn] at e3
        rw [enumD_len] at hi
        exact ⟨vs, SqL.of e3, by rw [← rl.length]; exact hi⟩
      · obtain ⟨T, u, rfl, hT, rfl, y⟩ := y
        obtain ⟨vs, e3, rl⟩ := r.ob n _ (wk_ok ok (List.mem_singleton.mpr rfl))
        rw [x.ag n hn] at e3
        rw [enumD_len] at hi
        obtain ⟨v', hv, rv⟩ := rl.get (List.getElem?_eq_getElem hi)
        have := y vs (SqL.of e3)
        rw [hv] at this
        cases this
        refine ⟨_, enumD_get 0 ds i _ (List.getElem?_eq_getElem hi), ?_, Ext.junk hT, r.junk hT⟩
        rw [Nat.zero_add]
        exact two_tup hT (.int _) rv
    · cases e
  · cases e
theorem w_zip (hK : X.K = Γ.K) (hm : X.mg "zip" = none) (he : PE X e (tE Γ m)) (he2 : PE X e2 (tE Γ m2)) (hg : Gl X "zip" := by rfl) (hs : starEach [e, e2] X.env = (false, eval e X.env) :: starEach [e2] X.env := by rfl) (hs2 : starEach [e2] X.env = (false, eval e2 X.env) :: starEach [] X.env := by rfl)
    (hpl : (backTo pos (starEach [e2] X.env)).any (·.1) = false := by rfl) : PI X (.Tuple elts kk tpos) (.Call (.Name "zip" p) [e, e2] [] pos) (iW Γ (wZip m m2)) := by
  refine PI.of (pi_zip hg hm (pa_cons he (pa_cons he2 pa_nil hs2) hs) hs hpl) fun σ H Rr h => ?_
  obtain ⟨ι, ρ, M, S, w, M', e, q⟩ := h
  obtain ⟨d1, M1, e1, e⟩ := bnd_inv e
  obtain ⟨d2, M2, e2, e⟩ := bnd_inv e
  split at e
  · rename_i i1 j1 _
    split at e
    · rename_i ds es g1 g2
      cases e
      refine ⟨ι, ρ, M, S, _, _, e1, fun v H1 ι1 x1 r1 rd => ⟨ι1, ρ, M1, S.ext x1 r1, _, _, e2, fun v2 H2 ι2 x2 r2 rd2 => ?_⟩⟩
      have rd' := rd.ext r1 x2
      cases rd'
      cases rd2
      obtain ⟨vs, h1, rl1⟩ := r2.ob _ _ g1
      obtain ⟨us, h2, rl2⟩ := r2.ob _ _ g2
      refine ⟨_, _, vs, us, rfl, SqL.of h1, SqL.of h2, ?_⟩
      rw [hK]
      have hn1 := Mem.get_lt g1
      have hn2 := Mem.get_lt g2
      have m1 : (i1, O.lst ds) ∈ [(i1, O.lst ds), (j1, O.lst es)] := List.mem_cons_self
      have m2 : (j1, O.lst es) ∈ [(i1, O.lst ds), (j1, O.lst es)] := List.mem_cons_of_mem _ List.mem_cons_self
      refine q _ H2 ι2 (x1.trans r1 x2) r2 ⟨fun ι3 M3 H3 i x r ok hi => ?_, fun ι3 M3 H3 i x r ok hi => ?_, fun ι3 M3 H3 i v H4 x r ok hi y => ?_⟩
      · obtain ⟨vs, h1, rl1⟩ := r.ob _ _ (wk_ok ok m1)
        obtain ⟨us, h2, rl2⟩ := r.ob _ _ (wk_ok ok m2)
        rw [x.ag _ hn1] at h1
        rw [x.ag _ hn2] at h2
        rw [zipD_len] at hi
        obtain ⟨v, hv, _⟩ := rl1.get (List.getElem?_eq_getElem (show i < ds.length by omega))
        obtain ⟨u, hu, _⟩ := rl2.get (List.getElem?_eq_getElem (show i < es.length by omega))
        exact ⟨vs, us, v, u, SqL.of h1, SqL.of h2, hv, hu⟩
      · obtain ⟨vs, h1, rl1⟩ := r.ob _ _ (wk_ok ok m1)
        obtain ⟨us, h2, rl2⟩ := r.ob _ _ (wk_ok ok m2)
        rw [x.ag _ hn1] at h1
        rw [x.ag _ hn2] at h2
        rw [zipD_len] at hi
        exact ⟨vs, us, SqL.of h1, SqL.of h2, by rw [← rl1.length, ← rl2.length]; omega⟩
      · obtain ⟨T, u1, u2, rfl, hT, rfl, y1, y2⟩ := y
        obtain ⟨vs, h1, rl1⟩ := r.ob _ _ (wk_ok ok m1)
        obtain ⟨us, h2, rl2⟩ := r.ob _ _ (wk_ok ok m2)
        rw [x.ag _ hn1] at h1
        rw [x.ag _ hn2] at h2
        rw [zipD_len] at hi
        obtain ⟨v, hv, rv⟩ := rl1.get (List.getElem?_eq_getElem (show i < ds.length by omega))
        obtain ⟨u, hu, ru⟩ := rl2.get (List.getElem?_eq_getElem (show i < es.length by omega))
        have t1 := y1 vs (SqL.of h1)
        rw [hv] at t1
        cases t1
        have t2 := y2 us (SqL.of h2)
        rw [hu] at t2
        cases t2
        exact ⟨_, zipD_get ds es i _ _ (List.getElem?_eq_getElem (show i < ds.length by omega)) (List.getElem?_eq_getElem (show i < es.length by omega)), two_tup hT rv ru, Ext.junk hT, r.junk hT⟩
    · cases e
  · cases e
end

/-! ### [e for t in w if c] -/
def wipeD (ρ : Rho) : List Nat → Rho
  | [] => ρ
  | i :: is => (wipeD ρ is).set i none
def lcL (ok : Mem → Bool) (g : Gv) (c : Bv) (m : Ev) : List D → Rho → Mem → Out (List D)
  | [], _, M => if ok M = true then some ([], M) else none
  | d :: ds, ρ, M => if ok M = true then match g d ρ M with
    | none => none
    | some (ρ1, M1) => bnd (c ρ1 M1) fun t M2 => if t = true then bnd (m ρ1 M2) fun v M3 => bnd (lcL ok g c m ds ρ M3) fun vs M4 => some (v :: vs, M4) else lcL ok g c m ds ρ M2
    else none
def eLc (w : Wv) (g : Gv) (c : Bv) (m : Ev) (own : List Nat) : Ev := fun ρ M => bnd (w ρ M) fun k M1 => bnd (lcL k.ok g c m k.items (wipeD ρ own) M1) fun ds M2 => if ds.length ≤ 100000 then some (.ref M2.sz, M2.new (.lst ds)) else none
def xYes : Bv := fun _ M => some (true, M)
/-! ### {k: e for t in w if c} -/
def dcL (ok : Mem → Bool) (g : Gv) (c : Bv) (mk mv : Ev) (ρ : Rho) : List D → List (Key × D) → Mem → Out (List (Key × D))
  | [], acc, M => if ok M = true then some (acc, M) else none
  | d :: ds, acc, M => if ok M = true ∧ acc.length ≤ 100000 then match g d ρ M with
    | none => none
    | some (ρ1, M1) => bnd (c ρ1 M1) fun t M2 => if t = true then bnd (mk ρ1 M2) fun u M3 => bnd (mv ρ1 M3) fun v M4 => match keyD u with
        | some k => dcL ok g c mk mv ρ ds (putD acc k v) M4
        | none => none
      else dcL ok g c mk mv ρ ds acc M2
    else none
def eDc (w : Wv) (g : Gv) (c : Bv) (mk mv : Ev) (own : List Nat) : Ev := fun ρ M => bnd (w ρ M) fun k M1 => bnd (dcL k.ok g c mk mv (wipeD ρ own) k.items [] M1) fun ps M2 => some (.ref M2.sz, M2.new (.dct ps))
end Nl

set_option autoImplicit false
/-! Nl, part I: comprehensions, by their rules. -/
namespace Nl
open PySem L2

/-! ### slots emptied -/
theorem wipe_off {σ : St} {i : Nat} {o : Option V} : ∀ {vs : List Nat}, i ∉ vs → wipe (σ.set i o) vs = (wipe σ vs).set i o
  | [], _ => rfl
  | v :: vs, h => by
    have h1 : v ≠ i := fun e => h (by rw [e]; exact List.mem_cons_self)
    have h2 : i ∉ vs := fun m => h (List.mem_cons_of_mem _ m)
    unfold wipe
    rw [wipe_off h2, List.set_comm _ _ (Ne.symm h1)]
theorem wipe_in {σ : St} {i : Nat} {o : Option V} : ∀ {vs : List Nat}, i ∈ vs → wipe (σ.set i o) vs = wipe σ vs
  | [], h => by cases h
  | v :: vs, h => by
    unfold wipe
    by_cases hi : i ∈ vs
    · rw [wipe_in hi]
    · have e : i = v := by
        rcases List.mem_cons.mp h with h | h
        · exact h
        · exact absurd h hi
      subst e
      rw [wipe_off hi, List.set_set]
theorem wipe_idle {τ : St} : ∀ {us : List Nat}, (∀ u ∈ us, ∀ x, τ[u]? ≠ some (some x)) → wipe τ us = τ
  | [], _ => rfl
  | u :: us, h => by
    show (wipe τ us).set u none = τ
    rw [wipe_idle fun z hz => h z (List.mem_cons_of_mem _ hz)]
    have hm := h u List.mem_cons_self
    refine List.ext_getElem? fun j => ?_
    by_cases hj : u = j
    · subst hj
      by_cases hl : u < τ.length
      · rw [List.getElem?_set_self hl]
        cases hx : τ[u]? with
        | none => rw [List.getElem?_eq_none_iff] at hx; omega
        | some o =>
          cases o with
          | none => rfl
          | some z => exact absurd hx (hm z)
      · rw [List.getElem?_eq_none (by rw [List.length_set]; omega), List.getElem?_eq_none (by omega)]
    · rw [List.getElem?_set_ne hj]
theorem wipe_twice {σ : St} {vs : List Nat} : wipe (wipe σ vs) vs = wipe σ vs := wipe_idle fun _ hu _ hx => (wipe_some hx).2 hu
section
variable {Γ : Ga} {ι ι' : Nat → Addr} {M : Mem} {N N' : Nat} {H H' : Hp} {ρ : Rho} {σ : St}
theorem RS.rid (h : RS Γ ι N H ρ σ) (i : Nat) : RS Γ ι N H (ρ.set i none) (σ.set i none) := by
  refine ⟨by rw [List.length_set, List.length_set]; exact h.len, fun j e q => ?_⟩
  by_cases hj : i = j
  · subst hj
    by_cases hl : i < ρ.length
    · rw [List.getElem?_set_self hl] at q
      cases q
    · rw [List.getElem?_eq_none (by rw [List.length_set]; omega)] at q
      cases q
  · rw [List.getElem?_set_ne hj] at q ⊢
    exact h.at_ j e q
theorem RS.wipe (h : RS Γ ι N H ρ σ) : ∀ vs : List Nat, RS Γ ι N H (wipeD ρ vs) (L2.wipe σ vs)
  | [] => h
  | v :: vs => (h.wipe vs).rid v
end

/-! ### targets of a comprehension -/
def tH (Γ : Ga) (vs : List Nat) (g : Gv) : TG := fun v σ H Q => ∃ ι ρ M d, Sim Γ ι M H ρ σ ∧ R Γ ι M.sz H d v ∧ ∃ ρ' M', g d ρ M = some (ρ', M') ∧ ∀ σ' H' ι', Ext ι ι' M.sz M'.sz H H' → Sim Γ ι' M' H' ρ' σ' → wipe σ' vs = wipe σ vs → Q σ' H'
def tHs (Γ : Ga) (vs : List Nat) (g : List D → Rho → Mem → Option (Rho × Mem)) : List V → St → Hp → (St → Hp → Prop) → Prop := fun v σ H Q => ∃ ι ρ M d, Sim Γ ι M H ρ σ ∧ RL Γ ι M.sz H d v ∧ ∃ ρ' M', g d ρ M = some (ρ', M') ∧ ∀ σ' H' ι', Ext ι ι' M.sz M'.sz H H' → Sim Γ ι' M' H' ρ' σ' → wipe σ' vs = wipe σ vs → Q σ' H'
section
variable {Γ : Ga} {X : Cx} {pos : Pos} {vs : List Nat}
theorem h_nm (i : Nat) {x : Str} (hN : X.N.Nodup) (hi : X.N[i]? = some x := by rfl) (hx : Loc X.env.scope x := by first | exact Or.inl rfl | exact Or.inr rfl) (hv : i ∈ vs := by decide) (hf : X.fn x = true ∨ X.env.scope.names.lookup x = some .local := by first | exact .inl rfl | exact .inr rfl | assumption) :
    PG X (.Name x pos) (tH Γ vs (gNm i)) := by
  refine PG.of (pg_name hN hi hx hf) fun v σ H Q h => ?_
  obtain ⟨ι, ρ, M, d, S, rd, ρ', M', e, q⟩ := h
  cases e
  exact q _ H ι (Ext.refl _ _ _) ⟨S.m, S.s.set i rd⟩ (wipe_in hv)
theorem hs_nil : PGs X [] (tHs Γ vs (gSeq [])) := by
  refine PGs.of pgs_nil fun v σ H Q h => ?_
  obtain ⟨ι, ρ, M, d, S, rd, ρ', M', e, q⟩ := h
  cases d with
  | nil =>
    cases rd
    cases e
    exact ⟨rfl, q σ H ι (Ext.refl _ _ _) S rfl⟩
  | cons _ _ => cases e
theorem hs_cons {e : Expr} {es : List Expr} {g : Gv} {gs : List Gv} (h1 : PG X e (tH Γ vs g)) (h2 : PGs X es (tHs Γ vs (gSeq gs)))
    (hs : (assignEach (e :: es) X.env).map (·.2) = assign e X.env :: (assignEach es X.env).map (·.2) := by rfl) : PGs X (e :: es) (tHs Γ vs (gSeq (g :: gs))) := by
  refine PGs.of (pgs_cons h1 h2 hs) fun v σ H Q h => ?_
  obtain ⟨ι, ρ, M, d, S, rd, ρ', M', e, q⟩ := h
  cases d with
  | nil => cases e
  | cons d ds =>
    cases rd with
    | cons r1 r2 =>
      rw [gSeq] at e
      dsimp only at e
      split at e
      · rename_i ρ1 M1 e1
        refine ⟨_, _, rfl, ι, ρ, M, d, S, r1, ρ1, M1, e1, fun σ1 H1 ι1 x1 S1 w1 => ?_⟩
        exact ⟨ι1, ρ1, M1, ds, S1, r2.ext S.m x1, ρ', M', e, fun σ2 H2 ι2 x2 S2 w2 => q σ2 H2 ι2 (x1.trans S1.m x2) S2 (w2.trans w1)⟩
      · cases e
theorem h_tp {es : List Expr} {k : Nat} {gs : List Gv} (hK : X.K = Γ.K) (hc : X.calm = true) (h : PGs X es (tHs Γ vs (gSeq gs))) (hn : (assignEach es X.env).length = gs.length := by rfl) (hst : (assignEach es X.env).findIdx? (·.1) = none := by rfl) :
    PG X (.Tuple es k pos) (tH Γ vs (gTp gs)) := by
  refine PG.of (pg_tup (n := gs.length) hc h hn hst) fun v σ H Q h => ?_
  obtain ⟨ι, ρ, M, d, S, rd, ρ', M', e, q⟩ := h
  unfold gTp at e
  split at e
  · cases rd with
    | tup hs rl =>
      refine ⟨_, _, rfl, by rw [hK]; exact hs, ?_, ι, ρ, M, _, S, rl, ρ', M', e, q⟩
      rw [← rl.length]; exact gSeq_len e
  · cases e
end

/-! ### something beside the memory stays -/
section
variable {Γ : Ga} {ι ι1 ι2 : Nat → Addr} {M M1 M2 : Mem} {H H1 H2 : Hp} {p : Addr} {o u : HO}
theorem by_at (x : Ext ι1 ι2 M1.sz M2.sz H1 H2) (h : H1 p = some o) (hn : ∀ n, n < M1.sz → ι1 n ≠ p) : H2 p = some o := x.keep p _ h fun n l e => hn n l e
theorem by_ne (x : Ext ι1 ι2 M1.sz M2.sz H1 H2) (h : H1 p = some o) (hn : ∀ n, n < M1.sz → ι1 n ≠ p) : ∀ n, n < M2.sz → ι2 n ≠ p := fun n l e => by
  by_cases h2 : n < M1.sz
  · rw [x.ag n h2] at e
    exact hn n h2 e
  · have z := x.new n (Nat.not_lt.mp h2) l
    rw [e, h] at z
    cases z
theorem by_put (x : Ext ι ι1 M.sz M1.sz H H1) (hp : H p = none) : Ext ι ι1 M.sz M1.sz H (upd H1 p u) :=
  ⟨x.le, x.ag, x.new, fun a w h hne => by rw [upd_ne (ne_of_none h hp)]; exact x.keep a w h hne⟩
theorem by_more (x : Ext ι ι1 M.sz M1.sz H H1) (hp : H p = none) : Ext ι (more ι1 M1.sz p) M.sz (M1.sz + 1) H H1 where
  le := Nat.le_succ_of_le x.le
  ag := fun n hn => (more_lt (Nat.lt_of_lt_of_le hn x.le)).trans (x.ag n hn)
  new := fun n h1 h2 => by
    by_cases h : n = M1.sz
    · rw [h, more_same]; exact hp
    · have lt : n < M1.sz := by omega
      rw [more_lt lt]
      exact x.new n h1 lt
  keep := x.keep
end

/-! ### [e for t in w if c] -/
/-- what a comprehension's block is derived in -/
abbrev Blk (X : Cx) (scope : Scope) (P : Cx → Prop) : Prop := ∀ (s : Shared) (H : Hp) (C : Addr) (cl : List (Str × Addr)) (fp : List Addr), P (X.blk s H scope (compEnvC scope cl C X.env) fp)
section
variable {Γ : Ga} {X : Cx} {tg iter elt : Expr} {ifs : List Expr} {scope : Scope} {own : List (Str × Nat)} {pos : Pos} {w : Wv} {g : Gv} {c : Bv} {m : Ev} {vs : List Nat}
theorem lc_go {J : It} {k : Wk} {ι : Nat → Addr} {M Me : Mem} {H : Hp} {ρ : Rho} {σ : St} {Q : VK} {ds : List D} (S : Sim Γ ι M H ρ σ) (ok : ItOk Γ J k ι M H) (e : lcL k.ok g c m k.items (wipeD ρ vs) M = some (ds, Me)) (hz : ds.length ≤ 100000)
    (q : ∀ v H' ι', Ext ι ι' M.sz (Me.sz + 1) H H' → RM Γ ι' (Me.new (.lst ds)) H' → R Γ ι' (Me.sz + 1) H' (.ref Me.sz) v → Q v H') (D0 : Addr) (hD : H D0 = none) :
    ∃ W : Nat → Nat → Hp → Prop, (∃ m, W 0 m (upd H D0 (.lst []))) ∧ ∀ i n H, W i n H →
      (J.stop i H ∧ Q (.ref D0) H) ∨ (J.go i H ∧ ∃ Nx : Hp → Prop, (∀ H', Nx H' → ∃ m', m' < n ∧ W (i + 1) m' H') ∧ ∀ x H', J.yld i H x H' → tH Γ vs g x (wipe σ vs) H' fun σ2 H2 => wipe σ2 vs = wipe σ vs ∧ tB Γ c σ2 H2 fun b H3 =>
        if b = true then tE Γ m σ2 H3 fun y H4 => ∃ acc, H4 D0 = some (.lst acc) ∧ acc.length < sizeLine ∧ Nx (upd H4 D0 (.lst (acc ++ [y]))) else Nx H3) := by
  let P : Nat → Hp → Prop := fun i H2 => i ≤ k.items.length ∧ ∃ ι2 M2 xs done rest, Ext ι ι2 M.sz M2.sz H H2 ∧ RM Γ ι2 M2 H2 ∧ H2 D0 = some (.lst xs) ∧ (∀ n, n < M2.sz → ι2 n ≠ D0) ∧ RL Γ ι2 M2.sz H2 done xs ∧ lcL k.ok g c m (k.items.drop i) (wipeD ρ vs) M2 = some (rest, Me) ∧ done ++ rest = ds
  have hbig : (100000 : Nat) < sizeLine := by decide
  refine ⟨fun i n H => n = k.items.length - i ∧ P i H, ⟨_, rfl, Nat.zero_le _, ι, M, [], [], ds, by_put (Ext.refl _ _ _) hD, S.m.junk hD, upd_same, S.m.fresh hD, .nil, e, rfl⟩, ?_⟩
  rintro i n H2 ⟨rfl, hi, ι2, M2, xs, done, rest, x2, r2, hat, hne, rl, e2, ed⟩
  by_cases hlt : i < k.items.length
  · rw [List.drop_eq_getElem_cons hlt, lcL] at e2
    split at e2
    · rename_i hok
      refine .inr ⟨ok.go ι2 M2 H2 i x2 r2 hok hlt, P (i + 1), fun H' p => ⟨k.items.length - (i + 1), by omega, rfl, p⟩, fun x H3 y => ?_⟩
      obtain ⟨d, hd, rd, x3, r3⟩ := ok.yld ι2 M2 H2 i x H3 x2 r2 hok hlt y
      have hd' : k.items[i] = d := by
        rw [List.getElem?_eq_getElem hlt] at hd
        exact Option.some.inj hd
      rw [hd'] at e2
      have x23 := x2.trans r2 x3
      have S3 : Sim Γ ι2 M2 H3 (wipeD ρ vs) (wipe σ vs) := ⟨r3, (S.s.wipe vs).ext S.m x23⟩
      split at e2
      · cases e2
      · rename_i ρ4 M4 e4
        refine ⟨ι2, _, M2, d, S3, rd, ρ4, M4, e4, fun σ4 H4 ι4 x4 S4 w4 => ⟨w4.trans ?_, ?_⟩⟩
        · exact wipe_twice
        · obtain ⟨t, M5, e5, e2⟩ := bnd_inv e2
          refine ⟨ι4, ρ4, M4, S4, t, M5, e5, fun H5 ι5 x5 r5 => ?_⟩
          have x35 := x3.trans r3 (x4.trans S4.m x5)
          have x25 := x2.trans r2 x35
          have at5 := by_at x35 hat hne
          have ne5 := by_ne x35 hat hne
          split at e2
          · rename_i ht
            dsimp only
            rw [if_pos ht]
            obtain ⟨v, M6, e6, e2⟩ := bnd_inv e2
            obtain ⟨vs', M7, e7, e2⟩ := bnd_inv e2
            cases e2
            refine ⟨ι5, ρ4, M5, S4.ext x5 r5, v, M6, e6, fun y H6 ι6 x6 r6 ry => ?_⟩
            have x36 := x35.trans r5 x6
            have x26 := x2.trans r2 x36
            have at6 := by_at x36 hat hne
            have ne6 := by_ne x36 hat hne
            have rl6 := rl.ext r2 x36
            have lo : Loose (H6 D0) := by rw [at6]; trivial
            have hl : xs.length < sizeLine := by
              have h1 := rl.length
              have h2 := congrArg List.length ed
              rw [List.length_append] at h2
              have h3 : done.length ≤ 100000 := by omega
              omega
            refine ⟨xs, at6, hl, hlt, ι6, M6, xs ++ [y], done ++ [v], vs', by_put x26 hD, r6.side ne6 lo, upd_same, ne6, ?_, e7, by rw [List.append_assoc]; exact ed⟩
            exact (rl6.upd lo).append (.cons (ry.upd lo) .nil)
          · rename_i ht
            dsimp only
            rw [if_neg ht]
            exact ⟨hlt, ι5, M5, xs, done, rest, x25, r5, at5, ne5, rl.ext r2 x35, e2, ed⟩
    · cases e2
  · have hn : k.items.length ≤ i := Nat.not_lt.mp hlt
    rw [List.drop_eq_nil_of_le hn, lcL] at e2
    split at e2
    · rename_i hok
      cases e2
      rw [List.append_nil] at ed
      subst ed
      refine .inl ⟨ok.stop ι2 _ H2 i x2 r2 hok hn, q _ H2 (more ι2 _ D0) (by_more x2 hD) ?_ ref_more⟩
      exact r2.adopt hne ⟨xs, hat, RL.mono (Nat.le_succ _) (fun n hn => more_lt hn) (fun a u z _ => z) _ _ rl⟩
    · cases e2

theorem ts_nil : PTs X [] (tB Γ xYes) := ⟨fun pins s σ H Q I h => pts_nil.run pins s σ H Q I (by
  obtain ⟨ι, ρ, M, S, b, M', e, q⟩ := h
  cases e
  exact q H ι (Ext.refl _ _ _) S.m)⟩
theorem ts_one {x : Expr} (h : PT X x (tB Γ c)) : PTs X [x] (tB Γ c) := pts_one h
theorem lc_end {ι : Nat → Addr} {M M' : Mem} {H : Hp} {ρ : Rho} {σ : St} {Q : VK} {d : D} {vs : List Nat} (S : Sim Γ ι M H ρ σ) (e : eLc w g c m vs ρ M = some (d, M')) (q : ∀ v H' ι', Ext ι ι' M.sz M'.sz H H' → RM Γ ι' M' H' → R Γ ι' M'.sz H' d v → Q v H') : tLc (iW Γ w) (tH Γ vs g) (tB Γ c) (tE Γ m) vs σ H Q := by
  obtain ⟨k, M1, e1, e⟩ := bnd_inv e
  obtain ⟨ds, M2, e2, e⟩ := bnd_inv e
  split at e
  · rename_i hz
    cases e
    refine ⟨ι, ρ, M, S, k, M1, e1, fun J H1 ι1 x1 r1 ok D0 hD => ?_⟩
    exact lc_go (S.ext x1 r1) ok e2 hz (fun v H' ι' x r rd => q v H' ι' (by rw [Mem.sz_new]; exact x1.trans r1 x) r (by rw [Mem.sz_new]; exact rd)) D0 hD
  · cases e
theorem p_lc (hc : X.calm = true) (hN : X.N.Nodup) (hi : PI X tg iter (iW Γ w)) (ok : BlkOk X.N X.env.scope scope own) (hg : Blk X scope fun Y => PG Y tg (tH Γ (own.map (·.2)) g)) (ht : Blk X scope fun Y => PTs Y ifs (tB Γ c)) (he : Blk X scope fun Y => PE Y elt (tE Γ m))
    (hs : ∀ x, foldedSetIterable iter X.env x = pure x := by intro _; rfl) : PE X (.ListComp elt [⟨tg, iter, ifs, 0⟩] scope pos) (tE Γ (eLc w g c m (own.map (·.2)))) := by
  refine PE.of (pe_lc hc hN hi ok hg ht he hs) fun σ H Q h => ?_
  obtain ⟨ι, ρ, M, S, d, M', e, q⟩ := h
  exact lc_end S e q
theorem s_lc {i : Nat} {y : Str} {py spos : Pos} (hc : X.calm = true) (hN : X.N.Nodup) (hi : PI X tg iter (iW Γ w)) (ok : BlkOk X.N X.env.scope scope own) (hg : Blk X scope fun Y => PG Y tg (tH Γ (own.map (·.2)) g)) (ht : Blk X scope fun Y => PTs Y ifs (tB Γ c)) (he : Blk X scope fun Y => PE Y elt (tE Γ m))
    (hsw : swapsWith (.ListComp elt [⟨tg, iter, ifs, 0⟩] scope pos) (some (.Name y py)) spos.line X.env = pure true) (hy : X.N[i]? = some y := by rfl) (hyl : X.env.scope.names.lookup y = some .local := by rfl)
    (hs : ∀ x, foldedSetIterable iter X.env x = pure x := by intro _; rfl) : PS X (.Assign [.Name y py] (.ListComp elt [⟨tg, iter, ifs, 0⟩] scope pos) spos) (tS Γ (sAsg (eLc w g c m (own.map (·.2))) (gNm i))) := by
  refine PS.of (ps_setLc hc hN hy hyl hsw hi ok hg ht he hs) fun E σ H h => ?_
  obtain ⟨ι, ρ, M, S, f, M', e, q⟩ := h
  unfold sAsg at e
  obtain ⟨d, M1, e1, e⟩ := bnd_inv e
  refine lc_end S e1 fun v H' ι' x r rd => ?_
  cases e
  exact q _ H' ι' x ⟨r, (S.s.ext S.m x).set i rd⟩
end

/-! ### {k: e for t in w if c} -/
section
variable {Γ : Ga} {X : Cx} {tg iter kx vx : Expr} {ifs : List Expr} {scope : Scope} {own : List (Str × Nat)} {pos : Pos} {w : Wv} {g : Gv} {c : Bv} {mk mv : Ev} {vs : List Nat}
theorem dc_go {J : It} {k : Wk} {ι : Nat → Addr} {M Me : Mem} {H : Hp} {ρ : Rho} {σ : St} {Q : VK} {ps : List (Key × D)} (S : Sim Γ ι M H ρ σ) (ok : ItOk Γ J k ι M H) (e : dcL k.ok g c mk mv (wipeD ρ vs) k.items [] M = some (ps, Me))
    (q : ∀ v H' ι', Ext ι ι' M.sz (Me.sz + 1) H H' → RM Γ ι' (Me.new (.dct ps)) H' → R Γ ι' (Me.sz + 1) H' (.ref Me.sz) v → Q v H') (D0 : Addr) (hD : H D0 = none) :
    ∃ W : Nat → Nat → Hp → Prop, (∃ m, W 0 m (upd H D0 (.dK []))) ∧ ∀ i n H, W i n H →
      (J.stop i H ∧ Q (.ref D0) H) ∨ (J.go i H ∧ ∃ Nx : Hp → Prop, (∀ H', Nx H' → ∃ m', m' < n ∧ W (i + 1) m' H') ∧ ∀ x H', J.yld i H x H' → tH Γ vs g x (wipe σ vs) H' fun σ2 H2 => wipe σ2 vs = wipe σ vs ∧ tB Γ c σ2 H2 fun b H3 =>
        if b = true then tE Γ mk σ2 H3 fun y H4 => tE Γ mv σ2 H4 fun z H5 => ∃ kvs k, y = kV k ∧ H5 D0 = some (.dK kvs) ∧ kvs.length < sizeLine ∧ Nx (upd H5 D0 (.dK (putK kvs k z))) else Nx H3) := by
  let P : Nat → Hp → Prop := fun i H2 => i ≤ k.items.length ∧ ∃ ι2 M2 xs acc, Ext ι ι2 M.sz M2.sz H H2 ∧ RM Γ ι2 M2 H2 ∧ H2 D0 = some (.dK xs) ∧ (∀ n, n < M2.sz → ι2 n ≠ D0) ∧ RK Γ ι2 M2.sz H2 acc xs ∧ dcL k.ok g c mk mv (wipeD ρ vs) (k.items.drop i) acc M2 = some (ps, Me)
  have hbig : (100000 : Nat) < sizeLine := by decide
  refine ⟨fun i n H => n = k.items.length - i ∧ P i H, ⟨_, rfl, Nat.zero_le _, ι, M, [], [], by_put (Ext.refl _ _ _) hD, S.m.junk hD, upd_same, S.m.fresh hD, .nil, e⟩, ?_⟩
  rintro i n H2 ⟨rfl, hi, ι2, M2, xs, acc, x2, r2, hat, hne, rl, e2⟩
  by_cases hlt : i < k.items.length
  · rw [List.drop_eq_getElem_cons hlt, dcL] at e2
    split at e2
    · rename_i hok
      obtain ⟨hok, hacc⟩ := hok
      refine .inr ⟨ok.go ι2 M2 H2 i x2 r2 hok hlt, P (i + 1), fun H' p => ⟨k.items.length - (i + 1), by omega, rfl, p⟩, fun x H3 y => ?_⟩
      obtain ⟨d, hd, rd, x3, r3⟩ := ok.yld ι2 M2 H2 i x H3 x2 r2 hok hlt y
      have hd' : k.items[i] = d := by
        rw [List.getElem?_eq_getElem hlt] at hd
        exact Option.some.inj hd
      rw [hd'] at e2
      have x23 := x2.trans r2 x3
      have S3 : Sim Γ ι2 M2 H3 (wipeD ρ vs) (wipe σ vs) := ⟨r3, (S.s.wipe vs).ext S.m x23⟩
      split at e2
      · cases e2
      · rename_i ρ4 M4 e4
        refine ⟨ι2, _, M2, d, S3, rd, ρ4, M4, e4, fun σ4 H4 ι4 x4 S4 w4 => ⟨w4.trans wipe_twice, ?_⟩⟩
        obtain ⟨t, M5, e5, e2⟩ := bnd_inv e2
        refine ⟨ι4, ρ4, M4, S4, t, M5, e5, fun H5 ι5 x5 r5 => ?_⟩
        have x35 := x3.trans r3 (x4.trans S4.m x5)
        have x25 := x2.trans r2 x35
        have at5 := by_at x35 hat hne
        have ne5 := by_ne x35 hat hne
        split at e2
        · rename_i ht
          dsimp only
          rw [if_pos ht]
          obtain ⟨u, M6, e6, e2⟩ := bnd_inv e2
          obtain ⟨v, M7, e7, e2⟩ := bnd_inv e2
          split at e2
          · rename_i key hkey
            have S5 := S4.ext x5 r5
            refine ⟨ι5, ρ4, M5, S5, u, M6, e6, fun y H6 ι6 x6 r6 ry => ⟨ι6, ρ4, M6, S5.ext x6 r6, v, M7, e7, fun z H7 ι7 x7 r7 rz => ?_⟩⟩
            have x37 := x35.trans r5 (x6.trans r6 x7)
            have x27 := x2.trans r2 x37
            have at7 := by_at x37 hat hne
            have ne7 := by_ne x37 hat hne
            have rl7 := rl.ext r2 x37
            have lo : Loose (H7 D0) := by rw [at7]; trivial
            have hl : xs.length < sizeLine := by
              have h1 := rl.length
              omega
            exact ⟨xs, key, keyD_ok ry hkey, at7, hl, hlt, ι7, M7, _, _, by_put x27 hD, r7.side ne7 lo, upd_same, ne7, putD_ok (rl7.upd lo) (rz.upd lo), e2⟩
          · cases e2
        · rename_i ht
          dsimp only
          rw [if_neg ht]
          exact ⟨hlt, ι5, M5, xs, acc, x25, r5, at5, ne5, rl.ext r2 x35, e2⟩
    · cases e2
  · have hn : k.items.length ≤ i := Nat.not_lt.mp hlt
    rw [List.drop_eq_nil_of_le hn, dcL] at e2
    split at e2
    · rename_i hok
      cases e2
      refine .inl ⟨ok.stop ι2 _ H2 i x2 r2 hok hn, q _ H2 (more ι2 _ D0) (by_more x2 hD) ?_ ref_more⟩
      exact r2.adopt hne ⟨xs, hat, RK.mono (Nat.le_succ _) (fun n hn => more_lt hn) (fun a u z _ => z) rl⟩
    · cases e2
theorem p_dc (hc : X.calm = true) (hN : X.N.Nodup) (hi : PI X tg iter (iW Γ w)) (ok : BlkOk X.N X.env.scope scope own) (hg : Blk X scope fun Y => PG Y tg (tH Γ (own.map (·.2)) g)) (ht : Blk X scope fun Y => PTs Y ifs (tB Γ c)) (hk : Blk X scope fun Y => PE Y kx (tE Γ mk)) (he : Blk X scope fun Y => PE Y vx (tE Γ mv))
    (hs : ∀ x, foldedSetIterable iter X.env x = pure x := by intro _; rfl) : PE X (.DictComp kx vx [⟨tg, iter, ifs, 0⟩] scope pos) (tE Γ (eDc w g c mk mv (own.map (·.2)))) := by
  refine PE.of (pe_dc hc hN hi ok hg ht hk he hs) fun σ H Q h => ?_
  obtain ⟨ι, ρ, M, S, d, M', e, q⟩ := h
  obtain ⟨k, M1, e1, e⟩ := bnd_inv e
  obtain ⟨ds, M2, e2, e⟩ := bnd_inv e
  cases e
  refine ⟨ι, ρ, M, S, k, M1, e1, fun J H1 ι1 x1 r1 ok D0 hD => ?_⟩
  exact dc_go (S.ext x1 r1) ok e2 (fun v H' ι' x r rd => q v H' ι' (by rw [Mem.sz_new]; exact x1.trans r1 x) r (by rw [Mem.sz_new]; exact rd)) D0 hD
theorem dc_end {ι : Nat → Addr} {M M' : Mem} {H : Hp} {ρ : Rho} {σ : St} {Q : VK} {d : D} {vs : List Nat} (S : Sim Γ ι M H ρ σ) (e : eDc w g c mk mv vs ρ M = some (d, M')) (q : ∀ v H' ι', Ext ι ι' M.sz M'.sz H H' → RM Γ ι' M' H' → R Γ ι' M'.sz H' d v → Q v H') : tDc (iW Γ w) (tH Γ vs g) (tB Γ c) (tE Γ mk) (tE Γ mv) vs σ H Q := by
  obtain ⟨k, M1, e1, e⟩ := bnd_inv e
  obtain ⟨ds, M2, e2, e⟩ := bnd_inv e
  cases e
  refine ⟨ι, ρ, M, S, k, M1, e1, fun J H1 ι1 x1 r1 ok D0 hD => ?_⟩
  exact dc_go (S.ext x1 r1) ok e2 (fun v H' ι' x r rd => q v H' ι' (by rw [Mem.sz_new]; exact x1.trans r1 x) r (by rw [Mem.sz_new]; exact rd)) D0 hD
theorem s_dc {i : Nat} {y : Str} {py spos : Pos} (hc : X.calm = true) (hN : X.N.Nodup) (hi : PI X tg iter (iW Γ w)) (ok : BlkOk X.N X.env.scope scope own) (hg : Blk X scope fun Y => PG Y tg (tH Γ (own.map (·.2)) g)) (ht : Blk X scope fun Y => PTs Y ifs (tB Γ c)) (hk : Blk X scope fun Y => PE Y kx (tE Γ mk)) (he : Blk X scope fun Y => PE Y vx (tE Γ mv))
    (hsw : swapsWith (.DictComp kx vx [⟨tg, iter, ifs, 0⟩] scope pos) (some (.Name y py)) spos.line X.env = pure true) (hy : X.N[i]? = some y := by rfl) (hyl : X.env.scope.names.lookup y = some .local := by rfl)
    (hs : ∀ x, foldedSetIterable iter X.env x = pure x := by intro _; rfl) : PS X (.Assign [.Name y py] (.DictComp kx vx [⟨tg, iter, ifs, 0⟩] scope pos) spos) (tS Γ (sAsg (eDc w g c mk mv (own.map (·.2))) (gNm i))) := by
  refine ⟨fun pins z σ H E I h => ?_⟩
  obtain ⟨ι, ρ, M, S, f, M', e, q⟩ := h
  unfold sAsg at e
  obtain ⟨d, M1, e1, e⟩ := bnd_inv e
  have hd : tDc (iW Γ w) (tH Γ (own.map (·.2)) g) (tB Γ c) (tE Γ mk) (tE Γ mv) (own.map (·.2)) σ H (fun x H1 => gName i x σ H1 E.nx) := dc_end S e1 fun v H' ι' x r rd => by
    cases e
    exact q _ H' ι' x ⟨r, (S.s.ext S.m x).set i rd⟩
  rw [exec_Assign_Name_used _ _ _ _ hsw]
  refine wpAny_bind (wpAny_standAt (wpAny_bind ?_))
  show wpAny _ X.A (do let _ ← comprehension (.DictComp kx vx [⟨tg, iter, ifs, 0⟩] scope pos) scope X.env (firstIterPos [⟨tg, iter, ifs, 0⟩] pos) newDict false (eval iter X.env) (some (assign (.Name y py) X.env))) _ _ z
  refine wpAny_bind (thn (dc_core (Qf := fun _ z' => SP X pins E .next z') hc hN I hi ok hg ht hk he hs hd fun L C z' m H' I' q' hn f => ?_) fun _ z' hq => wpAny_pure (wpAny_pure hq))
  show wpAny _ _ (assign (.Name y py) X.env (.ref L)) _ _ _
  refine wpAny_assign_Name (store_ok2 (v := V.ref L) I' hN hy (.inl hyl) rfl (fun z2 I2 ⟨a, sb, ha⟩ => ?_) (.inr hyl))
  obtain ⟨f0, f1, f2, f3, f4, f5⟩ := f
  have haC : C ≠ a := ha.elim (fun q => by rw [q]; exact f1) fun q e => f4 y a q e.symm
  refine ⟨m, hn.sameBut sb haC, fun h3 sb3 => ?_⟩
  exact ⟨_, H', I2.turned (t' := z2.toks) (fun b o hb e => (sb3.2 b hb).trans e) f0 f1 f3 f4 f5, q'⟩
end
end Nl

set_option autoImplicit false
/-! Nl, part J: methods of what is built in, isinstance, a, b = x, y. -/
namespace Nl
open PySem L2

/-! ### o.m(..), o of a built-in type -/
def isTy (T : String) (d : D) (M : Mem) : Bool := match d with
  | .str _ => T == "str"
  | .rol _ => T == "list"
  | .ref n => match M.get n with
    | some (.lst _) => T == "list"
    | some (.dct _) => T == "dict"
    | some (.dtt _) => T == "dict"
    | _ => false
  | _ => false
def eMt (T : String) (g : D → List D → Mem → Out D) (mo : Ev) (ms : List Ev) : Ev := fun ρ M => bnd (mo ρ M) fun d M1 => if isTy T d M1 = true then bnd (eArgs ms ρ M1) fun ds M2 => g d ds M2 else none
/-- a method's rule answers as its semantics does -/
structure MtD (Γ : Ga) (g : D → List D → Mem → Out D) (r : V → List V → Hp → VK → Prop) : Prop where
  ok : ∀ ι M H x xs d ds (Q : VK) e M', RM Γ ι M H → R Γ ι M.sz H d x → RL Γ ι M.sz H ds xs → g d ds M = some (e, M') → (∀ v H' ι', Ext ι ι' M.sz M'.sz H H' → RM Γ ι' M' H' → R Γ ι' M'.sz H' e v → Q v H') → r x xs H Q
section
variable {Γ : Ga} {X : Cx} {T id : String} {name : Str} {g : D → List D → Mem → Out D} {r : V → List V → Hp → VK → Prop} {mo : Ev} {ms : List Ev} {o e : Expr} {es : List Expr} {apos cpos pos : Pos}
theorem ty_ok {ι : Nat → Addr} {M : Mem} {H : Hp} {d : D} {x : V} (rm : RM Γ ι M H) (rd : R Γ ι M.sz H d x) (h : isTy T d M = true) : tyV Γ.K T x H := by
  unfold isTy at h
  split at h
  · cases rd; exact beq_iff_eq.mp h
  · cases rd with
    | rol hs => exact .inl ⟨beq_iff_eq.mp h, _, hs.sq⟩
  · cases rd
    split at h
    · rename_i q
      obtain ⟨vs, e, _⟩ := rm.ob _ _ q
      exact .inl ⟨beq_iff_eq.mp h, _, SqL.of e⟩
    · rename_i q
      obtain ⟨vs, e, _⟩ := rm.ob _ _ q
      exact .inr (.inr (.inl ⟨beq_iff_eq.mp h, .inl ⟨_, e⟩⟩))
    · rename_i q
      obtain ⟨vs, e, _⟩ := rm.ob _ _ q
      exact .inr (.inr (.inl ⟨beq_iff_eq.mp h, .inr ⟨_, e⟩⟩))
    · cases h
  · cases h
theorem p_mt0 (hK : X.K = Γ.K) (hd : MtD Γ g r) (hm : MtR X id r) (pa : PlainAttrs T) (slot : Slot T name id) (hty : typeOf (.builtin id) = pure (.type "method_descriptor")) (ho : PE X o (tE Γ mo))
    (hbase : attributeBase o name X.env (eval o X.env) = eval o X.env := by rfl) (hline : (apos.endLine == cpos.line) = true := by rfl) : PE X (.Call (.Attribute o name apos) [] [] cpos) (tE Γ (eMt T g mo [])) := by
  refine PE.of (pe_bm0 pa slot hty hm ho hbase hline) fun σ H Q h => ?_
  obtain ⟨ι, ρ, M, S, d, M', ed, q⟩ := h
  obtain ⟨d1, M1, e1, e2⟩ := bnd_inv ed
  split at e2
  · rename_i hT
    rw [eArgs_nil] at e2
    refine ⟨ι, ρ, M, S, d1, M1, e1, fun v H1 ι1 x1 r1 rd => ⟨by rw [hK]; exact ty_ok r1 rd hT, ?_⟩⟩
    exact hd.ok ι1 M1 H1 v [] d1 [] Q d M' r1 rd .nil e2 fun v2 H2 ι2 x2 r2 rd2 => q v2 H2 ι2 (x1.trans r1 x2) r2 rd2
  · cases e2
theorem p_mt (hK : X.K = Γ.K) (hd : MtD Γ g r) (hm : MtR X id r) (pa : PlainAttrs T) (slot : Slot T name id) (hty : typeOf (.builtin id) = pure (.type "method_descriptor")) (ho : PE X o (tE Γ mo)) (ha : PA X (e :: es) (tL Γ (eArgs ms)))
    (hbase : attributeBase o name X.env (eval o X.env) = eval o X.env := by rfl)
    (hfew : ((backTo cpos (starEach (e :: es) X.env)).all (fun x => !x.1) && (backToKw cpos (keywordEach [] X.env)).all (fun x => x.1.isSome)
      && decide ((e :: es).length + ([] : List Keyword).length + (if ([] : List Keyword).isEmpty then 0 else 1) < 30)) = true := by rfl)
    (hline : (apos.endLine == cpos.line) = true := by rfl) (hs : starEach (e :: es) X.env = (false, eval e X.env) :: starEach es X.env := by rfl) (hplain : (backTo cpos (starEach es X.env)).any (·.1) = false := by rfl) :
    PE X (.Call (.Attribute o name apos) (e :: es) [] cpos) (tE Γ (eMt T g mo ms)) := by
  refine PE.of (pe_bm pa slot hty hm ho ha hbase hfew hline hs hplain) fun σ H Q h => ?_
  obtain ⟨ι, ρ, M, S, d, M', ed, q⟩ := h
  obtain ⟨d1, M1, e1, e2⟩ := bnd_inv ed
  split at e2
  · rename_i hT
    obtain ⟨ds, M2, e3, e4⟩ := bnd_inv e2
    refine ⟨ι, ρ, M, S, d1, M1, e1, fun v H1 ι1 x1 r1 rd => ⟨by rw [hK]; exact ty_ok r1 rd hT, ι1, ρ, M1, S.ext x1 r1, ds, M2, e3, fun vs H2 ι2 x2 r2 rl => ?_⟩⟩
    exact hd.ok ι2 M2 H2 v vs d1 ds Q d M' r2 (rd.ext r1 x2) rl e4 fun v2 H3 ι3 x3 r3 rd2 => q v2 H3 ι3 ((x1.trans r1 x2).trans r2 x3) r3 rd2
  · cases e2
end

/-! ### lists -/
def gApp : D → List D → Mem → Out D
  | .ref n, [d], M => match M.get n with
    | some (.lst ds) => if ds.length < 1000000 then some (.non, M.put n (.lst (ds ++ [d]))) else none
    | _ => none
  | _, _, _ => none
def gExt : D → List D → Mem → Out D
  | .ref n, [.ref m], M => match M.get n, M.get m with
    | some (.lst ds), some (.lst es) => if ds.length + es.length < 1000000 then some (.non, M.put n (.lst (ds ++ es))) else none
    | _, _ => none
  | _, _, _ => none
def gPop : D → List D → Mem → Out D
  | .ref n, [], M => match M.get n with
    | some (.lst ds) => match ds[ds.length - 1]? with
      | some d => some (d, M.put n (.lst ds.dropLast))
      | none => none
    | _ => none
  | _, _, _ => none
def gPopAt : D → List D → Mem → Out D
  | .ref n, [.int i], M => match M.get n with
    | some (.lst ds) => if -(2 ^ 63) ≤ i ∧ i < 2 ^ 63 then match seqIndex? i ds.length with
      | some j => match ds[j]? with
        | some d => some (d, M.put n (.lst (ds.eraseIdx j)))
        | none => none
      | none => none
      else none
    | _ => none
  | _, _, _ => none
def gIns : D → List D → Mem → Out D
  | .ref n, [.int i, d], M => match M.get n with
    | some (.lst ds) => if (ds.length < 1000000 ∧ 0 ≤ i) ∧ i < 2 ^ 63 then some (.non, M.put n (.lst (ds.take i.toNat ++ [d] ++ ds.drop i.toNat))) else none
    | _ => none
  | _, _, _ => none
section
variable {Γ : Ga} {X : Cx} {ι : Nat → Addr} {N : Nat} {H : Hp}
theorem million : (1000000 : Nat) ≤ sizeLine := by decide
theorem RL.dropLast : ∀ {ds : List D} {vs : List V}, RL Γ ι N H ds vs → RL Γ ι N H ds.dropLast vs.dropLast
  | _, _, .nil => .nil
  | _, _, .cons r .nil => .nil
  | _, _, .cons r (.cons q t) => .cons r (RL.dropLast (.cons q t))
theorem RL.erase : ∀ {ds : List D} {vs : List V} (i : Nat), RL Γ ι N H ds vs → RL Γ ι N H (ds.eraseIdx i) (vs.eraseIdx i)
  | _, _, _, .nil => .nil
  | _, _, 0, .cons _ t => t
  | _, _, i + 1, .cons r t => .cons r (RL.erase i t)
/-- a list of the memory is written -/
theorem lst_put {M : Mem} {n : Nat} {ds es : List D} {us : List V} (rm : RM Γ ι M H) (g : M.get n = some (.lst ds)) (rl : RL Γ ι M.sz H es us) : Ext ι ι M.sz (M.put n (.lst es)).sz H (upd H (ι n) (.lst us)) ∧ RM Γ ι (M.put n (.lst es)) (upd H (ι n) (.lst us)) := by
  have hn := Mem.get_lt g
  refine ⟨by rw [Mem.sz_put]; exact Ext.put hn, rm.put hn ⟨us, upd_same, rl.upd (rm.loose hn)⟩⟩
theorem d_app : MtD Γ gApp rAppend := ⟨fun ι M H x xs d ds Q e M' rm rd rl h q => by
  unfold gApp at h
  split at h
  · split at h
    · rename_i n d _ as g
      split at h
      · rename_i hz
        cases h
        cases rd
        cases rl with
        | cons r1 t =>
          cases t
          obtain ⟨vs, e1, rv⟩ := rm.ob _ _ g
          obtain ⟨x2, r2⟩ := lst_put rm g (rv.append (.cons r1 .nil))
          refine ⟨_, vs, _, rfl, rfl, e1, by rw [← rv.length]; exact Nat.lt_of_lt_of_le hz million, q _ _ ι x2 r2 .non⟩
      · cases h
    · cases h
  · cases h⟩
theorem d_ext : MtD Γ gExt rExtend := ⟨fun ι M H x xs d ds Q e M' rm rd rl h q => by
  unfold gExt at h
  split at h
  · split at h
    · rename_i g1 g2
      split at h
      · rename_i hz
        cases h
        cases rd
        cases rl with
        | cons r1 t =>
          cases t
          cases r1
          obtain ⟨vs, e1, rv⟩ := rm.ob _ _ g1
          obtain ⟨us, e2, ru⟩ := rm.ob _ _ g2
          obtain ⟨x2, r2⟩ := lst_put rm g1 (rv.append ru)
          refine ⟨_, _, vs, us, rfl, rfl, e1, e2, by rw [← rv.length, ← ru.length]; exact Nat.le_of_lt (Nat.lt_of_lt_of_le hz million), q _ _ ι x2 r2 .non⟩
      · cases h
    · cases h
  · cases h⟩
theorem d_pop : MtD Γ gPop rPop := ⟨fun ι M H x xs d ds Q e M' rm rd rl h q => by
  unfold gPop at h
  split at h
  · split at h
    · rename_i g
      split at h
      · rename_i hd
        cases h
        cases rd
        cases rl
        obtain ⟨vs, e1, rv⟩ := rm.ob _ _ g
        obtain ⟨v, hv, r1⟩ := rv.get hd
        obtain ⟨x2, r2⟩ := lst_put rm g rv.dropLast
        exact ⟨_, vs, v, rfl, rfl, e1, by rw [← rv.length]; exact hv, q _ _ ι x2 r2 (by rw [Mem.sz_put]; exact r1.upd (rm.loose (Mem.get_lt g)))⟩
      · cases h
    · cases h
  · cases h⟩
theorem d_popAt : MtD Γ gPopAt rPopAt := ⟨fun ι M H x xs d ds Q e M' rm rd rl h q => by
  unfold gPopAt at h
  split at h
  · split at h
    · rename_i g
      split at h
      · rename_i hz
        split at h
        · rename_i hj
          split at h
          · rename_i hd
            cases h
            cases rd
            cases rl with
            | cons r1 t =>
              cases t
              cases r1
              obtain ⟨vs, e1, rv⟩ := rm.ob _ _ g
              obtain ⟨v, hv, r1⟩ := rv.get hd
              obtain ⟨x2, r2⟩ := lst_put rm g (rv.erase _)
              exact ⟨_, vs, _, _, v, rfl, rfl, e1, hz.1, hz.2, by rw [← rv.length]; exact hj, hv, q _ _ ι x2 r2 (by rw [Mem.sz_put]; exact r1.upd (rm.loose (Mem.get_lt g)))⟩
          · cases h
        · cases h
      · cases h
    · cases h
  · cases h⟩
abbrev rIns : V → List V → Hp → VK → Prop := fun x vs H Q => ∃ (l : Addr) (xs : List V) (i : Int) (y : V), x = .ref l ∧ vs = [.int i, y] ∧ H l = some (.lst xs) ∧ xs.length < sizeLine ∧ 0 ≤ i ∧ i < 2 ^ 63 ∧ Q .non (upd H l (.lst (xs.take i.toNat ++ [y] ++ xs.drop i.toNat)))
theorem d_ins : MtD Γ gIns rIns := ⟨fun ι M H x xs d ds Q e M' rm rd rl h q => by
  unfold gIns at h
  split at h
  · split at h
    · rename_i g
      split at h
      · rename_i hz
        cases h
        cases rd
        cases rl with
        | cons r0 t =>
          cases t with
          | cons r1 t =>
            cases t
            cases r0
            obtain ⟨vs, e1, rv⟩ := rm.ob _ _ g
            obtain ⟨x2, r2⟩ := lst_put rm g (((rv.take _).append (.cons r1 .nil)).append (rv.drop _))
            exact ⟨_, vs, _, _, rfl, rfl, e1, by rw [← rv.length]; exact Nat.lt_of_lt_of_le hz.1.1 million, hz.1.2, hz.2, q _ _ ι x2 r2 .non⟩
      · cases h
    · cases h
  · cases h⟩
end
section
variable {Γ : Ga} {X : Cx} {mo : Ev} {ms : List Ev} {o e : Expr} {es : List Expr} {apos cpos : Pos}
theorem m_app (hK : X.K = Γ.K) (ho : PE X o (tE Γ mo)) (ha : PA X [e] (tL Γ (eArgs ms))) (hbase : attributeBase o "append" X.env (eval o X.env) = eval o X.env := by rfl) (hline : (apos.endLine == cpos.line) = true := by rfl) (hs : starEach [e] X.env = (false, eval e X.env) :: starEach [] X.env := by rfl) :
    PE X (.Call (.Attribute o "append" apos) [e] [] cpos) (tE Γ (eMt "list" gApp mo ms)) := p_mt hK d_app mt_append PySem.F.plainAttrs_list PySem.F.slot_list_append PySem.F.type_list_append ho ha hbase (by rw [hs]; rfl) hline hs
theorem m_ext (hK : X.K = Γ.K) (ho : PE X o (tE Γ mo)) (ha : PA X [e] (tL Γ (eArgs ms))) (hbase : attributeBase o "extend" X.env (eval o X.env) = eval o X.env := by rfl) (hline : (apos.endLine == cpos.line) = true := by rfl) (hs : starEach [e] X.env = (false, eval e X.env) :: starEach [] X.env := by rfl) :
    PE X (.Call (.Attribute o "extend" apos) [e] [] cpos) (tE Γ (eMt "list" gExt mo ms)) := p_mt hK d_ext mt_extend PySem.F.plainAttrs_list PySem.F.slot_list_extend PySem.F.type_list_extend ho ha hbase (by rw [hs]; rfl) hline hs
theorem m_pop (hK : X.K = Γ.K) (ho : PE X o (tE Γ mo)) (hbase : attributeBase o "pop" X.env (eval o X.env) = eval o X.env := by rfl) (hline : (apos.endLine == cpos.line) = true := by rfl) :
    PE X (.Call (.Attribute o "pop" apos) [] [] cpos) (tE Γ (eMt "list" gPop mo [])) := p_mt0 hK d_pop mt_pop PySem.F.plainAttrs_list PySem.F.slot_list_pop PySem.F.type_list_pop ho hbase hline
theorem m_popAt (hK : X.K = Γ.K) (ho : PE X o (tE Γ mo)) (ha : PA X [e] (tL Γ (eArgs ms))) (hbase : attributeBase o "pop" X.env (eval o X.env) = eval o X.env := by rfl) (hline : (apos.endLine == cpos.line) = true := by rfl) (hs : starEach [e] X.env = (false, eval e X.env) :: starEach [] X.env := by rfl) :
    PE X (.Call (.Attribute o "pop" apos) [e] [] cpos) (tE Γ (eMt "list" gPopAt mo ms)) := p_mt hK d_popAt mt_popAt PySem.F.plainAttrs_list PySem.F.slot_list_pop PySem.F.type_list_pop ho ha hbase (by rw [hs]; rfl) hline hs
end

/-! ### texts -/
def strsOf (d : D) (M : Mem) : Option (List Str) := match d with
  | .tup ds => strsD ds
  | .ref n => match M.get n with
    | some (.lst ds) => strsD ds
    | _ => none
  | _ => none
def gJoin : D → List D → Mem → Out D
  | .str a, [d], M => match strsOf d M with
    | some ys => if (ys.map (·.length)).sum + ys.length * a.length ≤ 16777216 then some (.str (Txt.join a ys), M) else none
    | none => none
  | _, _, _ => none
abbrev rJoin (K : PySem.W.Frag) : V → List V → Hp → VK → Prop := fun x xs H Q => ∃ a p, ∃ ys : List Str, x = .str a ∧ xs = [.ref p] ∧ (SqL K H p (ys.map V.str) ∨ SqT K H p (ys.map V.str)) ∧ (ys.map (·.length)).sum + ys.length * a.length ≤ 16777216 ∧ Q (.str (Txt.join a ys)) H
section
variable {Γ : Ga} {X : Cx} {mo : Ev} {ms : List Ev} {o e : Expr} {es : List Expr} {apos cpos : Pos}
theorem strs_vs {ι : Nat → Addr} {N : Nat} {H : Hp} : ∀ {ds : List D} {vs : List V} {ys : List Str}, RL Γ ι N H ds vs → strsD ds = some ys → vs = ys.map V.str
  | [], _, _, h, e => by cases h; cases e; rfl
  | d :: ds, _, ys, h, e => by
    cases h with
    | cons r t =>
      cases r <;> simp only [strsD] at e <;> try cases e
      cases hs : strsD ds with
      | none => rw [hs] at e; cases e
      | some zs =>
        rw [hs] at e
        cases e
        rw [strs_vs t hs]
        rfl
theorem strs_of {ι : Nat → Addr} {M : Mem} {H : Hp} {d : D} {x : V} {ys : List Str} (rm : RM Γ ι M H) (rd : R Γ ι M.sz H d x) (h : strsOf d M = some ys) : ∃ p, x = .ref p ∧ (SqL Γ.K H p (ys.map V.str) ∨ SqT Γ.K H p (ys.map V.str)) := by
  unfold strsOf at h
  split at h
  · cases rd with
    | tup hs rl => exact ⟨_, rfl, .inr (by rw [← strs_vs rl h]; exact hs)⟩
  · split at h
    · rename_i g
      cases rd
      obtain ⟨vs, e, rl⟩ := rm.ob _ _ g
      exact ⟨_, rfl, .inl (by rw [← strs_vs rl h]; exact SqL.of e)⟩
    · cases h
  · cases h
theorem d_join : MtD Γ gJoin (rJoin Γ.K) := ⟨fun ι M H x xs d ds Q e M' rm rd rl h q => by
  unfold gJoin at h
  split at h
  · split at h
    · rename_i hs
      split at h
      · rename_i hz
        cases h
        cases rd
        cases rl with
        | cons r1 t =>
          cases t
          obtain ⟨p, rfl, hp⟩ := strs_of rm r1 hs
          exact ⟨_, p, _, rfl, rfl, hp, hz, q _ _ ι (Ext.refl _ _ _) rm (.str _)⟩
      · cases h
    · cases h
  · cases h⟩
theorem m_join (hK : X.K = Γ.K) (ho : PE X o (tE Γ mo)) (ha : PA X [e] (tL Γ (eArgs ms))) (hbase : attributeBase o "join" X.env (eval o X.env) = eval o X.env := by rfl) (hline : (apos.endLine == cpos.line) = true := by rfl) (hs : starEach [e] X.env = (false, eval e X.env) :: starEach [] X.env := by rfl) :
    PE X (.Call (.Attribute o "join" apos) [e] [] cpos) (tE Γ (eMt "str" gJoin mo ms)) := p_mt hK d_join (by rw [← hK]; exact mt_join) PySem.F.plainAttrs_str PySem.F.slot_str_join PySem.F.type_str_join ho ha hbase (by rw [hs]; rfl) hline hs
end

/-! ### isinstance(x, T), T built in -/
def tyN (d : D) (M : Mem) : Option String := match d with
  | .non => some "NoneType"
  | .bl _ => some "bool"
  | .int _ => some "int"
  | .str _ => some "str"
  | .tup _ => some "tuple"
  | .rol _ => some "list"
  | .ref n => match M.get n with
    | some (.lst _) => some "list"
    | some (.dct _) => some "dict"
    | some (.dtt _) => some "dict"
    | _ => none
  | _ => none
def gIsi : Bf
  | [d, .ty T], M => match tyN d M with
    | some n => match kitB n T with
      | some b => some (.bl b, M)
      | none => none
    | none => none
  | _, _ => none
section
variable {Γ : Ga} {X : Cx}
theorem tyn_ok {ι : Nat → Addr} {M : Mem} {H : Hp} {d : D} {x : V} {n : String} (rm : RM Γ ι M H) (rd : R Γ ι M.sz H d x) (h : tyN d M = some n) : TyX Γ.K H x (.type n) := by
  unfold tyN at h
  split at h
  · cases h; cases rd; exact .base .non
  · cases h; cases rd; exact .base (.bl _)
  · cases h; cases rd; exact .base (.int _)
  · cases h; cases rd; exact .base (.str _)
  · cases h
    cases rd with
    | tup hs rl =>
      rcases hs with (hs | ⟨o, hs⟩) | ⟨o, its, n, lk, hc, _⟩
      · exact .base (.tup hs)
      · exact .fTuple hs
      · exact .kTuple lk hc
  · cases h
    cases rd with
    | rol hs =>
      rcases hs with ⟨o, hs⟩ | ⟨o, its, n, lk, hc, _⟩
      · exact .base (.frz hs)
      · exact .kList lk hc
  · split at h
    · rename_i g
      cases h; cases rd
      obtain ⟨vs, e, _⟩ := rm.ob _ _ g
      exact .base (.lst e)
    · rename_i g
      cases h; cases rd
      obtain ⟨vs, e, _⟩ := rm.ob _ _ g
      exact .base (.dK e)
    · rename_i g
      cases h; cases rd
      obtain ⟨vs, e, _⟩ := rm.ob _ _ g
      exact .base (.dT e)
    · cases h
  · cases h
theorem b_isi (hK : X.K = Γ.K) : CallR X (.builtin "isinstance") (rB Γ gIsi) := by
  intro pins s σ H xs us Q I rv h
  obtain ⟨ι, M, ds, rm, rl, d, M', e, q⟩ := h
  unfold gIsi at e
  split at e
  · split at e
    · rename_i hn
      split at e
      · rename_i hb
        cases e
        obtain ⟨v1, v2, rfl, r1, r2⟩ := two_of rl
        cases r2
        exact call_isi pins s σ H _ us Q I rv ⟨_, _, _, _, _, rfl, .ty _, by rw [hK]; exact tyn_ok rm r1 hn, kit_ty hb, q _ H ι (Ext.refl _ _ _) rm (.bl _)⟩
      · cases e
    · cases e
  · cases e
theorem p_ty {x : Str} {n : String} {pos : Pos} (hm : X.mg x = none) (hv : bootBuiltins x = some (.type n)) (hg : Gl X x := by rfl) (hn : x ≠ "__name__" := by decide) (hd : (x == ("__debug__" : Str)) = false := by decide) : PE X (.Name x pos) (tE Γ (eCon (.ty n))) :=
  p_con (pe_bltn (v := .ty n) hg hm hv rfl hn hd) fun _ _ _ => .ty n
theorem kb_ss : kitB "str" "str" = some true := by decide +kernel
theorem kb_ts : kitB "tuple" "str" = some false := by decide +kernel
theorem kb_is : kitB "int" "str" = some false := by decide +kernel
theorem kb_ns : kitB "NoneType" "str" = some false := by decide +kernel
theorem kb_bs : kitB "bool" "str" = some false := by decide +kernel
theorem kb_ls : kitB "list" "str" = some false := by decide +kernel
theorem kb_ds : kitB "dict" "str" = some false := by decide +kernel
theorem kb_ii : kitB "int" "int" = some true := by decide +kernel
theorem kb_bi : kitB "bool" "int" = some true := by decide +kernel
theorem kb_si : kitB "str" "int" = some false := by decide +kernel
theorem kb_ti : kitB "tuple" "int" = some false := by decide +kernel
theorem kb_ni : kitB "NoneType" "int" = some false := by decide +kernel
theorem kb_bb : kitB "bool" "bool" = some true := by decide +kernel
theorem kb_ib : kitB "int" "bool" = some false := by decide +kernel
theorem kb_tt : kitB "tuple" "tuple" = some true := by decide +kernel
theorem kb_st : kitB "str" "tuple" = some false := by decide +kernel
theorem kb_it : kitB "int" "tuple" = some false := by decide +kernel
theorem kb_nt : kitB "NoneType" "tuple" = some false := by decide +kernel
end

/-! ### a, b = x, y with plain names: stored from the right -/
def sPar (i j : Nat) (ms : List Ev) : Sv := fun ρ M => bnd (eArgs ms ρ M) fun ds M1 => match ds with
  | [a, b] => some (.nx ((ρ.set i (some a)).set j (some b)), M1)
  | _ => none
section
variable {Γ : Ga} {X : Cx}
theorem s_par {i j : Nat} {x y : Str} {a b : Expr} {ms : List Ev} {px py pt pos : Pos} {kt k2 pt2} (hc : X.calm = true) (hN : X.N.Nodup) (ha : PA X [a, b] (tL Γ (eArgs ms))) (hw : swappedStores [.Tuple [.Name x px, .Name y py] kt pt] (.Tuple [a, b] k2 pt2) X.env = pure (some [x, y]))
    (hi : X.N[i]? = some x := by rfl) (hj : X.N[j]? = some y := by rfl) (hij : i ≠ j := by decide) (hx : X.env.scope.names.lookup x = some .local := by rfl) (hy : X.env.scope.names.lookup y = some .local := by rfl)
    (hs : swapsWithSole [.Tuple [.Name x px, .Name y py] kt pt] (.Tuple [a, b] k2 pt2) pos.line X.env = pure false := by rfl) :
    PS X (.Assign [.Tuple [.Name x px, .Name y py] kt pt] (.Tuple [a, b] k2 pt2) pos) (tS Γ (sPar i j ms)) := by
  refine PS.of (ps_par hc hN hi hj hij hx hy ha hw hs) fun E σ H h => ?_
  obtain ⟨ι, ρ, M, S, f, M', e, q⟩ := h
  obtain ⟨ds, M1, e1, e2⟩ := bnd_inv e
  refine ⟨ι, ρ, M, S, ds, M1, e1, fun vs H1 ι1 x1 r1 rl => ?_⟩
  split at e2
  · cases e2
    obtain ⟨v1, v2, rfl, ra, rb⟩ := two_of rl
    exact ⟨v1, v2, rfl, q _ H1 ι1 x1 ⟨r1, ((S.s.ext S.m x1).set i ra).set j rb⟩⟩
  · cases e2
end
end Nl

set_option autoImplicit false
/-! Nl, part K: defs, their promises, calls; the law's own call. -/
namespace Nl
open PySem L2

/-- a def's promise (asked where no __repr__ is under way) -/
structure FnG (Γ : Ga) (k : Nat) (f : Addr) (fd : FuncData) (ps : List Str) (g : Bf) : Prop where
  go : ∀ (B : Around) (ou : List Env) (z : Shared) (H : Hp) (ar : Args) (us : List Value) (vs : List V) (Q : VK) (E : XK), B.guards = some [] → Room k B → Env0 Γ.P Γ.w Γ.K Γ.mg Γ.base B ou z H → BindsTo z fd ar (ps.zip us) → Vals vs us → vs.length = ps.length →
    rB Γ g vs H Q → codeAny (model Γ.P Γ.w) B (.call (.ref f) ar) (CR CX0 ou Γ.P Γ.w H z Q E) z

/-- a body's context -/
structure Fit (Γ : Ga) (k : Nat) (X : Cx) : Prop where
  eP : X.prog = Γ.P
  eW : X.w = Γ.w
  eK : X.K = Γ.K
  eM : X.mg = Γ.mg
  eB : X.base = Γ.base
  rm : Room k X.A
  gu : X.A.guards = some []
  nd : X.N.Nodup
  calm : X.calm = true
theorem Fit.blk {Γ : Ga} {k : Nat} {X : Cx} (h : Fit Γ k X) {s : Shared} {H : Hp} {scope : Scope} {ce : Env} {fp : List Addr} : Fit Γ k (X.blk s H scope ce fp) := ⟨h.eP, h.eW, h.eK, h.eM, h.eB, h.rm, h.gu, h.nd, h.calm⟩
abbrev cx (Γ : Ga) (N : List Str) (qual : Str) (scope : Scope) (f : Addr) (cdv : Value) (A : Around) (outer : List Env) (s : Shared) (H : Hp) (E : XK) : Cx := (cxOf CX0 Γ.P Γ.w Γ.K Γ.mg Γ.base N qual scope f cdv A outer s H E).nox

/-- what a def computes, from its body's semantics -/
def bodyD (b : Sv) (n : Nat) : Bf := fun ds M => match b (ds.map some ++ List.replicate (n - ds.length) none) M with
  | some (.nx _, M') => some (.non, M')
  | some (.rt d, M') => some (d, M')
  | _ => none
theorem rs_start {Γ : Ga} {ι : Nat → Addr} {M : Nat} {H : Hp} {ds : List D} {vs : List V} {N : List Str} (r : RL Γ ι M H ds vs) : RS Γ ι M H (ds.map some ++ List.replicate (N.length - ds.length) none) (L2.start N vs) := by
  have hl := r.length
  unfold L2.start
  rw [← hl]
  refine ⟨by simp [hl], fun i d e => ?_⟩
  by_cases hi : i < ds.length
  · rw [List.getElem?_append_left (by simpa using hi), List.getElem?_map] at e
    cases hd : ds[i]? with
    | none => rw [hd] at e; cases e
    | some x =>
      rw [hd] at e
      cases e
      obtain ⟨v, hv, rv⟩ := r.get hd
      refine ⟨v, ?_, rv⟩
      rw [List.getElem?_append_left (by simpa [← hl] using hi), List.getElem?_map, hv]
      rfl
  · rw [List.getElem?_append_right (by simpa using hi), List.getElem?_replicate] at e
    split at e <;> cases e
theorem FnG.of {Γ : Ga} {k : Nat} {b : Sv} {x qual : Str} {params : Arguments} {body : List Stmt} {scope : Scope} {dvs : List V} {kws : List (Str × V)} {f : Addr} {fd : FuncData} {N ps : List Str} (F : FunD Γ.K x qual params body scope dvs kws f fd) (S : FnScope N ps scope)
    (hb : ∀ (cdv : Value) (A : Around) (outer : List Env) (s : Shared) (H : Hp) (E : XK), Fit Γ k (cx Γ N qual scope f cdv A outer s H E) → PSs (cx Γ N qual scope f cdv A outer s H E) body (tS Γ b)) : FnG Γ (k + 1) f fd ps (bodyD b N.length) := by
  obtain ⟨oc, od, dV, kV, doc, pm, an, cdv, ct, osl, rfl, lk, hcd, _, _⟩ := F.ex
  refine ⟨fun B ou z H ar us vs Q E hG hr e0 bt r hl hq => ?_⟩
  have KX : Γ.K.In z.heap := e0.mod.kin.keeps fun c o e => (e0.bs c o e).1
  have lim : z.heap.NoLimit := e0.mod.nolimit.keeps fun c o e => (e0.bs c o e).1
  have kinds : ∀ y ∈ ps.zip us, scope.names.lookup y.1 = some .local ∨ (scope.names.lookup y.1 = some .cell ∧ ((cellsFrom (z.heap.objs.size + 1) scope.names []).lookup y.1).isSome = true) := fun ⟨n, v⟩ hy => (S.par n (List.of_mem_zip hy).1).imp id fun q => ⟨q, PySem.W.cellsFrom_some _ _ _ (.inl q)⟩
  refine codeAny_call_function hr.depth (KX _ _ lk) rfl S.co S.gen rfl (PySem.W.codeRec_of KX hcd) (bt _ _ _ _ ?_)
  refine wpAny_newFunctionEnv_cells S.kind kinds fun en hen z1 x1 => ?_
  subst hen
  refine ⟨lim.keeps x1.toInCall.keep, codeAny_func ?_⟩
  have hr' := hr.deeper (PyProof.Rows.envOfC qual scope z.heap.objs.size f cdv)
  have fit : Fit Γ k (cx Γ N qual scope f cdv B ou z H E) := ⟨rfl, rfl, rfl, rfl, rfl, hr', hG, S.nd, rfl⟩
  have J : Inv (cxOf CX0 Γ.P Γ.w Γ.K Γ.mg Γ.base N qual scope f cdv B ou z H E) [] (L2.start N vs) H z1 := inv_start S hr.hd e0 hl r x1
  obtain ⟨ι, M, ds, rm, rl, d, M', ed, q⟩ := hq
  have sim : Sim Γ ι M H (ds.map some ++ List.replicate (N.length - ds.length) none) (L2.start N vs) := ⟨rm, rs_start rl⟩
  have fin : tS Γ b { nx := fun _ H' => Q .non H', rt := Q } (L2.start N vs) H := by
    unfold bodyD at ed
    split at ed
    · rename_i ρ' M2 e2
      cases ed
      exact ⟨ι, _, M, sim, _, _, e2, fun σ' H' ι' x S' => q .non H' ι' x S'.m .non⟩
    · rename_i d2 M2 e2
      cases ed
      exact ⟨ι, _, M, sim, _, _, e2, fun v H' ι' x r' rd => q v H' ι' x r' rd⟩
    · cases ed
  have ends : ∀ {τ : St} {H' : Hp} {v : V} {u : Value} {z' : Shared}, Inv (cxOf CX0 Γ.P Γ.w Γ.K Γ.mg Γ.base N qual scope f cdv B ou z H E) [] τ H' z' → RelV v u → Q v H' → CE ou Γ.P Γ.w H z Q u z' :=
    fun {τ H' v u z'} J' rv q' => ⟨v, H', J'.os, J'.bare, J'.base, J'.hok, rv, q'⟩
  refine wpAny_mono ((hb cdv B ou z H E fit).nox.run [] z1 (L2.start N vs) H _ J fin) (fun fl z' hs => ?_) fun _ _ he => he
  cases fl with
  | ret u =>
    obtain ⟨v, τ, H', J', rv, q'⟩ := hs
    exact ends J' rv q'
  | next =>
    obtain ⟨τ, H', J', q'⟩ := hs
    exact ends (v := V.non) (u := Value.none) J' rfl q'
  | brk => obtain ⟨_, _, _, q'⟩ := hs; exact False.elim q'
  | cont => obtain ⟨_, _, _, q'⟩ := hs; exact False.elim q'
/-- at level 0 nothing is promised -/
theorem FnG.zero {Γ : Ga} {k : Nat} {f : Addr} {fd : FuncData} {ps : List Str} : FnG Γ k f fd ps fun _ _ => none := ⟨fun _ _ _ _ _ _ _ _ _ _ _ _ _ _ _ hq => by
  obtain ⟨_, _, _, _, _, _, _, e, _⟩ := hq
  cases e⟩

/-! ### calls -/
section
variable {Γ : Ga} {X : Cx} {k n : Nat} {f : Addr} {fd : FuncData} {ps : List Str} {g : Bf} {ds : List Value} {dvs : List V} {dds : List D} {x : Str} {p pos : Pos} {e : Expr} {es : List Expr} {ms : List Ev}
theorem run_fnG {pins : List (Addr × Obj)} {σ : St} {H : Hp} {z : Shared} {Q : VK} {us : List Value} {vs : List V} (hX : Fit Γ k X) (F : FnG Γ k f fd ps g) (hb : Binds Γ.K fd ps ds) (hd : Vals dvs ds) (I : Inv X pins σ H z) (r : Vals vs us) (hl : (vs ++ dvs).length = ps.length) (h : rB Γ g (vs ++ dvs) H Q) :
    wpAny (model X.prog X.w) X.A (call (.ref f) us) (EP X pins σ Q) X.xe z := by
  have r2 : Vals (vs ++ dvs) (us ++ ds) := r.append hd
  have hl2 : (us ++ ds).length = ps.length := by rw [← r2.length]; exact hl
  have KI : Γ.K.In z.heap := by rw [← hX.eK]; exact I.kIn
  have e0 : Env0 Γ.P Γ.w Γ.K Γ.mg Γ.base X.A X.stack z H := by
    have := I.env0
    rw [hX.eP, hX.eW, hX.eK, hX.eM, hX.eB] at this
    exact this
  have go := F.go X.A X.stack z H ⟨us, []⟩ (us ++ ds) (vs ++ dvs) Q (fun _ _ _ => False) hX.gu hX.rm e0 (hb z us KI hl2) r2 hl h
  rw [← hX.eP, ← hX.eW] at go
  refine wpAny_call (codeAny_mono go fun res z' hq => ?_)
  cases res with
  | error _ => exact False.elim hq
  | ok fl =>
    cases fl with
    | ret _ => exact I.after hq
    | next => exact False.elim hq
    | brk => exact False.elim hq
    | cont => exact False.elim hq
/-- a def that is called by its name; dds: the defaults that fill up -/
structure CalG (Γ : Ga) (k : Nat) (x : Str) (n : Nat) (dds : List D) (g : Bf) : Prop where
  ex : ∃ (f : Addr) (fd : FuncData) (ps : List Str) (ds : List Value) (dvs : List V), FnG Γ k f fd ps g ∧ Γ.mg x = some (.ref f) ∧ PySem.W.keepIn Γ.K (.ref f) = true ∧ Binds Γ.K fd ps ds ∧ Vals dvs ds ∧ (∀ ι N H, RL Γ ι N H dds dvs) ∧ ps.length = n
def eCallD (g : Bf) (ms : List Ev) (dds : List D) : Ev := fun ρ M => bnd (eArgs ms ρ M) fun ds M1 => g (ds ++ dds) M1
theorem RL.cat {ι : Nat → Addr} {N : Nat} {H : Hp} : ∀ {as bs : List D} {xs ys : List V}, RL Γ ι N H as xs → RL Γ ι N H bs ys → RL Γ ι N H (as ++ bs) (xs ++ ys)
  | _, _, _, _, .nil, h => h
  | _, _, _, _, .cons r t, h => .cons r (t.cat h)
theorem p_call (hX : Fit Γ k X) (c : CalG Γ k x n dds g) (ha : PA X (e :: es) (tL Γ (eArgs ms))) (hn : ms.length + dds.length = n := by rfl) (hg : Gl X x := by rfl)
    (hdb : (x == ("__debug__" : Str)) = false := by decide) (he : starEach (e :: es) X.env = (false, eval e X.env) :: starEach es X.env := by rfl) (hpl : (backTo pos (starEach es X.env)).any (·.1) = false := by rfl) :
    PE X (.Call (.Name x p) (e :: es) [] pos) (tE Γ (eCallD g ms dds)) := by
  obtain ⟨f, fd, ps, ds, dvs, F, hm, hk, hb, hd, hR, hps⟩ := c.ex
  refine ⟨fun pins z σ H Q I h => ?_⟩
  obtain ⟨ι, ρ, M, S, d, M', ed, q⟩ := h
  obtain ⟨as, M1, e1, e2⟩ := bnd_inv ed
  refine wpAny_Call_Name_kw (ld_glob I hg (by rw [hX.eM]; exact hm) ?_ hdb)
  refine PySem.W.callWith_K (h₀ := X.base) I.ok.mod.kin (by rw [hX.eK]; exact hk) (thn (ha.run pos pins z σ H (fun vs H2 => (vs ++ dvs).length = ps.length ∧ rB Γ g (vs ++ dvs) H2 Q) I ⟨ι, ρ, M, S, as, M1, e1, fun vs H1 ι1 x1 r1 rl => ⟨?_, ι1, M1, as ++ dds, r1, rl.cat (hR _ _ _), d, M', e2, fun v H2 ι2 x2 r2 rd => q v H2 ι2 (x1.trans r1 x2) r2 rd⟩⟩) fun us z1 hz => ?_) he hpl
  · rw [List.length_append, ← rl.length, ← (hR ι 0 H).length, eArgs_len e1, hps, hn]
  · obtain ⟨vs, H2, I2, r, hl, hq⟩ := hz
    exact ⟨I2.kIn, run_fnG hX F hb hd I2 r hl hq⟩
theorem p_call0 (hX : Fit Γ k X) (c : CalG Γ k x n dds g) (hn : dds.length = n := by rfl) (hg : Gl X x := by rfl) (hdb : (x == ("__debug__" : Str)) = false := by decide) : PE X (.Call (.Name x p) [] [] pos) (tE Γ (eCallD g [] dds)) := by
  obtain ⟨f, fd, ps, ds, dvs, F, hm, hk, hb, hd, hR, hps⟩ := c.ex
  refine ⟨fun pins z σ H Q I h => ?_⟩
  obtain ⟨ι, ρ, M, S, d, M', ed, q⟩ := h
  refine wpAny_Call_Name_kw (ld_glob I hg (by rw [hX.eM]; exact hm) ?_ hdb)
  refine PySem.W.callWith_K0 I.kIn (by rw [hX.eK]; exact hk) (run_fnG (us := []) (vs := []) hX F hb hd I .nil ?_ ⟨ι, M, dds, S.m, hR _ _ _, d, M', ed, q⟩)
  rw [List.nil_append, ← (hR ι 0 H).length, hn, hps]
end

/-! ### the law's own call -/
theorem vals_of : ∀ {us : List Value} {ns : List Int}, PyProof.Rows.IntsAre us ns → Vals (ns.map V.int) us
  | _, _, .nil => .nil
  | _, _, .cons _ t h => .cons ⟨t, rfl⟩ (vals_of h)
theorem law_go {l : PySem.W.OpenLaw} {w : World} {K : PySem.W.Frag} {mg mb : Str → Option Value} {k : Nat} {fa a : Addr} {fd : FuncData} {x : Str} {sh : Shared} {us : List Value} {ns : List Int} {g : Bf} {cf cc : Nat → Addr}
    (KX : K.In sh.heap) (hns : sh.heap.Ns mainGlobals mg) (hb : sh.heap.Ns builtinsNs mb) (hbb : ∀ x : Str, x ≠ "__name__" → mb x = bootBuiltins x) (hlim : sh.heap.NoLimit) (hge : sh.gens = #[])
    (ha : sh.heap.get? a = some { cls := .type "list", data := .seq us.toArray }) (hi : PyProof.Rows.IntsAre us ns) (hl : ns.length ≤ sizeLine) (hr : Room k callerA)
    (F : ∀ base : Heap, K.In base → base.Ns mainGlobals mg → FnG ⟨l.prog, w, K, mg, base, cf, cc⟩ k fa fd [x] g) (hbd : ∀ (s : Shared) (u : Value), BindsTo s fd ⟨[u], []⟩ [(x, u)])
    (pl : ∃ M', g [.rol ns] ⟨#[]⟩ = some (.bl true, M')) :
    codeAny (model l.prog w) callerA (.call (.ref fa) ⟨[.ref a], []⟩) (fun r s' => r = .ok (.ret (.bool true)) ∧ OldK sh.heap s'.heap ∧ s'.os = sh.os ∧ PyProof.Rows.AllBare s'.gens) sh := by
  have rv := vals_of hi
  have lenV := hi.length
  have core : ∀ H : Hp, RoL K H a (ns.map V.int) → HOk l.prog w H sh.heap → (∀ b, H b ≠ none → b = a) → (H a ≠ none → K.lookup a = none ∧ ∃ o xs, H a = some (.frz o (.lst xs))) →
      codeAny (model l.prog w) callerA (.call (.ref fa) ⟨[.ref a], []⟩) (fun r s' => r = .ok (.ret (.bool true)) ∧ OldK sh.heap s'.heap ∧ s'.os = sh.os ∧ PyProof.Rows.AllBare s'.gens) sh := by
    intro H hS hok hA hK
    have one : ∀ {b : Addr}, H b = none ∨ b = a := fun {b} => by
      cases q : H b with
      | none => exact .inl rfl
      | some u => exact .inr (hA b (by rw [q]; simp))
    have noD : ∀ {b : Addr} {o : Obj} {es : Array DictEntry} {ep : Nat}, sh.heap.get? b = some o → o.data = .dict es ep → H b = none := fun {b o es ep} e d => by
      rcases one (b := b) with q | q
      · exact q
      · subst q
        rw [ha] at e
        cases e
        exact nomatch (show Data.seq us.toArray _ = Data.dict es ep from d)
    have keepN : ∀ {b : Addr} {m : Str → Option Value}, sh.heap.Ns b m → (hidT sh.heap H).Ns b m := fun {b m} ⟨o, es, ep, e, d, r⟩ => ⟨o, es, ep, hidT_get e (noD e d), d, r⟩
    have hKb : K.In (hidT sh.heap H) := fun b o e => hidT_get (KX b o e) (by
      cases q : H b with
      | none => rfl
      | some u =>
        obtain rfl := hA b (by rw [q]; simp)
        rw [(hK (by rw [q]; simp)).1] at e
        cases e)
    have hM : Mod K mg (hidT sh.heap H) := ⟨hKb, keepN hns, ⟨mb, keepN hb, hbb⟩, let ⟨mc, h1, h2⟩ := hlim; ⟨mc, keepN h1, h2⟩⟩
    have e0 : Env0 l.prog w K mg (hidT sh.heap H) callerA [] sh H := ⟨rfl, hM, fun b o e => of_hidT e, Nat.le_of_eq (hidT_size _ _), trivial, fun b hb => (nomatch (show b ∈ ([] : List Addr) from hb)), hok, .of_eq hge⟩
    obtain ⟨M', em⟩ := pl
    have hq : rB ⟨l.prog, w, K, mg, hidT sh.heap H, cf, cc⟩ g [.ref a] H (fun v _ => v = .bl true) :=
      ⟨fun _ => 0, ⟨#[]⟩, [.rol ns], ⟨fun n o e => absurd (Mem.get_lt e) (Nat.not_lt_zero n), fun m n hm => absurd hm (Nat.not_lt_zero m)⟩, .cons (.rol hS) .nil, _, _, em, fun v H' ι' x r rd => by cases rd; rfl⟩
    refine codeAny_mono ((F _ hKb (keepN hns)).go callerA [] sh H ⟨[.ref a], []⟩ [.ref a] [.ref a] _ (fun _ _ _ => False) (by rfl) hr e0 (hbd sh (.ref a)) (.cons rfl .nil) rfl hq) fun r s' h => ?_
    cases r with
    | error e => exact False.elim h
    | ok fl =>
      cases fl with
      | next => exact False.elim h
      | brk => exact False.elim h
      | cont => exact False.elim h
      | ret u =>
        obtain ⟨v, H', os, bare, un, hok', r', q⟩ := h
        obtain rfl : v = .bl true := q
        obtain rfl : u = Value.bool true := r'
        refine ⟨rfl, OldK.of_keep fun b o e => ?_, os, bare⟩
        cases q : H b with
        | none => exact un.keep b o e q (by intro z; exact (nomatch (show b ∈ ([] : List Addr) from z))) (by simp)
        | some u =>
          obtain rfl := hA b (by rw [q]; simp)
          obtain ⟨_, ob, xs, hz⟩ := hK (by rw [q]; simp)
          have z2 := un.frzs _ ob _ hz
          obtain ⟨e1, _⟩ := hok _ _ hz
          obtain ⟨e2, _⟩ := hok' _ _ z2
          rw [e] at e1
          cases e1
          exact e2
  cases hk : K.lookup a with
  | some o =>
    have e := KX a o hk
    rw [ha] at e
    cases e
    exact core (fun _ => none) (.inr ⟨_, us.toArray, _, hk, rfl, rfl, rfl, by rw [List.size_toArray, lenV]; exact hl, by simpa using rv⟩) (fun b u z => (nomatch (show (none : Option HO) = some u from z))) (fun b z => absurd rfl z) fun z => absurd rfl z
  | none =>
    refine core (fun b => if b = a then some (.frz { cls := .type "list", data := .seq us.toArray } (.lst (ns.map V.int))) else none) (.inl ⟨{ cls := .type "list", data := .seq us.toArray }, if_pos rfl⟩) (fun b u z => ?_) (fun b z => ?_) fun _ => ⟨hk, _, _, if_pos rfl⟩
    · by_cases hb : b = a
      · cases (if_pos hb).symm.trans z
        subst hb
        exact ⟨ha, by rw [List.length_map]; exact hl, us, _, rv, ha⟩
      · cases (if_neg hb).symm.trans z
    · by_cases hb : b = a
      · exact hb
      · exact absurd (if_neg hb) z
/-- THE HEAD's goal behind k_fill -/
theorem walk_go {l : PySem.W.OpenLaw} {n k : Nat} {q : Program} {loose : List Str} {XP : (Str → Option Value) → Heap → Prop} {YP : World → Heap → Prop} {d : DefRec} {K : Params → PySem.W.Frag} {x : Str} {g : Bf}
    (hn : l.most = some n) (hn2 : n ≤ sizeLine) (hdf : d.params.defaults = []) (hr : Room k callerA) (hY : ∀ (w : World) (h : Heap), YP w h → (K w.params).In h)
    (F : ∀ (w : World) (mg : Str → Option Value) (fa : Addr) (h : Heap), (K w.params).In h → h.Ns mainGlobals mg → mg d.name = some (.ref fa) →
      ∃ fd : FuncData, (∀ (s : Shared) (u : Value), BindsTo s fd ⟨[u], []⟩ [(x, u)]) ∧ ∃ cf cc : Nat → Addr, ∀ base : Heap, (K w.params).In base → base.Ns mainGlobals mg → FnG ⟨l.prog, w, K w.params, mg, base, cf, cc⟩ k fa fd [x] g)
    (pl : ∀ ns : List Int, ns.length ≤ n → ∃ M', g [.rol ns] ⟨#[]⟩ = some (.bl true, M')) :
    PySem.W.WalkO q loose XP YP l.row.toRowW d [] (fun f vs => PySem.call f vs) := by
  refine Att.attach_call hn hdf fun w s₀ sh mg mb fa o pm cd doc a us ns G Y ho hd hcd hmg hobj hints hlen hg => ?_
  have KX := hY w _ Y
  obtain ⟨fd, hb, cf, cc, hF⟩ := F w mg fa _ KX G.T.g hmg
  exact law_go KX G.T.g G.T.b G.T.builtins G.T.nolimit hg hobj hints (Nat.le_trans hlen hn2) hr hF hb (pl ns hlen)
end Nl

set_option autoImplicit false
/-! Nl, part L: short words for what a program prints. -/
namespace Nl
open PySem L2
section
variable {Γ : Ga} {k : Nat} {X : Cx}
theorem Fit.u (h : Fit Γ k X) : X.A.units + 100 < cLine := by have := h.rm.un; omega
theorem Fit.u1 (h : Fit Γ k X) : X.A.units + 1 < cLine := by have := h.u; omega
theorem Fit.u64 (h : Fit Γ k X) : X.A.units + 64 < cLine := by have := h.u; omega
theorem Fit.u70 (h : Fit Γ k X) : X.A.units + 70 < cLine := by have := h.u; omega
end
theorem sw_trueD {kx vx : Expr} {gs : List Comprehension} {scope : Scope} {pos py : Pos} {y : Str} {l : Nat} {env : Env} (hk : env.scope.kind = .function) (hy : env.scope.names.lookup y = some .local) (hl : (py.line == pos.line) = true)
    (ha : (scope.names.any fun (n, k) => n == y && (k == .local || k == .cell)) = false) : swapsWith (.DictComp kx vx gs scope pos) (some (.Name y py)) l env = pure true := by
  have kz : env.kindOf y = some .local := hy
  have hz : env.blockKind = .function := by unfold Env.blockKind; rw [hk]; rfl
  unfold swapsWith
  simp only [hz, kz, ha, Expr.pos, hl]
  rfl
theorem bo_len : bootBuiltins "len" = some (.builtin "len") := by decide +kernel
theorem bo_abs : bootBuiltins "abs" = some (.builtin "abs") := by decide +kernel
theorem bo_max : bootBuiltins "max" = some (.builtin "max") := by decide +kernel
theorem bo_min : bootBuiltins "min" = some (.builtin "min") := by decide +kernel
theorem bo_all : bootBuiltins "all" = some (.builtin "all") := by decide +kernel
theorem bo_any : bootBuiltins "any" = some (.builtin "any") := by decide +kernel
theorem bo_sum : bootBuiltins "sum" = some (.builtin "sum") := by decide +kernel
theorem bo_repr : bootBuiltins "repr" = some (.builtin "repr") := by decide +kernel
theorem bo_sorted : bootBuiltins "sorted" = some (.builtin "sorted") := by decide +kernel
theorem bo_isinstance : bootBuiltins "isinstance" = some (.builtin "isinstance") := by decide +kernel
theorem bo_tuple : bootBuiltins "tuple" = some (.type "tuple") := by decide +kernel
theorem bo_list : bootBuiltins "list" = some (.type "list") := by decide +kernel
theorem bo_int : bootBuiltins "int" = some (.type "int") := by decide +kernel
theorem bo_str : bootBuiltins "str" = some (.type "str") := by decide +kernel
theorem bo_bool : bootBuiltins "bool" = some (.type "bool") := by decide +kernel
theorem bo_dict : bootBuiltins "dict" = some (.type "dict") := by decide +kernel

/-- a def of the text, behind the top -/
structure DefAt (Γ : Ga) (x : Str) (st : Stmt) (dvs : List V) (kws : List (Str × V)) (f : Addr) (fd : FuncData) : Prop where
  fn : FunD Γ.K x x (defArgs st) (defBody st) (defScope st) dvs kws f fd
  mgf : Γ.mg x = some (.ref f)
section
variable {Γ : Ga} {k : Nat} {x : Str} {st : Stmt} {f : Addr} {fd : FuncData} {ps : List Str} {g : Bf} {dvs : List V} {kws : List (Str × V)}
theorem CalG.plain (d : DefAt Γ x st [] kws f fd) (F : FnG Γ k f fd ps g)
    (h : ∀ (kV doc pm : Value) (an : Option Addr) (cdv ct : Value) (us : List Value), us.length = ps.length → bindArgs (PySem.W.fnOf x x (defArgs st) (defBody st) (defScope st) .none kV doc pm an cdv ct) ⟨us, []⟩ = pure (ps.zip us)) : CalG Γ k x ps.length [] g :=
  ⟨f, fd, ps, [], [], F, d.mgf, d.fn.kp, d.fn.bindsN h, .nil, fun _ _ _ => .nil, rfl⟩
theorem CalG.dflt (d : DefAt Γ x st dvs kws f fd) (F : FnG Γ k f fd ps g) (n j : Nat) (dds : List D) (hR : ∀ ι N H, RL Γ ι N H dds (dvs.drop j)) (hd : dvs ≠ []) (hn : n + (dvs.length - j) = ps.length)
    (h : ∀ (T : Addr) (kV doc pm : Value) (an : Option Addr) (cdv ct : Value) (us its : List Value), us.length = n → its.length = dvs.length →
      ∃ k, bindArgs (PySem.W.fnOf x x (defArgs st) (defBody st) (defScope st) (.ref T) kV doc pm an cdv ct) ⟨us, []⟩ = seqItems? (.ref T) >>= k ∧ k (some its.toArray) = pure (ps.zip (us ++ its.drop j))) : CalG Γ k x ps.length dds g := by
  obtain ⟨ds, rv, hb⟩ := d.fn.binds1 n j hd hn h
  exact ⟨f, fd, ps, ds, dvs.drop j, F, d.mgf, d.fn.kp, hb, rv, hR, rfl⟩
end
/-- facts of K, as k_is finds them -/
theorem def_mk {Γ : Ga} {h : Heap} {x : Str} {st : Stmt} {f : Addr} {oc : Value} {od an : Option Addr} {osl : Array (Option Value)} {kV doc pm cdv ct : Value} (X : Γ.K.In h) (G : h.Ns mainGlobals Γ.mg) (a : PySem.W.nsIn Γ.K mainGlobals x = some (some (.ref f)))
    (l : Γ.K.lookup f = some ⟨oc, od, .func (PySem.W.fnOf x x (defArgs st) (defBody st) (defScope st) .none kV doc pm an cdv ct), osl⟩) (c : PySem.W.codeIn Γ.K cdv x = true) (kp : PySem.W.keepIn Γ.K (.ref f) = true) :
    DefAt Γ x st [] [] f (PySem.W.fnOf x x (defArgs st) (defBody st) (defScope st) .none kV doc pm an cdv ct) :=
  ⟨⟨⟨oc, od, .none, kV, doc, pm, an, cdv, ct, osl, rfl, l, c, .inl ⟨rfl, rfl⟩, .inl rfl⟩, kp⟩, PySem.W.mg_of X G a⟩
theorem def_mkD {Γ : Ga} {h : Heap} {x : Str} {st : Stmt} {f T : Addr} {oc oT : Value} {od an dT : Option Addr} {osl sT : Array (Option Value)} {kV doc pm cdv ct : Value} {dvs : List V} {its : List Value} {n : Nat} (X : Γ.K.In h) (G : h.Ns mainGlobals Γ.mg) (a : PySem.W.nsIn Γ.K mainGlobals x = some (some (.ref f)))
    (l : Γ.K.lookup f = some ⟨oc, od, .func (PySem.W.fnOf x x (defArgs st) (defBody st) (defScope st) (.ref T) kV doc pm an cdv ct), osl⟩) (c : PySem.W.codeIn Γ.K cdv x = true) (kp : PySem.W.keepIn Γ.K (.ref f) = true)
    (t : Γ.K.lookup T = some ⟨oT, dT, .seq its.toArray n, sT⟩) (rv : Vals dvs its) (hne : dvs ≠ []) :
    DefAt Γ x st dvs [] f (PySem.W.fnOf x x (defArgs st) (defBody st) (defScope st) (.ref T) kV doc pm an cdv ct) :=
  ⟨⟨⟨oc, od, .ref T, kV, doc, pm, an, cdv, ct, osl, rfl, l, c, .inr ⟨hne, T, _, its, n, rfl, t, rfl, rv⟩, .inl rfl⟩, kp⟩, PySem.W.mg_of X G a⟩
end Nl

set_option autoImplicit false
/-! Nl, part P: plain laws: what the small machine computes. No program in sight. -/
namespace Nl
open PySem L2

/-- x ends, and P holds of what it ends with -/
def Ok {α : Type} (x : Out α) (P : α → Mem → Prop) : Prop := ∃ a M, x = some (a, M) ∧ P a M
/-- the same of a target -/
def OkG (x : Option (Rho × Mem)) (P : Rho → Mem → Prop) : Prop := ∃ a M, x = some (a, M) ∧ P a M
section
variable {α β : Type} {P Q : α → Mem → Prop} {ρ : Rho} {M : Mem}
@[simp] theorem ok_some {a : α} : Ok (some (a, M)) P ↔ P a M := ⟨fun ⟨_, _, e, h⟩ => by cases e; exact h, fun h => ⟨a, M, rfl, h⟩⟩
@[simp] theorem ok_none : Ok (none : Out α) P ↔ False := ⟨fun ⟨_, _, e, _⟩ => (nomatch e), fun h => False.elim h⟩
@[simp] theorem okg_some {a : Rho} {P : Rho → Mem → Prop} : OkG (some (a, M)) P ↔ P a M := ⟨fun ⟨_, _, e, h⟩ => by cases e; exact h, fun h => ⟨a, M, rfl, h⟩⟩
@[simp] theorem okg_none {P : Rho → Mem → Prop} : OkG none P ↔ False := ⟨fun ⟨_, _, e, _⟩ => (nomatch e), fun h => False.elim h⟩
theorem Ok.mono {x : Out α} (h : Ok x P) (w : ∀ a M, P a M → Q a M) : Ok x Q := let ⟨a, M, e, q⟩ := h; ⟨a, M, e, w a M q⟩
@[simp] theorem ok_bnd {x : Out β} {f : β → Mem → Out α} : Ok (bnd x f) P ↔ Ok x fun b M1 => Ok (f b M1) P := by
  cases x with
  | none => simp
  | some p => obtain ⟨b, M1⟩ := p; simp
@[simp] theorem ok_if {c : Prop} [Decidable c] {x y : Out α} : Ok (if c then x else y) P ↔ if c then Ok x P else Ok y P := by split <;> exact Iff.rfl
@[simp] theorem ok_map {x : Option β} {f : β → α × Mem} : Ok (x.map f) P ↔ ∃ b, x = some b ∧ P (f b).1 (f b).2 := by
  cases x with
  | none => simp
  | some b =>
    simp only [Option.map_some]
    exact ⟨fun ⟨a, M, e, h⟩ => ⟨b, rfl, by rw [Option.some.inj e]; exact h⟩, fun ⟨c, e, h⟩ => by cases e; exact ⟨_, _, rfl, h⟩⟩
end
section
variable {ρ : Rho} {M : Mem} {P : D → Mem → Prop} {B : Bool → Mem → Prop} {F : Fl → Mem → Prop} {L : List D → Mem → Prop} {a b c : Ev} {s t : Bv} {m n : Sv}
@[simp] theorem ok_var {i : Nat} : Ok (eVar i ρ M) P ↔ ∃ d, ρ[i]? = some (some d) ∧ P d M := by
  unfold eVar
  cases h : ρ[i]? with
  | none => simp
  | some o => cases o <;> simp
@[simp] theorem ok_con {d : D} : Ok (eCon d ρ M) P ↔ P d M := ok_some
@[simp] theorem ok_op {g : D → D → Mem → Out D} : Ok (eOp g a b ρ M) P ↔ Ok (a ρ M) fun x M1 => Ok (b ρ M1) fun y M2 => Ok (g x y M2) P := by simp [eOp]
@[simp] theorem ok_args0 : Ok (eArgs [] ρ M) L ↔ L [] M := ok_some
@[simp] theorem ok_args1 {ms : List Ev} : Ok (eArgs (a :: ms) ρ M) L ↔ Ok (a ρ M) fun d M1 => Ok (eArgs ms ρ M1) fun ds M2 => L (d :: ds) M2 := by simp
@[simp] theorem ok_tup {ms : List Ev} : Ok (eTup ms ρ M) P ↔ Ok (eArgs ms ρ M) fun ds M1 => P (.tup ds) M1 := by simp [eTup]
@[simp] theorem ok_lst {ms : List Ev} : Ok (eLst ms ρ M) P ↔ Ok (eArgs ms ρ M) fun ds M1 => P (.ref M1.sz) (M1.new (.lst ds)) := by simp [eLst]
@[simp] theorem ok_callD {g : Bf} {ms : List Ev} {dds : List D} : Ok (eCallD g ms dds ρ M) P ↔ Ok (eArgs ms ρ M) fun ds M1 => Ok (g (ds ++ dds) M1) P := by simp [eCallD]
@[simp] theorem ok_call {g : Bf} {ms : List Ev} : Ok (eCall g ms ρ M) P ↔ Ok (eArgs ms ρ M) fun ds M1 => Ok (g ds M1) P := by simp [eCall]
@[simp] theorem ok_mt {T : String} {g : D → List D → Mem → Out D} {ms : List Ev} : Ok (eMt T g a ms ρ M) P ↔ Ok (a ρ M) fun d M1 => isTy T d M1 = true ∧ Ok (eArgs ms ρ M1) fun ds M2 => Ok (g d ds M2) P := by
  simp only [eMt, ok_bnd]
  constructor
  · rintro ⟨d, M1, e, h⟩
    refine ⟨d, M1, e, ?_⟩
    rw [ok_if] at h
    split at h
    · rename_i q; rw [ok_bnd] at h; exact ⟨q, h⟩
    · exact False.elim (ok_none.mp h)
  · rintro ⟨d, M1, e, q, h⟩
    refine ⟨d, M1, e, ?_⟩
    dsimp only
    rw [if_pos q, ok_bnd]; exact h
@[simp] theorem ok_eif : Ok (eIf s a b ρ M) P ↔ Ok (s ρ M) fun r M1 => if r = true then Ok (a ρ M1) P else Ok (b ρ M1) P := by simp [eIf]
@[simp] theorem ok_isN : Ok (eIsN a ρ M) P ↔ Ok (a ρ M) fun d M1 => P (.bl (isN d)) M1 := by simp [eIsN]
@[simp] theorem ok_notN : Ok (eNotN a ρ M) P ↔ Ok (a ρ M) fun d M1 => P (.bl (!isN d)) M1 := by simp [eNotN]
@[simp] theorem ok_xval : Ok (xVal a ρ M) B ↔ Ok (a ρ M) fun d M1 => ∃ r, truth M1 d = some r ∧ B r M1 := by simp [xVal]
@[simp] theorem ok_xnot : Ok (xNot s ρ M) B ↔ Ok (s ρ M) fun r M1 => B (!r) M1 := by simp [xNot]
@[simp] theorem ok_xand : Ok (xAnd s t ρ M) B ↔ Ok (s ρ M) fun r M1 => if r = true then Ok (t ρ M1) B else B false M1 := by simp [xAnd]
@[simp] theorem ok_xor : Ok (xOr s t ρ M) B ↔ Ok (s ρ M) fun r M1 => if r = true then B true M1 else Ok (t ρ M1) B := by simp [xOr]
@[simp] theorem ok_xyes : Ok (xYes ρ M) B ↔ B true M := ok_some
@[simp] theorem ok_nil : Ok (sNil ρ M) F ↔ F (.nx ρ) M := ok_some
/-- what stands behind a statement -/
def behind (n : Sv) (F : Fl → Mem → Prop) : Fl → Mem → Prop
  | .nx ρ1, M1 => Ok (n ρ1 M1) F
  | .rt d, M1 => F (.rt d) M1
  | .bk ρ1, M1 => F (.bk ρ1) M1
  | .ct ρ1, M1 => F (.ct ρ1) M1
@[simp] theorem behind_nx {ρ1 : Rho} : behind n F (.nx ρ1) M = Ok (n ρ1 M) F := rfl
@[simp] theorem behind_rt {d : D} : behind n F (.rt d) M = F (.rt d) M := rfl
@[simp] theorem behind_bk {ρ1 : Rho} : behind n F (.bk ρ1) M = F (.bk ρ1) M := rfl
@[simp] theorem behind_ct {ρ1 : Rho} : behind n F (.ct ρ1) M = F (.ct ρ1) M := rfl
@[simp] theorem ok_cons : Ok (sCons m n ρ M) F ↔ Ok (m ρ M) (behind n F) := by
  unfold sCons
  cases h : m ρ M with
  | none => simp
  | some p =>
    obtain ⟨f, M1⟩ := p
    cases f <;> simp
@[simp] theorem ok_ex : Ok (sEx a ρ M) F ↔ Ok (a ρ M) fun _ M1 => F (.nx ρ) M1 := by simp [sEx]
@[simp] theorem ok_ret : Ok (sRet a ρ M) F ↔ Ok (a ρ M) fun d M1 => F (.rt d) M1 := by simp [sRet]
@[simp] theorem ok_retN : Ok (sRetN ρ M) F ↔ F (.rt .non) M := ok_some
@[simp] theorem ok_sif : Ok (sIf s m n ρ M) F ↔ Ok (s ρ M) fun r M1 => if r = true then Ok (m ρ M1) F else Ok (n ρ M1) F := by simp [sIf]
@[simp] theorem ok_asg {g : Gv} : Ok (sAsg a g ρ M) F ↔ Ok (a ρ M) fun d M1 => OkG (g d ρ M1) fun ρ2 M2 => F (.nx ρ2) M2 := by
  simp only [sAsg, ok_bnd]
  constructor
  · rintro ⟨d, M1, e, h⟩
    obtain ⟨p, e2, h⟩ := ok_map.mp h
    exact ⟨d, M1, e, p.1, p.2, e2, h⟩
  · rintro ⟨d, M1, e, r, M2, e2, h⟩
    exact ⟨d, M1, e, ok_map.mpr ⟨(r, M2), e2, h⟩⟩
@[simp] theorem ok_par {i j : Nat} : Ok (sPar i j [a, b] ρ M) F ↔ Ok (a ρ M) fun x M1 => Ok (b ρ M1) fun y M2 => F (.nx ((ρ.set i (some x)).set j (some y))) M2 := by simp [sPar]
@[simp] theorem ok_brk : Ok (sBrk ρ M) F ↔ F (.bk ρ) M := ok_some
@[simp] theorem ok_cnt : Ok (sCnt ρ M) F ↔ F (.ct ρ) M := ok_some
@[simp] theorem okg_nm {i : Nat} {d : D} {G : Rho → Mem → Prop} : OkG (gNm i d ρ M) G ↔ G (ρ.set i (some d)) M := okg_some
@[simp] theorem okg_sb {d : D} {G : Rho → Mem → Prop} : OkG (gSb a b d ρ M) G ↔ Ok (a ρ M) fun o M1 => Ok (b ρ M1) fun i M2 => ∃ M3, gSet o i d M2 = some M3 ∧ G ρ M3 := by
  unfold gSb
  constructor
  · rintro ⟨r, M3, e, h⟩
    obtain ⟨o, M1, e1, e⟩ := bnd_inv e
    obtain ⟨i, M2, e2, e⟩ := bnd_inv e
    obtain ⟨M4, e3, e4⟩ := Option.map_eq_some_iff.mp e
    cases e4
    exact ⟨o, M1, e1, i, M2, e2, _, e3, h⟩
  · rintro ⟨o, M1, e1, i, M2, e2, M4, e3, h⟩
    exact ⟨ρ, M4, by rw [e1, bnd_some, e2, bnd_some, e3]; rfl, h⟩
@[simp] theorem okg_tp2 {i j : Nat} {x y : D} {G : Rho → Mem → Prop} : OkG (gTp [gNm i, gNm j] (.tup [x, y]) ρ M) G ↔ G ((ρ.set i (some x)).set j (some y)) M := by
  simp [gTp, gSeq, gNm]
@[simp] theorem okg_tp3 {i j k : Nat} {x y z : D} {G : Rho → Mem → Prop} : OkG (gTp [gNm i, gNm j, gNm k] (.tup [x, y, z]) ρ M) G ↔ G (((ρ.set i (some x)).set j (some y)).set k (some z)) M := by
  simp [gTp, gSeq, gNm]
/-- a def's end -/
def ends (P : D → Mem → Prop) : Fl → Mem → Prop
  | .nx _, M => P .non M
  | .rt d, M => P d M
  | _, _ => False
@[simp] theorem ends_nx {ρ1 : Rho} : ends P (.nx ρ1) M = P .non M := rfl
@[simp] theorem ends_rt {d : D} : ends P (.rt d) M = P d M := rfl
theorem ok_body {k : Nat} {ds : List D} : Ok (bodyD m k ds M) P ↔ Ok (m (ds.map some ++ List.replicate (k - ds.length) none) M) (ends P) := by
  unfold bodyD
  cases h : m (ds.map some ++ List.replicate (k - ds.length) none) M with
  | none => simp
  | some p =>
    obtain ⟨f, M1⟩ := p
    cases f <;> simp [ends]
end

/-! ### loops -/
section
variable {ρ : Rho} {M : Mem} {F : Fl → Mem → Prop} {ok : Mem → Bool} {g : Gv} {b : Sv} {c : Bv}
/-- what a turn of a loop leads to -/
def turned (I : Rho → Mem → Prop) (F : Fl → Mem → Prop) : Fl → Mem → Prop
  | .nx ρ, M => I ρ M
  | .ct ρ, M => I ρ M
  | .bk ρ, M => F (.nx ρ) M
  | .rt d, M => F (.rt d) M
@[simp] theorem turned_nx {I : Rho → Mem → Prop} : turned I F (.nx ρ) M = I ρ M := rfl
@[simp] theorem turned_ct {I : Rho → Mem → Prop} : turned I F (.ct ρ) M = I ρ M := rfl
@[simp] theorem turned_bk {I : Rho → Mem → Prop} : turned I F (.bk ρ) M = F (.nx ρ) M := rfl
@[simp] theorem turned_rt {I : Rho → Mem → Prop} {d : D} : turned I F (.rt d) M = F (.rt d) M := rfl
theorem forL_ok (I : Nat → Rho → Mem → Prop) (items : List D) (hok : ∀ i ρ M, i ≤ items.length → I i ρ M → ok M = true)
    (hs : ∀ i d ρ M, items[i]? = some d → I i ρ M → OkG (g d ρ M) fun ρ1 M1 => Ok (b ρ1 M1) (turned (I (i + 1)) F)) (he : ∀ ρ M, I items.length ρ M → F (.nx ρ) M) :
    ∀ (k i : Nat) (ρ : Rho) (M : Mem), k + i = items.length → I i ρ M → Ok (forL ok g b (items.drop i) ρ M) F
  | 0, i, ρ, M, hk, h => by
    have : i = items.length := by omega
    subst this
    rw [List.drop_length, forL, if_pos (hok _ _ _ (Nat.le_refl _) h)]
    exact ok_some.mpr (he _ _ h)
  | k + 1, i, ρ, M, hk, h => by
    have hlt : i < items.length := by omega
    rw [List.drop_eq_getElem_cons hlt, forL, if_pos (hok _ _ _ (Nat.le_of_lt hlt) h)]
    obtain ⟨ρ1, M1, e1, f, M2, e2, hf⟩ := hs i _ ρ M (List.getElem?_eq_getElem hlt) h
    rw [e1]
    show Ok (match b ρ1 M1 with | none => none | some (.nx ρ2, M2) => forL ok g b (items.drop (i + 1)) ρ2 M2 | some (.ct ρ2, M2) => forL ok g b (items.drop (i + 1)) ρ2 M2 | some (.bk ρ2, M2) => some (.nx ρ2, M2) | some (.rt v, M2) => some (.rt v, M2)) F
    rw [e2]
    cases f with
    | nx ρ2 => exact forL_ok I items hok hs he k (i + 1) ρ2 M2 (by omega) hf
    | ct ρ2 => exact forL_ok I items hok hs he k (i + 1) ρ2 M2 (by omega) hf
    | bk ρ2 => exact ok_some.mpr hf
    | rt d => exact ok_some.mpr hf
/-- a for loop by its invariant -/
theorem for_ok (I : Nat → Rho → Mem → Prop) (items : List D) (hok : ∀ i ρ M, i ≤ items.length → I i ρ M → ok M = true)
    (hs : ∀ i d ρ M, items[i]? = some d → I i ρ M → OkG (g d ρ M) fun ρ1 M1 => Ok (b ρ1 M1) (turned (I (i + 1)) F)) (he : ∀ ρ M, I items.length ρ M → F (.nx ρ) M) (h0 : I 0 ρ M) : Ok (forL ok g b items ρ M) F := by
  have := forL_ok (g := g) (b := b) I items hok hs he items.length 0 ρ M (Nat.add_zero _) h0
  rwa [List.drop_zero] at this
@[simp] theorem ok_for {w : Wv} : Ok (sFor w g b ρ M) F ↔ Ok (w ρ M) fun k M1 => Ok (forL k.ok g b k.items ρ M1) F := by simp [sFor]
/-- a while loop by its invariant and a measure -/
theorem whileN_ok (I : Nat → Rho → Mem → Prop) (hs : ∀ m ρ M, I m ρ M → Ok (c ρ M) fun r M1 => if r = true then Ok (b ρ M1) (turned (fun ρ2 M2 => ∃ m', m' < m ∧ I m' ρ2 M2) F) else F (.nx ρ) M1) :
    ∀ (k m : Nat) (ρ : Rho) (M : Mem), m < k → I m ρ M → Ok (whileN c b k ρ M) F
  | 0, m, _, _, hk, _ => absurd hk (Nat.not_lt_zero m)
  | k + 1, m, ρ, M, hk, h => by
    obtain ⟨r, M1, e1, h1⟩ := hs m ρ M h
    rw [whileN, e1, bnd_some]
    split at h1
    · rename_i hr
      rw [if_pos hr]
      obtain ⟨f, M2, e2, hf⟩ := h1
      rw [e2]
      cases f with
      | nx ρ2 => obtain ⟨m', hm, hI⟩ := hf; exact whileN_ok I hs k m' ρ2 M2 (by omega) hI
      | ct ρ2 => obtain ⟨m', hm, hI⟩ := hf; exact whileN_ok I hs k m' ρ2 M2 (by omega) hI
      | bk ρ2 => exact ok_some.mpr hf
      | rt d => exact ok_some.mpr hf
    · rename_i hr
      rw [if_neg hr]
      exact ok_some.mpr h1
theorem while_ok (I : Nat → Rho → Mem → Prop) (hs : ∀ m ρ M, I m ρ M → Ok (c ρ M) fun r M1 => if r = true then Ok (b ρ M1) (turned (fun ρ2 M2 => ∃ m', m' < m ∧ I m' ρ2 M2) F) else F (.nx ρ) M1) {m : Nat} (hm : m < 1000000) (h0 : I m ρ M) : Ok (sWhile c b ρ M) F :=
  whileN_ok I hs turns m ρ M hm h0
/-- a comprehension by its invariant -/
theorem lcL_ok {m : Ev} {L : List D → Mem → Prop} (I : Nat → List D → Mem → Prop) (items : List D) (hok : ∀ i ds M, i ≤ items.length → I i ds M → ok M = true)
    (hs : ∀ i d ds M, items[i]? = some d → I i ds M → OkG (g d ρ M) fun ρ1 M1 => Ok (c ρ1 M1) fun r M2 => if r = true then Ok (m ρ1 M2) fun v M3 => I (i + 1) (ds ++ [v]) M3 else I (i + 1) ds M2) (he : ∀ ds M, I items.length ds M → L ds M) :
    ∀ (k i : Nat) (ds : List D) (M : Mem), k + i = items.length → I i ds M → Ok (lcL ok g c m (items.drop i) ρ M) fun es M' => L (ds ++ es) M'
  | 0, i, ds, M, hk, h => by
    have : i = items.length := by omega
    subst this
    rw [List.drop_length, lcL, if_pos (hok _ _ _ (Nat.le_refl _) h)]
    exact ok_some.mpr (by rw [List.append_nil]; exact he _ _ h)
  | k + 1, i, ds, M, hk, h => by
    have hlt : i < items.length := by omega
    rw [List.drop_eq_getElem_cons hlt, lcL, if_pos (hok _ _ _ (Nat.le_of_lt hlt) h)]
    obtain ⟨ρ1, M1, e1, r, M2, e2, h2⟩ := hs i _ ds M (List.getElem?_eq_getElem hlt) h
    rw [e1]
    dsimp only
    rw [e2, bnd_some]
    split at h2
    · rename_i hr
      rw [if_pos hr]
      obtain ⟨v, M3, e3, h3⟩ := h2
      rw [e3, bnd_some]
      have := lcL_ok I items hok hs he k (i + 1) (ds ++ [v]) M3 (by omega) h3
      rw [ok_bnd]
      exact this.mono fun es M' q => ok_some.mpr (by rw [List.append_assoc] at q; exact q)
    · rename_i hr
      rw [if_neg hr]
      exact lcL_ok I items hok hs he k (i + 1) ds M2 (by omega) h2
theorem lc_ok {w : Wv} {m : Ev} {own : List Nat} {P : D → Mem → Prop} : Ok (eLc w g c m own ρ M) P ↔ Ok (w ρ M) fun k M1 => Ok (lcL k.ok g c m k.items (wipeD ρ own) M1) fun ds M2 => ds.length ≤ 100000 ∧ P (.ref M2.sz) (M2.new (.lst ds)) := by
  simp only [eLc, ok_bnd]
  constructor
  · rintro ⟨k, M1, e1, ds, M2, e2, h⟩
    refine ⟨k, M1, e1, ds, M2, e2, ?_⟩
    rw [ok_if] at h
    split at h
    · rename_i q; exact ⟨q, ok_some.mp h⟩
    · exact False.elim (ok_none.mp h)
  · rintro ⟨k, M1, e1, ds, M2, e2, q, h⟩
    refine ⟨k, M1, e1, ds, M2, e2, ?_⟩
    dsimp only
    rw [if_pos q]; exact ok_some.mpr h
theorem lc_go_ok {m : Ev} {L : List D → Mem → Prop} (I : Nat → List D → Mem → Prop) (items : List D) (hok : ∀ i ds M, i ≤ items.length → I i ds M → ok M = true)
    (hs : ∀ i d ds M, items[i]? = some d → I i ds M → OkG (g d ρ M) fun ρ1 M1 => Ok (c ρ1 M1) fun r M2 => if r = true then Ok (m ρ1 M2) fun v M3 => I (i + 1) (ds ++ [v]) M3 else I (i + 1) ds M2) (he : ∀ ds M, I items.length ds M → L ds M) (h0 : I 0 [] M) : Ok (lcL ok g c m items ρ M) L := by
  have := lcL_ok (g := g) (c := c) (m := m) (ρ := ρ) I items hok hs he items.length 0 [] M (Nat.add_zero _) h0
  rw [List.drop_zero] at this
  exact this.mono fun es M' q => q
end
end Nl

set_option autoImplicit false
/-! Nl, part Q: the hand that every law draws from. -/
namespace Nl
open PySem L2

/-! ### lists of the memory -/
section
variable {M : Mem} {P : D → Mem → Prop} {B : Bool → Mem → Prop} {n a b : Nat} {ds : List D} {d : D} {i : Int}
theorem ix_lst (hg : M.get n = some (.lst ds)) (hi : atI ds i = some d) : Ok (gIx (.ref n) (.int i) M) P ↔ P d M := by
  simp [gIx, hg, hi]
theorem ix_tup (hi : atI ds i = some d) : Ok (gIx (.tup ds) (.int i) M) P ↔ P d M := by
  simp [gIx, hi]
@[simp] theorem atI_0 {α : Type} {x : α} {xs : List α} : atI (x :: xs) 0 = some x := by
  unfold atI ixN
  rw [if_pos (by decide), if_pos (by simp <;> omega)]
  rfl
@[simp] theorem atI_1 {α : Type} {x y : α} {xs : List α} : atI (x :: y :: xs) 1 = some y := by
  unfold atI ixN
  rw [if_pos (by decide), if_pos (by simp <;> omega)]
  rfl
@[simp] theorem atI_2 {α : Type} {x y z : α} {xs : List α} : atI (x :: y :: z :: xs) 2 = some z := by
  unfold atI ixN
  rw [if_pos (by decide), if_pos (by simp <;> omega)]
  rfl
theorem atI_nat {α : Type} {xs : List α} {i : Int} (h0 : 0 ≤ i) (h1 : i < xs.length) : atI xs i = xs[i.toNat]? := by
  unfold atI ixN
  rw [if_pos h0, if_pos h1]
  rfl
theorem toPl_ints (rf : Nat → Option PyData) : ∀ xs : List Int, toPl rf (xs.map .int) = some (xs.map .int)
  | [] => by simp [toPl]
  | x :: xs => by simp [toPl, toPs, toPl_ints rf xs]
theorem toP_lst (hg : M.get n = some (.lst ds)) {ps : List PyData} (h : toPl (refP 39 M) ds = some ps) : toP M (.ref n) = some (.list ps) := by
  show toPs (refP 40 M) (.ref n) = _
  rw [toPs, refP, hg]
  simp [h]
theorem shaped_ints (xs : List Int) : SeqAt.shaped (.list (xs.map .int)) = true := by
  unfold SeqAt.shaped
  have h1 : PyData.canLay0 (.list (xs.map PyData.int)) = true := by
    rw [PyData.canLay0]
    induction xs with
    | nil => rfl
    | cons x xs ih => rw [List.map_cons, PyData.canLayAll0, ih]; rfl
  have h2 : PyData.depth (.list (xs.map PyData.int)) ≤ 64 := by
    have : PyData.depthAll (xs.map PyData.int) = 0 := by
      induction xs with
      | nil => rfl
      | cons x xs ih =>
        have h1' : PyData.canLay0 (.list (xs.map PyData.int)) = true := by
          rw [PyData.canLay0] at h1 ⊢
          rw [List.map_cons, PyData.canLayAll0, Bool.and_eq_true] at h1
          exact h1.2
        rw [List.map_cons, PyData.depthAll, ih h1', PyData.depth]; rfl
    rw [PyData.depth, this]; decide
  rw [h1, decide_eq_true h2]; rfl
theorem eqv_nil (ps : List PyData) : PyData.eqv (.list ps) (.list []) = ps.isEmpty := by
  cases ps <;> simp [PyData.eqv, PyData.eqvAll]
/-- xs != [] -/
theorem ne_nil (hg : M.get a = some (.lst ds)) (hb : M.get b = some (.lst [])) {ps : List PyData} (h : toPl (refP 39 M) ds = some ps) (hs : SeqAt.shaped (.list ps) = true) : Ok (gNe (.ref a) (.ref b) M) P ↔ P (.bl (!ds.isEmpty)) M := by
  have e1 := toP_lst hg h
  have e2 : toP M (.ref b) = some (.list []) := toP_lst hb (by simp [toPl])
  have e3 : ps.isEmpty = ds.isEmpty := by
    cases ds with
    | nil => simp [toPl] at h; subst h; rfl
    | cons d ds =>
      rw [toPl] at h
      split at h
      · cases h; rfl
      · cases h
  have e4 : SeqAt.shaped (.list []) = true := by decide
  unfold gNe eqD
  rw [show eqS (.ref a) (.ref b) = none from rfl]
  simp only [e1, e2, hs, e4, and_self, if_true]
  rw [eqv_nil, e3]
  simp
end

/-! ### the hand -/
structure Hd (M : Mem) (h r : Nat) (xs : List Int) (seed : Int) : Prop where
  top : M.get h = some (.lst [.ref r, .int seed])
  lst : M.get r = some (.lst (xs.map .int))
  few : xs.length ≤ 63
theorem Hd.ne {M : Mem} {h r : Nat} {xs : List Int} {seed : Int} (H : Hd M h r xs seed) : h ≠ r := fun e => by
  have h1 := H.top
  rw [e, H.lst] at h1
  cases xs with
  | nil => cases h1
  | cons x xs => injection h1 with h1; injection h1 with h1; rw [List.map_cons] at h1; injection h1 with h1; cases h1
/-- all but the hand stands as it was -/
structure Fr (h r : Nat) (M M' : Mem) : Prop where
  le : M.sz ≤ M'.sz
  eq : ∀ n, n < M.sz → n ≠ h → n ≠ r → M'.get n = M.get n
theorem Fr.refl {h r : Nat} {M : Mem} : Fr h r M M := ⟨Nat.le_refl _, fun _ _ _ _ => rfl⟩
theorem Fr.trans {h r : Nat} {M M' M'' : Mem} (a : Fr h r M M') (b : Fr h r M' M'') : Fr h r M M'' := ⟨Nat.le_trans a.le b.le, fun n h1 h2 h3 => (b.eq n (Nat.lt_of_lt_of_le h1 a.le) h2 h3).trans (a.eq n h1 h2 h3)⟩
theorem Fr.new {h r : Nat} {M M' : Mem} {o : O} (a : Fr h r M M') : Fr h r M (M'.new o) := ⟨by rw [Mem.sz_new]; exact Nat.le_succ_of_le a.le, fun n h1 h2 h3 => (Mem.get_new_lt (Nat.lt_of_lt_of_le h1 a.le)).trans (a.eq n h1 h2 h3)⟩
theorem Fr.putH {h r : Nat} {M M' : Mem} {o : O} (a : Fr h r M M') : Fr h r M (M'.put h o) := ⟨by rw [Mem.sz_put]; exact a.le, fun n h1 h2 h3 => (Mem.get_put_ne (Ne.symm h2)).trans (a.eq n h1 h2 h3)⟩
theorem Fr.putR {h r : Nat} {M M' : Mem} {o : O} (a : Fr h r M M') : Fr h r M (M'.put r o) := ⟨by rw [Mem.sz_put]; exact a.le, fun n h1 h2 h3 => (Mem.get_put_ne (Ne.symm h3)).trans (a.eq n h1 h2 h3)⟩
theorem Fr.putN {h r n : Nat} {M M' : Mem} {o : O} (a : Fr h r M M') (hn : M.sz ≤ n) : Fr h r M (M'.put n o) := ⟨by rw [Mem.sz_put]; exact a.le, fun m h1 h2 h3 => (Mem.get_put_ne (by omega)).trans (a.eq m h1 h2 h3)⟩
theorem Hd.new {M : Mem} {h r : Nat} {xs : List Int} {seed : Int} (H : Hd M h r xs seed) {o : O} : Hd (M.new o) h r xs seed := ⟨(Mem.get_new_lt (Mem.get_lt H.top)).trans H.top, (Mem.get_new_lt (Mem.get_lt H.lst)).trans H.lst, H.few⟩
theorem Hd.keep {M M' : Mem} {h r : Nat} {xs : List Int} {seed : Int} (H : Hd M h r xs seed) (e1 : M'.get h = M.get h) (e2 : M'.get r = M.get r) : Hd M' h r xs seed := ⟨e1.trans H.top, e2.trans H.lst, H.few⟩

def b_pick : Sv := sCons (sWhile (xAnd (xVal (eOp gNe (eOp gIx (eVar 0) (eCon (.int 0))) (eLst []))) (xVal (eOp gEq (eOp gIx (eOp gIx (eVar 0) (eCon (.int 0))) (eCon (.int 0))) (eCon (.int 0))))) (sCons (sEx (eMt "list" gPopAt (eOp gIx (eVar 0) (eCon (.int 0))) [eCon (.int 0)])) (sNil))) (sCons (sIf (xVal (eOp gNe (eOp gIx (eVar 0) (eCon (.int 0))) (eLst []))) (sCons (sAsg (eOp gMod (eOp gIx (eOp gIx (eVar 0) (eCon (.int 0))) (eCon (.int 0))) (eVar 1)) (gNm 3)) (sCons (sAsg (eOp gFdiv (eOp gIx (eOp gIx (eVar 0) (eCon (.int 0))) (eCon (.int 0))) (eVar 1)) (gSb (eOp gIx (eVar 0) (eCon (.int 0))) (eCon (.int 0)))) (sCons (sRet (eVar 3)) (sNil)))) (sNil)) (sCons (sAsg (eOp gMod (eOp gAdd (eOp gMul (eOp gIx (eVar 0) (eCon (.int 1))) (eCon (.int 3935559000370003))) (eCon (.int 2691343689449507))) (eCon (.int 2305843009213693951))) (gSb (eVar 0) (eCon (.int 1)))) (sCons (sAsg (eOp gFdiv (eOp gIx (eVar 0) (eCon (.int 1))) (eCon (.int 65537))) (gNm 2)) (sCons (sRet (eOp gMod (eOp gFdiv (eOp gMod (eOp gMul (eVar 2) (eOp gAdd (eOp gMod (eVar 2) (eCon (.int 8191))) (eCon (.int 3)))) (eCon (.int 2305843009213693921))) (eCon (.int 4099))) (eVar 1))) (sNil)))))
section
variable {M : Mem} {h r : Nat} {xs : List Int} {seed : Int} {B : Bool → Mem → Prop} {P : D → Mem → Prop}
/-- hand[0] != [] -/
theorem some_left (H : Hd M h r xs seed) {ρ : Rho} (h0 : ρ[0]? = some (some (.ref h))) : Ok (xVal (eOp gNe (eOp gIx (eVar 0) (eCon (.int 0))) (eLst [])) ρ M) B ↔ B (!xs.isEmpty) (M.new (.lst [])) := by
  have H' := H.new (o := .lst [])
  simp only [ok_xval, ok_op, ok_var, h0, Option.some.injEq, exists_eq_left', ok_con, ix_lst H.top atI_0, ok_lst, ok_args0]
  rw [ne_nil H'.lst Mem.get_new_same (toPl_ints _ _) (shaped_ints _)]
  cases xs <;> simp [truth]
/-- hand[0][0] -/
theorem first_left {x : Int} (H : Hd M h r (x :: xs) seed) {ρ : Rho} (h0 : ρ[0]? = some (some (.ref h))) : Ok (eOp gIx (eOp gIx (eVar 0) (eCon (.int 0))) (eCon (.int 0)) ρ M) P ↔ P (.int x) M := by
  simp only [ok_op, ok_var, h0, Option.some.injEq, exists_eq_left', ok_con, ix_lst H.top atI_0]
  rw [ix_lst H.lst atI_0]
theorem hand_of (H : Hd M h r xs seed) {ρ : Rho} (h0 : ρ[0]? = some (some (.ref h))) : Ok (eOp gIx (eVar 0) (eCon (.int 0)) ρ M) P ↔ P (.ref r) M := by
  simp only [ok_op, ok_var, h0, Option.some.injEq, exists_eq_left', ok_con, ix_lst H.top atI_0]
theorem seed_of (H : Hd M h r xs seed) {ρ : Rho} (h0 : ρ[0]? = some (some (.ref h))) : Ok (eOp gIx (eVar 0) (eCon (.int 1)) ρ M) P ↔ P (.int seed) M := by
  simp only [ok_op, ok_var, h0, Option.some.injEq, exists_eq_left', ok_con, ix_lst H.top atI_1]
@[simp] theorem ok_mod {i j : Int} : Ok (gMod (.int i) (.int j) M) P ↔ 0 < j ∧ P (.int (i % j)) M := by
  unfold gMod
  split <;> simp_all
@[simp] theorem ok_fdiv {i j : Int} : Ok (gFdiv (.int i) (.int j) M) P ↔ (0 < j ∧ j.natAbs.log2 < 9000) ∧ P (.int (i / j)) M := by
  unfold gFdiv
  split <;> simp_all
@[simp] theorem ok_add {i j : Int} : Ok (gAdd (.int i) (.int j) M) P ↔ P (.int (i + j)) M := by simp [gAdd]
@[simp] theorem ok_sub {i j : Int} : Ok (gSub (.int i) (.int j) M) P ↔ P (.int (i - j)) M := by simp [gSub]
@[simp] theorem ok_mul {i j : Int} : Ok (gMul (.int i) (.int j) M) P ↔ mulOk i j = true ∧ P (.int (i * j)) M := by
  unfold gMul
  split <;> simp_all
@[simp] theorem ok_eqi {i j : Int} : Ok (gEq (.int i) (.int j) M) P ↔ P (.bl (i == j)) M := by simp [gEq, eqD, eqS]
@[simp] theorem ok_gti {i j : Int} : Ok (gGt (.int i) (.int j) M) P ↔ P (.bl (decide (j < i))) M := by simp [gGt]
@[simp] theorem ok_gei {i j : Int} : Ok (gGe (.int i) (.int j) M) P ↔ P (.bl (decide (j ≤ i))) M := by simp [gGe]
theorem mulOk_r {i j : Int} (h : j.natAbs < 2 ^ 64) : mulOk i j = true := by
  unfold mulOk
  rw [decide_eq_true h, Bool.or_true, Bool.true_or]
theorem mulOk_l {i j : Int} (h : i.natAbs < 2 ^ 64) : mulOk i j = true := by
  unfold mulOk
  rw [decide_eq_true h, Bool.true_or, Bool.true_or]
theorem pick_ok (H : Hd M h r xs seed) {many : Int} (hm : 0 < many) (hl : many < 2 ^ 64) :
    Ok (bodyD b_pick 4 [.ref h, .int many] M) fun d M' => ∃ z, d = .int z ∧ 0 ≤ z ∧ z < many ∧ (∃ xs' seed', Hd M' h r xs' seed') ∧ Fr h r M M' := by
  have hlog : many.natAbs.log2 < 9000 := by
    have h1 : many.natAbs < 2 ^ 64 := by omega
    have h2 : many.natAbs.log2 < 64 := by
      by_cases h0 : many.natAbs = 0
      · omega
      · exact (Nat.log2_lt h0).mpr h1
    omega
  rw [ok_body]
  unfold b_pick
  rw [ok_cons]
  refine while_ok (fun m ρ M' => ρ = [some (.ref h), some (.int many), none, none] ∧ (∃ ys, ys.length = m ∧ ∃ sd, Hd M' h r ys sd) ∧ Fr h r M M') ?_ (m := xs.length) (by have := H.few; omega) ⟨rfl, ⟨xs, rfl, _, H⟩, Fr.refl⟩
  rintro m ρ M1 ⟨rfl, ⟨ys, rfl, sd, H1⟩, F1⟩
  rw [ok_xand, some_left H1 rfl]
  have H2 := H1.new (o := .lst [])
  have F2 : Fr h r M (M1.new (.lst [])) := F1.new
  cases ys with
  | nil =>
    simp only [List.isEmpty_nil, Bool.not_true, Bool.false_eq_true, if_false]
    have H3 := H2.new (o := .lst [])
    simp only [behind_nx, ok_cons, ok_sif, some_left H2 (ρ := [some (.ref h), some (.int many), none, none]) rfl, List.isEmpty_nil, Bool.not_true, Bool.false_eq_true, if_false, ok_nil, ok_asg]
    simp only [ok_op (a := eOp gAdd _ _), ok_op (a := eOp gMul _ _), ok_op (a := eOp gIx (eVar 0) (eCon (.int 1))), seed_of H3 (ρ := [some (.ref h), some (.int many), none, none]) rfl, ok_con, ok_mul, ok_add, ok_mod]
    refine ⟨mulOk_r (by decide), by decide, ?_⟩
    generalize hs : (sd * 3935559000370003 + 2691343689449507) % 2305843009213693951 = sd2
    simp only [okg_sb, ok_var, ok_con, List.getElem?_cons_zero, Option.some.injEq, exists_eq_left']
    have hh := H3.top
    refine ⟨(M1.new (.lst [])).new (.lst []) |>.put h (.lst [.ref r, .int sd2]), by simp only [gSet, hh]; rfl, ?_⟩
    have H4 : Hd (((M1.new (.lst [])).new (.lst [])).put h (.lst [.ref r, .int sd2])) h r [] sd2 := ⟨Mem.get_put_same (Mem.get_lt hh), (Mem.get_put_ne H3.ne).trans H3.lst, by decide⟩
    simp only [behind_nx, ok_cons, ok_asg, ok_op (a := eOp gIx (eVar 0) (eCon (.int 1))), seed_of H4 (ρ := [some (.ref h), some (.int many), none, none]) rfl, ok_con, ok_fdiv, okg_nm]
    refine ⟨by decide, ?_⟩
    have e0 : 0 ≤ sd2 := by omega
    have e1 : sd2 < 2305843009213693951 := by omega
    simp only [List.set_cons_succ, List.set_cons_zero, behind_nx, ok_cons, ok_ret, ok_op, ok_var, ok_con, List.getElem?_cons_succ, List.getElem?_cons_zero, Option.some.injEq, exists_eq_left', ok_mod, ok_add, ok_mul, ok_fdiv, behind_rt, ends_rt]
    refine ⟨by decide, mulOk_l (by omega), by decide, by decide, hm, ?_⟩
    refine ⟨_, rfl, Int.emod_nonneg _ (by omega), Int.emod_lt_of_pos _ hm, ⟨_, _, H4⟩, F2.new.putH⟩
  | cons y ys =>
    simp only [List.isEmpty_cons, Bool.not_false, if_true]
    simp only [ok_xval, ok_op (a := eOp gIx (eOp gIx (eVar 0) (eCon (.int 0))) (eCon (.int 0))), first_left H2 (ρ := [some (.ref h), some (.int many), none, none]) rfl, ok_con, ok_eqi, truth]
    simp only [Option.some.injEq, exists_eq_left']
    by_cases hy : y = 0
    · subst hy
      simp only [beq_self_eq_true, if_true, ok_cons, ok_ex, ok_mt, hand_of H2 (ρ := [some (.ref h), some (.int many), none, none]) rfl, ok_args1, ok_args0, ok_con]
      have hr := H2.lst
      refine ⟨by simp [isTy, hr], ?_⟩
      have e : gPopAt (.ref r) [.int 0] (M1.new (.lst [])) = some (.int 0, (M1.new (.lst [])).put r (.lst (ys.map .int))) := by
        simp only [gPopAt, hr]
        rw [if_pos (by decide)]
        have : seqIndex? 0 ((0 :: ys).map D.int).length = some 0 := by
          unfold seqIndex?
          simp <;> omega
        rw [this]
        rfl
      rw [e]
      simp only [ok_some, behind_nx, ok_nil, turned_nx]
      refine ⟨ys.length, by simp, by first | rfl | trivial, ⟨ys, rfl, sd, ⟨(Mem.get_put_ne (Ne.symm H2.ne)).trans H2.top, Mem.get_put_same (Mem.get_lt hr), by have := H2.few; simp at this; omega⟩⟩, F2.putR⟩
    · have : (y == 0) = false := by simpa using hy
      simp only [this, Bool.false_eq_true, if_false, behind_nx, ok_cons, ok_sif, some_left H2 (ρ := [some (.ref h), some (.int many), none, none]) rfl, List.isEmpty_cons, Bool.not_false, if_true]
      have H3 := H2.new (o := .lst [])
      simp only [ok_asg, ok_op (a := eOp gIx (eOp gIx (eVar 0) (eCon (.int 0))) (eCon (.int 0))), first_left H3 (ρ := [some (.ref h), some (.int many), none, none]) rfl, ok_var, List.getElem?_cons_succ, List.getElem?_cons_zero, Option.some.injEq, exists_eq_left', ok_mod, okg_nm, List.set_cons_succ, List.set_cons_zero]
      refine ⟨hm, ?_⟩
      simp only [behind_nx, ok_cons, ok_asg, ok_op (a := eOp gIx (eOp gIx (eVar 0) (eCon (.int 0))) (eCon (.int 0))), first_left H3 (ρ := [some (.ref h), some (.int many), none, some (.int (y % many))]) rfl, ok_var, List.getElem?_cons_succ, List.getElem?_cons_zero, Option.some.injEq, exists_eq_left', ok_fdiv]
      refine ⟨⟨hm, hlog⟩, ?_⟩
      simp only [okg_sb, hand_of H3 (ρ := [some (.ref h), some (.int many), none, some (.int (y % many))]) rfl, ok_con]
      have hr := H3.lst
      have H4 : Hd (((M1.new (.lst [])).new (.lst [])).put r (.lst ((y / many :: ys).map .int))) h r (y / many :: ys) sd := ⟨(Mem.get_put_ne (Ne.symm H3.ne)).trans H3.top, Mem.get_put_same (Mem.get_lt hr), by have := H3.few; simpa using this⟩
      refine ⟨_, by
        simp only [gSet, hr]
        have : ixN ((y :: ys).map D.int).length 0 = some 0 := by unfold ixN; rw [if_pos (by decide), if_pos (by simp <;> omega)]; rfl
        rw [this]
        rfl, ?_⟩
      simp only [behind_nx, ok_cons, ok_ret, ok_var, List.getElem?_cons_succ, List.getElem?_cons_zero, Option.some.injEq, exists_eq_left', behind_rt, ends_rt]
      exact ⟨_, rfl, Int.emod_nonneg _ (by omega), Int.emod_lt_of_pos _ hm, ⟨_, _, H4⟩, F2.new.putR⟩
end

/-! ### the three that every law has -/
def HD (M : Mem) (h r : Nat) : Prop := ∃ xs seed, Hd M h r xs seed
theorem HD.new {M : Mem} {h r : Nat} {o : O} (H : HD M h r) : HD (M.new o) h r := let ⟨xs, s, q⟩ := H; ⟨xs, s, q.new⟩
theorem HD.keep {M M' : Mem} {h r : Nat} (H : HD M h r) (e1 : M'.get h = M.get h) (e2 : M'.get r = M.get r) : HD M' h r := let ⟨xs, s, q⟩ := H; ⟨xs, s, q.keep e1 e2⟩
theorem HD.lt {M : Mem} {h r : Nat} (H : HD M h r) : h < M.sz := let ⟨_, _, q⟩ := H; Mem.get_lt q.top
theorem HD.lt2 {M : Mem} {h r : Nat} (H : HD M h r) : r < M.sz := let ⟨_, _, q⟩ := H; Mem.get_lt q.lst
theorem HD.put {M : Mem} {h r n : Nat} {o : O} (H : HD M h r) (h1 : n ≠ h) (h2 : n ≠ r) : HD (M.put n o) h r := H.keep (Mem.get_put_ne h1) (Mem.get_put_ne h2)
structure PickOk (g : Bf) : Prop where
  ok : ∀ {M : Mem} {h r : Nat} {many : Int}, HD M h r → 0 < many → many < 2 ^ 64 → Ok (g [.ref h, .int many] M) fun d M' => ∃ z, d = .int z ∧ 0 ≤ z ∧ z < many ∧ HD M' h r ∧ Fr h r M M'
theorem pick_is : PickOk (bodyD b_pick 4) := ⟨fun ⟨_, _, H⟩ h1 h2 => (pick_ok H h1 h2).mono fun d M' ⟨z, e, a, b, ⟨x, s, c⟩, f⟩ => ⟨z, e, a, b, ⟨x, s, c⟩, f⟩⟩
def b_of (pk : Bf) : Sv := sCons (sRet (eOp gIx (eVar 1) (eCallD pk [eVar 0, eCall gLen [eVar 1]] []))) (sNil)
structure OfOk (g : Bf) : Prop where
  lst : ∀ {M : Mem} {h r n : Nat} {ds : List D}, HD M h r → M.get n = some (.lst ds) → n ≠ h → n ≠ r → ds ≠ [] → ds.length < 2 ^ 62 → Ok (g [.ref h, .ref n] M) fun d M' => d ∈ ds ∧ HD M' h r ∧ Fr h r M M'
  str : ∀ {M : Mem} {h r : Nat} {z : Str}, HD M h r → z.cps.toList ≠ [] → z.length ≤ sizeLine → Ok (g [.ref h, .str z] M) fun d M' => (∃ c ∈ z.cps.toList, d = .str ⟨#[c]⟩) ∧ HD M' h r ∧ Fr h r M M'
  tup : ∀ {M : Mem} {h r : Nat} {ds : List D}, HD M h r → ds ≠ [] → ds.length < 2 ^ 62 → Ok (g [.ref h, .tup ds] M) fun d M' => d ∈ ds ∧ HD M' h r ∧ Fr h r M M'
theorem of_is {pk : Bf} (pk_ok : PickOk pk) : OfOk (bodyD (b_of pk) 2) where
  lst := fun {M h r n ds} H hg n1 n2 hne hl => by
    rw [ok_body]
    unfold b_of
    simp only [List.map_cons, List.map_nil, List.cons_append, List.nil_append, ok_cons, ok_ret, ok_op, ok_var, List.getElem?_cons_succ, List.getElem?_cons_zero, Option.some.injEq, exists_eq_left', ok_callD, ok_call, ok_args1, ok_args0, List.append_nil, gLen, hg, ok_some, behind_rt, ends_rt]
    have hpos : 0 < ds.length := List.length_pos_iff.mpr hne
    refine (pk_ok.ok H (by omega) (by omega)).mono fun d M' ⟨z, e, h0, h1, H', F⟩ => ?_
    subst e
    have hg' : M'.get n = some (.lst ds) := (F.eq n (Mem.get_lt hg) n1 n2).trans hg
    have hz : z.toNat < ds.length := by omega
    rw [ix_lst hg' (d := ds[z.toNat]) (by rw [atI_nat h0 (by omega)]; exact List.getElem?_eq_getElem hz)]
    exact ⟨List.getElem_mem hz, H', F⟩
  str := fun {M h r z} H hne hl => by
    rw [ok_body]
    unfold b_of
    simp only [List.map_cons, List.map_nil, List.cons_append, List.nil_append, ok_cons, ok_ret, ok_op, ok_var, List.getElem?_cons_succ, List.getElem?_cons_zero, Option.some.injEq, exists_eq_left', ok_callD, ok_call, ok_args1, ok_args0, List.append_nil, gLen, hl, if_true, ok_some, behind_rt, ends_rt]
    have hs : z.length = z.cps.toList.length := by simp [Str.length]
    have hpos : 0 < z.cps.toList.length := List.length_pos_iff.mpr hne
    have hbig : sizeLine < 2 ^ 62 := by decide
    refine (pk_ok.ok H (by omega) (by omega)).mono fun d M' ⟨y, e, h0, h1, H', F⟩ => ?_
    subst e
    have hz : y.toNat < z.cps.toList.length := by omega
    have e1 : atI z.cps.toList y = some z.cps.toList[y.toNat] := by rw [atI_nat h0 (by omega)]; exact List.getElem?_eq_getElem hz
    simp only [gIx, hl, if_true, e1, Option.map_some, ok_some]
    exact ⟨⟨_, List.getElem_mem hz, rfl⟩, H', F⟩
  tup := fun {M h r ds} H hne hl => by
    rw [ok_body]
    unfold b_of
    simp only [List.map_cons, List.map_nil, List.cons_append, List.nil_append, ok_cons, ok_ret, ok_op, ok_var, List.getElem?_cons_succ, List.getElem?_cons_zero, Option.some.injEq, exists_eq_left', ok_callD, ok_call, ok_args1, ok_args0, List.append_nil, gLen, ok_some, behind_rt, ends_rt]
    have hpos : 0 < ds.length := List.length_pos_iff.mpr hne
    refine (pk_ok.ok H (by omega) (by omega)).mono fun d M' ⟨z, e, h0, h1, H', F⟩ => ?_
    subst e
    have hz : z.toNat < ds.length := by omega
    rw [ix_tup (d := ds[z.toNat]) (by rw [atI_nat h0 (by omega)]; exact List.getElem?_eq_getElem hz)]
    exact ⟨List.getElem_mem hz, H', F⟩
def b_hand : Sv := sCons (sAsg (eCon (.int 23)) (gNm 1)) (sCons (sFor (wSeq (eSl (eVar 0) none (some (eCon (.int 63))))) (gNm 2) (sCons (sAsg (eOp gMod (eOp gAdd (eOp gAdd (eOp gMul (eVar 1) (eCon (.int 6364136223846793))) (eOp gMod (eVar 2) (eCon (.int 2305843009213693951)))) (eCon (.int 31))) (eCon (.int 2305843009213693951))) (gNm 1)) (sNil))) (sCons (sRet (eLst [eLc (wSeq (eSl (eVar 0) none (some (eCon (.int 63))))) (gNm 2) (xVal (eOp gGe (eVar 2) (eOp gPow (eCon (.int 10)) (eCon (.int 18))))) (eVar 2) [2], eVar 1])) (sNil)))
theorem cut63 {α : Type} (xs : List α) (h : xs.length ≤ 63) : cutD xs none (some 63) = xs := by
  have e1 : HT.sIx xs.length 0 none = 0 := rfl
  have e2 : HT.sIx xs.length xs.length (some 63) = xs.length := by
    have := HT.sIx_nat xs.length xs.length 63
    rw [show ((63 : Nat) : Int) = 63 from rfl] at this
    omega
  unfold cutD
  rw [e1, e2, List.drop_zero, Nat.sub_zero, List.take_length]
theorem walk63 {ns : List Int} (hn : ns.length ≤ 63) {M : Mem} {ρ : Rho} (h0 : ρ[0]? = some (some (.rol ns))) {P : Wk → Mem → Prop} (h : P ⟨ns.map .int, [(M.sz, .lst (ns.map .int))]⟩ (M.new (.lst (ns.map .int)))) : Ok (wSeq (eSl (eVar 0) none (some (eCon (.int 63)))) ρ M) P := by
  unfold wSeq
  rw [ok_bnd]
  have e : eSl (eVar 0) none (some (eCon (.int 63))) ρ M = some (.ref M.sz, M.new (.lst (ns.map .int))) := by
    simp only [eSl, eVar, h0, bnd_some, ePart, eCon, gSl, cut63 ns hn]
  rw [e]
  simp only [ok_some, Mem.get_new_same]
  exact h
theorem hand_ok {ns : List Int} (hn : ns.length ≤ 63) {M : Mem} : Ok (bodyD b_hand 3 [.rol ns] M) fun d M' => ∃ h r, d = .ref h ∧ HD M' h r := by
  rw [ok_body]
  unfold b_hand
  simp only [List.map_cons, List.map_nil, List.cons_append, List.nil_append, ok_cons, ok_asg, ok_con, okg_nm, behind_nx]
  rw [ok_for]
  refine walk63 hn (by rfl) ?_
  refine for_ok (fun i ρ M' => (∃ sd x, ρ = [some (.rol ns), some (.int sd), x] ∧ 0 ≤ sd ∧ sd < 2305843009213693951) ∧ M' = M.new (.lst (ns.map .int))) (ns.map D.int) (fun i ρ M' _ ⟨_, e⟩ => by subst e; simp [Wk.ok, Mem.get_new]) ?_ ?_ ⟨⟨23, none, rfl, by decide, by decide⟩, rfl⟩
  · rintro i d ρ M' hd ⟨⟨sd, x, rfl, h0, h1⟩, rfl⟩
    rw [List.getElem?_map] at hd
    obtain ⟨c, hc, rfl⟩ := Option.map_eq_some_iff.mp hd
    simp only [okg_nm, List.set_cons_succ, List.set_cons_zero, ok_cons, ok_asg, ok_op, ok_var, ok_con, List.getElem?_cons_succ, List.getElem?_cons_zero, Option.some.injEq, exists_eq_left', ok_mod, ok_add, ok_mul, behind_nx, ok_nil, turned_nx]
    exact ⟨mulOk_r (by decide), by decide, by decide, ⟨_, _, rfl, Int.emod_nonneg _ (by decide), Int.emod_lt_of_pos _ (by decide)⟩, by trivial⟩
  · rintro ρ M' ⟨⟨sd, x, rfl, h0, h1⟩, rfl⟩
    simp only [behind_nx, ok_cons, ok_ret, ok_lst, ok_args1, lc_ok]
    refine walk63 hn (by rfl) ?_
    refine lc_go_ok (fun i ds M' => (∃ cs : List Int, ds = cs.map .int ∧ cs.length ≤ i) ∧ M' = (M.new (.lst (ns.map .int))).new (.lst (ns.map .int))) (ns.map D.int) (fun i ds M' _ ⟨_, e⟩ => by subst e; simp [Wk.ok, Mem.get_new]) ?_ ?_ ⟨⟨[], rfl, Nat.le_refl _⟩, rfl⟩
    · rintro i d ds M' hd ⟨⟨cs, rfl, hl⟩, rfl⟩
      rw [List.getElem?_map] at hd
      obtain ⟨c, hc, rfl⟩ := Option.map_eq_some_iff.mp hd
      have hp : (eOp gPow (eCon (.int 10)) (eCon (.int 18))) = fun (_ : Rho) (M : Mem) => some (D.int (10 ^ 18), M) := by
        funext ρ M
        simp only [eOp, eCon, bnd_some, gPow]
        rw [if_pos (by decide +kernel)]
        rfl
      simp only [wipeD, okg_nm, List.set_cons_succ, List.set_cons_zero, ok_xval, hp, ok_op, ok_var, ok_some, List.getElem?_cons_succ, List.getElem?_cons_zero, Option.some.injEq, exists_eq_left', ok_gei, truth]
      split
      · exact ⟨⟨cs ++ [c], by simp, by simp; omega⟩, by trivial⟩
      · exact ⟨⟨cs, rfl, by omega⟩, by trivial⟩
    · rintro ds M' ⟨⟨cs, rfl, hl⟩, rfl⟩
      simp only [List.length_map] at hl ⊢
      refine ⟨by omega, ?_⟩
      simp only [ok_args1, ok_args0, ok_var, List.getElem?_cons_succ, List.getElem?_cons_zero, Option.some.injEq, exists_eq_left', behind_rt, ends_rt]
      exact ⟨_, _, rfl, cs, sd, Mem.get_new_same, (Mem.get_new_lt (by simp)).trans Mem.get_new_same, by omega⟩
end Nl

set_option autoImplicit false
/-! Nl, part R: plain values: repr, !=; plans as trees. -/
namespace Nl
open PySem L2

/-! ### plain values, not great -/
def ascii (x : Str) : Bool := x.cps.toList.all fun c => decide (c < 128)
mutual
def gdD : D → Bool
  | .non => true
  | .bl _ => true
  | .int i => decide (-999999999999 ≤ i) && decide (i ≤ 999999999999)
  | .str x => ascii x
  | .tup ds => gdL ds
  | _ => false
def gdL : List D → Bool
  | [] => true
  | d :: ds => gdD d && gdL ds
end
mutual
def bkD : D → Nat
  | .str x => x.length
  | .tup ds => bkL ds
  | _ => 0
def bkL : List D → Nat
  | [] => 0
  | d :: ds => bkD d + 1 + bkL ds
end
mutual
def dpD : D → Nat
  | .tup ds => dpL ds + 1
  | _ => 0
def dpL : List D → Nat
  | [] => 0
  | d :: ds => max (dpD d) (dpL ds)
end
-- as data
mutual
def toQ : D → PyData
  | .bl b => .bool b
  | .int i => .int i
  | .str x => .str x
  | .tup ds => .tuple (toQs ds)
  | _ => .none
def toQs : List D → List PyData
  | [] => []
  | d :: ds => toQ d :: toQs ds
end
mutual
theorem toPs_gd (rf : Nat → Option PyData) : ∀ d : D, gdD d = true → toPs rf d = some (toQ d)
  | .non, _ => by simp [toPs, toQ]
  | .bl _, _ => by simp [toPs, toQ]
  | .int _, _ => by simp [toPs, toQ]
  | .str _, _ => by simp [toPs, toQ]
  | .tup ds, h => by rw [gdD] at h; simp [toPs, toQ, toPl_gd rf ds h]
  | .ref _, h => by simp [gdD] at h
  | .rol _, h => by simp [gdD] at h
  | .fn _, h => by simp [gdD] at h
  | .ty _, h => by simp [gdD] at h
theorem toPl_gd (rf : Nat → Option PyData) : ∀ ds : List D, gdL ds = true → toPl rf ds = some (toQs ds)
  | [], _ => by simp [toPl, toQs]
  | d :: ds, h => by
    rw [gdL, Bool.and_eq_true] at h
    simp [toPl, toQs, toPs_gd rf d h.1, toPl_gd rf ds h.2]
end
theorem ascii_ok {x : Str} (h : ascii x = true) : PyData.canLay0 (.str x) = true ∧ PyData.leavesShort 13 (.str x) = true := by
  have hx : ∀ c ∈ x.cps.toList, c < 128 := fun c hc => of_decide_eq_true (List.all_eq_true.mp h c hc)
  constructor
  · have e : PyData.strOk x = x.cps.toList.all fun c => decide (c < 0x110000) := by
      unfold PyData.strOk
      rw [← Array.all_toList]
    rw [PyData.canLay0, e, List.all_eq_true]
    intro c hc
    have := hx c hc
    exact decide_eq_true (by omega)
  · simp only [PyData.leavesShort, List.all_eq_true, decide_eq_true_eq]
    intro c hc
    have := hx c hc
    have : (128 : Nat) < 16 ^ 8 := by decide
    omega
theorem int_small {i : Int} (h1 : -999999999999 ≤ i) (h2 : i ≤ 999999999999) : i.natAbs.log2 < 1920 := by
  have : i.natAbs < 2 ^ 64 := by omega
  by_cases h0 : i.natAbs = 0
  · rw [h0]; decide
  · have := (Nat.log2_lt h0).mpr this
    omega
mutual
theorem gd_facts : ∀ d : D, gdD d = true → (toQ d).canLay0 = true ∧ (toQ d).leavesShort 13 = true ∧ (toQ d).showable = true ∧ (toQ d).depth = dpD d ∧ (toQ d).bulk = bkD d
  | .non, _ => by simp [toQ, PyData.canLay0, PyData.leavesShort, PyData.showable, PyData.depth, dpD, PyData.bulk, bkD]
  | .bl _, _ => by simp [toQ, PyData.canLay0, PyData.leavesShort, PyData.showable, PyData.depth, dpD, PyData.bulk, bkD]
  | .int i, h => by
    simp only [gdD, Bool.and_eq_true, decide_eq_true_eq] at h
    simp only [toQ, PyData.canLay0, PyData.leavesShort, PyData.showable, PyData.depth, dpD, PyData.bulk, bkD, decide_eq_true_eq, true_and, and_true]
    exact ⟨PyData.shown_int_le2 h.1 h.2, int_small h.1 h.2⟩
  | .str x, h => by
    rw [gdD] at h
    obtain ⟨h1, h2⟩ := ascii_ok h
    refine ⟨h1, h2, ?_⟩
    simp [toQ, PyData.showable, PyData.depth, dpD, PyData.bulk, bkD]
    rfl
  | .tup ds, h => by
    rw [gdD] at h
    obtain ⟨h1, h2, h3, h4, h5⟩ := gdL_facts ds h
    simp only [toQ, PyData.canLay0, PyData.leavesShort, PyData.showable, PyData.depth, dpD, PyData.bulk, bkD, h1, h2, h3, h4, h5, and_self]
  | .ref _, h => by simp [gdD] at h
  | .rol _, h => by simp [gdD] at h
  | .fn _, h => by simp [gdD] at h
  | .ty _, h => by simp [gdD] at h
theorem gdL_facts : ∀ ds : List D, gdL ds = true → PyData.canLayAll0 (toQs ds) = true ∧ PyData.leavesShortAll 13 (toQs ds) = true ∧ PyData.showableAll (toQs ds) = true ∧ PyData.depthAll (toQs ds) = dpL ds ∧ PyData.bulkAll (toQs ds) = bkL ds
  | [], _ => by simp [toQs, PyData.canLayAll0, PyData.leavesShortAll, PyData.showableAll, PyData.depthAll, dpL, PyData.bulkAll, bkL]
  | d :: ds, h => by
    rw [gdL, Bool.and_eq_true] at h
    obtain ⟨h1, h2, h3, h4, h5⟩ := gd_facts d h.1
    obtain ⟨k1, k2, k3, k4, k5⟩ := gdL_facts ds h.2
    simp only [toQs, PyData.canLayAll0, PyData.leavesShortAll, PyData.showableAll, PyData.depthAll, dpL, PyData.bulkAll, bkL, h1, h2, h3, h4, h5, k1, k2, k3, k4, k5, Bool.and_self, and_self]
end
/-- a plain value's text -/
def rep (d : D) : Str := (toQ d).shown
theorem ok_repr {d : D} {M : Mem} {P : D → Mem → Prop} (h : gdD d = true) (hb : bkD d ≤ 1000000) (hd : dpD d ≤ 64) : Ok (gRepr [d] M) P ↔ P (.str (rep d)) M := by
  obtain ⟨h1, h2, h3, h4, h5⟩ := gd_facts d h
  have e : toP M d = some (toQ d) := toPs_gd _ d h
  have hz : (toQ d).shown.length ≤ sizeLine := by
    have := PyData.shown_le_bulk 13 (by decide) (toQ d) h2
    have hs := sizeLine_eq
    rw [h5] at this
    omega
  simp only [gRepr, e, h3, hz, h4, hd, and_self, if_true, ok_some]
  rfl
theorem shaped_gd {ds : List D} (h : gdL ds = true) (hd : dpL ds ≤ 63) : SeqAt.shaped (.list (toQs ds)) = true := by
  obtain ⟨h1, h2, h3, h4, h5⟩ := gdL_facts ds h
  unfold SeqAt.shaped
  rw [PyData.canLay0, h1, PyData.depth, h4, decide_eq_true (by omega)]
  rfl
@[simp] theorem ok_eqs {x y : Str} {M : Mem} {P : D → Mem → Prop} : Ok (gEq (.str x) (.str y) M) P ↔ P (.bl (x == y)) M := by simp [gEq, eqD, eqS]
@[simp] theorem ok_nes {x y : Str} {M : Mem} {P : D → Mem → Prop} : Ok (gNe (.str x) (.str y) M) P ↔ P (.bl (!(x == y))) M := by simp [gNe, eqD, eqS]
/-- ds != [] , ds plain -/
theorem ne_nil_gd {M : Mem} {a b : Nat} {ds : List D} {P : D → Mem → Prop} (hg : M.get a = some (.lst ds)) (hb : M.get b = some (.lst [])) (h : gdL ds = true) (hd : dpL ds ≤ 63) : Ok (gNe (.ref a) (.ref b) M) P ↔ P (.bl (!ds.isEmpty)) M :=
  ne_nil hg hb (toPl_gd _ ds h) (shaped_gd h hd)

/-! ### plans as trees -/
inductive T where
  | hand (n : Str)
  | grp (n : Str) (b : Int) (ms : List T)
mutual
def T.d : T → D
  | .hand n => .str n
  | .grp n b ms => .tup [.str n, .int b, .tup (T.ds ms)]
def T.ds : List T → List D
  | [] => []
  | t :: ts => T.d t :: T.ds ts
end
theorem T.ds_map : ∀ ts : List T, T.ds ts = ts.map T.d
  | [] => rfl
  | t :: ts => by rw [T.ds, T.ds_map ts]; rfl
-- the names, each group ahead of its members
mutual
def T.ns : T → List Str
  | .hand n => [n]
  | .grp n _ ms => n :: T.nss ms
def T.nss : List T → List Str
  | [] => []
  | t :: ts => T.ns t ++ T.nss ts
end
-- rows: name, around, bound
mutual
def T.rows (ar : Option Str) : T → List (Str × Option Str × Option Int)
  | .hand n => [(n, ar, none)]
  | .grp n b ms => (n, ar, some b) :: T.rowss (some n) ms
def T.rowss (ar : Option Str) : List T → List (Str × Option Str × Option Int)
  | [] => []
  | t :: ts => T.rows ar t ++ T.rowss ar ts
end
-- rows: name, is a group, the groups around
mutual
def T.told (p : List Str) : T → List (Str × Bool × List Str)
  | .hand n => [(n, false, p)]
  | .grp n _ ms => (n, true, p) :: T.tolds (n :: p) ms
def T.tolds (p : List Str) : List T → List (Str × Bool × List Str)
  | [] => []
  | t :: ts => T.told p t ++ T.tolds p ts
end
mutual
def T.sz : T → Nat
  | .hand _ => 1
  | .grp _ _ ms => T.szs ms + 1
def T.szs : List T → Nat
  | [] => 0
  | t :: ts => T.sz t + T.szs ts
end
mutual
def T.dp : T → Nat
  | .hand _ => 0
  | .grp _ _ ms => T.dps ms + 1
def T.dps : List T → Nat
  | [] => 0
  | t :: ts => max (T.dp t) (T.dps ts)
end
/-- names short and plain, bounds small -/
def nmOk (n : Str) : Bool := ascii n && decide (n.length ≤ 100)
mutual
def T.ok : T → Bool
  | .hand n => nmOk n
  | .grp n b ms => nmOk n && decide (-999999999999 ≤ b) && decide (b ≤ 999999999999) && T.oks ms
def T.oks : List T → Bool
  | [] => true
  | t :: ts => T.ok t && T.oks ts
end
theorem nm_gd {n : Str} (h : nmOk n = true) : gdD (.str n) = true ∧ bkD (.str n) ≤ 100 := by
  unfold nmOk at h
  rw [Bool.and_eq_true, decide_eq_true_eq] at h
  exact ⟨by rw [gdD]; exact h.1, by rw [bkD]; exact h.2⟩
mutual
theorem T.gd : ∀ t : T, t.ok = true → gdD t.d = true ∧ bkD t.d + 1 ≤ 200 * t.sz ∧ dpD t.d ≤ 2 * t.dp
  | .hand n, h => by
    rw [T.ok] at h
    obtain ⟨h1, h2⟩ := nm_gd h
    rw [T.d, T.sz, T.dp]
    exact ⟨h1, by omega, by simp [dpD]⟩
  | .grp n b ms, h => by
    simp only [T.ok, Bool.and_eq_true, decide_eq_true_eq] at h
    obtain ⟨⟨⟨h0, h1⟩, h2⟩, h3⟩ := h
    obtain ⟨k1, k2⟩ := nm_gd h0
    obtain ⟨g1, g2, g3⟩ := T.gds ms h3
    rw [T.d, T.sz, T.dp]
    simp only [gdD, gdL, bkD, bkL, dpD, dpL, g1, Bool.and_eq_true, decide_eq_true_eq, and_true] at k1 k2 ⊢
    exact ⟨⟨k1, h1, h2⟩, by omega, by omega⟩
theorem T.gds : ∀ ts : List T, T.oks ts = true → gdL (T.ds ts) = true ∧ bkL (T.ds ts) ≤ 200 * T.szs ts ∧ dpL (T.ds ts) ≤ 2 * T.dps ts
  | [], _ => by simp [T.ds, gdL, bkL, dpL]
  | t :: ts, h => by
    simp only [T.oks, Bool.and_eq_true] at h
    obtain ⟨h1, h2, h3⟩ := T.gd t h.1
    obtain ⟨g1, g2, g3⟩ := T.gds ts h.2
    simp only [T.ds, gdL, bkL, dpL, h1, g1, T.szs, T.dps, Bool.and_self, true_and]
    have : 1 ≤ t.sz := by cases t <;> simp [T.sz]
    exact ⟨by omega, by omega⟩
end
end Nl

set_option autoImplicit false
/-! Nl, part S: what holds of trees; what stands. -/
namespace Nl
open PySem L2

/-- all but what X names stands as it was -/
structure Fs (X : List Nat) (M M' : Mem) : Prop where
  le : M.sz ≤ M'.sz
  eq : ∀ n, n < M.sz → n ∉ X → M'.get n = M.get n
section
variable {X : List Nat} {M M' M'' : Mem} {h r n : Nat} {o : O}
theorem Fs.refl : Fs X M M := ⟨Nat.le_refl _, fun _ _ _ => rfl⟩
theorem Fs.trans (a : Fs X M M') (b : Fs X M' M'') : Fs X M M'' := ⟨Nat.le_trans a.le b.le, fun n h1 h2 => (b.eq n (Nat.lt_of_lt_of_le h1 a.le) h2).trans (a.eq n h1 h2)⟩
theorem Fs.new (a : Fs X M M') : Fs X M (M'.new o) := ⟨by rw [Mem.sz_new]; exact Nat.le_succ_of_le a.le, fun n h1 h2 => (Mem.get_new_lt (Nat.lt_of_lt_of_le h1 a.le)).trans (a.eq n h1 h2)⟩
theorem Fs.put (a : Fs X M M') (hn : n ∈ X ∨ M.sz ≤ n) : Fs X M (M'.put n o) := ⟨by rw [Mem.sz_put]; exact a.le, fun m h1 h2 => (Mem.get_put_ne (fun e => by
  subst e
  rcases hn with hn | hn
  · exact h2 hn
  · omega)).trans (a.eq m h1 h2)⟩
theorem Fr.fs (a : Fr h r M M') (h1 : h ∈ X) (h2 : r ∈ X) : Fs X M M' := ⟨a.le, fun n hn hx => a.eq n hn (fun e => hx (e ▸ h1)) fun e => hx (e ▸ h2)⟩
theorem Fs.more {Y : List Nat} (a : Fs X M M') (w : ∀ n, n < M.sz → n ∈ X → n ∈ Y) : Fs Y M M' := ⟨a.le, fun n hn hy => a.eq n hn fun hx => hy (w n hn hx)⟩
theorem Fs.after (a : Fs X M M') (b : Fs X M M' → Fs X M' M'') : Fs X M M'' := a.trans (b a)
end

/-! ### names -/
mutual
theorem T.ns_len : ∀ t : T, t.ns.length = t.sz
  | .hand _ => rfl
  | .grp n b ms => by rw [T.ns, T.sz, List.length_cons, T.nss_len ms]
theorem T.nss_len : ∀ ts : List T, (T.nss ts).length = T.szs ts
  | [] => rfl
  | t :: ts => by rw [T.nss, T.szs, List.length_append, T.ns_len t, T.nss_len ts]
end
theorem T.nss_app : ∀ as bs : List T, T.nss (as ++ bs) = T.nss as ++ T.nss bs
  | [], _ => rfl
  | a :: as, bs => by rw [List.cons_append, T.nss, T.nss_app as bs, T.nss, List.append_assoc]
theorem T.oks_app : ∀ as bs : List T, T.oks (as ++ bs) = (T.oks as && T.oks bs)
  | [], _ => by simp [T.oks]
  | a :: as, bs => by rw [List.cons_append, T.oks, T.oks_app as bs, T.oks, Bool.and_assoc]
theorem T.dps_app : ∀ as bs : List T, T.dps (as ++ bs) = max (T.dps as) (T.dps bs)
  | [], _ => by simp [T.dps]
  | a :: as, bs => by rw [List.cons_append, T.dps, T.dps_app as bs, T.dps]; omega
theorem T.ds_app : ∀ as bs : List T, T.ds (as ++ bs) = T.ds as ++ T.ds bs
  | [], _ => by simp [T.ds]
  | a :: as, bs => by rw [List.cons_append, T.ds, T.ds_app as bs, T.ds, List.cons_append]
mutual
theorem T.rows_names (ar : Option Str) : ∀ t : T, (t.rows ar).map (·.1) = t.ns
  | .hand _ => rfl
  | .grp n b ms => by rw [T.rows, T.ns, List.map_cons, T.rowss_names (some n) ms]
theorem T.rowss_names (ar : Option Str) : ∀ ts : List T, (T.rowss ar ts).map (·.1) = T.nss ts
  | [] => rfl
  | t :: ts => by rw [T.rowss, T.nss, List.map_append, T.rows_names ar t, T.rowss_names ar ts]
end
-- rows and told, side by side
mutual
theorem T.side (p : List Str) : ∀ t : T, (t.rows p.head?).map (fun x => (x.1, x.2.1, x.2.2.isSome)) = (t.told p).map fun x => (x.1, x.2.2.head?, x.2.1)
  | .hand _ => rfl
  | .grp n b ms => by
    rw [T.rows, T.told, List.map_cons, List.map_cons]
    have := T.sides (n :: p) ms
    rw [List.head?_cons] at this
    rw [this]
    rfl
theorem T.sides (p : List Str) : ∀ ts : List T, (T.rowss p.head? ts).map (fun x => (x.1, x.2.1, x.2.2.isSome)) = (T.tolds p ts).map fun x => (x.1, x.2.2.head?, x.2.1)
  | [] => rfl
  | t :: ts => by rw [T.rowss, T.tolds, List.map_append, List.map_append, T.side p t, T.sides p ts]
end
-- the group around a told one is told, too
mutual
theorem T.parent (p : List Str) : ∀ (t : T) (x : Str × Bool × List Str), x ∈ t.told p → x.2.2 = p ∨ ∃ q P, x.2.2 = q :: P ∧ (q, true, P) ∈ t.told p
  | .hand _, x, h => by
    rw [T.told, List.mem_singleton] at h
    subst h
    exact .inl rfl
  | .grp n b ms, x, h => by
    rw [T.told] at h ⊢
    rcases List.mem_cons.mp h with h | h
    · subst h; exact .inl rfl
    · rcases T.parents (n :: p) ms x h with e | ⟨q, P, e, m⟩
      · exact .inr ⟨n, p, e, List.mem_cons_self⟩
      · exact .inr ⟨q, P, e, List.mem_cons_of_mem _ m⟩
theorem T.parents (p : List Str) : ∀ (ts : List T) (x : Str × Bool × List Str), x ∈ T.tolds p ts → x.2.2 = p ∨ ∃ q P, x.2.2 = q :: P ∧ (q, true, P) ∈ T.tolds p ts
  | [], x, h => by cases h
  | t :: ts, x, h => by
    rw [T.tolds] at h ⊢
    rcases List.mem_append.mp h with h | h
    · rcases T.parent p t x h with e | ⟨q, P, e, m⟩
      · exact .inl e
      · exact .inr ⟨q, P, e, List.mem_append_left _ m⟩
    · rcases T.parents p ts x h with e | ⟨q, P, e, m⟩
      · exact .inl e
      · exact .inr ⟨q, P, e, List.mem_append_right _ m⟩
end
-- how long a way is
mutual
theorem T.way (p : List Str) : ∀ (t : T) (x : Str × Bool × List Str), x ∈ t.told p → x.2.2.length ≤ p.length + t.dp
  | .hand _, x, h => by
    rw [T.told, List.mem_singleton] at h
    subst h
    exact Nat.le_add_right _ _
  | .grp n b ms, x, h => by
    rw [T.told] at h
    rw [T.dp]
    rcases List.mem_cons.mp h with h | h
    · subst h; exact Nat.le_add_right _ _
    · have := T.ways (n :: p) ms x h
      rw [List.length_cons] at this
      omega
theorem T.ways (p : List Str) : ∀ (ts : List T) (x : Str × Bool × List Str), x ∈ T.tolds p ts → x.2.2.length ≤ p.length + T.dps ts
  | [], x, h => by cases h
  | t :: ts, x, h => by
    rw [T.tolds] at h
    rw [T.dps]
    rcases List.mem_append.mp h with h | h
    · have := T.way p t x h; omega
    · have := T.ways p ts x h; omega
end
theorem T.told_names (p : List Str) (t : T) : (t.told p).map (·.1) = t.ns := by
  have h := congrArg (List.map (·.1)) (T.side p t)
  rw [List.map_map, List.map_map] at h
  rw [← T.rows_names p.head? t]
  exact h.symm
theorem T.told_len (p : List Str) (t : T) : (t.told p).length = t.sz := by
  rw [← T.ns_len t, ← T.told_names p t, List.length_map]
mutual
theorem T.told_ok (p : List Str) : ∀ (t : T) (x : Str × Bool × List Str), t.ok = true → (∀ y ∈ p, nmOk y = true) → x ∈ t.told p → nmOk x.1 = true ∧ ∀ y ∈ x.2.2, nmOk y = true
  | .hand n, x, h, hp, hx => by
    rw [T.told, List.mem_singleton] at hx
    subst hx
    exact ⟨h, hp⟩
  | .grp n b ms, x, h, hp, hx => by
    rw [T.told] at hx
    simp only [T.ok, Bool.and_eq_true, decide_eq_true_eq] at h
    rcases List.mem_cons.mp hx with hx | hx
    · subst hx; exact ⟨h.1.1.1, hp⟩
    · exact T.tolds_ok (n :: p) ms x h.2 (fun y hy => by
        rcases List.mem_cons.mp hy with e | hy
        · rw [e]; exact h.1.1.1
        · exact hp y hy) hx
theorem T.tolds_ok (p : List Str) : ∀ (ts : List T) (x : Str × Bool × List Str), T.oks ts = true → (∀ y ∈ p, nmOk y = true) → x ∈ T.tolds p ts → nmOk x.1 = true ∧ ∀ y ∈ x.2.2, nmOk y = true
  | [], x, h, hp, hx => by cases hx
  | t :: ts, x, h, hp, hx => by
    rw [T.tolds] at hx
    rw [T.oks, Bool.and_eq_true] at h
    rcases List.mem_append.mp hx with hx | hx
    · exact T.told_ok p t x h.1 hp hx
    · exact T.tolds_ok p ts x h.2 hp hx
end
-- lists of names as values
theorem gd_names : ∀ xs : List Str, (∀ x ∈ xs, nmOk x = true) → gdL (xs.map .str) = true ∧ bkL (xs.map .str) ≤ 101 * xs.length ∧ dpL (xs.map .str) = 0
  | [], _ => ⟨rfl, Nat.le_refl _, rfl⟩
  | x :: xs, h => by
    obtain ⟨h1, h2⟩ := nm_gd (h x List.mem_cons_self)
    obtain ⟨k1, k2, k3⟩ := gd_names xs fun y hy => h y (List.mem_cons_of_mem _ hy)
    rw [List.map_cons, gdL, bkL, dpL, h1, k1, k3, List.length_cons]
    exact ⟨rfl, by omega, by simp [dpD]⟩
theorem ok_repr_names {xs : List Str} {M : Mem} {P : D → Mem → Prop} (h : ∀ x ∈ xs, nmOk x = true) (hl : xs.length ≤ 9000) : Ok (gRepr [.tup (xs.map .str)] M) P ↔ P (.str (rep (.tup (xs.map .str)))) M := by
  obtain ⟨k1, k2, k3⟩ := gd_names xs h
  exact ok_repr (by rw [gdD]; exact k1) (by rw [bkD]; omega) (by rw [dpD, k3]; decide)
/-- a dict that is filled with keys that are all new -/
theorem putD_fresh {kvs : List (Key × D)} {k : Key} {d : D} (h : k ∉ kvs.map (·.1)) : putD kvs k d = kvs ++ [(k, d)] := by
  have : hasK kvs k = false := by
    unfold hasK
    rw [Bool.eq_false_iff]
    intro e
    rw [List.any_eq_true] at e
    obtain ⟨p, hp, e⟩ := e
    exact h (List.mem_map.mpr ⟨p, hp, of_decide_eq_true e⟩)
  unfold putD
  rw [this]
  rfl
theorem findK_mem : ∀ {kvs : List (Key × D)} {k : Key} {d : D}, (kvs.map (·.1)).Nodup → (k, d) ∈ kvs → findK kvs k = some d
  | [], _, _, _, h => by cases h
  | (k', d') :: kvs, k, d, hn, h => by
    rw [List.map_cons, List.nodup_cons] at hn
    unfold findK
    rw [List.find?_cons]
    rcases List.mem_cons.mp h with e | h
    · cases e
      simp
    · have ne : k' ≠ k := fun e => hn.1 (by rw [e]; exact List.mem_map.mpr ⟨(k, d), h, rfl⟩)
      rw [decide_eq_false ne]
      exact findK_mem hn.2 h
theorem hasK_mem {kvs : List (Key × D)} {k : Key} {d : D} (h : (k, d) ∈ kvs) : hasK kvs k = true := by
  unfold hasK
  rw [List.any_eq_true]
  exact ⟨(k, d), h, decide_eq_true rfl⟩
end Nl

set_option autoImplicit false
set_option maxRecDepth 100000
namespace K04
open PySem L2 Nl
def top (i : Nat) : Stmt := PySem.Challenge.pw_nearlocks_k04_hands_groups_and_paths.main.body.getD i (.Pass ⟨0, 0, 0, 0⟩)
abbrev s_law : Stmt := top 17
abbrev N_law : List Str := ["_law_script", "_law_hand_here", "_law_turn", "_law_plan_here", "_law_again", "_law_kept", "_law_told_here", "_law_name", "_law_is_one", "_law_path"]
abbrev P_law : List Str := ["_law_script"]
def b_law (C : Nat → Bf) : Sv := sCons (sAsg (eCallD (C 1) [eVar 0] []) (gNm 1)) (sCons (sFor (wRng1 (eCon (.int 3))) (gNm 2) (sCons (sAsg (eCallD (C 2) [eVar 1, eCallD (C 7) [] []] []) (gNm 3)) (sCons (sPar 5 6 [eCall gRepr [eVar 3], eCallD (C 8) [eVar 3] []]) (sCons (sFor (wRng1 (eCon (.int 2))) (gNm 4) (sCons (sIf (xVal (eOp gNe (eCall gRepr [eCallD (C 9) [eVar 3] []]) (eCall gRepr [eCall gTuple [eLc (wSeq (eVar 6)) (gTp [gNm 7, gNm 8, gNm 9]) (xNot (xVal (eVar 8))) (eVar 7) [7, 8, 9]]]))) (sCons (sRet (eCon (.bl false))) (sNil)) (sNil)) (sCons (sIf (xVal (eOp gNe (eCall gRepr [eCallD (C 11) [eVar 3] []]) (eCall gRepr [eCall gTuple [eLc (wSeq (eVar 6)) (gTp [gNm 7, gNm 8, gNm 9]) (xVal (eVar 8)) (eVar 7) [7, 8, 9]]]))) (sCons (sRet (eCon (.bl false))) (sNil)) (sNil)) (sCons (sIf (xNot (xVal (eCall gAll [eLc (wSeq (eVar 6)) (gTp [gNm 7, gNm 8, gNm 9]) (xYes) (eOp gEq (eCall gRepr [eCallD (C 12) [eVar 3, eVar 7] []]) (eCall gRepr [eVar 9])) [7, 8, 9]]))) (sCons (sRet (eCon (.bl false))) (sNil)) (sNil)) (sNil))))) (sCons (sIf (xVal (eOp gNe (eCall gRepr [eVar 3]) (eVar 5))) (sCons (sRet (eCon (.bl false))) (sNil)) (sNil)) (sNil)))))) (sCons (sRet (eCon (.bl true))) (sNil)))
abbrev s__law_hand : Stmt := top 9
abbrev N__law_hand : List Str := ["_law_script", "_law_seed", "_law_cell"]
abbrev P__law_hand : List Str := ["_law_script"]
def b__law_hand (C : Nat → Bf) : Sv := sCons (sAsg (eCon (.int 23)) (gNm 1)) (sCons (sFor (wSeq (eSl (eVar 0) none (some (eCon (.int 63))))) (gNm 2) (sCons (sAsg (eOp gMod (eOp gAdd (eOp gAdd (eOp gMul (eVar 1) (eCon (.int 6364136223846793))) (eOp gMod (eVar 2) (eCon (.int 2305843009213693951)))) (eCon (.int 31))) (eCon (.int 2305843009213693951))) (gNm 1)) (sNil))) (sCons (sRet (eLst [eLc (wSeq (eSl (eVar 0) none (some (eCon (.int 63))))) (gNm 2) (xVal (eOp gGe (eVar 2) (eOp gPow (eCon (.int 10)) (eCon (.int 18))))) (eVar 2) [2], eVar 1])) (sNil)))
abbrev s__law_plan : Stmt := top 15
abbrev N__law_plan : List Str := ["_law_hand_here", "_law_sizes_here", "_law_deep", "_law_wide"]
abbrev P__law_plan : List Str := ["_law_hand_here", "_law_sizes_here"]
def b__law_plan (C : Nat → Bf) : Sv := sCons (sAsg (eCallD (C 3) [eVar 0, eVar 1] []) (gTp [gNm 2, gNm 3])) (sCons (sRet (eCallD (C 5) [eVar 0, eCallD (C 6) [eVar 0] [], eVar 2, eVar 3] [])) (sNil))
abbrev s__law_of : Stmt := top 11
abbrev N__law_of : List Str := ["_law_hand_here", "_law_some"]
abbrev P__law_of : List Str := ["_law_hand_here", "_law_some"]
def b__law_of (C : Nat → Bf) : Sv := sCons (sRet (eOp gIx (eVar 1) (eCallD (C 4) [eVar 0, eCall gLen [eVar 1]] []))) (sNil)
abbrev s__law_pick : Stmt := top 10
abbrev N__law_pick : List Str := ["_law_hand_here", "_law_many", "_law_mixed", "_law_digit"]
abbrev P__law_pick : List Str := ["_law_hand_here", "_law_many"]
def b__law_pick (C : Nat → Bf) : Sv := sCons (sWhile (xAnd (xVal (eOp gNe (eOp gIx (eVar 0) (eCon (.int 0))) (eLst []))) (xVal (eOp gEq (eOp gIx (eOp gIx (eVar 0) (eCon (.int 0))) (eCon (.int 0))) (eCon (.int 0))))) (sCons (sEx (eMt "list" gPopAt (eOp gIx (eVar 0) (eCon (.int 0))) [eCon (.int 0)])) (sNil))) (sCons (sIf (xVal (eOp gNe (eOp gIx (eVar 0) (eCon (.int 0))) (eLst []))) (sCons (sAsg (eOp gMod (eOp gIx (eOp gIx (eVar 0) (eCon (.int 0))) (eCon (.int 0))) (eVar 1)) (gNm 3)) (sCons (sAsg (eOp gFdiv (eOp gIx (eOp gIx (eVar 0) (eCon (.int 0))) (eCon (.int 0))) (eVar 1)) (gSb (eOp gIx (eVar 0) (eCon (.int 0))) (eCon (.int 0)))) (sCons (sRet (eVar 3)) (sNil)))) (sNil)) (sCons (sAsg (eOp gMod (eOp gAdd (eOp gMul (eOp gIx (eVar 0) (eCon (.int 1))) (eCon (.int 3935559000370003))) (eCon (.int 2691343689449507))) (eCon (.int 2305843009213693951))) (gSb (eVar 0) (eCon (.int 1)))) (sCons (sAsg (eOp gFdiv (eOp gIx (eVar 0) (eCon (.int 1))) (eCon (.int 65537))) (gNm 2)) (sCons (sRet (eOp gMod (eOp gFdiv (eOp gMod (eOp gMul (eVar 2) (eOp gAdd (eOp gMod (eVar 2) (eCon (.int 8191))) (eCon (.int 3)))) (eCon (.int 2305843009213693921))) (eCon (.int 4099))) (eVar 1))) (sNil)))))
abbrev s__law_group : Stmt := top 13
abbrev N__law_group : List Str := ["_law_hand_here", "_law_names_here", "_law_deep", "_law_wide", "_law_bound", "_law_k", "_law_name", "_law_members"]
abbrev P__law_group : List Str := ["_law_hand_here", "_law_names_here", "_law_deep", "_law_wide"]
def b__law_group (C : Nat → Bf) : Sv := sCons (sAsg (eCallD (C 3) [eVar 0, eLst [eCon (.int 1), eCon (.int 1), eCon (.int 2), eCon (.int 3), eOp gAdd (eCon (.int 1)) (eCallD (C 4) [eVar 0, eCon (.int 40)] []), eCon (.int 99999999)]] []) (gNm 4)) (sCons (sPar 6 7 [eMt "list" gPop (eVar 1) [], eLst []]) (sCons (sFor (wRng1 (eOp gAdd (eCon (.int 1)) (eCallD (C 4) [eVar 0, eVar 3] []))) (gNm 5) (sCons (sIf (xAnd (xVal (eOp gGt (eVar 2) (eCon (.int 0)))) (xVal (eOp gGt (eCallD (C 4) [eVar 0, eCon (.int 3)] []) (eCon (.int 0))))) (sCons (sEx (eMt "list" gApp (eVar 7) [eCallD (C 5) [eVar 0, eVar 1, eOp gSub (eVar 2) (eCon (.int 1)), eVar 3] []])) (sNil)) (sCons (sEx (eMt "list" gApp (eVar 7) [eMt "list" gPop (eVar 1) []])) (sNil))) (sNil))) (sCons (sRet (eTup [eVar 6, eVar 4, eCall gTuple [eVar 7]])) (sNil))))
abbrev s__law_names : Stmt := top 12
abbrev N__law_names : List Str := ["_law_hand_here", "_law_stem", "_law_found", "_law_k", "_law_word", "_law_first", "_law_step", "_law_spot"]
abbrev P__law_names : List Str := ["_law_hand_here"]
def b__law_names (C : Nat → Bf) : Sv := sCons (sAsg (eMt "str" gJoin (eCon (.str "")) [eLc (wRng1 (eCallD (C 4) [eVar 0, eCon (.int 7)] [])) (gNm 3) (xYes) (eCallD (C 3) [eVar 0, eCon (.str "abdeghinoprstu")] []) [3]]) (gNm 1)) (sCons (sPar 5 6 [eCallD (C 4) [eVar 0, eCon (.int 60)] [], eCallD (C 3) [eVar 0, eLst [eCon (.int 1), eCon (.int 7), eCon (.int 11), eCon (.int 13), eCon (.int 59)]] []]) (sCons (sAsg (eLst []) (gNm 2)) (sCons (sFor (wRng1 (eCon (.int 60))) (gNm 3) (sCons (sAsg (eOp gMod (eOp gAdd (eVar 5) (eOp gMul (eVar 6) (eVar 3))) (eCon (.int 60))) (gNm 7)) (sCons (sEx (eMt "list" gApp (eVar 2) [eOp gAdd (eOp gAdd (eOp gIx (eCon (.str "abcdefghijklmnopqrstuvwxyz")) (eOp gMod (eVar 7) (eCon (.int 26)))) (eOp gIx (eLst [eCon (.str ""), eCon (.str "q"), eCon (.str "x")]) (eOp gFdiv (eVar 7) (eCon (.int 26))))) (eVar 1)])) (sNil)))) (sCons (sFor (wSeq (eTup [eCon (.str "end"), eCon (.str "hand"), eCon (.str "group"), eCon (.str "let"), eCon (.str "program")])) (gNm 4) (sCons (sIf (xAnd (xVal (eOp gEq (eCallD (C 4) [eVar 0, eCon (.int 4)] []) (eCon (.int 0)))) (xVal (eOp gNotIn (eVar 4) (eVar 2)))) (sCons (sAsg (eVar 4) (gSb (eVar 2) (eCallD (C 4) [eVar 0, eCon (.int 60)] []))) (sNil)) (sNil)) (sNil))) (sCons (sRet (eVar 2)) (sNil))))))
abbrev s__law_sizes : Stmt := top 14
abbrev N__law_sizes : List Str := []
abbrev P__law_sizes : List Str := []
def b__law_sizes (C : Nat → Bf) : Sv := sCons (sRet (eLst [eTup [eCon (.int 2), eCon (.int 3)], eTup [eCon (.int 3), eCon (.int 2)], eTup [eCon (.int 1), eCon (.int 5)], eTup [eCon (.int 7), eCon (.int 1)], eTup [eCon (.int 0), eCon (.int 39)], eTup [eCon (.int 0), eCon (.int 2)]])) (sNil)
abbrev s__law_told : Stmt := top 16
abbrev N__law_told : List Str := ["_law_plan_here", "_law_found", "_law_waiting", "_law_one", "_law_path", "_law_member"]
abbrev P__law_told : List Str := ["_law_plan_here"]
def b__law_told (C : Nat → Bf) : Sv := sCons (sPar 1 2 [eLst [], eLst [eTup [eVar 0, eTup []]]]) (sCons (sWhile (xVal (eOp gNe (eVar 2) (eLst []))) (sCons (sAsg (eMt "list" gPopAt (eVar 2) [eCon (.int 0)]) (gTp [gNm 3, gNm 4])) (sCons (sIf (xVal (eCall gIsi [eVar 3, eCon (.ty "str")])) (sCons (sEx (eMt "list" gApp (eVar 1) [eTup [eVar 3, eCon (.bl false), eVar 4]])) (sNil)) (sCons (sEx (eMt "list" gApp (eVar 1) [eTup [eOp gIx (eVar 3) (eCon (.int 0)), eCon (.bl true), eVar 4]])) (sCons (sAsg (eOp gAdd (eLc (wSeq (eOp gIx (eVar 3) (eCon (.int 2)))) (gNm 5) (xYes) (eTup [eVar 5, eOp gAdd (eTup [eOp gIx (eVar 3) (eCon (.int 0))]) (eVar 4)]) [5]) (eVar 2)) (gNm 2)) (sNil)))) (sNil)))) (sCons (sRet (eVar 1)) (sNil)))
abbrev s_hands_of : Stmt := top 5
abbrev N_hands_of : List Str := ["plan", "name", "around", "bound"]
abbrev P_hands_of : List Str := ["plan"]
def b_hands_of (C : Nat → Bf) : Sv := sCons (sRet (eCall gTuple [eLc (wSeq (eCallD (C 10) [eVar 0] [.non])) (gTp [gNm 1, gNm 2, gNm 3]) (xVal (eIsN (eVar 3))) (eVar 1) [1, 2, 3]])) (sNil)
abbrev s_parts_of : Stmt := top 4
abbrev N_parts_of : List Str := ["plan", "around", "found", "member", "name", "bound", "members"]
abbrev P_parts_of : List Str := ["plan", "around"]
def b_parts_of (C : Nat → Bf) : Sv := sCons (sAsg (eVar 0) (gTp [gNm 4, gNm 5, gNm 6])) (sCons (sAsg (eLst [eTup [eVar 4, eVar 1, eVar 5]]) (gNm 2)) (sCons (sFor (wSeq (eVar 6)) (gNm 3) (sCons (sIf (xVal (eCall gIsi [eVar 3, eCon (.ty "str")])) (sCons (sEx (eMt "list" gApp (eVar 2) [eTup [eVar 3, eVar 4, eCon .non]])) (sNil)) (sCons (sEx (eMt "list" gExt (eVar 2) [eCallD (C 10) [eVar 3, eVar 4] []])) (sNil))) (sNil))) (sCons (sRet (eVar 2)) (sNil))))
abbrev s_groups_of : Stmt := top 6
abbrev N_groups_of : List Str := ["plan", "name", "around", "bound"]
abbrev P_groups_of : List Str := ["plan"]
def b_groups_of (C : Nat → Bf) : Sv := sCons (sRet (eCall gTuple [eLc (wSeq (eCallD (C 10) [eVar 0] [.non])) (gTp [gNm 1, gNm 2, gNm 3]) (xVal (eNotN (eVar 3))) (eVar 1) [1, 2, 3]])) (sNil)
abbrev s_path_of : Stmt := top 7
abbrev N_path_of : List Str := ["plan", "name", "arounds", "found", "here", "member", "around", "bound"]
abbrev P_path_of : List Str := ["plan", "name"]
def b_path_of (C : Nat → Bf) : Sv := sCons (sAsg (eDc (wSeq (eCallD (C 10) [eVar 0] [.non])) (gTp [gNm 5, gNm 6, gNm 7]) (xYes) (eVar 5) (eVar 6) [5, 6, 7]) (gNm 2)) (sCons (sIf (xOr (xNot (xVal (eCall gIsi [eVar 1, eCon (.ty "str")]))) (xVal (eOp gNotIn (eVar 1) (eVar 2)))) (sCons (sNo) (sNil)) (sNil)) (sCons (sAsg (eLst []) (gNm 3)) (sCons (sAsg (eOp gIx (eVar 2) (eVar 1)) (gNm 4)) (sCons (sWhile (xVal (eNotN (eVar 4))) (sCons (sEx (eMt "list" gApp (eVar 3) [eVar 4])) (sCons (sAsg (eOp gIx (eVar 2) (eVar 4)) (gNm 4)) (sNil)))) (sCons (sRet (eCall gTuple [eVar 3])) (sNil))))))
structure Tx (Γ : Ga) : Prop where
  z_all : Γ.mg "all" = none
  z_isinstance : Γ.mg "isinstance" = none
  z_len : Γ.mg "len" = none
  z_range : Γ.mg "range" = none
  z_repr : Γ.mg "repr" = none
  z_str : Γ.mg "str" = none
  z_tuple : Γ.mg "tuple" = none
structure Cs (Γ : Ga) (k : Nat) (C : Nat → Bf) : Prop where
  c__law_hand_1 : CalG Γ k "_law_hand" 1 [] (C 1)
  c__law_plan_2 : CalG Γ k "_law_plan" 2 [] (C 2)
  c__law_of_2 : CalG Γ k "_law_of" 2 [] (C 3)
  c__law_pick_2 : CalG Γ k "_law_pick" 2 [] (C 4)
  c__law_group_4 : CalG Γ k "_law_group" 4 [] (C 5)
  c__law_names_1 : CalG Γ k "_law_names" 1 [] (C 6)
  c__law_sizes_0 : CalG Γ k "_law_sizes" 0 [] (C 7)
  c__law_told_1 : CalG Γ k "_law_told" 1 [] (C 8)
  c_hands_of_1 : CalG Γ k "hands_of" 1 [] (C 9)
  c_parts_of_1 : CalG Γ k "parts_of" 2 [.non] (C 10)
  c_parts_of_2 : CalG Γ k "parts_of" 2 [] (C 10)
  c_groups_of_1 : CalG Γ k "groups_of" 1 [] (C 11)
  c_path_of_2 : CalG Γ k "path_of" 2 [] (C 12)
set_option maxRecDepth 20000 in
theorem d_law {Γ : Ga} {k : Nat} {C : Nat → Bf} (T : Tx Γ) (S : Cs Γ k C) {f : Addr} (cdv : Value) (A : Around) (outer : List Env) (s : Shared) (H : Hp) (E : XK) (fit : Fit Γ k (cx Γ N_law "law" (defScope s_law) f cdv A outer s H E)) :
    PSs (cx Γ N_law "law" (defScope s_law) f cdv A outer s H E) (defBody s_law) (tS Γ (b_law C)) :=
(s_cons (s_asg (p_call fit S.c__law_hand_1 (a_cons (p_var 0) a_nil)) (g_nm 1 fit.nd))
(s_cons (s_for PassesOwn.never fit.calm (w_rng1 T.z_range p_int) (g_nm 2 fit.nd)
(s_cons (s_asg (p_call fit S.c__law_plan_2 (a_cons (p_var 1) (a_cons (p_call0 fit S.c__law_sizes_0) a_nil))) (g_nm 3 fit.nd))
(s_cons (s_par (i := 5) (j := 6) fit.calm fit.nd (a_cons (p_bi (b_repr fit.eK fit.gu fit.u70) T.z_repr bo_repr (a_cons (p_var 3) a_nil)) (a_cons (p_call fit S.c__law_told_1 (a_cons (p_var 3) a_nil)) a_nil)) rfl)
(s_cons (s_for PassesOwn.never fit.calm (w_rng1 T.z_range p_int) (g_nm 4 fit.nd)
(s_cons (s_if (x_cmp (op_gNe fit.eK fit.u64) b_gNe (p_bi (b_repr fit.eK fit.gu fit.u70) T.z_repr bo_repr (a_cons (p_call fit S.c_hands_of_1 (a_cons (p_var 3) a_nil)) a_nil)) (p_bi (b_repr fit.eK fit.gu fit.u70) T.z_repr bo_repr (a_cons (p_bt (b_tuple fit.eK) T.z_tuple bo_tuple (a_cons (p_lc (own := [("_law_name", 7), ("_law_is_one", 8), ("_law_path", 9)]) fit.calm fit.nd (w_seq fit.eK (p_var 6)) (blkOk_by (N := N_law) (sc := defScope s_law) (by decide +kernel)) (fun _ _ _ _ _ => (h_tp fit.blk.eK fit.blk.calm (hs_cons (h_nm 7 fit.blk.nd) (hs_cons (h_nm 8 fit.blk.nd) (hs_cons (h_nm 9 fit.blk.nd) hs_nil))))) (fun _ _ _ _ _ => ts_one (x_not (x_val fit.blk.eK (p_var 8)))) (fun _ _ _ _ _ => (p_var 7))) a_nil)) a_nil)) (nomark _))
(s_cons (s_ret p_bl)
s_nil)
s_nil)
(s_cons (s_if (x_cmp (op_gNe fit.eK fit.u64) b_gNe (p_bi (b_repr fit.eK fit.gu fit.u70) T.z_repr bo_repr (a_cons (p_call fit S.c_groups_of_1 (a_cons (p_var 3) a_nil)) a_nil)) (p_bi (b_repr fit.eK fit.gu fit.u70) T.z_repr bo_repr (a_cons (p_bt (b_tuple fit.eK) T.z_tuple bo_tuple (a_cons (p_lc (own := [("_law_name", 7), ("_law_is_one", 8), ("_law_path", 9)]) fit.calm fit.nd (w_seq fit.eK (p_var 6)) (blkOk_by (N := N_law) (sc := defScope s_law) (by decide +kernel)) (fun _ _ _ _ _ => (h_tp fit.blk.eK fit.blk.calm (hs_cons (h_nm 7 fit.blk.nd) (hs_cons (h_nm 8 fit.blk.nd) (hs_cons (h_nm 9 fit.blk.nd) hs_nil))))) (fun _ _ _ _ _ => ts_one (x_val fit.blk.eK (p_var 8))) (fun _ _ _ _ _ => (p_var 7))) a_nil)) a_nil)) (nomark _))
(s_cons (s_ret p_bl)
s_nil)
s_nil)
(s_cons (s_if (x_not (x_val fit.eK (p_bi (b_all fit.eK fit.calm) T.z_all bo_all (a_cons (p_lc (own := [("_law_name", 7), ("_law_is_one", 8), ("_law_path", 9)]) fit.calm fit.nd (w_seq fit.eK (p_var 6)) (blkOk_by (N := N_law) (sc := defScope s_law) (by decide +kernel)) (fun _ _ _ _ _ => (h_tp fit.blk.eK fit.blk.calm (hs_cons (h_nm 7 fit.blk.nd) (hs_cons (h_nm 8 fit.blk.nd) (hs_cons (h_nm 9 fit.blk.nd) hs_nil))))) (fun _ _ _ _ _ => ts_nil) (fun _ _ _ _ _ => (p_cmp (op_gEq fit.blk.eK fit.blk.u64) (p_bi (b_repr fit.blk.eK fit.blk.gu fit.blk.u70) T.z_repr bo_repr (a_cons (p_call fit.blk S.c_path_of_2 (a_cons (p_var 3) (a_cons (p_var 7) a_nil))) a_nil)) (p_bi (b_repr fit.blk.eK fit.blk.gu fit.blk.u70) T.z_repr bo_repr (a_cons (p_var 9) a_nil)) (nomark _)))) a_nil))))
(s_cons (s_ret p_bl)
s_nil)
s_nil)
s_nil))))
(s_cons (s_if (x_cmp (op_gNe fit.eK fit.u64) b_gNe (p_bi (b_repr fit.eK fit.gu fit.u70) T.z_repr bo_repr (a_cons (p_var 3) a_nil)) (p_var 5) (nomark _))
(s_cons (s_ret p_bl)
s_nil)
s_nil)
s_nil)))))
(s_cons (s_ret p_bl)
s_nil)))
theorem sc_law : FnScope N_law P_law (defScope s_law) := ⟨rfl, rfl, rfl, by decide +kernel, rfl, by decide +kernel, by decide +kernel⟩
set_option maxRecDepth 20000 in
theorem d__law_hand {Γ : Ga} {k : Nat} {C : Nat → Bf} (T : Tx Γ) (S : Cs Γ k C) {f : Addr} (cdv : Value) (A : Around) (outer : List Env) (s : Shared) (H : Hp) (E : XK) (fit : Fit Γ k (cx Γ N__law_hand "_law_hand" (defScope s__law_hand) f cdv A outer s H E)) :
    PSs (cx Γ N__law_hand "_law_hand" (defScope s__law_hand) f cdv A outer s H E) (defBody s__law_hand) (tS Γ (b__law_hand C)) :=
(s_cons (s_asg p_int (g_nm 1 fit.nd))
(s_cons (s_for PassesOwn.never fit.calm (w_seq fit.eK (p_sl fit.eK (p_var 0) o_none (o_some p_int))) (g_nm 2 fit.nd)
(s_cons (s_asg (p_op op_gMod (p_op (op_gAdd fit.eK) (p_op (op_gAdd fit.eK) (p_op op_gMul (p_var 1) p_int) (p_op op_gMod (p_var 2) p_int)) p_int) p_int) (g_nm 1 fit.nd))
s_nil))
(s_cons (s_ret (p_lst (a_cons (p_lc (own := [("_law_cell", 2)]) fit.calm fit.nd (w_seq fit.eK (p_sl fit.eK (p_var 0) o_none (o_some p_int))) (blkOk_by (N := N__law_hand) (sc := defScope s__law_hand) (by decide +kernel)) (fun _ _ _ _ _ => (h_nm 2 fit.blk.nd)) (fun _ _ _ _ _ => ts_one (x_cmp op_gGe b_gGe (p_var 2) (p_op op_gPow p_int p_int) (nomark _))) (fun _ _ _ _ _ => (p_var 2))) (a_cons (p_var 1) a_nil))))
s_nil)))
theorem sc__law_hand : FnScope N__law_hand P__law_hand (defScope s__law_hand) := ⟨rfl, rfl, rfl, by decide +kernel, rfl, by decide +kernel, by decide +kernel⟩
set_option maxRecDepth 20000 in
theorem d__law_plan {Γ : Ga} {k : Nat} {C : Nat → Bf} (T : Tx Γ) (S : Cs Γ k C) {f : Addr} (cdv : Value) (A : Around) (outer : List Env) (s : Shared) (H : Hp) (E : XK) (fit : Fit Γ k (cx Γ N__law_plan "_law_plan" (defScope s__law_plan) f cdv A outer s H E)) :
    PSs (cx Γ N__law_plan "_law_plan" (defScope s__law_plan) f cdv A outer s H E) (defBody s__law_plan) (tS Γ (b__law_plan C)) :=
(s_cons (s_asg (p_call fit S.c__law_of_2 (a_cons (p_var 0) (a_cons (p_var 1) a_nil))) (g_tp fit.eK fit.calm (gs_cons (g_nm 2 fit.nd) (gs_cons (g_nm 3 fit.nd) gs_nil))))
(s_cons (s_ret (p_call fit S.c__law_group_4 (a_cons (p_var 0) (a_cons (p_call fit S.c__law_names_1 (a_cons (p_var 0) a_nil)) (a_cons (p_var 2) (a_cons (p_var 3) a_nil))))))
s_nil))
theorem sc__law_plan : FnScope N__law_plan P__law_plan (defScope s__law_plan) := ⟨rfl, rfl, rfl, by decide +kernel, rfl, by decide +kernel, by decide +kernel⟩
set_option maxRecDepth 20000 in
theorem d__law_of {Γ : Ga} {k : Nat} {C : Nat → Bf} (T : Tx Γ) (S : Cs Γ k C) {f : Addr} (cdv : Value) (A : Around) (outer : List Env) (s : Shared) (H : Hp) (E : XK) (fit : Fit Γ k (cx Γ N__law_of "_law_of" (defScope s__law_of) f cdv A outer s H E)) :
    PSs (cx Γ N__law_of "_law_of" (defScope s__law_of) f cdv A outer s H E) (defBody s__law_of) (tS Γ (b__law_of C)) :=
(s_cons (s_ret (p_ix fit.eK fit.u1 (p_var 1) (p_call fit S.c__law_pick_2 (a_cons (p_var 0) (a_cons (p_bi (b_len fit.eK) T.z_len bo_len (a_cons (p_var 1) a_nil)) a_nil)))))
s_nil)
theorem sc__law_of : FnScope N__law_of P__law_of (defScope s__law_of) := ⟨rfl, rfl, rfl, by decide +kernel, rfl, by decide +kernel, by decide +kernel⟩
set_option maxRecDepth 20000 in
theorem d__law_pick {Γ : Ga} {k : Nat} {C : Nat → Bf} (T : Tx Γ) (S : Cs Γ k C) {f : Addr} (cdv : Value) (A : Around) (outer : List Env) (s : Shared) (H : Hp) (E : XK) (fit : Fit Γ k (cx Γ N__law_pick "_law_pick" (defScope s__law_pick) f cdv A outer s H E)) :
    PSs (cx Γ N__law_pick "_law_pick" (defScope s__law_pick) f cdv A outer s H E) (defBody s__law_pick) (tS Γ (b__law_pick C)) :=
(s_cons (s_while PassesOwn.never ((xw_and (x_cmp (op_gNe fit.eK fit.u64) b_gNe (p_ix fit.eK fit.u1 (p_var 0) p_int) (p_lst a_nil) (nomark _)) (xw_one (x_cmp (op_gEq fit.eK fit.u64) b_gEq (p_ix fit.eK fit.u1 (p_ix fit.eK fit.u1 (p_var 0) p_int) p_int) p_int (nomark _))))).pt
(s_cons (s_ex (m_popAt fit.eK (p_ix fit.eK fit.u1 (p_var 0) p_int) (a_cons p_int a_nil)))
s_nil))
(s_cons (s_if (x_cmp (op_gNe fit.eK fit.u64) b_gNe (p_ix fit.eK fit.u1 (p_var 0) p_int) (p_lst a_nil) (nomark _))
(s_cons (s_asg (p_op op_gMod (p_ix fit.eK fit.u1 (p_ix fit.eK fit.u1 (p_var 0) p_int) p_int) (p_var 1)) (g_nm 3 fit.nd))
(s_cons (s_asg (p_op op_gFdiv (p_ix fit.eK fit.u1 (p_ix fit.eK fit.u1 (p_var 0) p_int) p_int) (p_var 1)) (g_sb fit.u1 (p_ix fit.eK fit.u1 (p_var 0) p_int) p_int (fun _ => rfl)))
(s_cons (s_ret (p_var 3))
s_nil)))
s_nil)
(s_cons (s_asg (p_op op_gMod (p_op (op_gAdd fit.eK) (p_op op_gMul (p_ix fit.eK fit.u1 (p_var 0) p_int) p_int) p_int) p_int) (g_sb fit.u1 (p_var 0) p_int (fun _ => rfl)))
(s_cons (s_asg (p_op op_gFdiv (p_ix fit.eK fit.u1 (p_var 0) p_int) p_int) (g_nm 2 fit.nd))
(s_cons (s_ret (p_op op_gMod (p_op op_gFdiv (p_op op_gMod (p_op op_gMul (p_var 2) (p_op (op_gAdd fit.eK) (p_op op_gMod (p_var 2) p_int) p_int)) p_int) p_int) (p_var 1)))
s_nil)))))
theorem sc__law_pick : FnScope N__law_pick P__law_pick (defScope s__law_pick) := ⟨rfl, rfl, rfl, by decide +kernel, rfl, by decide +kernel, by decide +kernel⟩
set_option maxRecDepth 20000 in
theorem d__law_group {Γ : Ga} {k : Nat} {C : Nat → Bf} (T : Tx Γ) (S : Cs Γ k C) {f : Addr} (cdv : Value) (A : Around) (outer : List Env) (s : Shared) (H : Hp) (E : XK) (fit : Fit Γ k (cx Γ N__law_group "_law_group" (defScope s__law_group) f cdv A outer s H E)) :
    PSs (cx Γ N__law_group "_law_group" (defScope s__law_group) f cdv A outer s H E) (defBody s__law_group) (tS Γ (b__law_group C)) :=
(s_cons (s_asg (p_call fit S.c__law_of_2 (a_cons (p_var 0) (a_cons (p_lst (a_cons p_int (a_cons p_int (a_cons p_int (a_cons p_int (a_cons (p_op (op_gAdd fit.eK) p_int (p_call fit S.c__law_pick_2 (a_cons (p_var 0) (a_cons p_int a_nil)))) (a_cons p_int a_nil))))))) a_nil))) (g_nm 4 fit.nd))
(s_cons (s_par (i := 6) (j := 7) fit.calm fit.nd (a_cons (m_pop fit.eK (p_var 1)) (a_cons (p_lst a_nil) a_nil)) rfl)
(s_cons (s_for PassesOwn.never fit.calm (w_rng1 T.z_range (p_op (op_gAdd fit.eK) p_int (p_call fit S.c__law_pick_2 (a_cons (p_var 0) (a_cons (p_var 3) a_nil))))) (g_nm 5 fit.nd)
(s_cons (s_if ((xw_and (x_cmp op_gGt b_gGt (p_var 2) p_int (nomark _)) (xw_one (x_cmp op_gGt b_gGt (p_call fit S.c__law_pick_2 (a_cons (p_var 0) (a_cons p_int a_nil))) p_int (nomark _))))).pt
(s_cons (s_ex (m_app fit.eK (p_var 7) (a_cons (p_call fit S.c__law_group_4 (a_cons (p_var 0) (a_cons (p_var 1) (a_cons (p_op op_gSub (p_var 2) p_int) (a_cons (p_var 3) a_nil))))) a_nil)))
s_nil)
(s_cons (s_ex (m_app fit.eK (p_var 7) (a_cons (m_pop fit.eK (p_var 1)) a_nil)))
s_nil))
s_nil))
(s_cons (s_ret (p_tup (a_cons (p_var 6) (a_cons (p_var 4) (a_cons (p_bt (b_tuple fit.eK) T.z_tuple bo_tuple (a_cons (p_var 7) a_nil)) a_nil)))))
s_nil))))
theorem sc__law_group : FnScope N__law_group P__law_group (defScope s__law_group) := ⟨rfl, rfl, rfl, by decide +kernel, rfl, by decide +kernel, by decide +kernel⟩
set_option maxRecDepth 20000 in
theorem d__law_names {Γ : Ga} {k : Nat} {C : Nat → Bf} (T : Tx Γ) (S : Cs Γ k C) {f : Addr} (cdv : Value) (A : Around) (outer : List Env) (s : Shared) (H : Hp) (E : XK) (fit : Fit Γ k (cx Γ N__law_names "_law_names" (defScope s__law_names) f cdv A outer s H E)) :
    PSs (cx Γ N__law_names "_law_names" (defScope s__law_names) f cdv A outer s H E) (defBody s__law_names) (tS Γ (b__law_names C)) :=
(s_cons (s_asg (m_join fit.eK p_str (a_cons (p_lc (own := [("_law_k", 3)]) fit.calm fit.nd (w_rng1 T.z_range (p_call fit S.c__law_pick_2 (a_cons (p_var 0) (a_cons p_int a_nil)))) (blkOk_by (N := N__law_names) (sc := defScope s__law_names) (by decide +kernel)) (fun _ _ _ _ _ => (h_nm 3 fit.blk.nd)) (fun _ _ _ _ _ => ts_nil) (fun _ _ _ _ _ => (p_call fit.blk S.c__law_of_2 (a_cons (p_var 0) (a_cons p_str a_nil))))) a_nil)) (g_nm 1 fit.nd))
(s_cons (s_par (i := 5) (j := 6) fit.calm fit.nd (a_cons (p_call fit S.c__law_pick_2 (a_cons (p_var 0) (a_cons p_int a_nil))) (a_cons (p_call fit S.c__law_of_2 (a_cons (p_var 0) (a_cons (p_lst (a_cons p_int (a_cons p_int (a_cons p_int (a_cons p_int (a_cons p_int a_nil)))))) a_nil))) a_nil)) rfl)
(s_cons (s_asg (p_lst a_nil) (g_nm 2 fit.nd))
(s_cons (s_for PassesOwn.never fit.calm (w_rng1 T.z_range p_int) (g_nm 3 fit.nd)
(s_cons (s_asg (p_op op_gMod (p_op (op_gAdd fit.eK) (p_var 5) (p_op op_gMul (p_var 6) (p_var 3))) p_int) (g_nm 7 fit.nd))
(s_cons (s_ex (m_app fit.eK (p_var 2) (a_cons (p_op (op_gAdd fit.eK) (p_op (op_gAdd fit.eK) (p_ix fit.eK fit.u1 p_str (p_op op_gMod (p_var 7) p_int)) (p_ix fit.eK fit.u1 (p_lst (a_cons p_str (a_cons p_str (a_cons p_str a_nil)))) (p_op op_gFdiv (p_var 7) p_int))) (p_var 1)) a_nil)))
s_nil)))
(s_cons (s_for PassesOwn.never fit.calm (w_seq fit.eK (p_tup (a_cons p_str (a_cons p_str (a_cons p_str (a_cons p_str (a_cons p_str a_nil))))))) (g_nm 4 fit.nd)
(s_cons (s_if ((xw_and (x_cmp (op_gEq fit.eK fit.u64) b_gEq (p_call fit S.c__law_pick_2 (a_cons (p_var 0) (a_cons p_int a_nil))) p_int (nomark _)) (xw_one (x_cmp (op_gNotIn fit.eK fit.u1) b_gNotIn (p_var 4) (p_var 2) (by with_unfolding_all rfl))))).pt
(s_cons (s_asg (p_var 4) (g_sb fit.u1 (p_var 2) (p_call fit S.c__law_pick_2 (a_cons (p_var 0) (a_cons p_int a_nil))) (fun _ => rfl)))
s_nil)
s_nil)
s_nil))
(s_cons (s_ret (p_var 2))
s_nil))))))
theorem sc__law_names : FnScope N__law_names P__law_names (defScope s__law_names) := ⟨rfl, rfl, rfl, by decide +kernel, rfl, by decide +kernel, by decide +kernel⟩
set_option maxRecDepth 20000 in
theorem d__law_sizes {Γ : Ga} {k : Nat} {C : Nat → Bf} (T : Tx Γ) (S : Cs Γ k C) {f : Addr} (cdv : Value) (A : Around) (outer : List Env) (s : Shared) (H : Hp) (E : XK) (fit : Fit Γ k (cx Γ N__law_sizes "_law_sizes" (defScope s__law_sizes) f cdv A outer s H E)) :
    PSs (cx Γ N__law_sizes "_law_sizes" (defScope s__law_sizes) f cdv A outer s H E) (defBody s__law_sizes) (tS Γ (b__law_sizes C)) :=
(s_cons (s_ret (p_lst (a_cons (p_tup (a_cons p_int (a_cons p_int a_nil))) (a_cons (p_tup (a_cons p_int (a_cons p_int a_nil))) (a_cons (p_tup (a_cons p_int (a_cons p_int a_nil))) (a_cons (p_tup (a_cons p_int (a_cons p_int a_nil))) (a_cons (p_tup (a_cons p_int (a_cons p_int a_nil))) (a_cons (p_tup (a_cons p_int (a_cons p_int a_nil))) a_nil))))))))
s_nil)
theorem sc__law_sizes : FnScope N__law_sizes P__law_sizes (defScope s__law_sizes) := ⟨rfl, rfl, rfl, by decide +kernel, rfl, by decide +kernel, by decide +kernel⟩
set_option maxRecDepth 20000 in
theorem d__law_told {Γ : Ga} {k : Nat} {C : Nat → Bf} (T : Tx Γ) (S : Cs Γ k C) {f : Addr} (cdv : Value) (A : Around) (outer : List Env) (s : Shared) (H : Hp) (E : XK) (fit : Fit Γ k (cx Γ N__law_told "_law_told" (defScope s__law_told) f cdv A outer s H E)) :
    PSs (cx Γ N__law_told "_law_told" (defScope s__law_told) f cdv A outer s H E) (defBody s__law_told) (tS Γ (b__law_told C)) :=
(s_cons (s_par (i := 1) (j := 2) fit.calm fit.nd (a_cons (p_lst a_nil) (a_cons (p_lst (a_cons (p_tup (a_cons (p_var 0) (a_cons (p_tup a_nil) a_nil))) a_nil)) a_nil)) rfl)
(s_cons (s_while PassesOwn.never (x_cmp (op_gNe fit.eK fit.u64) b_gNe (p_var 2) (p_lst a_nil) (nomark _))
(s_cons (s_asg (m_popAt fit.eK (p_var 2) (a_cons p_int a_nil)) (g_tp fit.eK fit.calm (gs_cons (g_nm 3 fit.nd) (gs_cons (g_nm 4 fit.nd) gs_nil))))
(s_cons (s_if (x_val fit.eK (p_bi (b_isi fit.eK) T.z_isinstance bo_isinstance (a_cons (p_var 3) (a_cons (p_ty T.z_str bo_str) a_nil))))
(s_cons (s_ex (m_app fit.eK (p_var 1) (a_cons (p_tup (a_cons (p_var 3) (a_cons p_bl (a_cons (p_var 4) a_nil)))) a_nil)))
s_nil)
(s_cons (s_ex (m_app fit.eK (p_var 1) (a_cons (p_tup (a_cons (p_ix fit.eK fit.u1 (p_var 3) p_int) (a_cons p_bl (a_cons (p_var 4) a_nil)))) a_nil)))
(s_cons (s_asg (p_op (op_gAdd fit.eK) (p_lc (own := [("_law_member", 5)]) fit.calm fit.nd (w_seq fit.eK (p_ix fit.eK fit.u1 (p_var 3) p_int)) (blkOk_by (N := N__law_told) (sc := defScope s__law_told) (by decide +kernel)) (fun _ _ _ _ _ => (h_nm 5 fit.blk.nd)) (fun _ _ _ _ _ => ts_nil) (fun _ _ _ _ _ => (p_tup (a_cons (p_var 5) (a_cons (p_op (op_gAdd fit.blk.eK) (p_tup (a_cons (p_ix fit.blk.eK fit.blk.u1 (p_var 3) p_int) a_nil)) (p_var 4)) a_nil))))) (p_var 2)) (g_nm 2 fit.nd))
s_nil)))
s_nil)))
(s_cons (s_ret (p_var 1))
s_nil)))
theorem sc__law_told : FnScope N__law_told P__law_told (defScope s__law_told) := ⟨rfl, rfl, rfl, by decide +kernel, rfl, by decide +kernel, by decide +kernel⟩
set_option maxRecDepth 20000 in
theorem d_hands_of {Γ : Ga} {k : Nat} {C : Nat → Bf} (T : Tx Γ) (S : Cs Γ k C) {f : Addr} (cdv : Value) (A : Around) (outer : List Env) (s : Shared) (H : Hp) (E : XK) (fit : Fit Γ k (cx Γ N_hands_of "hands_of" (defScope s_hands_of) f cdv A outer s H E)) :
    PSs (cx Γ N_hands_of "hands_of" (defScope s_hands_of) f cdv A outer s H E) (defBody s_hands_of) (tS Γ (b_hands_of C)) :=
(s_cons (s_ret (p_bt (b_tuple fit.eK) T.z_tuple bo_tuple (a_cons (p_lc (own := [("name", 1), ("around", 2), ("bound", 3)]) fit.calm fit.nd (w_seq fit.eK (p_call fit S.c_parts_of_1 (a_cons (p_var 0) a_nil))) (blkOk_by (N := N_hands_of) (sc := defScope s_hands_of) (by decide +kernel)) (fun _ _ _ _ _ => (h_tp fit.blk.eK fit.blk.calm (hs_cons (h_nm 1 fit.blk.nd) (hs_cons (h_nm 2 fit.blk.nd) (hs_cons (h_nm 3 fit.blk.nd) hs_nil))))) (fun _ _ _ _ _ => ts_one (x_isN (p_var 3))) (fun _ _ _ _ _ => (p_var 1))) a_nil)))
s_nil)
theorem sc_hands_of : FnScope N_hands_of P_hands_of (defScope s_hands_of) := ⟨rfl, rfl, rfl, by decide +kernel, rfl, by decide +kernel, by decide +kernel⟩
set_option maxRecDepth 20000 in
theorem d_parts_of {Γ : Ga} {k : Nat} {C : Nat → Bf} (T : Tx Γ) (S : Cs Γ k C) {f : Addr} (cdv : Value) (A : Around) (outer : List Env) (s : Shared) (H : Hp) (E : XK) (fit : Fit Γ k (cx Γ N_parts_of "parts_of" (defScope s_parts_of) f cdv A outer s H E)) :
    PSs (cx Γ N_parts_of "parts_of" (defScope s_parts_of) f cdv A outer s H E) (defBody s_parts_of) (tS Γ (b_parts_of C)) :=
(s_cons (s_asg (p_var 0) (g_tp fit.eK fit.calm (gs_cons (g_nm 4 fit.nd) (gs_cons (g_nm 5 fit.nd) (gs_cons (g_nm 6 fit.nd) gs_nil)))))
(s_cons (s_asg (p_lst (a_cons (p_tup (a_cons (p_var 4) (a_cons (p_var 1) (a_cons (p_var 5) a_nil)))) a_nil)) (g_nm 2 fit.nd))
(s_cons (s_for PassesOwn.never fit.calm (w_seq fit.eK (p_var 6)) (g_nm 3 fit.nd)
(s_cons (s_if (x_val fit.eK (p_bi (b_isi fit.eK) T.z_isinstance bo_isinstance (a_cons (p_var 3) (a_cons (p_ty T.z_str bo_str) a_nil))))
(s_cons (s_ex (m_app fit.eK (p_var 2) (a_cons (p_tup (a_cons (p_var 3) (a_cons (p_var 4) (a_cons p_non a_nil)))) a_nil)))
s_nil)
(s_cons (s_ex (m_ext fit.eK (p_var 2) (a_cons (p_call fit S.c_parts_of_2 (a_cons (p_var 3) (a_cons (p_var 4) a_nil))) a_nil)))
s_nil))
s_nil))
(s_cons (s_ret (p_var 2))
s_nil))))
theorem sc_parts_of : FnScope N_parts_of P_parts_of (defScope s_parts_of) := ⟨rfl, rfl, rfl, by decide +kernel, rfl, by decide +kernel, by decide +kernel⟩
set_option maxRecDepth 20000 in
theorem d_groups_of {Γ : Ga} {k : Nat} {C : Nat → Bf} (T : Tx Γ) (S : Cs Γ k C) {f : Addr} (cdv : Value) (A : Around) (outer : List Env) (s : Shared) (H : Hp) (E : XK) (fit : Fit Γ k (cx Γ N_groups_of "groups_of" (defScope s_groups_of) f cdv A outer s H E)) :
    PSs (cx Γ N_groups_of "groups_of" (defScope s_groups_of) f cdv A outer s H E) (defBody s_groups_of) (tS Γ (b_groups_of C)) :=
(s_cons (s_ret (p_bt (b_tuple fit.eK) T.z_tuple bo_tuple (a_cons (p_lc (own := [("name", 1), ("around", 2), ("bound", 3)]) fit.calm fit.nd (w_seq fit.eK (p_call fit S.c_parts_of_1 (a_cons (p_var 0) a_nil))) (blkOk_by (N := N_groups_of) (sc := defScope s_groups_of) (by decide +kernel)) (fun _ _ _ _ _ => (h_tp fit.blk.eK fit.blk.calm (hs_cons (h_nm 1 fit.blk.nd) (hs_cons (h_nm 2 fit.blk.nd) (hs_cons (h_nm 3 fit.blk.nd) hs_nil))))) (fun _ _ _ _ _ => ts_one (x_notN (p_var 3))) (fun _ _ _ _ _ => (p_var 1))) a_nil)))
s_nil)
theorem sc_groups_of : FnScope N_groups_of P_groups_of (defScope s_groups_of) := ⟨rfl, rfl, rfl, by decide +kernel, rfl, by decide +kernel, by decide +kernel⟩
set_option maxRecDepth 20000 in
theorem d_path_of {Γ : Ga} {k : Nat} {C : Nat → Bf} (T : Tx Γ) (S : Cs Γ k C) {f : Addr} (cdv : Value) (A : Around) (outer : List Env) (s : Shared) (H : Hp) (E : XK) (fit : Fit Γ k (cx Γ N_path_of "path_of" (defScope s_path_of) f cdv A outer s H E)) :
    PSs (cx Γ N_path_of "path_of" (defScope s_path_of) f cdv A outer s H E) (defBody s_path_of) (tS Γ (b_path_of C)) :=
(s_cons (s_dc (i := 2) (own := [("member", 5), ("around", 6), ("bound", 7)]) fit.calm fit.nd (w_seq fit.eK (p_call fit S.c_parts_of_1 (a_cons (p_var 0) a_nil))) (blkOk_by (N := N_path_of) (sc := defScope s_path_of) (by decide +kernel)) (fun _ _ _ _ _ => (h_tp fit.blk.eK fit.blk.calm (hs_cons (h_nm 5 fit.blk.nd) (hs_cons (h_nm 6 fit.blk.nd) (hs_cons (h_nm 7 fit.blk.nd) hs_nil))))) (fun _ _ _ _ _ => ts_nil) (fun _ _ _ _ _ => (p_var 5)) (fun _ _ _ _ _ => (p_var 6)) (sw_trueD rfl rfl rfl rfl))
(s_cons (s_if ((xw_or (x_not (x_val fit.eK (p_bi (b_isi fit.eK) T.z_isinstance bo_isinstance (a_cons (p_var 1) (a_cons (p_ty T.z_str bo_str) a_nil))))) (xw_one' (x_cmp (op_gNotIn fit.eK fit.u1) b_gNotIn (p_var 1) (p_var 2) (by with_unfolding_all rfl))))).pt
(s_cons s_no
s_nil)
s_nil)
(s_cons (s_asg (p_lst a_nil) (g_nm 3 fit.nd))
(s_cons (s_asg (p_ix fit.eK fit.u1 (p_var 2) (p_var 1)) (g_nm 4 fit.nd))
(s_cons (s_while PassesOwn.never (x_notN (p_var 4))
(s_cons (s_ex (m_app fit.eK (p_var 3) (a_cons (p_var 4) a_nil)))
(s_cons (s_asg (p_ix fit.eK fit.u1 (p_var 2) (p_var 4)) (g_nm 4 fit.nd))
s_nil)))
(s_cons (s_ret (p_bt (b_tuple fit.eK) T.z_tuple bo_tuple (a_cons (p_var 3) a_nil)))
s_nil))))))
theorem sc_path_of : FnScope N_path_of P_path_of (defScope s_path_of) := ⟨rfl, rfl, rfl, by decide +kernel, rfl, by decide +kernel, by decide +kernel⟩
def bodies (C : Nat → Bf) : Nat → Bf
  | 0 => bodyD (b_law C) N_law.length
  | 1 => bodyD (b__law_hand C) N__law_hand.length
  | 2 => bodyD (b__law_plan C) N__law_plan.length
  | 3 => bodyD (b__law_of C) N__law_of.length
  | 4 => bodyD (b__law_pick C) N__law_pick.length
  | 5 => bodyD (b__law_group C) N__law_group.length
  | 6 => bodyD (b__law_names C) N__law_names.length
  | 7 => bodyD (b__law_sizes C) N__law_sizes.length
  | 8 => bodyD (b__law_told C) N__law_told.length
  | 9 => bodyD (b_hands_of C) N_hands_of.length
  | 10 => bodyD (b_parts_of C) N_parts_of.length
  | 11 => bodyD (b_groups_of C) N_groups_of.length
  | 12 => bodyD (b_path_of C) N_path_of.length
  | _ => fun _ _ => none
def callN : Nat → Nat → Bf
  | 0 => fun _ _ _ => none
  | k + 1 => bodies (callN k)
structure Df (Γ : Ga) : Prop where
  e_law : ∃ f fd, DefAt Γ "law" s_law [] [] f fd
  e__law_hand : ∃ f fd, DefAt Γ "_law_hand" s__law_hand [] [] f fd
  e__law_plan : ∃ f fd, DefAt Γ "_law_plan" s__law_plan [] [] f fd
  e__law_of : ∃ f fd, DefAt Γ "_law_of" s__law_of [] [] f fd
  e__law_pick : ∃ f fd, DefAt Γ "_law_pick" s__law_pick [] [] f fd
  e__law_group : ∃ f fd, DefAt Γ "_law_group" s__law_group [] [] f fd
  e__law_names : ∃ f fd, DefAt Γ "_law_names" s__law_names [] [] f fd
  e__law_sizes : ∃ f fd, DefAt Γ "_law_sizes" s__law_sizes [] [] f fd
  e__law_told : ∃ f fd, DefAt Γ "_law_told" s__law_told [] [] f fd
  e_hands_of : ∃ f fd, DefAt Γ "hands_of" s_hands_of [] [] f fd
  e_parts_of : ∃ f fd, DefAt Γ "parts_of" s_parts_of [V.non] [] f fd
  e_groups_of : ∃ f fd, DefAt Γ "groups_of" s_groups_of [] [] f fd
  e_path_of : ∃ f fd, DefAt Γ "path_of" s_path_of [] [] f fd
theorem cs_mk {Γ : Ga} {k : Nat} {C : Nat → Bf} {f_law : Addr} {fd_law : FuncData} (D_law : DefAt Γ "law" s_law [] [] f_law fd_law) {f__law_hand : Addr} {fd__law_hand : FuncData} (D__law_hand : DefAt Γ "_law_hand" s__law_hand [] [] f__law_hand fd__law_hand) {f__law_plan : Addr} {fd__law_plan : FuncData} (D__law_plan : DefAt Γ "_law_plan" s__law_plan [] [] f__law_plan fd__law_plan) {f__law_of : Addr} {fd__law_of : FuncData} (D__law_of : DefAt Γ "_law_of" s__law_of [] [] f__law_of fd__law_of) {f__law_pick : Addr} {fd__law_pick : FuncData} (D__law_pick : DefAt Γ "_law_pick" s__law_pick [] [] f__law_pick fd__law_pick) {f__law_group : Addr} {fd__law_group : FuncData} (D__law_group : DefAt Γ "_law_group" s__law_group [] [] f__law_group fd__law_group) {f__law_names : Addr} {fd__law_names : FuncData} (D__law_names : DefAt Γ "_law_names" s__law_names [] [] f__law_names fd__law_names) {f__law_sizes : Addr} {fd__law_sizes : FuncData} (D__law_sizes : DefAt Γ "_law_sizes" s__law_sizes [] [] f__law_sizes fd__law_sizes) {f__law_told : Addr} {fd__law_told : FuncData} (D__law_told : DefAt Γ "_law_told" s__law_told [] [] f__law_told fd__law_told) {f_hands_of : Addr} {fd_hands_of : FuncData} (D_hands_of : DefAt Γ "hands_of" s_hands_of [] [] f_hands_of fd_hands_of) {f_parts_of : Addr} {fd_parts_of : FuncData} (D_parts_of : DefAt Γ "parts_of" s_parts_of [V.non] [] f_parts_of fd_parts_of) {f_groups_of : Addr} {fd_groups_of : FuncData} (D_groups_of : DefAt Γ "groups_of" s_groups_of [] [] f_groups_of fd_groups_of) {f_path_of : Addr} {fd_path_of : FuncData} (D_path_of : DefAt Γ "path_of" s_path_of [] [] f_path_of fd_path_of)
    (F_law : FnG Γ k f_law fd_law P_law (C 0)) (F__law_hand : FnG Γ k f__law_hand fd__law_hand P__law_hand (C 1)) (F__law_plan : FnG Γ k f__law_plan fd__law_plan P__law_plan (C 2)) (F__law_of : FnG Γ k f__law_of fd__law_of P__law_of (C 3)) (F__law_pick : FnG Γ k f__law_pick fd__law_pick P__law_pick (C 4)) (F__law_group : FnG Γ k f__law_group fd__law_group P__law_group (C 5)) (F__law_names : FnG Γ k f__law_names fd__law_names P__law_names (C 6)) (F__law_sizes : FnG Γ k f__law_sizes fd__law_sizes P__law_sizes (C 7)) (F__law_told : FnG Γ k f__law_told fd__law_told P__law_told (C 8)) (F_hands_of : FnG Γ k f_hands_of fd_hands_of P_hands_of (C 9)) (F_parts_of : FnG Γ k f_parts_of fd_parts_of P_parts_of (C 10)) (F_groups_of : FnG Γ k f_groups_of fd_groups_of P_groups_of (C 11)) (F_path_of : FnG Γ k f_path_of fd_path_of P_path_of (C 12)) : Cs Γ k C where
  c__law_hand_1 := CalG.plain D__law_hand F__law_hand fun _ _ _ _ _ _ us hl => match us, hl with | [_], _ => rfl
  c__law_plan_2 := CalG.plain D__law_plan F__law_plan fun _ _ _ _ _ _ us hl => match us, hl with | [_, _], _ => rfl
  c__law_of_2 := CalG.plain D__law_of F__law_of fun _ _ _ _ _ _ us hl => match us, hl with | [_, _], _ => rfl
  c__law_pick_2 := CalG.plain D__law_pick F__law_pick fun _ _ _ _ _ _ us hl => match us, hl with | [_, _], _ => rfl
  c__law_group_4 := CalG.plain D__law_group F__law_group fun _ _ _ _ _ _ us hl => match us, hl with | [_, _, _, _], _ => rfl
  c__law_names_1 := CalG.plain D__law_names F__law_names fun _ _ _ _ _ _ us hl => match us, hl with | [_], _ => rfl
  c__law_sizes_0 := CalG.plain D__law_sizes F__law_sizes fun _ _ _ _ _ _ us hl => match us, hl with | [], _ => rfl
  c__law_told_1 := CalG.plain D__law_told F__law_told fun _ _ _ _ _ _ us hl => match us, hl with | [_], _ => rfl
  c_hands_of_1 := CalG.plain D_hands_of F_hands_of fun _ _ _ _ _ _ us hl => match us, hl with | [_], _ => rfl
  c_parts_of_1 := CalG.dflt D_parts_of F_parts_of 1 0 [.non] (fun _ _ _ => .cons .non (.nil)) (by decide) rfl fun _ _ _ _ _ _ _ us its hu hi => match us, hu, its, hi with | [_], _, [_], _ => ⟨_, rfl, rfl⟩
  c_parts_of_2 := CalG.dflt D_parts_of F_parts_of 2 1 [] (fun _ _ _ => .nil) (by decide) rfl fun _ _ _ _ _ _ _ us its hu hi => match us, hu, its, hi with | [_, _], _, [_], _ => ⟨_, rfl, rfl⟩
  c_groups_of_1 := CalG.plain D_groups_of F_groups_of fun _ _ _ _ _ _ us hl => match us, hl with | [_], _ => rfl
  c_path_of_2 := CalG.plain D_path_of F_path_of fun _ _ _ _ _ _ us hl => match us, hl with | [_, _], _ => rfl
theorem level {Γ : Ga} (T : Tx Γ) {f_law : Addr} {fd_law : FuncData} (D_law : DefAt Γ "law" s_law [] [] f_law fd_law) {f__law_hand : Addr} {fd__law_hand : FuncData} (D__law_hand : DefAt Γ "_law_hand" s__law_hand [] [] f__law_hand fd__law_hand) {f__law_plan : Addr} {fd__law_plan : FuncData} (D__law_plan : DefAt Γ "_law_plan" s__law_plan [] [] f__law_plan fd__law_plan) {f__law_of : Addr} {fd__law_of : FuncData} (D__law_of : DefAt Γ "_law_of" s__law_of [] [] f__law_of fd__law_of) {f__law_pick : Addr} {fd__law_pick : FuncData} (D__law_pick : DefAt Γ "_law_pick" s__law_pick [] [] f__law_pick fd__law_pick) {f__law_group : Addr} {fd__law_group : FuncData} (D__law_group : DefAt Γ "_law_group" s__law_group [] [] f__law_group fd__law_group) {f__law_names : Addr} {fd__law_names : FuncData} (D__law_names : DefAt Γ "_law_names" s__law_names [] [] f__law_names fd__law_names) {f__law_sizes : Addr} {fd__law_sizes : FuncData} (D__law_sizes : DefAt Γ "_law_sizes" s__law_sizes [] [] f__law_sizes fd__law_sizes) {f__law_told : Addr} {fd__law_told : FuncData} (D__law_told : DefAt Γ "_law_told" s__law_told [] [] f__law_told fd__law_told) {f_hands_of : Addr} {fd_hands_of : FuncData} (D_hands_of : DefAt Γ "hands_of" s_hands_of [] [] f_hands_of fd_hands_of) {f_parts_of : Addr} {fd_parts_of : FuncData} (D_parts_of : DefAt Γ "parts_of" s_parts_of [V.non] [] f_parts_of fd_parts_of) {f_groups_of : Addr} {fd_groups_of : FuncData} (D_groups_of : DefAt Γ "groups_of" s_groups_of [] [] f_groups_of fd_groups_of) {f_path_of : Addr} {fd_path_of : FuncData} (D_path_of : DefAt Γ "path_of" s_path_of [] [] f_path_of fd_path_of) : ∀ k, Cs Γ k (callN k)
  | 0 => cs_mk D_law D__law_hand D__law_plan D__law_of D__law_pick D__law_group D__law_names D__law_sizes D__law_told D_hands_of D_parts_of D_groups_of D_path_of FnG.zero FnG.zero FnG.zero FnG.zero FnG.zero FnG.zero FnG.zero FnG.zero FnG.zero FnG.zero FnG.zero FnG.zero FnG.zero
  | k + 1 => cs_mk D_law D__law_hand D__law_plan D__law_of D__law_pick D__law_group D__law_names D__law_sizes D__law_told D_hands_of D_parts_of D_groups_of D_path_of (FnG.of D_law.fn sc_law fun cdv A outer s H E fit => d_law T (level T D_law D__law_hand D__law_plan D__law_of D__law_pick D__law_group D__law_names D__law_sizes D__law_told D_hands_of D_parts_of D_groups_of D_path_of k) cdv A outer s H E fit) (FnG.of D__law_hand.fn sc__law_hand fun cdv A outer s H E fit => d__law_hand T (level T D_law D__law_hand D__law_plan D__law_of D__law_pick D__law_group D__law_names D__law_sizes D__law_told D_hands_of D_parts_of D_groups_of D_path_of k) cdv A outer s H E fit) (FnG.of D__law_plan.fn sc__law_plan fun cdv A outer s H E fit => d__law_plan T (level T D_law D__law_hand D__law_plan D__law_of D__law_pick D__law_group D__law_names D__law_sizes D__law_told D_hands_of D_parts_of D_groups_of D_path_of k) cdv A outer s H E fit) (FnG.of D__law_of.fn sc__law_of fun cdv A outer s H E fit => d__law_of T (level T D_law D__law_hand D__law_plan D__law_of D__law_pick D__law_group D__law_names D__law_sizes D__law_told D_hands_of D_parts_of D_groups_of D_path_of k) cdv A outer s H E fit) (FnG.of D__law_pick.fn sc__law_pick fun cdv A outer s H E fit => d__law_pick T (level T D_law D__law_hand D__law_plan D__law_of D__law_pick D__law_group D__law_names D__law_sizes D__law_told D_hands_of D_parts_of D_groups_of D_path_of k) cdv A outer s H E fit) (FnG.of D__law_group.fn sc__law_group fun cdv A outer s H E fit => d__law_group T (level T D_law D__law_hand D__law_plan D__law_of D__law_pick D__law_group D__law_names D__law_sizes D__law_told D_hands_of D_parts_of D_groups_of D_path_of k) cdv A outer s H E fit) (FnG.of D__law_names.fn sc__law_names fun cdv A outer s H E fit => d__law_names T (level T D_law D__law_hand D__law_plan D__law_of D__law_pick D__law_group D__law_names D__law_sizes D__law_told D_hands_of D_parts_of D_groups_of D_path_of k) cdv A outer s H E fit) (FnG.of D__law_sizes.fn sc__law_sizes fun cdv A outer s H E fit => d__law_sizes T (level T D_law D__law_hand D__law_plan D__law_of D__law_pick D__law_group D__law_names D__law_sizes D__law_told D_hands_of D_parts_of D_groups_of D_path_of k) cdv A outer s H E fit) (FnG.of D__law_told.fn sc__law_told fun cdv A outer s H E fit => d__law_told T (level T D_law D__law_hand D__law_plan D__law_of D__law_pick D__law_group D__law_names D__law_sizes D__law_told D_hands_of D_parts_of D_groups_of D_path_of k) cdv A outer s H E fit) (FnG.of D_hands_of.fn sc_hands_of fun cdv A outer s H E fit => d_hands_of T (level T D_law D__law_hand D__law_plan D__law_of D__law_pick D__law_group D__law_names D__law_sizes D__law_told D_hands_of D_parts_of D_groups_of D_path_of k) cdv A outer s H E fit) (FnG.of D_parts_of.fn sc_parts_of fun cdv A outer s H E fit => d_parts_of T (level T D_law D__law_hand D__law_plan D__law_of D__law_pick D__law_group D__law_names D__law_sizes D__law_told D_hands_of D_parts_of D_groups_of D_path_of k) cdv A outer s H E fit) (FnG.of D_groups_of.fn sc_groups_of fun cdv A outer s H E fit => d_groups_of T (level T D_law D__law_hand D__law_plan D__law_of D__law_pick D__law_group D__law_names D__law_sizes D__law_told D_hands_of D_parts_of D_groups_of D_path_of k) cdv A outer s H E fit) (FnG.of D_path_of.fn sc_path_of fun cdv A outer s H E fit => d_path_of T (level T D_law D__law_hand D__law_plan D__law_of D__law_pick D__law_group D__law_names D__law_sizes D__law_told D_hands_of D_parts_of D_groups_of D_path_of k) cdv A outer s H E fit)
theorem fn_law {Γ : Ga} (T : Tx Γ) {f_law : Addr} {fd_law : FuncData} (D_law : DefAt Γ "law" s_law [] [] f_law fd_law) {f__law_hand : Addr} {fd__law_hand : FuncData} (D__law_hand : DefAt Γ "_law_hand" s__law_hand [] [] f__law_hand fd__law_hand) {f__law_plan : Addr} {fd__law_plan : FuncData} (D__law_plan : DefAt Γ "_law_plan" s__law_plan [] [] f__law_plan fd__law_plan) {f__law_of : Addr} {fd__law_of : FuncData} (D__law_of : DefAt Γ "_law_of" s__law_of [] [] f__law_of fd__law_of) {f__law_pick : Addr} {fd__law_pick : FuncData} (D__law_pick : DefAt Γ "_law_pick" s__law_pick [] [] f__law_pick fd__law_pick) {f__law_group : Addr} {fd__law_group : FuncData} (D__law_group : DefAt Γ "_law_group" s__law_group [] [] f__law_group fd__law_group) {f__law_names : Addr} {fd__law_names : FuncData} (D__law_names : DefAt Γ "_law_names" s__law_names [] [] f__law_names fd__law_names) {f__law_sizes : Addr} {fd__law_sizes : FuncData} (D__law_sizes : DefAt Γ "_law_sizes" s__law_sizes [] [] f__law_sizes fd__law_sizes) {f__law_told : Addr} {fd__law_told : FuncData} (D__law_told : DefAt Γ "_law_told" s__law_told [] [] f__law_told fd__law_told) {f_hands_of : Addr} {fd_hands_of : FuncData} (D_hands_of : DefAt Γ "hands_of" s_hands_of [] [] f_hands_of fd_hands_of) {f_parts_of : Addr} {fd_parts_of : FuncData} (D_parts_of : DefAt Γ "parts_of" s_parts_of [V.non] [] f_parts_of fd_parts_of) {f_groups_of : Addr} {fd_groups_of : FuncData} (D_groups_of : DefAt Γ "groups_of" s_groups_of [] [] f_groups_of fd_groups_of) {f_path_of : Addr} {fd_path_of : FuncData} (D_path_of : DefAt Γ "path_of" s_path_of [] [] f_path_of fd_path_of) (k : Nat) : FnG Γ (k + 1) f_law fd_law P_law (callN (k + 1) 0) := FnG.of D_law.fn sc_law fun cdv A outer s H E fit => d_law T (level T D_law D__law_hand D__law_plan D__law_of D__law_pick D__law_group D__law_names D__law_sizes D__law_told D_hands_of D_parts_of D_groups_of D_path_of k) cdv A outer s H E fit
theorem all_mk {l : PySem.W.OpenLaw} {w : World} {K : PySem.W.Frag} {h : Heap} {mg : Str → Option Value} {fa : Addr} (X : K.In h) (G : h.Ns mainGlobals mg) (hfa : mg "law" = some (.ref fa)) {f_law : Addr} {oc_law kV_law dc_law pm_law cd_law ct_law : Value} {od_law an_law : Option Addr} {sl_law : Array (Option Value)} {f__law_hand : Addr} {oc__law_hand kV__law_hand dc__law_hand pm__law_hand cd__law_hand ct__law_hand : Value} {od__law_hand an__law_hand : Option Addr} {sl__law_hand : Array (Option Value)} {f__law_plan : Addr} {oc__law_plan kV__law_plan dc__law_plan pm__law_plan cd__law_plan ct__law_plan : Value} {od__law_plan an__law_plan : Option Addr} {sl__law_plan : Array (Option Value)} {f__law_of : Addr} {oc__law_of kV__law_of dc__law_of pm__law_of cd__law_of ct__law_of : Value} {od__law_of an__law_of : Option Addr} {sl__law_of : Array (Option Value)} {f__law_pick : Addr} {oc__law_pick kV__law_pick dc__law_pick pm__law_pick cd__law_pick ct__law_pick : Value} {od__law_pick an__law_pick : Option Addr} {sl__law_pick : Array (Option Value)} {f__law_group : Addr} {oc__law_group kV__law_group dc__law_group pm__law_group cd__law_group ct__law_group : Value} {od__law_group an__law_group : Option Addr} {sl__law_group : Array (Option Value)} {f__law_names : Addr} {oc__law_names kV__law_names dc__law_names pm__law_names cd__law_names ct__law_names : Value} {od__law_names an__law_names : Option Addr} {sl__law_names : Array (Option Value)} {f__law_sizes : Addr} {oc__law_sizes kV__law_sizes dc__law_sizes pm__law_sizes cd__law_sizes ct__law_sizes : Value} {od__law_sizes an__law_sizes : Option Addr} {sl__law_sizes : Array (Option Value)} {f__law_told : Addr} {oc__law_told kV__law_told dc__law_told pm__law_told cd__law_told ct__law_told : Value} {od__law_told an__law_told : Option Addr} {sl__law_told : Array (Option Value)} {f_hands_of : Addr} {oc_hands_of kV_hands_of dc_hands_of pm_hands_of cd_hands_of ct_hands_of : Value} {od_hands_of an_hands_of : Option Addr} {sl_hands_of : Array (Option Value)} {f_parts_of : Addr} {oc_parts_of kV_parts_of dc_parts_of pm_parts_of cd_parts_of ct_parts_of : Value} {od_parts_of an_parts_of : Option Addr} {sl_parts_of : Array (Option Value)} {T_parts_of : Addr} {oT_parts_of : Value} {dT_parts_of : Option Addr} {sT_parts_of : Array (Option Value)} {n_parts_of : Nat} {f_groups_of : Addr} {oc_groups_of kV_groups_of dc_groups_of pm_groups_of cd_groups_of ct_groups_of : Value} {od_groups_of an_groups_of : Option Addr} {sl_groups_of : Array (Option Value)} {f_path_of : Addr} {oc_path_of kV_path_of dc_path_of pm_path_of cd_path_of ct_path_of : Value} {od_path_of an_path_of : Option Addr} {sl_path_of : Array (Option Value)}
    (a_law : PySem.W.nsIn K mainGlobals "law" = some (some (.ref f_law)))
    (l_law : K.lookup f_law = some ⟨oc_law, od_law, .func (PySem.W.fnOf "law" "law" (defArgs s_law) (defBody s_law) (defScope s_law) .none kV_law dc_law pm_law an_law cd_law ct_law), sl_law⟩)
    (c_law : PySem.W.codeIn K cd_law "law" = true)
    (k_law : PySem.W.keepIn K (.ref f_law) = true)
    (a__law_hand : PySem.W.nsIn K mainGlobals "_law_hand" = some (some (.ref f__law_hand)))
    (l__law_hand : K.lookup f__law_hand = some ⟨oc__law_hand, od__law_hand, .func (PySem.W.fnOf "_law_hand" "_law_hand" (defArgs s__law_hand) (defBody s__law_hand) (defScope s__law_hand) .none kV__law_hand dc__law_hand pm__law_hand an__law_hand cd__law_hand ct__law_hand), sl__law_hand⟩)
    (c__law_hand : PySem.W.codeIn K cd__law_hand "_law_hand" = true)
    (k__law_hand : PySem.W.keepIn K (.ref f__law_hand) = true)
    (a__law_plan : PySem.W.nsIn K mainGlobals "_law_plan" = some (some (.ref f__law_plan)))
    (l__law_plan : K.lookup f__law_plan = some ⟨oc__law_plan, od__law_plan, .func (PySem.W.fnOf "_law_plan" "_law_plan" (defArgs s__law_plan) (defBody s__law_plan) (defScope s__law_plan) .none kV__law_plan dc__law_plan pm__law_plan an__law_plan cd__law_plan ct__law_plan), sl__law_plan⟩)
    (c__law_plan : PySem.W.codeIn K cd__law_plan "_law_plan" = true)
    (k__law_plan : PySem.W.keepIn K (.ref f__law_plan) = true)
    (a__law_of : PySem.W.nsIn K mainGlobals "_law_of" = some (some (.ref f__law_of)))
    (l__law_of : K.lookup f__law_of = some ⟨oc__law_of, od__law_of, .func (PySem.W.fnOf "_law_of" "_law_of" (defArgs s__law_of) (defBody s__law_of) (defScope s__law_of) .none kV__law_of dc__law_of pm__law_of an__law_of cd__law_of ct__law_of), sl__law_of⟩)
    (c__law_of : PySem.W.codeIn K cd__law_of "_law_of" = true)
    (k__law_of : PySem.W.keepIn K (.ref f__law_of) = true)
    (a__law_pick : PySem.W.nsIn K mainGlobals "_law_pick" = some (some (.ref f__law_pick)))
    (l__law_pick : K.lookup f__law_pick = some ⟨oc__law_pick, od__law_pick, .func (PySem.W.fnOf "_law_pick" "_law_pick" (defArgs s__law_pick) (defBody s__law_pick) (defScope s__law_pick) .none kV__law_pick dc__law_pick pm__law_pick an__law_pick cd__law_pick ct__law_pick), sl__law_pick⟩)
    (c__law_pick : PySem.W.codeIn K cd__law_pick "_law_pick" = true)
    (k__law_pick : PySem.W.keepIn K (.ref f__law_pick) = true)
    (a__law_group : PySem.W.nsIn K mainGlobals "_law_group" = some (some (.ref f__law_group)))
    (l__law_group : K.lookup f__law_group = some ⟨oc__law_group, od__law_group, .func (PySem.W.fnOf "_law_group" "_law_group" (defArgs s__law_group) (defBody s__law_group) (defScope s__law_group) .none kV__law_group dc__law_group pm__law_group an__law_group cd__law_group ct__law_group), sl__law_group⟩)
    (c__law_group : PySem.W.codeIn K cd__law_group "_law_group" = true)
    (k__law_group : PySem.W.keepIn K (.ref f__law_group) = true)
    (a__law_names : PySem.W.nsIn K mainGlobals "_law_names" = some (some (.ref f__law_names)))
    (l__law_names : K.lookup f__law_names = some ⟨oc__law_names, od__law_names, .func (PySem.W.fnOf "_law_names" "_law_names" (defArgs s__law_names) (defBody s__law_names) (defScope s__law_names) .none kV__law_names dc__law_names pm__law_names an__law_names cd__law_names ct__law_names), sl__law_names⟩)
    (c__law_names : PySem.W.codeIn K cd__law_names "_law_names" = true)
    (k__law_names : PySem.W.keepIn K (.ref f__law_names) = true)
    (a__law_sizes : PySem.W.nsIn K mainGlobals "_law_sizes" = some (some (.ref f__law_sizes)))
    (l__law_sizes : K.lookup f__law_sizes = some ⟨oc__law_sizes, od__law_sizes, .func (PySem.W.fnOf "_law_sizes" "_law_sizes" (defArgs s__law_sizes) (defBody s__law_sizes) (defScope s__law_sizes) .none kV__law_sizes dc__law_sizes pm__law_sizes an__law_sizes cd__law_sizes ct__law_sizes), sl__law_sizes⟩)
    (c__law_sizes : PySem.W.codeIn K cd__law_sizes "_law_sizes" = true)
    (k__law_sizes : PySem.W.keepIn K (.ref f__law_sizes) = true)
    (a__law_told : PySem.W.nsIn K mainGlobals "_law_told" = some (some (.ref f__law_told)))
    (l__law_told : K.lookup f__law_told = some ⟨oc__law_told, od__law_told, .func (PySem.W.fnOf "_law_told" "_law_told" (defArgs s__law_told) (defBody s__law_told) (defScope s__law_told) .none kV__law_told dc__law_told pm__law_told an__law_told cd__law_told ct__law_told), sl__law_told⟩)
    (c__law_told : PySem.W.codeIn K cd__law_told "_law_told" = true)
    (k__law_told : PySem.W.keepIn K (.ref f__law_told) = true)
    (a_hands_of : PySem.W.nsIn K mainGlobals "hands_of" = some (some (.ref f_hands_of)))
    (l_hands_of : K.lookup f_hands_of = some ⟨oc_hands_of, od_hands_of, .func (PySem.W.fnOf "hands_of" "hands_of" (defArgs s_hands_of) (defBody s_hands_of) (defScope s_hands_of) .none kV_hands_of dc_hands_of pm_hands_of an_hands_of cd_hands_of ct_hands_of), sl_hands_of⟩)
    (c_hands_of : PySem.W.codeIn K cd_hands_of "hands_of" = true)
    (k_hands_of : PySem.W.keepIn K (.ref f_hands_of) = true)
    (a_parts_of : PySem.W.nsIn K mainGlobals "parts_of" = some (some (.ref f_parts_of)))
    (l_parts_of : K.lookup f_parts_of = some ⟨oc_parts_of, od_parts_of, .func (PySem.W.fnOf "parts_of" "parts_of" (defArgs s_parts_of) (defBody s_parts_of) (defScope s_parts_of) (.ref T_parts_of) kV_parts_of dc_parts_of pm_parts_of an_parts_of cd_parts_of ct_parts_of), sl_parts_of⟩)
    (c_parts_of : PySem.W.codeIn K cd_parts_of "parts_of" = true)
    (k_parts_of : PySem.W.keepIn K (.ref f_parts_of) = true)
    (t_parts_of : K.lookup T_parts_of = some ⟨oT_parts_of, dT_parts_of, .seq ([.none] : List Value).toArray n_parts_of, sT_parts_of⟩)
    (a_groups_of : PySem.W.nsIn K mainGlobals "groups_of" = some (some (.ref f_groups_of)))
    (l_groups_of : K.lookup f_groups_of = some ⟨oc_groups_of, od_groups_of, .func (PySem.W.fnOf "groups_of" "groups_of" (defArgs s_groups_of) (defBody s_groups_of) (defScope s_groups_of) .none kV_groups_of dc_groups_of pm_groups_of an_groups_of cd_groups_of ct_groups_of), sl_groups_of⟩)
    (c_groups_of : PySem.W.codeIn K cd_groups_of "groups_of" = true)
    (k_groups_of : PySem.W.keepIn K (.ref f_groups_of) = true)
    (a_path_of : PySem.W.nsIn K mainGlobals "path_of" = some (some (.ref f_path_of)))
    (l_path_of : K.lookup f_path_of = some ⟨oc_path_of, od_path_of, .func (PySem.W.fnOf "path_of" "path_of" (defArgs s_path_of) (defBody s_path_of) (defScope s_path_of) .none kV_path_of dc_path_of pm_path_of an_path_of cd_path_of ct_path_of), sl_path_of⟩)
    (c_path_of : PySem.W.codeIn K cd_path_of "path_of" = true)
    (k_path_of : PySem.W.keepIn K (.ref f_path_of) = true)
    (z_all : PySem.W.nsIn K mainGlobals "all" = some none)
    (z_isinstance : PySem.W.nsIn K mainGlobals "isinstance" = some none)
    (z_len : PySem.W.nsIn K mainGlobals "len" = some none)
    (z_range : PySem.W.nsIn K mainGlobals "range" = some none)
    (z_repr : PySem.W.nsIn K mainGlobals "repr" = some none)
    (z_str : PySem.W.nsIn K mainGlobals "str" = some none)
    (z_tuple : PySem.W.nsIn K mainGlobals "tuple" = some none)
    (k : Nat) : ∃ fd : FuncData, (∀ (s : Shared) (u : Value), BindsTo s fd ⟨[u], []⟩ [("_law_script", u)]) ∧ ∃ cf cc : Nat → Addr, ∀ base : Heap, K.In base → base.Ns mainGlobals mg → FnG ⟨l.prog, w, K, mg, base, cf, cc⟩ (k + 1) fa fd ["_law_script"] (callN (k + 1) 0) := by
  have e := hfa.symm.trans (PySem.W.mg_of X G a_law)
  cases e
  refine ⟨PySem.W.fnOf "law" "law" (defArgs s_law) (defBody s_law) (defScope s_law) .none kV_law dc_law pm_law an_law cd_law ct_law, fun s v => .of_eq rfl, fun _ => 0, fun _ => 0, fun base hb hn => ?_⟩
  have D_law := def_mk (Γ := ⟨l.prog, w, K, mg, base, fun _ => 0, fun _ => 0⟩) X G a_law l_law c_law k_law
  have D__law_hand := def_mk (Γ := ⟨l.prog, w, K, mg, base, fun _ => 0, fun _ => 0⟩) X G a__law_hand l__law_hand c__law_hand k__law_hand
  have D__law_plan := def_mk (Γ := ⟨l.prog, w, K, mg, base, fun _ => 0, fun _ => 0⟩) X G a__law_plan l__law_plan c__law_plan k__law_plan
  have D__law_of := def_mk (Γ := ⟨l.prog, w, K, mg, base, fun _ => 0, fun _ => 0⟩) X G a__law_of l__law_of c__law_of k__law_of
  have D__law_pick := def_mk (Γ := ⟨l.prog, w, K, mg, base, fun _ => 0, fun _ => 0⟩) X G a__law_pick l__law_pick c__law_pick k__law_pick
  have D__law_group := def_mk (Γ := ⟨l.prog, w, K, mg, base, fun _ => 0, fun _ => 0⟩) X G a__law_group l__law_group c__law_group k__law_group
  have D__law_names := def_mk (Γ := ⟨l.prog, w, K, mg, base, fun _ => 0, fun _ => 0⟩) X G a__law_names l__law_names c__law_names k__law_names
  have D__law_sizes := def_mk (Γ := ⟨l.prog, w, K, mg, base, fun _ => 0, fun _ => 0⟩) X G a__law_sizes l__law_sizes c__law_sizes k__law_sizes
  have D__law_told := def_mk (Γ := ⟨l.prog, w, K, mg, base, fun _ => 0, fun _ => 0⟩) X G a__law_told l__law_told c__law_told k__law_told
  have D_hands_of := def_mk (Γ := ⟨l.prog, w, K, mg, base, fun _ => 0, fun _ => 0⟩) X G a_hands_of l_hands_of c_hands_of k_hands_of
  have D_parts_of := def_mkD (Γ := ⟨l.prog, w, K, mg, base, fun _ => 0, fun _ => 0⟩) (dvs := [V.non]) X G a_parts_of l_parts_of c_parts_of k_parts_of t_parts_of (.cons rfl (.nil)) (by decide)
  have D_groups_of := def_mk (Γ := ⟨l.prog, w, K, mg, base, fun _ => 0, fun _ => 0⟩) X G a_groups_of l_groups_of c_groups_of k_groups_of
  have D_path_of := def_mk (Γ := ⟨l.prog, w, K, mg, base, fun _ => 0, fun _ => 0⟩) X G a_path_of l_path_of c_path_of k_path_of
  exact fn_law ⟨PySem.W.mg_none_of X G z_all, PySem.W.mg_none_of X G z_isinstance, PySem.W.mg_none_of X G z_len, PySem.W.mg_none_of X G z_range, PySem.W.mg_none_of X G z_repr, PySem.W.mg_none_of X G z_str, PySem.W.mg_none_of X G z_tuple⟩ D_law D__law_hand D__law_plan D__law_of D__law_pick D__law_group D__law_names D__law_sizes D__law_told D_hands_of D_parts_of D_groups_of D_path_of k
end K04

set_option autoImplicit false
set_option maxRecDepth 100000
namespace K04
open PySem L2 Nl

/-! ### the names -/
def preS (s : Nat) : List Nat := (97 + s % 26) :: (if s / 26 = 0 then [] else if s / 26 = 1 then [113] else [120])
theorem pre_inj : ∀ a < 60, ∀ b < 60, preS a = preS b → a = b := by decide +kernel
def nameS (stem : Str) (s : Nat) : Str := ⟨(preS s).toArray ++ stem.cps⟩
theorem nameS_inj {stem : Str} {a b : Nat} (ha : a < 60) (hb : b < 60) (h : nameS stem a = nameS stem b) : a = b := by
  unfold nameS at h
  injection h with h
  have h2 := congrArg Array.toList h
  rw [Array.toList_append, Array.toList_append] at h2
  have h3 : preS a = preS b := List.append_cancel_right h2
  exact pre_inj a ha b hb h3
def spot (first step k : Nat) : Nat := (first + step * k) % 60
theorem spot_inj : ∀ st ∈ [1, 7, 11, 13, 59], ∀ i < 60, ∀ j < 60, (st * i) % 60 = (st * j) % 60 → i = j := by decide +kernel
theorem spot_inj2 {first step i j : Nat} (hs : step ∈ [1, 7, 11, 13, 59]) (hi : i < 60) (hj : j < 60) (h : spot first step i = spot first step j) : i = j := by
  refine spot_inj step hs i hi j hj ?_
  unfold spot at h
  omega
def names0 (stem : Str) (first step n : Nat) : List Str := (List.range n).map fun k => nameS stem (spot first step k)
theorem names0_nodup {stem : Str} {first step : Nat} (hs : step ∈ [1, 7, 11, 13, 59]) : (names0 stem first step 60).Nodup := by
  unfold names0 List.Nodup
  rw [List.pairwise_map]
  refine List.Pairwise.imp_of_mem ?_ List.nodup_range
  intro a b ha hb hab e
  rw [List.mem_range] at ha hb
  exact hab (spot_inj2 hs ha hb (nameS_inj (Nat.mod_lt _ (by decide)) (Nat.mod_lt _ (by decide)) e))
theorem nameS_ok {stem : Str} (h : ascii stem = true) (hl : stem.length ≤ 20) {s : Nat} : nmOk (nameS stem s) = true := by
  have h1 : ∀ c ∈ preS s, c < 128 := by
    intro c hc
    unfold preS at hc
    have := Nat.mod_lt s (show 26 > 0 by decide)
    split at hc
    · simp at hc; omega
    · split at hc <;> (simp at hc; omega)
  have h2 : (preS s).length ≤ 2 := by
    unfold preS
    split
    · simp
    · split <;> simp
  unfold nmOk nameS
  rw [Bool.and_eq_true, decide_eq_true_eq]
  constructor
  · unfold ascii at h ⊢
    rw [List.all_eq_true] at h ⊢
    intro c hc
    simp only [Array.toList_append, List.mem_append] at hc
    rcases hc with hc | hc
    · exact decide_eq_true (h1 c (by simpa using hc))
    · exact h c hc
  · show ((preS s).toArray ++ stem.cps).size ≤ 100
    rw [Array.size_append]
    have : stem.cps.size ≤ 20 := hl
    simp
    omega

/-! ### the machine: names -/
section
variable {C : Nat → Bf} {M : Mem} {h r : Nat}
theorem letters : ("abcdefghijklmnopqrstuvwxyz" : Str).cps.toList = (List.range 26).map (97 + ·) := by decide +kernel
theorem letters_len : ("abcdefghijklmnopqrstuvwxyz" : Str).length ≤ sizeLine := by decide +kernel
theorem stems : ("abdeghinoprstu" : Str).cps.toList ≠ [] ∧ ("abdeghinoprstu" : Str).length ≤ sizeLine ∧ ("abdeghinoprstu" : Str).cps.toList.all (fun c => decide (c < 128)) = true := by decide +kernel
theorem app_cps (x y : Str) : (x ++ y : Str) = ⟨x.cps ++ y.cps⟩ := rfl
theorem app_len (x y : Str) : (x ++ y : Str).length = x.length + y.length := by
  show (x.cps ++ y.cps).size = _
  rw [Array.size_append]; rfl
theorem join_facts : ∀ ys : List Str, (∀ y ∈ ys, ascii y = true ∧ y.length ≤ 1) → ascii (Str.join "" ys) = true ∧ (Str.join "" ys).length ≤ ys.length
  | [], _ => ⟨rfl, Nat.le_refl _⟩
  | [y], hy => by
    have := hy y List.mem_cons_self
    exact ⟨this.1, this.2⟩
  | y :: z :: ys, hy => by
    obtain ⟨h1, h2⟩ := hy y List.mem_cons_self
    obtain ⟨k1, k2⟩ := join_facts (z :: ys) fun x hx => hy x (List.mem_cons_of_mem _ hx)
    show ascii (y ++ "" ++ Str.join "" (z :: ys)) = true ∧ (y ++ "" ++ Str.join "" (z :: ys) : Str).length ≤ _
    have e0 : ("" : Str).length = 0 := rfl
    have e1 : ("" : Str).cps.toList = [] := rfl
    constructor
    · unfold ascii at h1 k1 ⊢
      rw [app_cps, app_cps]
      simp only [Array.toList_append, e1, List.append_nil, List.all_append, h1, k1, Bool.and_self]
    · rw [app_len, app_len, e0, List.length_cons]
      omega
abbrev rs : List Nat → Nat → List Nat := fun a b => a ++ [b]
theorem rng1_ok {m : Ev} {ρ : Rho} {M : Mem} {P : Wk → Mem → Prop} (hm : Ok (m ρ M) fun d M' => ∃ j : Int, d = .int j ∧ (-(2 ^ 62) ≤ j ∧ j < 2 ^ 62) ∧ P ⟨(List.range j.toNat).map fun i => .int (0 + (i : Nat)), []⟩ M') : Ok (wRng1 m ρ M) P := by
  unfold wRng1
  rw [ok_bnd]
  refine hm.mono fun d M' ⟨j, e, hj, hP⟩ => ?_
  subst e
  dsimp only
  rw [if_pos hj]
  exact ok_some.mpr hP
theorem rng_get {n i : Nat} {d : D} (hd : ((List.range n).map fun i => D.int (0 + (i : Nat)))[i]? = some d) : i < n ∧ d = .int i := by
  rw [List.getElem?_map] at hd
  obtain ⟨c, hc, rfl⟩ := Option.map_eq_some_iff.mp hd
  have hlt := (List.getElem?_eq_some_iff.mp hc).1
  rw [List.length_range] at hlt
  rw [List.getElem?_range hlt] at hc
  cases hc
  exact ⟨hlt, by rw [Int.zero_add]⟩
theorem stem_ok (hp : PickOk (C 4)) (ho : OfOk (C 3)) (H : HD M h r) {ρ : Rho} (h0 : ρ[0]? = some (some (.ref h))) (h3 : ρ.length = 8) :
    Ok (eMt "str" gJoin (eCon (.str "")) [eLc (wRng1 (eCallD (C 4) [eVar 0, eCon (.int 7)] [])) (gNm 3) (xYes) (eCallD (C 3) [eVar 0, eCon (.str "abdeghinoprstu")] []) [3]] ρ M) fun d M' => ∃ stem : Str, d = .str stem ∧ ascii stem = true ∧ stem.length ≤ 20 ∧ HD M' h r ∧ Fs [h, r] M M' := by
  rw [ok_mt, ok_con]
  refine ⟨rfl, ?_⟩
  rw [ok_args1, lc_ok]
  refine rng1_ok ?_
  simp only [ok_callD, ok_args1, ok_args0, ok_var, h0, Option.some.injEq, exists_eq_left', ok_con, List.append_nil]
  refine (hp.ok H (by decide) (by decide)).mono fun d M1 ⟨z, e, hz0, hz1, H1, F1⟩ => ⟨z, e, by omega, ?_⟩
  refine lc_go_ok (fun i ds M' => (∃ ys : List Str, ds = ys.map D.str ∧ (∀ y ∈ ys, ascii y = true ∧ y.length ≤ 1) ∧ ys.length ≤ i) ∧ HD M' h r ∧ Fs [h, r] M M') _ (fun i ds M' _ _ => rfl) ?_ ?_ ⟨⟨[], rfl, by simp, Nat.le_refl _⟩, H1, F1.fs (by simp) (by simp)⟩
  · rintro i d ds M2 hd ⟨⟨ys, rfl, hy, hl⟩, H2, F2⟩
    have h0' : ((wipeD ρ [3]).set 3 (some d))[0]? = some (some (.ref h)) := by
      rw [List.getElem?_set_ne (by decide)]
      show (ρ.set 3 none)[0]? = _
      rw [List.getElem?_set_ne (by decide)]; exact h0
    simp only [okg_nm, ok_xyes, if_true, ok_callD, ok_args1, ok_args0, ok_var, h0', Option.some.injEq, exists_eq_left', ok_con, List.append_nil]
    obtain ⟨s1, s2, s3⟩ := stems
    refine (ho.str H2 s1 s2).mono fun d M3 ⟨⟨c, hc, e⟩, H3, F3⟩ => ?_
    subst e
    refine ⟨⟨ys ++ [⟨#[c]⟩], by simp, ?_, by simp; omega⟩, H3, F2.trans (F3.fs (by simp) (by simp))⟩
    intro y hy'
    rcases List.mem_append.mp hy' with hy' | hy'
    · exact hy y hy'
    · rw [List.mem_singleton] at hy'
      subst hy'
      have := List.all_eq_true.mp s3 c hc
      exact ⟨by unfold ascii; simpa using this, Nat.le_of_eq rfl⟩
  · rintro ds M2 ⟨⟨ys, rfl, hy, hl⟩, H2, F2⟩
    rw [List.length_map, List.length_range] at hl
    have hl2 : ys.length ≤ 7 := by omega
    refine ⟨by simp; omega, ?_⟩
    obtain ⟨k1, k2⟩ := join_facts ys hy
    have e1 : strsOf (.ref M2.sz) (M2.new (.lst (ys.map D.str))) = some ys := by
      simp only [strsOf, Mem.get_new_same]
      have : ∀ ys : List Str, strsD (ys.map D.str) = some ys := fun ys => by
        induction ys with
        | nil => rfl
        | cons y ys ih => simp [strsD, ih]
      exact this ys
    have hsum : (ys.map (·.length)).sum ≤ ys.length := by
      clear k1 k2 e1 hl hl2
      induction ys with
      | nil => exact Nat.le_refl _
      | cons y ys ih =>
        have := ih fun x hx => hy x (List.mem_cons_of_mem _ hx)
        have := (hy y List.mem_cons_self).2
        simp only [List.map_cons, List.sum_cons, List.length_cons]
        omega
    simp only [gJoin, e1]
    rw [ok_if, if_pos (by have e0 : ("" : Str).length = 0 := rfl; rw [e0]; omega), ok_some]
    exact ⟨_, rfl, by rw [TL.join_eq]; exact k1, by rw [TL.join_eq]; omega, H2.new, F2.new⟩

/-- the letters of a spot, as the machine finds them -/
theorem sizes_step : ∀ st ∈ [1, 7, 11, 13, 59], st ≤ 59 := by decide
theorem ix_letter {M : Mem} {P : D → Mem → Prop} {s : Nat} (hs : s < 26) : Ok (gIx (.str "abcdefghijklmnopqrstuvwxyz") (.int s) M) P ↔ P (.str ⟨#[97 + s]⟩) M := by
  have e1 : atI ("abcdefghijklmnopqrstuvwxyz" : Str).cps.toList (s : Int) = some (97 + s) := by
    rw [letters, atI_nat (by omega) (by simp; omega)]
    simp [hs]
  simp only [gIx, letters_len, if_true, e1, Option.map_some, ok_some]
theorem ok_adds {M : Mem} {P : D → Mem → Prop} {x y : Str} (h : x.length + y.length ≤ 1000) : Ok (gAdd (.str x) (.str y) M) P ↔ P (.str (x ++ y)) M := by
  have : x.length + y.length ≤ sizeLine := by have := sizeLine_eq; omega
  simp only [gAdd, this, if_true, ok_some]
theorem nameS_eq (stem : Str) (s : Nat) : (⟨#[97 + s % 26]⟩ ++ (if s / 26 = 0 then ("" : Str) else if s / 26 = 1 then ("q" : Str) else ("x" : Str)) ++ stem : Str) = nameS stem s := by
  unfold nameS preS
  rw [app_cps, app_cps]
  congr 1
  congr 1
  split
  · rfl
  · split <;> rfl
def NmAt (M : Mem) (h r nm : Nat) (ds : List Str) : Prop := M.get nm = some (.lst (ds.map .str)) ∧ nm ≠ h ∧ nm ≠ r
def NamesOk (g : Bf) : Prop := ∀ {M : Mem} {h r : Nat}, HD M h r → Ok (g [.ref h] M) fun d M' => ∃ nm ds, d = .ref nm ∧ NmAt M' h r nm ds ∧ ds.length = 60 ∧ ds.Nodup ∧ (∀ x ∈ ds, nmOk x = true) ∧ M.sz ≤ nm ∧ HD M' h r ∧ Fs [h, r] M M'
theorem words_ok : ∀ w ∈ (["end", "hand", "group", "let", "program"] : List Str), nmOk w = true := by decide +kernel
theorem flat_names (x : Str) (ds : List Str) : inSeq (.str x) (ds.map .str) = some (decide (x ∈ ds)) := by
  unfold inSeq
  have h1 : (ds.map D.str).all flatD = true := by
    rw [List.all_map, List.all_eq_true]
    intro d _
    rfl
  rw [if_pos ⟨rfl, h1⟩]
  congr 1
  unfold inF
  rw [List.any_map]
  induction ds with
  | nil => simp
  | cons d ds ih =>
    have h2 : (ds.map D.str).all flatD = true := by
      rw [List.all_map, List.all_eq_true]
      intro d _
      rfl
    rw [List.any_cons, ih h2]
    simp only [Function.comp, eqF, List.mem_cons]
    by_cases e : x = d
    · subst e; simp
    · have e2 : (d == x) = false := by simpa using fun z => e z.symm
      rw [e2]; simp [e]
theorem nodup_set {α : Type} [DecidableEq α] : ∀ {xs : List α} {i : Nat} {x : α}, xs.Nodup → x ∉ xs → (xs.set i x).Nodup
  | [], _, _, h, _ => h
  | y :: ys, 0, x, h, hx => by
    rw [List.set_cons_zero, List.nodup_cons]
    rw [List.nodup_cons] at h
    exact ⟨fun m => hx (List.mem_cons_of_mem _ m), h.2⟩
  | y :: ys, i + 1, x, h, hx => by
    rw [List.set_cons_succ, List.nodup_cons]
    rw [List.nodup_cons] at h
    refine ⟨fun m => ?_, nodup_set h.2 fun m => hx (List.mem_cons_of_mem _ m)⟩
    rcases List.mem_or_eq_of_mem_set m with m | e
    · exact h.1 m
    · exact hx (by rw [e]; exact List.mem_cons_self)
theorem names_ok (hp : PickOk (C 4)) (ho : OfOk (C 3)) : NamesOk (bodyD (b__law_names C) 8) := by
  intro M h r H
  rw [ok_body]
  unfold b__law_names
  simp only [List.map_cons, List.map_nil, List.cons_append, List.nil_append]
  rw [ok_cons, ok_asg]
  refine (stem_ok hp ho H (by rfl) (by rfl)).mono fun d M1 ⟨stem, e, a1, a2, H1, F1⟩ => ?_
  subst e
  rw [okg_nm, behind_nx, ok_cons, ok_par, ok_callD]
  simp only [ok_args1, ok_args0, ok_var, ok_con, ok_callD, List.append_nil]
  refine ⟨_, rfl, ?_⟩
  refine (hp.ok H1 (by decide) (by decide)).mono fun d M2 ⟨z, e, z0, z1, H2, F2⟩ => ?_
  subst e
  refine ⟨_, rfl, ?_⟩
  simp only [ok_lst, ok_args1, ok_con, ok_args0]
  have L1 := H2.lt
  have L2 := H2.lt2
  refine (ho.lst (n := M2.sz) H2.new Mem.get_new_same (by omega) (by omega) (by simp) (by decide)).mono fun d M3 ⟨hd, H3, F3⟩ => ?_
  obtain ⟨st, hst, rfl⟩ : ∃ st : Nat, st ∈ [1, 7, 11, 13, 59] ∧ d = .int st := by
    simp only [List.mem_cons, List.not_mem_nil, or_false] at hd
    rcases hd with rfl | rfl | rfl | rfl | rfl
    · exact ⟨1, by decide, rfl⟩
    · exact ⟨7, by decide, rfl⟩
    · exact ⟨11, by decide, rfl⟩
    · exact ⟨13, by decide, rfl⟩
    · exact ⟨59, by decide, rfl⟩
  obtain ⟨fi, rfl⟩ := Int.eq_ofNat_of_zero_le z0
  have F13 : Fs [h, r] M M3 := ((F1.trans (F2.fs (by simp) (by simp))).new).trans (F3.fs (by simp) (by simp))
  have Lm := F13.le
  rw [behind_nx, ok_cons, ok_asg, ok_lst, ok_args0, okg_nm, behind_nx, ok_cons, ok_for]
  have L31 := H3.lt
  have L32 := H3.lt2
  generalize hnm : M3.sz = nm at *
  have nh : nm ≠ h := by omega
  have nr : nm ≠ r := by omega
  refine rng1_ok ?_
  rw [ok_con]
  refine ⟨60, rfl, by decide, ?_⟩
  refine for_ok (fun i ρ M' => (∃ x y, ρ = [some (.ref h), some (.str stem), some (.ref nm), x, none, some (.int fi), some (.int st), y]) ∧ NmAt M' h r nm (names0 stem fi st i) ∧ HD M' h r ∧ Fs [h, r] M M') _ (fun _ _ _ _ _ => rfl) ?_ ?_
    ⟨⟨none, none, rfl⟩, ⟨by subst hnm; exact Mem.get_new_same, nh, nr⟩, H3.new, F13.new⟩
  · rintro i d ρ M4 hd ⟨⟨x, y, rfl⟩, ⟨g4, _, _⟩, H4, F4⟩
    obtain ⟨hi, rfl⟩ := rng_get hd
    have hi : i < 60 := hi
    have hstl := sizes_step st hst
    have hs : spot fi st i < 60 := Nat.mod_lt _ (by decide)
    have e7 : ((fi : Int) + st * i) % 60 = (spot fi st i : Nat) := by unfold spot; omega
    simp only [okg_nm, List.set_cons_succ, List.set_cons_zero, ok_cons, ok_asg, ok_op, ok_var, ok_con, List.getElem?_cons_succ, List.getElem?_cons_zero, Option.some.injEq, exists_eq_left', ok_mul, ok_add, ok_mod]
    refine ⟨mulOk_l (by omega), by decide, ?_⟩
    rw [behind_nx, ok_cons, ok_ex, ok_mt]
    simp only [List.set_cons_succ, List.set_cons_zero, ok_var, List.getElem?_cons_succ, List.getElem?_cons_zero, Option.some.injEq, exists_eq_left', ok_args1, ok_op, ok_con, ok_mod]
    refine ⟨by simp [isTy, g4], by decide, ?_⟩
    rw [e7]
    have e8 : ((spot fi st i : Nat) : Int) % 26 = ((spot fi st i % 26 : Nat) : Int) := by omega
    rw [e8, ix_letter (Nat.mod_lt _ (by decide))]
    simp only [ok_lst, ok_args1, ok_args0, ok_con, ok_fdiv]
    refine ⟨by decide, ?_⟩
    have e9 : ((spot fi st i : Nat) : Int) / 26 = ((spot fi st i / 26 : Nat) : Int) := by omega
    rw [e9]
    have hq : spot fi st i / 26 ≤ 2 := by omega
    have e10 : atI [D.str "", D.str "q", D.str "x"] ((spot fi st i / 26 : Nat) : Int) = some (.str (if spot fi st i / 26 = 0 then ("" : Str) else if spot fi st i / 26 = 1 then ("q" : Str) else ("x" : Str))) := by
      generalize spot fi st i / 26 = q at hq
      rcases (by omega : q = 0 ∨ q = 1 ∨ q = 2) with rfl | rfl | rfl
      · exact atI_0
      · exact atI_1
      · exact atI_2
    rw [ix_lst Mem.get_new_same e10]
    have l1 : ∀ c : Nat, (⟨#[c]⟩ : Str).length = 1 := fun _ => rfl
    have l2 : (if spot fi st i / 26 = 0 then ("" : Str) else if spot fi st i / 26 = 1 then ("q" : Str) else ("x" : Str)).length ≤ 1 := by
      split
      · decide
      · split <;> decide
    rw [ok_adds (by rw [l1]; omega), ok_adds (by rw [app_len, l1]; omega), nameS_eq]
    have L4 := Mem.get_lt g4
    have gN : (M4.new (.lst [.str "", .str "q", .str "x"])).get nm = some (.lst ((names0 stem fi st i).map .str)) := (Mem.get_new_lt L4).trans g4
    simp only [gApp, gN]
    have hlen : (names0 stem fi st i).length = i := by unfold names0; simp
    rw [ok_if, if_pos (by simp [hlen]; omega), ok_some, behind_nx, ok_nil, turned_nx]
    have e11 : (names0 stem fi st i).map D.str ++ [D.str (nameS stem (spot fi st i))] = (names0 stem fi st (i + 1)).map D.str := by
      unfold names0
      rw [List.range_succ, List.map_append, List.map_append]
      rfl
    rw [e11]
    refine ⟨⟨_, _, rfl⟩, ⟨Mem.get_put_same (by rw [Mem.sz_new]; omega), nh, nr⟩, H4.new.put nh nr, F4.new.put (.inr (by omega))⟩
  · rintro ρ M4 ⟨⟨x, y, rfl⟩, ⟨g4, _, _⟩, H4, F4⟩
    simp only [List.length_map, List.length_range] at g4
    rw [behind_nx, ok_cons, ok_for]
    have eW : Ok (wSeq (eTup [eCon (.str "end"), eCon (.str "hand"), eCon (.str "group"), eCon (.str "let"), eCon (.str "program")]) [some (.ref h), some (.str stem), some (.ref nm), x, none, some (.int fi), some (.int st), y] M4) fun k M' => k = ⟨(["end", "hand", "group", "let", "program"] : List Str).map D.str, []⟩ ∧ M' = M4 := by
      unfold wSeq
      rw [ok_bnd]
      simp only [ok_tup, ok_args1, ok_args0, ok_con, ok_some]
      exact ⟨rfl, trivial⟩
    refine eW.mono fun k M' ⟨e1, e2⟩ => ?_
    subst e1 e2
    refine for_ok (fun i ρ M' => (∃ u v, ρ = [some (.ref h), some (.str stem), some (.ref nm), x, u, some (.int fi), some (.int st), v]) ∧ (∃ ds, NmAt M' h r nm ds ∧ ds.length = 60 ∧ ds.Nodup ∧ ∀ x ∈ ds, nmOk x = true) ∧ HD M' h r ∧ Fs [h, r] M M') _ (fun _ _ _ _ _ => rfl) ?_ ?_
      ⟨⟨_, _, rfl⟩, ⟨_, ⟨g4, nh, nr⟩, by unfold names0; simp, names0_nodup hst, fun w hw => by
        unfold names0 at hw
        obtain ⟨k, _, rfl⟩ := List.mem_map.mp hw
        exact nameS_ok a1 a2⟩, H4, F4⟩
    · rintro i d ρ M5 hd ⟨⟨u, v, rfl⟩, ⟨ds, ⟨g5, _, _⟩, k1, k2, k3⟩, H5, F5⟩
      rw [List.getElem?_map] at hd
      obtain ⟨w, hw, rfl⟩ := Option.map_eq_some_iff.mp hd
      have hww := List.mem_of_getElem? hw
      rw [okg_nm, ok_cons, ok_sif, ok_xand]
      simp only [List.set_cons_succ, List.set_cons_zero, ok_xval, ok_op, ok_callD, ok_args1, ok_args0, ok_var, ok_con, List.getElem?_cons_succ, List.getElem?_cons_zero, Option.some.injEq, exists_eq_left', List.append_nil]
      refine (hp.ok H5 (by decide) (by decide)).mono fun d M6 ⟨z6, e, _, _, H6, F6⟩ => ?_
      subst e
      have F56 : Fs [h, r] M M6 := F5.trans (F6.fs (by simp) (by simp))
      have g6 : M6.get nm = some (.lst (ds.map .str)) := (F6.eq nm (Mem.get_lt g5) nh nr).trans g5
      simp only [ok_eqi, truth, Option.some.injEq, exists_eq_left']
      have same : turned (fun ρ M' => (∃ u v, ρ = [some (.ref h), some (.str stem), some (.ref nm), x, u, some (.int fi), some (.int st), v]) ∧ (∃ ds, NmAt M' h r nm ds ∧ ds.length = 60 ∧ ds.Nodup ∧ ∀ x ∈ ds, nmOk x = true) ∧ HD M' h r ∧ Fs [h, r] M M') (behind (sCons (sRet (eVar 2)) sNil) (ends fun d M' => ∃ nm ds, d = .ref nm ∧ NmAt M' h r nm ds ∧ ds.length = 60 ∧ ds.Nodup ∧ (∀ x ∈ ds, nmOk x = true) ∧ M.sz ≤ nm ∧ HD M' h r ∧ Fs [h, r] M M')) (.nx [some (.ref h), some (.str stem), some (.ref nm), x, some (.str w), some (.int fi), some (.int st), v]) M6 :=
        ⟨⟨_, _, rfl⟩, ⟨ds, ⟨g6, nh, nr⟩, k1, k2, k3⟩, H6, F56⟩
      split
      · have e12 : gNotIn (.str w) (.ref nm) M6 = some (.bl (!decide (w ∈ ds)), M6) := by
          simp only [gNotIn, inD, g6, flat_names]
          rfl
        rw [e12, ok_some]
        simp only [truth, Option.some.injEq, exists_eq_left']
        split
        · rename_i hn
          have hn : w ∉ ds := by simpa using hn
          rw [ok_cons, ok_asg, ok_var]
          refine ⟨_, rfl, ?_⟩
          rw [okg_sb, ok_var]
          refine ⟨_, rfl, ?_⟩
          simp only [ok_callD, ok_args1, ok_args0, ok_var, ok_con, List.getElem?_cons_succ, List.getElem?_cons_zero, Option.some.injEq, exists_eq_left', List.append_nil]
          refine (hp.ok H6 (by decide) (by decide)).mono fun d M7 ⟨z7, e, p0, p1, H7, F7⟩ => ?_
          subst e
          have g7 : M7.get nm = some (.lst (ds.map .str)) := (F7.eq nm (Mem.get_lt g6) nh nr).trans g6
          refine ⟨M7.put nm (.lst ((ds.map D.str).set z7.toNat (.str w))), ?_, ?_⟩
          · simp only [gSet, g7]
            have : ixN (ds.map D.str).length z7 = some z7.toNat := by
              unfold ixN
              rw [if_pos p0, if_pos (by rw [List.length_map, k1]; exact p1)]
            rw [this]
            rfl
          · rw [behind_nx, ok_nil, behind_nx, ok_nil]
            have e13 : (ds.map D.str).set z7.toNat (.str w) = (ds.set z7.toNat w).map .str := by rw [List.map_set]
            rw [e13]
            refine ⟨⟨_, _, rfl⟩, ⟨ds.set z7.toNat w, ⟨Mem.get_put_same (Mem.get_lt g7), nh, nr⟩, by rw [List.length_set]; exact k1, nodup_set k2 hn, fun x hx => ?_⟩, H7.put nh nr, (F56.trans (F7.fs (by simp) (by simp))).put (.inr (by omega))⟩
            rcases List.mem_or_eq_of_mem_set hx with hx | e
            · exact k3 x hx
            · rw [e]; exact words_ok w hww
        · rw [ok_nil, behind_nx, ok_nil]
          exact same
      · simp only [Bool.false_eq_true, if_false]
        rw [ok_nil, behind_nx, ok_nil]
        exact same
    · rintro ρ M5 ⟨⟨u, v, rfl⟩, ⟨ds, n5, k1, k2, k3⟩, H5, F5⟩
      rw [behind_nx, ok_cons, ok_ret, ok_var]
      exact ⟨_, rfl, nm, ds, rfl, n5, k1, k2, k3, by omega, H5, F5⟩

/-! ### a group -/
/-- so many names a member takes at most -/
def cm (w : Nat) : Nat → Nat
  | 0 => 1
  | d + 1 => 1 + w * cm w d
theorem cm_pos (w : Nat) : ∀ d, 1 ≤ cm w d
  | 0 => Nat.le_refl _
  | d + 1 => Nat.le_add_right _ _
theorem NmAt.keep {M M' : Mem} {h r nm : Nat} {ds : List Str} (a : NmAt M h r nm ds) (F : Fs [h, r] M M') : NmAt M' h r nm ds := ⟨(F.eq nm (Mem.get_lt a.1) (by simp [a.2.1, a.2.2])).trans a.1, a.2⟩
theorem NmAt.new {M : Mem} {h r nm : Nat} {ds : List Str} {o : O} (a : NmAt M h r nm ds) : NmAt (M.new o) h r nm ds := ⟨(Mem.get_new_lt (Mem.get_lt a.1)).trans a.1, a.2⟩
theorem NmAt.put {M : Mem} {h r nm n : Nat} {ds : List Str} {o : O} (a : NmAt M h r nm ds) (hn : n ≠ nm) : NmAt (M.put n o) h r nm ds := ⟨(Mem.get_put_ne hn).trans a.1, a.2⟩
/-- names.pop() -/
theorem pop_ok {nm : Nat} {ds : List Str} {P : D → Mem → Prop} (a : NmAt M h r nm ds) (hne : ds ≠ []) (k : NmAt (M.put nm (.lst (ds.dropLast.map .str))) h r nm ds.dropLast → P (.str (ds.getLast hne)) (M.put nm (.lst (ds.dropLast.map .str)))) : Ok (gPop (.ref nm) [] M) P := by
  have hpos := List.length_pos_iff.mpr hne
  have e1 : (ds.map D.str)[(ds.map D.str).length - 1]? = some (.str (ds.getLast hne)) := by
    rw [List.length_map, List.getElem?_map, List.getLast_eq_getElem, List.getElem?_eq_getElem (by omega)]
    rfl
  have e2 : (ds.map D.str).dropLast = ds.dropLast.map D.str := by rw [List.map_dropLast]
  simp only [gPop, a.1, e1, ok_some]
  rw [e2]
  exact k ⟨Mem.get_put_same (Mem.get_lt a.1), a.2⟩
def GroupOk (g : Bf) (deep : Nat) : Prop := ∀ {M : Mem} {h r nm : Nat} {ds : List Str} {wide : Nat}, HD M h r → NmAt M h r nm ds → 1 ≤ wide → wide ≤ 1000 → cm wide (deep + 1) ≤ ds.length → ds.length ≤ 60 → (∀ x ∈ ds, nmOk x = true) →
  Ok (g [.ref h, .ref nm, .int (deep : Nat), .int (wide : Nat)] M) fun d M' => ∃ n b ms rest used, d = T.d (.grp n b ms) ∧ (T.grp n b ms).ok = true ∧ ds = rest ++ used ∧ (T.grp n b ms).ns.Perm used ∧ used.length ≤ cm wide (deep + 1) ∧ (T.grp n b ms).dp ≤ deep + 1 ∧ HD M' h r ∧ NmAt M' h r nm rest ∧ Fs [h, r, nm] M M'
theorem bound_ok (hp : PickOk (C 4)) (ho : OfOk (C 3)) (H : HD M h r) {ρ : Rho} (h0 : ρ[0]? = some (some (.ref h))) :
    Ok (eCallD (C 3) [eVar 0, eLst [eCon (.int 1), eCon (.int 1), eCon (.int 2), eCon (.int 3), eOp gAdd (eCon (.int 1)) (eCallD (C 4) [eVar 0, eCon (.int 40)] []), eCon (.int 99999999)]] [] ρ M) fun d M' => ∃ b : Int, d = .int b ∧ (-999999999999 ≤ b ∧ b ≤ 999999999999) ∧ HD M' h r ∧ Fs [h, r] M M' := by
  simp only [ok_callD, ok_args1, ok_args0, ok_var, h0, Option.some.injEq, exists_eq_left', ok_con, ok_lst, ok_op, List.append_nil]
  refine (hp.ok H (by decide) (by decide)).mono fun d M1 ⟨z, e, z0, z1, H1, F1⟩ => ?_
  subst e
  simp only [ok_add]
  have L1 := H1.lt
  have L2 := H1.lt2
  refine (ho.lst (n := M1.sz) H1.new Mem.get_new_same (by omega) (by omega) (by simp) (by simp)).mono fun d M2 ⟨hd, H2, F2⟩ => ?_
  have : ∃ b : Int, d = .int b ∧ (-999999999999 ≤ b ∧ b ≤ 999999999999) := by
    simp only [List.mem_cons, List.not_mem_nil, or_false] at hd
    rcases hd with rfl | rfl | rfl | rfl | rfl | rfl
    · exact ⟨_, rfl, by decide, by decide⟩
    · exact ⟨_, rfl, by decide, by decide⟩
    · exact ⟨_, rfl, by decide, by decide⟩
    · exact ⟨_, rfl, by decide, by decide⟩
    · exact ⟨_, rfl, by omega, by omega⟩
    · exact ⟨_, rfl, by decide, by decide⟩
  obtain ⟨b, e, hb⟩ := this
  exact ⟨b, e, hb, H2, ((F1.fs (by simp) (by simp)).new).trans (F2.fs (by simp) (by simp))⟩
/-- what holds behind i members -/
structure Half (M0 M : Mem) (h r nm mb : Nat) (ds : List Str) (c i deep : Nat) (ts : List T) (rest used : List Str) : Prop where
  mem : M.get mb = some (.lst (T.ds ts))
  oks : T.oks ts = true
  cut : ds = rest ++ used
  perm : (T.nss ts).Perm used
  few : used.length ≤ i * c
  dp : T.dps ts ≤ deep
  tl : ts.length ≤ i
  hd : HD M h r
  nms : NmAt M h r nm rest
  fr : Fs [h, r, nm] M0 M
  out : M0.sz ≤ mb
/-- one more member -/
theorem Half.more {M0 M1 M2 : Mem} {h r nm mb : Nat} {ds : List Str} {c i deep : Nat} {ts : List T} {rest used rest2 used2 : List Str} (a : Half M0 M1 h r nm mb ds c i deep ts rest used) (hlt : nm < M0.sz) (hh : h < M0.sz) (hr : r < M0.sz) (t : T) (ht : t.ok = true) (hd : t.dp ≤ deep) (hc : rest = rest2 ++ used2) (hp : t.ns.Perm used2) (hu : used2.length ≤ c)
    (H2 : HD M2 h r) (N2 : NmAt M2 h r nm rest2) (F2 : Fs [h, r, nm] M1 M2) : M2.get mb = some (.lst (T.ds ts)) ∧ Half M0 (M2.put mb (.lst (T.ds ts ++ [t.d]))) h r nm mb ds c (i + 1) deep (ts ++ [t]) rest2 (used2 ++ used) := by
  have ho := a.out
  have g2 : M2.get mb = some (.lst (T.ds ts)) := (F2.eq mb (Mem.get_lt a.mem) (by simp; omega)).trans a.mem
  refine ⟨g2, ?_, ?_, ?_, ?_, ?_, ?_, ?_, ?_, ?_, ?_, a.out⟩
  · rw [T.ds_app]
    exact Mem.get_put_same (Mem.get_lt g2)
  · rw [T.oks_app, a.oks, T.oks, ht]; rfl
  · rw [a.cut, hc, List.append_assoc]
  · rw [T.nss_app]
    simp only [T.nss, List.append_nil]
    exact List.perm_append_comm.trans (hp.append a.perm)
  · rw [List.length_append, Nat.succ_mul]
    have := a.few
    omega
  · rw [T.dps_app]
    have := a.dp
    simp only [T.dps]
    omega
  · rw [List.length_append]
    have := a.tl
    simp only [List.length_cons, List.length_nil]
    omega
  · exact H2.put (by omega) (by omega)
  · exact N2.put (by omega)
  · exact (a.fr.trans F2).put (.inr a.out)
theorem ok_app {mb : Nat} {xs : List D} {x : D} {P : D → Mem → Prop} (g : M.get mb = some (.lst xs)) (hl : xs.length < 1000000) : Ok (gApp (.ref mb) [x] M) P ↔ P .non (M.put mb (.lst (xs ++ [x]))) := by
  simp only [gApp, g, hl, if_true, ok_some]
theorem T.ds_len (ts : List T) : (T.ds ts).length = ts.length := by rw [T.ds_map, List.length_map]
theorem group_ok {deep : Nat} (hp : PickOk (C 4)) (ho : OfOk (C 3)) (ih : ∀ d, deep = d + 1 → GroupOk (C 5) d) : GroupOk (bodyD (b__law_group C) 8) deep := by
  intro M h r nm ds wide H N hw1 hw2 hc hl hok
  have hcm : cm wide (deep + 1) = 1 + wide * cm wide deep := rfl
  have hne : ds ≠ [] := List.length_pos_iff.mp (by omega)
  rw [ok_body]
  unfold b__law_group
  simp only [List.map_cons, List.map_nil, List.cons_append, List.nil_append]
  rw [ok_cons, ok_asg]
  refine (bound_ok hp ho H (by rfl)).mono fun d M1 ⟨b, e, hb, H1, F1⟩ => ?_
  subst e
  have N1 := N.keep F1
  rw [okg_nm, behind_nx, ok_cons, ok_par, ok_mt, ok_var]
  refine ⟨_, rfl, by simp [isTy, N1.1], ?_⟩
  rw [ok_args0]
  refine pop_ok N1 hne fun N2 => ?_
  rw [ok_lst, ok_args0, behind_nx, ok_cons, ok_for]
  have Ln := Mem.get_lt N1.1
  have F2 : Fs [h, r, nm] M (M1.put nm (.lst (ds.dropLast.map .str))) := (F1.more (by intro n _ hn; simp at hn ⊢; omega)).put (.inl (by simp))
  have H2 : HD (M1.put nm (.lst (ds.dropLast.map .str))) h r := H1.put N1.2.1 N1.2.2
  generalize hM2 : M1.put nm (.lst (ds.dropLast.map .str)) = M2 at *
  have Lh := H.lt
  have Lr := H.lt2
  have Lnm := Mem.get_lt N.1
  have L2 := F2.le
  generalize hmb : M2.sz = mb at *
  have H3 : HD (M2.new (.lst [])) h r := H2.new
  have N3 : NmAt (M2.new (.lst [])) h r nm ds.dropLast := N2.new
  have hd1 : ds.dropLast ++ [ds.getLast hne] = ds := List.dropLast_concat_getLast hne
  have hl1 : ds.dropLast.length = ds.length - 1 := List.length_dropLast
  refine rng1_ok ?_
  simp only [List.set_cons_succ, List.set_cons_zero, ok_op, ok_con, ok_callD, ok_args1, ok_args0, ok_var, List.getElem?_cons_succ, List.getElem?_cons_zero, Option.some.injEq, exists_eq_left', List.append_nil]
  refine (hp.ok H3 (by omega) (by omega)).mono fun d M4 ⟨z, e, z0, z1, H4, F4⟩ => ?_
  subst e
  rw [ok_add]
  refine ⟨1 + z, rfl, by omega, ?_⟩
  have F4' : Fs [h, r, nm] M M4 := F2.new.trans (F4.fs (by simp) (by simp))
  have N4 : NmAt M4 h r nm ds.dropLast := N3.keep (F4.fs (by simp) (by simp))
  have g4 : M4.get mb = some (.lst []) := by
    rw [F4.eq mb (by rw [Mem.sz_new]; omega) (by omega) (by omega), ← hmb]
    exact Mem.get_new_same
  have hz : (1 + z).toNat ≤ wide := by omega
  refine for_ok (fun i ρ M' => (∃ x, ρ = [some (.ref h), some (.ref nm), some (.int (deep : Nat)), some (.int (wide : Nat)), some (.int b), x, some (.str (ds.getLast hne)), some (.ref mb)]) ∧ ∃ ts rest used, Half M M' h r nm mb ds.dropLast (cm wide deep) i deep ts rest used) _ (fun _ _ _ _ _ => rfl) ?_ ?_
    ⟨⟨_, rfl⟩, [], ds.dropLast, [], g4, rfl, by rw [List.append_nil], .nil, by simp, Nat.zero_le _, Nat.le_refl _, H4, N4, F4', by omega⟩
  · rintro i d ρ M5 hd ⟨⟨x, rfl⟩, ts, rest, used, a⟩
    obtain ⟨hi, rfl⟩ := rng_get hd
    have hrest : cm wide deep ≤ rest.length := by
      have h1 := congrArg List.length a.cut
      rw [List.length_append] at h1
      have h2 := a.few
      have h3 : (i + 1) * cm wide deep ≤ wide * cm wide deep := Nat.mul_le_mul_right _ (by omega)
      rw [Nat.succ_mul] at h3
      omega
    have hrne : rest ≠ [] := List.length_pos_iff.mp (by have := cm_pos wide deep; omega)
    have hrok : ∀ x ∈ rest, nmOk x = true := fun x hx => hok x (by rw [← hd1]; exact List.mem_append_left _ (by rw [a.cut]; exact List.mem_append_left _ hx))
    have tl := a.tl
    have hlong : (T.ds ts).length < 1000000 := by rw [T.ds_len]; omega
    -- a hand
    have hand : ∀ {M6 : Mem} {G : Fl → Mem → Prop} {k : D}, Half M M6 h r nm mb ds.dropLast (cm wide deep) i deep ts rest used → (∀ M7 ts' rest' used', Half M M7 h r nm mb ds.dropLast (cm wide deep) (i + 1) deep ts' rest' used' → G (.nx [some (.ref h), some (.ref nm), some (.int (deep : Nat)), some (.int (wide : Nat)), some (.int b), some k, some (.str (ds.getLast hne)), some (.ref mb)]) M7) →
        Ok (sCons (sEx (eMt "list" gApp (eVar 7) [eMt "list" gPop (eVar 1) []])) sNil [some (.ref h), some (.ref nm), some (.int (deep : Nat)), some (.int (wide : Nat)), some (.int b), some k, some (.str (ds.getLast hne)), some (.ref mb)] M6) G := by
      intro M6 G k a6 hG
      rw [ok_cons, ok_ex, ok_mt, ok_var]
      refine ⟨_, rfl, by simp [isTy, a6.mem], ?_⟩
      rw [ok_args1, ok_mt, ok_var]
      refine ⟨_, rfl, by simp [isTy, a6.nms.1], ?_⟩
      rw [ok_args0]
      refine pop_ok a6.nms hrne fun N7 => ?_
      rw [ok_args0]
      have N7' := N7
      have dl : rest.dropLast ++ [rest.getLast hrne] = rest := List.dropLast_concat_getLast hrne
      obtain ⟨g7, a7⟩ := a6.more Lnm Lh Lr (.hand (rest.getLast hrne)) (hrok _ (List.getLast_mem hrne)) (Nat.zero_le _) dl.symm (List.Perm.refl _) (cm_pos _ _) (a6.hd.put a6.nms.2.1 a6.nms.2.2) N7' (Fs.refl.put (.inl (by simp)))
      rw [ok_app g7 hlong, behind_nx, ok_nil]
      exact hG _ _ _ _ a7
    rw [okg_nm, ok_cons, ok_sif, ok_xand]
    simp only [List.set_cons_succ, List.set_cons_zero, ok_xval, ok_op, ok_var, ok_con, List.getElem?_cons_succ, List.getElem?_cons_zero, Option.some.injEq, exists_eq_left', ok_gti, truth]
    cases deep with
    | zero =>
      have hz0 : decide ((0 : Int) < ((0 : Nat) : Int)) = false := by decide
      simp only [hz0, Bool.false_eq_true, if_false]
      refine hand a fun M7 ts' rest' used' a' => ?_
      rw [behind_nx, ok_nil]
      exact ⟨⟨_, rfl⟩, ts', rest', used', a'⟩
    | succ dd =>
      have hpos : decide ((0 : Int) < ((dd + 1 : Nat) : Int)) = true := decide_eq_true (by omega)
      simp only [hpos, if_true, ok_callD, ok_args1, ok_args0, ok_var, ok_con, List.getElem?_cons_succ, List.getElem?_cons_zero, Option.some.injEq, exists_eq_left', List.append_nil]
      refine (hp.ok a.hd (by decide) (by decide)).mono fun d M6 ⟨y, e, y0, y1, H6, F6⟩ => ?_
      subst e
      simp only [ok_gti, truth, Option.some.injEq, exists_eq_left']
      have F6' : Fs [h, r] M5 M6 := F6.fs (by simp) (by simp)
      have ho := a.out
      have a6 : Half M M6 h r nm mb ds.dropLast (cm wide (dd + 1)) i (dd + 1) ts rest used := { a with mem := (F6'.eq mb (Mem.get_lt a.mem) (by simp; omega)).trans a.mem, hd := H6, nms := a.nms.keep F6', fr := a.fr.trans (F6'.more (by intro n _ hn; simp at hn ⊢; omega)) }
      split
      · rw [ok_cons, ok_ex, ok_mt, ok_var]
        refine ⟨_, rfl, by simp [isTy, a6.mem], ?_⟩
        simp only [ok_args1, ok_args0, ok_callD, ok_op, ok_var, ok_con, List.getElem?_cons_succ, List.getElem?_cons_zero, Option.some.injEq, exists_eq_left', List.append_nil, ok_sub]
        have e1 : ((dd + 1 : Nat) : Int) - 1 = (dd : Nat) := by omega
        rw [e1]
        have hl2 : rest.length ≤ 60 := by
          have h1 := congrArg List.length a.cut
          rw [List.length_append] at h1
          omega
        refine (ih dd rfl a6.hd a6.nms hw1 hw2 hrest hl2 hrok).mono fun d M7 ⟨n, b2, ms, rest2, used2, e, q1, q2, q3, q4, q5, H7, N7, F7⟩ => ?_
        subst e
        obtain ⟨g7, a7⟩ := a6.more Lnm Lh Lr (.grp n b2 ms) q1 q5 q2 q3 q4 H7 N7 F7
        rw [ok_app g7 hlong, behind_nx, ok_nil, behind_nx, ok_nil]
        exact ⟨⟨_, rfl⟩, _, _, _, a7⟩
      · refine hand a6 fun M7 ts' rest' used' a' => ?_
        rw [behind_nx, ok_nil]
        exact ⟨⟨_, rfl⟩, ts', rest', used', a'⟩
  · rintro ρ M5 ⟨⟨x, rfl⟩, ts, rest, used, a⟩
    rw [behind_nx, ok_cons, ok_ret, ok_tup]
    simp only [ok_args1, ok_args0, ok_call, ok_var, List.getElem?_cons_succ, List.getElem?_cons_zero, Option.some.injEq, exists_eq_left']
    have eT : gTuple [.ref mb] M5 = some (.tup (T.ds ts), M5) := by
      simp only [gTuple, lstOf, a.mem]
    rw [eT, ok_some, behind_rt, ends_rt]
    have hn : nmOk (ds.getLast hne) = true := hok _ (List.getLast_mem hne)
    refine ⟨ds.getLast hne, b, ts, rest, used ++ [ds.getLast hne], rfl, ?_, ?_, ?_, ?_, ?_, a.hd, a.nms, a.fr⟩
    · simp only [T.ok, hn, a.oks, hb.1, hb.2, decide_true, Bool.and_self]
    · rw [← List.append_assoc, ← a.cut, hd1]
    · rw [T.ns]
      exact (List.perm_append_singleton _ _).symm.trans (List.Perm.append_right _ a.perm) |>.trans (List.Perm.refl _)
    · rw [List.length_append]
      have h1 := a.few
      rw [List.length_map, List.length_range] at h1
      have h3 : (1 + z).toNat * cm wide deep ≤ wide * cm wide deep := Nat.mul_le_mul_right _ hz
      simp only [List.length_cons, List.length_nil]
      omega
    · rw [T.dp]
      have := a.dp
      omega

/-! ### a plan -/
def PlanOk (g : Bf) : Prop := ∀ {M : Mem} {h r n : Nat}, HD M h r → M.get n = some (.lst [.tup [.int 2, .int 3], .tup [.int 3, .int 2], .tup [.int 1, .int 5], .tup [.int 7, .int 1], .tup [.int 0, .int 39], .tup [.int 0, .int 2]]) → n ≠ h → n ≠ r →
  Ok (g [.ref h, .ref n] M) fun d M' => ∃ nm b ms, d = T.d (.grp nm b ms) ∧ (T.grp nm b ms).ok = true ∧ (T.grp nm b ms).ns.Nodup ∧ (T.grp nm b ms).sz ≤ 60 ∧ (T.grp nm b ms).dp ≤ 8 ∧ HD M' h r
theorem cm_rows : cm 3 3 ≤ 60 ∧ cm 2 4 ≤ 60 ∧ cm 5 2 ≤ 60 ∧ cm 1 8 ≤ 60 ∧ cm 39 1 ≤ 60 ∧ cm 2 1 ≤ 60 := by decide
theorem plan_ok (ho : OfOk (C 3)) (hn : NamesOk (C 6)) (hg : ∀ d, d ≤ 7 → GroupOk (C 5) d) : PlanOk (bodyD (b__law_plan C) 4) := by
  intro M h r n H g n1 n2
  rw [ok_body]
  unfold b__law_plan
  simp only [List.map_cons, List.map_nil, List.cons_append, List.nil_append]
  rw [ok_cons, ok_asg]
  simp only [ok_callD, ok_args1, ok_args0, ok_var, List.getElem?_cons_succ, List.getElem?_cons_zero, Option.some.injEq, exists_eq_left', List.append_nil]
  refine (ho.lst H g n1 n2 (by simp) (by simp)).mono fun d M1 ⟨hd, H1, F1⟩ => ?_
  have : ∃ dp wd : Nat, d = .tup [.int (dp : Nat), .int (wd : Nat)] ∧ dp ≤ 7 ∧ 1 ≤ wd ∧ wd ≤ 1000 ∧ cm wd (dp + 1) ≤ 60 := by
    simp only [List.mem_cons, List.not_mem_nil, or_false] at hd
    obtain ⟨c1, c2, c3, c4, c5, c6⟩ := cm_rows
    rcases hd with rfl | rfl | rfl | rfl | rfl | rfl
    · exact ⟨2, 3, rfl, by decide, by decide, by decide, c1⟩
    · exact ⟨3, 2, rfl, by decide, by decide, by decide, c2⟩
    · exact ⟨1, 5, rfl, by decide, by decide, by decide, c3⟩
    · exact ⟨7, 1, rfl, by decide, by decide, by decide, c4⟩
    · exact ⟨0, 39, rfl, by decide, by decide, by decide, c5⟩
    · exact ⟨0, 2, rfl, by decide, by decide, by decide, c6⟩
  obtain ⟨dp, wd, rfl, e1, e2, e3, e4⟩ := this
  rw [okg_tp2, behind_nx, ok_cons, ok_ret]
  simp only [List.set_cons_succ, List.set_cons_zero, ok_callD, ok_args1, ok_args0, ok_var, List.getElem?_cons_succ, List.getElem?_cons_zero, Option.some.injEq, exists_eq_left', List.append_nil]
  refine (hn H1).mono fun d M2 ⟨nm, ds, e, N2, l60, nd, hok, _, H2, F2⟩ => ?_
  subst e
  refine ⟨_, rfl, _, rfl, ?_⟩
  refine (hg dp e1 H2 N2 e2 e3 (by omega) (by omega) hok).mono fun d M3 ⟨n3, b, ms, rest, used, e, q1, q2, q3, q4, q5, H3, _, _⟩ => ?_
  subst e
  rw [behind_rt, ends_rt]
  have hu : used.Nodup := by
    rw [q2] at nd
    exact (List.nodup_append.mp nd).2.1
  refine ⟨n3, b, ms, rfl, q1, q3.nodup_iff.mpr hu, ?_, by omega, H3⟩
  rw [← T.ns_len, q3.length_eq]
  have := congrArg List.length q2
  rw [List.length_append] at this
  omega

/-! ### the program: rows of a plan -/
def oD : Option Str → D
  | none => .non
  | some x => .str x
def oI : Option Int → D
  | none => .non
  | some x => .int x
def rowD (x : Str × Option Str × Option Int) : D := .tup [.str x.1, oD x.2.1, oI x.2.2]
def PartsOk (g : Bf) (k : Nat) : Prop := ∀ {M : Mem} {nm : Str} {b : Int} {ms : List T} {ar : Option Str}, (T.grp nm b ms).dp ≤ k → (T.grp nm b ms).sz ≤ 1000 →
  Ok (g [T.d (.grp nm b ms), oD ar] M) fun d M' => ∃ n, d = .ref n ∧ M.sz ≤ n ∧ M'.get n = some (.lst (((T.grp nm b ms).rows ar).map rowD)) ∧ Fs [] M M'
mutual
theorem rows_len (ar : Option Str) : ∀ t : T, (t.rows ar).length = t.sz
  | .hand _ => rfl
  | .grp n b ms => by rw [T.rows, T.sz, List.length_cons, rowss_len (some n) ms]
theorem rowss_len (ar : Option Str) : ∀ ts : List T, (T.rowss ar ts).length = T.szs ts
  | [] => rfl
  | t :: ts => by rw [T.rowss, T.szs, List.length_append, rows_len ar t, rowss_len ar ts]
end
theorem T.rowss_app (ar : Option Str) : ∀ as bs : List T, T.rowss ar (as ++ bs) = T.rowss ar as ++ T.rowss ar bs
  | [], _ => rfl
  | a :: as, bs => by rw [List.cons_append, T.rowss, T.rowss_app ar as bs, T.rowss, List.append_assoc]
theorem T.szs_app : ∀ as bs : List T, T.szs (as ++ bs) = T.szs as + T.szs bs
  | [], _ => by simp [T.szs]
  | a :: as, bs => by rw [List.cons_append, T.szs, T.szs_app as bs, T.szs, Nat.add_assoc]
theorem T.dps_mem : ∀ {ts : List T} {t : T}, t ∈ ts → t.dp ≤ T.dps ts
  | [], _, h => by cases h
  | u :: ts, t, h => by
    rw [T.dps]
    rcases List.mem_cons.mp h with e | h
    · subst e; omega
    · have := T.dps_mem h; omega
theorem T.szs_mem : ∀ {ts : List T} {t : T}, t ∈ ts → t.sz ≤ T.szs ts
  | [], _, h => by cases h
  | u :: ts, t, h => by
    rw [T.szs]
    rcases List.mem_cons.mp h with e | h
    · subst e; omega
    · have := T.szs_mem h; omega
theorem take_succ_get {α : Type} {xs : List α} {i : Nat} {x : α} (h : xs[i]? = some x) : xs.take (i + 1) = xs.take i ++ [x] := by
  rw [List.take_succ, h]; rfl
theorem isi_str {x : Str} {M : Mem} {P : D → Mem → Prop} : Ok (gIsi [.str x, .ty "str"] M) P ↔ P (.bl true) M := by
  simp only [gIsi, tyN, kb_ss, ok_some]
theorem isi_tup {ds : List D} {M : Mem} {P : D → Mem → Prop} : Ok (gIsi [.tup ds, .ty "str"] M) P ↔ P (.bl false) M := by
  simp only [gIsi, tyN, kb_ts, ok_some]
theorem wseq_tup {m : Ev} {ρ : Rho} {M : Mem} {P : Wk → Mem → Prop} (h : Ok (m ρ M) fun d M' => ∃ ds, d = .tup ds ∧ P ⟨ds, []⟩ M') : Ok (wSeq m ρ M) P := by
  unfold wSeq
  rw [ok_bnd]
  refine h.mono fun d M' ⟨ds, e, hP⟩ => ?_
  subst e
  exact ok_some.mpr hP
theorem wseq_lst {m : Ev} {ρ : Rho} {M : Mem} {P : Wk → Mem → Prop} (h : Ok (m ρ M) fun d M' => ∃ n ds, d = .ref n ∧ M'.get n = some (.lst ds) ∧ P ⟨ds, [(n, .lst ds)]⟩ M') : Ok (wSeq m ρ M) P := by
  unfold wSeq
  rw [ok_bnd]
  refine h.mono fun d M' ⟨n, ds, e, g, hP⟩ => ?_
  subst e
  simp only [g]
  exact ok_some.mpr hP
theorem parts_ok {k : Nat} (ih : ∀ k', k = k' + 1 → PartsOk (C 10) k') : PartsOk (bodyD (b_parts_of C) 7) k := by
  intro M nm b ms ar hk hz
  rw [ok_body]
  unfold b_parts_of
  simp only [List.map_cons, List.map_nil, List.cons_append, List.nil_append]
  rw [ok_cons, ok_asg, ok_var]
  refine ⟨_, rfl, ?_⟩
  rw [T.d, okg_tp3, behind_nx, ok_cons, ok_asg]
  simp only [List.length_cons, List.length_nil, List.replicate, List.set_cons_succ, List.set_cons_zero, ok_lst, ok_tup, ok_args1, ok_args0, ok_var, List.getElem?_cons_succ, List.getElem?_cons_zero, Option.some.injEq, exists_eq_left', okg_nm]
  rw [behind_nx, ok_cons, ok_for]
  generalize hf : M.sz = fd
  refine wseq_tup ?_
  rw [ok_var]
  refine ⟨_, rfl, _, rfl, ?_⟩
  refine for_ok (fun i ρ M' => (∃ x, ρ = [some (T.d (.grp nm b ms)), some (oD ar), some (.ref fd), x, some (.str nm), some (.int b), some (.tup (T.ds ms))]) ∧ M'.get fd = some (.lst (rowD (nm, ar, some b) :: (T.rowss (some nm) (ms.take i)).map rowD)) ∧ Fs [] M M') _ (fun _ _ _ _ _ => rfl) ?_ ?_
    ⟨⟨_, rfl⟩, by subst hf; exact Mem.get_new_same, Fs.refl.new⟩
  · rintro i d ρ M2 hd ⟨⟨x, rfl⟩, g2, F2⟩
    rw [T.ds_map, List.getElem?_map] at hd
    obtain ⟨t, ht, rfl⟩ := Option.map_eq_some_iff.mp hd
    have hmem := List.mem_of_getElem? ht
    have hlen : (rowD (nm, ar, some b) :: (T.rowss (some nm) (ms.take i)).map rowD).length < 1000 := by
      rw [List.length_cons, List.length_map, rowss_len]
      have h1 : T.szs (ms.take i) + T.szs (ms.drop i) = T.szs ms := by rw [← T.szs_app, List.take_append_drop]
      have h2 : t ∈ ms.drop i := List.mem_of_getElem? (by rw [List.getElem?_drop, Nat.add_zero]; exact ht)
      have h3 := T.szs_mem h2
      have h4 : 1 ≤ t.sz := by cases t <;> simp [T.sz]
      rw [T.sz] at hz
      omega
    rw [okg_nm, ok_cons, ok_sif]
    simp only [List.set_cons_succ, List.set_cons_zero, ok_xval, ok_call, ok_args1, ok_args0, ok_var, ok_con, List.getElem?_cons_succ, List.getElem?_cons_zero, Option.some.injEq, exists_eq_left']
    have e1 : (rowD (nm, ar, some b) :: (T.rowss (some nm) (ms.take i)).map rowD) ++ ((t.rows (some nm)).map rowD) = rowD (nm, ar, some b) :: (T.rowss (some nm) (ms.take (i + 1))).map rowD := by
      rw [take_succ_get ht, T.rowss_app, List.map_append, List.cons_append]
      simp [T.rowss]
    cases t with
    | hand n =>
      rw [T.d, isi_str]
      simp only [truth, Option.some.injEq, exists_eq_left', if_true]
      rw [ok_cons, ok_ex, ok_mt, ok_var]
      refine ⟨_, rfl, by simp [isTy, g2], ?_⟩
      simp only [ok_args1, ok_args0, ok_tup, ok_var, ok_con, List.getElem?_cons_succ, List.getElem?_cons_zero, Option.some.injEq, exists_eq_left']
      rw [ok_app g2 (by omega), behind_nx, ok_nil, behind_nx, ok_nil]
      have e2 := e1
      simp only [T.rows, List.map_cons, List.map_nil] at e2
      refine ⟨⟨_, rfl⟩, ?_, F2.put (.inr (by omega))⟩
      rw [← e2]
      exact Mem.get_put_same (Mem.get_lt g2)
    | grp n b2 ms2 =>
      have hdp := T.dps_mem hmem
      have hsz := T.szs_mem hmem
      rw [T.dp] at hk
      rw [T.sz] at hz
      cases k with
      | zero => omega
      | succ k' =>
        rw [T.d, isi_tup]
        simp only [truth, Option.some.injEq, exists_eq_left', Bool.false_eq_true, if_false]
        rw [ok_cons, ok_ex, ok_mt, ok_var]
        refine ⟨_, rfl, by simp [isTy, g2], ?_⟩
        simp only [ok_args1, ok_args0, ok_callD, ok_var, ok_con, List.getElem?_cons_succ, List.getElem?_cons_zero, Option.some.injEq, exists_eq_left', List.append_nil]
        refine (ih k' rfl (M := M2) (ar := some nm) (by omega) (by omega)).mono fun d M3 ⟨n3, e, l3, g3, F3⟩ => ?_
        subst e
        have g3' : M3.get fd = some (.lst (rowD (nm, ar, some b) :: (T.rowss (some nm) (ms.take i)).map rowD)) := (F3.eq fd (Mem.get_lt g2) (by simp)).trans g2
        have hl2 : (((T.grp n b2 ms2).rows (some nm)).map rowD).length ≤ 1000 := by rw [List.length_map, rows_len]; omega
        simp only [gExt, g3', g3]
        rw [ok_if, if_pos (by omega), ok_some, behind_nx, ok_nil, behind_nx, ok_nil, e1]
        exact ⟨⟨_, rfl⟩, Mem.get_put_same (Mem.get_lt g3'), (F2.trans F3).put (.inr (by omega))⟩
  · rintro ρ M2 ⟨⟨x, rfl⟩, g2, F2⟩
    rw [behind_nx, ok_cons, ok_ret, ok_var]
    refine ⟨_, rfl, fd, rfl, by omega, ?_, F2⟩
    rw [g2, T.ds_len, List.take_length]
    rfl

/-! ### comprehensions that change nothing -/
theorem lc_filter {α : Type} {ok : Mem → Bool} {g : Gv} {c : Bv} {m : Ev} {ρ : Rho} {M : Mem} {L : List D → Mem → Prop} (rows : List α) (f : α → D) (p : α → Bool) (v : α → D) (hok : ok M = true)
    (hs : ∀ x ∈ rows, OkG (g (f x) ρ M) fun ρ1 M1 => M1 = M ∧ Ok (c ρ1 M) fun b M2 => b = p x ∧ M2 = M ∧ (p x = true → Ok (m ρ1 M) fun d M3 => d = v x ∧ M3 = M)) (he : L ((rows.filter p).map v) M) : Ok (lcL ok g c m (rows.map f) ρ M) L := by
  refine lc_go_ok (fun i ds M' => ds = ((rows.take i).filter p).map v ∧ M' = M) _ (fun i ds M' _ h => by rw [h.2]; exact hok) ?_ ?_ ⟨rfl, rfl⟩
  · rintro i d ds M' hd ⟨rfl, rfl⟩
    rw [List.getElem?_map] at hd
    obtain ⟨x, hx, rfl⟩ := Option.map_eq_some_iff.mp hd
    obtain ⟨ρ1, M1, e1, rfl, b, M2, e2, rfl, rfl, h3⟩ := hs x (List.mem_of_getElem? hx)
    refine ⟨ρ1, _, e1, p x, _, e2, ?_⟩
    dsimp only
    split
    · rename_i hp
      obtain ⟨d, M3, e3, rfl, rfl⟩ := h3 hp
      refine ⟨_, _, e3, ?_, rfl⟩
      rw [take_succ_get hx, List.filter_append, List.map_append]
      simp [hp]
    · rename_i hp
      refine ⟨?_, rfl⟩
      rw [take_succ_get hx, List.filter_append, List.map_append]
      simp [hp]
  · rintro ds M' ⟨rfl, rfl⟩
    rw [List.length_map, List.take_length]
    exact he
theorem dcL_ok {α : Type} {ok : Mem → Bool} {g : Gv} {c : Bv} {mk mv : Ev} {ρ : Rho} {M : Mem} (rows : List α) (f : α → D) (kx : α → Key) (vx : α → D) (hok : ok M = true) (hn : (rows.map kx).Nodup) (hl : rows.length ≤ 1000)
    (hs : ∀ x ∈ rows, OkG (g (f x) ρ M) fun ρ1 M1 => M1 = M ∧ Ok (c ρ1 M) fun b M2 => b = true ∧ M2 = M ∧ Ok (mk ρ1 M) fun d M3 => keyD d = some (kx x) ∧ M3 = M ∧ Ok (mv ρ1 M) fun d M4 => d = vx x ∧ M4 = M) :
    ∀ (k i : Nat), k + i = rows.length → dcL ok g c mk mv ρ ((rows.drop i).map f) ((rows.take i).map fun x => (kx x, vx x)) M = some (rows.map fun x => (kx x, vx x), M)
  | 0, i, hk => by
    have : i = rows.length := by omega
    subst this
    rw [List.drop_length, List.take_length, List.map_nil, dcL, if_pos hok]
  | k + 1, i, hk => by
    have hlt : i < rows.length := by omega
    rw [List.drop_eq_getElem_cons hlt, List.map_cons, dcL, if_pos ⟨hok, by rw [List.length_map, List.length_take]; omega⟩]
    obtain ⟨ρ1, M1, e1, rfl, b, M2, e2, rfl, rfl, d, M3, e3, hk3, rfl, d4, M4, e4, rfl, rfl⟩ := hs _ (List.getElem_mem hlt)
    rw [e1]
    dsimp only
    rw [e2, bnd_some, if_pos rfl, e3, bnd_some, e4, bnd_some]
    simp only [hk3]
    have e5 : rows.take (i + 1) = rows.take i ++ [rows[i]] := take_succ_get (List.getElem?_eq_getElem hlt)
    rw [putD_fresh]
    · have e6 : ((rows.take i).map fun x => (kx x, vx x)) ++ [(kx rows[i], vx rows[i])] = (rows.take (i + 1)).map fun x => (kx x, vx x) := by rw [e5, List.map_append]; rfl
      rw [e6]
      exact dcL_ok rows f kx vx hok hn hl hs k (i + 1) (by omega)
    · rw [List.map_map]
      intro hm
      have h1 : (rows.take (i + 1)).map kx = (rows.take i).map kx ++ [kx rows[i]] := by rw [e5, List.map_append]; rfl
      have h2 : ((rows.take (i + 1)).map kx).Nodup := by
        have : ((rows.map kx).take (i + 1)).Nodup := hn.sublist (List.take_sublist _ _)
        rwa [← List.map_take] at this
      rw [h1, List.nodup_append] at h2
      exact h2.2.2 _ hm _ List.mem_cons_self rfl

/-! ### hands_of, groups_of -/
def pick1 (x : Str × Option Str × Option Int) : D := .str x.1
def ofRows (p : Str × Option Str × Option Int → Bool) (t : T) : List Str := ((t.rows none).filter p).map (·.1)
def SiftOk (g : Bf) (p : Str × Option Str × Option Int → Bool) : Prop := ∀ {M : Mem} {nm : Str} {b : Int} {ms : List T}, (T.grp nm b ms).dp ≤ 20 → (T.grp nm b ms).sz ≤ 1000 →
  Ok (g [T.d (.grp nm b ms)] M) fun d M' => d = .tup ((ofRows p (.grp nm b ms)).map .str) ∧ Fs [] M M'
theorem sift_ok {c : Bv} {p : Str × Option Str × Option Int → Bool} (hp : PartsOk (C 10) 20) (hc : ∀ {M : Mem} {a b d : Option D} {x : Str × Option Str × Option Int}, Ok (c [a, b, d, some (oI x.2.2)] M) fun r M' => r = p x ∧ M' = M) :
    SiftOk (bodyD (sCons (sRet (eCall gTuple [eLc (wSeq (eCallD (C 10) [eVar 0] [.non])) (gTp [gNm 1, gNm 2, gNm 3]) c (eVar 1) [1, 2, 3]])) (sNil)) 4) p := by
  intro M nm b ms hk hz
  rw [ok_body]
  simp only [List.map_cons, List.map_nil, List.cons_append, List.nil_append]
  rw [ok_cons, ok_ret, ok_call, ok_args1, lc_ok]
  refine wseq_lst ?_
  simp only [ok_callD, ok_args1, ok_args0, ok_var, List.getElem?_cons_succ, List.getElem?_cons_zero, Option.some.injEq, exists_eq_left', List.nil_append, List.cons_append]
  refine (hp (ar := none) hk hz).mono fun d M1 ⟨n, e, l1, g1, F1⟩ => ⟨n, _, e, g1, ?_⟩
  refine lc_filter ((T.grp nm b ms).rows none) rowD p pick1 (by simp [Wk.ok, g1]) (fun x _ => ?_) ?_
  · simp only [wipeD, rowD, okg_tp3, List.length_cons, List.length_nil, List.replicate, List.set_cons_succ, List.set_cons_zero]
    refine ⟨by trivial, hc.mono fun r M2 ⟨e1, e2⟩ => ⟨e1, e2, fun _ => ?_⟩⟩
    rw [ok_var]
    exact ⟨_, rfl, rfl, by trivial⟩
  · have hl : (((T.grp nm b ms).rows none).filter p).length ≤ 1000 := Nat.le_trans (List.length_filter_le _ _) (by rw [rows_len]; exact hz)
    refine ⟨by rw [List.length_map]; omega, ?_⟩
    simp only [ok_args0, gTuple, Mem.get_new_same, ok_some]
    rw [behind_rt, ends_rt]
    refine ⟨?_, F1.new⟩
    unfold ofRows
    rw [List.map_map]
    rfl
theorem hands_ok (hp : PartsOk (C 10) 20) : SiftOk (bodyD (b_hands_of C) 4) fun x => x.2.2.isNone := by
  unfold b_hands_of
  refine sift_ok hp fun {M a b d x} => ?_
  simp only [ok_xval, ok_isN, ok_var, List.getElem?_cons_succ, List.getElem?_cons_zero, Option.some.injEq, exists_eq_left', truth]
  refine ⟨?_, by trivial⟩
  cases x.2.2 <;> rfl
theorem groups_ok (hp : PartsOk (C 10) 20) : SiftOk (bodyD (b_groups_of C) 4) fun x => x.2.2.isSome := by
  unfold b_groups_of
  refine sift_ok hp fun {M a b d x} => ?_
  simp only [ok_xval, ok_notN, ok_var, List.getElem?_cons_succ, List.getElem?_cons_zero, Option.some.injEq, exists_eq_left', truth]
  refine ⟨?_, by trivial⟩
  cases x.2.2 <;> rfl

/-! ### path_of -/
def PathOk (g : Bf) : Prop := ∀ {M : Mem} {nm : Str} {b : Int} {ms : List T} {x : Str × Bool × List Str}, (T.grp nm b ms).dp ≤ 20 → (T.grp nm b ms).sz ≤ 1000 → (T.grp nm b ms).ns.Nodup → x ∈ (T.grp nm b ms).told [] →
  Ok (g [T.d (.grp nm b ms), .str x.1] M) fun d M' => d = .tup (x.2.2.map .str) ∧ Fs [] M M'
def keyOf (x : Str × Option Str × Option Int) : Key := .inr x.1
theorem keys_nodup {t : T} (h : t.ns.Nodup) : ((t.rows none).map keyOf).Nodup := by
  have e : (t.rows none).map keyOf = t.ns.map Sum.inr := by
    rw [← T.rows_names none t, List.map_map]
    rfl
  rw [e]
  unfold List.Nodup
  rw [List.pairwise_map]
  exact h.imp fun hab e => hab (Sum.inr.inj e)
theorem around_in {t : T} {x : Str × Bool × List Str} (h : x ∈ t.told []) : ((Sum.inr x.1 : Key), oD x.2.2.head?) ∈ (t.rows none).map fun y => (keyOf y, oD y.2.1) := by
  have hs := T.side [] t
  have : (x.1, x.2.2.head?, x.2.1) ∈ (t.told []).map fun x => (x.1, x.2.2.head?, x.2.1) := List.mem_map.mpr ⟨x, h, rfl⟩
  rw [← hs] at this
  obtain ⟨y, hy, e⟩ := List.mem_map.mp this
  injection e with e1 e2
  injection e2 with e2 e3
  exact List.mem_map.mpr ⟨y, hy, by unfold keyOf; rw [e1, e2]⟩
theorem path_ok (hp : PartsOk (C 10) 20) : PathOk (bodyD (b_path_of C) 8) := by
  intro M nm b ms x hk hz hnd hx
  rw [ok_body]
  unfold b_path_of
  simp only [List.map_cons, List.map_nil, List.cons_append, List.nil_append]
  rw [ok_cons, ok_asg]
  unfold eDc
  simp only [ok_bnd]
  refine wseq_lst ?_
  simp only [ok_callD, ok_args1, ok_args0, ok_var, List.getElem?_cons_succ, List.getElem?_cons_zero, Option.some.injEq, exists_eq_left', List.nil_append, List.cons_append]
  refine (hp (ar := none) hk hz).mono fun d M1 ⟨n, e, l1, g1, F1⟩ => ⟨n, _, e, g1, ?_⟩
  have hd := dcL_ok (ok := (⟨((T.grp nm b ms).rows none).map rowD, [(n, .lst (((T.grp nm b ms).rows none).map rowD))]⟩ : Wk).ok) (g := gTp [gNm 5, gNm 6, gNm 7]) (c := xYes) (mk := eVar 5) (mv := eVar 6)
    (ρ := wipeD (some (T.d (.grp nm b ms)) :: some (.str x.1) :: List.replicate (8 - [T.d (.grp nm b ms), D.str x.1].length) none) [5, 6, 7]) (M := M1) ((T.grp nm b ms).rows none) rowD keyOf (fun y => oD y.2.1) (by simp [Wk.ok, g1]) (keys_nodup hnd) (by rw [rows_len]; exact hz) (fun y _ => by
      simp only [wipeD, rowD, okg_tp3, List.length_cons, List.length_nil, List.replicate, List.set_cons_succ, List.set_cons_zero, ok_xyes, ok_var, List.getElem?_cons_succ, List.getElem?_cons_zero, Option.some.injEq, exists_eq_left', true_and]
      exact ⟨rfl, by trivial⟩) _ 0 (Nat.add_zero _)
  rw [List.drop_zero, List.take_zero, List.map_nil] at hd
  rw [hd]
  simp only [ok_some]
  generalize hkv : (((T.grp nm b ms).rows none).map fun y => (keyOf y, oD y.2.1)) = kvs
  have hnk : (kvs.map (·.1)).Nodup := by
    rw [← hkv, List.map_map]
    exact keys_nodup hnd
  have hin : ∀ y ∈ (T.grp nm b ms).told [], ((Sum.inr y.1 : Key), oD y.2.2.head?) ∈ kvs := fun y hy => by rw [← hkv]; exact around_in hy
  simp only [List.length_cons, List.length_nil, List.replicate, okg_nm, List.set_cons_succ, List.set_cons_zero]
  generalize had : M1.sz = ad
  have gad : (M1.new (.dct kvs)).get ad = some (.dct kvs) := by rw [← had]; exact Mem.get_new_same
  have gix : ∀ {M' : Mem} {P : D → Mem → Prop} {y : Str × Bool × List Str}, M'.get ad = some (.dct kvs) → y ∈ (T.grp nm b ms).told [] → (Ok (gIx (.ref ad) (.str y.1) M') P ↔ P (oD y.2.2.head?) M') := fun {M' P y} g hy => by
    simp only [gIx, g, keyD, findK_mem hnk (hin y hy), Option.map_some, ok_some]
  rw [behind_nx, ok_cons, ok_sif, ok_xor]
  simp only [ok_xnot, ok_xval, ok_call, ok_op, ok_args1, ok_args0, ok_var, ok_con, List.getElem?_cons_succ, List.getElem?_cons_zero, Option.some.injEq, exists_eq_left', isi_str, truth, Bool.not_true, Bool.false_eq_true, if_false]
  have e1 : gNotIn (.str x.1) (.ref ad) (M1.new (.dct kvs)) = some (.bl false, M1.new (.dct kvs)) := by
    simp only [gNotIn, inD, gad, keyD, Option.map_some, hasK_mem (hin x hx)]
    rfl
  rw [e1]
  simp only [ok_some, truth, Option.some.injEq, exists_eq_left', Bool.false_eq_true, if_false]
  rw [ok_nil, behind_nx, ok_cons, ok_asg, ok_lst, ok_args0, okg_nm]
  have Fd : Fs [] M (M1.new (.dct kvs)) := F1.new
  have l2 : ad < (M1.new (.dct kvs)).sz := Mem.get_lt gad
  have l3 := F1.le
  generalize hM2 : M1.new (.dct kvs) = M2 at *
  generalize hfd : M2.sz = fd
  simp only [List.set_cons_succ, List.set_cons_zero]
  rw [behind_nx, ok_cons, ok_asg]
  have gad3 : (M2.new (.lst [])).get ad = some (.dct kvs) := (Mem.get_new_lt l2).trans gad
  simp only [ok_op, ok_var, List.getElem?_cons_succ, List.getElem?_cons_zero, Option.some.injEq, exists_eq_left', gix gad3 hx, okg_nm, List.set_cons_succ, List.set_cons_zero]
  rw [behind_nx, ok_cons]
  refine while_ok (fun m ρ M' => ∃ done rest, x.2.2 = done ++ rest ∧ m = rest.length ∧ ρ = [some (T.d (.grp nm b ms)), some (.str x.1), some (.ref ad), some (.ref fd), some (oD rest.head?), none, none, none] ∧ (∀ q rest', rest = q :: rest' → (q, true, rest') ∈ (T.grp nm b ms).told []) ∧
    M'.get ad = some (.dct kvs) ∧ M'.get fd = some (.lst (done.map .str)) ∧ Fs [] M M') ?_ (m := x.2.2.length) (by
      have := T.way [] _ x hx
      rw [List.length_nil] at this
      omega) ⟨[], x.2.2, rfl, rfl, rfl, fun q rest' e => ?_, gad3, by rw [← hfd]; exact Mem.get_new_same, Fd.new⟩
  · rintro m ρ M4 ⟨done, rest, e, rfl, rfl, ch, ga, gf, F4⟩
    simp only [ok_xval, ok_notN, ok_var, List.getElem?_cons_succ, List.getElem?_cons_zero, Option.some.injEq, exists_eq_left']
    cases rest with
    | nil =>
      simp only [List.head?_nil, oD, isN, Bool.not_true, truth, Option.some.injEq, exists_eq_left', Bool.false_eq_true, if_false]
      rw [behind_nx, ok_cons, ok_ret]
      simp only [ok_call, ok_args1, ok_args0, ok_var, List.getElem?_cons_succ, List.getElem?_cons_zero, Option.some.injEq, exists_eq_left', gTuple, gf, ok_some]
      rw [behind_rt, ends_rt, e, List.append_nil]
      exact ⟨rfl, F4⟩
    | cons q rest' =>
      simp only [List.head?_cons, oD, isN, Bool.not_false, truth, Option.some.injEq, exists_eq_left', if_true]
      have hq := ch q rest' rfl
      rw [ok_cons, ok_ex, ok_mt, ok_var]
      refine ⟨_, rfl, by simp [isTy, gf], ?_⟩
      simp only [ok_args1, ok_args0, ok_var, List.getElem?_cons_succ, List.getElem?_cons_zero, Option.some.injEq, exists_eq_left']
      have hlen : (done.map D.str).length < 1000000 := by
        have h1 := T.way [] _ x hx
        have h2 := congrArg List.length e
        rw [List.length_append] at h2
        rw [List.length_nil] at h1
        rw [List.length_map]
        omega
      rw [ok_app gf hlen, behind_nx, ok_cons, ok_asg]
      have ne : fd ≠ ad := by omega
      have ga5 : (M4.put fd (.lst (done.map D.str ++ [.str q]))).get ad = some (.dct kvs) := (Mem.get_put_ne ne).trans ga
      simp only [ok_op, ok_var, List.getElem?_cons_succ, List.getElem?_cons_zero, Option.some.injEq, exists_eq_left', gix (y := (q, true, rest')) ga5 hq, okg_nm, List.set_cons_succ, List.set_cons_zero]
      rw [behind_nx, ok_nil, turned_nx]
      refine ⟨rest'.length, by simp, done ++ [q], rest', by rw [e, List.append_assoc]; rfl, rfl, rfl, fun q2 r2 e2 => ?_, ga5, ?_, F4.put (.inr (by omega))⟩
      · rcases T.parent [] _ _ hq with e3 | ⟨q3, P3, e3, h3⟩
        · have e3 : rest' = [] := e3
          rw [e3] at e2; cases e2
        · have e3 : rest' = q3 :: P3 := e3
          rw [e3] at e2; cases e2
          exact h3
      · rw [Mem.get_put_same (Mem.get_lt gf), List.map_append]
        rfl
  · rcases T.parent [] _ x hx with e3 | ⟨q3, P3, e3, h3⟩
    · rw [e3] at e; cases e
    · rw [e3] at e; cases e
      exact h3

/-! ### told -/
def toldD (x : Str × Bool × List Str) : D := .tup [.str x.1, .bl x.2.1, .tup (x.2.2.map .str)]
def TellOk (g : Bf) : Prop := ∀ {M : Mem} {nm : Str} {b : Int} {ms : List T}, (T.grp nm b ms).ok = true → (T.grp nm b ms).dp ≤ 20 → (T.grp nm b ms).sz ≤ 1000 →
  Ok (g [T.d (.grp nm b ms)] M) fun d M' => ∃ n, d = .ref n ∧ M.sz ≤ n ∧ M'.get n = some (.lst (((T.grp nm b ms).told []).map toldD)) ∧ Fs [] M M'
/-- what waits: a tree and the groups around it -/
def waitD (x : T × List Str) : D := .tup [x.1.d, .tup (x.2.map .str)]
def waitSz : List (T × List Str) → Nat
  | [] => 0
  | x :: xs => x.1.sz + waitSz xs
def waitTold : List (T × List Str) → List (Str × Bool × List Str)
  | [] => []
  | x :: xs => x.1.told x.2 ++ waitTold xs
theorem waitSz_app : ∀ as bs : List (T × List Str), waitSz (as ++ bs) = waitSz as + waitSz bs
  | [], _ => by simp [waitSz]
  | a :: as, bs => by rw [List.cons_append, waitSz, waitSz_app as bs, waitSz, Nat.add_assoc]
theorem waitTold_app : ∀ as bs : List (T × List Str), waitTold (as ++ bs) = waitTold as ++ waitTold bs
  | [], _ => rfl
  | a :: as, bs => by rw [List.cons_append, waitTold, waitTold_app as bs, waitTold, List.append_assoc]
theorem waitSz_ms (p : List Str) : ∀ ms : List T, waitSz (ms.map fun t => (t, p)) = T.szs ms
  | [] => rfl
  | t :: ms => by rw [List.map_cons, waitSz, waitSz_ms p ms, T.szs]
theorem waitTold_ms (p : List Str) : ∀ ms : List T, waitTold (ms.map fun t => (t, p)) = T.tolds p ms
  | [] => rfl
  | t :: ms => by rw [List.map_cons, waitTold, waitTold_ms p ms, T.tolds]
theorem waitSz_len : ∀ ws : List (T × List Str), ws.length ≤ waitSz ws
  | [] => Nat.le_refl _
  | x :: xs => by
    have := waitSz_len xs
    have : 1 ≤ x.1.sz := by cases x.1 <;> simp [T.sz]
    rw [waitSz, List.length_cons]
    omega
theorem wait_gd : ∀ ws : List (T × List Str), (∀ x ∈ ws, x.1.ok = true ∧ x.1.dp ≤ 20 ∧ ∀ y ∈ x.2, nmOk y = true) → gdL (ws.map waitD) = true ∧ dpL (ws.map waitD) ≤ 63
  | [], _ => ⟨rfl, Nat.zero_le _⟩
  | x :: xs, h => by
    obtain ⟨h1, h2, h3⟩ := h x List.mem_cons_self
    obtain ⟨k1, k2⟩ := wait_gd xs fun y hy => h y (List.mem_cons_of_mem _ hy)
    obtain ⟨a1, a2, a3⟩ := T.gd x.1 h1
    obtain ⟨b1, b2, b3⟩ := gd_names x.2 h3
    rw [List.map_cons]
    simp only [gdL, dpL, waitD, gdD, dpD, a1, b1, b3, k1, Bool.and_self, true_and]
    omega
theorem oks_mem : ∀ {ms : List T} {t : T}, T.oks ms = true → t ∈ ms → t.ok = true
  | [], _, _, h => by cases h
  | u :: ms, t, h, hm => by
    rw [T.oks, Bool.and_eq_true] at h
    rcases List.mem_cons.mp hm with e | hm
    · rw [e]; exact h.1
    · exact oks_mem h.2 hm
theorem tell_ok : TellOk (bodyD (b__law_told C) 6) := by
  intro M nm b ms hok hdp hsz
  rw [ok_body]
  unfold b__law_told
  simp only [List.map_cons, List.map_nil, List.cons_append, List.nil_append]
  rw [ok_cons, ok_par]
  simp only [ok_lst, ok_tup, ok_args1, ok_args0, ok_var, List.getElem?_cons_succ, List.getElem?_cons_zero, Option.some.injEq, exists_eq_left', List.length_cons, List.length_nil, List.replicate, List.set_cons_succ, List.set_cons_zero, Mem.sz_new]
  rw [behind_nx, ok_cons]
  generalize hf : M.sz = fd
  refine while_ok (fun m ρ M' => ∃ wa x y z done ws, ρ = [some (T.d (.grp nm b ms)), some (.ref fd), some (.ref wa), x, y, z] ∧ waitSz ws = m ∧ M'.get fd = some (.lst (done.map toldD)) ∧ M'.get wa = some (.lst (ws.map waitD)) ∧ M.sz < wa ∧ done ++ waitTold ws = (T.grp nm b ms).told [] ∧
    (∀ x ∈ ws, x.1.ok = true ∧ x.1.dp ≤ 20 ∧ ∀ y ∈ x.2, nmOk y = true) ∧ Fs [] M M') ?_ (m := (T.grp nm b ms).sz) (by omega)
    ⟨fd + 1, none, none, none, [], [(.grp nm b ms, [])], rfl, rfl, ?_, ?_, by omega, ?_, ?_, Fs.refl.new.new⟩
  · rintro m ρ M2 ⟨wa, x, y, z, done, ws, rfl, rfl, g1, g2, hw, e, hws, F2⟩
    obtain ⟨q1, q2⟩ := wait_gd ws hws
    simp only [ok_xval, ok_op, ok_var, List.getElem?_cons_succ, List.getElem?_cons_zero, Option.some.injEq, exists_eq_left', ok_lst, ok_args0]
    have l1 := Mem.get_lt g1
    have l2 := Mem.get_lt g2
    rw [ne_nil_gd ((Mem.get_new_lt l2).trans g2) Mem.get_new_same q1 q2]
    have g1' : (M2.new (.lst [])).get fd = some (.lst (done.map toldD)) := (Mem.get_new_lt l1).trans g1
    have g2' : (M2.new (.lst [])).get wa = some (.lst (ws.map waitD)) := (Mem.get_new_lt l2).trans g2
    have F2' : Fs [] M (M2.new (.lst [])) := F2.new
    generalize M2.new (.lst []) = M3 at *
    have hdl : (done ++ waitTold ws).length = (T.grp nm b ms).sz := by rw [e, T.told_len]
    rw [List.length_append] at hdl
    cases ws with
    | nil =>
      simp only [List.map_nil, List.isEmpty_nil, Bool.not_true, truth, Option.some.injEq, exists_eq_left', Bool.false_eq_true, if_false]
      rw [behind_nx, ok_cons, ok_ret, ok_var]
      refine ⟨_, rfl, fd, rfl, by omega, ?_, F2'⟩
      rw [g1', ← e, waitTold, List.append_nil]
    | cons w ws =>
      simp only [List.map_cons, List.isEmpty_cons, Bool.not_false, truth, Option.some.injEq, exists_eq_left', if_true]
      obtain ⟨t, p⟩ := w
      obtain ⟨t1, t2, t3⟩ := hws _ List.mem_cons_self
      have hws' : ∀ x ∈ ws, x.1.ok = true ∧ x.1.dp ≤ 20 ∧ ∀ y ∈ x.2, nmOk y = true := fun x hx => hws x (List.mem_cons_of_mem _ hx)
      rw [ok_cons, ok_asg, ok_mt, ok_var]
      refine ⟨_, rfl, by simp [isTy, g2'], ?_⟩
      simp only [ok_args1, ok_args0, ok_con]
      have e1 : gPopAt (.ref wa) [.int 0] M3 = some (waitD (t, p), M3.put wa (.lst (ws.map waitD))) := by
        simp only [gPopAt, g2', List.map_cons]
        rw [if_pos (by decide)]
        have : seqIndex? 0 (waitD (t, p) :: ws.map waitD).length = some 0 := by
          unfold seqIndex?
          simp <;> omega
        rw [this]
        rfl
      rw [e1]
      simp only [ok_some, waitD, okg_tp2, List.set_cons_succ, List.set_cons_zero]
      have ne : fd ≠ wa := by omega
      have g3 : (M3.put wa (.lst (ws.map waitD))).get fd = some (.lst (done.map toldD)) := (Mem.get_put_ne (Ne.symm ne)).trans g1'
      have g4 : (M3.put wa (.lst (ws.map waitD))).get wa = some (.lst (ws.map waitD)) := Mem.get_put_same (Mem.get_lt g2')
      have F4 : Fs [] M (M3.put wa (.lst (ws.map waitD))) := F2'.put (.inr (by omega))
      have hsame : (fun w : T × List Str => D.tup [w.1.d, .tup (w.2.map .str)]) = waitD := rfl
      generalize hM4 : M3.put wa (.lst (ws.map waitD)) = M4 at *
      have hM4' : M3.put wa (.lst (ws.map fun w : T × List Str => D.tup [w.1.d, .tup (w.2.map .str)])) = M4 := hM4
      try rw [hM4']
      rw [behind_nx, ok_cons, ok_sif]
      simp only [ok_xval, ok_call, ok_args1, ok_args0, ok_var, ok_con, List.getElem?_cons_succ, List.getElem?_cons_zero, Option.some.injEq, exists_eq_left']
      have hlong : (done.map toldD).length < 1000000 := by rw [List.length_map]; omega
      rw [waitTold] at e
      rw [waitSz]
      cases t with
      | hand n =>
        rw [T.d, isi_str]
        simp only [truth, Option.some.injEq, exists_eq_left', if_true]
        rw [ok_cons, ok_ex, ok_mt, ok_var]
        refine ⟨_, rfl, by simp [isTy, g3], ?_⟩
        simp only [ok_args1, ok_args0, ok_tup, ok_var, ok_con, List.getElem?_cons_succ, List.getElem?_cons_zero, Option.some.injEq, exists_eq_left']
        rw [ok_app g3 hlong, behind_nx, ok_nil, behind_nx, ok_nil, turned_nx]
        refine ⟨waitSz ws, by simp [T.sz], wa, _, _, _, done ++ [(n, false, p)], ws, rfl, rfl, ?_, (Mem.get_put_ne ne).trans g4, hw, ?_, hws', F4.put (.inr (by omega))⟩
        · rw [Mem.get_put_same (Mem.get_lt g3), List.map_append]
          rfl
        · rw [← e, T.told, List.append_assoc]
      | grp n b2 ms2 =>
        rw [T.d, isi_tup]
        simp only [truth, Option.some.injEq, exists_eq_left', Bool.false_eq_true, if_false]
        simp only [T.ok, Bool.and_eq_true, decide_eq_true_eq] at t1
        rw [T.dp] at t2
        rw [ok_cons, ok_ex, ok_mt, ok_var]
        refine ⟨_, rfl, by simp [isTy, g3], ?_⟩
        simp only [ok_args1, ok_args0, ok_tup, ok_op, ok_var, ok_con, List.getElem?_cons_succ, List.getElem?_cons_zero, Option.some.injEq, exists_eq_left', ix_tup atI_0]
        rw [ok_app g3 hlong, behind_nx, ok_cons, ok_asg, ok_op, lc_ok]
        refine wseq_tup ?_
        simp only [ok_op, ok_var, ok_con, List.getElem?_cons_succ, List.getElem?_cons_zero, Option.some.injEq, exists_eq_left', ix_tup atI_2]
        refine ⟨_, rfl, ?_⟩
        rw [T.ds_map]
        have g5 : (M4.put fd (.lst (done.map toldD ++ [D.tup [D.str n, D.bl true, D.tup (p.map .str)]]))).get fd = some (.lst ((done ++ [(n, true, p)]).map toldD)) := by
          rw [Mem.get_put_same (Mem.get_lt g3), List.map_append]
          rfl
        have g6 : (M4.put fd (.lst (done.map toldD ++ [D.tup [D.str n, D.bl true, D.tup (p.map .str)]]))).get wa = some (.lst (ws.map waitD)) := (Mem.get_put_ne ne).trans g4
        have F6 : Fs [] M (M4.put fd (.lst (done.map toldD ++ [D.tup [D.str n, D.bl true, D.tup (p.map .str)]]))) := F4.put (.inr (by omega))
        generalize M4.put fd (.lst (done.map toldD ++ [D.tup [D.str n, D.bl true, D.tup (p.map .str)]])) = M6 at *
        have hml : ms2.length ≤ T.szs ms2 := by
          have := waitSz_len (ms2.map fun t => (t, ([] : List Str)))
          rw [waitSz_ms, List.length_map] at this
          exact this
        have hsz2 : waitSz ws + T.szs ms2 + 1 ≤ 1000 := by
          have h1 : (waitTold ws).length = waitSz ws := by
            clear e hws hws' g4 g6 e1 hM4 hM4' hdl q1 q2 g2 g2' F4
            induction ws with
            | nil => rfl
            | cons w ws ih => rw [waitTold, waitSz, List.length_append, T.told_len, ih]
          have h2 := congrArg List.length e
          rw [List.length_append, List.length_append, h1, T.told_len, T.told_len] at h2
          rw [T.sz] at h2
          omega
        have hpl : p.length ≤ 21 := by
          have hm : (n, true, p) ∈ (T.grp nm b ms).told [] := by
            rw [← e]
            refine List.mem_append_right _ (List.mem_append_left _ ?_)
            rw [T.told]
            exact List.mem_cons_self
          have := T.way [] _ _ hm
          simp only [List.length_nil] at this
          omega
        have hbig := sizeLine_eq
        refine lc_filter (ms2.map id) T.d (fun _ => true) (fun t => waitD (t, n :: p)) rfl (fun t _ => ?_) ?_ |> fun h => by rw [List.map_id] at h; exact h
        · simp only [wipeD, okg_nm, List.set_cons_succ, List.set_cons_zero, ok_xyes, true_and]
          refine fun _ => ?_
          simp only [ok_tup, ok_args1, ok_args0, ok_op, ok_var, ok_con, List.getElem?_cons_succ, List.getElem?_cons_zero, Option.some.injEq, exists_eq_left', ix_tup atI_0]
          have ea : gAdd (.tup [.str n]) (.tup (p.map .str)) M6 = some (.tup (.str n :: p.map .str), M6) := by
            simp only [gAdd]
            rw [if_pos (by simp; omega)]
            rfl
          rw [ea, ok_some]
          exact ⟨rfl, by trivial⟩
        · rw [List.map_id, List.filter_eq_self.mpr fun _ _ => rfl]
          refine ⟨by rw [List.length_map]; omega, ?_⟩
          have l6 := Mem.get_lt g6
          have gx : (M6.new (.lst (ms2.map fun t => waitD (t, n :: p)))).get wa = some (.lst (ws.map waitD)) := (Mem.get_new_lt l6).trans g6
          have ea : gAdd (.ref M6.sz) (.ref wa) (M6.new (.lst (ms2.map fun t => waitD (t, n :: p)))) = some (.ref (M6.sz + 1), (M6.new (.lst (ms2.map fun t => waitD (t, n :: p)))).new (.lst ((ms2.map fun t => waitD (t, n :: p)) ++ ws.map waitD))) := by
            simp only [gAdd, Mem.get_new_same, gx, Mem.sz_new]
            rw [if_pos ?_]
            have := waitSz_len ws
            rw [List.length_map, List.length_map]
            omega
          rw [ea, ok_some, okg_nm, behind_nx, ok_nil, behind_nx, ok_nil, turned_nx]
          have ew : (ms2.map fun t => waitD (t, n :: p)) ++ ws.map waitD = ((ms2.map fun t => (t, n :: p)) ++ ws).map waitD := by rw [List.map_append, List.map_map]; rfl
          rw [ew]
          have l5 := Mem.get_lt g5
          refine ⟨waitSz ((ms2.map fun t => (t, n :: p)) ++ ws), by rw [waitSz_app, waitSz_ms, T.sz]; omega, M6.sz + 1, _, _, _, done ++ [(n, true, p)], (ms2.map fun t => (t, n :: p)) ++ ws, rfl, rfl, ?_, ?_, by have := F6.le; omega, ?_, ?_, F6.new.new⟩
          · exact (Mem.get_new_lt (by rw [Mem.sz_new]; omega)).trans ((Mem.get_new_lt l5).trans g5)
          · have : ((M6.new (.lst (ms2.map fun t => waitD (t, n :: p)))).new (.lst (((ms2.map fun t => (t, n :: p)) ++ ws).map waitD))).get (M6.new (.lst (ms2.map fun t => waitD (t, n :: p)))).sz = _ := Mem.get_new_same
            rwa [Mem.sz_new] at this
          · rw [waitTold_app, waitTold_ms, ← e, T.told, List.append_assoc, List.cons_append, List.nil_append, List.cons_append]
          · intro x hx
            rcases List.mem_append.mp hx with hx | hx
            · obtain ⟨t, ht, rfl⟩ := List.mem_map.mp hx
              have := T.dps_mem ht
              refine ⟨oks_mem t1.2 ht, by show t.dp ≤ 20; omega, fun y hy => ?_⟩
              rcases List.mem_cons.mp hy with e | hy
              · rw [e]; exact t1.1.1.1
              · exact t3 y hy
            · exact hws' x hx
  · rw [← hf]
    exact (Mem.get_new_lt (by rw [Mem.sz_new]; omega)).trans Mem.get_new_same
  · rw [← hf]
    have : ((M.new (.lst [])).new (.lst [D.tup [T.d (.grp nm b ms), .tup []]])).get (M.new (.lst [])).sz = _ := Mem.get_new_same
    rwa [Mem.sz_new] at this
  · rw [waitTold, waitTold, List.append_nil, List.nil_append]
  · intro x hx
    rw [List.mem_singleton] at hx
    subst hx
    exact ⟨hok, hdp, by simp⟩

/-! ### the law -/
theorem told_all {α : Type} (n : Nat) : blsD (List.replicate n (.bl true)) = some (List.replicate n true) := by
  induction n with
  | zero => rfl
  | succ n ih => rw [List.replicate_succ, blsD, ih]; rfl
theorem side_filter (t : T) (v : Bool) : ((t.rows none).filter fun x => x.2.2.isSome == v).map (·.1) = ((t.told []).filter fun x => x.2.1 == v).map (·.1) := by
  have hs := T.side [] t
  have hs : (t.rows none).map (fun x => (x.1, x.2.1, x.2.2.isSome)) = (t.told []).map fun x => (x.1, x.2.2.head?, x.2.1) := hs
  have h2 := congrArg (fun l => (l.filter fun y : Str × Option Str × Bool => y.2.2 == v).map (·.1)) hs
  simp only [List.filter_map, List.map_map] at h2
  exact h2
theorem hands_eq (t : T) : ofRows (fun x => x.2.2.isNone) t = ((t.told []).filter fun x => !x.2.1).map (·.1) := by
  have := side_filter t false
  unfold ofRows
  have e1 : (fun x : Str × Option Str × Option Int => x.2.2.isNone) = fun x => x.2.2.isSome == false := by
    funext x
    cases x.2.2 <;> rfl
  have e2 : (fun x : Str × Bool × List Str => !x.2.1) = fun x => x.2.1 == false := by
    funext x
    cases x.2.1 <;> rfl
  rw [e1, e2]
  exact this
theorem groups_eq (t : T) : ofRows (fun x => x.2.2.isSome) t = ((t.told []).filter fun x => x.2.1).map (·.1) := by
  have := side_filter t true
  unfold ofRows
  have e1 : (fun x : Str × Option Str × Option Int => x.2.2.isSome) = fun x => x.2.2.isSome == true := by
    funext x
    cases x.2.2 <;> rfl
  have e2 : (fun x : Str × Bool × List Str => x.2.1) = fun x => x.2.1 == true := by
    funext x
    cases x.2.1 <;> rfl
  rw [e1, e2]
  exact this
structure LawOk (C : Nat → Bf) : Prop where
  hand : ∀ {ns : List Int} {M : Mem}, ns.length ≤ 63 → Ok (C 1 [.rol ns] M) fun d M' => ∃ h r, d = .ref h ∧ HD M' h r
  plan : PlanOk (C 2)
  sizes : ∀ {M : Mem} {P : D → Mem → Prop}, Ok (C 7 [] M) P ↔ P (.ref M.sz) (M.new (.lst [.tup [.int 2, .int 3], .tup [.int 3, .int 2], .tup [.int 1, .int 5], .tup [.int 7, .int 1], .tup [.int 0, .int 39], .tup [.int 0, .int 2]]))
  tell : TellOk (C 8)
  hands : SiftOk (C 9) fun x => x.2.2.isNone
  groups : SiftOk (C 11) fun x => x.2.2.isSome
  path : PathOk (C 12)
/-- repr(f(plan)) != repr(tuple([name for .. in told if ..])) is false -/
theorem sift_same {f : Nat} {c : Bv} {p : Str × Option Str × Option Int → Bool} {q : Str × Bool × List Str → Bool} {nm : Str} {b : Int} {ms : List T} {M : Mem} {G : Fl → Mem → Prop} {tn : Nat} {a0 a1 a2 a4 a5 a7 a8 a9 : Option D}
    (hf : SiftOk (C f) p) (hc : ∀ {M : Mem} {x : Str × Bool × List Str}, Ok (c [a0, a1, a2, some (T.d (.grp nm b ms)), a4, a5, some (.ref tn), some (.str x.1), some (.bl x.2.1), some (.tup (x.2.2.map .str))] M) fun r M' => r = q x ∧ M' = M)
    (hok : (T.grp nm b ms).ok = true) (hdp : (T.grp nm b ms).dp ≤ 20) (hsz : (T.grp nm b ms).sz ≤ 1000) (he : ofRows p (.grp nm b ms) = (((T.grp nm b ms).told []).filter q).map (·.1))
    (gt : M.get tn = some (.lst (((T.grp nm b ms).told []).map toldD))) (k : ∀ M', Fs [] M M' → M'.get tn = some (.lst (((T.grp nm b ms).told []).map toldD)) → G (.nx [a0, a1, a2, some (T.d (.grp nm b ms)), a4, a5, some (.ref tn), a7, a8, a9]) M') :
    Ok (sIf (xVal (eOp gNe (eCall gRepr [eCallD (C f) [eVar 3] []]) (eCall gRepr [eCall gTuple [eLc (wSeq (eVar 6)) (gTp [gNm 7, gNm 8, gNm 9]) c (eVar 7) [7, 8, 9]]]))) (sCons (sRet (eCon (.bl false))) (sNil)) (sNil) [a0, a1, a2, some (T.d (.grp nm b ms)), a4, a5, some (.ref tn), a7, a8, a9] M) G := by
  rw [ok_sif]
  simp only [ok_xval, ok_op, ok_call, ok_callD, ok_args1, ok_args0, ok_var, List.getElem?_cons_succ, List.getElem?_cons_zero, Option.some.injEq, exists_eq_left', List.append_nil]
  refine (hf (M := M) hdp hsz).mono fun d M1 ⟨e, F1⟩ => ?_
  subst e
  have hall : ∀ x ∈ (T.grp nm b ms).told [], nmOk x.1 = true := fun x hx => (T.told_ok [] _ x hok (by simp) hx).1
  have hnm : ∀ x ∈ ofRows p (.grp nm b ms), nmOk x = true := fun x hx => by
    rw [he] at hx
    obtain ⟨y, hy, rfl⟩ := List.mem_map.mp hx
    exact hall y (List.mem_filter.mp hy).1
  have hl : (ofRows p (.grp nm b ms)).length ≤ 9000 := by
    rw [he, List.length_map]
    have := List.length_filter_le q ((T.grp nm b ms).told [])
    rw [T.told_len] at this
    omega
  rw [ok_repr_names hnm hl, lc_ok]
  have gt1 := (F1.eq tn (Mem.get_lt gt) (by simp)).trans gt
  refine wseq_lst ?_
  rw [ok_var]
  refine ⟨_, rfl, tn, _, rfl, gt1, ?_⟩
  refine lc_filter ((T.grp nm b ms).told []) toldD q (fun x => .str x.1) (by simp [Wk.ok, gt1]) (fun x _ => ?_) ?_
  · simp only [wipeD, toldD, okg_tp3, List.set_cons_succ, List.set_cons_zero]
    refine ⟨by trivial, hc.mono fun r M2 ⟨e1, e2⟩ => ⟨e1, e2, fun _ => ?_⟩⟩
    rw [ok_var]
    exact ⟨_, rfl, rfl, by trivial⟩
  · have hl2 : (((T.grp nm b ms).told []).filter q).length ≤ 1000 := Nat.le_trans (List.length_filter_le _ _) (by rw [T.told_len]; exact hsz)
    refine ⟨by rw [List.length_map]; omega, ?_⟩
    simp only [ok_args0, gTuple, Mem.get_new_same, ok_some]
    have em : (((T.grp nm b ms).told []).filter q).map (fun x => D.str x.1) = (ofRows p (.grp nm b ms)).map .str := by rw [he, List.map_map]; rfl
    rw [em, ok_repr_names hnm hl, ok_nes]
    simp only [beq_self_eq_true, Bool.not_true, truth, Option.some.injEq, exists_eq_left', Bool.false_eq_true, if_false]
    rw [ok_nil]
    exact k _ F1.new ((Mem.get_new_lt (Mem.get_lt gt1)).trans gt1)
theorem law_ok (L : LawOk C) {ns : List Int} (hns : ns.length ≤ 63) {M : Mem} : Ok (bodyD (b_law C) 10 [.rol ns] M) fun d _ => d = .bl true := by
  rw [ok_body]
  unfold b_law
  simp only [List.map_cons, List.map_nil, List.cons_append, List.nil_append, List.length_cons, List.length_nil, List.replicate]
  rw [ok_cons, ok_asg, ok_callD]
  simp only [ok_args1, ok_args0, ok_var, List.getElem?_cons_succ, List.getElem?_cons_zero, Option.some.injEq, exists_eq_left', List.append_nil]
  refine (L.hand hns).mono fun d M1 ⟨h, r, e, H1⟩ => ?_
  subst e
  rw [okg_nm, behind_nx, ok_cons, ok_for]
  simp only [List.set_cons_succ, List.set_cons_zero]
  refine rng1_ok ?_
  rw [ok_con]
  refine ⟨3, rfl, by decide, ?_⟩
  refine for_ok (fun i ρ M' => (∃ a2 a3 a4 a5 a6 a7 a8 a9, ρ = [some (.rol ns), some (.ref h), a2, a3, a4, a5, a6, a7, a8, a9]) ∧ HD M' h r) _ (fun _ _ _ _ _ => rfl) ?_ ?_ ⟨⟨_, _, _, _, _, _, _, _, rfl⟩, H1⟩
  · rintro i d ρ M2 hd ⟨⟨a2, a3, a4, a5, a6, a7, a8, a9, rfl⟩, H2⟩
    rw [okg_nm, ok_cons, ok_asg]
    simp only [List.set_cons_succ, List.set_cons_zero, ok_callD, ok_args1, ok_args0, ok_var, List.getElem?_cons_succ, List.getElem?_cons_zero, Option.some.injEq, exists_eq_left', List.append_nil, L.sizes]
    have n1 := H2.lt
    have n2 := H2.lt2
    refine (L.plan (n := M2.sz) H2.new Mem.get_new_same (by omega) (by omega)).mono fun d M3 ⟨nm, b, ms, e, hok, hnd, hsz, hdp, H3⟩ => ?_
    subst e
    have hdp2 : (T.grp nm b ms).dp ≤ 20 := by omega
    have hsz2 : (T.grp nm b ms).sz ≤ 1000 := by omega
    obtain ⟨g1, g2, g3⟩ := T.gd (.grp nm b ms) hok
    have hrep : ∀ {M : Mem} {P : D → Mem → Prop}, Ok (gRepr [T.d (.grp nm b ms)] M) P ↔ P (.str (rep (T.d (.grp nm b ms)))) M := ok_repr g1 (by omega) (by omega)
    rw [okg_nm, behind_nx, ok_cons, ok_par]
    simp only [List.set_cons_succ, List.set_cons_zero, ok_call, ok_callD, ok_args1, ok_args0, ok_var, List.getElem?_cons_succ, List.getElem?_cons_zero, Option.some.injEq, exists_eq_left', List.append_nil, hrep]
    refine (L.tell hok hdp2 hsz2).mono fun d M4 ⟨tn, e, l4, g4, F4⟩ => ?_
    subst e
    have H4 : HD M4 h r := H3.keep (F4.eq h H3.lt (by simp)) (F4.eq r H3.lt2 (by simp))
    rw [behind_nx, ok_cons, ok_for]
    refine rng1_ok ?_
    rw [ok_con]
    refine ⟨2, rfl, by decide, ?_⟩
    refine for_ok (fun i ρ M' => (∃ a2 a4 a7 a8 a9, ρ = [some (.rol ns), some (.ref h), a2, some (T.d (.grp nm b ms)), a4, some (.str (rep (T.d (.grp nm b ms)))), some (.ref tn), a7, a8, a9]) ∧ HD M' h r ∧ M'.get tn = some (.lst (((T.grp nm b ms).told []).map toldD))) _ (fun _ _ _ _ _ => rfl) ?_ ?_ ⟨⟨_, _, _, _, _, rfl⟩, H4, g4⟩
    · rintro i d ρ M5 hd ⟨⟨a2, a4, a7, a8, a9, rfl⟩, H5, g5⟩
      rw [okg_nm, ok_cons]
      simp only [List.set_cons_succ, List.set_cons_zero]
      refine sift_same (q := fun x => !x.2.1) L.hands (fun {M x} => ?_) hok hdp2 hsz2 (hands_eq _) g5 fun M6 F6 g6 => ?_
      · simp only [ok_xnot, ok_xval, ok_var, List.getElem?_cons_succ, List.getElem?_cons_zero, Option.some.injEq, exists_eq_left', truth]
        exact ⟨by trivial, by trivial⟩
      rw [behind_nx, ok_cons]
      refine sift_same (q := fun x => x.2.1) L.groups (fun {M x} => ?_) hok hdp2 hsz2 (groups_eq _) g6 fun M7 F7 g7 => ?_
      · simp only [ok_xval, ok_var, List.getElem?_cons_succ, List.getElem?_cons_zero, Option.some.injEq, exists_eq_left', truth]
        exact ⟨by trivial, by trivial⟩
      rw [behind_nx, ok_cons, ok_sif, ok_xnot, ok_xval, ok_call, ok_args1, lc_ok]
      refine wseq_lst ?_
      rw [ok_var]
      refine ⟨_, rfl, tn, _, rfl, g7, ?_⟩
      refine lc_go_ok (fun i ds M' => ds = List.replicate i (.bl true) ∧ Fs [] M7 M') _ (fun i ds M' _ h => by
        have := (h.2.eq tn (Mem.get_lt g7) (by simp)).trans g7
        simp [Wk.ok, this]) ?_ ?_ ⟨rfl, Fs.refl⟩
      · rintro i d ds M8 hd ⟨rfl, F8⟩
        rw [List.getElem?_map] at hd
        obtain ⟨x, hx, rfl⟩ := Option.map_eq_some_iff.mp hd
        have hxm := List.mem_of_getElem? hx
        simp only [wipeD, toldD, okg_tp3, List.set_cons_succ, List.set_cons_zero, ok_xyes, if_true, ok_op, ok_call, ok_callD, ok_args1, ok_args0, ok_var, List.getElem?_cons_succ, List.getElem?_cons_zero, Option.some.injEq, exists_eq_left', List.append_nil]
        refine (L.path (M := M8) hdp2 hsz2 hnd hxm).mono fun d M9 ⟨e, F9⟩ => ?_
        subst e
        have hp1 := (T.told_ok [] _ x hok (by simp) hxm).2
        have hp2 : x.2.2.length ≤ 9000 := by
          have := T.way [] _ x hxm
          simp only [List.length_nil] at this
          omega
        rw [ok_repr_names hp1 hp2, ok_repr_names hp1 hp2, ok_eqs]
        simp only [beq_self_eq_true]
        exact ⟨by rw [List.replicate_succ'], F8.trans F9⟩
      · rintro ds M8 ⟨rfl, F8⟩
        simp only [List.length_map, List.length_replicate]
        refine ⟨by rw [T.told_len]; omega, ?_⟩
        have ea : gAll [.ref M8.sz] (M8.new (.lst (List.replicate ((T.grp nm b ms).told []).length (.bl true)))) = some (.bl true, M8.new (.lst (List.replicate ((T.grp nm b ms).told []).length (.bl true)))) := by
          simp only [gAll, lstOf, Mem.get_new_same, Option.bind_some, told_all (α := Unit), Option.map_some]
          have : (List.replicate ((T.grp nm b ms).told []).length true).all id = true := by
            rw [List.all_eq_true]
            intro x hx
            exact (List.mem_replicate.mp hx).2
          rw [this]
        simp only [ok_args0, ea, ok_some, truth, Option.some.injEq, exists_eq_left', Bool.not_true, Bool.false_eq_true, if_false]
        rw [ok_nil, behind_nx, ok_nil]
        have F58 : Fs [] M5 M8 := (F6.trans F7).trans F8
        refine ⟨⟨_, _, _, _, _, rfl⟩, (H5.keep (F58.eq h H5.lt (by simp)) (F58.eq r H5.lt2 (by simp))).new, ?_⟩
        have g8 := (F8.eq tn (Mem.get_lt g7) (by simp)).trans g7
        exact (Mem.get_new_lt (Mem.get_lt g8)).trans g8
    · rintro ρ M5 ⟨⟨a2, a4, a7, a8, a9, rfl⟩, H5, g5⟩
      rw [behind_nx, ok_cons, ok_sif]
      simp only [ok_xval, ok_op, ok_call, ok_args1, ok_args0, ok_var, List.getElem?_cons_succ, List.getElem?_cons_zero, Option.some.injEq, exists_eq_left', hrep, ok_nes, beq_self_eq_true, Bool.not_true, truth, Bool.false_eq_true, if_false]
      rw [ok_nil, behind_nx, ok_nil]
      exact ⟨⟨_, _, _, _, _, _, _, _, rfl⟩, H5⟩
  · rintro ρ M2 ⟨⟨a2, a3, a4, a5, a6, a7, a8, a9, rfl⟩, H2⟩
    rw [behind_nx, ok_cons, ok_ret, ok_con]
    rfl
end

/-! ### all levels -/
theorem call_eq (k f : Nat) : callN (k + 1) f = bodies (callN k) f := rfl
theorem pick_all (k : Nat) : PickOk (callN (k + 1) 4) := pick_is
theorem of_all (k : Nat) : OfOk (callN (k + 2) 3) := of_is (pick_all k)
theorem names_all (k : Nat) : NamesOk (callN (k + 3) 6) := names_ok (pick_all (k + 1)) (of_all k)
theorem group_all (k : Nat) : ∀ d, d ≤ k → GroupOk (callN (k + 3) 5) d := by
  induction k with
  | zero =>
    intro d hd
    exact group_ok (pick_all 1) (of_all 0) fun d' e => by omega
  | succ k ih =>
    intro d hd
    exact group_ok (pick_all (k + 2)) (of_all (k + 1)) fun d' e => ih d' (by omega)
theorem plan_all (k : Nat) : PlanOk (callN (k + 11) 2) := plan_ok (of_all (k + 8)) (names_all (k + 7)) fun d hd => group_all (k + 7) d (by omega)
theorem parts_all (k : Nat) : ∀ j, j ≤ k → PartsOk (callN (k + 1) 10) j := by
  induction k with
  | zero =>
    intro j hj
    exact parts_ok fun j' e => by omega
  | succ k ih =>
    intro j hj
    exact parts_ok fun j' e => ih j' (by omega)
theorem all_ok (k : Nat) : LawOk (callN (k + 22)) where
  hand := fun h => hand_ok h
  plan := plan_all (k + 11)
  sizes := fun {M P} => by
    show Ok (bodyD (b__law_sizes (callN (k + 21))) 0 [] M) P ↔ _
    rw [ok_body]
    unfold b__law_sizes
    simp only [List.map_nil, List.nil_append, List.length_nil, List.replicate, ok_cons, ok_ret, ok_lst, ok_tup, ok_args1, ok_args0, ok_con, behind_rt, ends_rt]
  tell := tell_ok
  hands := hands_ok (parts_all (k + 20) 20 (by omega))
  groups := groups_ok (parts_all (k + 20) 20 (by omega))
  path := path_ok (parts_all (k + 20) 20 (by omega))
theorem plain : ∀ ns : List Int, ns.length ≤ 63 → ∃ M', callN (40 + 1) 0 [.rol ns] ⟨#[]⟩ = some (.bl true, M') := by
  intro ns h
  obtain ⟨d, M', e, rfl⟩ := law_ok (C := callN 40) (all_ok 18) h (M := ⟨#[]⟩)
  exact ⟨M', e⟩
end K04

open PySem PySem.W PyProof.Rows
set_option maxRecDepth 100000 in
set_option maxHeartbeats 0 in
theorem PySem.Challenge.cw_nearlocks_k04_hands_groups_and_paths_holds : PySem.Challenge.rw_nearlocks_k04_hands_groups_and_paths.Holds := by
  w_on; o_law; k_head; (case hw => w_witness2)
  k_fill
  refine Nl.walk_go (l := PySem.Challenge.rw_nearlocks_k04_hands_groups_and_paths) (n := 63) (k := 40 + 1) (x := "_law_script") rfl (by decide) rfl ⟨rfl, by decide, by decide⟩ (fun w h Y => PySem.W.kIn_of Y) ?F K04.plain
  case F =>
    intro w mg fa h KX G hmg
    refine' K04.all_mk (l := PySem.Challenge.rw_nearlocks_k04_hands_groups_and_paths) KX G hmg ?a_law ?l_law ?c_law ?k_law ?a__law_hand ?l__law_hand ?c__law_hand ?k__law_hand ?a__law_plan ?l__law_plan ?c__law_plan ?k__law_plan ?a__law_of ?l__law_of ?c__law_of ?k__law_of ?a__law_pick ?l__law_pick ?c__law_pick ?k__law_pick ?a__law_group ?l__law_group ?c__law_group ?k__law_group ?a__law_names ?l__law_names ?c__law_names ?k__law_names ?a__law_sizes ?l__law_sizes ?c__law_sizes ?k__law_sizes ?a__law_told ?l__law_told ?c__law_told ?k__law_told ?a_hands_of ?l_hands_of ?c_hands_of ?k_hands_of ?a_parts_of ?l_parts_of ?c_parts_of ?k_parts_of ?t_parts_of ?a_groups_of ?l_groups_of ?c_groups_of ?k_groups_of ?a_path_of ?l_path_of ?c_path_of ?k_path_of ?z_all ?z_isinstance ?z_len ?z_range ?z_repr ?z_str ?z_tuple 40
    (case a_law => k_is)
    (case l_law => k_is)
    (case c_law => k_is)
    (case k_law => k_is)
    (case a__law_hand => k_is)
    (case l__law_hand => k_is)
    (case c__law_hand => k_is)
    (case k__law_hand => k_is)
    (case a__law_plan => k_is)
    (case l__law_plan => k_is)
    (case c__law_plan => k_is)
    (case k__law_plan => k_is)
    (case a__law_of => k_is)
    (case l__law_of => k_is)
    (case c__law_of => k_is)
    (case k__law_of => k_is)
    (case a__law_pick => k_is)
    (case l__law_pick => k_is)
    (case c__law_pick => k_is)
    (case k__law_pick => k_is)
    (case a__law_group => k_is)
    (case l__law_group => k_is)
    (case c__law_group => k_is)
    (case k__law_group => k_is)
    (case a__law_names => k_is)
    (case l__law_names => k_is)
    (case c__law_names => k_is)
    (case k__law_names => k_is)
    (case a__law_sizes => k_is)
    (case l__law_sizes => k_is)
    (case c__law_sizes => k_is)
    (case k__law_sizes => k_is)
    (case a__law_told => k_is)
    (case l__law_told => k_is)
    (case c__law_told => k_is)
    (case k__law_told => k_is)
    (case a_hands_of => k_is)
    (case l_hands_of => k_is)
    (case c_hands_of => k_is)
    (case k_hands_of => k_is)
    (case a_parts_of => k_is)
    (case l_parts_of => k_is)
    (case c_parts_of => k_is)
    (case k_parts_of => k_is)
    (case t_parts_of => k_is)
    (case a_groups_of => k_is)
    (case l_groups_of => k_is)
    (case c_groups_of => k_is)
    (case k_groups_of => k_is)
    (case a_path_of => k_is)
    (case l_path_of => k_is)
    (case c_path_of => k_is)
    (case k_path_of => k_is)
    (case z_all => k_is)
    (case z_isinstance => k_is)
    (case z_len => k_is)
    (case z_range => k_is)
    (case z_repr => k_is)
    (case z_str => k_is)
    (case z_tuple => k_is)
