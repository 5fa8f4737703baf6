import PyProof.Rows.All
import Wide.All
import OpenK.AllK
import Wide.FinOn
import HandS.ForMost
import HandS.Wide
import HandS.Flow
import HandS.Deep
import HandS.IsInst
import HandS.More
import HandS.DictComp
import HandS.Words
import HandS.Text
import HandS.Defaults
import HandS.HeadHook3
import PyProof.ReprBulk
import PySem.Challenge.RW_nearlocks_k05_programs_at_their_bounds
set_option Elab.async false
set_option linter.all false
/-! Nl, part A: values by content, memory, the relation to the abstract heap. -/
namespace Nl
open PySem L2
set_option autoImplicit false

/-- a value: tuples by their items; what can change by a number of the memory -/
inductive D where
  | non | bl (b : Bool) | int (i : Int) | str (x : Str) | tup (ds : List D) | ref (n : Nat) | rol (xs : List Int) | fn (f : Nat) | ty (n : String)
instance : Inhabited D := ⟨.non⟩
/-! ### values can be told apart -/
mutual
def eqDD : D → D → Bool
  | .non, .non => true
  | .bl a, .bl b => a == b
  | .int a, .int b => a == b
  | .str a, .str b => a == b
  | .tup a, .tup b => eqDL a b
  | .ref a, .ref b => a == b
  | .rol a, .rol b => a == b
  | .fn a, .fn b => a == b
  | .ty a, .ty b => a == b
  | _, _ => false
def eqDL : List D → List D → Bool
  | [], [] => true
  | a :: as, b :: bs => eqDD a b && eqDL as bs
  | _, _ => false
end
mutual
theorem eqDD_refl : ∀ a, eqDD a a = true
  | .non => rfl
  | .bl _ => by simp [eqDD]
  | .int _ => by simp [eqDD]
  | .str _ => by simp [eqDD]
  | .tup a => by rw [eqDD]; exact eqDL_refl a
  | .ref _ => by simp [eqDD]
  | .rol _ => by simp [eqDD]
  | .fn _ => by simp [eqDD]
  | .ty _ => by simp [eqDD]
theorem eqDL_refl : ∀ a, eqDL a a = true
  | [] => rfl
  | a :: as => by rw [eqDL, eqDD_refl a, eqDL_refl as]; rfl
end
mutual
theorem eqDD_eq : ∀ a b, eqDD a b = true → a = b
  | .non, b, h => by cases b <;> first | rfl | simp [eqDD] at h
  | .bl _, b, h => by cases b <;> simp [eqDD] at h; rw [h]
  | .int _, b, h => by cases b <;> simp [eqDD] at h; rw [h]
  | .str _, b, h => by cases b <;> simp [eqDD] at h; rw [h]
  | .tup a, b, h => by cases b <;> simp [eqDD] at h; rw [eqDL_eq _ _ h]
  | .ref _, b, h => by cases b <;> simp [eqDD] at h; rw [h]
  | .rol _, b, h => by cases b <;> simp [eqDD] at h; rw [h]
  | .fn _, b, h => by cases b <;> simp [eqDD] at h; rw [h]
  | .ty _, b, h => by cases b <;> simp [eqDD] at h; rw [h]
theorem eqDL_eq : ∀ a b, eqDL a b = true → a = b
  | [], b, h => by cases b <;> first | rfl | simp [eqDL] at h
  | a :: as, b, h => by
    cases b with
    | nil => simp [eqDL] at h
    | cons b bs =>
      rw [eqDL, Bool.and_eq_true] at h
      rw [eqDD_eq a b h.1, eqDL_eq as bs h.2]
end
instance : DecidableEq D := fun a b => if h : eqDD a b = true then .isTrue (eqDD_eq a b h) else .isFalse fun e => h (by rw [e]; exact eqDD_refl b)

/-- what stands in the memory -/
inductive O where
  | lst (xs : List D)
  | dct (kvs : List (Key × D))
  | lck (kvs : List (Key × D))
  | dtt (kvs : List (List Key × D))
  | ins (c : Nat) (fs : List (Str × D))
  deriving DecidableEq
instance : Inhabited O := ⟨.lst []⟩

structure Mem where
  arr : Array O
namespace Mem
def sz (M : Mem) : Nat := M.arr.size
def get (M : Mem) (n : Nat) : Option O := M.arr[n]?
def put (M : Mem) (n : Nat) (o : O) : Mem := ⟨M.arr.setIfInBounds n o⟩
def new (M : Mem) (o : O) : Mem := ⟨M.arr.push o⟩
theorem get_lt {M : Mem} {n : Nat} {o : O} (h : M.get n = some o) : n < M.sz := by
  unfold get at h; unfold sz
  exact (Array.getElem?_eq_some_iff.mp h).1
theorem get_some {M : Mem} {n : Nat} (h : n < M.sz) : ∃ o, M.get n = some o := by
  unfold get; unfold sz at h
  exact ⟨M.arr[n], Array.getElem?_eq_getElem h⟩
@[simp] theorem sz_put (M : Mem) (n : Nat) (o : O) : (M.put n o).sz = M.sz := by simp [put, sz]
@[simp] theorem sz_new (M : Mem) (o : O) : (M.new o).sz = M.sz + 1 := by simp [new, sz]
theorem get_put (M : Mem) (n m : Nat) (o : O) : (M.put n o).get m = if n = m then (if n < M.sz then some o else none) else M.get m := by
  unfold put get sz
  rw [Array.getElem?_setIfInBounds]
  all_goals rfl
theorem get_put_same {M : Mem} {n : Nat} {o : O} (h : n < M.sz) : (M.put n o).get n = some o := by simp [get_put, h]
theorem get_put_ne {M : Mem} {n m : Nat} {o : O} (h : n ≠ m) : (M.put n o).get m = M.get m := by simp [get_put, h]
theorem get_new (M : Mem) (m : Nat) (o : O) : (M.new o).get m = if m = M.sz then some o else M.get m := by
  unfold new get sz
  rw [Array.getElem?_push]
  all_goals rfl
theorem get_new_same {M : Mem} {o : O} : (M.new o).get M.sz = some o := by simp [get_new]
theorem get_new_lt {M : Mem} {m : Nat} {o : O} (h : m < M.sz) : (M.new o).get m = M.get m := by simp [get_new, Nat.ne_of_lt h]
end Mem

abbrev Out (α : Type) := Option (α × Mem)
abbrev Rho := List (Option D)
abbrev Ev := Rho → Mem → Out D
abbrev Evs := Rho → Mem → Out (List D)

/-! ### the relation -/
/-- what is fixed through a law: the text, the world, the written part, where defs and classes stand -/
structure Ga where
  P : Program
  w : World
  K : PySem.W.Frag
  mg : Str → Option Value
  base : Heap
  fa : Nat → Addr
  ca : Nat → Addr

/-- a list that is read, never written -/
def RoL (K : PySem.W.Frag) (H : Hp) (a : Addr) (xs : List V) : Prop :=
  (∃ o, H a = some (.frz o (.lst xs))) ∨ ∃ (o : Obj) (its : Array Value) (n : Nat), K.lookup a = some o ∧ o.cls = .type "list" ∧ o.dict = none ∧ o.data = .seq its n ∧ its.size ≤ sizeLine ∧ Vals xs its.toList
theorem RoL.sq {K : PySem.W.Frag} {H : Hp} {a : Addr} {xs : List V} (h : RoL K H a xs) : SqL K H a xs := by
  rcases h with ⟨o, h⟩ | h
  · exact .inl (.inr ⟨o, h⟩)
  · exact .inr h

mutual
inductive R (Γ : Ga) (ι : Nat → Addr) (N : Nat) (H : Hp) : D → V → Prop
  | non : R Γ ι N H .non .non
  | bl (b : Bool) : R Γ ι N H (.bl b) (.bl b)
  | int (i : Int) : R Γ ι N H (.int i) (.int i)
  | str (x : Str) : R Γ ι N H (.str x) (.str x)
  | tup {a : Addr} {ds : List D} {xs : List V} : SqT Γ.K H a xs → RL Γ ι N H ds xs → R Γ ι N H (.tup ds) (.ref a)
  | ref {n : Nat} : n < N → R Γ ι N H (.ref n) (.ref (ι n))
  | rol {a : Addr} {xs : List Int} : RoL Γ.K H a (xs.map V.int) → R Γ ι N H (.rol xs) (.ref a)
  | fn (f : Nat) : R Γ ι N H (.fn f) (.ref (Γ.fa f))
  | ty (n : String) : R Γ ι N H (.ty n) (.ty n)
inductive RL (Γ : Ga) (ι : Nat → Addr) (N : Nat) (H : Hp) : List D → List V → Prop
  | nil : RL Γ ι N H [] []
  | cons {d : D} {ds : List D} {v : V} {vs : List V} : R Γ ι N H d v → RL Γ ι N H ds vs → RL Γ ι N H (d :: ds) (v :: vs)
end

/-- pairs of keys (or names) and values -/
inductive RK {κ : Type} (Γ : Ga) (ι : Nat → Addr) (N : Nat) (H : Hp) : List (κ × D) → List (κ × V) → Prop
  | nil : RK Γ ι N H [] []
  | cons {k : κ} {d : D} {v : V} {ds : List (κ × D)} {vs : List (κ × V)} : R Γ ι N H d v → RK Γ ι N H ds vs → RK Γ ι N H ((k, d) :: ds) ((k, v) :: vs)

def RO (Γ : Ga) (ι : Nat → Addr) (N : Nat) (H : Hp) (a : Addr) : O → Prop
  | .lst ds => ∃ xs, H a = some (.lst xs) ∧ RL Γ ι N H ds xs
  | .dct kvs => ∃ xs, H a = some (.dK xs) ∧ RK Γ ι N H kvs xs
  | .lck kvs => ∃ od xs, H a = some (.frz od (.dK xs)) ∧ RK Γ ι N H kvs xs
  | .dtt kvs => ∃ xs, H a = some (.dT xs) ∧ RK Γ ι N H kvs xs
  | .ins c fs => ∃ dx xs, H a = some (.ins (Γ.ca c) dx xs) ∧ RK Γ ι N H fs xs

structure RM (Γ : Ga) (ι : Nat → Addr) (M : Mem) (H : Hp) : Prop where
  ob : ∀ n o, M.get n = some o → RO Γ ι M.sz H (ι n) o
  inj : ∀ m n, m < M.sz → n < M.sz → ι m = ι n → m = n

/-- kinds of things that no value by content leans on -/
def Loose : Option HO → Prop
  | none => True
  | some (.lst _) => True
  | some (.dK _) => True
  | some (.dT _) => True
  | some (.ins _ _ _) => True
  | some (.frz _ (.dK _)) => True
  | some (.own _) => True
  | _ => False

theorem ro_loose {Γ : Ga} {ι : Nat → Addr} {N : Nat} {H : Hp} {a : Addr} {o : O} (h : RO Γ ι N H a o) : Loose (H a) := by
  cases o with
  | lst ds => obtain ⟨xs, e, _⟩ := h; rw [e]; trivial
  | dct ds => obtain ⟨xs, e, _⟩ := h; rw [e]; trivial
  | lck ds => obtain ⟨od, xs, e, _⟩ := h; rw [e]; trivial
  | dtt ds => obtain ⟨xs, e, _⟩ := h; rw [e]; trivial
  | ins c fs => obtain ⟨dx, xs, e, _⟩ := h; rw [e]; trivial
theorem ro_there {Γ : Ga} {ι : Nat → Addr} {N : Nat} {H : Hp} {a : Addr} {o : O} (h : RO Γ ι N H a o) : H a ≠ none := by
  cases o with
  | lst ds => obtain ⟨xs, e, _⟩ := h; rw [e]; simp
  | dct ds => obtain ⟨xs, e, _⟩ := h; rw [e]; simp
  | lck ds => obtain ⟨od, xs, e, _⟩ := h; rw [e]; simp
  | dtt ds => obtain ⟨xs, e, _⟩ := h; rw [e]; simp
  | ins c fs => obtain ⟨dx, xs, e, _⟩ := h; rw [e]; simp
theorem RM.loose {Γ : Ga} {ι : Nat → Addr} {M : Mem} {H : Hp} (r : RM Γ ι M H) {n : Nat} (h : n < M.sz) : Loose (H (ι n)) := by
  obtain ⟨o, e⟩ := Mem.get_some h
  exact ro_loose (r.ob n o e)
theorem RM.there {Γ : Ga} {ι : Nat → Addr} {M : Mem} {H : Hp} (r : RM Γ ι M H) {n : Nat} (h : n < M.sz) : H (ι n) ≠ none := by
  obtain ⟨o, e⟩ := Mem.get_some h
  exact ro_there (r.ob n o e)

/-- from one moment to a later one -/
structure Ext (ι ι' : Nat → Addr) (N N' : Nat) (H H' : Hp) : Prop where
  le : N ≤ N'
  ag : ∀ n, n < N → ι' n = ι n
  new : ∀ n, N ≤ n → n < N' → H (ι' n) = none
  keep : ∀ a o, H a = some o → (∀ n, n < N → ι n ≠ a) → H' a = some o

theorem Ext.refl (ι : Nat → Addr) (N : Nat) (H : Hp) : Ext ι ι N N H H :=
  ⟨Nat.le_refl _, fun _ _ => rfl, fun n h1 h2 => absurd h2 (Nat.not_lt.mpr h1), fun _ _ h _ => h⟩

theorem sqT_keep {K : PySem.W.Frag} {H H' : Hp} {a : Addr} {xs : List V} (h : SqT K H a xs) (k : ∀ o, H a = some o → ¬ Loose (H a) → H' a = some o) : SqT K H' a xs := by
  rcases h with (h | ⟨o, h⟩) | h
  · exact .inl (.inl (k _ h (by rw [h]; exact id)))
  · exact .inl (.inr ⟨o, k _ h (by rw [h]; exact id)⟩)
  · exact .inr h
theorem rol_keep {K : PySem.W.Frag} {H H' : Hp} {a : Addr} {xs : List V} (h : RoL K H a xs) (k : ∀ o, H a = some o → ¬ Loose (H a) → H' a = some o) : RoL K H' a xs := by
  rcases h with ⟨o, h⟩ | h
  · exact .inl ⟨o, k _ h (by rw [h]; exact id)⟩
  · exact .inr h

section
variable {Γ : Ga} {ι ι' : Nat → Addr} {N N' : Nat} {H H' : Hp}
mutual
theorem R.mono (hl : N ≤ N') (ha : ∀ n, n < N → ι' n = ι n) (k : ∀ a o, H a = some o → ¬ Loose (H a) → H' a = some o) : ∀ (d : D) (v : V), R Γ ι N H d v → R Γ ι' N' H' d v
  | .non, _, h => by cases h; exact .non
  | .bl _, _, h => by cases h; exact .bl _
  | .int _, _, h => by cases h; exact .int _
  | .str _, _, h => by cases h; exact .str _
  | .tup ds, _, h => by
    cases h with
    | tup hs hr => exact .tup (sqT_keep hs (k _)) (RL.mono hl ha k ds _ hr)
  | .ref n, _, h => by
    cases h with
    | ref hn => rw [← ha n hn]; exact .ref (Nat.lt_of_lt_of_le hn hl)
  | .rol _, _, h => by
    cases h with
    | rol hs => exact .rol (rol_keep hs (k _))
  | .fn _, _, h => by cases h; exact .fn _
  | .ty _, _, h => by cases h; exact .ty _
theorem RL.mono (hl : N ≤ N') (ha : ∀ n, n < N → ι' n = ι n) (k : ∀ a o, H a = some o → ¬ Loose (H a) → H' a = some o) : ∀ (ds : List D) (vs : List V), RL Γ ι N H ds vs → RL Γ ι' N' H' ds vs
  | [], _, h => by cases h; exact .nil
  | d :: ds, _, h => by
    cases h with
    | cons h1 h2 => exact .cons (R.mono hl ha k d _ h1) (RL.mono hl ha k ds _ h2)
end
theorem RK.mono {κ : Type} (hl : N ≤ N') (ha : ∀ n, n < N → ι' n = ι n) (k : ∀ a o, H a = some o → ¬ Loose (H a) → H' a = some o) : ∀ {ds : List (κ × D)} {vs : List (κ × V)}, RK Γ ι N H ds vs → RK Γ ι' N' H' ds vs
  | _, _, .nil => .nil
  | _, _, .cons h t => .cons (R.mono hl ha k _ _ h) (RK.mono hl ha k t)
theorem ro_mono {a : Addr} {o : O} (hl : N ≤ N') (ha : ∀ n, n < N → ι' n = ι n) (k : ∀ a o, H a = some o → ¬ Loose (H a) → H' a = some o) (hk : H' a = H a) (h : RO Γ ι N H a o) : RO Γ ι' N' H' a o := by
  cases o with
  | lst ds => obtain ⟨xs, e, r⟩ := h; exact ⟨xs, hk.trans e, RL.mono hl ha k _ _ r⟩
  | dct ds => obtain ⟨xs, e, r⟩ := h; exact ⟨xs, hk.trans e, RK.mono hl ha k r⟩
  | lck ds => obtain ⟨od, xs, e, r⟩ := h; exact ⟨od, xs, hk.trans e, RK.mono hl ha k r⟩
  | dtt ds => obtain ⟨xs, e, r⟩ := h; exact ⟨xs, hk.trans e, RK.mono hl ha k r⟩
  | ins c fs => obtain ⟨dx, xs, e, r⟩ := h; exact ⟨dx, xs, hk.trans e, RK.mono hl ha k r⟩
end

section
variable {Γ : Ga} {ι ι' : Nat → Addr} {M M' : Mem} {N' : Nat} {H H' : Hp}
theorem RM.keeps (r : RM Γ ι M H) (e : Ext ι ι' M.sz N' H H') : ∀ a o, H a = some o → ¬ Loose (H a) → H' a = some o := fun a o h nl =>
  e.keep a o h fun n hn z => nl (by rw [← z]; exact r.loose hn)
theorem R.ext {d : D} {v : V} (h : R Γ ι M.sz H d v) (r : RM Γ ι M H) (e : Ext ι ι' M.sz N' H H') : R Γ ι' N' H' d v := R.mono e.le e.ag (r.keeps e) _ _ h
theorem RL.ext {d : List D} {v : List V} (h : RL Γ ι M.sz H d v) (r : RM Γ ι M H) (e : Ext ι ι' M.sz N' H H') : RL Γ ι' N' H' d v := RL.mono e.le e.ag (r.keeps e) _ _ h
theorem RK.ext {κ : Type} {d : List (κ × D)} {v : List (κ × V)} (h : RK Γ ι M.sz H d v) (r : RM Γ ι M H) (e : Ext ι ι' M.sz N' H H') : RK Γ ι' N' H' d v := RK.mono e.le e.ag (r.keeps e) h
/-- one step behind another -/
theorem Ext.trans {ι1 ι2 : Nat → Addr} {M1 : Mem} {N2 : Nat} {H1 H2 : Hp} (e1 : Ext ι ι1 M.sz M1.sz H H1) (r1 : RM Γ ι1 M1 H1) (e2 : Ext ι1 ι2 M1.sz N2 H1 H2) : Ext ι ι2 M.sz N2 H H2 where
  le := Nat.le_trans e1.le e2.le
  ag := fun n hn => (e2.ag n (Nat.lt_of_lt_of_le hn e1.le)).trans (e1.ag n hn)
  new := fun n h1 h2 => by
    by_cases hn : n < M1.sz
    · rw [e2.ag n hn]
      exact e1.new n h1 hn
    · have z := e2.new n (Nat.not_lt.mp hn) h2
      cases q : H (ι2 n) with
      | none => rfl
      | some o =>
        by_cases hm : ∃ m, m < M.sz ∧ ι m = ι2 n
        · obtain ⟨m, hm, e⟩ := hm
          rw [← e, ← e1.ag m hm] at z
          exact absurd z (r1.there (Nat.lt_of_lt_of_le hm e1.le))
        · have w := e1.keep _ o q fun m h3 e => hm ⟨m, h3, e⟩
          rw [z] at w
          cases w
  keep := fun a o h hn => e2.keep a o (e1.keep a o h hn) fun n h2 e => by
    by_cases hm : n < M.sz
    · exact hn n hm ((e1.ag n hm).symm.trans e)
    · have z := e1.new n (Nat.not_lt.mp hm) h2
      rw [e, h] at z
      cases z
/-- a thing that no one here leans on is laid at a free place, or changed -/
theorem RM.junk (r : RM Γ ι M H) {p : Addr} {o : HO} (hp : H p = none) : RM Γ ι M (upd H p o) where
  ob := fun n ob h => by
    have ne : ι n ≠ p := fun e => r.there (Mem.get_lt h) (by rw [e]; exact hp)
    refine ro_mono (Nat.le_refl _) (fun _ _ => rfl) (fun a u h1 _ => ?_) (upd_ne ne) (r.ob n ob h)
    rw [upd_ne (ne_of_none h1 hp)]; exact h1
  inj := r.inj
theorem Ext.junk {N : Nat} {p : Addr} {o : HO} (hp : H p = none) : Ext ι ι N N H (upd H p o) :=
  ⟨Nat.le_refl _, fun _ _ => rfl, fun n h1 h2 => absurd h2 (Nat.not_lt.mpr h1), fun a u h _ => by rw [upd_ne (ne_of_none h hp)]; exact h⟩
/-- the numbering with one more -/
def more (ι : Nat → Addr) (N : Nat) (p : Addr) : Nat → Addr := fun n => if n = N then p else ι n
theorem more_same {N : Nat} {p : Addr} : more ι N p N = p := if_pos rfl
theorem more_lt {N n : Nat} {p : Addr} (h : n < N) : more ι N p n = ι n := if_neg (Nat.ne_of_lt h)
theorem Ext.more {p : Addr} {o : HO} (hp : H p = none) : Ext ι (Nl.more ι M.sz p) M.sz (M.sz + 1) H (upd H p o) where
  le := Nat.le_succ _
  ag := fun n h => more_lt h
  new := fun n h1 h2 => by
    have e : n = M.sz := by omega
    subst e
    rw [more_same]; exact hp
  keep := fun a u h _ => by rw [upd_ne (ne_of_none h hp)]; exact h
/-- an object is tracked already at p (not of the numbering): it gets the next number -/
theorem RM.adopt (r : RM Γ ι M H) {p : Addr} {ob : O} (hp : ∀ n, n < M.sz → ι n ≠ p) (h : RO Γ (more ι M.sz p) (M.sz + 1) H p ob) : RM Γ (more ι M.sz p) (M.new ob) H where
  ob := fun n o e => by
    rw [Mem.sz_new]
    rw [Mem.get_new] at e
    by_cases hn : n = M.sz
    · rw [if_pos hn] at e
      cases e
      subst hn
      rw [more_same]; exact h
    · rw [if_neg hn] at e
      have lt := Mem.get_lt e
      rw [more_lt lt]
      exact ro_mono (Nat.le_succ _) (fun m hm => more_lt hm) (fun _ _ z _ => z) rfl (r.ob n o e)
  inj := fun m n hm hn e => by
    rw [Mem.sz_new] at hm hn
    by_cases h1 : m = M.sz
    · by_cases h2 : n = M.sz
      · rw [h1, h2]
      · have lt : n < M.sz := by omega
        rw [h1, more_same, more_lt lt] at e
        exact absurd e.symm (hp n lt)
    · have lm : m < M.sz := by omega
      by_cases h2 : n = M.sz
      · rw [h2, more_same, more_lt lm] at e
        exact absurd e (hp m lm)
      · have lt : n < M.sz := by omega
        rw [more_lt lm, more_lt lt] at e
        exact r.inj m n lm lt e
theorem RM.fresh (r : RM Γ ι M H) {p : Addr} (hp : H p = none) : ∀ n, n < M.sz → ι n ≠ p := fun n hn e => r.there hn (by rw [e]; exact hp)
/-- a new object of the memory -/
theorem RM.laid (r : RM Γ ι M H) {p : Addr} {o : HO} {ob : O} (hp : H p = none) (h : RO Γ (more ι M.sz p) (M.sz + 1) (upd H p o) p ob) : RM Γ (more ι M.sz p) (M.new ob) (upd H p o) :=
  (r.junk hp).adopt (r.fresh hp) h
/-- an object of the memory changes -/
theorem RM.put (r : RM Γ ι M H) {n : Nat} {o : HO} {ob : O} (hn : n < M.sz) (h : RO Γ ι M.sz (upd H (ι n) o) (ι n) ob) : RM Γ ι (M.put n ob) (upd H (ι n) o) where
  ob := fun m u e => by
    rw [Mem.sz_put]
    by_cases hm : n = m
    · subst hm
      rw [Mem.get_put_same hn] at e
      cases e
      exact h
    · rw [Mem.get_put_ne hm] at e
      have ne : ι m ≠ ι n := fun q => hm (r.inj n m hn (Mem.get_lt e) q.symm)
      refine ro_mono (Nat.le_refl _) (fun _ _ => rfl) (fun a y h1 nl => ?_) (upd_ne ne) (r.ob m u e)
      rw [upd_ne fun q => nl (by rw [q]; exact r.loose hn)]; exact h1
  inj := fun m k hm hk => by
    rw [Mem.sz_put] at hm hk
    exact r.inj m k hm hk
theorem Ext.put {n : Nat} {o : HO} {N : Nat} (hn : n < N) : Ext ι ι N N H (upd H (ι n) o) :=
  ⟨Nat.le_refl _, fun _ _ => rfl, fun n h1 h2 => absurd h2 (Nat.not_lt.mpr h1), fun a u h hne => by rw [upd_ne (Ne.symm (hne n hn))]; exact h⟩
/-- values stay what they are where loose things alone change -/
theorem R.upd {N : Nat} {d : D} {v : V} {a : Addr} {o : HO} (h : R Γ ι N H d v) (l : Loose (H a)) : R Γ ι N (upd H a o) d v :=
  R.mono (Nat.le_refl _) (fun _ _ => rfl) (fun b u h1 nl => by rw [upd_ne fun q => nl (by rw [q]; exact l)]; exact h1) _ _ h
theorem RL.upd {N : Nat} {d : List D} {v : List V} {a : Addr} {o : HO} (h : RL Γ ι N H d v) (l : Loose (H a)) : RL Γ ι N (upd H a o) d v :=
  RL.mono (Nat.le_refl _) (fun _ _ => rfl) (fun b u h1 nl => by rw [upd_ne fun q => nl (by rw [q]; exact l)]; exact h1) _ _ h
theorem RK.upd {κ : Type} {N : Nat} {d : List (κ × D)} {v : List (κ × V)} {a : Addr} {o : HO} (h : RK Γ ι N H d v) (l : Loose (H a)) : RK Γ ι N (upd H a o) d v :=
  RK.mono (Nat.le_refl _) (fun _ _ => rfl) (fun b u h1 nl => by rw [upd_ne fun q => nl (by rw [q]; exact l)]; exact h1) h
theorem loose_none {p : Addr} (h : H p = none) : Loose (H p) := by rw [h]; trivial
/-- values at the numbering with one more -/
theorem R.more {d : D} {v : V} {p : Addr} {o : HO} (h : R Γ ι M.sz H d v) (hp : H p = none) : R Γ (Nl.more ι M.sz p) (M.sz + 1) (L2.upd H p o) d v :=
  R.mono (Nat.le_succ _) (fun n hn => more_lt hn) (fun b u h1 _ => by rw [upd_ne (ne_of_none h1 hp)]; exact h1) _ _ h
theorem RL.more {d : List D} {v : List V} {p : Addr} {o : HO} (h : RL Γ ι M.sz H d v) (hp : H p = none) : RL Γ (Nl.more ι M.sz p) (M.sz + 1) (L2.upd H p o) d v :=
  RL.mono (Nat.le_succ _) (fun n hn => more_lt hn) (fun b u h1 _ => by rw [upd_ne (ne_of_none h1 hp)]; exact h1) _ _ h
theorem RK.more {κ : Type} {d : List (κ × D)} {v : List (κ × V)} {p : Addr} {o : HO} (h : RK Γ ι M.sz H d v) (hp : H p = none) : RK Γ (Nl.more ι M.sz p) (M.sz + 1) (L2.upd H p o) d v :=
  RK.mono (Nat.le_succ _) (fun n hn => more_lt hn) (fun b u h1 _ => by rw [upd_ne (ne_of_none h1 hp)]; exact h1) h
end

/-! ### slots -/
structure RS (Γ : Ga) (ι : Nat → Addr) (N : Nat) (H : Hp) (ρ : Rho) (σ : St) : Prop where
  len : ρ.length = σ.length
  at_ : ∀ (i : Nat) (d : D), ρ[i]? = some (some d) → ∃ v, σ[i]? = some (some v) ∧ R Γ ι N H d v
section
variable {Γ : Ga} {ι ι' : Nat → Addr} {M : Mem} {N N' : Nat} {H H' : Hp} {ρ : Rho} {σ : St}
theorem RS.ext (h : RS Γ ι M.sz H ρ σ) (r : RM Γ ι M H) (e : Ext ι ι' M.sz N' H H') : RS Γ ι' N' H' ρ σ :=
  ⟨h.len, fun i d q => let ⟨v, e1, e2⟩ := h.at_ i d q; ⟨v, e1, e2.ext r e⟩⟩
theorem RS.set (h : RS Γ ι N H ρ σ) {d : D} {v : V} (i : Nat) (r : R Γ ι N H d v) : RS Γ ι N H (ρ.set i (some d)) (σ.set i (some v)) := by
  refine ⟨by rw [List.length_set, List.length_set]; exact h.len, fun j e q => ?_⟩
  by_cases hj : i = j
  · subst hj
    by_cases hl : i < ρ.length
    · rw [List.getElem?_set_self hl] at q
      cases q
      exact ⟨v, List.getElem?_set_self (by rw [← h.len]; exact hl), r⟩
    · rw [List.getElem?_eq_none (by rw [List.length_set]; omega)] at q
      cases q
  · rw [List.getElem?_set_ne hj] at q ⊢
    exact h.at_ j e q
end

/-! ### readings -/
/-- the end of a run, wished for -/
def ResT (Γ : Ga) (ι : Nat → Addr) (M : Mem) (H : Hp) (out : Out D) (Q : VK) : Prop :=
  ∃ d M', out = some (d, M') ∧ ∀ v H' ι', Ext ι ι' M.sz M'.sz H H' → RM Γ ι' M' H' → R Γ ι' M'.sz H' d v → Q v H'
def ResB (Γ : Ga) (ι : Nat → Addr) (M : Mem) (H : Hp) (out : Out Bool) (Q : Bool → Hp → Prop) : Prop :=
  ∃ b M', out = some (b, M') ∧ ∀ H' ι', Ext ι ι' M.sz M'.sz H H' → RM Γ ι' M' H' → Q b H'
def ResL (Γ : Ga) (ι : Nat → Addr) (M : Mem) (H : Hp) (out : Out (List D)) (Q : List V → Hp → Prop) : Prop :=
  ∃ ds M', out = some (ds, M') ∧ ∀ vs H' ι', Ext ι ι' M.sz M'.sz H H' → RM Γ ι' M' H' → RL Γ ι' M'.sz H' ds vs → Q vs H'
/-- the state of both sides -/
structure Sim (Γ : Ga) (ι : Nat → Addr) (M : Mem) (H : Hp) (ρ : Rho) (σ : St) : Prop where
  m : RM Γ ι M H
  s : RS Γ ι M.sz H ρ σ
theorem Sim.ext {Γ : Ga} {ι ι' : Nat → Addr} {M M' : Mem} {H H' : Hp} {ρ : Rho} {σ : St} (h : Sim Γ ι M H ρ σ) (e : Ext ι ι' M.sz M'.sz H H') (r : RM Γ ι' M' H') : Sim Γ ι' M' H' ρ σ := ⟨r, h.s.ext h.m e⟩
def tE (Γ : Ga) (m : Ev) : TE := fun σ H Q => ∃ ι ρ M, Sim Γ ι M H ρ σ ∧ ResT Γ ι M H (m ρ M) Q
def tB (Γ : Ga) (m : Rho → Mem → Out Bool) : TT := fun σ H Q => ∃ ι ρ M, Sim Γ ι M H ρ σ ∧ ResB Γ ι M H (m ρ M) Q
def tL (Γ : Ga) (m : Evs) : TA := fun σ H Q => ∃ ι ρ M, Sim Γ ι M H ρ σ ∧ ResL Γ ι M H (m ρ M) Q
inductive Fl where
  | nx (ρ : Rho) | rt (d : D) | bk (ρ : Rho) | ct (ρ : Rho)
abbrev Sv := Rho → Mem → Out Fl
def FlT (Γ : Ga) (ι : Nat → Addr) (N : Nat) (H : Hp) (M' : Mem) (E : Ends) : Fl → Prop
  | .nx ρ' => ∀ σ' H' ι', Ext ι ι' N M'.sz H H' → Sim Γ ι' M' H' ρ' σ' → E.nx σ' H'
  | .rt d => ∀ v H' ι', Ext ι ι' N M'.sz H H' → RM Γ ι' M' H' → R Γ ι' M'.sz H' d v → E.rt v H'
  | .bk ρ' => ∀ σ' H' ι', Ext ι ι' N M'.sz H H' → Sim Γ ι' M' H' ρ' σ' → E.bk σ' H'
  | .ct ρ' => ∀ σ' H' ι', Ext ι ι' N M'.sz H H' → Sim Γ ι' M' H' ρ' σ' → E.ct σ' H'
def ResS (Γ : Ga) (ι : Nat → Addr) (M : Mem) (H : Hp) (out : Out Fl) (E : Ends) : Prop := ∃ f M', out = some (f, M') ∧ FlT Γ ι M.sz H M' E f
def tS (Γ : Ga) (m : Sv) : TS := fun E σ H => ∃ ι ρ M, Sim Γ ι M H ρ σ ∧ ResS Γ ι M H (m ρ M) E

/-- a stronger asking serves, too -/
theorem PE.of {X : Cx} {e : Expr} {t t' : TE} (h : PE X e t) (w : ∀ σ H Q, t' σ H Q → t σ H Q) : PE X e t' := ⟨fun pins s σ H Q I q => h.run pins s σ H Q I (w _ _ _ q)⟩
theorem PT.of {X : Cx} {e : Expr} {t t' : TT} (h : PT X e t) (w : ∀ σ H Q, t' σ H Q → t σ H Q) : PT X e t' := ⟨fun pins s σ H Q I q => h.run pins s σ H Q I (w _ _ _ q)⟩
theorem PA.of {X : Cx} {e : List Expr} {t t' : TA} (h : PA X e t) (w : ∀ σ H Q, t' σ H Q → t σ H Q) : PA X e t' := ⟨fun pos pins s σ H Q I q => h.run pos pins s σ H Q I (w _ _ _ q)⟩
theorem PS.of {X : Cx} {e : Stmt} {t t' : TS} (h : PS X e t) (w : ∀ E σ H, t' E σ H → t E σ H) : PS X e t' := ⟨fun pins s σ H E I q => h.run pins s σ H E I (w _ _ _ q)⟩
theorem PSs.of {X : Cx} {e : List Stmt} {t t' : TS} (h : PSs X e t) (w : ∀ E σ H, t' E σ H → t E σ H) : PSs X e t' := ⟨fun pins s σ H E I q => h.run pins s σ H E I (w _ _ _ q)⟩
/-- two readings of one expression -/
theorem PE.either {X : Cx} {e : Expr} {t t' : TE} (h : PE X e t) (h' : PE X e t') : PE X e (fun σ H Q => t σ H Q ∨ t' σ H Q) := ⟨fun pins s σ H Q I q => q.elim (h.run pins s σ H Q I) (h'.run pins s σ H Q I)⟩
end Nl

set_option autoImplicit false
/-! Nl, part B: names, constants, operators, comparisons, tests. -/
namespace Nl
open PySem L2

def bnd {α β : Type} (x : Out α) (f : α → Mem → Out β) : Out β := match x with
  | none => none
  | some (a, M) => f a M
@[simp] theorem bnd_some {α β : Type} (a : α) (M : Mem) (f : α → Mem → Out β) : bnd (some (a, M)) f = f a M := rfl
@[simp] theorem bnd_none {α β : Type} (f : α → Mem → Out β) : bnd none f = none := rfl
theorem bnd_inv {α β : Type} {x : Out α} {f : α → Mem → Out β} {r : β × Mem} (h : bnd x f = some r) : ∃ a M, x = some (a, M) ∧ f a M = some r := by
  cases x with
  | none => cases h
  | some p => exact ⟨p.1, p.2, rfl, h⟩

/-! ### names, constants -/
def eVar (i : Nat) : Ev := fun ρ M => match ρ[i]? with
  | some (some d) => some (d, M)
  | _ => none
def eCon (d : D) : Ev := fun _ M => some (d, M)
section
variable {Γ : Ga} {X : Cx}
theorem p_var (i : Nat) {x : Str} {pos : Pos} (hN : X.N[i]? = some x := by rfl) (hv : Vis X.env.scope x := by first | exact Or.inl rfl | exact Or.inr (Or.inl rfl) | exact Or.inr (Or.inr rfl)) (hd : (x == ("__debug__" : Str)) = false := by decide)
    (hcd : (x == ("__classdict__" : Str)) = false := by decide) : PE X (.Name x pos) (tE Γ (eVar i)) := by
  refine PE.of (pe_var hN hv hd hcd) fun σ H Q h => ?_
  obtain ⟨ι, ρ, M, S, d, M', e, q⟩ := h
  unfold eVar at e
  split at e
  · rename_i d' hd'
    cases e
    obtain ⟨v, e1, r⟩ := S.s.at_ i _ hd'
    exact ⟨v, e1, q v H ι (Ext.refl _ _ _) S.m r⟩
  · cases e
/-- a thing that is the same at all times -/
theorem p_con {e : Expr} {v : V} {d : D} (h : PE X e (tC v)) (r : ∀ ι N H, R Γ ι N H d v) : PE X e (tE Γ (eCon d)) := by
  refine PE.of h fun σ H Q h => ?_
  obtain ⟨ι, ρ, M, S, d', M', e, q⟩ := h
  cases e
  exact q v H ι (Ext.refl _ _ _) S.m (r ι _ H)
theorem p_int {i j pos} : PE X (.Constant (.int i) j pos) (tE Γ (eCon (.int i))) := p_con pe_int fun _ _ _ => .int i
theorem p_bl {b j pos} : PE X (.Constant (.bool b) j pos) (tE Γ (eCon (.bl b))) := p_con pe_bl fun _ _ _ => .bl b
theorem p_non {j pos} : PE X (.Constant .none j pos) (tE Γ (eCon .non)) := p_con pe_non fun _ _ _ => .non
theorem p_str {x j pos} : PE X (.Constant (.str x) j pos) (tE Γ (eCon (.str x))) := p_con pe_str fun _ _ _ => .str x
end

/-! ### operators of two values -/
def eOp (g : D → D → Mem → Out D) (ma mb : Ev) : Ev := fun ρ M => bnd (ma ρ M) fun a M1 => bnd (mb ρ M1) fun b M2 => g a b M2
def rD (Γ : Ga) (g : D → D → Mem → Out D) : R2 := fun x y H Q => ∃ ι M a b, RM Γ ι M H ∧ R Γ ι M.sz H a x ∧ R Γ ι M.sz H b y ∧ ResT Γ ι M H (g a b M) Q
section
variable {Γ : Ga} {X : Cx} {a b c : Expr} {ma mb mc : Ev} {pos : Pos}
theorem op2_go {g : D → D → Mem → Out D} {σ : St} {H : Hp} {Q : VK} (h : tE Γ (eOp g ma mb) σ H Q) : tOp (rD Γ g) (tE Γ ma) (tE Γ mb) σ H Q := by
  obtain ⟨ι, ρ, M, S, d, M', e, q⟩ := h
  obtain ⟨a, M1, e1, e⟩ := bnd_inv e
  obtain ⟨b, M2, e2, e⟩ := bnd_inv e
  refine ⟨ι, ρ, M, S, a, M1, e1, fun x H1 ι1 x1 r1 ra => ⟨ι1, ρ, M1, S.ext x1 r1, b, M2, e2, fun y H2 ι2 x2 r2 rb => ?_⟩⟩
  refine ⟨ι2, M2, a, b, r2, ra.ext r1 x2, rb, d, M', e, fun v H3 ι3 x3 r3 rd => ?_⟩
  exact q v H3 ι3 ((x1.trans r1 x2).trans r2 x3) r3 rd
theorem p_op {op : Operator} {g : D → D → Mem → Out D} (ho : OpR X (binaryOp op) (rD Γ g)) (ha : PE X a (tE Γ ma)) (hb : PE X b (tE Γ mb)) : PE X (.BinOp a op b pos) (tE Γ (eOp g ma mb)) :=
  PE.of (pe_op ho ha hb) fun _ _ _ h => op2_go h
theorem p_cmp {op : CmpOp} {g : D → D → Mem → Out D} (ho : OpR X (compareOp op) (rD Γ g)) (ha : PE X a (tE Γ ma)) (hb : PE X b (tE Γ mb)) (hm : behindInMarks op b = false) : PE X (.Compare a [op] [b] pos) (tE Γ (eOp g ma mb)) :=
  PE.of (pe_cmpR ho ha hb hm) fun _ _ _ h => op2_go h
end

/-- what the value rules see -/
theorem ResT.same {Γ : Ga} {ι : Nat → Addr} {M : Mem} {H : Hp} {d : D} {v : V} {Q : VK} (q : ∀ v H' ι', Ext ι ι' M.sz M.sz H H' → RM Γ ι' M H' → R Γ ι' M.sz H' d v → Q v H') (r : RM Γ ι M H) (h : R Γ ι M.sz H d v) : Q v H :=
  q v H ι (Ext.refl _ _ _) r h

/-! ### arithmetic -/
def mulOk (i j : Int) : Bool := decide (i.natAbs < 2 ^ 64) || decide (j.natAbs < 2 ^ 64) || decide (i.natAbs.log2 + j.natAbs.log2 < 1000000)
theorem mulOk_ok {i j : Int} (h : mulOk i j = true) : IntMulOk i j := by
  unfold mulOk at h
  rw [Bool.or_eq_true, Bool.or_eq_true] at h
  rcases h with (h | h) | h
  · have h := of_decide_eq_true h
    exact CMul.ok (.inl ⟨by omega, by omega⟩)
  · have h := of_decide_eq_true h
    exact CMul.ok (.inr ⟨by omega, by omega⟩)
  · have h2 : i.natAbs.log2 + j.natAbs.log2 < 1000000 := of_decide_eq_true h
    exact CMulW.ok h2
def repS (x : Str) (k : Int) : Str := if k < 1 then Str.empty else if (k == 1 || x.length == 0) = true then x else ⟨(List.replicate k.toNat x.cps).foldl (· ++ ·) #[]⟩
def gAdd : D → D → Mem → Out D
  | .int i, .int j, M => some (.int (i + j), M)
  | .str x, .str y, M => if x.length + y.length ≤ sizeLine then some (.str (x ++ y), M) else none
  | .tup xs, .tup ys, M => if xs.length + ys.length ≤ sizeLine then some (.tup (xs ++ ys), M) else none
  | .ref a, .ref b, M => match M.get a, M.get b with
    | some (.lst xs), some (.lst ys) => if xs.length + ys.length ≤ sizeLine then some (.ref M.sz, M.new (.lst (xs ++ ys))) else none
    | _, _ => none
  | _, _, _ => none
def gSub : D → D → Mem → Out D
  | .int i, .int j, M => some (.int (i - j), M)
  | _, _, _ => none
def gMul : D → D → Mem → Out D
  | .int i, .int j, M => if mulOk i j then some (.int (i * j), M) else none
  | .str x, .int k, M => if -1000 ≤ k ∧ k ≤ 1000 ∧ x.length ≤ 1000 then some (.str (repS x k), M) else none
  | .ref a, .int k, M => match M.get a with
    | some (.lst xs) => if -1000 ≤ k ∧ k ≤ 1000 ∧ xs.length * k.toNat ≤ sizeLine then some (.ref M.sz, M.new (.lst (List.replicate k.toNat xs).flatten)) else none
    | _ => none
  | _, _, _ => none
def gFdiv : D → D → Mem → Out D
  | .int i, .int j, M => if 0 < j ∧ j.natAbs.log2 < 9000 then some (.int (i / j), M) else none
  | _, _, _ => none
def gMod : D → D → Mem → Out D
  | .int i, .int j, M => if 0 < j then some (.int (i % j), M) else none
  | _, _, _ => none
def gPow : D → D → Mem → Out D
  | .int i, .int j, M => if 0 ≤ j ∧ (Builtin.Int.intBits i : Int) * j ≤ 2 ^ 27 then some (.int (i ^ j.toNat), M) else none
  | _, _, _ => none

theorem RL.length {Γ : Ga} {ι : Nat → Addr} {N : Nat} {H : Hp} : ∀ {ds : List D} {vs : List V}, RL Γ ι N H ds vs → ds.length = vs.length
  | _, _, .nil => rfl
  | _, _, .cons _ t => congrArg Nat.succ (RL.length t)
theorem RL.append {Γ : Ga} {ι : Nat → Addr} {N : Nat} {H : Hp} : ∀ {ds es : List D} {vs ws : List V}, RL Γ ι N H ds vs → RL Γ ι N H es ws → RL Γ ι N H (ds ++ es) (vs ++ ws)
  | _, _, _, _, .nil, s => s
  | _, _, _, _, .cons r t, s => .cons r (RL.append t s)
theorem RL.get {Γ : Ga} {ι : Nat → Addr} {N : Nat} {H : Hp} : ∀ {ds : List D} {vs : List V} {i : Nat} {d : D}, RL Γ ι N H ds vs → ds[i]? = some d → ∃ v, vs[i]? = some v ∧ R Γ ι N H d v
  | _, _, _, _, .nil, e => by simp at e
  | _, _, 0, _, .cons r _, e => by simp at e; subst e; exact ⟨_, rfl, r⟩
  | _, _, i + 1, d, .cons _ t, e => by
    obtain ⟨u, h1, h2⟩ := RL.get (i := i) (d := d) t (by simpa using e)
    exact ⟨u, by simpa using h1, h2⟩
theorem RL.take {Γ : Ga} {ι : Nat → Addr} {N : Nat} {H : Hp} : ∀ {ds : List D} {vs : List V} (n : Nat), RL Γ ι N H ds vs → RL Γ ι N H (ds.take n) (vs.take n)
  | _, _, 0, _ => by rw [List.take_zero, List.take_zero]; exact .nil
  | _, _, _ + 1, .nil => .nil
  | _, _, n + 1, .cons r t => .cons r (RL.take n t)
theorem RL.drop {Γ : Ga} {ι : Nat → Addr} {N : Nat} {H : Hp} : ∀ {ds : List D} {vs : List V} (n : Nat), RL Γ ι N H ds vs → RL Γ ι N H (ds.drop n) (vs.drop n)
  | _, _, 0, r => r
  | _, _, _ + 1, .nil => .nil
  | _, _, n + 1, .cons _ t => RL.drop n t
theorem RL.set {Γ : Ga} {ι : Nat → Addr} {N : Nat} {H : Hp} {d : D} {v : V} (r : R Γ ι N H d v) : ∀ {ds : List D} {vs : List V} (i : Nat), RL Γ ι N H ds vs → RL Γ ι N H (ds.set i d) (vs.set i v)
  | _, _, _, .nil => .nil
  | _, _, 0, .cons _ t => .cons r t
  | _, _, i + 1, .cons q t => .cons q (RL.set r i t)
theorem RL.eraseIdx {Γ : Ga} {ι : Nat → Addr} {N : Nat} {H : Hp} : ∀ {ds : List D} {vs : List V} (i : Nat), RL Γ ι N H ds vs → RL Γ ι N H (ds.eraseIdx i) (vs.eraseIdx i)
  | _, _, _, .nil => .nil
  | _, _, 0, .cons _ t => t
  | _, _, i + 1, .cons q t => .cons q (RL.eraseIdx i t)
theorem RL.reverse {Γ : Ga} {ι : Nat → Addr} {N : Nat} {H : Hp} : ∀ {ds : List D} {vs : List V}, RL Γ ι N H ds vs → RL Γ ι N H ds.reverse vs.reverse
  | _, _, .nil => .nil
  | _, _, .cons r t => by
    rw [List.reverse_cons, List.reverse_cons]
    exact (RL.reverse t).append (.cons r .nil)
theorem RL.rep {Γ : Ga} {ι : Nat → Addr} {N : Nat} {H : Hp} {ds : List D} {vs : List V} (r : RL Γ ι N H ds vs) : ∀ k : Nat, RL Γ ι N H (List.replicate k ds).flatten (List.replicate k vs).flatten
  | 0 => .nil
  | k + 1 => by
    rw [List.replicate_succ, List.replicate_succ, List.flatten_cons, List.flatten_cons]
    exact r.append (RL.rep r k)

/-- a new list -/
theorem new_list {Γ : Ga} {ι : Nat → Addr} {M : Mem} {H : Hp} {ds : List D} {xs : List V} {Q : VK} (r : RM Γ ι M H) (h : RL Γ ι M.sz H ds xs)
    (q : ∀ v H' ι', Ext ι ι' M.sz (M.new (.lst ds)).sz H H' → RM Γ ι' (M.new (.lst ds)) H' → R Γ ι' (M.new (.lst ds)).sz H' (.ref M.sz) v → Q v H') :
    ∀ p, H p = none → Q (.ref p) (upd H p (.lst xs)) := fun p hp => by
  refine q (.ref p) _ (more ι M.sz p) ?_ (r.laid hp ⟨xs, upd_same, h.more hp⟩) ?_
  · rw [Mem.sz_new]; exact Ext.more hp
  · rw [Mem.sz_new]
    have e : p = more ι M.sz p M.sz := more_same.symm
    exact (congrArg (fun z => R Γ (more ι M.sz p) (M.sz + 1) (upd H p (.lst xs)) (.ref M.sz) (.ref z)) e).mpr (R.ref (Nat.lt_succ_self _))
/-- a new tuple -/
theorem new_tup {Γ : Ga} {ι : Nat → Addr} {M : Mem} {H : Hp} {ds : List D} {xs : List V} {Q : VK} (r : RM Γ ι M H) (h : RL Γ ι M.sz H ds xs)
    (q : ∀ v H' ι', Ext ι ι' M.sz M.sz H H' → RM Γ ι' M H' → R Γ ι' M.sz H' (.tup ds) v → Q v H') :
    ∀ p, H p = none → Q (.ref p) (upd H p (.tup xs)) := fun p hp =>
  q (.ref p) _ ι (Ext.junk hp) (r.junk hp) (.tup (SqT.of upd_same) (h.upd (loose_none hp)))

section
variable {Γ : Ga} {X : Cx}
theorem catT0 {pins : List (Addr × Obj)} {s : Shared} {σ : St} {H : Hp} {Q : VK} {a b : Addr} {ys : List V} (I : Inv X pins σ H s) (ha : SqT X.K H a []) (hb : SqT X.K H b ys) (q : Q (.ref b) H) :
    wpAny (model X.prog X.w) X.A (binaryOp .Add (.ref a) (.ref b)) (EP X pins σ Q) X.xe s := by
  obtain ⟨its, r1, p1, _⟩ := I.tuple ha
  obtain ⟨its2, r2, p2, _⟩ := I.tuple hb
  cases r1
  obtain ⟨⟨cls, dd, data, sl⟩, ho, hc, n, hd⟩ := p1
  obtain ⟨⟨cls2, dd2, data2, sl2⟩, ho2, hc2, n2, hd2⟩ := p2
  simp only at hc hd hc2 hd2
  subst hc hd hc2 hd2
  exact concat_meets ⟨_, ho, rfl⟩ ⟨_, ho2, rfl⟩ PySem.noFill_tuple_add PySem.seq_tuple_add PySem.F.slot_tuple_add PySem.F.entry_tuple_add (PySem.F.args_tuple_add_2 _ _)
    (PyProof.Rows.tuple_addW0 a b _ _ n n2 dd dd2 sl sl2 (by rfl)) ⟨ho, ho2, ⟨.ref b, H, I, rfl, q⟩⟩
theorem op_gAdd (hK : X.K = Γ.K) : OpR X (binaryOp .Add) (rD Γ gAdd) := by
  intro pins s σ H x y v u Q I rx ry h
  obtain ⟨ι, M, a, b, rm, ra, rb, d, M', e, q⟩ := h
  unfold gAdd at e
  split at e
  · cases ra; cases rb; cases e
    exact op_add pins s σ H _ _ v u Q I rx ry ⟨_, _, rfl, rfl, ResT.same q rm (.int _)⟩
  · cases ra; cases rb
    split at e
    · rename_i hz
      cases e
      exact op_add_str pins s σ H _ _ v u Q I rx ry ⟨_, _, rfl, rfl, hz, ResT.same q rm (.str _)⟩
    · cases e
  · cases ra with
    | tup h1 l1 =>
      cases rb with
      | tup h2 l2 =>
        rename_i xs ys _ aa xs' bb ys'
        split at e
        · rename_i hz
          cases e
          rw [← hK] at h1 h2
          by_cases hx : xs' = []
          · subst hx
            cases l1
            cases rx; cases ry
            exact catT0 I h1 h2 (ResT.same q rm (.tup (by rw [← hK]; exact h2) l2))
          · refine op_catT pins s σ H _ _ v u Q I rx ry ⟨_, _, _, _, rfl, rfl, h1, h2, hx, ?_, fun hy => ?_, fun hy => ?_⟩
            · rw [← l1.length, ← l2.length]; exact hz
            · subst hy
              cases l2
              rw [List.append_nil] at q
              exact ResT.same q rm (.tup (by rw [← hK]; exact h1) l1)
            · exact new_tup rm (l1.append l2) q
        · cases e
  · cases ra; cases rb
    rename_i n1 n2 M _ _
    split at e
    · rename_i xs ys g1 g2
      split at e
      · rename_i hz
        cases e
        obtain ⟨vs, e1, r1⟩ := rm.ob _ _ g1
        obtain ⟨ws, e2, r2⟩ := rm.ob _ _ g2
        refine op_cat pins s σ H _ _ v u Q I rx ry ⟨_, _, _, _, rfl, rfl, e1, e2, ?_, new_list rm (r1.append r2) q⟩
        rw [← r1.length, ← r2.length]; exact hz
      · cases e
    · cases e
  · cases e
theorem op_gSub : OpR X (binaryOp .Sub) (rD Γ gSub) := by
  intro pins s σ H x y v u Q I rx ry h
  obtain ⟨ι, M, a, b, rm, ra, rb, d, M', e, q⟩ := h
  unfold gSub at e
  split at e
  · cases ra; cases rb; cases e
    exact op_sub pins s σ H _ _ v u Q I rx ry ⟨_, _, rfl, rfl, ResT.same q rm (.int _)⟩
  · cases e
theorem repS_len {x : Str} {k : Int} (h : k ≤ 1000) (hx : x.length ≤ 1000) : x.length * k.toNat ≤ 1000000 := by
  have h1 : k.toNat ≤ 1000 := by omega
  exact Nat.le_trans (Nat.mul_le_mul hx h1) (by decide)
theorem op_gMul : OpR X (binaryOp .Mult) (rD Γ gMul) := by
  intro pins s σ H x y v u Q I rx ry h
  obtain ⟨ι, M, a, b, rm, ra, rb, d, M', e, q⟩ := h
  unfold gMul at e
  split at e
  · cases ra; cases rb
    split at e
    · rename_i hz
      cases e
      obtain ⟨t, rfl⟩ := rx
      obtain ⟨t', rfl⟩ := ry
      exact PyProof.Rows.mul_int ⟨.int _, H, I.tok _, ⟨_, rfl⟩, ResT.same q rm (.int _)⟩ (mulOk_ok hz)
    · cases e
  · rename_i _ x k
    cases ra; cases rb
    split at e
    · rename_i hz
      cases e
      obtain ⟨t, rfl⟩ := rx
      obtain ⟨t', rfl⟩ := ry
      obtain ⟨h1, h2, h3⟩ := hz
      have hl := repS_len h2 h3
      have e1 : decide (k < -(2 ^ 63 : Int)) = false := decide_eq_false (by omega)
      have e2 : decide (k ≥ 2 ^ 63) = false := decide_eq_false (by omega)
      have fin : Q (.str (repS x k)) H := ResT.same q rm (.str _)
      have tl : Builtin.Str.tooLong (x.length * k.toNat) = false := by
        unfold Builtin.Str.tooLong
        rw [PySem.sizeLine_eq]
        exact decide_eq_false (by omega)
      refine PySem.P.mul_str (by rw [e1, e2]; rfl) (fun g1 g2 => ?_) (fun g1 g2 => tl) ?_
      · have g3 : (0 : Int) < k := by omega
        have : (1000 : Int) ≤ (2 ^ 63 - 1) / k := by
          rw [Int.le_ediv_iff_mul_le g3]
          omega
        omega
      · unfold repS at fin
        split
        · rename_i g
          rw [if_pos g] at fin
          exact ⟨by decide, ⟨.str _, H, I.tok _, ⟨_, rfl⟩, fin⟩⟩
        · rename_i g
          rw [if_neg g] at fin
          split
          · rename_i g'
            rw [if_pos g'] at fin
            exact ⟨.str _, H, I, ⟨_, rfl⟩, fin⟩
          · rename_i g'
            rw [if_neg g'] at fin
            exact ⟨PySem.fits_reps tl, ⟨.str _, H, I.tok _, ⟨_, rfl⟩, fin⟩⟩
    · cases e
  · cases ra; cases rb
    split at e
    · rename_i xs g1
      split at e
      · rename_i hz
        cases e
        obtain ⟨vs, e1, r1⟩ := rm.ob _ _ g1
        obtain ⟨h1, h2, h3⟩ := hz
        refine op_rep pins s σ H _ _ v u Q I rx ry ⟨_, _, _, rfl, rfl, e1, by omega, by omega, ?_, new_list rm (r1.rep _) q⟩
        rw [← r1.length]; exact h3
      · cases e
    · cases e
  · cases e
theorem op_gFdiv : OpR X (binaryOp .FloorDiv) (rD Γ gFdiv) := by
  intro pins s σ H x y v u Q I rx ry h
  obtain ⟨ι, M, a, b, rm, ra, rb, d, M', e, q⟩ := h
  unfold gFdiv at e
  split at e
  · cases ra; cases rb
    split at e
    · rename_i hz
      cases e
      exact op_fdivW pins s σ H _ _ v u Q I rx ry ⟨_, _, rfl, rfl, hz, ResT.same q rm (.int _)⟩
    · cases e
  · cases e
theorem op_gMod : OpR X (binaryOp .Mod) (rD Γ gMod) := by
  intro pins s σ H x y v u Q I rx ry h
  obtain ⟨ι, M, a, b, rm, ra, rb, d, M', e, q⟩ := h
  unfold gMod at e
  split at e
  · cases ra; cases rb
    split at e
    · rename_i hz
      cases e
      exact op_mod pins s σ H _ _ v u Q I rx ry ⟨_, _, rfl, rfl, hz, ResT.same q rm (.int _)⟩
    · cases e
  · cases e
theorem op_gPow : OpR X (binaryOp .Pow) (rD Γ gPow) := by
  intro pins s σ H x y v u Q I rx ry h
  obtain ⟨ι, M, a, b, rm, ra, rb, d, M', e, q⟩ := h
  unfold gPow at e
  split at e
  · cases ra; cases rb
    split at e
    · rename_i hz
      cases e
      obtain ⟨t, rfl⟩ := rx
      obtain ⟨t', rfl⟩ := ry
      exact PyProof.Rows.pow_int hz.1 hz.2 ⟨.int _, H, I.tok _, ⟨_, rfl⟩, ResT.same q rm (.int _)⟩
    · cases e
  · cases e
end
end Nl

set_option autoImplicit false
/-! Nl, part C: things as plain data; comparisons; truth; and, or, not. -/
namespace Nl
open PySem L2

/-! ### plain data -/
mutual
def toPs (rf : Nat → Option PyData) : D → Option PyData
  | .non => some .none
  | .bl b => some (.bool b)
  | .int i => some (.int i)
  | .str x => some (.str x)
  | .tup ds => (toPl rf ds).map .tuple
  | .ref n => rf n
  | .rol xs => some (.list (xs.map .int))
  | .fn _ => none
  | .ty _ => none
def toPl (rf : Nat → Option PyData) : List D → Option (List PyData)
  | [] => some []
  | d :: ds => match toPs rf d, toPl rf ds with
    | some p, some q => some (p :: q)
    | _, _ => none
end
def refP : Nat → Mem → Nat → Option PyData
  | 0, _, _ => none
  | k + 1, M, n => match M.get n with
    | some (.lst xs) => (toPl (refP k M) xs).map .list
    | _ => none
/-- a thing with its lists as they stand, as data -/
def toP (M : Mem) (d : D) : Option PyData := toPs (refP 40 M) d

section
variable {Γ : Ga} {ι : Nat → Addr} {M : Mem} {H : Hp}
theorem dpAll_ints {K : PySem.W.Frag} : ∀ xs : List Int, DpAll K H (xs.map V.int) (xs.map PyData.int)
  | [] => .nil
  | x :: xs => .cons (.int x) (dpAll_ints xs)
mutual
theorem dp_of (rf : Nat → Option PyData) (hr : ∀ n p, n < M.sz → rf n = some p → Dp Γ.K H (.ref (ι n)) p) : ∀ (d : D) (v : V) (p : PyData), R Γ ι M.sz H d v → toPs rf d = some p → Dp Γ.K H v p
  | .non, _, _, h, e => by cases h; cases e; exact .non
  | .bl _, _, _, h, e => by cases h; cases e; exact .bl _
  | .int _, _, _, h, e => by cases h; cases e; exact .int _
  | .str _, _, _, h, e => by cases h; cases e; exact .str _
  | .tup ds, _, p, h, e => by
    cases h with
    | tup hs hl =>
      rw [toPs] at e
      obtain ⟨q, e1, rfl⟩ := Option.map_eq_some_iff.mp e
      exact .tup hs (dpl_of rf hr ds _ q hl e1)
  | .ref n, _, p, h, e => by
    cases h with
    | ref hn => exact hr n p hn e
  | .rol xs, _, p, h, e => by
    cases h with
    | rol hs =>
      cases e
      exact .lst hs.sq (dpAll_ints xs)
  | .fn _, _, _, h, e => by cases e
  | .ty _, _, _, h, e => by cases e
theorem dpl_of (rf : Nat → Option PyData) (hr : ∀ n p, n < M.sz → rf n = some p → Dp Γ.K H (.ref (ι n)) p) : ∀ (ds : List D) (vs : List V) (ps : List PyData), RL Γ ι M.sz H ds vs → toPl rf ds = some ps → DpAll Γ.K H vs ps
  | [], _, _, h, e => by cases h; cases e; exact .nil
  | d :: ds, _, ps, h, e => by
    cases h with
    | cons h1 h2 =>
      rw [toPl] at e
      split at e
      · rename_i p q e1 e2
        cases e
        exact .cons (dp_of rf hr d _ _ h1 e1) (dpl_of rf hr ds _ _ h2 e2)
      · cases e
end
theorem dp_ref (rm : RM Γ ι M H) : ∀ (k n : Nat) (p : PyData), n < M.sz → refP k M n = some p → Dp Γ.K H (.ref (ι n)) p
  | 0, _, _, _, e => by cases e
  | k + 1, n, p, hn, e => by
    rw [refP] at e
    split at e
    · rename_i xs g
      obtain ⟨q, e1, rfl⟩ := Option.map_eq_some_iff.mp e
      obtain ⟨vs, e2, rl⟩ := rm.ob n _ g
      exact .lst (SqL.of e2) (dpl_of (refP k M) (dp_ref rm k) xs vs q rl e1)
    · cases e
theorem toP_dp (rm : RM Γ ι M H) {d : D} {v : V} {p : PyData} (r : R Γ ι M.sz H d v) (e : toP M d = some p) : Dp Γ.K H v p := dp_of _ (dp_ref rm 40) d v p r e
end

/-! ### == and its like -/
/-- two plain values -/
def eqS : D → D → Option Bool
  | .non, .non => some true
  | .bl a, .bl b => some (a == b)
  | .int a, .int b => some (a == b)
  | .str a, .str b => some (a == b)
  | .non, .int _ => some false
  | .non, .bl _ => some false
  | .non, .str _ => some false
  | .int _, .non => some false
  | .bl _, .non => some false
  | .str _, .non => some false
  | .int _, .str _ => some false
  | .str _, .int _ => some false
  | .bl _, .str _ => some false
  | .str _, .bl _ => some false
  | _, _ => none
def eqD (a b : D) (M : Mem) : Option Bool := match eqS a b with
  | some r => some r
  | none => match toP M a, toP M b with
    | some p, some q => if SeqAt.shaped p = true ∧ SeqAt.shaped q = true then some (PyData.eqv p q) else none
    | _, _ => none
def gEq (a b : D) (M : Mem) : Out D := (eqD a b M).map fun r => (.bl r, M)
def gNe (a b : D) (M : Mem) : Out D := (eqD a b M).map fun r => (.bl (!r), M)
def ltD : D → D → Option Bool
  | .int a, .int b => some (decide (a < b))
  | .str a, .str b => some (decide (a.cps.toList < b.cps.toList))
  | _, _ => none
def gLt (a b : D) (M : Mem) : Out D := (ltD a b).map fun r => (.bl r, M)
def gLe : D → D → Mem → Out D
  | .int a, .int b, M => some (.bl (decide (a ≤ b)), M)
  | _, _, _ => none
def gGt : D → D → Mem → Out D
  | .int a, .int b, M => some (.bl (decide (b < a)), M)
  | _, _, _ => none
def gGe : D → D → Mem → Out D
  | .int a, .int b, M => some (.bl (decide (b ≤ a)), M)
  | _, _, _ => none
def isN : D → Bool
  | .non => true
  | _ => false
def gIsN (a : D) (M : Mem) : Out D := some (.bl (isN a), M)
def gNotN (a : D) (M : Mem) : Out D := some (.bl (!isN a), M)
theorem isN_dec {Γ : Ga} {ι : Nat → Addr} {N : Nat} {H : Hp} {d : D} {v : V} (r : R Γ ι N H d v) : decide (v = .non) = isN d := by
  cases r <;> rfl
section
variable {Γ : Ga} {X : Cx}
theorem eqS_ok {ι : Nat → Addr} {N : Nat} {H : Hp} {a b : D} {x y : V} {r : Bool} (ra : R Γ ι N H a x) (rb : R Γ ι N H b y) (e : eqS a b = some r) : scal x y = true ∧ decide (x = y) = r := by
  cases ra <;> cases rb <;> first
    | (cases e; exact ⟨rfl, by first | rfl | exact dec_bl | exact dec_int | exact dec_str⟩)
    | cases e
theorem op_gEq (hK : X.K = Γ.K) (hu : X.A.units + 64 < cLine) : OpR X (compareOp .Eq) (rD Γ gEq) := by
  intro pins s σ H x y v u Q I rx ry h
  obtain ⟨ι, M, a, b, rm, ra, rb, d, M', e, q⟩ := h
  obtain ⟨r, e1, e2⟩ := Option.map_eq_some_iff.mp e
  cases e2
  have fin : Q (.bl r) H := ResT.same q rm (.bl _)
  unfold eqD at e1
  split at e1
  · rename_i r' es
    cases e1
    obtain ⟨h1, h2⟩ := eqS_ok ra rb es
    exact op_eq pins s σ H x y v u Q I rx ry ⟨h1, by rw [h2]; exact fin⟩
  · split at e1
    · rename_i p1 p2 g1 g2
      split at e1
      · rename_i hs
        cases e1
        exact op_eqD hu pins s σ H x y v u Q I rx ry ⟨p1, p2, by rw [hK]; exact toP_dp rm ra g1, by rw [hK]; exact toP_dp rm rb g2, hs.1, hs.2, fin⟩
      · cases e1
    · cases e1
theorem op_gNe (hK : X.K = Γ.K) (hu : X.A.units + 64 < cLine) : OpR X (compareOp .NotEq) (rD Γ gNe) := by
  intro pins s σ H x y v u Q I rx ry h
  obtain ⟨ι, M, a, b, rm, ra, rb, d, M', e, q⟩ := h
  obtain ⟨r, e1, e2⟩ := Option.map_eq_some_iff.mp e
  cases e2
  have fin : Q (.bl (!r)) H := ResT.same q rm (.bl _)
  unfold eqD at e1
  split at e1
  · rename_i r' es
    cases e1
    obtain ⟨h1, h2⟩ := eqS_ok ra rb es
    exact op_ne pins s σ H x y v u Q I rx ry ⟨h1, by rw [h2]; exact fin⟩
  · split at e1
    · rename_i p1 p2 g1 g2
      split at e1
      · rename_i hs
        cases e1
        exact op_neD hu pins s σ H x y v u Q I rx ry ⟨p1, p2, by rw [hK]; exact toP_dp rm ra g1, by rw [hK]; exact toP_dp rm rb g2, hs.1, hs.2, fin⟩
      · cases e1
    · cases e1
theorem op_gLt : OpR X (compareOp .Lt) (rD Γ gLt) := by
  intro pins s σ H x y v u Q I rx ry h
  obtain ⟨ι, M, a, b, rm, ra, rb, d, M', e, q⟩ := h
  obtain ⟨r, e1, e2⟩ := Option.map_eq_some_iff.mp e
  cases e2
  unfold ltD at e1
  split at e1
  · cases ra; cases rb; cases e1
    exact op_lt pins s σ H _ _ v u Q I rx ry ⟨_, _, rfl, rfl, ResT.same q rm (.bl _)⟩
  · cases ra; cases rb; cases e1
    exact op_lt_str pins s σ H _ _ v u Q I rx ry ⟨_, _, rfl, rfl, ResT.same q rm (.bl _)⟩
  · cases e1
theorem op_gLe : OpR X (compareOp .LtE) (rD Γ gLe) := by
  intro pins s σ H x y v u Q I rx ry h
  obtain ⟨ι, M, a, b, rm, ra, rb, d, M', e, q⟩ := h
  unfold gLe at e
  split at e
  · cases ra; cases rb; cases e
    exact op_le pins s σ H _ _ v u Q I rx ry ⟨_, _, rfl, rfl, ResT.same q rm (.bl _)⟩
  · cases e
theorem op_gGt : OpR X (compareOp .Gt) (rD Γ gGt) := by
  intro pins s σ H x y v u Q I rx ry h
  obtain ⟨ι, M, a, b, rm, ra, rb, d, M', e, q⟩ := h
  unfold gGt at e
  split at e
  · cases ra; cases rb; cases e
    exact op_gt pins s σ H _ _ v u Q I rx ry ⟨_, _, rfl, rfl, ResT.same q rm (.bl _)⟩
  · cases e
theorem op_gGe : OpR X (compareOp .GtE) (rD Γ gGe) := by
  intro pins s σ H x y v u Q I rx ry h
  obtain ⟨ι, M, a, b, rm, ra, rb, d, M', e, q⟩ := h
  unfold gGe at e
  split at e
  · cases ra; cases rb; cases e
    exact op_ge pins s σ H _ _ v u Q I rx ry ⟨_, _, rfl, rfl, ResT.same q rm (.bl _)⟩
  · cases e
end

/-! ### in, not in -/
/-- flat items are told apart by their values -/
def flatD : D → Bool
  | .non => true
  | .bl _ => true
  | .int _ => true
  | .str _ => true
  | _ => false
def eqF : D → D → Bool
  | .non, .non => true
  | .bl a, .bl b => a == b
  | .bl a, .int b => (if a then 1 else 0) == b
  | .int a, .bl b => a == (if b then 1 else 0)
  | .int a, .int b => a == b
  | .str a, .str b => a == b
  | _, _ => false
def inF (x : D) (xs : List D) : Bool := xs.any fun y => eqF y x
def keyD : D → Option Key
  | .int i => some (.inl i)
  | .str x => some (.inr x)
  | _ => none
def hasK {κ : Type} [DecidableEq κ] (kvs : List (κ × D)) (k : κ) : Bool := kvs.any fun p => decide (p.1 = k)
def inSeq (x : D) (xs : List D) : Option Bool := if flatD x = true ∧ xs.all flatD = true then some (inF x xs) else none
def inD (x y : D) (M : Mem) : Option Bool := match y with
  | .tup ys => inSeq x ys
  | .str z => match x with
    | .str w => some (!(Builtin.Str.occurrences z w 0 z.length 1).isEmpty)
    | _ => none
  | .ref n => match M.get n with
    | some (.lst ys) => inSeq x ys
    | some (.dct kvs) => (keyD x).map fun k => hasK kvs k
    | _ => none
  | _ => none
def gIn (x y : D) (M : Mem) : Out D := (inD x y M).map fun r => (.bl r, M)
def gNotIn (x y : D) (M : Mem) : Out D := (inD x y M).map fun r => (.bl (!r), M)
section
variable {Γ : Ga} {ι : Nat → Addr} {N : Nat} {H : Hp}
theorem flat_ok {d : D} {v : V} (r : R Γ ι N H d v) (h : flatD d = true) : flatV v = true := by
  cases r <;> first | rfl | cases h
theorem eqF_ok {a b : D} {x y : V} (ra : R Γ ι N H a x) (rb : R Γ ι N H b y) (ha : flatD a = true) (hb : flatD b = true) : eqV x y = eqF a b := by
  cases ra <;> first
    | (cases rb <;> first | rfl | cases hb)
    | cases ha
theorem flats_ok : ∀ {ds : List D} {vs : List V}, RL Γ ι N H ds vs → ds.all flatD = true → vs.all flatV = true
  | _, _, .nil, _ => rfl
  | _, _, .cons r t, h => by
    rw [List.all_cons, Bool.and_eq_true] at h ⊢
    exact ⟨flat_ok r h.1, flats_ok t h.2⟩
theorem inF_ok {d : D} {v : V} (r : R Γ ι N H d v) (hd : flatD d = true) : ∀ {ds : List D} {vs : List V}, RL Γ ι N H ds vs → ds.all flatD = true → inV v vs = inF d ds
  | _, _, .nil, _ => rfl
  | _, _, .cons q t, h => by
    rw [List.all_cons, Bool.and_eq_true] at h
    have ih := inF_ok r hd t h.2
    unfold inV inF at ih ⊢
    rw [List.any_cons, List.any_cons, eqF_ok q r h.1 hd, ih]
theorem hasK_ok {κ : Type} [DecidableEq κ] {k : κ} : ∀ {ds : List (κ × D)} {vs : List (κ × V)}, RK Γ ι N H ds vs → (vs.any fun p => decide (p.1 = k)) = hasK ds k
  | _, _, .nil => rfl
  | _, _, .cons _ t => by
    have ih := hasK_ok (k := k) t
    unfold hasK at ih ⊢
    rw [List.any_cons, List.any_cons, ih]
end

section
variable {Γ : Ga} {X : Cx}
theorem in_seq_go {Γ : Ga} {ι : Nat → Addr} {N : Nat} {H : Hp} {a : D} {x : V} {ys : List D} {vs : List V} {r : Bool} (ra : R Γ ι N H a x) (rl : RL Γ ι N H ys vs) (e : inSeq a ys = some r) :
    flatV x = true ∧ vs.all flatV = true ∧ inV x vs = r := by
  unfold inSeq at e
  split at e
  · rename_i h
    cases e
    exact ⟨flat_ok ra h.1, flats_ok rl h.2, inF_ok ra h.1 rl h.2⟩
  · cases e
/-- what in asks, by where it looks -/
theorem in_go {ι : Nat → Addr} {M : Mem} {H : Hp} {a b : D} {x y : V} {r : Bool} (rm : RM Γ ι M H) (ra : R Γ ι M.sz H a x) (rb : R Γ ι M.sz H b y) (e : inD a b M = some r) :
    (∃ p vs, y = .ref p ∧ (SqL Γ.K H p vs ∨ SqT Γ.K H p vs) ∧ flatV x = true ∧ vs.all flatV = true ∧ inV x vs = r) ∨
    (∃ w z, x = .str w ∧ y = .str z ∧ (!(Builtin.Str.occurrences z w 0 z.length 1).isEmpty) = r) ∨
    ∃ p kvs k, y = .ref p ∧ H p = some (.dK kvs) ∧ x = kV k ∧ (valV kvs k).isSome = r := by
  unfold inD at e
  split at e
  · cases rb with
    | tup hs rl =>
      obtain ⟨h1, h2, h3⟩ := in_seq_go ra rl e
      exact .inl ⟨_, _, rfl, .inr hs, h1, h2, h3⟩
  · cases rb
    split at e
    · cases ra
      cases e
      exact .inr (.inl ⟨_, _, rfl, rfl, rfl⟩)
    · cases e
  · cases rb
    split at e
    · rename_i ys g
      obtain ⟨vs, e1, rl⟩ := rm.ob _ _ g
      obtain ⟨h1, h2, h3⟩ := in_seq_go ra rl e
      exact .inl ⟨_, _, rfl, .inl (SqL.of e1), h1, h2, h3⟩
    · rename_i kvs g
      obtain ⟨vs, e1, rl⟩ := rm.ob _ _ g
      obtain ⟨k, hk, e2⟩ := Option.map_eq_some_iff.mp e
      refine .inr (.inr ⟨_, vs, k, rfl, e1, ?_, ?_⟩)
      · unfold keyD at hk
        split at hk
        · cases ra; cases hk; rfl
        · cases ra; cases hk; rfl
        · cases hk
      · rw [← valV_any, hasK_ok rl]; exact e2
    · cases e
  · cases e
theorem op_gIn (hK : X.K = Γ.K) (hu : X.A.units + 1 < cLine) : OpR X (compareOp .In) (rD Γ gIn) := by
  intro pins s σ H x y v u Q I rx ry h
  obtain ⟨ι, M, a, b, rm, ra, rb, d, M', e, q⟩ := h
  obtain ⟨r, e1, e2⟩ := Option.map_eq_some_iff.mp e
  cases e2
  have fin : Q (.bl r) H := ResT.same q rm (.bl _)
  rcases in_go rm ra rb e1 with ⟨p, vs, rfl, hq, h1, h2, h3⟩ | ⟨w, z, rfl, rfl, h3⟩ | ⟨p, kvs, k, rfl, hp, rfl, h3⟩
  · rw [← hK] at hq
    refine op_in_seq pins s σ H x _ v u Q I rx ry ⟨p, vs, rfl, hq, h1, h2, ?_⟩
    show Q (.bl (inV x vs)) H
    rw [h3]; exact fin
  · exact op_in_str pins s σ H _ _ v u Q I rx ry ⟨w, z, rfl, rfl, by rw [h3]; exact fin⟩
  · cases ry
    exact d_in hu I (DGet.k hp) rx fun s' I' => ⟨.bl _, H, I', rfl, by rw [h3]; exact fin⟩
theorem op_gNotIn (hK : X.K = Γ.K) (hu : X.A.units + 1 < cLine) : OpR X (compareOp .NotIn) (rD Γ gNotIn) := by
  intro pins s σ H x y v u Q I rx ry h
  obtain ⟨ι, M, a, b, rm, ra, rb, d, M', e, q⟩ := h
  obtain ⟨r, e1, e2⟩ := Option.map_eq_some_iff.mp e
  cases e2
  have fin : Q (.bl (!r)) H := ResT.same q rm (.bl _)
  rcases in_go rm ra rb e1 with ⟨p, vs, rfl, hq, h1, h2, h3⟩ | ⟨w, z, rfl, rfl, h3⟩ | ⟨p, kvs, k, rfl, hp, rfl, h3⟩
  · rw [← hK] at hq
    refine op_notIn_seq pins s σ H x _ v u Q I rx ry ⟨p, vs, rfl, hq, h1, h2, ?_⟩
    show Q (.bl (!inV x vs)) H
    rw [h3]; exact fin
  · exact op_notIn_str pins s σ H _ _ v u Q I rx ry ⟨w, z, rfl, rfl, by rw [h3]; exact fin⟩
  · cases ry
    exact d_notIn hu I (DGet.k hp) rx fun s' I' => ⟨.bl _, H, I', rfl, by rw [h3]; exact fin⟩
end

/-! ### truth; tests -/
abbrev Bv := Rho → Mem → Out Bool
def truth (M : Mem) : D → Option Bool
  | .non => some false
  | .bl b => some b
  | .int i => some (i != 0)
  | .str x => if x.length ≤ sizeLine then some ((x.length : Int) != 0) else none
  | .tup ds => some (!ds.isEmpty)
  | .rol xs => some (!xs.isEmpty)
  | .ref n => match M.get n with
    | some (.lst xs) => some (!xs.isEmpty)
    | some (.dct kvs) => some (!kvs.isEmpty)
    | _ => none
  | _ => none
theorem RL.isEmpty {Γ : Ga} {ι : Nat → Addr} {N : Nat} {H : Hp} {ds : List D} {vs : List V} (r : RL Γ ι N H ds vs) : vs.isEmpty = ds.isEmpty := by cases r <;> rfl
theorem RK.isEmpty {κ : Type} {Γ : Ga} {ι : Nat → Addr} {N : Nat} {H : Hp} {ds : List (κ × D)} {vs : List (κ × V)} (r : RK Γ ι N H ds vs) : vs.isEmpty = ds.isEmpty := by cases r <;> rfl
theorem truth_ok {Γ : Ga} {ι : Nat → Addr} {M : Mem} {H : Hp} {d : D} {v : V} {b : Bool} (rm : RM Γ ι M H) (r : R Γ ι M.sz H d v) (e : truth M d = some b) : TruV Γ.K v H b := by
  unfold truth at e
  split at e
  · cases r; cases e; exact rfl
  · cases r; cases e; exact rfl
  · cases r; cases e; exact rfl
  · cases r
    split at e
    · rename_i h
      cases e; exact ⟨h, rfl⟩
    · cases e
  · cases r with
    | tup hs rl => cases e; exact .inr (.inl ⟨_, hs, by rw [rl.isEmpty]⟩)
  · cases r with
    | rol hs => cases e; exact .inl ⟨_, hs.sq, by rw [List.isEmpty_map]⟩
  · cases r
    split at e
    · rename_i g
      cases e
      obtain ⟨vs, e1, rl⟩ := rm.ob _ _ g
      exact .inl ⟨_, SqL.of e1, by rw [rl.isEmpty]⟩
    · rename_i g
      cases e
      obtain ⟨vs, e1, rl⟩ := rm.ob _ _ g
      exact .inr (.inr ⟨_, e1, by rw [rl.isEmpty]⟩)
    · cases e
  · cases e
/-- a value's truth -/
def xVal (m : Ev) : Bv := fun ρ M => bnd (m ρ M) fun d M1 => (truth M1 d).map fun b => (b, M1)
def xNot (m : Bv) : Bv := fun ρ M => bnd (m ρ M) fun b M1 => some (!b, M1)
def xAnd (m n : Bv) : Bv := fun ρ M => bnd (m ρ M) fun b M1 => if b = true then n ρ M1 else some (false, M1)
def xOr (m n : Bv) : Bv := fun ρ M => bnd (m ρ M) fun b M1 => if b = true then some (true, M1) else n ρ M1
def eNot (m : Ev) : Ev := fun ρ M => bnd (m ρ M) fun d M1 => (truth M1 d).map fun b => (.bl (!b), M1)
def eAnd (m n : Ev) : Ev := fun ρ M => bnd (m ρ M) fun d M1 => match truth M1 d with
  | some true => n ρ M1
  | some false => some (d, M1)
  | none => none
def eOr (m n : Ev) : Ev := fun ρ M => bnd (m ρ M) fun d M1 => match truth M1 d with
  | some true => some (d, M1)
  | some false => n ρ M1
  | none => none
def eIf (c : Bv) (m n : Ev) : Ev := fun ρ M => bnd (c ρ M) fun b M1 => if b = true then m ρ M1 else n ρ M1
def eChain (g g' : D → D → Mem → Out D) (ma mb mc : Ev) : Ev := fun ρ M => bnd (ma ρ M) fun a M1 => bnd (mb ρ M1) fun b M2 => bnd (g a b M2) fun r M3 => match r with
  | .bl true => bnd (mc ρ M3) fun c M4 => g' b c M4
  | .bl false => some (.bl false, M3)
  | _ => none
section
variable {Γ : Ga} {X : Cx} {a b c : Expr} {rest : List Expr} {ma mb mc : Ev} {ta tb : Bv} {pos : Pos}
theorem xVal_go (hK : X.K = Γ.K) {σ : St} {H : Hp} {Q : Bool → Hp → Prop} (h : tB Γ (xVal ma) σ H Q) : tE Γ ma σ H fun x H' => ∃ k, TruV X.K x H' k ∧ Q k H' := by
  obtain ⟨ι, ρ, M, S, r, M', e, q⟩ := h
  obtain ⟨d, M1, e1, e⟩ := bnd_inv e
  obtain ⟨r', e2, e3⟩ := Option.map_eq_some_iff.mp e
  cases e3
  exact ⟨ι, ρ, M, S, d, _, e1, fun v H' ι' x1 r1 rd => ⟨r, by rw [hK]; exact truth_ok r1 rd e2, q H' ι' x1 r1⟩⟩
/-- any expression as a test, by its value's truth -/
theorem x_val (hK : X.K = Γ.K) (ha : PE X a (tE Γ ma)) (he : ∀ whole, isTrue a X.env whole = (do let v ← whole; standAt a.pos; holding [v] (truthy v)) := by intro _; rfl) : PT X a (tB Γ (xVal ma)) :=
  PT.of (pt_truth ha he) fun _ _ _ h => xVal_go hK h
/-- a comparison as a test -/
theorem x_cmp {op : CmpOp} {g : D → D → Mem → Out D} (ho : OpR X (compareOp op) (rD Γ g)) (hb1 : ∀ a b M d M', g a b M = some (d, M') → ∃ k, d = .bl k) (ha : PE X a (tE Γ ma)) (hb : PE X b (tE Γ mb)) (hm : behindInMarks op b = false) :
    PT X (.Compare a [op] [b] pos) (tB Γ (xVal (eOp g ma mb))) := by
  refine PT.of (pt_cmpR ho ha hb hm) fun σ H Q h => ?_
  obtain ⟨ι, ρ, M, S, r, M', e, q⟩ := h
  obtain ⟨d, M1, e1, e⟩ := bnd_inv e
  obtain ⟨r', e2, e3⟩ := Option.map_eq_some_iff.mp e
  cases e3
  refine op2_go ⟨ι, ρ, M, S, d, _, e1, fun v H' ι' x1 r1 rd => ?_⟩
  obtain ⟨_, M2, _, e4⟩ := bnd_inv e1
  obtain ⟨_, M3, _, e5⟩ := bnd_inv e4
  obtain ⟨k, rfl⟩ := hb1 _ _ _ _ _ e5
  cases rd
  cases e2
  exact ⟨r, rfl, q H' ι' x1 r1⟩
theorem x_not (ha : PT X a (tB Γ ta)) : PT X (.UnaryOp .Not a pos) (tB Γ (xNot ta)) := by
  refine PT.of (pt_not ha) fun σ H Q h => ?_
  obtain ⟨ι, ρ, M, S, r, M', e, q⟩ := h
  obtain ⟨d, M1, e1, e⟩ := bnd_inv e
  cases e
  exact ⟨ι, ρ, M, S, d, _, e1, q⟩
theorem xw_one (ha : PT X a (tB Γ ta)) : PW X (.BoolOp .And [a] pos) (tB Γ ta) := pw_and1 ha
theorem xw_one' (ha : PT X a (tB Γ ta)) : PW X (.BoolOp .Or [a] pos) (tB Γ ta) := pw_or1 ha
theorem PW.of {e : Expr} {t t' : TT} (h : PW X e t) (w : ∀ σ H Q, t' σ H Q → t σ H Q) : PW X e t' := ⟨fun wh pins s σ H Q I q => h.run wh pins s σ H Q I (w _ _ _ q)⟩
theorem xw_and (ha : PT X a (tB Γ ta)) (hb : PW X (.BoolOp .And (b :: rest) pos) (tB Γ tb)) : PW X (.BoolOp .And (a :: b :: rest) pos) (tB Γ (xAnd ta tb)) := by
  refine PW.of (pw_and ha hb) fun σ H Q h => ?_
  obtain ⟨ι, ρ, M, S, r, M', e, q⟩ := h
  obtain ⟨d, M1, e1, e⟩ := bnd_inv e
  refine ⟨ι, ρ, M, S, d, M1, e1, fun H1 ι1 x1 r1 => ?_⟩
  cases d with
  | true => exact ⟨ι1, ρ, M1, S.ext x1 r1, r, M', e, fun H2 ι2 x2 r2 => q H2 ι2 (x1.trans r1 x2) r2⟩
  | false => cases e; exact q H1 ι1 x1 r1
theorem xw_or (ha : PT X a (tB Γ ta)) (hb : PW X (.BoolOp .Or (b :: rest) pos) (tB Γ tb)) : PW X (.BoolOp .Or (a :: b :: rest) pos) (tB Γ (xOr ta tb)) := by
  refine PW.of (pw_or ha hb) fun σ H Q h => ?_
  obtain ⟨ι, ρ, M, S, r, M', e, q⟩ := h
  obtain ⟨d, M1, e1, e⟩ := bnd_inv e
  refine ⟨ι, ρ, M, S, d, M1, e1, fun H1 ι1 x1 r1 => ?_⟩
  cases d with
  | true => cases e; exact q H1 ι1 x1 r1
  | false => exact ⟨ι1, ρ, M1, S.ext x1 r1, r, M', e, fun H2 ι2 x2 r2 => q H2 ι2 (x1.trans r1 x2) r2⟩
/-- values -/
theorem p_one {op : PySem.BoolOp} (h : PE X a (tE Γ ma)) : PE X (.BoolOp op [a] pos) (tE Γ ma) := pe_one h
theorem p_not (hK : X.K = Γ.K) (ha : PE X a (tE Γ ma)) : PE X (.UnaryOp .Not a pos) (tE Γ (eNot ma)) := by
  refine PE.of (pe_notT ha) fun σ H Q h => ?_
  obtain ⟨ι, ρ, M, S, r, M', e, q⟩ := h
  obtain ⟨d, M1, e1, e⟩ := bnd_inv e
  obtain ⟨b, e2, e3⟩ := Option.map_eq_some_iff.mp e
  cases e3
  exact ⟨ι, ρ, M, S, d, _, e1, fun v H' ι' x1 r1 rd => ⟨b, by rw [hK]; exact truth_ok r1 rd e2, q _ H' ι' x1 r1 (.bl _)⟩⟩
theorem p_and (hK : X.K = Γ.K) (ha : PE X a (tE Γ ma)) (hb : PE X (.BoolOp .And (b :: rest) pos) (tE Γ mb)) : PE X (.BoolOp .And (a :: b :: rest) pos) (tE Γ (eAnd ma mb)) := by
  refine PE.of (pe_andT ha hb) fun σ H Q h => ?_
  obtain ⟨ι, ρ, M, S, r, M', e, q⟩ := h
  obtain ⟨d, M1, e1, e⟩ := bnd_inv e
  refine ⟨ι, ρ, M, S, d, M1, e1, fun v H1 ι1 x1 r1 rd => ?_⟩
  split at e
  · rename_i ht
    refine ⟨true, by rw [hK]; exact truth_ok r1 rd ht, iteT ?_⟩
    exact ⟨ι1, ρ, M1, S.ext x1 r1, r, M', e, fun v H2 ι2 x2 r2 rd => q v H2 ι2 (x1.trans r1 x2) r2 rd⟩
  · rename_i ht
    cases e
    exact ⟨false, by rw [hK]; exact truth_ok r1 rd ht, iteF (q v H1 ι1 x1 r1 rd)⟩
  · cases e
theorem p_or (hK : X.K = Γ.K) (ha : PE X a (tE Γ ma)) (hb : PE X (.BoolOp .Or (b :: rest) pos) (tE Γ mb)) : PE X (.BoolOp .Or (a :: b :: rest) pos) (tE Γ (eOr ma mb)) := by
  refine PE.of (pe_orT ha hb) fun σ H Q h => ?_
  obtain ⟨ι, ρ, M, S, r, M', e, q⟩ := h
  obtain ⟨d, M1, e1, e⟩ := bnd_inv e
  refine ⟨ι, ρ, M, S, d, M1, e1, fun v H1 ι1 x1 r1 rd => ?_⟩
  split at e
  · rename_i ht
    cases e
    exact ⟨true, by rw [hK]; exact truth_ok r1 rd ht, iteT (q v H1 ι1 x1 r1 rd)⟩
  · rename_i ht
    refine ⟨false, by rw [hK]; exact truth_ok r1 rd ht, iteF ?_⟩
    exact ⟨ι1, ρ, M1, S.ext x1 r1, r, M', e, fun v H2 ι2 x2 r2 rd => q v H2 ι2 (x1.trans r1 x2) r2 rd⟩
  · cases e
theorem p_if (hc : PT X c (tB Γ ta)) (ha : PE X a (tE Γ ma)) (hb : PE X b (tE Γ mb)) : PE X (.IfExp c a b pos) (tE Γ (eIf ta ma mb)) := by
  refine PE.of (pe_ifExp hc ha hb) fun σ H Q h => ?_
  obtain ⟨ι, ρ, M, S, r, M', e, q⟩ := h
  obtain ⟨d, M1, e1, e⟩ := bnd_inv e
  refine ⟨ι, ρ, M, S, d, M1, e1, fun H1 ι1 x1 r1 => ?_⟩
  cases d with
  | true => exact iteT ⟨ι1, ρ, M1, S.ext x1 r1, r, M', e, fun v H2 ι2 x2 r2 rd => q v H2 ι2 (x1.trans r1 x2) r2 rd⟩
  | false => exact iteF ⟨ι1, ρ, M1, S.ext x1 r1, r, M', e, fun v H2 ι2 x2 r2 rd => q v H2 ι2 (x1.trans r1 x2) r2 rd⟩
theorem chain_go {g g' : D → D → Mem → Out D} {σ : St} {H : Hp} {Q : VK} (h : tE Γ (eChain g g' ma mb mc) σ H Q) : tChain (rD Γ g) (rD Γ g') (tE Γ ma) (tE Γ mb) (tE Γ mc) σ H Q := by
  obtain ⟨ι, ρ, M, S, d, M', e, q⟩ := h
  obtain ⟨a, M1, e1, e⟩ := bnd_inv e
  obtain ⟨b, M2, e2, e⟩ := bnd_inv e
  obtain ⟨r, M3, e3, e⟩ := bnd_inv e
  refine ⟨ι, ρ, M, S, a, M1, e1, fun x H1 ι1 x1 r1 ra => ⟨ι1, ρ, M1, S.ext x1 r1, b, M2, e2, fun y H2 ι2 x2 r2 rb => ?_⟩⟩
  refine ⟨ι2, M2, a, b, r2, ra.ext r1 x2, rb, r, M3, e3, fun v H3 ι3 x3 r3 rd => ?_⟩
  have x12 := x1.trans r1 x2
  have x13 := x12.trans r2 x3
  split at e
  · cases rd
    refine ⟨true, rfl, iteT ?_⟩
    obtain ⟨c, M4, e4, e⟩ := bnd_inv e
    refine ⟨ι3, ρ, M3, S.ext x13 r3, c, M4, e4, fun z H4 ι4 x4 r4 rc => ?_⟩
    exact ⟨ι4, M4, b, c, r4, (rb.ext r2 x3).ext r3 x4, rc, d, M', e, fun v H5 ι5 x5 r5 rd => q v H5 ι5 ((x13.trans r3 x4).trans r4 x5) r5 rd⟩
  · cases rd
    cases e
    exact ⟨false, rfl, iteF (q _ H3 ι3 x13 r3 (.bl _))⟩
  · cases e
theorem p_chain {op op' : CmpOp} {g g' : D → D → Mem → Out D} (ho : OpR X (compareOp op) (rD Γ g)) (ho' : OpR X (compareOp op') (rD Γ g')) (ha : PE X a (tE Γ ma)) (hb : PE X b (tE Γ mb)) (hc : PE X c (tE Γ mc))
    (hm : lastMarks [op, op'] [b, c] = false := by with_unfolding_all rfl) : PE X (.Compare a [op, op'] [b, c] pos) (tE Γ (eChain g g' ma mb mc)) :=
  PE.of (pe_chain ho ho' ha hb hc hm) fun _ _ _ h => chain_go h
end

/-! ### which answers are truths -/
theorem b_gEq (a b : D) (M : Mem) (d : D) (M' : Mem) (h : gEq a b M = some (d, M')) : ∃ k, d = .bl k := by
  obtain ⟨r, _, e⟩ := Option.map_eq_some_iff.mp h
  cases e; exact ⟨_, rfl⟩
theorem b_gNe (a b : D) (M : Mem) (d : D) (M' : Mem) (h : gNe a b M = some (d, M')) : ∃ k, d = .bl k := by
  obtain ⟨r, _, e⟩ := Option.map_eq_some_iff.mp h
  cases e; exact ⟨_, rfl⟩
theorem b_gLt (a b : D) (M : Mem) (d : D) (M' : Mem) (h : gLt a b M = some (d, M')) : ∃ k, d = .bl k := by
  obtain ⟨r, _, e⟩ := Option.map_eq_some_iff.mp h
  cases e; exact ⟨_, rfl⟩
theorem b_gIn (a b : D) (M : Mem) (d : D) (M' : Mem) (h : gIn a b M = some (d, M')) : ∃ k, d = .bl k := by
  obtain ⟨r, _, e⟩ := Option.map_eq_some_iff.mp h
  cases e; exact ⟨_, rfl⟩
theorem b_gNotIn (a b : D) (M : Mem) (d : D) (M' : Mem) (h : gNotIn a b M = some (d, M')) : ∃ k, d = .bl k := by
  obtain ⟨r, _, e⟩ := Option.map_eq_some_iff.mp h
  cases e; exact ⟨_, rfl⟩
theorem b_gLe (a b : D) (M : Mem) (d : D) (M' : Mem) (h : gLe a b M = some (d, M')) : ∃ k, d = .bl k := by
  unfold gLe at h
  split at h
  · cases h; exact ⟨_, rfl⟩
  · cases h
theorem b_gGt (a b : D) (M : Mem) (d : D) (M' : Mem) (h : gGt a b M = some (d, M')) : ∃ k, d = .bl k := by
  unfold gGt at h
  split at h
  · cases h; exact ⟨_, rfl⟩
  · cases h
theorem b_gGe (a b : D) (M : Mem) (d : D) (M' : Mem) (h : gGe a b M = some (d, M')) : ∃ k, d = .bl k := by
  unfold gGe at h
  split at h
  · cases h; exact ⟨_, rfl⟩
  · cases h

/-! ### is None; a minus -/
def eIsN (m : Ev) : Ev := fun ρ M => bnd (m ρ M) fun d M1 => some (.bl (isN d), M1)
def eNotN (m : Ev) : Ev := fun ρ M => bnd (m ρ M) fun d M1 => some (.bl (!isN d), M1)
def eNeg (m : Ev) : Ev := fun ρ M => bnd (m ρ M) fun d M1 => match d with
  | .int i => some (.int (-i), M1)
  | _ => none
section
variable {Γ : Ga} {X : Cx} {a : Expr} {ma : Ev} {pos pos' : Pos} {j : Nat}
theorem isN_go {σ : St} {H : Hp} {Q : VK} (h : tE Γ (eIsN ma) σ H Q) : tIsN (tE Γ ma) σ H Q := by
  obtain ⟨ι, ρ, M, S, d, M', e, q⟩ := h
  obtain ⟨a, M1, e1, e⟩ := bnd_inv e
  cases e
  refine ⟨ι, ρ, M, S, a, _, e1, fun v H' ι' x1 r1 rd => ?_⟩
  show Q (.bl (decide (v = .non))) H'
  rw [isN_dec rd]
  exact q _ H' ι' x1 r1 (.bl _)
theorem notN_go {σ : St} {H : Hp} {Q : VK} (h : tE Γ (eNotN ma) σ H Q) : tNotN (tE Γ ma) σ H Q := by
  obtain ⟨ι, ρ, M, S, d, M', e, q⟩ := h
  obtain ⟨a, M1, e1, e⟩ := bnd_inv e
  cases e
  refine ⟨ι, ρ, M, S, a, _, e1, fun v H' ι' x1 r1 rd => ?_⟩
  show Q (.bl (!decide (v = .non))) H'
  rw [isN_dec rd]
  exact q _ H' ι' x1 r1 (.bl _)
theorem p_isN (ha : PE X a (tE Γ ma)) : PE X (.Compare a [.Is] [.Constant .none j pos'] pos) (tE Γ (eIsN ma)) := PE.of (pe_cmp (pc_isN ha) rfl) fun _ _ _ h => isN_go h
theorem p_notN (ha : PE X a (tE Γ ma)) : PE X (.Compare a [.IsNot] [.Constant .none j pos'] pos) (tE Γ (eNotN ma)) := PE.of (pe_cmp (pc_notN ha) rfl) fun _ _ _ h => notN_go h
theorem x_isN (ha : PE X a (tE Γ ma)) : PT X (.Compare a [.Is] [.Constant .none j pos'] pos) (tB Γ (xVal (eIsN ma))) := by
  refine PT.of (pt_cmp (pc_isN ha) rfl) fun σ H Q h => ?_
  obtain ⟨ι, ρ, M, S, r, M', e, q⟩ := h
  obtain ⟨d, M1, e1, e⟩ := bnd_inv e
  obtain ⟨r', e2, e3⟩ := Option.map_eq_some_iff.mp e
  cases e3
  refine isN_go ⟨ι, ρ, M, S, d, _, e1, fun v H' ι' x1 r1 rd => ?_⟩
  obtain ⟨_, M2, _, e4⟩ := bnd_inv e1
  cases e4
  cases rd
  cases e2
  exact ⟨_, rfl, q H' ι' x1 r1⟩
theorem x_notN (ha : PE X a (tE Γ ma)) : PT X (.Compare a [.IsNot] [.Constant .none j pos'] pos) (tB Γ (xVal (eNotN ma))) := by
  refine PT.of (pt_cmp (pc_notN ha) rfl) fun σ H Q h => ?_
  obtain ⟨ι, ρ, M, S, r, M', e, q⟩ := h
  obtain ⟨d, M1, e1, e⟩ := bnd_inv e
  obtain ⟨r', e2, e3⟩ := Option.map_eq_some_iff.mp e
  cases e3
  refine notN_go ⟨ι, ρ, M, S, d, _, e1, fun v H' ι' x1 r1 rd => ?_⟩
  obtain ⟨_, M2, _, e4⟩ := bnd_inv e1
  cases e4
  cases rd
  cases e2
  exact ⟨_, rfl, q H' ι' x1 r1⟩
theorem p_neg (ha : PE X a (tE Γ ma)) : PE X (.UnaryOp .USub a pos) (tE Γ (eNeg ma)) := by
  refine PE.of (pe_un un_neg ha) fun σ H Q h => ?_
  obtain ⟨ι, ρ, M, S, d, M', e, q⟩ := h
  obtain ⟨a, M1, e1, e⟩ := bnd_inv e
  split at e
  · cases e
    refine ⟨ι, ρ, M, S, _, _, e1, fun v H' ι' x1 r1 rd => ?_⟩
    cases rd
    exact ⟨_, rfl, q _ H' ι' x1 r1 (.int _)⟩
  · cases e
end
end Nl

set_option autoImplicit false
/-! Nl, part D: displays, fields, items, slices, calls of what is built in. -/
namespace Nl
open PySem L2

/-! ### argument lists -/
def eArgs : List Ev → Evs
  | [] => fun _ M => some ([], M)
  | m :: ms => fun ρ M => bnd (m ρ M) fun d M1 => bnd (eArgs ms ρ M1) fun ds M2 => some (d :: ds, M2)
@[simp] theorem eArgs_nil (ρ : Rho) (M : Mem) : eArgs [] ρ M = some ([], M) := rfl
@[simp] theorem eArgs_cons (m : Ev) (ms : List Ev) (ρ : Rho) (M : Mem) : eArgs (m :: ms) ρ M = bnd (m ρ M) fun d M1 => bnd (eArgs ms ρ M1) fun ds M2 => some (d :: ds, M2) := rfl
theorem eArgs_len : ∀ {ms : List Ev} {ρ : Rho} {M M' : Mem} {ds : List D}, eArgs ms ρ M = some (ds, M') → ds.length = ms.length
  | [], _, _, _, _, e => by cases e; rfl
  | m :: ms, _, _, _, _, e => by
    obtain ⟨d, M1, _, e⟩ := bnd_inv e
    obtain ⟨ds, M2, e2, e⟩ := bnd_inv e
    cases e
    exact congrArg Nat.succ (eArgs_len e2)
section
variable {Γ : Ga} {X : Cx} {e : Expr} {es : List Expr} {m : Ev} {ms : List Ev}
theorem a_nil : PA X [] (tL Γ (eArgs [])) := by
  refine PA.of pa_nil fun σ H Q h => ?_
  obtain ⟨ι, ρ, M, S, d, M', e, q⟩ := h
  cases e
  exact q [] H ι (Ext.refl _ _ _) S.m .nil
theorem a_cons (ha : PE X e (tE Γ m)) (hr : PA X es (tL Γ (eArgs ms))) (hs : starEach (e :: es) X.env = (false, eval e X.env) :: starEach es X.env := by rfl) : PA X (e :: es) (tL Γ (eArgs (m :: ms))) := by
  refine PA.of (pa_cons ha hr hs) fun σ H Q h => ?_
  obtain ⟨ι, ρ, M, S, d, M', e, q⟩ := h
  obtain ⟨d1, M1, e1, e⟩ := bnd_inv e
  obtain ⟨ds, M2, e2, e⟩ := bnd_inv e
  cases e
  refine ⟨ι, ρ, M, S, d1, M1, e1, fun v H1 ι1 x1 r1 rd => ⟨ι1, ρ, M1, S.ext x1 r1, ds, _, e2, fun vs H2 ι2 x2 r2 rl => ?_⟩⟩
  exact q _ H2 ι2 (x1.trans r1 x2) r2 (.cons (rd.ext r1 x2) rl)
end

/-! ### displays -/
def eTup (ms : List Ev) : Ev := fun ρ M => bnd (eArgs ms ρ M) fun ds M1 => some (.tup ds, M1)
def eLst (ms : List Ev) : Ev := fun ρ M => bnd (eArgs ms ρ M) fun ds M1 => some (.ref M1.sz, M1.new (.lst ds))
def eDnK : Ev := fun _ M => some (.ref M.sz, M.new (.dct []))
def eDnT : Ev := fun _ M => some (.ref M.sz, M.new (.dtt []))
section
variable {Γ : Ga} {X : Cx} {es : List Expr} {ms : List Ev} {pos : Pos}
theorem p_tup {x1} (h : PA X es (tL Γ (eArgs ms))) (hl : ms.length ≤ 1000 := by exact Nat.le_of_ble_eq_true rfl) : PE X (.Tuple es x1 pos) (tE Γ (eTup ms)) := by
  refine PE.of (pe_tup h) fun σ H Q h => ?_
  obtain ⟨ι, ρ, M, S, d, M', e, q⟩ := h
  obtain ⟨ds, M1, e1, e⟩ := bnd_inv e
  cases e
  refine ⟨ι, ρ, M, S, ds, _, e1, fun vs H1 ι1 x1 r1 rl => ⟨?_, new_tup r1 rl fun v H' ι' x2 r2 rd => q v H' ι' (x1.trans r1 x2) r2 rd⟩⟩
  rw [← rl.length, eArgs_len e1, sizeLine_eq]; omega
theorem p_lst (h : PA X es (tL Γ (eArgs ms))) (hl : ms.length ≤ 1000 := by exact Nat.le_of_ble_eq_true rfl) : PE X (.List es pos) (tE Γ (eLst ms)) := by
  refine PE.of (pe_lst h) fun σ H Q h => ?_
  obtain ⟨ι, ρ, M, S, d, M', e, q⟩ := h
  obtain ⟨ds, M1, e1, e⟩ := bnd_inv e
  cases e
  refine ⟨ι, ρ, M, S, ds, _, e1, fun vs H1 ι1 x1 r1 rl => ⟨?_, new_list r1 rl fun v H' ι' x2 r2 rd => q v H' ι' (x1.trans r1 x2) r2 rd⟩⟩
  rw [← rl.length, eArgs_len e1, sizeLine_eq]; omega
/-- any new object -/
theorem new_any {Γ : Ga} {ι : Nat → Addr} {M : Mem} {H : Hp} {ob : O} {o : HO} {Q : VK} (r : RM Γ ι M H) (h : ∀ p, H p = none → RO Γ (more ι M.sz p) (M.sz + 1) (upd H p o) p ob)
    (q : ∀ v H' ι', Ext ι ι' M.sz (M.new ob).sz H H' → RM Γ ι' (M.new ob) H' → R Γ ι' (M.new ob).sz H' (.ref M.sz) v → Q v H') :
    ∀ p, H p = none → Q (.ref p) (upd H p o) := fun p hp => by
  refine q (.ref p) _ (more ι M.sz p) ?_ (r.laid hp (h p hp)) ?_
  · rw [Mem.sz_new]; exact Ext.more hp
  · rw [Mem.sz_new]
    have e : p = more ι M.sz p M.sz := more_same.symm
    exact (congrArg (fun z => R Γ (more ι M.sz p) (M.sz + 1) (upd H p o) (.ref M.sz) (.ref z)) e).mpr (R.ref (Nat.lt_succ_self _))
theorem p_dnK : PE X (.Dict [] [] pos) (tE Γ eDnK) := by
  refine PE.of pe_dnewK fun σ H Q h => ?_
  obtain ⟨ι, ρ, M, S, d, M', e, q⟩ := h
  cases e
  exact new_any (o := .dK []) (ob := .dct []) S.m (fun p hp => ⟨[], upd_same, .nil⟩) q
theorem p_dnT : PE X (.Dict [] [] pos) (tE Γ eDnT) := by
  refine PE.of pe_dnewT fun σ H Q h => ?_
  obtain ⟨ι, ρ, M, S, d, M', e, q⟩ := h
  cases e
  exact new_any (o := .dT []) (ob := .dtt []) S.m (fun p hp => ⟨[], upd_same, .nil⟩) q
end

/-! ### an object that is made beside, then taken into the memory -/
section
variable {Γ : Ga} {ι ι1 : Nat → Addr} {M M1 : Mem} {H H1 : Hp} {p : Addr} {o o0 : HO}
theorem side_ne (rm : RM Γ ι M H) (hp : H p = none) (x : Ext ι ι1 M.sz M1.sz (upd H p o0) H1) : ∀ n, n < M1.sz → ι1 n ≠ p := fun n hn e => by
  by_cases h2 : n < M.sz
  · rw [x.ag n h2] at e
    exact rm.there h2 (by rw [e]; exact hp)
  · have z := x.new n (Nat.not_lt.mp h2) hn
    rw [e, upd_same] at z
    cases z
theorem side_at (rm : RM Γ ι M H) (hp : H p = none) (x : Ext ι ι1 M.sz M1.sz (upd H p o0) H1) : H1 p = some o0 := x.keep p _ upd_same fun n hn e => rm.there hn (by rw [e]; exact hp)
theorem side_ext (rm : RM Γ ι M H) (hp : H p = none) (x : Ext ι ι1 M.sz M1.sz (upd H p o0) H1) : Ext ι (more ι1 M1.sz p) M.sz (M1.sz + 1) H (upd H1 p o) where
  le := Nat.le_succ_of_le x.le
  ag := fun n hn => (more_lt (Nat.lt_of_lt_of_le hn x.le)).trans (x.ag n hn)
  new := fun n h1 h2 => by
    by_cases h : n = M1.sz
    · rw [h, more_same]; exact hp
    · have lt : n < M1.sz := by omega
      rw [more_lt lt]
      have z := x.new n h1 lt
      rw [upd_ne (side_ne rm hp x n lt)] at z
      exact z
  keep := fun a u h hne => by
    have na : a ≠ p := ne_of_none h hp
    rw [upd_ne na]
    exact x.keep a u (by rw [upd_ne na]; exact h) hne
theorem RM.side (r : RM Γ ι M H) (hne : ∀ n, n < M.sz → ι n ≠ p) (lo : Loose (H p)) : RM Γ ι M (upd H p o) where
  ob := fun n ob h => by
    refine ro_mono (Nat.le_refl _) (fun _ _ => rfl) (fun a u h1 nl => ?_) (upd_ne (hne n (Mem.get_lt h))) (r.ob n ob h)
    rw [upd_ne fun e => nl (by rw [e]; exact lo)]; exact h1
  inj := r.inj
theorem keep_side (lo : Loose (H p)) : ∀ a u, H a = some u → ¬ Loose (H a) → upd H p o a = some u := fun a u h1 nl => by
  rw [upd_ne fun e => nl (by rw [e]; exact lo)]; exact h1
theorem R.late {d : D} {v : V} (h : R Γ ι M.sz H d v) (lo : Loose (H p)) : R Γ (Nl.more ι M.sz p) (M.sz + 1) (L2.upd H p o) d v := R.mono (Nat.le_succ _) (fun n hn => more_lt hn) (keep_side lo) _ _ h
theorem RL.late {d : List D} {v : List V} (h : RL Γ ι M.sz H d v) (lo : Loose (H p)) : RL Γ (Nl.more ι M.sz p) (M.sz + 1) (L2.upd H p o) d v := RL.mono (Nat.le_succ _) (fun n hn => more_lt hn) (keep_side lo) _ _ h
theorem RK.late {κ : Type} {d : List (κ × D)} {v : List (κ × V)} (h : RK Γ ι M.sz H d v) (lo : Loose (H p)) : RK Γ (Nl.more ι M.sz p) (M.sz + 1) (L2.upd H p o) d v := RK.mono (Nat.le_succ _) (fun n hn => more_lt hn) (keep_side lo) h
theorem ref_more {N : Nat} : R Γ (Nl.more ι N p) (N + 1) H (.ref N) (.ref p) := by
  have e : p = more ι N p N := more_same.symm
  exact (congrArg (fun z => R Γ (Nl.more ι N p) (N + 1) H (.ref N) (.ref z)) e).mpr (R.ref (Nat.lt_succ_self _))
end

/-! ### dicts: what is found, what is put -/
def findK {κ : Type} [DecidableEq κ] (kvs : List (κ × D)) (k : κ) : Option D := (kvs.find? fun p => decide (p.1 = k)).map (·.2)
def putD {κ : Type} [DecidableEq κ] (kvs : List (κ × D)) (k : κ) (d : D) : List (κ × D) := if hasK kvs k = true then kvs.map (fun p => if p.1 = k then (p.1, d) else p) else kvs ++ [(k, d)]
section
variable {κ : Type} [DecidableEq κ] {Γ : Ga} {ι : Nat → Addr} {N : Nat} {H : Hp}
theorem findK_ok {k : κ} : ∀ {ds : List (κ × D)} {vs : List (κ × V)}, RK Γ ι N H ds vs → ∀ d, findK ds k = some d → ∃ v, valV vs k = some v ∧ R Γ ι N H d v
  | _, _, .nil, d, e => by cases e
  | _, _, .cons (k := j) (d := d0) (v := v0) (ds := ds) (vs := vs) r t, d, e => by
    unfold findK at e
    rw [List.find?_cons] at e
    by_cases hj : j = k
    · simp only [hj, decide_true] at e
      cases e
      exact ⟨v0, valV_pos (p := (j, v0)) hj, r⟩
    · simp only [hj, decide_false] at e
      obtain ⟨v, h1, h2⟩ := findK_ok (k := k) t d e
      exact ⟨v, by rw [valV_neg (p := (j, v0)) hj]; exact h1, h2⟩
theorem findK_none {k : κ} : ∀ {ds : List (κ × D)} {vs : List (κ × V)}, RK Γ ι N H ds vs → findK ds k = none → valV vs k = none
  | _, _, .nil, e => rfl
  | _, _, .cons (k := j) (d := d0) (v := v0) (ds := ds) (vs := vs) r t, e => by
    unfold findK at e
    rw [List.find?_cons] at e
    by_cases hj : j = k
    · simp [hj] at e
    · simp only [hj, decide_false] at e
      rw [valV_neg (p := (j, v0)) hj]
      exact findK_none (k := k) t e
theorem RK.append : ∀ {ds es : List (κ × D)} {vs ws : List (κ × V)}, RK Γ ι N H ds vs → RK Γ ι N H es ws → RK Γ ι N H (ds ++ es) (vs ++ ws)
  | _, _, _, _, .nil, s => s
  | _, _, _, _, .cons r t, s => .cons r (RK.append t s)
theorem RK.length : ∀ {ds : List (κ × D)} {vs : List (κ × V)}, RK Γ ι N H ds vs → ds.length = vs.length
  | _, _, .nil => rfl
  | _, _, .cons _ t => congrArg Nat.succ (RK.length t)
theorem RK.repl {k : κ} {d : D} {v : V} (r : R Γ ι N H d v) : ∀ {ds : List (κ × D)} {vs : List (κ × V)}, RK Γ ι N H ds vs → RK Γ ι N H (ds.map fun p => if p.1 = k then (p.1, d) else p) (vs.map fun p => if p.1 = k then (p.1, v) else p)
  | _, _, .nil => .nil
  | _, _, .cons (k := j) (d := d0) (v := v0) (ds := ds) (vs := vs) q t => by
    rw [List.map_cons, List.map_cons]
    by_cases hj : j = k
    · rw [if_pos hj, if_pos hj]; exact .cons r (RK.repl r t)
    · rw [if_neg hj, if_neg hj]; exact .cons q (RK.repl r t)
theorem putD_ok {k : κ} {d : D} {v : V} {ds : List (κ × D)} {vs : List (κ × V)} (t : RK Γ ι N H ds vs) (r : R Γ ι N H d v) : RK Γ ι N H (putD ds k d) (putK vs k v) := by
  unfold putD putK
  rw [← hasK_ok t]
  split
  · exact t.repl r
  · exact t.append (.cons r .nil)
end
/-- names and values -/
theorem lookup_ok {Γ : Ga} {ι : Nat → Addr} {N : Nat} {H : Hp} {f : Str} : ∀ {ds : List (Str × D)} {vs : List (Str × V)}, RK Γ ι N H ds vs → ∀ d, ds.lookup f = some d → ∃ v, vs.lookup f = some v ∧ R Γ ι N H d v
  | _, _, .nil, d, e => by cases e
  | _, _, .cons (k := j) (d := d0) (v := v0) (ds := ds) (vs := vs) r t, d, e => by
    rw [List.lookup_cons] at e ⊢
    split at e
    · cases e; exact ⟨v0, rfl, r⟩
    · exact lookup_ok t d e
theorem lookup_no {Γ : Ga} {ι : Nat → Addr} {N : Nat} {H : Hp} {f : Str} : ∀ {ds : List (Str × D)} {vs : List (Str × V)}, RK Γ ι N H ds vs → ds.lookup f = none → vs.lookup f = none
  | _, _, .nil, e => rfl
  | _, _, .cons (k := j) (d := d0) (v := v0) (ds := ds) (vs := vs) r t, e => by
    rw [List.lookup_cons] at e ⊢
    split at e
    · cases e
    · exact lookup_no t e
def putN (f : Str) (v : D) : List (Str × D) → List (Str × D)
  | [] => [(f, v)]
  | (g, x) :: r => if g = f then (g, v) :: r else (g, x) :: putN f v r
theorem putN_ok {Γ : Ga} {ι : Nat → Addr} {N : Nat} {H : Hp} {f : Str} {d : D} {v : V} (r : R Γ ι N H d v) : ∀ {ds : List (Str × D)} {vs : List (Str × V)}, RK Γ ι N H ds vs → RK Γ ι N H (putN f d ds) (putF f v vs)
  | _, _, .nil => .cons r .nil
  | _, _, .cons (k := j) (d := d0) (v := v0) (ds := ds) (vs := vs) q t => by
    rw [putN, putF]
    by_cases hj : j = f
    · rw [if_pos hj, if_pos hj]; exact .cons r t
    · rw [if_neg hj, if_neg hj]; exact .cons q (putN_ok r t)

/-! ### {k: v, ..} -/
def eKeys : List (Ev × Ev) → Rho → Mem → Out (List (Key × D))
  | [] => fun _ M => some ([], M)
  | (mk, mv) :: r => fun ρ M => bnd (mk ρ M) fun a M1 => bnd (mv ρ M1) fun b M2 => match keyD a with
    | some k => bnd (eKeys r ρ M2) fun ps M3 => some ((k, b) :: ps, M3)
    | none => none
def mergeD (kvs more : List (Key × D)) : List (Key × D) := more.foldl (fun acc kv => putD acc kv.1 kv.2) kvs
def eDisp (ms : List (Ev × Ev)) : Ev := fun ρ M => bnd (eKeys ms ρ M) fun ps M1 => some (.ref M1.sz, M1.new (.dct (mergeD [] ps)))
theorem eKeys_len : ∀ {ms : List (Ev × Ev)} {ρ : Rho} {M M' : Mem} {ps : List (Key × D)}, eKeys ms ρ M = some (ps, M') → ps.length = ms.length
  | [], _, _, _, _, e => by cases e; rfl
  | (mk, mv) :: ms, _, _, _, _, e => by
    obtain ⟨a, M1, _, e⟩ := bnd_inv e
    obtain ⟨b, M2, _, e⟩ := bnd_inv e
    split at e
    · obtain ⟨ps, M3, e3, e⟩ := bnd_inv e
      cases e
      exact congrArg Nat.succ (eKeys_len e3)
    · cases e
theorem keyD_ok {Γ : Ga} {ι : Nat → Addr} {N : Nat} {H : Hp} {d : D} {v : V} {k : Key} (r : R Γ ι N H d v) (e : keyD d = some k) : v = kV k := by
  unfold keyD at e
  split at e
  · cases r; cases e; rfl
  · cases r; cases e; rfl
  · cases e
theorem mergeD_ok {Γ : Ga} {ι : Nat → Addr} {N : Nat} {H : Hp} : ∀ {ds : List (Key × D)} {vs : List (Key × V)}, RK Γ ι N H ds vs → ∀ {as : List (Key × D)} {bs : List (Key × V)}, RK Γ ι N H as bs → RK Γ ι N H (mergeD as ds) (mergeK bs vs)
  | _, _, .nil, _, _, q => q
  | _, _, .cons r t, _, _, q => mergeD_ok t (putD_ok q r)
section
variable {Γ : Ga} {X : Cx} {pos : Pos}
def tTs (Γ : Ga) (ms : List (Ev × Ev)) : List (TE × TE) := ms.map fun p => (tE Γ p.1, tE Γ p.2)
theorem pairs_go : ∀ {ms : List (Ev × Ev)} {σ : St} {H : Hp} {Q : List (V × V) → Hp → Prop} {ι : Nat → Addr} {ρ : Rho} {M M' : Mem} {ps : List (Key × D)}, Sim Γ ι M H ρ σ → eKeys ms ρ M = some (ps, M') →
    (∀ (vs : List (Key × V)) H' ι', Ext ι ι' M.sz M'.sz H H' → RM Γ ι' M' H' → RK Γ ι' M'.sz H' ps vs → Q (vs.map fun kv => (kV kv.1, kv.2)) H') → tPairs (tTs Γ ms) σ H Q
  | [], σ, H, Q, ι, ρ, M, M', ps, S, e, q => by
    cases e
    exact q [] H ι (Ext.refl _ _ _) S.m .nil
  | (mk, mv) :: ms, σ, H, Q, ι, ρ, M, M', ps, S, e, q => by
    obtain ⟨a, M1, e1, e⟩ := bnd_inv e
    obtain ⟨b, M2, e2, e⟩ := bnd_inv e
    split at e
    · rename_i k hk
      obtain ⟨ps', M3, e3, e⟩ := bnd_inv e
      cases e
      refine ⟨ι, ρ, M, S, a, M1, e1, fun x H1 ι1 x1 r1 ra => ⟨ι1, ρ, M1, S.ext x1 r1, b, M2, e2, fun y H2 ι2 x2 r2 rb => ?_⟩⟩
      have x12 := x1.trans r1 x2
      refine pairs_go (ms := ms) (S.ext x12 r2) e3 fun vs H3 ι3 x3 r3 rk => ?_
      have hx := keyD_ok ra hk
      subst hx
      exact q ((k, y) :: vs) H3 ι3 (x12.trans r2 x3) r3 (.cons (rb.ext r2 x3) rk)
    · cases e
theorem q_nil : PPs X pos [] [] (tTs Γ []) := pps_nil
theorem q_cons {k v : Expr} {ks : List (Option Expr)} {vs : List Expr} {mk mv : Ev} {ms : List (Ev × Ev)} (hk : PE X k (tE Γ mk)) (hv : PE X v (tE Γ mv)) (hr : PPs X pos ks vs (tTs Γ ms)) : PPs X pos (some k :: ks) (v :: vs) (tTs Γ ((mk, mv) :: ms)) := pps_cons hk hv hr
theorem p_disp {keys : List (Option Expr)} {values : List Expr} {ms : List (Ev × Ev)} (h : PPs X pos keys values (tTs Γ ms)) (h15 : ms.length ≤ 15 := by exact Nat.le_of_ble_eq_true rfl) (hall : keys.all (·.isSome) = true := by rfl) (hl : keys.length = values.length := by rfl)
    (h0 : keys ≠ [] := by intro z; cases z) (h15' : keys.length ≤ 15 := by exact Nat.le_of_ble_eq_true rfl) : PE X (.Dict keys values pos) (tE Γ (eDisp ms)) := by
  refine PE.of (pe_disp h hall hl h0 h15') fun σ H Q h => ?_
  obtain ⟨ι, ρ, M, S, d, M', e, q⟩ := h
  obtain ⟨ps, M1, e1, e⟩ := bnd_inv e
  cases e
  intro p hp
  have S1 : Sim Γ ι M (upd H p (.dK [])) ρ σ := S.ext (M' := M) (Ext.junk hp) (S.m.junk hp)
  refine pairs_go S1 e1 fun vs H1 ι1 x1 r1 rk => ?_
  have hn := side_ne S.m hp x1
  have hH := side_at S.m hp x1
  refine ⟨hH, vs, rfl, by rw [← rk.length, eKeys_len e1]; exact h15, ?_⟩
  have lo : Loose (H1 p) := by rw [hH]; trivial
  refine q (.ref p) _ (more ι1 M1.sz p) ?_ ((r1.side hn lo).adopt hn ⟨_, upd_same, mergeD_ok (rk.late lo) .nil⟩) (by rw [Mem.sz_new]; exact ref_more)
  rw [Mem.sz_new]; exact side_ext S.m hp x1
end
end Nl

set_option autoImplicit false
/-! Nl, part E: fields, items, slices, targets. -/
namespace Nl
open PySem L2

/-- facts of the text that the rules lean on -/
structure Cf (Γ : Ga) : Prop where
  cl : ∀ c, Cls Γ.K (Γ.ca c)

/-! ### e.f -/
def eFld (f : Str) (m : Ev) : Ev := fun ρ M => bnd (m ρ M) fun d M1 => match d with
  | .ref n => match M1.get n with
    | some (.ins _ fs) => match fs.lookup f with
      | some v => some (v, M1)
      | none => none
    | _ => none
  | _ => none
section
variable {Γ : Ga} {X : Cx} {e : Expr} {f : Str} {pos : Pos} {m : Ev}
theorem p_fld (hK : X.K = Γ.K) (C : Cf Γ) (hn : ∀ c, NoAttr Γ.K (Γ.ca c) f) (he : PE X e (tE Γ m)) (hb : attributeBase e f X.env (eval e X.env) = eval e X.env := by rfl) : PE X (.Attribute e f pos) (tE Γ (eFld f m)) := by
  refine PE.of (pe_fld he hb) fun σ H Q h => ?_
  obtain ⟨ι, ρ, M, S, d, M', e, q⟩ := h
  obtain ⟨d1, M1, e1, e⟩ := bnd_inv e
  refine ⟨ι, ρ, M, S, d1, M1, e1, fun x H1 ι1 x1 r1 rd => ?_⟩
  split at e
  · cases rd
    split at e
    · rename_i c fs g
      split at e
      · rename_i v hv
        cases e
        obtain ⟨dx, xs, e2, rk⟩ := r1.ob _ _ g
        obtain ⟨w, e3, rw'⟩ := lookup_ok rk _ hv
        exact ⟨_, _, dx, xs, w, rfl, e2, by rw [hK]; exact C.cl c, by rw [hK]; exact hn c, e3, q w H1 ι1 x1 r1 rw'⟩
      · cases e
    · cases e
  · cases e
end

/-! ### e[i] -/
def gIx : D → D → Mem → Out D
  | .tup ds, .int i, M => (atI ds i).map fun d => (d, M)
  | .rol xs, .int i, M => (atI xs i).map fun d => (.int d, M)
  | .str z, .int i, M => if z.length ≤ sizeLine then (atI z.cps.toList i).map fun c => (.str ⟨#[c]⟩, M) else none
  | .ref n, y, M => match M.get n with
    | some (.lst ds) => match y with
      | .int i => (atI ds i).map fun d => (d, M)
      | _ => none
    | some (.dct kvs) => match keyD y with
      | some k => (findK kvs k).map fun d => (d, M)
      | none => none
    | some (.lck kvs) => match keyD y with
      | some k => (findK kvs k).map fun d => (d, M)
      | none => none
    | _ => none
  | _, _, _ => none
section
variable {Γ : Ga} {X : Cx}
theorem atI_ok {ι : Nat → Addr} {N : Nat} {H : Hp} {ds : List D} {vs : List V} {i : Int} {d : D} (r : RL Γ ι N H ds vs) (e : atI ds i = some d) : ∃ v, atI vs i = some v ∧ R Γ ι N H d v := by
  unfold atI at e ⊢
  rw [r.length] at e
  obtain ⟨j, h1, h2⟩ := Option.bind_eq_some_iff.mp e
  obtain ⟨v, h3, h4⟩ := r.get h2
  exact ⟨v, by rw [h1]; exact h3, h4⟩
theorem atI_map {α β : Type} (f : α → β) {xs : List α} {i : Int} {a : α} (e : atI xs i = some a) : atI (xs.map f) i = some (f a) := by
  unfold atI at e ⊢
  rw [List.length_map]
  obtain ⟨j, h1, h2⟩ := Option.bind_eq_some_iff.mp e
  rw [h1]
  show (xs.map f)[j]? = _
  rw [List.getElem?_map, h2]
  rfl
variable {a b : Expr} {ma mb : Ev} {pos : Pos}
theorem gIx_go {ι : Nat → Addr} {M : Mem} {H : Hp} {a b d : D} {x y : V} {M' : Mem} (rm : RM Γ ι M H) (ra : R Γ ι M.sz H a x) (rb : R Γ ι M.sz H b y) (e : gIx a b M = some (d, M')) :
    M' = M ∧ ∃ v, R Γ ι M.sz H d v ∧ ((∃ p xs i, x = .ref p ∧ y = .int i ∧ SqL Γ.K H p xs ∧ atI xs i = some v) ∨ (∃ p xs i, x = .ref p ∧ y = .int i ∧ SqT Γ.K H p xs ∧ atI xs i = some v) ∨
      (∃ z i c, x = .str z ∧ y = .int i ∧ z.length ≤ sizeLine ∧ atI z.cps.toList i = some c ∧ v = .str ⟨#[c]⟩) ∨ ∃ p, x = .ref p ∧ DGet H p y (some v)) := by
  unfold gIx at e
  split at e
  · cases rb
    cases ra with
    | tup hs rl =>
      obtain ⟨d', h1, h2⟩ := Option.map_eq_some_iff.mp e
      cases h2
      obtain ⟨v, h3, h4⟩ := atI_ok rl h1
      exact ⟨rfl, v, h4, .inr (.inl ⟨_, _, _, rfl, rfl, hs, h3⟩)⟩
  · cases rb
    cases ra with
    | rol hs =>
      obtain ⟨d', h1, h2⟩ := Option.map_eq_some_iff.mp e
      cases h2
      exact ⟨rfl, _, .int _, .inl ⟨_, _, _, rfl, rfl, hs.sq, atI_map V.int h1⟩⟩
  · cases rb
    cases ra
    split at e
    · rename_i hz
      obtain ⟨d', h1, h2⟩ := Option.map_eq_some_iff.mp e
      cases h2
      exact ⟨rfl, _, .str _, .inr (.inr (.inl ⟨_, _, _, rfl, rfl, hz, h1, rfl⟩))⟩
    · cases e
  · cases ra
    split at e
    · rename_i g
      obtain ⟨vs, e1, rl⟩ := rm.ob _ _ g
      split at e
      · cases rb
        obtain ⟨d', h1, h2⟩ := Option.map_eq_some_iff.mp e
        cases h2
        obtain ⟨v, h3, h4⟩ := atI_ok rl h1
        exact ⟨rfl, v, h4, .inl ⟨_, _, _, rfl, rfl, SqL.of e1, h3⟩⟩
      · cases e
    · rename_i g
      obtain ⟨vs, e1, rk⟩ := rm.ob _ _ g
      split at e
      · rename_i k hk
        obtain ⟨d', h1, h2⟩ := Option.map_eq_some_iff.mp e
        cases h2
        obtain ⟨v, h3, h4⟩ := findK_ok rk _ h1
        exact ⟨rfl, v, h4, .inr (.inr (.inr ⟨_, rfl, .inl ⟨_, k, .inl e1, keyD_ok rb hk, h3.symm⟩⟩))⟩
      · cases e
    · rename_i g
      obtain ⟨od, vs, e1, rk⟩ := rm.ob _ _ g
      split at e
      · rename_i k hk
        obtain ⟨d', h1, h2⟩ := Option.map_eq_some_iff.mp e
        cases h2
        obtain ⟨v, h3, h4⟩ := findK_ok rk _ h1
        exact ⟨rfl, v, h4, .inr (.inr (.inr ⟨_, rfl, .inl ⟨_, k, .inr ⟨_, e1⟩, keyD_ok rb hk, h3.symm⟩⟩))⟩
      · cases e
    · cases e
  · cases e
theorem p_ix (hK : X.K = Γ.K) (hu : X.A.units + 1 < cLine) (ha : PE X a (tE Γ ma)) (hb : PE X b (tE Γ mb)) (hs : PlainIx b := by intro _ _; rfl) : PE X (.Subscript a b pos) (tE Γ (eOp gIx ma mb)) := by
  refine ⟨fun pins s σ H Q I h => ?_⟩
  obtain ⟨ι, ρ, M, S, d, M', e, q⟩ := h
  obtain ⟨a', M1, e1, e⟩ := bnd_inv e
  obtain ⟨b', M2, e2, e⟩ := bnd_inv e
  refine PyProof.Rows.Subscript_ (binT (R := fun x y H2 => ∃ v, Q v H2 ∧ ((∃ p xs i, x = .ref p ∧ y = .int i ∧ SqL X.K H2 p xs ∧ atI xs i = some v) ∨ (∃ p xs i, x = .ref p ∧ y = .int i ∧ SqT X.K H2 p xs ∧ atI xs i = some v) ∨
      (∃ z i c, x = .str z ∧ y = .int i ∧ z.length ≤ sizeLine ∧ atI z.cps.toList i = some c ∧ v = .str ⟨#[c]⟩) ∨ ∃ p, x = .ref p ∧ DGet H2 p y (some v))) ha hb I ?_ fun v u s2 x y H2 I2 rx ry hv => ?_)
  · refine ⟨ι, ρ, M, S, a', M1, e1, fun x H1 ι1 x1 r1 ra => ⟨ι1, ρ, M1, S.ext x1 r1, b', M2, e2, fun y H2 ι2 x2 r2 rb => ?_⟩⟩
    obtain ⟨hM, v, hv, w⟩ := gIx_go r2 (ra.ext r1 x2) rb e
    subst hM
    exact ⟨v, q v H2 ι2 (x1.trans r1 x2) r2 hv, by rw [hK]; exact w⟩
  · obtain ⟨w, fin, h⟩ := hv
    rcases h with ⟨p, xs, i, rfl, rfl, h1, h2⟩ | ⟨p, xs, i, rfl, rfl, h1, h2⟩ | ⟨z, i, c, rfl, rfl, h1, h2, rfl⟩ | ⟨p, rfl, h1⟩
    · exact ix_list a b pins s2 σ H2 _ _ v u Q I2 rx ry ⟨p, xs, i, w, rfl, rfl, h1, h2, fin⟩ (hs _ _)
    · exact ix_tup a b pins s2 σ H2 _ _ v u Q I2 rx ry ⟨p, xs, i, w, rfl, rfl, h1, h2, fin⟩ (hs _ _)
    · exact ix_str a b pins s2 σ H2 _ _ v u Q I2 rx ry ⟨z, i, c, rfl, rfl, h1, h2, fin⟩ (hs _ _)
    · cases rx
      refine PyProof.Rows.tail_any (dict_typeIs I2 h1) PySem.F.slot_dict_getitem.lookup ?_ (hs _ _)
      exact d_getItem hu I2 h1 ry fun w' s3 I3 rw' => ⟨w, H2, I3, rw', fin⟩
end

/-! ### e[a:b] -/
def ePart (m : Option Ev) : Rho → Mem → Out (Option Int) := match m with
  | none => fun _ M => some (none, M)
  | some m => fun ρ M => bnd (m ρ M) fun d M1 => match d with
    | .int i => some (some i, M1)
    | _ => none
def cutD {α : Type} (xs : List α) (lo hi : Option Int) : List α := (xs.drop (HT.sIx xs.length 0 lo)).take (HT.sIx xs.length xs.length hi - HT.sIx xs.length 0 lo)
def gSl (d : D) (lo hi : Option Int) (M : Mem) : Out D := match d with
  | .tup ds => some (.tup (cutD ds lo hi), M)
  | .rol xs => some (.ref M.sz, M.new (.lst ((cutD xs lo hi).map .int)))
  | .str z => if z.length ≤ sizeLine then some (.str (cutS z lo hi), M) else none
  | .ref n => match M.get n with
    | some (.lst ds) => some (.ref M.sz, M.new (.lst (cutD ds lo hi)))
    | _ => none
  | _ => none
def eSl (m : Ev) (lo hi : Option Ev) : Ev := fun ρ M => bnd (m ρ M) fun d M1 => bnd (ePart lo ρ M1) fun i M2 => bnd (ePart hi ρ M2) fun j M3 => gSl d i j M3
def tO (Γ : Ga) (m : Rho → Mem → Out (Option Int)) : TO := fun σ H Q => ∃ ι ρ M, Sim Γ ι M H ρ σ ∧ ∃ o M', m ρ M = some (o, M') ∧ ∀ H' ι', Ext ι ι' M.sz M'.sz H H' → RM Γ ι' M' H' → Q o H'
theorem cutD_map {α β : Type} (f : α → β) (xs : List α) (lo hi : Option Int) : (cutD xs lo hi).map f = cutD (xs.map f) lo hi := by
  unfold cutD
  rw [List.map_take, List.map_drop, List.length_map]
section
variable {Γ : Ga} {X : Cx} {e : Expr} {m : Ev} {pos p2 : Pos} {lo hi : Option Expr} {ml mh : Option Ev}
theorem o_none : PO X none (tO Γ (ePart none)) := by
  refine ⟨fun pins s σ H Q I h => po_none.run pins s σ H Q I ?_⟩
  obtain ⟨ι, ρ, M, S, o, M', e, q⟩ := h
  cases e
  exact q H ι (Ext.refl _ _ _) S.m
theorem o_some (he : PE X e (tE Γ m)) : PO X (some e) (tO Γ (ePart (some m))) := by
  refine ⟨fun pins s σ H Q I h => (po_some he).run pins s σ H Q I ?_⟩
  obtain ⟨ι, ρ, M, S, o, M', e, q⟩ := h
  obtain ⟨d, M1, e1, e⟩ := bnd_inv e
  split at e
  · cases e
    refine ⟨ι, ρ, M, S, _, _, e1, fun v H1 ι1 x1 r1 rd => ?_⟩
    cases rd
    exact ⟨_, rfl, q H1 ι1 x1 r1⟩
  · cases e
theorem RL.cut {ι : Nat → Addr} {N : Nat} {H : Hp} {ds : List D} {vs : List V} (r : RL Γ ι N H ds vs) (lo hi : Option Int) : RL Γ ι N H (cutD ds lo hi) (cutV vs lo hi) := by
  unfold cutD cutV
  rw [r.length]
  exact (r.drop _).take _
/-- the whole of a tuple is that tuple -/
theorem sl_whole {Γ : Ga} {X : Cx} {pins : List (Addr × Obj)} {s : Shared} {σ : St} {H : Hp} {a sl : Addr} {vl vu : Value} {lo hi : Option Int} {xs : List V} {Q : VK} (I : Inv X pins σ H s) (ht : SqT X.K H a xs) (hs : s.heap.IsSliceOf sl vl vu .none) (pl : IsPart vl lo) (pu : IsPart vu hi)
    (hw : HT.sIx xs.length 0 lo = 0 ∧ HT.sIx xs.length xs.length hi = xs.length) (q : Q (.ref a) H) : wpAny (model X.prog X.w) X.A (getItem (.ref a) (.ref sl)) (EP X pins σ Q) X.xe s := by
  obtain ⟨its, r, ht', hz⟩ := I.tuple ht
  have hlen : its.toArray.size = xs.length := by rw [List.size_toArray]; exact r.length.symm
  have fin : EP X pins σ Q (.ref a) s := ⟨.ref a, H, I, rfl, q⟩
  obtain ⟨os, hos, hcs, hds⟩ := id hs
  have ts : s.TypeIs (.ref sl) "slice" := ⟨os, hos, hcs⟩
  unfold getItem
  refine wpAny_holding ?_
  refine wpAny_bind (wpAny_sequenceKey ht'.typeIs (by decide) ?_)
  refine wpAny_bind (wpAny_callSpecial?_slot (name := Str.ofString "__getitem__") ht'.typeIs PyProof.Rows.slot_tuple_getitem (wpAny_call_entry PyProof.Rows.slot_tuple_getitem ht'.typeIs PyProof.Rows.entry_tuple_getitem ?_ (PyProof.Rows.args_tuple_getitem _ _)))
  show wpAny _ _ (Builtin.Tuple.tupleItemsOf (.ref a) >>= _) _ _ s
  refine wpAny_bind (PyProof.Rows.tupleItemsOf_ ht' ?_)
  refine wpAny_bind (wpAny_typeOf ts ?_)
  rw [if_pos (by decide)]
  refine wpAny_bind (HT.sliceApplied_gen hs pl pu ?_)
  rw [hlen, hw.1, hw.2]
  have yes : (((0 : Nat) : Int) == 0 && (1 : Int) == 1 && (xs.length - 0) == xs.length) = true := by simp
  show wpAny _ _ (if (((0 : Nat) : Int) == 0 && (1 : Int) == 1 && (xs.length - 0) == xs.length) = true then _ else _) _ _ s
  rw [if_pos yes]
  refine wpAny_bind ?_
  show wpAny _ _ (typeOf (.ref a) >>= fun t => pure (t == .type "tuple")) _ _ s
  refine wpAny_bind (wpAny_typeOf ht'.typeIs (wpAny_pure ?_))
  rw [if_pos (by decide)]
  exact wpAny_bind (wpAny_rule (wpAny_pure ⟨_, rfl, wpAny_pure fin⟩))
def rSl (Γ : Ga) : V → Option Int → Option Int → Hp → VK → Prop := fun x lo hi H Q => ∃ ι M d, RM Γ ι M H ∧ R Γ ι M.sz H d x ∧ ResT Γ ι M H (gSl d lo hi M) Q
theorem sl_ok (hK : X.K = Γ.K) : SlR X (rSl Γ) := by
  intro pins s σ H x v vl vu lo hi sl Q I rx hs pl pu h
  obtain ⟨ι, M, a, rm, ra, d, M', e, q⟩ := h
  unfold gSl at e
  split at e
  · cases e
    cases ra with
    | tup ht rl =>
      rw [← hK] at ht
      rename_i aa xs
      by_cases hw : HT.sIx xs.length 0 lo = 0 ∧ HT.sIx xs.length xs.length hi = xs.length
      · cases rx
        obtain ⟨its, r, pt, hz⟩ := I.tuple ht
        refine ⟨"tuple", _, PyProof.Rows.slot_tuple_getitem.lookup, pt.typeIs, sl_whole (Γ := Γ) I ht hs pl pu hw ?_⟩
        have e1 : cutV xs lo hi = xs := by
          unfold cutV
          rw [hw.1, hw.2, List.drop_zero, Nat.sub_zero, List.take_length]
        have rc := rl.cut lo hi
        rw [e1] at rc
        exact ResT.same q rm (.tup (by rw [← hK]; exact ht) rc)
      · exact sl_tup pins s σ H _ v vl vu lo hi sl Q I rx hs pl pu ⟨_, _, rfl, ht, hw, new_tup rm (rl.cut lo hi) q⟩
  · cases e
    cases ra with
    | rol hr =>
      have hq := hr.sq
      rw [← hK] at hq
      refine sl_list pins s σ H _ v vl vu lo hi sl Q I rx hs pl pu ⟨_, _, rfl, hq, ?_⟩
      refine new_list (ds := (cutD _ lo hi).map .int) rm ?_ q
      have : ∀ xs : List Int, RL Γ ι M.sz H (xs.map .int) (xs.map V.int) := fun xs => by
        induction xs with
        | nil => exact .nil
        | cons x xs ih => exact .cons (.int x) ih
      rw [show cutV (List.map V.int _) lo hi = (cutD _ lo hi).map V.int from (cutD_map V.int _ lo hi).symm]
      exact this _
  · cases ra
    split at e
    · rename_i hz
      cases e
      exact sl_str pins s σ H _ v vl vu lo hi sl Q I rx hs pl pu ⟨_, rfl, hz, ResT.same q rm (.str _)⟩
    · cases e
  · cases ra
    split at e
    · rename_i g
      cases e
      obtain ⟨vs, e1, rl⟩ := rm.ob _ _ g
      exact sl_list pins s σ H _ v vl vu lo hi sl Q I rx hs pl pu ⟨_, _, rfl, SqL.of e1, new_list rm (rl.cut lo hi) q⟩
    · cases e
  · cases e
theorem p_sl (hK : X.K = Γ.K) (he : PE X e (tE Γ m)) (hl : PO X lo (tO Γ (ePart ml))) (hh : PO X hi (tO Γ (ePart mh))) : PE X (.Subscript e (.Slice lo hi none p2) pos) (tE Γ (eSl m ml mh)) := by
  refine PE.of (pe_slice (sl_ok hK) he hl hh) fun σ H Q h => ?_
  obtain ⟨ι, ρ, M, S, d, M', e, q⟩ := h
  obtain ⟨d1, M1, e1, e⟩ := bnd_inv e
  obtain ⟨i, M2, e2, e⟩ := bnd_inv e
  obtain ⟨j, M3, e3, e⟩ := bnd_inv e
  refine ⟨ι, ρ, M, S, d1, M1, e1, fun x H1 ι1 x1 r1 rd => ⟨ι1, ρ, M1, S.ext x1 r1, i, M2, e2, fun H2 ι2 x2 r2 => ?_⟩⟩
  have x12 := x1.trans r1 x2
  refine ⟨ι2, ρ, M2, S.ext x12 r2, j, M3, e3, fun H3 ι3 x3 r3 => ?_⟩
  exact ⟨ι3, M3, d1, r3, (rd.ext r1 x2).ext r2 x3, d, M', e, fun v H4 ι4 x4 r4 rv => q v H4 ι4 ((x12.trans r2 x3).trans r3 x4) r4 rv⟩
end

/-! ### targets -/
abbrev Gv := D → Rho → Mem → Option (Rho × Mem)
abbrev Gvs := List D → Rho → Mem → Option (Rho × Mem)
def tG (Γ : Ga) (g : Gv) : TG := fun v σ H Q => ∃ ι ρ M d, Sim Γ ι M H ρ σ ∧ R Γ ι M.sz H d v ∧ ∃ ρ' M', g d ρ M = some (ρ', M') ∧ ∀ σ' H' ι', Ext ι ι' M.sz M'.sz H H' → Sim Γ ι' M' H' ρ' σ' → Q σ' H'
def tGs (Γ : Ga) (g : Gvs) : TGs := fun vs σ H Q => ∃ ι ρ M ds, Sim Γ ι M H ρ σ ∧ RL Γ ι M.sz H ds vs ∧ ∃ ρ' M', g ds ρ M = some (ρ', M') ∧ ∀ σ' H' ι', Ext ι ι' M.sz M'.sz H H' → Sim Γ ι' M' H' ρ' σ' → Q σ' H'
def gNm (i : Nat) : Gv := fun d ρ M => some (ρ.set i (some d), M)
def gSeq : List Gv → Gvs
  | [] => fun ds ρ M => match ds with
    | [] => some (ρ, M)
    | _ :: _ => none
  | g :: gs => fun ds ρ M => match ds with
    | [] => none
    | d :: ds => match g d ρ M with
      | some (ρ1, M1) => gSeq gs ds ρ1 M1
      | none => none
def gTp (gs : List Gv) : Gv := fun d ρ M => match d with
  | .tup ds => gSeq gs ds ρ M
  | _ => none
theorem gSeq_len : ∀ {gs : List Gv} {ds : List D} {ρ ρ' : Rho} {M M' : Mem}, gSeq gs ds ρ M = some (ρ', M') → ds.length = gs.length
  | [], [], _, _, _, _, _ => rfl
  | [], _ :: _, _, _, _, _, e => by cases e
  | _ :: _, [], _, _, _, _, e => by cases e
  | g :: gs, d :: ds, ρ, ρ', M, M', e => by
    rw [gSeq] at e
    dsimp only at e
    split at e
    · exact congrArg Nat.succ (gSeq_len e)
    · cases e
section
variable {Γ : Ga} {X : Cx} {pos : Pos}
theorem PG.of {e : Expr} {t t' : TG} (h : PG X e t) (w : ∀ v σ H Q, t' v σ H Q → t v σ H Q) : PG X e t' := ⟨fun pins s σ H v u Q I r q => h.run pins s σ H v u Q I r (w _ _ _ _ q)⟩
theorem PGs.of {e : List Expr} {t t' : TGs} (h : PGs X e t) (w : ∀ v σ H Q, t' v σ H Q → t v σ H Q) : PGs X e t' := ⟨fun pins s σ H v u Q I r q => h.run pins s σ H v u Q I r (w _ _ _ _ q)⟩
theorem g_nm (i : Nat) {x : Str} (hN : X.N.Nodup) (hi : X.N[i]? = some x := by rfl) (hx : Loc X.env.scope x := by first | exact Or.inl rfl | exact Or.inr rfl) (hf : X.fn x = true ∨ X.env.scope.names.lookup x = some .local := by first | exact .inl rfl | exact .inr rfl | assumption) :
    PG X (.Name x pos) (tG Γ (gNm i)) := by
  refine PG.of (pg_name hN hi hx hf) fun v σ H Q h => ?_
  obtain ⟨ι, ρ, M, d, S, rd, ρ', M', e, q⟩ := h
  cases e
  exact q _ H ι (Ext.refl _ _ _) ⟨S.m, S.s.set i rd⟩
theorem gs_nil : PGs X [] (tGs Γ (gSeq [])) := by
  refine PGs.of pgs_nil fun v σ H Q h => ?_
  obtain ⟨ι, ρ, M, d, S, rd, ρ', M', e, q⟩ := h
  cases d with
  | nil =>
    cases rd
    cases e
    exact ⟨rfl, q σ H ι (Ext.refl _ _ _) S⟩
  | cons _ _ => cases e
theorem gs_cons {e : Expr} {es : List Expr} {g : Gv} {gs : List Gv} (h1 : PG X e (tG Γ g)) (h2 : PGs X es (tGs Γ (gSeq gs)))
    (hs : (assignEach (e :: es) X.env).map (·.2) = assign e X.env :: (assignEach es X.env).map (·.2) := by rfl) : PGs X (e :: es) (tGs Γ (gSeq (g :: gs))) := by
  refine PGs.of (pgs_cons h1 h2 hs) fun v σ H Q h => ?_
  obtain ⟨ι, ρ, M, d, S, rd, ρ', M', e, q⟩ := h
  cases d with
  | nil => cases e
  | cons d ds =>
    cases rd with
    | cons r1 r2 =>
      rw [gSeq] at e
      dsimp only at e
      split at e
      · rename_i ρ1 M1 e1
        refine ⟨_, _, rfl, ι, ρ, M, d, S, r1, ρ1, M1, e1, fun σ1 H1 ι1 x1 S1 => ?_⟩
        exact ⟨ι1, ρ1, M1, ds, S1, r2.ext S.m x1, ρ', M', e, fun σ2 H2 ι2 x2 S2 => q σ2 H2 ι2 (x1.trans S1.m x2) S2⟩
      · cases e
theorem g_tp {es : List Expr} {k : Nat} {gs : List Gv} (hK : X.K = Γ.K) (hc : X.calm = true) (h : PGs X es (tGs Γ (gSeq gs))) (hn : (assignEach es X.env).length = gs.length := by rfl) (hst : (assignEach es X.env).findIdx? (·.1) = none := by rfl) :
    PG X (.Tuple es k pos) (tG Γ (gTp gs)) := by
  refine PG.of (pg_tup (n := gs.length) hc h hn hst) fun v σ H Q h => ?_
  obtain ⟨ι, ρ, M, d, S, rd, ρ', M', e, q⟩ := h
  unfold gTp at e
  split at e
  · cases rd with
    | tup hs rl =>
      refine ⟨_, _, rfl, by rw [hK]; exact hs, ?_, ι, ρ, M, _, S, rl, ρ', M', e, q⟩
      rw [← rl.length]; exact gSeq_len e
  · cases e
end

/-! ### o[i] = v, o.f = v -/
def gSet : D → D → D → Mem → Option Mem
  | .ref n, i, v, M => match M.get n with
    | some (.lst ds) => match i with
      | .int k => (ixN ds.length k).map fun j => M.put n (.lst (ds.set j v))
      | _ => none
    | some (.dct kvs) => match keyD i with
      | some k => if kvs.length < sizeLine then some (M.put n (.dct (putD kvs k v))) else none
      | none => none
    | _ => none
  | _, _, _, _ => none
def gSb (mo mi : Ev) : Gv := fun d ρ M => bnd (mo ρ M) fun o M1 => bnd (mi ρ M1) fun i M2 => (gSet o i d M2).map fun M3 => (ρ, M3)
def gSetF (f : Str) : D → D → Mem → Option Mem
  | .ref n, v, M => match M.get n with
    | some (.ins c fs) => if fs.length < 1000 then some (M.put n (.ins c (putN f v fs))) else none
    | _ => none
  | _, _, _ => none
def gFl (mo : Ev) (f : Str) : Gv := fun d ρ M => bnd (mo ρ M) fun o M1 => (gSetF f o d M1).map fun M3 => (ρ, M3)
section
variable {Γ : Ga} {X : Cx} {pos : Pos}
def rSet (Γ : Ga) : TSet := fun o i v H Q => ∃ ι M a b c, RM Γ ι M H ∧ R Γ ι M.sz H a o ∧ R Γ ι M.sz H b i ∧ R Γ ι M.sz H c v ∧ ∃ M', gSet a b c M = some M' ∧ ∀ H' ι', Ext ι ι' M.sz M'.sz H H' → RM Γ ι' M' H' → Q H'
/-- an object of the memory changes -/
theorem put_any {ι : Nat → Addr} {M : Mem} {H : Hp} {n : Nat} {ob : O} {o : HO} {Q : Hp → Prop} (r : RM Γ ι M H) (hn : n < M.sz) (h : RO Γ ι M.sz (upd H (ι n) o) (ι n) ob) (q : ∀ H' ι', Ext ι ι' M.sz (M.put n ob).sz H H' → RM Γ ι' (M.put n ob) H' → Q H') : Q (upd H (ι n) o) := by
  refine q _ ι ?_ (r.put hn h)
  rw [Mem.sz_put]; exact Ext.put hn
theorem set_ok (hu : X.A.units + 1 < cLine) : PSet X (rSet Γ) := by
  intro pins s σ H o i v ov iv u Q I ro ri rv h
  obtain ⟨ι, M, a, b, c, rm, ra, rb, rc, M', e, q⟩ := h
  unfold gSet at e
  split at e
  · cases ra
    split at e
    · rename_i ds g
      have lo := ro_loose (rm.ob _ _ g)
      obtain ⟨vs, e1, rl⟩ := rm.ob _ _ g
      split at e
      · cases rb
        obtain ⟨j, h1, h2⟩ := Option.map_eq_some_iff.mp e
        cases h2
        refine set_list pins s σ H _ _ _ ov iv u Q I ro ri rv ⟨_, _, _, j, rfl, rfl, e1, by rw [← rl.length]; exact h1, ?_⟩
        exact put_any (ob := .lst _) rm (Mem.get_lt g) ⟨_, upd_same, (RL.set rc j rl).upd lo⟩ q
      · cases e
    · rename_i kvs g
      have lo := ro_loose (rm.ob _ _ g)
      obtain ⟨vs, e1, rk⟩ := rm.ob _ _ g
      split at e
      · rename_i k hk
        split at e
        · rename_i hl
          cases e
          cases ro
          refine d_setItem hu I (.inl ⟨_, k, e1, keyD_ok rb hk, by rw [← rk.length]; exact hl, rfl⟩) ri rv fun s' I' => ⟨_, I', ?_⟩
          exact put_any (ob := .dct _) rm (Mem.get_lt g) ⟨_, upd_same, (putD_ok rk rc).upd lo⟩ q
        · cases e
      · cases e
    · cases e
  · cases e
theorem g_sb {o i : Expr} {mo mi : Ev} (hu : X.A.units + 1 < cLine) (ho : PE X o (tE Γ mo)) (hi : PE X i (tE Γ mi))
    (ha : ∀ v, assign (.Subscript o i pos) X.env v = (do
      let ov ← holding [v] (eval o X.env)
      let iv ← holding [v, ov] (eval i X.env)
      standAt pos
      holding [v, ov, iv] (setItem ov iv v)
      release [v, ov, iv] []) := by intro _; rfl) : PG X (.Subscript o i pos) (tG Γ (gSb mo mi)) := by
  refine PG.of (pg_sub ho hi (set_ok (Γ := Γ) hu) ha) fun v σ H Q h => ?_
  obtain ⟨ι, ρ, M, d, S, rd, ρ', M', e, q⟩ := h
  obtain ⟨o', M1, e1, e⟩ := bnd_inv e
  obtain ⟨i', M2, e2, e⟩ := bnd_inv e
  obtain ⟨M3, e3, e4⟩ := Option.map_eq_some_iff.mp e
  cases e4
  refine ⟨ι, ρ, M, S, o', M1, e1, fun x H1 ι1 x1 r1 ro => ⟨ι1, ρ, M1, S.ext x1 r1, i', M2, e2, fun y H2 ι2 x2 r2 ri => ?_⟩⟩
  have x12 := x1.trans r1 x2
  refine ⟨ι2, M2, o', i', d, r2, ro.ext r1 x2, ri, rd.ext S.m x12, _, e3, fun H3 ι3 x3 r3 => ?_⟩
  have x13 := x12.trans r2 x3
  exact q σ H3 ι3 x13 (S.ext x13 r3)
/-- a store to a field, by values -/
theorem fld_ok {pins : List (Addr × Obj)} {s : Shared} {σ : St} {H : Hp} {f : Str} {ι : Nat → Addr} {M M' : Mem} {a c : D} {o v : V} {ov u : Value} {Q : Hp → Prop} {A : Around} {E : Value → Shared → Prop} (hK : X.K = Γ.K) (C : Cf Γ) (hn : ∀ c, NoAttr Γ.K (Γ.ca c) f) (I : Inv X pins σ H s) (ro : RelV o ov) (rv : RelV v u)
    (rm : RM Γ ι M H) (ra : R Γ ι M.sz H a o) (rc : R Γ ι M.sz H c v) (e : gSetF f a c M = some M') (q : ∀ H' ι', Ext ι ι' M.sz M'.sz H H' → RM Γ ι' M' H' → Q H') :
    wpAny (model X.prog X.w) A (setAttr ov f u) (fun _ s' => ∃ H', Inv X pins σ H' s' ∧ Q H') E s := by
  unfold gSetF at e
  split at e
  · cases ra
    split at e
    · rename_i cc fs g
      have lo := ro_loose (rm.ob _ _ g)
      obtain ⟨dx, vs, e1, rk⟩ := rm.ob _ _ g
      split at e
      · rename_i hl
        cases e
        cases ro
        refine setattr_ok I e1 (by rw [hK]; exact C.cl cc) (by rw [hK]; exact hn cc) (by rw [← rk.length]; exact hl) rv fun s' I' => ⟨_, I', ?_⟩
        exact put_any (ob := .ins _ _) rm (Mem.get_lt g) ⟨dx, _, upd_same, (putN_ok rc rk).upd lo⟩ q
      · cases e
    · cases e
  · cases e
theorem g_fl {o : Expr} {f : Str} {mo : Ev} (hK : X.K = Γ.K) (C : Cf Γ) (hn : ∀ c, NoAttr Γ.K (Γ.ca c) f) (ho : PE X o (tE Γ mo)) : PG X (.Attribute o f pos) (tG Γ (gFl mo f)) := by
  refine ⟨fun pins s σ H v u Q I r h => ?_⟩
  obtain ⟨ι, ρ, M, d, S, rd, ρ', M', e, q⟩ := h
  obtain ⟨o', M1, e1, e⟩ := bnd_inv e
  obtain ⟨M3, e3, e4⟩ := Option.map_eq_some_iff.mp e
  cases e4
  rw [arm_assign_Attribute]
  refine wpAny_bind (wpAny_holding (thn (ho.run pins s σ H (fun x H1 => ∃ ι1, Ext ι ι1 M.sz M1.sz H H1 ∧ RM Γ ι1 M1 H1 ∧ R Γ ι1 M1.sz H1 o' x) I ⟨ι, ρ, M, S, o', M1, e1, fun x H1 ι1 x1 r1 ro => ⟨ι1, x1, r1, ro⟩⟩) fun ov s1 ⟨x, H1, I1, rx, ι1, x1, r1, ro⟩ => ?_))
  refine wpAny_bind (wpAny_standAt (wpAny_bind (wpAny_holding (thn (fld_ok (Q := fun H' => Q σ H') hK C hn I1 rx r r1 ro (rd.ext S.m x1) e3 fun H3 ι3 x3 r3 => ?_) fun _ s3 ⟨H3, I3, q3⟩ => ?_))))
  · have x13 := x1.trans r1 x3
    exact q σ H3 ι3 x13 (S.ext x13 r3)
  · exact wpAny_release ⟨σ, H3, I3, q3⟩
end
end Nl

set_option autoImplicit false
/-! Nl, part F: what is built in: functions, methods. -/
namespace Nl
open PySem L2

abbrev Bf := List D → Mem → Out D
def eCall (g : Bf) (ms : List Ev) : Ev := fun ρ M => bnd (eArgs ms ρ M) fun ds M1 => g ds M1
def rB (Γ : Ga) (g : Bf) : List V → Hp → VK → Prop := fun vs H Q => ∃ ι M ds, RM Γ ι M H ∧ RL Γ ι M.sz H ds vs ∧ ResT Γ ι M H (g ds M) Q
section
variable {Γ : Ga} {X : Cx} {x : Str} {p pos : Pos} {e : Expr} {es : List Expr} {ms : List Ev} {id T : String} {g : Bf}
theorem call_go {σ : St} {H : Hp} {Q : VK} (h : tE Γ (eCall g ms) σ H Q) : tCB (rB Γ g) (tL Γ (eArgs ms)) σ H Q := by
  obtain ⟨ι, ρ, M, S, d, M', e, q⟩ := h
  obtain ⟨ds, M1, e1, e⟩ := bnd_inv e
  exact ⟨ι, ρ, M, S, ds, M1, e1, fun vs H1 ι1 x1 r1 rl => ⟨ι1, M1, ds, r1, rl, d, M', e, fun v H2 ι2 x2 r2 rd => q v H2 ι2 (x1.trans r1 x2) r2 rd⟩⟩
theorem p_bi (hc : CallR X (.builtin id) (rB Γ g)) (hm : X.mg x = none) (hv : bootBuiltins x = some (.builtin id)) (ha : PA X (e :: es) (tL Γ (eArgs ms))) (hg : Gl X x := by rfl) (hn : x ≠ "__name__" := by decide) (hdb : (x == ("__debug__" : Str)) = false := by decide)
    (he : starEach (e :: es) X.env = (false, eval e X.env) :: starEach es X.env := by rfl) (hpl : (backTo pos (starEach es X.env)).any (·.1) = false := by rfl) : PE X (.Call (.Name x p) (e :: es) [] pos) (tE Γ (eCall g ms)) :=
  PE.of (pe_callB hc hg hm hv ha hn hdb he hpl) fun _ _ _ h => call_go h
theorem p_bt (hc : CallR X (.type T) (rB Γ g)) (hm : X.mg x = none) (hv : bootBuiltins x = some (.type T)) (ha : PA X (e :: es) (tL Γ (eArgs ms))) (hg : Gl X x := by rfl) (hn : x ≠ "__name__" := by decide) (hdb : (x == ("__debug__" : Str)) = false := by decide)
    (he : starEach (e :: es) X.env = (false, eval e X.env) :: starEach es X.env := by rfl) (hpl : (backTo pos (starEach es X.env)).any (·.1) = false := by rfl) : PE X (.Call (.Name x p) (e :: es) [] pos) (tE Γ (eCall g ms)) :=
  PE.of (pe_callTy hc hg hm hv ha hn hdb he hpl) fun _ _ _ h => call_go h
end

/-! ### lists of numbers, of truths, of texts -/
def intsD : List D → Option (List Int)
  | [] => some []
  | .int i :: r => (intsD r).map (i :: ·)
  | _ :: _ => none
def blsD : List D → Option (List Bool)
  | [] => some []
  | .bl b :: r => (blsD r).map (b :: ·)
  | _ :: _ => none
def strsD : List D → Option (List Str)
  | [] => some []
  | .str b :: r => (strsD r).map (b :: ·)
  | _ :: _ => none
section
variable {Γ : Ga} {ι : Nat → Addr} {N : Nat} {H : Hp}
theorem ints_ok : ∀ {ds : List D} {vs : List V} {ns : List Int}, RL Γ ι N H ds vs → intsD ds = some ns → vs = ns.map V.int
  | [], _, _, r, e => by cases r; cases e; rfl
  | .int i :: ds, _, ns, .cons r t, e => by
    obtain ⟨ms, h1, h2⟩ := Option.map_eq_some_iff.mp e
    subst h2
    cases r
    rw [ints_ok t h1]; rfl
  | .non :: _, _, _, _, e => by cases e
  | .bl _ :: _, _, _, _, e => by cases e
  | .str _ :: _, _, _, _, e => by cases e
  | .tup _ :: _, _, _, _, e => by cases e
  | .ref _ :: _, _, _, _, e => by cases e
  | .rol _ :: _, _, _, _, e => by cases e
  | .fn _ :: _, _, _, _, e => by cases e
  | .ty _ :: _, _, _, _, e => by cases e
theorem bls_ok : ∀ {ds : List D} {vs : List V} {ns : List Bool}, RL Γ ι N H ds vs → blsD ds = some ns → vs = ns.map V.bl
  | [], _, _, r, e => by cases r; cases e; rfl
  | .bl i :: ds, _, ns, .cons r t, e => by
    obtain ⟨ms, h1, h2⟩ := Option.map_eq_some_iff.mp e
    subst h2
    cases r
    rw [bls_ok t h1]; rfl
  | .non :: _, _, _, _, e => by cases e
  | .int _ :: _, _, _, _, e => by cases e
  | .str _ :: _, _, _, _, e => by cases e
  | .tup _ :: _, _, _, _, e => by cases e
  | .ref _ :: _, _, _, _, e => by cases e
  | .rol _ :: _, _, _, _, e => by cases e
  | .fn _ :: _, _, _, _, e => by cases e
  | .ty _ :: _, _, _, _, e => by cases e
theorem strs_ok : ∀ {ds : List D} {vs : List V} {ns : List Str}, RL Γ ι N H ds vs → strsD ds = some ns → vs = ns.map V.str
  | [], _, _, r, e => by cases r; cases e; rfl
  | .str i :: ds, _, ns, .cons r t, e => by
    obtain ⟨ms, h1, h2⟩ := Option.map_eq_some_iff.mp e
    subst h2
    cases r
    rw [strs_ok t h1]; rfl
  | .non :: _, _, _, _, e => by cases e
  | .int _ :: _, _, _, _, e => by cases e
  | .bl _ :: _, _, _, _, e => by cases e
  | .tup _ :: _, _, _, _, e => by cases e
  | .ref _ :: _, _, _, _, e => by cases e
  | .rol _ :: _, _, _, _, e => by cases e
  | .fn _ :: _, _, _, _, e => by cases e
  | .ty _ :: _, _, _, _, e => by cases e
theorem rl_strs : ∀ xs : List Str, RL Γ ι N H (xs.map .str) (xs.map V.str)
  | [] => .nil
  | x :: xs => .cons (.str x) (rl_strs xs)
theorem rl_ints : ∀ xs : List Int, RL Γ ι N H (xs.map .int) (xs.map V.int)
  | [] => .nil
  | x :: xs => .cons (.int x) (rl_ints xs)
end
/-- the list that a value is, as it stands -/
def lstOf (M : Mem) : D → Option (List D)
  | .ref n => match M.get n with
    | some (.lst ds) => some ds
    | _ => none
  | .rol xs => some (xs.map .int)
  | _ => none
theorem lstOf_ok {Γ : Ga} {ι : Nat → Addr} {M : Mem} {H : Hp} {d : D} {v : V} {ds : List D} (rm : RM Γ ι M H) (r : R Γ ι M.sz H d v) (e : lstOf M d = some ds) : ∃ a vs, v = .ref a ∧ SqL Γ.K H a vs ∧ RL Γ ι M.sz H ds vs := by
  unfold lstOf at e
  split at e
  · cases r
    split at e
    · rename_i g
      cases e
      obtain ⟨vs, e1, rl⟩ := rm.ob _ _ g
      exact ⟨_, vs, rfl, SqL.of e1, rl⟩
    · cases e
  · cases r with
    | rol hs =>
      cases e
      exact ⟨_, _, rfl, hs.sq, rl_ints _⟩
  · cases e

/-! ### len, abs, min, max, int, all, any, sum -/
def gLen : Bf
  | [.str x], M => if x.length ≤ sizeLine then some (.int x.length, M) else none
  | [.tup ds], M => some (.int ds.length, M)
  | [.rol xs], M => some (.int xs.length, M)
  | [.ref n], M => match M.get n with
    | some (.lst ds) => some (.int ds.length, M)
    | some (.dct kvs) => some (.int kvs.length, M)
    | some (.lck kvs) => some (.int kvs.length, M)
    | _ => none
  | _, _ => none
def gAbs : Bf
  | [.int i], M => some (.int (if i < 0 then -i else i), M)
  | _, _ => none
def gMax2 : Bf
  | [.int i, .int j], M => some (.int (if j > i then j else i), M)
  | _, _ => none
def gMin2 : Bf
  | [.int i, .int j], M => some (.int (if j < i then j else i), M)
  | _, _ => none
def gInt : Bf
  | [.int i], M => some (.int i, M)
  | [.bl k], M => some (.int (if k then 1 else 0), M)
  | _, _ => none
def gAll : Bf
  | [d], M => (lstOf M d).bind fun ds => (blsD ds).map fun bs => (.bl (bs.all id), M)
  | _, _ => none
def gAny : Bf
  | [d], M => (lstOf M d).bind fun ds => (blsD ds).map fun bs => (.bl (bs.any id), M)
  | _, _ => none
def gSum : Bf
  | [d], M => (lstOf M d).bind fun ds => (intsD ds).map fun ns => (.int ns.sum, M)
  | _, _ => none
section
variable {Γ : Ga} {X : Cx}
theorem b_len (hK : X.K = Γ.K) : CallR X (.builtin "len") (rB Γ gLen) := by
  intro pins s σ H xs us Q I rv h
  obtain ⟨ι, M, ds, rm, rl, d, M', e, q⟩ := h
  unfold gLen at e
  split at e
  · cases rl with
    | cons r t =>
      cases t; cases r
      split at e
      · rename_i hz
        cases e
        exact call_len pins s σ H _ us Q I rv ⟨_, _, rfl, ⟨hz, rfl⟩, ResT.same q rm (.int _)⟩
      · cases e
  · cases rl with
    | cons r t =>
      cases t
      cases r with
      | tup hs r2 =>
        cases e
        rw [← hK] at hs
        refine call_len pins s σ H _ us Q I rv ⟨_, _, rfl, .inr ⟨_, hs, rfl⟩, ?_⟩
        rw [← r2.length]
        exact ResT.same q rm (.int _)
  · cases rl with
    | cons r t =>
      cases t
      cases r with
      | rol hs =>
        cases e
        have hq := hs.sq
        rw [← hK] at hq
        refine call_len pins s σ H _ us Q I rv ⟨_, _, rfl, .inl ⟨_, hq, rfl⟩, ?_⟩
        rw [List.length_map]
        exact ResT.same q rm (.int _)
  · cases rl with
    | cons r t =>
      cases t; cases r
      split at e
      · rename_i g
        cases e
        obtain ⟨vs, e1, r2⟩ := rm.ob _ _ g
        refine call_len pins s σ H _ us Q I rv ⟨_, _, rfl, .inl ⟨_, SqL.of e1, rfl⟩, ?_⟩
        rw [← r2.length]
        exact ResT.same q rm (.int _)
      · rename_i g
        cases e
        obtain ⟨vs, e1, r2⟩ := rm.ob _ _ g
        obtain ⟨u, rfl, ru⟩ := vals1 rv
        cases ru
        refine d_len I (.inl e1) fun t s' I' => ⟨.int vs.length, H, I', ⟨t, rfl⟩, ?_⟩
        rw [← r2.length]
        exact ResT.same q rm (.int _)
      · rename_i g
        cases e
        obtain ⟨od, vs, e1, r2⟩ := rm.ob _ _ g
        obtain ⟨u, rfl, ru⟩ := vals1 rv
        cases ru
        refine d_len I (.inr ⟨_, e1⟩) fun t s' I' => ⟨.int vs.length, H, I', ⟨t, rfl⟩, ?_⟩
        rw [← r2.length]
        exact ResT.same q rm (.int _)
      · cases e
  · cases e
theorem one_of {ι : Nat → Addr} {N : Nat} {H : Hp} {d : D} {vs : List V} (r : RL Γ ι N H [d] vs) : ∃ v, vs = [v] ∧ R Γ ι N H d v := by
  cases r with
  | cons r t => cases t; exact ⟨_, rfl, r⟩
theorem two_of {ι : Nat → Addr} {N : Nat} {H : Hp} {d e : D} {vs : List V} (r : RL Γ ι N H [d, e] vs) : ∃ v w, vs = [v, w] ∧ R Γ ι N H d v ∧ R Γ ι N H e w := by
  cases r with
  | cons r t => cases t with
    | cons r2 t => cases t; exact ⟨_, _, rfl, r, r2⟩
theorem b_abs : CallR X (.builtin "abs") (rB Γ gAbs) := by
  intro pins s σ H xs us Q I rv h
  obtain ⟨ι, M, ds, rm, rl, d, M', e, q⟩ := h
  unfold gAbs at e
  split at e
  · obtain ⟨v, rfl, r⟩ := one_of rl
    cases r; cases e
    exact call_abs pins s σ H _ us Q I rv ⟨_, rfl, ResT.same q rm (.int _)⟩
  · cases e
theorem b_max2 (hc : X.calm = true) : CallR X (.builtin "max") (rB Γ gMax2) := by
  intro pins s σ H xs us Q I rv h
  obtain ⟨ι, M, ds, rm, rl, d, M', e, q⟩ := h
  unfold gMax2 at e
  split at e
  · obtain ⟨v, w, rfl, r, r2⟩ := two_of rl
    cases r; cases r2; cases e
    exact call_max2 hc pins s σ H _ us Q I rv ⟨_, _, rfl, ResT.same q rm (.int _)⟩
  · cases e
theorem b_min2 (hc : X.calm = true) : CallR X (.builtin "min") (rB Γ gMin2) := by
  intro pins s σ H xs us Q I rv h
  obtain ⟨ι, M, ds, rm, rl, d, M', e, q⟩ := h
  unfold gMin2 at e
  split at e
  · obtain ⟨v, w, rfl, r, r2⟩ := two_of rl
    cases r; cases r2; cases e
    exact call_min2 hc pins s σ H _ us Q I rv ⟨_, _, rfl, ResT.same q rm (.int _)⟩
  · cases e
theorem b_int : CallR X (.type "int") (rB Γ gInt) := by
  intro pins s σ H xs us Q I rv h
  obtain ⟨ι, M, ds, rm, rl, d, M', e, q⟩ := h
  unfold gInt at e
  split at e
  · obtain ⟨v, rfl, r⟩ := one_of rl
    cases r; cases e
    exact call_int1 pins s σ H _ us Q I rv (.inl ⟨_, rfl, ResT.same q rm (.int _)⟩)
  · obtain ⟨v, rfl, r⟩ := one_of rl
    cases r; cases e
    exact call_int1 pins s σ H _ us Q I rv (.inr ⟨_, rfl, ResT.same q rm (.int _)⟩)
  · cases e
theorem b_all (hK : X.K = Γ.K) (hc : X.calm = true) : CallR X (.builtin "all") (rB Γ gAll) := by
  intro pins s σ H xs us Q I rv h
  obtain ⟨ι, M, ds, rm, rl, d, M', e, q⟩ := h
  unfold gAll at e
  split at e
  · obtain ⟨v, rfl, r⟩ := one_of rl
    obtain ⟨ys, h1, h2⟩ := Option.bind_eq_some_iff.mp e
    obtain ⟨bs, h3, h4⟩ := Option.map_eq_some_iff.mp h2
    cases h4
    obtain ⟨a, vs, rfl, hq, r2⟩ := lstOf_ok rm r h1
    rw [bls_ok r2 h3, ← hK] at hq
    exact cr_all hc pins s σ H _ us Q I rv ⟨a, bs, rfl, hq, ResT.same q rm (.bl _)⟩
  · cases e
theorem b_any (hK : X.K = Γ.K) (hc : X.calm = true) : CallR X (.builtin "any") (rB Γ gAny) := by
  intro pins s σ H xs us Q I rv h
  obtain ⟨ι, M, ds, rm, rl, d, M', e, q⟩ := h
  unfold gAny at e
  split at e
  · obtain ⟨v, rfl, r⟩ := one_of rl
    obtain ⟨ys, h1, h2⟩ := Option.bind_eq_some_iff.mp e
    obtain ⟨bs, h3, h4⟩ := Option.map_eq_some_iff.mp h2
    cases h4
    obtain ⟨a, vs, rfl, hq, r2⟩ := lstOf_ok rm r h1
    rw [bls_ok r2 h3, ← hK] at hq
    exact cr_any hc pins s σ H _ us Q I rv ⟨a, bs, rfl, hq, ResT.same q rm (.bl _)⟩
  · cases e
theorem b_sum (hK : X.K = Γ.K) (hc : X.calm = true) : CallR X (.builtin "sum") (rB Γ gSum) := by
  intro pins s σ H xs us Q I rv h
  obtain ⟨ι, M, ds, rm, rl, d, M', e, q⟩ := h
  unfold gSum at e
  split at e
  · obtain ⟨v, rfl, r⟩ := one_of rl
    obtain ⟨ys, h1, h2⟩ := Option.bind_eq_some_iff.mp e
    obtain ⟨bs, h3, h4⟩ := Option.map_eq_some_iff.mp h2
    cases h4
    obtain ⟨a, vs, rfl, hq, r2⟩ := lstOf_ok rm r h1
    rw [ints_ok r2 h3, ← hK] at hq
    exact cr_sum hc pins s σ H _ us Q I rv ⟨a, bs, rfl, hq, ResT.same q rm (.int _)⟩
  · cases e
end

/-! ### tuple(x), list(x) -/
def gTuple : Bf
  | [.tup ds], M => some (.tup ds, M)
  | [.ref n], M => match M.get n with
    | some (.lst ds) => some (.tup ds, M)
    | _ => none
  | _, _ => none
def gList : Bf
  | [.tup ds], M => some (.ref M.sz, M.new (.lst ds))
  | [.rol xs], M => some (.ref M.sz, M.new (.lst (xs.map .int)))
  | [.ref n], M => match M.get n with
    | some (.lst ds) => some (.ref M.sz, M.new (.lst ds))
    | _ => none
  | _, _ => none
section
variable {Γ : Ga} {X : Cx}
theorem b_tuple (hK : X.K = Γ.K) : CallR X (.type "tuple") (rB Γ gTuple) := by
  intro pins s σ H xs us Q I rv h
  obtain ⟨ι, M, ds, rm, rl, d, M', e, q⟩ := h
  unfold gTuple at e
  split at e
  · obtain ⟨v, rfl, r⟩ := one_of rl
    cases e
    cases r with
    | tup hs r2 =>
      have hs' := hs
      rw [← hK] at hs
      exact call_tuple_of pins s σ H _ us Q I rv ⟨_, _, rfl, .inr ⟨hs, ResT.same q rm (.tup hs' r2)⟩⟩
  · obtain ⟨v, rfl, r⟩ := one_of rl
    cases r
    split at e
    · rename_i g
      cases e
      obtain ⟨vs, e1, r2⟩ := rm.ob _ _ g
      exact call_tuple_of pins s σ H _ us Q I rv ⟨_, _, rfl, .inl ⟨SqL.of e1, new_tup rm r2 q⟩⟩
    · cases e
  · cases e
theorem b_list (hK : X.K = Γ.K) : CallR X (.type "list") (rB Γ gList) := by
  intro pins s σ H xs us Q I rv h
  obtain ⟨ι, M, ds, rm, rl, d, M', e, q⟩ := h
  unfold gList at e
  split at e
  · obtain ⟨v, rfl, r⟩ := one_of rl
    cases e
    cases r with
    | tup hs r2 =>
      rw [← hK] at hs
      exact call_list_of pins s σ H _ us Q I rv ⟨_, _, rfl, .inr hs, new_list rm r2 q⟩
  · obtain ⟨v, rfl, r⟩ := one_of rl
    cases e
    cases r with
    | rol hs =>
      have hq := hs.sq
      rw [← hK] at hq
      exact call_list_of pins s σ H _ us Q I rv ⟨_, _, rfl, .inl hq, new_list rm (rl_ints _) q⟩
  · obtain ⟨v, rfl, r⟩ := one_of rl
    cases r
    split at e
    · rename_i g
      cases e
      obtain ⟨vs, e1, r2⟩ := rm.ob _ _ g
      exact call_list_of pins s σ H _ us Q I rv ⟨_, _, rfl, .inl (SqL.of e1), new_list rm r2 q⟩
    · cases e
  · cases e
end

/-! ### sorted, of texts -/
def leS (a b : Str) : Bool := !Spec.ltCps b.cps.toList a.cps.toList
def sortT (xs : List Str) : List Str := xs.mergeSort leS
theorem leS_iff {a b : Str} : leS a b = true ↔ a.cps.toList ≤ b.cps.toList := by
  unfold leS
  rw [PyProof.Rows.ltCps_eq]
  by_cases h : b.cps.toList < a.cps.toList
  · rw [decide_eq_true h]
    exact ⟨fun z => by simp at z, fun z => absurd h (List.not_lt.mpr z)⟩
  · rw [decide_eq_false h]
    exact ⟨fun _ => List.not_lt.mp h, fun _ => rfl⟩
theorem leS_trans (a b c : Str) (h1 : leS a b = true) (h2 : leS b c = true) : leS a c = true := leS_iff.mpr (List.le_trans (leS_iff.mp h1) (leS_iff.mp h2))
theorem leS_total (a b : Str) : (leS a b || leS b a) = true := by
  rw [Bool.or_eq_true, leS_iff, leS_iff]
  exact List.le_total _ _
theorem leS_anti {a b : Str} (h1 : leS a b = true) (h2 : leS b a = true) : a = b := by
  have h := List.le_antisymm (leS_iff.mp h1) (leS_iff.mp h2)
  cases a; cases b
  congr
  exact Array.ext' h
theorem rises : ∀ (ys : List Str), PyProof.Rows.sortedS ys = true → ys.Pairwise fun a b => leS a b = true
  | [], _ => .nil
  | x :: r, h => by
    have go : ∀ (r : List Str) (x : Str), PyProof.Rows.risingS x r = true → (x :: r).Pairwise fun a b => leS a b = true := by
      intro r
      induction r with
      | nil => intro x _; exact List.pairwise_singleton _ _
      | cons y r ih =>
        intro x h
        have h' : (!Spec.ltCps y.cps.toList x.cps.toList && PyProof.Rows.risingS y r) = true := h
        rw [Bool.and_eq_true] at h'
        have p := ih y h'.2
        refine List.pairwise_cons.mpr ⟨fun z hz => ?_, p⟩
        rcases List.mem_cons.mp hz with e | hz
        · rw [e]; exact h'.1
        · exact leS_trans _ _ _ h'.1 ((List.pairwise_cons.mp p).1 z hz)
    exact go r x h
theorem sortT_unique {xs ys : List Str} (hp : ys.Perm xs) (hs : PyProof.Rows.sortedS ys = true) : ys = sortT xs :=
  List.Perm.eq_of_pairwise (fun a b _ _ => leS_anti) (rises ys hs) (List.pairwise_mergeSort leS_trans leS_total xs) (hp.trans (List.mergeSort_perm xs leS).symm)
/-- the texts that are a dict's keys -/
def keysT : List (Key × D) → Option (List Str)
  | [] => some []
  | (.inr x, _) :: r => (keysT r).map (x :: ·)
  | (.inl _, _) :: _ => none
theorem keysT_ok {Γ : Ga} {ι : Nat → Addr} {N : Nat} {H : Hp} : ∀ {ds : List (Key × D)} {vs : List (Key × V)} {ks : List Str}, RK Γ ι N H ds vs → keysT ds = some ks → vs.map (·.1) = ks.map Sum.inr
  | _, _, _, .nil, e => by cases e; rfl
  | _, _, ks, .cons (k := .inr x) r t, e => by
    obtain ⟨ys, h1, h2⟩ := Option.map_eq_some_iff.mp e
    subst h2
    rw [List.map_cons, keysT_ok t h1]; rfl
  | _, _, _, .cons (k := .inl _) r t, e => by cases e
def gSorted : Bf
  | [.ref n], M => match M.get n with
    | some (.lst ds) => match strsD ds with
      | some xs => if xs.length < 64 then some (.ref M.sz, M.new (.lst ((sortT xs).map .str))) else none
      | none => none
    | some (.dct kvs) => match keysT kvs with
      | some xs => if xs.length < 64 then some (.ref M.sz, M.new (.lst ((sortT xs).map .str))) else none
      | none => none
    | _ => none
  | _, _ => none
section
variable {Γ : Ga} {X : Cx}
theorem b_sorted (hK : X.K = Γ.K) (hc : X.calm = true) : CallR X (.builtin "sorted") (rB Γ gSorted) := by
  intro pins s σ H xs us Q I rv h
  obtain ⟨ι, M, ds, rm, rl, d, M', e, q⟩ := h
  unfold gSorted at e
  split at e
  · obtain ⟨v, rfl, r⟩ := one_of rl
    cases r
    split at e
    · rename_i g
      split at e
      · rename_i xs hx
        split at e
        · rename_i hl
          cases e
          obtain ⟨vs, e1, r2⟩ := rm.ob _ _ g
          have e2 := strs_ok r2 hx
          subst e2
          refine cr_sortedS pins s σ H _ us Q I rv ⟨_, xs, rfl, SqL.of e1, hl, fun ys p hp hs hn => ?_⟩
          rw [sortT_unique hp hs]
          exact new_list rm (rl_strs _) q p hn
        · cases e
      · cases e
    · rename_i g
      split at e
      · rename_i xs hx
        split at e
        · rename_i hl
          cases e
          obtain ⟨vs, e1, r2⟩ := rm.ob _ _ g
          refine call_sortedD hc pins s σ H _ us Q I rv ⟨_, vs, xs, rfl, .inl e1, keysT_ok r2 hx, hl, fun ys p hp hs hn => ?_⟩
          rw [sortT_unique hp hs]
          exact new_list rm (rl_strs _) q p hn
        · cases e
      · cases e
    · cases e
  · cases e
end

/-! ### repr -/
def gRepr : Bf
  | [d], M => match toP M d with
    | some p => if PyData.showable p = true ∧ (PyData.shown p).length ≤ sizeLine ∧ p.depth ≤ 64 then some (.str (PyData.shown p), M) else none
    | none => none
  | _, _ => none
mutual
theorem dp_noDict {K : PySem.W.Frag} {H : Hp} : ∀ (p : PyData) (v : V), Dp K H v p → p.hasDict = false
  | .none, _, _ => by simp only [PyData.hasDict]
  | .bool _, _, _ => by simp only [PyData.hasDict]
  | .int _, _, _ => by simp only [PyData.hasDict]
  | .str _, _, _ => by simp only [PyData.hasDict]
  | .list xs, _, h => by
    cases h with
    | lst _ ha => simp only [PyData.hasDict]; exact dpl_noDict xs _ ha
  | .tuple xs, _, h => by
    cases h with
    | tup _ ha => simp only [PyData.hasDict]; exact dpl_noDict xs _ ha
  | .dict _, _, h => by cases h
theorem dpl_noDict {K : PySem.W.Frag} {H : Hp} : ∀ (ps : List PyData) (vs : List V), DpAll K H vs ps → PyData.hasDictAll ps = false
  | [], _, _ => by simp only [PyData.hasDictAll]
  | p :: ps, _, h => by
    cases h with
    | cons h1 h2 => simp only [PyData.hasDictAll, dp_noDict p _ h1, dpl_noDict ps _ h2, Bool.or_self]
end
section
variable {Γ : Ga} {X : Cx}
theorem b_repr (hK : X.K = Γ.K) (hG : X.A.guards = some []) (hu : X.A.units + 70 < cLine) : CallR X (.builtin "repr") (rB Γ gRepr) := by
  intro pins s σ H xs us Q I rv h
  obtain ⟨ι, M, ds, rm, rl, d, M', e, q⟩ := h
  unfold gRepr at e
  split at e
  · obtain ⟨v, rfl, r⟩ := one_of rl
    split at e
    · rename_i p hp
      split at e
      · rename_i hz
        cases e
        obtain ⟨hs, hl, hd⟩ := hz
        have dp := toP_dp rm r hp
        rw [← hK] at dp
        obtain ⟨u, rfl, ru⟩ := vals1 rv
        obtain ⟨as, rd⟩ := Dp.reads I p v u dp ru
        have fin : Q (.str (PyData.shown p)) H := ResT.same q rm (.str _)
        have hn := PyData.noDict_hsm (as := as) (dp_noDict p v dp)
        cases dp with
        | non =>
          cases ru
          exact PySem.P.repr_of_none ⟨.str _, H, I.tok _, ⟨_, rfl⟩, fin⟩
        | bl b =>
          cases ru
          exact PySem.P.repr_of_bool ⟨.str _, H, I.tok _, ⟨_, rfl⟩, by cases b <;> exact fin⟩
        | int i =>
          obtain ⟨t, rfl⟩ := ru
          have hi : i.natAbs.log2 < 1920 := by
            simp only [PyData.showable] at hs
            exact of_decide_eq_true hs
          exact PySem.P.repr_of_int hi ⟨.str _, H, I.tok _, ⟨_, rfl⟩, fin⟩
        | str x =>
          obtain ⟨t, rfl⟩ := ru
          exact PySem.P.repr_of_str ⟨.str _, H, I.tok _, ⟨_, rfl⟩, fin⟩ hl
        | lst h1 h2 =>
          cases ru
          exact repr_of_reads' rd hs hn hG (by omega) (fun _ _ z => z) (fun h' t tk hk => ⟨.str _, H, I.kept hk, ⟨t, rfl⟩, fin⟩) hl
        | tup h1 h2 =>
          cases ru
          exact repr_of_reads' rd hs hn hG (by omega) (fun _ _ z => z) (fun h' t tk hk => ⟨.str _, H, I.kept hk, ⟨t, rfl⟩, fin⟩) hl
      · cases e
    · cases e
  · cases e
end
end Nl

set_option autoImplicit false
/-! Nl, part G: statements, loops, comprehensions. -/
namespace Nl
open PySem L2

/-! ### what is walked -/
structure Wk where
  items : List D
  gs : List (Nat × O)
def Wk.ok (w : Wk) (M : Mem) : Bool := w.gs.all fun p => decide (M.get p.1 = some p.2)
abbrev Wv := Rho → Mem → Out Wk
structure ItOk (Γ : Ga) (J : It) (w : Wk) (ι : Nat → Addr) (M : Mem) (H : Hp) : Prop where
  go : ∀ ι2 M2 H2 i, Ext ι ι2 M.sz M2.sz H H2 → RM Γ ι2 M2 H2 → w.ok M2 = true → i < w.items.length → J.go i H2
  stop : ∀ ι2 M2 H2 i, Ext ι ι2 M.sz M2.sz H H2 → RM Γ ι2 M2 H2 → w.ok M2 = true → w.items.length ≤ i → J.stop i H2
  yld : ∀ ι2 M2 H2 i x H3, Ext ι ι2 M.sz M2.sz H H2 → RM Γ ι2 M2 H2 → w.ok M2 = true → i < w.items.length → J.yld i H2 x H3 →
    ∃ d, w.items[i]? = some d ∧ R Γ ι2 M2.sz H3 d x ∧ Ext ι2 ι2 M2.sz M2.sz H2 H3 ∧ RM Γ ι2 M2 H3
def iW (Γ : Ga) (m : Wv) : TI := fun σ H Rr => ∃ ι ρ M, Sim Γ ι M H ρ σ ∧ ∃ w M', m ρ M = some (w, M') ∧ ∀ J H' ι', Ext ι ι' M.sz M'.sz H H' → RM Γ ι' M' H' → ItOk Γ J w ι' M' H' → Rr J H'
theorem PI.of {X : Cx} {tg e : Expr} {t t' : TI} (h : PI X tg e t) (w : ∀ σ H Q, t' σ H Q → t σ H Q) : PI X tg e t' := ⟨fun pins s σ H Q I q => h.run pins s σ H Q I (w _ _ _ q)⟩

/-! ### for -/
def forL (ok : Mem → Bool) (g : Gv) (b : Sv) : List D → Sv
  | [], ρ, M => if ok M = true then some (.nx ρ, M) else none
  | d :: ds, ρ, M => if ok M = true then match g d ρ M with
    | none => none
    | some (ρ1, M1) => match b ρ1 M1 with
      | none => none
      | some (.nx ρ2, M2) => forL ok g b ds ρ2 M2
      | some (.ct ρ2, M2) => forL ok g b ds ρ2 M2
      | some (.bk ρ2, M2) => some (.nx ρ2, M2)
      | some (.rt v, M2) => some (.rt v, M2)
    else none
def sFor (m : Wv) (g : Gv) (b : Sv) : Sv := fun ρ M => bnd (m ρ M) fun w M1 => forL w.ok g b w.items ρ M1
section
variable {Γ : Ga} {X : Cx} {tg iter : Expr} {body : List Stmt} {m : Wv} {g : Gv} {b : Sv} {pos : Pos}
/-- behind a stretch, what is wished for at the end is wished for here -/
theorem FlT.later {ι ι1 : Nat → Addr} {M M1 : Mem} {H H1 : Hp} {M' : Mem} {E : Ends} (x1 : Ext ι ι1 M.sz M1.sz H H1) (r1 : RM Γ ι1 M1 H1) : ∀ {f : Fl}, FlT Γ ι M.sz H M' E f → FlT Γ ι1 M1.sz H1 M' E f
  | .nx _, q => fun σ' H' ι' x' S' => q σ' H' ι' (x1.trans r1 x') S'
  | .rt _, q => fun v H' ι' x' r' rd => q v H' ι' (x1.trans r1 x') r' rd
  | .bk _, q => fun σ' H' ι' x' S' => q σ' H' ι' (x1.trans r1 x') S'
  | .ct _, q => fun σ' H' ι' x' S' => q σ' H' ι' (x1.trans r1 x') S'
theorem for_go {J : It} {w : Wk} {ι : Nat → Addr} {M : Mem} {H : Hp} {ρ : Rho} {σ : St} {E : Ends} (S : Sim Γ ι M H ρ σ) (ok : ItOk Γ J w ι M H) (q : ResS Γ ι M H (forL w.ok g b w.items ρ M) E) (hbc : ∀ f M', forL w.ok g b w.items ρ M = some (f, M') → (∃ ρ', f = .nx ρ') ∨ ∃ v, f = .rt v) :
    ∃ W : Nat → Nat → St → Hp → Prop, (∃ m, W 0 m σ H) ∧ ∀ i m σ H, W i m σ H →
      (J.stop i H ∧ E.nx σ H) ∨ (J.go i H ∧ ∃ N : St → Hp → Prop, (∀ σ' H', N σ' H' → ∃ m', m' < m ∧ W (i + 1) m' σ' H') ∧ ∀ x H', J.yld i H x H' → tG Γ g x σ H' fun σ2 H2 => tS Γ b { E with nx := N, ct := N, bk := E.nx } σ2 H2) := by
  refine ⟨fun i m σ2 H2 => m = w.items.length - i ∧ i ≤ w.items.length ∧ ∃ ι2 ρ2 M2, Ext ι ι2 M.sz M2.sz H H2 ∧ Sim Γ ι2 M2 H2 ρ2 σ2 ∧ ResS Γ ι2 M2 H2 (forL w.ok g b (w.items.drop i) ρ2 M2) E, ⟨w.items.length, rfl, Nat.zero_le _, ι, ρ, M, Ext.refl _ _ _, S, q⟩, ?_⟩
  rintro i m σ2 H2 ⟨rfl, hi, ι2, ρ2, M2, x2, S2, f, M', e, fq⟩
  by_cases hlt : i < w.items.length
  · rw [List.drop_eq_getElem_cons hlt, forL] at e
    split at e
    · rename_i hok
      refine .inr ⟨ok.go ι2 M2 H2 i x2 S2.m hok hlt, fun σ3 H3 => ∃ ι3 ρ3 M3, Ext ι ι3 M.sz M3.sz H H3 ∧ Sim Γ ι3 M3 H3 ρ3 σ3 ∧ ResS Γ ι3 M3 H3 (forL w.ok g b (w.items.drop (i + 1)) ρ3 M3) E, fun σ' H' ⟨ι3, ρ3, M3, x3, S3, q3⟩ => ⟨w.items.length - (i + 1), by omega, rfl, hlt, ι3, ρ3, M3, x3, S3, q3⟩, fun x H3 y => ?_⟩
      obtain ⟨d, hd, rd, x3, r3⟩ := ok.yld ι2 M2 H2 i x H3 x2 S2.m hok hlt y
      have hd' : w.items[i] = d := by
        rw [List.getElem?_eq_getElem hlt] at hd
        exact Option.some.inj hd
      rw [hd'] at e
      have S3 : Sim Γ ι2 M2 H3 ρ2 σ2 := S2.ext (M' := M2) x3 r3
      have x23 := x2.trans S2.m x3
      split at e
      · cases e
      · rename_i ρ4 M4 e4
        refine ⟨ι2, ρ2, M2, d, S3, rd, ρ4, M4, e4, fun σ4 H4 ι4 x4 S4 => ?_⟩
        have x24 := x23.trans S3.m x4
        refine ⟨ι4, ρ4, M4, S4, ?_⟩
        split at e
        · cases e
        · rename_i ρ5 M5 e5
          refine ⟨_, _, e5, fun σ5 H5 ι5 x5 S5 => ?_⟩
          have x25 := x24.trans S4.m x5
          exact ⟨ι5, ρ5, M5, x25, S5, f, M', e, FlT.later ((x3.trans S3.m x4).trans S4.m x5) S5.m fq⟩
        · rename_i ρ5 M5 e5
          refine ⟨_, _, e5, fun σ5 H5 ι5 x5 S5 => ?_⟩
          have x25 := x24.trans S4.m x5
          exact ⟨ι5, ρ5, M5, x25, S5, f, M', e, FlT.later ((x3.trans S3.m x4).trans S4.m x5) S5.m fq⟩
        · rename_i ρ5 M5 e5
          cases e
          refine ⟨_, _, e5, fun σ5 H5 ι5 x5 S5 => fq σ5 H5 ι5 ((x3.trans S3.m x4).trans S4.m x5) S5⟩
        · rename_i v5 M5 e5
          cases e
          refine ⟨_, _, e5, fun v H5 ι5 x5 r5 rd => fq v H5 ι5 ((x3.trans S3.m x4).trans S4.m x5) r5 rd⟩
    · cases e
  · have hn : w.items.length ≤ i := Nat.not_lt.mp hlt
    rw [List.drop_eq_nil_of_le hn, forL] at e
    split at e
    · rename_i hok
      cases e
      exact .inl ⟨ok.stop ι2 M2 H2 i x2 S2.m hok hn, fq σ2 H2 ι2 (Ext.refl _ _ _) S2⟩
    · cases e
theorem forL_ends (ok : Mem → Bool) (g : Gv) (b : Sv) : ∀ (ds : List D) (ρ : Rho) (M : Mem) (f : Fl) (M' : Mem), forL ok g b ds ρ M = some (f, M') → (∃ ρ', f = .nx ρ') ∨ ∃ v, f = .rt v
  | [], ρ, M, f, M', e => by
    rw [forL] at e
    split at e
    · cases e; exact .inl ⟨_, rfl⟩
    · cases e
  | d :: ds, ρ, M, f, M', e => by
    rw [forL] at e
    split at e
    · split at e
      · cases e
      · split at e
        · cases e
        · exact forL_ends ok g b ds _ _ f M' e
        · exact forL_ends ok g b ds _ _ f M' e
        · cases e; exact .inl ⟨_, rfl⟩
        · cases e; exact .inr ⟨_, rfl⟩
    · cases e
theorem s_for (hp : PassesOwn (model X.prog X.w) X.A X.env X.xe) (hc : X.calm = true) (hi : PI X tg iter (iW Γ m)) (hg : PG X tg (tG Γ g)) (hb : PSs X body (tS Γ b)) (hs : ∀ x, foldedSetIterable iter X.env x = pure x := by intro _; rfl) :
    PS X (.For tg iter body [] pos) (tS Γ (sFor m g b)) := by
  refine PS.of (ps_for hp hc hi hg hb hs) fun E σ H h => ?_
  obtain ⟨ι, ρ, M, S, f, M', e, q⟩ := h
  obtain ⟨w, M1, e1, e⟩ := bnd_inv e
  refine ⟨ι, ρ, M, S, w, M1, e1, fun J H1 ι1 x1 r1 ok => ?_⟩
  exact for_go (S.ext x1 r1) ok ⟨f, M', e, FlT.later x1 r1 q⟩ fun f M' e => forL_ends _ _ _ _ _ _ f M' e
end

/-! ### while -/
def whileN (c : Bv) (b : Sv) : Nat → Sv
  | 0, _, _ => none
  | k + 1, ρ, M => bnd (c ρ M) fun t M1 => if t = true then match b ρ M1 with
      | none => none
      | some (.nx ρ2, M2) => whileN c b k ρ2 M2
      | some (.ct ρ2, M2) => whileN c b k ρ2 M2
      | some (.bk ρ2, M2) => some (.nx ρ2, M2)
      | some (.rt v, M2) => some (.rt v, M2)
    else some (.nx ρ, M1)
/-- so many turns are gone at most -/
def turns : Nat := 1000000
def sWhile (c : Bv) (b : Sv) : Sv := whileN c b turns
section
variable {Γ : Ga} {X : Cx} {c : Expr} {body : List Stmt} {t : Bv} {b : Sv} {pos : Pos}
theorem while_go {σ : St} {H : Hp} {E : Ends} {ι : Nat → Addr} {ρ : Rho} {M : Mem} (S : Sim Γ ι M H ρ σ) (k : Nat) (q : ResS Γ ι M H (whileN t b k ρ M) E) : tWhile (tB Γ t) (tS Γ b) E σ H := by
  refine ⟨fun m σ H => ∃ ι ρ M, Sim Γ ι M H ρ σ ∧ ResS Γ ι M H (whileN t b m ρ M) E, ⟨k, ι, ρ, M, S, q⟩, ?_⟩
  rintro m σ H ⟨ι, ρ, M, S, f, M', e, q⟩
  cases m with
  | zero => cases e
  | succ m =>
    obtain ⟨v, M1, e1, e⟩ := bnd_inv e
    refine ⟨ι, ρ, M, S, v, M1, e1, fun H1 ι1 x1 r1 => ?_⟩
    have S1 := S.ext x1 r1
    cases v with
    | false =>
      rw [if_neg Bool.false_ne_true] at e
      cases e
      exact iteF (q σ H1 ι1 x1 S1)
    | true =>
      rw [if_pos rfl] at e
      refine iteT ⟨fun σ H => ∃ ι ρ M, Sim Γ ι M H ρ σ ∧ ResS Γ ι M H (whileN t b m ρ M) E, fun σ' H' h => ⟨m, Nat.lt_succ_self m, h⟩, ι1, ρ, M1, S1, ?_⟩
      split at e
      · cases e
      · rename_i ρ5 M5 e5
        exact ⟨_, _, e5, fun σ5 H5 ι5 x5 S5 => ⟨ι5, ρ5, M5, S5, f, M', e, FlT.later (x1.trans r1 x5) S5.m q⟩⟩
      · rename_i ρ5 M5 e5
        exact ⟨_, _, e5, fun σ5 H5 ι5 x5 S5 => ⟨ι5, ρ5, M5, S5, f, M', e, FlT.later (x1.trans r1 x5) S5.m q⟩⟩
      · rename_i ρ5 M5 e5
        cases e
        exact ⟨_, _, e5, fun σ5 H5 ι5 x5 S5 => q σ5 H5 ι5 (x1.trans r1 x5) S5⟩
      · rename_i v5 M5 e5
        cases e
        exact ⟨_, _, e5, fun v H5 ι5 x5 r5 rd => q v H5 ι5 (x1.trans r1 x5) r5 rd⟩
theorem s_while (hp : PassesOwn (model X.prog X.w) X.A X.env X.xe) (hc : PT X c (tB Γ t)) (hb : PSs X body (tS Γ b)) : PS X (.While c body [] pos) (tS Γ (sWhile t b)) := by
  refine PS.of (ps_while hp hc hb) fun E σ H h => ?_
  obtain ⟨ι, ρ, M, S, q⟩ := h
  exact while_go S turns q
end

/-! ### small statements, blocks -/
def sNil : Sv := fun ρ M => some (.nx ρ, M)
def sCons (m n : Sv) : Sv := fun ρ M => match m ρ M with
  | none => none
  | some (.nx ρ1, M1) => n ρ1 M1
  | some (f, M1) => some (f, M1)
def sEx (m : Ev) : Sv := fun ρ M => bnd (m ρ M) fun _ M1 => some (.nx ρ, M1)
def sRet (m : Ev) : Sv := fun ρ M => bnd (m ρ M) fun d M1 => some (.rt d, M1)
def sRetN : Sv := fun _ M => some (.rt .non, M)
def sIf (c : Bv) (m n : Sv) : Sv := fun ρ M => bnd (c ρ M) fun t M1 => if t = true then m ρ M1 else n ρ M1
def sAsg (m : Ev) (g : Gv) : Sv := fun ρ M => bnd (m ρ M) fun d M1 => (g d ρ M1).map fun p => (.nx p.1, p.2)
def sBrk : Sv := fun ρ M => some (.bk ρ, M)
def sCnt : Sv := fun ρ M => some (.ct ρ, M)
def sNo : Sv := fun _ _ => none
section
variable {Γ : Ga} {X : Cx} {st : Stmt} {rest : List Stmt} {m n : Sv} {e : Expr} {me : Ev} {pos : Pos}
theorem s_nil : PSs X [] (tS Γ sNil) := by
  refine PSs.of pss_nil fun E σ H h => ?_
  obtain ⟨ι, ρ, M, S, f, M', e, q⟩ := h
  cases e
  exact q σ H ι (Ext.refl _ _ _) S
theorem s_cons (h1 : PS X st (tS Γ m)) (h2 : PSs X rest (tS Γ n)) : PSs X (st :: rest) (tS Γ (sCons m n)) := by
  refine PSs.of (pss_cons h1 h2) fun E σ H h => ?_
  obtain ⟨ι, ρ, M, S, f, M', e, q⟩ := h
  refine ⟨ι, ρ, M, S, ?_⟩
  unfold sCons at e
  split at e
  · cases e
  · rename_i ρ1 M1 e1
    exact ⟨_, _, e1, fun σ1 H1 ι1 x1 S1 => ⟨ι1, ρ1, M1, S1, f, M', e, FlT.later x1 S1.m q⟩⟩
  · rename_i f1 M1 hn e1
    cases e
    refine ⟨_, _, e1, ?_⟩
    cases f with
    | nx ρ' => exact absurd rfl (hn ρ')
    | rt d => exact q
    | bk ρ' => exact q
    | ct ρ' => exact q
theorem s_ex (he : PE X e (tE Γ me)) (hs : swapsWith e none pos.line X.env = pure false := by rfl) : PS X (.Expr e pos) (tS Γ (sEx me)) := by
  refine PS.of (ps_expr he hs) fun E σ H h => ?_
  obtain ⟨ι, ρ, M, S, f, M', e, q⟩ := h
  obtain ⟨d, M1, e1, e⟩ := bnd_inv e
  cases e
  exact ⟨ι, ρ, M, S, d, _, e1, fun v H1 ι1 x1 r1 rd => q σ H1 ι1 x1 (S.ext x1 r1)⟩
theorem s_ret (he : PE X e (tE Γ me)) : PS X (.Return (some e) pos) (tS Γ (sRet me)) := by
  refine PS.of (ps_ret he) fun E σ H h => ?_
  obtain ⟨ι, ρ, M, S, f, M', e, q⟩ := h
  obtain ⟨d, M1, e1, e⟩ := bnd_inv e
  cases e
  exact ⟨ι, ρ, M, S, d, _, e1, q⟩
theorem s_retN : PS X (.Return none pos) (tS Γ sRetN) := by
  refine PS.of ps_retN fun E σ H h => ?_
  obtain ⟨ι, ρ, M, S, f, M', e, q⟩ := h
  cases e
  exact q _ H ι (Ext.refl _ _ _) S.m .non
theorem s_if {c : Expr} {a b : List Stmt} {t : Bv} (hc : PT X c (tB Γ t)) (ha : PSs X a (tS Γ m)) (hb : PSs X b (tS Γ n)) : PS X (.If c a b pos) (tS Γ (sIf t m n)) := by
  refine PS.of (ps_if hc ha hb) fun E σ H h => ?_
  obtain ⟨ι, ρ, M, S, f, M', e, q⟩ := h
  obtain ⟨v, M1, e1, e⟩ := bnd_inv e
  refine ⟨ι, ρ, M, S, v, M1, e1, fun H1 ι1 x1 r1 => ?_⟩
  cases v with
  | true => exact iteT ⟨ι1, ρ, M1, S.ext x1 r1, f, M', e, FlT.later x1 r1 q⟩
  | false => exact iteF ⟨ι1, ρ, M1, S.ext x1 r1, f, M', e, FlT.later x1 r1 q⟩
theorem asg_go {g : Gv} {E : Ends} {σ : St} {H : Hp} (h : tS Γ (sAsg me g) E σ H) : tAsg (tE Γ me) (tG Γ g) E σ H := by
  obtain ⟨ι, ρ, M, S, f, M', e, q⟩ := h
  obtain ⟨d, M1, e1, e⟩ := bnd_inv e
  obtain ⟨p, e2, e3⟩ := Option.map_eq_some_iff.mp e
  cases e3
  refine ⟨ι, ρ, M, S, d, M1, e1, fun v H1 ι1 x1 r1 rd => ⟨ι1, ρ, M1, d, S.ext x1 r1, rd, p.1, p.2, e2, fun σ2 H2 ι2 x2 S2 => ?_⟩⟩
  exact q σ2 H2 ι2 (x1.trans r1 x2) S2
theorem s_asg {tg : Expr} {g : Gv} (he : PE X e (tE Γ me)) (hg : PG X tg (tG Γ g)) (hs : swapsWithSole [tg] e pos.line X.env = pure false := by rfl) (hw : swappedStores [tg] e X.env = pure none := by rfl)
    (h1 : (assignEach [tg] X.env).map (·.2) = [assign tg X.env] := by rfl) : PS X (.Assign [tg] e pos) (tS Γ (sAsg me g)) := PS.of (ps_asg he hg hs hw h1) fun _ _ _ h => asg_go h
theorem s_brk : PS X (.Break pos) (tS Γ sBrk) := by
  refine PS.of ps_break fun E σ H h => ?_
  obtain ⟨ι, ρ, M, S, f, M', e, q⟩ := h
  cases e
  exact q σ H ι (Ext.refl _ _ _) S
theorem s_cnt : PS X (.Continue pos) (tS Γ sCnt) := by
  refine PS.of ps_continue fun E σ H h => ?_
  obtain ⟨ι, ρ, M, S, f, M', e, q⟩ := h
  cases e
  exact q σ H ι (Ext.refl _ _ _) S
theorem s_pass : PS X (.Pass pos) (tS Γ sNil) := by
  refine PS.of ps_pass fun E σ H h => ?_
  obtain ⟨ι, ρ, M, S, f, M', e, q⟩ := h
  cases e
  exact q σ H ι (Ext.refl _ _ _) S
/-- a text that says what a def does -/
theorem s_doc {x j pos pos'} : PS X (.Expr (.Constant (.str x) j pos) pos') (tS Γ sNil) := by
  refine PS.of ps_doc fun E σ H h => ?_
  obtain ⟨ι, ρ, M, S, f, M', e, q⟩ := h
  cases e
  exact q σ H ι (Ext.refl _ _ _) S
/-- what is never come to -/
theorem s_no : PS X st (tS Γ sNo) := ⟨fun _ _ _ _ _ _ h => by
  obtain ⟨ι, ρ, M, S, f, M', e, q⟩ := h
  cases e⟩
end
end Nl

set_option autoImplicit false
/-! Nl, part H: what is walked; comprehensions; methods of what is built in. -/
namespace Nl
open PySem L2

theorem PI.either {X : Cx} {tg e : Expr} {t t' : TI} (h : PI X tg e t) (h' : PI X tg e t') : PI X tg e (fun σ H Q => t σ H Q ∨ t' σ H Q) := ⟨fun pins s σ H Q I q => q.elim (h.run pins s σ H Q I) (h'.run pins s σ H Q I)⟩
theorem wk_ok {w : Wk} {M : Mem} {n : Nat} {o : O} (h : w.ok M = true) (hm : (n, o) ∈ w.gs) : M.get n = some o := by
  unfold Wk.ok at h
  exact of_decide_eq_true (List.all_eq_true.mp h _ hm)

/-! ### a list, a tuple, a text -/
def wSeq (m : Ev) : Wv := fun ρ M => bnd (m ρ M) fun d M1 => match d with
  | .tup ds => some (⟨ds, []⟩, M1)
  | .rol xs => some (⟨xs.map .int, []⟩, M1)
  | .str z => some (⟨z.cps.toList.map fun c => .str ⟨#[c]⟩, []⟩, M1)
  | .ref n => match M1.get n with
    | some (.lst ds) => some (⟨ds, [(n, .lst ds)]⟩, M1)
    | _ => none
  | _ => none
section
variable {Γ : Ga} {X : Cx} {ι : Nat → Addr} {M : Mem} {H : Hp}
theorem itok_list {n : Nat} {ds : List D} (rm : RM Γ ι M H) (hn : n < M.sz) : ItOk Γ (Itl Γ.K (ι n)) ⟨ds, [(n, .lst ds)]⟩ ι M H where
  go := fun ι2 M2 H2 i x r ok hi => by
    obtain ⟨vs, e, rl⟩ := r.ob n _ (wk_ok ok (List.mem_singleton.mpr rfl))
    rw [x.ag n hn] at e
    obtain ⟨v, hv, _⟩ := rl.get (List.getElem?_eq_getElem hi)
    exact ⟨vs, v, SqL.of e, hv⟩
  stop := fun ι2 M2 H2 i x r ok hi => by
    obtain ⟨vs, e, rl⟩ := r.ob n _ (wk_ok ok (List.mem_singleton.mpr rfl))
    rw [x.ag n hn] at e
    exact ⟨vs, SqL.of e, by rw [← rl.length]; exact hi⟩
  yld := fun ι2 M2 H2 i v H3 x r ok hi y => by
    obtain ⟨e3, y⟩ := y
    subst e3
    obtain ⟨vs, e, rl⟩ := r.ob n _ (wk_ok ok (List.mem_singleton.mpr rfl))
    rw [x.ag n hn] at e
    obtain ⟨v', hv, rv⟩ := rl.get (List.getElem?_eq_getElem hi)
    have := y vs (SqL.of e)
    rw [hv] at this
    cases this
    exact ⟨_, List.getElem?_eq_getElem hi, rv, Ext.refl _ _ _, r⟩
/-- things that stand still -/
theorem itok_still {ds : List D} {vs : List V} {J : It} (rm : RM Γ ι M H) (rl : RL Γ ι M.sz H ds vs) (hgo : ∀ ι2 N2 H2 i, Ext ι ι2 M.sz N2 H H2 → i < vs.length → J.go i H2) (hstop : ∀ ι2 N2 H2 i, Ext ι ι2 M.sz N2 H H2 → vs.length ≤ i → J.stop i H2)
    (hy : ∀ ι2 N2 H2 i v H3, Ext ι ι2 M.sz N2 H H2 → i < vs.length → J.yld i H2 v H3 → H3 = H2 ∧ vs[i]? = some v) : ItOk Γ J ⟨ds, []⟩ ι M H where
  go := fun ι2 M2 H2 i x r ok hi => hgo ι2 _ H2 i x (by rw [← rl.length]; exact hi)
  stop := fun ι2 M2 H2 i x r ok hi => hstop ι2 _ H2 i x (by rw [← rl.length]; exact hi)
  yld := fun ι2 M2 H2 i v H3 x r ok hi y => by
    obtain ⟨e3, hv⟩ := hy ι2 _ H2 i v H3 x (by rw [← rl.length]; exact hi) y
    subst e3
    obtain ⟨v', hv', rv⟩ := rl.get (List.getElem?_eq_getElem (show i < ds.length from hi))
    rw [hv'] at hv
    cases hv
    exact ⟨_, List.getElem?_eq_getElem hi, rv.ext rm x, Ext.refl _ _ _, r⟩
theorem itok_tup {a : Addr} {ds : List D} {vs : List V} (rm : RM Γ ι M H) (hs : SqT Γ.K H a vs) (rl : RL Γ ι M.sz H ds vs) : ItOk Γ (Itt Γ.K a) ⟨ds, []⟩ ι M H := by
  refine itok_still rm rl (fun ι2 N2 H2 i x hi => ?_) (fun ι2 N2 H2 i x hi => ?_) fun ι2 N2 H2 i v H3 x hi y => ?_
  · exact ⟨vs, _, sqT_keep hs (rm.keeps x _), List.getElem?_eq_getElem hi⟩
  · exact ⟨vs, sqT_keep hs (rm.keeps x _), hi⟩
  · obtain ⟨e3, y⟩ := y
    exact ⟨e3, y vs (sqT_keep hs (rm.keeps x _))⟩
theorem itok_rol {a : Addr} {xs : List Int} (rm : RM Γ ι M H) (hs : RoL Γ.K H a (xs.map V.int)) : ItOk Γ (Itl Γ.K a) ⟨xs.map .int, []⟩ ι M H := by
  refine itok_still rm (rl_ints xs) (fun ι2 N2 H2 i x hi => ?_) (fun ι2 N2 H2 i x hi => ?_) fun ι2 N2 H2 i v H3 x hi y => ?_
  · exact ⟨_, _, (rol_keep hs (rm.keeps x _)).sq, List.getElem?_eq_getElem hi⟩
  · exact ⟨_, (rol_keep hs (rm.keeps x _)).sq, hi⟩
  · obtain ⟨e3, y⟩ := y
    exact ⟨e3, y _ (rol_keep hs (rm.keeps x _)).sq⟩
theorem rl_signs : ∀ cs : List Nat, RL Γ ι M.sz H (cs.map fun c => .str ⟨#[c]⟩) (cs.map fun c => V.str ⟨#[c]⟩)
  | [] => .nil
  | c :: cs => .cons (.str _) (rl_signs cs)
theorem itok_str {z : Str} (rm : RM Γ ι M H) : ItOk Γ (Its z) ⟨z.cps.toList.map fun c => .str ⟨#[c]⟩, []⟩ ι M H := by
  refine itok_still rm (rl_signs z.cps.toList) (fun ι2 N2 H2 i x hi => ?_) (fun ι2 N2 H2 i x hi => ?_) fun ι2 N2 H2 i v H3 x hi y => ?_
  · rw [List.length_map, Array.length_toList] at hi; exact hi
  · rw [List.length_map, Array.length_toList] at hi; exact hi
  · obtain ⟨e3, c, hc, ev⟩ := y
    refine ⟨e3, ?_⟩
    rw [List.getElem?_map, Array.getElem?_toList, hc, ev]
    rfl
theorem itok_rng {lo : Int} {n : Nat} (rm : RM Γ ι M H) : ItOk Γ (Itr lo n) ⟨(List.range n).map fun i => .int (lo + (i : Nat)), []⟩ ι M H := by
  have rl : RL Γ ι M.sz H ((List.range n).map fun i => .int (lo + (i : Nat))) ((List.range n).map fun i => V.int (lo + (i : Nat))) := by
    have : ∀ l : List Nat, RL Γ ι M.sz H (l.map fun i => .int (lo + (i : Nat))) (l.map fun i => V.int (lo + (i : Nat))) := fun l => by
      induction l with
      | nil => exact .nil
      | cons x xs ih => exact .cons (.int _) ih
    exact this _
  refine itok_still rm rl (fun ι2 N2 H2 i x hi => ?_) (fun ι2 N2 H2 i x hi => ?_) fun ι2 N2 H2 i v H3 x hi y => ?_
  · rw [List.length_map, List.length_range] at hi; exact hi
  · rw [List.length_map, List.length_range] at hi; exact hi
  · obtain ⟨e3, ev⟩ := y
    rw [List.length_map, List.length_range] at hi
    refine ⟨e3, ?_⟩
    rw [List.getElem?_map, List.getElem?_range hi, ev]
    rfl
variable {tg e : Expr} {m : Ev}
theorem w_seq (hK : X.K = Γ.K) (he : PE X e (tE Γ m)) : PI X tg e (iW Γ (wSeq m)) := by
  have h1 := Nl.PI.either (pi_list (tg := tg) he) (Nl.PI.either (pi_tup (tg := tg) he) (pi_str (tg := tg) he))
  refine ⟨fun pins s σ H Rr I h => ?_⟩
  obtain ⟨ι, ρ, M, S, w, M', e, q⟩ := h
  obtain ⟨d, M1, e1, e⟩ := bnd_inv e
  refine h1.run pins s σ H Rr I ?_
  split at e
  · cases e
    refine .inr (.inl ⟨ι, ρ, M, S, _, _, e1, fun v H1 ι1 x1 r1 rd => ?_⟩)
    cases rd with
    | tup hs rl => exact ⟨_, rfl, ⟨_, by rw [hK]; exact hs⟩, by rw [hK]; exact q _ H1 ι1 x1 r1 (itok_tup r1 hs rl)⟩
  · cases e
    refine .inl ⟨ι, ρ, M, S, _, _, e1, fun v H1 ι1 x1 r1 rd => ?_⟩
    cases rd with
    | rol hs => exact ⟨_, rfl, ⟨_, by rw [hK]; exact hs.sq⟩, by rw [hK]; exact q _ H1 ι1 x1 r1 (itok_rol r1 hs)⟩
  · cases e
    refine .inr (.inr ⟨ι, ρ, M, S, _, _, e1, fun v H1 ι1 x1 r1 rd => ?_⟩)
    cases rd
    exact ⟨_, rfl, q _ H1 ι1 x1 r1 (itok_str r1)⟩
  · split at e
    · rename_i g
      cases e
      refine .inl ⟨ι, ρ, M, S, _, _, e1, fun v H1 ι1 x1 r1 rd => ?_⟩
      cases rd
      obtain ⟨vs, e2, rl⟩ := r1.ob _ _ g
      exact ⟨_, rfl, ⟨_, SqL.of e2⟩, by rw [hK]; exact q _ H1 ι1 x1 r1 (itok_list r1 (Mem.get_lt g))⟩
    · cases e
  · cases e
end

/-! ### range -/
def wRng1 (m : Ev) : Wv := fun ρ M => bnd (m ρ M) fun d M1 => match d with
  | .int j => if -(2 ^ 62) ≤ j ∧ j < 2 ^ 62 then some (⟨(List.range j.toNat).map fun i => .int (0 + (i : Nat)), []⟩, M1) else none
  | _ => none
def wRng2 (m n : Ev) : Wv := fun ρ M => bnd (m ρ M) fun a M1 => bnd (n ρ M1) fun b M2 => match a, b with
  | .int i, .int j => if (-(2 ^ 62) ≤ i ∧ i < 2 ^ 62) ∧ -(2 ^ 62) ≤ j ∧ j < 2 ^ 62 then some (⟨(List.range (j - i).toNat).map fun k => .int (i + (k : Nat)), []⟩, M2) else none
  | _, _ => none
section
variable {Γ : Ga} {X : Cx} {tg a b : Expr} {ma mb : Ev} {p pos : Pos}
theorem w_rng1 (hm : X.mg "range" = none) (ha : PE X a (tE Γ ma)) (hg : Gl X "range" := by rfl) (hs : starEach [a] X.env = [(false, eval a X.env)] := by rfl) : PI X tg (.Call (.Name "range" p) [a] [] pos) (iW Γ (wRng1 ma)) := by
  refine PI.of (pi_range1 hg hm (pa_cons ha pa_nil hs) hs) fun σ H Rr h => ?_
  obtain ⟨ι, ρ, M, S, w, M', e, q⟩ := h
  obtain ⟨d, M1, e1, e⟩ := bnd_inv e
  split at e
  · split at e
    · rename_i hz
      cases e
      refine ⟨ι, ρ, M, S, _, _, e1, fun v H1 ι1 x1 r1 rd => ?_⟩
      cases rd
      exact ⟨_, rfl, hz.1, hz.2, q _ H1 ι1 x1 r1 (itok_rng r1)⟩
    · cases e
  · cases e
theorem w_rng2 (hm : X.mg "range" = none) (ha : PE X a (tE Γ ma)) (hb : PE X b (tE Γ mb)) (hg : Gl X "range" := by rfl) (hs : starEach [a, b] X.env = [(false, eval a X.env), (false, eval b X.env)] := by rfl) (hs2 : starEach [b] X.env = [(false, eval b X.env)] := by rfl) :
    PI X tg (.Call (.Name "range" p) [a, b] [] pos) (iW Γ (wRng2 ma mb)) := by
  refine PI.of (pi_range2 hg hm (pa_cons ha (pa_cons hb pa_nil hs2) (by rw [hs, hs2])) hs hs2) fun σ H Rr h => ?_
  obtain ⟨ι, ρ, M, S, w, M', e, q⟩ := h
  obtain ⟨d1, M1, e1, e⟩ := bnd_inv e
  obtain ⟨d2, M2, e2, e⟩ := bnd_inv e
  split at e
  · split at e
    · rename_i hz
      cases e
      refine ⟨ι, ρ, M, S, _, _, e1, fun v H1 ι1 x1 r1 rd => ⟨ι1, ρ, M1, S.ext x1 r1, _, _, e2, fun v2 H2 ι2 x2 r2 rd2 => ?_⟩⟩
      cases rd; cases rd2
      exact ⟨_, _, rfl, ⟨hz.1.1, hz.1.2, hz.2.1, hz.2.2⟩, q _ H2 ι2 (x1.trans r1 x2) r2 (itok_rng r2)⟩
    · cases e
  · cases e
end

/-! ### enumerate, zip, of lists -/
def enumD (k : Nat) : List D → List D
  | [] => []
  | d :: ds => .tup [.int (k : Nat), d] :: enumD (k + 1) ds
def zipD : List D → List D → List D
  | a :: as, b :: bs => .tup [a, b] :: zipD as bs
  | _, _ => []
theorem enumD_len : ∀ (k : Nat) (ds : List D), (enumD k ds).length = ds.length
  | _, [] => rfl
  | k, d :: ds => congrArg Nat.succ (enumD_len (k + 1) ds)
theorem enumD_get : ∀ (k : Nat) (ds : List D) (i : Nat) (d : D), ds[i]? = some d → (enumD k ds)[i]? = some (.tup [.int ((k + i : Nat)), d])
  | _, [], _, _, h => by simp at h
  | k, d :: ds, 0, e, h => by simp at h; subst h; rfl
  | k, d :: ds, i + 1, e, h => by
    rw [enumD, List.getElem?_cons_succ, enumD_get (k + 1) ds i e (by simpa using h)]
    rw [Nat.add_right_comm, Nat.add_assoc]
theorem zipD_len : ∀ (as bs : List D), (zipD as bs).length = min as.length bs.length
  | [], _ => by simp [zipD]
  | _ :: _, [] => by simp [zipD]
  | a :: as, b :: bs => by rw [zipD, List.length_cons, List.length_cons, List.length_cons, zipD_len as bs]; omega
theorem zipD_get : ∀ (as bs : List D) (i : Nat) (a b : D), as[i]? = some a → bs[i]? = some b → (zipD as bs)[i]? = some (.tup [a, b])
  | [], _, _, _, _, h, _ => by simp at h
  | _ :: _, [], _, _, _, _, h => by simp at h
  | a :: as, b :: bs, 0, x, y, h1, h2 => by simp at h1 h2; subst h1 h2; rfl
  | a :: as, b :: bs, i + 1, x, y, h1, h2 => by rw [zipD, List.getElem?_cons_succ]; exact zipD_get as bs i x y (by simpa using h1) (by simpa using h2)
def wEnum (m : Ev) : Wv := fun ρ M => bnd (m ρ M) fun d M1 => match d with
  | .ref n => match M1.get n with
    | some (.lst ds) => some (⟨enumD 0 ds, [(n, .lst ds)]⟩, M1)
    | _ => none
  | _ => none
def wZip (m n : Ev) : Wv := fun ρ M => bnd (m ρ M) fun a M1 => bnd (n ρ M1) fun b M2 => match a, b with
  | .ref i, .ref j => match M2.get i, M2.get j with
    | some (.lst ds), some (.lst es) => some (⟨zipD ds es, [(i, .lst ds), (j, .lst es)]⟩, M2)
    | _, _ => none
  | _, _ => none
section
variable {Γ : Ga} {X : Cx} {e e2 : Expr} {m m2 : Ev} {p pos tpos : Pos} {elts : List Expr} {kk : Nat}
theorem two_tup {ι : Nat → Addr} {N : Nat} {H : Hp} {T : Addr} {a b : D} {x y : V} (hT : H T = none) (ra : R Γ ι N H a x) (rb : R Γ ι N H b y) : R Γ ι N (upd H T (.tup [x, y])) (.tup [a, b]) (.ref T) :=
  .tup (SqT.of upd_same) (.cons (ra.upd (loose_none hT)) (.cons (rb.upd (loose_none hT)) .nil))
theorem w_enum (hK : X.K = Γ.K) (hm : X.mg "enumerate" = none) (he : PE X e (tE Γ m)) (hg : Gl X "enumerate" := by rfl) (hs : starEach [e] X.env = [(false, eval e X.env)] := by rfl) : PI X (.Tuple elts kk tpos) (.Call (.Name "enumerate" p) [e] [] pos) (iW Γ (wEnum m)) := by
  refine PI.of (pi_enum hg hm (pa_cons he pa_nil hs) hs) fun σ H Rr h => ?_
  obtain ⟨ι, ρ, M, S, w, M', e, q⟩ := h
  obtain ⟨d, M1, e1, e⟩ := bnd_inv e
  split at e
  · rename_i n
    split at e
    · rename_i ds g
      cases e
      refine ⟨ι, ρ, M, S, _, _, e1, fun v H1 ι1 x1 r1 rd => ?_⟩
      cases rd
      obtain ⟨vs, e2, rl⟩ := r1.ob _ _ g
      refine ⟨_, vs, rfl, SqL.of e2, ?_⟩
      rw [hK]
      have hn := Mem.get_lt g
      refine q _ H1 ι1 x1 r1 ⟨fun ι2 M2 H2 i x r ok hi => ?_, fun ι2 M2 H2 i x r ok hi => ?_, fun ι2 M2 H2 i v H3 x r ok hi y => ?_⟩
      · obtain ⟨vs, e3, rl⟩ := r.ob n _ (wk_ok ok (List.mem_singleton.mpr rfl))
        rw [x.ag n hn] at e3
        rw [enumD_len] at hi
        obtain ⟨v, hv, _⟩ := rl.get (List.getElem?_eq_getElem hi)
        exact ⟨vs, v, SqL.of e3, hv⟩
      · obtain ⟨vs, e3, rl⟩ := r.ob n _ (wk_ok ok (List.mem_singleton.mpr rfl))
        rw [x.ag n hn] at e3
        rw [enumD_len] at hi
        exact ⟨vs, SqL.of e3, by rw [← rl.length]; exact hi⟩
      · obtain ⟨T, u, rfl, hT, rfl, y⟩ := y
        obtain ⟨vs, e3, rl⟩ := r.ob n _ (wk_ok ok (List.mem_singleton.mpr rfl))
        rw [x.ag n hn] at e3
        rw [enumD_len] at hi
        obtain ⟨v', hv, rv⟩ := rl.get (List.getElem?_eq_getElem hi)
        have := y vs (SqL.of e3)
        rw [hv] at this
        cases this
        refine ⟨_, enumD_get 0 ds i _ (List.getElem?_eq_getElem hi), ?_, Ext.junk hT, r.junk hT⟩
        rw [Nat.zero_add]
        exact two_tup hT (.int _) rv
    · cases e
  · cases e
theorem w_zip (hK : X.K = Γ.K) (hm : X.mg "zip" = none) (he : PE X e (tE Γ m)) (he2 : PE X e2 (tE Γ m2)) (hg : Gl X "zip" := by rfl) (hs : starEach [e, e2] X.env = (false, eval e X.env) :: starEach [e2] X.env := by rfl) (hs2 : starEach [e2] X.env = (false, eval e2 X.env) :: starEach [] X.env := by rfl)
    (hpl : (backTo pos (starEach [e2] X.env)).any (·.1) = false := by rfl) : PI X (.Tuple elts kk tpos) (.Call (.Name "zip" p) [e, e2] [] pos) (iW Γ (wZip m m2)) := by
  refine PI.of (pi_zip hg hm (pa_cons he (pa_cons he2 pa_nil hs2) hs) hs hpl) fun σ H Rr h => ?_
  obtain ⟨ι, ρ, M, S, w, M', e, q⟩ := h
  obtain ⟨d1, M1, e1, e⟩ := bnd_inv e
  obtain ⟨d2, M2, e2, e⟩ := bnd_inv e
  split at e
  · rename_i i1 j1 _
    split at e
    · rename_i ds es g1 g2
      cases e
      refine ⟨ι, ρ, M, S, _, _, e1, fun v H1 ι1 x1 r1 rd => ⟨ι1, ρ, M1, S.ext x1 r1, _, _, e2, fun v2 H2 ι2 x2 r2 rd2 => ?_⟩⟩
      have rd' := rd.ext r1 x2
      cases rd'
      cases rd2
      obtain ⟨vs, h1, rl1⟩ := r2.ob _ _ g1
      obtain ⟨us, h2, rl2⟩ := r2.ob _ _ g2
      refine ⟨_, _, vs, us, rfl, SqL.of h1, SqL.of h2, ?_⟩
      rw [hK]
      have hn1 := Mem.get_lt g1
      have hn2 := Mem.get_lt g2
      have m1 : (i1, O.lst ds) ∈ [(i1, O.lst ds), (j1, O.lst es)] := List.mem_cons_self
      have m2 : (j1, O.lst es) ∈ [(i1, O.lst ds), (j1, O.lst es)] := List.mem_cons_of_mem _ List.mem_cons_self
      refine q _ H2 ι2 (x1.trans r1 x2) r2 ⟨fun ι3 M3 H3 i x r ok hi => ?_, fun ι3 M3 H3 i x r ok hi => ?_, fun ι3 M3 H3 i v H4 x r ok hi y => ?_⟩
      · obtain ⟨vs, h1, rl1⟩ := r.ob _ _ (wk_ok ok m1)
        obtain ⟨us, h2, rl2⟩ := r.ob _ _ (wk_ok ok m2)
        rw [x.ag _ hn1] at h1
        rw [x.ag _ hn2] at h2
        rw [zipD_len] at hi
        obtain ⟨v, hv, _⟩ := rl1.get (List.getElem?_eq_getElem (show i < ds.length by omega))
        obtain ⟨u, hu, _⟩ := rl2.get (List.getElem?_eq_getElem (show i < es.length by omega))
        exact ⟨vs, us, v, u, SqL.of h1, SqL.of h2, hv, hu⟩
      · obtain ⟨vs, h1, rl1⟩ := r.ob _ _ (wk_ok ok m1)
        obtain ⟨us, h2, rl2⟩ := r.ob _ _ (wk_ok ok m2)
        rw [x.ag _ hn1] at h1
        rw [x.ag _ hn2] at h2
        rw [zipD_len] at hi
        exact ⟨vs, us, SqL.of h1, SqL.of h2, by rw [← rl1.length, ← rl2.length]; omega⟩
      · obtain ⟨T, u1, u2, rfl, hT, rfl, y1, y2⟩ := y
        obtain ⟨vs, h1, rl1⟩ := r.ob _ _ (wk_ok ok m1)
        obtain ⟨us, h2, rl2⟩ := r.ob _ _ (wk_ok ok m2)
        rw [x.ag _ hn1] at h1
        rw [x.ag _ hn2] at h2
        rw [zipD_len] at hi
        obtain ⟨v, hv, rv⟩ := rl1.get (List.getElem?_eq_getElem (show i < ds.length by omega))
        obtain ⟨u, hu, ru⟩ := rl2.get (List.getElem?_eq_getElem (show i < es.length by omega))
        have t1 := y1 vs (SqL.of h1)
        rw [hv] at t1
        cases t1
        have t2 := y2 us (SqL.of h2)
        rw [hu] at t2
        cases t2
        exact ⟨_, zipD_get ds es i _ _ (List.getElem?_eq_getElem (show i < ds.length by omega)) (List.getElem?_eq_getElem (show i < es.length by omega)), two_tup hT rv ru, Ext.junk hT, r.junk hT⟩
    · cases e
  · cases e
end

/-! ### [e for t in w if c] -/
def wipeD (ρ : Rho) : List Nat → Rho
  | [] => ρ
  | i :: is => (wipeD ρ is).set i none
def lcL (ok : Mem → Bool) (g : Gv) (c : Bv) (m : Ev) : List D → Rho → Mem → Out (List D)
  | [], _, M => if ok M = true then some ([], M) else none
  | d :: ds, ρ, M => if ok M = true then match g d ρ M with
    | none => none
    | some (ρ1, M1) => bnd (c ρ1 M1) fun t M2 => if t = true then bnd (m ρ1 M2) fun v M3 => bnd (lcL ok g c m ds ρ M3) fun vs M4 => some (v :: vs, M4) else lcL ok g c m ds ρ M2
    else none
def eLc (w : Wv) (g : Gv) (c : Bv) (m : Ev) (own : List Nat) : Ev := fun ρ M => bnd (w ρ M) fun k M1 => bnd (lcL k.ok g c m k.items (wipeD ρ own) M1) fun ds M2 => if ds.length ≤ 100000 then some (.ref M2.sz, M2.new (.lst ds)) else none
def xYes : Bv := fun _ M => some (true, M)
/-! ### {k: e for t in w if c} -/
def dcL (ok : Mem → Bool) (g : Gv) (c : Bv) (mk mv : Ev) (ρ : Rho) : List D → List (Key × D) → Mem → Out (List (Key × D))
  | [], acc, M => if ok M = true then some (acc, M) else none
  | d :: ds, acc, M => if ok M = true ∧ acc.length ≤ 100000 then match g d ρ M with
    | none => none
    | some (ρ1, M1) => bnd (c ρ1 M1) fun t M2 => if t = true then bnd (mk ρ1 M2) fun u M3 => bnd (mv ρ1 M3) fun v M4 => match keyD u with
        | some k => dcL ok g c mk mv ρ ds (putD acc k v) M4
        | none => none
      else dcL ok g c mk mv ρ ds acc M2
    else none
def eDc (w : Wv) (g : Gv) (c : Bv) (mk mv : Ev) (own : List Nat) : Ev := fun ρ M => bnd (w ρ M) fun k M1 => bnd (dcL k.ok g c mk mv (wipeD ρ own) k.items [] M1) fun ps M2 => some (.ref M2.sz, M2.new (.dct ps))
end Nl

set_option autoImplicit false
/-! Nl, part I: comprehensions, by their rules. -/
namespace Nl
open PySem L2

/-! ### slots emptied -/
theorem wipe_off {σ : St} {i : Nat} {o : Option V} : ∀ {vs : List Nat}, i ∉ vs → wipe (σ.set i o) vs = (wipe σ vs).set i o
  | [], _ => rfl
  | v :: vs, h => by
    have h1 : v ≠ i := fun e => h (by rw [e]; exact List.mem_cons_self)
    have h2 : i ∉ vs := fun m => h (List.mem_cons_of_mem _ m)
    unfold wipe
    rw [wipe_off h2, List.set_comm _ _ (Ne.symm h1)]
theorem wipe_in {σ : St} {i : Nat} {o : Option V} : ∀ {vs : List Nat}, i ∈ vs → wipe (σ.set i o) vs = wipe σ vs
  | [], h => by cases h
  | v :: vs, h => by
    unfold wipe
    by_cases hi : i ∈ vs
    · rw [wipe_in hi]
    · have e : i = v := by
        rcases List.mem_cons.mp h with h | h
        · exact h
        · exact absurd h hi
      subst e
      rw [wipe_off hi, List.set_set]
theorem wipe_idle {τ : St} : ∀ {us : List Nat}, (∀ u ∈ us, ∀ x, τ[u]? ≠ some (some x)) → wipe τ us = τ
  | [], _ => rfl
  | u :: us, h => by
    show (wipe τ us).set u none = τ
    rw [wipe_idle fun z hz => h z (List.mem_cons_of_mem _ hz)]
    have hm := h u List.mem_cons_self
    refine List.ext_getElem? fun j => ?_
    by_cases hj : u = j
    · subst hj
      by_cases hl : u < τ.length
      · rw [List.getElem?_set_self hl]
        cases hx : τ[u]? with
        | none => rw [List.getElem?_eq_none_iff] at hx; omega
        | some o =>
          cases o with
          | none => rfl
          | some z => exact absurd hx (hm z)
      · rw [List.getElem?_eq_none (by rw [List.length_set]; omega), List.getElem?_eq_none (by omega)]
    · rw [List.getElem?_set_ne hj]
theorem wipe_twice {σ : St} {vs : List Nat} : wipe (wipe σ vs) vs = wipe σ vs := wipe_idle fun _ hu _ hx => (wipe_some hx).2 hu
section
variable {Γ : Ga} {ι ι' : Nat → Addr} {M : Mem} {N N' : Nat} {H H' : Hp} {ρ : Rho} {σ : St}
theorem RS.rid (h : RS Γ ι N H ρ σ) (i : Nat) : RS Γ ι N H (ρ.set i none) (σ.set i none) := by
  refine ⟨by rw [List.length_set, List.length_set]; exact h.len, fun j e q => ?_⟩
  by_cases hj : i = j
  · subst hj
    by_cases hl : i < ρ.length
    · rw [List.getElem?_set_self hl] at q
      cases q
    · rw [List.getElem?_eq_none (by rw [List.length_set]; omega)] at q
      cases q
  · rw [List.getElem?_set_ne hj] at q ⊢
    exact h.at_ j e q
theorem RS.wipe (h : RS Γ ι N H ρ σ) : ∀ vs : List Nat, RS Γ ι N H (wipeD ρ vs) (L2.wipe σ vs)
  | [] => h
  | v :: vs => (h.wipe vs).rid v
end

/-! ### targets of a comprehension -/
def tH (Γ : Ga) (vs : List Nat) (g : Gv) : TG := fun v σ H Q => ∃ ι ρ M d, Sim Γ ι M H ρ σ ∧ R Γ ι M.sz H d v ∧ ∃ ρ' M', g d ρ M = some (ρ', M') ∧ ∀ σ' H' ι', Ext ι ι' M.sz M'.sz H H' → Sim Γ ι' M' H' ρ' σ' → wipe σ' vs = wipe σ vs → Q σ' H'
def tHs (Γ : Ga) (vs : List Nat) (g : List D → Rho → Mem → Option (Rho × Mem)) : List V → St → Hp → (St → Hp → Prop) → Prop := fun v σ H Q => ∃ ι ρ M d, Sim Γ ι M H ρ σ ∧ RL Γ ι M.sz H d v ∧ ∃ ρ' M', g d ρ M = some (ρ', M') ∧ ∀ σ' H' ι', Ext ι ι' M.sz M'.sz H H' → Sim Γ ι' M' H' ρ' σ' → wipe σ' vs = wipe σ vs → Q σ' H'
section
variable {Γ : Ga} {X : Cx} {pos : Pos} {vs : List Nat}
theorem h_nm (i : Nat) {x : Str} (hN : X.N.Nodup) (hi : X.N[i]? = some x := by rfl) (hx : Loc X.env.scope x := by first | exact Or.inl rfl | exact Or.inr rfl) (hv : i ∈ vs := by decide) (hf : X.fn x = true ∨ X.env.scope.names.lookup x = some .local := by first | exact .inl rfl | exact .inr rfl | assumption) :
    PG X (.Name x pos) (tH Γ vs (gNm i)) := by
  refine PG.of (pg_name hN hi hx hf) fun v σ H Q h => ?_
  obtain ⟨ι, ρ, M, d, S, rd, ρ', M', e, q⟩ := h
  cases e
  exact q _ H ι (Ext.refl _ _ _) ⟨S.m, S.s.set i rd⟩ (wipe_in hv)
theorem hs_nil : PGs X [] (tHs Γ vs (gSeq [])) := by
  refine PGs.of pgs_nil fun v σ H Q h => ?_
  obtain ⟨ι, ρ, M, d, S, rd, ρ', M', e, q⟩ := h
  cases d with
  | nil =>
    cases rd
    cases e
    exact ⟨rfl, q σ H ι (Ext.refl _ _ _) S rfl⟩
  | cons _ _ => cases e
theorem hs_cons {e : Expr} {es : List Expr} {g : Gv} {gs : List Gv} (h1 : PG X e (tH Γ vs g)) (h2 : PGs X es (tHs Γ vs (gSeq gs)))
    (hs : (assignEach (e :: es) X.env).map (·.2) = assign e X.env :: (assignEach es X.env).map (·.2) := by rfl) : PGs X (e :: es) (tHs Γ vs (gSeq (g :: gs))) := by
  refine PGs.of (pgs_cons h1 h2 hs) fun v σ H Q h => ?_
  obtain ⟨ι, ρ, M, d, S, rd, ρ', M', e, q⟩ := h
  cases d with
  | nil => cases e
  | cons d ds =>
    cases rd with
    | cons r1 r2 =>
      rw [gSeq] at e
      dsimp only at e
      split at e
      · rename_i ρ1 M1 e1
        refine ⟨_, _, rfl, ι, ρ, M, d, S, r1, ρ1, M1, e1, fun σ1 H1 ι1 x1 S1 w1 => ?_⟩
        exact ⟨ι1, ρ1, M1, ds, S1, r2.ext S.m x1, ρ', M', e, fun σ2 H2 ι2 x2 S2 w2 => q σ2 H2 ι2 (x1.trans S1.m x2) S2 (w2.trans w1)⟩
      · cases e
theorem h_tp {es : List Expr} {k : Nat} {gs : List Gv} (hK : X.K = Γ.K) (hc : X.calm = true) (h : PGs X es (tHs Γ vs (gSeq gs))) (hn : (assignEach es X.env).length = gs.length := by rfl) (hst : (assignEach es X.env).findIdx? (·.1) = none := by rfl) :
    PG X (.Tuple es k pos) (tH Γ vs (gTp gs)) := by
  refine PG.of (pg_tup (n := gs.length) hc h hn hst) fun v σ H Q h => ?_
  obtain ⟨ι, ρ, M, d, S, rd, ρ', M', e, q⟩ := h
  unfold gTp at e
  split at e
  · cases rd with
    | tup hs rl =>
      refine ⟨_, _, rfl, by rw [hK]; exact hs, ?_, ι, ρ, M, _, S, rl, ρ', M', e, q⟩
      rw [← rl.length]; exact gSeq_len e
  · cases e
end

/-! ### something beside the memory stays -/
section
variable {Γ : Ga} {ι ι1 ι2 : Nat → Addr} {M M1 M2 : Mem} {H H1 H2 : Hp} {p : Addr} {o u : HO}
theorem by_at (x : Ext ι1 ι2 M1.sz M2.sz H1 H2) (h : H1 p = some o) (hn : ∀ n, n < M1.sz → ι1 n ≠ p) : H2 p = some o := x.keep p _ h fun n l e => hn n l e
theorem by_ne (x : Ext ι1 ι2 M1.sz M2.sz H1 H2) (h : H1 p = some o) (hn : ∀ n, n < M1.sz → ι1 n ≠ p) : ∀ n, n < M2.sz → ι2 n ≠ p := fun n l e => by
  by_cases h2 : n < M1.sz
  · rw [x.ag n h2] at e
    exact hn n h2 e
  · have z := x.new n (Nat.not_lt.mp h2) l
    rw [e, h] at z
    cases z
theorem by_put (x : Ext ι ι1 M.sz M1.sz H H1) (hp : H p = none) : Ext ι ι1 M.sz M1.sz H (upd H1 p u) :=
  ⟨x.le, x.ag, x.new, fun a w h hne => by rw [upd_ne (ne_of_none h hp)]; exact x.keep a w h hne⟩
theorem by_more (x : Ext ι ι1 M.sz M1.sz H H1) (hp : H p = none) : Ext ι (more ι1 M1.sz p) M.sz (M1.sz + 1) H H1 where
  le := Nat.le_succ_of_le x.le
  ag := fun n hn => (more_lt (Nat.lt_of_lt_of_le hn x.le)).trans (x.ag n hn)
  new := fun n h1 h2 => by
    by_cases h : n = M1.sz
    · rw [h, more_same]; exact hp
    · have lt : n < M1.sz := by omega
      rw [more_lt lt]
      exact x.new n h1 lt
  keep := x.keep
end

/-! ### [e for t in w if c] -/
/-- what a comprehension's block is derived in -/
abbrev Blk (X : Cx) (scope : Scope) (P : Cx → Prop) : Prop := ∀ (s : Shared) (H : Hp) (C : Addr) (cl : List (Str × Addr)) (fp : List Addr), P (X.blk s H scope (compEnvC scope cl C X.env) fp)
section
variable {Γ : Ga} {X : Cx} {tg iter elt : Expr} {ifs : List Expr} {scope : Scope} {own : List (Str × Nat)} {pos : Pos} {w : Wv} {g : Gv} {c : Bv} {m : Ev} {vs : List Nat}
theorem lc_go {J : It} {k : Wk} {ι : Nat → Addr} {M Me : Mem} {H : Hp} {ρ : Rho} {σ : St} {Q : VK} {ds : List D} (S : Sim Γ ι M H ρ σ) (ok : ItOk Γ J k ι M H) (e : lcL k.ok g c m k.items (wipeD ρ vs) M = some (ds, Me)) (hz : ds.length ≤ 100000)
    (q : ∀ v H' ι', Ext ι ι' M.sz (Me.sz + 1) H H' → RM Γ ι' (Me.new (.lst ds)) H' → R Γ ι' (Me.sz + 1) H' (.ref Me.sz) v → Q v H') (D0 : Addr) (hD : H D0 = none) :
    ∃ W : Nat → Nat → Hp → Prop, (∃ m, W 0 m (upd H D0 (.lst []))) ∧ ∀ i n H, W i n H →
      (J.stop i H ∧ Q (.ref D0) H) ∨ (J.go i H ∧ ∃ Nx : Hp → Prop, (∀ H', Nx H' → ∃ m', m' < n ∧ W (i + 1) m' H') ∧ ∀ x H', J.yld i H x H' → tH Γ vs g x (wipe σ vs) H' fun σ2 H2 => wipe σ2 vs = wipe σ vs ∧ tB Γ c σ2 H2 fun b H3 =>
        if b = true then tE Γ m σ2 H3 fun y H4 => ∃ acc, H4 D0 = some (.lst acc) ∧ acc.length < sizeLine ∧ Nx (upd H4 D0 (.lst (acc ++ [y]))) else Nx H3) := by
  let P : Nat → Hp → Prop := fun i H2 => i ≤ k.items.length ∧ ∃ ι2 M2 xs done rest, Ext ι ι2 M.sz M2.sz H H2 ∧ RM Γ ι2 M2 H2 ∧ H2 D0 = some (.lst xs) ∧ (∀ n, n < M2.sz → ι2 n ≠ D0) ∧ RL Γ ι2 M2.sz H2 done xs ∧ lcL k.ok g c m (k.items.drop i) (wipeD ρ vs) M2 = some (rest, Me) ∧ done ++ rest = ds
  have hbig : (100000 : Nat) < sizeLine := by decide
  refine ⟨fun i n H => n = k.items.length - i ∧ P i H, ⟨_, rfl, Nat.zero_le _, ι, M, [], [], ds, by_put (Ext.refl _ _ _) hD, S.m.junk hD, upd_same, S.m.fresh hD, .nil, e, rfl⟩, ?_⟩
  rintro i n H2 ⟨rfl, hi, ι2, M2, xs, done, rest, x2, r2, hat, hne, rl, e2, ed⟩
  by_cases hlt : i < k.items.length
  · rw [List.drop_eq_getElem_cons hlt, lcL] at e2
    split at e2
    · rename_i hok
      refine .inr ⟨ok.go ι2 M2 H2 i x2 r2 hok hlt, P (i + 1), fun H' p => ⟨k.items.length - (i + 1), by omega, rfl, p⟩, fun x H3 y => ?_⟩
      obtain ⟨d, hd, rd, x3, r3⟩ := ok.yld ι2 M2 H2 i x H3 x2 r2 hok hlt y
      have hd' : k.items[i] = d := by
        rw [List.getElem?_eq_getElem hlt] at hd
        exact Option.some.inj hd
      rw [hd'] at e2
      have x23 := x2.trans r2 x3
      have S3 : Sim Γ ι2 M2 H3 (wipeD ρ vs) (wipe σ vs) := ⟨r3, (S.s.wipe vs).ext S.m x23⟩
      split at e2
      · cases e2
      · rename_i ρ4 M4 e4
        refine ⟨ι2, _, M2, d, S3, rd, ρ4, M4, e4, fun σ4 H4 ι4 x4 S4 w4 => ⟨w4.trans ?_, ?_⟩⟩
        · exact wipe_twice
        · obtain ⟨t, M5, e5, e2⟩ := bnd_inv e2
          refine ⟨ι4, ρ4, M4, S4, t, M5, e5, fun H5 ι5 x5 r5 => ?_⟩
          have x35 := x3.trans r3 (x4.trans S4.m x5)
          have x25 := x2.trans r2 x35
          have at5 := by_at x35 hat hne
          have ne5 := by_ne x35 hat hne
          split at e2
          · rename_i ht
            dsimp only
            rw [if_pos ht]
            obtain ⟨v, M6, e6, e2⟩ := bnd_inv e2
            obtain ⟨vs', M7, e7, e2⟩ := bnd_inv e2
            cases e2
            refine ⟨ι5, ρ4, M5, S4.ext x5 r5, v, M6, e6, fun y H6 ι6 x6 r6 ry => ?_⟩
            have x36 := x35.trans r5 x6
            have x26 := x2.trans r2 x36
            have at6 := by_at x36 hat hne
            have ne6 := by_ne x36 hat hne
            have rl6 := rl.ext r2 x36
            have lo : Loose (H6 D0) := by rw [at6]; trivial
            have hl : xs.length < sizeLine := by
              have h1 := rl.length
              have h2 := congrArg List.length ed
              rw [List.length_append] at h2
              have h3 : done.length ≤ 100000 := by omega
              omega
            refine ⟨xs, at6, hl, hlt, ι6, M6, xs ++ [y], done ++ [v], vs', by_put x26 hD, r6.side ne6 lo, upd_same, ne6, ?_, e7, by rw [List.append_assoc]; exact ed⟩
            exact (rl6.upd lo).append (.cons (ry.upd lo) .nil)
          · rename_i ht
            dsimp only
            rw [if_neg ht]
            exact ⟨hlt, ι5, M5, xs, done, rest, x25, r5, at5, ne5, rl.ext r2 x35, e2, ed⟩
    · cases e2
  · have hn : k.items.length ≤ i := Nat.not_lt.mp hlt
    rw [List.drop_eq_nil_of_le hn, lcL] at e2
    split at e2
    · rename_i hok
      cases e2
      rw [List.append_nil] at ed
      subst ed
      refine .inl ⟨ok.stop ι2 _ H2 i x2 r2 hok hn, q _ H2 (more ι2 _ D0) (by_more x2 hD) ?_ ref_more⟩
      exact r2.adopt hne ⟨xs, hat, RL.mono (Nat.le_succ _) (fun n hn => more_lt hn) (fun a u z _ => z) _ _ rl⟩
    · cases e2

theorem ts_nil : PTs X [] (tB Γ xYes) := ⟨fun pins s σ H Q I h => pts_nil.run pins s σ H Q I (by
  obtain ⟨ι, ρ, M, S, b, M', e, q⟩ := h
  cases e
  exact q H ι (Ext.refl _ _ _) S.m)⟩
theorem ts_one {x : Expr} (h : PT X x (tB Γ c)) : PTs X [x] (tB Γ c) := pts_one h
theorem lc_end {ι : Nat → Addr} {M M' : Mem} {H : Hp} {ρ : Rho} {σ : St} {Q : VK} {d : D} {vs : List Nat} (S : Sim Γ ι M H ρ σ) (e : eLc w g c m vs ρ M = some (d, M')) (q : ∀ v H' ι', Ext ι ι' M.sz M'.sz H H' → RM Γ ι' M' H' → R Γ ι' M'.sz H' d v → Q v H') : tLc (iW Γ w) (tH Γ vs g) (tB Γ c) (tE Γ m) vs σ H Q := by
  obtain ⟨k, M1, e1, e⟩ := bnd_inv e
  obtain ⟨ds, M2, e2, e⟩ := bnd_inv e
  split at e
  · rename_i hz
    cases e
    refine ⟨ι, ρ, M, S, k, M1, e1, fun J H1 ι1 x1 r1 ok D0 hD => ?_⟩
    exact lc_go (S.ext x1 r1) ok e2 hz (fun v H' ι' x r rd => q v H' ι' (by rw [Mem.sz_new]; exact x1.trans r1 x) r (by rw [Mem.sz_new]; exact rd)) D0 hD
  · cases e
theorem p_lc (hc : X.calm = true) (hN : X.N.Nodup) (hi : PI X tg iter (iW Γ w)) (ok : BlkOk X.N X.env.scope scope own) (hg : Blk X scope fun Y => PG Y tg (tH Γ (own.map (·.2)) g)) (ht : Blk X scope fun Y => PTs Y ifs (tB Γ c)) (he : Blk X scope fun Y => PE Y elt (tE Γ m))
    (hs : ∀ x, foldedSetIterable iter X.env x = pure x := by intro _; rfl) : PE X (.ListComp elt [⟨tg, iter, ifs, 0⟩] scope pos) (tE Γ (eLc w g c m (own.map (·.2)))) := by
  refine PE.of (pe_lc hc hN hi ok hg ht he hs) fun σ H Q h => ?_
  obtain ⟨ι, ρ, M, S, d, M', e, q⟩ := h
  exact lc_end S e q
theorem s_lc {i : Nat} {y : Str} {py spos : Pos} (hc : X.calm = true) (hN : X.N.Nodup) (hi : PI X tg iter (iW Γ w)) (ok : BlkOk X.N X.env.scope scope own) (hg : Blk X scope fun Y => PG Y tg (tH Γ (own.map (·.2)) g)) (ht : Blk X scope fun Y => PTs Y ifs (tB Γ c)) (he : Blk X scope fun Y => PE Y elt (tE Γ m))
    (hsw : swapsWith (.ListComp elt [⟨tg, iter, ifs, 0⟩] scope pos) (some (.Name y py)) spos.line X.env = pure true) (hy : X.N[i]? = some y := by rfl) (hyl : X.env.scope.names.lookup y = some .local := by rfl)
    (hs : ∀ x, foldedSetIterable iter X.env x = pure x := by intro _; rfl) : PS X (.Assign [.Name y py] (.ListComp elt [⟨tg, iter, ifs, 0⟩] scope pos) spos) (tS Γ (sAsg (eLc w g c m (own.map (·.2))) (gNm i))) := by
  refine PS.of (ps_setLc hc hN hy hyl hsw hi ok hg ht he hs) fun E σ H h => ?_
  obtain ⟨ι, ρ, M, S, f, M', e, q⟩ := h
  unfold sAsg at e
  obtain ⟨d, M1, e1, e⟩ := bnd_inv e
  refine lc_end S e1 fun v H' ι' x r rd => ?_
  cases e
  exact q _ H' ι' x ⟨r, (S.s.ext S.m x).set i rd⟩
end

/-! ### {k: e for t in w if c} -/
section
variable {Γ : Ga} {X : Cx} {tg iter kx vx : Expr} {ifs : List Expr} {scope : Scope} {own : List (Str × Nat)} {pos : Pos} {w : Wv} {g : Gv} {c : Bv} {mk mv : Ev} {vs : List Nat}
theorem dc_go {J : It} {k : Wk} {ι : Nat → Addr} {M Me : Mem} {H : Hp} {ρ : Rho} {σ : St} {Q : VK} {ps : List (Key × D)} (S : Sim Γ ι M H ρ σ) (ok : ItOk Γ J k ι M H) (e : dcL k.ok g c mk mv (wipeD ρ vs) k.items [] M = some (ps, Me))
    (q : ∀ v H' ι', Ext ι ι' M.sz (Me.sz + 1) H H' → RM Γ ι' (Me.new (.dct ps)) H' → R Γ ι' (Me.sz + 1) H' (.ref Me.sz) v → Q v H') (D0 : Addr) (hD : H D0 = none) :
    ∃ W : Nat → Nat → Hp → Prop, (∃ m, W 0 m (upd H D0 (.dK []))) ∧ ∀ i n H, W i n H →
      (J.stop i H ∧ Q (.ref D0) H) ∨ (J.go i H ∧ ∃ Nx : Hp → Prop, (∀ H', Nx H' → ∃ m', m' < n ∧ W (i + 1) m' H') ∧ ∀ x H', J.yld i H x H' → tH Γ vs g x (wipe σ vs) H' fun σ2 H2 => wipe σ2 vs = wipe σ vs ∧ tB Γ c σ2 H2 fun b H3 =>
        if b = true then tE Γ mk σ2 H3 fun y H4 => tE Γ mv σ2 H4 fun z H5 => ∃ kvs k, y = kV k ∧ H5 D0 = some (.dK kvs) ∧ kvs.length < sizeLine ∧ Nx (upd H5 D0 (.dK (putK kvs k z))) else Nx H3) := by
  let P : Nat → Hp → Prop := fun i H2 => i ≤ k.items.length ∧ ∃ ι2 M2 xs acc, Ext ι ι2 M.sz M2.sz H H2 ∧ RM Γ ι2 M2 H2 ∧ H2 D0 = some (.dK xs) ∧ (∀ n, n < M2.sz → ι2 n ≠ D0) ∧ RK Γ ι2 M2.sz H2 acc xs ∧ dcL k.ok g c mk mv (wipeD ρ vs) (k.items.drop i) acc M2 = some (ps, Me)
  have hbig : (100000 : Nat) < sizeLine := by decide
  refine ⟨fun i n H => n = k.items.length - i ∧ P i H, ⟨_, rfl, Nat.zero_le _, ι, M, [], [], by_put (Ext.refl _ _ _) hD, S.m.junk hD, upd_same, S.m.fresh hD, .nil, e⟩, ?_⟩
  rintro i n H2 ⟨rfl, hi, ι2, M2, xs, acc, x2, r2, hat, hne, rl, e2⟩
  by_cases hlt : i < k.items.length
  · rw [List.drop_eq_getElem_cons hlt, dcL] at e2
    split at e2
    · rename_i hok
      obtain ⟨hok, hacc⟩ := hok
      refine .inr ⟨ok.go ι2 M2 H2 i x2 r2 hok hlt, P (i + 1), fun H' p => ⟨k.items.length - (i + 1), by omega, rfl, p⟩, fun x H3 y => ?_⟩
      obtain ⟨d, hd, rd, x3, r3⟩ := ok.yld ι2 M2 H2 i x H3 x2 r2 hok hlt y
      have hd' : k.items[i] = d := by
        rw [List.getElem?_eq_getElem hlt] at hd
        exact Option.some.inj hd
      rw [hd'] at e2
      have x23 := x2.trans r2 x3
      have S3 : Sim Γ ι2 M2 H3 (wipeD ρ vs) (wipe σ vs) := ⟨r3, (S.s.wipe vs).ext S.m x23⟩
      split at e2
      · cases e2
      · rename_i ρ4 M4 e4
        refine ⟨ι2, _, M2, d, S3, rd, ρ4, M4, e4, fun σ4 H4 ι4 x4 S4 w4 => ⟨w4.trans wipe_twice, ?_⟩⟩
        obtain ⟨t, M5, e5, e2⟩ := bnd_inv e2
        refine ⟨ι4, ρ4, M4, S4, t, M5, e5, fun H5 ι5 x5 r5 => ?_⟩
        have x35 := x3.trans r3 (x4.trans S4.m x5)
        have x25 := x2.trans r2 x35
        have at5 := by_at x35 hat hne
        have ne5 := by_ne x35 hat hne
        split at e2
        · rename_i ht
          dsimp only
          rw [if_pos ht]
          obtain ⟨u, M6, e6, e2⟩ := bnd_inv e2
          obtain ⟨v, M7, e7, e2⟩ := bnd_inv e2
          split at e2
          · rename_i key hkey
            have S5 := S4.ext x5 r5
            refine ⟨ι5, ρ4, M5, S5, u, M6, e6, fun y H6 ι6 x6 r6 ry => ⟨ι6, ρ4, M6, S5.ext x6 r6, v, M7, e7, fun z H7 ι7 x7 r7 rz => ?_⟩⟩
            have x37 := x35.trans r5 (x6.trans r6 x7)
            have x27 := x2.trans r2 x37
            have at7 := by_at x37 hat hne
            have ne7 := by_ne x37 hat hne
            have rl7 := rl.ext r2 x37
            have lo : Loose (H7 D0) := by rw [at7]; trivial
            have hl : xs.length < sizeLine := by
              have h1 := rl.length
              omega
            exact ⟨xs, key, keyD_ok ry hkey, at7, hl, hlt, ι7, M7, _, _, by_put x27 hD, r7.side ne7 lo, upd_same, ne7, putD_ok (rl7.upd lo) (rz.upd lo), e2⟩
          · cases e2
        · rename_i ht
          dsimp only
          rw [if_neg ht]
          exact ⟨hlt, ι5, M5, xs, acc, x25, r5, at5, ne5, rl.ext r2 x35, e2⟩
    · cases e2
  · have hn : k.items.length ≤ i := Nat.not_lt.mp hlt
    rw [List.drop_eq_nil_of_le hn, dcL] at e2
    split at e2
    · rename_i hok
      cases e2
      refine .inl ⟨ok.stop ι2 _ H2 i x2 r2 hok hn, q _ H2 (more ι2 _ D0) (by_more x2 hD) ?_ ref_more⟩
      exact r2.adopt hne ⟨xs, hat, RK.mono (Nat.le_succ _) (fun n hn => more_lt hn) (fun a u z _ => z) rl⟩
    · cases e2
theorem p_dc (hc : X.calm = true) (hN : X.N.Nodup) (hi : PI X tg iter (iW Γ w)) (ok : BlkOk X.N X.env.scope scope own) (hg : Blk X scope fun Y => PG Y tg (tH Γ (own.map (·.2)) g)) (ht : Blk X scope fun Y => PTs Y ifs (tB Γ c)) (hk : Blk X scope fun Y => PE Y kx (tE Γ mk)) (he : Blk X scope fun Y => PE Y vx (tE Γ mv))
    (hs : ∀ x, foldedSetIterable iter X.env x = pure x := by intro _; rfl) : PE X (.DictComp kx vx [⟨tg, iter, ifs, 0⟩] scope pos) (tE Γ (eDc w g c mk mv (own.map (·.2)))) := by
  refine PE.of (pe_dc hc hN hi ok hg ht hk he hs) fun σ H Q h => ?_
  obtain ⟨ι, ρ, M, S, d, M', e, q⟩ := h
  obtain ⟨k, M1, e1, e⟩ := bnd_inv e
  obtain ⟨ds, M2, e2, e⟩ := bnd_inv e
  cases e
  refine ⟨ι, ρ, M, S, k, M1, e1, fun J H1 ι1 x1 r1 ok D0 hD => ?_⟩
  exact dc_go (S.ext x1 r1) ok e2 (fun v H' ι' x r rd => q v H' ι' (by rw [Mem.sz_new]; exact x1.trans r1 x) r (by rw [Mem.sz_new]; exact rd)) D0 hD
theorem dc_end {ι : Nat → Addr} {M M' : Mem} {H : Hp} {ρ : Rho} {σ : St} {Q : VK} {d : D} {vs : List Nat} (S : Sim Γ ι M H ρ σ) (e : eDc w g c mk mv vs ρ M = some (d, M')) (q : ∀ v H' ι', Ext ι ι' M.sz M'.sz H H' → RM Γ ι' M' H' → R Γ ι' M'.sz H' d v → Q v H') : tDc (iW Γ w) (tH Γ vs g) (tB Γ c) (tE Γ mk) (tE Γ mv) vs σ H Q := by
  obtain ⟨k, M1, e1, e⟩ := bnd_inv e
  obtain ⟨ds, M2, e2, e⟩ := bnd_inv e
  cases e
  refine ⟨ι, ρ, M, S, k, M1, e1, fun J H1 ι1 x1 r1 ok D0 hD => ?_⟩
  exact dc_go (S.ext x1 r1) ok e2 (fun v H' ι' x r rd => q v H' ι' (by rw [Mem.sz_new]; exact x1.trans r1 x) r (by rw [Mem.sz_new]; exact rd)) D0 hD
theorem s_dc {i : Nat} {y : Str} {py spos : Pos} (hc : X.calm = true) (hN : X.N.Nodup) (hi : PI X tg iter (iW Γ w)) (ok : BlkOk X.N X.env.scope scope own) (hg : Blk X scope fun Y => PG Y tg (tH Γ (own.map (·.2)) g)) (ht : Blk X scope fun Y => PTs Y ifs (tB Γ c)) (hk : Blk X scope fun Y => PE Y kx (tE Γ mk)) (he : Blk X scope fun Y => PE Y vx (tE Γ mv))
    (hsw : swapsWith (.DictComp kx vx [⟨tg, iter, ifs, 0⟩] scope pos) (some (.Name y py)) spos.line X.env = pure true) (hy : X.N[i]? = some y := by rfl) (hyl : X.env.scope.names.lookup y = some .local := by rfl)
    (hs : ∀ x, foldedSetIterable iter X.env x = pure x := by intro _; rfl) : PS X (.Assign [.Name y py] (.DictComp kx vx [⟨tg, iter, ifs, 0⟩] scope pos) spos) (tS Γ (sAsg (eDc w g c mk mv (own.map (·.2))) (gNm i))) := by
  refine ⟨fun pins z σ H E I h => ?_⟩
  obtain ⟨ι, ρ, M, S, f, M', e, q⟩ := h
  unfold sAsg at e
  obtain ⟨d, M1, e1, e⟩ := bnd_inv e
  have hd : tDc (iW Γ w) (tH Γ (own.map (·.2)) g) (tB Γ c) (tE Γ mk) (tE Γ mv) (own.map (·.2)) σ H (fun x H1 => gName i x σ H1 E.nx) := dc_end S e1 fun v H' ι' x r rd => by
    cases e
    exact q _ H' ι' x ⟨r, (S.s.ext S.m x).set i rd⟩
  rw [exec_Assign_Name_used _ _ _ _ hsw]
  refine wpAny_bind (wpAny_standAt (wpAny_bind ?_))
  show wpAny _ X.A (do let _ ← comprehension (.DictComp kx vx [⟨tg, iter, ifs, 0⟩] scope pos) scope X.env (firstIterPos [⟨tg, iter, ifs, 0⟩] pos) newDict false (eval iter X.env) (some (assign (.Name y py) X.env))) _ _ z
  refine wpAny_bind (thn (dc_core (Qf := fun _ z' => SP X pins E .next z') hc hN I hi ok hg ht hk he hs hd fun L C z' m H' I' q' hn f => ?_) fun _ z' hq => wpAny_pure (wpAny_pure hq))
  show wpAny _ _ (assign (.Name y py) X.env (.ref L)) _ _ _
  refine wpAny_assign_Name (store_ok2 (v := V.ref L) I' hN hy (.inl hyl) rfl (fun z2 I2 ⟨a, sb, ha⟩ => ?_) (.inr hyl))
  obtain ⟨f0, f1, f2, f3, f4, f5⟩ := f
  have haC : C ≠ a := ha.elim (fun q => by rw [q]; exact f1) fun q e => f4 y a q e.symm
  refine ⟨m, hn.sameBut sb haC, fun h3 sb3 => ?_⟩
  exact ⟨_, H', I2.turned (t' := z2.toks) (fun b o hb e => (sb3.2 b hb).trans e) f0 f1 f3 f4 f5, q'⟩
end
end Nl

set_option autoImplicit false
/-! Nl, part J: methods of what is built in, isinstance, a, b = x, y. -/
namespace Nl
open PySem L2

/-! ### o.m(..), o of a built-in type -/
def isTy (T : String) (d : D) (M : Mem) : Bool := match d with
  | .str _ => T == "str"
  | .rol _ => T == "list"
  | .ref n => match M.get n with
    | some (.lst _) => T == "list"
    | some (.dct _) => T == "dict"
    | some (.dtt _) => T == "dict"
    | _ => false
  | _ => false
def eMt (T : String) (g : D → List D → Mem → Out D) (mo : Ev) (ms : List Ev) : Ev := fun ρ M => bnd (mo ρ M) fun d M1 => if isTy T d M1 = true then bnd (eArgs ms ρ M1) fun ds M2 => g d ds M2 else none
/-- a method's rule answers as its semantics does -/
structure MtD (Γ : Ga) (g : D → List D → Mem → Out D) (r : V → List V → Hp → VK → Prop) : Prop where
  ok : ∀ ι M H x xs d ds (Q : VK) e M', RM Γ ι M H → R Γ ι M.sz H d x → RL Γ ι M.sz H ds xs → g d ds M = some (e, M') → (∀ v H' ι', Ext ι ι' M.sz M'.sz H H' → RM Γ ι' M' H' → R Γ ι' M'.sz H' e v → Q v H') → r x xs H Q
section
variable {Γ : Ga} {X : Cx} {T id : String} {name : Str} {g : D → List D → Mem → Out D} {r : V → List V → Hp → VK → Prop} {mo : Ev} {ms : List Ev} {o e : Expr} {es : List Expr} {apos cpos pos : Pos}
theorem ty_ok {ι : Nat → Addr} {M : Mem} {H : Hp} {d : D} {x : V} (rm : RM Γ ι M H) (rd : R Γ ι M.sz H d x) (h : isTy T d M = true) : tyV Γ.K T x H := by
  unfold isTy at h
  split at h
  · cases rd; exact beq_iff_eq.mp h
  · cases rd with
    | rol hs => exact .inl ⟨beq_iff_eq.mp h, _, hs.sq⟩
  · cases rd
    split at h
    · rename_i q
      obtain ⟨vs, e, _⟩ := rm.ob _ _ q
      exact .inl ⟨beq_iff_eq.mp h, _, SqL.of e⟩
    · rename_i q
      obtain ⟨vs, e, _⟩ := rm.ob _ _ q
      exact .inr (.inr (.inl ⟨beq_iff_eq.mp h, .inl ⟨_, e⟩⟩))
    · rename_i q
      obtain ⟨vs, e, _⟩ := rm.ob _ _ q
      exact .inr (.inr (.inl ⟨beq_iff_eq.mp h, .inr ⟨_, e⟩⟩))
    · cases h
  · cases h
theorem p_mt0 (hK : X.K = Γ.K) (hd : MtD Γ g r) (hm : MtR X id r) (pa : PlainAttrs T) (slot : Slot T name id) (hty : typeOf (.builtin id) = pure (.type "method_descriptor")) (ho : PE X o (tE Γ mo))
    (hbase : attributeBase o name X.env (eval o X.env) = eval o X.env := by rfl) (hline : (apos.endLine == cpos.line) = true := by rfl) : PE X (.Call (.Attribute o name apos) [] [] cpos) (tE Γ (eMt T g mo [])) := by
  refine PE.of (pe_bm0 pa slot hty hm ho hbase hline) fun σ H Q h => ?_
  obtain ⟨ι, ρ, M, S, d, M', ed, q⟩ := h
  obtain ⟨d1, M1, e1, e2⟩ := bnd_inv ed
  split at e2
  · rename_i hT
    rw [eArgs_nil] at e2
    refine ⟨ι, ρ, M, S, d1, M1, e1, fun v H1 ι1 x1 r1 rd => ⟨by rw [hK]; exact ty_ok r1 rd hT, ?_⟩⟩
    exact hd.ok ι1 M1 H1 v [] d1 [] Q d M' r1 rd .nil e2 fun v2 H2 ι2 x2 r2 rd2 => q v2 H2 ι2 (x1.trans r1 x2) r2 rd2
  · cases e2
theorem p_mt (hK : X.K = Γ.K) (hd : MtD Γ g r) (hm : MtR X id r) (pa : PlainAttrs T) (slot : Slot T name id) (hty : typeOf (.builtin id) = pure (.type "method_descriptor")) (ho : PE X o (tE Γ mo)) (ha : PA X (e :: es) (tL Γ (eArgs ms)))
    (hbase : attributeBase o name X.env (eval o X.env) = eval o X.env := by rfl)
    (hfew : ((backTo cpos (starEach (e :: es) X.env)).all (fun x => !x.1) && (backToKw cpos (keywordEach [] X.env)).all (fun x => x.1.isSome)
      && decide ((e :: es).length + ([] : List Keyword).length + (if ([] : List Keyword).isEmpty then 0 else 1) < 30)) = true := by rfl)
    (hline : (apos.endLine == cpos.line) = true := by rfl) (hs : starEach (e :: es) X.env = (false, eval e X.env) :: starEach es X.env := by rfl) (hplain : (backTo cpos (starEach es X.env)).any (·.1) = false := by rfl) :
    PE X (.Call (.Attribute o name apos) (e :: es) [] cpos) (tE Γ (eMt T g mo ms)) := by
  refine PE.of (pe_bm pa slot hty hm ho ha hbase hfew hline hs hplain) fun σ H Q h => ?_
  obtain ⟨ι, ρ, M, S, d, M', ed, q⟩ := h
  obtain ⟨d1, M1, e1, e2⟩ := bnd_inv ed
  split at e2
  · rename_i hT
    obtain ⟨ds, M2, e3, e4⟩ := bnd_inv e2
    refine ⟨ι, ρ, M, S, d1, M1, e1, fun v H1 ι1 x1 r1 rd => ⟨by rw [hK]; exact ty_ok r1 rd hT, ι1, ρ, M1, S.ext x1 r1, ds, M2, e3, fun vs H2 ι2 x2 r2 rl => ?_⟩⟩
    exact hd.ok ι2 M2 H2 v vs d1 ds Q d M' r2 (rd.ext r1 x2) rl e4 fun v2 H3 ι3 x3 r3 rd2 => q v2 H3 ι3 ((x1.trans r1 x2).trans r2 x3) r3 rd2
  · cases e2
end

/-! ### lists -/
def gApp : D → List D → Mem → Out D
  | .ref n, [d], M => match M.get n with
    | some (.lst ds) => if ds.length < 1000000 then some (.non, M.put n (.lst (ds ++ [d]))) else none
    | _ => none
  | _, _, _ => none
def gExt : D → List D → Mem → Out D
  | .ref n, [.ref m], M => match M.get n, M.get m with
    | some (.lst ds), some (.lst es) => if ds.length + es.length < 1000000 then some (.non, M.put n (.lst (ds ++ es))) else none
    | _, _ => none
  | _, _, _ => none
def gPop : D → List D → Mem → Out D
  | .ref n, [], M => match M.get n with
    | some (.lst ds) => match ds[ds.length - 1]? with
      | some d => some (d, M.put n (.lst ds.dropLast))
      | none => none
    | _ => none
  | _, _, _ => none
def gPopAt : D → List D → Mem → Out D
  | .ref n, [.int i], M => match M.get n with
    | some (.lst ds) => if -(2 ^ 63) ≤ i ∧ i < 2 ^ 63 then match seqIndex? i ds.length with
      | some j => match ds[j]? with
        | some d => some (d, M.put n (.lst (ds.eraseIdx j)))
        | none => none
      | none => none
      else none
    | _ => none
  | _, _, _ => none
def gIns : D → List D → Mem → Out D
  | .ref n, [.int i, d], M => match M.get n with
    | some (.lst ds) => if (ds.length < 1000000 ∧ 0 ≤ i) ∧ i < 2 ^ 63 then some (.non, M.put n (.lst (ds.take i.toNat ++ [d] ++ ds.drop i.toNat))) else none
    | _ => none
  | _, _, _ => none
section
variable {Γ : Ga} {X : Cx} {ι : Nat → Addr} {N : Nat} {H : Hp}
theorem million : (1000000 : Nat) ≤ sizeLine := by decide
theorem RL.dropLast : ∀ {ds : List D} {vs : List V}, RL Γ ι N H ds vs → RL Γ ι N H ds.dropLast vs.dropLast
  | _, _, .nil => .nil
  | _, _, .cons r .nil => .nil
  | _, _, .cons r (.cons q t) => .cons r (RL.dropLast (.cons q t))
theorem RL.erase : ∀ {ds : List D} {vs : List V} (i : Nat), RL Γ ι N H ds vs → RL Γ ι N H (ds.eraseIdx i) (vs.eraseIdx i)
  | _, _, _, .nil => .nil
  | _, _, 0, .cons _ t => t
  | _, _, i + 1, .cons r t => .cons r (RL.erase i t)
/-- a list of the memory is written -/
theorem lst_put {M : Mem} {n : Nat} {ds es : List D} {us : List V} (rm : RM Γ ι M H) (g : M.get n = some (.lst ds)) (rl : RL Γ ι M.sz H es us) : Ext ι ι M.sz (M.put n (.lst es)).sz H (upd H (ι n) (.lst us)) ∧ RM Γ ι (M.put n (.lst es)) (upd H (ι n) (.lst us)) := by
  have hn := Mem.get_lt g
  refine ⟨by rw [Mem.sz_put]; exact Ext.put hn, rm.put hn ⟨us, upd_same, rl.upd (rm.loose hn)⟩⟩
theorem d_app : MtD Γ gApp rAppend := ⟨fun ι M H x xs d ds Q e M' rm rd rl h q => by
  unfold gApp at h
  split at h
  · split at h
    · rename_i n d _ as g
      split at h
      · rename_i hz
        cases h
        cases rd
        cases rl with
        | cons r1 t =>
          cases t
          obtain ⟨vs, e1, rv⟩ := rm.ob _ _ g
          obtain ⟨x2, r2⟩ := lst_put rm g (rv.append (.cons r1 .nil))
          refine ⟨_, vs, _, rfl, rfl, e1, by rw [← rv.length]; exact Nat.lt_of_lt_of_le hz million, q _ _ ι x2 r2 .non⟩
      · cases h
    · cases h
  · cases h⟩
theorem d_ext : MtD Γ gExt rExtend := ⟨fun ι M H x xs d ds Q e M' rm rd rl h q => by
  unfold gExt at h
  split at h
  · split at h
    · rename_i g1 g2
      split at h
      · rename_i hz
        cases h
        cases rd
        cases rl with
        | cons r1 t =>
          cases t
          cases r1
          obtain ⟨vs, e1, rv⟩ := rm.ob _ _ g1
          obtain ⟨us, e2, ru⟩ := rm.ob _ _ g2
          obtain ⟨x2, r2⟩ := lst_put rm g1 (rv.append ru)
          refine ⟨_, _, vs, us, rfl, rfl, e1, e2, by rw [← rv.length, ← ru.length]; exact Nat.le_of_lt (Nat.lt_of_lt_of_le hz million), q _ _ ι x2 r2 .non⟩
      · cases h
    · cases h
  · cases h⟩
theorem d_pop : MtD Γ gPop rPop := ⟨fun ι M H x xs d ds Q e M' rm rd rl h q => by
  unfold gPop at h
  split at h
  · split at h
    · rename_i g
      split at h
      · rename_i hd
        cases h
        cases rd
        cases rl
        obtain ⟨vs, e1, rv⟩ := rm.ob _ _ g
        obtain ⟨v, hv, r1⟩ := rv.get hd
        obtain ⟨x2, r2⟩ := lst_put rm g rv.dropLast
        exact ⟨_, vs, v, rfl, rfl, e1, by rw [← rv.length]; exact hv, q _ _ ι x2 r2 (by rw [Mem.sz_put]; exact r1.upd (rm.loose (Mem.get_lt g)))⟩
      · cases h
    · cases h
  · cases h⟩
theorem d_popAt : MtD Γ gPopAt rPopAt := ⟨fun ι M H x xs d ds Q e M' rm rd rl h q => by
  unfold gPopAt at h
  split at h
  · split at h
    · rename_i g
      split at h
      · rename_i hz
        split at h
        · rename_i hj
          split at h
          · rename_i hd
            cases h
            cases rd
            cases rl with
            | cons r1 t =>
              cases t
              cases r1
              obtain ⟨vs, e1, rv⟩ := rm.ob _ _ g
              obtain ⟨v, hv, r1⟩ := rv.get hd
              obtain ⟨x2, r2⟩ := lst_put rm g (rv.erase _)
              exact ⟨_, vs, _, _, v, rfl, rfl, e1, hz.1, hz.2, by rw [← rv.length]; exact hj, hv, q _ _ ι x2 r2 (by rw [Mem.sz_put]; exact r1.upd (rm.loose (Mem.get_lt g)))⟩
          · cases h
        · cases h
      · cases h
    · cases h
  · cases h⟩
abbrev rIns : V → List V → Hp → VK → Prop := fun x vs H Q => ∃ (l : Addr) (xs : List V) (i : Int) (y : V), x = .ref l ∧ vs = [.int i, y] ∧ H l = some (.lst xs) ∧ xs.length < sizeLine ∧ 0 ≤ i ∧ i < 2 ^ 63 ∧ Q .non (upd H l (.lst (xs.take i.toNat ++ [y] ++ xs.drop i.toNat)))
theorem d_ins : MtD Γ gIns rIns := ⟨fun ι M H x xs d ds Q e M' rm rd rl h q => by
  unfold gIns at h
  split at h
  · split at h
    · rename_i g
      split at h
      · rename_i hz
        cases h
        cases rd
        cases rl with
        | cons r0 t =>
          cases t with
          | cons r1 t =>
            cases t
            cases r0
            obtain ⟨vs, e1, rv⟩ := rm.ob _ _ g
            obtain ⟨x2, r2⟩ := lst_put rm g (((rv.take _).append (.cons r1 .nil)).append (rv.drop _))
            exact ⟨_, vs, _, _, rfl, rfl, e1, by rw [← rv.length]; exact Nat.lt_of_lt_of_le hz.1.1 million, hz.1.2, hz.2, q _ _ ι x2 r2 .non⟩
      · cases h
    · cases h
  · cases h⟩
end
section
variable {Γ : Ga} {X : Cx} {mo : Ev} {ms : List Ev} {o e : Expr} {es : List Expr} {apos cpos : Pos}
theorem m_app (hK : X.K = Γ.K) (ho : PE X o (tE Γ mo)) (ha : PA X [e] (tL Γ (eArgs ms))) (hbase : attributeBase o "append" X.env (eval o X.env) = eval o X.env := by rfl) (hline : (apos.endLine == cpos.line) = true := by rfl) (hs : starEach [e] X.env = (false, eval e X.env) :: starEach [] X.env := by rfl) :
    PE X (.Call (.Attribute o "append" apos) [e] [] cpos) (tE Γ (eMt "list" gApp mo ms)) := p_mt hK d_app mt_append PySem.F.plainAttrs_list PySem.F.slot_list_append PySem.F.type_list_append ho ha hbase (by rw [hs]; rfl) hline hs
theorem m_ext (hK : X.K = Γ.K) (ho : PE X o (tE Γ mo)) (ha : PA X [e] (tL Γ (eArgs ms))) (hbase : attributeBase o "extend" X.env (eval o X.env) = eval o X.env := by rfl) (hline : (apos.endLine == cpos.line) = true := by rfl) (hs : starEach [e] X.env = (false, eval e X.env) :: starEach [] X.env := by rfl) :
    PE X (.Call (.Attribute o "extend" apos) [e] [] cpos) (tE Γ (eMt "list" gExt mo ms)) := p_mt hK d_ext mt_extend PySem.F.plainAttrs_list PySem.F.slot_list_extend PySem.F.type_list_extend ho ha hbase (by rw [hs]; rfl) hline hs
theorem m_pop (hK : X.K = Γ.K) (ho : PE X o (tE Γ mo)) (hbase : attributeBase o "pop" X.env (eval o X.env) = eval o X.env := by rfl) (hline : (apos.endLine == cpos.line) = true := by rfl) :
    PE X (.Call (.Attribute o "pop" apos) [] [] cpos) (tE Γ (eMt "list" gPop mo [])) := p_mt0 hK d_pop mt_pop PySem.F.plainAttrs_list PySem.F.slot_list_pop PySem.F.type_list_pop ho hbase hline
theorem m_popAt (hK : X.K = Γ.K) (ho : PE X o (tE Γ mo)) (ha : PA X [e] (tL Γ (eArgs ms))) (hbase : attributeBase o "pop" X.env (eval o X.env) = eval o X.env := by rfl) (hline : (apos.endLine == cpos.line) = true := by rfl) (hs : starEach [e] X.env = (false, eval e X.env) :: starEach [] X.env := by rfl) :
    PE X (.Call (.Attribute o "pop" apos) [e] [] cpos) (tE Γ (eMt "list" gPopAt mo ms)) := p_mt hK d_popAt mt_popAt PySem.F.plainAttrs_list PySem.F.slot_list_pop PySem.F.type_list_pop ho ha hbase (by rw [hs]; rfl) hline hs
end

/-! ### texts -/
def strsOf (d : D) (M : Mem) : Option (List Str) := match d with
  | .tup ds => strsD ds
  | .ref n => match M.get n with
    | some (.lst ds) => strsD ds
    | _ => none
  | _ => none
def gJoin : D → List D → Mem → Out D
  | .str a, [d], M => match strsOf d M with
    | some ys => if (ys.map (·.length)).sum + ys.length * a.length ≤ 16777216 then some (.str (Txt.join a ys), M) else none
    | none => none
  | _, _, _ => none
abbrev rJoin (K : PySem.W.Frag) : V → List V → Hp → VK → Prop := fun x xs H Q => ∃ a p, ∃ ys : List Str, x = .str a ∧ xs = [.ref p] ∧ (SqL K H p (ys.map V.str) ∨ SqT K H p (ys.map V.str)) ∧ (ys.map (·.length)).sum + ys.length * a.length ≤ 16777216 ∧ Q (.str (Txt.join a ys)) H
section
variable {Γ : Ga} {X : Cx} {mo : Ev} {ms : List Ev} {o e : Expr} {es : List Expr} {apos cpos : Pos}
theorem strs_vs {ι : Nat → Addr} {N : Nat} {H : Hp} : ∀ {ds : List D} {vs : List V} {ys : List Str}, RL Γ ι N H ds vs → strsD ds = some ys → vs = ys.map V.str
  | [], _, _, h, e => by cases h; cases e; rfl
  | d :: ds, _, ys, h, e => by
    cases h with
    | cons r t =>
      cases r <;> simp only [strsD] at e <;> try cases e
      cases hs : strsD ds with
      | none => rw [hs] at e; cases e
      | some zs =>
        rw [hs] at e
        cases e
        rw [strs_vs t hs]
        rfl
theorem strs_of {ι : Nat → Addr} {M : Mem} {H : Hp} {d : D} {x : V} {ys : List Str} (rm : RM Γ ι M H) (rd : R Γ ι M.sz H d x) (h : strsOf d M = some ys) : ∃ p, x = .ref p ∧ (SqL Γ.K H p (ys.map V.str) ∨ SqT Γ.K H p (ys.map V.str)) := by
  unfold strsOf at h
  split at h
  · cases rd with
    | tup hs rl => exact ⟨_, rfl, .inr (by rw [← strs_vs rl h]; exact hs)⟩
  · split at h
    · rename_i g
      cases rd
      obtain ⟨vs, e, rl⟩ := rm.ob _ _ g
      exact ⟨_, rfl, .inl (by rw [← strs_vs rl h]; exact SqL.of e)⟩
    · cases h
  · cases h
theorem d_join : MtD Γ gJoin (rJoin Γ.K) := ⟨fun ι M H x xs d ds Q e M' rm rd rl h q => by
  unfold gJoin at h
  split at h
  · split at h
    · rename_i hs
      split at h
      · rename_i hz
        cases h
        cases rd
        cases rl with
        | cons r1 t =>
          cases t
          obtain ⟨p, rfl, hp⟩ := strs_of rm r1 hs
          exact ⟨_, p, _, rfl, rfl, hp, hz, q _ _ ι (Ext.refl _ _ _) rm (.str _)⟩
      · cases h
    · cases h
  · cases h⟩
theorem m_join (hK : X.K = Γ.K) (ho : PE X o (tE Γ mo)) (ha : PA X [e] (tL Γ (eArgs ms))) (hbase : attributeBase o "join" X.env (eval o X.env) = eval o X.env := by rfl) (hline : (apos.endLine == cpos.line) = true := by rfl) (hs : starEach [e] X.env = (false, eval e X.env) :: starEach [] X.env := by rfl) :
    PE X (.Call (.Attribute o "join" apos) [e] [] cpos) (tE Γ (eMt "str" gJoin mo ms)) := p_mt hK d_join (by rw [← hK]; exact mt_join) PySem.F.plainAttrs_str PySem.F.slot_str_join PySem.F.type_str_join ho ha hbase (by rw [hs]; rfl) hline hs
end

/-! ### isinstance(x, T), T built in -/
def tyN (d : D) (M : Mem) : Option String := match d with
  | .non => some "NoneType"
  | .bl _ => some "bool"
  | .int _ => some "int"
  | .str _ => some "str"
  | .tup _ => some "tuple"
  | .rol _ => some "list"
  | .ref n => match M.get n with
    | some (.lst _) => some "list"
    | some (.dct _) => some "dict"
    | some (.dtt _) => some "dict"
    | _ => none
  | _ => none
def gIsi : Bf
  | [d, .ty T], M => match tyN d M with
    | some n => match kitB n T with
      | some b => some (.bl b, M)
      | none => none
    | none => none
  | _, _ => none
section
variable {Γ : Ga} {X : Cx}
theorem tyn_ok {ι : Nat → Addr} {M : Mem} {H : Hp} {d : D} {x : V} {n : String} (rm : RM Γ ι M H) (rd : R Γ ι M.sz H d x) (h : tyN d M = some n) : TyX Γ.K H x (.type n) := by
  unfold tyN at h
  split at h
  · cases h; cases rd; exact .base .non
  · cases h; cases rd; exact .base (.bl _)
  · cases h; cases rd; exact .base (.int _)
  · cases h; cases rd; exact .base (.str _)
  · cases h
    cases rd with
    | tup hs rl =>
      rcases hs with (hs | ⟨o, hs⟩) | ⟨o, its, n, lk, hc, _⟩
      · exact .base (.tup hs)
      · exact .fTuple hs
      · exact .kTuple lk hc
  · cases h
    cases rd with
    | rol hs =>
      rcases hs with ⟨o, hs⟩ | ⟨o, its, n, lk, hc, _⟩
      · exact .base (.frz hs)
      · exact .kList lk hc
  · split at h
    · rename_i g
      cases h; cases rd
      obtain ⟨vs, e, _⟩ := rm.ob _ _ g
      exact .base (.lst e)
    · rename_i g
      cases h; cases rd
      obtain ⟨vs, e, _⟩ := rm.ob _ _ g
      exact .base (.dK e)
    · rename_i g
      cases h; cases rd
      obtain ⟨vs, e, _⟩ := rm.ob _ _ g
      exact .base (.dT e)
    · cases h
  · cases h
theorem b_isi (hK : X.K = Γ.K) : CallR X (.builtin "isinstance") (rB Γ gIsi) := by
  intro pins s σ H xs us Q I rv h
  obtain ⟨ι, M, ds, rm, rl, d, M', e, q⟩ := h
  unfold gIsi at e
  split at e
  · split at e
    · rename_i hn
      split at e
      · rename_i hb
        cases e
        obtain ⟨v1, v2, rfl, r1, r2⟩ := two_of rl
        cases r2
        exact call_isi pins s σ H _ us Q I rv ⟨_, _, _, _, _, rfl, .ty _, by rw [hK]; exact tyn_ok rm r1 hn, kit_ty hb, q _ H ι (Ext.refl _ _ _) rm (.bl _)⟩
      · cases e
    · cases e
  · cases e
theorem p_ty {x : Str} {n : String} {pos : Pos} (hm : X.mg x = none) (hv : bootBuiltins x = some (.type n)) (hg : Gl X x := by rfl) (hn : x ≠ "__name__" := by decide) (hd : (x == ("__debug__" : Str)) = false := by decide) : PE X (.Name x pos) (tE Γ (eCon (.ty n))) :=
  p_con (pe_bltn (v := .ty n) hg hm hv rfl hn hd) fun _ _ _ => .ty n
theorem kb_ss : kitB "str" "str" = some true := by decide +kernel
theorem kb_ts : kitB "tuple" "str" = some false := by decide +kernel
theorem kb_is : kitB "int" "str" = some false := by decide +kernel
theorem kb_ns : kitB "NoneType" "str" = some false := by decide +kernel
theorem kb_bs : kitB "bool" "str" = some false := by decide +kernel
theorem kb_ls : kitB "list" "str" = some false := by decide +kernel
theorem kb_ds : kitB "dict" "str" = some false := by decide +kernel
theorem kb_ii : kitB "int" "int" = some true := by decide +kernel
theorem kb_bi : kitB "bool" "int" = some true := by decide +kernel
theorem kb_si : kitB "str" "int" = some false := by decide +kernel
theorem kb_ti : kitB "tuple" "int" = some false := by decide +kernel
theorem kb_ni : kitB "NoneType" "int" = some false := by decide +kernel
theorem kb_bb : kitB "bool" "bool" = some true := by decide +kernel
theorem kb_ib : kitB "int" "bool" = some false := by decide +kernel
theorem kb_tt : kitB "tuple" "tuple" = some true := by decide +kernel
theorem kb_st : kitB "str" "tuple" = some false := by decide +kernel
theorem kb_it : kitB "int" "tuple" = some false := by decide +kernel
theorem kb_nt : kitB "NoneType" "tuple" = some false := by decide +kernel
end

/-! ### a, b = x, y with plain names: stored from the right -/
def sPar (i j : Nat) (ms : List Ev) : Sv := fun ρ M => bnd (eArgs ms ρ M) fun ds M1 => match ds with
  | [a, b] => some (.nx ((ρ.set i (some a)).set j (some b)), M1)
  | _ => none
section
variable {Γ : Ga} {X : Cx}
theorem s_par {i j : Nat} {x y : Str} {a b : Expr} {ms : List Ev} {px py pt pos : Pos} {kt k2 pt2} (hc : X.calm = true) (hN : X.N.Nodup) (ha : PA X [a, b] (tL Γ (eArgs ms))) (hw : swappedStores [.Tuple [.Name x px, .Name y py] kt pt] (.Tuple [a, b] k2 pt2) X.env = pure (some [x, y]))
    (hi : X.N[i]? = some x := by rfl) (hj : X.N[j]? = some y := by rfl) (hij : i ≠ j := by decide) (hx : X.env.scope.names.lookup x = some .local := by rfl) (hy : X.env.scope.names.lookup y = some .local := by rfl)
    (hs : swapsWithSole [.Tuple [.Name x px, .Name y py] kt pt] (.Tuple [a, b] k2 pt2) pos.line X.env = pure false := by rfl) :
    PS X (.Assign [.Tuple [.Name x px, .Name y py] kt pt] (.Tuple [a, b] k2 pt2) pos) (tS Γ (sPar i j ms)) := by
  refine PS.of (ps_par hc hN hi hj hij hx hy ha hw hs) fun E σ H h => ?_
  obtain ⟨ι, ρ, M, S, f, M', e, q⟩ := h
  obtain ⟨ds, M1, e1, e2⟩ := bnd_inv e
  refine ⟨ι, ρ, M, S, ds, M1, e1, fun vs H1 ι1 x1 r1 rl => ?_⟩
  split at e2
  · cases e2
    obtain ⟨v1, v2, rfl, ra, rb⟩ := two_of rl
    exact ⟨v1, v2, rfl, q _ H1 ι1 x1 ⟨r1, ((S.s.ext S.m x1).set i ra).set j rb⟩⟩
  · cases e2
end
end Nl

set_option autoImplicit false
/-! Nl, part K: defs, their promises, calls; the law's own call. -/
namespace Nl
open PySem L2

/-- a def's promise (asked where no __repr__ is under way) -/
structure FnG (Γ : Ga) (k : Nat) (f : Addr) (fd : FuncData) (ps : List Str) (g : Bf) : Prop where
  go : ∀ (B : Around) (ou : List Env) (z : Shared) (H : Hp) (ar : Args) (us : List Value) (vs : List V) (Q : VK) (E : XK), B.guards = some [] → Room k B → Env0 Γ.P Γ.w Γ.K Γ.mg Γ.base B ou z H → BindsTo z fd ar (ps.zip us) → Vals vs us → vs.length = ps.length →
    rB Γ g vs H Q → codeAny (model Γ.P Γ.w) B (.call (.ref f) ar) (CR CX0 ou Γ.P Γ.w H z Q E) z

/-- a body's context -/
structure Fit (Γ : Ga) (k : Nat) (X : Cx) : Prop where
  eP : X.prog = Γ.P
  eW : X.w = Γ.w
  eK : X.K = Γ.K
  eM : X.mg = Γ.mg
  eB : X.base = Γ.base
  rm : Room k X.A
  gu : X.A.guards = some []
  nd : X.N.Nodup
  calm : X.calm = true
theorem Fit.blk {Γ : Ga} {k : Nat} {X : Cx} (h : Fit Γ k X) {s : Shared} {H : Hp} {scope : Scope} {ce : Env} {fp : List Addr} : Fit Γ k (X.blk s H scope ce fp) := ⟨h.eP, h.eW, h.eK, h.eM, h.eB, h.rm, h.gu, h.nd, h.calm⟩
abbrev cx (Γ : Ga) (N : List Str) (qual : Str) (scope : Scope) (f : Addr) (cdv : Value) (A : Around) (outer : List Env) (s : Shared) (H : Hp) (E : XK) : Cx := (cxOf CX0 Γ.P Γ.w Γ.K Γ.mg Γ.base N qual scope f cdv A outer s H E).nox

/-- what a def computes, from its body's semantics -/
def bodyD (b : Sv) (n : Nat) : Bf := fun ds M => match b (ds.map some ++ List.replicate (n - ds.length) none) M with
  | some (.nx _, M') => some (.non, M')
  | some (.rt d, M') => some (d, M')
  | _ => none
theorem rs_start {Γ : Ga} {ι : Nat → Addr} {M : Nat} {H : Hp} {ds : List D} {vs : List V} {N : List Str} (r : RL Γ ι M H ds vs) : RS Γ ι M H (ds.map some ++ List.replicate (N.length - ds.length) none) (L2.start N vs) := by
  have hl := r.length
  unfold L2.start
  rw [← hl]
  refine ⟨by simp [hl], fun i d e => ?_⟩
  by_cases hi : i < ds.length
  · rw [List.getElem?_append_left (by simpa using hi), List.getElem?_map] at e
    cases hd : ds[i]? with
    | none => rw [hd] at e; cases e
    | some x =>
      rw [hd] at e
      cases e
      obtain ⟨v, hv, rv⟩ := r.get hd
      refine ⟨v, ?_, rv⟩
      rw [List.getElem?_append_left (by simpa [← hl] using hi), List.getElem?_map, hv]
      rfl
  · rw [List.getElem?_append_right (by simpa using hi), List.getElem?_replicate] at e
    split at e <;> cases e
theorem FnG.of {Γ : Ga} {k : Nat} {b : Sv} {x qual : Str} {params : Arguments} {body : List Stmt} {scope : Scope} {dvs : List V} {kws : List (Str × V)} {f : Addr} {fd : FuncData} {N ps : List Str} (F : FunD Γ.K x qual params body scope dvs kws f fd) (S : FnScope N ps scope)
    (hb : ∀ (cdv : Value) (A : Around) (outer : List Env) (s : Shared) (H : Hp) (E : XK), Fit Γ k (cx Γ N qual scope f cdv A outer s H E) → PSs (cx Γ N qual scope f cdv A outer s H E) body (tS Γ b)) : FnG Γ (k + 1) f fd ps (bodyD b N.length) := by
  obtain ⟨oc, od, dV, kV, doc, pm, an, cdv, ct, osl, rfl, lk, hcd, _, _⟩ := F.ex
  refine ⟨fun B ou z H ar us vs Q E hG hr e0 bt r hl hq => ?_⟩
  have KX : Γ.K.In z.heap := e0.mod.kin.keeps fun c o e => (e0.bs c o e).1
  have lim : z.heap.NoLimit := e0.mod.nolimit.keeps fun c o e => (e0.bs c o e).1
  have kinds : ∀ y ∈ ps.zip us, scope.names.lookup y.1 = some .local ∨ (scope.names.lookup y.1 = some .cell ∧ ((cellsFrom (z.heap.objs.size + 1) scope.names []).lookup y.1).isSome = true) := fun ⟨n, v⟩ hy => (S.par n (List.of_mem_zip hy).1).imp id fun q => ⟨q, PySem.W.cellsFrom_some _ _ _ (.inl q)⟩
  refine codeAny_call_function hr.depth (KX _ _ lk) rfl S.co S.gen rfl (PySem.W.codeRec_of KX hcd) (bt _ _ _ _ ?_)
  refine wpAny_newFunctionEnv_cells S.kind kinds fun en hen z1 x1 => ?_
  subst hen
  refine ⟨lim.keeps x1.toInCall.keep, codeAny_func ?_⟩
  have hr' := hr.deeper (PyProof.Rows.envOfC qual scope z.heap.objs.size f cdv)
  have fit : Fit Γ k (cx Γ N qual scope f cdv B ou z H E) := ⟨rfl, rfl, rfl, rfl, rfl, hr', hG, S.nd, rfl⟩
  have J : Inv (cxOf CX0 Γ.P Γ.w Γ.K Γ.mg Γ.base N qual scope f cdv B ou z H E) [] (L2.start N vs) H z1 := inv_start S hr.hd e0 hl r x1
  obtain ⟨ι, M, ds, rm, rl, d, M', ed, q⟩ := hq
  have sim : Sim Γ ι M H (ds.map some ++ List.replicate (N.length - ds.length) none) (L2.start N vs) := ⟨rm, rs_start rl⟩
  have fin : tS Γ b { nx := fun _ H' => Q .non H', rt := Q } (L2.start N vs) H := by
    unfold bodyD at ed
    split at ed
    · rename_i ρ' M2 e2
      cases ed
      exact ⟨ι, _, M, sim, _, _, e2, fun σ' H' ι' x S' => q .non H' ι' x S'.m .non⟩
    · rename_i d2 M2 e2
      cases ed
      exact ⟨ι, _, M, sim, _, _, e2, fun v H' ι' x r' rd => q v H' ι' x r' rd⟩
    · cases ed
  have ends : ∀ {τ : St} {H' : Hp} {v : V} {u : Value} {z' : Shared}, Inv (cxOf CX0 Γ.P Γ.w Γ.K Γ.mg Γ.base N qual scope f cdv B ou z H E) [] τ H' z' → RelV v u → Q v H' → CE ou Γ.P Γ.w H z Q u z' :=
    fun {τ H' v u z'} J' rv q' => ⟨v, H', J'.os, J'.bare, J'.base, J'.hok, rv, q'⟩
  refine wpAny_mono ((hb cdv B ou z H E fit).nox.run [] z1 (L2.start N vs) H _ J fin) (fun fl z' hs => ?_) fun _ _ he => he
  cases fl with
  | ret u =>
    obtain ⟨v, τ, H', J', rv, q'⟩ := hs
    exact ends J' rv q'
  | next =>
    obtain ⟨τ, H', J', q'⟩ := hs
    exact ends (v := V.non) (u := Value.none) J' rfl q'
  | brk => obtain ⟨_, _, _, q'⟩ := hs; exact False.elim q'
  | cont => obtain ⟨_, _, _, q'⟩ := hs; exact False.elim q'
/-- at level 0 nothing is promised -/
theorem FnG.zero {Γ : Ga} {k : Nat} {f : Addr} {fd : FuncData} {ps : List Str} : FnG Γ k f fd ps fun _ _ => none := ⟨fun _ _ _ _ _ _ _ _ _ _ _ _ _ _ _ hq => by
  obtain ⟨_, _, _, _, _, _, _, e, _⟩ := hq
  cases e⟩

/-! ### calls -/
section
variable {Γ : Ga} {X : Cx} {k n : Nat} {f : Addr} {fd : FuncData} {ps : List Str} {g : Bf} {ds : List Value} {dvs : List V} {dds : List D} {x : Str} {p pos : Pos} {e : Expr} {es : List Expr} {ms : List Ev}
theorem run_fnG {pins : List (Addr × Obj)} {σ : St} {H : Hp} {z : Shared} {Q : VK} {us : List Value} {vs : List V} (hX : Fit Γ k X) (F : FnG Γ k f fd ps g) (hb : Binds Γ.K fd ps ds) (hd : Vals dvs ds) (I : Inv X pins σ H z) (r : Vals vs us) (hl : (vs ++ dvs).length = ps.length) (h : rB Γ g (vs ++ dvs) H Q) :
    wpAny (model X.prog X.w) X.A (call (.ref f) us) (EP X pins σ Q) X.xe z := by
  have r2 : Vals (vs ++ dvs) (us ++ ds) := r.append hd
  have hl2 : (us ++ ds).length = ps.length := by rw [← r2.length]; exact hl
  have KI : Γ.K.In z.heap := by rw [← hX.eK]; exact I.kIn
  have e0 : Env0 Γ.P Γ.w Γ.K Γ.mg Γ.base X.A X.stack z H := by
    have := I.env0
    rw [hX.eP, hX.eW, hX.eK, hX.eM, hX.eB] at this
    exact this
  have go := F.go X.A X.stack z H ⟨us, []⟩ (us ++ ds) (vs ++ dvs) Q (fun _ _ _ => False) hX.gu hX.rm e0 (hb z us KI hl2) r2 hl h
  rw [← hX.eP, ← hX.eW] at go
  refine wpAny_call (codeAny_mono go fun res z' hq => ?_)
  cases res with
  | error _ => exact False.elim hq
  | ok fl =>
    cases fl with
    | ret _ => exact I.after hq
    | next => exact False.elim hq
    | brk => exact False.elim hq
    | cont => exact False.elim hq
/-- a def that is called by its name; dds: the defaults that fill up -/
structure CalG (Γ : Ga) (k : Nat) (x : Str) (n : Nat) (dds : List D) (g : Bf) : Prop where
  ex : ∃ (f : Addr) (fd : FuncData) (ps : List Str) (ds : List Value) (dvs : List V), FnG Γ k f fd ps g ∧ Γ.mg x = some (.ref f) ∧ PySem.W.keepIn Γ.K (.ref f) = true ∧ Binds Γ.K fd ps ds ∧ Vals dvs ds ∧ (∀ ι N H, RL Γ ι N H dds dvs) ∧ ps.length = n
def eCallD (g : Bf) (ms : List Ev) (dds : List D) : Ev := fun ρ M => bnd (eArgs ms ρ M) fun ds M1 => g (ds ++ dds) M1
theorem RL.cat {ι : Nat → Addr} {N : Nat} {H : Hp} : ∀ {as bs : List D} {xs ys : List V}, RL Γ ι N H as xs → RL Γ ι N H bs ys → RL Γ ι N H (as ++ bs) (xs ++ ys)
  | _, _, _, _, .nil, h => h
  | _, _, _, _, .cons r t, h => .cons r (t.cat h)
theorem p_call (hX : Fit Γ k X) (c : CalG Γ k x n dds g) (ha : PA X (e :: es) (tL Γ (eArgs ms))) (hn : ms.length + dds.length = n := by rfl) (hg : Gl X x := by rfl)
    (hdb : (x == ("__debug__" : Str)) = false := by decide) (he : starEach (e :: es) X.env = (false, eval e X.env) :: starEach es X.env := by rfl) (hpl : (backTo pos (starEach es X.env)).any (·.1) = false := by rfl) :
    PE X (.Call (.Name x p) (e :: es) [] pos) (tE Γ (eCallD g ms dds)) := by
  obtain ⟨f, fd, ps, ds, dvs, F, hm, hk, hb, hd, hR, hps⟩ := c.ex
  refine ⟨fun pins z σ H Q I h => ?_⟩
  obtain ⟨ι, ρ, M, S, d, M', ed, q⟩ := h
  obtain ⟨as, M1, e1, e2⟩ := bnd_inv ed
  refine wpAny_Call_Name_kw (ld_glob I hg (by rw [hX.eM]; exact hm) ?_ hdb)
  refine PySem.W.callWith_K (h₀ := X.base) I.ok.mod.kin (by rw [hX.eK]; exact hk) (thn (ha.run pos pins z σ H (fun vs H2 => (vs ++ dvs).length = ps.length ∧ rB Γ g (vs ++ dvs) H2 Q) I ⟨ι, ρ, M, S, as, M1, e1, fun vs H1 ι1 x1 r1 rl => ⟨?_, ι1, M1, as ++ dds, r1, rl.cat (hR _ _ _), d, M', e2, fun v H2 ι2 x2 r2 rd => q v H2 ι2 (x1.trans r1 x2) r2 rd⟩⟩) fun us z1 hz => ?_) he hpl
  · rw [List.length_append, ← rl.length, ← (hR ι 0 H).length, eArgs_len e1, hps, hn]
  · obtain ⟨vs, H2, I2, r, hl, hq⟩ := hz
    exact ⟨I2.kIn, run_fnG hX F hb hd I2 r hl hq⟩
theorem p_call0 (hX : Fit Γ k X) (c : CalG Γ k x n dds g) (hn : dds.length = n := by rfl) (hg : Gl X x := by rfl) (hdb : (x == ("__debug__" : Str)) = false := by decide) : PE X (.Call (.Name x p) [] [] pos) (tE Γ (eCallD g [] dds)) := by
  obtain ⟨f, fd, ps, ds, dvs, F, hm, hk, hb, hd, hR, hps⟩ := c.ex
  refine ⟨fun pins z σ H Q I h => ?_⟩
  obtain ⟨ι, ρ, M, S, d, M', ed, q⟩ := h
  refine wpAny_Call_Name_kw (ld_glob I hg (by rw [hX.eM]; exact hm) ?_ hdb)
  refine PySem.W.callWith_K0 I.kIn (by rw [hX.eK]; exact hk) (run_fnG (us := []) (vs := []) hX F hb hd I .nil ?_ ⟨ι, M, dds, S.m, hR _ _ _, d, M', ed, q⟩)
  rw [List.nil_append, ← (hR ι 0 H).length, hn, hps]
end

/-! ### the law's own call -/
theorem vals_of : ∀ {us : List Value} {ns : List Int}, PyProof.Rows.IntsAre us ns → Vals (ns.map V.int) us
  | _, _, .nil => .nil
  | _, _, .cons _ t h => .cons ⟨t, rfl⟩ (vals_of h)
theorem law_go {l : PySem.W.OpenLaw} {w : World} {K : PySem.W.Frag} {mg mb : Str → Option Value} {k : Nat} {fa a : Addr} {fd : FuncData} {x : Str} {sh : Shared} {us : List Value} {ns : List Int} {g : Bf} {cf cc : Nat → Addr}
    (KX : K.In sh.heap) (hns : sh.heap.Ns mainGlobals mg) (hb : sh.heap.Ns builtinsNs mb) (hbb : ∀ x : Str, x ≠ "__name__" → mb x = bootBuiltins x) (hlim : sh.heap.NoLimit) (hge : sh.gens = #[])
    (ha : sh.heap.get? a = some { cls := .type "list", data := .seq us.toArray }) (hi : PyProof.Rows.IntsAre us ns) (hl : ns.length ≤ sizeLine) (hr : Room k callerA)
    (F : ∀ base : Heap, K.In base → base.Ns mainGlobals mg → FnG ⟨l.prog, w, K, mg, base, cf, cc⟩ k fa fd [x] g) (hbd : ∀ (s : Shared) (u : Value), BindsTo s fd ⟨[u], []⟩ [(x, u)])
    (pl : ∃ M', g [.rol ns] ⟨#[]⟩ = some (.bl true, M')) :
    codeAny (model l.prog w) callerA (.call (.ref fa) ⟨[.ref a], []⟩) (fun r s' => r = .ok (.ret (.bool true)) ∧ OldK sh.heap s'.heap ∧ s'.os = sh.os ∧ PyProof.Rows.AllBare s'.gens) sh := by
  have rv := vals_of hi
  have lenV := hi.length
  have core : ∀ H : Hp, RoL K H a (ns.map V.int) → HOk l.prog w H sh.heap → (∀ b, H b ≠ none → b = a) → (H a ≠ none → K.lookup a = none ∧ ∃ o xs, H a = some (.frz o (.lst xs))) →
      codeAny (model l.prog w) callerA (.call (.ref fa) ⟨[.ref a], []⟩) (fun r s' => r = .ok (.ret (.bool true)) ∧ OldK sh.heap s'.heap ∧ s'.os = sh.os ∧ PyProof.Rows.AllBare s'.gens) sh := by
    intro H hS hok hA hK
    have one : ∀ {b : Addr}, H b = none ∨ b = a := fun {b} => by
      cases q : H b with
      | none => exact .inl rfl
      | some u => exact .inr (hA b (by rw [q]; simp))
    have noD : ∀ {b : Addr} {o : Obj} {es : Array DictEntry} {ep : Nat}, sh.heap.get? b = some o → o.data = .dict es ep → H b = none := fun {b o es ep} e d => by
      rcases one (b := b) with q | q
      · exact q
      · subst q
        rw [ha] at e
        cases e
        exact nomatch (show Data.seq us.toArray _ = Data.dict es ep from d)
    have keepN : ∀ {b : Addr} {m : Str → Option Value}, sh.heap.Ns b m → (hidT sh.heap H).Ns b m := fun {b m} ⟨o, es, ep, e, d, r⟩ => ⟨o, es, ep, hidT_get e (noD e d), d, r⟩
    have hKb : K.In (hidT sh.heap H) := fun b o e => hidT_get (KX b o e) (by
      cases q : H b with
      | none => rfl
      | some u =>
        obtain rfl := hA b (by rw [q]; simp)
        rw [(hK (by rw [q]; simp)).1] at e
        cases e)
    have hM : Mod K mg (hidT sh.heap H) := ⟨hKb, keepN hns, ⟨mb, keepN hb, hbb⟩, let ⟨mc, h1, h2⟩ := hlim; ⟨mc, keepN h1, h2⟩⟩
    have e0 : Env0 l.prog w K mg (hidT sh.heap H) callerA [] sh H := ⟨rfl, hM, fun b o e => of_hidT e, Nat.le_of_eq (hidT_size _ _), trivial, fun b hb => (nomatch (show b ∈ ([] : List Addr) from hb)), hok, .of_eq hge⟩
    obtain ⟨M', em⟩ := pl
    have hq : rB ⟨l.prog, w, K, mg, hidT sh.heap H, cf, cc⟩ g [.ref a] H (fun v _ => v = .bl true) :=
      ⟨fun _ => 0, ⟨#[]⟩, [.rol ns], ⟨fun n o e => absurd (Mem.get_lt e) (Nat.not_lt_zero n), fun m n hm => absurd hm (Nat.not_lt_zero m)⟩, .cons (.rol hS) .nil, _, _, em, fun v H' ι' x r rd => by cases rd; rfl⟩
    refine codeAny_mono ((F _ hKb (keepN hns)).go callerA [] sh H ⟨[.ref a], []⟩ [.ref a] [.ref a] _ (fun _ _ _ => False) (by rfl) hr e0 (hbd sh (.ref a)) (.cons rfl .nil) rfl hq) fun r s' h => ?_
    cases r with
    | error e => exact False.elim h
    | ok fl =>
      cases fl with
      | next => exact False.elim h
      | brk => exact False.elim h
      | cont => exact False.elim h
      | ret u =>
        obtain ⟨v, H', os, bare, un, hok', r', q⟩ := h
        obtain rfl : v = .bl true := q
        obtain rfl : u = Value.bool true := r'
        refine ⟨rfl, OldK.of_keep fun b o e => ?_, os, bare⟩
        cases q : H b with
        | none => exact un.keep b o e q (by intro z; exact (nomatch (show b ∈ ([] : List Addr) from z))) (by simp)
        | some u =>
          obtain rfl := hA b (by rw [q]; simp)
          obtain ⟨_, ob, xs, hz⟩ := hK (by rw [q]; simp)
          have z2 := un.frzs _ ob _ hz
          obtain ⟨e1, _⟩ := hok _ _ hz
          obtain ⟨e2, _⟩ := hok' _ _ z2
          rw [e] at e1
          cases e1
          exact e2
  cases hk : K.lookup a with
  | some o =>
    have e := KX a o hk
    rw [ha] at e
    cases e
    exact core (fun _ => none) (.inr ⟨_, us.toArray, _, hk, rfl, rfl, rfl, by rw [List.size_toArray, lenV]; exact hl, by simpa using rv⟩) (fun b u z => (nomatch (show (none : Option HO) = some u from z))) (fun b z => absurd rfl z) fun z => absurd rfl z
  | none =>
    refine core (fun b => if b = a then some (.frz { cls := .type "list", data := .seq us.toArray } (.lst (ns.map V.int))) else none) (.inl ⟨{ cls := .type "list", data := .seq us.toArray }, if_pos rfl⟩) (fun b u z => ?_) (fun b z => ?_) fun _ => ⟨hk, _, _, if_pos rfl⟩
    · by_cases hb : b = a
      · cases (if_pos hb).symm.trans z
        subst hb
        exact ⟨ha, by rw [List.length_map]; exact hl, us, _, rv, ha⟩
      · cases (if_neg hb).symm.trans z
    · by_cases hb : b = a
      · exact hb
      · exact absurd (if_neg hb) z
/-- THE HEAD's goal behind k_fill -/
theorem walk_go {l : PySem.W.OpenLaw} {n k : Nat} {q : Program} {loose : List Str} {XP : (Str → Option Value) → Heap → Prop} {YP : World → Heap → Prop} {d : DefRec} {K : Params → PySem.W.Frag} {x : Str} {g : Bf}
    (hn : l.most = some n) (hn2 : n ≤ sizeLine) (hdf : d.params.defaults = []) (hr : Room k callerA) (hY : ∀ (w : World) (h : Heap), YP w h → (K w.params).In h)
    (F : ∀ (w : World) (mg : Str → Option Value) (fa : Addr) (h : Heap), (K w.params).In h → h.Ns mainGlobals mg → mg d.name = some (.ref fa) →
      ∃ fd : FuncData, (∀ (s : Shared) (u : Value), BindsTo s fd ⟨[u], []⟩ [(x, u)]) ∧ ∃ cf cc : Nat → Addr, ∀ base : Heap, (K w.params).In base → base.Ns mainGlobals mg → FnG ⟨l.prog, w, K w.params, mg, base, cf, cc⟩ k fa fd [x] g)
    (pl : ∀ ns : List Int, ns.length ≤ n → ∃ M', g [.rol ns] ⟨#[]⟩ = some (.bl true, M')) :
    PySem.W.WalkO q loose XP YP l.row.toRowW d [] (fun f vs => PySem.call f vs) := by
  refine Att.attach_call hn hdf fun w s₀ sh mg mb fa o pm cd doc a us ns G Y ho hd hcd hmg hobj hints hlen hg => ?_
  have KX := hY w _ Y
  obtain ⟨fd, hb, cf, cc, hF⟩ := F w mg fa _ KX G.T.g hmg
  exact law_go KX G.T.g G.T.b G.T.builtins G.T.nolimit hg hobj hints (Nat.le_trans hlen hn2) hr hF hb (pl ns hlen)
end Nl

set_option autoImplicit false
/-! Nl, part L: short words for what a program prints. -/
namespace Nl
open PySem L2
section
variable {Γ : Ga} {k : Nat} {X : Cx}
theorem Fit.u (h : Fit Γ k X) : X.A.units + 100 < cLine := by have := h.rm.un; omega
theorem Fit.u1 (h : Fit Γ k X) : X.A.units + 1 < cLine := by have := h.u; omega
theorem Fit.u64 (h : Fit Γ k X) : X.A.units + 64 < cLine := by have := h.u; omega
theorem Fit.u70 (h : Fit Γ k X) : X.A.units + 70 < cLine := by have := h.u; omega
end
theorem sw_trueD {kx vx : Expr} {gs : List Comprehension} {scope : Scope} {pos py : Pos} {y : Str} {l : Nat} {env : Env} (hk : env.scope.kind = .function) (hy : env.scope.names.lookup y = some .local) (hl : (py.line == pos.line) = true)
    (ha : (scope.names.any fun (n, k) => n == y && (k == .local || k == .cell)) = false) : swapsWith (.DictComp kx vx gs scope pos) (some (.Name y py)) l env = pure true := by
  have kz : env.kindOf y = some .local := hy
  have hz : env.blockKind = .function := by unfold Env.blockKind; rw [hk]; rfl
  unfold swapsWith
  simp only [hz, kz, ha, Expr.pos, hl]
  rfl
theorem bo_len : bootBuiltins "len" = some (.builtin "len") := by decide +kernel
theorem bo_abs : bootBuiltins "abs" = some (.builtin "abs") := by decide +kernel
theorem bo_max : bootBuiltins "max" = some (.builtin "max") := by decide +kernel
theorem bo_min : bootBuiltins "min" = some (.builtin "min") := by decide +kernel
theorem bo_all : bootBuiltins "all" = some (.builtin "all") := by decide +kernel
theorem bo_any : bootBuiltins "any" = some (.builtin "any") := by decide +kernel
theorem bo_sum : bootBuiltins "sum" = some (.builtin "sum") := by decide +kernel
theorem bo_repr : bootBuiltins "repr" = some (.builtin "repr") := by decide +kernel
theorem bo_sorted : bootBuiltins "sorted" = some (.builtin "sorted") := by decide +kernel
theorem bo_isinstance : bootBuiltins "isinstance" = some (.builtin "isinstance") := by decide +kernel
theorem bo_tuple : bootBuiltins "tuple" = some (.type "tuple") := by decide +kernel
theorem bo_list : bootBuiltins "list" = some (.type "list") := by decide +kernel
theorem bo_int : bootBuiltins "int" = some (.type "int") := by decide +kernel
theorem bo_str : bootBuiltins "str" = some (.type "str") := by decide +kernel
theorem bo_bool : bootBuiltins "bool" = some (.type "bool") := by decide +kernel
theorem bo_dict : bootBuiltins "dict" = some (.type "dict") := by decide +kernel

/-- a def of the text, behind the top -/
structure DefAt (Γ : Ga) (x : Str) (st : Stmt) (dvs : List V) (kws : List (Str × V)) (f : Addr) (fd : FuncData) : Prop where
  fn : FunD Γ.K x x (defArgs st) (defBody st) (defScope st) dvs kws f fd
  mgf : Γ.mg x = some (.ref f)
section
variable {Γ : Ga} {k : Nat} {x : Str} {st : Stmt} {f : Addr} {fd : FuncData} {ps : List Str} {g : Bf} {dvs : List V} {kws : List (Str × V)}
theorem CalG.plain (d : DefAt Γ x st [] kws f fd) (F : FnG Γ k f fd ps g)
    (h : ∀ (kV doc pm : Value) (an : Option Addr) (cdv ct : Value) (us : List Value), us.length = ps.length → bindArgs (PySem.W.fnOf x x (defArgs st) (defBody st) (defScope st) .none kV doc pm an cdv ct) ⟨us, []⟩ = pure (ps.zip us)) : CalG Γ k x ps.length [] g :=
  ⟨f, fd, ps, [], [], F, d.mgf, d.fn.kp, d.fn.bindsN h, .nil, fun _ _ _ => .nil, rfl⟩
theorem CalG.dflt (d : DefAt Γ x st dvs kws f fd) (F : FnG Γ k f fd ps g) (n j : Nat) (dds : List D) (hR : ∀ ι N H, RL Γ ι N H dds (dvs.drop j)) (hd : dvs ≠ []) (hn : n + (dvs.length - j) = ps.length)
    (h : ∀ (T : Addr) (kV doc pm : Value) (an : Option Addr) (cdv ct : Value) (us its : List Value), us.length = n → its.length = dvs.length →
      ∃ k, bindArgs (PySem.W.fnOf x x (defArgs st) (defBody st) (defScope st) (.ref T) kV doc pm an cdv ct) ⟨us, []⟩ = seqItems? (.ref T) >>= k ∧ k (some its.toArray) = pure (ps.zip (us ++ its.drop j))) : CalG Γ k x ps.length dds g := by
  obtain ⟨ds, rv, hb⟩ := d.fn.binds1 n j hd hn h
  exact ⟨f, fd, ps, ds, dvs.drop j, F, d.mgf, d.fn.kp, hb, rv, hR, rfl⟩
end
/-- facts of K, as k_is finds them -/
theorem def_mk {Γ : Ga} {h : Heap} {x : Str} {st : Stmt} {f : Addr} {oc : Value} {od an : Option Addr} {osl : Array (Option Value)} {kV doc pm cdv ct : Value} (X : Γ.K.In h) (G : h.Ns mainGlobals Γ.mg) (a : PySem.W.nsIn Γ.K mainGlobals x = some (some (.ref f)))
    (l : Γ.K.lookup f = some ⟨oc, od, .func (PySem.W.fnOf x x (defArgs st) (defBody st) (defScope st) .none kV doc pm an cdv ct), osl⟩) (c : PySem.W.codeIn Γ.K cdv x = true) (kp : PySem.W.keepIn Γ.K (.ref f) = true) :
    DefAt Γ x st [] [] f (PySem.W.fnOf x x (defArgs st) (defBody st) (defScope st) .none kV doc pm an cdv ct) :=
  ⟨⟨⟨oc, od, .none, kV, doc, pm, an, cdv, ct, osl, rfl, l, c, .inl ⟨rfl, rfl⟩, .inl rfl⟩, kp⟩, PySem.W.mg_of X G a⟩
theorem def_mkD {Γ : Ga} {h : Heap} {x : Str} {st : Stmt} {f T : Addr} {oc oT : Value} {od an dT : Option Addr} {osl sT : Array (Option Value)} {kV doc pm cdv ct : Value} {dvs : List V} {its : List Value} {n : Nat} (X : Γ.K.In h) (G : h.Ns mainGlobals Γ.mg) (a : PySem.W.nsIn Γ.K mainGlobals x = some (some (.ref f)))
    (l : Γ.K.lookup f = some ⟨oc, od, .func (PySem.W.fnOf x x (defArgs st) (defBody st) (defScope st) (.ref T) kV doc pm an cdv ct), osl⟩) (c : PySem.W.codeIn Γ.K cdv x = true) (kp : PySem.W.keepIn Γ.K (.ref f) = true)
    (t : Γ.K.lookup T = some ⟨oT, dT, .seq its.toArray n, sT⟩) (rv : Vals dvs its) (hne : dvs ≠ []) :
    DefAt Γ x st dvs [] f (PySem.W.fnOf x x (defArgs st) (defBody st) (defScope st) (.ref T) kV doc pm an cdv ct) :=
  ⟨⟨⟨oc, od, .ref T, kV, doc, pm, an, cdv, ct, osl, rfl, l, c, .inr ⟨hne, T, _, its, n, rfl, t, rfl, rv⟩, .inl rfl⟩, kp⟩, PySem.W.mg_of X G a⟩
end Nl

set_option autoImplicit false
/-! Nl, part M: starred targets, is True, constants of a module, dicts of a module, a def that a local holds. -/
namespace Nl
open PySem L2

/-! ### x, *xs = a tuple -/
/-- a walk that begins later -/
theorem walk_late {prog : Program} {w : World} {A : Around} {I : Addr} {fp wr : List Addr} {n : Nat} {P : Nat → Value → Prop} {St : Nat → Heap → Prop} (W : Walks prog w A I fp wr n P St) (j : Nat) (hj : j ≤ n) : Walks prog w A I fp wr (n - j) (fun i => P (i + j)) (fun i => St (i + j)) where
  sub := W.sub
  frame := fun i h h' st hk => W.frame (i + j) h h' st hk
  item := fun i s Q E hi st hQ => W.item (i + j) s Q E (by omega) st fun v h' tk hP st' hk => hQ v h' tk hP (by rw [Nat.add_right_comm]; exact st') hk
  done := fun s Q E st hQ => W.done s Q E (by rw [Nat.sub_add_cancel hj] at st; exact st) hQ
  self := fun i s Q E st hQ => W.self (i + j) s Q E st hQ
section
open PyProof.Rows
variable {prog : Program} {w : World} {A : Around} {E : Value → Shared → Prop} {s : Shared}
/-- first, *rest -/
theorem unpack_star {t : Addr} {x : Value} {xs : List Value} {Q : List Value → Shared → Prop} (hh : A.handled = none) (ht : IsTup s.heap t (x :: xs).toArray) (hz : xs.length ≤ sizeLine)
    (hQ : ∀ (h' : Heap) (tk : Nat), s.toks ≤ tk → (∀ b o, s.heap.get? b = some o → h'.get? b = some o) → Q [x, .ref h'.objs.size] { s with heap := h'.push { cls := .type "list", data := .seq xs.toArray }, toks := tk }) :
    wpAny (model prog w) A (unpackItems (.ref t) 2 (some 1)) Q E s := by
  have hlt : t ≠ s.heap.objs.size := by obtain ⟨o, ho, _⟩ := ht; exact Nat.ne_of_lt (Heap.lt_size ho)
  unfold unpackItems
  refine wpAny_bind ?_
  unfold notIterableAtAll
  refine wpAny_bind (wpAny_specialOf ht.typeIs slot_tuple_iter.lookup ?_)
  refine wpAny_pure ?_
  simp only [Bool.false_eq_true, if_false]
  refine wpAny_bind (wpAny_holding (iter_tuple ht ?_))
  generalize hit : s.heap.objs.size = it at *
  generalize hh0 : s.heap.push { cls := .type "tuple_iterator", data := .fields #[.ref t, .int 0 0] } = h0
  have i0 : IsTupIter h0 it t 0 := by rw [← hh0, ← hit]; exact ⟨_, Heap.get?_push_size _ rfl, rfl, rfl⟩
  have t0 : IsTup h0 t (x :: xs).toArray := by rw [← hh0]; exact ht.push _
  have k0 : ∀ b o, s.heap.get? b = some o → h0.get? b = some o := fun b o e => by rw [← hh0]; exact Heap.get?_push_of_some _ e
  refine wpAny_bind (wpAny_holding (draw_tuple hlt 1 0 _ _ i0 t0 (by simp) fun h1 i1 s1 => ?_))
  have e1 : ((x :: xs).toArray.toList.drop 0).take 1 = [x] := rfl
  rw [e1]
  rw [if_neg (by simp)]
  have t1 : IsTup h1 t (x :: xs).toArray := t0.extBut s1.extBut hlt
  have hsz : it < h0.objs.size := by obtain ⟨o, ho, _⟩ := i0; exact Heap.lt_size ho
  have W := (walk_late (Walks.tuple (prog := prog) (w := w) (A := A.in1) hh it t hlt (x :: xs).toArray) 1 (by simp)).toS
  refine wpAny_bind (wpAny_holding (PySem.wpAny_collect_iter (T := "tuple_iterator") (n := (x :: xs).toArray.size - 1) (.inr (.inr (.inr rfl))) W (fun i z st => (let ⟨o, ho, hc, _⟩ := st.1; ⟨o, ho, hc⟩)) ⟨i1, t1⟩ (fun b hb => ?_) (by simp) (fun z acc mv ia => ?_) (by simpa using hz)))
  · rcases List.mem_cons.mp hb with e | hb
    · subst e; obtain ⟨o, ho, _⟩ := i1; exact Heap.lt_size ho
    · rcases List.mem_cons.mp hb with e | hb
      · subst e; obtain ⟨o, ho, _⟩ := t1; exact Heap.lt_size ho
      · cases hb
  · have ea : acc.toList = xs := by
      refine List.ext_getElem? fun j => ?_
      by_cases hj : j < acc.size
      · have this : (x :: xs).toArray[j + 1]? = some acc[j] := ia.2 j acc[j] (by simp [hj])
        have e2 : (x :: xs).toArray[j + 1]? = xs[j]? := by simp
        rw [e2] at this
        rw [this]
        simp [hj]
      · have h1 : acc.size = xs.length := by rw [ia.1]; simp
        rw [List.getElem?_eq_none (by simp; omega), List.getElem?_eq_none (by omega)]
    rw [ea]
    rw [if_neg (by simp)]
    have e3 : xs.length - (2 - 1 - 1) = xs.length := by simp
    show wpAny _ _ (newList (xs.take (xs.length - (2 - 1 - 1))) >>= fun l => pure ([x] ++ [l] ++ xs.drop (xs.length - (2 - 1 - 1)))) _ _ z
    rw [e3, List.take_length, List.drop_length]
    refine wpAny_bind (wpAny_newList (wpAny_pure ?_) (by simpa using hz))
    obtain ⟨hz1, g1, d1, o1, tk1⟩ := mv
    obtain ⟨zh, zg, zd, zt, zo⟩ := z
    have g1 : zg = s.gens := g1
    have d1 : zd = s.drawn := d1
    have o1 : zo = s.os := o1
    subst g1 d1 o1
    refine hQ zh zt tk1 fun b o e => ?_
    have hne : b ≠ it := Nat.ne_of_lt (Nat.lt_of_lt_of_eq (Heap.lt_size e) hit)
    exact hz1 b o (by simpa using hne) ((s1.2 b hne).trans (k0 b o e))
end
section
variable {Γ : Ga} {X : Cx} {pos p : Pos} {e1 e2 : Expr} {g1 g2 : Gv} {k : Nat}
def gStar (g1 g2 : Gv) : Gv := fun d ρ M => match d with
  | .tup (x :: xs) => gSeq [g1, g2] [x, .ref M.sz] ρ (M.new (.lst xs))
  | _ => none
theorem g_star (hK : X.K = Γ.K) (hc : X.calm = true) (h : PGs X [e1, e2] (tGs Γ (gSeq [g1, g2]))) (hn : assignEach [e1, .Starred e2 p] X.env = [(false, assign e1 X.env), (true, assign e2 X.env)] := by rfl)
    (hn2 : (assignEach [e1, e2] X.env).map (·.2) = [assign e1 X.env, assign e2 X.env] := by rfl) : PG X (.Tuple [e1, .Starred e2 p] k pos) (tG Γ (gStar g1 g2)) := by
  refine ⟨fun pins s σ H v u Q I r hw => ?_⟩
  obtain ⟨ι, ρ, M, d, S, rd, ρ', M', e, q⟩ := hw
  unfold gStar at e
  split at e
  · rename_i y ys
    cases rd with
    | tup hs rl =>
      rename_i a vs
      obtain rfl : u = Value.ref a := r
      cases rl with
      | cons r1 r2 =>
        rename_i v1 vs
        obtain ⟨its, rv, ht, hz⟩ := I.tuple (by rw [hK]; exact hs)
        cases rv with
        | cons q1 q2 =>
          rename_i u1 us
          have hl : vs.length ≤ sizeLine := by rw [List.length_cons] at hz; omega
          rw [PyProof.Rows.assign_Tuple]
          refine wpAny_bind (wpAny_standAt ?_)
          unfold unpack
          rw [hn]
          refine wpAny_bind (wpAny_holding (unpack_star (I.ok.hd hc) ht (by rw [← q2.length]; exact hl) fun h' tk htk hk => ?_))
          have I1 : Inv X pins σ H { s with heap := h', toks := tk } := I.kept (t' := tk) hk
          have I2 := I1.lnew (t' := tk) q2 hl
          have hf : H h'.objs.size = none := I1.fresh
          have goal := h.run pins _ σ (upd H h'.objs.size (.lst vs)) [v1, .ref h'.objs.size] [u1, .ref h'.objs.size] Q I2 (.cons q1 (.cons rfl .nil)) (by
            have rm' : RM Γ (more ι M.sz h'.objs.size) (M.new (.lst ys)) (upd H h'.objs.size (.lst vs)) := S.m.laid hf ⟨vs, upd_same, r2.more hf⟩
            have x1 : Ext ι (more ι M.sz h'.objs.size) M.sz (M.new (.lst ys)).sz H (upd H h'.objs.size (.lst vs)) := by rw [Mem.sz_new]; exact Ext.more hf
            refine ⟨_, ρ, M.new (.lst ys), [y, .ref M.sz], S.ext x1 rm', ?_, ρ', M', e, fun σ' H' ι' x S' => q σ' H' ι' (x1.trans rm' x) S'⟩
            rw [Mem.sz_new]
            exact .cons (r1.more hf) (.cons ref_more .nil))
          rw [hn2] at goal
          exact goal
  · cases e
end

/-! ### x is True -/
def gIsB : D → D → Mem → Out D
  | .bl a, .bl b, M => some (.bl (a == b), M)
  | _, _, _ => none
def gNotB : D → D → Mem → Out D
  | .bl a, .bl b, M => some (.bl (!(a == b)), M)
  | _, _, _ => none
section
variable {Γ : Ga} {X : Cx}
theorem op_gIsB : OpR X (compareOp .Is) (rD Γ gIsB) := by
  intro pins s σ H x y v u Q I rx ry h
  obtain ⟨ι, M, a, b, rm, ra, rb, d, M', e, q⟩ := h
  unfold gIsB at e
  split at e
  · rename_i a b
    cases e; cases ra; cases rb
    cases (show v = Value.bool a from rx)
    cases (show u = Value.bool b from ry)
    show wpAny _ _ (pure (Value.bool (Value.bool a == Value.bool b))) _ _ s
    refine wpAny_pure ⟨.bl (a == b), H, I, ?_, q _ H ι (Ext.refl _ _ _) rm (.bl _)⟩
    show Value.bool _ = Value.bool _
    cases a <;> cases b <;> rfl
  · cases e
theorem op_gNotB : OpR X (compareOp .IsNot) (rD Γ gNotB) := by
  intro pins s σ H x y v u Q I rx ry h
  obtain ⟨ι, M, a, b, rm, ra, rb, d, M', e, q⟩ := h
  unfold gNotB at e
  split at e
  · rename_i a b
    cases e; cases ra; cases rb
    cases (show v = Value.bool a from rx)
    cases (show u = Value.bool b from ry)
    show wpAny _ _ (pure (Value.bool (!(Value.bool a == Value.bool b)))) _ _ s
    refine wpAny_pure ⟨.bl (!(a == b)), H, I, ?_, q _ H ι (Ext.refl _ _ _) rm (.bl _)⟩
    show Value.bool _ = Value.bool _
    cases a <;> cases b <;> rfl
  · cases e
theorem b_gIsB (a b : D) (M : Mem) (d : D) (M' : Mem) (h : gIsB a b M = some (d, M')) : ∃ k, d = .bl k := by
  unfold gIsB at h
  split at h
  · cases h; exact ⟨_, rfl⟩
  · cases h
theorem b_gNotB (a b : D) (M : Mem) (d : D) (M' : Mem) (h : gNotB a b M = some (d, M')) : ∃ k, d = .bl k := by
  unfold gNotB at h
  split at h
  · cases h; exact ⟨_, rfl⟩
  · cases h
end

/-! ### a name of the module -/
/-- what such a name holds -/
structure GlD (Γ : Ga) (x : Str) (d : D) : Prop where
  ex : ∃ u v, Γ.mg x = some u ∧ RelV v u ∧ ∀ ι N H, R Γ ι N H d v
section
variable {Γ : Ga} {X : Cx} {x : Str} {d : D} {pos : Pos}
theorem p_glob (hm : X.mg = Γ.mg) (h : GlD Γ x d) (hg : Gl X x := by rfl) (hd : (x == ("__debug__" : Str)) = false := by decide) : PE X (.Name x pos) (tE Γ (eCon d)) := by
  obtain ⟨u, v, e, r, hR⟩ := h.ex
  exact p_con (pe_glob (v := v) hg (by rw [hm]; exact e) r hd) hR
end

/-! ### a dict of the module, keys texts -/
structure SDt (Γ : Ga) (x : Str) (tbl : List (Str × D)) : Prop where
  ex : ∃ a, Γ.mg x = some (.ref a) ∧ (∃ es n, KDict Γ.K Γ.w a es n) ∧ (∀ z d, tbl.lookup z = some d → ∃ u v, PySem.W.nsIn Γ.K a z = some (some u) ∧ RelV v u ∧ ∀ ι N H, R Γ ι N H d v) ∧ ∀ z, tbl.lookup z = none → PySem.W.nsIn Γ.K a z = some none
/-- a key that is not there -/
theorem dic_none {K : PySem.W.Frag} {P : Params} {a : Addr} {ks : List Str} (h : He.dicW K a = some (He.keysIn P ks)) {z : Str} (hz : z ∉ ks) : PySem.W.nsIn K a z = some none := by
  unfold He.dicW at h
  unfold PySem.W.nsIn
  split at h
  · rename_i c es n sl q
    rw [q]
    split at h
    · have h := Option.some.inj h
      have key : ∀ e ∈ es.toList, ∃ x t, e.key = .str x t ∧ x ∈ ks := fun e he => by
        have : He.keyOf e ∈ He.keysIn P ks := by rw [← h]; exact List.mem_map.mpr ⟨e, he, rfl⟩
        unfold He.keysIn at this
        obtain ⟨k, hk, e2⟩ := List.mem_map.mp this
        unfold He.keyOf at e2
        split at e2
        · rename_i x t q2
          have e4 := (Prod.mk.inj (Option.some.inj e2)).1
          exact ⟨x, t, q2, e4 ▸ hk⟩
        · cases e2
      have f1 : es.toList.find? (·.key.isStr z) = none := by
        rw [List.find?_eq_none]
        intro e he
        obtain ⟨x, t, e1, hx⟩ := key e he
        rw [e1]
        show ¬ ((x == z) = true)
        intro e2
        exact hz ((beq_iff_eq.mp e2) ▸ hx)
      have f2 : es.toList.any (·.refKey) = false := by
        rw [List.any_eq_false]
        intro e he
        obtain ⟨x, t, e1, hx⟩ := key e he
        unfold DictEntry.refKey
        rw [e1]
        simp
      dsimp only
      rw [f1]
      dsimp only
      rw [f2]
      rfl
    · cases h
  · cases h
theorem lookup_mem {tbl : List (Str × D)} {z : Str} (h : tbl.lookup z = none) : z ∉ tbl.map (·.1) := by
  induction tbl with
  | nil => simp
  | cons p tbl ih =>
    obtain ⟨k, d⟩ := p
    rw [List.lookup_cons] at h
    split at h
    · cases h
    · rename_i hk
      rw [List.map_cons, List.mem_cons]
      rintro (e | e)
      · rw [e] at hk; simp at hk
      · exact ih h e
def eSdIn (tbl : List (Str × D)) (m : Ev) : Ev := fun ρ M => bnd (m ρ M) fun d M1 => match d with
  | .str z => some (.bl (tbl.lookup z).isSome, M1)
  | _ => none
def eSdNot (tbl : List (Str × D)) (m : Ev) : Ev := fun ρ M => bnd (m ρ M) fun d M1 => match d with
  | .str z => some (.bl (!(tbl.lookup z).isSome), M1)
  | _ => none
def eSdGet (tbl : List (Str × D)) (m : Ev) : Ev := fun ρ M => bnd (m ρ M) fun d M1 => match d with
  | .str z => match tbl.lookup z with
    | some d => some (d, M1)
    | none => none
  | _ => none
section
variable {Γ : Ga} {X : Cx} {x : Str} {tbl : List (Str × D)} {m : Ev} {a : Expr} {p pos : Pos}
theorem sd_at {Γ : Ga} {a : Addr} {tbl : List (Str × D)} (h1 : ∀ z d, tbl.lookup z = some d → ∃ u v, PySem.W.nsIn Γ.K a z = some (some u) ∧ RelV v u ∧ ∀ ι N H, R Γ ι N H d v) (h2 : ∀ z, tbl.lookup z = none → PySem.W.nsIn Γ.K a z = some none) (z : Str) : ∃ r, PySem.W.nsIn Γ.K a z = some r ∧ r.isSome = (tbl.lookup z).isSome := by
  cases e : tbl.lookup z with
  | none => exact ⟨none, h2 z e, rfl⟩
  | some d =>
    obtain ⟨u, v, e1, _⟩ := h1 z d e
    exact ⟨some u, e1, rfl⟩
theorem x_sdIn {k : Nat} (hX : Fit Γ k X) (h : SDt Γ x tbl) (ha : PE X a (tE Γ m)) (hm : behindInMarks .In (.Name x p) = false := by rfl) (hg : Gl X x := by rfl) (hd : (x == ("__debug__" : Str)) = false := by decide) : PT X (.Compare a [.In] [.Name x p] pos) (tB Γ (xVal (eSdIn tbl m))) := by
  obtain ⟨ad, e, ⟨es, n, K⟩, h1, h2⟩ := h.ex
  refine PT.of (pt_cmpR (op_in_kd (by rw [hX.eK, hX.eW]; exact K)) ha (pe_glob (v := .ref ad) hg (by rw [hX.eM]; exact e) rfl hd) hm) fun σ H Q q => ?_
  obtain ⟨ι, ρ, M, S, b, M', e1, q⟩ := q
  obtain ⟨d, M1, e2, e3⟩ := bnd_inv e1
  obtain ⟨d1, M2, e4, e5⟩ := bnd_inv e2
  split at e5
  · rename_i z
    cases e5
    refine ⟨ι, ρ, M, S, _, _, e4, fun v H1 ι1 x1 r1 rd => ?_⟩
    cases rd
    obtain ⟨r, hr, hs⟩ := sd_at (Γ := Γ) h1 h2 z
    refine ⟨z, r, rfl, rfl, by rw [hX.eK]; exact hr, ⟨_, rfl, ?_⟩⟩
    cases e3
    rw [hs]
    exact q H1 ι1 x1 r1
  · cases e5

theorem x_sdNot {k : Nat} (hX : Fit Γ k X) (h : SDt Γ x tbl) (ha : PE X a (tE Γ m)) (hm : behindInMarks .NotIn (.Name x p) = false := by rfl) (hg : Gl X x := by rfl) (hd : (x == ("__debug__" : Str)) = false := by decide) : PT X (.Compare a [.NotIn] [.Name x p] pos) (tB Γ (xVal (eSdNot tbl m))) := by
  obtain ⟨ad, e, ⟨es, n, K⟩, h1, h2⟩ := h.ex
  refine PT.of (pt_cmpR (op_notIn_kd (by rw [hX.eK, hX.eW]; exact K)) ha (pe_glob (v := .ref ad) hg (by rw [hX.eM]; exact e) rfl hd) hm) fun σ H Q q => ?_
  obtain ⟨ι, ρ, M, S, b, M', e1, q⟩ := q
  obtain ⟨d, M1, e2, e3⟩ := bnd_inv e1
  obtain ⟨d1, M2, e4, e5⟩ := bnd_inv e2
  split at e5
  · rename_i z
    cases e5
    refine ⟨ι, ρ, M, S, _, _, e4, fun v H1 ι1 x1 r1 rd => ?_⟩
    cases rd
    obtain ⟨r, hr, hs⟩ := sd_at (Γ := Γ) h1 h2 z
    refine ⟨z, r, rfl, rfl, by rw [hX.eK]; exact hr, ⟨_, rfl, ?_⟩⟩
    cases e3
    rw [hs]
    exact q H1 ι1 x1 r1
  · cases e5
theorem p_sdGet {k : Nat} (hX : Fit Γ k X) (h : SDt Γ x tbl) (ha : PE X a (tE Γ m)) (hs : PlainIx a := by intro _ _; rfl) (hg : Gl X x := by rfl) (hd : (x == ("__debug__" : Str)) = false := by decide) : PE X (.Subscript (.Name x p) a pos) (tE Γ (eSdGet tbl m)) := by
  obtain ⟨ad, e, ⟨es, n, K⟩, h1, h2⟩ := h.ex
  refine PE.of (pe_ix ix_kdict (pe_glob (v := .ref ad) hg (by rw [hX.eM]; exact e) rfl hd) ha hs) fun σ H Q q => ?_
  obtain ⟨ι, ρ, M, S, d, M', e1, q⟩ := q
  obtain ⟨d1, M1, e4, e5⟩ := bnd_inv e1
  split at e5
  · rename_i z
    split at e5
    · rename_i d2 hz
      cases e5
      refine ⟨ι, ρ, M, S, _, _, e4, fun v H1 ι1 x1 r1 rd => ?_⟩
      cases rd
      obtain ⟨u, v2, hu, hr, hR⟩ := h1 z _ hz
      exact ⟨ad, z, v2, rfl, rfl, ⟨es, n, u, by rw [hX.eK]; exact K.at_, by rw [hX.eW]; exact K.lit, by rw [hX.eK]; exact hu, hr⟩, q _ H1 ι1 x1 r1 (hR _ _ _)⟩
    · cases e5
  · cases e5
end

/-! ### a local that holds a def, called -/
/-- the defs that may be held: each takes n arguments -/
def CalV (Γ : Ga) (k n : Nat) (fs : List Nat) (C : Nat → Bf) : Prop := ∀ f ∈ fs, ∃ fd ps, FnG Γ k (Γ.fa f) fd ps (C f) ∧ PySem.W.keepIn Γ.K (.ref (Γ.fa f)) = true ∧ Binds Γ.K fd ps [] ∧ ps.length = n
def eCallV (C : Nat → Bf) (fs : List Nat) (i : Nat) (ms : List Ev) : Ev := fun ρ M => bnd (eVar i ρ M) fun d M1 => match d with
  | .fn f => if f ∈ fs then bnd (eArgs ms ρ M1) fun ds M2 => C f ds M2 else none
  | _ => none
section
variable {Γ : Ga} {X : Cx} {k n : Nat} {x : Str} {p pos : Pos} {e : Expr} {es : List Expr} {ms : List Ev} {C : Nat → Bf} {fs : List Nat}
theorem p_callV (i : Nat) (hX : Fit Γ k X) (c : CalV Γ k n fs C) (ha : PA X (e :: es) (tL Γ (eArgs ms))) (hn : ms.length = n := by rfl) (hN : X.N[i]? = some x := by rfl) (hv : Vis X.env.scope x := by first | exact Or.inl rfl | exact Or.inr (Or.inl rfl) | exact Or.inr (Or.inr rfl)) (hd : (x == ("__debug__" : Str)) = false := by decide)
    (hcd : (x == ("__classdict__" : Str)) = false := by decide) (he : starEach (e :: es) X.env = (false, eval e X.env) :: starEach es X.env := by rfl) (hpl : (backTo pos (starEach es X.env)).any (·.1) = false := by rfl) :
    PE X (.Call (.Name x p) (e :: es) [] pos) (tE Γ (eCallV C fs i ms)) := by
  refine ⟨fun pins z σ H Q I h => ?_⟩
  obtain ⟨ι, ρ, M, S, d, M', ed, q⟩ := h
  obtain ⟨d1, M1, e1, e2⟩ := bnd_inv ed
  split at e2
  · rename_i f
    split at e2
    · rename_i hf
      obtain ⟨as, M2, e3, e4⟩ := bnd_inv e2
      obtain ⟨fd, ps, F, hk, hb, hps⟩ := c f hf
      refine wpAny_Call_Name_kw (thn ((p_var (Γ := Γ) (pos := p) i hN hv hd hcd).run pins z σ H (fun v H1 => ∃ ι1, v = .ref (Γ.fa f) ∧ Ext ι ι1 M.sz M1.sz H H1 ∧ RM Γ ι1 M1 H1) I ⟨ι, ρ, M, S, _, _, e1, fun v H1 ι1 x1 r1 rd => by cases rd; exact ⟨ι1, rfl, x1, r1⟩⟩) fun u z1 hz => ?_)
      obtain ⟨v, H1, I1, rv, ι1, rfl, x1, r1⟩ := hz
      obtain rfl : u = Value.ref (Γ.fa f) := rv
      refine PySem.W.callWith_K (h₀ := X.base) I1.ok.mod.kin (by rw [hX.eK]; exact hk) (thn (ha.run pos pins z1 σ H1 (fun vs H2 => (vs ++ []).length = ps.length ∧ rB Γ (C f) (vs ++ []) H2 Q) I1 ⟨ι1, ρ, M1, S.ext x1 r1, as, M2, e3, fun vs H2 ι2 x2 r2 rl => ⟨?_, ι2, M2, as, r2, by rw [List.append_nil]; exact rl, d, M', e4, fun v2 H3 ι3 x3 r3 rd2 => q v2 H3 ι3 ((x1.trans r1 x2).trans r2 x3) r3 rd2⟩⟩) fun us z2 hz => ?_) he hpl
      · rw [List.append_nil, ← rl.length, eArgs_len e3, hps, hn]
      · obtain ⟨vs, H2, I2, r, hl, hq⟩ := hz
        exact ⟨I2.kIn, run_fnG hX F hb .nil I2 r hl hq⟩
    · cases e2
  · cases e2
end

/-! ### d.get(k, x) -/
def eGet2 (mo mk md : Ev) : Ev := fun ρ M => bnd (mo ρ M) fun d M1 => match d with
  | .ref n => match M1.get n with
    | some (.dct _) => bnd (mk ρ M1) fun y M2 => bnd (md ρ M2) fun z M3 => match M3.get n, keyD y with
      | some (.dct kvs), some k => some ((findK kvs k).getD z, M3)
      | _, _ => none
    | _ => none
  | _ => none
section
variable {Γ : Ga} {X : Cx} {o e f : Expr} {mo mk md : Ev} {apos cpos : Pos}
theorem m_get2 (hu : X.A.units + 1 < cLine) (ho : PE X o (tE Γ mo)) (he : PE X e (tE Γ mk)) (hf : PE X f (tE Γ md)) (hbase : attributeBase o "get" X.env (eval o X.env) = eval o X.env := by rfl)
    (hfew : ((backTo cpos (starEach [e, f] X.env)).all (fun x => !x.1) && (backToKw cpos (keywordEach [] X.env)).all (fun x => x.1.isSome) && decide (([e, f] : List Expr).length + ([] : List Keyword).length + (if ([] : List Keyword).isEmpty then 0 else 1) < 30)) = true := by rfl)
    (hline : (apos.endLine == cpos.line) = true := by rfl) (hs : backTo cpos (starEach [e, f] X.env) = [(false, eval e X.env), (false, eval f X.env)] := by rfl) : PE X (.Call (.Attribute o "get" apos) [e, f] [] cpos) (tE Γ (eGet2 mo mk md)) := by
  refine PE.of (pe_dget2 hu ho he hf ⟨hbase, hfew, hline, hs⟩) fun σ H Q h => ?_
  obtain ⟨ι, ρ, M, S, d, M', ed, q⟩ := h
  obtain ⟨d1, M1, e1, e2⟩ := bnd_inv ed
  split at e2
  · rename_i n
    split at e2
    · rename_i kvs0 g0
      obtain ⟨y, M2, e3, e4⟩ := bnd_inv e2
      obtain ⟨z, M3, e5, e6⟩ := bnd_inv e4
      split at e6
      · rename_i kvs k g3 hk
        cases e6
        refine ⟨ι, ρ, M, S, _, _, e1, fun v H1 ι1 x1 r1 rd => ?_⟩
        cases rd with
        | ref hn =>
          obtain ⟨xs0, h0, _⟩ := r1.ob _ _ g0
          refine ⟨_, rfl, .inl ⟨xs0, .inl h0⟩, ι1, ρ, M1, S.ext x1 r1, _, _, e3, fun v2 H2 ι2 x2 r2 ry => ⟨ι2, ρ, M2, (S.ext x1 r1).ext x2 r2, _, _, e5, fun v3 H3 ι3 x3 r3 rz => ?_⟩⟩
          obtain ⟨xs, h3, rk⟩ := r3.ob _ _ g3
          have ea : ι3 n = ι1 n := (x3.ag n (Nat.lt_of_lt_of_le hn x2.le)).trans (x2.ag n hn)
          rw [ea] at h3
          have ek := keyD_ok ry hk
          subst ek
          refine ⟨valV xs k, .inl ⟨xs, k, .inl h3, rfl, rfl⟩, ?_⟩
          have x13 := (x1.trans r1 x2).trans r2 x3
          cases hf : findK kvs k with
          | none =>
            rw [hf] at q
            rw [findK_none rk hf]
            exact q _ H3 ι3 x13 r3 rz
          | some d3 =>
            rw [hf] at q
            obtain ⟨v4, h4, r4⟩ := findK_ok rk d3 hf
            rw [h4]
            exact q _ H3 ι3 x13 r3 r4
      · cases e6
    · cases e2
  · cases e2
end

/-! ### facts of names of the module -/
section
variable {Γ : Ga} {x : Str} {a : Addr} {us : List Value} {vs : List V} {ds : List D} {n : Nat} {dd : Option Addr} {sl : Array (Option Value)}
theorem tup_K (l : Γ.K.lookup a = some ⟨.type "tuple", dd, .seq us.toArray n, sl⟩) (hv : Vals vs us) (hR : ∀ ι N H, RL Γ ι N H ds vs) (hz : us.length ≤ sizeLine := by exact Nat.le_trans (m := 1000) (Nat.le_of_ble_eq_true rfl) (by decide)) : ∀ ι N H, R Γ ι N H (.tup ds) (.ref a) := fun ι N H =>
  .tup (.inr ⟨_, us.toArray, n, l, rfl, rfl, by simpa using hz, by simpa using hv⟩) (hR ι N H)
theorem GlD.int {i : Int} {t : Tok} (h : Γ.mg x = some (.int i t)) : GlD Γ x (.int i) := ⟨_, .int i, h, ⟨t, rfl⟩, fun _ _ _ => .int i⟩
theorem GlD.str {z : Str} {t : Tok} (h : Γ.mg x = some (.str z t)) : GlD Γ x (.str z) := ⟨_, .str z, h, ⟨t, rfl⟩, fun _ _ _ => .str z⟩
theorem GlD.non (h : Γ.mg x = some .none) : GlD Γ x .non := ⟨_, .non, h, rfl, fun _ _ _ => .non⟩
theorem GlD.bl {b : Bool} (h : Γ.mg x = some (.bool b)) : GlD Γ x (.bl b) := ⟨_, .bl b, h, rfl, fun _ _ _ => .bl b⟩
theorem GlD.tup (h : Γ.mg x = some (.ref a)) (l : Γ.K.lookup a = some ⟨.type "tuple", dd, .seq us.toArray n, sl⟩) (hv : Vals vs us) (hR : ∀ ι N H, RL Γ ι N H ds vs) (hz : us.length ≤ sizeLine := by exact Nat.le_trans (m := 1000) (Nat.le_of_ble_eq_true rfl) (by decide)) : GlD Γ x (.tup ds) := ⟨_, .ref a, h, rfl, tup_K l hv hR hz⟩
inductive SdL (Γ : Ga) (a : Addr) : List (Str × D) → Prop
  | nil : SdL Γ a []
  | cons {k : Str} {d : D} {u : Value} {v : V} {tbl : List (Str × D)} : PySem.W.nsIn Γ.K a k = some (some u) → RelV v u → (∀ ι N H, R Γ ι N H d v) → SdL Γ a tbl → SdL Γ a ((k, d) :: tbl)
theorem SdL.get {tbl : List (Str × D)} (h : SdL Γ a tbl) : ∀ z d, tbl.lookup z = some d → ∃ u v, PySem.W.nsIn Γ.K a z = some (some u) ∧ RelV v u ∧ ∀ ι N H, R Γ ι N H d v := by
  induction h with
  | nil => intro z d e; cases e
  | cons h1 h2 h3 t ih =>
    intro z d e
    rw [List.lookup_cons] at e
    split at e
    · rename_i hk
      cases e
      rw [beq_iff_eq] at hk
      subst hk
      exact ⟨_, _, h1, h2, h3⟩
    · exact ih z d e
theorem dicW_of {K : PySem.W.Frag} {P : Params} {es : Array DictEntry} {n : Nat} {ks : List Str} (l : K.lookup a = some ⟨.type "dict", none, .dict es n, #[]⟩) (low : (a == sysModules) = false) (h : es.toList.map He.keyOf = He.keysIn P ks) : He.dicW K a = some (He.keysIn P ks) := by
  unfold He.dicW
  rw [l]
  dsimp only
  rw [low]
  simp [h]
theorem SDt.of {tbl : List (Str × D)} (hx : Γ.mg x = some (.ref a)) (hd : He.dicW Γ.K a = some (He.keysIn Γ.w.params (tbl.map (·.1)))) (h : SdL Γ a tbl) : SDt Γ x tbl :=
  ⟨a, hx, He.dicW_ok hd, h.get, fun z e => dic_none hd (lookup_mem e)⟩
end
end Nl

set_option autoImplicit false
/-! Nl, part P: plain laws: what the small machine computes. No program in sight. -/
namespace Nl
open PySem L2

/-- x ends, and P holds of what it ends with -/
def Ok {α : Type} (x : Out α) (P : α → Mem → Prop) : Prop := ∃ a M, x = some (a, M) ∧ P a M
/-- the same of a target -/
def OkG (x : Option (Rho × Mem)) (P : Rho → Mem → Prop) : Prop := ∃ a M, x = some (a, M) ∧ P a M
section
variable {α β : Type} {P Q : α → Mem → Prop} {ρ : Rho} {M : Mem}
@[simp] theorem ok_some {a : α} : Ok (some (a, M)) P ↔ P a M := ⟨fun ⟨_, _, e, h⟩ => by cases e; exact h, fun h => ⟨a, M, rfl, h⟩⟩
@[simp] theorem ok_none : Ok (none : Out α) P ↔ False := ⟨fun ⟨_, _, e, _⟩ => (nomatch e), fun h => False.elim h⟩
@[simp] theorem okg_some {a : Rho} {P : Rho → Mem → Prop} : OkG (some (a, M)) P ↔ P a M := ⟨fun ⟨_, _, e, h⟩ => by cases e; exact h, fun h => ⟨a, M, rfl, h⟩⟩
@[simp] theorem okg_none {P : Rho → Mem → Prop} : OkG none P ↔ False := ⟨fun ⟨_, _, e, _⟩ => (nomatch e), fun h => False.elim h⟩
theorem Ok.mono {x : Out α} (h : Ok x P) (w : ∀ a M, P a M → Q a M) : Ok x Q := let ⟨a, M, e, q⟩ := h; ⟨a, M, e, w a M q⟩
@[simp] theorem ok_bnd {x : Out β} {f : β → Mem → Out α} : Ok (bnd x f) P ↔ Ok x fun b M1 => Ok (f b M1) P := by
  cases x with
  | none => simp
  | some p => obtain ⟨b, M1⟩ := p; simp
@[simp] theorem ok_if {c : Prop} [Decidable c] {x y : Out α} : Ok (if c then x else y) P ↔ if c then Ok x P else Ok y P := by split <;> exact Iff.rfl
@[simp] theorem ok_map {x : Option β} {f : β → α × Mem} : Ok (x.map f) P ↔ ∃ b, x = some b ∧ P (f b).1 (f b).2 := by
  cases x with
  | none => simp
  | some b =>
    simp only [Option.map_some]
    exact ⟨fun ⟨a, M, e, h⟩ => ⟨b, rfl, by rw [Option.some.inj e]; exact h⟩, fun ⟨c, e, h⟩ => by cases e; exact ⟨_, _, rfl, h⟩⟩
end
section
variable {ρ : Rho} {M : Mem} {P : D → Mem → Prop} {B : Bool → Mem → Prop} {F : Fl → Mem → Prop} {L : List D → Mem → Prop} {a b c : Ev} {s t : Bv} {m n : Sv}
@[simp] theorem ok_var {i : Nat} : Ok (eVar i ρ M) P ↔ ∃ d, ρ[i]? = some (some d) ∧ P d M := by
  unfold eVar
  cases h : ρ[i]? with
  | none => simp
  | some o => cases o <;> simp
@[simp] theorem ok_con {d : D} : Ok (eCon d ρ M) P ↔ P d M := ok_some
@[simp] theorem ok_op {g : D → D → Mem → Out D} : Ok (eOp g a b ρ M) P ↔ Ok (a ρ M) fun x M1 => Ok (b ρ M1) fun y M2 => Ok (g x y M2) P := by simp [eOp]
@[simp] theorem ok_args0 : Ok (eArgs [] ρ M) L ↔ L [] M := ok_some
@[simp] theorem ok_args1 {ms : List Ev} : Ok (eArgs (a :: ms) ρ M) L ↔ Ok (a ρ M) fun d M1 => Ok (eArgs ms ρ M1) fun ds M2 => L (d :: ds) M2 := by simp
@[simp] theorem ok_tup {ms : List Ev} : Ok (eTup ms ρ M) P ↔ Ok (eArgs ms ρ M) fun ds M1 => P (.tup ds) M1 := by simp [eTup]
@[simp] theorem ok_lst {ms : List Ev} : Ok (eLst ms ρ M) P ↔ Ok (eArgs ms ρ M) fun ds M1 => P (.ref M1.sz) (M1.new (.lst ds)) := by simp [eLst]
@[simp] theorem ok_callD {g : Bf} {ms : List Ev} {dds : List D} : Ok (eCallD g ms dds ρ M) P ↔ Ok (eArgs ms ρ M) fun ds M1 => Ok (g (ds ++ dds) M1) P := by simp [eCallD]
@[simp] theorem ok_call {g : Bf} {ms : List Ev} : Ok (eCall g ms ρ M) P ↔ Ok (eArgs ms ρ M) fun ds M1 => Ok (g ds M1) P := by simp [eCall]
@[simp] theorem ok_mt {T : String} {g : D → List D → Mem → Out D} {ms : List Ev} : Ok (eMt T g a ms ρ M) P ↔ Ok (a ρ M) fun d M1 => isTy T d M1 = true ∧ Ok (eArgs ms ρ M1) fun ds M2 => Ok (g d ds M2) P := by
  simp only [eMt, ok_bnd]
  constructor
  · rintro ⟨d, M1, e, h⟩
    refine ⟨d, M1, e, ?_⟩
    rw [ok_if] at h
    split at h
    · rename_i q; rw [ok_bnd] at h; exact ⟨q, h⟩
    · exact False.elim (ok_none.mp h)
  · rintro ⟨d, M1, e, q, h⟩
    refine ⟨d, M1, e, ?_⟩
    dsimp only
    rw [if_pos q, ok_bnd]; exact h
@[simp] theorem ok_eif : Ok (eIf s a b ρ M) P ↔ Ok (s ρ M) fun r M1 => if r = true then Ok (a ρ M1) P else Ok (b ρ M1) P := by simp [eIf]
@[simp] theorem ok_isN : Ok (eIsN a ρ M) P ↔ Ok (a ρ M) fun d M1 => P (.bl (isN d)) M1 := by simp [eIsN]
@[simp] theorem ok_notN : Ok (eNotN a ρ M) P ↔ Ok (a ρ M) fun d M1 => P (.bl (!isN d)) M1 := by simp [eNotN]
@[simp] theorem ok_xval : Ok (xVal a ρ M) B ↔ Ok (a ρ M) fun d M1 => ∃ r, truth M1 d = some r ∧ B r M1 := by simp [xVal]
@[simp] theorem ok_xnot : Ok (xNot s ρ M) B ↔ Ok (s ρ M) fun r M1 => B (!r) M1 := by simp [xNot]
@[simp] theorem ok_xand : Ok (xAnd s t ρ M) B ↔ Ok (s ρ M) fun r M1 => if r = true then Ok (t ρ M1) B else B false M1 := by simp [xAnd]
@[simp] theorem ok_xor : Ok (xOr s t ρ M) B ↔ Ok (s ρ M) fun r M1 => if r = true then B true M1 else Ok (t ρ M1) B := by simp [xOr]
@[simp] theorem ok_xyes : Ok (xYes ρ M) B ↔ B true M := ok_some
@[simp] theorem ok_nil : Ok (sNil ρ M) F ↔ F (.nx ρ) M := ok_some
/-- what stands behind a statement -/
def behind (n : Sv) (F : Fl → Mem → Prop) : Fl → Mem → Prop
  | .nx ρ1, M1 => Ok (n ρ1 M1) F
  | .rt d, M1 => F (.rt d) M1
  | .bk ρ1, M1 => F (.bk ρ1) M1
  | .ct ρ1, M1 => F (.ct ρ1) M1
@[simp] theorem behind_nx {ρ1 : Rho} : behind n F (.nx ρ1) M = Ok (n ρ1 M) F := rfl
@[simp] theorem behind_rt {d : D} : behind n F (.rt d) M = F (.rt d) M := rfl
@[simp] theorem behind_bk {ρ1 : Rho} : behind n F (.bk ρ1) M = F (.bk ρ1) M := rfl
@[simp] theorem behind_ct {ρ1 : Rho} : behind n F (.ct ρ1) M = F (.ct ρ1) M := rfl
@[simp] theorem ok_cons : Ok (sCons m n ρ M) F ↔ Ok (m ρ M) (behind n F) := by
  unfold sCons
  cases h : m ρ M with
  | none => simp
  | some p =>
    obtain ⟨f, M1⟩ := p
    cases f <;> simp
@[simp] theorem ok_ex : Ok (sEx a ρ M) F ↔ Ok (a ρ M) fun _ M1 => F (.nx ρ) M1 := by simp [sEx]
@[simp] theorem ok_ret : Ok (sRet a ρ M) F ↔ Ok (a ρ M) fun d M1 => F (.rt d) M1 := by simp [sRet]
@[simp] theorem ok_retN : Ok (sRetN ρ M) F ↔ F (.rt .non) M := ok_some
@[simp] theorem ok_sif : Ok (sIf s m n ρ M) F ↔ Ok (s ρ M) fun r M1 => if r = true then Ok (m ρ M1) F else Ok (n ρ M1) F := by simp [sIf]
@[simp] theorem ok_asg {g : Gv} : Ok (sAsg a g ρ M) F ↔ Ok (a ρ M) fun d M1 => OkG (g d ρ M1) fun ρ2 M2 => F (.nx ρ2) M2 := by
  simp only [sAsg, ok_bnd]
  constructor
  · rintro ⟨d, M1, e, h⟩
    obtain ⟨p, e2, h⟩ := ok_map.mp h
    exact ⟨d, M1, e, p.1, p.2, e2, h⟩
  · rintro ⟨d, M1, e, r, M2, e2, h⟩
    exact ⟨d, M1, e, ok_map.mpr ⟨(r, M2), e2, h⟩⟩
@[simp] theorem ok_par {i j : Nat} : Ok (sPar i j [a, b] ρ M) F ↔ Ok (a ρ M) fun x M1 => Ok (b ρ M1) fun y M2 => F (.nx ((ρ.set i (some x)).set j (some y))) M2 := by simp [sPar]
@[simp] theorem ok_brk : Ok (sBrk ρ M) F ↔ F (.bk ρ) M := ok_some
@[simp] theorem ok_cnt : Ok (sCnt ρ M) F ↔ F (.ct ρ) M := ok_some
@[simp] theorem okg_nm {i : Nat} {d : D} {G : Rho → Mem → Prop} : OkG (gNm i d ρ M) G ↔ G (ρ.set i (some d)) M := okg_some
@[simp] theorem okg_sb {d : D} {G : Rho → Mem → Prop} : OkG (gSb a b d ρ M) G ↔ Ok (a ρ M) fun o M1 => Ok (b ρ M1) fun i M2 => ∃ M3, gSet o i d M2 = some M3 ∧ G ρ M3 := by
  unfold gSb
  constructor
  · rintro ⟨r, M3, e, h⟩
    obtain ⟨o, M1, e1, e⟩ := bnd_inv e
    obtain ⟨i, M2, e2, e⟩ := bnd_inv e
    obtain ⟨M4, e3, e4⟩ := Option.map_eq_some_iff.mp e
    cases e4
    exact ⟨o, M1, e1, i, M2, e2, _, e3, h⟩
  · rintro ⟨o, M1, e1, i, M2, e2, M4, e3, h⟩
    exact ⟨ρ, M4, by rw [e1, bnd_some, e2, bnd_some, e3]; rfl, h⟩
@[simp] theorem okg_tp2 {i j : Nat} {x y : D} {G : Rho → Mem → Prop} : OkG (gTp [gNm i, gNm j] (.tup [x, y]) ρ M) G ↔ G ((ρ.set i (some x)).set j (some y)) M := by
  simp [gTp, gSeq, gNm]
@[simp] theorem okg_tp3 {i j k : Nat} {x y z : D} {G : Rho → Mem → Prop} : OkG (gTp [gNm i, gNm j, gNm k] (.tup [x, y, z]) ρ M) G ↔ G (((ρ.set i (some x)).set j (some y)).set k (some z)) M := by
  simp [gTp, gSeq, gNm]
/-- a def's end -/
def ends (P : D → Mem → Prop) : Fl → Mem → Prop
  | .nx _, M => P .non M
  | .rt d, M => P d M
  | _, _ => False
@[simp] theorem ends_nx {ρ1 : Rho} : ends P (.nx ρ1) M = P .non M := rfl
@[simp] theorem ends_rt {d : D} : ends P (.rt d) M = P d M := rfl
theorem ok_body {k : Nat} {ds : List D} : Ok (bodyD m k ds M) P ↔ Ok (m (ds.map some ++ List.replicate (k - ds.length) none) M) (ends P) := by
  unfold bodyD
  cases h : m (ds.map some ++ List.replicate (k - ds.length) none) M with
  | none => simp
  | some p =>
    obtain ⟨f, M1⟩ := p
    cases f <;> simp [ends]
end

/-! ### loops -/
section
variable {ρ : Rho} {M : Mem} {F : Fl → Mem → Prop} {ok : Mem → Bool} {g : Gv} {b : Sv} {c : Bv}
/-- what a turn of a loop leads to -/
def turned (I : Rho → Mem → Prop) (F : Fl → Mem → Prop) : Fl → Mem → Prop
  | .nx ρ, M => I ρ M
  | .ct ρ, M => I ρ M
  | .bk ρ, M => F (.nx ρ) M
  | .rt d, M => F (.rt d) M
@[simp] theorem turned_nx {I : Rho → Mem → Prop} : turned I F (.nx ρ) M = I ρ M := rfl
@[simp] theorem turned_ct {I : Rho → Mem → Prop} : turned I F (.ct ρ) M = I ρ M := rfl
@[simp] theorem turned_bk {I : Rho → Mem → Prop} : turned I F (.bk ρ) M = F (.nx ρ) M := rfl
@[simp] theorem turned_rt {I : Rho → Mem → Prop} {d : D} : turned I F (.rt d) M = F (.rt d) M := rfl
theorem forL_ok (I : Nat → Rho → Mem → Prop) (items : List D) (hok : ∀ i ρ M, i ≤ items.length → I i ρ M → ok M = true)
    (hs : ∀ i d ρ M, items[i]? = some d → I i ρ M → OkG (g d ρ M) fun ρ1 M1 => Ok (b ρ1 M1) (turned (I (i + 1)) F)) (he : ∀ ρ M, I items.length ρ M → F (.nx ρ) M) :
    ∀ (k i : Nat) (ρ : Rho) (M : Mem), k + i = items.length → I i ρ M → Ok (forL ok g b (items.drop i) ρ M) F
  | 0, i, ρ, M, hk, h => by
    have : i = items.length := by omega
    subst this
    rw [List.drop_length, forL, if_pos (hok _ _ _ (Nat.le_refl _) h)]
    exact ok_some.mpr (he _ _ h)
  | k + 1, i, ρ, M, hk, h => by
    have hlt : i < items.length := by omega
    rw [List.drop_eq_getElem_cons hlt, forL, if_pos (hok _ _ _ (Nat.le_of_lt hlt) h)]
    obtain ⟨ρ1, M1, e1, f, M2, e2, hf⟩ := hs i _ ρ M (List.getElem?_eq_getElem hlt) h
    rw [e1]
    show Ok (match b ρ1 M1 with | none => none | some (.nx ρ2, M2) => forL ok g b (items.drop (i + 1)) ρ2 M2 | some (.ct ρ2, M2) => forL ok g b (items.drop (i + 1)) ρ2 M2 | some (.bk ρ2, M2) => some (.nx ρ2, M2) | some (.rt v, M2) => some (.rt v, M2)) F
    rw [e2]
    cases f with
    | nx ρ2 => exact forL_ok I items hok hs he k (i + 1) ρ2 M2 (by omega) hf
    | ct ρ2 => exact forL_ok I items hok hs he k (i + 1) ρ2 M2 (by omega) hf
    | bk ρ2 => exact ok_some.mpr hf
    | rt d => exact ok_some.mpr hf
/-- a for loop by its invariant -/
theorem for_ok (I : Nat → Rho → Mem → Prop) (items : List D) (hok : ∀ i ρ M, i ≤ items.length → I i ρ M → ok M = true)
    (hs : ∀ i d ρ M, items[i]? = some d → I i ρ M → OkG (g d ρ M) fun ρ1 M1 => Ok (b ρ1 M1) (turned (I (i + 1)) F)) (he : ∀ ρ M, I items.length ρ M → F (.nx ρ) M) (h0 : I 0 ρ M) : Ok (forL ok g b items ρ M) F := by
  have := forL_ok (g := g) (b := b) I items hok hs he items.length 0 ρ M (Nat.add_zero _) h0
  rwa [List.drop_zero] at this
@[simp] theorem ok_for {w : Wv} : Ok (sFor w g b ρ M) F ↔ Ok (w ρ M) fun k M1 => Ok (forL k.ok g b k.items ρ M1) F := by simp [sFor]
/-- a while loop by its invariant and a measure -/
theorem whileN_ok (I : Nat → Rho → Mem → Prop) (hs : ∀ m ρ M, I m ρ M → Ok (c ρ M) fun r M1 => if r = true then Ok (b ρ M1) (turned (fun ρ2 M2 => ∃ m', m' < m ∧ I m' ρ2 M2) F) else F (.nx ρ) M1) :
    ∀ (k m : Nat) (ρ : Rho) (M : Mem), m < k → I m ρ M → Ok (whileN c b k ρ M) F
  | 0, m, _, _, hk, _ => absurd hk (Nat.not_lt_zero m)
  | k + 1, m, ρ, M, hk, h => by
    obtain ⟨r, M1, e1, h1⟩ := hs m ρ M h
    rw [whileN, e1, bnd_some]
    split at h1
    · rename_i hr
      rw [if_pos hr]
      obtain ⟨f, M2, e2, hf⟩ := h1
      rw [e2]
      cases f with
      | nx ρ2 => obtain ⟨m', hm, hI⟩ := hf; exact whileN_ok I hs k m' ρ2 M2 (by omega) hI
      | ct ρ2 => obtain ⟨m', hm, hI⟩ := hf; exact whileN_ok I hs k m' ρ2 M2 (by omega) hI
      | bk ρ2 => exact ok_some.mpr hf
      | rt d => exact ok_some.mpr hf
    · rename_i hr
      rw [if_neg hr]
      exact ok_some.mpr h1
theorem while_ok (I : Nat → Rho → Mem → Prop) (hs : ∀ m ρ M, I m ρ M → Ok (c ρ M) fun r M1 => if r = true then Ok (b ρ M1) (turned (fun ρ2 M2 => ∃ m', m' < m ∧ I m' ρ2 M2) F) else F (.nx ρ) M1) {m : Nat} (hm : m < 1000000) (h0 : I m ρ M) : Ok (sWhile c b ρ M) F :=
  whileN_ok I hs turns m ρ M hm h0
/-- a comprehension by its invariant -/
theorem lcL_ok {m : Ev} {L : List D → Mem → Prop} (I : Nat → List D → Mem → Prop) (items : List D) (hok : ∀ i ds M, i ≤ items.length → I i ds M → ok M = true)
    (hs : ∀ i d ds M, items[i]? = some d → I i ds M → OkG (g d ρ M) fun ρ1 M1 => Ok (c ρ1 M1) fun r M2 => if r = true then Ok (m ρ1 M2) fun v M3 => I (i + 1) (ds ++ [v]) M3 else I (i + 1) ds M2) (he : ∀ ds M, I items.length ds M → L ds M) :
    ∀ (k i : Nat) (ds : List D) (M : Mem), k + i = items.length → I i ds M → Ok (lcL ok g c m (items.drop i) ρ M) fun es M' => L (ds ++ es) M'
  | 0, i, ds, M, hk, h => by
    have : i = items.length := by omega
    subst this
    rw [List.drop_length, lcL, if_pos (hok _ _ _ (Nat.le_refl _) h)]
    exact ok_some.mpr (by rw [List.append_nil]; exact he _ _ h)
  | k + 1, i, ds, M, hk, h => by
    have hlt : i < items.length := by omega
    rw [List.drop_eq_getElem_cons hlt, lcL, if_pos (hok _ _ _ (Nat.le_of_lt hlt) h)]
    obtain ⟨ρ1, M1, e1, r, M2, e2, h2⟩ := hs i _ ds M (List.getElem?_eq_getElem hlt) h
    rw [e1]
    dsimp only
    rw [e2, bnd_some]
    split at h2
    · rename_i hr
      rw [if_pos hr]
      obtain ⟨v, M3, e3, h3⟩ := h2
      rw [e3, bnd_some]
      have := lcL_ok I items hok hs he k (i + 1) (ds ++ [v]) M3 (by omega) h3
      rw [ok_bnd]
      exact this.mono fun es M' q => ok_some.mpr (by rw [List.append_assoc] at q; exact q)
    · rename_i hr
      rw [if_neg hr]
      exact lcL_ok I items hok hs he k (i + 1) ds M2 (by omega) h2
theorem lc_ok {w : Wv} {m : Ev} {own : List Nat} {P : D → Mem → Prop} : Ok (eLc w g c m own ρ M) P ↔ Ok (w ρ M) fun k M1 => Ok (lcL k.ok g c m k.items (wipeD ρ own) M1) fun ds M2 => ds.length ≤ 100000 ∧ P (.ref M2.sz) (M2.new (.lst ds)) := by
  simp only [eLc, ok_bnd]
  constructor
  · rintro ⟨k, M1, e1, ds, M2, e2, h⟩
    refine ⟨k, M1, e1, ds, M2, e2, ?_⟩
    rw [ok_if] at h
    split at h
    · rename_i q; exact ⟨q, ok_some.mp h⟩
    · exact False.elim (ok_none.mp h)
  · rintro ⟨k, M1, e1, ds, M2, e2, q, h⟩
    refine ⟨k, M1, e1, ds, M2, e2, ?_⟩
    dsimp only
    rw [if_pos q]; exact ok_some.mpr h
theorem lc_go_ok {m : Ev} {L : List D → Mem → Prop} (I : Nat → List D → Mem → Prop) (items : List D) (hok : ∀ i ds M, i ≤ items.length → I i ds M → ok M = true)
    (hs : ∀ i d ds M, items[i]? = some d → I i ds M → OkG (g d ρ M) fun ρ1 M1 => Ok (c ρ1 M1) fun r M2 => if r = true then Ok (m ρ1 M2) fun v M3 => I (i + 1) (ds ++ [v]) M3 else I (i + 1) ds M2) (he : ∀ ds M, I items.length ds M → L ds M) (h0 : I 0 [] M) : Ok (lcL ok g c m items ρ M) L := by
  have := lcL_ok (g := g) (c := c) (m := m) (ρ := ρ) I items hok hs he items.length 0 [] M (Nat.add_zero _) h0
  rw [List.drop_zero] at this
  exact this.mono fun es M' q => q
end
end Nl

set_option autoImplicit false
/-! Nl, part Q: the hand that every law draws from. -/
namespace Nl
open PySem L2

/-! ### lists of the memory -/
section
variable {M : Mem} {P : D → Mem → Prop} {B : Bool → Mem → Prop} {n a b : Nat} {ds : List D} {d : D} {i : Int}
theorem ix_lst (hg : M.get n = some (.lst ds)) (hi : atI ds i = some d) : Ok (gIx (.ref n) (.int i) M) P ↔ P d M := by
  simp [gIx, hg, hi]
theorem ix_tup (hi : atI ds i = some d) : Ok (gIx (.tup ds) (.int i) M) P ↔ P d M := by
  simp [gIx, hi]
@[simp] theorem atI_0 {α : Type} {x : α} {xs : List α} : atI (x :: xs) 0 = some x := by
  unfold atI ixN
  rw [if_pos (by decide), if_pos (by simp <;> omega)]
  rfl
@[simp] theorem atI_1 {α : Type} {x y : α} {xs : List α} : atI (x :: y :: xs) 1 = some y := by
  unfold atI ixN
  rw [if_pos (by decide), if_pos (by simp <;> omega)]
  rfl
@[simp] theorem atI_2 {α : Type} {x y z : α} {xs : List α} : atI (x :: y :: z :: xs) 2 = some z := by
  unfold atI ixN
  rw [if_pos (by decide), if_pos (by simp <;> omega)]
  rfl
theorem atI_nat {α : Type} {xs : List α} {i : Int} (h0 : 0 ≤ i) (h1 : i < xs.length) : atI xs i = xs[i.toNat]? := by
  unfold atI ixN
  rw [if_pos h0, if_pos h1]
  rfl
theorem toPl_ints (rf : Nat → Option PyData) : ∀ xs : List Int, toPl rf (xs.map .int) = some (xs.map .int)
  | [] => by simp [toPl]
  | x :: xs => by simp [toPl, toPs, toPl_ints rf xs]
theorem toP_lst (hg : M.get n = some (.lst ds)) {ps : List PyData} (h : toPl (refP 39 M) ds = some ps) : toP M (.ref n) = some (.list ps) := by
  show toPs (refP 40 M) (.ref n) = _
  rw [toPs, refP, hg]
  simp [h]
theorem shaped_ints (xs : List Int) : SeqAt.shaped (.list (xs.map .int)) = true := by
  unfold SeqAt.shaped
  have h1 : PyData.canLay0 (.list (xs.map PyData.int)) = true := by
    rw [PyData.canLay0]
    induction xs with
    | nil => rfl
    | cons x xs ih => rw [List.map_cons, PyData.canLayAll0, ih]; rfl
  have h2 : PyData.depth (.list (xs.map PyData.int)) ≤ 64 := by
    have : PyData.depthAll (xs.map PyData.int) = 0 := by
      induction xs with
      | nil => rfl
      | cons x xs ih =>
        have h1' : PyData.canLay0 (.list (xs.map PyData.int)) = true := by
          rw [PyData.canLay0] at h1 ⊢
          rw [List.map_cons, PyData.canLayAll0, Bool.and_eq_true] at h1
          exact h1.2
        rw [List.map_cons, PyData.depthAll, ih h1', PyData.depth]; rfl
    rw [PyData.depth, this]; decide
  rw [h1, decide_eq_true h2]; rfl
theorem eqv_nil (ps : List PyData) : PyData.eqv (.list ps) (.list []) = ps.isEmpty := by
  cases ps <;> simp [PyData.eqv, PyData.eqvAll]
/-- xs != [] -/
theorem ne_nil (hg : M.get a = some (.lst ds)) (hb : M.get b = some (.lst [])) {ps : List PyData} (h : toPl (refP 39 M) ds = some ps) (hs : SeqAt.shaped (.list ps) = true) : Ok (gNe (.ref a) (.ref b) M) P ↔ P (.bl (!ds.isEmpty)) M := by
  have e1 := toP_lst hg h
  have e2 : toP M (.ref b) = some (.list []) := toP_lst hb (by simp [toPl])
  have e3 : ps.isEmpty = ds.isEmpty := by
    cases ds with
    | nil => simp [toPl] at h; subst h; rfl
    | cons d ds =>
      rw [toPl] at h
      split at h
      · cases h; rfl
      · cases h
  have e4 : SeqAt.shaped (.list []) = true := by decide
  unfold gNe eqD
  rw [show eqS (.ref a) (.ref b) = none from rfl]
  simp only [e1, e2, hs, e4, and_self, if_true]
  rw [eqv_nil, e3]
  simp
end

/-! ### the hand -/
structure Hd (M : Mem) (h r : Nat) (xs : List Int) (seed : Int) : Prop where
  top : M.get h = some (.lst [.ref r, .int seed])
  lst : M.get r = some (.lst (xs.map .int))
  few : xs.length ≤ 63
theorem Hd.ne {M : Mem} {h r : Nat} {xs : List Int} {seed : Int} (H : Hd M h r xs seed) : h ≠ r := fun e => by
  have h1 := H.top
  rw [e, H.lst] at h1
  cases xs with
  | nil => cases h1
  | cons x xs => injection h1 with h1; injection h1 with h1; rw [List.map_cons] at h1; injection h1 with h1; cases h1
/-- all but the hand stands as it was -/
structure Fr (h r : Nat) (M M' : Mem) : Prop where
  le : M.sz ≤ M'.sz
  eq : ∀ n, n < M.sz → n ≠ h → n ≠ r → M'.get n = M.get n
theorem Fr.refl {h r : Nat} {M : Mem} : Fr h r M M := ⟨Nat.le_refl _, fun _ _ _ _ => rfl⟩
theorem Fr.trans {h r : Nat} {M M' M'' : Mem} (a : Fr h r M M') (b : Fr h r M' M'') : Fr h r M M'' := ⟨Nat.le_trans a.le b.le, fun n h1 h2 h3 => (b.eq n (Nat.lt_of_lt_of_le h1 a.le) h2 h3).trans (a.eq n h1 h2 h3)⟩
theorem Fr.new {h r : Nat} {M M' : Mem} {o : O} (a : Fr h r M M') : Fr h r M (M'.new o) := ⟨by rw [Mem.sz_new]; exact Nat.le_succ_of_le a.le, fun n h1 h2 h3 => (Mem.get_new_lt (Nat.lt_of_lt_of_le h1 a.le)).trans (a.eq n h1 h2 h3)⟩
theorem Fr.putH {h r : Nat} {M M' : Mem} {o : O} (a : Fr h r M M') : Fr h r M (M'.put h o) := ⟨by rw [Mem.sz_put]; exact a.le, fun n h1 h2 h3 => (Mem.get_put_ne (Ne.symm h2)).trans (a.eq n h1 h2 h3)⟩
theorem Fr.putR {h r : Nat} {M M' : Mem} {o : O} (a : Fr h r M M') : Fr h r M (M'.put r o) := ⟨by rw [Mem.sz_put]; exact a.le, fun n h1 h2 h3 => (Mem.get_put_ne (Ne.symm h3)).trans (a.eq n h1 h2 h3)⟩
theorem Fr.putN {h r n : Nat} {M M' : Mem} {o : O} (a : Fr h r M M') (hn : M.sz ≤ n) : Fr h r M (M'.put n o) := ⟨by rw [Mem.sz_put]; exact a.le, fun m h1 h2 h3 => (Mem.get_put_ne (by omega)).trans (a.eq m h1 h2 h3)⟩
theorem Hd.new {M : Mem} {h r : Nat} {xs : List Int} {seed : Int} (H : Hd M h r xs seed) {o : O} : Hd (M.new o) h r xs seed := ⟨(Mem.get_new_lt (Mem.get_lt H.top)).trans H.top, (Mem.get_new_lt (Mem.get_lt H.lst)).trans H.lst, H.few⟩
theorem Hd.keep {M M' : Mem} {h r : Nat} {xs : List Int} {seed : Int} (H : Hd M h r xs seed) (e1 : M'.get h = M.get h) (e2 : M'.get r = M.get r) : Hd M' h r xs seed := ⟨e1.trans H.top, e2.trans H.lst, H.few⟩

def b_pick : Sv := sCons (sWhile (xAnd (xVal (eOp gNe (eOp gIx (eVar 0) (eCon (.int 0))) (eLst []))) (xVal (eOp gEq (eOp gIx (eOp gIx (eVar 0) (eCon (.int 0))) (eCon (.int 0))) (eCon (.int 0))))) (sCons (sEx (eMt "list" gPopAt (eOp gIx (eVar 0) (eCon (.int 0))) [eCon (.int 0)])) (sNil))) (sCons (sIf (xVal (eOp gNe (eOp gIx (eVar 0) (eCon (.int 0))) (eLst []))) (sCons (sAsg (eOp gMod (eOp gIx (eOp gIx (eVar 0) (eCon (.int 0))) (eCon (.int 0))) (eVar 1)) (gNm 3)) (sCons (sAsg (eOp gFdiv (eOp gIx (eOp gIx (eVar 0) (eCon (.int 0))) (eCon (.int 0))) (eVar 1)) (gSb (eOp gIx (eVar 0) (eCon (.int 0))) (eCon (.int 0)))) (sCons (sRet (eVar 3)) (sNil)))) (sNil)) (sCons (sAsg (eOp gMod (eOp gAdd (eOp gMul (eOp gIx (eVar 0) (eCon (.int 1))) (eCon (.int 3935559000370003))) (eCon (.int 2691343689449507))) (eCon (.int 2305843009213693951))) (gSb (eVar 0) (eCon (.int 1)))) (sCons (sAsg (eOp gFdiv (eOp gIx (eVar 0) (eCon (.int 1))) (eCon (.int 65537))) (gNm 2)) (sCons (sRet (eOp gMod (eOp gFdiv (eOp gMod (eOp gMul (eVar 2) (eOp gAdd (eOp gMod (eVar 2) (eCon (.int 8191))) (eCon (.int 3)))) (eCon (.int 2305843009213693921))) (eCon (.int 4099))) (eVar 1))) (sNil)))))
section
variable {M : Mem} {h r : Nat} {xs : List Int} {seed : Int} {B : Bool → Mem → Prop} {P : D → Mem → Prop}
/-- hand[0] != [] -/
theorem some_left (H : Hd M h r xs seed) {ρ : Rho} (h0 : ρ[0]? = some (some (.ref h))) : Ok (xVal (eOp gNe (eOp gIx (eVar 0) (eCon (.int 0))) (eLst [])) ρ M) B ↔ B (!xs.isEmpty) (M.new (.lst [])) := by
  have H' := H.new (o := .lst [])
  simp only [ok_xval, ok_op, ok_var, h0, Option.some.injEq, exists_eq_left', ok_con, ix_lst H.top atI_0, ok_lst, ok_args0]
  rw [ne_nil H'.lst Mem.get_new_same (toPl_ints _ _) (shaped_ints _)]
  cases xs <;> simp [truth]
/-- hand[0][0] -/
theorem first_left {x : Int} (H : Hd M h r (x :: xs) seed) {ρ : Rho} (h0 : ρ[0]? = some (some (.ref h))) : Ok (eOp gIx (eOp gIx (eVar 0) (eCon (.int 0))) (eCon (.int 0)) ρ M) P ↔ P (.int x) M := by
  simp only [ok_op, ok_var, h0, Option.some.injEq, exists_eq_left', ok_con, ix_lst H.top atI_0]
  rw [ix_lst H.lst atI_0]
theorem hand_of (H : Hd M h r xs seed) {ρ : Rho} (h0 : ρ[0]? = some (some (.ref h))) : Ok (eOp gIx (eVar 0) (eCon (.int 0)) ρ M) P ↔ P (.ref r) M := by
  simp only [ok_op, ok_var, h0, Option.some.injEq, exists_eq_left', ok_con, ix_lst H.top atI_0]
theorem seed_of (H : Hd M h r xs seed) {ρ : Rho} (h0 : ρ[0]? = some (some (.ref h))) : Ok (eOp gIx (eVar 0) (eCon (.int 1)) ρ M) P ↔ P (.int seed) M := by
  simp only [ok_op, ok_var, h0, Option.some.injEq, exists_eq_left', ok_con, ix_lst H.top atI_1]
@[simp] theorem ok_mod {i j : Int} : Ok (gMod (.int i) (.int j) M) P ↔ 0 < j ∧ P (.int (i % j)) M := by
  unfold gMod
  split <;> simp_all
@[simp] theorem ok_fdiv {i j : Int} : Ok (gFdiv (.int i) (.int j) M) P ↔ (0 < j ∧ j.natAbs.log2 < 9000) ∧ P (.int (i / j)) M := by
  unfold gFdiv
  split <;> simp_all
@[simp] theorem ok_add {i j : Int} : Ok (gAdd (.int i) (.int j) M) P ↔ P (.int (i + j)) M := by simp [gAdd]
@[simp] theorem ok_sub {i j : Int} : Ok (gSub (.int i) (.int j) M) P ↔ P (.int (i - j)) M := by simp [gSub]
@[simp] theorem ok_mul {i j : Int} : Ok (gMul (.int i) (.int j) M) P ↔ mulOk i j = true ∧ P (.int (i * j)) M := by
  unfold gMul
  split <;> simp_all
@[simp] theorem ok_eqi {i j : Int} : Ok (gEq (.int i) (.int j) M) P ↔ P (.bl (i == j)) M := by simp [gEq, eqD, eqS]
@[simp] theorem ok_gti {i j : Int} : Ok (gGt (.int i) (.int j) M) P ↔ P (.bl (decide (j < i))) M := by simp [gGt]
@[simp] theorem ok_gei {i j : Int} : Ok (gGe (.int i) (.int j) M) P ↔ P (.bl (decide (j ≤ i))) M := by simp [gGe]
theorem mulOk_r {i j : Int} (h : j.natAbs < 2 ^ 64) : mulOk i j = true := by
  unfold mulOk
  rw [decide_eq_true h, Bool.or_true, Bool.true_or]
theorem mulOk_l {i j : Int} (h : i.natAbs < 2 ^ 64) : mulOk i j = true := by
  unfold mulOk
  rw [decide_eq_true h, Bool.true_or, Bool.true_or]
theorem pick_ok (H : Hd M h r xs seed) {many : Int} (hm : 0 < many) (hl : many < 2 ^ 64) :
    Ok (bodyD b_pick 4 [.ref h, .int many] M) fun d M' => ∃ z, d = .int z ∧ 0 ≤ z ∧ z < many ∧ (∃ xs' seed', Hd M' h r xs' seed') ∧ Fr h r M M' := by
  have hlog : many.natAbs.log2 < 9000 := by
    have h1 : many.natAbs < 2 ^ 64 := by omega
    have h2 : many.natAbs.log2 < 64 := by
      by_cases h0 : many.natAbs = 0
      · omega
      · exact (Nat.log2_lt h0).mpr h1
    omega
  rw [ok_body]
  unfold b_pick
  rw [ok_cons]
  refine while_ok (fun m ρ M' => ρ = [some (.ref h), some (.int many), none, none] ∧ (∃ ys, ys.length = m ∧ ∃ sd, Hd M' h r ys sd) ∧ Fr h r M M') ?_ (m := xs.length) (by have := H.few; omega) ⟨rfl, ⟨xs, rfl, _, H⟩, Fr.refl⟩
  rintro m ρ M1 ⟨rfl, ⟨ys, rfl, sd, H1⟩, F1⟩
  rw [ok_xand, some_left H1 rfl]
  have H2 := H1.new (o := .lst [])
  have F2 : Fr h r M (M1.new (.lst [])) := F1.new
  cases ys with
  | nil =>
    simp only [List.isEmpty_nil, Bool.not_true, Bool.false_eq_true, if_false]
    have H3 := H2.new (o := .lst [])
    simp only [behind_nx, ok_cons, ok_sif, some_left H2 (ρ := [some (.ref h), some (.int many), none, none]) rfl, List.isEmpty_nil, Bool.not_true, Bool.false_eq_true, if_false, ok_nil, ok_asg]
    simp only [ok_op (a := eOp gAdd _ _), ok_op (a := eOp gMul _ _), ok_op (a := eOp gIx (eVar 0) (eCon (.int 1))), seed_of H3 (ρ := [some (.ref h), some (.int many), none, none]) rfl, ok_con, ok_mul, ok_add, ok_mod]
    refine ⟨mulOk_r (by decide), by decide, ?_⟩
    generalize hs : (sd * 3935559000370003 + 2691343689449507) % 2305843009213693951 = sd2
    simp only [okg_sb, ok_var, ok_con, List.getElem?_cons_zero, Option.some.injEq, exists_eq_left']
    have hh := H3.top
    refine ⟨(M1.new (.lst [])).new (.lst []) |>.put h (.lst [.ref r, .int sd2]), by simp only [gSet, hh]; rfl, ?_⟩
    have H4 : Hd (((M1.new (.lst [])).new (.lst [])).put h (.lst [.ref r, .int sd2])) h r [] sd2 := ⟨Mem.get_put_same (Mem.get_lt hh), (Mem.get_put_ne H3.ne).trans H3.lst, by decide⟩
    simp only [behind_nx, ok_cons, ok_asg, ok_op (a := eOp gIx (eVar 0) (eCon (.int 1))), seed_of H4 (ρ := [some (.ref h), some (.int many), none, none]) rfl, ok_con, ok_fdiv, okg_nm]
    refine ⟨by decide, ?_⟩
    have e0 : 0 ≤ sd2 := by omega
    have e1 : sd2 < 2305843009213693951 := by omega
    simp only [List.set_cons_succ, List.set_cons_zero, behind_nx, ok_cons, ok_ret, ok_op, ok_var, ok_con, List.getElem?_cons_succ, List.getElem?_cons_zero, Option.some.injEq, exists_eq_left', ok_mod, ok_add, ok_mul, ok_fdiv, behind_rt, ends_rt]
    refine ⟨by decide, mulOk_l (by omega), by decide, by decide, hm, ?_⟩
    refine ⟨_, rfl, Int.emod_nonneg _ (by omega), Int.emod_lt_of_pos _ hm, ⟨_, _, H4⟩, F2.new.putH⟩
  | cons y ys =>
    simp only [List.isEmpty_cons, Bool.not_false, if_true]
    simp only [ok_xval, ok_op (a := eOp gIx (eOp gIx (eVar 0) (eCon (.int 0))) (eCon (.int 0))), first_left H2 (ρ := [some (.ref h), some (.int many), none, none]) rfl, ok_con, ok_eqi, truth]
    simp only [Option.some.injEq, exists_eq_left']
    by_cases hy : y = 0
    · subst hy
      simp only [beq_self_eq_true, if_true, ok_cons, ok_ex, ok_mt, hand_of H2 (ρ := [some (.ref h), some (.int many), none, none]) rfl, ok_args1, ok_args0, ok_con]
      have hr := H2.lst
      refine ⟨by simp [isTy, hr], ?_⟩
      have e : gPopAt (.ref r) [.int 0] (M1.new (.lst [])) = some (.int 0, (M1.new (.lst [])).put r (.lst (ys.map .int))) := by
        simp only [gPopAt, hr]
        rw [if_pos (by decide)]
        have : seqIndex? 0 ((0 :: ys).map D.int).length = some 0 := by
          unfold seqIndex?
          simp <;> omega
        rw [this]
        rfl
      rw [e]
      simp only [ok_some, behind_nx, ok_nil, turned_nx]
      refine ⟨ys.length, by simp, by first | rfl | trivial, ⟨ys, rfl, sd, ⟨(Mem.get_put_ne (Ne.symm H2.ne)).trans H2.top, Mem.get_put_same (Mem.get_lt hr), by have := H2.few; simp at this; omega⟩⟩, F2.putR⟩
    · have : (y == 0) = false := by simpa using hy
      simp only [this, Bool.false_eq_true, if_false, behind_nx, ok_cons, ok_sif, some_left H2 (ρ := [some (.ref h), some (.int many), none, none]) rfl, List.isEmpty_cons, Bool.not_false, if_true]
      have H3 := H2.new (o := .lst [])
      simp only [ok_asg, ok_op (a := eOp gIx (eOp gIx (eVar 0) (eCon (.int 0))) (eCon (.int 0))), first_left H3 (ρ := [some (.ref h), some (.int many), none, none]) rfl, ok_var, List.getElem?_cons_succ, List.getElem?_cons_zero, Option.some.injEq, exists_eq_left', ok_mod, okg_nm, List.set_cons_succ, List.set_cons_zero]
      refine ⟨hm, ?_⟩
      simp only [behind_nx, ok_cons, ok_asg, ok_op (a := eOp gIx (eOp gIx (eVar 0) (eCon (.int 0))) (eCon (.int 0))), first_left H3 (ρ := [some (.ref h), some (.int many), none, some (.int (y % many))]) rfl, ok_var, List.getElem?_cons_succ, List.getElem?_cons_zero, Option.some.injEq, exists_eq_left', ok_fdiv]
      refine ⟨⟨hm, hlog⟩, ?_⟩
      simp only [okg_sb, hand_of H3 (ρ := [some (.ref h), some (.int many), none, some (.int (y % many))]) rfl, ok_con]
      have hr := H3.lst
      have H4 : Hd (((M1.new (.lst [])).new (.lst [])).put r (.lst ((y / many :: ys).map .int))) h r (y / many :: ys) sd := ⟨(Mem.get_put_ne (Ne.symm H3.ne)).trans H3.top, Mem.get_put_same (Mem.get_lt hr), by have := H3.few; simpa using this⟩
      refine ⟨_, by
        simp only [gSet, hr]
        have : ixN ((y :: ys).map D.int).length 0 = some 0 := by unfold ixN; rw [if_pos (by decide), if_pos (by simp <;> omega)]; rfl
        rw [this]
        rfl, ?_⟩
      simp only [behind_nx, ok_cons, ok_ret, ok_var, List.getElem?_cons_succ, List.getElem?_cons_zero, Option.some.injEq, exists_eq_left', behind_rt, ends_rt]
      exact ⟨_, rfl, Int.emod_nonneg _ (by omega), Int.emod_lt_of_pos _ hm, ⟨_, _, H4⟩, F2.new.putR⟩
end

/-! ### the three that every law has -/
def HD (M : Mem) (h r : Nat) : Prop := ∃ xs seed, Hd M h r xs seed
theorem HD.new {M : Mem} {h r : Nat} {o : O} (H : HD M h r) : HD (M.new o) h r := let ⟨xs, s, q⟩ := H; ⟨xs, s, q.new⟩
theorem HD.keep {M M' : Mem} {h r : Nat} (H : HD M h r) (e1 : M'.get h = M.get h) (e2 : M'.get r = M.get r) : HD M' h r := let ⟨xs, s, q⟩ := H; ⟨xs, s, q.keep e1 e2⟩
theorem HD.lt {M : Mem} {h r : Nat} (H : HD M h r) : h < M.sz := let ⟨_, _, q⟩ := H; Mem.get_lt q.top
theorem HD.lt2 {M : Mem} {h r : Nat} (H : HD M h r) : r < M.sz := let ⟨_, _, q⟩ := H; Mem.get_lt q.lst
theorem HD.put {M : Mem} {h r n : Nat} {o : O} (H : HD M h r) (h1 : n ≠ h) (h2 : n ≠ r) : HD (M.put n o) h r := H.keep (Mem.get_put_ne h1) (Mem.get_put_ne h2)
structure PickOk (g : Bf) : Prop where
  ok : ∀ {M : Mem} {h r : Nat} {many : Int}, HD M h r → 0 < many → many < 2 ^ 64 → Ok (g [.ref h, .int many] M) fun d M' => ∃ z, d = .int z ∧ 0 ≤ z ∧ z < many ∧ HD M' h r ∧ Fr h r M M'
theorem pick_is : PickOk (bodyD b_pick 4) := ⟨fun ⟨_, _, H⟩ h1 h2 => (pick_ok H h1 h2).mono fun d M' ⟨z, e, a, b, ⟨x, s, c⟩, f⟩ => ⟨z, e, a, b, ⟨x, s, c⟩, f⟩⟩
def b_of (pk : Bf) : Sv := sCons (sRet (eOp gIx (eVar 1) (eCallD pk [eVar 0, eCall gLen [eVar 1]] []))) (sNil)
structure OfOk (g : Bf) : Prop where
  lst : ∀ {M : Mem} {h r n : Nat} {ds : List D}, HD M h r → M.get n = some (.lst ds) → n ≠ h → n ≠ r → ds ≠ [] → ds.length < 2 ^ 62 → Ok (g [.ref h, .ref n] M) fun d M' => d ∈ ds ∧ HD M' h r ∧ Fr h r M M'
  str : ∀ {M : Mem} {h r : Nat} {z : Str}, HD M h r → z.cps.toList ≠ [] → z.length ≤ sizeLine → Ok (g [.ref h, .str z] M) fun d M' => (∃ c ∈ z.cps.toList, d = .str ⟨#[c]⟩) ∧ HD M' h r ∧ Fr h r M M'
  tup : ∀ {M : Mem} {h r : Nat} {ds : List D}, HD M h r → ds ≠ [] → ds.length < 2 ^ 62 → Ok (g [.ref h, .tup ds] M) fun d M' => d ∈ ds ∧ HD M' h r ∧ Fr h r M M'
theorem of_is {pk : Bf} (pk_ok : PickOk pk) : OfOk (bodyD (b_of pk) 2) where
  lst := fun {M h r n ds} H hg n1 n2 hne hl => by
    rw [ok_body]
    unfold b_of
    simp only [List.map_cons, List.map_nil, List.cons_append, List.nil_append, ok_cons, ok_ret, ok_op, ok_var, List.getElem?_cons_succ, List.getElem?_cons_zero, Option.some.injEq, exists_eq_left', ok_callD, ok_call, ok_args1, ok_args0, List.append_nil, gLen, hg, ok_some, behind_rt, ends_rt]
    have hpos : 0 < ds.length := List.length_pos_iff.mpr hne
    refine (pk_ok.ok H (by omega) (by omega)).mono fun d M' ⟨z, e, h0, h1, H', F⟩ => ?_
    subst e
    have hg' : M'.get n = some (.lst ds) := (F.eq n (Mem.get_lt hg) n1 n2).trans hg
    have hz : z.toNat < ds.length := by omega
    rw [ix_lst hg' (d := ds[z.toNat]) (by rw [atI_nat h0 (by omega)]; exact List.getElem?_eq_getElem hz)]
    exact ⟨List.getElem_mem hz, H', F⟩
  str := fun {M h r z} H hne hl => by
    rw [ok_body]
    unfold b_of
    simp only [List.map_cons, List.map_nil, List.cons_append, List.nil_append, ok_cons, ok_ret, ok_op, ok_var, List.getElem?_cons_succ, List.getElem?_cons_zero, Option.some.injEq, exists_eq_left', ok_callD, ok_call, ok_args1, ok_args0, List.append_nil, gLen, hl, if_true, ok_some, behind_rt, ends_rt]
    have hs : z.length = z.cps.toList.length := by simp [Str.length]
    have hpos : 0 < z.cps.toList.length := List.length_pos_iff.mpr hne
    have hbig : sizeLine < 2 ^ 62 := by decide
    refine (pk_ok.ok H (by omega) (by omega)).mono fun d M' ⟨y, e, h0, h1, H', F⟩ => ?_
    subst e
    have hz : y.toNat < z.cps.toList.length := by omega
    have e1 : atI z.cps.toList y = some z.cps.toList[y.toNat] := by rw [atI_nat h0 (by omega)]; exact List.getElem?_eq_getElem hz
    simp only [gIx, hl, if_true, e1, Option.map_some, ok_some]
    exact ⟨⟨_, List.getElem_mem hz, rfl⟩, H', F⟩
  tup := fun {M h r ds} H hne hl => by
    rw [ok_body]
    unfold b_of
    simp only [List.map_cons, List.map_nil, List.cons_append, List.nil_append, ok_cons, ok_ret, ok_op, ok_var, List.getElem?_cons_succ, List.getElem?_cons_zero, Option.some.injEq, exists_eq_left', ok_callD, ok_call, ok_args1, ok_args0, List.append_nil, gLen, ok_some, behind_rt, ends_rt]
    have hpos : 0 < ds.length := List.length_pos_iff.mpr hne
    refine (pk_ok.ok H (by omega) (by omega)).mono fun d M' ⟨z, e, h0, h1, H', F⟩ => ?_
    subst e
    have hz : z.toNat < ds.length := by omega
    rw [ix_tup (d := ds[z.toNat]) (by rw [atI_nat h0 (by omega)]; exact List.getElem?_eq_getElem hz)]
    exact ⟨List.getElem_mem hz, H', F⟩
def b_hand : Sv := sCons (sAsg (eCon (.int 23)) (gNm 1)) (sCons (sFor (wSeq (eSl (eVar 0) none (some (eCon (.int 63))))) (gNm 2) (sCons (sAsg (eOp gMod (eOp gAdd (eOp gAdd (eOp gMul (eVar 1) (eCon (.int 6364136223846793))) (eOp gMod (eVar 2) (eCon (.int 2305843009213693951)))) (eCon (.int 31))) (eCon (.int 2305843009213693951))) (gNm 1)) (sNil))) (sCons (sRet (eLst [eLc (wSeq (eSl (eVar 0) none (some (eCon (.int 63))))) (gNm 2) (xVal (eOp gGe (eVar 2) (eOp gPow (eCon (.int 10)) (eCon (.int 18))))) (eVar 2) [2], eVar 1])) (sNil)))
theorem cut63 {α : Type} (xs : List α) (h : xs.length ≤ 63) : cutD xs none (some 63) = xs := by
  have e1 : HT.sIx xs.length 0 none = 0 := rfl
  have e2 : HT.sIx xs.length xs.length (some 63) = xs.length := by
    have := HT.sIx_nat xs.length xs.length 63
    rw [show ((63 : Nat) : Int) = 63 from rfl] at this
    omega
  unfold cutD
  rw [e1, e2, List.drop_zero, Nat.sub_zero, List.take_length]
theorem walk63 {ns : List Int} (hn : ns.length ≤ 63) {M : Mem} {ρ : Rho} (h0 : ρ[0]? = some (some (.rol ns))) {P : Wk → Mem → Prop} (h : P ⟨ns.map .int, [(M.sz, .lst (ns.map .int))]⟩ (M.new (.lst (ns.map .int)))) : Ok (wSeq (eSl (eVar 0) none (some (eCon (.int 63)))) ρ M) P := by
  unfold wSeq
  rw [ok_bnd]
  have e : eSl (eVar 0) none (some (eCon (.int 63))) ρ M = some (.ref M.sz, M.new (.lst (ns.map .int))) := by
    simp only [eSl, eVar, h0, bnd_some, ePart, eCon, gSl, cut63 ns hn]
  rw [e]
  simp only [ok_some, Mem.get_new_same]
  exact h
theorem hand_ok {ns : List Int} (hn : ns.length ≤ 63) {M : Mem} : Ok (bodyD b_hand 3 [.rol ns] M) fun d M' => ∃ h r, d = .ref h ∧ HD M' h r := by
  rw [ok_body]
  unfold b_hand
  simp only [List.map_cons, List.map_nil, List.cons_append, List.nil_append, ok_cons, ok_asg, ok_con, okg_nm, behind_nx]
  rw [ok_for]
  refine walk63 hn (by rfl) ?_
  refine for_ok (fun i ρ M' => (∃ sd x, ρ = [some (.rol ns), some (.int sd), x] ∧ 0 ≤ sd ∧ sd < 2305843009213693951) ∧ M' = M.new (.lst (ns.map .int))) (ns.map D.int) (fun i ρ M' _ ⟨_, e⟩ => by subst e; simp [Wk.ok, Mem.get_new]) ?_ ?_ ⟨⟨23, none, rfl, by decide, by decide⟩, rfl⟩
  · rintro i d ρ M' hd ⟨⟨sd, x, rfl, h0, h1⟩, rfl⟩
    rw [List.getElem?_map] at hd
    obtain ⟨c, hc, rfl⟩ := Option.map_eq_some_iff.mp hd
    simp only [okg_nm, List.set_cons_succ, List.set_cons_zero, ok_cons, ok_asg, ok_op, ok_var, ok_con, List.getElem?_cons_succ, List.getElem?_cons_zero, Option.some.injEq, exists_eq_left', ok_mod, ok_add, ok_mul, behind_nx, ok_nil, turned_nx]
    exact ⟨mulOk_r (by decide), by decide, by decide, ⟨_, _, rfl, Int.emod_nonneg _ (by decide), Int.emod_lt_of_pos _ (by decide)⟩, by trivial⟩
  · rintro ρ M' ⟨⟨sd, x, rfl, h0, h1⟩, rfl⟩
    simp only [behind_nx, ok_cons, ok_ret, ok_lst, ok_args1, lc_ok]
    refine walk63 hn (by rfl) ?_
    refine lc_go_ok (fun i ds M' => (∃ cs : List Int, ds = cs.map .int ∧ cs.length ≤ i) ∧ M' = (M.new (.lst (ns.map .int))).new (.lst (ns.map .int))) (ns.map D.int) (fun i ds M' _ ⟨_, e⟩ => by subst e; simp [Wk.ok, Mem.get_new]) ?_ ?_ ⟨⟨[], rfl, Nat.le_refl _⟩, rfl⟩
    · rintro i d ds M' hd ⟨⟨cs, rfl, hl⟩, rfl⟩
      rw [List.getElem?_map] at hd
      obtain ⟨c, hc, rfl⟩ := Option.map_eq_some_iff.mp hd
      have hp : (eOp gPow (eCon (.int 10)) (eCon (.int 18))) = fun (_ : Rho) (M : Mem) => some (D.int (10 ^ 18), M) := by
        funext ρ M
        simp only [eOp, eCon, bnd_some, gPow]
        rw [if_pos (by decide +kernel)]
        rfl
      simp only [wipeD, okg_nm, List.set_cons_succ, List.set_cons_zero, ok_xval, hp, ok_op, ok_var, ok_some, List.getElem?_cons_succ, List.getElem?_cons_zero, Option.some.injEq, exists_eq_left', ok_gei, truth]
      split
      · exact ⟨⟨cs ++ [c], by simp, by simp; omega⟩, by trivial⟩
      · exact ⟨⟨cs, rfl, by omega⟩, by trivial⟩
    · rintro ds M' ⟨⟨cs, rfl, hl⟩, rfl⟩
      simp only [List.length_map] at hl ⊢
      refine ⟨by omega, ?_⟩
      simp only [ok_args1, ok_args0, ok_var, List.getElem?_cons_succ, List.getElem?_cons_zero, Option.some.injEq, exists_eq_left', behind_rt, ends_rt]
      exact ⟨_, _, rfl, cs, sd, Mem.get_new_same, (Mem.get_new_lt (by simp)).trans Mem.get_new_same, by omega⟩
end Nl

set_option autoImplicit false
/-! Nl, part R: plain values: repr, !=; plans as trees. -/
namespace Nl
open PySem L2

/-! ### plain values, not great -/
def ascii (x : Str) : Bool := x.cps.toList.all fun c => decide (c < 128)
mutual
def gdD : D → Bool
  | .non => true
  | .bl _ => true
  | .int i => decide (-999999999999 ≤ i) && decide (i ≤ 999999999999)
  | .str x => ascii x
  | .tup ds => gdL ds
  | _ => false
def gdL : List D → Bool
  | [] => true
  | d :: ds => gdD d && gdL ds
end
mutual
def bkD : D → Nat
  | .str x => x.length
  | .tup ds => bkL ds
  | _ => 0
def bkL : List D → Nat
  | [] => 0
  | d :: ds => bkD d + 1 + bkL ds
end
mutual
def dpD : D → Nat
  | .tup ds => dpL ds + 1
  | _ => 0
def dpL : List D → Nat
  | [] => 0
  | d :: ds => max (dpD d) (dpL ds)
end
-- as data
mutual
def toQ : D → PyData
  | .bl b => .bool b
  | .int i => .int i
  | .str x => .str x
  | .tup ds => .tuple (toQs ds)
  | _ => .none
def toQs : List D → List PyData
  | [] => []
  | d :: ds => toQ d :: toQs ds
end
mutual
theorem toPs_gd (rf : Nat → Option PyData) : ∀ d : D, gdD d = true → toPs rf d = some (toQ d)
  | .non, _ => by simp [toPs, toQ]
  | .bl _, _ => by simp [toPs, toQ]
  | .int _, _ => by simp [toPs, toQ]
  | .str _, _ => by simp [toPs, toQ]
  | .tup ds, h => by rw [gdD] at h; simp [toPs, toQ, toPl_gd rf ds h]
  | .ref _, h => by simp [gdD] at h
  | .rol _, h => by simp [gdD] at h
  | .fn _, h => by simp [gdD] at h
  | .ty _, h => by simp [gdD] at h
theorem toPl_gd (rf : Nat → Option PyData) : ∀ ds : List D, gdL ds = true → toPl rf ds = some (toQs ds)
  | [], _ => by simp [toPl, toQs]
  | d :: ds, h => by
    rw [gdL, Bool.and_eq_true] at h
    simp [toPl, toQs, toPs_gd rf d h.1, toPl_gd rf ds h.2]
end
theorem ascii_ok {x : Str} (h : ascii x = true) : PyData.canLay0 (.str x) = true ∧ PyData.leavesShort 13 (.str x) = true := by
  have hx : ∀ c ∈ x.cps.toList, c < 128 := fun c hc => of_decide_eq_true (List.all_eq_true.mp h c hc)
  constructor
  · have e : PyData.strOk x = x.cps.toList.all fun c => decide (c < 0x110000) := by
      unfold PyData.strOk
      rw [← Array.all_toList]
    rw [PyData.canLay0, e, List.all_eq_true]
    intro c hc
    have := hx c hc
    exact decide_eq_true (by omega)
  · simp only [PyData.leavesShort, List.all_eq_true, decide_eq_true_eq]
    intro c hc
    have := hx c hc
    have : (128 : Nat) < 16 ^ 8 := by decide
    omega
theorem int_small {i : Int} (h1 : -999999999999 ≤ i) (h2 : i ≤ 999999999999) : i.natAbs.log2 < 1920 := by
  have : i.natAbs < 2 ^ 64 := by omega
  by_cases h0 : i.natAbs = 0
  · rw [h0]; decide
  · have := (Nat.log2_lt h0).mpr this
    omega
mutual
theorem gd_facts : ∀ d : D, gdD d = true → (toQ d).canLay0 = true ∧ (toQ d).leavesShort 13 = true ∧ (toQ d).showable = true ∧ (toQ d).depth = dpD d ∧ (toQ d).bulk = bkD d
  | .non, _ => by simp [toQ, PyData.canLay0, PyData.leavesShort, PyData.showable, PyData.depth, dpD, PyData.bulk, bkD]
  | .bl _, _ => by simp [toQ, PyData.canLay0, PyData.leavesShort, PyData.showable, PyData.depth, dpD, PyData.bulk, bkD]
  | .int i, h => by
    simp only [gdD, Bool.and_eq_true, decide_eq_true_eq] at h
    simp only [toQ, PyData.canLay0, PyData.leavesShort, PyData.showable, PyData.depth, dpD, PyData.bulk, bkD, decide_eq_true_eq, true_and, and_true]
    exact ⟨PyData.shown_int_le2 h.1 h.2, int_small h.1 h.2⟩
  | .str x, h => by
    rw [gdD] at h
    obtain ⟨h1, h2⟩ := ascii_ok h
    refine ⟨h1, h2, ?_⟩
    simp [toQ, PyData.showable, PyData.depth, dpD, PyData.bulk, bkD]
    rfl
  | .tup ds, h => by
    rw [gdD] at h
    obtain ⟨h1, h2, h3, h4, h5⟩ := gdL_facts ds h
    simp only [toQ, PyData.canLay0, PyData.leavesShort, PyData.showable, PyData.depth, dpD, PyData.bulk, bkD, h1, h2, h3, h4, h5, and_self]
  | .ref _, h => by simp [gdD] at h
  | .rol _, h => by simp [gdD] at h
  | .fn _, h => by simp [gdD] at h
  | .ty _, h => by simp [gdD] at h
theorem gdL_facts : ∀ ds : List D, gdL ds = true → PyData.canLayAll0 (toQs ds) = true ∧ PyData.leavesShortAll 13 (toQs ds) = true ∧ PyData.showableAll (toQs ds) = true ∧ PyData.depthAll (toQs ds) = dpL ds ∧ PyData.bulkAll (toQs ds) = bkL ds
  | [], _ => by simp [toQs, PyData.canLayAll0, PyData.leavesShortAll, PyData.showableAll, PyData.depthAll, dpL, PyData.bulkAll, bkL]
  | d :: ds, h => by
    rw [gdL, Bool.and_eq_true] at h
    obtain ⟨h1, h2, h3, h4, h5⟩ := gd_facts d h.1
    obtain ⟨k1, k2, k3, k4, k5⟩ := gdL_facts ds h.2
    simp only [toQs, PyData.canLayAll0, PyData.leavesShortAll, PyData.showableAll, PyData.depthAll, dpL, PyData.bulkAll, bkL, h1, h2, h3, h4, h5, k1, k2, k3, k4, k5, Bool.and_self, and_self]
end
/-- a plain value's text -/
def rep (d : D) : Str := (toQ d).shown
theorem ok_repr {d : D} {M : Mem} {P : D → Mem → Prop} (h : gdD d = true) (hb : bkD d ≤ 1000000) (hd : dpD d ≤ 64) : Ok (gRepr [d] M) P ↔ P (.str (rep d)) M := by
  obtain ⟨h1, h2, h3, h4, h5⟩ := gd_facts d h
  have e : toP M d = some (toQ d) := toPs_gd _ d h
  have hz : (toQ d).shown.length ≤ sizeLine := by
    have := PyData.shown_le_bulk 13 (by decide) (toQ d) h2
    have hs := sizeLine_eq
    rw [h5] at this
    omega
  simp only [gRepr, e, h3, hz, h4, hd, and_self, if_true, ok_some]
  rfl
theorem shaped_gd {ds : List D} (h : gdL ds = true) (hd : dpL ds ≤ 63) : SeqAt.shaped (.list (toQs ds)) = true := by
  obtain ⟨h1, h2, h3, h4, h5⟩ := gdL_facts ds h
  unfold SeqAt.shaped
  rw [PyData.canLay0, h1, PyData.depth, h4, decide_eq_true (by omega)]
  rfl
@[simp] theorem ok_eqs {x y : Str} {M : Mem} {P : D → Mem → Prop} : Ok (gEq (.str x) (.str y) M) P ↔ P (.bl (x == y)) M := by simp [gEq, eqD, eqS]
@[simp] theorem ok_nes {x y : Str} {M : Mem} {P : D → Mem → Prop} : Ok (gNe (.str x) (.str y) M) P ↔ P (.bl (!(x == y))) M := by simp [gNe, eqD, eqS]
/-- ds != [] , ds plain -/
theorem ne_nil_gd {M : Mem} {a b : Nat} {ds : List D} {P : D → Mem → Prop} (hg : M.get a = some (.lst ds)) (hb : M.get b = some (.lst [])) (h : gdL ds = true) (hd : dpL ds ≤ 63) : Ok (gNe (.ref a) (.ref b) M) P ↔ P (.bl (!ds.isEmpty)) M :=
  ne_nil hg hb (toPl_gd _ ds h) (shaped_gd h hd)

/-! ### plans as trees -/
inductive T where
  | hand (n : Str)
  | grp (n : Str) (b : Int) (ms : List T)
mutual
def T.d : T → D
  | .hand n => .str n
  | .grp n b ms => .tup [.str n, .int b, .tup (T.ds ms)]
def T.ds : List T → List D
  | [] => []
  | t :: ts => T.d t :: T.ds ts
end
theorem T.ds_map : ∀ ts : List T, T.ds ts = ts.map T.d
  | [] => rfl
  | t :: ts => by rw [T.ds, T.ds_map ts]; rfl
-- the names, each group ahead of its members
mutual
def T.ns : T → List Str
  | .hand n => [n]
  | .grp n _ ms => n :: T.nss ms
def T.nss : List T → List Str
  | [] => []
  | t :: ts => T.ns t ++ T.nss ts
end
-- rows: name, around, bound
mutual
def T.rows (ar : Option Str) : T → List (Str × Option Str × Option Int)
  | .hand n => [(n, ar, none)]
  | .grp n b ms => (n, ar, some b) :: T.rowss (some n) ms
def T.rowss (ar : Option Str) : List T → List (Str × Option Str × Option Int)
  | [] => []
  | t :: ts => T.rows ar t ++ T.rowss ar ts
end
-- rows: name, is a group, the groups around
mutual
def T.told (p : List Str) : T → List (Str × Bool × List Str)
  | .hand n => [(n, false, p)]
  | .grp n _ ms => (n, true, p) :: T.tolds (n :: p) ms
def T.tolds (p : List Str) : List T → List (Str × Bool × List Str)
  | [] => []
  | t :: ts => T.told p t ++ T.tolds p ts
end
mutual
def T.sz : T → Nat
  | .hand _ => 1
  | .grp _ _ ms => T.szs ms + 1
def T.szs : List T → Nat
  | [] => 0
  | t :: ts => T.sz t + T.szs ts
end
mutual
def T.dp : T → Nat
  | .hand _ => 0
  | .grp _ _ ms => T.dps ms + 1
def T.dps : List T → Nat
  | [] => 0
  | t :: ts => max (T.dp t) (T.dps ts)
end
/-- names short and plain, bounds small -/
def nmOk (n : Str) : Bool := ascii n && decide (n.length ≤ 100)
mutual
def T.ok : T → Bool
  | .hand n => nmOk n
  | .grp n b ms => nmOk n && decide (-999999999999 ≤ b) && decide (b ≤ 999999999999) && T.oks ms
def T.oks : List T → Bool
  | [] => true
  | t :: ts => T.ok t && T.oks ts
end
theorem nm_gd {n : Str} (h : nmOk n = true) : gdD (.str n) = true ∧ bkD (.str n) ≤ 100 := by
  unfold nmOk at h
  rw [Bool.and_eq_true, decide_eq_true_eq] at h
  exact ⟨by rw [gdD]; exact h.1, by rw [bkD]; exact h.2⟩
mutual
theorem T.gd : ∀ t : T, t.ok = true → gdD t.d = true ∧ bkD t.d + 1 ≤ 200 * t.sz ∧ dpD t.d ≤ 2 * t.dp
  | .hand n, h => by
    rw [T.ok] at h
    obtain ⟨h1, h2⟩ := nm_gd h
    rw [T.d, T.sz, T.dp]
    exact ⟨h1, by omega, by simp [dpD]⟩
  | .grp n b ms, h => by
    simp only [T.ok, Bool.and_eq_true, decide_eq_true_eq] at h
    obtain ⟨⟨⟨h0, h1⟩, h2⟩, h3⟩ := h
    obtain ⟨k1, k2⟩ := nm_gd h0
    obtain ⟨g1, g2, g3⟩ := T.gds ms h3
    rw [T.d, T.sz, T.dp]
    simp only [gdD, gdL, bkD, bkL, dpD, dpL, g1, Bool.and_eq_true, decide_eq_true_eq, and_true] at k1 k2 ⊢
    exact ⟨⟨k1, h1, h2⟩, by omega, by omega⟩
theorem T.gds : ∀ ts : List T, T.oks ts = true → gdL (T.ds ts) = true ∧ bkL (T.ds ts) ≤ 200 * T.szs ts ∧ dpL (T.ds ts) ≤ 2 * T.dps ts
  | [], _ => by simp [T.ds, gdL, bkL, dpL]
  | t :: ts, h => by
    simp only [T.oks, Bool.and_eq_true] at h
    obtain ⟨h1, h2, h3⟩ := T.gd t h.1
    obtain ⟨g1, g2, g3⟩ := T.gds ts h.2
    simp only [T.ds, gdL, bkL, dpL, h1, g1, T.szs, T.dps, Bool.and_self, true_and]
    have : 1 ≤ t.sz := by cases t <;> simp [T.sz]
    exact ⟨by omega, by omega⟩
end
end Nl

set_option autoImplicit false
/-! Nl, part S: what holds of trees; what stands. -/
namespace Nl
open PySem L2

/-- all but what X names stands as it was -/
structure Fs (X : List Nat) (M M' : Mem) : Prop where
  le : M.sz ≤ M'.sz
  eq : ∀ n, n < M.sz → n ∉ X → M'.get n = M.get n
section
variable {X : List Nat} {M M' M'' : Mem} {h r n : Nat} {o : O}
theorem Fs.refl : Fs X M M := ⟨Nat.le_refl _, fun _ _ _ => rfl⟩
theorem Fs.trans (a : Fs X M M') (b : Fs X M' M'') : Fs X M M'' := ⟨Nat.le_trans a.le b.le, fun n h1 h2 => (b.eq n (Nat.lt_of_lt_of_le h1 a.le) h2).trans (a.eq n h1 h2)⟩
theorem Fs.new (a : Fs X M M') : Fs X M (M'.new o) := ⟨by rw [Mem.sz_new]; exact Nat.le_succ_of_le a.le, fun n h1 h2 => (Mem.get_new_lt (Nat.lt_of_lt_of_le h1 a.le)).trans (a.eq n h1 h2)⟩
theorem Fs.put (a : Fs X M M') (hn : n ∈ X ∨ M.sz ≤ n) : Fs X M (M'.put n o) := ⟨by rw [Mem.sz_put]; exact a.le, fun m h1 h2 => (Mem.get_put_ne (fun e => by
  subst e
  rcases hn with hn | hn
  · exact h2 hn
  · omega)).trans (a.eq m h1 h2)⟩
theorem Fr.fs (a : Fr h r M M') (h1 : h ∈ X) (h2 : r ∈ X) : Fs X M M' := ⟨a.le, fun n hn hx => a.eq n hn (fun e => hx (e ▸ h1)) fun e => hx (e ▸ h2)⟩
theorem Fs.more {Y : List Nat} (a : Fs X M M') (w : ∀ n, n < M.sz → n ∈ X → n ∈ Y) : Fs Y M M' := ⟨a.le, fun n hn hy => a.eq n hn fun hx => hy (w n hn hx)⟩
theorem Fs.after (a : Fs X M M') (b : Fs X M M' → Fs X M' M'') : Fs X M M'' := a.trans (b a)
end

/-! ### names -/
mutual
theorem T.ns_len : ∀ t : T, t.ns.length = t.sz
  | .hand _ => rfl
  | .grp n b ms => by rw [T.ns, T.sz, List.length_cons, T.nss_len ms]
theorem T.nss_len : ∀ ts : List T, (T.nss ts).length = T.szs ts
  | [] => rfl
  | t :: ts => by rw [T.nss, T.szs, List.length_append, T.ns_len t, T.nss_len ts]
end
theorem T.nss_app : ∀ as bs : List T, T.nss (as ++ bs) = T.nss as ++ T.nss bs
  | [], _ => rfl
  | a :: as, bs => by rw [List.cons_append, T.nss, T.nss_app as bs, T.nss, List.append_assoc]
theorem T.oks_app : ∀ as bs : List T, T.oks (as ++ bs) = (T.oks as && T.oks bs)
  | [], _ => by simp [T.oks]
  | a :: as, bs => by rw [List.cons_append, T.oks, T.oks_app as bs, T.oks, Bool.and_assoc]
theorem T.dps_app : ∀ as bs : List T, T.dps (as ++ bs) = max (T.dps as) (T.dps bs)
  | [], _ => by simp [T.dps]
  | a :: as, bs => by rw [List.cons_append, T.dps, T.dps_app as bs, T.dps]; omega
theorem T.ds_app : ∀ as bs : List T, T.ds (as ++ bs) = T.ds as ++ T.ds bs
  | [], _ => by simp [T.ds]
  | a :: as, bs => by rw [List.cons_append, T.ds, T.ds_app as bs, T.ds, List.cons_append]
mutual
theorem T.rows_names (ar : Option Str) : ∀ t : T, (t.rows ar).map (·.1) = t.ns
  | .hand _ => rfl
  | .grp n b ms => by rw [T.rows, T.ns, List.map_cons, T.rowss_names (some n) ms]
theorem T.rowss_names (ar : Option Str) : ∀ ts : List T, (T.rowss ar ts).map (·.1) = T.nss ts
  | [] => rfl
  | t :: ts => by rw [T.rowss, T.nss, List.map_append, T.rows_names ar t, T.rowss_names ar ts]
end
-- rows and told, side by side
mutual
theorem T.side (p : List Str) : ∀ t : T, (t.rows p.head?).map (fun x => (x.1, x.2.1, x.2.2.isSome)) = (t.told p).map fun x => (x.1, x.2.2.head?, x.2.1)
  | .hand _ => rfl
  | .grp n b ms => by
    rw [T.rows, T.told, List.map_cons, List.map_cons]
    have := T.sides (n :: p) ms
    rw [List.head?_cons] at this
    rw [this]
    rfl
theorem T.sides (p : List Str) : ∀ ts : List T, (T.rowss p.head? ts).map (fun x => (x.1, x.2.1, x.2.2.isSome)) = (T.tolds p ts).map fun x => (x.1, x.2.2.head?, x.2.1)
  | [] => rfl
  | t :: ts => by rw [T.rowss, T.tolds, List.map_append, List.map_append, T.side p t, T.sides p ts]
end
-- the group around a told one is told, too
mutual
theorem T.parent (p : List Str) : ∀ (t : T) (x : Str × Bool × List Str), x ∈ t.told p → x.2.2 = p ∨ ∃ q P, x.2.2 = q :: P ∧ (q, true, P) ∈ t.told p
  | .hand _, x, h => by
    rw [T.told, List.mem_singleton] at h
    subst h
    exact .inl rfl
  | .grp n b ms, x, h => by
    rw [T.told] at h ⊢
    rcases List.mem_cons.mp h with h | h
    · subst h; exact .inl rfl
    · rcases T.parents (n :: p) ms x h with e | ⟨q, P, e, m⟩
      · exact .inr ⟨n, p, e, List.mem_cons_self⟩
      · exact .inr ⟨q, P, e, List.mem_cons_of_mem _ m⟩
theorem T.parents (p : List Str) : ∀ (ts : List T) (x : Str × Bool × List Str), x ∈ T.tolds p ts → x.2.2 = p ∨ ∃ q P, x.2.2 = q :: P ∧ (q, true, P) ∈ T.tolds p ts
  | [], x, h => by cases h
  | t :: ts, x, h => by
    rw [T.tolds] at h ⊢
    rcases List.mem_append.mp h with h | h
    · rcases T.parent p t x h with e | ⟨q, P, e, m⟩
      · exact .inl e
      · exact .inr ⟨q, P, e, List.mem_append_left _ m⟩
    · rcases T.parents p ts x h with e | ⟨q, P, e, m⟩
      · exact .inl e
      · exact .inr ⟨q, P, e, List.mem_append_right _ m⟩
end
-- how long a way is
mutual
theorem T.way (p : List Str) : ∀ (t : T) (x : Str × Bool × List Str), x ∈ t.told p → x.2.2.length ≤ p.length + t.dp
  | .hand _, x, h => by
    rw [T.told, List.mem_singleton] at h
    subst h
    exact Nat.le_add_right _ _
  | .grp n b ms, x, h => by
    rw [T.told] at h
    rw [T.dp]
    rcases List.mem_cons.mp h with h | h
    · subst h; exact Nat.le_add_right _ _
    · have := T.ways (n :: p) ms x h
      rw [List.length_cons] at this
      omega
theorem T.ways (p : List Str) : ∀ (ts : List T) (x : Str × Bool × List Str), x ∈ T.tolds p ts → x.2.2.length ≤ p.length + T.dps ts
  | [], x, h => by cases h
  | t :: ts, x, h => by
    rw [T.tolds] at h
    rw [T.dps]
    rcases List.mem_append.mp h with h | h
    · have := T.way p t x h; omega
    · have := T.ways p ts x h; omega
end
theorem T.told_names (p : List Str) (t : T) : (t.told p).map (·.1) = t.ns := by
  have h := congrArg (List.map (·.1)) (T.side p t)
  rw [List.map_map, List.map_map] at h
  rw [← T.rows_names p.head? t]
  exact h.symm
theorem T.told_len (p : List Str) (t : T) : (t.told p).length = t.sz := by
  rw [← T.ns_len t, ← T.told_names p t, List.length_map]
mutual
theorem T.told_ok (p : List Str) : ∀ (t : T) (x : Str × Bool × List Str), t.ok = true → (∀ y ∈ p, nmOk y = true) → x ∈ t.told p → nmOk x.1 = true ∧ ∀ y ∈ x.2.2, nmOk y = true
  | .hand n, x, h, hp, hx => by
    rw [T.told, List.mem_singleton] at hx
    subst hx
    exact ⟨h, hp⟩
  | .grp n b ms, x, h, hp, hx => by
    rw [T.told] at hx
    simp only [T.ok, Bool.and_eq_true, decide_eq_true_eq] at h
    rcases List.mem_cons.mp hx with hx | hx
    · subst hx; exact ⟨h.1.1.1, hp⟩
    · exact T.tolds_ok (n :: p) ms x h.2 (fun y hy => by
        rcases List.mem_cons.mp hy with e | hy
        · rw [e]; exact h.1.1.1
        · exact hp y hy) hx
theorem T.tolds_ok (p : List Str) : ∀ (ts : List T) (x : Str × Bool × List Str), T.oks ts = true → (∀ y ∈ p, nmOk y = true) → x ∈ T.tolds p ts → nmOk x.1 = true ∧ ∀ y ∈ x.2.2, nmOk y = true
  | [], x, h, hp, hx => by cases hx
  | t :: ts, x, h, hp, hx => by
    rw [T.tolds] at hx
    rw [T.oks, Bool.and_eq_true] at h
    rcases List.mem_append.mp hx with hx | hx
    · exact T.told_ok p t x h.1 hp hx
    · exact T.tolds_ok p ts x h.2 hp hx
end
-- lists of names as values
theorem gd_names : ∀ xs : List Str, (∀ x ∈ xs, nmOk x = true) → gdL (xs.map .str) = true ∧ bkL (xs.map .str) ≤ 101 * xs.length ∧ dpL (xs.map .str) = 0
  | [], _ => ⟨rfl, Nat.le_refl _, rfl⟩
  | x :: xs, h => by
    obtain ⟨h1, h2⟩ := nm_gd (h x List.mem_cons_self)
    obtain ⟨k1, k2, k3⟩ := gd_names xs fun y hy => h y (List.mem_cons_of_mem _ hy)
    rw [List.map_cons, gdL, bkL, dpL, h1, k1, k3, List.length_cons]
    exact ⟨rfl, by omega, by simp [dpD]⟩
theorem ok_repr_names {xs : List Str} {M : Mem} {P : D → Mem → Prop} (h : ∀ x ∈ xs, nmOk x = true) (hl : xs.length ≤ 9000) : Ok (gRepr [.tup (xs.map .str)] M) P ↔ P (.str (rep (.tup (xs.map .str)))) M := by
  obtain ⟨k1, k2, k3⟩ := gd_names xs h
  exact ok_repr (by rw [gdD]; exact k1) (by rw [bkD]; omega) (by rw [dpD, k3]; decide)
/-- a dict that is filled with keys that are all new -/
theorem putD_fresh {kvs : List (Key × D)} {k : Key} {d : D} (h : k ∉ kvs.map (·.1)) : putD kvs k d = kvs ++ [(k, d)] := by
  have : hasK kvs k = false := by
    unfold hasK
    rw [Bool.eq_false_iff]
    intro e
    rw [List.any_eq_true] at e
    obtain ⟨p, hp, e⟩ := e
    exact h (List.mem_map.mpr ⟨p, hp, of_decide_eq_true e⟩)
  unfold putD
  rw [this]
  rfl
theorem findK_mem : ∀ {kvs : List (Key × D)} {k : Key} {d : D}, (kvs.map (·.1)).Nodup → (k, d) ∈ kvs → findK kvs k = some d
  | [], _, _, _, h => by cases h
  | (k', d') :: kvs, k, d, hn, h => by
    rw [List.map_cons, List.nodup_cons] at hn
    unfold findK
    rw [List.find?_cons]
    rcases List.mem_cons.mp h with e | h
    · cases e
      simp
    · have ne : k' ≠ k := fun e => hn.1 (by rw [e]; exact List.mem_map.mpr ⟨(k, d), h, rfl⟩)
      rw [decide_eq_false ne]
      exact findK_mem hn.2 h
theorem hasK_mem {kvs : List (Key × D)} {k : Key} {d : D} (h : (k, d) ∈ kvs) : hasK kvs k = true := by
  unfold hasK
  rw [List.any_eq_true]
  exact ⟨(k, d), h, decide_eq_true rfl⟩
end Nl

set_option autoImplicit false
/-! Nl, part T: kinds of things; the program's looks at counts and rows. -/
namespace Nl
open PySem L2

section
variable {ρ : Rho} {M : Mem} {P : D → Mem → Prop} {a b : Ev}
/-- behind the left side of an and, an or -/
def andK (n : Mem → Prop) (P : D → Mem → Prop) (d : D) (M : Mem) : Prop := match truth M d with
  | some true => n M
  | some false => P d M
  | none => False
@[simp] theorem ok_eand : Ok (eAnd a b ρ M) P ↔ Ok (a ρ M) fun d M1 => ∃ t, truth M1 d = some t ∧ if t = true then Ok (b ρ M1) P else P d M1 := by
  simp only [eAnd, ok_bnd]
  constructor
  · rintro ⟨d, M1, e, h⟩
    refine ⟨d, M1, e, ?_⟩
    split at h
    · rename_i q; exact ⟨true, q, by rw [if_pos rfl]; exact h⟩
    · rename_i q; exact ⟨false, q, by rw [if_neg (by decide)]; exact ok_some.mp h⟩
    · exact False.elim (ok_none.mp h)
  · rintro ⟨d, M1, e, t, ht, h⟩
    refine ⟨d, M1, e, ?_⟩
    dsimp only
    rw [ht]
    cases t with
    | true => rw [if_pos rfl] at h; exact h
    | false => rw [if_neg (by decide)] at h; exact ok_some.mpr h
@[simp] theorem ok_eor : Ok (eOr a b ρ M) P ↔ Ok (a ρ M) fun d M1 => ∃ t, truth M1 d = some t ∧ if t = true then P d M1 else Ok (b ρ M1) P := by
  simp only [eOr, ok_bnd]
  constructor
  · rintro ⟨d, M1, e, h⟩
    refine ⟨d, M1, e, ?_⟩
    split at h
    · rename_i q; exact ⟨true, q, by rw [if_pos rfl]; exact ok_some.mp h⟩
    · rename_i q; exact ⟨false, q, by rw [if_neg (by decide)]; exact h⟩
    · exact False.elim (ok_none.mp h)
  · rintro ⟨d, M1, e, t, ht, h⟩
    refine ⟨d, M1, e, ?_⟩
    dsimp only
    rw [ht]
    cases t with
    | true => rw [if_pos rfl] at h; exact ok_some.mpr h
    | false => rw [if_neg (by decide)] at h; exact h
@[simp] theorem ok_enot : Ok (eNot a ρ M) P ↔ Ok (a ρ M) fun d M1 => ∃ t, truth M1 d = some t ∧ P (.bl (!t)) M1 := by
  simp only [eNot, ok_bnd, ok_map]
end

/-! ### kinds -/
/-- what isinstance may be asked of -/
def kn (d : D) (M : Mem) : Bool := (tyN d M).isSome
theorem kn_keep {d : D} {M M' : Mem} (h : kn d M = true) (F : Fs [] M M') : kn d M' = true ∧ tyN d M' = tyN d M := by
  have : tyN d M' = tyN d M := by
    unfold kn at h
    cases d with
    | ref n =>
      simp only [tyN] at h ⊢
      cases g : M.get n with
      | none => rw [g] at h; cases h
      | some o => rw [F.eq n (Mem.get_lt g) (by simp), g]
    | _ => rfl
  exact ⟨by unfold kn; rw [this]; exact h, this⟩
theorem kt_li : kitB "list" "int" = some false := by decide +kernel
theorem kt_di : kitB "dict" "int" = some false := by decide +kernel
theorem kt_bt : kitB "bool" "tuple" = some false := by decide +kernel
theorem kt_lt : kitB "list" "tuple" = some false := by decide +kernel
theorem kt_dt : kitB "dict" "tuple" = some false := by decide +kernel
theorem kt_sb : kitB "str" "bool" = some false := by decide +kernel
theorem kt_tb : kitB "tuple" "bool" = some false := by decide +kernel
theorem kt_nb : kitB "NoneType" "bool" = some false := by decide +kernel
theorem kt_lb : kitB "list" "bool" = some false := by decide +kernel
theorem kt_db : kitB "dict" "bool" = some false := by decide +kernel
def isI : D → Bool
  | .int _ => true
  | _ => false
def isB : D → Bool
  | .bl _ => true
  | _ => false
def isS : D → Bool
  | .str _ => true
  | _ => false
def isT : D → Bool
  | .tup _ => true
  | _ => false
section
variable {M : Mem} {P : D → Mem → Prop} {d : D}
theorem isi_int (h : kn d M = true) : Ok (gIsi [d, .ty "int"] M) P ↔ P (.bl (isI d || isB d)) M := by
  unfold kn at h
  cases hn : tyN d M with
  | none => rw [hn] at h; cases h
  | some n =>
    simp only [gIsi, hn]
    unfold tyN at hn
    split at hn
    · cases hn; simp [kb_ni, isI, isB]
    · cases hn; simp [kb_bi, isI, isB]
    · cases hn; simp [kb_ii, isI, isB]
    · cases hn; simp [kb_si, isI, isB]
    · cases hn; simp [kb_ti, isI, isB]
    · cases hn; simp [kt_li, isI, isB]
    · split at hn
      · cases hn; simp [kt_li, isI, isB]
      · cases hn; simp [kt_di, isI, isB]
      · cases hn; simp [kt_di, isI, isB]
      · cases hn
    · cases hn
theorem isi_bool (h : kn d M = true) : Ok (gIsi [d, .ty "bool"] M) P ↔ P (.bl (isB d)) M := by
  unfold kn at h
  cases hn : tyN d M with
  | none => rw [hn] at h; cases h
  | some n =>
    simp only [gIsi, hn]
    unfold tyN at hn
    split at hn
    · cases hn; simp [kt_nb, isB]
    · cases hn; simp [kb_bb, isB]
    · cases hn; simp [kb_ib, isB]
    · cases hn; simp [kt_sb, isB]
    · cases hn; simp [kt_tb, isB]
    · cases hn; simp [kt_lb, isB]
    · split at hn
      · cases hn; simp [kt_lb, isB]
      · cases hn; simp [kt_db, isB]
      · cases hn; simp [kt_db, isB]
      · cases hn
    · cases hn
theorem isi_strX (h : kn d M = true) : Ok (gIsi [d, .ty "str"] M) P ↔ P (.bl (isS d)) M := by
  unfold kn at h
  cases hn : tyN d M with
  | none => rw [hn] at h; cases h
  | some n =>
    simp only [gIsi, hn]
    unfold tyN at hn
    split at hn
    · cases hn; simp [kb_ns, isS]
    · cases hn; simp [kb_bs, isS]
    · cases hn; simp [kb_is, isS]
    · cases hn; simp [kb_ss, isS]
    · cases hn; simp [kb_ts, isS]
    · cases hn; simp [kb_ls, isS]
    · split at hn
      · cases hn; simp [kb_ls, isS]
      · cases hn; simp [kb_ds, isS]
      · cases hn; simp [kb_ds, isS]
      · cases hn
    · cases hn
theorem isi_tupX (h : kn d M = true) : Ok (gIsi [d, .ty "tuple"] M) P ↔ P (.bl (isT d)) M := by
  unfold kn at h
  cases hn : tyN d M with
  | none => rw [hn] at h; cases h
  | some n =>
    simp only [gIsi, hn]
    unfold tyN at hn
    split at hn
    · cases hn; simp [kb_nt, isT]
    · cases hn; simp [kt_bt, isT]
    · cases hn; simp [kb_it, isT]
    · cases hn; simp [kb_st, isT]
    · cases hn; simp [kb_tt, isT]
    · cases hn; simp [kt_lt, isT]
    · split at hn
      · cases hn; simp [kt_lt, isT]
      · cases hn; simp [kt_dt, isT]
      · cases hn; simp [kt_dt, isT]
      · cases hn
    · cases hn
end

/-! ### counts -/
section
variable {M : Mem} {P : D → Mem → Prop}
def WholeOk (g : Bf) : Prop := ∀ {M : Mem} {d : D} {P : D → Mem → Prop}, kn d M = true → (Ok (g [d] M) P ↔ P (.bl (isI d)) M)
theorem whole_ok : WholeOk (bodyD (sCons (sRet (eAnd (eCall gIsi [eVar 0, eCon (.ty "int")]) (eNot (eCall gIsi [eVar 0, eCon (.ty "bool")])))) (sNil)) 1) := by
  intro M d P h
  rw [ok_body]
  simp only [List.map_cons, List.map_nil, List.cons_append, List.nil_append, ok_cons, ok_ret, ok_eand, ok_enot, ok_call, ok_args1, ok_args0, ok_var, ok_con, List.getElem?_cons_succ, List.getElem?_cons_zero, Option.some.injEq, exists_eq_left', isi_int h, isi_bool h, truth, behind_rt, ends_rt]
  cases d <;> simp [isI, isB]
def isC : D → Bool
  | .int i => decide (0 ≤ i)
  | _ => false
def CountOk (g : Bf) : Prop := ∀ {M : Mem} {d : D} {P : D → Mem → Prop}, kn d M = true → (Ok (g [d] M) P ↔ P (.bl (isC d)) M)
theorem count_ok {w : Bf} (hw : WholeOk w) : CountOk (bodyD (sCons (sRet (eAnd (eCallD w [eVar 0] []) (eOp gGe (eVar 0) (eCon (.int 0))))) (sNil)) 1) := by
  intro M d P h
  rw [ok_body]
  simp only [List.map_cons, List.map_nil, List.cons_append, List.nil_append, ok_cons, ok_ret, ok_eand, ok_callD, ok_op, ok_args1, ok_args0, ok_var, ok_con, List.getElem?_cons_succ, List.getElem?_cons_zero, Option.some.injEq, exists_eq_left', List.append_nil, hw h, truth, behind_rt, ends_rt]
  cases d <;> simp [isI, isC]
def isBl (many : Int) : D → Bool
  | .int i => decide (0 ≤ i) && decide (i < many)
  | _ => false
@[simp] theorem ok_lti {i j : Int} : Ok (gLt (.int i) (.int j) M) P ↔ P (.bl (decide (i < j))) M := by simp [gLt, ltD]
@[simp] theorem ok_lei {i j : Int} : Ok (gLe (.int i) (.int j) M) P ↔ P (.bl (decide (i ≤ j))) M := by simp [gLe]
def BelowOk (g : Bf) : Prop := ∀ {M : Mem} {d : D} {many : Int} {P : D → Mem → Prop}, kn d M = true → (Ok (g [d, .int many] M) P ↔ P (.bl (isBl many d)) M)
theorem below_ok {c : Bf} (hc : CountOk c) : BelowOk (bodyD (sCons (sRet (eAnd (eCallD c [eVar 0] []) (eOp gLt (eVar 0) (eVar 1)))) (sNil)) 2) := by
  intro M d many P h
  rw [ok_body]
  simp only [List.map_cons, List.map_nil, List.cons_append, List.nil_append, ok_cons, ok_ret, ok_eand, ok_callD, ok_op, ok_args1, ok_args0, ok_var, ok_con, List.getElem?_cons_succ, List.getElem?_cons_zero, Option.some.injEq, exists_eq_left', List.append_nil, hc h, truth, behind_rt, ends_rt]
  cases d with
  | int i =>
    by_cases h0 : 0 ≤ i <;> simp [isC, isBl, h0]
  | _ => simp [isC, isBl]
end
/-! ### loops, in use -/
theorem rng1_ok {m : Ev} {ρ : Rho} {M : Mem} {P : Wk → Mem → Prop} (hm : Ok (m ρ M) fun d M' => ∃ j : Int, d = .int j ∧ (-(2 ^ 62) ≤ j ∧ j < 2 ^ 62) ∧ P ⟨(List.range j.toNat).map fun i => .int (0 + (i : Nat)), []⟩ M') : Ok (wRng1 m ρ M) P := by
  unfold wRng1
  rw [ok_bnd]
  refine hm.mono fun d M' ⟨j, e, hj, hP⟩ => ?_
  subst e
  dsimp only
  rw [if_pos hj]
  exact ok_some.mpr hP
theorem rng_get {n i : Nat} {d : D} (hd : ((List.range n).map fun i => D.int (0 + (i : Nat)))[i]? = some d) : i < n ∧ d = .int i := by
  rw [List.getElem?_map] at hd
  obtain ⟨c, hc, rfl⟩ := Option.map_eq_some_iff.mp hd
  have hlt := (List.getElem?_eq_some_iff.mp hc).1
  rw [List.length_range] at hlt
  rw [List.getElem?_range hlt] at hc
  cases hc
  exact ⟨hlt, by rw [Int.zero_add]⟩
theorem take_succ_get {α : Type} {xs : List α} {i : Nat} {x : α} (h : xs[i]? = some x) : xs.take (i + 1) = xs.take i ++ [x] := by
  rw [List.take_succ, h]; rfl
theorem wseq_tup {m : Ev} {ρ : Rho} {M : Mem} {P : Wk → Mem → Prop} (h : Ok (m ρ M) fun d M' => ∃ ds, d = .tup ds ∧ P ⟨ds, []⟩ M') : Ok (wSeq m ρ M) P := by
  unfold wSeq
  rw [ok_bnd]
  refine h.mono fun d M' ⟨ds, e, hP⟩ => ?_
  subst e
  exact ok_some.mpr hP
theorem wseq_lst {m : Ev} {ρ : Rho} {M : Mem} {P : Wk → Mem → Prop} (h : Ok (m ρ M) fun d M' => ∃ n ds, d = .ref n ∧ M'.get n = some (.lst ds) ∧ P ⟨ds, [(n, .lst ds)]⟩ M') : Ok (wSeq m ρ M) P := by
  unfold wSeq
  rw [ok_bnd]
  refine h.mono fun d M' ⟨n, ds, e, g, hP⟩ => ?_
  subst e
  simp only [g]
  exact ok_some.mpr hP
theorem lc_filter {α : Type} {ok : Mem → Bool} {g : Gv} {c : Bv} {m : Ev} {ρ : Rho} {M : Mem} {L : List D → Mem → Prop} (rows : List α) (f : α → D) (p : α → Bool) (v : α → D) (hok : ok M = true)
    (hs : ∀ x ∈ rows, OkG (g (f x) ρ M) fun ρ1 M1 => M1 = M ∧ Ok (c ρ1 M) fun b M2 => b = p x ∧ M2 = M ∧ (p x = true → Ok (m ρ1 M) fun d M3 => d = v x ∧ M3 = M)) (he : L ((rows.filter p).map v) M) : Ok (lcL ok g c m (rows.map f) ρ M) L := by
  refine lc_go_ok (fun i ds M' => ds = ((rows.take i).filter p).map v ∧ M' = M) _ (fun i ds M' _ h => by rw [h.2]; exact hok) ?_ ?_ ⟨rfl, rfl⟩
  · rintro i d ds M' hd ⟨rfl, rfl⟩
    rw [List.getElem?_map] at hd
    obtain ⟨x, hx, rfl⟩ := Option.map_eq_some_iff.mp hd
    obtain ⟨ρ1, M1, e1, rfl, b, M2, e2, rfl, rfl, h3⟩ := hs x (List.mem_of_getElem? hx)
    refine ⟨ρ1, _, e1, p x, _, e2, ?_⟩
    dsimp only
    split
    · rename_i hp
      obtain ⟨d, M3, e3, rfl, rfl⟩ := h3 hp
      refine ⟨_, _, e3, ?_, rfl⟩
      rw [take_succ_get hx, List.filter_append, List.map_append]
      simp [hp]
    · rename_i hp
      refine ⟨?_, rfl⟩
      rw [take_succ_get hx, List.filter_append, List.map_append]
      simp [hp]
  · rintro ds M' ⟨rfl, rfl⟩
    rw [List.length_map, List.take_length]
    exact he
theorem ok_app {M : Mem} {mb : Nat} {xs : List D} {x : D} {P : D → Mem → Prop} (g : M.get mb = some (.lst xs)) (hl : xs.length < 1000000) : Ok (gApp (.ref mb) [x] M) P ↔ P .non (M.put mb (.lst (xs ++ [x]))) := by
  simp only [gApp, g, hl, if_true, ok_some]
end Nl

set_option autoImplicit false
set_option maxRecDepth 100000
namespace K05
open PySem L2 Nl
def top (i : Nat) : Stmt := PySem.Challenge.pw_nearlocks_k05_programs_at_their_bounds.main.body.getD i (.Pass ⟨0, 0, 0, 0⟩)
abbrev s_law : Stmt := top 25
abbrev N_law : List Str := ["_law_script", "_law_hand_here", "_law_upmost", "_law_program_here", "_law_at", "_law_row_here", "_law_thing", "_law_found"]
abbrev P_law : List Str := ["_law_script"]
def b_law (C : Nat → Bf) : Sv := sCons (sAsg (eCallD (C 1) [eVar 0] []) (gNm 1)) (sCons (sFor (wSeq (eTup [eCon (.int 4), eCon (.int 12), eCon (.int 40)])) (gNm 2) (sCons (sAsg (eCallD (C 2) [eVar 1, eVar 2] []) (gNm 3)) (sCons (sIf (xOr (xVal (eOp gNotB (eCallD (C 7) [eVar 3] []) (eCon (.bl true)))) (xNot (xVal (eCallD (C 16) [eVar 3] [])))) (sCons (sRet (eCon (.bl false))) (sNil)) (sNil)) (sCons (sAsg (eCallD (C 3) [eVar 1, eOp gAdd (eCall gLen [eVar 3]) (eCon (.int 1))] []) (gNm 4)) (sCons (sFor (wSeq (eCallD (C 6) [eCall gMin2 [eCon (.int 40), eOp gAdd (eCall gLen [eVar 3]) (eCon (.int 1))]] [])) (gNm 5) (sCons (sAsg (eSl (eOp gAdd (eOp gAdd (eSl (eVar 3) none (some (eVar 4))) (eTup [eVar 5])) (eSl (eVar 3) (some (eVar 4)) none)) none (some (eCon (.int 40)))) (gNm 6)) (sCons (sAsg (eCallD (C 7) [eVar 6] []) (gNm 7)) (sCons (sIf (xOr (xNot (xVal (eCall gIsi [eVar 7, eCon (.ty "bool")]))) (xVal (eOp gNe (eVar 7) (eCallD (C 16) [eVar 6] [])))) (sCons (sRet (eCon (.bl false))) (sNil)) (sNil)) (sNil))))) (sNil)))))) (sCons (sRet (eOp gIsB (eCallD (C 7) [eTup []] []) (eCon (.bl true)))) (sNil)))
abbrev s__law_hand : Stmt := top 15
abbrev N__law_hand : List Str := ["_law_script", "_law_seed", "_law_cell"]
abbrev P__law_hand : List Str := ["_law_script"]
def b__law_hand (C : Nat → Bf) : Sv := sCons (sAsg (eCon (.int 23)) (gNm 1)) (sCons (sFor (wSeq (eSl (eVar 0) none (some (eCon (.int 63))))) (gNm 2) (sCons (sAsg (eOp gMod (eOp gAdd (eOp gAdd (eOp gMul (eVar 1) (eCon (.int 6364136223846793))) (eOp gMod (eVar 2) (eCon (.int 2305843009213693951)))) (eCon (.int 31))) (eCon (.int 2305843009213693951))) (gNm 1)) (sNil))) (sCons (sRet (eLst [eLc (wSeq (eSl (eVar 0) none (some (eCon (.int 63))))) (gNm 2) (xVal (eOp gGe (eVar 2) (eOp gPow (eCon (.int 10)) (eCon (.int 18))))) (eVar 2) [2], eVar 1])) (sNil)))
abbrev s__law_program : Stmt := top 19
abbrev N__law_program : List Str := ["_law_hand_here", "_law_upmost", "_law_size", "_law_k"]
abbrev P__law_program : List Str := ["_law_hand_here", "_law_upmost"]
def b__law_program (C : Nat → Bf) : Sv := sCons (sAsg (eCallD (C 3) [eVar 0, eOp gAdd (eCon (.int 1)) (eVar 1)] []) (gNm 2)) (sCons (sRet (eCall gTuple [eLc (wRng1 (eVar 2)) (gNm 3) (xYes) (eCallD (C 4) [eVar 0, eVar 2] []) [3]])) (sNil))
abbrev s__law_pick : Stmt := top 16
abbrev N__law_pick : List Str := ["_law_hand_here", "_law_many", "_law_mixed", "_law_digit"]
abbrev P__law_pick : List Str := ["_law_hand_here", "_law_many"]
def b__law_pick (C : Nat → Bf) : Sv := sCons (sWhile (xAnd (xVal (eOp gNe (eOp gIx (eVar 0) (eCon (.int 0))) (eLst []))) (xVal (eOp gEq (eOp gIx (eOp gIx (eVar 0) (eCon (.int 0))) (eCon (.int 0))) (eCon (.int 0))))) (sCons (sEx (eMt "list" gPopAt (eOp gIx (eVar 0) (eCon (.int 0))) [eCon (.int 0)])) (sNil))) (sCons (sIf (xVal (eOp gNe (eOp gIx (eVar 0) (eCon (.int 0))) (eLst []))) (sCons (sAsg (eOp gMod (eOp gIx (eOp gIx (eVar 0) (eCon (.int 0))) (eCon (.int 0))) (eVar 1)) (gNm 3)) (sCons (sAsg (eOp gFdiv (eOp gIx (eOp gIx (eVar 0) (eCon (.int 0))) (eCon (.int 0))) (eVar 1)) (gSb (eOp gIx (eVar 0) (eCon (.int 0))) (eCon (.int 0)))) (sCons (sRet (eVar 3)) (sNil)))) (sNil)) (sCons (sAsg (eOp gMod (eOp gAdd (eOp gMul (eOp gIx (eVar 0) (eCon (.int 1))) (eCon (.int 3935559000370003))) (eCon (.int 2691343689449507))) (eCon (.int 2305843009213693951))) (gSb (eVar 0) (eCon (.int 1)))) (sCons (sAsg (eOp gFdiv (eOp gIx (eVar 0) (eCon (.int 1))) (eCon (.int 65537))) (gNm 2)) (sCons (sRet (eOp gMod (eOp gFdiv (eOp gMod (eOp gMul (eVar 2) (eOp gAdd (eOp gMod (eVar 2) (eCon (.int 8191))) (eCon (.int 3)))) (eCon (.int 2305843009213693921))) (eCon (.int 4099))) (eVar 1))) (sNil)))))
abbrev s__law_row : Stmt := top 18
abbrev N__law_row : List Str := ["_law_hand_here", "_law_size", "_law_word"]
abbrev P__law_row : List Str := ["_law_hand_here", "_law_size"]
def b__law_row (C : Nat → Bf) : Sv := sCons (sAsg (eCallD (C 5) [eVar 0, eLst [eCon (.str "take"), eCon (.str "take"), eCon (.str "try"), eCon (.str "let"), eCon (.str "say"), eCon (.str "goto"), eCon (.str "if")]] []) (gNm 2)) (sCons (sIf (xVal (eOp gEq (eVar 2) (eCon (.str "take")))) (sCons (sRet (eTup [eVar 2, eCallD (C 5) [eVar 0, eLst [eCon .non, eCon (.int 0), eCon (.int 1), eCon (.int 2), eCallD (C 3) [eVar 0, eCon (.int 40)] [], eCon (.int 99999999)]] []])) (sNil)) (sNil)) (sCons (sIf (xVal (eOp gEq (eVar 2) (eCon (.str "say")))) (sCons (sRet (eTup [eVar 2, eCallD (C 5) [eVar 0, eLst [eCon (.int 0), eCon (.int 99), eCallD (C 3) [eVar 0, eCon (.int 100)] []]] []])) (sNil)) (sNil)) (sCons (sIf (xVal (eOp gEq (eVar 2) (eCon (.str "goto")))) (sCons (sRet (eTup [eVar 2, eCallD (C 3) [eVar 0, eVar 1] []])) (sNil)) (sNil)) (sCons (sIf (xVal (eOp gEq (eVar 2) (eCon (.str "if")))) (sCons (sRet (eTup [eVar 2, eCallD (C 5) [eVar 0, eLst [eCon (.int 0), eCon (.int 1), eNeg (eCon (.int 1)), eCon (.int 7), eNeg (eCon (.int 99999999)), eCon (.int 99999999)]] [], eCallD (C 3) [eVar 0, eVar 1] []])) (sNil)) (sNil)) (sCons (sRet (eTup [eVar 2])) (sNil))))))
abbrev s__law_of : Stmt := top 17
abbrev N__law_of : List Str := ["_law_hand_here", "_law_some"]
abbrev P__law_of : List Str := ["_law_hand_here", "_law_some"]
def b__law_of (C : Nat → Bf) : Sv := sCons (sRet (eOp gIx (eVar 1) (eCallD (C 3) [eVar 0, eCall gLen [eVar 1]] []))) (sNil)
abbrev s__law_bounds : Stmt := top 24
abbrev N__law_bounds : List Str := ["_law_size", "_law_some", "_law_found", "_law_one"]
abbrev P__law_bounds : List Str := ["_law_size"]
def b__law_bounds (C : Nat → Bf) : Sv := sCons (sAsg (eLst [eCon .non, eCon (.int 0), eCon (.int 1), eNeg (eCon (.int 1)), eCon (.int 99), eCon (.int 100), eOp gSub (eVar 0) (eCon (.int 1)), eVar 0, eCon (.bl true), eCon (.bl false), eCon (.str "0"), eTup [], eCon (.int 999999999), eNeg (eCon (.int 999999999))]) (gNm 1)) (sCons (sAsg (eOp gAdd (eOp gAdd (eLc (wSeq (eVar 1)) (gNm 3) (xYes) (eTup [eCon (.str "take"), eVar 3]) [3]) (eLc (wSeq (eVar 1)) (gNm 3) (xYes) (eTup [eCon (.str "say"), eVar 3]) [3])) (eLc (wSeq (eVar 1)) (gNm 3) (xYes) (eTup [eCon (.str "goto"), eVar 3]) [3])) (gNm 2)) (sCons (sFor (wSeq (eVar 1)) (gNm 3) (sCons (sEx (eMt "list" gExt (eVar 2) [eLst [eTup [eCon (.str "if"), eVar 3, eCon (.int 0)], eTup [eCon (.str "if"), eCon (.int 0), eVar 3], eTup [eCon (.str "let"), eVar 3], eTup [eCon (.str "try"), eVar 3], eTup [eCon (.str "end"), eVar 3]]])) (sNil))) (sCons (sRet (eOp gAdd (eVar 2) (eLst [eTup [eCon (.str "let")], eTup [eCon (.str "try")], eTup [eCon (.str "take")], eTup [eCon (.str "goto")], eTup [eCon (.str "if"), eCon (.int 0)], eTup [eCon (.str "if"), eCon (.int 0), eCon (.int 0), eCon (.int 0)], eTup [eCon (.str "lets")], eTup [eCon (.str "")], eTup [], eLst [eCon (.str "let")]]))) (sNil))))
abbrev s_is_program : Stmt := top 13
abbrev N_is_program : List Str := ["thing", "row"]
abbrev P_is_program : List Str := ["thing"]
def b_is_program (C : Nat → Bf) : Sv := sCons (sRet (eAnd (eCall gIsi [eVar 0, eCon (.ty "tuple")]) (eCall gAll [eLc (wSeq (eVar 0)) (gNm 1) (xYes) (eCallD (C 8) [eVar 1, eCall gLen [eVar 0]] []) [1]]))) (sNil)
abbrev s_is_row : Stmt := top 12
abbrev N_is_row : List Str := ["thing", "size", "word", "many", "looked", "parts"]
abbrev P_is_row : List Str := ["thing", "size"]
def b_is_row (C : Nat → Bf) : Sv := sCons (sIf (xOr (xNot (xVal (eCall gIsi [eVar 0, eCon (.ty "tuple")]))) (xOr (xVal (eOp gEq (eCall gLen [eVar 0]) (eCon (.int 0)))) (xNot (xVal (eCall gIsi [eOp gIx (eVar 0) (eCon (.int 0)), eCon (.ty "str")]))))) (sCons (sRet (eCon (.bl false))) (sNil)) (sNil)) (sCons (sAsg (eVar 0) (gStar (gNm 2) (gNm 5))) (sCons (sIf (xVal (eOp gIn (eVar 2) (eCon (.tup [.str "try", .str "let"])))) (sCons (sRet (eOp gEq (eCall gLen [eVar 5]) (eCon (.int 0)))) (sNil)) (sNil)) (sCons (sIf (xVal (eSdNot [("take", .tup [.int 1, .fn 9]), ("say", .tup [.int 1, .fn 12]), ("goto", .tup [.int 1, .fn 14]), ("if", .tup [.int 2, .fn 15])] (eVar 2))) (sCons (sRet (eCon (.bl false))) (sNil)) (sNil)) (sCons (sAsg (eSdGet [("take", .tup [.int 1, .fn 9]), ("say", .tup [.int 1, .fn 12]), ("goto", .tup [.int 1, .fn 14]), ("if", .tup [.int 2, .fn 15])] (eVar 2)) (gTp [gNm 3, gNm 4])) (sCons (sRet (eAnd (eOp gEq (eCall gLen [eVar 5]) (eVar 3)) (eCallV C [9, 12, 14, 15] 4 [eVar 5, eVar 1]))) (sNil))))))
abbrev s_is_take : Stmt := top 6
abbrev N_is_take : List Str := ["parts", "size"]
abbrev P_is_take : List Str := ["parts", "size"]
def b_is_take (C : Nat → Bf) : Sv := sCons (sRet (eOr (eIsN (eOp gIx (eVar 0) (eCon (.int 0)))) (eCallD (C 10) [eOp gIx (eVar 0) (eCon (.int 0))] []))) (sNil)
abbrev s_is_count : Stmt := top 2
abbrev N_is_count : List Str := ["thing"]
abbrev P_is_count : List Str := ["thing"]
def b_is_count (C : Nat → Bf) : Sv := sCons (sRet (eAnd (eCallD (C 11) [eVar 0] []) (eOp gGe (eVar 0) (eCon (.int 0))))) (sNil)
abbrev s_is_whole : Stmt := top 1
abbrev N_is_whole : List Str := ["thing"]
abbrev P_is_whole : List Str := ["thing"]
def b_is_whole (C : Nat → Bf) : Sv := sCons (sRet (eAnd (eCall gIsi [eVar 0, eCon (.ty "int")]) (eNot (eCall gIsi [eVar 0, eCon (.ty "bool")])))) (sNil)
abbrev s_is_say : Stmt := top 7
abbrev N_is_say : List Str := ["parts", "size"]
abbrev P_is_say : List Str := ["parts", "size"]
def b_is_say (C : Nat → Bf) : Sv := sCons (sRet (eCallD (C 13) [eOp gIx (eVar 0) (eCon (.int 0)), eCon (.int 100)] [])) (sNil)
abbrev s_is_below : Stmt := top 3
abbrev N_is_below : List Str := ["thing", "many"]
abbrev P_is_below : List Str := ["thing", "many"]
def b_is_below (C : Nat → Bf) : Sv := sCons (sRet (eAnd (eCallD (C 10) [eVar 0] []) (eOp gLt (eVar 0) (eVar 1)))) (sNil)
abbrev s_is_going : Stmt := top 8
abbrev N_is_going : List Str := ["parts", "size"]
abbrev P_is_going : List Str := ["parts", "size"]
def b_is_going (C : Nat → Bf) : Sv := sCons (sRet (eCallD (C 13) [eOp gIx (eVar 0) (eCon (.int 0)), eVar 1] [])) (sNil)
abbrev s_is_asking : Stmt := top 9
abbrev N_is_asking : List Str := ["parts", "size"]
abbrev P_is_asking : List Str := ["parts", "size"]
def b_is_asking (C : Nat → Bf) : Sv := sCons (sRet (eAnd (eCallD (C 11) [eOp gIx (eVar 0) (eCon (.int 0))] []) (eCallD (C 13) [eOp gIx (eVar 0) (eCon (.int 1)), eVar 1] []))) (sNil)
abbrev s__law_is_program : Stmt := top 23
abbrev N__law_is_program : List Str := ["_law_thing", "_law_row_here"]
abbrev P__law_is_program : List Str := ["_law_thing"]
def b__law_is_program (C : Nat → Bf) : Sv := sCons (sRet (eAnd (eCall gIsi [eVar 0, eCon (.ty "tuple")]) (eCall gAll [eLc (wSeq (eVar 0)) (gNm 1) (xYes) (eCallD (C 17) [eVar 1, eCall gLen [eVar 0]] []) [1]]))) (sNil)
abbrev s__law_is_row : Stmt := top 22
abbrev N__law_is_row : List Str := ["_law_thing", "_law_size", "_law_many"]
abbrev P__law_is_row : List Str := ["_law_thing", "_law_size"]
def b__law_is_row (C : Nat → Bf) : Sv := sCons (sIf (xOr (xNot (xVal (eCall gIsi [eVar 0, eCon (.ty "tuple")]))) (xOr (xVal (eOp gEq (eVar 0) (eTup []))) (xNot (xVal (eCall gIsi [eOp gIx (eVar 0) (eCon (.int 0)), eCon (.ty "str")]))))) (sCons (sRet (eCon (.bl false))) (sNil)) (sNil)) (sCons (sAsg (eGet2 (eDisp [(eCon (.str "take"), eCon (.int 2)), (eCon (.str "try"), eCon (.int 1)), (eCon (.str "let"), eCon (.int 1)), (eCon (.str "say"), eCon (.int 2)), (eCon (.str "goto"), eCon (.int 2)), (eCon (.str "if"), eCon (.int 3))]) (eOp gIx (eVar 0) (eCon (.int 0))) (eCon (.int 0))) (gNm 2)) (sCons (sIf (xVal (eOp gNe (eCall gLen [eVar 0]) (eVar 2))) (sCons (sRet (eCon (.bl false))) (sNil)) (sNil)) (sCons (sIf (xVal (eOp gEq (eOp gIx (eVar 0) (eCon (.int 0))) (eCon (.str "take")))) (sCons (sRet (eOr (eIsN (eOp gIx (eVar 0) (eCon (.int 1)))) (eCallD (C 18) [eOp gIx (eVar 0) (eCon (.int 1)), eCon (.int 0), eOp gPow (eCon (.int 10)) (eCon (.int 12))] []))) (sNil)) (sNil)) (sCons (sIf (xVal (eOp gEq (eOp gIx (eVar 0) (eCon (.int 0))) (eCon (.str "say")))) (sCons (sRet (eCallD (C 18) [eOp gIx (eVar 0) (eCon (.int 1)), eCon (.int 0), eCon (.int 100)] [])) (sNil)) (sNil)) (sCons (sIf (xVal (eOp gEq (eOp gIx (eVar 0) (eCon (.int 0))) (eCon (.str "goto")))) (sCons (sRet (eCallD (C 18) [eOp gIx (eVar 0) (eCon (.int 1)), eCon (.int 0), eVar 1] [])) (sNil)) (sNil)) (sCons (sRet (eOr (eOp gNe (eOp gIx (eVar 0) (eCon (.int 0))) (eCon (.str "if"))) (eAnd (eCallD (C 18) [eOp gIx (eVar 0) (eCon (.int 1)), eOp gSub (eCon (.int 0)) (eOp gPow (eCon (.int 10)) (eCon (.int 12))), eOp gPow (eCon (.int 10)) (eCon (.int 12))] []) (eCallD (C 18) [eOp gIx (eVar 0) (eCon (.int 2)), eCon (.int 0), eVar 1] [])))) (sNil)))))))
abbrev s__law_whole : Stmt := top 21
abbrev N__law_whole : List Str := ["_law_thing", "_law_low", "_law_high"]
abbrev P__law_whole : List Str := ["_law_thing", "_law_low", "_law_high"]
def b__law_whole (C : Nat → Bf) : Sv := sCons (sRet (eAnd (eCall gIsi [eVar 0, eCon (.ty "int")]) (eAnd (eNot (eCall gIsi [eVar 0, eCon (.ty "bool")])) (eChain gLe gLt (eVar 1) (eVar 0) (eVar 2))))) (sNil)
structure Tx (Γ : Ga) : Prop where
  z_all : Γ.mg "all" = none
  z_bool : Γ.mg "bool" = none
  z_int : Γ.mg "int" = none
  z_isinstance : Γ.mg "isinstance" = none
  z_len : Γ.mg "len" = none
  z_min : Γ.mg "min" = none
  z_range : Γ.mg "range" = none
  z_str : Γ.mg "str" = none
  z_tuple : Γ.mg "tuple" = none
  g_BARE : GlD Γ "BARE" (.tup [.str "try", .str "let"])
  g_MANY_SAID : GlD Γ "MANY_SAID" (.int 100)
  s_FORMS : SDt Γ "FORMS" [("take", .tup [.int 1, .fn 9]), ("say", .tup [.int 1, .fn 12]), ("goto", .tup [.int 1, .fn 14]), ("if", .tup [.int 2, .fn 15])]
structure Cs (Γ : Ga) (k : Nat) (C : Nat → Bf) : Prop where
  c__law_hand_1 : CalG Γ k "_law_hand" 1 [] (C 1)
  c__law_program_2 : CalG Γ k "_law_program" 2 [] (C 2)
  c__law_pick_2 : CalG Γ k "_law_pick" 2 [] (C 3)
  c__law_row_2 : CalG Γ k "_law_row" 2 [] (C 4)
  c__law_of_2 : CalG Γ k "_law_of" 2 [] (C 5)
  c__law_bounds_1 : CalG Γ k "_law_bounds" 1 [] (C 6)
  c_is_program_1 : CalG Γ k "is_program" 1 [] (C 7)
  c_is_row_2 : CalG Γ k "is_row" 2 [] (C 8)
  c_is_count_1 : CalG Γ k "is_count" 1 [] (C 10)
  c_is_whole_1 : CalG Γ k "is_whole" 1 [] (C 11)
  c_is_below_2 : CalG Γ k "is_below" 2 [] (C 13)
  c__law_is_program_1 : CalG Γ k "_law_is_program" 1 [] (C 16)
  c__law_is_row_2 : CalG Γ k "_law_is_row" 2 [] (C 17)
  c__law_whole_3 : CalG Γ k "_law_whole" 3 [] (C 18)
  v_2 : CalV Γ k 2 [9, 12, 14, 15] C
set_option maxRecDepth 20000 in
theorem d_law {Γ : Ga} {k : Nat} {C : Nat → Bf} (T : Tx Γ) (S : Cs Γ k C) {f : Addr} (cdv : Value) (A : Around) (outer : List Env) (s : Shared) (H : Hp) (E : XK) (fit : Fit Γ k (cx Γ N_law "law" (defScope s_law) f cdv A outer s H E)) :
    PSs (cx Γ N_law "law" (defScope s_law) f cdv A outer s H E) (defBody s_law) (tS Γ (b_law C)) :=
(s_cons (s_asg (p_call fit S.c__law_hand_1 (a_cons (p_var 0) a_nil)) (g_nm 1 fit.nd))
(s_cons (s_for PassesOwn.never fit.calm (w_seq fit.eK (p_tup (a_cons p_int (a_cons p_int (a_cons p_int a_nil))))) (g_nm 2 fit.nd)
(s_cons (s_asg (p_call fit S.c__law_program_2 (a_cons (p_var 1) (a_cons (p_var 2) a_nil))) (g_nm 3 fit.nd))
(s_cons (s_if ((xw_or (x_cmp op_gNotB b_gNotB (p_call fit S.c_is_program_1 (a_cons (p_var 3) a_nil)) p_bl (nomark _)) (xw_one' (x_not (x_val fit.eK (p_call fit S.c__law_is_program_1 (a_cons (p_var 3) a_nil))))))).pt
(s_cons (s_ret p_bl)
s_nil)
s_nil)
(s_cons (s_asg (p_call fit S.c__law_pick_2 (a_cons (p_var 1) (a_cons (p_op (op_gAdd fit.eK) (p_bi (b_len fit.eK) T.z_len bo_len (a_cons (p_var 3) a_nil)) p_int) a_nil))) (g_nm 4 fit.nd))
(s_cons (s_for PassesOwn.never fit.calm (w_seq fit.eK (p_call fit S.c__law_bounds_1 (a_cons (p_bi (b_min2 fit.calm) T.z_min bo_min (a_cons p_int (a_cons (p_op (op_gAdd fit.eK) (p_bi (b_len fit.eK) T.z_len bo_len (a_cons (p_var 3) a_nil)) p_int) a_nil))) a_nil))) (g_nm 5 fit.nd)
(s_cons (s_asg (p_sl fit.eK (p_op (op_gAdd fit.eK) (p_op (op_gAdd fit.eK) (p_sl fit.eK (p_var 3) o_none (o_some (p_var 4))) (p_tup (a_cons (p_var 5) a_nil))) (p_sl fit.eK (p_var 3) (o_some (p_var 4)) o_none)) o_none (o_some p_int)) (g_nm 6 fit.nd))
(s_cons (s_asg (p_call fit S.c_is_program_1 (a_cons (p_var 6) a_nil)) (g_nm 7 fit.nd))
(s_cons (s_if ((xw_or (x_not (x_val fit.eK (p_bi (b_isi fit.eK) T.z_isinstance bo_isinstance (a_cons (p_var 7) (a_cons (p_ty T.z_bool bo_bool) a_nil))))) (xw_one' (x_cmp (op_gNe fit.eK fit.u64) b_gNe (p_var 7) (p_call fit S.c__law_is_program_1 (a_cons (p_var 6) a_nil)) (nomark _))))).pt
(s_cons (s_ret p_bl)
s_nil)
s_nil)
s_nil))))
s_nil)))))
(s_cons (s_ret (p_cmp op_gIsB (p_call fit S.c_is_program_1 (a_cons (p_tup a_nil) a_nil)) p_bl (nomark _)))
s_nil)))
theorem sc_law : FnScope N_law P_law (defScope s_law) := ⟨rfl, rfl, rfl, by decide +kernel, rfl, by decide +kernel, by decide +kernel⟩
set_option maxRecDepth 20000 in
theorem d__law_hand {Γ : Ga} {k : Nat} {C : Nat → Bf} (T : Tx Γ) (S : Cs Γ k C) {f : Addr} (cdv : Value) (A : Around) (outer : List Env) (s : Shared) (H : Hp) (E : XK) (fit : Fit Γ k (cx Γ N__law_hand "_law_hand" (defScope s__law_hand) f cdv A outer s H E)) :
    PSs (cx Γ N__law_hand "_law_hand" (defScope s__law_hand) f cdv A outer s H E) (defBody s__law_hand) (tS Γ (b__law_hand C)) :=
(s_cons (s_asg p_int (g_nm 1 fit.nd))
(s_cons (s_for PassesOwn.never fit.calm (w_seq fit.eK (p_sl fit.eK (p_var 0) o_none (o_some p_int))) (g_nm 2 fit.nd)
(s_cons (s_asg (p_op op_gMod (p_op (op_gAdd fit.eK) (p_op (op_gAdd fit.eK) (p_op op_gMul (p_var 1) p_int) (p_op op_gMod (p_var 2) p_int)) p_int) p_int) (g_nm 1 fit.nd))
s_nil))
(s_cons (s_ret (p_lst (a_cons (p_lc (own := [("_law_cell", 2)]) fit.calm fit.nd (w_seq fit.eK (p_sl fit.eK (p_var 0) o_none (o_some p_int))) (blkOk_by (N := N__law_hand) (sc := defScope s__law_hand) (by decide +kernel)) (fun _ _ _ _ _ => (h_nm 2 fit.blk.nd)) (fun _ _ _ _ _ => ts_one (x_cmp op_gGe b_gGe (p_var 2) (p_op op_gPow p_int p_int) (nomark _))) (fun _ _ _ _ _ => (p_var 2))) (a_cons (p_var 1) a_nil))))
s_nil)))
theorem sc__law_hand : FnScope N__law_hand P__law_hand (defScope s__law_hand) := ⟨rfl, rfl, rfl, by decide +kernel, rfl, by decide +kernel, by decide +kernel⟩
set_option maxRecDepth 20000 in
theorem d__law_program {Γ : Ga} {k : Nat} {C : Nat → Bf} (T : Tx Γ) (S : Cs Γ k C) {f : Addr} (cdv : Value) (A : Around) (outer : List Env) (s : Shared) (H : Hp) (E : XK) (fit : Fit Γ k (cx Γ N__law_program "_law_program" (defScope s__law_program) f cdv A outer s H E)) :
    PSs (cx Γ N__law_program "_law_program" (defScope s__law_program) f cdv A outer s H E) (defBody s__law_program) (tS Γ (b__law_program C)) :=
(s_cons (s_asg (p_call fit S.c__law_pick_2 (a_cons (p_var 0) (a_cons (p_op (op_gAdd fit.eK) p_int (p_var 1)) a_nil))) (g_nm 2 fit.nd))
(s_cons (s_ret (p_bt (b_tuple fit.eK) T.z_tuple bo_tuple (a_cons (p_lc (own := [("_law_k", 3)]) fit.calm fit.nd (w_rng1 T.z_range (p_var 2)) (blkOk_by (N := N__law_program) (sc := defScope s__law_program) (by decide +kernel)) (fun _ _ _ _ _ => (h_nm 3 fit.blk.nd)) (fun _ _ _ _ _ => ts_nil) (fun _ _ _ _ _ => (p_call fit.blk S.c__law_row_2 (a_cons (p_var 0) (a_cons (p_var 2) a_nil))))) a_nil)))
s_nil))
theorem sc__law_program : FnScope N__law_program P__law_program (defScope s__law_program) := ⟨rfl, rfl, rfl, by decide +kernel, rfl, by decide +kernel, by decide +kernel⟩
set_option maxRecDepth 20000 in
theorem d__law_pick {Γ : Ga} {k : Nat} {C : Nat → Bf} (T : Tx Γ) (S : Cs Γ k C) {f : Addr} (cdv : Value) (A : Around) (outer : List Env) (s : Shared) (H : Hp) (E : XK) (fit : Fit Γ k (cx Γ N__law_pick "_law_pick" (defScope s__law_pick) f cdv A outer s H E)) :
    PSs (cx Γ N__law_pick "_law_pick" (defScope s__law_pick) f cdv A outer s H E) (defBody s__law_pick) (tS Γ (b__law_pick C)) :=
(s_cons (s_while PassesOwn.never ((xw_and (x_cmp (op_gNe fit.eK fit.u64) b_gNe (p_ix fit.eK fit.u1 (p_var 0) p_int) (p_lst a_nil) (nomark _)) (xw_one (x_cmp (op_gEq fit.eK fit.u64) b_gEq (p_ix fit.eK fit.u1 (p_ix fit.eK fit.u1 (p_var 0) p_int) p_int) p_int (nomark _))))).pt
(s_cons (s_ex (m_popAt fit.eK (p_ix fit.eK fit.u1 (p_var 0) p_int) (a_cons p_int a_nil)))
s_nil))
(s_cons (s_if (x_cmp (op_gNe fit.eK fit.u64) b_gNe (p_ix fit.eK fit.u1 (p_var 0) p_int) (p_lst a_nil) (nomark _))
(s_cons (s_asg (p_op op_gMod (p_ix fit.eK fit.u1 (p_ix fit.eK fit.u1 (p_var 0) p_int) p_int) (p_var 1)) (g_nm 3 fit.nd))
(s_cons (s_asg (p_op op_gFdiv (p_ix fit.eK fit.u1 (p_ix fit.eK fit.u1 (p_var 0) p_int) p_int) (p_var 1)) (g_sb fit.u1 (p_ix fit.eK fit.u1 (p_var 0) p_int) p_int (fun _ => rfl)))
(s_cons (s_ret (p_var 3))
s_nil)))
s_nil)
(s_cons (s_asg (p_op op_gMod (p_op (op_gAdd fit.eK) (p_op op_gMul (p_ix fit.eK fit.u1 (p_var 0) p_int) p_int) p_int) p_int) (g_sb fit.u1 (p_var 0) p_int (fun _ => rfl)))
(s_cons (s_asg (p_op op_gFdiv (p_ix fit.eK fit.u1 (p_var 0) p_int) p_int) (g_nm 2 fit.nd))
(s_cons (s_ret (p_op op_gMod (p_op op_gFdiv (p_op op_gMod (p_op op_gMul (p_var 2) (p_op (op_gAdd fit.eK) (p_op op_gMod (p_var 2) p_int) p_int)) p_int) p_int) (p_var 1)))
s_nil)))))
theorem sc__law_pick : FnScope N__law_pick P__law_pick (defScope s__law_pick) := ⟨rfl, rfl, rfl, by decide +kernel, rfl, by decide +kernel, by decide +kernel⟩
set_option maxRecDepth 20000 in
theorem d__law_row {Γ : Ga} {k : Nat} {C : Nat → Bf} (T : Tx Γ) (S : Cs Γ k C) {f : Addr} (cdv : Value) (A : Around) (outer : List Env) (s : Shared) (H : Hp) (E : XK) (fit : Fit Γ k (cx Γ N__law_row "_law_row" (defScope s__law_row) f cdv A outer s H E)) :
    PSs (cx Γ N__law_row "_law_row" (defScope s__law_row) f cdv A outer s H E) (defBody s__law_row) (tS Γ (b__law_row C)) :=
(s_cons (s_asg (p_call fit S.c__law_of_2 (a_cons (p_var 0) (a_cons (p_lst (a_cons p_str (a_cons p_str (a_cons p_str (a_cons p_str (a_cons p_str (a_cons p_str (a_cons p_str a_nil)))))))) a_nil))) (g_nm 2 fit.nd))
(s_cons (s_if (x_cmp (op_gEq fit.eK fit.u64) b_gEq (p_var 2) p_str (nomark _))
(s_cons (s_ret (p_tup (a_cons (p_var 2) (a_cons (p_call fit S.c__law_of_2 (a_cons (p_var 0) (a_cons (p_lst (a_cons p_non (a_cons p_int (a_cons p_int (a_cons p_int (a_cons (p_call fit S.c__law_pick_2 (a_cons (p_var 0) (a_cons p_int a_nil))) (a_cons p_int a_nil))))))) a_nil))) a_nil))))
s_nil)
s_nil)
(s_cons (s_if (x_cmp (op_gEq fit.eK fit.u64) b_gEq (p_var 2) p_str (nomark _))
(s_cons (s_ret (p_tup (a_cons (p_var 2) (a_cons (p_call fit S.c__law_of_2 (a_cons (p_var 0) (a_cons (p_lst (a_cons p_int (a_cons p_int (a_cons (p_call fit S.c__law_pick_2 (a_cons (p_var 0) (a_cons p_int a_nil))) a_nil)))) a_nil))) a_nil))))
s_nil)
s_nil)
(s_cons (s_if (x_cmp (op_gEq fit.eK fit.u64) b_gEq (p_var 2) p_str (nomark _))
(s_cons (s_ret (p_tup (a_cons (p_var 2) (a_cons (p_call fit S.c__law_pick_2 (a_cons (p_var 0) (a_cons (p_var 1) a_nil))) a_nil))))
s_nil)
s_nil)
(s_cons (s_if (x_cmp (op_gEq fit.eK fit.u64) b_gEq (p_var 2) p_str (nomark _))
(s_cons (s_ret (p_tup (a_cons (p_var 2) (a_cons (p_call fit S.c__law_of_2 (a_cons (p_var 0) (a_cons (p_lst (a_cons p_int (a_cons p_int (a_cons (p_neg p_int) (a_cons p_int (a_cons (p_neg p_int) (a_cons p_int a_nil))))))) a_nil))) (a_cons (p_call fit S.c__law_pick_2 (a_cons (p_var 0) (a_cons (p_var 1) a_nil))) a_nil)))))
s_nil)
s_nil)
(s_cons (s_ret (p_tup (a_cons (p_var 2) a_nil)))
s_nil))))))
theorem sc__law_row : FnScope N__law_row P__law_row (defScope s__law_row) := ⟨rfl, rfl, rfl, by decide +kernel, rfl, by decide +kernel, by decide +kernel⟩
set_option maxRecDepth 20000 in
theorem d__law_of {Γ : Ga} {k : Nat} {C : Nat → Bf} (T : Tx Γ) (S : Cs Γ k C) {f : Addr} (cdv : Value) (A : Around) (outer : List Env) (s : Shared) (H : Hp) (E : XK) (fit : Fit Γ k (cx Γ N__law_of "_law_of" (defScope s__law_of) f cdv A outer s H E)) :
    PSs (cx Γ N__law_of "_law_of" (defScope s__law_of) f cdv A outer s H E) (defBody s__law_of) (tS Γ (b__law_of C)) :=
(s_cons (s_ret (p_ix fit.eK fit.u1 (p_var 1) (p_call fit S.c__law_pick_2 (a_cons (p_var 0) (a_cons (p_bi (b_len fit.eK) T.z_len bo_len (a_cons (p_var 1) a_nil)) a_nil)))))
s_nil)
theorem sc__law_of : FnScope N__law_of P__law_of (defScope s__law_of) := ⟨rfl, rfl, rfl, by decide +kernel, rfl, by decide +kernel, by decide +kernel⟩
set_option maxRecDepth 20000 in
theorem d__law_bounds {Γ : Ga} {k : Nat} {C : Nat → Bf} (T : Tx Γ) (S : Cs Γ k C) {f : Addr} (cdv : Value) (A : Around) (outer : List Env) (s : Shared) (H : Hp) (E : XK) (fit : Fit Γ k (cx Γ N__law_bounds "_law_bounds" (defScope s__law_bounds) f cdv A outer s H E)) :
    PSs (cx Γ N__law_bounds "_law_bounds" (defScope s__law_bounds) f cdv A outer s H E) (defBody s__law_bounds) (tS Γ (b__law_bounds C)) :=
(s_cons (s_asg (p_lst (a_cons p_non (a_cons p_int (a_cons p_int (a_cons (p_neg p_int) (a_cons p_int (a_cons p_int (a_cons (p_op op_gSub (p_var 0) p_int) (a_cons (p_var 0) (a_cons p_bl (a_cons p_bl (a_cons p_str (a_cons (p_tup a_nil) (a_cons p_int (a_cons (p_neg p_int) a_nil))))))))))))))) (g_nm 1 fit.nd))
(s_cons (s_asg (p_op (op_gAdd fit.eK) (p_op (op_gAdd fit.eK) (p_lc (own := [("_law_one", 3)]) fit.calm fit.nd (w_seq fit.eK (p_var 1)) (blkOk_by (N := N__law_bounds) (sc := defScope s__law_bounds) (by decide +kernel)) (fun _ _ _ _ _ => (h_nm 3 fit.blk.nd)) (fun _ _ _ _ _ => ts_nil) (fun _ _ _ _ _ => (p_tup (a_cons p_str (a_cons (p_var 3) a_nil))))) (p_lc (own := [("_law_one", 3)]) fit.calm fit.nd (w_seq fit.eK (p_var 1)) (blkOk_by (N := N__law_bounds) (sc := defScope s__law_bounds) (by decide +kernel)) (fun _ _ _ _ _ => (h_nm 3 fit.blk.nd)) (fun _ _ _ _ _ => ts_nil) (fun _ _ _ _ _ => (p_tup (a_cons p_str (a_cons (p_var 3) a_nil)))))) (p_lc (own := [("_law_one", 3)]) fit.calm fit.nd (w_seq fit.eK (p_var 1)) (blkOk_by (N := N__law_bounds) (sc := defScope s__law_bounds) (by decide +kernel)) (fun _ _ _ _ _ => (h_nm 3 fit.blk.nd)) (fun _ _ _ _ _ => ts_nil) (fun _ _ _ _ _ => (p_tup (a_cons p_str (a_cons (p_var 3) a_nil)))))) (g_nm 2 fit.nd))
(s_cons (s_for PassesOwn.never fit.calm (w_seq fit.eK (p_var 1)) (g_nm 3 fit.nd)
(s_cons (s_ex (m_ext fit.eK (p_var 2) (a_cons (p_lst (a_cons (p_tup (a_cons p_str (a_cons (p_var 3) (a_cons p_int a_nil)))) (a_cons (p_tup (a_cons p_str (a_cons p_int (a_cons (p_var 3) a_nil)))) (a_cons (p_tup (a_cons p_str (a_cons (p_var 3) a_nil))) (a_cons (p_tup (a_cons p_str (a_cons (p_var 3) a_nil))) (a_cons (p_tup (a_cons p_str (a_cons (p_var 3) a_nil))) a_nil)))))) a_nil)))
s_nil))
(s_cons (s_ret (p_op (op_gAdd fit.eK) (p_var 2) (p_lst (a_cons (p_tup (a_cons p_str a_nil)) (a_cons (p_tup (a_cons p_str a_nil)) (a_cons (p_tup (a_cons p_str a_nil)) (a_cons (p_tup (a_cons p_str a_nil)) (a_cons (p_tup (a_cons p_str (a_cons p_int a_nil))) (a_cons (p_tup (a_cons p_str (a_cons p_int (a_cons p_int (a_cons p_int a_nil))))) (a_cons (p_tup (a_cons p_str a_nil)) (a_cons (p_tup (a_cons p_str a_nil)) (a_cons (p_tup a_nil) (a_cons (p_lst (a_cons p_str a_nil)) a_nil)))))))))))))
s_nil))))
theorem sc__law_bounds : FnScope N__law_bounds P__law_bounds (defScope s__law_bounds) := ⟨rfl, rfl, rfl, by decide +kernel, rfl, by decide +kernel, by decide +kernel⟩
set_option maxRecDepth 20000 in
theorem d_is_program {Γ : Ga} {k : Nat} {C : Nat → Bf} (T : Tx Γ) (S : Cs Γ k C) {f : Addr} (cdv : Value) (A : Around) (outer : List Env) (s : Shared) (H : Hp) (E : XK) (fit : Fit Γ k (cx Γ N_is_program "is_program" (defScope s_is_program) f cdv A outer s H E)) :
    PSs (cx Γ N_is_program "is_program" (defScope s_is_program) f cdv A outer s H E) (defBody s_is_program) (tS Γ (b_is_program C)) :=
(s_cons (s_ret (p_and fit.eK (p_bi (b_isi fit.eK) T.z_isinstance bo_isinstance (a_cons (p_var 0) (a_cons (p_ty T.z_tuple bo_tuple) a_nil))) (p_one (p_bi (b_all fit.eK fit.calm) T.z_all bo_all (a_cons (p_lc (own := [("row", 1)]) fit.calm fit.nd (w_seq fit.eK (p_var 0)) (blkOk_by (N := N_is_program) (sc := defScope s_is_program) (by decide +kernel)) (fun _ _ _ _ _ => (h_nm 1 fit.blk.nd)) (fun _ _ _ _ _ => ts_nil) (fun _ _ _ _ _ => (p_call fit.blk S.c_is_row_2 (a_cons (p_var 1) (a_cons (p_bi (b_len fit.blk.eK) T.z_len bo_len (a_cons (p_var 0) a_nil)) a_nil))))) a_nil)))))
s_nil)
theorem sc_is_program : FnScope N_is_program P_is_program (defScope s_is_program) := ⟨rfl, rfl, rfl, by decide +kernel, rfl, by decide +kernel, by decide +kernel⟩
set_option maxRecDepth 20000 in
theorem d_is_row {Γ : Ga} {k : Nat} {C : Nat → Bf} (T : Tx Γ) (S : Cs Γ k C) {f : Addr} (cdv : Value) (A : Around) (outer : List Env) (s : Shared) (H : Hp) (E : XK) (fit : Fit Γ k (cx Γ N_is_row "is_row" (defScope s_is_row) f cdv A outer s H E)) :
    PSs (cx Γ N_is_row "is_row" (defScope s_is_row) f cdv A outer s H E) (defBody s_is_row) (tS Γ (b_is_row C)) :=
(s_cons (s_if ((xw_or (x_not (x_val fit.eK (p_bi (b_isi fit.eK) T.z_isinstance bo_isinstance (a_cons (p_var 0) (a_cons (p_ty T.z_tuple bo_tuple) a_nil))))) (xw_or (x_cmp (op_gEq fit.eK fit.u64) b_gEq (p_bi (b_len fit.eK) T.z_len bo_len (a_cons (p_var 0) a_nil)) p_int (nomark _)) (xw_one' (x_not (x_val fit.eK (p_bi (b_isi fit.eK) T.z_isinstance bo_isinstance (a_cons (p_ix fit.eK fit.u1 (p_var 0) p_int) (a_cons (p_ty T.z_str bo_str) a_nil))))))))).pt
(s_cons (s_ret p_bl)
s_nil)
s_nil)
(s_cons (s_asg (p_var 0) (g_star fit.eK fit.calm (gs_cons (g_nm 2 fit.nd) (gs_cons (g_nm 5 fit.nd) gs_nil))))
(s_cons (s_if (x_cmp (op_gIn fit.eK fit.u1) b_gIn (p_var 2) (p_glob fit.eM T.g_BARE) (by with_unfolding_all rfl))
(s_cons (s_ret (p_cmp (op_gEq fit.eK fit.u64) (p_bi (b_len fit.eK) T.z_len bo_len (a_cons (p_var 5) a_nil)) p_int (nomark _)))
s_nil)
s_nil)
(s_cons (s_if (x_sdNot fit T.s_FORMS (p_var 2))
(s_cons (s_ret p_bl)
s_nil)
s_nil)
(s_cons (s_asg (p_sdGet fit T.s_FORMS (p_var 2)) (g_tp fit.eK fit.calm (gs_cons (g_nm 3 fit.nd) (gs_cons (g_nm 4 fit.nd) gs_nil))))
(s_cons (s_ret (p_and fit.eK (p_cmp (op_gEq fit.eK fit.u64) (p_bi (b_len fit.eK) T.z_len bo_len (a_cons (p_var 5) a_nil)) (p_var 3) (nomark _)) (p_one (p_callV 4 fit S.v_2 (a_cons (p_var 5) (a_cons (p_var 1) a_nil))))))
s_nil))))))
theorem sc_is_row : FnScope N_is_row P_is_row (defScope s_is_row) := ⟨rfl, rfl, rfl, by decide +kernel, rfl, by decide +kernel, by decide +kernel⟩
set_option maxRecDepth 20000 in
theorem d_is_take {Γ : Ga} {k : Nat} {C : Nat → Bf} (T : Tx Γ) (S : Cs Γ k C) {f : Addr} (cdv : Value) (A : Around) (outer : List Env) (s : Shared) (H : Hp) (E : XK) (fit : Fit Γ k (cx Γ N_is_take "is_take" (defScope s_is_take) f cdv A outer s H E)) :
    PSs (cx Γ N_is_take "is_take" (defScope s_is_take) f cdv A outer s H E) (defBody s_is_take) (tS Γ (b_is_take C)) :=
(s_cons (s_ret (p_or fit.eK (p_isN (p_ix fit.eK fit.u1 (p_var 0) p_int)) (p_one (p_call fit S.c_is_count_1 (a_cons (p_ix fit.eK fit.u1 (p_var 0) p_int) a_nil)))))
s_nil)
theorem sc_is_take : FnScope N_is_take P_is_take (defScope s_is_take) := ⟨rfl, rfl, rfl, by decide +kernel, rfl, by decide +kernel, by decide +kernel⟩
set_option maxRecDepth 20000 in
theorem d_is_count {Γ : Ga} {k : Nat} {C : Nat → Bf} (T : Tx Γ) (S : Cs Γ k C) {f : Addr} (cdv : Value) (A : Around) (outer : List Env) (s : Shared) (H : Hp) (E : XK) (fit : Fit Γ k (cx Γ N_is_count "is_count" (defScope s_is_count) f cdv A outer s H E)) :
    PSs (cx Γ N_is_count "is_count" (defScope s_is_count) f cdv A outer s H E) (defBody s_is_count) (tS Γ (b_is_count C)) :=
(s_cons (s_ret (p_and fit.eK (p_call fit S.c_is_whole_1 (a_cons (p_var 0) a_nil)) (p_one (p_cmp op_gGe (p_var 0) p_int (nomark _)))))
s_nil)
theorem sc_is_count : FnScope N_is_count P_is_count (defScope s_is_count) := ⟨rfl, rfl, rfl, by decide +kernel, rfl, by decide +kernel, by decide +kernel⟩
set_option maxRecDepth 20000 in
theorem d_is_whole {Γ : Ga} {k : Nat} {C : Nat → Bf} (T : Tx Γ) (S : Cs Γ k C) {f : Addr} (cdv : Value) (A : Around) (outer : List Env) (s : Shared) (H : Hp) (E : XK) (fit : Fit Γ k (cx Γ N_is_whole "is_whole" (defScope s_is_whole) f cdv A outer s H E)) :
    PSs (cx Γ N_is_whole "is_whole" (defScope s_is_whole) f cdv A outer s H E) (defBody s_is_whole) (tS Γ (b_is_whole C)) :=
(s_cons (s_ret (p_and fit.eK (p_bi (b_isi fit.eK) T.z_isinstance bo_isinstance (a_cons (p_var 0) (a_cons (p_ty T.z_int bo_int) a_nil))) (p_one (p_not fit.eK (p_bi (b_isi fit.eK) T.z_isinstance bo_isinstance (a_cons (p_var 0) (a_cons (p_ty T.z_bool bo_bool) a_nil)))))))
s_nil)
theorem sc_is_whole : FnScope N_is_whole P_is_whole (defScope s_is_whole) := ⟨rfl, rfl, rfl, by decide +kernel, rfl, by decide +kernel, by decide +kernel⟩
set_option maxRecDepth 20000 in
theorem d_is_say {Γ : Ga} {k : Nat} {C : Nat → Bf} (T : Tx Γ) (S : Cs Γ k C) {f : Addr} (cdv : Value) (A : Around) (outer : List Env) (s : Shared) (H : Hp) (E : XK) (fit : Fit Γ k (cx Γ N_is_say "is_say" (defScope s_is_say) f cdv A outer s H E)) :
    PSs (cx Γ N_is_say "is_say" (defScope s_is_say) f cdv A outer s H E) (defBody s_is_say) (tS Γ (b_is_say C)) :=
(s_cons (s_ret (p_call fit S.c_is_below_2 (a_cons (p_ix fit.eK fit.u1 (p_var 0) p_int) (a_cons (p_glob fit.eM T.g_MANY_SAID) a_nil))))
s_nil)
theorem sc_is_say : FnScope N_is_say P_is_say (defScope s_is_say) := ⟨rfl, rfl, rfl, by decide +kernel, rfl, by decide +kernel, by decide +kernel⟩
set_option maxRecDepth 20000 in
theorem d_is_below {Γ : Ga} {k : Nat} {C : Nat → Bf} (T : Tx Γ) (S : Cs Γ k C) {f : Addr} (cdv : Value) (A : Around) (outer : List Env) (s : Shared) (H : Hp) (E : XK) (fit : Fit Γ k (cx Γ N_is_below "is_below" (defScope s_is_below) f cdv A outer s H E)) :
    PSs (cx Γ N_is_below "is_below" (defScope s_is_below) f cdv A outer s H E) (defBody s_is_below) (tS Γ (b_is_below C)) :=
(s_cons (s_ret (p_and fit.eK (p_call fit S.c_is_count_1 (a_cons (p_var 0) a_nil)) (p_one (p_cmp op_gLt (p_var 0) (p_var 1) (nomark _)))))
s_nil)
theorem sc_is_below : FnScope N_is_below P_is_below (defScope s_is_below) := ⟨rfl, rfl, rfl, by decide +kernel, rfl, by decide +kernel, by decide +kernel⟩
set_option maxRecDepth 20000 in
theorem d_is_going {Γ : Ga} {k : Nat} {C : Nat → Bf} (T : Tx Γ) (S : Cs Γ k C) {f : Addr} (cdv : Value) (A : Around) (outer : List Env) (s : Shared) (H : Hp) (E : XK) (fit : Fit Γ k (cx Γ N_is_going "is_going" (defScope s_is_going) f cdv A outer s H E)) :
    PSs (cx Γ N_is_going "is_going" (defScope s_is_going) f cdv A outer s H E) (defBody s_is_going) (tS Γ (b_is_going C)) :=
(s_cons (s_ret (p_call fit S.c_is_below_2 (a_cons (p_ix fit.eK fit.u1 (p_var 0) p_int) (a_cons (p_var 1) a_nil))))
s_nil)
theorem sc_is_going : FnScope N_is_going P_is_going (defScope s_is_going) := ⟨rfl, rfl, rfl, by decide +kernel, rfl, by decide +kernel, by decide +kernel⟩
set_option maxRecDepth 20000 in
theorem d_is_asking {Γ : Ga} {k : Nat} {C : Nat → Bf} (T : Tx Γ) (S : Cs Γ k C) {f : Addr} (cdv : Value) (A : Around) (outer : List Env) (s : Shared) (H : Hp) (E : XK) (fit : Fit Γ k (cx Γ N_is_asking "is_asking" (defScope s_is_asking) f cdv A outer s H E)) :
    PSs (cx Γ N_is_asking "is_asking" (defScope s_is_asking) f cdv A outer s H E) (defBody s_is_asking) (tS Γ (b_is_asking C)) :=
(s_cons (s_ret (p_and fit.eK (p_call fit S.c_is_whole_1 (a_cons (p_ix fit.eK fit.u1 (p_var 0) p_int) a_nil)) (p_one (p_call fit S.c_is_below_2 (a_cons (p_ix fit.eK fit.u1 (p_var 0) p_int) (a_cons (p_var 1) a_nil))))))
s_nil)
theorem sc_is_asking : FnScope N_is_asking P_is_asking (defScope s_is_asking) := ⟨rfl, rfl, rfl, by decide +kernel, rfl, by decide +kernel, by decide +kernel⟩
set_option maxRecDepth 20000 in
theorem d__law_is_program {Γ : Ga} {k : Nat} {C : Nat → Bf} (T : Tx Γ) (S : Cs Γ k C) {f : Addr} (cdv : Value) (A : Around) (outer : List Env) (s : Shared) (H : Hp) (E : XK) (fit : Fit Γ k (cx Γ N__law_is_program "_law_is_program" (defScope s__law_is_program) f cdv A outer s H E)) :
    PSs (cx Γ N__law_is_program "_law_is_program" (defScope s__law_is_program) f cdv A outer s H E) (defBody s__law_is_program) (tS Γ (b__law_is_program C)) :=
(s_cons (s_ret (p_and fit.eK (p_bi (b_isi fit.eK) T.z_isinstance bo_isinstance (a_cons (p_var 0) (a_cons (p_ty T.z_tuple bo_tuple) a_nil))) (p_one (p_bi (b_all fit.eK fit.calm) T.z_all bo_all (a_cons (p_lc (own := [("_law_row_here", 1)]) fit.calm fit.nd (w_seq fit.eK (p_var 0)) (blkOk_by (N := N__law_is_program) (sc := defScope s__law_is_program) (by decide +kernel)) (fun _ _ _ _ _ => (h_nm 1 fit.blk.nd)) (fun _ _ _ _ _ => ts_nil) (fun _ _ _ _ _ => (p_call fit.blk S.c__law_is_row_2 (a_cons (p_var 1) (a_cons (p_bi (b_len fit.blk.eK) T.z_len bo_len (a_cons (p_var 0) a_nil)) a_nil))))) a_nil)))))
s_nil)
theorem sc__law_is_program : FnScope N__law_is_program P__law_is_program (defScope s__law_is_program) := ⟨rfl, rfl, rfl, by decide +kernel, rfl, by decide +kernel, by decide +kernel⟩
set_option maxRecDepth 20000 in
theorem d__law_is_row {Γ : Ga} {k : Nat} {C : Nat → Bf} (T : Tx Γ) (S : Cs Γ k C) {f : Addr} (cdv : Value) (A : Around) (outer : List Env) (s : Shared) (H : Hp) (E : XK) (fit : Fit Γ k (cx Γ N__law_is_row "_law_is_row" (defScope s__law_is_row) f cdv A outer s H E)) :
    PSs (cx Γ N__law_is_row "_law_is_row" (defScope s__law_is_row) f cdv A outer s H E) (defBody s__law_is_row) (tS Γ (b__law_is_row C)) :=
(s_cons (s_if ((xw_or (x_not (x_val fit.eK (p_bi (b_isi fit.eK) T.z_isinstance bo_isinstance (a_cons (p_var 0) (a_cons (p_ty T.z_tuple bo_tuple) a_nil))))) (xw_or (x_cmp (op_gEq fit.eK fit.u64) b_gEq (p_var 0) (p_tup a_nil) (nomark _)) (xw_one' (x_not (x_val fit.eK (p_bi (b_isi fit.eK) T.z_isinstance bo_isinstance (a_cons (p_ix fit.eK fit.u1 (p_var 0) p_int) (a_cons (p_ty T.z_str bo_str) a_nil))))))))).pt
(s_cons (s_ret p_bl)
s_nil)
s_nil)
(s_cons (s_asg (m_get2 fit.u1 (p_disp (q_cons p_str p_int (q_cons p_str p_int (q_cons p_str p_int (q_cons p_str p_int (q_cons p_str p_int (q_cons p_str p_int q_nil))))))) (p_ix fit.eK fit.u1 (p_var 0) p_int) p_int) (g_nm 2 fit.nd))
(s_cons (s_if (x_cmp (op_gNe fit.eK fit.u64) b_gNe (p_bi (b_len fit.eK) T.z_len bo_len (a_cons (p_var 0) a_nil)) (p_var 2) (nomark _))
(s_cons (s_ret p_bl)
s_nil)
s_nil)
(s_cons (s_if (x_cmp (op_gEq fit.eK fit.u64) b_gEq (p_ix fit.eK fit.u1 (p_var 0) p_int) p_str (nomark _))
(s_cons (s_ret (p_or fit.eK (p_isN (p_ix fit.eK fit.u1 (p_var 0) p_int)) (p_one (p_call fit S.c__law_whole_3 (a_cons (p_ix fit.eK fit.u1 (p_var 0) p_int) (a_cons p_int (a_cons (p_op op_gPow p_int p_int) a_nil)))))))
s_nil)
s_nil)
(s_cons (s_if (x_cmp (op_gEq fit.eK fit.u64) b_gEq (p_ix fit.eK fit.u1 (p_var 0) p_int) p_str (nomark _))
(s_cons (s_ret (p_call fit S.c__law_whole_3 (a_cons (p_ix fit.eK fit.u1 (p_var 0) p_int) (a_cons p_int (a_cons p_int a_nil)))))
s_nil)
s_nil)
(s_cons (s_if (x_cmp (op_gEq fit.eK fit.u64) b_gEq (p_ix fit.eK fit.u1 (p_var 0) p_int) p_str (nomark _))
(s_cons (s_ret (p_call fit S.c__law_whole_3 (a_cons (p_ix fit.eK fit.u1 (p_var 0) p_int) (a_cons p_int (a_cons (p_var 1) a_nil)))))
s_nil)
s_nil)
(s_cons (s_ret (p_or fit.eK (p_cmp (op_gNe fit.eK fit.u64) (p_ix fit.eK fit.u1 (p_var 0) p_int) p_str (nomark _)) (p_one (p_and fit.eK (p_call fit S.c__law_whole_3 (a_cons (p_ix fit.eK fit.u1 (p_var 0) p_int) (a_cons (p_op op_gSub p_int (p_op op_gPow p_int p_int)) (a_cons (p_op op_gPow p_int p_int) a_nil)))) (p_one (p_call fit S.c__law_whole_3 (a_cons (p_ix fit.eK fit.u1 (p_var 0) p_int) (a_cons p_int (a_cons (p_var 1) a_nil)))))))))
s_nil)))))))
theorem sc__law_is_row : FnScope N__law_is_row P__law_is_row (defScope s__law_is_row) := ⟨rfl, rfl, rfl, by decide +kernel, rfl, by decide +kernel, by decide +kernel⟩
set_option maxRecDepth 20000 in
theorem d__law_whole {Γ : Ga} {k : Nat} {C : Nat → Bf} (T : Tx Γ) (S : Cs Γ k C) {f : Addr} (cdv : Value) (A : Around) (outer : List Env) (s : Shared) (H : Hp) (E : XK) (fit : Fit Γ k (cx Γ N__law_whole "_law_whole" (defScope s__law_whole) f cdv A outer s H E)) :
    PSs (cx Γ N__law_whole "_law_whole" (defScope s__law_whole) f cdv A outer s H E) (defBody s__law_whole) (tS Γ (b__law_whole C)) :=
(s_cons (s_ret (p_and fit.eK (p_bi (b_isi fit.eK) T.z_isinstance bo_isinstance (a_cons (p_var 0) (a_cons (p_ty T.z_int bo_int) a_nil))) (p_and fit.eK (p_not fit.eK (p_bi (b_isi fit.eK) T.z_isinstance bo_isinstance (a_cons (p_var 0) (a_cons (p_ty T.z_bool bo_bool) a_nil)))) (p_one (p_chain op_gLe op_gLt (p_var 1) (p_var 0) (p_var 2))))))
s_nil)
theorem sc__law_whole : FnScope N__law_whole P__law_whole (defScope s__law_whole) := ⟨rfl, rfl, rfl, by decide +kernel, rfl, by decide +kernel, by decide +kernel⟩
def bodies (C : Nat → Bf) : Nat → Bf
  | 0 => bodyD (b_law C) N_law.length
  | 1 => bodyD (b__law_hand C) N__law_hand.length
  | 2 => bodyD (b__law_program C) N__law_program.length
  | 3 => bodyD (b__law_pick C) N__law_pick.length
  | 4 => bodyD (b__law_row C) N__law_row.length
  | 5 => bodyD (b__law_of C) N__law_of.length
  | 6 => bodyD (b__law_bounds C) N__law_bounds.length
  | 7 => bodyD (b_is_program C) N_is_program.length
  | 8 => bodyD (b_is_row C) N_is_row.length
  | 9 => bodyD (b_is_take C) N_is_take.length
  | 10 => bodyD (b_is_count C) N_is_count.length
  | 11 => bodyD (b_is_whole C) N_is_whole.length
  | 12 => bodyD (b_is_say C) N_is_say.length
  | 13 => bodyD (b_is_below C) N_is_below.length
  | 14 => bodyD (b_is_going C) N_is_going.length
  | 15 => bodyD (b_is_asking C) N_is_asking.length
  | 16 => bodyD (b__law_is_program C) N__law_is_program.length
  | 17 => bodyD (b__law_is_row C) N__law_is_row.length
  | 18 => bodyD (b__law_whole C) N__law_whole.length
  | _ => fun _ _ => none
def callN : Nat → Nat → Bf
  | 0 => fun _ _ _ => none
  | k + 1 => bodies (callN k)
structure Df (Γ : Ga) : Prop where
  e_law : ∃ f fd, DefAt Γ "law" s_law [] [] f fd
  e__law_hand : ∃ f fd, DefAt Γ "_law_hand" s__law_hand [] [] f fd
  e__law_program : ∃ f fd, DefAt Γ "_law_program" s__law_program [] [] f fd
  e__law_pick : ∃ f fd, DefAt Γ "_law_pick" s__law_pick [] [] f fd
  e__law_row : ∃ f fd, DefAt Γ "_law_row" s__law_row [] [] f fd
  e__law_of : ∃ f fd, DefAt Γ "_law_of" s__law_of [] [] f fd
  e__law_bounds : ∃ f fd, DefAt Γ "_law_bounds" s__law_bounds [] [] f fd
  e_is_program : ∃ f fd, DefAt Γ "is_program" s_is_program [] [] f fd
  e_is_row : ∃ f fd, DefAt Γ "is_row" s_is_row [] [] f fd
  e_is_take : ∃ f fd, DefAt Γ "is_take" s_is_take [] [] f fd
  e_is_count : ∃ f fd, DefAt Γ "is_count" s_is_count [] [] f fd
  e_is_whole : ∃ f fd, DefAt Γ "is_whole" s_is_whole [] [] f fd
  e_is_say : ∃ f fd, DefAt Γ "is_say" s_is_say [] [] f fd
  e_is_below : ∃ f fd, DefAt Γ "is_below" s_is_below [] [] f fd
  e_is_going : ∃ f fd, DefAt Γ "is_going" s_is_going [] [] f fd
  e_is_asking : ∃ f fd, DefAt Γ "is_asking" s_is_asking [] [] f fd
  e__law_is_program : ∃ f fd, DefAt Γ "_law_is_program" s__law_is_program [] [] f fd
  e__law_is_row : ∃ f fd, DefAt Γ "_law_is_row" s__law_is_row [] [] f fd
  e__law_whole : ∃ f fd, DefAt Γ "_law_whole" s__law_whole [] [] f fd
theorem cs_mk {Γ : Ga} {k : Nat} {C : Nat → Bf} {f_law : Addr} {fd_law : FuncData} (D_law : DefAt Γ "law" s_law [] [] f_law fd_law) {f__law_hand : Addr} {fd__law_hand : FuncData} (D__law_hand : DefAt Γ "_law_hand" s__law_hand [] [] f__law_hand fd__law_hand) {f__law_program : Addr} {fd__law_program : FuncData} (D__law_program : DefAt Γ "_law_program" s__law_program [] [] f__law_program fd__law_program) {f__law_pick : Addr} {fd__law_pick : FuncData} (D__law_pick : DefAt Γ "_law_pick" s__law_pick [] [] f__law_pick fd__law_pick) {f__law_row : Addr} {fd__law_row : FuncData} (D__law_row : DefAt Γ "_law_row" s__law_row [] [] f__law_row fd__law_row) {f__law_of : Addr} {fd__law_of : FuncData} (D__law_of : DefAt Γ "_law_of" s__law_of [] [] f__law_of fd__law_of) {f__law_bounds : Addr} {fd__law_bounds : FuncData} (D__law_bounds : DefAt Γ "_law_bounds" s__law_bounds [] [] f__law_bounds fd__law_bounds) {f_is_program : Addr} {fd_is_program : FuncData} (D_is_program : DefAt Γ "is_program" s_is_program [] [] f_is_program fd_is_program) {f_is_row : Addr} {fd_is_row : FuncData} (D_is_row : DefAt Γ "is_row" s_is_row [] [] f_is_row fd_is_row) {f_is_take : Addr} {fd_is_take : FuncData} (D_is_take : DefAt Γ "is_take" s_is_take [] [] f_is_take fd_is_take) {f_is_count : Addr} {fd_is_count : FuncData} (D_is_count : DefAt Γ "is_count" s_is_count [] [] f_is_count fd_is_count) {f_is_whole : Addr} {fd_is_whole : FuncData} (D_is_whole : DefAt Γ "is_whole" s_is_whole [] [] f_is_whole fd_is_whole) {f_is_say : Addr} {fd_is_say : FuncData} (D_is_say : DefAt Γ "is_say" s_is_say [] [] f_is_say fd_is_say) {f_is_below : Addr} {fd_is_below : FuncData} (D_is_below : DefAt Γ "is_below" s_is_below [] [] f_is_below fd_is_below) {f_is_going : Addr} {fd_is_going : FuncData} (D_is_going : DefAt Γ "is_going" s_is_going [] [] f_is_going fd_is_going) {f_is_asking : Addr} {fd_is_asking : FuncData} (D_is_asking : DefAt Γ "is_asking" s_is_asking [] [] f_is_asking fd_is_asking) {f__law_is_program : Addr} {fd__law_is_program : FuncData} (D__law_is_program : DefAt Γ "_law_is_program" s__law_is_program [] [] f__law_is_program fd__law_is_program) {f__law_is_row : Addr} {fd__law_is_row : FuncData} (D__law_is_row : DefAt Γ "_law_is_row" s__law_is_row [] [] f__law_is_row fd__law_is_row) {f__law_whole : Addr} {fd__law_whole : FuncData} (D__law_whole : DefAt Γ "_law_whole" s__law_whole [] [] f__law_whole fd__law_whole) (hF : ∀ i, Γ.fa i = ([f_law, f__law_hand, f__law_program, f__law_pick, f__law_row, f__law_of, f__law_bounds, f_is_program, f_is_row, f_is_take, f_is_count, f_is_whole, f_is_say, f_is_below, f_is_going, f_is_asking, f__law_is_program, f__law_is_row, f__law_whole] : List Addr).getD i 0)
    (F_law : FnG Γ k f_law fd_law P_law (C 0)) (F__law_hand : FnG Γ k f__law_hand fd__law_hand P__law_hand (C 1)) (F__law_program : FnG Γ k f__law_program fd__law_program P__law_program (C 2)) (F__law_pick : FnG Γ k f__law_pick fd__law_pick P__law_pick (C 3)) (F__law_row : FnG Γ k f__law_row fd__law_row P__law_row (C 4)) (F__law_of : FnG Γ k f__law_of fd__law_of P__law_of (C 5)) (F__law_bounds : FnG Γ k f__law_bounds fd__law_bounds P__law_bounds (C 6)) (F_is_program : FnG Γ k f_is_program fd_is_program P_is_program (C 7)) (F_is_row : FnG Γ k f_is_row fd_is_row P_is_row (C 8)) (F_is_take : FnG Γ k f_is_take fd_is_take P_is_take (C 9)) (F_is_count : FnG Γ k f_is_count fd_is_count P_is_count (C 10)) (F_is_whole : FnG Γ k f_is_whole fd_is_whole P_is_whole (C 11)) (F_is_say : FnG Γ k f_is_say fd_is_say P_is_say (C 12)) (F_is_below : FnG Γ k f_is_below fd_is_below P_is_below (C 13)) (F_is_going : FnG Γ k f_is_going fd_is_going P_is_going (C 14)) (F_is_asking : FnG Γ k f_is_asking fd_is_asking P_is_asking (C 15)) (F__law_is_program : FnG Γ k f__law_is_program fd__law_is_program P__law_is_program (C 16)) (F__law_is_row : FnG Γ k f__law_is_row fd__law_is_row P__law_is_row (C 17)) (F__law_whole : FnG Γ k f__law_whole fd__law_whole P__law_whole (C 18)) : Cs Γ k C where
  c__law_hand_1 := CalG.plain D__law_hand F__law_hand fun _ _ _ _ _ _ us hl => match us, hl with | [_], _ => rfl
  c__law_program_2 := CalG.plain D__law_program F__law_program fun _ _ _ _ _ _ us hl => match us, hl with | [_, _], _ => rfl
  c__law_pick_2 := CalG.plain D__law_pick F__law_pick fun _ _ _ _ _ _ us hl => match us, hl with | [_, _], _ => rfl
  c__law_row_2 := CalG.plain D__law_row F__law_row fun _ _ _ _ _ _ us hl => match us, hl with | [_, _], _ => rfl
  c__law_of_2 := CalG.plain D__law_of F__law_of fun _ _ _ _ _ _ us hl => match us, hl with | [_, _], _ => rfl
  c__law_bounds_1 := CalG.plain D__law_bounds F__law_bounds fun _ _ _ _ _ _ us hl => match us, hl with | [_], _ => rfl
  c_is_program_1 := CalG.plain D_is_program F_is_program fun _ _ _ _ _ _ us hl => match us, hl with | [_], _ => rfl
  c_is_row_2 := CalG.plain D_is_row F_is_row fun _ _ _ _ _ _ us hl => match us, hl with | [_, _], _ => rfl
  c_is_count_1 := CalG.plain D_is_count F_is_count fun _ _ _ _ _ _ us hl => match us, hl with | [_], _ => rfl
  c_is_whole_1 := CalG.plain D_is_whole F_is_whole fun _ _ _ _ _ _ us hl => match us, hl with | [_], _ => rfl
  c_is_below_2 := CalG.plain D_is_below F_is_below fun _ _ _ _ _ _ us hl => match us, hl with | [_, _], _ => rfl
  c__law_is_program_1 := CalG.plain D__law_is_program F__law_is_program fun _ _ _ _ _ _ us hl => match us, hl with | [_], _ => rfl
  c__law_is_row_2 := CalG.plain D__law_is_row F__law_is_row fun _ _ _ _ _ _ us hl => match us, hl with | [_, _], _ => rfl
  c__law_whole_3 := CalG.plain D__law_whole F__law_whole fun _ _ _ _ _ _ us hl => match us, hl with | [_, _, _], _ => rfl
  v_2 := fun f hf => by
    simp only [List.mem_cons, List.not_mem_nil, or_false] at hf
    rcases hf with rfl | rfl | rfl | rfl
    · have e : Γ.fa 9 = f_is_take := hF 9
      rw [e]
      exact ⟨fd_is_take, P_is_take, F_is_take, D_is_take.fn.kp, D_is_take.fn.bindsN (fun _ _ _ _ _ _ us hl => match us, hl with | [_, _], _ => rfl), rfl⟩
    · have e : Γ.fa 12 = f_is_say := hF 12
      rw [e]
      exact ⟨fd_is_say, P_is_say, F_is_say, D_is_say.fn.kp, D_is_say.fn.bindsN (fun _ _ _ _ _ _ us hl => match us, hl with | [_, _], _ => rfl), rfl⟩
    · have e : Γ.fa 14 = f_is_going := hF 14
      rw [e]
      exact ⟨fd_is_going, P_is_going, F_is_going, D_is_going.fn.kp, D_is_going.fn.bindsN (fun _ _ _ _ _ _ us hl => match us, hl with | [_, _], _ => rfl), rfl⟩
    · have e : Γ.fa 15 = f_is_asking := hF 15
      rw [e]
      exact ⟨fd_is_asking, P_is_asking, F_is_asking, D_is_asking.fn.kp, D_is_asking.fn.bindsN (fun _ _ _ _ _ _ us hl => match us, hl with | [_, _], _ => rfl), rfl⟩
theorem level {Γ : Ga} (T : Tx Γ) {f_law : Addr} {fd_law : FuncData} (D_law : DefAt Γ "law" s_law [] [] f_law fd_law) {f__law_hand : Addr} {fd__law_hand : FuncData} (D__law_hand : DefAt Γ "_law_hand" s__law_hand [] [] f__law_hand fd__law_hand) {f__law_program : Addr} {fd__law_program : FuncData} (D__law_program : DefAt Γ "_law_program" s__law_program [] [] f__law_program fd__law_program) {f__law_pick : Addr} {fd__law_pick : FuncData} (D__law_pick : DefAt Γ "_law_pick" s__law_pick [] [] f__law_pick fd__law_pick) {f__law_row : Addr} {fd__law_row : FuncData} (D__law_row : DefAt Γ "_law_row" s__law_row [] [] f__law_row fd__law_row) {f__law_of : Addr} {fd__law_of : FuncData} (D__law_of : DefAt Γ "_law_of" s__law_of [] [] f__law_of fd__law_of) {f__law_bounds : Addr} {fd__law_bounds : FuncData} (D__law_bounds : DefAt Γ "_law_bounds" s__law_bounds [] [] f__law_bounds fd__law_bounds) {f_is_program : Addr} {fd_is_program : FuncData} (D_is_program : DefAt Γ "is_program" s_is_program [] [] f_is_program fd_is_program) {f_is_row : Addr} {fd_is_row : FuncData} (D_is_row : DefAt Γ "is_row" s_is_row [] [] f_is_row fd_is_row) {f_is_take : Addr} {fd_is_take : FuncData} (D_is_take : DefAt Γ "is_take" s_is_take [] [] f_is_take fd_is_take) {f_is_count : Addr} {fd_is_count : FuncData} (D_is_count : DefAt Γ "is_count" s_is_count [] [] f_is_count fd_is_count) {f_is_whole : Addr} {fd_is_whole : FuncData} (D_is_whole : DefAt Γ "is_whole" s_is_whole [] [] f_is_whole fd_is_whole) {f_is_say : Addr} {fd_is_say : FuncData} (D_is_say : DefAt Γ "is_say" s_is_say [] [] f_is_say fd_is_say) {f_is_below : Addr} {fd_is_below : FuncData} (D_is_below : DefAt Γ "is_below" s_is_below [] [] f_is_below fd_is_below) {f_is_going : Addr} {fd_is_going : FuncData} (D_is_going : DefAt Γ "is_going" s_is_going [] [] f_is_going fd_is_going) {f_is_asking : Addr} {fd_is_asking : FuncData} (D_is_asking : DefAt Γ "is_asking" s_is_asking [] [] f_is_asking fd_is_asking) {f__law_is_program : Addr} {fd__law_is_program : FuncData} (D__law_is_program : DefAt Γ "_law_is_program" s__law_is_program [] [] f__law_is_program fd__law_is_program) {f__law_is_row : Addr} {fd__law_is_row : FuncData} (D__law_is_row : DefAt Γ "_law_is_row" s__law_is_row [] [] f__law_is_row fd__law_is_row) {f__law_whole : Addr} {fd__law_whole : FuncData} (D__law_whole : DefAt Γ "_law_whole" s__law_whole [] [] f__law_whole fd__law_whole) (hF : ∀ i, Γ.fa i = ([f_law, f__law_hand, f__law_program, f__law_pick, f__law_row, f__law_of, f__law_bounds, f_is_program, f_is_row, f_is_take, f_is_count, f_is_whole, f_is_say, f_is_below, f_is_going, f_is_asking, f__law_is_program, f__law_is_row, f__law_whole] : List Addr).getD i 0) : ∀ k, Cs Γ k (callN k)
  | 0 => cs_mk D_law D__law_hand D__law_program D__law_pick D__law_row D__law_of D__law_bounds D_is_program D_is_row D_is_take D_is_count D_is_whole D_is_say D_is_below D_is_going D_is_asking D__law_is_program D__law_is_row D__law_whole hF FnG.zero FnG.zero FnG.zero FnG.zero FnG.zero FnG.zero FnG.zero FnG.zero FnG.zero FnG.zero FnG.zero FnG.zero FnG.zero FnG.zero FnG.zero FnG.zero FnG.zero FnG.zero FnG.zero
  | k + 1 => cs_mk D_law D__law_hand D__law_program D__law_pick D__law_row D__law_of D__law_bounds D_is_program D_is_row D_is_take D_is_count D_is_whole D_is_say D_is_below D_is_going D_is_asking D__law_is_program D__law_is_row D__law_whole hF (FnG.of D_law.fn sc_law fun cdv A outer s H E fit => d_law T (level T D_law D__law_hand D__law_program D__law_pick D__law_row D__law_of D__law_bounds D_is_program D_is_row D_is_take D_is_count D_is_whole D_is_say D_is_below D_is_going D_is_asking D__law_is_program D__law_is_row D__law_whole hF k) cdv A outer s H E fit) (FnG.of D__law_hand.fn sc__law_hand fun cdv A outer s H E fit => d__law_hand T (level T D_law D__law_hand D__law_program D__law_pick D__law_row D__law_of D__law_bounds D_is_program D_is_row D_is_take D_is_count D_is_whole D_is_say D_is_below D_is_going D_is_asking D__law_is_program D__law_is_row D__law_whole hF k) cdv A outer s H E fit) (FnG.of D__law_program.fn sc__law_program fun cdv A outer s H E fit => d__law_program T (level T D_law D__law_hand D__law_program D__law_pick D__law_row D__law_of D__law_bounds D_is_program D_is_row D_is_take D_is_count D_is_whole D_is_say D_is_below D_is_going D_is_asking D__law_is_program D__law_is_row D__law_whole hF k) cdv A outer s H E fit) (FnG.of D__law_pick.fn sc__law_pick fun cdv A outer s H E fit => d__law_pick T (level T D_law D__law_hand D__law_program D__law_pick D__law_row D__law_of D__law_bounds D_is_program D_is_row D_is_take D_is_count D_is_whole D_is_say D_is_below D_is_going D_is_asking D__law_is_program D__law_is_row D__law_whole hF k) cdv A outer s H E fit) (FnG.of D__law_row.fn sc__law_row fun cdv A outer s H E fit => d__law_row T (level T D_law D__law_hand D__law_program D__law_pick D__law_row D__law_of D__law_bounds D_is_program D_is_row D_is_take D_is_count D_is_whole D_is_say D_is_below D_is_going D_is_asking D__law_is_program D__law_is_row D__law_whole hF k) cdv A outer s H E fit) (FnG.of D__law_of.fn sc__law_of fun cdv A outer s H E fit => d__law_of T (level T D_law D__law_hand D__law_program D__law_pick D__law_row D__law_of D__law_bounds D_is_program D_is_row D_is_take D_is_count D_is_whole D_is_say D_is_below D_is_going D_is_asking D__law_is_program D__law_is_row D__law_whole hF k) cdv A outer s H E fit) (FnG.of D__law_bounds.fn sc__law_bounds fun cdv A outer s H E fit => d__law_bounds T (level T D_law D__law_hand D__law_program D__law_pick D__law_row D__law_of D__law_bounds D_is_program D_is_row D_is_take D_is_count D_is_whole D_is_say D_is_below D_is_going D_is_asking D__law_is_program D__law_is_row D__law_whole hF k) cdv A outer s H E fit) (FnG.of D_is_program.fn sc_is_program fun cdv A outer s H E fit => d_is_program T (level T D_law D__law_hand D__law_program D__law_pick D__law_row D__law_of D__law_bounds D_is_program D_is_row D_is_take D_is_count D_is_whole D_is_say D_is_below D_is_going D_is_asking D__law_is_program D__law_is_row D__law_whole hF k) cdv A outer s H E fit) (FnG.of D_is_row.fn sc_is_row fun cdv A outer s H E fit => d_is_row T (level T D_law D__law_hand D__law_program D__law_pick D__law_row D__law_of D__law_bounds D_is_program D_is_row D_is_take D_is_count D_is_whole D_is_say D_is_below D_is_going D_is_asking D__law_is_program D__law_is_row D__law_whole hF k) cdv A outer s H E fit) (FnG.of D_is_take.fn sc_is_take fun cdv A outer s H E fit => d_is_take T (level T D_law D__law_hand D__law_program D__law_pick D__law_row D__law_of D__law_bounds D_is_program D_is_row D_is_take D_is_count D_is_whole D_is_say D_is_below D_is_going D_is_asking D__law_is_program D__law_is_row D__law_whole hF k) cdv A outer s H E fit) (FnG.of D_is_count.fn sc_is_count fun cdv A outer s H E fit => d_is_count T (level T D_law D__law_hand D__law_program D__law_pick D__law_row D__law_of D__law_bounds D_is_program D_is_row D_is_take D_is_count D_is_whole D_is_say D_is_below D_is_going D_is_asking D__law_is_program D__law_is_row D__law_whole hF k) cdv A outer s H E fit) (FnG.of D_is_whole.fn sc_is_whole fun cdv A outer s H E fit => d_is_whole T (level T D_law D__law_hand D__law_program D__law_pick D__law_row D__law_of D__law_bounds D_is_program D_is_row D_is_take D_is_count D_is_whole D_is_say D_is_below D_is_going D_is_asking D__law_is_program D__law_is_row D__law_whole hF k) cdv A outer s H E fit) (FnG.of D_is_say.fn sc_is_say fun cdv A outer s H E fit => d_is_say T (level T D_law D__law_hand D__law_program D__law_pick D__law_row D__law_of D__law_bounds D_is_program D_is_row D_is_take D_is_count D_is_whole D_is_say D_is_below D_is_going D_is_asking D__law_is_program D__law_is_row D__law_whole hF k) cdv A outer s H E fit) (FnG.of D_is_below.fn sc_is_below fun cdv A outer s H E fit => d_is_below T (level T D_law D__law_hand D__law_program D__law_pick D__law_row D__law_of D__law_bounds D_is_program D_is_row D_is_take D_is_count D_is_whole D_is_say D_is_below D_is_going D_is_asking D__law_is_program D__law_is_row D__law_whole hF k) cdv A outer s H E fit) (FnG.of D_is_going.fn sc_is_going fun cdv A outer s H E fit => d_is_going T (level T D_law D__law_hand D__law_program D__law_pick D__law_row D__law_of D__law_bounds D_is_program D_is_row D_is_take D_is_count D_is_whole D_is_say D_is_below D_is_going D_is_asking D__law_is_program D__law_is_row D__law_whole hF k) cdv A outer s H E fit) (FnG.of D_is_asking.fn sc_is_asking fun cdv A outer s H E fit => d_is_asking T (level T D_law D__law_hand D__law_program D__law_pick D__law_row D__law_of D__law_bounds D_is_program D_is_row D_is_take D_is_count D_is_whole D_is_say D_is_below D_is_going D_is_asking D__law_is_program D__law_is_row D__law_whole hF k) cdv A outer s H E fit) (FnG.of D__law_is_program.fn sc__law_is_program fun cdv A outer s H E fit => d__law_is_program T (level T D_law D__law_hand D__law_program D__law_pick D__law_row D__law_of D__law_bounds D_is_program D_is_row D_is_take D_is_count D_is_whole D_is_say D_is_below D_is_going D_is_asking D__law_is_program D__law_is_row D__law_whole hF k) cdv A outer s H E fit) (FnG.of D__law_is_row.fn sc__law_is_row fun cdv A outer s H E fit => d__law_is_row T (level T D_law D__law_hand D__law_program D__law_pick D__law_row D__law_of D__law_bounds D_is_program D_is_row D_is_take D_is_count D_is_whole D_is_say D_is_below D_is_going D_is_asking D__law_is_program D__law_is_row D__law_whole hF k) cdv A outer s H E fit) (FnG.of D__law_whole.fn sc__law_whole fun cdv A outer s H E fit => d__law_whole T (level T D_law D__law_hand D__law_program D__law_pick D__law_row D__law_of D__law_bounds D_is_program D_is_row D_is_take D_is_count D_is_whole D_is_say D_is_below D_is_going D_is_asking D__law_is_program D__law_is_row D__law_whole hF k) cdv A outer s H E fit)
theorem fn_law {Γ : Ga} (T : Tx Γ) {f_law : Addr} {fd_law : FuncData} (D_law : DefAt Γ "law" s_law [] [] f_law fd_law) {f__law_hand : Addr} {fd__law_hand : FuncData} (D__law_hand : DefAt Γ "_law_hand" s__law_hand [] [] f__law_hand fd__law_hand) {f__law_program : Addr} {fd__law_program : FuncData} (D__law_program : DefAt Γ "_law_program" s__law_program [] [] f__law_program fd__law_program) {f__law_pick : Addr} {fd__law_pick : FuncData} (D__law_pick : DefAt Γ "_law_pick" s__law_pick [] [] f__law_pick fd__law_pick) {f__law_row : Addr} {fd__law_row : FuncData} (D__law_row : DefAt Γ "_law_row" s__law_row [] [] f__law_row fd__law_row) {f__law_of : Addr} {fd__law_of : FuncData} (D__law_of : DefAt Γ "_law_of" s__law_of [] [] f__law_of fd__law_of) {f__law_bounds : Addr} {fd__law_bounds : FuncData} (D__law_bounds : DefAt Γ "_law_bounds" s__law_bounds [] [] f__law_bounds fd__law_bounds) {f_is_program : Addr} {fd_is_program : FuncData} (D_is_program : DefAt Γ "is_program" s_is_program [] [] f_is_program fd_is_program) {f_is_row : Addr} {fd_is_row : FuncData} (D_is_row : DefAt Γ "is_row" s_is_row [] [] f_is_row fd_is_row) {f_is_take : Addr} {fd_is_take : FuncData} (D_is_take : DefAt Γ "is_take" s_is_take [] [] f_is_take fd_is_take) {f_is_count : Addr} {fd_is_count : FuncData} (D_is_count : DefAt Γ "is_count" s_is_count [] [] f_is_count fd_is_count) {f_is_whole : Addr} {fd_is_whole : FuncData} (D_is_whole : DefAt Γ "is_whole" s_is_whole [] [] f_is_whole fd_is_whole) {f_is_say : Addr} {fd_is_say : FuncData} (D_is_say : DefAt Γ "is_say" s_is_say [] [] f_is_say fd_is_say) {f_is_below : Addr} {fd_is_below : FuncData} (D_is_below : DefAt Γ "is_below" s_is_below [] [] f_is_below fd_is_below) {f_is_going : Addr} {fd_is_going : FuncData} (D_is_going : DefAt Γ "is_going" s_is_going [] [] f_is_going fd_is_going) {f_is_asking : Addr} {fd_is_asking : FuncData} (D_is_asking : DefAt Γ "is_asking" s_is_asking [] [] f_is_asking fd_is_asking) {f__law_is_program : Addr} {fd__law_is_program : FuncData} (D__law_is_program : DefAt Γ "_law_is_program" s__law_is_program [] [] f__law_is_program fd__law_is_program) {f__law_is_row : Addr} {fd__law_is_row : FuncData} (D__law_is_row : DefAt Γ "_law_is_row" s__law_is_row [] [] f__law_is_row fd__law_is_row) {f__law_whole : Addr} {fd__law_whole : FuncData} (D__law_whole : DefAt Γ "_law_whole" s__law_whole [] [] f__law_whole fd__law_whole) (hF : ∀ i, Γ.fa i = ([f_law, f__law_hand, f__law_program, f__law_pick, f__law_row, f__law_of, f__law_bounds, f_is_program, f_is_row, f_is_take, f_is_count, f_is_whole, f_is_say, f_is_below, f_is_going, f_is_asking, f__law_is_program, f__law_is_row, f__law_whole] : List Addr).getD i 0) (k : Nat) : FnG Γ (k + 1) f_law fd_law P_law (callN (k + 1) 0) := FnG.of D_law.fn sc_law fun cdv A outer s H E fit => d_law T (level T D_law D__law_hand D__law_program D__law_pick D__law_row D__law_of D__law_bounds D_is_program D_is_row D_is_take D_is_count D_is_whole D_is_say D_is_below D_is_going D_is_asking D__law_is_program D__law_is_row D__law_whole hF k) cdv A outer s H E fit
theorem all_mk {l : PySem.W.OpenLaw} {w : World} {K : PySem.W.Frag} {h : Heap} {mg : Str → Option Value} {fa : Addr} (X : K.In h) (G : h.Ns mainGlobals mg) (hfa : mg "law" = some (.ref fa)) {f_law : Addr} {oc_law kV_law dc_law pm_law cd_law ct_law : Value} {od_law an_law : Option Addr} {sl_law : Array (Option Value)} {f__law_hand : Addr} {oc__law_hand kV__law_hand dc__law_hand pm__law_hand cd__law_hand ct__law_hand : Value} {od__law_hand an__law_hand : Option Addr} {sl__law_hand : Array (Option Value)} {f__law_program : Addr} {oc__law_program kV__law_program dc__law_program pm__law_program cd__law_program ct__law_program : Value} {od__law_program an__law_program : Option Addr} {sl__law_program : Array (Option Value)} {f__law_pick : Addr} {oc__law_pick kV__law_pick dc__law_pick pm__law_pick cd__law_pick ct__law_pick : Value} {od__law_pick an__law_pick : Option Addr} {sl__law_pick : Array (Option Value)} {f__law_row : Addr} {oc__law_row kV__law_row dc__law_row pm__law_row cd__law_row ct__law_row : Value} {od__law_row an__law_row : Option Addr} {sl__law_row : Array (Option Value)} {f__law_of : Addr} {oc__law_of kV__law_of dc__law_of pm__law_of cd__law_of ct__law_of : Value} {od__law_of an__law_of : Option Addr} {sl__law_of : Array (Option Value)} {f__law_bounds : Addr} {oc__law_bounds kV__law_bounds dc__law_bounds pm__law_bounds cd__law_bounds ct__law_bounds : Value} {od__law_bounds an__law_bounds : Option Addr} {sl__law_bounds : Array (Option Value)} {f_is_program : Addr} {oc_is_program kV_is_program dc_is_program pm_is_program cd_is_program ct_is_program : Value} {od_is_program an_is_program : Option Addr} {sl_is_program : Array (Option Value)} {f_is_row : Addr} {oc_is_row kV_is_row dc_is_row pm_is_row cd_is_row ct_is_row : Value} {od_is_row an_is_row : Option Addr} {sl_is_row : Array (Option Value)} {f_is_take : Addr} {oc_is_take kV_is_take dc_is_take pm_is_take cd_is_take ct_is_take : Value} {od_is_take an_is_take : Option Addr} {sl_is_take : Array (Option Value)} {f_is_count : Addr} {oc_is_count kV_is_count dc_is_count pm_is_count cd_is_count ct_is_count : Value} {od_is_count an_is_count : Option Addr} {sl_is_count : Array (Option Value)} {f_is_whole : Addr} {oc_is_whole kV_is_whole dc_is_whole pm_is_whole cd_is_whole ct_is_whole : Value} {od_is_whole an_is_whole : Option Addr} {sl_is_whole : Array (Option Value)} {f_is_say : Addr} {oc_is_say kV_is_say dc_is_say pm_is_say cd_is_say ct_is_say : Value} {od_is_say an_is_say : Option Addr} {sl_is_say : Array (Option Value)} {f_is_below : Addr} {oc_is_below kV_is_below dc_is_below pm_is_below cd_is_below ct_is_below : Value} {od_is_below an_is_below : Option Addr} {sl_is_below : Array (Option Value)} {f_is_going : Addr} {oc_is_going kV_is_going dc_is_going pm_is_going cd_is_going ct_is_going : Value} {od_is_going an_is_going : Option Addr} {sl_is_going : Array (Option Value)} {f_is_asking : Addr} {oc_is_asking kV_is_asking dc_is_asking pm_is_asking cd_is_asking ct_is_asking : Value} {od_is_asking an_is_asking : Option Addr} {sl_is_asking : Array (Option Value)} {f__law_is_program : Addr} {oc__law_is_program kV__law_is_program dc__law_is_program pm__law_is_program cd__law_is_program ct__law_is_program : Value} {od__law_is_program an__law_is_program : Option Addr} {sl__law_is_program : Array (Option Value)} {f__law_is_row : Addr} {oc__law_is_row kV__law_is_row dc__law_is_row pm__law_is_row cd__law_is_row ct__law_is_row : Value} {od__law_is_row an__law_is_row : Option Addr} {sl__law_is_row : Array (Option Value)} {f__law_whole : Addr} {oc__law_whole kV__law_whole dc__law_whole pm__law_whole cd__law_whole ct__law_whole : Value} {od__law_whole an__law_whole : Option Addr} {sl__law_whole : Array (Option Value)} {tk1 : Tok} {tk2 : Tok} {ta3 : Addr} {td3 : Option Addr} {tn3 : Nat} {ts3 : Array (Option Value)} {tk4 : Tok} {sa_FORMS : Addr} {ses_FORMS : Array DictEntry} {sn_FORMS : Nat} {tk5 : Tok} {ta6 : Addr} {td6 : Option Addr} {tn6 : Nat} {ts6 : Array (Option Value)} {tk7 : Tok} {ta8 : Addr} {td8 : Option Addr} {tn8 : Nat} {ts8 : Array (Option Value)} {tk9 : Tok} {ta10 : Addr} {td10 : Option Addr} {tn10 : Nat} {ts10 : Array (Option Value)} {tk11 : Tok} {ta12 : Addr} {td12 : Option Addr} {tn12 : Nat} {ts12 : Array (Option Value)}
    (a_law : PySem.W.nsIn K mainGlobals "law" = some (some (.ref f_law)))
    (l_law : K.lookup f_law = some ⟨oc_law, od_law, .func (PySem.W.fnOf "law" "law" (defArgs s_law) (defBody s_law) (defScope s_law) .none kV_law dc_law pm_law an_law cd_law ct_law), sl_law⟩)
    (c_law : PySem.W.codeIn K cd_law "law" = true)
    (k_law : PySem.W.keepIn K (.ref f_law) = true)
    (a__law_hand : PySem.W.nsIn K mainGlobals "_law_hand" = some (some (.ref f__law_hand)))
    (l__law_hand : K.lookup f__law_hand = some ⟨oc__law_hand, od__law_hand, .func (PySem.W.fnOf "_law_hand" "_law_hand" (defArgs s__law_hand) (defBody s__law_hand) (defScope s__law_hand) .none kV__law_hand dc__law_hand pm__law_hand an__law_hand cd__law_hand ct__law_hand), sl__law_hand⟩)
    (c__law_hand : PySem.W.codeIn K cd__law_hand "_law_hand" = true)
    (k__law_hand : PySem.W.keepIn K (.ref f__law_hand) = true)
    (a__law_program : PySem.W.nsIn K mainGlobals "_law_program" = some (some (.ref f__law_program)))
    (l__law_program : K.lookup f__law_program = some ⟨oc__law_program, od__law_program, .func (PySem.W.fnOf "_law_program" "_law_program" (defArgs s__law_program) (defBody s__law_program) (defScope s__law_program) .none kV__law_program dc__law_program pm__law_program an__law_program cd__law_program ct__law_program), sl__law_program⟩)
    (c__law_program : PySem.W.codeIn K cd__law_program "_law_program" = true)
    (k__law_program : PySem.W.keepIn K (.ref f__law_program) = true)
    (a__law_pick : PySem.W.nsIn K mainGlobals "_law_pick" = some (some (.ref f__law_pick)))
    (l__law_pick : K.lookup f__law_pick = some ⟨oc__law_pick, od__law_pick, .func (PySem.W.fnOf "_law_pick" "_law_pick" (defArgs s__law_pick) (defBody s__law_pick) (defScope s__law_pick) .none kV__law_pick dc__law_pick pm__law_pick an__law_pick cd__law_pick ct__law_pick), sl__law_pick⟩)
    (c__law_pick : PySem.W.codeIn K cd__law_pick "_law_pick" = true)
    (k__law_pick : PySem.W.keepIn K (.ref f__law_pick) = true)
    (a__law_row : PySem.W.nsIn K mainGlobals "_law_row" = some (some (.ref f__law_row)))
    (l__law_row : K.lookup f__law_row = some ⟨oc__law_row, od__law_row, .func (PySem.W.fnOf "_law_row" "_law_row" (defArgs s__law_row) (defBody s__law_row) (defScope s__law_row) .none kV__law_row dc__law_row pm__law_row an__law_row cd__law_row ct__law_row), sl__law_row⟩)
    (c__law_row : PySem.W.codeIn K cd__law_row "_law_row" = true)
    (k__law_row : PySem.W.keepIn K (.ref f__law_row) = true)
    (a__law_of : PySem.W.nsIn K mainGlobals "_law_of" = some (some (.ref f__law_of)))
    (l__law_of : K.lookup f__law_of = some ⟨oc__law_of, od__law_of, .func (PySem.W.fnOf "_law_of" "_law_of" (defArgs s__law_of) (defBody s__law_of) (defScope s__law_of) .none kV__law_of dc__law_of pm__law_of an__law_of cd__law_of ct__law_of), sl__law_of⟩)
    (c__law_of : PySem.W.codeIn K cd__law_of "_law_of" = true)
    (k__law_of : PySem.W.keepIn K (.ref f__law_of) = true)
    (a__law_bounds : PySem.W.nsIn K mainGlobals "_law_bounds" = some (some (.ref f__law_bounds)))
    (l__law_bounds : K.lookup f__law_bounds = some ⟨oc__law_bounds, od__law_bounds, .func (PySem.W.fnOf "_law_bounds" "_law_bounds" (defArgs s__law_bounds) (defBody s__law_bounds) (defScope s__law_bounds) .none kV__law_bounds dc__law_bounds pm__law_bounds an__law_bounds cd__law_bounds ct__law_bounds), sl__law_bounds⟩)
    (c__law_bounds : PySem.W.codeIn K cd__law_bounds "_law_bounds" = true)
    (k__law_bounds : PySem.W.keepIn K (.ref f__law_bounds) = true)
    (a_is_program : PySem.W.nsIn K mainGlobals "is_program" = some (some (.ref f_is_program)))
    (l_is_program : K.lookup f_is_program = some ⟨oc_is_program, od_is_program, .func (PySem.W.fnOf "is_program" "is_program" (defArgs s_is_program) (defBody s_is_program) (defScope s_is_program) .none kV_is_program dc_is_program pm_is_program an_is_program cd_is_program ct_is_program), sl_is_program⟩)
    (c_is_program : PySem.W.codeIn K cd_is_program "is_program" = true)
    (k_is_program : PySem.W.keepIn K (.ref f_is_program) = true)
    (a_is_row : PySem.W.nsIn K mainGlobals "is_row" = some (some (.ref f_is_row)))
    (l_is_row : K.lookup f_is_row = some ⟨oc_is_row, od_is_row, .func (PySem.W.fnOf "is_row" "is_row" (defArgs s_is_row) (defBody s_is_row) (defScope s_is_row) .none kV_is_row dc_is_row pm_is_row an_is_row cd_is_row ct_is_row), sl_is_row⟩)
    (c_is_row : PySem.W.codeIn K cd_is_row "is_row" = true)
    (k_is_row : PySem.W.keepIn K (.ref f_is_row) = true)
    (a_is_take : PySem.W.nsIn K mainGlobals "is_take" = some (some (.ref f_is_take)))
    (l_is_take : K.lookup f_is_take = some ⟨oc_is_take, od_is_take, .func (PySem.W.fnOf "is_take" "is_take" (defArgs s_is_take) (defBody s_is_take) (defScope s_is_take) .none kV_is_take dc_is_take pm_is_take an_is_take cd_is_take ct_is_take), sl_is_take⟩)
    (c_is_take : PySem.W.codeIn K cd_is_take "is_take" = true)
    (k_is_take : PySem.W.keepIn K (.ref f_is_take) = true)
    (a_is_count : PySem.W.nsIn K mainGlobals "is_count" = some (some (.ref f_is_count)))
    (l_is_count : K.lookup f_is_count = some ⟨oc_is_count, od_is_count, .func (PySem.W.fnOf "is_count" "is_count" (defArgs s_is_count) (defBody s_is_count) (defScope s_is_count) .none kV_is_count dc_is_count pm_is_count an_is_count cd_is_count ct_is_count), sl_is_count⟩)
    (c_is_count : PySem.W.codeIn K cd_is_count "is_count" = true)
    (k_is_count : PySem.W.keepIn K (.ref f_is_count) = true)
    (a_is_whole : PySem.W.nsIn K mainGlobals "is_whole" = some (some (.ref f_is_whole)))
    (l_is_whole : K.lookup f_is_whole = some ⟨oc_is_whole, od_is_whole, .func (PySem.W.fnOf "is_whole" "is_whole" (defArgs s_is_whole) (defBody s_is_whole) (defScope s_is_whole) .none kV_is_whole dc_is_whole pm_is_whole an_is_whole cd_is_whole ct_is_whole), sl_is_whole⟩)
    (c_is_whole : PySem.W.codeIn K cd_is_whole "is_whole" = true)
    (k_is_whole : PySem.W.keepIn K (.ref f_is_whole) = true)
    (a_is_say : PySem.W.nsIn K mainGlobals "is_say" = some (some (.ref f_is_say)))
    (l_is_say : K.lookup f_is_say = some ⟨oc_is_say, od_is_say, .func (PySem.W.fnOf "is_say" "is_say" (defArgs s_is_say) (defBody s_is_say) (defScope s_is_say) .none kV_is_say dc_is_say pm_is_say an_is_say cd_is_say ct_is_say), sl_is_say⟩)
    (c_is_say : PySem.W.codeIn K cd_is_say "is_say" = true)
    (k_is_say : PySem.W.keepIn K (.ref f_is_say) = true)
    (a_is_below : PySem.W.nsIn K mainGlobals "is_below" = some (some (.ref f_is_below)))
    (l_is_below : K.lookup f_is_below = some ⟨oc_is_below, od_is_below, .func (PySem.W.fnOf "is_below" "is_below" (defArgs s_is_below) (defBody s_is_below) (defScope s_is_below) .none kV_is_below dc_is_below pm_is_below an_is_below cd_is_below ct_is_below), sl_is_below⟩)
    (c_is_below : PySem.W.codeIn K cd_is_below "is_below" = true)
    (k_is_below : PySem.W.keepIn K (.ref f_is_below) = true)
    (a_is_going : PySem.W.nsIn K mainGlobals "is_going" = some (some (.ref f_is_going)))
    (l_is_going : K.lookup f_is_going = some ⟨oc_is_going, od_is_going, .func (PySem.W.fnOf "is_going" "is_going" (defArgs s_is_going) (defBody s_is_going) (defScope s_is_going) .none kV_is_going dc_is_going pm_is_going an_is_going cd_is_going ct_is_going), sl_is_going⟩)
    (c_is_going : PySem.W.codeIn K cd_is_going "is_going" = true)
    (k_is_going : PySem.W.keepIn K (.ref f_is_going) = true)
    (a_is_asking : PySem.W.nsIn K mainGlobals "is_asking" = some (some (.ref f_is_asking)))
    (l_is_asking : K.lookup f_is_asking = some ⟨oc_is_asking, od_is_asking, .func (PySem.W.fnOf "is_asking" "is_asking" (defArgs s_is_asking) (defBody s_is_asking) (defScope s_is_asking) .none kV_is_asking dc_is_asking pm_is_asking an_is_asking cd_is_asking ct_is_asking), sl_is_asking⟩)
    (c_is_asking : PySem.W.codeIn K cd_is_asking "is_asking" = true)
    (k_is_asking : PySem.W.keepIn K (.ref f_is_asking) = true)
    (a__law_is_program : PySem.W.nsIn K mainGlobals "_law_is_program" = some (some (.ref f__law_is_program)))
    (l__law_is_program : K.lookup f__law_is_program = some ⟨oc__law_is_program, od__law_is_program, .func (PySem.W.fnOf "_law_is_program" "_law_is_program" (defArgs s__law_is_program) (defBody s__law_is_program) (defScope s__law_is_program) .none kV__law_is_program dc__law_is_program pm__law_is_program an__law_is_program cd__law_is_program ct__law_is_program), sl__law_is_program⟩)
    (c__law_is_program : PySem.W.codeIn K cd__law_is_program "_law_is_program" = true)
    (k__law_is_program : PySem.W.keepIn K (.ref f__law_is_program) = true)
    (a__law_is_row : PySem.W.nsIn K mainGlobals "_law_is_row" = some (some (.ref f__law_is_row)))
    (l__law_is_row : K.lookup f__law_is_row = some ⟨oc__law_is_row, od__law_is_row, .func (PySem.W.fnOf "_law_is_row" "_law_is_row" (defArgs s__law_is_row) (defBody s__law_is_row) (defScope s__law_is_row) .none kV__law_is_row dc__law_is_row pm__law_is_row an__law_is_row cd__law_is_row ct__law_is_row), sl__law_is_row⟩)
    (c__law_is_row : PySem.W.codeIn K cd__law_is_row "_law_is_row" = true)
    (k__law_is_row : PySem.W.keepIn K (.ref f__law_is_row) = true)
    (a__law_whole : PySem.W.nsIn K mainGlobals "_law_whole" = some (some (.ref f__law_whole)))
    (l__law_whole : K.lookup f__law_whole = some ⟨oc__law_whole, od__law_whole, .func (PySem.W.fnOf "_law_whole" "_law_whole" (defArgs s__law_whole) (defBody s__law_whole) (defScope s__law_whole) .none kV__law_whole dc__law_whole pm__law_whole an__law_whole cd__law_whole ct__law_whole), sl__law_whole⟩)
    (c__law_whole : PySem.W.codeIn K cd__law_whole "_law_whole" = true)
    (k__law_whole : PySem.W.keepIn K (.ref f__law_whole) = true)
    (z_all : PySem.W.nsIn K mainGlobals "all" = some none)
    (z_bool : PySem.W.nsIn K mainGlobals "bool" = some none)
    (z_int : PySem.W.nsIn K mainGlobals "int" = some none)
    (z_isinstance : PySem.W.nsIn K mainGlobals "isinstance" = some none)
    (z_len : PySem.W.nsIn K mainGlobals "len" = some none)
    (z_min : PySem.W.nsIn K mainGlobals "min" = some none)
    (z_range : PySem.W.nsIn K mainGlobals "range" = some none)
    (z_str : PySem.W.nsIn K mainGlobals "str" = some none)
    (z_tuple : PySem.W.nsIn K mainGlobals "tuple" = some none)
    (gv_BARE : PySem.W.nsIn K mainGlobals "BARE" = some (some (.ref ta3)))
    (t3 : K.lookup ta3 = some ⟨.type "tuple", td3, .seq ([.str "try" tk1, .str "let" tk2] : List Value).toArray tn3, ts3⟩)
    (gv_MANY_SAID : PySem.W.nsIn K mainGlobals "MANY_SAID" = some (some (.int 100 tk4)))
    (sv_FORMS : PySem.W.nsIn K mainGlobals "FORMS" = some (some (.ref sa_FORMS)))
    (sl_FORMS : K.lookup sa_FORMS = some ⟨.type "dict", none, .dict ses_FORMS sn_FORMS, #[]⟩)
    (sw_FORMS : (sa_FORMS == sysModules) = false)
    (sk_FORMS : ses_FORMS.toList.map He.keyOf = He.keysIn w.params ["take", "say", "goto", "if"])
    (se_FORMS_0 : PySem.W.nsIn K sa_FORMS "take" = some (some (.ref ta6)))
    (t6 : K.lookup ta6 = some ⟨.type "tuple", td6, .seq ([.int 1 tk5, .ref f_is_take] : List Value).toArray tn6, ts6⟩)
    (se_FORMS_1 : PySem.W.nsIn K sa_FORMS "say" = some (some (.ref ta8)))
    (t8 : K.lookup ta8 = some ⟨.type "tuple", td8, .seq ([.int 1 tk7, .ref f_is_say] : List Value).toArray tn8, ts8⟩)
    (se_FORMS_2 : PySem.W.nsIn K sa_FORMS "goto" = some (some (.ref ta10)))
    (t10 : K.lookup ta10 = some ⟨.type "tuple", td10, .seq ([.int 1 tk9, .ref f_is_going] : List Value).toArray tn10, ts10⟩)
    (se_FORMS_3 : PySem.W.nsIn K sa_FORMS "if" = some (some (.ref ta12)))
    (t12 : K.lookup ta12 = some ⟨.type "tuple", td12, .seq ([.int 2 tk11, .ref f_is_asking] : List Value).toArray tn12, ts12⟩)
    (k : Nat) : ∃ fd : FuncData, (∀ (s : Shared) (u : Value), BindsTo s fd ⟨[u], []⟩ [("_law_script", u)]) ∧ ∃ cf cc : Nat → Addr, ∀ base : Heap, K.In base → base.Ns mainGlobals mg → FnG ⟨l.prog, w, K, mg, base, cf, cc⟩ (k + 1) fa fd ["_law_script"] (callN (k + 1) 0) := by
  have e := hfa.symm.trans (PySem.W.mg_of X G a_law)
  cases e
  refine ⟨PySem.W.fnOf "law" "law" (defArgs s_law) (defBody s_law) (defScope s_law) .none kV_law dc_law pm_law an_law cd_law ct_law, fun s v => .of_eq rfl, (fun i => ([fa, f__law_hand, f__law_program, f__law_pick, f__law_row, f__law_of, f__law_bounds, f_is_program, f_is_row, f_is_take, f_is_count, f_is_whole, f_is_say, f_is_below, f_is_going, f_is_asking, f__law_is_program, f__law_is_row, f__law_whole] : List Addr).getD i 0), fun _ => 0, fun base hb hn => ?_⟩
  have D_law := def_mk (Γ := ⟨l.prog, w, K, mg, base, (fun i => ([fa, f__law_hand, f__law_program, f__law_pick, f__law_row, f__law_of, f__law_bounds, f_is_program, f_is_row, f_is_take, f_is_count, f_is_whole, f_is_say, f_is_below, f_is_going, f_is_asking, f__law_is_program, f__law_is_row, f__law_whole] : List Addr).getD i 0), fun _ => 0⟩) X G a_law l_law c_law k_law
  have D__law_hand := def_mk (Γ := ⟨l.prog, w, K, mg, base, (fun i => ([fa, f__law_hand, f__law_program, f__law_pick, f__law_row, f__law_of, f__law_bounds, f_is_program, f_is_row, f_is_take, f_is_count, f_is_whole, f_is_say, f_is_below, f_is_going, f_is_asking, f__law_is_program, f__law_is_row, f__law_whole] : List Addr).getD i 0), fun _ => 0⟩) X G a__law_hand l__law_hand c__law_hand k__law_hand
  have D__law_program := def_mk (Γ := ⟨l.prog, w, K, mg, base, (fun i => ([fa, f__law_hand, f__law_program, f__law_pick, f__law_row, f__law_of, f__law_bounds, f_is_program, f_is_row, f_is_take, f_is_count, f_is_whole, f_is_say, f_is_below, f_is_going, f_is_asking, f__law_is_program, f__law_is_row, f__law_whole] : List Addr).getD i 0), fun _ => 0⟩) X G a__law_program l__law_program c__law_program k__law_program
  have D__law_pick := def_mk (Γ := ⟨l.prog, w, K, mg, base, (fun i => ([fa, f__law_hand, f__law_program, f__law_pick, f__law_row, f__law_of, f__law_bounds, f_is_program, f_is_row, f_is_take, f_is_count, f_is_whole, f_is_say, f_is_below, f_is_going, f_is_asking, f__law_is_program, f__law_is_row, f__law_whole] : List Addr).getD i 0), fun _ => 0⟩) X G a__law_pick l__law_pick c__law_pick k__law_pick
  have D__law_row := def_mk (Γ := ⟨l.prog, w, K, mg, base, (fun i => ([fa, f__law_hand, f__law_program, f__law_pick, f__law_row, f__law_of, f__law_bounds, f_is_program, f_is_row, f_is_take, f_is_count, f_is_whole, f_is_say, f_is_below, f_is_going, f_is_asking, f__law_is_program, f__law_is_row, f__law_whole] : List Addr).getD i 0), fun _ => 0⟩) X G a__law_row l__law_row c__law_row k__law_row
  have D__law_of := def_mk (Γ := ⟨l.prog, w, K, mg, base, (fun i => ([fa, f__law_hand, f__law_program, f__law_pick, f__law_row, f__law_of, f__law_bounds, f_is_program, f_is_row, f_is_take, f_is_count, f_is_whole, f_is_say, f_is_below, f_is_going, f_is_asking, f__law_is_program, f__law_is_row, f__law_whole] : List Addr).getD i 0), fun _ => 0⟩) X G a__law_of l__law_of c__law_of k__law_of
  have D__law_bounds := def_mk (Γ := ⟨l.prog, w, K, mg, base, (fun i => ([fa, f__law_hand, f__law_program, f__law_pick, f__law_row, f__law_of, f__law_bounds, f_is_program, f_is_row, f_is_take, f_is_count, f_is_whole, f_is_say, f_is_below, f_is_going, f_is_asking, f__law_is_program, f__law_is_row, f__law_whole] : List Addr).getD i 0), fun _ => 0⟩) X G a__law_bounds l__law_bounds c__law_bounds k__law_bounds
  have D_is_program := def_mk (Γ := ⟨l.prog, w, K, mg, base, (fun i => ([fa, f__law_hand, f__law_program, f__law_pick, f__law_row, f__law_of, f__law_bounds, f_is_program, f_is_row, f_is_take, f_is_count, f_is_whole, f_is_say, f_is_below, f_is_going, f_is_asking, f__law_is_program, f__law_is_row, f__law_whole] : List Addr).getD i 0), fun _ => 0⟩) X G a_is_program l_is_program c_is_program k_is_program
  have D_is_row := def_mk (Γ := ⟨l.prog, w, K, mg, base, (fun i => ([fa, f__law_hand, f__law_program, f__law_pick, f__law_row, f__law_of, f__law_bounds, f_is_program, f_is_row, f_is_take, f_is_count, f_is_whole, f_is_say, f_is_below, f_is_going, f_is_asking, f__law_is_program, f__law_is_row, f__law_whole] : List Addr).getD i 0), fun _ => 0⟩) X G a_is_row l_is_row c_is_row k_is_row
  have D_is_take := def_mk (Γ := ⟨l.prog, w, K, mg, base, (fun i => ([fa, f__law_hand, f__law_program, f__law_pick, f__law_row, f__law_of, f__law_bounds, f_is_program, f_is_row, f_is_take, f_is_count, f_is_whole, f_is_say, f_is_below, f_is_going, f_is_asking, f__law_is_program, f__law_is_row, f__law_whole] : List Addr).getD i 0), fun _ => 0⟩) X G a_is_take l_is_take c_is_take k_is_take
  have D_is_count := def_mk (Γ := ⟨l.prog, w, K, mg, base, (fun i => ([fa, f__law_hand, f__law_program, f__law_pick, f__law_row, f__law_of, f__law_bounds, f_is_program, f_is_row, f_is_take, f_is_count, f_is_whole, f_is_say, f_is_below, f_is_going, f_is_asking, f__law_is_program, f__law_is_row, f__law_whole] : List Addr).getD i 0), fun _ => 0⟩) X G a_is_count l_is_count c_is_count k_is_count
  have D_is_whole := def_mk (Γ := ⟨l.prog, w, K, mg, base, (fun i => ([fa, f__law_hand, f__law_program, f__law_pick, f__law_row, f__law_of, f__law_bounds, f_is_program, f_is_row, f_is_take, f_is_count, f_is_whole, f_is_say, f_is_below, f_is_going, f_is_asking, f__law_is_program, f__law_is_row, f__law_whole] : List Addr).getD i 0), fun _ => 0⟩) X G a_is_whole l_is_whole c_is_whole k_is_whole
  have D_is_say := def_mk (Γ := ⟨l.prog, w, K, mg, base, (fun i => ([fa, f__law_hand, f__law_program, f__law_pick, f__law_row, f__law_of, f__law_bounds, f_is_program, f_is_row, f_is_take, f_is_count, f_is_whole, f_is_say, f_is_below, f_is_going, f_is_asking, f__law_is_program, f__law_is_row, f__law_whole] : List Addr).getD i 0), fun _ => 0⟩) X G a_is_say l_is_say c_is_say k_is_say
  have D_is_below := def_mk (Γ := ⟨l.prog, w, K, mg, base, (fun i => ([fa, f__law_hand, f__law_program, f__law_pick, f__law_row, f__law_of, f__law_bounds, f_is_program, f_is_row, f_is_take, f_is_count, f_is_whole, f_is_say, f_is_below, f_is_going, f_is_asking, f__law_is_program, f__law_is_row, f__law_whole] : List Addr).getD i 0), fun _ => 0⟩) X G a_is_below l_is_below c_is_below k_is_below
  have D_is_going := def_mk (Γ := ⟨l.prog, w, K, mg, base, (fun i => ([fa, f__law_hand, f__law_program, f__law_pick, f__law_row, f__law_of, f__law_bounds, f_is_program, f_is_row, f_is_take, f_is_count, f_is_whole, f_is_say, f_is_below, f_is_going, f_is_asking, f__law_is_program, f__law_is_row, f__law_whole] : List Addr).getD i 0), fun _ => 0⟩) X G a_is_going l_is_going c_is_going k_is_going
  have D_is_asking := def_mk (Γ := ⟨l.prog, w, K, mg, base, (fun i => ([fa, f__law_hand, f__law_program, f__law_pick, f__law_row, f__law_of, f__law_bounds, f_is_program, f_is_row, f_is_take, f_is_count, f_is_whole, f_is_say, f_is_below, f_is_going, f_is_asking, f__law_is_program, f__law_is_row, f__law_whole] : List Addr).getD i 0), fun _ => 0⟩) X G a_is_asking l_is_asking c_is_asking k_is_asking
  have D__law_is_program := def_mk (Γ := ⟨l.prog, w, K, mg, base, (fun i => ([fa, f__law_hand, f__law_program, f__law_pick, f__law_row, f__law_of, f__law_bounds, f_is_program, f_is_row, f_is_take, f_is_count, f_is_whole, f_is_say, f_is_below, f_is_going, f_is_asking, f__law_is_program, f__law_is_row, f__law_whole] : List Addr).getD i 0), fun _ => 0⟩) X G a__law_is_program l__law_is_program c__law_is_program k__law_is_program
  have D__law_is_row := def_mk (Γ := ⟨l.prog, w, K, mg, base, (fun i => ([fa, f__law_hand, f__law_program, f__law_pick, f__law_row, f__law_of, f__law_bounds, f_is_program, f_is_row, f_is_take, f_is_count, f_is_whole, f_is_say, f_is_below, f_is_going, f_is_asking, f__law_is_program, f__law_is_row, f__law_whole] : List Addr).getD i 0), fun _ => 0⟩) X G a__law_is_row l__law_is_row c__law_is_row k__law_is_row
  have D__law_whole := def_mk (Γ := ⟨l.prog, w, K, mg, base, (fun i => ([fa, f__law_hand, f__law_program, f__law_pick, f__law_row, f__law_of, f__law_bounds, f_is_program, f_is_row, f_is_take, f_is_count, f_is_whole, f_is_say, f_is_below, f_is_going, f_is_asking, f__law_is_program, f__law_is_row, f__law_whole] : List Addr).getD i 0), fun _ => 0⟩) X G a__law_whole l__law_whole c__law_whole k__law_whole
  exact fn_law (Γ := ⟨l.prog, w, K, mg, base, (fun i => ([fa, f__law_hand, f__law_program, f__law_pick, f__law_row, f__law_of, f__law_bounds, f_is_program, f_is_row, f_is_take, f_is_count, f_is_whole, f_is_say, f_is_below, f_is_going, f_is_asking, f__law_is_program, f__law_is_row, f__law_whole] : List Addr).getD i 0), fun _ => 0⟩) ⟨PySem.W.mg_none_of X G z_all, PySem.W.mg_none_of X G z_bool, PySem.W.mg_none_of X G z_int, PySem.W.mg_none_of X G z_isinstance, PySem.W.mg_none_of X G z_len, PySem.W.mg_none_of X G z_min, PySem.W.mg_none_of X G z_range, PySem.W.mg_none_of X G z_str, PySem.W.mg_none_of X G z_tuple, ⟨_, V.ref ta3, PySem.W.mg_of X G gv_BARE, rfl, tup_K (Γ := ⟨l.prog, w, K, mg, base, (fun i => ([fa, f__law_hand, f__law_program, f__law_pick, f__law_row, f__law_of, f__law_bounds, f_is_program, f_is_row, f_is_take, f_is_count, f_is_whole, f_is_say, f_is_below, f_is_going, f_is_asking, f__law_is_program, f__law_is_row, f__law_whole] : List Addr).getD i 0), fun _ => 0⟩) (vs := [V.str "try", V.str "let"]) t3 (.cons ⟨_, rfl⟩ (.cons ⟨_, rfl⟩ (.nil))) (fun _ _ _ => .cons (.str _) (.cons (.str _) (.nil)))⟩, ⟨_, V.int 100, PySem.W.mg_of X G gv_MANY_SAID, ⟨_, rfl⟩, fun _ _ _ => .int _⟩, SDt.of (PySem.W.mg_of X G sv_FORMS) (dicW_of sl_FORMS sw_FORMS sk_FORMS) (.cons (v := V.ref ta6) se_FORMS_0 rfl (tup_K (Γ := ⟨l.prog, w, K, mg, base, (fun i => ([fa, f__law_hand, f__law_program, f__law_pick, f__law_row, f__law_of, f__law_bounds, f_is_program, f_is_row, f_is_take, f_is_count, f_is_whole, f_is_say, f_is_below, f_is_going, f_is_asking, f__law_is_program, f__law_is_row, f__law_whole] : List Addr).getD i 0), fun _ => 0⟩) (vs := [V.int 1, V.ref f_is_take]) t6 (.cons ⟨_, rfl⟩ (.cons rfl (.nil))) (fun _ _ _ => .cons (.int _) (.cons (.fn 9) (.nil)))) (.cons (v := V.ref ta8) se_FORMS_1 rfl (tup_K (Γ := ⟨l.prog, w, K, mg, base, (fun i => ([fa, f__law_hand, f__law_program, f__law_pick, f__law_row, f__law_of, f__law_bounds, f_is_program, f_is_row, f_is_take, f_is_count, f_is_whole, f_is_say, f_is_below, f_is_going, f_is_asking, f__law_is_program, f__law_is_row, f__law_whole] : List Addr).getD i 0), fun _ => 0⟩) (vs := [V.int 1, V.ref f_is_say]) t8 (.cons ⟨_, rfl⟩ (.cons rfl (.nil))) (fun _ _ _ => .cons (.int _) (.cons (.fn 12) (.nil)))) (.cons (v := V.ref ta10) se_FORMS_2 rfl (tup_K (Γ := ⟨l.prog, w, K, mg, base, (fun i => ([fa, f__law_hand, f__law_program, f__law_pick, f__law_row, f__law_of, f__law_bounds, f_is_program, f_is_row, f_is_take, f_is_count, f_is_whole, f_is_say, f_is_below, f_is_going, f_is_asking, f__law_is_program, f__law_is_row, f__law_whole] : List Addr).getD i 0), fun _ => 0⟩) (vs := [V.int 1, V.ref f_is_going]) t10 (.cons ⟨_, rfl⟩ (.cons rfl (.nil))) (fun _ _ _ => .cons (.int _) (.cons (.fn 14) (.nil)))) (.cons (v := V.ref ta12) se_FORMS_3 rfl (tup_K (Γ := ⟨l.prog, w, K, mg, base, (fun i => ([fa, f__law_hand, f__law_program, f__law_pick, f__law_row, f__law_of, f__law_bounds, f_is_program, f_is_row, f_is_take, f_is_count, f_is_whole, f_is_say, f_is_below, f_is_going, f_is_asking, f__law_is_program, f__law_is_row, f__law_whole] : List Addr).getD i 0), fun _ => 0⟩) (vs := [V.int 2, V.ref f_is_asking]) t12 (.cons ⟨_, rfl⟩ (.cons rfl (.nil))) (fun _ _ _ => .cons (.int _) (.cons (.fn 15) (.nil)))) (.nil)))))⟩ D_law D__law_hand D__law_program D__law_pick D__law_row D__law_of D__law_bounds D_is_program D_is_row D_is_take D_is_count D_is_whole D_is_say D_is_below D_is_going D_is_asking D__law_is_program D__law_is_row D__law_whole (fun _ => rfl) k
end K05

set_option autoImplicit false
set_option maxRecDepth 100000
namespace K05
open PySem L2 Nl

/-! ### what a row, a program is -/
def at1 (f : D → Bool) : List D → Bool
  | [p] => f p
  | _ => false
def at2 (f : D → D → Bool) : List D → Bool
  | [p, q] => f p q
  | _ => false
theorem at1_len (f : D → Bool) : ∀ xs : List D, at1 f xs = (decide (xs.length = 1) && at1 f xs)
  | [] => rfl
  | [p] => by simp
  | p :: q :: r => by simp [at1]
theorem at2_len (f : D → D → Bool) : ∀ xs : List D, at2 f xs = (decide (xs.length = 2) && at2 f xs)
  | [] => rfl
  | [p] => rfl
  | [p, q] => by simp
  | p :: q :: t :: r => by simp [at2]
def wordOk (size : Int) (w : Str) (ps : List D) : Bool :=
  if w = "try" ∨ w = "let" then ps.isEmpty
  else if w = "take" then at1 (fun p => isN p || isC p) ps
  else if w = "say" then at1 (fun p => isBl 100 p) ps
  else if w = "goto" then at1 (fun p => isBl size p) ps
  else if w = "if" then at2 (fun p q => isI p && isBl size q) ps
  else false
def rowOk (size : Int) : D → Bool
  | .tup (.str w :: ps) => wordOk size w ps
  | _ => false
theorem rowOk_str (size : Int) (w : Str) (ps : List D) : rowOk size (.tup (.str w :: ps)) = wordOk size w ps := rfl
def progOk : D → Bool
  | .tup rs => rs.all (rowOk rs.length)
  | _ => false
structure LeafDm (M : Mem) (d : D) : Prop where
  kn : kn d M = true
  gd : gdD d = true
  dp : dpD d ≤ 60
structure RowDm (M : Mem) (d : D) : Prop where
  kn : kn d M = true
  it : ∀ ds, d = .tup ds → (∀ x ∈ ds, LeafDm M x) ∧ ds.length ≤ 1000
def ProgDm (M : Mem) (d : D) : Prop := ∃ rs, d = .tup rs ∧ (∀ r ∈ rs, RowDm M r) ∧ rs.length ≤ 1000
theorem LeafDm.keep {M M' : Mem} {d : D} (h : LeafDm M d) (F : Fs [] M M') : LeafDm M' d := ⟨(kn_keep h.kn F).1, h.gd, h.dp⟩
theorem RowDm.keep {M M' : Mem} {d : D} (h : RowDm M d) (F : Fs [] M M') : RowDm M' d := ⟨(kn_keep h.kn F).1, fun ds e => ⟨fun x hx => ((h.it ds e).1 x hx).keep F, (h.it ds e).2⟩⟩
theorem ProgDm.keep {M M' : Mem} {d : D} (h : ProgDm M d) (F : Fs [] M M') : ProgDm M' d := let ⟨rs, e, h1, h2⟩ := h; ⟨rs, e, fun r hr => (h1 r hr).keep F, h2⟩
def RowFn (g : Bf) : Prop := ∀ {M : Mem} {d : D} {size : Nat}, RowDm M d → Ok (g [d, .int (size : Nat)] M) fun r M' => r = .bl (rowOk size d) ∧ Fs [] M M'
def ProgFn (g : Bf) : Prop := ∀ {M : Mem} {d : D}, ProgDm M d → Ok (g [d] M) fun r M' => r = .bl (progOk d) ∧ Fs [] M M'

/-! ### the program's looks -/
section
variable {C : Nat → Bf} {M : Mem}
/-- what a look at the parts of a row does; ps the parts, as a list at p -/
structure LookFn (g : Bf) (n : Nat) (f : Int → List D → Bool) : Prop where
  go : ∀ {M : Mem} {p : Nat} {ps : List D} {size : Nat}, M.get p = some (.lst ps) → (∀ x ∈ ps, LeafDm M x) → ps.length = n → Ok (g [.ref p, .int (size : Nat)] M) fun r M' => r = .bl (f size ps) ∧ M' = M
theorem take_ok (hc : CountOk (C 10)) : LookFn (bodyD (b_is_take C) 2) 1 fun _ ps => at1 (fun p => isN p || isC p) ps := by
  refine ⟨fun {M p ps size} g hl hn => ?_⟩
  obtain ⟨x, rfl⟩ := List.length_eq_one_iff.mp hn
  have hk := (hl x List.mem_cons_self).kn
  rw [ok_body]
  unfold b_is_take
  simp only [List.map_cons, List.map_nil, List.cons_append, List.nil_append, ok_cons, ok_ret, ok_eor, ok_isN, ok_callD, ok_op, ok_args1, ok_args0, ok_var, ok_con, List.getElem?_cons_succ, List.getElem?_cons_zero, Option.some.injEq, exists_eq_left', List.append_nil, ix_lst g atI_0, truth, hc hk, behind_rt, ends_rt]
  split
  · rename_i h
    exact ⟨by simp [at1, at2, h], by trivial⟩
  · rename_i h
    have h : isN x = false := by simpa using h
    exact ⟨by simp [at1, at2, h], by trivial⟩
theorem say_ok (hb : BelowOk (C 13)) : LookFn (bodyD (b_is_say C) 2) 1 fun _ ps => at1 (fun p => isBl 100 p) ps := by
  refine ⟨fun {M p ps size} g hl hn => ?_⟩
  obtain ⟨x, rfl⟩ := List.length_eq_one_iff.mp hn
  have hk := (hl x List.mem_cons_self).kn
  rw [ok_body]
  unfold b_is_say
  simp only [List.map_cons, List.map_nil, List.cons_append, List.nil_append, ok_cons, ok_ret, ok_callD, ok_op, ok_args1, ok_args0, ok_var, ok_con, List.getElem?_cons_succ, List.getElem?_cons_zero, Option.some.injEq, exists_eq_left', List.append_nil, ix_lst g atI_0, hb hk, behind_rt, ends_rt]
  exact ⟨by trivial, by trivial⟩
theorem going_ok (hb : BelowOk (C 13)) : LookFn (bodyD (b_is_going C) 2) 1 fun size ps => at1 (fun p => isBl size p) ps := by
  refine ⟨fun {M p ps size} g hl hn => ?_⟩
  obtain ⟨x, rfl⟩ := List.length_eq_one_iff.mp hn
  have hk := (hl x List.mem_cons_self).kn
  rw [ok_body]
  unfold b_is_going
  simp only [List.map_cons, List.map_nil, List.cons_append, List.nil_append, ok_cons, ok_ret, ok_callD, ok_op, ok_args1, ok_args0, ok_var, ok_con, List.getElem?_cons_succ, List.getElem?_cons_zero, Option.some.injEq, exists_eq_left', List.append_nil, ix_lst g atI_0, hb hk, behind_rt, ends_rt]
  exact ⟨by trivial, by trivial⟩
theorem asking_ok (hw : WholeOk (C 11)) (hb : BelowOk (C 13)) : LookFn (bodyD (b_is_asking C) 2) 2 fun size ps => at2 (fun p q => isI p && isBl size q) ps := by
  refine ⟨fun {M p ps size} g hl hn => ?_⟩
  obtain ⟨x, y, rfl⟩ : ∃ x y, ps = [x, y] := by
    match ps, hn with
    | [x, y], _ => exact ⟨x, y, rfl⟩
  have hk := (hl x List.mem_cons_self).kn
  have hk2 := (hl y (List.mem_cons_of_mem _ List.mem_cons_self)).kn
  rw [ok_body]
  unfold b_is_asking
  simp only [List.map_cons, List.map_nil, List.cons_append, List.nil_append, ok_cons, ok_ret, ok_eand, ok_callD, ok_op, ok_args1, ok_args0, ok_var, ok_con, List.getElem?_cons_succ, List.getElem?_cons_zero, Option.some.injEq, exists_eq_left', List.append_nil, ix_lst g atI_0, ix_lst g atI_1, truth, hw hk, hb hk2, behind_rt, ends_rt]
  split
  · rename_i h
    exact ⟨by simp [at1, at2, h], by trivial⟩
  · rename_i h
    have h : isI x = false := by simpa using h
    exact ⟨by simp [at1, at2, h], by trivial⟩
theorem bare_in (w : Str) {M : Mem} {P : D → Mem → Prop} : Ok (gIn (.str w) (.tup [.str "try", .str "let"]) M) P ↔ P (.bl (decide (w = "try" ∨ w = "let"))) M := by
  have := flatS w
  simp only [gIn, inD, this]
  simp
where
  flatS (w : Str) : inSeq (.str w) [.str "try", .str "let"] = some (decide (w = "try" ∨ w = "let")) := by
    unfold inSeq
    rw [if_pos ⟨rfl, rfl⟩]
    congr 1
    unfold inF
    simp only [List.any_cons, List.any_nil, eqF, Bool.or_false]
    by_cases h1 : w = "try"
    · subst h1; decide
    · by_cases h2 : w = "let"
      · subst h2; decide
      · have e1 : (("try" : Str) == w) = false := by simpa using fun e => h1 e.symm
        have e2 : (("let" : Str) == w) = false := by simpa using fun e => h2 e.symm
        rw [e1, e2]
        simp [h1, h2]
theorem len_lst {M : Mem} {n : Nat} {ds : List D} {P : D → Mem → Prop} (g : M.get n = some (.lst ds)) : Ok (gLen [.ref n] M) P ↔ P (.int ds.length) M := by
  simp [gLen, g]
theorem row_ok (h9 : LookFn (C 9) 1 fun _ ps => at1 (fun p => isN p || isC p) ps) (h12 : LookFn (C 12) 1 fun _ ps => at1 (fun p => isBl 100 p) ps)
    (h14 : LookFn (C 14) 1 fun size ps => at1 (fun p => isBl size p) ps) (h15 : LookFn (C 15) 2 fun size ps => at2 (fun p q => isI p && isBl size q) ps) : RowFn (bodyD (b_is_row C) 6) := by
  intro M d size H
  rw [ok_body]
  unfold b_is_row
  simp only [List.map_cons, List.map_nil, List.cons_append, List.nil_append, List.length_cons, List.length_nil, List.replicate]
  rw [ok_cons, ok_sif, ok_xor]
  simp only [ok_xnot, ok_xval, ok_call, ok_args1, ok_args0, ok_var, ok_con, List.getElem?_cons_succ, List.getElem?_cons_zero, Option.some.injEq, exists_eq_left', isi_tupX H.kn, truth]
  cases d with
  | tup ds =>
    simp only [isT, Bool.not_true, Bool.false_eq_true, if_false]
    rw [ok_xor]
    obtain ⟨hit, hlen⟩ := H.it ds rfl
    simp only [ok_xnot, ok_xval, ok_call, ok_op, ok_args1, ok_args0, ok_var, ok_con, List.getElem?_cons_succ, List.getElem?_cons_zero, Option.some.injEq, exists_eq_left', gLen, ok_some, ok_eqi, truth]
    cases ds with
    | nil =>
      simp only [List.length_nil]
      have z0 : (((0 : Nat) : Int) == 0) = true := by decide
      simp only [z0, if_true]
      rw [ok_cons, ok_ret, ok_con]
      exact ⟨rfl, Fs.refl⟩
    | cons x xs =>
      have hx := hit x List.mem_cons_self
      have hz : (((x :: xs).length : Int) == 0) = false := by
        rw [List.length_cons]
        simp
        omega
      simp only [hz, Bool.false_eq_true, if_false, ix_tup atI_0, isi_strX hx.kn, truth, Option.some.injEq, exists_eq_left']
      cases x with
      | str w =>
        simp only [isS, Bool.not_true, Bool.false_eq_true, if_false]
        rw [ok_nil, behind_nx, ok_cons, ok_asg, ok_var]
        refine ⟨_, rfl, ?_⟩
        have eS : gStar (gNm 2) (gNm 5) (.tup (.str w :: xs)) [some (.tup (.str w :: xs)), some (.int (size : Nat)), none, none, none, none] M = some ([some (.tup (.str w :: xs)), some (.int (size : Nat)), some (.str w), none, none, some (.ref M.sz)], M.new (.lst xs)) := by
          simp [gStar, gSeq, gNm]
        rw [eS, okg_some, behind_nx, ok_cons, ok_sif]
        have gp : (M.new (.lst xs)).get M.sz = some (.lst xs) := Mem.get_new_same
        have F1 : Fs [] M (M.new (.lst xs)) := Fs.refl.new
        have hxs : ∀ y ∈ xs, LeafDm (M.new (.lst xs)) y := fun y hy => (hit y (List.mem_cons_of_mem _ hy)).keep F1
        simp only [ok_xval, ok_op, ok_var, ok_con, List.getElem?_cons_succ, List.getElem?_cons_zero, Option.some.injEq, exists_eq_left', bare_in, truth]
        by_cases hb : w = "try" ∨ w = "let"
        · simp only [hb, decide_true, if_true]
          rw [ok_cons, ok_ret]
          simp only [ok_op, ok_call, ok_args1, ok_args0, ok_var, ok_con, List.getElem?_cons_succ, List.getElem?_cons_zero, Option.some.injEq, exists_eq_left', len_lst gp, ok_eqi, behind_rt, ends_rt]
          refine ⟨?_, F1⟩
          rw [rowOk_str]
          unfold wordOk
          rw [if_pos hb]
          cases xs with
          | nil => rfl
          | cons y ys => simp; omega
        · simp only [hb, decide_false, Bool.false_eq_true, if_false]
          rw [ok_nil, behind_nx, ok_cons]
          have look : ∀ (key : Str) (n f : Nat) (fn : Int → List D → Bool), w = key → LookFn (C f) n fn → f ∈ [9, 12, 14, 15] → ([(("take" : Str), D.tup [.int 1, .fn 9]), ("say", .tup [.int 1, .fn 12]), ("goto", .tup [.int 1, .fn 14]), ("if", .tup [.int 2, .fn 15])] : List (Str × D)).lookup key = some (.tup [.int (n : Nat), .fn f]) →
              rowOk size (.tup (.str w :: xs)) = (decide (xs.length = n) && fn size xs) → Ok (sIf (xVal (eSdNot [("take", .tup [.int 1, .fn 9]), ("say", .tup [.int 1, .fn 12]), ("goto", .tup [.int 1, .fn 14]), ("if", .tup [.int 2, .fn 15])] (eVar 2))) (sCons (sRet (eCon (.bl false))) (sNil)) (sNil) [some (.tup (.str w :: xs)), some (.int (size : Nat)), some (.str w), none, none, some (.ref M.sz)] (M.new (.lst xs)))
                (behind (sCons (sAsg (eSdGet [("take", .tup [.int 1, .fn 9]), ("say", .tup [.int 1, .fn 12]), ("goto", .tup [.int 1, .fn 14]), ("if", .tup [.int 2, .fn 15])] (eVar 2)) (gTp [gNm 3, gNm 4])) (sCons (sRet (eAnd (eOp gEq (eCall gLen [eVar 5]) (eVar 3)) (eCallV C [9, 12, 14, 15] 4 [eVar 5, eVar 1]))) (sNil))) (ends fun r M' => r = .bl (rowOk size (.tup (.str w :: xs))) ∧ Fs [] M M')) := by
            intro key n f fn hw hf hm hlk hro
            subst hw
            rw [ok_sif, ok_xval]
            simp only [eSdNot, ok_bnd, ok_var, List.getElem?_cons_succ, List.getElem?_cons_zero, Option.some.injEq, exists_eq_left', hlk, Option.isSome_some, ok_some, truth, Bool.not_true, Bool.false_eq_true, if_false]
            rw [ok_nil, behind_nx, ok_cons, ok_asg]
            simp only [eSdGet, ok_bnd, ok_var, List.getElem?_cons_succ, List.getElem?_cons_zero, Option.some.injEq, exists_eq_left', hlk, ok_some, okg_tp2, List.set_cons_succ, List.set_cons_zero]
            rw [behind_nx, ok_cons, ok_ret, ok_eand]
            simp only [ok_op, ok_call, ok_args1, ok_args0, ok_var, ok_con, List.getElem?_cons_succ, List.getElem?_cons_zero, Option.some.injEq, exists_eq_left', len_lst gp, ok_eqi, truth]
            by_cases hn : xs.length = n
            · have e1 : ((xs.length : Int) == (n : Int)) = true := by simp [hn]
              simp only [e1, if_true]
              unfold eCallV
              simp only [ok_bnd, ok_var, List.getElem?_cons_succ, List.getElem?_cons_zero, Option.some.injEq, exists_eq_left', hm, if_true, ok_args1, ok_args0]
              refine (hf.go gp hxs hn).mono fun r M' ⟨e2, e3⟩ => ?_
              subst e2 e3
              rw [behind_rt, ends_rt, hro]
              simp only [hn, decide_true, Bool.true_and]
              exact ⟨by trivial, F1⟩
            · have e1 : ((xs.length : Int) == (n : Int)) = false := by
                simp
                omega
              simp only [e1, Bool.false_eq_true, if_false]
              rw [behind_rt, ends_rt, hro]
              simp only [hn, decide_false, Bool.false_and]
              exact ⟨by trivial, F1⟩
          by_cases w1 : w = "take"
          · refine look "take" 1 9 _ w1 h9 (by decide) rfl ?_
            rw [rowOk_str]
            unfold wordOk
            rw [if_neg hb, if_pos w1]
            exact at1_len _ _
          by_cases w2 : w = "say"
          · refine look "say" 1 12 _ w2 h12 (by decide) rfl ?_
            rw [rowOk_str]
            unfold wordOk
            rw [if_neg hb, if_neg w1, if_pos w2]
            exact at1_len _ _
          by_cases w3 : w = "goto"
          · refine look "goto" 1 14 _ w3 h14 (by decide) rfl ?_
            rw [rowOk_str]
            unfold wordOk
            rw [if_neg hb, if_neg w1, if_neg w2, if_pos w3]
            exact at1_len _ _
          by_cases w4 : w = "if"
          · refine look "if" 2 15 _ w4 h15 (by decide) rfl ?_
            rw [rowOk_str]
            unfold wordOk
            rw [if_neg hb, if_neg w1, if_neg w2, if_neg w3, if_pos w4]
            exact at2_len _ _
          have hn : ([(("take" : Str), D.tup [.int 1, .fn 9]), ("say", .tup [.int 1, .fn 12]), ("goto", .tup [.int 1, .fn 14]), ("if", .tup [.int 2, .fn 15])] : List (Str × D)).lookup w = none := by
            have b1 : (w == ("take" : Str)) = false := by simpa using w1
            have b2 : (w == ("say" : Str)) = false := by simpa using w2
            have b3 : (w == ("goto" : Str)) = false := by simpa using w3
            have b4 : (w == ("if" : Str)) = false := by simpa using w4
            simp only [List.lookup, b1, b2, b3, b4]
          rw [ok_sif]
          simp only [ok_xval, eSdNot, ok_bnd, ok_var, List.getElem?_cons_succ, List.getElem?_cons_zero, Option.some.injEq, exists_eq_left', hn, Option.isSome_none, ok_some, truth, Bool.not_false, if_true]
          rw [ok_cons, ok_ret, ok_con]
          refine ⟨?_, F1⟩
          rw [rowOk_str]
          unfold wordOk
          rw [if_neg hb, if_neg w1, if_neg w2, if_neg w3, if_neg w4]
      | _ =>
        simp only [isS, Bool.not_false, if_true]
        rw [ok_cons, ok_ret, ok_con]
        exact ⟨rfl, Fs.refl⟩
  | _ =>
    simp only [isT, Bool.not_false, if_true]
    rw [ok_cons, ok_ret, ok_con]
    exact ⟨rfl, Fs.refl⟩

/-! ### the law's own look -/
theorem ok_chain {a b c : Ev} {ρ : Rho} {M : Mem} {P : D → Mem → Prop} {x y z : Int} (ha : a ρ M = some (.int x, M)) (hb : b ρ M = some (.int y, M)) (hc : c ρ M = some (.int z, M)) : Ok (eChain gLe gLt a b c ρ M) P ↔ P (.bl (decide (x ≤ y) && decide (y < z))) M := by
  unfold eChain
  simp only [ha, hb, bnd_some, gLe]
  by_cases h : x ≤ y
  · simp [h, hc, gLt, ltD]
  · simp [h]
def isIn (lo hi : Int) : D → Bool
  | .int i => decide (lo ≤ i) && decide (i < hi)
  | _ => false
def InFn (g : Bf) : Prop := ∀ {M : Mem} {d : D} {lo hi : Int} {P : D → Mem → Prop}, kn d M = true → (Ok (g [d, .int lo, .int hi] M) P ↔ P (.bl (isIn lo hi d)) M)
theorem in_ok : InFn (bodyD (b__law_whole C) 3) := by
  intro M d lo hi P h
  rw [ok_body]
  unfold b__law_whole
  simp only [List.map_cons, List.map_nil, List.cons_append, List.nil_append, ok_cons, ok_ret, ok_eand, ok_enot, ok_call, ok_args1, ok_args0, ok_var, ok_con, List.getElem?_cons_succ, List.getElem?_cons_zero, Option.some.injEq, exists_eq_left', isi_int h, isi_bool h, truth]
  cases d with
  | int i =>
    simp only [isI, isB, Bool.or_false, if_true, truth, Option.some.injEq, exists_eq_left', Bool.not_false]
    rw [ok_chain (x := lo) (y := i) (z := hi) rfl rfl rfl, behind_rt, ends_rt]
    rfl
  | bl b => simp [isI, isB, isIn, truth]
  | _ => simp [isI, isB, isIn, truth]
theorem pow12 : (eOp gPow (eCon (.int 10)) (eCon (.int 12))) = fun (_ : Rho) (M : Mem) => some (D.int 1000000000000, M) := by
  funext ρ M
  simp only [eOp, eCon, bnd_some, gPow]
  rw [if_pos (by decide +kernel)]
  rfl
/-- thing == () -/
theorem eq_unit {M : Mem} {ds : List D} {P : D → Mem → Prop} (h : gdL ds = true) (hd : dpL ds ≤ 62) : Ok (gEq (.tup ds) (.tup []) M) P ↔ P (.bl ds.isEmpty) M := by
  obtain ⟨h1, h2, h3, h4, h5⟩ := gdL_facts ds h
  have e1 : toP M (.tup ds) = some (.tuple (toQs ds)) := by
    show toPs (refP 40 M) (.tup ds) = _
    rw [toPs, toPl_gd _ ds h]
    rfl
  have e2 : toP M (.tup []) = some (.tuple []) := by
    show toPs (refP 40 M) (.tup []) = _
    simp [toPs, toPl]
  have e3 : SeqAt.shaped (.tuple (toQs ds)) = true := by
    unfold SeqAt.shaped
    rw [PyData.canLay0, h1, PyData.depth, h4, decide_eq_true (by omega)]
    rfl
  have e4 : SeqAt.shaped (.tuple []) = true := by decide
  have e5 : PyData.eqv (.tuple (toQs ds)) (.tuple []) = ds.isEmpty := by
    cases ds <;> simp [toQs, PyData.eqv, PyData.eqvAll]
  simp only [gEq, eqD, show eqS (.tup ds) (.tup []) = none from rfl, e1, e2, e3, e4, and_self, if_true, e5, Option.map_some, ok_some]
def arity (w : Str) : Int := if w = "take" then 2 else if w = "try" then 1 else if w = "let" then 1 else if w = "say" then 2 else if w = "goto" then 2 else if w = "if" then 3 else 0
def arTbl : List (Key × D) := [(.inr "take", .int 2), (.inr "try", .int 1), (.inr "let", .int 1), (.inr "say", .int 2), (.inr "goto", .int 2), (.inr "if", .int 3)]
theorem arTbl_eq : mergeD [] arTbl = arTbl := by decide +kernel
theorem arTbl_find (w : Str) : (findK arTbl (.inr w)).getD (.int 0) = .int (arity w) := by
  unfold arTbl arity findK
  by_cases h1 : w = "take"
  · subst h1; decide +kernel
  by_cases h2 : w = "try"
  · subst h2; decide +kernel
  by_cases h3 : w = "let"
  · subst h3; decide +kernel
  by_cases h4 : w = "say"
  · subst h4; decide +kernel
  by_cases h5 : w = "goto"
  · subst h5; decide +kernel
  by_cases h6 : w = "if"
  · subst h6; decide +kernel
  have n : ∀ k : Str, w ≠ k → ((Sum.inr k : Key) = Sum.inr w) = False := fun k hk => by
    refine eq_false fun e => hk (Sum.inr.inj e).symm
  simp [h1, h2, h3, h4, h5, h6, List.find?, n _ h1, n _ h2, n _ h3, n _ h4, n _ h5, n _ h6]
theorem get_ar {ρ : Rho} {M : Mem} {P : D → Mem → Prop} {mk : Ev} {w : Str} (hk : ∀ M', mk ρ M' = some (.str w, M')) : Ok (eGet2 (eDisp [(eCon (.str "take"), eCon (.int 2)), (eCon (.str "try"), eCon (.int 1)), (eCon (.str "let"), eCon (.int 1)), (eCon (.str "say"), eCon (.int 2)), (eCon (.str "goto"), eCon (.int 2)), (eCon (.str "if"), eCon (.int 3))]) mk (eCon (.int 0)) ρ M) P ↔ P (.int (arity w)) (M.new (.dct arTbl)) := by
  have e1 : eDisp [(eCon (.str "take"), eCon (.int 2)), (eCon (.str "try"), eCon (.int 1)), (eCon (.str "let"), eCon (.int 1)), (eCon (.str "say"), eCon (.int 2)), (eCon (.str "goto"), eCon (.int 2)), (eCon (.str "if"), eCon (.int 3))] ρ M = some (.ref M.sz, M.new (.dct arTbl)) := by
    have := arTbl_eq
    unfold arTbl at this
    simp only [eDisp, eKeys, eCon, bnd_some, keyD, this]
    rfl
  unfold eGet2
  rw [e1]
  simp only [bnd_some, Mem.get_new_same, hk, eCon, keyD, arTbl_find, ok_some]

theorem leaves_gd : ∀ {M : Mem} {ds : List D}, (∀ x ∈ ds, LeafDm M x) → gdL ds = true ∧ dpL ds ≤ 60
  | _, [], _ => ⟨rfl, Nat.zero_le _⟩
  | M, x :: xs, h => by
    have h1 := h x List.mem_cons_self
    obtain ⟨k1, k2⟩ := leaves_gd (M := M) (ds := xs) fun y hy => h y (List.mem_cons_of_mem _ hy)
    have := h1.dp
    simp only [gdL, dpL, h1.gd, k1, Bool.and_self, true_and]
    omega
theorem small_in {d : D} (h : gdD d = true) (lo : Int) (hlo : lo ≤ 0) : isIn lo 1000000000000 d = (match d with | .int i => decide (lo ≤ i) | _ => false) := by
  cases d with
  | int i =>
    simp only [gdD, Bool.and_eq_true, decide_eq_true_eq] at h
    simp only [isIn]
    rw [decide_eq_true (show i < 1000000000000 by omega), Bool.and_true]
  | _ => rfl
theorem lrow_ok (hi : InFn (C 18)) : RowFn (bodyD (b__law_is_row C) 3) := by
  intro M d size H
  rw [ok_body]
  unfold b__law_is_row
  simp only [List.map_cons, List.map_nil, List.cons_append, List.nil_append, List.length_cons, List.length_nil, List.replicate]
  rw [ok_cons, ok_sif, ok_xor]
  simp only [ok_xnot, ok_xval, ok_call, ok_args1, ok_args0, ok_var, ok_con, List.getElem?_cons_succ, List.getElem?_cons_zero, Option.some.injEq, exists_eq_left', isi_tupX H.kn, truth]
  cases d with
  | tup ds =>
    simp only [isT, Bool.not_true, Bool.false_eq_true, if_false]
    rw [ok_xor]
    obtain ⟨hit, hlen⟩ := H.it ds rfl
    obtain ⟨g1, g2⟩ := leaves_gd hit
    simp only [ok_xnot, ok_xval, ok_call, ok_op, ok_tup, ok_args1, ok_args0, ok_var, ok_con, List.getElem?_cons_succ, List.getElem?_cons_zero, Option.some.injEq, exists_eq_left', eq_unit g1 (Nat.le_trans g2 (by decide)), truth]
    cases ds with
    | nil =>
      simp only [List.isEmpty_nil, if_true]
      rw [ok_cons, ok_ret, ok_con]
      exact ⟨rfl, Fs.refl⟩
    | cons x xs =>
      have hx := hit x List.mem_cons_self
      simp only [List.isEmpty_cons, Bool.false_eq_true, if_false, ix_tup atI_0, isi_strX hx.kn, truth, Option.some.injEq, exists_eq_left']
      cases x with
      | str w =>
        simp only [isS, Bool.not_true, Bool.false_eq_true, if_false]
        have hw0 : ∀ (y : Option D) M', eOp gIx (eVar 0) (eCon (.int 0)) [some (.tup (.str w :: xs)), some (.int (size : Nat)), y] M' = some (.str w, M') := fun y M' => by
          simp [eOp, eVar, eCon, gIx]
        rw [ok_nil, behind_nx, ok_cons, ok_asg, get_ar (hw0 none), okg_nm]
        simp only [List.set_cons_succ, List.set_cons_zero]
        have F1 : Fs [] M (M.new (.dct arTbl)) := Fs.refl.new
        generalize M.new (.dct arTbl) = M1 at F1
        rw [behind_nx, ok_cons, ok_sif, rowOk_str]
        have hxs : ∀ y ∈ xs, LeafDm M1 y := fun y hy => (hit y (List.mem_cons_of_mem _ hy)).keep F1
        have gne : ∀ {i j : Int} {M : Mem} {P : D → Mem → Prop}, Ok (gNe (.int i) (.int j) M) P ↔ P (.bl (!(i == j))) M := by intros; simp [gNe, eqD, eqS]
        simp only [ok_xval, ok_op, ok_call, ok_args1, ok_args0, ok_var, ok_con, List.getElem?_cons_succ, List.getElem?_cons_zero, Option.some.injEq, exists_eq_left', gLen, ok_some, gne, truth]
        have hlw : ((xs.length : Int) + 1 == arity w) = decide ((xs.length : Int) + 1 = arity w) := by
          rw [Bool.eq_iff_iff]; simp
        have hcast : (((D.str w :: xs).length : Nat) : Int) = (xs.length : Int) + 1 := by rw [List.length_cons]; omega
        rw [hcast, hlw]
        by_cases hl : (xs.length : Int) + 1 = arity w
        · simp only [hl, decide_true, Bool.not_true, Bool.false_eq_true, if_false]
          rw [ok_nil, behind_nx]
          have e0 : ∀ {M' : Mem} {P : D → Mem → Prop}, Ok (eOp gIx (eVar 0) (eCon (.int 0)) [some (.tup (.str w :: xs)), some (.int (size : Nat)), some (.int (arity w))] M') P ↔ P (.str w) M' := fun {M' P} => by
            rw [hw0]; exact ok_some
          have tst : ∀ (key : Str) (a b : Sv) (F : Fl → Mem → Prop), Ok (sIf (xVal (eOp gEq (eOp gIx (eVar 0) (eCon (.int 0))) (eCon (.str key)))) a b [some (.tup (.str w :: xs)), some (.int (size : Nat)), some (.int (arity w))] M1) F ↔
              if w = key then Ok (a [some (.tup (.str w :: xs)), some (.int (size : Nat)), some (.int (arity w))] M1) F else Ok (b [some (.tup (.str w :: xs)), some (.int (size : Nat)), some (.int (arity w))] M1) F := fun key a b F => by
            rw [ok_sif, ok_xval, ok_op, e0]
            simp only [ok_con, ok_eqs, truth, Option.some.injEq, exists_eq_left']
            by_cases h : w = key
            · simp [h]
            · have : (w == key) = false := by simpa using h
              simp [h, this]
          have len1 : xs.length = 1 → ∃ p, xs = [p] := fun h => List.length_eq_one_iff.mp h
          rw [ok_cons, tst]
          by_cases w1 : w = "take"
          · rw [if_pos w1]
            have ha : arity w = 2 := by unfold arity; rw [if_pos w1]
            obtain ⟨p, rfl⟩ := len1 (by omega)
            have hp := hxs p List.mem_cons_self
            rw [ok_cons, ok_ret]
            simp only [pow12, ok_eor, ok_isN, ok_callD, ok_op, ok_args1, ok_args0, ok_var, ok_con, ok_some, List.getElem?_cons_succ, List.getElem?_cons_zero, Option.some.injEq, exists_eq_left', List.append_nil, ix_tup atI_1, truth, hi hp.kn, behind_rt, ends_rt]
            have e1 : wordOk size w [p] = (isN p || isIn 0 1000000000000 p) := by
              rw [small_in hp.gd 0 (by decide), w1]
              cases p <;> rfl
            rw [e1]
            split
            · rename_i h; exact ⟨by rw [h]; rfl, F1⟩
            · rename_i h
              have h : isN p = false := by simpa using h
              exact ⟨by rw [h]; rfl, F1⟩
          rw [if_neg w1, ok_nil, behind_nx, ok_cons, tst]
          by_cases w2 : w = "say"
          · rw [if_pos w2]
            have ha : arity w = 2 := by rw [w2]; decide
            obtain ⟨p, rfl⟩ := len1 (by omega)
            have hp := hxs p List.mem_cons_self
            rw [ok_cons, ok_ret]
            simp only [ok_callD, ok_op, ok_args1, ok_args0, ok_var, ok_con, ok_some, List.getElem?_cons_succ, List.getElem?_cons_zero, Option.some.injEq, exists_eq_left', List.append_nil, ix_tup atI_1, truth, hi hp.kn, behind_rt, ends_rt]
            refine ⟨?_, F1⟩
            rw [w2]
            cases p <;> rfl
          rw [if_neg w2, ok_nil, behind_nx, ok_cons, tst]
          by_cases w3 : w = "goto"
          · rw [if_pos w3]
            have ha : arity w = 2 := by rw [w3]; decide
            obtain ⟨p, rfl⟩ := len1 (by omega)
            have hp := hxs p List.mem_cons_self
            rw [ok_cons, ok_ret]
            simp only [ok_callD, ok_op, ok_args1, ok_args0, ok_var, ok_con, ok_some, List.getElem?_cons_succ, List.getElem?_cons_zero, Option.some.injEq, exists_eq_left', List.append_nil, ix_tup atI_1, truth, hi hp.kn, behind_rt, ends_rt]
            refine ⟨?_, F1⟩
            rw [w3]
            cases p <;> rfl
          rw [if_neg w3, ok_nil, behind_nx, ok_cons, ok_ret, ok_eor, ok_op, e0]
          simp only [ok_con, ok_nes, truth, Option.some.injEq, exists_eq_left']
          by_cases w4 : w = "if"
          · have b4 : (!(w == ("if" : Str))) = false := by simp [w4]
            simp only [b4, Bool.false_eq_true, if_false]
            have ha : arity w = 3 := by rw [w4]; decide
            obtain ⟨p, q, rfl⟩ : ∃ p q, xs = [p, q] := by
              have h2 : xs.length = 2 := by omega
              match xs, h2 with
              | [p, q], _ => exact ⟨p, q, rfl⟩
            have hp := hxs p List.mem_cons_self
            have hq := hxs q (List.mem_cons_of_mem _ List.mem_cons_self)
            simp only [pow12, ok_eand, ok_callD, ok_op, ok_args1, ok_args0, ok_var, ok_con, ok_some, ok_sub, List.getElem?_cons_succ, List.getElem?_cons_zero, Option.some.injEq, exists_eq_left', List.append_nil, ix_tup atI_1, ix_tup atI_2, truth, hi hp.kn, hi hq.kn, behind_rt, ends_rt]
            have e1 : isIn (0 - 1000000000000) 1000000000000 p = isI p := by
              rw [small_in hp.gd _ (by decide)]
              have hg := hp.gd
              cases p with
              | int i =>
                simp only [gdD, Bool.and_eq_true, decide_eq_true_eq] at hg
                show decide ((0 : Int) - 1000000000000 ≤ i) = true
                exact decide_eq_true (by omega)
              | _ => rfl
            rw [e1]
            have e2 : wordOk size w [p, q] = (isI p && isBl size q) := by rw [w4]; rfl
            rw [e2]
            have e3 : isIn 0 size q = isBl size q := by cases q <;> rfl
            rw [e3]
            split
            · rename_i h; exact ⟨by rw [h]; rfl, F1⟩
            · rename_i h
              have h : isI p = false := by simpa using h
              exact ⟨by rw [h]; rfl, F1⟩
          have b4 : (!(w == ("if" : Str))) = true := by simp [w4]
          simp only [b4, if_true]
          rw [behind_rt, ends_rt]
          refine ⟨?_, F1⟩
          have hb : w = "try" ∨ w = "let" := by
            unfold arity at hl
            by_cases v1 : w = "try"
            · exact .inl v1
            by_cases v2 : w = "let"
            · exact .inr v2
            rw [if_neg w1, if_neg v1, if_neg v2, if_neg w2, if_neg w3, if_neg w4] at hl
            omega
          have ha : arity w = 1 := by rcases hb with rfl | rfl <;> decide
          have hx0 : xs = [] := List.length_eq_zero_iff.mp (by omega)
          subst hx0
          unfold wordOk
          rw [if_pos hb]
          rfl
        · simp only [hl, decide_false, Bool.not_false, if_true]
          rw [ok_cons, ok_ret, ok_con]
          refine ⟨?_, F1⟩
          have : wordOk size w xs = false := by
            unfold wordOk
            unfold arity at hl
            split
            · rename_i hb
              rcases hb with rfl | rfl
              · rw [if_neg (by decide), if_pos rfl] at hl
                cases xs with
                | nil => exact absurd rfl hl
                | cons y ys => rfl
              · rw [if_neg (by decide), if_neg (by decide), if_pos rfl] at hl
                cases xs with
                | nil => exact absurd rfl hl
                | cons y ys => rfl
            · rename_i hb
              have b1 : w ≠ "try" := fun e => hb (.inl e)
              have b2 : w ≠ "let" := fun e => hb (.inr e)
              split
              · rename_i h1
                rw [if_pos h1] at hl
                rw [at1_len, decide_eq_false (by omega)]; rfl
              · rename_i h1
                rw [if_neg h1, if_neg b1, if_neg b2] at hl
                split
                · rename_i h2
                  rw [if_pos h2] at hl
                  rw [at1_len, decide_eq_false (by omega)]; rfl
                · rename_i h2
                  rw [if_neg h2] at hl
                  split
                  · rename_i h3
                    rw [if_pos h3] at hl
                    rw [at1_len, decide_eq_false (by omega)]; rfl
                  · rename_i h3
                    rw [if_neg h3] at hl
                    split
                    · rename_i h4
                      rw [if_pos h4] at hl
                      rw [at2_len, decide_eq_false (by omega)]; rfl
                    · rfl
          rw [this]
      | _ =>
        simp only [isS, Bool.not_false, if_true]
        rw [ok_cons, ok_ret, ok_con]
        exact ⟨rfl, Fs.refl⟩
  | _ =>
    simp only [isT, Bool.not_false, if_true]
    rw [ok_cons, ok_ret, ok_con]
    exact ⟨rfl, Fs.refl⟩

/-! ### programs -/
theorem prog_ok {rw : Bf} (h : RowFn rw) : ProgFn (bodyD (sCons (sRet (eAnd (eCall gIsi [eVar 0, eCon (.ty "tuple")]) (eCall gAll [eLc (wSeq (eVar 0)) (gNm 1) (xYes) (eCallD rw [eVar 1, eCall gLen [eVar 0]] []) [1]]))) (sNil)) 2) := by
  intro M d ⟨rs, e, hr, hl⟩
  subst e
  rw [ok_body]
  simp only [List.map_cons, List.map_nil, List.cons_append, List.nil_append, List.length_cons, List.length_nil, List.replicate]
  rw [ok_cons, ok_ret, ok_eand]
  have hk : kn (.tup rs) M = true := rfl
  simp only [ok_call, ok_args1, ok_args0, ok_var, ok_con, List.getElem?_cons_succ, List.getElem?_cons_zero, Option.some.injEq, exists_eq_left', isi_tupX hk, isT, truth, if_true]
  rw [lc_ok]
  refine wseq_tup ?_
  rw [ok_var]
  refine ⟨_, rfl, _, rfl, ?_⟩
  refine lc_go_ok (fun i ds M' => ds = (rs.take i).map (fun r => D.bl (rowOk rs.length r)) ∧ Fs [] M M') rs (fun _ _ _ _ _ => rfl) ?_ ?_ ⟨rfl, Fs.refl⟩
  · rintro i x ds M1 hx ⟨rfl, F1⟩
    simp only [wipeD, okg_nm, List.set_cons_succ, List.set_cons_zero, ok_xyes, if_true, ok_callD, ok_call, ok_args1, ok_args0, ok_var, List.getElem?_cons_succ, List.getElem?_cons_zero, Option.some.injEq, exists_eq_left', List.append_nil, gLen, ok_some]
    refine (h ((hr x (List.mem_of_getElem? hx)).keep F1)).mono fun r M2 ⟨e, F2⟩ => ?_
    subst e
    refine ⟨?_, F1.trans F2⟩
    rw [take_succ_get hx, List.map_append]
    rfl
  · rintro ds M1 ⟨rfl, F1⟩
    rw [List.take_length]
    refine ⟨by rw [List.length_map]; omega, ?_⟩
    have eb : ∀ l : List D, blsD (l.map fun r => D.bl (rowOk rs.length r)) = some (l.map fun r => rowOk rs.length r) := fun l => by
      induction l with
      | nil => rfl
      | cons y l ih => simp [blsD, ih]
    simp only [ok_args0, gAll, lstOf, Mem.get_new_same, Option.bind_some, eb, Option.map_some, ok_some]
    rw [behind_rt, ends_rt]
    refine ⟨?_, F1.new⟩
    congr 1
    rw [List.all_map]
    rfl
/-- a row that is plain -/
def PlRow (d : D) : Prop := ∃ ds, d = .tup ds ∧ (∀ x ∈ ds, gdD x = true ∧ dpD x ≤ 60) ∧ ds.length ≤ 1000
theorem gd_kn {d : D} {M : Mem} (h : gdD d = true) : kn d M = true := by
  cases d <;> simp [gdD] at h <;> rfl
theorem PlRow.dm {d : D} (h : PlRow d) (M : Mem) : RowDm M d := by
  obtain ⟨ds, rfl, h1, h2⟩ := h
  exact ⟨rfl, fun es e => by cases e; exact ⟨fun x hx => ⟨gd_kn (h1 x hx).1, (h1 x hx).1, (h1 x hx).2⟩, h2⟩⟩

/-! ### the drawn program -/
section
variable {h r : Nat}
def MakeRow (g : Bf) : Prop := ∀ {M : Mem} {h r size : Nat}, HD M h r → 1 ≤ size → size ≤ 100 → Ok (g [.ref h, .int (size : Nat)] M) fun d M' => PlRow d ∧ rowOk size d = true ∧ HD M' h r ∧ Fs [h, r] M M'
/-- one of a list that is just made -/
theorem of_new {g : Bf} (ho : OfOk g) {M : Mem} {ds : List D} {P : D → Mem → Prop} (H : HD M h r) (hne : ds ≠ []) (hl : ds.length < 100) (k : ∀ d M', d ∈ ds → HD M' h r → Fs [h, r] M M' → P d M') : Ok (g [.ref h, .ref M.sz] (M.new (.lst ds))) P := by
  have L1 := H.lt
  have L2 := H.lt2
  refine (ho.lst (n := M.sz) H.new Mem.get_new_same (by omega) (by omega) hne (by have : (100 : Nat) < 2 ^ 62 := by decide
                                                                                  omega)).mono fun d M' ⟨hd, H', F⟩ => k d M' hd H' ((Fs.refl.new).trans (F.fs (by simp) (by simp)))
theorem pl2 {w : Str} {p : D} (hw : ascii w = true) (hp : gdD p = true) (hd : dpD p ≤ 60) : PlRow (.tup [.str w, p]) :=
  ⟨_, rfl, fun x hx => by
    simp only [List.mem_cons, List.not_mem_nil, or_false] at hx
    rcases hx with rfl | rfl
    · exact ⟨by rw [gdD]; exact hw, by simp [dpD]⟩
    · exact ⟨hp, hd⟩, by simp⟩
theorem pl3 {w : Str} {p q : D} (hw : ascii w = true) (hp : gdD p = true) (hd : dpD p ≤ 60) (hq : gdD q = true) (hd2 : dpD q ≤ 60) : PlRow (.tup [.str w, p, q]) :=
  ⟨_, rfl, fun x hx => by
    simp only [List.mem_cons, List.not_mem_nil, or_false] at hx
    rcases hx with rfl | rfl | rfl
    · exact ⟨by rw [gdD]; exact hw, by simp [dpD]⟩
    · exact ⟨hp, hd⟩
    · exact ⟨hq, hd2⟩, by simp⟩
theorem pl1 {w : Str} (hw : ascii w = true) : PlRow (.tup [.str w]) :=
  ⟨_, rfl, fun x hx => by
    rw [List.mem_singleton] at hx
    subst hx
    exact ⟨by rw [gdD]; exact hw, by simp [dpD]⟩, by simp⟩
theorem gd_int {i : Int} (h1 : -999999999999 ≤ i) (h2 : i ≤ 999999999999) : gdD (.int i) = true ∧ dpD (.int i) ≤ 60 := ⟨by simp [gdD, h1, h2], by simp [dpD]⟩
theorem makeRow_ok (hp : PickOk (C 3)) (ho : OfOk (C 5)) : MakeRow (bodyD (b__law_row C) 3) := by
  intro M h r size H h1 h2
  rw [ok_body]
  unfold b__law_row
  simp only [List.map_cons, List.map_nil, List.cons_append, List.nil_append, List.length_cons, List.length_nil, List.replicate]
  rw [ok_cons, ok_asg, ok_callD]
  simp only [ok_args1, ok_args0, ok_lst, ok_var, ok_con, List.getElem?_cons_succ, List.getElem?_cons_zero, Option.some.injEq, exists_eq_left', List.append_nil]
  refine of_new ho H (by simp) (by simp) fun d M1 hd H1 F1 => ?_
  have tst : ∀ (w key : Str) (a b : Sv) (F : Fl → Mem → Prop) (M' : Mem), Ok (sIf (xVal (eOp gEq (eVar 2) (eCon (.str key)))) a b [some (.ref h), some (.int (size : Nat)), some (.str w)] M') F ↔
      if w = key then Ok (a [some (.ref h), some (.int (size : Nat)), some (.str w)] M') F else Ok (b [some (.ref h), some (.int (size : Nat)), some (.str w)] M') F := fun w key a b F M' => by
    rw [ok_sif, ok_xval, ok_op]
    simp only [ok_var, ok_con, List.getElem?_cons_succ, List.getElem?_cons_zero, Option.some.injEq, exists_eq_left', ok_eqs, truth]
    by_cases h : w = key
    · simp [h]
    · have : (w == key) = false := by simpa using h
      simp [h, this]
  have hd : d = .str "take" ∨ d = .str "try" ∨ d = .str "let" ∨ d = .str "say" ∨ d = .str "goto" ∨ d = .str "if" := by
    simp only [List.mem_cons, List.not_mem_nil, or_false] at hd
    rcases hd with h | h | h | h | h | h | h <;> simp [h]
  rw [okg_nm]
  simp only [List.set_cons_succ, List.set_cons_zero]
  rw [behind_nx, ok_cons]
  have bound : ∀ {i : Int}, 0 ≤ i → i < 1000 → gdD (.int i) = true ∧ dpD (.int i) ≤ 60 := fun a b => gd_int (by omega) (by omega)
  rcases hd with rfl | rfl | rfl | rfl | rfl | rfl
  · rw [tst, if_pos rfl, ok_cons, ok_ret, ok_tup]
    simp only [ok_args1, ok_args0, ok_callD, ok_lst, ok_var, ok_con, List.getElem?_cons_succ, List.getElem?_cons_zero, Option.some.injEq, exists_eq_left', List.append_nil]
    refine (hp.ok H1 (by decide) (by decide)).mono fun z M2 ⟨y, e, y0, y1, H2, F2⟩ => ?_
    subst e
    have F12 : Fs [h, r] M M2 := F1.trans (F2.fs (by simp) (by simp))
    refine of_new ho H2 (by simp) (by simp) fun p M3 hm H3 F3 => ?_
    simp only [behind_rt, ends_rt]
    have : gdD p = true ∧ dpD p ≤ 60 ∧ (isN p || isC p) = true := by
      simp only [List.mem_cons, List.not_mem_nil, or_false] at hm
      rcases hm with rfl | rfl | rfl | rfl | rfl | rfl
      · exact ⟨rfl, by simp [dpD], rfl⟩
      · exact ⟨rfl, by simp [dpD], rfl⟩
      · exact ⟨rfl, by simp [dpD], rfl⟩
      · exact ⟨rfl, by simp [dpD], rfl⟩
      · exact ⟨(bound y0 (by omega)).1, by simp [dpD], by simp [isN, isC, y0]⟩
      · exact ⟨by decide, by simp [dpD], rfl⟩
    exact ⟨pl2 (by decide) this.1 this.2.1, this.2.2, H3, F12.trans F3⟩
  · rw [tst, if_neg (by decide), ok_nil, behind_nx, ok_cons, tst, if_neg (by decide), ok_nil, behind_nx, ok_cons, tst, if_neg (by decide), ok_nil, behind_nx, ok_cons, tst, if_neg (by decide), ok_nil, behind_nx, ok_cons, ok_ret, ok_tup]
    simp only [ok_args1, ok_args0, ok_var, List.getElem?_cons_succ, List.getElem?_cons_zero, Option.some.injEq, exists_eq_left']
    simp only [behind_rt, ends_rt]
    exact ⟨pl1 (by decide), rfl, H1, F1⟩
  · rw [tst, if_neg (by decide), ok_nil, behind_nx, ok_cons, tst, if_neg (by decide), ok_nil, behind_nx, ok_cons, tst, if_neg (by decide), ok_nil, behind_nx, ok_cons, tst, if_neg (by decide), ok_nil, behind_nx, ok_cons, ok_ret, ok_tup]
    simp only [ok_args1, ok_args0, ok_var, List.getElem?_cons_succ, List.getElem?_cons_zero, Option.some.injEq, exists_eq_left']
    simp only [behind_rt, ends_rt]
    exact ⟨pl1 (by decide), rfl, H1, F1⟩
  · rw [tst, if_neg (by decide), ok_nil, behind_nx, ok_cons, tst, if_pos rfl, ok_cons, ok_ret, ok_tup]
    simp only [ok_args1, ok_args0, ok_callD, ok_lst, ok_var, ok_con, List.getElem?_cons_succ, List.getElem?_cons_zero, Option.some.injEq, exists_eq_left', List.append_nil]
    refine (hp.ok H1 (by decide) (by decide)).mono fun z M2 ⟨y, e, y0, y1, H2, F2⟩ => ?_
    subst e
    have F12 : Fs [h, r] M M2 := F1.trans (F2.fs (by simp) (by simp))
    refine of_new ho H2 (by simp) (by simp) fun p M3 hm H3 F3 => ?_
    simp only [behind_rt, ends_rt]
    have : gdD p = true ∧ dpD p ≤ 60 ∧ isBl 100 p = true := by
      simp only [List.mem_cons, List.not_mem_nil, or_false] at hm
      rcases hm with rfl | rfl | rfl
      · exact ⟨rfl, by simp [dpD], rfl⟩
      · exact ⟨rfl, by simp [dpD], rfl⟩
      · exact ⟨(bound y0 (by omega)).1, by simp [dpD], by simp [isBl, y0, y1]⟩
    exact ⟨pl2 (by decide) this.1 this.2.1, this.2.2, H3, F12.trans F3⟩
  · rw [tst, if_neg (by decide), ok_nil, behind_nx, ok_cons, tst, if_neg (by decide), ok_nil, behind_nx, ok_cons, tst, if_pos rfl, ok_cons, ok_ret, ok_tup]
    simp only [ok_args1, ok_args0, ok_callD, ok_lst, ok_var, ok_con, List.getElem?_cons_succ, List.getElem?_cons_zero, Option.some.injEq, exists_eq_left', List.append_nil]
    refine (hp.ok H1 (by omega) (by omega)).mono fun z M2 ⟨y, e, y0, y1, H2, F2⟩ => ?_
    subst e
    simp only [behind_rt, ends_rt]
    have hb := bound y0 (by omega)
    exact ⟨pl2 (by decide) hb.1 hb.2, by show isBl size (.int y) = true; simp [isBl, y0, y1], H2, F1.trans (F2.fs (by simp) (by simp))⟩
  · rw [tst, if_neg (by decide), ok_nil, behind_nx, ok_cons, tst, if_neg (by decide), ok_nil, behind_nx, ok_cons, tst, if_neg (by decide), ok_nil, behind_nx, ok_cons, tst, if_pos rfl, ok_cons, ok_ret, ok_tup]
    have eN : ∀ (i : Int) (ρ : Rho) (M : Mem) (P : D → Mem → Prop), Ok (eNeg (eCon (.int i)) ρ M) P ↔ P (.int (-i)) M := fun i ρ M P => by simp [eNeg, eCon]
    simp only [ok_args1, ok_args0, ok_callD, ok_lst, ok_var, ok_con, eN, List.getElem?_cons_succ, List.getElem?_cons_zero, Option.some.injEq, exists_eq_left', List.append_nil]
    refine of_new ho H1 (by simp) (by simp) fun p M2 hm H2 F2 => ?_
    refine (hp.ok H2 (by omega) (by omega)).mono fun z M3 ⟨y, e, y0, y1, H3, F3⟩ => ?_
    subst e
    simp only [behind_rt, ends_rt]
    have hb := bound y0 (by omega)
    have : gdD p = true ∧ dpD p ≤ 60 ∧ isI p = true := by
      simp only [List.mem_cons, List.not_mem_nil, or_false] at hm
      rcases hm with rfl | rfl | rfl | rfl | rfl | rfl <;> exact ⟨by decide, by simp [dpD], rfl⟩
    refine ⟨pl3 (by decide) this.1 this.2.1 hb.1 hb.2, ?_, H3, (F1.trans F2).trans (F3.fs (by simp) (by simp))⟩
    show (isI p && isBl size (.int y)) = true
    rw [this.2.2]
    simp [isBl, y0, y1]

def MakeProg (g : Bf) : Prop := ∀ {M : Mem} {h r up : Nat}, HD M h r → up ≤ 40 → Ok (g [.ref h, .int (up : Nat)] M) fun d M' => ∃ rs, d = .tup rs ∧ (∀ x ∈ rs, PlRow x ∧ rowOk rs.length x = true) ∧ rs.length ≤ 40 ∧ HD M' h r ∧ Fs [h, r] M M'
theorem makeProg_ok (hp : PickOk (C 3)) (hm : MakeRow (C 4)) : MakeProg (bodyD (b__law_program C) 4) := by
  intro M h r up H hu
  rw [ok_body]
  unfold b__law_program
  simp only [List.map_cons, List.map_nil, List.cons_append, List.nil_append, List.length_cons, List.length_nil, List.replicate]
  rw [ok_cons, ok_asg, ok_callD]
  simp only [ok_args1, ok_args0, ok_op, ok_add, ok_var, ok_con, List.getElem?_cons_succ, List.getElem?_cons_zero, Option.some.injEq, exists_eq_left', List.append_nil]
  refine (hp.ok H (by omega) (by omega)).mono fun d M1 ⟨z, e, z0, z1, H1, F1⟩ => ?_
  subst e
  obtain ⟨sz, rfl⟩ := Int.eq_ofNat_of_zero_le z0
  have F1' : Fs [h, r] M M1 := F1.fs (by simp) (by simp)
  rw [okg_nm]
  simp only [List.set_cons_succ, List.set_cons_zero]
  rw [behind_nx, ok_cons, ok_ret, ok_call, ok_args1, lc_ok]
  refine rng1_ok ?_
  rw [ok_var]
  refine ⟨_, rfl, _, rfl, by omega, ?_⟩
  refine lc_go_ok (fun i ds M' => (∀ x ∈ ds, PlRow x ∧ rowOk sz x = true) ∧ ds.length = i ∧ HD M' h r ∧ Fs [h, r] M M') _ (fun _ _ _ _ _ => rfl) ?_ ?_ ⟨by simp, rfl, H1, F1'⟩
  · rintro i d ds M2 hd ⟨k1, k2, H2, F2⟩
    obtain ⟨hi, rfl⟩ := rng_get hd
    have hi : i < sz := by omega
    simp only [wipeD, okg_nm, List.set_cons_succ, List.set_cons_zero, ok_xyes, if_true, ok_callD, ok_args1, ok_args0, ok_var, List.getElem?_cons_succ, List.getElem?_cons_zero, Option.some.injEq, exists_eq_left', List.append_nil]
    refine (hm (size := sz) H2 (by omega) (by omega)).mono fun x M3 ⟨q1, q2, H3, F3⟩ => ?_
    refine ⟨fun y hy => ?_, by simp [k2], H3, F2.trans F3⟩
    rcases List.mem_append.mp hy with hy | hy
    · exact k1 y hy
    · rw [List.mem_singleton] at hy
      subst hy
      exact ⟨q1, q2⟩
  · rintro ds M2 ⟨k1, k2, H2, F2⟩
    rw [List.length_map, List.length_range] at k2
    have k2 : ds.length = sz := by omega
    refine ⟨by omega, ?_⟩
    simp only [ok_args0, gTuple, Mem.get_new_same, ok_some]
    simp only [behind_rt, ends_rt]
    exact ⟨ds, rfl, fun x hx => ⟨(k1 x hx).1, by rw [k2]; exact (k1 x hx).2⟩, by omega, H2.new, F2.new⟩

/-! ### rows at their bounds -/
def BoundsFn (g : Bf) : Prop := ∀ {M : Mem} {size : Int}, 0 ≤ size → size ≤ 1000 → Ok (g [.int size] M) fun d M' => ∃ n rows, d = .ref n ∧ M.sz ≤ n ∧ M'.get n = some (.lst rows) ∧ (∀ x ∈ rows, RowDm M' x) ∧ Fs [] M M'
theorem add_lists {M : Mem} {a b : Nat} {xs ys : List D} {P : D → Mem → Prop} (g1 : M.get a = some (.lst xs)) (g2 : M.get b = some (.lst ys)) (hl : xs.length + ys.length ≤ 5000) : Ok (gAdd (.ref a) (.ref b) M) P ↔ P (.ref M.sz) (M.new (.lst (xs ++ ys))) := by
  have : xs.length + ys.length ≤ sizeLine := by have := sizeLine_eq; omega
  simp only [gAdd, g1, g2, this, if_true, ok_some]
/-- [(w, one) for one in some] -/
theorem with_word {M : Mem} {sn : Nat} {L : List D} {w : Str} {ρ : Rho} {P : D → Mem → Prop} (h1 : ρ[1]? = some (some (.ref sn))) (hρ : ρ.length = 4) (g : M.get sn = some (.lst L)) (hl : L.length ≤ 100) (k : P (.ref M.sz) (M.new (.lst (L.map fun o => .tup [.str w, o])))) :
    Ok (eLc (wSeq (eVar 1)) (gNm 3) (xYes) (eTup [eCon (.str w), eVar 3]) [3] ρ M) P := by
  rw [lc_ok]
  refine wseq_lst ?_
  rw [ok_var]
  refine ⟨_, h1, sn, L, rfl, g, ?_⟩
  have hg : ∀ x : D, ((wipeD ρ [3]).set 3 (some x))[3]? = some (some x) := fun x => List.getElem?_set_self (by show 3 < (ρ.set 3 none).length; rw [List.length_set, hρ]; decide)
  have := lc_filter (ok := (⟨L, [(sn, .lst L)]⟩ : Wk).ok) (g := gNm 3) (c := xYes) (m := eTup [eCon (.str w), eVar 3]) (ρ := wipeD ρ [3]) (M := M) (L := fun ds M2 => ds.length ≤ 100000 ∧ P (.ref M2.sz) (M2.new (.lst ds))) L id (fun _ => true) (fun o => .tup [.str w, o]) (by simp [Wk.ok, g]) (fun x _ => by
    simp only [id, okg_nm, ok_xyes, true_and]
    exact fun _ => by
      simp only [ok_tup, ok_args1, ok_args0, ok_con, ok_var, hg, Option.some.injEq, exists_eq_left']
      exact ⟨by trivial, by trivial⟩) ⟨by rw [List.length_map]; exact Nat.le_trans (List.length_filter_le _ _) (by omega), by rw [List.filter_eq_self.mpr fun _ _ => rfl]; exact k⟩
  rw [List.map_id] at this
  exact this

theorem pl_dm {d : D} {M : Mem} (h : PlRow d) : RowDm M d := h.dm M
theorem bounds_ok : BoundsFn (bodyD (b__law_bounds C) 4) := by
  intro M size h0 h1
  rw [ok_body]
  unfold b__law_bounds
  simp only [List.map_cons, List.map_nil, List.cons_append, List.nil_append, List.length_cons, List.length_nil, List.replicate]
  have eN : ∀ (i : Int) (ρ : Rho) (M : Mem) (P : D → Mem → Prop), Ok (eNeg (eCon (.int i)) ρ M) P ↔ P (.int (-i)) M := fun i ρ M P => by simp [eNeg, eCon]
  rw [ok_cons, ok_asg, ok_lst]
  simp only [ok_args1, ok_args0, ok_con, eN, ok_op, ok_sub, ok_tup, ok_var, List.getElem?_cons_succ, List.getElem?_cons_zero, Option.some.injEq, exists_eq_left', okg_nm, List.set_cons_succ, List.set_cons_zero]
  generalize hL : ([D.non, .int 0, .int 1, .int (-1), .int 99, .int 100, .int (size - 1), .int size, .bl true, .bl false, .str "0", .tup [], .int 999999999, .int (-999999999)] : List D) = L
  have hlL : L.length = 14 := by rw [← hL]; rfl
  have hgL : ∀ x ∈ L, gdD x = true ∧ dpD x ≤ 60 := by
    rw [← hL]
    intro x hx
    simp only [List.mem_cons, List.not_mem_nil, or_false] at hx
    rcases hx with rfl | rfl | rfl | rfl | rfl | rfl | rfl | rfl | rfl | rfl | rfl | rfl | rfl | rfl
    · exact ⟨rfl, by simp [dpD]⟩
    · exact gd_int (by decide) (by decide)
    · exact gd_int (by decide) (by decide)
    · exact gd_int (by decide) (by decide)
    · exact gd_int (by decide) (by decide)
    · exact gd_int (by decide) (by decide)
    · exact gd_int (by omega) (by omega)
    · exact gd_int (by omega) (by omega)
    · exact ⟨rfl, by simp [dpD]⟩
    · exact ⟨rfl, by simp [dpD]⟩
    · exact ⟨by decide, by simp [dpD]⟩
    · exact ⟨rfl, by simp [dpD, dpL]⟩
    · exact gd_int (by decide) (by decide)
    · exact gd_int (by decide) (by decide)
  clear hL
  rw [behind_nx, ok_cons, ok_asg, ok_op, ok_op]
  generalize hsn : M.sz = sn
  have g0 : (M.new (.lst L)).get sn = some (.lst L) := by rw [← hsn]; exact Mem.get_new_same
  have F0 : Fs [] M (M.new (.lst L)) := Fs.refl.new
  have z0 : (M.new (.lst L)).sz = sn + 1 := by rw [Mem.sz_new, hsn]
  generalize M.new (.lst L) = M0 at *
  refine with_word (by rfl) (by rfl) g0 (by omega) ?_
  have g1 : ∀ o, (M0.new o).get sn = some (.lst L) := fun o => (Mem.get_new_lt (by omega)).trans g0
  refine with_word (by rfl) (by rfl) (g1 _) (by omega) ?_
  rw [add_lists (xs := L.map fun o => D.tup [.str "take", o]) (ys := L.map fun o => D.tup [.str "say", o]) ((Mem.get_new_lt (by rw [Mem.sz_new]; omega)).trans Mem.get_new_same) Mem.get_new_same (by simp; omega)]
  have F1 : Fs [] M (((M0.new (.lst (L.map fun o => .tup [.str "take", o]))).new (.lst (L.map fun o => .tup [.str "say", o]))).new (.lst ((L.map fun o => D.tup [.str "take", o]) ++ L.map fun o => .tup [.str "say", o]))) := F0.new.new.new
  have g2 : (((M0.new (.lst (L.map fun o => .tup [.str "take", o]))).new (.lst (L.map fun o => .tup [.str "say", o]))).new (.lst ((L.map fun o => D.tup [.str "take", o]) ++ L.map fun o => .tup [.str "say", o]))).get sn = some (.lst L) :=
    (Mem.get_new_lt (by rw [Mem.sz_new, Mem.sz_new]; omega)).trans ((Mem.get_new_lt (by rw [Mem.sz_new]; omega)).trans (g1 _))
  generalize hM1 : (M0.new (.lst (L.map fun o => .tup [.str "take", o]))).new (.lst (L.map fun o => .tup [.str "say", o])) = M1 at *
  have l1 := Mem.get_lt g2
  refine with_word (by rfl) (by rfl) g2 (by omega) ?_
  rw [add_lists ((Mem.get_new_lt (by rw [Mem.sz_new]; omega)).trans Mem.get_new_same) Mem.get_new_same (by simp; omega), okg_nm]
  have F2 := (F1.new (o := .lst (L.map fun o => .tup [.str "goto", o]))).new (o := .lst (((L.map fun o => D.tup [.str "take", o]) ++ L.map fun o => .tup [.str "say", o]) ++ L.map fun o => .tup [.str "goto", o]))
  generalize hM2 : (M1.new (.lst ((L.map fun o => D.tup [.str "take", o]) ++ L.map fun o => .tup [.str "say", o]))).new (.lst (L.map fun o => .tup [.str "goto", o])) = M2 at *
  have g3 : (M2.new (.lst (((L.map fun o => D.tup [.str "take", o]) ++ L.map fun o => .tup [.str "say", o]) ++ L.map fun o => .tup [.str "goto", o]))).get sn = some (.lst L) := by
    rw [← hM2]
    exact (Mem.get_new_lt (by rw [Mem.sz_new]; omega)).trans ((Mem.get_new_lt (by omega)).trans g2)
  simp only [List.set_cons_succ, List.set_cons_zero]
  have hrow : ∀ (w : Str), ascii w = true → ∀ x ∈ L.map (fun o => D.tup [.str w, o]), PlRow x := fun w hw x hx => by
    obtain ⟨o, ho, rfl⟩ := List.mem_map.mp hx
    exact pl2 hw (hgL o ho).1 (hgL o ho).2
  have hP0 : ∀ x ∈ (((L.map fun o => D.tup [.str "take", o]) ++ L.map fun o => .tup [.str "say", o]) ++ L.map fun o => .tup [.str "goto", o]), PlRow x := fun x hx => by
    rcases List.mem_append.mp hx with hx | hx
    · rcases List.mem_append.mp hx with hx | hx
      · exact hrow _ (by decide) x hx
      · exact hrow _ (by decide) x hx
    · exact hrow _ (by decide) x hx
  have hP1 : (((L.map fun o => D.tup [.str "take", o]) ++ L.map fun o => D.tup [.str "say", o]) ++ L.map fun o => D.tup [.str "goto", o]).length = 42 := by simp; omega
  generalize hX : (((L.map fun o => D.tup [.str "take", o]) ++ L.map fun o => .tup [.str "say", o]) ++ L.map fun o => .tup [.str "goto", o]) = X at *
  generalize hfd : M2.sz = fd
  have gf : (M2.new (.lst X)).get fd = some (.lst X) := by rw [← hfd]; exact Mem.get_new_same
  have hsf : sn < fd := by rw [← hfd, ← hM2, Mem.sz_new]; omega
  generalize M2.new (.lst X) = M3 at *
  rw [behind_nx, ok_cons, ok_for]
  refine wseq_lst ?_
  rw [ok_var]
  refine ⟨_, rfl, sn, L, rfl, g3, ?_⟩
  refine for_ok (fun i ρ M' => (∃ y, ρ = [some (.int size), some (.ref sn), some (.ref fd), y]) ∧ M'.get sn = some (.lst L) ∧ (∃ Y, M'.get fd = some (.lst Y) ∧ (∀ x ∈ Y, PlRow x) ∧ Y.length = 42 + 5 * i) ∧ Fs [] M M') L (fun i ρ M' _ q => by simp [Wk.ok, q.2.1]) ?_ ?_
    ⟨⟨_, rfl⟩, g3, ⟨X, gf, hP0, by omega⟩, F2⟩
  · rintro i o ρ M4 ho ⟨⟨y, rfl⟩, q1, ⟨Y, q2, q3, q4⟩, F4⟩
    have hgo := hgL o (List.mem_of_getElem? ho)
    have hi := (List.getElem?_eq_some_iff.mp ho).1
    rw [okg_nm, ok_cons, ok_ex, ok_mt]
    simp only [List.set_cons_succ, List.set_cons_zero]
    rw [ok_var]
    refine ⟨_, rfl, by simp [isTy, q2], ?_⟩
    simp only [ok_args1, ok_args0, ok_lst, ok_tup, ok_con, ok_var, List.getElem?_cons_succ, List.getElem?_cons_zero, Option.some.injEq, exists_eq_left']
    have l4 := Mem.get_lt q2
    have q2' := (Mem.get_new_lt (o := .lst [D.tup [.str "if", o, .int 0], .tup [.str "if", .int 0, o], .tup [.str "let", o], .tup [.str "try", o], .tup [.str "end", o]]) l4).trans q2
    simp only [gExt, q2', Mem.get_new_same]
    rw [ok_if, if_pos (by rw [q4]; simp; omega), ok_some, behind_nx, ok_nil, turned_nx]
    have hz0 : gdD (.int 0) = true ∧ dpD (.int 0) ≤ 60 := gd_int (by decide) (by decide)
    refine ⟨⟨_, rfl⟩, (Mem.get_put_ne (by omega)).trans ((Mem.get_new_lt (Mem.get_lt q1)).trans q1), ⟨_, Mem.get_put_same (Mem.get_lt q2'), fun x hx => ?_, by rw [List.length_append, q4]; simp; omega⟩, F4.new.put (.inr (by have := F0.le; omega))⟩
    rcases List.mem_append.mp hx with hx | hx
    · exact q3 x hx
    · simp only [List.mem_cons, List.not_mem_nil, or_false] at hx
      rcases hx with rfl | rfl | rfl | rfl | rfl
      · exact pl3 (by decide) hgo.1 hgo.2 hz0.1 hz0.2
      · exact pl3 (by decide) hz0.1 hz0.2 hgo.1 hgo.2
      · exact pl2 (by decide) hgo.1 hgo.2
      · exact pl2 (by decide) hgo.1 hgo.2
      · exact pl2 (by decide) hgo.1 hgo.2
  · rintro ρ M4 ⟨⟨y, rfl⟩, q1, ⟨Y, q2, q3, q4⟩, F4⟩
    rw [behind_nx, ok_cons, ok_ret, ok_op, ok_var]
    refine ⟨_, rfl, ?_⟩
    simp only [ok_args1, ok_args0, ok_lst, ok_tup, ok_con]
    have l4 := Mem.get_lt q2
    rw [add_lists ((Mem.get_new_lt (by rw [Mem.sz_new]; omega)).trans ((Mem.get_new_lt l4).trans q2)) Mem.get_new_same (by rw [q4]; simp; omega)]
    simp only [behind_rt, ends_rt]
    have F5 : ∀ a b : O, Fs [] M ((M4.new (.lst [.str "let"])).new a |>.new b) := fun a b => F4.new.new.new
    refine ⟨_, _, rfl, ?_, Mem.get_new_same, fun x hx => ?_, F5 _ _⟩
    · have := (F5 (.lst []) (.lst [])).le
      simp only [Mem.sz_new] at this ⊢
      have := F4.le
      omega
    · rcases List.mem_append.mp hx with hx | hx
      · exact (q3 x hx).dm _
      · have hz0 : gdD (.int 0) = true ∧ dpD (.int 0) ≤ 60 := gd_int (by decide) (by decide)
        simp only [List.mem_cons, List.not_mem_nil, or_false] at hx
        rcases hx with rfl | rfl | rfl | rfl | rfl | rfl | rfl | rfl | rfl | rfl
        · exact (pl1 (by decide)).dm _
        · exact (pl1 (by decide)).dm _
        · exact (pl1 (by decide)).dm _
        · exact (pl1 (by decide)).dm _
        · exact (pl2 (by decide) hz0.1 hz0.2).dm _
        · refine PlRow.dm ⟨_, rfl, fun x hx => ?_, by simp⟩ _
          simp only [List.mem_cons, List.not_mem_nil, or_false] at hx
          rcases hx with rfl | rfl | rfl | rfl
          · exact ⟨by decide, by simp [dpD]⟩
          · exact hz0
          · exact hz0
          · exact hz0
        · exact (pl1 (by decide)).dm _
        · exact (pl1 (by decide)).dm _
        · exact PlRow.dm ⟨[], rfl, by simp, by simp⟩ _
        · refine ⟨?_, fun ds e => by cases e⟩
          have : ((M4.new (.lst [.str "let"])).new (.lst [D.tup [.str "let"], .tup [.str "try"], .tup [.str "take"], .tup [.str "goto"], .tup [.str "if", .int 0], .tup [.str "if", .int 0, .int 0, .int 0], .tup [.str "lets"], .tup [.str ""], .tup [], .ref M4.sz])).get M4.sz = some (.lst [.str "let"]) := (Mem.get_new_lt (by rw [Mem.sz_new]; omega)).trans Mem.get_new_same
          have t2 : ∀ o, (((M4.new (.lst [.str "let"])).new (.lst [D.tup [.str "let"], .tup [.str "try"], .tup [.str "take"], .tup [.str "goto"], .tup [.str "if", .int 0], .tup [.str "if", .int 0, .int 0, .int 0], .tup [.str "lets"], .tup [.str ""], .tup [], .ref M4.sz])).new o).get M4.sz = some (.lst [.str "let"]) := fun o => (Mem.get_new_lt (by rw [Mem.sz_new, Mem.sz_new]; omega)).trans this
          simp only [kn, tyN, t2]
          rfl

/-! ### the law -/
theorem cut40 (ds : List D) : ∀ x ∈ cutD ds none (some 40), x ∈ ds := fun x hx => by
  unfold cutD at hx
  exact List.mem_of_mem_drop (List.mem_of_mem_take hx)
theorem cut_in (ds : List D) (lo hi : Option Int) : ∀ x ∈ cutD ds lo hi, x ∈ ds := fun x hx => by
  unfold cutD at hx
  exact List.mem_of_mem_drop (List.mem_of_mem_take hx)
theorem cut_len (ds : List D) (lo hi : Option Int) : (cutD ds lo hi).length ≤ ds.length := by
  unfold cutD
  rw [List.length_take, List.length_drop]
  omega
theorem law_ok (hh : ∀ {ns : List Int} {M : Mem}, ns.length ≤ 63 → Ok (C 1 [.rol ns] M) fun d M' => ∃ h r, d = .ref h ∧ HD M' h r) (hm : MakeProg (C 2)) (hp : PickOk (C 3)) (hb : BoundsFn (C 6)) (h7 : ProgFn (C 7)) (h16 : ProgFn (C 16)) {ns : List Int} (hns : ns.length ≤ 63) {M : Mem} :
    Ok (bodyD (b_law C) 8 [.rol ns] M) fun d _ => d = .bl true := by
  rw [ok_body]
  unfold b_law
  simp only [List.map_cons, List.map_nil, List.cons_append, List.nil_append, List.length_cons, List.length_nil, List.replicate]
  rw [ok_cons, ok_asg, ok_callD]
  simp only [ok_args1, ok_args0, ok_var, List.getElem?_cons_succ, List.getElem?_cons_zero, Option.some.injEq, exists_eq_left', List.append_nil]
  refine (hh hns).mono fun d M1 ⟨h, r, e, H1⟩ => ?_
  subst e
  rw [okg_nm, behind_nx, ok_cons, ok_for]
  simp only [List.set_cons_succ, List.set_cons_zero]
  refine wseq_tup ?_
  simp only [ok_tup, ok_args1, ok_args0, ok_con]
  refine ⟨_, rfl, ?_⟩
  refine for_ok (fun i ρ M' => (∃ a2 a3 a4 a5 a6 a7, ρ = [some (.rol ns), some (.ref h), a2, a3, a4, a5, a6, a7]) ∧ HD M' h r) _ (fun _ _ _ _ _ => rfl) ?_ ?_ ⟨⟨_, _, _, _, _, _, rfl⟩, H1⟩
  · rintro i d ρ M2 hd ⟨⟨a2, a3, a4, a5, a6, a7, rfl⟩, H2⟩
    obtain ⟨up, hup, rfl⟩ : ∃ up : Nat, up ≤ 40 ∧ d = .int (up : Nat) := by
      have := List.mem_of_getElem? hd
      simp only [List.mem_cons, List.not_mem_nil, or_false] at this
      rcases this with rfl | rfl | rfl
      · exact ⟨4, by decide, rfl⟩
      · exact ⟨12, by decide, rfl⟩
      · exact ⟨40, by decide, rfl⟩
    rw [okg_nm, ok_cons, ok_asg, ok_callD]
    simp only [List.set_cons_succ, List.set_cons_zero, ok_args1, ok_args0, ok_var, List.getElem?_cons_succ, List.getElem?_cons_zero, Option.some.injEq, exists_eq_left', List.append_nil]
    refine (hm H2 hup).mono fun d M3 ⟨rs, e, hrs, hl, H3, F3⟩ => ?_
    subst e
    have hdm : ∀ M, ProgDm M (.tup rs) := fun M => ⟨rs, rfl, fun x hx => (hrs x hx).1.dm M, by omega⟩
    have hok : progOk (.tup rs) = true := List.all_eq_true.mpr fun x hx => (hrs x hx).2
    rw [okg_nm, behind_nx, ok_cons, ok_sif, ok_xor]
    simp only [List.set_cons_succ, List.set_cons_zero, ok_xval, ok_xnot, ok_op, ok_callD, ok_args1, ok_args0, ok_var, ok_con, List.getElem?_cons_succ, List.getElem?_cons_zero, Option.some.injEq, exists_eq_left', List.append_nil]
    refine (h7 (hdm M3)).mono fun d M4 ⟨e, F4⟩ => ?_
    subst e
    rw [hok]
    have e1 : gNotB (.bl true) (.bl true) M4 = some (.bl false, M4) := rfl
    rw [e1, ok_some]
    simp only [truth, Option.some.injEq, exists_eq_left', Bool.false_eq_true, if_false]
    refine (h16 (hdm M4)).mono fun d M5 ⟨e, F5⟩ => ?_
    subst e
    rw [hok]
    simp only [truth, Option.some.injEq, exists_eq_left', Bool.not_true, Bool.false_eq_true, if_false]
    have F35 := F4.trans F5
    have H5 : HD M5 h r := H3.keep (F35.eq h H3.lt (by simp)) (F35.eq r H3.lt2 (by simp))
    rw [ok_nil, behind_nx, ok_cons, ok_asg, ok_callD]
    simp only [ok_call, ok_op, ok_args1, ok_args0, ok_var, ok_con, List.getElem?_cons_succ, List.getElem?_cons_zero, Option.some.injEq, exists_eq_left', List.append_nil, gLen, ok_some, ok_add]
    refine (hp.ok H5 (by omega) (by omega)).mono fun d M6 ⟨at_, e, _, _, H6, F6⟩ => ?_
    subst e
    rw [okg_nm]
    simp only [List.set_cons_succ, List.set_cons_zero]
    rw [behind_nx, ok_cons, ok_for]
    refine wseq_lst ?_
    have eM : ∀ M : Mem, gMin2 [.int 40, .int ((rs.length : Int) + 1)] M = some (.int (if ((rs.length : Int) + 1) < 40 then (rs.length : Int) + 1 else 40), M) := fun M => rfl
    simp only [ok_callD, ok_call, ok_op, ok_args1, ok_args0, ok_var, ok_con, List.getElem?_cons_succ, List.getElem?_cons_zero, Option.some.injEq, exists_eq_left', List.append_nil, gLen, ok_some, ok_add, eM]
    refine (hb (M := M6) (by split <;> omega) (by split <;> omega)).mono fun d M7 ⟨bn, rows, e, lb, gb, hrow, F7⟩ => ⟨bn, rows, e, gb, ?_⟩
    have H7 : HD M7 h r := H6.keep (F7.eq h H6.lt (by simp)) (F7.eq r H6.lt2 (by simp))
    refine for_ok (fun i ρ M' => (∃ b5 b6 b7, ρ = [some (.rol ns), some (.ref h), some (.int (up : Nat)), some (.tup rs), some (.int at_), b5, b6, b7]) ∧ HD M' h r ∧ M'.get bn = some (.lst rows) ∧ Fs [] M7 M') _ (fun i ρ M' _ q => by simp [Wk.ok, q.2.2.1]) ?_ ?_ ⟨⟨_, _, _, rfl⟩, H7, gb, Fs.refl⟩
    · rintro i x ρ M8 hx ⟨⟨b5, b6, b7, rfl⟩, H8, g8, F8⟩
      have hxd := (hrow x (List.mem_of_getElem? hx)).keep F8
      rw [okg_nm, ok_cons, ok_asg]
      simp only [List.set_cons_succ, List.set_cons_zero]
      have hA : (cutD rs none (some at_)).length ≤ 40 := Nat.le_trans (cut_len _ _ _) hl
      have hB : (cutD rs (some at_) none).length ≤ 40 := Nat.le_trans (cut_len _ _ _) hl
      have hbig := sizeLine_eq
      have eT : eSl (eOp gAdd (eOp gAdd (eSl (eVar 3) none (some (eVar 4))) (eTup [eVar 5])) (eSl (eVar 3) (some (eVar 4)) none)) none (some (eCon (.int 40))) [some (.rol ns), some (.ref h), some (.int (up : Nat)), some (.tup rs), some (.int at_), some x, b6, b7] M8 =
          some (.tup (cutD ((cutD rs none (some at_) ++ [x]) ++ cutD rs (some at_) none) none (some 40)), M8) := by
        have l1 : (cutD rs none (some at_)).length + 1 ≤ sizeLine := by omega
        have l2 : (cutD rs none (some at_) ++ [x]).length + (cutD rs (some at_) none).length ≤ sizeLine := by rw [List.length_append]; simp only [List.length_cons, List.length_nil]; omega
        simp only [eSl, eOp, eTup, eArgs_cons, eArgs_nil, eVar, eCon, ePart, gSl, bnd_some, List.getElem?_cons_succ, List.getElem?_cons_zero, gAdd, List.length_cons, List.length_nil, Nat.zero_add, l1, l2, if_true]
      rw [eT, ok_some, okg_nm]
      simp only [List.set_cons_succ, List.set_cons_zero]
      have hT : ∀ M, Fs [] M8 M → ProgDm M (.tup (cutD ((cutD rs none (some at_) ++ [x]) ++ cutD rs (some at_) none) none (some 40))) := fun M F => by
        refine ⟨_, rfl, fun y hy => ?_, ?_⟩
        · have hy := cut_in _ _ _ y hy
          rcases List.mem_append.mp hy with hy | hy
          · rcases List.mem_append.mp hy with hy | hy
            · exact (hrs y (cut_in _ _ _ y hy)).1.dm M
            · rw [List.mem_singleton] at hy
              rw [hy]; exact hxd.keep F
          · exact (hrs y (cut_in _ _ _ y hy)).1.dm M
        · refine Nat.le_trans (cut_len _ _ _) ?_
          rw [List.length_append, List.length_append]
          simp only [List.length_cons, List.length_nil]
          omega
      generalize D.tup (cutD ((cutD rs none (some at_) ++ [x]) ++ cutD rs (some at_) none) none (some 40)) = thing at hT
      rw [behind_nx, ok_cons, ok_asg, ok_callD]
      simp only [ok_args1, ok_args0, ok_var, List.getElem?_cons_succ, List.getElem?_cons_zero, Option.some.injEq, exists_eq_left', List.append_nil]
      refine (h7 (hT M8 Fs.refl)).mono fun d M9 ⟨e, F9⟩ => ?_
      subst e
      rw [okg_nm, behind_nx, ok_cons, ok_sif, ok_xor]
      have kb : ∀ (b : Bool) (M : Mem), kn (.bl b) M = true := fun _ _ => rfl
      have gnb : ∀ (a b : Bool) (M : Mem) (P : D → Mem → Prop), Ok (gNe (.bl a) (.bl b) M) P ↔ P (.bl (!(a == b))) M := by intros; simp [gNe, eqD, eqS]
      simp only [List.set_cons_succ, List.set_cons_zero, ok_xnot, ok_xval, ok_call, ok_op, ok_callD, ok_args1, ok_args0, ok_var, ok_con, List.getElem?_cons_succ, List.getElem?_cons_zero, Option.some.injEq, exists_eq_left', List.append_nil, isi_bool (kb _ _), isB, truth, Bool.not_true, Bool.false_eq_true, if_false]
      refine (h16 (hT M9 F9)).mono fun d M10 ⟨e, F10⟩ => ?_
      subst e
      rw [gnb]
      simp only [beq_self_eq_true, Bool.not_true, truth, Option.some.injEq, exists_eq_left', Bool.false_eq_true, if_false]
      rw [ok_nil, behind_nx, ok_nil, turned_nx]
      have F810 := F9.trans F10
      exact ⟨⟨_, _, _, rfl⟩, H8.keep (F810.eq h H8.lt (by simp)) (F810.eq r H8.lt2 (by simp)), (F810.eq bn (Mem.get_lt g8) (by simp)).trans g8, F8.trans F810⟩
    · rintro ρ M8 ⟨⟨b5, b6, b7, rfl⟩, H8, g8, F8⟩
      rw [behind_nx, ok_nil, turned_nx]
      exact ⟨⟨_, _, _, _, _, _, rfl⟩, H8⟩
  · rintro ρ M2 ⟨⟨a2, a3, a4, a5, a6, a7, rfl⟩, H2⟩
    rw [behind_nx, ok_cons, ok_ret]
    simp only [ok_op, ok_callD, ok_tup, ok_args1, ok_args0, ok_con, List.append_nil]
    refine (h7 (d := .tup []) ⟨[], rfl, by simp, by simp⟩).mono fun d M3 ⟨e, F3⟩ => ?_
    subst e
    have e1 : gIsB (.bl (progOk (.tup []))) (.bl true) M3 = some (.bl true, M3) := rfl
    rw [e1, ok_some, behind_rt, ends_rt]
end
end

/-! ### all levels -/
theorem whole_all (k : Nat) : WholeOk (callN (k + 1) 11) := whole_ok
theorem count_all (k : Nat) : CountOk (callN (k + 2) 10) := count_ok (whole_all k)
theorem below_all (k : Nat) : BelowOk (callN (k + 3) 13) := below_ok (count_all k)
theorem row_all (k : Nat) : RowFn (callN (k + 5) 8) := row_ok (take_ok (count_all (k + 1))) (say_ok (below_all k)) (going_ok (below_all k)) (asking_ok (whole_all (k + 2)) (below_all k))
theorem prog_all (k : Nat) : ProgFn (callN (k + 6) 7) := prog_ok (row_all k)
theorem lprog_all (k : Nat) : ProgFn (callN (k + 3) 16) := prog_ok (rw := callN (k + 2) 17) (lrow_ok (in_ok (C := callN k)))
theorem pick_all (k : Nat) : PickOk (callN (k + 1) 3) := pick_is
theorem of_all (k : Nat) : OfOk (callN (k + 2) 5) := of_is (pick_all k)
theorem mrow_all (k : Nat) : MakeRow (callN (k + 3) 4) := makeRow_ok (pick_all (k + 1)) (of_all k)
theorem mprog_all (k : Nat) : MakeProg (callN (k + 4) 2) := makeProg_ok (pick_all (k + 2)) (mrow_all k)
theorem plain : ∀ ns : List Int, ns.length ≤ 63 → ∃ M', callN (20 + 1) 0 [.rol ns] ⟨#[]⟩ = some (.bl true, M') := by
  intro ns h
  obtain ⟨d, M', e, rfl⟩ := law_ok (C := callN 20) (fun h => hand_ok h) (mprog_all 16) (pick_all 19) (bounds_ok (C := callN 19)) (prog_all 14) (lprog_all 17) h (M := ⟨#[]⟩)
  exact ⟨M', e⟩
end K05

open PySem PySem.W PyProof.Rows
set_option maxRecDepth 100000 in
set_option maxHeartbeats 0 in
theorem PySem.Challenge.cw_nearlocks_k05_programs_at_their_bounds_holds : PySem.Challenge.rw_nearlocks_k05_programs_at_their_bounds.Holds := by
  w_on; o_law; k_head; (case hw => w_witness2)
  k_fill
  refine Nl.walk_go (l := PySem.Challenge.rw_nearlocks_k05_programs_at_their_bounds) (n := 63) (k := 20 + 1) (x := "_law_script") rfl (by decide) rfl ⟨rfl, by decide, by decide⟩ (fun w h Y => PySem.W.kIn_of Y) ?F K05.plain
  case F =>
    intro w mg fa h KX G hmg
    refine' K05.all_mk (l := PySem.Challenge.rw_nearlocks_k05_programs_at_their_bounds) KX G hmg ?a_law ?l_law ?c_law ?k_law ?a__law_hand ?l__law_hand ?c__law_hand ?k__law_hand ?a__law_program ?l__law_program ?c__law_program ?k__law_program ?a__law_pick ?l__law_pick ?c__law_pick ?k__law_pick ?a__law_row ?l__law_row ?c__law_row ?k__law_row ?a__law_of ?l__law_of ?c__law_of ?k__law_of ?a__law_bounds ?l__law_bounds ?c__law_bounds ?k__law_bounds ?a_is_program ?l_is_program ?c_is_program ?k_is_program ?a_is_row ?l_is_row ?c_is_row ?k_is_row ?a_is_take ?l_is_take ?c_is_take ?k_is_take ?a_is_count ?l_is_count ?c_is_count ?k_is_count ?a_is_whole ?l_is_whole ?c_is_whole ?k_is_whole ?a_is_say ?l_is_say ?c_is_say ?k_is_say ?a_is_below ?l_is_below ?c_is_below ?k_is_below ?a_is_going ?l_is_going ?c_is_going ?k_is_going ?a_is_asking ?l_is_asking ?c_is_asking ?k_is_asking ?a__law_is_program ?l__law_is_program ?c__law_is_program ?k__law_is_program ?a__law_is_row ?l__law_is_row ?c__law_is_row ?k__law_is_row ?a__law_whole ?l__law_whole ?c__law_whole ?k__law_whole ?z_all ?z_bool ?z_int ?z_isinstance ?z_len ?z_min ?z_range ?z_str ?z_tuple ?gv_BARE ?t3 ?gv_MANY_SAID ?sv_FORMS ?sl_FORMS ?sw_FORMS ?sk_FORMS ?se_FORMS_0 ?t6 ?se_FORMS_1 ?t8 ?se_FORMS_2 ?t10 ?se_FORMS_3 ?t12 20
    (case a_law => k_is)
    (case l_law => k_is)
    (case c_law => k_is)
    (case k_law => k_is)
    (case a__law_hand => k_is)
    (case l__law_hand => k_is)
    (case c__law_hand => k_is)
    (case k__law_hand => k_is)
    (case a__law_program => k_is)
    (case l__law_program => k_is)
    (case c__law_program => k_is)
    (case k__law_program => k_is)
    (case a__law_pick => k_is)
    (case l__law_pick => k_is)
    (case c__law_pick => k_is)
    (case k__law_pick => k_is)
    (case a__law_row => k_is)
    (case l__law_row => k_is)
    (case c__law_row => k_is)
    (case k__law_row => k_is)
    (case a__law_of => k_is)
    (case l__law_of => k_is)
    (case c__law_of => k_is)
    (case k__law_of => k_is)
    (case a__law_bounds => k_is)
    (case l__law_bounds => k_is)
    (case c__law_bounds => k_is)
    (case k__law_bounds => k_is)
    (case a_is_program => k_is)
    (case l_is_program => k_is)
    (case c_is_program => k_is)
    (case k_is_program => k_is)
    (case a_is_row => k_is)
    (case l_is_row => k_is)
    (case c_is_row => k_is)
    (case k_is_row => k_is)
    (case a_is_take => k_is)
    (case l_is_take => k_is)
    (case c_is_take => k_is)
    (case k_is_take => k_is)
    (case a_is_count => k_is)
    (case l_is_count => k_is)
    (case c_is_count => k_is)
    (case k_is_count => k_is)
    (case a_is_whole => k_is)
    (case l_is_whole => k_is)
    (case c_is_whole => k_is)
    (case k_is_whole => k_is)
    (case a_is_say => k_is)
    (case l_is_say => k_is)
    (case c_is_say => k_is)
    (case k_is_say => k_is)
    (case a_is_below => k_is)
    (case l_is_below => k_is)
    (case c_is_below => k_is)
    (case k_is_below => k_is)
    (case a_is_going => k_is)
    (case l_is_going => k_is)
    (case c_is_going => k_is)
    (case k_is_going => k_is)
    (case a_is_asking => k_is)
    (case l_is_asking => k_is)
    (case c_is_asking => k_is)
    (case k_is_asking => k_is)
    (case a__law_is_program => k_is)
    (case l__law_is_program => k_is)
    (case c__law_is_program => k_is)
    (case k__law_is_program => k_is)
    (case a__law_is_row => k_is)
    (case l__law_is_row => k_is)
    (case c__law_is_row => k_is)
    (case k__law_is_row => k_is)
    (case a__law_whole => k_is)
    (case l__law_whole => k_is)
    (case c__law_whole => k_is)
    (case k__law_whole => k_is)
    (case z_all => k_is)
    (case z_bool => k_is)
    (case z_int => k_is)
    (case z_isinstance => k_is)
    (case z_len => k_is)
    (case z_min => k_is)
    (case z_range => k_is)
    (case z_str => k_is)
    (case z_tuple => k_is)
    (case gv_BARE => k_is)
    (case t3 => k_is)
    (case gv_MANY_SAID => k_is)
    (case sv_FORMS => k_is)
    (case sl_FORMS => k_is)
    (case sw_FORMS => first | rfl | decide +kernel | k_is)
    (case sk_FORMS => first | rfl | decide +kernel | k_is)
    (case se_FORMS_0 => k_is)
    (case t6 => k_is)
    (case se_FORMS_1 => k_is)
    (case t8 => k_is)
    (case se_FORMS_2 => k_is)
    (case t10 => k_is)
    (case se_FORMS_3 => k_is)
    (case t12 => k_is)
