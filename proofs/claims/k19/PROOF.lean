import PyProof.Rows.All
import Wide.All
import OpenK.AllK
import Wide.FinOn
import HandS.ForMost
import HandS.ForExc
import HandS.IsInst
import HandS.Style
import HandS.Deep
import HandS.DictComp
import HandS.TupAny
import HandS.ListEq
import HandS.Strs
import HandS.SetFor
import HandS.SortInts
import HandS.WordsDict
import HandS.TupSets
import HandS.Conv
import KE.KDictDisplayH
import KE.KDictCopyH
import HandS.Small
import HandS.ExcIs
import KE.DataMinMax
import HandS.NamedTupGet
import HandS.FStr
import HandS.Text
import HandS.Iter
import KE.KxIndex
import HandS.Exc
import HandS.Comp
import KE.GoesRaise
import PySem.Challenge.RW_crcfinds_k19_more_errors
set_option Elab.async false
set_option linter.all false
set_option maxRecDepth 100000
set_option maxHeartbeats 4000000
/-! # Data: what a pure def computes, by plain values -/
namespace DL
open PySem PySem.Spec PyProof.Rows L2

/-! ### values, states, results -/
inductive Er where
  | chk | bits | num | smp | plc | txt | nof
  deriving DecidableEq
inductive D where
  | non | bl (b : Bool) | int (i : Int) | str (x : Str)
  | lst (xs : List D) | tup (xs : List D)
  | hd (n : Nat)
  | dk (ks : List Int)
  | ty (n : String)
structure DSt where
  nums : List Int
  cnt : Int
  rc : List Int
  rn : Int
  rr : List Int
inductive Rs (α : Type) where
  | ok (a : α) (s : DSt)
  | er (e : Er) (s : DSt)
  | no
def DM (α : Type) : Type := DSt → Rs α
def DM.bind {α β : Type} (x : DM α) (f : α → DM β) : DM β := fun s => match x s with
  | .ok a s' => f a s'
  | .er e s' => .er e s'
  | .no => .no
instance : Monad DM where
  pure a := fun s => .ok a s
  bind := DM.bind
theorem bind_def {α β : Type} (x : DM α) (f : α → DM β) (s : DSt) : (x >>= f) s = match x s with
  | .ok a s' => f a s'
  | .er e s' => .er e s'
  | .no => .no := rfl
theorem pure_def {α : Type} (a : α) (s : DSt) : (pure a : DM α) s = .ok a s := rfl
instance : LawfulMonad DM := LawfulMonad.mk' _
  (fun x => funext fun s => by
    show (match x s with | .ok a s' => Rs.ok (id a) s' | .er e s' => .er e s' | .no => .no) = x s
    cases x s <;> rfl)
  (fun _ _ => rfl)
  (fun x f g => funext fun s => by
    show (match (match x s with | .ok a s' => f a s' | .er e s' => .er e s' | .no => .no) with | .ok a s' => g a s' | .er e s' => .er e s' | .no => .no) = _
    show _ = (match x s with | .ok a s' => (match f a s' with | .ok a s' => g a s' | .er e s' => .er e s' | .no => .no) | .er e s' => .er e s' | .no => .no)
    cases x s <;> rfl)
def stuck {α : Type} : DM α := fun _ => .no
def throwD {α : Type} (e : Er) : DM α := fun s => .er e s
def liftO {α : Type} : Option α → DM α
  | some a => pure a
  | none => stuck
/-- nothing is raised here -/
def noEr {α : Type} (x : DM α) : DM α := fun s => match x s with
  | .ok a s' => .ok a s'
  | _ => .no
def Wp {α : Type} (r : Rs α) (Q : α → DSt → Prop) (E : Er → DSt → Prop) : Prop := match r with
  | .ok a s => Q a s
  | .er e s => E e s
  | .no => False
theorem Wp.bind {α β : Type} {x : DM α} {f : α → DM β} {s : DSt} {Q : β → DSt → Prop} {E : Er → DSt → Prop} (h : Wp ((x >>= f) s) Q E) : Wp (x s) (fun a s' => Wp (f a s') Q E) E := by
  rw [bind_def] at h
  cases q : x s with
  | ok a s' => rw [q] at h; exact h
  | er e s' => rw [q] at h; exact h
  | no => rw [q] at h; exact h
theorem Wp.mono {α : Type} {r : Rs α} {Q Q' : α → DSt → Prop} {E E' : Er → DSt → Prop} (h : Wp r Q E) (hq : ∀ a s, Q a s → Q' a s) (he : ∀ e s, E e s → E' e s) : Wp r Q' E' := by
  cases r with
  | ok a s => exact hq _ _ h
  | er e s => exact he _ _ h
  | no => exact h
theorem Wp.noEr {α : Type} {x : DM α} {s : DSt} {Q : α → DSt → Prop} {E E' : Er → DSt → Prop} (h : Wp (noEr x s) Q E) : Wp (x s) Q E' := by
  show Wp (x s) Q E'
  cases q : x s with
  | ok a s' =>
    have : DL.noEr x s = .ok a s' := by show (match x s with | .ok a s' => Rs.ok a s' | _ => .no) = _; rw [q]
    rw [this] at h; exact h
  | er e s' =>
    have : DL.noEr x s = .no := by show (match x s with | .ok a s' => Rs.ok a s' | _ => .no) = _; rw [q]
    rw [this] at h; exact h.elim
  | no =>
    have : DL.noEr x s = .no := by show (match x s with | .ok a s' => Rs.ok a s' | _ => .no) = _; rw [q]
    rw [this] at h; exact h

/-! ### the region that may change, its state; how a value lies in the heap -/
structure Cl where
  e : Er → Addr
  reg : Addr
instance : CoeFun Cl (fun _ => Er → Addr) := ⟨Cl.e⟩
/-- a register's object: its check at c, its bits at l -/
def regO (C dx c l : Addr) (n : Int) : HO := .ins C dx [("check", .ref c), ("now", .int n), ("row", .ref l)]
structure Rg where
  /-- what may change -/
  Y : List Addr
  /-- what is kept, and asked -/
  P : List Addr
  C : Addr
  /-- the list that the register holds now -/
  R : Hp → Addr → Prop
  A : DSt → Hp → Prop
  hv : Nat → Option V
  dr : ∀ v, hv 0 = some v → ∃ d l, v = .ref d ∧ d ∈ Y ∧ l ∈ Y ∧ d ≠ l ∧ (∀ H o a, R (upd H d o) a → R H a) ∧ (∀ H o a, R (upd H l o) a → R H a) ∧ ∀ s H, A s H → H d = some (.lst [.ref l, .int s.cnt]) ∧ H l = some (.lst (s.nums.map V.int)) ∧
    ∀ (ns : List Int) (c : Int), A { s with nums := ns, cnt := c } (upd (upd H d (.lst [.ref l, .int c])) l (.lst (ns.map V.int)))
  ob : ∀ v, hv 1 = some v → ∃ x dx c, v = .ref x ∧ x ∈ Y ∧ c ∈ P ∧ (∀ H l n, H x = some (regO C dx c l n) → ∀ a, R H a ↔ a = l) ∧
    ∀ s H, A s H → (∃ l, H x = some (regO C dx c l s.rn) ∧ H l = some (.lst (s.rr.map V.int)) ∧ l ∉ Y ∧ l ∉ P) ∧ H c = some (.tup (s.rc.map V.int)) ∧
      ∀ (H' : Hp) (n : Int) (l : Addr) (rr : List Int), (∀ a, a ≠ x → ¬ R H a → a ∈ Y ∨ a ∈ P → H' a = H a) → H' x = some (regO C dx c l n) → H' l = some (.lst (rr.map V.int)) → l ∉ Y → l ∉ P → A { s with rn := n, rr := rr } H'
  dep : ∀ s H H', (∀ a, a ∈ Y ∨ a ∈ P ∨ R H a → H' a = H a) → A s H → A s H'
  inY : ∀ s H, A s H → ∀ a, a ∈ Y ∨ a ∈ P ∨ R H a → H a ≠ none
  rs : ∀ H H', Same H H' → ∀ a, R H' a → R H a
  rd : ∀ H H', (∀ a ∈ Y, H' a = H a) → ∀ a, R H' a → R H a
  /-- where no register is known, there is none -/
  r0 : hv 1 = none → ∀ H a, ¬ R H a
  rcn : ∀ v s H, hv 1 = some v → A s H → s.rc ≠ []
theorem Rg.ru (G : Rg) (H : Hp) (p : Addr) (o : HO) (h : p ∉ G.Y) : ∀ a, G.R (upd H p o) a → G.R H a := G.rd H _ fun a ha => upd_ne fun z => h (z ▸ ha)
/-- apart from Z and from the register's list -/
def Av (G : Rg) (Z : List Addr) (H : Hp) (a : Addr) : Prop := a ∉ Z ∧ ¬ G.R H a
/-- outside of W all is as it was -/
structure Ext (G : Rg) (W : List Addr) (H H' : Hp) : Prop where
  k : ∀ a o, Av G W H a → H a = some o → H' a = some o
  r : ∀ a, G.R H' a → G.R H a ∨ H a = none
  n : ∀ a, H a ≠ none → H' a ≠ none

mutual
inductive Rep (G : Rg) (Z : List Addr) (H : Hp) : V → D → Prop
  | non : Rep G Z H .non .non
  | bl (b : Bool) : Rep G Z H (.bl b) (.bl b)
  | int (i : Int) : Rep G Z H (.int i) (.int i)
  | str (x : Str) : Rep G Z H (.str x) (.str x)
  | lst {a : Addr} {vs : List V} {ds : List D} : Av G Z H a → H a = some (.lst vs) → RepAll G Z H vs ds → Rep G Z H (.ref a) (.lst ds)
  | tup {a : Addr} {vs : List V} {ds : List D} : Av G Z H a → H a = some (.tup vs) → RepAll G Z H vs ds → Rep G Z H (.ref a) (.tup ds)
  | hd {n : Nat} {v : V} : G.hv n = some v → Rep G Z H v (.hd n)
  | ty (n : String) : Rep G Z H (.ty n) (.ty n)
  | dk {a : Addr} {ks : List Int} : Av G Z H a → H a = some (.dK (ks.map fun k => (.inl k, .bl true))) → Rep G Z H (.ref a) (.dk ks)
inductive RepAll (G : Rg) (Z : List Addr) (H : Hp) : List V → List D → Prop
  | nil : RepAll G Z H [] []
  | cons {v : V} {vs : List V} {d : D} {ds : List D} : Rep G Z H v d → RepAll G Z H vs ds → RepAll G Z H (v :: vs) (d :: ds)
end

section
variable {G : Rg} {Z Z' : List Addr} {H H' : Hp}
theorem Ext.av (e : Ext G Z H H') (hz : ∀ a ∈ Z', a ∈ Z) {a : Addr} {o : HO} (na : Av G Z H a) (ha : H a = some o) : Av G Z' H' a :=
  ⟨fun z => na.1 (hz _ z), fun r => (e.r a r).elim na.2 fun h => by rw [ha] at h; cases h⟩
mutual
theorem Rep.mono (e : Ext G Z H H') (hz : ∀ a ∈ Z', a ∈ Z) : ∀ {v : V} {d : D}, Rep G Z H v d → Rep G Z' H' v d
  | _, .non, h => by cases h; exact .non
  | _, .bl b, h => by cases h; exact .bl b
  | _, .int i, h => by cases h; exact .int i
  | _, .str x, h => by cases h; exact .str x
  | _, .lst ds, h => by
    cases h with
    | lst na ha hr => exact .lst (e.av hz na ha) (e.k _ _ na ha) (RepAll.mono e hz hr)
  | _, .tup ds, h => by
    cases h with
    | tup na ha hr => exact .tup (e.av hz na ha) (e.k _ _ na ha) (RepAll.mono e hz hr)
  | _, .hd n, h => by
    cases h with
    | hd e => exact .hd e
  | _, .ty n, h => by cases h; exact .ty n
  | _, .dk ks, h => by
    cases h with
    | dk na ha => exact .dk (e.av hz na ha) (e.k _ _ na ha)
theorem RepAll.mono (e : Ext G Z H H') (hz : ∀ a ∈ Z', a ∈ Z) : ∀ {vs : List V} {ds : List D}, RepAll G Z H vs ds → RepAll G Z' H' vs ds
  | _, [], h => by cases h; exact .nil
  | _, d :: ds, h => by
    cases h with
    | cons h1 h2 => exact .cons (Rep.mono e hz h1) (RepAll.mono e hz h2)
end
theorem RepAll.length : ∀ {vs : List V} {ds : List D}, RepAll G Z H vs ds → vs.length = ds.length
  | _, [], h => by cases h; rfl
  | _, d :: ds, h => by
    cases h with
    | cons h1 h2 => rw [List.length_cons, List.length_cons, RepAll.length h2]
theorem RepAll.get : ∀ {vs : List V} {ds : List D} {i : Nat} {d : D}, RepAll G Z H vs ds → ds[i]? = some d → ∃ v, vs[i]? = some v ∧ Rep G Z H v d
  | _, [], _, _, h, e => by simp at e
  | _, d :: ds, 0, x, h, e => by
    cases h with
    | cons h1 h2 => simp at e; subst e; exact ⟨_, rfl, h1⟩
  | _, d :: ds, i + 1, x, h, e => by
    cases h with
    | cons h1 h2 =>
      obtain ⟨v, e1, r⟩ := RepAll.get (i := i) h2 (by simpa using e)
      exact ⟨v, by simpa using e1, r⟩
theorem RepAll.get' : ∀ {vs : List V} {ds : List D} {i : Nat} {v : V}, RepAll G Z H vs ds → vs[i]? = some v → ∃ d, ds[i]? = some d ∧ Rep G Z H v d
  | _, [], _, _, h, e => by cases h; simp at e
  | _, d :: ds, 0, x, h, e => by
    cases h with
    | cons h1 h2 => simp at e; subst e; exact ⟨_, rfl, h1⟩
  | _, d :: ds, i + 1, x, h, e => by
    cases h with
    | cons h1 h2 =>
      obtain ⟨v, e1, r⟩ := RepAll.get' (i := i) h2 (by simpa using e)
      exact ⟨v, by simpa using e1, r⟩
theorem RepAll.append : ∀ {vs ws : List V} {ds es : List D}, RepAll G Z H vs ds → RepAll G Z H ws es → RepAll G Z H (vs ++ ws) (ds ++ es)
  | _, _, [], _, h, k => by cases h; exact k
  | _, _, d :: ds, _, h, k => by
    cases h with
    | cons h1 h2 => exact .cons h1 (RepAll.append h2 k)
theorem RepAll.one {v : V} {d : D} (h : Rep G Z H v d) : RepAll G Z H [v] [d] := .cons h .nil
theorem RepAll.take : ∀ {vs : List V} {ds : List D} (n : Nat), RepAll G Z H vs ds → RepAll G Z H (vs.take n) (ds.take n)
  | _, [], n, h => by cases h; simp; exact .nil
  | _, d :: ds, 0, h => by simp; exact .nil
  | _, d :: ds, n + 1, h => by
    cases h with
    | cons h1 h2 => exact .cons h1 (RepAll.take n h2)
theorem RepAll.drop : ∀ {vs : List V} {ds : List D} (n : Nat), RepAll G Z H vs ds → RepAll G Z H (vs.drop n) (ds.drop n)
  | _, [], n, h => by cases h; simp; exact .nil
  | _, d :: ds, 0, h => h
  | _, d :: ds, n + 1, h => by
    cases h with
    | cons h1 h2 => exact RepAll.drop n h2
theorem RepAll.reverse : ∀ {vs : List V} {ds : List D}, RepAll G Z H vs ds → RepAll G Z H vs.reverse ds.reverse
  | _, [], h => by cases h; exact .nil
  | _, d :: ds, h => by
    cases h with
    | cons h1 h2 => rw [List.reverse_cons, List.reverse_cons]; exact (RepAll.reverse h2).append (.one h1)
theorem RepAll.set : ∀ {vs : List V} {ds : List D} (i : Nat) {v : V} {d : D}, Rep G Z H v d → RepAll G Z H vs ds → RepAll G Z H (vs.set i v) (ds.set i d)
  | _, [], i, _, _, r, h => by cases h; simp; exact .nil
  | _, x :: ds, 0, _, _, r, h => by
    cases h with
    | cons h1 h2 => exact .cons r h2
  | _, x :: ds, i + 1, _, _, r, h => by
    cases h with
    | cons h1 h2 => exact .cons h1 (RepAll.set i r h2)
theorem RepAll.ints : ∀ {vs : List V} {ns : List Int}, RepAll G Z H vs (ns.map D.int) → vs = ns.map V.int
  | _, [], h => by cases h; rfl
  | _, n :: ns, h => by
    cases h with
    | cons h1 h2 => cases h1; rw [RepAll.ints h2]; rfl
theorem RepAll.bls : ∀ {vs : List V} {ns : List Bool}, RepAll G Z H vs (ns.map D.bl) → vs = ns.map V.bl
  | _, [], h => by cases h; rfl
  | _, n :: ns, h => by
    cases h with
    | cons h1 h2 => cases h1; rw [RepAll.bls h2]; rfl
theorem RepAll.strs : ∀ {vs : List V} {ns : List Str}, RepAll G Z H vs (ns.map D.str) → vs = ns.map V.str
  | _, [], h => by cases h; rfl
  | _, n :: ns, h => by
    cases h with
    | cons h1 h2 => cases h1; rw [RepAll.strs h2]; rfl
theorem RepAll.of_ints : ∀ (ns : List Int), RepAll G Z H (ns.map V.int) (ns.map D.int)
  | [] => .nil
  | n :: ns => .cons (.int n) (RepAll.of_ints ns)
theorem RepAll.of_strs : ∀ (ns : List Str), RepAll G Z H (ns.map V.str) (ns.map D.str)
  | [] => .nil
  | n :: ns => .cons (.str n) (RepAll.of_strs ns)
end

section
variable {G : Rg} {W W' Z : List Addr} {H H1 H2 : Hp}
theorem Same.ext (e : Same H H1) : Ext G W H H1 := ⟨fun a o _ h => e a o h, fun a r => .inl (G.rs _ _ e a r), fun a h => by
  cases q : H a with
  | none => exact absurd q h
  | some o => rw [e a o q]; exact Option.some_ne_none _⟩
theorem Ext.refl (W : List Addr) (H : Hp) : Ext G W H H := Same.ext (Same.refl H)
theorem Ext.trans (a : Ext G W H H1) (b : Ext G W H1 H2) : Ext G W H H2 :=
  ⟨fun x o n h => b.k x o (a.av (fun _ z => z) n h) (a.k x o n h), fun x r => (b.r x r).elim (fun r => a.r x r) fun h => .inr (by
    cases q : H x with
    | none => rfl
    | some o => exact absurd h (a.n x (by rw [q]; exact Option.some_ne_none _))), fun x h => b.n x (a.n x h)⟩
theorem Ext.sub (a : Ext G W H H1) (h : ∀ x ∈ W, x ∈ W') : Ext G W' H H1 := ⟨fun x o n e => a.k x o ⟨fun z => n.1 (h x z), n.2⟩ e, a.r, a.n⟩
theorem same_new {H : Hp} {p : Addr} {o : HO} (h : H p = none) : Same H (upd H p o) := fun a u e => by
  rw [upd_ne (ne_of_none e h)]; exact e
theorem Ext.new {W : List Addr} {H : Hp} {p : Addr} {o : HO} (h : H p = none) : Ext G W H (upd H p o) := Same.ext (same_new h)
theorem upd_some {H : Hp} {p a : Addr} {o : HO} (h : H a ≠ none) : upd H p o a ≠ none := by
  by_cases z : a = p
  · rw [z, upd_same]; exact Option.some_ne_none _
  · rw [upd_ne z]; exact h
/-- a write at a place that is apart -/
theorem Ext.wr {p : Addr} {o : HO} (hp : p ∈ W) (hy : p ∉ G.Y) : Ext G W H (upd H p o) :=
  ⟨fun a u n e => by rw [upd_ne (fun (z : a = p) => n.1 (z ▸ hp))]; exact e, fun a r => .inl (G.ru H p o hy a r), fun a h => upd_some h⟩
/-- a write at a place that was free -/
theorem Ext.wr0 {p : Addr} {o : HO} (e : Ext G W H H1) (hp : H p = none) (hy : p ∉ G.Y) : Ext G W H (upd H1 p o) :=
  ⟨fun a u n h => by rw [upd_ne (fun (z : a = p) => by rw [z, hp] at h; cases h)]; exact e.k a u n h, fun a r => e.r a (G.ru H1 p o hy a r), fun a h => upd_some (e.n a h)⟩
theorem Rep.same {v : V} {d : D} (r : Rep G Z H v d) (e : Same H H1) : Rep G Z H1 v d := r.mono (Same.ext e) fun _ h => h
theorem RepAll.same {v : List V} {d : List D} (r : RepAll G Z H v d) (e : Same H H1) : RepAll G Z H1 v d := r.mono (Same.ext e) fun _ h => h
end

/-! ### as the library's data, for == and in -/
mutual
def D.py : D → PyData
  | .non => .none
  | .bl b => .bool b
  | .int i => .int i
  | .str x => .str x
  | .lst xs => .list (D.pyAll xs)
  | .tup xs => .tuple (D.pyAll xs)
  | .hd _ => .none
  | .dk _ => .none
  | .ty _ => .none
def D.pyAll : List D → List PyData
  | [] => []
  | x :: xs => D.py x :: D.pyAll xs
end
mutual
def D.fit : Nat → D → Bool
  | _, .non => true
  | _, .bl _ => true
  | _, .int _ => true
  | _, .str x => PyData.strOk x
  | 0, .lst _ => false
  | 0, .tup _ => false
  | n + 1, .lst xs => D.fitAll n xs
  | n + 1, .tup xs => D.fitAll n xs
  | _, .hd _ => false
  | _, .dk _ => false
  | _, .ty _ => false
def D.fitAll : Nat → List D → Bool
  | _, [] => true
  | n, x :: xs => D.fit n x && D.fitAll n xs
end
mutual
def D.eqv : D → D → Bool
  | .non, .non => true
  | .bl a, .bl b => a == b
  | .bl a, .int j => (if a then 1 else 0) == j
  | .int i, .bl b => i == (if b then 1 else 0)
  | .int i, .int j => i == j
  | .str x, .str y => x == y
  | .lst xs, .lst ys => D.eqvAll xs ys
  | .tup xs, .tup ys => D.eqvAll xs ys
  | _, _ => false
def D.eqvAll : List D → List D → Bool
  | [], [] => true
  | x :: xs, y :: ys => D.eqv x y && D.eqvAll xs ys
  | _, _ => false
end

mutual
theorem D.lay : ∀ (n : Nat) (d : D), D.fit n d = true → (D.py d).canLay0 = true
  | n, .non, _ => by simp [D.py, PyData.canLay0]
  | n, .bl _, _ => by simp [D.py, PyData.canLay0]
  | n, .int _, _ => by simp [D.py, PyData.canLay0]
  | n, .str x, h => by simp only [D.fit] at h; simp only [D.py, PyData.canLay0]; exact h
  | 0, .lst _, h => by simp [D.fit] at h
  | 0, .tup _, h => by simp [D.fit] at h
  | n + 1, .lst xs, h => by simp only [D.fit] at h; simp only [D.py, PyData.canLay0]; exact D.layAll n xs h
  | n + 1, .tup xs, h => by simp only [D.fit] at h; simp only [D.py, PyData.canLay0]; exact D.layAll n xs h
  | n, .hd _, h => by simp [D.fit] at h
  | n, .dk _, h => by simp [D.fit] at h
  | n, .ty _, h => by simp [D.fit] at h
theorem D.layAll : ∀ (n : Nat) (ds : List D), D.fitAll n ds = true → PyData.canLayAll0 (D.pyAll ds) = true
  | _, [], _ => by simp [D.pyAll, PyData.canLayAll0]
  | n, x :: xs, h => by
    simp only [D.fitAll, Bool.and_eq_true] at h
    simp only [D.pyAll, PyData.canLayAll0, Bool.and_eq_true]
    exact ⟨D.lay n x h.1, D.layAll n xs h.2⟩
end
mutual
theorem D.dep : ∀ (n : Nat) (d : D), D.fit n d = true → (D.py d).depth ≤ n
  | n, .non, _ => by simp [D.py, PyData.depth]
  | n, .bl _, _ => by simp [D.py, PyData.depth]
  | n, .int _, _ => by simp [D.py, PyData.depth]
  | n, .str x, h => by simp [D.py, PyData.depth]
  | 0, .lst _, h => by simp [D.fit] at h
  | 0, .tup _, h => by simp [D.fit] at h
  | n + 1, .lst xs, h => by simp only [D.fit] at h; simp only [D.py, PyData.depth]; exact Nat.succ_le_succ (D.depAll n xs h)
  | n + 1, .tup xs, h => by simp only [D.fit] at h; simp only [D.py, PyData.depth]; exact Nat.succ_le_succ (D.depAll n xs h)
  | n, .hd _, h => by simp [D.fit] at h
  | n, .dk _, h => by simp [D.fit] at h
  | n, .ty _, h => by simp [D.fit] at h
theorem D.depAll : ∀ (n : Nat) (ds : List D), D.fitAll n ds = true → PyData.depthAll (D.pyAll ds) ≤ n
  | _, [], _ => by simp [D.pyAll, PyData.depthAll]
  | n, x :: xs, h => by
    simp only [D.fitAll, Bool.and_eq_true] at h
    simp only [D.pyAll, PyData.depthAll]
    exact Nat.max_le.mpr ⟨D.dep n x h.1, D.depAll n xs h.2⟩
end
theorem D.shaped {d : D} (h : D.fit 8 d = true) : SeqAt.shaped (D.py d) = true := by
  unfold SeqAt.shaped
  rw [D.lay 8 d h, Bool.true_and]
  exact decide_eq_true (Nat.le_trans (D.dep 8 d h) (by decide))
mutual
theorem D.eqv_py : ∀ (d e : D) (n m : Nat), D.fit n d = true → D.fit m e = true → PyData.eqv (D.py d) (D.py e) = D.eqv d e
  | .lst xs, .lst ys, 0, _, h, _ => by simp [D.fit] at h
  | .lst xs, .lst ys, _, 0, _, h => by simp [D.fit] at h
  | .lst xs, .lst ys, n + 1, m + 1, h, k => by
    simp only [D.fit] at h k
    simp only [D.py, PyData.eqv, D.eqv]
    exact D.eqvAll_py xs ys n m h k
  | .tup xs, .tup ys, 0, _, h, _ => by simp [D.fit] at h
  | .tup xs, .tup ys, _, 0, _, h => by simp [D.fit] at h
  | .tup xs, .tup ys, n + 1, m + 1, h, k => by
    simp only [D.fit] at h k
    simp only [D.py, PyData.eqv, D.eqv]
    exact D.eqvAll_py xs ys n m h k
  | .hd _, _, n, _, h, _ => by simp [D.fit] at h
  | .dk _, _, n, _, h, _ => by simp [D.fit] at h
  | .ty _, _, n, _, h, _ => by simp [D.fit] at h
  | _, .hd _, _, n, _, h => by simp [D.fit] at h
  | _, .dk _, _, n, _, h => by simp [D.fit] at h
  | _, .ty _, _, n, _, h => by simp [D.fit] at h
  | .non, .non, _, _, _, _ => by simp [D.py, PyData.eqv, D.eqv]
  | .non, .bl _, _, _, _, _ => by simp [D.py, PyData.eqv, D.eqv]
  | .non, .int _, _, _, _, _ => by simp [D.py, PyData.eqv, D.eqv]
  | .non, .str _, _, _, _, _ => by simp [D.py, PyData.eqv, D.eqv]
  | .non, .lst _, _, _, _, _ => by simp [D.py, PyData.eqv, D.eqv]
  | .non, .tup _, _, _, _, _ => by simp [D.py, PyData.eqv, D.eqv]
  | .bl _, .non, _, _, _, _ => by simp [D.py, PyData.eqv, D.eqv]
  | .bl _, .bl _, _, _, _, _ => by simp [D.py, PyData.eqv, D.eqv]
  | .bl _, .int _, _, _, _, _ => by simp [D.py, PyData.eqv, D.eqv]
  | .bl _, .str _, _, _, _, _ => by simp [D.py, PyData.eqv, D.eqv]
  | .bl _, .lst _, _, _, _, _ => by simp [D.py, PyData.eqv, D.eqv]
  | .bl _, .tup _, _, _, _, _ => by simp [D.py, PyData.eqv, D.eqv]
  | .int _, .non, _, _, _, _ => by simp [D.py, PyData.eqv, D.eqv]
  | .int _, .bl _, _, _, _, _ => by simp [D.py, PyData.eqv, D.eqv]
  | .int _, .int _, _, _, _, _ => by simp [D.py, PyData.eqv, D.eqv]
  | .int _, .str _, _, _, _, _ => by simp [D.py, PyData.eqv, D.eqv]
  | .int _, .lst _, _, _, _, _ => by simp [D.py, PyData.eqv, D.eqv]
  | .int _, .tup _, _, _, _, _ => by simp [D.py, PyData.eqv, D.eqv]
  | .str _, .non, _, _, _, _ => by simp [D.py, PyData.eqv, D.eqv]
  | .str _, .bl _, _, _, _, _ => by simp [D.py, PyData.eqv, D.eqv]
  | .str _, .int _, _, _, _, _ => by simp [D.py, PyData.eqv, D.eqv]
  | .str _, .str _, _, _, _, _ => by simp [D.py, PyData.eqv, D.eqv]
  | .str _, .lst _, _, _, _, _ => by simp [D.py, PyData.eqv, D.eqv]
  | .str _, .tup _, _, _, _, _ => by simp [D.py, PyData.eqv, D.eqv]
  | .lst _, .non, _, _, _, _ => by simp [D.py, PyData.eqv, D.eqv]
  | .lst _, .bl _, _, _, _, _ => by simp [D.py, PyData.eqv, D.eqv]
  | .lst _, .int _, _, _, _, _ => by simp [D.py, PyData.eqv, D.eqv]
  | .lst _, .str _, _, _, _, _ => by simp [D.py, PyData.eqv, D.eqv]
  | .lst _, .tup _, _, _, _, _ => by simp [D.py, PyData.eqv, D.eqv]
  | .tup _, .non, _, _, _, _ => by simp [D.py, PyData.eqv, D.eqv]
  | .tup _, .bl _, _, _, _, _ => by simp [D.py, PyData.eqv, D.eqv]
  | .tup _, .int _, _, _, _, _ => by simp [D.py, PyData.eqv, D.eqv]
  | .tup _, .str _, _, _, _, _ => by simp [D.py, PyData.eqv, D.eqv]
  | .tup _, .lst _, _, _, _, _ => by simp [D.py, PyData.eqv, D.eqv]
theorem D.eqvAll_py : ∀ (ds es : List D) (n m : Nat), D.fitAll n ds = true → D.fitAll m es = true → PyData.eqvAll (D.pyAll ds) (D.pyAll es) = D.eqvAll ds es
  | [], [], _, _, _, _ => by simp [D.pyAll, PyData.eqvAll, D.eqvAll]
  | [], _ :: _, _, _, _, _ => by simp [D.pyAll, PyData.eqvAll, D.eqvAll]
  | _ :: _, [], _, _, _, _ => by simp [D.pyAll, PyData.eqvAll, D.eqvAll]
  | x :: xs, y :: ys, n, m, h, k => by
    simp only [D.fitAll, Bool.and_eq_true] at h k
    simp only [D.pyAll, PyData.eqvAll, D.eqvAll]
    rw [D.eqv_py x y n m h.1 k.1, D.eqvAll_py xs ys n m h.2 k.2]
end
section
variable {G : Rg} {Z : List Addr} {H : Hp} {K : PySem.W.Frag}
mutual
theorem Rep.dp : ∀ (n : Nat) (d : D) (v : V), D.fit n d = true → Rep G Z H v d → Dp K H v (D.py d)
  | _, .non, _, _, h => by cases h; simp only [D.py]; exact .non
  | _, .bl b, _, _, h => by cases h; simp only [D.py]; exact .bl b
  | _, .int i, _, _, h => by cases h; simp only [D.py]; exact .int i
  | _, .str x, _, _, h => by cases h; simp only [D.py]; exact .str x
  | 0, .lst _, _, f, _ => by simp [D.fit] at f
  | 0, .tup _, _, f, _ => by simp [D.fit] at f
  | n + 1, .lst ds, _, f, h => by
    simp only [D.fit] at f
    cases h with
    | lst na ha hr => simp only [D.py]; exact .lst (SqL.of ha) (RepAll.dp n ds _ f hr)
  | n + 1, .tup ds, _, f, h => by
    simp only [D.fit] at f
    cases h with
    | tup na ha hr => simp only [D.py]; exact .tup (SqT.of ha) (RepAll.dp n ds _ f hr)
  | n, .hd _, _, f, _ => by simp [D.fit] at f
  | n, .dk _, _, f, _ => by simp [D.fit] at f
  | n, .ty _, _, f, _ => by simp [D.fit] at f
theorem RepAll.dp : ∀ (n : Nat) (ds : List D) (vs : List V), D.fitAll n ds = true → RepAll G Z H vs ds → DpAll K H vs (D.pyAll ds)
  | _, [], _, _, h => by cases h; simp only [D.pyAll]; exact .nil
  | n, d :: ds, _, f, h => by
    simp only [D.fitAll, Bool.and_eq_true] at f
    cases h with
    | cons h1 h2 => simp only [D.pyAll]; exact .cons (Rep.dp n d _ f.1 h1) (RepAll.dp n ds _ f.2 h2)
end
end
end DL

namespace DL
open PySem PySem.Spec PyProof.Rows L2
/-! ### operations on data; none: not done here -/
def LIM : Nat := 100000
theorem lim_le {n : Nat} (h : n ≤ LIM) : n ≤ sizeLine := Nat.le_trans h (by rw [sizeLine_eq]; decide)
theorem lim_lt {n : Nat} (h : n < LIM) : n < sizeLine := Nat.lt_of_lt_of_le h (by rw [sizeLine_eq]; decide)
def guardO (b : Bool) {α : Type} (x : Option α) : Option α := if b then x else none
theorem guardO_some {b : Bool} {α : Type} {x : Option α} {y : α} (h : guardO b x = some y) : b = true ∧ x = some y := by
  unfold guardO at h
  cases b with
  | true => exact ⟨rfl, by simpa using h⟩
  | false => simp at h
def D.add : D → D → Option D
  | .int i, .int j => some (.int (i + j))
  | .lst xs, .lst ys => guardO (decide (xs.length + ys.length ≤ LIM)) (some (.lst (xs ++ ys)))
  | .tup xs, .tup ys => guardO (decide (xs.length + ys.length ≤ LIM)) (some (.tup (xs ++ ys)))
  | .str x, .str y => guardO (decide (x.length + y.length ≤ LIM)) (some (.str (x ++ y)))
  | _, _ => none
def D.sub : D → D → Option D
  | .int i, .int j => some (.int (i - j))
  | _, _ => none
def D.mul : D → D → Option D
  | .int i, .int j => guardO (decide (-(2 ^ 64) < i ∧ i < 2 ^ 64) || decide (-(2 ^ 64) < j ∧ j < 2 ^ 64)) (some (.int (i * j)))
  | .lst xs, .int k => guardO (decide (k ≤ 100000 ∧ xs.length * k.toNat ≤ LIM ∧ -100000 ≤ k)) (some (.lst (List.replicate k.toNat xs).flatten))
  | _, _ => none
def D.fdiv : D → D → Option D
  | .int i, .int j => guardO (decide (0 < j ∧ j < 1073741824)) (some (.int (i / j)))
  | _, _ => none
def D.mod : D → D → Option D
  | .int i, .int j => guardO (decide (0 < j)) (some (.int (i % j)))
  | _, _ => none
def D.xor : D → D → Option D
  | .int i, .int j => some (.int (Builtin.bitXor i j))
  | _, _ => none
def D.pow : D → D → Option D
  | .int i, .int j => guardO (decide (0 ≤ j ∧ j ≤ 1000000 ∧ i.natAbs < 2 ^ 64)) (some (.int (i ^ j.toNat)))
  | _, _ => none
def D.neg : D → Option D
  | .int i => some (.int (-i))
  | _ => none
def D.lt : D → D → Option D
  | .int i, .int j => some (.bl (decide (i < j)))
  | _, _ => none
def D.le : D → D → Option D
  | .int i, .int j => some (.bl (decide (i ≤ j)))
  | _, _ => none
def D.gt : D → D → Option D
  | .int i, .int j => some (.bl (decide (j < i)))
  | _, _ => none
def D.ge : D → D → Option D
  | .int i, .int j => some (.bl (decide (j ≤ i)))
  | _, _ => none
def D.eq (d e : D) : Option D := guardO (D.fit 8 d && D.fit 8 e) (some (.bl (D.eqv d e)))
def D.ne (d e : D) : Option D := guardO (D.fit 8 d && D.fit 8 e) (some (.bl (!D.eqv d e)))
def D.isNon : D → Option Bool
  | .non => some true
  | .hd _ => none
  | _ => some false
/-- is None, is True, is False -/
def D.is : D → D → Option D
  | d, .non => d.isNon.map .bl
  | .bl a, .bl b => some (.bl (decide (a = b)))
  | _, _ => none
def D.isnt : D → D → Option D
  | d, .non => d.isNon.map fun b => .bl !b
  | .bl a, .bl b => some (.bl (!decide (a = b)))
  | _, _ => none
def D.inn (d : D) : D → Option D
  | .lst xs => guardO (D.fit 8 d && D.fit 8 (.lst xs)) (some (.bl (xs.any fun z => D.eqv z d)))
  | .str y => match d with
    | .str x => some (.bl (!(Builtin.Str.occurrences y x 0 y.length 1).isEmpty))
    | _ => none
  | _ => none
def D.nin (d : D) : D → Option D
  | .lst xs => guardO (D.fit 8 d && D.fit 8 (.lst xs)) (some (.bl (!xs.any fun z => D.eqv z d)))
  | .str y => match d with
    | .str x => some (.bl (!(!(Builtin.Str.occurrences y x 0 y.length 1).isEmpty)))
    | _ => none
  | _ => none
def D.idx : D → D → Option D
  | .lst xs, .int i => atI xs i
  | .tup xs, .int i => atI xs i
  | _, _ => none
def cutD (xs : List D) (lo hi : Option Int) : List D := (xs.drop (HT.sIx xs.length 0 lo)).take (HT.sIx xs.length xs.length hi - HT.sIx xs.length 0 lo)
def D.cut (d : D) (lo hi : Option Int) : Option D := match d with
  | .lst xs => some (.lst (cutD xs lo hi))
  | .tup xs => some (.tup (cutD xs lo hi))
  | _ => none
def D.rev : D → Option D
  | .lst xs => some (.lst xs.reverse)
  | _ => none

/-! ### readings by data -/
def dom (G : Rg) (Z : List Addr) (H : Hp) : Prop := ∀ a, a ∈ Z ∨ G.R H a → H a ≠ none
theorem dom.fresh {G : Rg} {Z : List Addr} {H : Hp} (h : dom G Z H) {p : Addr} (e : H p = none) : p ∉ Z := fun z => h p (.inl z) e
theorem dom.av {G : Rg} {Z : List Addr} {H : Hp} (h : dom G Z H) {p : Addr} {o : HO} (e : H p = none) : Av G Z (upd H p o) p := ⟨h.fresh e, fun r => h p (.inr (G.rs _ _ (same_new e) p r)) e⟩
def rD (f : D → D → Option D) : R2 := fun x y H Q => ∃ (G : Rg) (Z : List Addr) (dx dy d : D), dom G Z H ∧ Rep G Z H x dx ∧ Rep G Z H y dy ∧ f dx dy = some d ∧ ∀ v H', Same H H' → Rep G Z H' v d → Q v H'
def rDu (f : D → Option D) : V → Hp → VK → Prop := fun x H Q => ∃ (G : Rg) (Z : List Addr) (dx d : D), dom G Z H ∧ Rep G Z H x dx ∧ f dx = some d ∧ ∀ v H', Same H H' → Rep G Z H' v d → Q v H'
def rDc (f : List D → Option D) : List V → Hp → VK → Prop := fun xs H Q => ∃ (G : Rg) (Z : List Addr) (ds : List D) (d : D), dom G Z H ∧ RepAll G Z H xs ds ∧ f ds = some d ∧ ∀ v H', Same H H' → Rep G Z H' v d → Q v H'
def rDm (f : D → List D → Option D) : V → List V → Hp → VK → Prop := fun x xs H Q => ∃ (G : Rg) (Z : List Addr) (dx : D) (ds : List D) (d : D), dom G Z H ∧ Rep G Z H x dx ∧ RepAll G Z H xs ds ∧ f dx ds = some d ∧ ∀ v H', Same H H' → Rep G Z H' v d → Q v H'
def rDs (f : D → Option Int → Option Int → Option D) : V → Option Int → Option Int → Hp → VK → Prop := fun x lo hi H Q => ∃ (G : Rg) (Z : List Addr) (dx d : D), dom G Z H ∧ Rep G Z H x dx ∧ f dx lo hi = some d ∧ ∀ v H', Same H H' → Rep G Z H' v d → Q v H'

section
variable {X : Cx}
theorem opr_imp {f : Value → Value → Sem Value} {r r' : R2} (h : OpR X f r) (k : ∀ x y H Q, r' x y H Q → r x y H Q) : OpR X f r' := fun pins s σ H x y v u Q I rx ry q => h pins s σ H x y v u Q I rx ry (k _ _ _ _ q)
theorem opr_ex {ι : Type} {f : Value → Value → Sem Value} {r : ι → R2} {r' : R2} (h : ∀ i, OpR X f (r i)) (k : ∀ x y H Q, r' x y H Q → ∃ i, r i x y H Q) : OpR X f r' := fun pins s σ H x y v u Q I rx ry q => by
  obtain ⟨i, q'⟩ := k _ _ _ _ q
  exact h i pins s σ H x y v u Q I rx ry q'
theorem rep_int {G : Rg} {Z : List Addr} {H : Hp} {v : V} {i : Int} (h : Rep G Z H v (.int i)) : v = .int i := by cases h; rfl
theorem rep_bl {G : Rg} {Z : List Addr} {H : Hp} {v : V} {i : Bool} (h : Rep G Z H v (.bl i)) : v = .bl i := by cases h; rfl
theorem rep_str {G : Rg} {Z : List Addr} {H : Hp} {v : V} {i : Str} (h : Rep G Z H v (.str i)) : v = .str i := by cases h; rfl
theorem rep_lst {G : Rg} {Z : List Addr} {H : Hp} {v : V} {ds : List D} (h : Rep G Z H v (.lst ds)) : ∃ a vs, v = .ref a ∧ Av G Z H a ∧ H a = some (.lst vs) ∧ RepAll G Z H vs ds := by
  cases h with
  | lst na ha hr => exact ⟨_, _, rfl, na, ha, hr⟩
theorem rep_tup {G : Rg} {Z : List Addr} {H : Hp} {v : V} {ds : List D} (h : Rep G Z H v (.tup ds)) : ∃ a vs, v = .ref a ∧ Av G Z H a ∧ H a = some (.tup vs) ∧ RepAll G Z H vs ds := by
  cases h with
  | tup na ha hr => exact ⟨_, _, rfl, na, ha, hr⟩
theorem newL {G : Rg} {Z : List Addr} {H : Hp} {p : Addr} {vs : List V} {ds : List D} (hz : dom G Z H) (hp : H p = none) (h : RepAll G Z H vs ds) : Same H (upd H p (.lst vs)) ∧ Rep G Z (upd H p (.lst vs)) (.ref p) (.lst ds) :=
  ⟨same_new hp, .lst (hz.av hp) upd_same (h.same (same_new hp))⟩
theorem newT {G : Rg} {Z : List Addr} {H : Hp} {p : Addr} {vs : List V} {ds : List D} (hz : dom G Z H) (hp : H p = none) (h : RepAll G Z H vs ds) : Same H (upd H p (.tup vs)) ∧ Rep G Z (upd H p (.tup vs)) (.ref p) (.tup ds) :=
  ⟨same_new hp, .tup (hz.av hp) upd_same (h.same (same_new hp))⟩

theorem od_add : OpR X (binaryOp .Add) (rD D.add) := by
  refine opr_imp (((op_add.or op_cat).or op_catA).or op_add_str) fun x y H Q ⟨G, Z, dx, dy, d, hz, rx, ry, hf, q⟩ => ?_
  cases dx <;> cases dy <;> simp only [D.add] at hf <;> try contradiction
  case int.int i j =>
    cases hf
    obtain rfl := rep_int rx
    obtain rfl := rep_int ry
    exact .inl (.inl (.inl ⟨i, j, rfl, rfl, q _ H (Same.refl H) (.int _)⟩))
  case str.str i j =>
    obtain ⟨hl, hf⟩ := guardO_some hf
    cases hf
    obtain rfl := rep_str rx
    obtain rfl := rep_str ry
    exact .inr ⟨i, j, rfl, rfl, lim_le (of_decide_eq_true hl), q _ H (Same.refl H) (.str _)⟩
  case lst.lst xs ys =>
    obtain ⟨hl, hf⟩ := guardO_some hf
    cases hf
    obtain ⟨a, vs, rfl, na, ha, hr⟩ := rep_lst rx
    obtain ⟨b, ws, rfl, nb, hb, hs⟩ := rep_lst ry
    refine .inl (.inl (.inr ⟨a, b, vs, ws, rfl, rfl, ha, hb, ?_, fun p hp => ?_⟩))
    · rw [hr.length, hs.length]; exact lim_le (of_decide_eq_true hl)
    · obtain ⟨h1, h2⟩ := newL hz hp (hr.append hs)
      exact q _ _ h1 h2
  case tup.tup xs ys =>
    obtain ⟨hl, hf⟩ := guardO_some hf
    cases hf
    obtain ⟨a, vs, rfl, na, ha, hr⟩ := rep_tup rx
    obtain ⟨b, ws, rfl, nb, hb, hs⟩ := rep_tup ry
    refine .inl (.inr ⟨a, b, vs, ws, rfl, rfl, SqT.of ha, SqT.of hb, ?_, fun e => ?_, fun _ e => ?_, fun _ _ p hp => ?_⟩)
    · rw [hr.length, hs.length]; exact lim_le (of_decide_eq_true hl)
    · subst e
      cases xs with
      | nil => exact q _ H (Same.refl H) (.tup nb hb hs)
      | cons x xs => have := hr.length; simp at this
    · subst e
      cases ys with
      | nil => rw [List.append_nil] at q; exact q _ H (Same.refl H) (.tup na ha hr)
      | cons x xs => have := hs.length; simp at this
    · obtain ⟨h1, h2⟩ := newT hz hp (hr.append hs)
      exact q _ _ h1 h2
theorem od_int {f : Value → Value → Sem Value} {g : Int → Int → Int} {C : Int → Int → Prop} {df : D → D → Option D} (h : OpR X f (rI C fun i j => .int (g i j)))
    (k : ∀ x y d, df x y = some d → ∃ i j, x = .int i ∧ y = .int j ∧ C i j ∧ d = .int (g i j)) : OpR X f (rD df) :=
  opr_imp h fun x y H Q ⟨G, Z, dx, dy, d, hz, rx, ry, hf, q⟩ => by
    obtain ⟨i, j, rfl, rfl, c, rfl⟩ := k _ _ _ hf
    exact ⟨i, j, rep_int rx, rep_int ry, c, q _ H (Same.refl H) (.int _)⟩
theorem od_int0 {f : Value → Value → Sem Value} {g : Int → Int → Int} {df : D → D → Option D} (h : OpR X f (rI0 fun i j => .int (g i j)))
    (k : ∀ x y d, df x y = some d → ∃ i j, x = .int i ∧ y = .int j ∧ d = .int (g i j)) : OpR X f (rD df) :=
  opr_imp h fun x y H Q ⟨G, Z, dx, dy, d, hz, rx, ry, hf, q⟩ => by
    obtain ⟨i, j, rfl, rfl, rfl⟩ := k _ _ _ hf
    exact ⟨i, j, rep_int rx, rep_int ry, q _ H (Same.refl H) (.int _)⟩
theorem od_cmp0 {f : Value → Value → Sem Value} {g : Int → Int → Bool} {df : D → D → Option D} (h : OpR X f (rI0 fun i j => .bl (g i j)))
    (k : ∀ x y d, df x y = some d → ∃ i j, x = .int i ∧ y = .int j ∧ d = .bl (g i j)) : OpR X f (rD df) :=
  opr_imp h fun x y H Q ⟨G, Z, dx, dy, d, hz, rx, ry, hf, q⟩ => by
    obtain ⟨i, j, rfl, rfl, rfl⟩ := k _ _ _ hf
    exact ⟨i, j, rep_int rx, rep_int ry, q _ H (Same.refl H) (.bl _)⟩
theorem od_sub : OpR X (binaryOp .Sub) (rD D.sub) := od_int0 op_sub fun x y d h => by
  cases x <;> cases y <;> simp only [D.sub] at h <;> first | (cases h; exact ⟨_, _, rfl, rfl, rfl⟩) | cases h
theorem od_xor : OpR X (binaryOp .BitXor) (rD D.xor) := od_int0 op_xor fun x y d h => by
  cases x <;> cases y <;> simp only [D.xor] at h <;> first | (cases h; exact ⟨_, _, rfl, rfl, rfl⟩) | cases h
theorem od_fdiv : OpR X (binaryOp .FloorDiv) (rD D.fdiv) := od_int op_fdiv fun x y d h => by
  cases x <;> cases y <;> simp only [D.fdiv] at h <;> first | (obtain ⟨c, e⟩ := guardO_some h; cases e; have c' := of_decide_eq_true c; exact ⟨_, _, rfl, rfl, c', rfl⟩) | cases h
theorem od_mod : OpR X (binaryOp .Mod) (rD D.mod) := od_int op_mod fun x y d h => by
  cases x <;> cases y <;> simp only [D.mod] at h <;> first | (obtain ⟨c, e⟩ := guardO_some h; cases e; have c' := of_decide_eq_true c; exact ⟨_, _, rfl, rfl, c', rfl⟩) | cases h
theorem od_pow : OpR X (binaryOp .Pow) (rD D.pow) := od_int op_pow fun x y d h => by
  cases x <;> cases y <;> simp only [D.pow] at h <;> first | (obtain ⟨c, e⟩ := guardO_some h; cases e; have c' := of_decide_eq_true c; exact ⟨_, _, rfl, rfl, c', rfl⟩) | cases h
theorem od_lt : OpR X (compareOp .Lt) (rD D.lt) := od_cmp0 op_lt fun x y d h => by
  cases x <;> cases y <;> simp only [D.lt] at h <;> first | (cases h; exact ⟨_, _, rfl, rfl, rfl⟩) | cases h
theorem od_le : OpR X (compareOp .LtE) (rD D.le) := od_cmp0 op_le fun x y d h => by
  cases x <;> cases y <;> simp only [D.le] at h <;> first | (cases h; exact ⟨_, _, rfl, rfl, rfl⟩) | cases h
theorem od_gt : OpR X (compareOp .Gt) (rD D.gt) := od_cmp0 op_gt fun x y d h => by
  cases x <;> cases y <;> simp only [D.gt] at h <;> first | (cases h; exact ⟨_, _, rfl, rfl, rfl⟩) | cases h
theorem od_ge : OpR X (compareOp .GtE) (rD D.ge) := od_cmp0 op_ge fun x y d h => by
  cases x <;> cases y <;> simp only [D.ge] at h <;> first | (cases h; exact ⟨_, _, rfl, rfl, rfl⟩) | cases h
theorem rep_flat {G : Rg} {Z : List Addr} : ∀ (k : Nat) {H : Hp} {vs : List V} {ds : List D}, RepAll G Z H vs ds → RepAll G Z H (List.replicate k vs).flatten (List.replicate k ds).flatten
  | 0, _, _, _, _ => .nil
  | k + 1, _, _, _, h => by
    rw [List.replicate_succ, List.replicate_succ, List.flatten_cons, List.flatten_cons]
    exact h.append (rep_flat k h)
theorem od_mul : OpR X (binaryOp .Mult) (rD D.mul) := by
  refine opr_imp (op_mul.or op_rep) fun x y H Q ⟨G, Z, dx, dy, d, hz, rx, ry, hf, q⟩ => ?_
  cases dx <;> cases dy <;> simp only [D.mul] at hf <;> try contradiction
  case int.int i j =>
    obtain ⟨hl, hf⟩ := guardO_some hf
    cases hf
    obtain rfl := rep_int rx
    obtain rfl := rep_int ry
    refine .inl ⟨i, j, rfl, rfl, ?_, q _ H (Same.refl H) (.int _)⟩
    rcases Bool.or_eq_true_iff.mp hl with h | h
    · exact .inl (of_decide_eq_true h)
    · exact .inr (of_decide_eq_true h)
  case lst.int xs k =>
    obtain ⟨hl, hf⟩ := guardO_some hf
    cases hf
    obtain ⟨a, vs, rfl, na, ha, hr⟩ := rep_lst rx
    obtain rfl := rep_int ry
    obtain ⟨h1, h2, h3⟩ := of_decide_eq_true hl
    refine .inr ⟨a, k, vs, rfl, rfl, ha, by omega, by omega, ?_, fun p hp => ?_⟩
    · rw [hr.length]; exact lim_le h2
    · obtain ⟨h1, h2⟩ := newL hz hp (rep_flat k.toNat hr)
      exact q _ _ h1 h2
theorem od_eq (hu : X.A.units + 64 < cLine) : OpR X (compareOp .Eq) (rD D.eq) := opr_imp (op_eqD hu) fun x y H Q ⟨G, Z, dx, dy, d, hz, rx, ry, hf, q⟩ => by
  obtain ⟨hl, hf⟩ := guardO_some hf
  cases hf
  obtain ⟨f1, f2⟩ := Bool.and_eq_true_iff.mp hl
  refine ⟨_, _, rx.dp 8 _ _ f1, ry.dp 8 _ _ f2, D.shaped f1, D.shaped f2, ?_⟩
  rw [D.eqv_py _ _ 8 8 f1 f2]
  exact q _ H (Same.refl H) (.bl _)
theorem od_ne (hu : X.A.units + 64 < cLine) : OpR X (compareOp .NotEq) (rD D.ne) := opr_imp (op_neD hu) fun x y H Q ⟨G, Z, dx, dy, d, hz, rx, ry, hf, q⟩ => by
  obtain ⟨hl, hf⟩ := guardO_some hf
  cases hf
  obtain ⟨f1, f2⟩ := Bool.and_eq_true_iff.mp hl
  refine ⟨_, _, rx.dp 8 _ _ f1, ry.dp 8 _ _ f2, D.shaped f1, D.shaped f2, ?_⟩
  rw [D.eqv_py _ _ 8 8 f1 f2]
  exact q _ H (Same.refl H) (.bl _)
theorem isnon_of {G : Rg} {Z : List Addr} {H : Hp} {v : V} {d : D} {b : Bool} (h : D.isNon d = some b) (r : Rep G Z H v d) : decide (v = .non) = b := by
  cases r <;> simp [D.isNon] at h <;> subst h <;> simp
theorem od_is : OpR X (compareOp .Is) (rD D.is) := opr_imp (op_isN.or op_isBl) fun x y H Q ⟨G, Z, dx, dy, d, hz, rx, ry, hf, q⟩ => by
  cases dy with
  | non =>
    have hf : (D.isNon dx).map D.bl = some d := by cases dx <;> exact hf
    cases e : D.isNon dx with
    | none => rw [e] at hf; cases hf
    | some b =>
      rw [e] at hf; cases hf
      cases ry
      refine .inl ⟨rfl, ?_⟩
      rw [isnon_of e rx]
      exact q _ H (Same.refl H) (.bl _)
  | bl b =>
    cases dx with
    | bl a => cases hf; cases rx; cases ry; exact .inr ⟨a, b, rfl, rfl, q _ H (Same.refl H) (.bl _)⟩
    | _ => cases hf
  | _ => cases dx <;> cases hf
theorem od_isnt : OpR X (compareOp .IsNot) (rD D.isnt) := opr_imp (op_notN.or op_notBl) fun x y H Q ⟨G, Z, dx, dy, d, hz, rx, ry, hf, q⟩ => by
  cases dy with
  | non =>
    have hf : (D.isNon dx).map (fun b => D.bl !b) = some d := by cases dx <;> exact hf
    cases e : D.isNon dx with
    | none => rw [e] at hf; cases hf
    | some b =>
      rw [e] at hf; cases hf
      cases ry
      refine .inl ⟨rfl, ?_⟩
      rw [isnon_of e rx]
      exact q _ H (Same.refl H) (.bl _)
  | bl b =>
    cases dx with
    | bl a => cases hf; cases rx; cases ry; exact .inr ⟨a, b, rfl, rfl, q _ H (Same.refl H) (.bl _)⟩
    | _ => cases hf
  | _ => cases dx <;> cases hf
theorem any_py (d : D) (n : Nat) (fd : D.fit n d = true) : ∀ (xs : List D) (m : Nat), D.fitAll m xs = true → ((D.pyAll xs).any fun z => PyData.eqv z (D.py d)) = xs.any fun z => D.eqv z d
  | [], _, _ => rfl
  | x :: xs, m, h => by
    simp only [D.fitAll, Bool.and_eq_true] at h
    simp only [D.pyAll, List.any_cons]
    rw [D.eqv_py x d m n h.1 fd, any_py d n fd xs m h.2]
theorem od_in (hu : X.A.units + 65 < cLine) : OpR X (compareOp .In) (rD D.inn) := opr_imp ((op_inD hu).or op_in_str) fun x y H Q ⟨G, Z, dx, dy, d, hz, rx, ry, hf, q⟩ => by
  cases dy with
  | lst xs =>
    have hf : guardO (D.fit 8 dx && D.fit 8 (.lst xs)) (some (D.bl (xs.any fun z => D.eqv z dx))) = some d := hf
    obtain ⟨hl, hf⟩ := guardO_some hf
    cases hf
    obtain ⟨f1, f2⟩ := Bool.and_eq_true_iff.mp hl
    have s2 := D.shaped f2
    have d2 := ry.dp (K := X.K) 8 _ _ f2
    simp only [D.py] at s2 d2
    refine .inl ⟨_, _, rx.dp 8 _ _ f1, d2, D.shaped f1, s2, ?_⟩
    rw [any_py dx 8 f1 xs 7 (by simpa [D.fit] using f2)]
    exact q _ H (Same.refl H) (.bl _)
  | str y =>
    cases dx with
    | str x => cases hf; obtain rfl := rep_str rx; obtain rfl := rep_str ry; exact .inr ⟨x, y, rfl, rfl, q _ H (Same.refl H) (.bl _)⟩
    | _ => cases hf
  | _ => cases dx <;> cases hf
theorem od_nin (hu : X.A.units + 65 < cLine) : OpR X (compareOp .NotIn) (rD D.nin) := opr_imp ((op_notInD hu).or op_notin_str) fun x y H Q ⟨G, Z, dx, dy, d, hz, rx, ry, hf, q⟩ => by
  cases dy with
  | lst xs =>
    have hf : guardO (D.fit 8 dx && D.fit 8 (.lst xs)) (some (D.bl (!xs.any fun z => D.eqv z dx))) = some d := hf
    obtain ⟨hl, hf⟩ := guardO_some hf
    cases hf
    obtain ⟨f1, f2⟩ := Bool.and_eq_true_iff.mp hl
    have s2 := D.shaped f2
    have d2 := ry.dp (K := X.K) 8 _ _ f2
    simp only [D.py] at s2 d2
    refine .inl ⟨_, _, rx.dp 8 _ _ f1, d2, D.shaped f1, s2, ?_⟩
    rw [any_py dx 8 f1 xs 7 (by simpa [D.fit] using f2)]
    exact q _ H (Same.refl H) (.bl _)
  | str y =>
    cases dx with
    | str x => cases hf; obtain rfl := rep_str rx; obtain rfl := rep_str ry; exact .inr ⟨x, y, rfl, rfl, q _ H (Same.refl H) (.bl _)⟩
    | _ => cases hf
  | _ => cases dx <;> cases hf
theorem atI_rep {G : Rg} {Z : List Addr} {H : Hp} {vs : List V} {ds : List D} {i : Int} {d : D} (r : RepAll G Z H vs ds) (h : atI ds i = some d) : ∃ v, atI vs i = some v ∧ Rep G Z H v d := by
  unfold atI at h ⊢
  rw [r.length]
  cases e : ixN ds.length i with
  | none => rw [e] at h; cases h
  | some j =>
    rw [e] at h
    exact r.get h
theorem xd_idx : IxR X (rD D.idx) := by
  refine fun va sl pins s σ H x y v u Q I rx ry h hs => (ix_list.or ix_tup) va sl pins s σ H x y v u Q I rx ry ?_ hs
  obtain ⟨G, Z, dx, dy, d, hz, r1, r2, hf, q⟩ := h
  cases dx with
  | lst xs =>
    cases dy with
    | int i =>
      obtain ⟨a, vs, rfl, na, ha, hr⟩ := rep_lst r1
      obtain ⟨v', e1, e2⟩ := atI_rep hr hf
      exact .inl ⟨a, vs, i, v', rfl, rep_int r2, SqL.of ha, e1, q _ H (Same.refl H) e2⟩
    | _ => cases hf
  | tup xs =>
    cases dy with
    | int i =>
      obtain ⟨a, vs, rfl, na, ha, hr⟩ := rep_tup r1
      obtain ⟨v', e1, e2⟩ := atI_rep hr hf
      exact .inr ⟨a, vs, i, v', rfl, rep_int r2, SqT.of ha, e1, q _ H (Same.refl H) e2⟩
    | _ => cases hf
  | _ => cases dy <;> cases hf
theorem rep_cut {G : Rg} {Z : List Addr} {H : Hp} {vs : List V} {ds : List D} (r : RepAll G Z H vs ds) (lo hi : Option Int) : RepAll G Z H (cutV vs lo hi) (cutD ds lo hi) := by
  unfold cutV cutD
  rw [r.length]
  exact (r.drop _).take _
theorem sd_cut : SlR X (rDs D.cut) := by
  refine fun pins s σ H x v vl vu lo hi sl Q I rx hs h1 h2 h => (sl_list.or sl_tupA) pins s σ H x v vl vu lo hi sl Q I rx hs h1 h2 ?_
  obtain ⟨G, Z, dx, d, hz, r1, hf, q⟩ := h
  cases dx with
  | lst xs =>
    cases hf
    obtain ⟨a, vs, rfl, na, ha, hr⟩ := rep_lst r1
    refine .inl ⟨a, vs, rfl, SqL.of ha, fun p hp => ?_⟩
    obtain ⟨h1, h2⟩ := newL hz hp (rep_cut hr lo hi)
    exact q _ _ h1 h2
  | tup xs =>
    cases hf
    obtain ⟨a, vs, rfl, na, ha, hr⟩ := rep_tup r1
    refine .inr ⟨a, vs, rfl, SqT.of ha, fun ⟨e1, e2⟩ => ?_, fun _ p hp => ?_⟩
    · refine q _ H (Same.refl H) (.tup na ha ?_)
      have hc : cutD xs lo hi = xs := by
        unfold cutD
        rw [← hr.length, e1, e2, List.drop_zero, Nat.sub_zero, hr.length, List.take_length]
      rw [hc]; exact hr
    · obtain ⟨h1, h2⟩ := newT hz hp (rep_cut hr lo hi)
      exact q _ _ h1 h2
  | _ => cases hf
theorem ud_neg : UnR X (unaryOp .USub) (rDu D.neg) := fun pins s σ H x v Q I rx ⟨G, Z, dx, d, hz, r1, hf, q⟩ => by
  cases dx with
  | int i => cases hf; exact un_neg pins s σ H x v Q I rx ⟨i, rep_int r1, q _ H (Same.refl H) (.int _)⟩
  | _ => cases hf
end
end DL

namespace DL
open PySem PySem.Spec PyProof.Rows L2
/-! ### the frame: its slots as data; the lists that it owns -/
abbrev Env := List (Option D)
structure Own where
  i : Nat
  a : Addr
  fr : Bool
def adr (O : List Own) : List Addr := O.map Own.a
def ixs (O : List Own) : List Nat := O.map Own.i
def wof (G : Rg) (B : List (Nat × Addr)) : List Addr := G.Y ++ B.map (·.2)
structure Fr (κ : Addr) (G : Rg) (H0 : Hp) (B : List (Nat × Addr)) (Z0 : List Addr) (O : List Own) (os : List (Nat × Bool)) (ρ : Env) (s : DSt) (σ : L2.St) (H : Hp) : Prop where
  sh : O.map (fun o => (o.i, o.fr)) = os
  ext : Ext G (wof G B) H0 H
  st : G.A s H
  cc : G.C = κ
  yz : ∀ a ∈ G.Y, a ∈ Z0
  pz : ∀ a ∈ G.P, a ∉ Z0
  wy : ∀ p ∈ B, (⟨p.1, p.2, false⟩ : Own) ∈ O
  w0 : ∀ p ∈ B, H0 p.2 ≠ none
  z0 : ∀ a ∈ Z0, H0 a ≠ none
  oz : ∀ o ∈ O, o.a ∉ Z0
  op : ∀ o ∈ O, o.a ∉ G.P
  onr : ∀ o ∈ O, ¬ G.R H o.a
  ofr : ∀ o ∈ O, o.fr = true → H0 o.a = none
  onf : ∀ o ∈ O, o.fr = false → (o.i, o.a) ∈ B
  oa : (adr O).Nodup
  oi : (ixs O).Nodup
  len : σ.length = ρ.length
  var : ∀ i d, ρ[i]? = some (some d) → i ∉ ixs O → ∃ v, σ[i]? = some (some v) ∧ Rep G (adr O ++ Z0) H v d
  own : ∀ o ∈ O, ∃ ds vs, ρ[o.i]? = some (some (.lst ds)) ∧ σ[o.i]? = some (some (.ref o.a)) ∧ H o.a = some (.lst vs) ∧ RepAll G (adr O ++ Z0) H vs ds
section
variable {κ : Addr} {G : Rg} {H0 : Hp} {B : List (Nat × Addr)} {Z0 : List Addr} {O : List Own} {os : List (Nat × Bool)} {ρ : Env} {s s' : DSt} {σ : L2.St} {H H' : Hp}
theorem Fr.domO (F : Fr κ G H0 B Z0 O os ρ s σ H) : ∀ a ∈ adr O, H a ≠ none := fun a ha => by
  obtain ⟨o, ho, rfl⟩ := List.mem_map.mp ha
  obtain ⟨_, _, _, _, e, _⟩ := F.own o ho
  rw [e]; exact Option.some_ne_none _
theorem Fr.domZ0 (F : Fr κ G H0 B Z0 O os ρ s σ H) : ∀ a ∈ Z0, H a ≠ none := fun a ha => F.ext.n a (F.z0 a ha)
theorem Fr.domZ (F : Fr κ G H0 B Z0 O os ρ s σ H) : dom G (adr O ++ Z0) H := fun a ha => by
  rcases ha with h | h
  · rcases List.mem_append.mp h with h | h
    · exact F.domO a h
    · exact F.domZ0 a h
  · exact G.inY s H F.st a (.inr (.inr h))
theorem Fr.yn (F : Fr κ G H0 B Z0 O os ρ s σ H) : ∀ a ∈ G.Y, a ∉ adr O := fun a ha h => by
  obtain ⟨o, ho, rfl⟩ := List.mem_map.mp h
  exact F.oz o ho (F.yz _ ha)
theorem Fr.pn (F : Fr κ G H0 B Z0 O os ρ s σ H) : ∀ a ∈ G.P, a ∉ adr O ++ Z0 := fun a ha h => by
  rcases List.mem_append.mp h with h | h
  · obtain ⟨o, ho, rfl⟩ := List.mem_map.mp h
    exact F.op o ho ha
  · exact F.pz a ha h
theorem Fr.sub (F : Fr κ G H0 B Z0 O os ρ s σ H) : ∀ a ∈ G.Y, a ∈ adr O ++ Z0 := fun a ha => List.mem_append_right _ (F.yz a ha)
theorem Fr.oav (F : Fr κ G H0 B Z0 O os ρ s σ H) {o : Own} (ho : o ∈ O) : Av G G.Y H o.a := ⟨fun z => F.yn _ z (List.mem_map.mpr ⟨o, ho, rfl⟩), F.onr o ho⟩
theorem Rep.ext {Z : List Addr} {v : V} {d : D} (r : Rep G Z H v d) (hy : ∀ a ∈ G.Y, a ∈ Z) (e : Ext G G.Y H H') : Rep G Z H' v d :=
  r.mono (e.sub hy) fun _ h => h
theorem RepAll.ext {Z : List Addr} {v : List V} {d : List D} (r : RepAll G Z H v d) (hy : ∀ a ∈ G.Y, a ∈ Z) (e : Ext G G.Y H H') : RepAll G Z H' v d :=
  r.mono (e.sub hy) fun _ h => h
theorem Rep.low {Z Z' : List Addr} {v : V} {d : D} (r : Rep G Z H v d) (h : ∀ a ∈ Z', a ∈ Z) : Rep G Z' H v d := r.mono (Ext.refl _ _) h
theorem RepAll.low {Z Z' : List Addr} {v : List V} {d : List D} (r : RepAll G Z H v d) (h : ∀ a ∈ Z', a ∈ Z) : RepAll G Z' H v d := r.mono (Ext.refl _ _) h
theorem ncons {Z : List Addr} {a p : Addr} {o : HO} (na : Av G Z H a) (ha : H a = some o) (hp : H p = none) : Av G (p :: Z) H a := ⟨fun z => by
  rcases List.mem_cons.mp z with e | z
  · rw [e, hp] at ha; cases ha
  · exact na.1 z, na.2⟩
mutual
theorem Rep.more {Z : List Addr} {p : Addr} (hp : H p = none) : ∀ {v : V} {d : D}, Rep G Z H v d → Rep G (p :: Z) H v d
  | _, .non, h => by cases h; exact .non
  | _, .bl b, h => by cases h; exact .bl b
  | _, .int i, h => by cases h; exact .int i
  | _, .str x, h => by cases h; exact .str x
  | _, .lst ds, h => by
    cases h with
    | lst na ha hr => exact .lst (ncons na ha hp) ha (RepAll.more hp hr)
  | _, .tup ds, h => by
    cases h with
    | tup na ha hr => exact .tup (ncons na ha hp) ha (RepAll.more hp hr)
  | _, .hd n, h => by
    cases h with
    | hd e => exact .hd e
  | _, .ty n, h => by cases h; exact .ty n
  | _, .dk ks, h => by
    cases h with
    | dk na ha => exact .dk (ncons na ha hp) ha
theorem RepAll.more {Z : List Addr} {p : Addr} (hp : H p = none) : ∀ {vs : List V} {ds : List D}, RepAll G Z H vs ds → RepAll G (p :: Z) H vs ds
  | _, [], h => by cases h; exact .nil
  | _, d :: ds, h => by
    cases h with
    | cons h1 h2 => exact .cons (Rep.more hp h1) (RepAll.more hp h2)
end
/-- an expression has run -/
theorem Fr.step (F : Fr κ G H0 B Z0 O os ρ s σ H) (e : Ext G G.Y H H') (a : G.A s' H') : Fr κ G H0 B Z0 O os ρ s' σ H' where
  sh := F.sh
  ext := F.ext.trans (e.sub fun x h => List.mem_append_left _ h)
  st := a
  cc := F.cc
  yz := F.yz
  pz := F.pz
  wy := F.wy
  w0 := F.w0
  z0 := F.z0
  oz := F.oz
  op := F.op
  onr := fun o ho r => by
    obtain ⟨ds, vs, e1, e2, e3, _⟩ := F.own o ho
    exact (e.av (fun _ z => z) (F.oav ho) e3).2 r
  ofr := F.ofr
  onf := F.onf
  oa := F.oa
  oi := F.oi
  len := F.len
  var := fun i d h n => by
    obtain ⟨v, e1, r⟩ := F.var i d h n
    exact ⟨v, e1, r.ext F.sub e⟩
  own := fun o ho => by
    obtain ⟨ds, vs, e1, e2, e3, r⟩ := F.own o ho
    exact ⟨ds, vs, e1, e2, e.k _ _ (F.oav ho) e3, r.ext F.sub e⟩
/-- a name that is not owned is bound -/
theorem Fr.set {i : Nat} {v : V} {d : D} (F : Fr κ G H0 B Z0 O os ρ s σ H) (hi : i < ρ.length) (hn : i ∉ ixs O) (r : Rep G (adr O ++ Z0) H v d) : Fr κ G H0 B Z0 O os (ρ.set i (some d)) s (σ.set i (some v)) H :=
  { F with
    len := by rw [List.length_set, List.length_set]; exact F.len
    var := fun j d' h n => by
      by_cases e : j = i
      · subst e
        rw [List.getElem?_set_self hi] at h
        cases h
        exact ⟨v, List.getElem?_set_self (by rw [F.len]; exact hi), r⟩
      · rw [List.getElem?_set_ne (Ne.symm e)] at h ⊢
        exact F.var j d' h n
    own := fun o ho => by
      have ne : i ≠ o.i := fun e => hn (e ▸ List.mem_map.mpr ⟨o, ho, rfl⟩)
      obtain ⟨ds, vs, e1, e2, e3⟩ := F.own o ho
      exact ⟨ds, vs, by rw [List.getElem?_set_ne ne]; exact e1, by rw [List.getElem?_set_ne ne]; exact e2, e3⟩ }
theorem ixs_of {O : List Own} {os : List (Nat × Bool)} (h : O.map (fun o => (o.i, o.fr)) = os) : ixs O = os.map (·.1) := by
  subst h; unfold ixs; rw [List.map_map]; rfl
theorem Fr.ixe (F : Fr κ G H0 B Z0 O os ρ s σ H) : ixs O = os.map (·.1) := ixs_of F.sh
end

/-! ### expressions -/
/-- raw: may be an owned list itself; else it is apart from the owned ones -/
def bz (b : Bool) (O : List Own) (Z0 : List Addr) : List Addr := if b then adr O ++ Z0 else Z0
theorem bz_sub {b : Bool} {O : List Own} {Z0 : List Addr} : ∀ a ∈ Z0, a ∈ bz b O Z0 := fun a h => by
  cases b with
  | true => exact List.mem_append_right _ h
  | false => exact h
theorem bz_sub' {b : Bool} {O : List Own} {Z0 : List Addr} : ∀ a ∈ bz b O Z0, a ∈ adr O ++ Z0 := fun a h => by
  cases b with
  | true => exact h
  | false => exact List.mem_append_right _ h
section
variable (cl : Cl) (E : XK) (os : List (Nat × Bool))
def Ev (te : TE) (b : Bool) (g : Env → DM D) : Prop :=
  ∀ {G H0 B Z0 O ρ s σ H} (Q : VK), Fr cl.reg G H0 B Z0 O os ρ s σ H →
    Wp (g ρ s) (fun d s' => ∀ v H', Ext G G.Y H H' → G.A s' H' → Rep G (bz b O Z0) H' v d → Q v H') (fun e s' => ∀ H', Ext G G.Y H H' → G.A s' H' → E (.ref (cl e)) none H') → te σ H Q
def EvT (tt : TT) (g : Env → DM Bool) : Prop :=
  ∀ {G H0 B Z0 O ρ s σ H} (Q : Bool → Hp → Prop), Fr cl.reg G H0 B Z0 O os ρ s σ H →
    Wp (g ρ s) (fun d s' => ∀ H', Ext G G.Y H H' → G.A s' H' → Q d H') (fun e s' => ∀ H', Ext G G.Y H H' → G.A s' H' → E (.ref (cl e)) none H') → tt σ H Q
def EvA (ta : TA) (b : Bool) (g : Env → DM (List D)) : Prop :=
  ∀ {G H0 B Z0 O ρ s σ H} (Q : List V → Hp → Prop), Fr cl.reg G H0 B Z0 O os ρ s σ H →
    Wp (g ρ s) (fun d s' => ∀ v H', Ext G G.Y H H' → G.A s' H' → RepAll G (bz b O Z0) H' v d → Q v H') (fun e s' => ∀ H', Ext G G.Y H H' → G.A s' H' → E (.ref (cl e)) none H') → ta σ H Q
def EvO (to : TO) (g : Env → DM (Option Int)) : Prop :=
  ∀ {G H0 B Z0 O ρ s σ H} (Q : Option Int → Hp → Prop), Fr cl.reg G H0 B Z0 O os ρ s σ H →
    Wp (g ρ s) (fun d s' => ∀ H', Ext G G.Y H H' → G.A s' H' → Q d H') (fun e s' => ∀ H', Ext G G.Y H H' → G.A s' H' → E (.ref (cl e)) none H') → to σ H Q
/-- a new list -/
def EvN (te : TE) (g : Env → DM (List D)) : Prop :=
  ∀ {G H0 B Z0 O ρ s σ H} (Q : VK), Fr cl.reg G H0 B Z0 O os ρ s σ H →
    Wp (g ρ s) (fun ds s' => ∀ p vs H', Ext G G.Y H H' → H p = none → ¬ G.R H' p → H' p = some (.lst vs) → G.A s' H' → RepAll G (p :: (adr O ++ Z0)) H' vs ds → Q (.ref p) H') (fun e s' => ∀ H', Ext G G.Y H H' → G.A s' H' → E (.ref (cl e)) none H') → te σ H Q
end
def getE (i : Nat) (ρ : Env) : DM D := liftO (ρ[i]?.bind id)
theorem wp_liftO {α : Type} {o : Option α} {s : DSt} {Q : α → DSt → Prop} {E : Er → DSt → Prop} (h : Wp (liftO o s) Q E) : ∃ a, o = some a ∧ Q a s := by
  cases o with
  | none => exact h.elim
  | some a => exact ⟨a, rfl, h⟩
theorem wp_pure {α : Type} {a : α} {s : DSt} {Q : α → DSt → Prop} {E : Er → DSt → Prop} (h : Wp ((pure a : DM α) s) Q E) : Q a s := h
section
variable {cl : Cl} {E : XK} {os : List (Nat × Bool)} {ta tb te tc : TE} {b : Bool} {ga gb gc : Env → DM D}
theorem Ev.low (h : Ev cl E os ta true ga) : Ev cl E os ta b ga := fun Q F w => by
  refine h Q F (w.mono (fun d s' k v H' e a r => k v H' e a (r.low ?_)) fun _ _ k => k)
  exact fun a ha => bz_sub' a ha
theorem ev_var {i : Nat} (hn : (os.map (·.1)).contains i = false) : Ev cl E os (tVar i) b (getE i) := fun {G H0 B Z0 O ρ s σ H} Q F w => by
  obtain ⟨d, e, k⟩ := wp_liftO w
  have hd : ρ[i]? = some (some d) := by
    cases q : ρ[i]? with
    | none => rw [q] at e; cases e
    | some x => rw [q] at e; exact congrArg some e
  have hni : i ∉ ixs O := by
    rw [F.ixe]
    intro z
    rw [List.contains_iff_mem.mpr z] at hn; cases hn
  obtain ⟨v, e1, r⟩ := F.var i d hd hni
  exact ⟨v, e1, k v H (Ext.refl _ _) F.st (r.low fun a ha => bz_sub' a ha)⟩
theorem ev_ownv {i : Nat} (hn : (os.map (·.1)).contains i = true) : Ev cl E os (tVar i) false (getE i) := fun {G H0 B Z0 O ρ s σ H} Q F w => by
  obtain ⟨d, e, k⟩ := wp_liftO w
  have hni : i ∈ ixs O := by
    rw [F.ixe]
    exact List.contains_iff_mem.mp hn
  obtain ⟨o, ho, rfl⟩ := List.mem_map.mp hni
  obtain ⟨ds, vs, e1, e2, e3, r⟩ := F.own o ho
  rw [e1] at e
  cases e
  exact ⟨_, e2, k _ H (Ext.refl _ _) F.st (.lst ⟨F.oz o ho, F.onr o ho⟩ e3 (r.low fun a ha => List.mem_append_right _ ha))⟩
/-- of an item of an owned list -/
theorem ev_c {v : V} {d : D} (h : ∀ G Z H, Rep G Z H v d) : Ev cl E os (tC v) b (fun _ => pure d) := fun Q F w => w v _ (Ext.refl _ _) F.st (h _ _ _)
theorem ev_int {i : Int} : Ev cl E os (tC (.int i)) b (fun _ => pure (.int i)) := ev_c fun _ _ _ => .int i
theorem ev_bl {i : Bool} : Ev cl E os (tC (.bl i)) b (fun _ => pure (.bl i)) := ev_c fun _ _ _ => .bl i
theorem ev_str {i : Str} : Ev cl E os (tC (.str i)) b (fun _ => pure (.str i)) := ev_c fun _ _ _ => .str i
theorem ev_non : Ev cl E os (tC .non) b (fun _ => pure .non) := ev_c fun _ _ _ => .non
theorem ev_ty {n : String} : Ev cl E os (tC (.ty n)) b (fun _ => pure (.ty n)) := ev_c fun _ _ _ => .ty n
theorem Fr.domb {κ : Addr} {G : Rg} {H0 : Hp} {B : List (Nat × Addr)} {Z0 : List Addr} {O : List Own} {ρ : Env} {s : DSt} {σ : L2.St} {H : Hp} (F : Fr κ G H0 B Z0 O os ρ s σ H) : dom G (bz b O Z0) H := fun a ha => F.domZ a (ha.imp (bz_sub' a) id)
theorem Fr.ysb {κ : Addr} {G : Rg} {H0 : Hp} {B : List (Nat × Addr)} {Z0 : List Addr} {O : List Own} {ρ : Env} {s : DSt} {σ : L2.St} {H : Hp} (F : Fr κ G H0 B Z0 O os ρ s σ H) : ∀ a ∈ G.Y, a ∈ bz b O Z0 := fun a ha => bz_sub a (F.yz a ha)
theorem Fr.psb {κ : Addr} {G : Rg} {H0 : Hp} {B : List (Nat × Addr)} {Z0 : List Addr} {O : List Own} {ρ : Env} {s : DSt} {σ : L2.St} {H : Hp} (F : Fr κ G H0 B Z0 O os ρ s σ H) : ∀ a ∈ G.P, a ∉ bz b O Z0 := fun a ha z => F.pn a ha (bz_sub' a z)
theorem Fr.same {κ : Addr} {G : Rg} {H0 : Hp} {B : List (Nat × Addr)} {Z0 : List Addr} {O : List Own} {ρ : Env} {s : DSt} {σ : L2.St} {H H' : Hp} (F : Fr κ G H0 B Z0 O os ρ s σ H) (e : Same H H') : G.A s H' := by
  refine G.dep s H H' (fun a ha => ?_) F.st
  cases q : H a with
  | none => exact absurd q (G.inY s H F.st a ha)
  | some o => exact e a o q
theorem ev_op {f : D → D → Option D} (ha : Ev cl E os ta b ga) (hb : Ev cl E os tb b gb) : Ev cl E os (tOp (rD f) ta tb) b (fun ρ => ga ρ >>= fun x => gb ρ >>= fun y => liftO (f x y)) := fun Q F w => by
  refine ha _ F (w.bind.mono (fun dx s1 k x H1 e1 a1 r1 => ?_) fun _ _ k => k)
  have F1 := F.step e1 a1
  refine hb _ F1 (k.bind.mono (fun dy s2 k2 y H2 e2 a2 r2 => ?_) fun _ _ k2 H' e2 => k2 H' (e1.trans e2))
  have F2 := F1.step e2 a2
  obtain ⟨d, ed, k3⟩ := wp_liftO k2
  refine ⟨_, _, dx, dy, d, F2.domb, r1.ext F.ysb e2, r2, ed, fun v H' e3 r3 => k3 v H' ?_ (F2.same e3) r3⟩
  exact (e1.trans e2).trans (Same.ext e3)
theorem ev_un {f : D → Option D} (ha : Ev cl E os ta b ga) : Ev cl E os (tUn (rDu f) ta) b (fun ρ => ga ρ >>= fun x => liftO (f x)) := fun Q F w => by
  refine ha _ F (w.bind.mono (fun dx s1 k x H1 e1 a1 r1 => ?_) fun _ _ k => k)
  have F1 := F.step e1 a1
  obtain ⟨d, ed, k3⟩ := wp_liftO k
  exact ⟨_, _, dx, d, F1.domb, r1, ed, fun v H' e3 r3 => k3 v H' (e1.trans (Same.ext e3)) (F1.same e3) r3⟩
/-- a < b < c -/
def toB : D → DM Bool
  | .bl b => pure b
  | _ => stuck
theorem wp_toB {d : D} {s : DSt} {Q : Bool → DSt → Prop} {E : Er → DSt → Prop} (h : Wp (toB d s) Q E) : ∃ k, d = .bl k ∧ Q k s := by
  cases d with
  | bl k => exact ⟨k, rfl, h⟩
  | _ => exact h.elim
theorem ev_chain {f f' : D → D → Option D} (ha : Ev cl E os ta b ga) (hb : Ev cl E os tb b gb) (hc : Ev cl E os tc b gc) :
    Ev cl E os (tChain (rD f) (rD f') ta tb tc) b (fun ρ => ga ρ >>= fun x => gb ρ >>= fun y => liftO (f x y) >>= fun z => toB z >>= fun k => if k = true then gc ρ >>= fun w => liftO (f' y w) else pure (.bl false)) := fun Q F w => by
  refine ha _ F (w.bind.mono (fun dx s1 k x H1 e1 a1 r1 => ?_) fun _ _ k => k)
  have F1 := F.step e1 a1
  refine hb _ F1 (k.bind.mono (fun dy s2 k2 y H2 e2 a2 r2 => ?_) fun _ _ k2 H' e2 => k2 H' (e1.trans e2))
  have F2 := F1.step e2 a2
  obtain ⟨d, ed, k3⟩ := wp_liftO k2.bind
  obtain ⟨kk, rfl, k4⟩ := wp_toB k3.bind
  refine ⟨_, _, dx, dy, _, F2.domb, r1.ext F.ysb e2, r2, ed, fun v H3 e3 r3 => ?_⟩
  cases r3
  refine ⟨kk, rfl, ?_⟩
  have F3 := F2.step (Same.ext e3) (F2.same e3)
  cases kk with
  | false => exact k4 _ H3 ((e1.trans e2).trans (Same.ext e3)) F3.st (.bl false)
  | true =>
    rw [if_pos rfl] at k4 ⊢
    refine hc _ F3 (k4.bind.mono (fun dz s4 k5 z H4 e4 a4 r4 => ?_) fun _ _ k5 H' e4 => k5 H' (((e1.trans e2).trans (Same.ext e3)).trans e4))
    obtain ⟨d', ed', k6⟩ := wp_liftO k5
    have F4 := F3.step e4 a4
    exact ⟨_, _, dy, dz, d', F4.domb, (r2.ext F.ysb (Same.ext e3)).ext F.ysb e4, r4, ed', fun v H5 e5 r5 => k6 v H5 ((((e1.trans e2).trans (Same.ext e3)).trans e4).trans (Same.ext e5)) (F4.same e5) r5⟩
/-- scalars are apart from everything -/
def D.scal : D → Bool
  | .non | .bl _ | .int _ | .str _ | .ty _ | .hd _ => true
  | _ => false
def chkS (d : D) : DM D := if d.scal then pure d else stuck
theorem rep_scal {G : Rg} {Z Z' : List Addr} {H : Hp} {v : V} {d : D} (h : d.scal = true) (r : Rep G Z H v d) : Rep G Z' H v d := by
  cases r <;> first | (simp [D.scal] at h; done) | (constructor; done) | (constructor; assumption)
theorem ev_scal (ha : Ev cl E os ta false ga) : Ev cl E os ta b (fun ρ => ga ρ >>= chkS) := fun Q F w => by
  refine ha _ F (w.bind.mono (fun dx s1 k x H1 e1 a1 r1 => ?_) fun _ _ k => k)
  unfold chkS at k
  split at k
  · rename_i h
    exact k x H1 e1 a1 (rep_scal h r1)
  · exact k.elim
/-! tests -/
theorem et_test (ha : Ev cl E os ta false ga) : EvT cl E os (tTest ta) (fun ρ => ga ρ >>= toB) := fun Q F w => by
  refine ha _ F (w.bind.mono (fun dx s1 k x H1 e1 a1 r1 => ?_) fun _ _ k => k)
  obtain ⟨kk, rfl, k4⟩ := wp_toB k
  cases r1
  exact ⟨kk, rfl, k4 H1 e1 a1⟩
theorem et_B (ha : Ev cl E os ta false ga) : EvT cl E os (tB ta) (fun ρ => ga ρ >>= toB) := fun Q F w => by
  refine ha _ F (w.bind.mono (fun dx s1 k x H1 e1 a1 r1 => ?_) fun _ _ k => k)
  obtain ⟨kk, rfl, k4⟩ := wp_toB k
  cases r1
  exact ⟨kk, rfl, k4 H1 e1 a1⟩
variable {t u : TT} {gt gu : Env → DM Bool}
theorem et_not (h : EvT cl E os t gt) : EvT cl E os (tNot t) (fun ρ => gt ρ >>= fun k => pure (!k)) := fun Q F w =>
  h _ F (w.bind.mono (fun dx s1 k H1 e1 a1 => k H1 e1 a1) fun _ _ k => k)
theorem et_and (h : EvT cl E os t gt) (h2 : EvT cl E os u gu) : EvT cl E os (tAnd t u) (fun ρ => gt ρ >>= fun k => if k = true then gu ρ else pure false) := fun Q F w => by
  refine h _ F (w.bind.mono (fun kk s1 k H1 e1 a1 => ?_) fun _ _ k => k)
  cases kk with
  | false => exact k H1 e1 a1
  | true =>
    rw [if_pos rfl] at k ⊢
    exact h2 _ (F.step e1 a1) (k.mono (fun d s2 k2 H2 e2 a2 => k2 H2 (e1.trans e2) a2) fun _ _ k2 H' e2 => k2 H' (e1.trans e2))
theorem et_or (h : EvT cl E os t gt) (h2 : EvT cl E os u gu) : EvT cl E os (tOr t u) (fun ρ => gt ρ >>= fun k => if k = true then pure true else gu ρ) := fun Q F w => by
  refine h _ F (w.bind.mono (fun kk s1 k H1 e1 a1 => ?_) fun _ _ k => k)
  cases kk with
  | true => exact k H1 e1 a1
  | false =>
    rw [if_neg Bool.false_ne_true] at k ⊢
    exact h2 _ (F.step e1 a1) (k.mono (fun d s2 k2 H2 e2 a2 => k2 H2 (e1.trans e2) a2) fun _ _ k2 H' e2 => k2 H' (e1.trans e2))
theorem ev_andV (h : Ev cl E os ta false ga) (h2 : Ev cl E os tb b gb) : Ev cl E os (tAndV ta tb) b (fun ρ => ga ρ >>= fun d => toB d >>= fun k => if k = true then gb ρ else pure (.bl false)) := fun Q F w => by
  refine h _ F (w.bind.mono (fun d s1 k x H1 e1 a1 r1 => ?_) fun _ _ k => k)
  obtain ⟨kk, rfl, k9⟩ := wp_toB k.bind
  cases r1
  refine ⟨kk, rfl, ?_⟩
  cases kk with
  | false => exact k9 _ H1 e1 a1 (.bl false)
  | true =>
    rw [if_pos rfl] at k9 ⊢
    exact h2 _ (F.step e1 a1) (k9.mono (fun d s2 k2 v H2 e2 a2 => k2 v H2 (e1.trans e2) a2) fun _ _ k2 H' e2 => k2 H' (e1.trans e2))
theorem ev_orV (h : Ev cl E os ta false ga) (h2 : Ev cl E os tb b gb) : Ev cl E os (tOrV ta tb) b (fun ρ => ga ρ >>= fun d => toB d >>= fun k => if k = true then pure (.bl true) else gb ρ) := fun Q F w => by
  refine h _ F (w.bind.mono (fun d s1 k x H1 e1 a1 r1 => ?_) fun _ _ k => k)
  obtain ⟨kk, rfl, k9⟩ := wp_toB k.bind
  cases r1
  refine ⟨kk, rfl, ?_⟩
  cases kk with
  | true => exact k9 _ H1 e1 a1 (.bl true)
  | false =>
    rw [if_neg Bool.false_ne_true] at k9 ⊢
    exact h2 _ (F.step e1 a1) (k9.mono (fun d s2 k2 v H2 e2 a2 => k2 v H2 (e1.trans e2) a2) fun _ _ k2 H' e2 => k2 H' (e1.trans e2))
theorem ev_notV (h : Ev cl E os ta false ga) : Ev cl E os (tNotV ta) b (fun ρ => ga ρ >>= fun d => toB d >>= fun k => pure (.bl (!k))) := fun Q F w => by
  refine h _ F (w.bind.mono (fun d s1 k x H1 e1 a1 r1 => ?_) fun _ _ k => k)
  obtain ⟨kk, rfl, k9⟩ := wp_toB k.bind
  cases r1
  exact ⟨kk, rfl, k9 _ H1 e1 a1 (.bl _)⟩
theorem ev_if (h : EvT cl E os t gt) (h1 : Ev cl E os ta b ga) (h2 : Ev cl E os tb b gb) : Ev cl E os (tIf t ta tb) b (fun ρ => gt ρ >>= fun k => if k = true then ga ρ else gb ρ) := fun Q F w => by
  refine h _ F (w.bind.mono (fun kk s1 k H1 e1 a1 => ?_) fun _ _ k => k)
  cases kk with
  | true =>
    rw [if_pos rfl] at k ⊢
    exact h1 _ (F.step e1 a1) (k.mono (fun d s2 k2 v H2 e2 a2 => k2 v H2 (e1.trans e2) a2) fun _ _ k2 H' e2 => k2 H' (e1.trans e2))
  | false =>
    rw [if_neg Bool.false_ne_true] at k ⊢
    exact h2 _ (F.step e1 a1) (k.mono (fun d s2 k2 v H2 e2 a2 => k2 v H2 (e1.trans e2) a2) fun _ _ k2 H' e2 => k2 H' (e1.trans e2))
/-! argument lists, displays, calls -/
variable {tl : TA} {gl : Env → DM (List D)}
theorem ea_nil : EvA cl E os tNil b (fun _ => pure []) := fun Q F w => w [] _ (Ext.refl _ _) F.st .nil
theorem ea_cons (h : Ev cl E os ta b ga) (h2 : EvA cl E os tl b gl) : EvA cl E os (tCons ta tl) b (fun ρ => ga ρ >>= fun x => gl ρ >>= fun xs => pure (x :: xs)) := fun Q F w => by
  refine h _ F (w.bind.mono (fun d s1 k x H1 e1 a1 r1 => ?_) fun _ _ k => k)
  refine h2 _ (F.step e1 a1) (k.bind.mono (fun ds s2 k2 v H2 e2 a2 r2 => ?_) fun _ _ k2 H' e2 => k2 H' (e1.trans e2))
  exact k2 (x :: v) H2 (e1.trans e2) a2 (.cons (r1.ext F.ysb e2) r2)
def lenOk (ds : List D) : DM (List D) := if ds.length ≤ LIM then pure ds else stuck
theorem wp_lenOk {ds : List D} {s : DSt} {Q : List D → DSt → Prop} {E : Er → DSt → Prop} (h : Wp (lenOk ds s) Q E) : ds.length ≤ LIM ∧ Q ds s := by
  unfold lenOk at h
  split at h
  · rename_i hl; exact ⟨hl, h⟩
  · exact h.elim
theorem ev_tup (h : EvA cl E os tl b gl) : Ev cl E os (tTup tl) b (fun ρ => gl ρ >>= fun ds => lenOk ds >>= fun ds => pure (.tup ds)) := fun Q F w => by
  refine h _ F (w.bind.mono (fun ds s1 k vs H1 e1 a1 r1 => ?_) fun _ _ k => k)
  obtain ⟨hl, k⟩ := wp_lenOk k.bind
  have F1 := F.step e1 a1
  refine ⟨by rw [r1.length]; exact lim_le hl, fun p hp => ?_⟩
  obtain ⟨h1, h2⟩ := newT F1.domb hp r1
  exact k _ _ (e1.trans (Same.ext h1)) (F1.same h1) h2
theorem ev_lst (h : EvA cl E os tl b gl) : Ev cl E os (tLst tl) b (fun ρ => gl ρ >>= fun ds => lenOk ds >>= fun ds => pure (.lst ds)) := fun Q F w => by
  refine h _ F (w.bind.mono (fun ds s1 k vs H1 e1 a1 r1 => ?_) fun _ _ k => k)
  obtain ⟨hl, k⟩ := wp_lenOk k.bind
  have F1 := F.step e1 a1
  refine ⟨by rw [r1.length]; exact lim_le hl, fun p hp => ?_⟩
  obtain ⟨h1, h2⟩ := newL F1.domb hp r1
  exact k _ _ (e1.trans (Same.ext h1)) (F1.same h1) h2
theorem fresh_back {κ : Addr} {G : Rg} {H0 : Hp} {B : List (Nat × Addr)} {Z0 : List Addr} {O : List Own} {ρ : Env} {s : DSt} {σ : L2.St} {H H1 : Hp} (F : Fr κ G H0 B Z0 O os ρ s σ H) (s1 : DSt) (a1 : G.A s1 H1) (e : Ext G G.Y H H1) {p : Addr} (hp : H1 p = none) : H p = none := by
  cases q : H p with
  | none => rfl
  | some o => exact absurd hp (e.n p (by rw [q]; exact Option.some_ne_none _))
theorem en_lst (h : EvA cl E os tl true gl) : EvN cl E os (tLst tl) (fun ρ => gl ρ >>= fun ds => lenOk ds) := fun Q F w => by
  refine h _ F (w.bind.mono (fun ds s1 k vs H1 e1 a1 r1 => ?_) fun _ _ k => k)
  obtain ⟨hl, k⟩ := wp_lenOk k
  have F1 := F.step e1 a1
  refine ⟨by rw [r1.length]; exact lim_le hl, fun p hp => ?_⟩
  have h1 : Same H1 (upd H1 p (.lst vs)) := same_new hp
  exact k p vs _ (e1.trans (Same.ext h1)) (fresh_back F s1 a1 e1 hp) (F1.domZ.av hp).2 upd_same (F1.same h1) ((RepAll.more hp r1).same h1)
theorem ev_cb {f : List D → Option D} (h : EvA cl E os tl b gl) : Ev cl E os (tCB (rDc f) tl) b (fun ρ => gl ρ >>= fun ds => liftO (f ds)) := fun Q F w => by
  refine h _ F (w.bind.mono (fun ds s1 k vs H1 e1 a1 r1 => ?_) fun _ _ k => k)
  obtain ⟨d, ed, k⟩ := wp_liftO k
  have F1 := F.step e1 a1
  exact ⟨_, _, ds, d, F1.domb, r1, ed, fun v H2 e2 r2 => k v H2 (e1.trans (Same.ext e2)) (F1.same e2) r2⟩
/-! slices -/
variable {tlo thi : TO} {glo ghi : Env → DM (Option Int)}
def toI : D → DM Int
  | .int i => pure i
  | _ => stuck
theorem wp_toI {d : D} {s : DSt} {Q : Int → DSt → Prop} {E : Er → DSt → Prop} (h : Wp (toI d s) Q E) : ∃ k, d = .int k ∧ Q k s := by
  cases d with
  | int k => exact ⟨k, rfl, h⟩
  | _ => exact h.elim
theorem eo_none : EvO cl E os tNoPart (fun _ => pure none) := fun Q F w => w _ (Ext.refl _ _) F.st
theorem eo_some (h : Ev cl E os ta false ga) : EvO cl E os (tPart ta) (fun ρ => ga ρ >>= fun d => toI d >>= fun i => pure (some i)) := fun Q F w => by
  refine h _ F (w.bind.mono (fun d s1 k x H1 e1 a1 r1 => ?_) fun _ _ k => k)
  obtain ⟨i, rfl, k⟩ := wp_toI k.bind
  exact ⟨i, rep_int r1, k H1 e1 a1⟩
theorem ev_sl {f : D → Option Int → Option Int → Option D} (h : Ev cl E os ta b ga) (h1 : EvO cl E os tlo glo) (h2 : EvO cl E os thi ghi) :
    Ev cl E os (tSl (rDs f) ta tlo thi) b (fun ρ => ga ρ >>= fun x => glo ρ >>= fun lo => ghi ρ >>= fun hi => liftO (f x lo hi)) := fun Q F w => by
  refine h _ F (w.bind.mono (fun dx s1 k x H1 e1 a1 r1 => ?_) fun _ _ k => k)
  have F1 := F.step e1 a1
  refine h1 _ F1 (k.bind.mono (fun lo s2 k2 H2 e2 a2 => ?_) fun _ _ k2 H' e2 => k2 H' (e1.trans e2))
  have F2 := F1.step e2 a2
  refine h2 _ F2 (k2.bind.mono (fun hi s3 k3 H3 e3 a3 => ?_) fun _ _ k3 H' e3 => k3 H' ((e1.trans e2).trans e3))
  have F3 := F2.step e3 a3
  obtain ⟨d, ed, k4⟩ := wp_liftO k3
  exact ⟨_, _, dx, d, F3.domb, (r1.ext F.ysb e2).ext F.ysb e3, ed, fun v H4 e4 r4 => k4 v H4 (((e1.trans e2).trans e3).trans (Same.ext e4)) (F3.same e4) r4⟩
theorem ev_rev {K : PySem.W.Frag} (h : Ev cl E os ta b ga) : Ev cl E os (tRevL K ta) b (fun ρ => ga ρ >>= fun x => liftO (D.rev x)) := fun Q F w => by
  refine h _ F (w.bind.mono (fun dx s1 k x H1 e1 a1 r1 => ?_) fun _ _ k => k)
  have F1 := F.step e1 a1
  obtain ⟨d, ed, k4⟩ := wp_liftO k
  cases dx with
  | lst xs =>
    cases ed
    obtain ⟨a, vs, rfl, na, ha, hr⟩ := rep_lst r1
    refine ⟨a, vs, rfl, SqL.of ha, fun p hp => ?_⟩
    obtain ⟨h1, h2⟩ := newL F1.domb hp hr.reverse
    exact k4 _ _ (e1.trans (Same.ext h1)) (F1.same h1) h2
  | _ => cases ed
end

/-! ### what a def promises -/
def spD (cl : Cl) (n : Nat) (f : List D → DM D) : Sp := fun vs H Q E => vs.length = n ∧ ∃ (G : Rg) (Z : List Addr) (ds : List D) (s : DSt), dom G Z H ∧ (∀ a ∈ G.Y, a ∈ Z) ∧ (G.C = cl.reg ∧ ∀ a ∈ G.P, a ∉ Z) ∧ G.A s H ∧ RepAll G Z H vs ds ∧
  Wp (f ds s) (fun d s' => ∀ v H', Ext G G.Y H H' → G.A s' H' → Rep G Z H' v d → Q v H') (fun e s' => ∀ H', Ext G G.Y H H' → G.A s' H' → E (.ref (cl e)) none H')
section
variable {cl : Cl} {E : XK} {os : List (Nat × Bool)} {b : Bool} {tl : TA} {gl : Env → DM (List D)}
def argc (n : Nat) (ds : List D) : DM (List D) := if ds.length = n then pure ds else stuck
theorem ev_call {n : Nat} {f : List D → DM D} (h : EvA cl E os tl b gl) (hn : ∀ ρ s ds s', gl ρ s = .ok ds s' → ds.length = n) : Ev cl E os (tCall (spD cl n f) [] E tl) b (fun ρ => gl ρ >>= fun ds => f ds) := fun {G H0 B Z0 O ρ s σ H} Q F w => by
  have w2 : Wp (gl ρ s) (fun ds s' => ds.length = n ∧ Wp (f ds s') (fun d s' => ∀ v H', Ext G G.Y H H' → G.A s' H' → Rep G (bz b O Z0) H' v d → Q v H') (fun e s' => ∀ H', Ext G G.Y H H' → G.A s' H' → E (.ref (cl e)) none H')) (fun e s' => ∀ H', Ext G G.Y H H' → G.A s' H' → E (.ref (cl e)) none H') := by
    have w1 := w.bind
    cases q : gl ρ s with
    | ok ds s' => rw [q] at w1; exact ⟨hn _ _ _ _ q, w1⟩
    | er e s' => rw [q] at w1; exact w1
    | no => rw [q] at w1; exact w1
  refine h _ F (w2.mono (fun ds s1 ⟨hl, k⟩ vs H1 e1 a1 r1 => ?_) fun _ _ k => k)
  have F1 := F.step e1 a1
  refine ⟨by rw [List.append_nil, r1.length]; exact hl, G, bz b O Z0, ds, s1, F1.domb, F1.ysb, ⟨F1.cc, F1.psb⟩, a1, by rw [List.append_nil]; exact r1, ?_⟩
  exact k.mono (fun d s2 k2 v H2 e2 a2 r2 => k2 v H2 (e1.trans e2) a2 r2) fun _ _ k2 H' e2 => k2 H' (e1.trans e2)
end
end DL

namespace DL
open PySem PySem.Spec PyProof.Rows L2
/-! ### statements -/
inductive Fl where
  | nx (ρ : Env) | rt (d : D) | bk (ρ : Env) | ct (ρ : Env)
section
variable {κ : Addr} {G : Rg} {H0 : Hp} {B : List (Nat × Addr)} {Z0 : List Addr} {O : List Own} {os : List (Nat × Bool)} {ρ ρ' : Env} {s s' : DSt} {σ σ' : L2.St} {H H' H1 : Hp}
def PostS (κ : Addr) (G : Rg) (H0 : Hp) (B : List (Nat × Addr)) (Z0 : List Addr) (D : Ends) (os' ob : List (Nat × Bool)) (fl : Fl) (s' : DSt) : Prop := match fl with
  | .nx ρ' => ∀ O' σ' H', Fr κ G H0 B Z0 O' os' ρ' s' σ' H' → D.nx σ' H'
  | .rt d => ∀ v H', Ext G (wof G B) H0 H' → G.A s' H' → Rep G Z0 H' v d → D.rt v H'
  | .bk ρ' => ∀ O' σ' H', Fr κ G H0 B Z0 O' ob ρ' s' σ' H' → D.bk σ' H'
  | .ct ρ' => ∀ O' σ' H', Fr κ G H0 B Z0 O' ob ρ' s' σ' H' → D.ct σ' H'
def EvS (cl : Cl) (E : XK) (os os' ob : List (Nat × Bool)) (ts : TS) (g : Env → DM Fl) : Prop :=
  ∀ {G H0 B Z0 O ρ s σ H} (D : Ends), Fr cl.reg G H0 B Z0 O os ρ s σ H →
    Wp (g ρ s) (PostS cl.reg G H0 B Z0 D os' ob) (fun e s' => ∀ H', Ext G (wof G B) H0 H' → G.A s' H' → E (.ref (cl e)) none H') → ts D σ H
theorem Fr.wext (F : Fr κ G H0 B Z0 O os ρ s σ H) (e : Ext G G.Y H H') : Ext G (wof G B) H0 H' := F.ext.trans (e.sub fun _ h => List.mem_append_left _ h)
/-- the owned list in slot i gets new items -/
theorem mem_adr {o : Own} (h : o ∈ O) : o.a ∈ adr O := List.mem_map.mpr ⟨o, h, rfl⟩
theorem own_eq {o o' : Own} (nd : (ixs O).Nodup) (h : o ∈ O) (h' : o' ∈ O) (e : o.i = o'.i) : o = o' := by
  unfold ixs at nd
  obtain ⟨i, hi, e1⟩ := List.mem_iff_getElem.mp h
  obtain ⟨j, hj, e2⟩ := List.mem_iff_getElem.mp h'
  have hij : i = j := by
    refine (List.getElem_inj (xs := O.map Own.i) (h₀ := by simpa using hi) (h₁ := by simpa using hj) nd).mp ?_
    rw [List.getElem_map, List.getElem_map, e1, e2, e]
  subst hij
  exact e1.symm.trans e2
theorem own_eqa {o o' : Own} (nd : (adr O).Nodup) (h : o ∈ O) (h' : o' ∈ O) (e : o.a = o'.a) : o = o' := by
  unfold adr at nd
  obtain ⟨i, hi, e1⟩ := List.mem_iff_getElem.mp h
  obtain ⟨j, hj, e2⟩ := List.mem_iff_getElem.mp h'
  have hij : i = j := by
    refine (List.getElem_inj (xs := O.map Own.a) (h₀ := by simpa using hi) (h₁ := by simpa using hj) nd).mp ?_
    rw [List.getElem_map, List.getElem_map, e1, e2, e]
  subst hij
  exact e1.symm.trans e2
theorem Fr.write {o : Own} (F : Fr κ G H0 B Z0 O os ρ s σ H) (ho : o ∈ O) (hl : o.i < ρ.length) {vs : List V} {ds : List D} (r : RepAll G (adr O ++ Z0) H vs ds) :
    Fr κ G H0 B Z0 O os (ρ.set o.i (some (.lst ds))) s σ (upd H o.a (.lst vs)) := by
  have oY : o.a ∉ G.Y := fun z => F.yn _ z (mem_adr ho)
  have kp : Ext G (adr O ++ Z0) H (upd H o.a (.lst vs)) := Ext.wr (List.mem_append_left _ (mem_adr ho)) oY
  refine { F with ext := ⟨fun a u n h => ?_, fun a r => F.ext.r a (G.ru _ _ _ oY a r), fun a h => upd_some (F.ext.n a h)⟩, st := ?_, onr := fun o' ho' r => F.onr o' ho' (G.ru _ _ _ oY _ r), len := by rw [List.length_set]; exact F.len, var := fun j d h n => ?_, own := fun o' ho' => ?_ }
  · have ne : a ≠ o.a := fun e => by
      cases hf : o.fr with
      | true => rw [e, F.ofr o ho hf] at h; cases h
      | false => exact n.1 (e ▸ List.mem_append_right _ (List.mem_map.mpr ⟨_, F.onf o ho hf, rfl⟩))
    rw [upd_ne ne]
    exact F.ext.k a u n h
  · refine G.dep s H _ (fun a ha => ?_) F.st
    rw [upd_ne (fun (e : a = o.a) => by
      rcases ha with ha | ha | ha
      · exact oY (e ▸ ha)
      · exact F.op o ho (e ▸ ha)
      · exact F.onr o ho (e ▸ ha))]
  · have ne : j ≠ o.i := fun e => n (e ▸ List.mem_map.mpr ⟨o, ho, rfl⟩)
    rw [List.getElem?_set_ne (Ne.symm ne)] at h
    obtain ⟨v, e1, r1⟩ := F.var j d h n
    exact ⟨v, e1, r1.mono kp fun _ z => z⟩
  · by_cases e : o' = o
    · subst e
      obtain ⟨_, _, _, e2, _, _⟩ := F.own o' ho'
      exact ⟨ds, vs, List.getElem?_set_self hl, e2, upd_same, r.mono kp fun _ z => z⟩
    · obtain ⟨ds', vs', e1, e2, e3, r1⟩ := F.own o' ho'
      have ni : o'.i ≠ o.i := fun z => e (own_eq F.oi ho' ho z)
      have na : o'.a ≠ o.a := fun z => e (own_eqa F.oa ho' ho z)
      exact ⟨ds', vs', by rw [List.getElem?_set_ne (Ne.symm ni)]; exact e1, e2, by rw [upd_ne na]; exact e3, r1.mono kp fun _ z => z⟩
/-- a new list is owned -/
theorem Fr.own1 {i : Nat} {p : Addr} {vs : List V} {ds : List D} (F : Fr κ G H0 B Z0 O os ρ s σ H) (hi : i < ρ.length) (hn : i ∉ ixs O) (hf : H p = none) (e : Ext G G.Y H H') (nr : ¬ G.R H' p) (a' : G.A s' H') (hp : H' p = some (.lst vs))
    (r : RepAll G (p :: (adr O ++ Z0)) H' vs ds) : Fr κ G H0 B Z0 (⟨i, p, true⟩ :: O) ((i, true) :: os) (ρ.set i (some (.lst ds))) s' (σ.set i (some (.ref p))) H' := by
  have F' := F.step e a'
  have np : p ∉ adr O ++ Z0 := fun z => F.domZ p (.inl z) hf
  have nP : p ∉ G.P := fun z => G.inY s H F.st p (.inr (.inl z)) hf
  have h0 : H0 p = none := by
    cases q : H0 p with
    | none => rfl
    | some o => exact absurd hf (F.ext.n p (by rw [q]; exact Option.some_ne_none _))
  have hy : ∀ a ∈ G.Y, a ∈ p :: (adr O ++ Z0) := fun a ha => List.mem_cons_of_mem _ (F.sub a ha)
  refine { F' with sh := by rw [List.map_cons, F.sh], wy := fun b hb => List.mem_cons_of_mem _ (F.wy b hb), oz := fun o ho => ?_, op := fun o ho => ?_, onr := fun o ho => ?_, ofr := fun o ho hr => ?_, onf := fun o ho hr => ?_, oa := ?_, oi := ?_, len := by rw [List.length_set, List.length_set]; exact F.len, var := fun j d h n => ?_, own := fun o ho => ?_ }
  · rcases List.mem_cons.mp ho with rfl | ho
    · exact fun z => np (List.mem_append_right _ z)
    · exact F.oz o ho
  · rcases List.mem_cons.mp ho with rfl | ho
    · exact nP
    · exact F.op o ho
  · rcases List.mem_cons.mp ho with rfl | ho
    · exact nr
    · exact F'.onr o ho
  · rcases List.mem_cons.mp ho with rfl | ho
    · exact h0
    · exact F.ofr o ho hr
  · rcases List.mem_cons.mp ho with rfl | ho
    · cases hr
    · exact F.onf o ho hr
  · exact List.nodup_cons.mpr ⟨fun z => np (List.mem_append_left _ z), F.oa⟩
  · exact List.nodup_cons.mpr ⟨hn, F.oi⟩
  · have ne : j ≠ i := fun z => n (z ▸ List.mem_cons_self)
    have n' : j ∉ ixs O := fun z => n (List.mem_cons_of_mem _ z)
    rw [List.getElem?_set_ne (Ne.symm ne)] at h ⊢
    obtain ⟨v, e1, r1⟩ := F.var j d h n'
    exact ⟨v, e1, (Rep.more hf r1).ext hy e⟩
  · rcases List.mem_cons.mp ho with rfl | ho
    · exact ⟨ds, vs, List.getElem?_set_self hi, List.getElem?_set_self (by rw [F.len]; exact hi), hp, r⟩
    · have ne : i ≠ o.i := fun z => hn (z ▸ List.mem_map.mpr ⟨o, ho, rfl⟩)
      obtain ⟨ds', vs', e1, e2, e3, r1⟩ := F.own o ho
      exact ⟨ds', vs', by rw [List.getElem?_set_ne ne]; exact e1, by rw [List.getElem?_set_ne ne]; exact e2, e.k _ _ (F.oav ho) e3, (RepAll.more hf r1).ext hy e⟩
/-- an owned list becomes a value like others: the head of the owned ones -/
theorem Fr.freeze {i : Nat} {os : List (Nat × Bool)} (F : Fr κ G H0 B Z0 O ((i, true) :: os) ρ s σ H) : ∃ O', Fr κ G H0 B Z0 O' os ρ s σ H := by
  cases O with
  | nil => exact absurd F.sh (by simp)
  | cons o O =>
    have sh := F.sh
    rw [List.map_cons] at sh
    injection sh with h1 h2
    have hfr : o.fr = true := congrArg Prod.snd h1
    have nda := List.nodup_cons.mp F.oa
    have ndi := List.nodup_cons.mp F.oi
    refine ⟨O, { F with sh := h2, wy := fun b hb => ?_, oz := fun o' h' => F.oz o' (List.mem_cons_of_mem _ h'), op := fun o' h' => F.op o' (List.mem_cons_of_mem _ h'), onr := fun o' h' => F.onr o' (List.mem_cons_of_mem _ h'), ofr := fun o' h' => F.ofr o' (List.mem_cons_of_mem _ h'), onf := fun o' h' => F.onf o' (List.mem_cons_of_mem _ h'), oa := nda.2, oi := ndi.2, var := fun j d h n => ?_, own := fun o' h' => ?_ }⟩
    · rcases List.mem_cons.mp (F.wy b hb) with e | z
      · rw [← e] at hfr; cases hfr
      · exact z
    · by_cases e : j = o.i
      · subst e
        obtain ⟨ds, vs, e1, e2, e3, r⟩ := F.own o List.mem_cons_self
        rw [e1] at h
        cases h
        refine ⟨_, e2, .lst ⟨fun z => ?_, F.onr o List.mem_cons_self⟩ e3 (r.low fun a ha => List.mem_cons_of_mem _ ha)⟩
        rcases List.mem_append.mp z with z | z
        · exact nda.1 z
        · exact F.oz o List.mem_cons_self z
      · have n' : j ∉ ixs (o :: O) := fun z => by
          rcases List.mem_cons.mp z with z | z
          · exact e z
          · exact n z
        obtain ⟨v, e1, r⟩ := F.var j d h n'
        exact ⟨v, e1, r.low fun a ha => List.mem_cons_of_mem _ ha⟩
    · obtain ⟨ds, vs, e1, e2, e3, r⟩ := F.own o' (List.mem_cons_of_mem _ h')
      exact ⟨ds, vs, e1, e2, e3, r.low fun a ha => List.mem_cons_of_mem _ ha⟩
/-! a loop begins anew -/
def clr (os : List (Nat × Bool)) : List (Nat × Bool) := os.map fun p => (p.1, false)
def clrO (O : List Own) : List Own := O.map fun o => ⟨o.i, o.a, false⟩
def bse (O : List Own) : List (Nat × Addr) := O.map fun o => (o.i, o.a)
theorem adr_clr (O : List Own) : adr (clrO O) = adr O := by unfold adr clrO; rw [List.map_map]; rfl
theorem ixs_clr (O : List Own) : ixs (clrO O) = ixs O := by unfold ixs clrO; rw [List.map_map]; rfl
theorem Fr.base (F : Fr κ G H0 B Z0 O os ρ s σ H) : Fr κ G H (bse O) Z0 (clrO O) (clr os) ρ s σ H where
  sh := by rw [← F.sh]; unfold clrO clr; rw [List.map_map, List.map_map]; rfl
  ext := Ext.refl _ _
  st := F.st
  cc := F.cc
  yz := F.yz
  pz := F.pz
  wy := fun p hp => by
    obtain ⟨o, ho, rfl⟩ := List.mem_map.mp hp
    exact List.mem_map.mpr ⟨o, ho, rfl⟩
  w0 := fun p hp => by
    obtain ⟨o, ho, rfl⟩ := List.mem_map.mp hp
    exact F.domO o.a (mem_adr ho)
  z0 := F.domZ0
  oz := fun o ho => by
    obtain ⟨o', ho', rfl⟩ := List.mem_map.mp ho
    exact F.oz o' ho'
  op := fun o ho => by
    obtain ⟨o', ho', rfl⟩ := List.mem_map.mp ho
    exact F.op o' ho'
  onr := fun o ho => by
    obtain ⟨o', ho', rfl⟩ := List.mem_map.mp ho
    exact F.onr o' ho'
  ofr := fun o ho h => by
    obtain ⟨o', ho', rfl⟩ := List.mem_map.mp ho
    cases h
  onf := fun o ho _ => by
    obtain ⟨o', ho', rfl⟩ := List.mem_map.mp ho
    exact List.mem_map.mpr ⟨o', ho', rfl⟩
  oa := by rw [adr_clr]; exact F.oa
  oi := by rw [ixs_clr]; exact F.oi
  len := F.len
  var := fun i d h n => by
    rw [ixs_clr] at n
    rw [adr_clr]
    exact F.var i d h n
  own := fun o ho => by
    obtain ⟨o', ho', rfl⟩ := List.mem_map.mp ho
    rw [adr_clr]
    exact F.own o' ho'
theorem Ext.unbase (F : Fr κ G H0 B Z0 O os ρ s σ H) (e : Ext G (wof G (bse O)) H H') : Ext G (wof G B) H0 H' := ⟨fun a o n h => by
  refine e.k a o ⟨fun z => ?_, (F.ext.av (fun _ z => z) n h).2⟩ (F.ext.k a o n h)
  rcases List.mem_append.mp z with z | z
  · exact n.1 (List.mem_append_left _ z)
  · obtain ⟨p, hp, rfl⟩ := List.mem_map.mp z
    obtain ⟨w, hw, rfl⟩ := List.mem_map.mp hp
    cases hf : w.fr with
    | true => rw [F.ofr w hw hf] at h; cases h
    | false => exact n.1 (List.mem_append_right _ (List.mem_map.mpr ⟨_, F.onf w hw hf, rfl⟩)), fun a r => (e.r a r).elim (F.ext.r a) fun h => .inr (by
  cases q : H0 a with
  | none => rfl
  | some o => exact absurd h (F.ext.n a (by rw [q]; exact Option.some_ne_none _))), fun a h => e.n a (F.ext.n a h)⟩
theorem same_own {O O' : List Own} (h : O'.map (fun o => (o.i, o.fr)) = (clrO O).map fun o => (o.i, o.fr)) (nd : (ixs O).Nodup) (on : ∀ o ∈ O', o.fr = false → (o.i, o.a) ∈ bse O) : O' = clrO O := by
  have hl : O'.length = (clrO O).length := by have := congrArg List.length h; simpa using this
  refine List.ext_getElem hl fun k h1 h2 => ?_
  have hk : (O'[k].i, O'[k].fr) = ((clrO O)[k].i, (clrO O)[k].fr) := by
    have := congrArg (fun l => l[k]?) h
    simp only [List.getElem?_map, List.getElem?_eq_getElem h1, List.getElem?_eq_getElem h2, Option.map_some, Option.some.injEq] at this
    exact this
  have hf : O'[k].fr = false := by
    have e : (clrO O)[k].fr = false := by
      obtain ⟨w, hw, ew⟩ := List.mem_map.mp (List.getElem_mem h2)
      rw [← ew]
    exact (congrArg Prod.snd hk).trans e
  obtain ⟨w, hw, ew⟩ := List.mem_map.mp (on O'[k] (List.getElem_mem h1) hf)
  have hm : (⟨w.i, w.a, false⟩ : Own) ∈ clrO O := List.mem_map.mpr ⟨w, hw, rfl⟩
  have e2 : (⟨w.i, w.a, false⟩ : Own) = (clrO O)[k] := own_eq (by rw [ixs_clr]; exact nd) hm (List.getElem_mem h2) ((congrArg Prod.fst ew).trans (congrArg Prod.fst hk))
  rw [← e2]
  have e3 : O'[k].i = w.i := (congrArg Prod.fst ew).symm
  have e4 : O'[k].a = w.a := (congrArg Prod.snd ew).symm
  cases q : O'[k] with
  | mk i a f =>
    rw [q] at e3 e4 hf
    cases e3; cases e4; cases hf; rfl
theorem Fr.unbase (F : Fr κ G H0 B Z0 O os ρ s σ H) {O' : List Own} (F' : Fr κ G H (bse O) Z0 O' (clr os) ρ' s' σ' H') : Fr κ G H0 B Z0 O os ρ' s' σ' H' := by
  have e : O' = clrO O := same_own (F'.sh.trans F.base.sh.symm) F.oi F'.onf
  subst e
  refine { F with ext := Ext.unbase F F'.ext, st := F'.st, onr := fun o ho => F'.onr ⟨o.i, o.a, false⟩ (List.mem_map.mpr ⟨o, ho, rfl⟩), len := F'.len, var := fun i d h n => ?_, own := fun o ho => ?_ }
  · have := F'.var i d h (by rw [ixs_clr]; exact n)
    rw [adr_clr] at this
    exact this
  · have := F'.own ⟨o.i, o.a, false⟩ (List.mem_map.mpr ⟨o, ho, rfl⟩)
    rw [adr_clr] at this
    exact this
end

/-! ### blocks, small statements -/
section
variable {cl : Cl} {E : XK} {os os' os2 ob : List (Nat × Bool)} {t u : TS} {g g2 : Env → DM Fl} {te ta : TE} {ge ga : Env → DM D} {b : Bool} {tt : TT} {gt : Env → DM Bool}
def seqG (g g2 : Env → DM Fl) : Env → DM Fl := fun ρ => g ρ >>= fun fl => match fl with
  | .nx ρ' => g2 ρ'
  | fl => pure fl
theorem es_seq (h : EvS cl E os os2 ob t g) (h2 : EvS cl E os2 os' ob u g2) : EvS cl E os os' ob (tSeq t u) (seqG g g2) := fun D F w => by
  refine h { D with nx := u D } F (w.bind.mono (fun fl s' k => ?_) fun _ _ k => k)
  cases fl with
  | nx ρ' => exact fun O' σ' H' F' => h2 D F' k
  | rt d => exact k
  | bk ρ' => exact k
  | ct ρ' => exact k
theorem es_next : EvS cl E os os ob tNext (fun ρ => pure (.nx ρ)) := fun D F w => w _ _ _ F
theorem es_brk : EvS cl E os os os tBreak (fun ρ => pure (.bk ρ)) := fun D F w => w _ _ _ F
theorem es_cont : EvS cl E os os os tCont (fun ρ => pure (.ct ρ)) := fun D F w => w _ _ _ F
theorem es_ret (h : Ev cl E os te b ge) : EvS cl E os os' ob (tRet te) (fun ρ => ge ρ >>= fun d => pure (.rt d)) := fun D F w => by
  refine h _ F (w.bind.mono (fun d s' k v H' e a r => ?_) fun _ _ k H' e => k H' (F.wext e))
  exact k v H' (F.wext e) a (r.low fun x hx => bz_sub x hx)
theorem es_drop (h : Ev cl E os te b ge) : EvS cl E os os ob (tDrop te) (fun ρ => ge ρ >>= fun _ => pure (.nx ρ)) := fun D F w => by
  refine h _ F (w.bind.mono (fun d s' k v H' e a r => ?_) fun _ _ k H' e => k H' (F.wext e))
  exact k _ _ _ (F.step e a)
theorem es_if (h : EvT cl E os tt gt) (h1 : EvS cl E os os' ob t g) (h2 : EvS cl E os os' ob u g2) : EvS cl E os os' ob (tIfS tt t u) (fun ρ => gt ρ >>= fun k => if k = true then g ρ else g2 ρ) := fun D F w => by
  refine h _ F (w.bind.mono (fun kk s' k H' e a => ?_) fun _ _ k H' e => k H' (F.wext e))
  cases kk with
  | true =>
    rw [if_pos rfl] at k ⊢
    exact h1 D (F.step e a) k
  | false =>
    rw [if_neg Bool.false_ne_true] at k ⊢
    exact h2 D (F.step e a) k
/-- targets -/
def setE (i : Nat) (d : D) (ρ : Env) : Option Env := if i < ρ.length then some (ρ.set i (some d)) else none
theorem setE_some {i : Nat} {d : D} {ρ ρ' : Env} (h : setE i d ρ = some ρ') : i < ρ.length ∧ ρ' = ρ.set i (some d) := by
  unfold setE at h
  split at h
  · rename_i hl; exact ⟨hl, (Option.some.inj h).symm⟩
  · cases h
def wipeE (ρ : Env) : List Nat → Env
  | [] => ρ
  | v :: vs => (wipeE ρ vs).set v none
theorem wipe_get (σ : L2.St) (j : Nat) : ∀ vs : List Nat, (wipe σ vs)[j]? = if j ∈ vs then (if j < σ.length then some none else none) else σ[j]?
  | [] => by simp [wipe]
  | v :: vs => by
    simp only [wipe]
    by_cases e : j = v
    · subst e
      rw [if_pos List.mem_cons_self, List.getElem?_set]
      simp [wipe_length]
    · rw [List.getElem?_set_ne (Ne.symm e), wipe_get σ j vs]
      simp [e]
theorem wipeE_get (σ : Env) (j : Nat) : ∀ vs : List Nat, (wipeE σ vs)[j]? = if j ∈ vs then (if j < σ.length then some none else none) else σ[j]?
  | [] => by simp [wipeE]
  | v :: vs => by
    have hl : ∀ vs : List Nat, (wipeE σ vs).length = σ.length := by
      intro vs
      induction vs with
      | nil => rfl
      | cons v vs ih => simp only [wipeE, List.length_set]; exact ih
    simp only [wipeE]
    by_cases e : j = v
    · subst e
      rw [if_pos List.mem_cons_self, List.getElem?_set]
      simp [hl]
    · rw [List.getElem?_set_ne (Ne.symm e), wipeE_get σ j vs]
      simp [e]
theorem wipeE_length (σ : Env) : ∀ vs : List Nat, (wipeE σ vs).length = σ.length
  | [] => rfl
  | v :: vs => by simp only [wipeE, List.length_set]; exact wipeE_length σ vs
theorem wipe_set {σ : L2.St} {i : Nat} {x : Option V} {vs : List Nat} (h : i ∈ vs) : wipe (σ.set i x) vs = wipe σ vs := by
  refine List.ext_getElem? fun j => ?_
  rw [wipe_get, wipe_get, List.length_set]
  by_cases hj : j ∈ vs
  · rw [if_pos hj, if_pos hj]
  · rw [if_neg hj, if_neg hj, List.getElem?_set_ne (fun (e : i = j) => hj (by rw [← e]; exact h))]
theorem wipe_wipe {σ : L2.St} {vs : List Nat} : wipe (wipe σ vs) vs = wipe σ vs := by
  refine List.ext_getElem? fun j => ?_
  rw [wipe_get, wipe_length, wipe_get]
  by_cases hj : j ∈ vs
  · rw [if_pos hj, if_pos hj]
  · rw [if_neg hj, if_neg hj]
def EvG (os : List (Nat × Bool)) (vs : List Nat) (tg : TG) (f : D → Env → Option Env) : Prop :=
  ∀ {κ G H0 B Z0 O ρ s σ H} (v : V) (d : D) (ρ' : Env) (Q : L2.St → Hp → Prop), Fr κ G H0 B Z0 O os ρ s σ H → Rep G (adr O ++ Z0) H v d →
    f d ρ = some ρ' → (∀ σ', wipe σ' vs = wipe σ vs → Fr κ G H0 B Z0 O os ρ' s σ' H → Q σ' H) → tg v σ H Q
def EvGs (os : List (Nat × Bool)) (vs : List Nat) (tg : TGs) (f : List D → Env → Option Env) : Prop :=
  ∀ {κ G H0 B Z0 O ρ s σ H} (v : List V) (d : List D) (ρ' : Env) (Q : L2.St → Hp → Prop), Fr κ G H0 B Z0 O os ρ s σ H → RepAll G (adr O ++ Z0) H v d →
    f d ρ = some ρ' → (∀ σ', wipe σ' vs = wipe σ vs → Fr κ G H0 B Z0 O os ρ' s σ' H → Q σ' H) → tg v σ H Q
theorem not_own {κ : Addr} {G : Rg} {H0 : Hp} {B : List (Nat × Addr)} {Z0 : List Addr} {O : List Own} {ρ : Env} {s : DSt} {σ : L2.St} {H : Hp} {i : Nat} (F : Fr κ G H0 B Z0 O os ρ s σ H) (hn : (os.map (·.1)).contains i = false) : i ∉ ixs O := fun z => by
  rw [F.ixe] at z
  rw [List.contains_iff_mem.mpr z] at hn; cases hn
variable {vs : List Nat}
theorem eg_name {i : Nat} (hn : (os.map (·.1)).contains i = false) (hv : vs.contains i = true) : EvG os vs (gName i) (setE i) := fun v d ρ' Q F r e k => by
  obtain ⟨hl, rfl⟩ := setE_some e
  exact k _ (wipe_set (List.contains_iff_mem.mp hv)) (F.set hl (not_own F hn) r)
def bindNil (ds : List D) (ρ : Env) : Option Env := match ds with
  | [] => some ρ
  | _ => none
def bindCons (f : D → Env → Option Env) (fs : List D → Env → Option Env) (ds : List D) (ρ : Env) : Option Env := match ds with
  | [] => none
  | d :: r => (f d ρ).bind fun ρ' => fs r ρ'
theorem egs_nil : EvGs os vs gNil bindNil := fun v d ρ' Q F r e k => by
  cases r with
  | nil => cases e; exact ⟨rfl, k _ rfl F⟩
  | cons => cases e
theorem egs_cons {tg : TG} {tgs : TGs} {f : D → Env → Option Env} {fs : List D → Env → Option Env} (h : EvG os vs tg f) (h2 : EvGs os vs tgs fs) : EvGs os vs (gCons tg tgs) (bindCons f fs) := fun v d ρ' Q F r e k => by
  cases r with
  | nil => cases e
  | @cons v vs d ds r1 r2 =>
    obtain ⟨ρ1, e1, e2⟩ := Option.bind_eq_some_iff.mp e
    exact ⟨v, vs, rfl, h v d ρ1 _ F r1 e1 fun σ' w' F' => h2 vs ds ρ' Q F' r2 e2 fun σ2 w2 F2 => k σ2 (w2.trans w') F2⟩
def bindTup (n : Nat) (f : List D → Env → Option Env) (d : D) (ρ : Env) : Option Env := match d with
  | .tup ds => if ds.length = n then f ds ρ else none
  | _ => none
theorem eg_tup {K : PySem.W.Frag} {n : Nat} {tgs : TGs} {fs : List D → Env → Option Env} (h : EvGs os vs tgs fs) : EvG os vs (gTup K n tgs) (bindTup n fs) := fun v d ρ' Q F r e k => by
  cases d with
  | tup ds =>
    obtain ⟨a, vs, rfl, na, ha, hr⟩ := rep_tup r
    simp only [bindTup] at e
    split at e
    · rename_i hl
      exact ⟨a, vs, rfl, SqT.of ha, by rw [hr.length]; exact hl, h vs ds ρ' Q F hr e k⟩
    · cases e
  | _ => cases e
theorem es_asg {tg : TG} {f : D → Env → Option Env} (h : Ev cl E os te true ge) (hg : EvG os vs tg f) : EvS cl E os os ob (tAsg te tg) (fun ρ => ge ρ >>= fun d => liftO (f d ρ) >>= fun ρ' => pure (.nx ρ')) := fun D F w => by
  refine h _ F (w.bind.mono (fun d s' k v H' e a r => ?_) fun _ _ k H' e => k H' (F.wext e))
  obtain ⟨ρ', e1, k1⟩ := wp_liftO k.bind
  exact hg v d ρ' _ (F.step e a) r e1 fun σ' _ F' => k1 _ _ _ F'
/-- a, b = x, y -/
theorem es_par {i j : Nat} {tl : TA} {gl : Env → DM (List D)} (h : EvA cl E os tl true gl) (hi : (os.map (·.1)).contains i = false) (hj : (os.map (·.1)).contains j = false) :
    EvS cl E os os ob (tPar i j tl) (fun ρ => gl ρ >>= fun ds => liftO (bindCons (setE i) (bindCons (setE j) bindNil) ds ρ) >>= fun ρ' => pure (.nx ρ')) := fun D F w => by
  refine h _ F (w.bind.mono (fun d s' k v H' e a r => ?_) fun _ _ k H' e => k H' (F.wext e))
  obtain ⟨ρ', e1, k1⟩ := wp_liftO k.bind
  cases r with
  | nil => cases e1
  | cons r1 r2 =>
    obtain ⟨ρ1, e2, e3⟩ := Option.bind_eq_some_iff.mp e1
    cases r2 with
    | nil => cases e3
    | cons r3 r4 =>
      obtain ⟨ρ2, e4, e5⟩ := Option.bind_eq_some_iff.mp e3
      cases r4 with
      | cons => cases e5
      | nil =>
        cases e5
        obtain ⟨hl, rfl⟩ := setE_some e2
        obtain ⟨hl2, rfl⟩ := setE_some e4
        have F1 := F.step e a
        have F2 := F1.set hl (not_own F1 hi) r1
        exact ⟨_, _, rfl, k1 _ _ _ (F2.set hl2 (not_own F2 hj) r3)⟩
/-- x = a new list, owned -/
theorem es_own {i : Nat} {gl : Env → DM (List D)} (h : EvN cl E os te gl) (hi : (os.map (·.1)).contains i = false) :
    EvS cl E os ((i, true) :: os) ob (tAsg te (gName i)) (fun ρ => gl ρ >>= fun ds => liftO (setE i (.lst ds) ρ) >>= fun ρ' => pure (.nx ρ')) := fun D F w => by
  refine h _ F (w.bind.mono (fun d s' k p vs H' e hf nr hp a r => ?_) fun _ _ k H' e => k H' (F.wext e))
  obtain ⟨ρ', e1, k1⟩ := wp_liftO k.bind
  obtain ⟨hl, rfl⟩ := setE_some e1
  exact k1 _ _ _ (F.own1 hl (not_own F hi) hf e nr a hp r)
/-- the head of the owned ones is one no more -/
theorem es_freeze {i : Nat} (h : EvS cl E os os' ob t g) : EvS cl E ((i, true) :: os) os' ob t g := fun D F w => by
  obtain ⟨O', F'⟩ := F.freeze
  exact h D F' w
end
end DL

namespace DL
open PySem PySem.Spec PyProof.Rows L2
/-! ### what is walked -/
structure IterD (G : Rg) (Z W : List Addr) (J : It) (H1 : Hp) (its : List D) : Prop where
  stop : ∀ H, Ext G W H1 H → J.stop its.length H
  go : ∀ i H, i < its.length → Ext G W H1 H → J.go i H
  yld : ∀ i H x H' d, its[i]? = some d → Ext G W H1 H → dom G Z H → J.yld i H x H' → Same H H' ∧ Rep G Z H' x d
/-- the same places to keep from, or one fresh one more -/
def Lft (Z Z' : List Addr) (H : Hp) : Prop := Z' = Z ∨ ∃ p, H p = none ∧ Z' = p :: Z
theorem Lft.sub {Z Z' : List Addr} {H : Hp} (h : Lft Z Z' H) : ∀ a ∈ Z, a ∈ Z' := fun a ha => by
  rcases h with rfl | ⟨p, _, rfl⟩
  · exact ha
  · exact List.mem_cons_of_mem _ ha
theorem Lft.all {G : Rg} {Z Z' : List Addr} {H : Hp} (h : Lft Z Z' H) {vs : List V} {ds : List D} (r : RepAll G Z H vs ds) : RepAll G Z' H vs ds := by
  rcases h with rfl | ⟨p, hp, rfl⟩
  · exact r
  · exact RepAll.more hp r
def EvI (cl : Cl) (E : XK) (os : List (Nat × Bool)) (w : Bool) (wi : TI) (gi : Env → DM (List D)) : Prop :=
  ∀ {G H0 B Z0 O ρ s σ H} (R : It → Hp → Prop), Fr cl.reg G H0 B Z0 O os ρ s σ H →
    Wp (gi ρ s) (fun its s' => ∀ J H', Ext G G.Y H H' → G.A s' H' → (∀ Z', Lft (adr O ++ Z0) Z' H' → IterD G Z' (if w then adr O ++ Z0 else G.Y) J H' its) → R J H') (fun e s' => ∀ H', Ext G G.Y H H' → G.A s' H' → E (.ref (cl e)) none H') → wi σ H R
section
variable {cl : Cl} {E : XK} {os : List (Nat × Bool)} {K : PySem.W.Frag} {te : TE} {ge : Env → DM D} {ta : TA} {ga : Env → DM (List D)} {w : Bool}
theorem EvI.weak {wi : TI} {gi : Env → DM (List D)} (h : EvI cl E os true wi gi) : EvI cl E os w wi gi := fun {G H0 B Z0 O ρ s σ H} R F k => by
  refine h R F (k.mono (fun its s' k J H' e a it => k J H' e a ?_) fun _ _ k => k)
  cases w with
  | true => exact it
  | false =>
    have sb : ∀ {H2 H3 : Hp}, Ext G G.Y H2 H3 → Ext G (adr O ++ Z0) H2 H3 := fun e => e.sub F.sub
    exact fun Z' hZ => ⟨fun H e => (it Z' hZ).stop H (sb e), fun i H l e => (it Z' hZ).go i H l (sb e), fun i H x H' d h e dm y => (it Z' hZ).yld i H x H' d h (sb e) dm y⟩
def itemsL : D → DM (List D)
  | .lst xs => pure xs
  | _ => stuck
def itemsT : D → DM (List D)
  | .tup xs => pure xs
  | _ => stuck
theorem ei_list (h : Ev cl E os te true ge) : EvI cl E os true (iList K te) (fun ρ => ge ρ >>= itemsL) := fun {G H0 B Z0 O ρ s σ H} R F k => by
  refine h _ F (k.bind.mono (fun d s' k v H' e a r => ?_) fun _ _ k => k)
  cases d with
  | lst ds =>
    obtain ⟨p, vs, rfl, na, ha, hr⟩ := rep_lst r
    have at_ : ∀ {H2 : Hp}, Ext G (adr O ++ Z0) H' H2 → SqL K H2 p vs := fun e => SqL.of (e.k p _ na ha)
    refine ⟨p, rfl, ⟨vs, SqL.of ha⟩, k _ H' e a fun Z' hZ => ⟨fun H e => ⟨vs, at_ e, by rw [hr.length]; exact Nat.le_refl _⟩, fun i H l e => ?_, fun i H x H2 d hd e dm y => ?_⟩⟩
    · obtain ⟨v, e1, _⟩ := hr.get (List.getElem?_eq_getElem l)
      exact ⟨vs, v, at_ e, e1⟩
    · obtain ⟨rfl, y⟩ := y
      obtain ⟨v, e1, r1⟩ := (hZ.all hr).get hd
      have e2 := y vs (at_ e)
      rw [e1] at e2
      cases e2
      exact ⟨Same.refl _, r1.mono (e.sub hZ.sub) fun _ z => z⟩
  | _ => exact k.elim
theorem ei_tup (h : Ev cl E os te true ge) : EvI cl E os true (iTup K te) (fun ρ => ge ρ >>= itemsT) := fun {G H0 B Z0 O ρ s σ H} R F k => by
  refine h _ F (k.bind.mono (fun d s' k v H' e a r => ?_) fun _ _ k => k)
  cases d with
  | tup ds =>
    obtain ⟨p, vs, rfl, na, ha, hr⟩ := rep_tup r
    have at_ : ∀ {H2 : Hp}, Ext G (adr O ++ Z0) H' H2 → SqT K H2 p vs := fun e => SqT.of (e.k p _ na ha)
    refine ⟨p, rfl, ⟨vs, SqT.of ha⟩, k _ H' e a fun Z' hZ => ⟨fun H e => ⟨vs, at_ e, by rw [hr.length]; exact Nat.le_refl _⟩, fun i H l e => ?_, fun i H x H2 d hd e dm y => ?_⟩⟩
    · obtain ⟨v, e1, _⟩ := hr.get (List.getElem?_eq_getElem l)
      exact ⟨vs, v, at_ e, e1⟩
    · obtain ⟨rfl, y⟩ := y
      obtain ⟨v, e1, r1⟩ := (hZ.all hr).get hd
      have e2 := y vs (at_ e)
      rw [e1] at e2
      cases e2
      exact ⟨Same.refl _, r1.mono (e.sub hZ.sub) fun _ z => z⟩
  | _ => exact k.elim
/-- over an owned list, which stays meanwhile -/
theorem ei_own {i : Nat} (hn : (os.map (·.1)).contains i = true) : EvI cl E os false (iList K (tVar i)) (fun ρ => getE i ρ >>= itemsL) := fun {G H0 B Z0 O ρ s σ H} R F k => by
  obtain ⟨d, e, k⟩ := wp_liftO k.bind
  have hni : i ∈ ixs O := by
    rw [F.ixe]
    exact List.contains_iff_mem.mp hn
  obtain ⟨o, ho, rfl⟩ := List.mem_map.mp hni
  obtain ⟨ds, vs, e1, e2, e3, hr⟩ := F.own o ho
  rw [e1] at e
  cases e
  have at_ : ∀ {H2 : Hp}, Ext G G.Y H H2 → SqL K H2 o.a vs := fun e => SqL.of (e.k _ _ (F.oav ho) e3)
  refine ⟨_, e2, o.a, rfl, ⟨vs, SqL.of e3⟩, k _ H (Ext.refl _ _) F.st fun Z' hZ => ⟨fun H e => ⟨vs, at_ e, by rw [hr.length]; exact Nat.le_refl _⟩, fun i H l e => ?_, fun i H x H2 d hd e dm y => ?_⟩⟩
  · obtain ⟨v, e1, _⟩ := hr.get (List.getElem?_eq_getElem l)
    exact ⟨vs, v, at_ e, e1⟩
  · obtain ⟨rfl, y⟩ := y
    obtain ⟨v, e1, r1⟩ := (hZ.all hr).get hd
    have e2 := y vs (at_ e)
    rw [e1] at e2
    cases e2
    exact ⟨Same.refl _, r1.ext (fun a ha => hZ.sub a (F.sub a ha)) e⟩
def rngD (lo : Int) (n : Nat) : List D := (List.range n).map fun i => D.int (lo + (i : Nat))
theorem rngD_length (lo : Int) (n : Nat) : (rngD lo n).length = n := by simp [rngD]
theorem iter_rng {G : Rg} {Z W : List Addr} {H1 : Hp} (lo : Int) (n : Nat) : IterD G Z W (Itr lo n) H1 (rngD lo n) := by
  refine ⟨fun H _ => by show n ≤ _; rw [rngD_length]; exact Nat.le_refl _, fun i H l _ => by rw [rngD_length] at l; exact l, fun i H x H' d hd _ _ y => ?_⟩
  obtain ⟨rfl, rfl⟩ := y
  refine ⟨Same.refl _, ?_⟩
  simp only [rngD, List.getElem?_map] at hd
  cases q : (List.range n)[i]? with
  | none => rw [q] at hd; cases hd
  | some j =>
    rw [q] at hd
    cases hd
    obtain ⟨hl, e⟩ := List.getElem?_eq_some_iff.mp q
    rw [List.getElem_range] at e
    subst e
    exact .int _
def rng1 : List D → DM (List D)
  | [.int j] => if j < 1000000000 ∧ -1000000000 < j then pure (rngD 0 j.toNat) else stuck
  | _ => stuck
def rng2 : List D → DM (List D)
  | [.int i, .int j] => if (j < 1000000000 ∧ -1000000000 < j) ∧ i < 1000000000 ∧ -1000000000 < i then pure (rngD i (j - i).toNat) else stuck
  | _ => stuck
theorem ei_rng1 (h : EvA cl E os ta true ga) : EvI cl E os true (iRng1 ta) (fun ρ => ga ρ >>= rng1) := fun R F k => by
  refine h _ F (k.bind.mono (fun d s' k v H' e a r => ?_) fun _ _ k => k)
  cases d with
  | nil => exact k.elim
  | cons x xs =>
    cases x with
    | int j =>
      cases xs with
      | nil =>
        simp only [rng1] at k
        split at k
        · rename_i hj
          cases r with
          | cons r1 r2 =>
            cases r2
            exact ⟨j, by rw [rep_int r1], by omega, by omega, k _ H' e a fun _ _ => (iter_rng 0 j.toNat)⟩
        · exact k.elim
      | cons => exact k.elim
    | _ => exact k.elim
theorem ei_rng2 (h : EvA cl E os ta true ga) : EvI cl E os true (iRng2 ta) (fun ρ => ga ρ >>= rng2) := fun R F k => by
  refine h _ F (k.bind.mono (fun d s' k v H' e a r => ?_) fun _ _ k => k)
  cases d with
  | nil => exact k.elim
  | cons x xs =>
    cases x with
    | int i =>
      cases xs with
      | nil => exact k.elim
      | cons y ys =>
        cases y with
        | int j =>
          cases ys with
          | nil =>
            simp only [rng2] at k
            split at k
            · rename_i hj
              cases r with
              | cons r1 r2 =>
                cases r2 with
                | cons r3 r4 =>
                  cases r4
                  exact ⟨i, j, by rw [rep_int r1, rep_int r3], by omega, k _ H' e a fun _ _ => (iter_rng i (j - i).toNat)⟩
            · exact k.elim
          | cons => exact k.elim
        | _ => exact k.elim
    | _ => exact k.elim
def rngC (lo c : Int) (n : Nat) : List D := (List.range n).map fun i => D.int (lo + (i : Nat) * c)
theorem rngC_length (lo c : Int) (n : Nat) : (rngC lo c n).length = n := by simp [rngC]
theorem iter_rngC {G : Rg} {Z W : List Addr} {H1 : Hp} (lo c : Int) (n : Nat) : IterD G Z W (Itc lo c n) H1 (rngC lo c n) := by
  refine ⟨fun H _ => by show n ≤ _; rw [rngC_length]; exact Nat.le_refl _, fun i H l _ => by rw [rngC_length] at l; exact l, fun i H x H' d hd _ _ y => ?_⟩
  obtain ⟨rfl, rfl⟩ := y
  refine ⟨Same.refl _, ?_⟩
  simp only [rngC, List.getElem?_map] at hd
  cases q : (List.range n)[i]? with
  | none => rw [q] at hd; cases hd
  | some j =>
    rw [q] at hd
    cases hd
    obtain ⟨hl, e⟩ := List.getElem?_eq_some_iff.mp q
    rw [List.getElem_range] at e
    subst e
    exact .int _
/-- the turns of range(i, j, c); c = -1 and c = 2 alone -/
def cntC (i j c : Int) : Nat := if c = -1 then (i - j).toNat else ((j - i + 1) / 2).toNat
def rng3 : List D → DM (List D)
  | [.int i, .int j, .int c] => if ((j < 1000000000 ∧ -1000000000 < j) ∧ i < 1000000000 ∧ -1000000000 < i) ∧ (c = -1 ∨ c = 2) then pure (rngC i c (cntC i j c)) else stuck
  | _ => stuck
theorem rangeSize_two (i j : Int) : Builtin.Range.rangeSize i j 2 = (((j - i + 1) / 2).toNat : Nat) := by
  unfold Builtin.Range.rangeSize
  rw [if_pos (by decide)]
  split <;> omega
theorem rgC_two {i j : Int} (hj : j < 1000000000 ∧ -1000000000 < j) (hi : i < 1000000000 ∧ -1000000000 < i) : RgC i j 2 (((j - i + 1) / 2).toNat) := by
  refine ⟨by decide, by decide, ?_, rangeSize_two i j⟩
  unfold Builtin.Range.small
  rw [rangeSize_two]
  simp only [Builtin.Range.rangeFitsLong, Bool.and_eq_true, Bool.or_eq_true, decide_eq_true_eq, beq_iff_eq, show ((2 : Int) > 0) by decide, if_true]
  omega
theorem ei_rng3 (h : EvA cl E os ta true ga) : EvI cl E os true (iRng3 ta) (fun ρ => ga ρ >>= rng3) := fun R F k => by
  refine h _ F (k.bind.mono (fun d s' k v H' e a r => ?_) fun _ _ k => k)
  match d, r, k with
  | [.int i, .int j, .int c], r, k =>
    simp only [rng3] at k
    split at k
    · rename_i hj
      cases r with
      | cons r1 r2 =>
        cases r2 with
        | cons r3 r4 =>
          cases r4 with
          | cons r5 r6 =>
            cases r6
            refine ⟨i, j, c, _, by rw [rep_int r1, rep_int r3, rep_int r5], ?_, k _ H' e a fun _ _ => (iter_rngC i c _)⟩
            rcases hj.2 with rfl | rfl
            · exact RgC.neg (by omega) (by omega) (by omega) (by omega)
            · exact rgC_two hj.1.1 hj.1.2
    · exact k.elim
/-- zip of two lists -/
def zipD : List D → DM (List D)
  | [.lst xs, .lst ys] => pure ((xs.zip ys).map fun p => .tup [p.1, p.2])
  | _ => stuck
theorem ei_zip (h : EvA cl E os ta true ga) : EvI cl E os true (iZip K ta) (fun ρ => ga ρ >>= zipD) := fun {G H0 B Z0 O ρ s σ H} R F k => by
  refine h _ F (k.bind.mono (fun d s' k v H' e a r => ?_) fun _ _ k => k)
  match d, r, k with
  | [.lst xs, .lst ys], r, k =>
    cases r with
    | cons r1 r2 =>
      cases r2 with
      | cons r3 r4 =>
        cases r4
        obtain ⟨p, vs, rfl, na, ha, hr⟩ := rep_lst r1
        obtain ⟨q, ws, rfl, nb, hb, hs⟩ := rep_lst r3
        have atp : ∀ {H2 : Hp}, Ext G (adr O ++ Z0) H' H2 → SqL K H2 p vs := fun e => SqL.of (e.k p _ na ha)
        have atq : ∀ {H2 : Hp}, Ext G (adr O ++ Z0) H' H2 → SqL K H2 q ws := fun e => SqL.of (e.k q _ nb hb)
        have F' := F.step e a
        refine ⟨p, q, vs, ws, rfl, SqL.of ha, SqL.of hb, k _ H' e a fun Z' hZ => ⟨fun H e => ⟨vs, ws, atp e, atq e, ?_⟩, fun i H l e => ?_, fun i H x H2 d hd e dm y => ?_⟩⟩
        · rw [hr.length, hs.length, List.length_map, List.length_zip]; omega
        · rw [List.length_map, List.length_zip] at l
          obtain ⟨v, e1, _⟩ := hr.get (List.getElem?_eq_getElem (l := xs) (i := i) (by omega))
          obtain ⟨w, e2, _⟩ := hs.get (List.getElem?_eq_getElem (l := ys) (i := i) (by omega))
          exact ⟨vs, ws, v, w, atp e, atq e, e1, e2⟩
        · obtain ⟨T, x1, y1, rfl, nT, rfl, f1, f2⟩ := y
          rw [List.getElem?_map] at hd
          cases qz : (xs.zip ys)[i]? with
          | none => rw [qz] at hd; cases hd
          | some pr =>
            rw [qz] at hd
            cases hd
            have hz := List.getElem?_zip_eq_some.mp qz
            obtain ⟨v, e1, rv⟩ := (hZ.all hr).get hz.1
            obtain ⟨w2, e2, rw'⟩ := (hZ.all hs).get hz.2
            have g1 := f1 vs (atp e)
            have g2 := f2 ws (atq e)
            rw [e1] at g1
            rw [e2] at g2
            cases g1
            cases g2
            have sm : Same H (upd H T (.tup [x1, y1])) := same_new nT
            refine ⟨sm, .tup ?_ upd_same ?_⟩
            · exact dm.av nT
            · exact .cons ((rv.mono (e.sub hZ.sub) fun _ z => z).same sm) (.cons ((rw'.mono (e.sub hZ.sub) fun _ z => z).same sm) .nil)

/-! ### loops -/
variable {os' ob : List (Nat × Bool)} {tb : TS} {gb : Env → DM Fl} {tg : TG} {f : D → Env → Option Env} {vs : List Nat} {tt : TT} {gt : Env → DM Bool}
def forD (f : D → Env → Option Env) (g : Env → DM Fl) : List D → Env → DM Fl
  | [], ρ => pure (.nx ρ)
  | d :: ds, ρ => liftO (f d ρ) >>= fun ρ1 => g ρ1 >>= fun fl => match fl with
    | .nx ρ2 => forD f g ds ρ2
    | .ct ρ2 => forD f g ds ρ2
    | .bk ρ2 => pure (.nx ρ2)
    | .rt d => pure (.rt d)
theorem dom_W {κ : Addr} {G : Rg} {H0 : Hp} {B : List (Nat × Addr)} {Z0 : List Addr} {O : List Own} {ρ : Env} {s : DSt} {σ : L2.St} {H : Hp} (F : Fr κ G H0 B Z0 O os ρ s σ H) : ∀ a ∈ wof G (bse O), a ∈ adr O ++ Z0 := fun a ha => by
  rcases List.mem_append.mp ha with h | h
  · exact F.sub a h
  · obtain ⟨p, hp, rfl⟩ := List.mem_map.mp h
    obtain ⟨o, ho, rfl⟩ := List.mem_map.mp hp
    exact List.mem_append_left _ (mem_adr ho)
theorem es_for {wi : TI} {gi : Env → DM (List D)} (hi : EvI cl E os true wi gi) (hg : EvG (clr os) vs tg f) (hb : EvS cl E (clr os) (clr os) (clr os) tb gb) :
    EvS cl E os os ob (tFor wi tg tb) (fun ρ => gi ρ >>= fun its => forD f gb its ρ) := fun {G H0 B Z0 O ρ s σ H} D F w => by
  refine hi _ F (w.bind.mono (fun its s1 k J H1 e a it => ?_) fun _ _ k H' e => k H' (F.wext e))
  have F1 := F.step e a
  have IT := it _ (.inl rfl)
  refine ⟨fun i m σ2 H2 => m + i = its.length ∧ ∃ O' ρ' s', Fr cl.reg G H1 (bse O) Z0 O' (clr os) ρ' s' σ2 H2 ∧ Wp (forD f gb (its.drop i) ρ' s') (PostS cl.reg G H0 B Z0 D os ob) (fun e s' => ∀ H', Ext G (wof G B) H0 H' → G.A s' H' → E (.ref (cl e)) none H'),
    ⟨its.length, rfl, clrO O, ρ, s1, F1.base, k⟩, fun i m σ2 H2 ⟨hm, O', ρ', s', F2, k2⟩ => ?_⟩
  have ew : Ext G (adr O ++ Z0) H1 H2 := F2.ext.sub (dom_W F1)
  by_cases hl : i < its.length
  · refine .inr ⟨IT.go i H2 hl ew, fun σ3 H3 => ∃ m', m' < m ∧ m' + (i + 1) = its.length ∧ ∃ O' ρ' s', Fr cl.reg G H1 (bse O) Z0 O' (clr os) ρ' s' σ3 H3 ∧ Wp (forD f gb (its.drop (i + 1)) ρ' s') (PostS cl.reg G H0 B Z0 D os ob) (fun e s' => ∀ H', Ext G (wof G B) H0 H' → G.A s' H' → E (.ref (cl e)) none H'),
      fun _ _ h => h, fun x H3 y => ?_⟩
    have dr : its.drop i = its[i] :: its.drop (i + 1) := List.drop_eq_getElem_cons hl
    rw [dr] at k2
    obtain ⟨ρ1, e1, k3⟩ := wp_liftO (Wp.bind (x := liftO (f its[i] ρ')) k2)
    have O'e : O' = clrO O := same_own (F2.sh.trans F1.base.sh.symm) F1.oi F2.onf
    have dm2 : dom G (adr O ++ Z0) H2 := by
      have := F2.domZ
      rw [O'e, adr_clr] at this
      exact this
    obtain ⟨sm, rp⟩ := IT.yld i H2 x H3 its[i] (List.getElem?_eq_getElem hl) ew dm2 y
    have F3 := F2.step (Same.ext sm) (F2.same sm)
    refine hg x its[i] ρ1 _ F3 (by rw [O'e, adr_clr]; exact rp) e1 fun σ4 _ F4 => ?_
    refine hb _ F4 ((Wp.bind k3).mono (fun fl s5 k5 => ?_) fun er s5 k5 H' e5 a5 => k5 H' (Ext.unbase F1 e5) a5)
    cases fl with
    | nx ρ2 => exact fun O6 σ6 H6 F6 => ⟨m - 1, by omega, by omega, O6, ρ2, s5, F6, k5⟩
    | ct ρ2 => exact fun O6 σ6 H6 F6 => ⟨m - 1, by omega, by omega, O6, ρ2, s5, F6, k5⟩
    | bk ρ2 => exact fun O6 σ6 H6 F6 => wp_pure k5 _ _ _ (Fr.unbase F1 F6)
    | rt d => exact fun v H6 e6 a6 r6 => wp_pure k5 v H6 (Ext.unbase F1 e6) a6 r6
  · have hn : its.drop i = [] := List.drop_eq_nil_of_le (by omega)
    rw [hn] at k2
    have hie : i = its.length := by omega
    refine .inl ⟨by rw [hie]; exact IT.stop H2 ew, ?_⟩
    exact wp_pure k2 _ _ _ (Fr.unbase F1 F2)
def whileD (c : Env → DM Bool) (g : Env → DM Fl) : Nat → Env → DM Fl
  | 0, _ => stuck
  | n + 1, ρ => c ρ >>= fun k => if k = true then g ρ >>= fun fl => match fl with
    | .nx ρ2 => whileD c g n ρ2
    | .ct ρ2 => whileD c g n ρ2
    | .bk ρ2 => pure (.nx ρ2)
    | .rt d => pure (.rt d)
    else pure (.nx ρ)
theorem es_while (n : Nat) (hc : EvT cl E (clr os) tt gt) (hb : EvS cl E (clr os) (clr os) (clr os) tb gb) : EvS cl E os os ob (tWhile tt tb) (whileD gt gb n) := fun {G H0 B Z0 O ρ s σ H} D F w => by
  refine ⟨fun m σ2 H2 => ∃ O' ρ' s', Fr cl.reg G H (bse O) Z0 O' (clr os) ρ' s' σ2 H2 ∧ Wp (whileD gt gb m ρ' s') (PostS cl.reg G H0 B Z0 D os ob) (fun e s' => ∀ H', Ext G (wof G B) H0 H' → G.A s' H' → E (.ref (cl e)) none H'), ⟨n, clrO O, ρ, s, F.base, w⟩,
    fun m σ2 H2 ⟨O', ρ', s', F2, k2⟩ => ?_⟩
  cases m with
  | zero => exact k2.elim
  | succ m =>
    refine hc _ F2 ((Wp.bind (x := gt ρ') k2).mono (fun kk s3 k3 H3 e3 a3 => ?_) fun _ _ k3 H' e3 a3 => k3 H' (Ext.unbase F (F2.wext e3)) a3)
    have F3 := F2.step e3 a3
    cases kk with
    | false =>
      rw [if_neg Bool.false_ne_true] at k3 ⊢
      exact wp_pure k3 _ _ _ (Fr.unbase F F3)
    | true =>
      rw [if_pos rfl] at k3 ⊢
      refine ⟨fun σ4 H4 => ∃ O' ρ' s', Fr cl.reg G H (bse O) Z0 O' (clr os) ρ' s' σ4 H4 ∧ Wp (whileD gt gb m ρ' s') (PostS cl.reg G H0 B Z0 D os ob) (fun e s' => ∀ H', Ext G (wof G B) H0 H' → G.A s' H' → E (.ref (cl e)) none H'), fun σ4 H4 h => ⟨m, Nat.lt_succ_self _, h⟩, ?_⟩
      refine hb _ F3 ((Wp.bind k3).mono (fun fl s5 k5 => ?_) fun er s5 k5 H' e5 a5 => k5 H' (Ext.unbase F e5) a5)
      cases fl with
      | nx ρ2 => exact fun O6 σ6 H6 F6 => ⟨O6, ρ2, s5, F6, k5⟩
      | ct ρ2 => exact fun O6 σ6 H6 F6 => ⟨O6, ρ2, s5, F6, k5⟩
      | bk ρ2 => exact fun O6 σ6 H6 F6 => wp_pure k5 _ _ _ (Fr.unbase F F6)
      | rt d => exact fun v H6 e6 a6 r6 => wp_pure k5 v H6 (Ext.unbase F e6) a6 r6
/-! ### assignments in place -/
theorem es_aug {i : Nat} {df : D → D → Option D} (hn : (os.map (·.1)).contains i = false) (h : Ev cl E os te true ge) :
    EvS cl E os os ob (tAug i te (rD df)) (fun ρ => getE i ρ >>= fun x => ge ρ >>= fun y => liftO (df x y) >>= fun z => liftO (setE i z ρ) >>= fun ρ' => pure (.nx ρ')) := fun {G H0 B Z0 O ρ s σ H} D F w => by
  obtain ⟨x, ex, w⟩ := wp_liftO w.bind
  have hd : ρ[i]? = some (some x) := by
    cases q : ρ[i]? with
    | none => rw [q] at ex; cases ex
    | some x => rw [q] at ex; exact congrArg some ex
  obtain ⟨v, e1, r⟩ := F.var i x hd (not_own F hn)
  refine ⟨v, e1, h _ F (w.bind.mono (fun d s' k y H' e a ry => ?_) fun _ _ k H' e => k H' (F.wext e))⟩
  obtain ⟨z, ez, k⟩ := wp_liftO k.bind
  obtain ⟨ρ', eρ, k⟩ := wp_liftO k.bind
  obtain ⟨hl, rfl⟩ := setE_some eρ
  have F1 := F.step e a
  refine ⟨G, _, x, d, z, F1.domZ, r.ext F.sub e, ry, ez, fun u H2 e2 r2 => ?_⟩
  have F2 := F1.step (Same.ext e2) (F1.same e2)
  exact wp_pure k _ _ _ (F2.set hl (not_own F2 hn) r2)
theorem getE_own {κ : Addr} {G : Rg} {H0 : Hp} {B : List (Nat × Addr)} {Z0 : List Addr} {O : List Own} {ρ : Env} {s : DSt} {σ : L2.St} {H : Hp} {i : Nat} (F : Fr κ G H0 B Z0 O os ρ s σ H) (hn : (os.map (·.1)).contains i = true) :
    ∃ o ∈ O, o.i = i ∧ ∃ ds vs, ρ[i]? = some (some (.lst ds)) ∧ σ[i]? = some (some (.ref o.a)) ∧ H o.a = some (.lst vs) ∧ RepAll G (adr O ++ Z0) H vs ds := by
  have hni : i ∈ ixs O := by
    rw [F.ixe]
    exact List.contains_iff_mem.mp hn
  obtain ⟨o, ho, rfl⟩ := List.mem_map.mp hni
  exact ⟨o, ho, rfl, F.own o ho⟩
def getL (i : Nat) (ρ : Env) : DM (List D) := getE i ρ >>= itemsL
theorem wp_getL {i : Nat} {ρ : Env} {s : DSt} {ds : List D} {Q : List D → DSt → Prop} {Er' : Er → DSt → Prop} (e : ρ[i]? = some (some (.lst ds))) (h : Wp (getL i ρ s) Q Er') : Q ds s := by
  have : getL i ρ = pure ds := by
    unfold getL getE
    rw [e]
    rfl
  rw [this] at h
  exact h
/-- x.append(e), x owned -/
theorem es_app {i : Nat} (hn : (os.map (·.1)).contains i = true) (h : Ev cl E os te true ge) :
    EvS cl E os os ob (tDrop (tBM K "list" rAppend (tVar i) (tCons te tNil))) (fun ρ => ge ρ >>= fun d => getL i ρ >>= fun ds => lenOk (ds ++ [d]) >>= fun ds' => liftO (setE i (.lst ds') ρ) >>= fun ρ' => pure (.nx ρ')) := fun {G H0 B Z0 O ρ s σ H} D F w => by
  obtain ⟨o, ho, rfl, ds, vs, e1, e2, e3, r⟩ := getE_own F hn
  refine ⟨_, e2, .inl ⟨rfl, vs, SqL.of e3⟩, h _ F (w.bind.mono (fun d s' k y H' e a ry => ?_) fun _ _ k H' e => k H' (F.wext e))⟩
  obtain ⟨hlen, k⟩ := wp_lenOk (wp_getL e1 k.bind).bind
  obtain ⟨ρ', eρ, k⟩ := wp_liftO k.bind
  obtain ⟨hl, rfl⟩ := setE_some eρ
  have F1 := F.step e a
  have e3' := e.k _ _ (F.oav ho) e3
  refine ⟨o.a, vs, y, rfl, rfl, e3', ?_, ?_⟩
  · rw [r.length]
    rw [List.length_append] at hlen
    exact lim_lt hlen
  · exact wp_pure k _ _ _ (F1.write ho hl ((r.ext F.sub e).append (.one ry)))
/-- x[e] = d, x owned -/
theorem ixN_lt {n : Nat} {i : Int} {j : Nat} (h : ixN n i = some j) : j < n := (ixN_seq h).2.1
theorem es_sub {i : Nat} {ti : TE} {gi : Env → DM D} (hn : (os.map (·.1)).contains i = true) (h : Ev cl E os te true ge) (h2 : Ev cl E os ti false gi) :
    EvS cl E os os ob (tAsg te (gSub (tVar i) ti rSetL)) (fun ρ => ge ρ >>= fun d => gi ρ >>= fun ix => toI ix >>= fun k => getL i ρ >>= fun ds => liftO (ixN ds.length k) >>= fun j => liftO (setE i (.lst (ds.set j d)) ρ) >>= fun ρ' => pure (.nx ρ')) := fun {G H0 B Z0 O ρ s σ H} D F w => by
  refine h _ F (w.bind.mono (fun d s1 k v H1 e a r1 => ?_) fun _ _ k H' e => k H' (F.wext e))
  have F1 := F.step e a
  obtain ⟨o, ho, rfl, ds, vs, e1, e2, e3, r⟩ := getE_own F1 hn
  refine ⟨_, e2, h2 _ F1 (k.bind.mono (fun ix s2 k2 y H2 e4 a4 ry => ?_) fun _ _ k H' e => k H' (F1.wext e))⟩
  obtain ⟨ii, rfl, k3⟩ := wp_toI k2.bind
  have k4 := wp_getL e1 k3.bind
  obtain ⟨j, ej, k5⟩ := wp_liftO k4.bind
  obtain ⟨ρ', eρ, k6⟩ := wp_liftO k5.bind
  obtain ⟨hl, rfl⟩ := setE_some eρ
  have F2 := F1.step e4 a4
  have e3' := e4.k _ _ (F1.oav ho) e3
  refine ⟨o.a, vs, ii, j, rfl, rep_int ry, e3', by rw [r.length]; exact ej, ?_⟩
  exact wp_pure k6 _ _ _ (F2.write ho hl ((r.ext F1.sub e4).set j (r1.ext F1.sub e4)))
/-- x += list, x owned -/
theorem es_augL {i : Nat} (hn : (os.map (·.1)).contains i = true) (h : Ev cl E os te true ge) :
    EvS cl E os os ob (tAug i te rExt2) (fun ρ => ge ρ >>= fun d => itemsL d >>= fun es => getL i ρ >>= fun ds => lenOk (ds ++ es) >>= fun ds' => liftO (setE i (.lst ds') ρ) >>= fun ρ' => pure (.nx ρ')) := fun {G H0 B Z0 O ρ s σ H} D F w => by
  obtain ⟨o, ho, rfl, ds, vs, e1, e2, e3, r⟩ := getE_own F hn
  refine ⟨_, e2, h _ F (w.bind.mono (fun d s' k y H' e a ry => ?_) fun _ _ k H' e => k H' (F.wext e))⟩
  cases d with
  | lst es =>
    have k := wp_pure k.bind
    obtain ⟨hlen, k⟩ := wp_lenOk (wp_getL e1 k.bind).bind
    obtain ⟨ρ', eρ, k⟩ := wp_liftO k.bind
    obtain ⟨hl, rfl⟩ := setE_some eρ
    have F1 := F.step e a
    have e3' := e.k _ _ (F.oav ho) e3
    obtain ⟨q, ws, rfl, nq, hq, hs⟩ := rep_lst ry
    refine ⟨o.a, q, vs, ws, rfl, rfl, e3', hq, ?_, ?_⟩
    · rw [r.length, hs.length, ← List.length_append]; exact lim_le hlen
    · have hself : (σ.set o.i (some (.ref o.a))) = σ := by
        refine List.ext_getElem? fun j => ?_
        by_cases ej : j = o.i
        · subst ej
          rw [List.getElem?_set_self (by rw [F.len]; exact hl), e2]
        · rw [List.getElem?_set_ne (Ne.symm ej)]
      show D.nx (σ.set o.i (some (V.ref o.a))) _
      rw [hself]
      exact wp_pure k _ _ _ (F1.write ho hl ((r.ext F.sub e).append hs))
  | _ => exact k.bind.elim
theorem es_raise {e : Er} : EvS cl E os os' ob (fun _ _ H => E (.ref (cl e)) none H) (fun _ => throwD e) := fun D F w => w _ F.ext F.st
end

/-! ### comprehensions -/
section
mutual
theorem Rep.reg {G G' : Rg} {Z : List Addr} {H : Hp} (hg : G.hv = G'.hv) (hr : G.R = G'.R) : ∀ {v : V} {d : D}, Rep G Z H v d → Rep G' Z H v d
  | _, .non, h => by cases h; exact .non
  | _, .bl b, h => by cases h; exact .bl b
  | _, .int i, h => by cases h; exact .int i
  | _, .str x, h => by cases h; exact .str x
  | _, .lst ds, h => by
    cases h with
    | lst na ha h2 => exact .lst ⟨na.1, by rw [← hr]; exact na.2⟩ ha (RepAll.reg hg hr h2)
  | _, .tup ds, h => by
    cases h with
    | tup na ha h2 => exact .tup ⟨na.1, by rw [← hr]; exact na.2⟩ ha (RepAll.reg hg hr h2)
  | _, .hd n, h => by
    cases h with
    | hd e => exact .hd (by rw [← hg]; exact e)
  | _, .ty n, h => by cases h; exact .ty n
  | _, .dk ks, h => by
    cases h with
    | dk na ha => exact .dk ⟨na.1, by rw [← hr]; exact na.2⟩ ha
theorem RepAll.reg {G G' : Rg} {Z : List Addr} {H : Hp} (hg : G.hv = G'.hv) (hr : G.R = G'.R) : ∀ {vs : List V} {ds : List D}, RepAll G Z H vs ds → RepAll G' Z H vs ds
  | _, [], h => by cases h; exact .nil
  | _, d :: ds, h => by
    cases h with
    | cons h1 h2 => exact .cons (Rep.reg hg hr h1) (RepAll.reg hg hr h2)
end
/-- with one object more that may not change -/
def Rg.plus (G : Rg) (D : Addr) (o : HO) (hD : D ∉ G.Y) : Rg where
  Y := D :: G.Y
  P := G.P
  C := G.C
  R := G.R
  A := fun s H => G.A s H ∧ H D = some o ∧ ¬ G.R H D
  hv := G.hv
  dr := fun v hv => by
    obtain ⟨d, l, e, hd, hl, ne, h1, h2, h⟩ := G.dr v hv
    refine ⟨d, l, e, List.mem_cons_of_mem _ hd, List.mem_cons_of_mem _ hl, ne, h1, h2, fun s H a => ?_⟩
    obtain ⟨g1, g2, g3⟩ := h s H a.1
    refine ⟨g1, g2, fun ns c => ⟨g3 ns c, ?_, fun r => a.2.2 (h1 _ _ _ (h2 _ _ _ r))⟩⟩
    rw [upd_ne (fun (q : D = l) => hD (by rw [q]; exact hl)), upd_ne (fun (q : D = d) => hD (by rw [q]; exact hd))]
    exact a.2.1
  ob := fun v hv => by
    obtain ⟨x, dx, c, e, hx, hc, hR, h⟩ := G.ob v hv
    refine ⟨x, dx, c, e, List.mem_cons_of_mem _ hx, hc, hR, fun s H a => ?_⟩
    obtain ⟨⟨l, g1, g2, g3, g4⟩, g5, g6⟩ := h s H a.1
    have nl : l ≠ D := fun z => a.2.2 ((hR H l _ g1 D).mpr z.symm)
    have nx : D ≠ x := fun z => hD (z ▸ hx)
    refine ⟨⟨l, g1, g2, fun z => (List.mem_cons.mp z).elim nl g3, g4⟩, g5, fun H' n l' rr k1 k2 k3 k4 k5 => ⟨g6 H' n l' rr (fun a n1 n2 n3 => k1 a n1 n2 (n3.imp (List.mem_cons_of_mem _) id)) k2 k3 (fun z => k4 (List.mem_cons_of_mem _ z)) k5, ?_, fun r => ?_⟩⟩
    · rw [k1 D nx a.2.2 (.inl List.mem_cons_self)]; exact a.2.1
    · have := (hR H' l' _ k2 D).mp r
      exact k4 (this ▸ List.mem_cons_self)
  dep := fun s H H' h a => ⟨G.dep s H H' (fun x hx => h x (hx.imp (List.mem_cons_of_mem _) id)) a.1, (h D (.inl List.mem_cons_self)).trans a.2.1, fun r => a.2.2 (G.rd H H' (fun x hx => h x (.inl (List.mem_cons_of_mem _ hx))) D r)⟩
  inY := fun s H a x hx => by
    rcases hx with hx | hx
    · rcases List.mem_cons.mp hx with rfl | hx
      · rw [a.2.1]; exact Option.some_ne_none _
      · exact G.inY s H a.1 x (.inl hx)
    · exact G.inY s H a.1 x (.inr hx)
  rs := G.rs
  rd := fun H H' h => G.rd H H' fun a ha => h a (List.mem_cons_of_mem _ ha)
  r0 := G.r0
  rcn := fun v s H h a => G.rcn v s H h a.1
variable {cl : Cl} {E : XK} {os : List (Nat × Bool)} {te tk : TE} {ge gk : Env → DM D} {tt : TT} {gt : Env → DM Bool} {tg : TG} {f : D → Env → Option Env} {vs : List Nat} {w : Bool} {wi : TI} {gi : Env → DM (List D)}
def compD (f : D → Env → Option Env) (c : Env → DM Bool) (e : Env → DM D) (ρ : Env) : List D → DM (List D)
  | [] => pure []
  | d :: ds => liftO (f d ρ) >>= fun ρ1 => noEr (c ρ1) >>= fun k => if k = true then noEr (e ρ1) >>= fun y => compD f c e ρ ds >>= fun ys => pure (y :: ys) else compD f c e ρ ds
theorem et_yes : EvT cl E os tYes (fun _ => pure true) := fun Q F k => k _ (Ext.refl _ _) F.st
/-- the frame of a comprehension's turn: the new list at D -/
theorem Fr.blk {κ : Addr} {G : Rg} {H0 : Hp} {B : List (Nat × Addr)} {Z0 : List Addr} {O : List Own} {ρ : Env} {s s' : DSt} {σ : L2.St} {H H2 : Hp} {D : Addr} {o : HO} (F : Fr κ G H0 B Z0 O os ρ s σ H) (hv : ∀ p ∈ os, vs.contains p.1 = false) (hD : H D = none)
    (e : Ext G G.Y H H2) (a2 : G.A s' H2) (h2 : H2 D = some o) (nR : ¬ G.R H2 D) (nY : D ∉ G.Y) : Fr κ (G.plus D o nY) H2 (bse O) (D :: Z0) (clrO O) (clr os) (wipeE ρ vs) s' (wipe σ vs) H2 := by
  have F1 := F.step e a2
  have FB := F1.base
  have nD : D ∉ adr O ++ Z0 := fun z => F.domZ D (.inl z) hD
  have nP : D ∉ G.P := fun z => G.inY s H F.st D (.inr (.inl z)) hD
  have nv : ∀ o ∈ O, o.i ∉ vs := fun o ho z => by
    have hp : (o.i, o.fr) ∈ os := by rw [← F.sh]; exact List.mem_map.mpr ⟨o, ho, rfl⟩
    have := hv _ hp
    rw [List.contains_iff_mem.mpr z] at this
    cases this
  refine ⟨FB.sh, Ext.refl _ _, ⟨a2, h2, nR⟩, F.cc, fun a ha => ?_, fun a ha z => ?_, FB.wy, FB.w0, fun a ha => ?_, fun o ho z => ?_, FB.op, FB.onr, FB.ofr, FB.onf, FB.oa, FB.oi, ?_, fun i d h n => ?_, fun o ho => ?_⟩
  · rcases List.mem_cons.mp ha with rfl | ha
    · exact List.mem_cons_self
    · exact List.mem_cons_of_mem _ (F.yz a ha)
  · rcases List.mem_cons.mp z with rfl | z
    · exact nP ha
    · exact F.pz a ha z
  · rcases List.mem_cons.mp ha with rfl | ha
    · rw [h2]; exact Option.some_ne_none _
    · exact FB.z0 a ha
  · rcases List.mem_cons.mp z with z | z
    · obtain ⟨o', ho', rfl⟩ := List.mem_map.mp ho
      exact nD (List.mem_append_left _ (z ▸ mem_adr (o := o') ho'))
    · exact FB.oz o ho z
  · rw [wipe_length, wipeE_length]; exact F.len
  · rw [wipeE_get] at h
    split at h
    · split at h <;> cases h
    · rename_i hnv
      rw [ixs_clr] at n
      obtain ⟨v, e1, r⟩ := F.var i d h n
      refine ⟨v, by rw [wipe_get, if_neg hnv]; exact e1, ?_⟩
      rw [adr_clr]
      refine Rep.reg (G := G) (G' := G.plus D o nY) rfl rfl (((Rep.more hD r).ext (fun x hx => List.mem_cons_of_mem _ (F.sub x hx)) e).low fun x hx => ?_)
      rcases List.mem_append.mp hx with hx | hx
      · exact List.mem_cons_of_mem _ (List.mem_append_left _ hx)
      · rcases List.mem_cons.mp hx with rfl | hx
        · exact List.mem_cons_self
        · exact List.mem_cons_of_mem _ (List.mem_append_right _ hx)
  · obtain ⟨o', ho', rfl⟩ := List.mem_map.mp ho
    obtain ⟨ds, us, e1, e2, e3, r⟩ := F.own o' ho'
    rw [adr_clr]
    refine ⟨ds, us, by rw [wipeE_get, if_neg (nv o' ho')]; exact e1, by rw [wipe_get, if_neg (nv o' ho')]; exact e2, e.k _ _ (F.oav (o := o') ho') e3, ?_⟩
    refine RepAll.reg (G := G) (G' := G.plus D o nY) rfl rfl (((RepAll.more hD r).ext (fun x hx => List.mem_cons_of_mem _ (F.sub x hx)) e).low fun x hx => ?_)
    rcases List.mem_append.mp hx with hx | hx
    · exact List.mem_cons_of_mem _ (List.mem_append_left _ hx)
    · rcases List.mem_cons.mp hx with rfl | hx
      · exact List.mem_cons_self
      · exact List.mem_cons_of_mem _ (List.mem_append_right _ hx)
end
end DL

namespace DL
open PySem PySem.Spec PyProof.Rows L2
section
variable {cl : Cl} {E : XK} {os : List (Nat × Bool)} {te tk : TE} {ge gk : Env → DM D} {tt : TT} {gt : Env → DM Bool} {tg : TG} {f : D → Env → Option Env} {vs : List Nat} {w : Bool} {wi : TI} {gi : Env → DM (List D)}
theorem EvN.ev {b : Bool} {gl : Env → DM (List D)} (h : EvN cl E os te gl) : Ev cl E os te b (fun ρ => gl ρ >>= fun ds => pure (.lst ds)) := fun {G H0 B Z0 O ρ s σ H} Q F k => by
  refine h _ F (k.bind.mono (fun ds s' k p us H' e hp nr hp' a r => ?_) fun _ _ k => k)
  refine wp_pure k _ H' e a (.lst ⟨fun z => ?_, nr⟩ hp' (r.low fun x hx => List.mem_cons_of_mem _ (bz_sub' x hx)))
  exact F.domZ p (.inl (bz_sub' p z)) hp
theorem ev_lc (hv : (os.all fun p => !vs.contains p.1) = true) (hi : EvI cl E os w wi gi) (hg : EvG (clr os) vs tg f) (ht : EvT cl E0 (clr os) tt gt) (he : Ev cl E0 (clr os) te true ge) :
    EvN cl E os (tLc wi tg tt te vs) (fun ρ => gi ρ >>= fun its => lenOk its >>= fun its => compD f gt ge (wipeE ρ vs) its) := fun {G H0 B Z0 O ρ s σ H} Q F k => by
  have hv' : ∀ p ∈ os, vs.contains p.1 = false := fun p hp => by
    have := List.all_eq_true.mp hv p hp
    simpa using this
  refine hi _ F (k.bind.mono (fun its s1 k J H1 e a it D hD => ?_) fun _ _ k => k)
  obtain ⟨hlen, k⟩ := wp_lenOk k.bind
  have F1 := F.step e a
  have IT := it (D :: (adr O ++ Z0)) (.inr ⟨D, hD, rfl⟩)
  have nD : D ∉ adr O ++ Z0 := fun z => F1.domZ D (.inl z) hD
  have nDY : D ∉ G.Y := fun z => nD (F.sub D z)
  have hD0 : H D = none := fresh_back F s1 a e hD
  have sub' : ∀ x ∈ adr O ++ Z0, x ∈ D :: (adr O ++ Z0) := fun x hx => List.mem_cons_of_mem _ hx
  refine ⟨fun i m H2 => m + i = its.length ∧ ∃ s' aV aD, H2 D = some (.lst aV) ∧ ¬ G.R H2 D ∧ RepAll G (D :: (adr O ++ Z0)) H2 aV aD ∧ aD.length ≤ i ∧ Ext G G.Y H1 H2 ∧ G.A s' H2 ∧
      Wp (compD f gt ge (wipeE ρ vs) (its.drop i) s') (fun ys s' => ∀ p vs H', Ext G G.Y H H' → H p = none → ¬ G.R H' p → H' p = some (.lst vs) → G.A s' H' → RepAll G (p :: (adr O ++ Z0)) H' vs (aD ++ ys) → Q (.ref p) H') (fun e s' => ∀ H', Ext G G.Y H H' → G.A s' H' → E (.ref (cl e)) none H'),
    ⟨its.length, rfl, s1, [], [], upd_same, (F1.domZ.av hD).2, .nil, Nat.zero_le _, Ext.new hD, F1.same (same_new hD), k⟩, fun i m H2 ⟨hm, s', aV, aD, hD2, nR2, rA, lA, e2, a2, k2⟩ => ?_⟩
  have ew : Ext G (if w then adr O ++ Z0 else G.Y) H1 H2 := by
    cases w with
    | true => exact e2.sub F.sub
    | false => exact e2
  by_cases hl : i < its.length
  · refine .inr ⟨IT.go i H2 hl ew, fun H3 => ∃ m', m' < m ∧ m' + (i + 1) = its.length ∧ ∃ s' aV aD, H3 D = some (.lst aV) ∧ ¬ G.R H3 D ∧ RepAll G (D :: (adr O ++ Z0)) H3 aV aD ∧ aD.length ≤ i + 1 ∧ Ext G G.Y H1 H3 ∧ G.A s' H3 ∧
      Wp (compD f gt ge (wipeE ρ vs) (its.drop (i + 1)) s') (fun ys s' => ∀ p vs H', Ext G G.Y H H' → H p = none → ¬ G.R H' p → H' p = some (.lst vs) → G.A s' H' → RepAll G (p :: (adr O ++ Z0)) H' vs (aD ++ ys) → Q (.ref p) H') (fun e s' => ∀ H', Ext G G.Y H H' → G.A s' H' → E (.ref (cl e)) none H'), fun _ h => h, fun x H3 y => ?_⟩
    have dr : its.drop i = its[i] :: its.drop (i + 1) := List.drop_eq_getElem_cons hl
    rw [dr] at k2
    obtain ⟨ρ1, e1, k3⟩ := wp_liftO (Wp.bind (x := liftO (f its[i] (wipeE ρ vs))) k2)
    have dm2 : dom G (D :: (adr O ++ Z0)) H2 := fun x hx => by
      rcases hx with hx | hx
      · rcases List.mem_cons.mp hx with rfl | hx
        · rw [hD2]; exact Option.some_ne_none _
        · exact (F1.step e2 a2).domZ x (.inl hx)
      · exact (F1.step e2 a2).domZ x (.inr hx)
    obtain ⟨sm, rp⟩ := IT.yld i H2 x H3 its[i] (List.getElem?_eq_getElem hl) ew dm2 y
    have e3 : Ext G G.Y H1 H3 := e2.trans (Same.ext sm)
    have a3 : G.A s' H3 := (F1.step e2 a2).same sm
    have nR3 : ¬ G.R H3 D := fun r => nR2 (G.rs _ _ sm D r)
    have FB := F1.blk hv' hD e3 a3 (sm D _ hD2) nR3 nDY
    have toB : ∀ z ∈ adr (clrO O) ++ (D :: Z0), z ∈ D :: (adr O ++ Z0) := fun z hz => by
      rw [adr_clr] at hz
      rcases List.mem_append.mp hz with hz | hz
      · exact List.mem_cons_of_mem _ (List.mem_append_left _ hz)
      · rcases List.mem_cons.mp hz with rfl | hz
        · exact List.mem_cons_self
        · exact List.mem_cons_of_mem _ (List.mem_append_right _ hz)
    have ofB : ∀ z ∈ D :: (adr O ++ Z0), z ∈ adr (clrO O) ++ (D :: Z0) := fun z hz => by
      rw [adr_clr]
      rcases List.mem_cons.mp hz with rfl | hz
      · exact List.mem_append_right _ List.mem_cons_self
      · rcases List.mem_append.mp hz with hz | hz
        · exact List.mem_append_left _ hz
        · exact List.mem_append_right _ (List.mem_cons_of_mem _ hz)
    refine hg x its[i] ρ1 _ FB (Rep.reg (G := G) (G' := G.plus D (.lst aV) nDY) rfl rfl (rp.low toB)) e1 fun σ4 hw F4 => ⟨hw.trans wipe_wipe, ?_⟩
    -- what the turn keeps, but for D
    have keepG : ∀ {Ha Hb : Hp}, Ext (G.plus D (.lst aV) nDY) (G.plus D (.lst aV) nDY).Y Ha Hb → Ext G (D :: G.Y) Ha Hb := fun h => ⟨h.k, h.r, h.n⟩
    have toP : ∀ x ∈ D :: G.Y, x ∈ D :: (adr O ++ Z0) := fun x hx => by
      rcases List.mem_cons.mp hx with rfl | hx
      · exact List.mem_cons_self
      · exact sub' x (F.sub x hx)
    have un : ∀ {H5 : Hp}, Ext G (D :: G.Y) H3 H5 → Ext G G.Y H1 H5 := fun h => ⟨fun z u n q => h.k z u ⟨fun m => (List.mem_cons.mp m).elim (fun r => by rw [r, hD] at q; cases q) n.1, (e3.av (fun _ z => z) n q).2⟩ (e3.k z u n q), fun z r => (h.r z r).elim (e3.r z) fun h => .inr (by
      cases q : H1 z with
      | none => rfl
      | some o => exact absurd h (e3.n z (by rw [q]; exact Option.some_ne_none _))), fun z q => h.n z (e3.n z q)⟩
    refine ht _ F4 ((Wp.noEr (Wp.bind k3)).mono (fun kk s5 k5 H5 e5 a5 => ?_) fun _ _ (h : False) => h.elim)
    have F5 := F4.step e5 a5
    cases kk with
    | false =>
      rw [if_neg Bool.false_ne_true] at k5 ⊢
      exact ⟨m - 1, by omega, by omega, s5, aV, aD, a5.2.1, a5.2.2, rA.mono ((Same.ext sm).trans ((keepG e5).sub toP)) (fun _ h => h), by omega, un (keepG e5), a5.1, k5⟩
    | true =>
      rw [if_pos rfl] at k5 ⊢
      refine he _ F5 ((Wp.noEr (Wp.bind k5)).mono (fun d2 s6 k6 v H6 e6 a6 r6 => ?_) fun _ _ (h : False) => h.elim)
      have e7 : Ext G (D :: G.Y) H3 (upd H6 D (.lst (aV ++ [v]))) := ((keepG e5).trans (keepG e6)).trans (Ext.wr List.mem_cons_self nDY)
      have a7 : G.A s6 (upd H6 D (.lst (aV ++ [v]))) := by
        refine G.dep s6 H6 _ (fun z hz => ?_) a6.1
        rw [upd_ne (fun (r : z = D) => by
          subst r
          rcases hz with hz | hz | hz
          · exact nDY hz
          · exact G.inY s1 H1 F1.st z (.inr (.inl hz)) hD
          · exact a6.2.2 hz)]
      refine ⟨aV, a6.2.1, ?_, m - 1, by omega, by omega, s6, aV ++ [v], aD ++ [d2], upd_same, fun r => a6.2.2 (G.ru _ _ _ nDY _ r), ?_, ?_, un e7, a7, ?_⟩
      · have := rA.length
        have : aV.length < LIM := by omega
        exact lim_lt this
      · refine (rA.mono ((Same.ext sm).trans (e7.sub toP)) (fun _ h => h)).append (.one ?_)
        have r7 : Rep G (D :: (adr O ++ Z0)) H6 v d2 := (Rep.reg (G := G.plus D (.lst aV) nDY) (G' := G) rfl rfl r6).low ofB
        exact r7.mono (Ext.wr List.mem_cons_self nDY) fun _ h => h
      · rw [List.length_append]; simp; omega
      · refine (Wp.bind k6).mono (fun ys s7 k7 => ?_) fun _ _ k => k
        rw [List.append_assoc]
        exact wp_pure k7
  · have hn : its.drop i = [] := List.drop_eq_nil_of_le (by omega)
    rw [hn] at k2
    have hie : i = its.length := by omega
    refine .inl ⟨by rw [hie]; exact IT.stop H2 ew, ?_⟩
    have k3 := wp_pure k2
    rw [List.append_nil] at k3
    exact k3 D aV H2 (e.trans e2) hD0 nR2 hD2 a2 rA

/-! ### a def keeps its promise -/
def runD (n : Nat) (g : Env → DM Fl) (ds : List D) : DM D := g (ds.map some ++ List.replicate (n - ds.length) none) >>= fun fl => match fl with
  | .rt d => pure d
  | .nx _ => pure .non
  | _ => stuck
theorem fn_D {P : Program} {wd : World} {K : PySem.W.Frag} {mg : Str → Option Value} {base : Heap} {x qual : Str} {st : Stmt} {fa : Addr} {fd : FuncData} {N ps : List Str} {k n : Nat} {g : Env → DM Fl} {os' : List (Nat × Bool)} (F : Fun K x qual st fa fd) (S : FnScope N ps (defScope st)) (hn : n = N.length)
    (hb : ∀ (cdv : Value) (A : Around) (outer : List PySem.Env) (s : Shared) (H : Hp) (E : XK), Room k (A.deeper (envOfC qual (defScope st) s.heap.objs.size fa cdv)) →
      ∃ t, PSs (cxOf (L2.CX P wd) P wd K mg base N qual (defScope st) fa cdv A outer s H E) (defBody st) t ∧ EvS cl E [] os' [] t g) : FnOk P wd K mg base (L2.CX P wd) (k + 1) fa fd ps (spD cl ps.length (runD n g)) := by
  subst hn
  refine F.okX S (fun vs H Q E h => h.1) fun cdv A outer s H vs Q E hr h => ?_
  obtain ⟨t, h1, h2⟩ := hb cdv A outer s H E hr
  refine ⟨t, h1, ?_⟩
  obtain ⟨hl, G, Z, ds, s0, hz, hy, hc, ha, hr, w⟩ := h
  have w0 : wof G [] = G.Y := List.append_nil _
  have hsl : (L2.start N vs).length = (ds.map some ++ List.replicate (N.length - ds.length) (none : Option D)).length := by
    unfold L2.start
    simp only [List.length_append, List.length_map, List.length_replicate, hr.length]
  have FR : Fr cl.reg G H [] Z [] [] (ds.map some ++ List.replicate (N.length - ds.length) none) s0 (L2.start N vs) H := by
    refine ⟨rfl, Ext.refl _ _, ha, hc.1, hy, hc.2, fun p hp => absurd hp List.not_mem_nil, fun p hp => absurd hp List.not_mem_nil, fun a h => hz a (.inl h), fun o ho => absurd ho List.not_mem_nil, fun o ho => absurd ho List.not_mem_nil, fun o ho => absurd ho List.not_mem_nil, fun o ho => absurd ho List.not_mem_nil, fun o ho => absurd ho List.not_mem_nil, List.nodup_nil, List.nodup_nil, hsl, fun i d e _ => ?_, fun o ho => absurd ho List.not_mem_nil⟩
    by_cases hi : i < ds.length
    · rw [List.getElem?_append_left (by simpa using hi), List.getElem?_map] at e
      cases q : ds[i]? with
      | none => rw [q] at e; cases e
      | some d' =>
        rw [q] at e
        cases e
        obtain ⟨v, e1, r⟩ := hr.get q
        refine ⟨v, ?_, r⟩
        unfold L2.start
        rw [List.getElem?_append_left (by rw [List.length_map, hr.length]; exact hi), List.getElem?_map, e1]
        rfl
    · rw [List.getElem?_append_right (by simpa using Nat.le_of_not_lt hi), List.getElem?_replicate] at e
      split at e <;> cases e
  refine h2 _ FR ((Wp.bind w).mono (fun fl s1 k1 => ?_) fun e s1 k1 H' e1 a1 => k1 H' (by rw [w0] at e1; exact e1) a1)
  cases fl with
  | nx ρ' => exact fun O' σ' H' F' => wp_pure k1 _ H' (by have := F'.ext; rw [w0] at this; exact this) F'.st .non
  | rt d => exact fun v H' e a r => wp_pure k1 v H' (by rw [w0] at e; exact e) a r
  | bk ρ' => exact k1.elim
  | ct ρ' => exact k1.elim
end
end DL

namespace DL
open PySem PySem.Spec PyProof.Rows L2
/-! ### built-in functions -/
def D.len : List D → Option D
  | [.lst xs] => some (.int xs.length)
  | [.tup xs] => some (.int xs.length)
  | [.str x] => guardO (decide (x.length ≤ LIM)) (some (.int x.length))
  | _ => none
def toInts : List D → Option (List Int)
  | [] => some []
  | .int i :: r => (toInts r).map (i :: ·)
  | _ :: _ => none
def toBls : List D → Option (List Bool)
  | [] => some []
  | .bl i :: r => (toBls r).map (i :: ·)
  | _ :: _ => none
theorem toInts_eq : ∀ {ds : List D} {ns : List Int}, toInts ds = some ns → ds = ns.map D.int
  | [], ns, h => by cases h; rfl
  | d :: ds, ns, h => by
    cases d with
    | int i =>
      simp only [toInts] at h
      cases q : toInts ds with
      | none => rw [q] at h; cases h
      | some ms => rw [q] at h; cases h; rw [toInts_eq q]; rfl
    | _ => cases h
theorem toBls_eq : ∀ {ds : List D} {ns : List Bool}, toBls ds = some ns → ds = ns.map D.bl
  | [], ns, h => by cases h; rfl
  | d :: ds, ns, h => by
    cases d with
    | bl i =>
      simp only [toBls] at h
      cases q : toBls ds with
      | none => rw [q] at h; cases h
      | some ms => rw [q] at h; cases h; rw [toBls_eq q]; rfl
    | _ => cases h
theorem toInts_map (ns : List Int) : toInts (ns.map D.int) = some ns := by
  induction ns with
  | nil => rfl
  | cons n ns ih => simp only [List.map_cons, toInts, ih]; rfl
theorem toBls_map (ns : List Bool) : toBls (ns.map D.bl) = some ns := by
  induction ns with
  | nil => rfl
  | cons n ns ih => simp only [List.map_cons, toBls, ih]; rfl
def D.all : List D → Option D
  | [.lst xs] => (toBls xs).map fun bs => .bl (bs.all id)
  | _ => none
def D.any : List D → Option D
  | [.lst xs] => (toBls xs).map fun bs => .bl (bs.any id)
  | _ => none
def D.sum : List D → Option D
  | [.lst xs] => (toInts xs).map fun bs => .int bs.sum
  | _ => none
def maxI : List Int → Int
  | [] => 0
  | [x] => x
  | x :: y :: r => if maxI (y :: r) < x then x else maxI (y :: r)
def minI : List Int → Int
  | [] => 0
  | [x] => x
  | x :: y :: r => if x < minI (y :: r) then x else minI (y :: r)
theorem maxI_spec : ∀ (ns : List Int), ns ≠ [] → maxI ns ∈ ns ∧ ∀ y ∈ ns, y ≤ maxI ns
  | [], h => absurd rfl h
  | [x], _ => ⟨List.mem_cons_self, fun y hy => by rw [List.mem_singleton.mp hy]; exact Int.le_refl _⟩
  | x :: y :: r, _ => by
    obtain ⟨h1, h2⟩ := maxI_spec (y :: r) (List.cons_ne_nil _ _)
    simp only [maxI]
    split
    · refine ⟨List.mem_cons_self, fun z hz => ?_⟩
      rcases List.mem_cons.mp hz with rfl | hz
      · exact Int.le_refl _
      · have := h2 z hz; omega
    · refine ⟨List.mem_cons_of_mem _ h1, fun z hz => ?_⟩
      rcases List.mem_cons.mp hz with rfl | hz
      · omega
      · exact h2 z hz
theorem minI_spec : ∀ (ns : List Int), ns ≠ [] → minI ns ∈ ns ∧ ∀ y ∈ ns, minI ns ≤ y
  | [], h => absurd rfl h
  | [x], _ => ⟨List.mem_cons_self, fun y hy => by rw [List.mem_singleton.mp hy]; exact Int.le_refl _⟩
  | x :: y :: r, _ => by
    obtain ⟨h1, h2⟩ := minI_spec (y :: r) (List.cons_ne_nil _ _)
    simp only [minI]
    split
    · refine ⟨List.mem_cons_self, fun z hz => ?_⟩
      rcases List.mem_cons.mp hz with rfl | hz
      · exact Int.le_refl _
      · have := h2 z hz; omega
    · refine ⟨List.mem_cons_of_mem _ h1, fun z hz => ?_⟩
      rcases List.mem_cons.mp hz with rfl | hz
      · omega
      · exact h2 z hz
def D.max : List D → Option D
  | [.lst xs] => (toInts xs).bind fun ns => guardO (!ns.isEmpty) (some (.int (maxI ns)))
  | [.int i, .int j] => some (.int (if j > i then j else i))
  | _ => none
def D.min : List D → Option D
  | [.lst xs] => (toInts xs).bind fun ns => guardO (!ns.isEmpty) (some (.int (minI ns)))
  | [.int i, .int j] => some (.int (if j < i then j else i))
  | _ => none
/-- ascending, by insertion -/
def insI (x : Int) : List Int → List Int
  | [] => [x]
  | y :: r => if x ≤ y then x :: y :: r else y :: insI x r
def srtI : List Int → List Int
  | [] => []
  | x :: r => insI x (srtI r)
theorem insI_perm (x : Int) : ∀ l : List Int, (insI x l).Perm (x :: l)
  | [] => .refl _
  | y :: r => by
    simp only [insI]
    split
    · exact .refl _
    · exact ((insI_perm x r).cons y).trans (.swap x y r)
theorem srtI_perm : ∀ l : List Int, (srtI l).Perm l
  | [] => .refl _
  | x :: r => (insI_perm x (srtI r)).trans ((srtI_perm r).cons x)
theorem insI_pw (x : Int) : ∀ l : List Int, l.Pairwise (· ≤ ·) → (insI x l).Pairwise (· ≤ ·)
  | [], _ => List.pairwise_singleton _ _
  | y :: r, h => by
    obtain ⟨h1, h2⟩ := List.pairwise_cons.mp h
    simp only [insI]
    split
    · rename_i hxy
      refine List.pairwise_cons.mpr ⟨fun z hz => ?_, h⟩
      rcases List.mem_cons.mp hz with rfl | hz
      · exact hxy
      · exact Int.le_trans hxy (h1 z hz)
    · rename_i hxy
      refine List.pairwise_cons.mpr ⟨fun z hz => ?_, insI_pw x r h2⟩
      rcases List.mem_cons.mp ((insI_perm x r).mem_iff.mp hz) with rfl | hz
      · omega
      · exact h1 z hz
theorem srtI_pw : ∀ l : List Int, (srtI l).Pairwise (· ≤ ·)
  | [] => .nil
  | x :: r => insI_pw x _ (srtI_pw r)
theorem sorted_eq {l l' : List Int} (p : l.Perm l') (h : l.Pairwise (· ≤ ·)) (h' : l'.Pairwise (· ≤ ·)) : l = l' :=
  p.eq_of_pairwise (fun a b _ _ h1 h2 => Int.le_antisymm h1 h2) h h'
def D.sorted : List D → Option D
  | [.lst xs] => (toInts xs).map fun ns => .lst ((srtI ns).map D.int)
  | _ => none
def D.list : List D → Option D
  | [.lst xs] => some (.lst xs)
  | [.tup xs] => some (.lst xs)
  | _ => none
def D.tuple : List D → Option D
  | [.lst xs] => some (.tup xs)
  | [.tup xs] => some (.tup xs)
  | _ => none
def D.tyn : D → Option String
  | .non => some "NoneType"
  | .bl _ => some "bool"
  | .int _ => some "int"
  | .str _ => some "str"
  | .lst _ => some "list"
  | .tup _ => some "tuple"
  | _ => none
def isTy (t n : String) : Bool := t == n || (t == "bool" && n == "int")
def D.isi : List D → Option D
  | [x, .ty n] => if n ∈ ["int", "bool", "tuple", "list", "str"] then x.tyn.map fun t => .bl (isTy t n) else none
  | _ => none
theorem kit_isTy {t n : String} (ht : t ∈ ["NoneType", "bool", "int", "str", "list", "tuple"]) (hn : n ∈ ["int", "bool", "tuple", "list", "str"]) : kitB t n = some (isTy t n) := by
  have all : (["NoneType", "bool", "int", "str", "list", "tuple"].all fun t => ["int", "bool", "tuple", "list", "str"].all fun n => decide (kitB t n = some (isTy t n))) = true := by decide +kernel
  have h1 := List.all_eq_true.mp all t ht
  exact of_decide_eq_true (List.all_eq_true.mp h1 n hn)
section
variable {X : Cx}
theorem callr_imp {f : Value} {r r' : List V → Hp → VK → Prop} (h : CallR X f r) (k : ∀ xs H Q, r' xs H Q → r xs H Q) : CallR X f r' := fun pins s σ H xs us Q I rx q => h pins s σ H xs us Q I rx (k _ _ _ q)
theorem cd_len : CallR X (.builtin "len") (rDc D.len) := callr_imp call_len fun xs H Q ⟨G, Z, ds, d, hz, r, hf, q⟩ => by
  match ds, r, hf with
  | [.lst ys], .cons r1 .nil, hf =>
    cases hf
    obtain ⟨a, vs, rfl, na, ha, hr⟩ := rep_lst r1
    exact ⟨_, _, rfl, .inl ⟨vs, SqL.of ha, hr.length.symm⟩, q _ H (Same.refl H) (.int _)⟩
  | [.tup ys], .cons r1 .nil, hf =>
    cases hf
    obtain ⟨a, vs, rfl, na, ha, hr⟩ := rep_tup r1
    exact ⟨_, _, rfl, .inr ⟨vs, SqT.of ha, hr.length.symm⟩, q _ H (Same.refl H) (.int _)⟩
  | [.str y], .cons r1 .nil, hf =>
    obtain ⟨c, hf⟩ := guardO_some hf
    cases hf
    rw [rep_str r1]
    exact ⟨_, _, rfl, ⟨lim_le (of_decide_eq_true c), rfl⟩, q _ H (Same.refl H) (.int _)⟩
theorem one_bls {G : Rg} {Z : List Addr} {H : Hp} {xs : List V} {ds : List D} {bs : List Bool} (r : RepAll G Z H xs [.lst ds]) (h : toBls ds = some bs) : ∃ a, xs = [.ref a] ∧ H a = some (.lst (bs.map V.bl)) := by
  cases r with
  | cons r1 r2 =>
    cases r2
    obtain ⟨a, vs, rfl, na, ha, hr⟩ := rep_lst r1
    rw [toBls_eq h] at hr
    exact ⟨a, rfl, by rw [ha, hr.bls]⟩
theorem one_ints {G : Rg} {Z : List Addr} {H : Hp} {xs : List V} {ds : List D} {bs : List Int} (r : RepAll G Z H xs [.lst ds]) (h : toInts ds = some bs) : ∃ a, xs = [.ref a] ∧ H a = some (.lst (bs.map V.int)) := by
  cases r with
  | cons r1 r2 =>
    cases r2
    obtain ⟨a, vs, rfl, na, ha, hr⟩ := rep_lst r1
    rw [toInts_eq h] at hr
    exact ⟨a, rfl, by rw [ha, hr.ints]⟩
theorem cd_all (hc : X.calm = true) : CallR X (.builtin "all") (rDc D.all) := callr_imp (cr_all hc) fun xs H Q ⟨G, Z, ds, d, hz, r, hf, q⟩ => by
  match ds, r, hf with
  | [.lst ys], r, hf =>
    simp only [D.all] at hf
    cases e : toBls ys with
    | none => rw [e] at hf; cases hf
    | some bs =>
      rw [e] at hf; cases hf
      obtain ⟨a, rfl, ha⟩ := one_bls r e
      exact ⟨a, bs, rfl, SqL.of ha, q _ H (Same.refl H) (.bl _)⟩
theorem cd_any (hc : X.calm = true) : CallR X (.builtin "any") (rDc D.any) := callr_imp (cr_any hc) fun xs H Q ⟨G, Z, ds, d, hz, r, hf, q⟩ => by
  match ds, r, hf with
  | [.lst ys], r, hf =>
    simp only [D.any] at hf
    cases e : toBls ys with
    | none => rw [e] at hf; cases hf
    | some bs =>
      rw [e] at hf; cases hf
      obtain ⟨a, rfl, ha⟩ := one_bls r e
      exact ⟨a, bs, rfl, SqL.of ha, q _ H (Same.refl H) (.bl _)⟩
theorem cd_sum (hc : X.calm = true) : CallR X (.builtin "sum") (rDc D.sum) := callr_imp (cr_sum hc) fun xs H Q ⟨G, Z, ds, d, hz, r, hf, q⟩ => by
  match ds, r, hf with
  | [.lst ys], r, hf =>
    simp only [D.sum] at hf
    cases e : toInts ys with
    | none => rw [e] at hf; cases hf
    | some bs =>
      rw [e] at hf; cases hf
      obtain ⟨a, rfl, ha⟩ := one_ints r e
      exact ⟨a, bs, rfl, SqL.of ha, q _ H (Same.refl H) (.int _)⟩
theorem two_ints {G : Rg} {Z : List Addr} {H : Hp} {xs : List V} {i j : Int} (r : RepAll G Z H xs [.int i, .int j]) : xs = [.int i, .int j] := by
  cases r with
  | cons r1 r2 =>
    cases r2 with
    | cons r3 r4 => cases r4; rw [rep_int r1, rep_int r3]
theorem cd_max (hc : X.calm = true) : CallR X (.builtin "max") (rDc D.max) := callr_imp ((cr_max hc).or (call_max2 hc)) fun xs H Q ⟨G, Z, ds, d, hz, r, hf, q⟩ => by
  match ds, r, hf with
  | [.lst ys], r, hf =>
    simp only [D.max] at hf
    cases e : toInts ys with
    | none => rw [e] at hf; cases hf
    | some bs =>
      rw [e] at hf
      obtain ⟨c, hf⟩ := guardO_some hf
      cases hf
      obtain ⟨a, rfl, ha⟩ := one_ints r e
      have hne : bs ≠ [] := fun z => by subst z; cases c
      obtain ⟨h1, h2⟩ := maxI_spec bs hne
      refine .inl ⟨a, bs, rfl, SqL.of ha, List.length_pos_iff.mpr hne, fun m hm hle => ?_⟩
      have : m = maxI bs := Int.le_antisymm (h2 m hm) (hle _ h1)
      rw [this]
      exact q _ H (Same.refl H) (.int _)
  | [.int i, .int j], r, hf =>
    cases hf
    exact .inr ⟨i, j, two_ints r, q _ H (Same.refl H) (.int _)⟩
theorem cd_min (hc : X.calm = true) : CallR X (.builtin "min") (rDc D.min) := callr_imp ((cr_min hc).or (call_min2 hc)) fun xs H Q ⟨G, Z, ds, d, hz, r, hf, q⟩ => by
  match ds, r, hf with
  | [.lst ys], r, hf =>
    simp only [D.min] at hf
    cases e : toInts ys with
    | none => rw [e] at hf; cases hf
    | some bs =>
      rw [e] at hf
      obtain ⟨c, hf⟩ := guardO_some hf
      cases hf
      obtain ⟨a, rfl, ha⟩ := one_ints r e
      have hne : bs ≠ [] := fun z => by subst z; cases c
      obtain ⟨h1, h2⟩ := minI_spec bs hne
      refine .inl ⟨a, bs, rfl, SqL.of ha, List.length_pos_iff.mpr hne, fun m hm hle => ?_⟩
      have : m = minI bs := Int.le_antisymm (hle _ h1) (h2 m hm)
      rw [this]
      exact q _ H (Same.refl H) (.int _)
  | [.int i, .int j], r, hf =>
    cases hf
    exact .inr ⟨i, j, two_ints r, q _ H (Same.refl H) (.int _)⟩
theorem cd_sorted : CallR X (.builtin "sorted") (rDc D.sorted) := callr_imp cr_sortedI fun xs H Q ⟨G, Z, ds, d, hz, r, hf, q⟩ => by
  match ds, r, hf with
  | [.lst ys], r, hf =>
    simp only [D.sorted] at hf
    cases e : toInts ys with
    | none => rw [e] at hf; cases hf
    | some bs =>
      rw [e] at hf
      cases hf
      obtain ⟨a, rfl, ha⟩ := one_ints r e
      refine ⟨a, bs, rfl, SqL.of ha, fun ns' p hp hs hn => ?_⟩
      have e2 : ns' = srtI bs := sorted_eq (hp.trans (srtI_perm bs).symm) hs (srtI_pw bs)
      rw [e2]
      obtain ⟨h1, h2⟩ := newL hz hn (RepAll.of_ints (G := G) (Z := Z) (H := H) (srtI bs))
      exact q _ _ h1 h2
theorem cd_list : CallR X (.type "list") (rDc D.list) := callr_imp call_list_of fun xs H Q ⟨G, Z, ds, d, hz, r, hf, q⟩ => by
  match ds, r, hf with
  | [.lst ys], .cons r1 .nil, hf =>
    cases hf
    obtain ⟨a, vs, rfl, na, ha, hr⟩ := rep_lst r1
    refine ⟨a, vs, rfl, .inl (SqL.of ha), fun l hl => ?_⟩
    obtain ⟨h1, h2⟩ := newL hz hl hr
    exact q _ _ h1 h2
  | [.tup ys], .cons r1 .nil, hf =>
    cases hf
    obtain ⟨a, vs, rfl, na, ha, hr⟩ := rep_tup r1
    refine ⟨a, vs, rfl, .inr (SqT.of ha), fun l hl => ?_⟩
    obtain ⟨h1, h2⟩ := newL hz hl hr
    exact q _ _ h1 h2
theorem tyn_of {G : Rg} {Z : List Addr} {H : Hp} {K : PySem.W.Frag} {v : V} {d : D} {t : String} (r : Rep G Z H v d) (h : d.tyn = some t) : t ∈ ["NoneType", "bool", "int", "str", "list", "tuple"] ∧ TyX K H v (.type t) := by
  cases r with
  | non => cases h; exact ⟨by decide, .base .non⟩
  | bl b => cases h; exact ⟨by decide, .base (.bl b)⟩
  | int b => cases h; exact ⟨by decide, .base (.int b)⟩
  | str b => cases h; exact ⟨by decide, .base (.str b)⟩
  | lst na ha hr => cases h; exact ⟨by decide, .base (.lst ha)⟩
  | tup na ha hr => cases h; exact ⟨by decide, .base (.tup ha)⟩
  | hd => cases h
  | dk => cases h
  | ty => cases h
theorem cd_isi : CallR X (.builtin "isinstance") (rDc D.isi) := callr_imp call_isi fun xs H Q ⟨G, Z, ds, d, hz, r, hf, q⟩ => by
  match ds, r, hf with
  | [x, .ty n], .cons r1 (.cons r2 .nil), hf =>
    simp only [D.isi] at hf
    split at hf
    · rename_i hn
      cases e : x.tyn with
      | none => rw [e] at hf; cases hf
      | some t =>
        rw [e] at hf; cases hf
        obtain ⟨ht, ty⟩ := tyn_of (K := X.K) r1 e
        cases r2
        exact ⟨_, _, _, _, _, rfl, .ty n, ty, kit_ty (kit_isTy ht hn), q _ H (Same.refl H) (.bl _)⟩
    · cases hf
end
end DL

namespace DL
open PySem PySem.Spec PyProof.Rows L2
/-! ### the judgements, closed up -/
structure Ew (cl : Cl) (E : XK) (os : List (Nat × Bool)) (te : TE) (b : Bool) (g : Env → DM D) : Prop where
  run : Ev cl E os te b g
structure EwT (cl : Cl) (E : XK) (os : List (Nat × Bool)) (te : TT) (g : Env → DM Bool) : Prop where
  run : EvT cl E os te g
structure EwA (cl : Cl) (E : XK) (os : List (Nat × Bool)) (te : TA) (b : Bool) (g : Env → DM (List D)) : Prop where
  run : EvA cl E os te b g
structure EwO (cl : Cl) (E : XK) (os : List (Nat × Bool)) (te : TO) (g : Env → DM (Option Int)) : Prop where
  run : EvO cl E os te g
structure EwN (cl : Cl) (E : XK) (os : List (Nat × Bool)) (te : TE) (g : Env → DM (List D)) : Prop where
  run : EvN cl E os te g
structure EwI (cl : Cl) (E : XK) (os : List (Nat × Bool)) (w : Bool) (wi : TI) (g : Env → DM (List D)) : Prop where
  run : EvI cl E os w wi g
structure EwS (cl : Cl) (E : XK) (os os' ob : List (Nat × Bool)) (t : TS) (g : Env → DM Fl) : Prop where
  run : EvS cl E os os' ob t g
structure EwG (os : List (Nat × Bool)) (vs : List Nat) (tg : TG) (f : D → Env → Option Env) : Prop where
  run : EvG os vs tg f
structure EwGs (os : List (Nat × Bool)) (vs : List Nat) (tg : TGs) (f : List D → Env → Option Env) : Prop where
  run : EvGs os vs tg f
/-! ### the mirrors' words -/
def gC (d : D) : Env → DM D := fun _ => pure d
def gOp (f : D → D → Option D) (ga gb : Env → DM D) : Env → DM D := fun ρ => ga ρ >>= fun x => gb ρ >>= fun y => liftO (f x y)
def gUn (f : D → Option D) (ga : Env → DM D) : Env → DM D := fun ρ => ga ρ >>= fun x => liftO (f x)
def gChain (f f' : D → D → Option D) (ga gb gc : Env → DM D) : Env → DM D := fun ρ => ga ρ >>= fun x => gb ρ >>= fun y => liftO (f x y) >>= fun z => toB z >>= fun k => if k = true then gc ρ >>= fun w => liftO (f' y w) else pure (.bl false)
def gScal (ga : Env → DM D) : Env → DM D := fun ρ => ga ρ >>= chkS
def gT (ga : Env → DM D) : Env → DM Bool := fun ρ => ga ρ >>= toB
def gNot (gt : Env → DM Bool) : Env → DM Bool := fun ρ => gt ρ >>= fun k => pure (!k)
def gAnd (gt gu : Env → DM Bool) : Env → DM Bool := fun ρ => gt ρ >>= fun k => if k = true then gu ρ else pure false
def gOr (gt gu : Env → DM Bool) : Env → DM Bool := fun ρ => gt ρ >>= fun k => if k = true then pure true else gu ρ
def gAndV (ga gb : Env → DM D) : Env → DM D := fun ρ => ga ρ >>= fun d => toB d >>= fun k => if k = true then gb ρ else pure (.bl false)
def gOrV (ga gb : Env → DM D) : Env → DM D := fun ρ => ga ρ >>= fun d => toB d >>= fun k => if k = true then pure (.bl true) else gb ρ
def gNotV (ga : Env → DM D) : Env → DM D := fun ρ => ga ρ >>= fun d => toB d >>= fun k => pure (.bl (!k))
def gIf {α : Type} (gt : Env → DM Bool) (ga gb : Env → DM α) : Env → DM α := fun ρ => gt ρ >>= fun k => if k = true then ga ρ else gb ρ
def gNil : Env → DM (List D) := fun _ => pure []
def gCons (ga : Env → DM D) (gl : Env → DM (List D)) : Env → DM (List D) := fun ρ => ga ρ >>= fun x => gl ρ >>= fun xs => pure (x :: xs)
def gTup (gl : Env → DM (List D)) : Env → DM D := fun ρ => gl ρ >>= fun ds => lenOk ds >>= fun ds => pure (.tup ds)
def gLst (gl : Env → DM (List D)) : Env → DM D := fun ρ => gl ρ >>= fun ds => lenOk ds >>= fun ds => pure (.lst ds)
def gLstN (gl : Env → DM (List D)) : Env → DM (List D) := fun ρ => gl ρ >>= fun ds => lenOk ds
def gCB (f : List D → Option D) (gl : Env → DM (List D)) : Env → DM D := fun ρ => gl ρ >>= fun ds => liftO (f ds)
def gNoPart : Env → DM (Option Int) := fun _ => pure none
def gPart (ga : Env → DM D) : Env → DM (Option Int) := fun ρ => ga ρ >>= fun d => toI d >>= fun i => pure (some i)
def gSl (f : D → Option Int → Option Int → Option D) (ga : Env → DM D) (glo ghi : Env → DM (Option Int)) : Env → DM D := fun ρ => ga ρ >>= fun x => glo ρ >>= fun lo => ghi ρ >>= fun hi => liftO (f x lo hi)
def gCall (f : List D → DM D) (gl : Env → DM (List D)) : Env → DM D := fun ρ => gl ρ >>= fun ds => f ds
def gIt {α : Type} (f : α → DM (List D)) (ga : Env → DM α) : Env → DM (List D) := fun ρ => ga ρ >>= f
def gComp (vs : List Nat) (gi : Env → DM (List D)) (f : D → Env → Option Env) (c : Env → DM Bool) (e : Env → DM D) : Env → DM (List D) := fun ρ => gi ρ >>= fun its => lenOk its >>= fun its => compD f c e (wipeE ρ vs) its
def gYes : Env → DM Bool := fun _ => pure true
def gL (gl : Env → DM (List D)) : Env → DM D := fun ρ => gl ρ >>= fun ds => pure (.lst ds)
def hNx : Env → DM Fl := fun ρ => pure (.nx ρ)
def hBrk : Env → DM Fl := fun ρ => pure (.bk ρ)
def hCnt : Env → DM Fl := fun ρ => pure (.ct ρ)
def hRet (ge : Env → DM D) : Env → DM Fl := fun ρ => ge ρ >>= fun d => pure (.rt d)
def hDrop (ge : Env → DM D) : Env → DM Fl := fun ρ => ge ρ >>= fun _ => pure (.nx ρ)
def hAsg (ge : Env → DM D) (f : D → Env → Option Env) : Env → DM Fl := fun ρ => ge ρ >>= fun d => liftO (f d ρ) >>= fun ρ' => pure (.nx ρ')
def hPar (gl : Env → DM (List D)) (i j : Nat) : Env → DM Fl := fun ρ => gl ρ >>= fun ds => liftO (bindCons (setE i) (bindCons (setE j) bindNil) ds ρ) >>= fun ρ' => pure (.nx ρ')
def hOwn (gl : Env → DM (List D)) (i : Nat) : Env → DM Fl := fun ρ => gl ρ >>= fun ds => liftO (setE i (.lst ds) ρ) >>= fun ρ' => pure (.nx ρ')
def hFor (gi : Env → DM (List D)) (f : D → Env → Option Env) (g : Env → DM Fl) : Env → DM Fl := fun ρ => gi ρ >>= fun its => forD f g its ρ
def hAug (i : Nat) (df : D → D → Option D) (ge : Env → DM D) : Env → DM Fl := fun ρ => getE i ρ >>= fun x => ge ρ >>= fun y => liftO (df x y) >>= fun z => liftO (setE i z ρ) >>= fun ρ' => pure (.nx ρ')
def hApp (i : Nat) (ge : Env → DM D) : Env → DM Fl := fun ρ => ge ρ >>= fun d => getL i ρ >>= fun ds => lenOk (ds ++ [d]) >>= fun ds' => liftO (setE i (.lst ds') ρ) >>= fun ρ' => pure (.nx ρ')
def hSub (i : Nat) (gi ge : Env → DM D) : Env → DM Fl := fun ρ => ge ρ >>= fun d => gi ρ >>= fun ix => toI ix >>= fun k => getL i ρ >>= fun ds => liftO (ixN ds.length k) >>= fun j => liftO (setE i (.lst (ds.set j d)) ρ) >>= fun ρ' => pure (.nx ρ')
def hAugL (i : Nat) (ge : Env → DM D) : Env → DM Fl := fun ρ => ge ρ >>= fun d => itemsL d >>= fun es => getL i ρ >>= fun ds => lenOk (ds ++ es) >>= fun ds' => liftO (setE i (.lst ds') ρ) >>= fun ρ' => pure (.nx ρ')
def hRaise (e : Er) : Env → DM Fl := fun _ => throwD e
section
variable {cl : Cl} {E : XK} {os os' os2 ob : List (Nat × Bool)} {ta tb tc te : TE} {b w : Bool} {ga gb gc ge : Env → DM D} {tt tu : TT} {gt gu : Env → DM Bool} {tl : TA} {gl : Env → DM (List D)} {t u : TS} {g g2 : Env → DM Fl}
  {tlo thi : TO} {glo ghi : Env → DM (Option Int)} {K : PySem.W.Frag} {vs : List Nat} {tg : TG} {f : D → Env → Option Env} {wi : TI} {gi : Env → DM (List D)}
theorem v_op {f : D → D → Option D} (ha : Ew cl E os ta b ga) (hb : Ew cl E os tb b gb) : Ew cl E os (tOp (rD f) ta tb) b (gOp f ga gb) := ⟨ev_op ha.1 hb.1⟩
theorem v_un {f : D → Option D} (ha : Ew cl E os ta b ga) : Ew cl E os (tUn (rDu f) ta) b (gUn f ga) := ⟨ev_un ha.1⟩
theorem v_chain {f f' : D → D → Option D} (ha : Ew cl E os ta b ga) (hb : Ew cl E os tb b gb) (hc : Ew cl E os tc b gc) : Ew cl E os (tChain (rD f) (rD f') ta tb tc) b (gChain f f' ga gb gc) := ⟨ev_chain ha.1 hb.1 hc.1⟩
theorem v_scal (ha : Ew cl E os ta false ga) : Ew cl E os ta b (gScal ga) := ⟨ev_scal ha.1⟩
theorem v_int {i : Int} : Ew cl E os (tC (.int i)) b (gC (.int i)) := ⟨ev_int⟩
theorem v_bl {i : Bool} : Ew cl E os (tC (.bl i)) b (gC (.bl i)) := ⟨ev_bl⟩
theorem v_str {i : Str} : Ew cl E os (tC (.str i)) b (gC (.str i)) := ⟨ev_str⟩
theorem v_non : Ew cl E os (tC .non) b (gC .non) := ⟨ev_non⟩
theorem v_ty {n : String} : Ew cl E os (tC (.ty n)) b (gC (.ty n)) := ⟨ev_ty⟩
theorem v_andV (h : Ew cl E os ta false ga) (h2 : Ew cl E os tb b gb) : Ew cl E os (tAndV ta tb) b (gAndV ga gb) := ⟨ev_andV h.1 h2.1⟩
theorem v_orV (h : Ew cl E os ta false ga) (h2 : Ew cl E os tb b gb) : Ew cl E os (tOrV ta tb) b (gOrV ga gb) := ⟨ev_orV h.1 h2.1⟩
theorem v_notV (h : Ew cl E os ta false ga) : Ew cl E os (tNotV ta) b (gNotV ga) := ⟨ev_notV h.1⟩
theorem v_if (h : EwT cl E os tt gt) (h1 : Ew cl E os ta b ga) (h2 : Ew cl E os tb b gb) : Ew cl E os (tIf tt ta tb) b (gIf gt ga gb) := ⟨ev_if h.1 h1.1 h2.1⟩
theorem t_test (ha : Ew cl E os ta false ga) : EwT cl E os (tTest ta) (gT ga) := ⟨et_test ha.1⟩
theorem t_B (ha : Ew cl E os ta false ga) : EwT cl E os (tB ta) (gT ga) := ⟨et_B ha.1⟩
theorem t_not (h : EwT cl E os tt gt) : EwT cl E os (tNot tt) (gNot gt) := ⟨et_not h.1⟩
theorem t_and (h : EwT cl E os tt gt) (h2 : EwT cl E os tu gu) : EwT cl E os (tAnd tt tu) (gAnd gt gu) := ⟨et_and h.1 h2.1⟩
theorem t_or (h : EwT cl E os tt gt) (h2 : EwT cl E os tu gu) : EwT cl E os (tOr tt tu) (gOr gt gu) := ⟨et_or h.1 h2.1⟩
theorem t_yes : EwT cl E os tYes gYes := ⟨et_yes⟩
theorem a_nil : EwA cl E os tNil b gNil := ⟨ea_nil⟩
theorem a_cons (h : Ew cl E os ta b ga) (h2 : EwA cl E os tl b gl) : EwA cl E os (tCons ta tl) b (gCons ga gl) := ⟨ea_cons h.1 h2.1⟩
theorem v_tup (h : EwA cl E os tl b gl) : Ew cl E os (tTup tl) b (gTup gl) := ⟨ev_tup h.1⟩
theorem v_lst (h : EwA cl E os tl b gl) : Ew cl E os (tLst tl) b (gLst gl) := ⟨ev_lst h.1⟩
theorem n_lst (h : EwA cl E os tl true gl) : EwN cl E os (tLst tl) (gLstN gl) := ⟨en_lst h.1⟩
theorem v_cb {f : List D → Option D} (h : EwA cl E os tl b gl) : Ew cl E os (tCB (rDc f) tl) b (gCB f gl) := ⟨ev_cb h.1⟩
theorem o_none : EwO cl E os tNoPart gNoPart := ⟨eo_none⟩
theorem o_some (h : Ew cl E os ta false ga) : EwO cl E os (tPart ta) (gPart ga) := ⟨eo_some h.1⟩
theorem v_sl {f : D → Option Int → Option Int → Option D} (h : Ew cl E os ta b ga) (h1 : EwO cl E os tlo glo) (h2 : EwO cl E os thi ghi) : Ew cl E os (tSl (rDs f) ta tlo thi) b (gSl f ga glo ghi) := ⟨ev_sl h.1 h1.1 h2.1⟩
theorem v_rev (h : Ew cl E os ta b ga) : Ew cl E os (tRevL K ta) b (gUn D.rev ga) := ⟨ev_rev h.1⟩
/-- how many arguments a list of them has -/
def cnt (n : Nat) (gl : Env → DM (List D)) : Prop := ∀ ρ s ds s', gl ρ s = .ok ds s' → ds.length = n
theorem cnt_nil : cnt 0 gNil := fun ρ s ds s' h => by cases h; rfl
theorem cnt_cons {n : Nat} (h : cnt n gl) : cnt (n + 1) (gCons ga gl) := fun ρ s ds s' e => by
  have e : (ga ρ >>= fun x => gl ρ >>= fun xs => pure (x :: xs)) s = .ok ds s' := e
  rw [bind_def] at e
  cases q : ga ρ s with
  | ok x s1 =>
    rw [q] at e
    have e : (gl ρ >>= fun xs => (pure (x :: xs) : DM (List D))) s1 = .ok ds s' := e
    rw [bind_def] at e
    cases q2 : gl ρ s1 with
    | ok xs s2 =>
      rw [q2] at e
      have e : Rs.ok (x :: xs) s2 = .ok ds s' := e
      injection e with e1 e2
      rw [← e1, List.length_cons, h _ _ _ _ q2]
    | er => rw [q2] at e; cases e
    | no => rw [q2] at e; cases e
  | er => rw [q] at e; cases e
  | no => rw [q] at e; cases e
theorem v_call {n : Nat} {f : List D → DM D} (hn : cnt n gl) (h : EwA cl E os tl b gl) : Ew cl E os (tCall (spD cl n f) [] E tl) b (gCall f gl) := ⟨ev_call h.1 hn⟩
theorem i_list (h : Ew cl E os te true ge) : EwI cl E os w (iList K te) (gIt itemsL ge) := ⟨EvI.weak (ei_list h.1)⟩
theorem i_tup (h : Ew cl E os te true ge) : EwI cl E os w (iTup K te) (gIt itemsT ge) := ⟨EvI.weak (ei_tup h.1)⟩
theorem i_own {i : Nat} (hn : (os.map (·.1)).contains i = true) : EwI cl E os false (iList K (tVar i)) (gIt itemsL (getE i)) := ⟨ei_own hn⟩
theorem i_rng1 (h : EwA cl E os tl true gl) : EwI cl E os w (iRng1 tl) (gIt rng1 gl) := ⟨EvI.weak (ei_rng1 h.1)⟩
theorem i_rng2 (h : EwA cl E os tl true gl) : EwI cl E os w (iRng2 tl) (gIt rng2 gl) := ⟨EvI.weak (ei_rng2 h.1)⟩
theorem i_rng3 (h : EwA cl E os tl true gl) : EwI cl E os w (iRng3 tl) (gIt rng3 gl) := ⟨EvI.weak (ei_rng3 h.1)⟩
theorem i_zip (h : EwA cl E os tl true gl) : EwI cl E os w (iZip K tl) (gIt zipD gl) := ⟨EvI.weak (ei_zip h.1)⟩
theorem n_comp (hv : (os.all fun p => !vs.contains p.1) = true) (hi : EwI cl E os false wi gi) (hg : EwG (clr os) vs tg f) (ht : EwT cl E0 (clr os) tt gt) (he : Ew cl E0 (clr os) te true ge) : EwN cl E os (tLc wi tg tt te vs) (gComp vs gi f gt ge) := ⟨ev_lc hv hi.1 hg.1 ht.1 he.1⟩
theorem v_var {i : Nat} (hn : (os.map (·.1)).contains i = false) : Ew cl E os (tVar i) b (getE i) := ⟨ev_var hn⟩
theorem v_own {i : Nat} (hn : (os.map (·.1)).contains i = true) : Ew cl E os (tVar i) false (getE i) := ⟨ev_ownv hn⟩
theorem w_name {i : Nat} (hn : (os.map (·.1)).contains i = false) (hv : vs.contains i = true) : EwG os vs (gName i) (setE i) := ⟨eg_name hn hv⟩
theorem w_nil : EwGs os vs L2.gNil bindNil := ⟨egs_nil⟩
theorem w_cons {tgs : TGs} {fs : List D → Env → Option Env} (h : EwG os vs tg f) (h2 : EwGs os vs tgs fs) : EwGs os vs (L2.gCons tg tgs) (bindCons f fs) := ⟨egs_cons h.1 h2.1⟩
theorem w_tup {n : Nat} {tgs : TGs} {fs : List D → Env → Option Env} (h : EwGs os vs tgs fs) : EwG os vs (L2.gTup K n tgs) (bindTup n fs) := ⟨eg_tup h.1⟩
theorem s_seq (h : EwS cl E os os2 ob t g) (h2 : EwS cl E os2 os' ob u g2) : EwS cl E os os' ob (tSeq t u) (seqG g g2) := ⟨es_seq h.1 h2.1⟩
theorem s_freeze {i : Nat} (h : EwS cl E os os' ob t g) : EwS cl E ((i, true) :: os) os' ob t g := ⟨es_freeze h.1⟩
theorem v_new (h : EwN cl E os te gl) : Ew cl E os te b (gL gl) := ⟨EvN.ev h.1⟩
theorem s_next : EwS cl E os os ob tNext hNx := ⟨es_next⟩
theorem s_brk : EwS cl E os os os tBreak hBrk := ⟨es_brk⟩
theorem s_cont : EwS cl E os os os tCont hCnt := ⟨es_cont⟩
theorem s_ret (h : Ew cl E os te false ge) : EwS cl E os os' ob (tRet te) (hRet ge) := ⟨es_ret h.1⟩
theorem s_drop (h : Ew cl E os te false ge) : EwS cl E os os ob (tDrop te) (hDrop ge) := ⟨es_drop h.1⟩
theorem s_if (h : EwT cl E os tt gt) (h1 : EwS cl E os os' ob t g) (h2 : EwS cl E os os' ob u g2) : EwS cl E os os' ob (tIfS tt t u) (gIf gt g g2) := ⟨es_if h.1 h1.1 h2.1⟩
theorem s_asg (h : Ew cl E os te true ge) (hg : EwG os vs tg f) : EwS cl E os os ob (tAsg te tg) (hAsg ge f) := ⟨es_asg h.1 hg.1⟩
theorem s_par {i j : Nat} (h : EwA cl E os tl true gl) (hi : (os.map (·.1)).contains i = false) (hj : (os.map (·.1)).contains j = false) : EwS cl E os os ob (tPar i j tl) (hPar gl i j) := ⟨es_par h.1 hi hj⟩
theorem s_own {i : Nat} (h : EwN cl E os te gl) (hi : (os.map (·.1)).contains i = false) : EwS cl E os ((i, true) :: os) ob (tAsg te (gName i)) (hOwn gl i) := ⟨es_own h.1 hi⟩
theorem s_for (hi : EwI cl E os true wi gi) (hg : EwG (clr os) vs tg f) (hb : EwS cl E (clr os) (clr os) (clr os) t g) : EwS cl E os os ob (tFor wi tg t) (hFor gi f g) := ⟨es_for hi.1 hg.1 hb.1⟩
theorem s_while (n : Nat) (hc : EwT cl E (clr os) tt gt) (hb : EwS cl E (clr os) (clr os) (clr os) t g) : EwS cl E os os ob (tWhile tt t) (whileD gt g n) := ⟨es_while n hc.1 hb.1⟩
theorem s_aug {i : Nat} {df : D → D → Option D} (hn : (os.map (·.1)).contains i = false) (h : Ew cl E os te true ge) : EwS cl E os os ob (tAug i te (rD df)) (hAug i df ge) := ⟨es_aug hn h.1⟩
theorem s_app {i : Nat} (hn : (os.map (·.1)).contains i = true) (h : Ew cl E os te true ge) : EwS cl E os os ob (tDrop (tBM K "list" rAppend (tVar i) (tCons te tNil))) (hApp i ge) := ⟨es_app hn h.1⟩
theorem s_sub {i : Nat} {ti : TE} {gi : Env → DM D} (hn : (os.map (·.1)).contains i = true) (h : Ew cl E os te true ge) (h2 : Ew cl E os ti false gi) : EwS cl E os os ob (tAsg te (gSub (tVar i) ti rSetL)) (hSub i gi ge) := ⟨es_sub hn h.1 h2.1⟩
theorem s_augL {i : Nat} (hn : (os.map (·.1)).contains i = true) (h : Ew cl E os te true ge) : EwS cl E os os ob (tAug i te rExt2) (hAugL i ge) := ⟨es_augL hn h.1⟩
theorem s_raise {e : Er} : EwS cl E os os' ob (fun _ _ H => E (.ref (cl e)) none H) (hRaise e) := ⟨es_raise⟩
end

/-! ### defs of the text -/
def DefAt (K : PySem.W.Frag) (mg : Str → Option Value) (x : Str) (st : Stmt) (ps : List Str) : Prop := ∃ f fd, Fun K x x st f fd ∧ mg x = some (.ref f) ∧ Binds K fd ps []
def KO (P : Program) (wd : World) (K : PySem.W.Frag) (mg : Str → Option Value) (base : Heap) (k : Nat) (x : Str) (sp : Sp) : Prop :=
  ∃ f fd ps, mg x = some (.ref f) ∧ PySem.W.keepIn K (.ref f) = true ∧ Binds K fd ps [] ∧ FnOk P wd K mg base (L2.CX P wd) k f fd ps sp
section
variable {P : Program} {wd : World} {K : PySem.W.Frag} {mg : Str → Option Value} {base : Heap} {k : Nat} {x : Str} {st : Stmt} {ps : List Str} {sp : Sp}
theorem ko_of (d : DefAt K mg x st ps) (h : ∀ f fd, Fun K x x st f fd → FnOk P wd K mg base (L2.CX P wd) k f fd ps sp) : KO P wd K mg base k x sp := by
  obtain ⟨f, fd, F, g, b⟩ := d
  exact ⟨f, fd, ps, g, F.kp, b, h f fd F⟩
theorem pe_callD {X : Cx} {E : XK} {p pos : Pos} {e : Expr} {es : List Expr} {t : TA} (h : KO X.prog X.w X.K X.mg X.base k x sp) (hr : Room k X.A) (hg : Gl X x) (hx : Passes (L2.CX X.prog X.w) X E) (ha : PA X (e :: es) t)
    (hdb : (x == ("__debug__" : Str)) = false := by decide) (he : starEach (e :: es) X.env = (false, eval e X.env) :: starEach es X.env := by rfl) (hpl : (backTo pos (starEach es X.env)).any (·.1) = false := by rfl) :
    PE X (.Call (.Name x p) (e :: es) [] pos) (tCall sp [] E t) := by
  obtain ⟨f, fd, ps, g, kp, b, F⟩ := h
  exact pe_call F hr hg g kp b .nil hx ha hdb he hpl
theorem pe_call0D {X : Cx} {E : XK} {p pos : Pos} (h : KO X.prog X.w X.K X.mg X.base k x sp) (hr : Room k X.A) (hg : Gl X x) (hx : Passes (L2.CX X.prog X.w) X E)
    (hdb : (x == ("__debug__" : Str)) = false := by decide) : PE X (.Call (.Name x p) [] [] pos) (tCall sp [] E tNil) := by
  obtain ⟨f, fd, ps, g, kp, b, F⟩ := h
  exact pe_call0 F hr hg g kp b .nil hx hdb
theorem u64 {X : Cx} {j : Nat} (hr : Room j X.A) : X.A.units + 64 < cLine := hr.units
theorem u65 {X : Cx} {j : Nat} (hr : Room j X.A) : X.A.units + 65 < cLine := by have := hr.un; omega
end
section
variable {X : Cx}
def D.iadd : D → D → Option D
  | .int i, .int j => some (.int (i + j))
  | _, _ => none
def D.imul : D → D → Option D
  | .int i, .int j => guardO (decide (-(2 ^ 64) < i ∧ i < 2 ^ 64) || decide (-(2 ^ 64) < j ∧ j < 2 ^ 64)) (some (.int (i * j)))
  | _, _ => none
theorem od_iadd : OpR X (inplaceOp .Add) (rD D.iadd) := od_int0 iop_add fun x y d h => by
  cases x <;> cases y <;> simp only [D.iadd] at h <;> first | (cases h; exact ⟨_, _, rfl, rfl, rfl⟩) | cases h
theorem od_imul : OpR X (inplaceOp .Mult) (rD D.imul) := od_int iop_mul fun x y d h => by
  cases x <;> cases y <;> simp only [D.imul] at h <;> first | (obtain ⟨c, e⟩ := guardO_some h; cases e; have c' := Bool.or_eq_true_iff.mp c; exact ⟨_, _, rfl, rfl, c'.elim (fun z => .inl (of_decide_eq_true z)) (fun z => .inr (of_decide_eq_true z)), rfl⟩) | cases h
end
end DL

namespace DL
open PySem PySem.Spec PyProof.Rows L2
/-! ### more rules -/
section
variable {X : Cx} {x : Str} {pos p pos' p2 : Pos} {E : XK}
theorem pe_globI {i : Int} (hg : Gl X x) (h : ∃ t, X.mg x = some (.int i t)) (hd : (x == ("__debug__" : Str)) = false := by decide) : PE X (.Name x pos) (tC (.int i)) := by
  obtain ⟨t, h⟩ := h
  exact pe_glob hg h ⟨t, rfl⟩ hd
theorem pe_globS {i : Str} (hg : Gl X x) (h : ∃ t, X.mg x = some (.str i t)) (hd : (x == ("__debug__" : Str)) = false := by decide) : PE X (.Name x pos) (tC (.str i)) := by
  obtain ⟨t, h⟩ := h
  exact pe_glob hg h ⟨t, rfl⟩ hd
/-- what a callee lets out leaves this def, too -/
theorem passB {E₁ : Value → Shared → Prop} (hs : X.stack = X.env :: X.outer := by rfl) (hf : X.env.frame = some X.env.locals := by rfl) (hex : X.ex = [] := by rfl)
    (hx : X.xe = fun e s' => wpAny (model X.prog X.w) X.A (leaving X.env e) (fun _ s'' => L2.CX X.prog X.w X.outer X.H_0 X.s_0 E e s'') E₁ s' := by rfl) : Passes (L2.CX X.prog X.w) X E :=
  passes_call (takes_of hs hf hex hx) fun _ _ _ _ h => h
/-- an own class of errors -/
structure ExcAt (K : PySem.W.Frag) (mg : Str → Option Value) (x : Str) (C : Addr) : Prop where
  g : mg x = some (.ref C)
  x : PySem.W.excIn K C [.type "ValueError", .type "Exception", .type "BaseException", .type "object"] "ValueError.__new__" = true
  k : PySem.W.keepIn K (.ref C) = true
  b : PySem.W.subIn K (.ref C) (.type "BaseException") = some true
  t : PySem.W.typeIn K (.ref C) = some (.type "type")
theorem ps_raiseD {cl : Cl} {e : Er} {m : Str} {j : Nat} (T : ExcAt X.K X.mg x (cl e)) (hc : X.calm = true) (tk : Takes X (fun cls d _ H => E cls d H)) (hg : Gl X x) (hdb : (x == ("__debug__" : Str)) = false := by decide) :
    PS X (.Raise (some (.Call (.Name x p) [.Constant (.str m) j p2] [] pos)) none pos') (fun _ _ H => E (.ref (cl e)) none H) :=
  ps_raise hc tk (pmk_own PySem.F.excBase_ValueError T.x T.g T.k (raises_own T.b T.t) hg hdb)
end
def hRetN : Env → DM Fl := fun _ => pure (.rt .non)
theorem s_retN {cl : Cl} {E : XK} {os os' ob : List (Nat × Bool)} : EwS cl E os os' ob tRetN hRetN := ⟨fun D F w => w _ _ F.ext F.st .non⟩
/-! new lists by + and * -/
def rDn (f : D → D → Option D) : R2 := fun x y H Q => ∃ (G : Rg) (Z : List Addr) (dx dy : D) (ds : List D), dom G Z H ∧ Rep G Z H x dx ∧ Rep G Z H y dy ∧ f dx dy = some (.lst ds) ∧
  ∀ p vs, H p = none → RepAll G Z H vs ds → Q (.ref p) (upd H p (.lst vs))
def D.addN : D → D → Option D
  | .lst xs, .lst ys => guardO (decide (xs.length + ys.length ≤ LIM)) (some (.lst (xs ++ ys)))
  | _, _ => none
def D.mulN : D → D → Option D
  | .lst xs, .int k => guardO (decide (k ≤ 100000 ∧ xs.length * k.toNat ≤ LIM ∧ -100000 ≤ k)) (some (.lst (List.replicate k.toNat xs).flatten))
  | _, _ => none
section
variable {X : Cx}
theorem od_addN : OpR X (binaryOp .Add) (rDn D.addN) := opr_imp op_cat fun x y H Q ⟨G, Z, dx, dy, ds, hz, rx, ry, hf, q⟩ => by
  cases dx with
  | lst xs =>
    cases dy with
    | lst ys =>
      obtain ⟨hl, hf⟩ := guardO_some hf
      cases hf
      obtain ⟨a, vs, rfl, na, ha, hr⟩ := rep_lst rx
      obtain ⟨b, ws, rfl, nb, hb, hs⟩ := rep_lst ry
      exact ⟨a, b, vs, ws, rfl, rfl, ha, hb, by rw [hr.length, hs.length]; exact lim_le (of_decide_eq_true hl), fun p hp => q p _ hp (hr.append hs)⟩
    | _ => cases hf
  | _ => cases dy <;> cases hf
theorem od_mulN : OpR X (binaryOp .Mult) (rDn D.mulN) := opr_imp op_rep fun x y H Q ⟨G, Z, dx, dy, ds, hz, rx, ry, hf, q⟩ => by
  cases dx with
  | lst xs =>
    cases dy with
    | int k =>
      obtain ⟨hl, hf⟩ := guardO_some hf
      cases hf
      obtain ⟨a, vs, rfl, na, ha, hr⟩ := rep_lst rx
      obtain ⟨h1, h2, h3⟩ := of_decide_eq_true hl
      exact ⟨a, k, vs, rfl, rep_int ry, ha, by omega, by omega, by rw [hr.length]; exact lim_le h2, fun p hp => q p _ hp (rep_flat k.toNat hr)⟩
    | _ => cases hf
  | _ => cases dy <;> cases hf
end
def asL : D → DM (List D)
  | .lst xs => pure xs
  | _ => stuck
def gOpN (f : D → D → Option D) (ga gb : Env → DM D) : Env → DM (List D) := fun ρ => ga ρ >>= fun x => gb ρ >>= fun y => liftO (f x y) >>= asL
theorem n_op {cl : Cl} {E : XK} {os : List (Nat × Bool)} {ta tb : TE} {ga gb : Env → DM D} {f : D → D → Option D} (ha : Ew cl E os ta true ga) (hb : Ew cl E os tb true gb) : EwN cl E os (tOp (rDn f) ta tb) (gOpN f ga gb) := ⟨fun Q F w => by
  refine ha.1 _ F (w.bind.mono (fun dx s1 k x H1 e1 a1 r1 => ?_) fun _ _ k => k)
  have F1 := F.step e1 a1
  refine hb.1 _ F1 (k.bind.mono (fun dy s2 k2 y H2 e2 a2 r2 => ?_) fun _ _ k2 H' e2 => k2 H' (e1.trans e2))
  have F2 := F1.step e2 a2
  obtain ⟨d, ed, k3⟩ := wp_liftO k2.bind
  cases d with
  | lst ds =>
    have k4 := wp_pure k3
    refine ⟨_, _, dx, dy, ds, F2.domZ, r1.ext F.sub e2, r2, ed, fun p vs hp hr => ?_⟩
    have sm : Same H2 (upd H2 p (.lst vs)) := same_new hp
    exact k4 p vs _ ((e1.trans e2).trans (Same.ext sm)) (fresh_back F s2 a2 (e1.trans e2) hp) (F2.domZ.av hp).2 upd_same (F2.same sm) ((RepAll.more hp hr).same sm)
  | _ => exact k3.elim⟩

/-! ### the draws -/
def cellV (n c : Int) : Int := ((((c + 104729 * n) % 4294967291) ^ 5 % 4294967279 / 64 * 69621 + ((c + 104729 * n) % 4294967291) ^ 5 % 4294967279) % 4294967231) / 8
def drawAt (s : DSt) : Nat := ((s.cnt + 1) % s.nums.length).toNat
def drawS (s : DSt) (n : Int) : DSt := if 1000000000000000000 ≤ s.nums.getD (drawAt s) 0 then { s with nums := s.nums.set (drawAt s) (s.nums.getD (drawAt s) 0 / n), cnt := s.cnt + 1 } else { s with cnt := s.cnt + 1 }
def drawV (s : DSt) (n : Int) : Int := (if 1000000000000000000 ≤ s.nums.getD (drawAt s) 0 then s.nums.getD (drawAt s) 0 else cellV (s.cnt + 1) (s.nums.getD (drawAt s) 0)) % n
def dArg : List D → Option Int
  | [.hd 0, .int n] => some n
  | _ => none
theorem dArg_some {ds : List D} {n : Int} (h : dArg ds = some n) : ds = [.hd 0, .int n] := by
  unfold dArg at h
  split at h
  · cases h; rfl
  · cases h
def m__law_draw (ds : List D) : DM D := fun s => match dArg ds with
  | some n => if 0 < n ∧ n < 1000000000 ∧ s.nums ≠ [] then .ok (.int (drawV s n)) (drawS s n) else .no
  | none => .no
theorem draw_eq (n : Int) (s : DSt) : m__law_draw [.hd 0, .int n] s = if 0 < n ∧ n < 1000000000 ∧ s.nums ≠ [] then .ok (.int (drawV s n)) (drawS s n) else .no := rfl
theorem wp_draw {n : Int} {s : DSt} {Q : D → DSt → Prop} {E : Er → DSt → Prop} (h : Wp (m__law_draw [.hd 0, .int n] s) Q E) : (0 < n ∧ n < 1000000000 ∧ s.nums ≠ []) ∧ Q (.int (drawV s n)) (drawS s n) := by
  rw [draw_eq] at h
  split at h
  · rename_i c; exact ⟨c, h⟩
  · exact h.elim
theorem draw_args {ds : List D} {s : DSt} {Q : D → DSt → Prop} {E : Er → DSt → Prop} (h : Wp (m__law_draw ds s) Q E) : ∃ n, ds = [.hd 0, .int n] := by
  cases e : dArg ds with
  | some n => exact ⟨n, dArg_some e⟩
  | none =>
    have q : m__law_draw ds s = .no := by show (match dArg ds with | some n => _ | none => _) = _; rw [e]
    rw [q] at h
    exact h.elim

/-! the draws' beginning -/
def nz (ns : List Int) : List Int := if ns = [] then [0] else ns
theorem nz_ne (ns : List Int) : nz ns ≠ [] := by
  unfold nz
  split
  · exact List.cons_ne_nil _ _
  · assumption
def spStart (K : PySem.W.Frag) : Sp := fun vs H Q _ => ∃ (a : Addr) (ns : List Int), vs = [.ref a] ∧ SqL K H a (ns.map V.int) ∧ ns.length ≤ 63 ∧
  ∀ (d l : Addr) (H' : Hp), d ≠ l → H d = none → H l = none → Same H H' → H' d = some (.lst [.ref l, .int 0]) → H' l = some (.lst ((nz ns).map V.int)) → Q (.ref d) H'
theorem dp_ints {K : PySem.W.Frag} {H : Hp} : ∀ ns : List Int, DpAll K H (ns.map V.int) (ns.map PyData.int)
  | [] => .nil
  | n :: r => .cons (.int n) (dp_ints r)
theorem pyAll_ints : ∀ ns : List Int, D.pyAll (ns.map D.int) = ns.map PyData.int
  | [] => rfl
  | n :: r => by simp only [List.map_cons, D.pyAll, D.py, pyAll_ints r]
theorem fitAll_ints (k : Nat) : ∀ ns : List Int, D.fitAll k (ns.map D.int) = true
  | [] => by simp [D.fitAll]
  | n :: r => by simp [D.fitAll, D.fit, fitAll_ints k r]
theorem shaped_ints (ns : List Int) : SeqAt.shaped (.list (ns.map PyData.int)) = true := by
  have h := D.shaped (d := .lst (ns.map D.int)) (by simp only [D.fit]; exact fitAll_ints 7 ns)
  simp only [D.py, pyAll_ints] at h
  exact h
/-- the region of the draws -/
def rgD (κ d l : Addr) (ne : d ≠ l) : Rg where
  Y := [d, l]
  P := []
  C := κ
  R := fun _ _ => False
  A := fun s H => H d = some (.lst [.ref l, .int s.cnt]) ∧ H l = some (.lst (s.nums.map V.int))
  hv := fun n => if n = 0 then some (.ref d) else none
  dr := fun v h => by
    rw [if_pos rfl] at h
    cases h
    refine ⟨d, l, rfl, List.mem_cons_self, List.mem_cons_of_mem _ List.mem_cons_self, ne, fun _ _ _ h => h, fun _ _ _ h => h, fun s H a => ⟨a.1, a.2, fun ns c => ⟨?_, upd_same⟩⟩⟩
    show upd (upd H d _) l _ d = _
    rw [upd_ne ne, upd_same]
  ob := fun v h => by
    rw [if_neg (by decide)] at h
    cases h
  dep := fun s H H' h a => ⟨(h d (.inl List.mem_cons_self)).trans a.1, (h l (.inl (List.mem_cons_of_mem _ List.mem_cons_self))).trans a.2⟩
  inY := fun s H a x hx => by
    rcases hx with hx | hx | hx
    · rcases List.mem_cons.mp hx with rfl | hx
      · rw [a.1]; exact Option.some_ne_none _
      · rw [List.mem_singleton.mp hx, a.2]; exact Option.some_ne_none _
    · exact absurd hx List.not_mem_nil
    · exact hx.elim
  rs := fun _ _ _ _ h => h
  rd := fun _ _ _ _ h => h
  r0 := fun _ _ _ h => h
  rcn := fun v s H h _ => by
    rw [if_neg (by decide)] at h
    cases h
def st0 (ns : List Int) : DSt := { nums := nz ns, cnt := 0, rc := [], rn := 0, rr := [] }
/-- the law: its first row makes the draws, the rest is data -/
def spLaw (K : PySem.W.Frag) : Sp := fun vs H Q _ => ∃ (a : Addr) (ns : List Int), vs = [.ref a] ∧ SqL K H a (ns.map V.int) ∧ ns.length ≤ 63 ∧ ∀ H', Q (.bl true) H'
theorem fn_law {P : Program} {wd : World} {K : PySem.W.Frag} {mg : Str → Option Value} {base : Heap} {cl : Cl} {st : Stmt} {fa : Addr} {fd : FuncData} {N : List Str} {k : Nat} {g : Env → DM Fl} (F : Fun K "law" "law" st fa fd) (S : FnScope N ["script"] (defScope st))
    (hN : 1 < N.length)
    (hb : ∀ (cdv : Value) (A : Around) (outer : List PySem.Env) (s : Shared) (H : Hp) (E : XK), Room k (A.deeper (envOfC "law" (defScope st) s.heap.objs.size fa cdv)) →
      ∃ t, PSs (cxOf (L2.CX P wd) P wd K mg base N "law" (defScope st) fa cdv A outer s H E) (defBody st) (tSeq (tAsg (tCall (spStart K) [] E (tCons (tVar 0) tNil)) (gName 1)) t) ∧ EvS cl E [] [] [] t g)
    (hm : ∀ ns : List Int, ns.length ≤ 63 → ∃ s', g ((List.replicate N.length none).set 1 (some (.hd 0))) (st0 ns) = .ok (.rt (.bl true)) s') : FnOk P wd K mg base (L2.CX P wd) (k + 1) fa fd ["script"] (spLaw K) := by
  refine F.okX S (fun vs H Q E h => by obtain ⟨a, ns, rfl, _⟩ := h; rfl) fun cdv A outer s H vs Q E hr h => ?_
  obtain ⟨t, h1, h2⟩ := hb cdv A outer s H E hr
  refine ⟨_, h1, ?_⟩
  obtain ⟨a, ns, rfl, hs, hl, q⟩ := h
  have h0 : (L2.start N [V.ref a])[0]? = some (some (V.ref a)) := rfl
  refine ⟨_, h0, a, ns, rfl, hs, hl, fun d l H' ne fd' fl sm hd hll => ?_⟩
  obtain ⟨s', hg⟩ := hm ns hl
  have FR : Fr cl.reg (rgD cl.reg d l ne) H' [] [d, l] [] [] ((List.replicate N.length none).set 1 (some (.hd 0))) (st0 ns) ((L2.start N [V.ref a]).set 1 (some (.ref d))) H' := by
    refine ⟨rfl, Ext.refl _ _, ⟨hd, hll⟩, rfl, fun x hx => hx, fun a ha => absurd ha List.not_mem_nil, fun p hp => absurd hp List.not_mem_nil, fun p hp => absurd hp List.not_mem_nil, fun x hx => ?_, fun o ho => absurd ho List.not_mem_nil, fun o ho => absurd ho List.not_mem_nil, fun o ho => absurd ho List.not_mem_nil, fun o ho => absurd ho List.not_mem_nil, fun o ho => absurd ho List.not_mem_nil, List.nodup_nil, List.nodup_nil, ?_, fun i x e _ => ?_, fun o ho => absurd ho List.not_mem_nil⟩
    · exact (rgD cl.reg d l ne).inY (st0 ns) H' ⟨hd, hll⟩ x (.inl hx)
    · unfold L2.start
      simp only [List.length_set, List.length_append, List.length_map, List.length_replicate, List.length_cons, List.length_nil]
      omega
    · by_cases hi : i = 1
      · subst hi
        rw [List.getElem?_set_self (by rw [List.length_replicate]; exact hN)] at e
        cases e
        refine ⟨.ref d, List.getElem?_set_self ?_, .hd rfl⟩
        unfold L2.start
        simp only [List.length_append, List.length_map, List.length_replicate, List.length_cons, List.length_nil]
        omega
      · rw [List.getElem?_set_ne (Ne.symm hi), List.getElem?_replicate] at e
        split at e <;> cases e
  refine h2 { nx := fun _ H' => Q .non H', rt := Q } FR ?_
  rw [hg]
  exact fun v H2 _ _ r => by cases r; exact q H2

/-! what the top has left of a def, a constant, an own error -/
theorem defAt_mk {K : PySem.W.Frag} {h : Heap} {mg : Str → Option Value} {x : Str} {st : Stmt} {ps : List Str} {f : Addr} {od an : Option Addr} {sl : Array (Option Value)} {oc kV dc pm cd ct : Value} (X : K.In h) (G : h.Ns mainGlobals mg)
    (a : PySem.W.nsIn K mainGlobals x = some (some (.ref f))) (l : K.lookup f = some ⟨oc, od, .func (PySem.W.fnOf x x (defArgs st) (defBody st) (defScope st) .none kV dc pm an cd ct), sl⟩) (c : PySem.W.codeIn K cd x = true) (k : PySem.W.keepIn K (.ref f) = true)
    (hb : ∀ (kV doc pm : Value) (an : Option Addr) (cdv ct : Value) (us : List Value), us.length = ps.length → bindArgs (PySem.W.fnOf x x (defArgs st) (defBody st) (defScope st) .none kV doc pm an cdv ct) ⟨us, []⟩ = pure (ps.zip us)) : DefAt K mg x st ps :=
  have F := fun_mk (st := st) l c k
  ⟨f, _, F, PySem.W.mg_of X G a, F.binds hb⟩
theorem excAt_mk {K : PySem.W.Frag} {h : Heap} {mg : Str → Option Value} {x : Str} {C : Addr} (X : K.In h) (G : h.Ns mainGlobals mg) (a : PySem.W.nsIn K mainGlobals x = some (some (.ref C)))
    (e : PySem.W.excIn K C [.type "ValueError", .type "Exception", .type "BaseException", .type "object"] "ValueError.__new__" = true) (k : PySem.W.keepIn K (.ref C) = true) (b : PySem.W.subIn K (.ref C) (.type "BaseException") = some true) (t : PySem.W.typeIn K (.ref C) = some (.type "type")) :
    ExcAt K mg x C := ⟨PySem.W.mg_of X G a, e, k, b, t⟩
theorem constI_mk {K : PySem.W.Frag} {h : Heap} {mg : Str → Option Value} {x : Str} {i : Int} {t : Tok} (X : K.In h) (G : h.Ns mainGlobals mg) (a : PySem.W.nsIn K mainGlobals x = some (some (.int i t))) : ∃ t, mg x = some (.int i t) := ⟨t, PySem.W.mg_of X G a⟩
theorem constS_mk {K : PySem.W.Frag} {h : Heap} {mg : Str → Option Value} {x : Str} {i : Str} {t : Tok} (X : K.In h) (G : h.Ns mainGlobals mg) (a : PySem.W.nsIn K mainGlobals x = some (some (.str i t))) : ∃ t, mg x = some (.str i t) := ⟨t, PySem.W.mg_of X G a⟩
/-- the law's own function object -/
theorem lawAt {K : PySem.W.Frag} {mg : Str → Option Value} {st : Stmt} {fa : Addr} (d : DefAt K mg "law" st ["script"]) (h : mg "law" = some (.ref fa)) : ∃ fd, Fun K "law" "law" st fa fd ∧ Binds K fd ["script"] [] := by
  obtain ⟨f, fd, F, g, b⟩ := d
  rw [h] at g
  cases g
  exact ⟨fd, F, b⟩
theorem law_left {P : Program} {w : World} {K : PySem.W.Frag} {mg : Str → Option Value} {h : Heap} {st : Stmt} {fa : Addr} {k : Nat} (X : K.In h) (d : DefAt K mg "law" st ["script"]) (hg : mg "law" = some (.ref fa))
    (hb : ∀ (kV doc pm : Value) (an : Option Addr) (cdv ct : Value) (u : Value) (s : Shared), BindsTo s (PySem.W.fnOf "law" "law" (defArgs st) (defBody st) (defScope st) .none kV doc pm an cdv ct) ⟨[u], []⟩ [("script", u)])
    (H : ∀ fd, Fun K "law" "law" st fa fd → ∀ base : Heap, K.In base → base.Ns mainGlobals mg → FnOk P w K mg base (L2.CX P w) k fa fd ["script"] (spLaw K)) :
    ∃ fd : FuncData, (∀ (s : Shared) (u : Value), BindsTo s fd ⟨[u], []⟩ [("script", u)]) ∧ ∀ base : Heap, K.In base → base.Ns mainGlobals mg → FnOk P w K mg base (L2.CX P w) k fa fd ["script"] (spLaw K) := by
  obtain ⟨fd, F, b⟩ := lawAt d hg
  refine ⟨fd, fun s u => ?_, H fd F⟩
  obtain ⟨oc, od, kV, doc, pm, an, cdv, ct, osl, rfl, lk, hcd⟩ := F.ex
  exact hb kV doc pm an cdv ct u s
theorem cx_none {P : Program} {w : World} (H : Hp) (s : Shared) (e : Value) (s' : Shared) (h : L2.CX P w [] H s (fun _ _ _ => False) e s') : False := by
  obtain ⟨_, _, _, _, _, _, _, _, _, _, _, _, z⟩ := h
  exact z
def adr_of {K : PySem.W.Frag} {mg : Str → Option Value} {x : Str} {C : Addr} (_ : ExcAt K mg x C) : Addr := C
theorem andThen {p q : Prop} (h : p) (k : p → q) : q := k h
end DL

namespace DL
open PySem PySem.Spec PyProof.Rows L2
/-! ### dicts of whole numbers -/
def putI (ks : List Int) (k : Int) : List Int := if ks.contains k then ks else ks ++ [k]
def kvD (ks : List Int) : List (Key × V) := ks.map fun k => (.inl k, .bl true)
theorem kvD_length (ks : List Int) : (kvD ks).length = ks.length := List.length_map _
theorem putI_le (ks : List Int) (k : Int) : (putI ks k).length ≤ ks.length + 1 := by
  unfold putI; split
  · omega
  · rw [List.length_append]; simp
theorem putK_kvD (ks : List Int) (k : Int) : putK (kvD ks) (.inl k) (.bl true) = kvD (putI ks k) := by
  have e : ((kvD ks).any fun kv => decide (kv.1 = .inl k)) = ks.contains k := by
    unfold kvD
    rw [List.any_map]
    induction ks with
    | nil => rfl
    | cons a r ih =>
      rw [List.any_cons, List.contains_cons, ih]
      congr 1
      show decide ((Sum.inl a : Key) = Sum.inl k) = (k == a)
      by_cases h : a = k
      · subst h; simp
      · rw [decide_eq_false (fun z => h (Sum.inl.inj z))]
        exact (beq_eq_false_iff_ne.mpr (fun z => h z.symm)).symm
  unfold putK putI
  rw [e]
  split
  · refine (List.map_congr_left fun p hp => ?_).trans (List.map_id _)
    obtain ⟨a, _, rfl⟩ := List.mem_map.mp hp
    show (if (Sum.inl a : Key) = Sum.inl k then ((Sum.inl a : Key), V.bl true) else (Sum.inl a, V.bl true)) = _
    split <;> rfl
  · show _ = (ks ++ [k]).map _
    rw [List.map_append]; rfl
def dcD (f : D → Env → Option Env) (e : Env → DM D) (ρ : Env) : List Int → List D → DM (List Int)
  | acc, [] => pure acc
  | acc, d :: ds => liftO (f d ρ) >>= fun ρ1 => noEr (e ρ1) >>= fun y => toI y >>= fun k => dcD f e ρ (putI acc k) ds
section
variable {cl : Cl} {E : XK} {os : List (Nat × Bool)} {te tk : TE} {ge gk : Env → DM D} {tt : TT} {gt : Env → DM Bool} {tg : TG} {f : D → Env → Option Env} {vs : List Nat} {w : Bool} {wi : TI} {gi : Env → DM (List D)}
theorem ev_dc {b : Bool} (hv : (os.all fun p => !vs.contains p.1) = true) (hi : EvI cl E os w wi gi) (hg : EvG (clr os) vs tg f) (he : Ev cl E0 (clr os) te true ge) :
    Ev cl E os (tDc wi tg tYes te (tC (.bl true)) vs) b (fun ρ => gi ρ >>= fun its => lenOk its >>= fun its => dcD f ge (wipeE ρ vs) [] its >>= fun ks => pure (.dk ks)) := fun {G H0 B Z0 O ρ s σ H} Q F k => by
  have hv' : ∀ p ∈ os, vs.contains p.1 = false := fun p hp => by
    have := List.all_eq_true.mp hv p hp
    simpa using this
  refine hi _ F (k.bind.mono (fun its s1 k J H1 e a it D hD => ?_) fun _ _ k => k)
  obtain ⟨hlen, k⟩ := wp_lenOk k.bind
  have F1 := F.step e a
  have IT := it (D :: (adr O ++ Z0)) (.inr ⟨D, hD, rfl⟩)
  have nD : D ∉ adr O ++ Z0 := fun z => F1.domZ D (.inl z) hD
  have nDY : D ∉ G.Y := fun z => nD (F.sub D z)
  have hD0 : H D = none := fresh_back F s1 a e hD
  have sub' : ∀ x ∈ adr O ++ Z0, x ∈ D :: (adr O ++ Z0) := fun x hx => List.mem_cons_of_mem _ hx
  refine ⟨fun i m H2 => m + i = its.length ∧ ∃ s' ks, H2 D = some (.dK (kvD ks)) ∧ ¬ G.R H2 D ∧ ks.length ≤ i ∧ Ext G G.Y H1 H2 ∧ G.A s' H2 ∧
      Wp (dcD f ge (wipeE ρ vs) ks (its.drop i) s') (fun ys s' => ∀ p H', Ext G G.Y H H' → H p = none → ¬ G.R H' p → H' p = some (.dK (kvD ys)) → G.A s' H' → Q (.ref p) H') (fun e s' => ∀ H', Ext G G.Y H H' → G.A s' H' → E (.ref (cl e)) none H'),
    ⟨its.length, rfl, s1, [], upd_same, (F1.domZ.av hD).2, Nat.zero_le _, Ext.new hD, F1.same (same_new hD), k.bind.mono (fun ys s2 k2 p H' e9 h0 nr hp a9 => wp_pure k2 (.ref p) H' e9 a9 (.dk ⟨fun z => F.domZ p (.inl (bz_sub' p z)) h0, nr⟩ hp)) fun _ _ k => k⟩, fun i m H2 ⟨hm, s', ks, hD2, nR2, lA, e2, a2, k2⟩ => ?_⟩
  have ew : Ext G (if w then adr O ++ Z0 else G.Y) H1 H2 := by
    cases w with
    | true => exact e2.sub F.sub
    | false => exact e2
  by_cases hl : i < its.length
  · refine .inr ⟨IT.go i H2 hl ew, fun H3 => ∃ m', m' < m ∧ m' + (i + 1) = its.length ∧ ∃ s' ks, H3 D = some (.dK (kvD ks)) ∧ ¬ G.R H3 D ∧ ks.length ≤ i + 1 ∧ Ext G G.Y H1 H3 ∧ G.A s' H3 ∧
      Wp (dcD f ge (wipeE ρ vs) ks (its.drop (i + 1)) s') (fun ys s' => ∀ p H', Ext G G.Y H H' → H p = none → ¬ G.R H' p → H' p = some (.dK (kvD ys)) → G.A s' H' → Q (.ref p) H') (fun e s' => ∀ H', Ext G G.Y H H' → G.A s' H' → E (.ref (cl e)) none H'), fun _ h => h, fun x H3 y => ?_⟩
    have dr : its.drop i = its[i] :: its.drop (i + 1) := List.drop_eq_getElem_cons hl
    rw [dr] at k2
    obtain ⟨ρ1, e1, k3⟩ := wp_liftO (Wp.bind (x := liftO (f its[i] (wipeE ρ vs))) k2)
    have dm2 : dom G (D :: (adr O ++ Z0)) H2 := fun x hx => by
      rcases hx with hx | hx
      · rcases List.mem_cons.mp hx with rfl | hx
        · rw [hD2]; exact Option.some_ne_none _
        · exact (F1.step e2 a2).domZ x (.inl hx)
      · exact (F1.step e2 a2).domZ x (.inr hx)
    obtain ⟨sm, rp⟩ := IT.yld i H2 x H3 its[i] (List.getElem?_eq_getElem hl) ew dm2 y
    have e3 : Ext G G.Y H1 H3 := e2.trans (Same.ext sm)
    have a3 : G.A s' H3 := (F1.step e2 a2).same sm
    have nR3 : ¬ G.R H3 D := fun r => nR2 (G.rs _ _ sm D r)
    have FB := F1.blk hv' hD e3 a3 (sm D _ hD2) nR3 nDY
    have toB : ∀ z ∈ adr (clrO O) ++ (D :: Z0), z ∈ D :: (adr O ++ Z0) := fun z hz => by
      rw [adr_clr] at hz
      rcases List.mem_append.mp hz with hz | hz
      · exact List.mem_cons_of_mem _ (List.mem_append_left _ hz)
      · rcases List.mem_cons.mp hz with rfl | hz
        · exact List.mem_cons_self
        · exact List.mem_cons_of_mem _ (List.mem_append_right _ hz)
    have ofB : ∀ z ∈ D :: (adr O ++ Z0), z ∈ adr (clrO O) ++ (D :: Z0) := fun z hz => by
      rw [adr_clr]
      rcases List.mem_cons.mp hz with rfl | hz
      · exact List.mem_append_right _ List.mem_cons_self
      · rcases List.mem_append.mp hz with hz | hz
        · exact List.mem_append_left _ hz
        · exact List.mem_append_right _ (List.mem_cons_of_mem _ hz)
    refine hg x its[i] ρ1 _ FB (Rep.reg (G := G) (G' := G.plus D (.dK (kvD ks)) nDY) rfl rfl (rp.low toB)) e1 fun σ4 hw F4 => ⟨hw.trans wipe_wipe, ?_⟩
    have keepG : ∀ {Ha Hb : Hp}, Ext (G.plus D (.dK (kvD ks)) nDY) (G.plus D (.dK (kvD ks)) nDY).Y Ha Hb → Ext G (D :: G.Y) Ha Hb := fun h => ⟨h.k, h.r, h.n⟩
    have un : ∀ {H5 : Hp}, Ext G (D :: G.Y) H3 H5 → Ext G G.Y H1 H5 := fun h => ⟨fun z u n q => h.k z u ⟨fun m => (List.mem_cons.mp m).elim (fun r => by rw [r, hD] at q; cases q) n.1, (e3.av (fun _ z => z) n q).2⟩ (e3.k z u n q), fun z r => (h.r z r).elim (e3.r z) fun h => .inr (by
      cases q : H1 z with
      | none => rfl
      | some o => exact absurd h (e3.n z (by rw [q]; exact Option.some_ne_none _))), fun z q => h.n z (e3.n z q)⟩
    refine he _ F4 ((Wp.noEr (Wp.bind k3)).mono (fun d2 s6 k6 v H6 e6 a6 r6 => ?_) fun _ _ (h : False) => h.elim)
    obtain ⟨kk, rfl, k7⟩ := wp_toI k6.bind
    have ll := putI_le ks kk
    refine ⟨kvD ks, .inl kk, rep_int r6, a6.2.1, ?_, m - 1, by omega, by omega, s6, putI ks kk, ?_, ?_, by omega, ?_, ?_, k7⟩
    · rw [kvD_length]
      exact lim_lt (by omega)
    · rw [putK_kvD]; exact upd_same
    · exact fun r => a6.2.2 (G.ru _ _ _ nDY _ r)
    · rw [putK_kvD]; exact un ((keepG e6).trans (Ext.wr List.mem_cons_self nDY))
    · refine G.dep s6 H6 _ (fun z hz => ?_) a6.1
      rw [upd_ne (fun (r : z = D) => by
        subst r
        rcases hz with hz | hz | hz
        · exact nDY hz
        · exact G.inY s1 H1 F1.st z (.inr (.inl hz)) hD
        · exact a6.2.2 hz)]
  · have hn : its.drop i = [] := List.drop_eq_nil_of_le (by omega)
    rw [hn] at k2
    have hie : i = its.length := by omega
    refine .inl ⟨by rw [hie]; exact IT.stop H2 ew, ?_⟩
    have k3 := wp_pure k2
    exact k3 D H2 (e.trans e2) hD0 nR2 hD2 a2

def gDc (vs : List Nat) (gi : Env → DM (List D)) (f : D → Env → Option Env) (e : Env → DM D) : Env → DM D := fun ρ => gi ρ >>= fun its => lenOk its >>= fun its => dcD f e (wipeE ρ vs) [] its >>= fun ks => pure (.dk ks)
theorem v_dc {b : Bool} (hv : (os.all fun p => !vs.contains p.1) = true) (hi : EwI cl E os false wi gi) (hg : EwG (clr os) vs tg f) (he : Ew cl E0 (clr os) te true ge) : Ew cl E os (tDc wi tg tYes te (tC (.bl true)) vs) b (gDc vs gi f ge) := ⟨ev_dc hv hi.1 hg.1 he.1⟩
end
def D.lenK : List D → Option D
  | [.dk ks] => some (.int ks.length)
  | _ => none
theorem cd_lenK {X : Cx} : CallR X (.builtin "len") (rDc D.lenK) := callr_imp call_lenD fun xs H Q ⟨G, Z, ds, d, hz, r, hf, q⟩ => by
  match ds, r, hf with
  | [.dk ks], .cons r1 .nil, hf =>
    cases hf
    cases r1 with
    | dk na ha => exact ⟨_, _, rfl, ha, by rw [List.length_map]; exact q _ H (Same.refl H) (.int _)⟩
end DL

namespace DL
open PySem PySem.Spec PyProof.Rows L2
/-! ### sorted tuples of whole numbers -/
def BB : Int := 1048576
def rowD (ns : List Int) : D := .tup (ns.map D.int)
def toRow (d : Nat) : D → Option (List Int)
  | .tup ys => (toInts ys).bind fun ns => guardO (decide (ns.length = d ∧ ∀ m ∈ ns, 0 ≤ m ∧ m < BB)) (some ns)
  | _ => none
def toRows (d : Nat) : List D → Option (List (List Int))
  | [] => some []
  | x :: xs => (toRow d x).bind fun n => (toRows d xs).map (n :: ·)
def insR (x : List Int) : List (List Int) → List (List Int)
  | [] => [x]
  | y :: r => if TS.code BB x ≤ TS.code BB y then x :: y :: r else y :: insR x r
def srtR : List (List Int) → List (List Int)
  | [] => []
  | x :: r => insR x (srtR r)
theorem insR_perm (x : List Int) : ∀ l, (insR x l).Perm (x :: l)
  | [] => .refl _
  | y :: r => by
    simp only [insR]
    split
    · exact .refl _
    · exact ((insR_perm x r).cons y).trans (.swap x y r)
theorem srtR_perm : ∀ l, (srtR l).Perm l
  | [] => .refl _
  | x :: r => (insR_perm x (srtR r)).trans ((srtR_perm r).cons x)
theorem insR_pw (x : List Int) : ∀ l, l.Pairwise (fun a b => TS.code BB a ≤ TS.code BB b) → (insR x l).Pairwise (fun a b => TS.code BB a ≤ TS.code BB b)
  | [], _ => List.pairwise_singleton _ _
  | y :: r, h => by
    obtain ⟨h1, h2⟩ := List.pairwise_cons.mp h
    simp only [insR]
    split
    · rename_i hxy
      refine List.pairwise_cons.mpr ⟨fun z hz => ?_, h⟩
      rcases List.mem_cons.mp hz with rfl | hz
      · exact hxy
      · exact Int.le_trans hxy (h1 z hz)
    · rename_i hxy
      refine List.pairwise_cons.mpr ⟨fun z hz => ?_, insR_pw x r h2⟩
      rcases List.mem_cons.mp ((insR_perm x r).mem_iff.mp hz) with rfl | hz
      · omega
      · exact h1 z hz
theorem srtR_pw : ∀ l, (srtR l).Pairwise (fun a b => TS.code BB a ≤ TS.code BB b)
  | [] => .nil
  | x :: r => insR_pw x (srtR r) (srtR_pw r)
/-- rows of one length with one code are one row -/
theorem code_inj : ∀ (a b : List Int), a.length = b.length → TS.Bd BB a → TS.Bd BB b → TS.code BB a = TS.code BB b → a = b
  | [], [], _, _, _, _ => rfl
  | [], _ :: _, h, _, _, _ => by cases h
  | _ :: _, [], h, _, _, _ => by cases h
  | x :: a, y :: b, h, h1, h2, e => by
    have hl : a.length = b.length := by simpa using h
    rcases Int.lt_trichotomy x y with z | z | z
    · have := TS.code_lt hl h1.tail h2.tail z; omega
    · subst z
      have e2 : TS.code BB a = TS.code BB b := by
        have e' : x * BB ^ a.length + TS.code BB a = x * BB ^ b.length + TS.code BB b := e
        rw [hl] at e'
        omega
      rw [code_inj a b hl h1.tail h2.tail e2]
    · have := TS.code_lt hl.symm h2.tail h1.tail z; omega
theorem toRow_eq {d : Nat} {x : D} {n : List Int} (h : toRow d x = some n) : x = rowD n ∧ n.length = d ∧ TS.Bd BB n := by
  cases x with
  | tup ys =>
    obtain ⟨ns, e1, e2⟩ := Option.bind_eq_some_iff.mp h
    obtain ⟨c, e3⟩ := guardO_some e2
    cases e3
    obtain ⟨c1, c2⟩ := of_decide_eq_true c
    exact ⟨by rw [toInts_eq e1]; rfl, c1, c2⟩
  | _ => cases h
theorem toRows_eq {d : Nat} : ∀ {xs : List D} {rs : List (List Int)}, toRows d xs = some rs → xs = rs.map rowD ∧ ∀ r ∈ rs, r.length = d ∧ TS.Bd BB r
  | [], rs, h => by cases h; exact ⟨rfl, fun r hr => nomatch hr⟩
  | x :: xs, rs, h => by
    obtain ⟨n, e1, e2⟩ := Option.bind_eq_some_iff.mp h
    obtain ⟨r, e3, rfl⟩ := Option.map_eq_some_iff.mp e2
    obtain ⟨q1, q2⟩ := toRows_eq e3
    obtain ⟨p1, p2⟩ := toRow_eq e1
    refine ⟨by rw [p1, q1]; rfl, fun y hy => ?_⟩
    rcases List.mem_cons.mp hy with rfl | hy
    · exact p2
    · exact q2 y hy
section
variable {κ : Addr} {G : Rg} {Z : List Addr} {H : Hp} {X : Cx}
theorem rep_perm {ys xs : List V} (p : ys.Perm xs) : ∀ {l : List (List Int)}, RepAll G Z H xs (l.map rowD) → ∃ l' : List (List Int), l'.Perm l ∧ RepAll G Z H ys (l'.map rowD) := by
  induction p with
  | nil => intro l r; exact ⟨l, .refl _, r⟩
  | cons x p ih =>
    intro l r
    cases l with
    | nil => cases r
    | cons n l =>
      cases r with
      | cons r1 r2 =>
        obtain ⟨l', q1, q2⟩ := ih r2
        exact ⟨n :: l', q1.cons n, .cons r1 q2⟩
  | swap x y zs =>
    intro l r
    cases l with
    | nil => cases r
    | cons n l =>
      cases l with
      | nil =>
        cases r with
        | cons r1 r2 => cases r2
      | cons m l =>
        cases r with
        | cons r1 r2 =>
          cases r2 with
          | cons r3 r4 => exact ⟨m :: n :: l, .swap n m l, .cons r3 (.cons r1 r4)⟩
  | trans p1 p2 ih1 ih2 =>
    intro l r
    obtain ⟨l1, a1, b1⟩ := ih2 r
    obtain ⟨l2, a2, b2⟩ := ih1 b1
    exact ⟨l2, a2.trans a1, b2⟩
theorem rep_row {K : PySem.W.Frag} {x : V} {n : List Int} (h : Rep G Z H x (rowD n)) : TupI K H x n := by
  obtain ⟨a, vs, rfl, na, ha, hr⟩ := rep_tup h
  rw [hr.ints] at ha
  exact ⟨a, rfl, SqT.of ha⟩
theorem rep_memR : ∀ {vs : List V} {l : List (List Int)}, RepAll G Z H vs (l.map rowD) → ∀ m ∈ l, ∃ v ∈ vs, Rep G Z H v (rowD m)
  | _, [], _, m, h => nomatch h
  | _, n :: l, r, m, h => by
    cases r with
    | cons r1 r2 =>
      rcases List.mem_cons.mp h with rfl | h
      · exact ⟨_, List.mem_cons_self, r1⟩
      · obtain ⟨v, hv, q⟩ := rep_memR r2 m h
        exact ⟨v, List.mem_cons_of_mem _ hv, q⟩
theorem rep_memV : ∀ {vs : List V} {l : List (List Int)}, RepAll G Z H vs (l.map rowD) → ∀ v ∈ vs, ∃ m ∈ l, Rep G Z H v (rowD m)
  | _, [], r, v, h => by cases r; cases h
  | _, n :: l, r, v, h => by
    cases r with
    | cons r1 r2 =>
      rcases List.mem_cons.mp h with rfl | h
      · exact ⟨n, List.mem_cons_self, r1⟩
      · obtain ⟨m, hm, q⟩ := rep_memV r2 v h
        exact ⟨m, List.mem_cons_of_mem _ hm, q⟩
theorem rep_pw {K : PySem.W.Frag} : ∀ {vs : List V} {l : List (List Int)}, RepAll G Z H vs (l.map rowD) → vs.Pairwise (fun x y => ∀ n m, TupI K H x n → TupI K H y m → TS.code BB n ≤ TS.code BB m) → l.Pairwise (fun a b => TS.code BB a ≤ TS.code BB b)
  | _, [], _, _ => .nil
  | _, n :: l, r, h => by
    cases r with
    | cons r1 r2 =>
      obtain ⟨h1, h2⟩ := List.pairwise_cons.mp h
      refine List.pairwise_cons.mpr ⟨fun m hm => ?_, rep_pw r2 h2⟩
      obtain ⟨v, hv, q⟩ := rep_memR r2 m hm
      exact h1 v hv n m (rep_row r1) (rep_row q)
def D.sortT (d : Nat) : List D → Option D
  | [.lst xs] => (toRows d xs).bind fun rs => guardO (decide (rs.length < 64)) (some (.lst ((srtR rs).map rowD)))
  | _ => none
theorem cd_sortT {d : Nat} (h1 : 1 ≤ d) : CallR X (.builtin "sorted") (rDc (D.sortT d)) := callr_imp (cr_sortT (d := d) (B := BB) h1) fun xs H Q ⟨G, Z, ds, dd, hz, r, hf, q⟩ => by
  match ds, r, hf with
  | [.lst ys], .cons r1 .nil, hf =>
    simp only [D.sortT] at hf
    obtain ⟨rs, e1, e2⟩ := Option.bind_eq_some_iff.mp hf
    obtain ⟨c, e3⟩ := guardO_some e2
    cases e3
    obtain ⟨p1, p2⟩ := toRows_eq e1
    subst p1
    obtain ⟨a, vs, rfl, na, ha, hr⟩ := rep_lst r1
    have hlen : vs.length < 64 := by rw [hr.length, List.length_map]; exact of_decide_eq_true c
    refine ⟨a, vs, rfl, SqL.of ha, hlen, fun x hx => ?_, fun zs p hp hs hn => ?_⟩
    · obtain ⟨m, hm, q2⟩ := rep_memV hr x hx
      exact ⟨m, rep_row q2, (p2 m hm).1, (p2 m hm).2⟩
    · obtain ⟨l', q1, q2⟩ := rep_perm hp hr
      have hpw := rep_pw q2 hs
      have e : l' = srtR rs := (q1.trans (srtR_perm rs).symm).eq_of_pairwise (fun a b ha hb h1 h2 => code_inj a b
        (by rw [(p2 a (q1.mem_iff.mp ha)).1, (p2 b ((srtR_perm rs).mem_iff.mp hb)).1]) (p2 a (q1.mem_iff.mp ha)).2 (p2 b ((srtR_perm rs).mem_iff.mp hb)).2 (Int.le_antisymm h1 h2)) hpw (srtR_pw rs)
      rw [e] at q2
      obtain ⟨s1, s2⟩ := newL hz hn q2
      exact q _ _ s1 s2
end
end DL

namespace DL
open PySem PySem.Spec PyProof.Rows L2
/-! ### set(xs) of a list of whole numbers, sorted(set(xs)) and len(set(xs)) -/
abbrev newSet (w : World) : Obj := { cls := .type "set", dict := none, data := .set #[] 0 (.fresh 0 0 (!w.params.followText "set-order")) }
section
variable {P : Program} {w : World} {A : Around} {E : Value → Shared → Prop} {s : Shared}
/-- what set(xs) leaves behind -/
def SetDone (w : World) (ns : List Int) (h : Heap) (p : Addr) (h' : Heap) : Prop := ∃ c, SetR w h' p (fun j => decide (j ∈ ns)) c ∧ c ≤ ns.length ∧ ∀ b o, h.get? b = some o → h'.get? b = some o
theorem set_fill {l : Addr} {items : Array Value} {ns : List Int} (hh : A.handled = none) (hl : s.heap.IsList l items) (hit : IntsAre items.toList ns) (hb : ns.length + 1 < scanBound) :
    codeAny (model P w) A (.call (.builtin "set.__init__") ⟨[.ref s.heap.objs.size, .ref l], []⟩) (wants (fun r t => r = .none ∧ ∃ h' tk, t = { s with heap := h', toks := tk } ∧ SetDone w ns s.heap s.heap.objs.size h') E) { s with heap := s.heap.push (newSet w) } := by
  have sz : items.size = ns.length := by have q := hit.length; rwa [Array.length_toList] at q
  obtain ⟨ol, hol, hcl, nl, hdl⟩ := hl
  obtain ⟨c0, d0, t0, s0⟩ := ol
  simp only at hcl hdl
  cases hcl
  cases hdl
  have old := Heap.get?_push_of_some (newSet w) hol
  have n1 := F.sub_list_set
  have n2 := F.sub_list_frozenset
  have n3 : (Value.type "list" == Value.type "dict") = false := by decide
  have isl : (s.heap.push (newSet w)).IsList l items := ⟨_, old, rfl, nl, rfl⟩
  have hS : (s.heap.push (newSet w)).get? s.heap.objs.size = some (newSet w) := Heap.get?_push_size _ rfl
  have hT : Shared.TypeIs { s with heap := s.heap.push (newSet w) } (.ref s.heap.objs.size) "set" := ⟨_, hS, rfl⟩
  have lt : l < s.heap.objs.size := Heap.lt_size hol
  have z1 : (s.heap.push (newSet w)).objs.size = s.heap.objs.size + 1 := Heap.size_push ..
  refine codeAny_call_builtin F.called_set.init.plain F.entry_set_init (check_set_init_1 hT ?_)
  unfold Builtin.«set.__init__» noKeywords Builtin.Frozenset.updateFrom
  generalize hPI : pyIter = PI
  wp_walk
  subst hPI
  refine wpAny_pyIter_list isl (wpAny_bind (wpAny_runValue ?_))
  have nI : l ≠ (s.heap.push (newSet w)).objs.size := by rw [z1]; exact Nat.ne_of_lt (Nat.lt_succ_of_lt lt)
  have nS : s.heap.objs.size ∉ [(s.heap.push (newSet w)).objs.size, l] := by
    rw [z1]
    simp only [List.mem_cons, List.not_mem_nil, or_false, not_or]
    exact ⟨Nat.ne_of_lt (Nat.lt_succ_self _), Nat.ne_of_gt lt⟩
  have hvl : ∀ (i : Nat) (v : Value), items[i]? = some v → ∃ k t, ns[i]? = some k ∧ v = .int k t := fun i v hv => by
    have hi : i < ns.length := by rw [← sz]; exact (Array.getElem?_eq_some_iff.mp hv).1
    obtain ⟨t, e⟩ := IntsAre.int_at hit i v (by rw [Array.getElem?_toList]; exact hv)
    rw [List.getD_eq_getElem?_getD, List.getElem?_eq_getElem hi] at e
    exact ⟨ns[i], t, List.getElem?_eq_getElem hi, e⟩
  have hh3 : A.in1.in1.handled = none := hh
  have get0 : ((s.heap.push (newSet w)).push { cls := .type "list_iterator", data := .fields #[.ref l, .int 0 0] }).get? s.heap.objs.size = some (newSet w) := Heap.get?_push_of_some _ hS
  refine set_update_ints ((Walks.list (prog := P) (w := w) hh3 _ l nI items).toS) s.heap.objs.size nS ns sz hb hvl (items.size - 0) 0 _ rfl (Nat.zero_le _) ?old ?new fun s' c' hm hc' hS' => ?fin
  case old => exact ⟨⟨_, Heap.get?_push_size _ rfl, rfl, rfl⟩, isl.push _⟩
  case new => exact ⟨0, Nat.le_refl 0, setR_new_at get0⟩
  obtain ⟨h', g2, d2, tk, os2⟩ := s'
  cases (hm.gens : g2 = s.gens)
  cases (hm.drawn : d2 = s.drawn)
  cases (hm.os : os2 = s.os)
  show wpAny _ _ _ _ _ _
  refine wpAny_pure ?_
  show wpAny _ _ (ret Value.none) _ _ _
  refine wpAny_pure ⟨rfl, h', tk, rfl, c', hS', by rw [← sz]; exact hc', fun b o e => ?_⟩
  have b0 : b < s.heap.objs.size := Heap.lt_size e
  refine hm.heap b o ?_ (Heap.get?_push_of_some _ (Heap.get?_push_of_some _ e))
  rw [z1]
  simp only [List.mem_cons, List.not_mem_nil, or_false, not_or]
  exact ⟨Nat.ne_of_lt b0, Nat.ne_of_lt (Nat.lt_succ_of_lt b0)⟩
/-- set(xs) -/
theorem call_setL {l : Addr} {items : Array Value} {ns : List Int} {Q : Value → Shared → Prop} (hh : A.handled = none) (hl : s.heap.IsList l items) (hit : IntsAre items.toList ns) (hb : ns.length + 1 < scanBound)
    (q : ∀ h' tk, SetDone w ns s.heap s.heap.objs.size h' → Q (.ref s.heap.objs.size) { s with heap := h', toks := tk }) : wpAny (model P w) A (call (.type "set") [.ref l]) Q E s := by
  obtain ⟨c, tl, hmro⟩ := F.called_set.mro
  have p1 := F.called_set.made
  have p2 := F.called_set.sub
  refine wpAny_call (codeAny_of_tree ?_)
  show wpAny _ _ (callAny (.type "set") _) _ _ _
  refine wpAny_pure ⟨Code.quiet_builtin _ (by decide +kernel), codeAny_builtin F.entry_type_call ?_⟩
  rw [Around.under_plain (weight_type_call_type "set" [.ref l] []) rfl]
  have p3 := F.called_set.notType
  have p4 := F.called_set.canCreate
  have p5 := F.typeCall_set_1 (.ref l)
  repeat (any_goals (first | assumption | wp_step))
  have done1 := code_set_led1 (P := P) (w := w) (A := A.in1) (s := s) (.ref l) (E := E) (Q₁ := fun ob t => ob = .ref s.heap.objs.size ∧ t = { s with heap := s.heap.push (newSet w) }) ⟨rfl, rfl⟩
  refine codeAny_mono done1 fun r t hr => ?_
  cases r with
  | error e => exact hr
  | ok fl =>
    cases fl with
    | ret ob =>
      obtain ⟨rfl, rfl⟩ := hr
      have hT : Shared.TypeIs { s with heap := s.heap.push (newSet w) } (.ref s.heap.objs.size) "set" := ⟨_, Heap.get?_push_size _ rfl, rfl⟩
      have i1 := F.called_set.init.lookup
      have i2 := F.called_set.init.bind (.ref s.heap.objs.size)
      repeat (any_goals (first | assumption | wp_step))
      refine codeAny_mono (set_fill (E := E) hh hl hit hb) fun r2 t2 hr2 => ?_
      cases r2 with
      | error e => exact hr2
      | ok fl2 =>
        cases fl2 with
        | ret v =>
          obtain ⟨rfl, h', tk, rfl, hd⟩ := hr2
          repeat (any_goals (first | assumption | wp_step))
          exact q _ _ hd
        | _ => exact hr2.elim
    | _ => exact hr.elim
/-- sorted(xs), xs a set of whole numbers, any number of them -/
theorem sort_setAny {a : Addr} {S : Int → Bool} {n : Nat} {Q : Value → Shared → Prop} (R : SetR w s.heap a S n) (hh : A.handled = none) (hn : n ≤ sizeLine)
    (q : ∀ (t : Shared) (p : Addr) (out : Array Value) (c : Nat) (ns : List Int), (∀ b o, s.heap.get? b = some o → t.heap.get? b = some o) → t.gens = s.gens → t.os = s.os → s.heap.objs.size ≤ p →
      t.heap.get? p = some (seqObj "list" out c) → IntsAre out.toList ns → ns.Pairwise (· ≤ ·) → ns.Nodup → (∀ k, k ∈ ns ↔ S k = true) → Q (.ref p) t) : wpAny (model P w) A (call (.builtin "sorted") [.ref a]) Q E s := by
  obtain ⟨o, es, ep, tb, ho, hex, hd, g, nd, hm, hb, hf, hen, hr, hl⟩ := R
  refine Calls.call_function_entry kind_sorted plain_sorted entry_sorted (args_sorted1 _) ?_
  unfold Builtin.«sorted»
  refine wpAny_bind (m := checkCount "sorted" 1 1 _) (wpAny_pure (wpAny_bind (collect_set (A := A.in1) hh ⟨o, ho, hex.1, hd⟩ hf hb hr hl fun t vs k1 hz g1 o1 pm => ?_)))
  have lv : vs.length = n := by rw [pm.length_eq, List.length_map, Array.length_toList, hen]
  have lz : vs.length ≤ sizeLine := by rw [lv]; exact hn
  have iv : IntsAre vs (vs.map Builtin.Re.reRawOf) := ints_of vs fun v hv => by
    obtain ⟨e, he, eq⟩ := List.mem_map.mp (pm.mem_iff.mp hv)
    obtain ⟨k, tk, h1, _⟩ := g e he
    exact ⟨k, tk, eq ▸ h1⟩
  have pk : (vs.map Builtin.Re.reRawOf).Perm (es.toList.map keyOf) := by
    have z := pm.map Builtin.Re.reRawOf
    rwa [List.map_map] at z
  refine wpAny_bind (wpAny_newList ?_ lz)
  have hob : (t.heap.push (seqObj "list" vs.toArray 0)).get? t.heap.objs.size = some (seqObj "list" vs.toArray 0) := Heap.get?_push_size _ rfl
  refine wpAny_bind (wpAny_holding (wpAny_call_entry slot_list_sort ⟨_, hob, rfl⟩ entry_list_sort (SrtO.list_sort_ord SrtO.swo_int hob lz (fun h2 => SrtO.ints_sortable iv h2) fun out h1 h2 => ⟨_, rfl, ?_⟩) (args_list_sort _)))
  obtain ⟨i1, i2, i3⟩ := SrtO.ints_out iv h1 h2
  obtain ⟨c, hc⟩ := sortedHeap_at (vs := vs) (out := out.toArray) hob
  have pn : (out.map SrtO.iv).Perm (es.toList.map keyOf) := i2.trans pk
  refine wpAny_pure ⟨_, rfl, q _ t.heap.objs.size out.toArray c (out.map SrtO.iv) (fun b u e => ?_) g1 o1 hz hc i1 i3 (pn.nodup_iff.mpr nd) fun k => by rw [pn.mem_iff, ← hm k]⟩
  have e1 := k1 b u e
  have lt := Heap.lt_size e1
  show (sortedHeap (t.heap.push (seqObj "list" vs.toArray 0)) t.heap.objs.size vs out.toArray).get? b = some u
  rw [sortedHeap_old (Nat.ne_of_lt lt) (by rw [size_push']; exact Nat.lt_succ_of_lt lt)]
  exact Heap.get?_push_of_some _ e1
end
end DL

namespace DL
open PySem PySem.Spec PyProof.Rows L2
/-! ### distinct whole numbers -/
def dedI : List Int → List Int
  | [] => []
  | x :: r => if r.contains x then dedI r else x :: dedI r
theorem dedI_mem {k : Int} : ∀ {l : List Int}, k ∈ dedI l ↔ k ∈ l
  | [] => Iff.rfl
  | x :: r => by
    simp only [dedI]
    split
    · rename_i h
      rw [dedI_mem, List.mem_cons]
      exact ⟨.inr, fun z => z.elim (fun e => e ▸ List.contains_iff_mem.mp h) id⟩
    · rw [List.mem_cons, List.mem_cons, dedI_mem]
theorem dedI_nodup : ∀ l : List Int, (dedI l).Nodup
  | [] => List.nodup_nil
  | x :: r => by
    simp only [dedI]
    split
    · exact dedI_nodup r
    · rename_i h
      exact List.nodup_cons.mpr ⟨fun z => h (List.contains_iff_mem.mpr (dedI_mem.mp z)), dedI_nodup r⟩
theorem dedI_le : ∀ l : List Int, (dedI l).length ≤ l.length
  | [] => Nat.le_refl _
  | x :: r => by
    have := dedI_le r
    simp only [dedI]
    split <;> simp only [List.length_cons] <;> omega
/-- ascending, each once -/
def sset (l : List Int) : List Int := srtI (dedI l)
theorem sset_mem {k : Int} {l : List Int} : k ∈ sset l ↔ k ∈ l := by
  unfold sset
  rw [(srtI_perm _).mem_iff, dedI_mem]
theorem sset_nodup (l : List Int) : (sset l).Nodup := (srtI_perm _).nodup_iff.mpr (dedI_nodup l)
theorem sset_pw (l : List Int) : (sset l).Pairwise (· ≤ ·) := srtI_pw _
theorem sset_eq {l m : List Int} (h : m.Pairwise (· ≤ ·)) (nd : m.Nodup) (hm : ∀ k, k ∈ m ↔ k ∈ l) : m = sset l :=
  sorted_eq ((List.perm_ext_iff_of_nodup nd (sset_nodup l)).mpr fun k => by rw [hm, sset_mem]) h (sset_pw l)
theorem sset_length (l : List Int) : (sset l).length = (dedI l).length := (srtI_perm _).length_eq
section
variable {X : Cx}
def rSetL (K : PySem.W.Frag) (w : World) : List V → Hp → VK → Prop := fun xs H Q => ∃ (a : Addr) (ns : List Int), xs = [.ref a] ∧ SqL K H a (ns.map V.int) ∧ ns.length ≤ 3000 ∧ ∀ p c, H p = none → c ≤ ns.length → Q (.ref p) (upd H p (SetO w p (fun j => decide (j ∈ ns)) c))
theorem cr_setL (hc : X.calm = true) : CallR X (.type "set") (rSetL X.K X.w) := by
  intro pins s σ H vs us Q I r h
  obtain ⟨a, ns, rfl, hs, hl, q⟩ := h
  obtain ⟨its, rv, pl, hz⟩ := I.list hs
  rw [Vals.ref1 r]
  refine call_setL (I.ok.hd hc) pl.isList (ns := ns) (by simpa using rv.ints) (by unfold scanBound; omega) fun h' tk ⟨c, R, hcn, k⟩ => ?_
  exact ⟨.ref _, _, I.laid (t' := tk) (fun b u e => k b u e) (Nat.le_refl _) (setO_new R), rfl, q _ c (I.hok.fresh (Nat.le_refl _)) hcn⟩
def rSortSet (w : World) : List V → Hp → VK → Prop := fun vs H Q => ∃ (a : Addr) (S : Int → Bool) (n : Nat), vs = [V.ref a] ∧ H a = some (SetO w a S n) ∧ n ≤ 3000 ∧
  ∀ (ns : List Int) (p : Addr), ns.Pairwise (· ≤ ·) → ns.Nodup → (∀ k : Int, k ∈ ns ↔ S k = true) → H p = none → Q (.ref p) (upd H p (.lst (ns.map V.int)))
theorem cr_sortSet (hc : X.calm = true) : CallR X (.builtin "sorted") (rSortSet X.w) := by
  intro pins s σ H vs us Q I r h
  obtain ⟨a, S, n, rfl, ha, hn, q⟩ := h
  have R := setO_get I ha
  have hsz : n ≤ sizeLine := by rw [sizeLine_eq]; omega
  rw [Vals.ref1 r]
  refine sort_setAny R (I.ok.hd hc) hsz fun t p out c ns k g o hp hg hi hs nd hm => ?_
  have hlen : (ns.map V.int).length ≤ sizeLine := by
    obtain ⟨ob, es, ep, tb, _, _, _, _, nd2, hm2, _, _, hen, _⟩ := R
    have z : ns.length ≤ (es.toList.map keyOf).length := nd.length_le_of_subset fun k hk => (hm2 k).mp ((hm k).mp hk)
    have e9 : (es.toList.map keyOf).length = n := by rw [List.length_map, Array.length_toList, hen]
    rw [e9] at z
    rw [List.length_map]
    exact Nat.le_trans z hsz
  have hnone : H p = none := I.hok.fresh hp
  have J : Inv X pins σ (upd H p (.lst (ns.map V.int))) { s with heap := t.heap, gens := t.gens, drawn := t.drawn, toks := t.toks } :=
    I.call (ch := []) (Un.laid k hp hnone) (I.hok.laid k hp ⟨hlen, out.toList, c, vals_of_ints hi, hg⟩) (by rw [g]; exact I.bare) (fun _ z => nomatch z)
  have e : t = { s with heap := t.heap, gens := t.gens, drawn := t.drawn, toks := t.toks } := by
    cases t
    cases s
    cases o
    rfl
  rw [e]
  exact ⟨.ref p, _, J, rfl, q ns p hs nd hm hnone⟩
def rLenSet (w : World) : List V → Hp → VK → Prop := fun vs H Q => ∃ (a : Addr) (ns : List Int) (n : Nat), vs = [V.ref a] ∧ H a = some (SetO w a (fun j => decide (j ∈ ns)) n) ∧ Q (.int (dedI ns).length) H
theorem cr_lenSet : CallR X (.builtin "len") (rLenSet X.w) := by
  intro pins s σ H vs us Q I r h
  obtain ⟨a, ns, n, rfl, ha, q⟩ := h
  have R := setO_get I ha
  rw [Vals.ref1 r]
  obtain ⟨ob, es, ep, tb, ho, hex, hd, _, nd, hm, hb, hf, hen, _⟩ := R
  have e : es.size = (dedI ns).length := by
    have p : (es.toList.map keyOf).Perm (dedI ns) := (List.perm_ext_iff_of_nodup nd (dedI_nodup ns)).mpr fun k => by rw [← hm k, dedI_mem, decide_eq_true_eq]
    have := p.length_eq
    rwa [List.length_map, Array.length_toList] at this
  refine call_len_set ho hex hd hf (by have : es.size < scanBound := hb; unfold scanBound at this; omega) ⟨.int (dedI ns).length, H, (I.tok _), ⟨_, by rw [e]⟩, q⟩
end
def D.sortset : List D → Option D
  | [.lst xs] => (toInts xs).bind fun ns => guardO (decide (ns.length ≤ 3000)) (some (.lst ((sset ns).map D.int)))
  | _ => none
def D.lenset : List D → Option D
  | [.lst xs] => (toInts xs).bind fun ns => guardO (decide (ns.length ≤ 3000)) (some (.int (dedI ns).length))
  | _ => none
section
variable {cl : Cl} {E : XK} {os : List (Nat × Bool)} {b : Bool} {tl : TA} {gl : Env → DM (List D)} {K : PySem.W.Frag} {w : World}
theorem ev_sortset (h : EvA cl E os tl b gl) : Ev cl E os (tCB (rSortSet w) (tCons (tCB (rSetL K w) tl) tNil)) b (fun ρ => gl ρ >>= fun ds => liftO (D.sortset ds)) := fun Q F k => by
  refine h _ F (k.bind.mono (fun ds s1 k vs H1 e1 a1 r1 => ?_) fun _ _ k => k)
  obtain ⟨d, ed, k⟩ := wp_liftO k
  have F1 := F.step e1 a1
  match ds, r1, ed with
  | [.lst xs], r1, ed =>
    simp only [D.sortset] at ed
    obtain ⟨ns, e2, ed⟩ := Option.bind_eq_some_iff.mp ed
    obtain ⟨c, ed⟩ := guardO_some ed
    cases ed
    obtain ⟨a, rfl, ha⟩ := one_ints r1 e2
    have hn := of_decide_eq_true c
    refine ⟨a, ns, rfl, SqL.of ha, hn, fun p n hp hle => ?_⟩
    have sm := same_new (o := SetO w p (fun j => decide (j ∈ ns)) n) hp
    refine ⟨p, _, n, rfl, upd_same, Nat.le_trans hle hn, fun ms q h1 h2 h3 hq => ?_⟩
    have em : ms = sset ns := sset_eq h1 h2 fun k => by rw [h3, decide_eq_true_eq]
    rw [em]
    have F2 := F1.step (Same.ext sm) (F1.same sm)
    obtain ⟨s2, r2⟩ := newL (G := _) F2.domb hq (RepAll.of_ints (sset ns))
    exact k _ _ ((e1.trans (Same.ext sm)).trans (Same.ext s2)) (F2.same s2) r2
theorem ev_lenset (h : EvA cl E os tl b gl) : Ev cl E os (tCB (rLenSet w) (tCons (tCB (rSetL K w) tl) tNil)) b (fun ρ => gl ρ >>= fun ds => liftO (D.lenset ds)) := fun Q F k => by
  refine h _ F (k.bind.mono (fun ds s1 k vs H1 e1 a1 r1 => ?_) fun _ _ k => k)
  obtain ⟨d, ed, k⟩ := wp_liftO k
  have F1 := F.step e1 a1
  match ds, r1, ed with
  | [.lst xs], r1, ed =>
    simp only [D.lenset] at ed
    obtain ⟨ns, e2, ed⟩ := Option.bind_eq_some_iff.mp ed
    obtain ⟨c, ed⟩ := guardO_some ed
    cases ed
    obtain ⟨a, rfl, ha⟩ := one_ints r1 e2
    refine ⟨a, ns, rfl, SqL.of ha, of_decide_eq_true c, fun p n hp hle => ?_⟩
    have sm := same_new (o := SetO w p (fun j => decide (j ∈ ns)) n) hp
    exact ⟨p, ns, n, rfl, upd_same, k _ _ (e1.trans (Same.ext sm)) (F1.same sm) (.int _)⟩
theorem v_sortset (h : EwA cl E os tl b gl) : Ew cl E os (tCB (rSortSet w) (tCons (tCB (rSetL K w) tl) tNil)) b (gCB D.sortset gl) := ⟨ev_sortset h.1⟩
theorem v_lenset (h : EwA cl E os tl b gl) : Ew cl E os (tCB (rLenSet w) (tCons (tCB (rSetL K w) tl) tNil)) b (gCB D.lenset gl) := ⟨ev_lenset h.1⟩
end
end DL

namespace DL
open PySem PySem.Spec PyProof.Rows L2 SeqAt
/-- xs.index(x, i) of what stands there from i on -/
theorem index_from (l : Addr) (items : Array Value) (n : Nat) (dd : Option Addr) (sl : Array (Option Value)) (x : Value) (e : Value → Bool) (i j : Nat) (t : Tok) (hj : j < items.size) (hsmall : (j : Int) < 2 ^ 63 - 1) (hij : i ≤ j)
    (hit : e items[j] = true) (hno : ∀ m (hm : m < items.size), i ≤ m → m < j → e items[m] = false) :
    Meets (Builtin.«list.index» ⟨[.ref l, x, .int (i : Nat) t], []⟩)
      (fun A R s => s.heap.get? l = some { cls := .type "list", dict := dd, data := .seq items n, slots := sl } ∧ (∀ y, y ∈ items → EqAt A.in1 s y x (e y)) ∧ R (.ok (.ret (.int j s.toks))) { s with toks := s.toks + 1 }) := by
  intro prog w A R s h
  obtain ⟨hp, g, d, tk, os⟩ := s
  obtain ⟨hl, he, h⟩ := h
  wp_walk using wpAny_loadPart' hl
  have a1 : ((fun p : Int => if p < 0 then max 0 (p + (items.size : Int)) else p) ((some (i : Int)).getD 0)) = (i : Int) := by
    show (if (i : Int) < 0 then max 0 ((i : Int) + (items.size : Int)) else (i : Int)) = (i : Int)
    rw [if_neg (by omega)]
  have a2 : ((fun p : Int => if p < 0 then max 0 (p + (items.size : Int)) else p) ((none : Option Int).getD (2 ^ 63 - 1))) = 2 ^ 63 - 1 := by simp
  rw [a1, a2]
  refine ⟨plainId_quiet MeetsSeq.plain_index_loop _, codeAny_builtin MeetsSeq.entry_index_loop ?_⟩
  rw [Around.under_plainId MeetsSeq.plain_index_loop _]
  exact index_loopAt l items n dd sl x e (2 ^ 63 - 1) j hj hsmall hit _ i rfl hij (fun m hm h1 h2 => hno m hm h1 h2) prog w A R _ ⟨hl, he, h⟩
section
variable {X : Cx}
/-- l.index(k, i) of whole numbers -/
def rIdxFrom (K : PySem.W.Frag) : V → List V → Hp → VK → Prop := fun x xs H Q => ∃ (a : Addr) (ns : List Int) (k : Int) (i j : Nat), x = V.ref a ∧ xs = [.int k, .int (i : Nat)] ∧ SqL K H a (ns.map V.int) ∧ i ≤ j ∧ ns[j]? = some k ∧
  (∀ m : Nat, i ≤ m → m < j → ns[m]? ≠ some k) ∧ Q (.int (j : Nat)) H
theorem mt_idxFrom : MtR X "list.index" (rIdxFrom X.K) := by
  intro pins s σ H x xs v us Q I rx rxs h
  obtain ⟨a, ns, k, i, j, rfl, rfl, hs, hij, hj, hno, q⟩ := h
  cases rx
  cases rxs with
  | cons r1 rt =>
    cases rt with
    | cons r2 rt =>
      cases rt
      obtain ⟨t1, rfl⟩ := r1
      obtain ⟨t2, rfl⟩ := r2
      obtain ⟨its, rv, ⟨⟨cls, dd, data, sl⟩, n, ho, hc, hdn, hd⟩, hlen⟩ := I.list hs
      simp only at hc hd
      subst hc hd
      have hi := ints_of_vals rv
      have hl := rv.length
      rw [List.length_map] at hl hlen
      have hjn : j < ns.length := (List.getElem?_eq_some_iff.mp hj).1
      have hjs : j < its.toArray.size := by rw [List.size_toArray]; omega
      have hsl := sizeLine_eq
      have at_ : ∀ m (hm : m < its.toArray.size), ∃ t, its.toArray[m] = .int (ns.getD m 0) t := fun m hm => by
        have hm' : m < ns.length := by rw [List.size_toArray] at hm; omega
        obtain ⟨t, e⟩ := hi.get m _ (List.getElem?_eq_getElem hm')
        obtain ⟨_, e2⟩ := List.getElem?_eq_some_iff.mp e
        exact ⟨t, by rw [List.getD_eq_getElem?_getD, List.getElem?_eq_getElem hm']; simpa using e2⟩
      refine call_meets PySem.F.slot_list_index ⟨_, ho, rfl⟩ PySem.F.entry_list_index (PySem.F.args_list_index_3 _ _ _)
        (index_from a its.toArray n dd sl (.int k t1) (eqk k) i j t2 hjs (by omega) hij ?_ ?_) ⟨ho, fun y hy => (eqk_gives hi y (by simpa using hy)).at _ _, ⟨.int (j : Nat), H, I.tok _, ⟨_, rfl⟩, q⟩⟩
      · obtain ⟨t, e⟩ := at_ j hjs
        rw [e, List.getD_eq_getElem?_getD, hj]
        exact beq_self_eq_true k
      · intro m hm h1 h2
        obtain ⟨t, e⟩ := at_ m hm
        rw [e]
        refine beq_eq_false_iff_ne.mpr fun z => hno m h1 h2 ?_
        have hm' : m < ns.length := by omega
        rw [List.getD_eq_getElem?_getD, List.getElem?_eq_getElem hm'] at z
        rw [List.getElem?_eq_getElem hm']
        exact congrArg some z
/-- l.count(y) of flat items -/
def rCountF (K : PySem.W.Frag) : V → List V → Hp → VK → Prop := fun x xs H Q => ∃ (a : Addr) (ys : List V) (y : V), x = V.ref a ∧ xs = [y] ∧ SqL K H a ys ∧ flatV y = true ∧ ys.all flatV = true ∧ Q (.int (ys.countP fun z => eqV z y : Nat)) H
theorem mt_countF : MtR X "list.count" (rCountF X.K) := by
  intro pins s σ H x xs v us Q I rx rxs h
  obtain ⟨a, ys, y, rfl, rfl, hs, fy, fys, q⟩ := h
  cases rx
  cases rxs with
  | cons ry rt =>
    rename_i uy ut
    cases rt
    obtain ⟨its, rv, ⟨⟨cls, dd, data, sl⟩, n, ho, hc, hdn, hd⟩, hlen⟩ := I.list hs
    simp only at hc hd
    subst hc hd
    have cnt : ∀ {ys : List V} {its : List Value}, Vals ys its → ys.all flatV = true → its.countP (eqU y) = ys.countP fun z => eqV z y := by
      intro ys its r
      induction r with
      | nil => intro _; rfl
      | @cons z u zs us r1 r2 ih =>
        intro hf
        rw [List.all_cons, Bool.and_eq_true] at hf
        rw [List.countP_cons, List.countP_cons, ih hf.2, eqU_of r1 hf.1]
    refine call_meets PySem.F.slot_list_count ⟨_, ho, rfl⟩ PySem.F.entry_list_count (PySem.F.args_list_count_2 _ _)
      (SeqAt.list_countAt a its.toArray n dd sl uy (eqU y)) ⟨ho, fun u' hu' => mem_eqAt ry fy rv fys u' (by simpa using hu'), ?_⟩
    have ec : its.toArray.toList.countP (eqU y) = ys.countP fun z => eqV z y := cnt rv fys
    refine ⟨.int (ys.countP fun z => eqV z y : Nat), H, I.tok _, ⟨s.toks, ?_⟩, q⟩
    show Value.int ((its.toArray.toList.countP (eqU y) : Nat) : Int) s.toks = _
    rw [ec]
end
end DL

namespace DL
open PySem PySem.Spec PyProof.Rows L2
/-! ### methods of lists -/
def idxFrom (k : Int) (i : Nat) : Nat → List Int → Option Nat
  | _, [] => none
  | p, x :: r => if i ≤ p ∧ x = k then some p else idxFrom k i (p + 1) r
theorem idxFrom_spec {k : Int} {i : Nat} : ∀ {l : List Int} {p j : Nat}, idxFrom k i p l = some j → p ≤ j ∧ i ≤ j ∧ l[j - p]? = some k ∧ ∀ m, i ≤ m → p ≤ m → m < j → l[m - p]? ≠ some k
  | [], p, j, h => by cases h
  | x :: r, p, j, h => by
    simp only [idxFrom] at h
    split at h
    · rename_i c
      cases h
      exact ⟨Nat.le_refl _, c.1, by rw [Nat.sub_self, c.2]; rfl, fun m _ h1 h2 => by omega⟩
    · rename_i c
      obtain ⟨h1, h2, h3, h4⟩ := idxFrom_spec h
      refine ⟨by omega, h2, ?_, fun m a b d => ?_⟩
      · rw [show j - p = (j - (p + 1)) + 1 by omega, List.getElem?_cons_succ]; exact h3
      · by_cases e : m = p
        · subst e
          rw [Nat.sub_self]
          intro z
          have z : some x = some k := z
          exact c ⟨a, Option.some.inj z⟩
        · rw [show m - p = (m - (p + 1)) + 1 by omega, List.getElem?_cons_succ]
          exact h4 m a (by omega) d
def D.indexF : D → List D → Option D
  | .lst xs, [.int k, .int i] => (toInts xs).bind fun ns => guardO (decide (0 ≤ i)) ((idxFrom k i.toNat 0 ns).map fun j => .int (j : Nat))
  | _, _ => none
def D.countB : D → List D → Option D
  | .lst xs, [.bl b] => (toBls xs).map fun bs => .int (bs.count b : Nat)
  | _, _ => none
section
variable {X : Cx}
theorem mtr_imp {id : String} {r r' : V → List V → Hp → VK → Prop} (h : MtR X id r) (k : ∀ x xs H Q, r' x xs H Q → r x xs H Q) : MtR X id r' := fun pins s σ H x xs v us Q I rx rs q => h pins s σ H x xs v us Q I rx rs (k _ _ _ _ q)
theorem md_indexF : MtR X "list.index" (rDm D.indexF) := mtr_imp mt_idxFrom fun x xs H Q ⟨G, Z, dx, ds, d, hz, rx, r, hf, q⟩ => by
  match dx, ds, rx, r, hf with
  | .lst ys, [.int k, .int i], rx, .cons r1 (.cons r2 .nil), hf =>
    simp only [D.indexF] at hf
    obtain ⟨ns, e1, hf⟩ := Option.bind_eq_some_iff.mp hf
    obtain ⟨c, hf⟩ := guardO_some hf
    obtain ⟨j, e2, rfl⟩ := Option.map_eq_some_iff.mp hf
    obtain ⟨a, vs, rfl, na, ha, hr⟩ := rep_lst rx
    rw [toInts_eq e1] at hr
    rw [hr.ints] at ha
    obtain ⟨h1, h2, h3, h4⟩ := idxFrom_spec e2
    have hi : i = ((i.toNat : Nat) : Int) := by have := of_decide_eq_true c; omega
    refine ⟨a, ns, k, i.toNat, j, rfl, ?_, SqL.of ha, h2, by simpa using h3, fun m a b => by have := h4 m a (Nat.zero_le _) b; simpa using this, q _ H (Same.refl H) (.int _)⟩
    rw [rep_int r1, rep_int r2, ← hi]
theorem md_countB : MtR X "list.count" (rDm D.countB) := mtr_imp mt_countF fun x xs H Q ⟨G, Z, dx, ds, d, hz, rx, r, hf, q⟩ => by
  match dx, ds, rx, r, hf with
  | .lst ys, [.bl b], rx, .cons r1 .nil, hf =>
    simp only [D.countB] at hf
    obtain ⟨bs, e1, rfl⟩ := Option.map_eq_some_iff.mp hf
    obtain ⟨a, vs, rfl, na, ha, hr⟩ := rep_lst rx
    rw [toBls_eq e1] at hr
    rw [hr.bls] at ha
    have e : (bs.map V.bl).countP (fun z => eqV z (.bl b)) = bs.count b := by
      rw [List.countP_map, List.count]
      refine List.countP_congr fun x _ => ?_
      cases x <;> cases b <;> decide
    refine ⟨a, _, .bl b, rfl, by rw [rep_bl r1], SqL.of ha, rfl, ?_, ?_⟩
    · rw [List.all_map]; exact List.all_eq_true.mpr fun x _ => rfl
    · rw [e]; exact q _ H (Same.refl H) (.int _)
def D.listK : List D → Option D
  | [.dk ks] => some (.lst (ks.map .int))
  | _ => none
theorem cd_listK (hc : X.calm = true) : CallR X (.type "list") (rDc D.listK) := callr_imp (call_list_dK hc) fun xs H Q ⟨G, Z, ds, d, hz, r, hf, q⟩ => by
  match ds, r, hf with
  | [.dk ks], .cons r1 .nil, hf =>
    cases hf
    cases r1 with
    | dk na ha =>
      refine ⟨_, _, rfl, ha, fun p hp => ?_⟩
      rw [List.map_map]
      obtain ⟨h1, h2⟩ := newL hz hp (RepAll.of_ints (G := G) (Z := Z) (H := H) ks)
      exact q _ _ h1 h2
end
def gMt (f : D → List D → Option D) (ga : Env → DM D) (gl : Env → DM (List D)) : Env → DM D := fun ρ => ga ρ >>= fun x => itemsL x >>= fun _ => gl ρ >>= fun ds => liftO (f x ds)
section
variable {cl : Cl} {E : XK} {os : List (Nat × Bool)} {b : Bool} {ta tb tc : TE} {ga gb gc : Env → DM D} {tl : TA} {gl : Env → DM (List D)} {K : PySem.W.Frag}
theorem ev_mtL {f : D → List D → Option D} (ha : Ev cl E os ta b ga) (hl : EvA cl E os tl b gl) : Ev cl E os (tBM K "list" (rDm f) ta tl) b (gMt f ga gl) := fun Q F w => by
  refine ha _ F (Wp.mono (Wp.bind w) (fun dx s1 k x H1 e1 a1 r1 => ?_) fun _ _ k => k)
  have F1 := F.step e1 a1
  cases dx with
  | lst ys =>
    have k : Wp ((gl _ >>= fun ds => liftO (f (.lst ys) ds)) s1) _ _ := k
    obtain ⟨a, vs, rfl, na, ha, hr⟩ := rep_lst r1
    refine ⟨.inl ⟨rfl, vs, SqL.of ha⟩, hl _ F1 (k.bind.mono (fun ds s2 k2 us H2 e2 a2 r2 => ?_) fun _ _ k2 H' e2 => k2 H' (e1.trans e2))⟩
    have F2 := F1.step e2 a2
    obtain ⟨d, ed, k3⟩ := wp_liftO k2
    exact ⟨_, _, .lst ys, ds, d, F2.domb, r1.ext F.ysb e2, r2, ed, fun v H3 e3 r3 => k3 v H3 ((e1.trans e2).trans (Same.ext e3)) (F2.same e3) r3⟩
  | _ => exact k.elim
theorem v_mtL {f : D → List D → Option D} (ha : Ew cl E os ta b ga) (hl : EwA cl E os tl b gl) : Ew cl E os (tBM K "list" (rDm f) ta tl) b (gMt f ga gl) := ⟨ev_mtL ha.1 hl.1⟩
/-! list(range(..)) -/
def lrg (i j : Int) : DM D := if -1000000 < i ∧ i < 1000000 ∧ -1000000 < j ∧ j < 1000000 then pure (.lst (rngD i (j - i).toNat)) else stuck
theorem rgV_eq (i j : Int) : rgV i j = (((List.range (j - i).toNat).map fun k => i + (k : Nat)).map V.int) := by unfold rgV; rw [List.map_map]; rfl
theorem rngD_eq (i : Int) (n : Nat) : rngD i n = ((List.range n).map fun k => i + (k : Nat)).map D.int := by unfold rngD; rw [List.map_map]; rfl
theorem ev_lrg1 (ha : Ev cl E os ta b ga) : Ev cl E os (tLstRg (tRg1 ta)) b (fun ρ => ga ρ >>= fun x => toI x >>= fun j => lrg 0 j) := fun Q F w => by
  refine ha _ F (w.bind.mono (fun dx s1 k x H1 e1 a1 r1 => ?_) fun _ _ k => k)
  have F1 := F.step e1 a1
  obtain ⟨j, rfl, k3⟩ := wp_toI k.bind
  unfold lrg at k3
  split at k3
  · rename_i c
    refine ⟨j, rep_int r1, ⟨by omega, by omega, by omega, by omega, by omega⟩, fun q hq => ?_⟩
    rw [rgV_eq]
    obtain ⟨h1, h2⟩ := newL (G := _) F1.domb hq (RepAll.of_ints ((List.range (j - 0).toNat).map fun k => (0 : Int) + (k : Nat)))
    rw [← rngD_eq] at h2
    exact wp_pure k3 _ _ (e1.trans (Same.ext h1)) (F1.same h1) h2
  · exact k3.elim
theorem ev_lrg2 (ha : Ev cl E os ta b ga) (hb : Ev cl E os tb b gb) : Ev cl E os (tLstRg (tRg2 ta tb)) b (fun ρ => ga ρ >>= fun x => gb ρ >>= fun y => toI x >>= fun i => toI y >>= fun j => lrg i j) := fun Q F w => by
  refine ha _ F (w.bind.mono (fun dx s1 k x H1 e1 a1 r1 => ?_) fun _ _ k => k)
  have F1 := F.step e1 a1
  refine hb _ F1 (k.bind.mono (fun dy s2 k2 y H2 e2 a2 r2 => ?_) fun _ _ k2 H' e2 => k2 H' (e1.trans e2))
  have F2 := F1.step e2 a2
  obtain ⟨i, rfl, k3⟩ := wp_toI k2.bind
  obtain ⟨j, rfl, k4⟩ := wp_toI k3.bind
  unfold lrg at k4
  split at k4
  · rename_i c
    refine ⟨i, j, rep_int r1, rep_int r2, ⟨by omega, by omega, by omega, by omega, by omega⟩, fun q hq => ?_⟩
    rw [rgV_eq]
    obtain ⟨h1, h2⟩ := newL (G := _) F2.domb hq (RepAll.of_ints ((List.range (j - i).toNat).map fun k => i + (k : Nat)))
    rw [← rngD_eq] at h2
    exact wp_pure k4 _ _ ((e1.trans e2).trans (Same.ext h1)) (F2.same h1) h2
  · exact k4.elim
def gLrg1 (ga : Env → DM D) : Env → DM D := fun ρ => ga ρ >>= fun x => toI x >>= fun j => lrg 0 j
def gLrg2 (ga gb : Env → DM D) : Env → DM D := fun ρ => ga ρ >>= fun x => gb ρ >>= fun y => toI x >>= fun i => toI y >>= fun j => lrg i j
theorem v_lrg1 (ha : Ew cl E os ta b ga) : Ew cl E os (tLstRg (tRg1 ta)) b (gLrg1 ga) := ⟨ev_lrg1 ha.1⟩
theorem v_lrg2 (ha : Ew cl E os ta b ga) (hb : Ew cl E os tb b gb) : Ew cl E os (tLstRg (tRg2 ta tb)) b (gLrg2 ga gb) := ⟨ev_lrg2 ha.1 hb.1⟩
end
/-! list(range(i, j, c)) -/
def rgcV (i c : Int) (n : Nat) : List Int := (List.range n).map fun k => i + (k : Nat) * c
def tLstRg3 (ta : TA) : TE := fun σ H Q => ta σ H fun vs H1 => ∃ (i j c : Int) (n : Nat), vs = [.int i, .int j, .int c] ∧ RgC i j c n ∧ n ≤ 2 ^ 24 ∧ ∀ q, H1 q = none → Q (.ref q) (upd H1 q (.lst ((rgcV i c n).map V.int)))
section
variable {X : Cx} {a b c : Expr} {ta : TA} {p p2 pos pos2 : Pos}
theorem vals_rgc {i c : Int} {n : Nat} {acc : Array Value} (h : ItemsOf (fun k v => ∃ t, v = .int (i + k * c) t) acc n) : Vals ((rgcV i c n).map V.int) acc.toList := by
  have e : acc.toList.length = n := by rw [Array.length_toList]; exact h.1
  unfold rgcV
  rw [List.map_map, ← e]
  refine vals_of_get acc.toList _ fun j u hj => ?_
  obtain ⟨t, rfl⟩ := h.2 j u (by rw [← hj, Array.getElem?_toList])
  exact ⟨t, rfl⟩
theorem pe_listRg3 (hc : X.calm = true) (hg : Gl X "list") (hm : X.mg "list" = none) (hg2 : Gl X "range") (hm2 : X.mg "range" = none) (ha : PA X [a, b, c] ta)
    (na : starEach [.Call (.Name "range" p2) [a, b, c] [] pos2] X.env = (false, eval (.Call (.Name "range" p2) [a, b, c] [] pos2) X.env) :: starEach [] X.env := by rfl)
    (hs : starEach [a, b, c] X.env = (false, eval a X.env) :: starEach [b, c] X.env := by rfl) (hpl : (backTo pos2 (starEach [b, c] X.env)).any (·.1) = false := by rfl) :
    PE X (.Call (.Name "list" p) [.Call (.Name "range" p2) [a, b, c] [] pos2] [] pos) (tLstRg3 ta) := by
  refine ⟨fun pins s σ H Q I h => ?_⟩
  refine Call_ (ld_blt I hg hm boot_list (callWith_type1 (args_cons ?_ na) na))
  refine Call_ (ld_blt I hg2 hm2 boot_range (callWith_type1 (thn (ha.run pos2 pins s σ H _ I h) fun us s1 ⟨vs, H1, I1, r1, q1⟩ => ?_) hs hpl))
  obtain ⟨i, j, k, n, e, ⟨c0, c1, c2, c3⟩, hn, q⟩ := q1
  subst e
  cases r1 with
  | cons r rr =>
    cases rr with
    | cons r' rr =>
      cases rr with
      | cons r'' rr =>
        cases rr
        obtain ⟨t, rfl⟩ := r
        obtain ⟨t', rfl⟩ := r'
        obtain ⟨t'', rfl⟩ := r''
        refine call_range_3 c0 (args_nil ?_) (.inl (PyProof.noPylong_small c1))
        have I2 : Inv X pins σ H1 { s1 with heap := s1.heap.push { cls := .type "range", data := .fields #[.int i t, .int j t', .int k t''] } } := I1.kept (t' := s1.toks) fun b o e => Heap.get?_push_of_some _ e
        refine call_list_range (n := n) (I2.ok.hd hc) (IsRange.new _ _ _ _ _ _ _) c2 c3 hn fun h' tk acc c' hk e' hi => ?_
        refine ⟨.ref _, _, I2.laid hk (Nat.le_refl _) (show ObjOk X.prog X.w _ _ _ (.lst ((rgcV i k n).map V.int)) from ⟨?_, acc.toList, c', vals_rgc hi, ?_⟩), rfl, q _ (I2.hok.fresh (Nat.le_refl _))⟩
        · unfold rgcV
          rw [List.length_map, List.length_map, List.length_range, sizeLine_eq]; omega
        · rw [Array.toArray_toList]; exact e'
end
def lrg3 : List D → DM D := fun ds => rng3 ds >>= fun xs => if xs.length ≤ 100000 then pure (.lst xs) else stuck
def gLrg3 (gl : Env → DM (List D)) : Env → DM D := fun ρ => gl ρ >>= lrg3
section
variable {cl : Cl} {E : XK} {os : List (Nat × Bool)} {b : Bool} {tl : TA} {gl : Env → DM (List D)}
theorem ev_lrg3 (hl : EvA cl E os tl b gl) : Ev cl E os (tLstRg3 tl) b (gLrg3 gl) := fun Q F w => by
  refine hl _ F (Wp.mono (Wp.bind w) (fun ds s1 k vs H1 e1 a1 r1 => ?_) fun _ _ k => k)
  have F1 := F.step e1 a1
  match ds, r1, k with
  | [.int i, .int j, .int c], .cons r1 (.cons r2 (.cons r3 .nil)), k =>
    have k := Wp.bind (x := rng3 [.int i, .int j, .int c]) k
    simp only [rng3] at k
    split at k
    · rename_i hj
      have k := wp_pure k
      split at k
      · rename_i hl
        rw [rngC_length] at hl
        refine ⟨i, j, c, cntC i j c, by rw [rep_int r1, rep_int r2, rep_int r3], ?_, by omega, fun q hq => ?_⟩
        · rcases hj.2 with rfl | rfl
          · exact RgC.neg (by omega) (by omega) (by omega) (by omega)
          · exact rgC_two hj.1.1 hj.1.2
        · obtain ⟨h1, h2⟩ := newL (G := _) F1.domb hq (RepAll.of_ints (rgcV i c (cntC i j c)))
          have e : (rgcV i c (cntC i j c)).map D.int = rngC i c (cntC i j c) := by unfold rgcV rngC; rw [List.map_map]; rfl
          rw [e] at h2
          exact wp_pure k _ _ (e1.trans (Same.ext h1)) (F1.same h1) h2
      · exact k.elim
    · exact k.elim
theorem v_lrg3 (hl : EwA cl E os tl b gl) : Ew cl E os (tLstRg3 tl) b (gLrg3 gl) := ⟨ev_lrg3 hl.1⟩
end
end DL

namespace DL
open PySem PySem.Spec PyProof.Rows L2
/-! ### name = {k: v for ..} on one line -/
section
variable {X : Cx}
theorem ps_setDc {i : Nat} {y : Str} {py : Pos} {kx vx tg it : Expr} {ifs : List Expr} {sc : Scope} {own : List (Str × Nat)} {pos spos : Pos} {wi : TI} {g : TG} {tt : TT} {tk tv : TE} (hc : X.calm = true) (hN : X.N.Nodup) (hy : X.N[i]? = some y) (hyl : X.env.scope.names.lookup y = some .local)
    (hsw : swapsWith (.DictComp kx vx [⟨tg, it, ifs, 0⟩] sc pos) (some (.Name y py)) spos.line X.env = pure true) (hi : PI X tg it wi) (ok : BlkOk X.N X.env.scope sc own)
    (hg : ∀ (s : Shared) (H : Hp) (C : Addr) (cs : List (Str × Addr)) (fp : List Addr), PG (X.blk s H sc (compEnvC sc cs C X.env) fp) tg g)
    (ht : ∀ (s : Shared) (H : Hp) (C : Addr) (cs : List (Str × Addr)) (fp : List Addr), PTs (X.blk s H sc (compEnvC sc cs C X.env) fp) ifs tt)
    (hk : ∀ (s : Shared) (H : Hp) (C : Addr) (cs : List (Str × Addr)) (fp : List Addr), PE (X.blk s H sc (compEnvC sc cs C X.env) fp) kx tk)
    (he : ∀ (s : Shared) (H : Hp) (C : Addr) (cs : List (Str × Addr)) (fp : List Addr), PE (X.blk s H sc (compEnvC sc cs C X.env) fp) vx tv) (hs : ∀ x, foldedSetIterable it X.env x = pure x := by intro _; rfl) :
    PS X (.Assign [.Name y py] (.DictComp kx vx [⟨tg, it, ifs, 0⟩] sc pos) spos) (tAsg (tDc wi g tt tk tv (own.map (·.2))) (gName i)) := ⟨fun pins s σ H D I h => by
  rw [exec_Assign_Name_used _ _ _ _ hsw]
  refine wpAny_bind (wpAny_standAt (wpAny_bind ?_))
  have h : tDc wi g tt tk tv (own.map (·.2)) σ H (fun x H1 => gName i x σ H1 D.nx) := h
  have core := dc_core (s := s) (pins := pins) (pos := pos) (pos' := firstIterPos [⟨tg, it, ifs, 0⟩] pos) (use := some (assign (.Name y py) X.env)) (Qf := fun _ s' => SP X pins D .next s') hc hN I hi ok hg ht hk he hs h fun L C s' m H' I' q hn f => by
    show wpAny _ _ (assign (.Name y py) X.env (.ref L)) _ _ _
    refine wpAny_assign_Name (store_ok2 (v := V.ref L) I' hN hy (.inl hyl) rfl (fun s2 I2 ⟨a, sb, ha⟩ => ?_) (.inr hyl))
    obtain ⟨f0, f1, f2, f3, f4, f5⟩ := f
    have hCa : C ≠ a := by
      rcases ha with z | z
      · exact z ▸ f1
      · exact fun e => f4 y a z e.symm
    refine ⟨m, hn.sameBut sb hCa, fun h3 k3 => ⟨_, H', I2.turned (t' := s2.toks) (fun b o hb e => (k3.2 b hb).trans e) f0 f1 f3 f4 f5, q⟩⟩
  exact wpAny_bind (thn core fun _ s' hq => wpAny_pure (wpAny_pure hq))⟩
theorem sw_trueD {kx vx : Expr} {gs : List Comprehension} {sc : Scope} {pos py : Pos} {y : Str} {l : Nat} {env : PySem.Env} (hk : env.scope.kind = .function) (hy : env.scope.names.lookup y = some .local) (hl : (py.line == pos.line) = true)
    (ha : (sc.names.any fun (n, k) => n == y && (k == .local || k == .cell)) = false) : swapsWith (.DictComp kx vx gs sc pos) (some (.Name y py)) l env = pure true := by
  have k1 : env.kindOf y = some .local := hy
  have k2 : env.blockKind = .function := by unfold Env.blockKind; rw [hk]; rfl
  unfold swapsWith
  simp only [k1, k2, ha, Expr.pos, hl]
  rfl
end
/-! ### an item of an owned list -/
section
variable {cl : Cl} {E : XK} {os : List (Nat × Bool)} {b : Bool} {tb : TE} {gb : Env → DM D} {K : PySem.W.Frag}
theorem ev_ixO {i : Nat} (hn : (os.map (·.1)).contains i = true) (hb : Ev cl E os tb false gb) : Ev cl E os (tOp (rIxL K) (tVar i) tb) b (gOp D.idx (getE i) gb) := fun {G H0 B Z0 O ρ s σ H} Q F w => by
  obtain ⟨d, e, k⟩ := wp_liftO (Wp.bind w)
  have hni : i ∈ ixs O := by
    rw [F.ixe]
    exact List.contains_iff_mem.mp hn
  obtain ⟨o, ho, rfl⟩ := List.mem_map.mp hni
  obtain ⟨ds, vs, e1, e2, e3, r⟩ := F.own o ho
  rw [e1] at e
  cases e
  refine ⟨_, e2, hb _ F (Wp.mono (Wp.bind k) (fun dy s2 k2 y H2 e4 a2 r2 => ?_) fun _ _ k2 => k2)⟩
  have F2 := F.step e4 a2
  obtain ⟨d, ed, k3⟩ := wp_liftO k2
  cases dy with
  | int j =>
    obtain ⟨v', f1, f2⟩ := atI_rep (r.ext F.sub e4) ed
    have e5 : H2 o.a = some (.lst vs) := e4.k _ _ (F.oav ho) e3
    exact ⟨o.a, vs, j, v', rfl, rep_int r2, SqL.of e5, f1, k3 v' H2 e4 a2 (f2.low fun a ha => bz_sub' a ha)⟩
  | _ => cases ed
theorem v_ixO {i : Nat} (hn : (os.map (·.1)).contains i = true) (hb : Ew cl E os tb false gb) : Ew cl E os (tOp (rIxL K) (tVar i) tb) b (gOp D.idx (getE i) gb) := ⟨ev_ixO hn hb.1⟩
end
end DL

namespace DL
open PySem PySem.Spec PyProof.Rows L2
/-! ### dicts whose keys are tuples: a display of one pair, a copy -/
/-- {k: v} with a tuple k -/
def tDT1 (tk tv : TE) : TE := fun σ H Q => ∀ p, H p = none → tk σ (upd H p (.dT [])) fun x H1 => tv σ H1 fun y H2 => H2 p = some (.dT []) ∧ ∃ (k : List L2.Key) (b : Addr), x = .ref b ∧ H2 b = some (.tup (k.map kV)) ∧ Q (.ref p) (upd H2 p (.dT [(k, y)]))
section
variable {X : Cx} {tk tv : TE}
theorem pe_dT1 {k v : Expr} {pos : Pos} (hu : X.A.units < cLine) (hk : PE X k tk) (hv : PE X v tv) : PE X (.Dict [some k] [v] pos) (tDT1 tk tv) := by
  refine ⟨fun pins s σ H Q I q => ?_⟩
  have hn := I.hok.fresh (Nat.le_refl s.heap.objs.size)
  have I1 := I.laid (a := s.heap.objs.size) (o := .dT []) (h' := s.heap.push { cls := .type "dict", data := .dict #[] }) (t' := s.toks) (fun _ _ q => Heap.get?_push_of_some _ q) (Nat.le_refl _) (dt_empty s.heap I.big)
  rw [arm_eval_Dict, zip_pairTrees [some k] [v] X.env pos rfl rfl, dictDisplay_pairs (pairTrees [some k] [v] X.env pos) (fun z => by cases z) (show 1 < 17 by decide)]
  refine wpAny_bind (wpAny_standAt (wpAny_bind (wpAny_subDictH (knd := tupleKind (mixKind X.prog X.w)) (Q := fun d s' => wpAny (model X.prog X.w) X.A (pure (Value.ref d)) (EP X pins σ Q) X.xe s') hu (by decide : 1 ≤ 15) ?_)))
  refine pairTrees_cons_walk (thn (hk.run pins _ σ _ _ I1 (q _ hn)) fun u s1 ⟨x, H1, I2, rx, q1⟩ => thn (hv.run pins s1 σ H1 _ I2 q1) fun w2 s2 ⟨y, H2, I3, ry, e, k', b, ex, eb, q3⟩ => pairTrees_nil_walk ?_)
  subst ex
  obtain rfl : u = Value.ref b := rx
  obtain ⟨z, hd, xs, rel, dd⟩ := dt_of I3.hok e
  cases rel
  refine ⟨[(k', b, w2)], ⟨rfl, rfl, key_of I3.hok eb, True.intro⟩, dd, fun h' tk dd' hs => wpAny_pure ?_⟩
  obtain ⟨o, es, ep, hq, h2, h3, h4, _, h5⟩ := dd'
  refine ⟨.ref s.heap.objs.size, _, d_write (ob := .dT [(k', y)]) I3 (by rw [e]; exact True.intro) hs ⟨o, hq⟩ ⟨?_, hd, [(k', b, w2)], .cons ⟨rfl, ?_, ry⟩ .nil, o, es, ep, hq, h2, h3, h4, h5⟩, rfl, q3⟩
  · show 1 ≤ sizeLine
    rw [sizeLine_eq]; decide
  · rw [upd_ne (ne_of eb e (fun z => nomatch z))]; exact eb
end
/-- dict(d) -/
def rDictT (P : Program) (w : World) : List V → Hp → VK → Prop := fun xs H Q => ∃ (a : Addr) (kvs : List (List L2.Key × V)), xs = [V.ref a] ∧ Rd H a (.dT kvs) ∧ (kvs.map fun kv => tupleKeyHash (mixKind P w) kv.1).Nodup ∧ ∀ p, H p = none → Q (.ref p) (upd H p (.dT kvs))
section
variable {prog : Program} {w : World} {K : Type} [DecidableEq K] {knd : HeapKind prog w K} {A : Around} {E : Value → Shared → Prop} {s : Shared}
theorem call_dictH {o : Addr} {more : List (K × Addr × Value)} {Q : Value → Shared → Prop} (hu : knd.room A.in1.in1) (hoS : (o == sysModules) = false) (ho : s.heap.DictOfH knd o more) (hsz : more.length ≤ sizeLine)
    (hk : ∀ x ∈ more, knd.is (s.heap.push { cls := .type "dict", data := .dict #[] }) x.1 x.2.1)
    (hap : (∀ x ∈ more, s.TypeIs (.ref x.2.1) "tuple") ∧ (more.map fun x => knd.hash x.1).Nodup)
    (h : ∀ h', h'.DictOfH knd s.heap.objs.size more → Heap.SameBut s.heap.objs.size (s.heap.push { cls := .type "dict", data := .dict #[] }) h' → Q (.ref s.heap.objs.size) { s with heap := h' }) :
    wpAny (model prog w) A (call (.type "dict") [.ref o]) Q E s := by
  refine callType_codes (Q₁ := fun obj s₁ => obj = .ref s.heap.objs.size ∧ s₁ = { s with heap := s.heap.push { cls := .type "dict", data := .dict #[] } }) PySem.F.kt_called_dict (PySem.F.kt_typeCall_dict_1 _) PySem.F.entry_dict_init (kt_code_dict_new _ ⟨rfl, rfl⟩) ?_
  rintro obj s₁ ⟨rfl, rfl⟩
  have hnew : (s.heap.push { cls := .type "dict", data := .dict #[] }).DictOfH knd s.heap.objs.size [] := ⟨_, #[], 0, Heap.get?_push_size _ rfl, ⟨rfl, rfl, rfl⟩, rfl, rfl, (fun x hx => nomatch hx), List.nodup_nil⟩
  have ho' : (s.heap.push { cls := .type "dict", data := .dict #[] }).DictOfH knd o more := by
    obtain ⟨oo, es, ep, h1, h2, h3, h4, _, h5⟩ := ho
    exact ⟨oo, es, ep, Heap.get?_push_of_some _ h1, h2, h3, h4, hk, h5⟩
  have hn : (more.map (·.1)).Nodup := ho.nodup
  have hdo : s.heap.objs.size ≠ o := by
    obtain ⟨_, _, _, hg, _⟩ := ho
    exact fun e => absurd (Heap.lt_size hg) (by rw [e]; exact Nat.lt_irrefl _)
  have hty : ∀ x ∈ more, ({ s with heap := s.heap.push { cls := .type "dict", data := .dict #[] } } : Shared).TypeIs (.ref x.2.1) "tuple" := fun x hx => by
    obtain ⟨q, hq, hc⟩ := hap.1 x hx
    exact ⟨q, Heap.get?_push_of_some _ hq, hc⟩
  refine ⟨hnew.typeIs, PySem.F.args_dict_init_2 _ _, ?_⟩
  unfold Builtin.«dict.__init__»
  refine wpAny_bind ?_
  unfold Builtin.Dict.selfAndRest
  refine wpAny_bind (wpAny_notOrdered_dict hnew.typeIs ?_)
  show wpAny _ _ (pure (s.heap.objs.size, [Value.ref o])) _ _ _
  refine wpAny_pure ?_
  show wpAny (model prog w) A.in1.in1 (Builtin.Dict.updateFrom "dict.__init__" s.heap.objs.size (.ref o) [] .none) _ _ _
  exact updateFrom_dictH (A := A.in1) (R := wants (fun r s₂ => r = Value.none ∧ Q (Value.ref s.heap.objs.size) s₂) E) .none hu hdo hoS hnew ho' (.inr ⟨hty, hap.2⟩) (by simpa using hsz) fun h' hd' _ hs' => ⟨rfl, h h' (by rw [storedAllH_nil_of_nodup more hn] at hd'; exact hd') hs'⟩
end
section
variable {X : Cx}
theorem call_dictT (hu : X.A.units + 2 < cLine) : CallR X (.type "dict") (rDictT X.prog X.w) := by
  intro pins s σ H xs us Q I r q
  obtain ⟨a, kvs, ex, hd, hh, q⟩ := q
  subst ex
  obtain ⟨u, eu, rx⟩ := vals1 r
  subst eu
  cases rx
  obtain ⟨z, lo, ys, rel, dd⟩ := dt_rd I.hok hd
  have hm : (s.heap.objs.size == sysModules) = false := beq_eq_false_iff_ne.mpr (Nat.ne_of_gt I.big)
  have hn := I.hok.fresh (Nat.le_refl s.heap.objs.size)
  have hall : ∀ {l : List (List L2.Key × V)} {m : List (List L2.Key × Addr × Value)}, KT H l m → ∀ x ∈ m, H x.2.1 = some (.tup (x.1.map kV)) := by
    intro l m r
    induction r with
    | nil => intro x hx; exact nomatch hx
    | @cons p q ps qs hq t ih =>
      intro x hx
      rcases List.mem_cons.mp hx with e | hx
      · subst e; rw [← hq.1]; exact hq.2.1
      · exact ih x hx
  have hkeys : ∀ {l : List (List L2.Key × V)} {m : List (List L2.Key × Addr × Value)}, KT H l m → l.map (·.1) = m.map (·.1) := by
    intro l m r
    induction r with
    | nil => rfl
    | cons hq t ih => rw [List.map_cons, List.map_cons, ih, hq.1]
  have I1 : L2.Inv X pins σ H { s with heap := s.heap.push { cls := .type "dict", data := .dict #[] } } := I.kept (t' := s.toks) fun b o q => Heap.get?_push_of_some _ q
  refine call_dictH hu lo dd (by rw [← Paired.length rel]; exact z) (fun x hx => key_of I1.hok (hall rel x hx)) ⟨fun x hx => ?_, ?_⟩ fun h' dd' hs => ?_
  · obtain ⟨_, its, r, o, h1, h2, _⟩ := (show ObjOk X.prog X.w H s.heap x.2.1 (.tup (x.1.map kV)) from I.hok _ _ (hall rel x hx))
    exact ⟨o, h1, h2⟩
  · have e := congrArg (List.map (tupleKeyHash (mixKind X.prog X.w))) (hkeys rel)
    rw [List.map_map, List.map_map] at e
    have e2 : (ys.map fun x => (tupleKind (mixKind X.prog X.w)).hash x.1) = kvs.map fun kv => tupleKeyHash (mixKind X.prog X.w) kv.1 := e.symm
    rw [e2]; exact hh
  · obtain ⟨o, es, ep, hq, h2, h3, h4, _, h5⟩ := dd'
    refine ⟨.ref s.heap.objs.size, upd H s.heap.objs.size (.dT kvs), I.laid (t' := s.toks) (fun b u e => (hs.2 b (Nat.ne_of_lt (Heap.lt_size e))).trans (Heap.get?_push_of_some _ e)) (Nat.le_refl _)
      (show ObjOk X.prog X.w _ _ _ (.dT kvs) from ⟨z, hm, ys, rel.keeps fun b zs eb => ?_, o, es, ep, hq, h2, h3, h4, h5⟩), rfl, q _ hn⟩
    rw [upd_ne (fun e => by rw [e, hn] at eb; cases eb)]; exact eb
end
end DL

namespace DL
open PySem PySem.Spec PyProof.Rows L2
def thI (a b : Int) : Int := reduceHash (Builtin.Tuple.tupleHashOf [hashInt a, hashInt b])
theorem thI_eq (P : Program) (w : World) (a b : Int) : tupleKeyHash (mixKind P w) [Sum.inl a, Sum.inl b] = thI a b := by
  unfold tupleKeyHash thI
  rfl
/-! all numbers of a list differ, by a mask -/
def maskOk : List Nat → Nat → Bool
  | [], _ => true
  | x :: r, m => match Nat.testBit m x with
    | true => false
    | false => maskOk r (m ||| 1 <<< x)
theorem maskOk_spec : ∀ {l : List Nat} {m : Nat}, maskOk l m = true → l.Nodup ∧ ∀ x ∈ l, Nat.testBit m x = false
  | [], _, _ => ⟨List.nodup_nil, fun _ h => nomatch h⟩
  | x :: r, m, h => by
    unfold maskOk at h
    split at h
    · cases h
    · rename_i hx
      obtain ⟨h1, h2⟩ := maskOk_spec h
      refine ⟨List.nodup_cons.mpr ⟨fun z => ?_, h1⟩, fun y hy => ?_⟩
      · have := h2 x z
        rw [Nat.testBit_or, Nat.shiftLeft_eq, Nat.one_mul, Nat.testBit_two_pow_self, Bool.or_true] at this
        cases this
      · rcases List.mem_cons.mp hy with rfl | hy
        · exact hx
        · have := h2 y hy
          rw [Nat.testBit_or] at this
          exact (Bool.or_eq_false_iff.mp this).1
def thN (n : Nat) : Nat := ((thI ((n / 42 : Nat) : Int) ((n % 42 : Nat) : Int)) % 20013).toNat
theorem th_mask : maskOk ((List.range 1344).map thN) 0 = true := by decide +kernel
theorem nodup_inj {α β : Type} (f : α → β) : ∀ {l : List α}, (l.map f).Nodup → ∀ i ∈ l, ∀ j ∈ l, f i = f j → i = j
  | [], _, _, h, _, _, _ => nomatch h
  | x :: r, nd, i, hi, j, hj, e => by
    rw [List.map_cons, List.nodup_cons] at nd
    obtain ⟨n1, n2⟩ := nd
    rcases List.mem_cons.mp hi with e1 | h1
    · rcases List.mem_cons.mp hj with e2 | h2
      · rw [e1, e2]
      · exact absurd (List.mem_map.mpr ⟨j, h2, by rw [← e, e1]⟩) n1
    · rcases List.mem_cons.mp hj with e2 | h2
      · exact absurd (List.mem_map.mpr ⟨i, h1, by rw [e, e2]⟩) n1
      · exact nodup_inj f n2 i h1 j h2 e
theorem th_nodup : ((List.range 1344).map thN).Nodup := (maskOk_spec th_mask).1
theorem th_inj {a b c d : Nat} (ha : a < 32) (hb : b < 42) (hc : c < 32) (hd : d < 42) (h : thI (a : Int) (b : Int) = thI (c : Int) (d : Int)) : a = c ∧ b = d := by
  have e1 : thN (a * 42 + b) = thN (c * 42 + d) := by
    unfold thN
    rw [show (a * 42 + b) / 42 = a by omega, show (a * 42 + b) % 42 = b by omega, show (c * 42 + d) / 42 = c by omega, show (c * 42 + d) % 42 = d by omega, h]
  have := nodup_inj thN th_nodup _ (List.mem_range.mpr (show a * 42 + b < 1344 by omega)) _ (List.mem_range.mpr (show c * 42 + d < 1344 by omega)) e1
  omega
end DL
namespace DL
open PySem PySem.Spec PyProof.Rows L2
/-! ### xs[1::2] -/
def oddIx (n : Nat) : List Nat := sliceRange (max 0 (min 1 (n : Int))) (n : Int) 2
def oddL {α : Type} (xs : List α) : List α := (oddIx xs.length).filterMap (xs[·]?)
theorem odd_pick (items : Array Value) : slicePick items (some 1) none (some 2) = (oddL items.toList).toArray := by
  unfold slicePick oddL oddIx
  show ((sliceRange (max 0 (min 1 (items.size : Int))) (items.size : Int) 2).filterMap (items[·]?)).toArray = _
  rw [Array.length_toList]
  exact congrArg (fun f => (List.filterMap f (sliceRange (max 0 (min 1 (items.size : Int))) (items.size : Int) 2)).toArray) (funext fun k => (Array.getElem?_toList).symm)
theorem oddIx_len (n : Nat) : (oddIx n).length ≤ n := by
  unfold oddIx sliceRange
  simp only [List.length_map, List.length_range]
  split
  · split
    · omega
    · simp
  · omega
theorem oddL_len {α : Type} (xs : List α) : (oddL xs).length ≤ xs.length := Nat.le_trans (List.length_filterMap_le _ _) (oddIx_len _)
def tOddL (K : PySem.W.Frag) (te : TE) : TE := fun σ H Q => te σ H fun x H1 => ∃ a xs, x = .ref a ∧ SqL K H1 a xs ∧ ∀ p, H1 p = none → Q (.ref p) (upd H1 p (.lst (oddL xs)))
theorem vals_odd {vs : List V} {us : List Value} (r : Vals vs us) : Vals (oddL vs) (oddL us) := by
  unfold oddL
  rw [r.length]
  induction oddIx us.length with
  | nil => exact .nil
  | cons i l ih =>
    rw [List.filterMap_cons, List.filterMap_cons]
    cases hv : vs[i]? with
    | none =>
      have : us[i]? = none := by
        rw [List.getElem?_eq_none_iff] at hv ⊢
        rw [← r.length]; exact hv
      rw [this]; exact ih
    | some v =>
      obtain ⟨u, hu, ru⟩ := paired_get r hv
      rw [hu]
      exact .cons ru ih
section
variable {X : Cx}
theorem pe_oddL {e : Expr} {te : TE} {k1 k2 : Nat} {p1 p2 p3 pos : Pos} (he : PE X e te) : PE X (.Subscript e (.Slice (some (.Constant (.int 1) k1 p1)) none (some (.Constant (.int 2) k2 p2)) p3) pos) (tOddL X.K te) := by
  refine ⟨fun pins s σ H Q I h => ?_⟩
  refine Subscript_ (thn (he.run pins s σ H _ I h) fun v s1 ⟨x, H1, I1, r1, q1⟩ => ?_)
  obtain ⟨a, xs, ex, hx, q⟩ := q1
  subst ex
  cases r1
  have hl : PO X (some (.Constant (.int 1) k1 p1)) (tPart (tC (.int 1))) := po_some pe_int
  have hst : PO X (some (.Constant (.int 2) k2 p2)) (tPart (tC (.int 2))) := po_some pe_int
  refine wpAny_Slice (thn (hl.run pins s1 σ H1 (fun o H2 => o = some 1 ∧ H2 = H1) I1 ⟨1, rfl, rfl, rfl⟩) fun vl s2 ⟨l, H2, I2, pl, el, e2⟩ => ?_)
  subst el e2
  refine thn (po_none.run pins s2 σ H2 (fun o H3 => o = none ∧ H3 = H2) I2 ⟨rfl, rfl⟩) fun vu s3 ⟨u, H3, I3, pu, eu, e3⟩ => ?_
  subst eu e3
  refine thn (hst.run pins s3 σ H3 (fun o H4 => o = some 2 ∧ H4 = H3) I3 ⟨2, rfl, rfl, rfl⟩) fun vs s4 ⟨o, H4, I4, ps, eo, e4⟩ => ?_
  subst eo e4
  have I5 : L2.Inv X pins σ H4 { s4 with heap := s4.heap.push { cls := .type "slice", data := .fields #[vl, vu, vs] } } := I4.kept (t' := s4.toks) fun b ob q => Heap.get?_push_of_some _ q
  obtain ⟨its, r, ht, hz⟩ := I5.list hx
  have hlen := r.length
  show wpAny (model X.prog X.w) X.A (subscriptTail e (.Slice (some (.Constant (.int 1) k1 p1)) none (some (.Constant (.int 2) k2 p2)) p3) (.ref a) (.ref s4.heap.objs.size)) (EP X pins σ Q) X.xe { s4 with heap := s4.heap.push { cls := .type "slice", data := .fields #[vl, vu, vs] } }
  refine tail_any (ops := [.ref a, .ref s4.heap.objs.size]) ht.isList.typeIs (PySem.slot_list_getitem.lookup) ?_ (by with_unfolding_all rfl)
  refine wpAny_getItem_list_slice ht.isList (Heap.IsSliceOf.new _ vl vu vs) pl pu ps (by decide) ?_ (by rw [List.size_toArray]; omega)
  rw [odd_pick]
  refine ⟨.ref _, _, I5.laid (t' := s4.toks) (o := .lst (oddL xs)) (fun b ob q => Heap.get?_push_of_some _ q) (Nat.le_refl _) ?_, rfl, q _ (I5.hok.fresh (Nat.le_refl _))⟩
  exact ⟨Nat.le_trans (oddL_len _) hz, _, 0, vals_odd r, Heap.get?_push_size _ rfl⟩
end
def D.odd : D → Option D
  | .lst xs => some (.lst (oddL xs))
  | _ => none
theorem RepAll.odd {G : Rg} {Z : List Addr} {H : Hp} {vs : List V} {ds : List D} (r : RepAll G Z H vs ds) : RepAll G Z H (oddL vs) (oddL ds) := by
  unfold oddL
  rw [r.length]
  induction oddIx ds.length with
  | nil => exact .nil
  | cons i l ih =>
    rw [List.filterMap_cons, List.filterMap_cons]
    cases hv : ds[i]? with
    | none =>
      have : vs[i]? = none := by
        rw [List.getElem?_eq_none_iff] at hv ⊢
        rw [r.length]; exact hv
      rw [this]; exact ih
    | some v =>
      obtain ⟨u, hu, ru⟩ := r.get hv
      rw [hu]
      exact .cons ru ih
section
variable {cl : Cl} {E : XK} {os : List (Nat × Bool)} {ta : TE} {b : Bool} {ga : Env → DM D}
theorem ev_oddL {K : PySem.W.Frag} (h : Ev cl E os ta b ga) : Ev cl E os (tOddL K ta) b (fun ρ => ga ρ >>= fun x => liftO (D.odd x)) := fun Q F w => by
  refine h _ F (w.bind.mono (fun dx s1 k x H1 e1 a1 r1 => ?_) fun _ _ k => k)
  have F1 := F.step e1 a1
  obtain ⟨d, ed, k4⟩ := wp_liftO k
  cases dx with
  | lst xs =>
    cases ed
    obtain ⟨a, vs, rfl, na, ha, hr⟩ := rep_lst r1
    refine ⟨a, vs, rfl, SqL.of ha, fun p hp => ?_⟩
    obtain ⟨h1, h2⟩ := newL F1.domb hp hr.odd
    exact k4 _ _ (e1.trans (Same.ext h1)) (F1.same h1) h2
  | _ => cases ed
theorem v_oddL {K : PySem.W.Frag} (h : Ew cl E os ta b ga) : Ew cl E os (tOddL K ta) b (gUn D.odd ga) := ⟨ev_oddL h.1⟩
end
end DL

namespace DL
open PySem PySem.Spec PyProof.Rows L2
theorem u0 {X : Cx} {j : Nat} (hr : Room j X.A) : X.A.units < cLine := by have := u64 hr; omega
theorem u1 {X : Cx} {j : Nat} (hr : Room j X.A) : X.A.units + 1 < cLine := by have := u64 hr; omega
theorem u2 {X : Cx} {j : Nat} (hr : Room j X.A) : X.A.units + 2 < cLine := by have := u64 hr; omega
/-! ### counts_of: a dict of pairs, as rows -/
abbrev Rw := List ((Nat × Nat) × Int)
def encK (k : Nat × Nat) : List L2.Key := [Sum.inl (k.1 : Int), Sum.inl (k.2 : Int)]
def enc (r : Rw) : List (List L2.Key × V) := r.map fun p => (encK p.1, V.int p.2)
def getR (r : Rw) (k : Nat × Nat) : Option Int := (r.find? fun p => decide (p.1 = k)).map (·.2)
def putR (r : Rw) (k : Nat × Nat) (v : Int) : Rw := if (r.any fun p => decide (p.1 = k)) = true then r.map (fun p => if p.1 = k then (p.1, v) else p) else r ++ [(k, v)]
theorem encK_inj {a b : Nat × Nat} : encK a = encK b ↔ a = b := by
  constructor
  · intro h
    unfold encK at h
    injection h with h1 h2
    injection h2 with h2 _
    have e1 := Sum.inl.inj h1
    have e2 := Sum.inl.inj h2
    exact Prod.ext (by omega) (by omega)
  · rintro rfl; rfl
theorem encK_dec (a b : Nat × Nat) : decide (encK a = encK b) = decide (a = b) := decide_eq_decide.mpr encK_inj
theorem valV_enc (r : Rw) (k : Nat × Nat) : valV (enc r) (encK k) = (getR r k).map V.int := by
  induction r with
  | nil => rfl
  | cons p r ih =>
    by_cases e : p.1 = k
    · have : valV (enc (p :: r)) (encK k) = some (V.int p.2) := valV_pos (congrArg encK e)
      rw [this]; unfold getR; rw [List.find?_cons, decide_eq_true e]; rfl
    · have : valV (enc (p :: r)) (encK k) = valV (enc r) (encK k) := valV_neg (fun z => e (encK_inj.mp z))
      rw [this, ih]; unfold getR; rw [List.find?_cons, decide_eq_false e]
theorem putK_enc (r : Rw) (k : Nat × Nat) (v : Int) : putK (enc r) (encK k) (.int v) = enc (putR r k v) := by
  have ha : ((enc r).any fun kv => decide (kv.1 = encK k)) = r.any fun p => decide (p.1 = k) := by
    unfold enc
    rw [List.any_map]
    exact congrArg (fun f => r.any f) (funext fun p => encK_dec p.1 k)
  unfold putK putR
  rw [ha]
  split
  · unfold enc
    rw [List.map_map, List.map_map]
    refine List.map_congr_left fun p _ => ?_
    by_cases e : p.1 = k
    · show (if encK p.1 = encK k then _ else _) = (encK (if p.1 = k then _ else p).1, V.int (if p.1 = k then _ else p).2)
      rw [if_pos (by rw [e]), if_pos e]
    · show (if encK p.1 = encK k then _ else _) = (encK (if p.1 = k then _ else p).1, V.int (if p.1 = k then _ else p).2)
      rw [if_neg (fun z => e (encK_inj.mp z)), if_neg e]
  · unfold enc; rw [List.map_append]; rfl
structure Good (r : Rw) : Prop where
  nd : (r.map (·.1)).Nodup
  lo : ∀ p ∈ r, p.1.1 < 32 ∧ p.1.2 < 42
theorem Good.put {r : Rw} (g : Good r) {k : Nat × Nat} (h : k.1 < 32 ∧ k.2 < 42) (v : Int) : Good (putR r k v) := by
  unfold putR
  split
  · refine ⟨?_, fun p hp => ?_⟩
    · have : (r.map fun p => if p.1 = k then (p.1, v) else p).map (·.1) = r.map (·.1) := by
        rw [List.map_map]
        refine List.map_congr_left fun p _ => ?_
        show (if p.1 = k then (p.1, v) else p).1 = p.1
        split <;> rfl
      rw [this]; exact g.nd
    · obtain ⟨q, hq, rfl⟩ := List.mem_map.mp hp
      have := g.lo q hq
      split <;> exact this
  · rename_i hn
    refine ⟨?_, fun p hp => ?_⟩
    · rw [List.map_append, List.nodup_append]
      refine ⟨g.nd, by simp, fun a ha b hb e => hn ?_⟩
      have hb : b = k := by simpa using hb
      obtain ⟨q, hq, rfl⟩ := List.mem_map.mp ha
      exact List.any_eq_true.mpr ⟨q, hq, decide_eq_true (e.trans hb)⟩
    · rcases List.mem_append.mp hp with z | z
      · exact g.lo p z
      · rw [List.mem_singleton.mp z]; exact h
theorem Good.len {r : Rw} (g : Good r) : r.length ≤ 1344 := by
  have hn : ((r.map (·.1)).map fun k : Nat × Nat => k.1 * 42 + k.2).Nodup := by
    refine List.pairwise_map.mpr (g.nd.imp_of_mem fun {a b} ha hb hne e => hne ?_)
    obtain ⟨p, hp, rfl⟩ := List.mem_map.mp ha
    obtain ⟨q, hq, rfl⟩ := List.mem_map.mp hb
    have := g.lo p hp
    have := g.lo q hq
    exact Prod.ext (by omega) (by omega)
  have key : ∀ N, N = 1344 → r.length ≤ N := fun N hN => by
    have := hn.length_le_of_subset (l₂ := List.range N) fun x hx => by
      obtain ⟨k, hk, rfl⟩ := List.mem_map.mp hx
      obtain ⟨p, hp, rfl⟩ := List.mem_map.mp hk
      have := g.lo p hp
      exact List.mem_range.mpr (by omega)
    rw [List.length_map, List.length_map, List.length_range] at this
    exact this
  exact key _ rfl
theorem nodup_enc {β : Type} (f : List L2.Key → β) {r : Rw} (hn : (r.map (·.1)).Nodup) (h : ∀ p ∈ r, ∀ q ∈ r, f (encK p.1) = f (encK q.1) → p.1 = q.1) : ((enc r).map fun kv => f kv.1).Nodup := by
  unfold enc
  rw [List.map_map]
  rw [List.Nodup, List.pairwise_map] at hn ⊢
  exact hn.imp_of_mem fun {p q} hp hq hne e => hne (h p hp q hq e)
theorem hash_inj (P : Program) (w : World) {a b : Nat × Nat} (ha : a.1 < 32 ∧ a.2 < 42) (hb : b.1 < 32 ∧ b.2 < 42) (e : tupleKeyHash (mixKind P w) (encK a) = tupleKeyHash (mixKind P w) (encK b)) : a = b := by
  unfold encK at e
  rw [thI_eq, thI_eq] at e
  obtain ⟨h1, h2⟩ := th_inj ha.1 ha.2 hb.1 hb.2 e
  exact Prod.ext h1 h2
theorem Good.hash {r : Rw} (g : Good r) (P : Program) (w : World) : ((enc r).map fun kv => tupleKeyHash (mixKind P w) kv.1).Nodup :=
  nodup_enc (tupleKeyHash (mixKind P w)) g.nd fun p hp q hq => hash_inj P w (g.lo p hp) (g.lo q hq)
theorem Good.one : Good [((0, 0), 1)] := ⟨by simp, fun p hp => by rw [List.mem_singleton.mp hp]; decide⟩
def toK (d : D) : DM Nat := match d with
  | .int i => if 0 ≤ i ∧ i < 32 then pure i.toNat else stuck
  | _ => stuck
def inCt (fa : List D → DM D) (v : D) (rows : Rw) : Rw → Rw → DM Rw
  | [], a => pure a
  | p :: l, a => fa [.int p.1.1, v] >>= fun d => toK d >>= fun k => if p.1.2 + 1 < 42 then (match getR rows p.1 with
    | some c => inCt fa v rows l (putR a (k, p.1.2 + 1) ((getR a (k, p.1.2 + 1)).getD 0 + c))
    | none => stuck) else stuck
def outCt (fa fm : List D → DM D) (ck : D) : Nat → D → Rw → DM Rw
  | 0, _, r => pure r
  | n + 1, v, r => inCt fa v r r r >>= fun a => fm [ck, v] >>= fun v2 => toI v2 >>= fun i => outCt fa fm ck n (.int i) a
def cntM (fa fm : List D → DM D) : List D → DM D
  | [ck, .int n] => if 0 ≤ n ∧ n < 41 then outCt fa fm ck n.toNat (.int 1) [((0, 0), 1)] >>= fun r => pure (.lst ((List.range (n.toNat + 1)).map fun m => .int ((getR r (0, m)).getD 0))) else stuck
  | _ => stuck
end DL

namespace DL
open PySem PySem.Spec PyProof.Rows L2
/-! ### counts_of: the walk -/
structure Sg (c n r v : V) (σ : L2.St) : Prop where
  len : σ.length = 9
  s0 : σ[0]? = some (some c)
  s1 : σ[1]? = some (some n)
  s2 : σ[2]? = some (some r)
  s3 : σ[3]? = some (some v)
/-- apart from the region -/
structure Off (G : Rg) (H : Hp) (a : Addr) : Prop where
  y : a ∉ G.Y
  p : a ∉ G.P
  r : ¬ G.R H a
theorem Off.av {G : Rg} {H : Hp} {a : Addr} (h : Off G H a) : Av G G.Y H a := ⟨h.y, h.r⟩
theorem Off.keep {G : Rg} {H H' : Hp} {a : Addr} {o : HO} (h : Off G H a) (e : Ext G G.Y H H') (ha : H a = some o) : Off G H' a := ⟨h.y, h.p, (e.av (fun _ z => z) h.av ha).2⟩
theorem Off.wr {G : Rg} {H : Hp} {a p : Addr} {o : HO} (h : Off G H a) (hp : p ∉ G.Y) : Off G (upd H p o) a := ⟨h.y, h.p, fun r => h.r (G.ru _ _ _ hp _ r)⟩
theorem Off.dep {G : Rg} {H : Hp} {p : Addr} {o : HO} {s : DSt} (h : Off G H p) (a : G.A s H) : G.A s (upd H p o) := G.dep s H _ (fun b hb => upd_ne fun e => by
  subst e
  rcases hb with hb | hb | hb
  · exact h.y hb
  · exact h.p hb
  · exact h.r hb) a
theorem Off.new {G : Rg} {H : Hp} {p : Addr} {s : DSt} (a : G.A s H) (hp : H p = none) : Off G H p := ⟨fun z => G.inY s H a p (.inl z) hp, fun z => G.inY s H a p (.inr (.inl z)) hp, fun z => G.inY s H a p (.inr (.inr z)) hp⟩
structure Hg (G : Rg) (H0 : Hp) (r p : Addr) (R A : HO) (s : DSt) (H : Hp) : Prop where
  ext : Ext G G.Y H0 H
  st : G.A s H
  hr : H r = some R
  hp : H p = some A
  ne : r ≠ p
  ry : Off G H r
  py : Off G H p
  r0 : H0 r = none
  p0 : H0 p = none
theorem Sg.set {c n r v : V} {σ : L2.St} (h : Sg c n r v σ) {i : Nat} (hi : 4 ≤ i) (x : Option V) : Sg c n r v (σ.set i x) :=
  ⟨by rw [List.length_set]; exact h.len, by rw [List.getElem?_set_ne (by omega)]; exact h.s0, by rw [List.getElem?_set_ne (by omega)]; exact h.s1, by rw [List.getElem?_set_ne (by omega)]; exact h.s2, by rw [List.getElem?_set_ne (by omega)]; exact h.s3⟩
theorem Hg.keep {G : Rg} {H0 : Hp} {r p : Addr} {R A : HO} {s s' : DSt} {H H' : Hp} (h : Hg G H0 r p R A s H) (e : Ext G G.Y H H') (a : G.A s' H') : Hg G H0 r p R A s' H' :=
  ⟨h.ext.trans e, a, e.k _ _ h.ry.av h.hr, e.k _ _ h.py.av h.hp, h.ne, h.ry.keep e h.hr, h.py.keep e h.hp, h.r0, h.p0⟩
theorem Hg.new {G : Rg} {H0 : Hp} {r p t : Addr} {R A o : HO} {s : DSt} {H : Hp} (h : Hg G H0 r p R A s H) (ht : H t = none) : Hg G H0 r p R A s (upd H t o) :=
  h.keep (Ext.new ht) ((Off.new h.st ht).dep h.st)
theorem Hg.setR {G : Rg} {H0 : Hp} {r p : Addr} {R A o : HO} {s : DSt} {H : Hp} (h : Hg G H0 r p R A s H) : Hg G H0 r p o A s (upd H r o) :=
  ⟨h.ext.wr0 h.r0 h.ry.y, h.ry.dep h.st, upd_same, by rw [upd_ne (Ne.symm h.ne)]; exact h.hp, h.ne, h.ry.wr h.ry.y, h.py.wr h.ry.y, h.r0, h.p0⟩
theorem Hg.setP {G : Rg} {H0 : Hp} {r p : Addr} {R A o : HO} {s : DSt} {H : Hp} (h : Hg G H0 r p R A s H) : Hg G H0 r p R o s (upd H p o) :=
  ⟨h.ext.wr0 h.p0 h.py.y, h.py.dep h.st, by rw [upd_ne h.ne]; exact h.hr, upd_same, h.ne, h.ry.wr h.py.y, h.py.wr h.py.y, h.r0, h.p0⟩
theorem wp_toK {d : D} {s : DSt} {Q : Nat → DSt → Prop} {E : Er → DSt → Prop} (h : Wp (toK d s) Q E) : ∃ k : Nat, d = .int (k : Int) ∧ k < 32 ∧ Q k s := by
  cases d with
  | int i =>
    simp only [toK] at h
    split at h
    · rename_i hi
      exact ⟨i.toNat, by rw [Int.toNat_of_nonneg hi.1], by omega, h⟩
    · exact h.elim
  | _ => exact h.elim
def tsIn (K : PySem.W.Frag) (cl : Cl) (E : XK) (fa : List D → DM D) (n : Nat) : TS := tLock (tFor (iKeys (tVar 2)) (L2.gTup K n (L2.gCons (gName 6) (L2.gCons (gName 7) L2.gNil)))
  (tSeq (tAsg (tTup (tCons (tCall (spD cl 2 fa) [] E (tCons (tVar 6) (tCons (tVar 3) tNil))) (tCons (tOp (rI0 fun i j => V.int (i + j)) (tVar 7) (tC (V.int 1))) tNil))) (gName 8))
    (tAsg (tOp (rI0 fun i j => V.int (i + j)) (tDGet2 (tVar 5) (tVar 8) (tC (V.int 0))) (tDGet (tVar 2) (tTup (tCons (tVar 6) (tCons (tVar 7) tNil))))) (gSub (tVar 5) (tVar 8) rSetD))))
theorem enc_get {r : Rw} {i : Nat} : (enc r)[i]? = (r[i]?).map fun p => (encK p.1, V.int p.2) := by unfold enc; rw [List.getElem?_map]
theorem enc_len (r : Rw) : (enc r).length = r.length := by unfold enc; rw [List.length_map]
theorem walk_in {K : PySem.W.Frag} {cl : Cl} {E : XK} {fa : List D → DM D} {G : Rg} {H0 : Hp} {D : Ends} {c n : V} {v : Int} {r p : Addr} {rows a : Rw} {σ : L2.St} {H : Hp} {s : DSt} (hc : G.C = cl.reg ∧ ∀ a ∈ G.P, a ∉ G.Y)
    (hs : Sg c n (.ref r) (.int v) σ) (h5 : σ[5]? = some (some (V.ref p))) (h : Hg G H0 r p (.dT (enc rows)) (.dT (enc a)) s H) (gr : Good rows) (ga : Good a)
    (w : Wp (inCt fa (.int v) rows rows a s) (fun a' s' => ∀ σ' H', Sg c n (.ref r) (.int v) σ' → σ'[5]? = some (some (V.ref p)) → Hg G H0 r p (.dT (enc rows)) (.dT (enc a')) s' H' → Good a' → D.nx σ' H') (fun e s' => ∀ H', Ext G G.Y H0 H' → G.A s' H' → E (.ref (cl e)) none H')) :
    tsIn K cl E fa 2 D σ H := by
  refine ⟨r, .dT (enc rows), h.hr, True.intro, fun od => ?_⟩
  refine ⟨_, hs.s2, r, od, rfl, .inr ⟨enc rows, upd_same, ?_⟩⟩
  refine ⟨fun i m σ2 H2 => m + i = rows.length ∧ ∃ a2 s2, Sg c n (.ref r) (.int v) σ2 ∧ σ2[5]? = some (some (V.ref p)) ∧ Hg G H0 r p (.frz od (.dT (enc rows))) (.dT (enc a2)) s2 H2 ∧ Good a2 ∧
      Wp (inCt fa (.int v) rows (rows.drop i) a2 s2) (fun a' s' => ∀ σ' H', Sg c n (.ref r) (.int v) σ' → σ'[5]? = some (some (V.ref p)) → Hg G H0 r p (.dT (enc rows)) (.dT (enc a')) s' H' → Good a' → D.nx σ' H') (fun e s' => ∀ H', Ext G G.Y H0 H' → G.A s' H' → E (.ref (cl e)) none H'),
    ⟨rows.length, rfl, a, s, hs, h5, h.setR, ga, by rw [List.drop_zero]; exact w⟩, fun i m σ2 H2 ⟨hm, a2, s2, hs2, h52, hh, ga2, k⟩ => ?_⟩
  by_cases hl : i < rows.length
  · refine .inr ⟨⟨hh.hr, by rw [enc_len]; exact hl⟩, fun σ3 H3 => ∃ m', m' < m ∧ m' + (i + 1) = rows.length ∧ ∃ a2 s2, Sg c n (.ref r) (.int v) σ3 ∧ σ3[5]? = some (some (V.ref p)) ∧ Hg G H0 r p (.frz od (.dT (enc rows))) (.dT (enc a2)) s2 H3 ∧ Good a2 ∧
      Wp (inCt fa (.int v) rows (rows.drop (i + 1)) a2 s2) (fun a' s' => ∀ σ' H', Sg c n (.ref r) (.int v) σ' → σ'[5]? = some (some (V.ref p)) → Hg G H0 r p (.dT (enc rows)) (.dT (enc a')) s' H' → Good a' → D.nx σ' H') (fun e s' => ∀ H', Ext G G.Y H0 H' → G.A s' H' → E (.ref (cl e)) none H'), fun _ _ h => h, fun x H3 y => ?_⟩
    obtain ⟨rfl, k', v', q, hk, rfl, hq⟩ := y
    rw [enc_get, List.getElem?_eq_getElem hl] at hk
    obtain ⟨rfl, rfl⟩ := Prod.mk.inj (Option.some.inj hk)
    have dr : rows.drop i = rows[i] :: rows.drop (i + 1) := List.drop_eq_getElem_cons hl
    rw [dr] at k
    obtain ⟨⟨⟨a1, m1⟩, c1⟩, hri⟩ : ∃ z, z = rows[i] := ⟨_, rfl⟩
    rw [← hri] at k hq
    refine ⟨q, [.int (a1 : Int), .int (m1 : Int)], rfl, SqT.of hq, rfl, _, _, rfl, _, _, rfl, rfl, ?_⟩
    have hs3 := (hs2.set (i := 6) (by omega) (some (.int (a1 : Int)))).set (i := 7) (by omega) (some (.int (m1 : Int)))
    obtain ⟨σ3, hσ3⟩ : ∃ σ3, σ3 = (σ2.set 6 (some (.int (a1 : Int)))).set 7 (some (.int (m1 : Int))) := ⟨_, rfl⟩
    rw [← hσ3] at hs3 ⊢
    have e6 : σ3[6]? = some (some (.int (a1 : Int))) := by rw [hσ3, List.getElem?_set_ne (by omega), List.getElem?_set_self (by rw [hs2.len]; omega)]
    have e7 : σ3[7]? = some (some (.int (m1 : Int))) := by rw [hσ3, List.getElem?_set_self (by rw [List.length_set, hs2.len]; omega)]
    have e5 : σ3[5]? = some (some (V.ref p)) := by rw [hσ3, List.getElem?_set_ne (by omega), List.getElem?_set_ne (by omega)]; exact h52
    have k := Wp.bind (x := fa [.int (a1 : Int), .int v]) k
    refine ⟨_, e6, _, hs3.s3, rfl, G, G.Y, [.int (a1 : Int), .int v], s2, fun a h => G.inY s2 _ hh.st a (h.imp id .inr), fun _ h => h, hc, hh.st, .cons (.int _) (.cons (.int _) .nil), ?_⟩
    refine k.mono (fun d s3 k3 x H4 e4 a4 r4 => ?_) (fun e s3 k3 H4 e4 a4 => k3 H4 (hh.ext.trans e4) a4)
    obtain ⟨kk, rfl, hkk, k4⟩ := wp_toK (Wp.bind (x := toK d) k3)
    cases r4
    have hh4 := hh.keep e4 a4
    by_cases hm1 : m1 + 1 < 42
    · rw [if_pos hm1] at k4
      cases hg : getR rows (a1, m1) with
      | none => rw [hg] at k4; exact k4.elim
      | some c2 =>
        rw [hg] at k4
        refine ⟨_, e7, _, _, rfl, rfl, by rw [sizeLine_eq]; simp, fun t ht => ?_⟩
        have hh5 := hh4.new (o := .tup [.int (kk : Int), .int ((m1 : Int) + 1)]) ht
        have hs4 := hs3.set (i := 8) (by omega) (some (.ref t))
        have e8 : (σ3.set 8 (some (V.ref t)))[8]? = some (some (V.ref t)) := by rw [List.getElem?_set_self (by rw [hs3.len]; omega)]
        have f5 : (σ3.set 8 (some (V.ref t)))[5]? = some (some (V.ref p)) := by rw [List.getElem?_set_ne (by omega)]; exact e5
        have f6 : (σ3.set 8 (some (V.ref t)))[6]? = some (some (V.int (a1 : Int))) := by rw [List.getElem?_set_ne (by omega)]; exact e6
        have f7 : (σ3.set 8 (some (V.ref t)))[7]? = some (some (V.int (m1 : Int))) := by rw [List.getElem?_set_ne (by omega)]; exact e7
        have ht5 : (upd H4 t (HO.tup [V.int (kk : Int), V.int ((m1 : Int) + 1)])) t = some (HO.tup ((encK (kk, m1 + 1)).map kV)) := by rw [upd_same]; rfl
        refine ⟨_, f5, p, rfl, .inr ⟨_, .inl hh5.hp⟩, _, e8, _, DGet.t hh5.hp ht5, ?_⟩
        rw [valV_enc]
        refine ⟨_, hs4.s2, _, f6, _, f7, by rw [sizeLine_eq]; simp, fun t2 ht2 => ?_⟩
        have hh6 := hh5.new (o := .tup [V.int (a1 : Int), V.int (m1 : Int)]) ht2
        have htt : t ≠ t2 := fun z => by rw [← z, upd_same] at ht2; cases ht2
        refine ⟨r, .int c2, rfl, .inr ⟨enc rows, encK (a1, m1), t2, .inr ⟨od, hh6.hr⟩, rfl, upd_same, by rw [valV_enc, hg]; rfl⟩, ?_⟩
        refine ⟨(getR a2 (kk, m1 + 1)).getD 0, c2, by cases getR a2 (kk, m1 + 1) <;> rfl, rfl, ?_⟩
        have ht6 : (upd (upd H4 t (HO.tup [V.int (kk : Int), V.int ((m1 : Int) + 1)])) t2 (HO.tup [V.int (a1 : Int), V.int (m1 : Int)])) t = some (HO.tup ((encK (kk, m1 + 1)).map kV)) := by rw [upd_ne htt]; exact ht5
        have hlen : (enc a2).length < sizeLine := by
          rw [enc_len, sizeLine_eq]
          have := ga2.len
          omega
        refine ⟨_, f5, _, e8, p, _, rfl, DPut.t hh6.hp ht6 hlen, ?_⟩
        rw [putK_enc]
        exact ⟨m - 1, by omega, by omega, _, s3, hs4, f5, hh6.setP, ga2.put ⟨hkk, hm1⟩ _, k4⟩
    · rw [if_neg hm1] at k4; exact k4.elim
  · have hn : rows.drop i = [] := List.drop_eq_nil_of_le (by omega)
    rw [hn] at k
    refine .inl ⟨⟨hh.hr, by rw [enc_len]; omega⟩, hh.hr, ?_⟩
    exact wp_pure k σ2 _ hs2 h52 hh.setR ga2
structure H1 (G : Rg) (H0 : Hp) (r : Addr) (R : HO) (s : DSt) (H : Hp) : Prop where
  ext : Ext G G.Y H0 H
  st : G.A s H
  hr : H r = some R
  ry : Off G H r
  r0 : H0 r = none
theorem H1.keep {G : Rg} {H0 : Hp} {r : Addr} {R : HO} {s s' : DSt} {H H' : Hp} (h : H1 G H0 r R s H) (e : Ext G G.Y H H') (a : G.A s' H') : H1 G H0 r R s' H' :=
  ⟨h.ext.trans e, a, e.k _ _ h.ry.av h.hr, h.ry.keep e h.hr, h.r0⟩
theorem H1.new {G : Rg} {H0 : Hp} {r t : Addr} {R o : HO} {s : DSt} {H : Hp} (h : H1 G H0 r R s H) (ht : H t = none) : H1 G H0 r R s (upd H t o) :=
  h.keep (Ext.new ht) ((Off.new h.st ht).dep h.st)
theorem free0 {G : Rg} {H0 H : Hp} {s : DSt} {p : Addr} (e : Ext G G.Y H0 H) (a : G.A s H) (hp : H p = none) : Off G H p ∧ H0 p = none := by
  refine ⟨Off.new a hp, ?_⟩
  cases q : H0 p with
  | none => rfl
  | some o => exact absurd hp (e.n p (by rw [q]; exact Option.some_ne_none _))
theorem H1.two {G : Rg} {H0 : Hp} {r p : Addr} {R o : HO} {s : DSt} {H : Hp} (h : H1 G H0 r R s H) (hp : H p = none) : Hg G H0 r p R o s (upd H p o) := by
  obtain ⟨hy, h0⟩ := free0 h.ext h.st hp
  have h2 := h.new (o := o) hp
  exact ⟨h2.ext, h2.st, h2.hr, upd_same, (fun e => by rw [← e, h.hr] at hp; cases hp), h2.ry, hy.wr hy.y, h.r0, h0⟩
theorem Hg.p {G : Rg} {H0 : Hp} {r p : Addr} {R A : HO} {s : DSt} {H : Hp} (h : Hg G H0 r p R A s H) : H1 G H0 p A s H := ⟨h.ext, h.st, h.hp, h.py, h.p0⟩
def tsRow (P : Program) (w : World) (K : PySem.W.Frag) (cl : Cl) (E : XK) (fa fm : List D → DM D) (n : Nat) : TS :=
  tSeq (tAsg (tCB (rDictT P w) (tCons (tVar 2) tNil)) (gName 5)) (tSeq (tsIn K cl E fa n) (tSeq (tAsg (tVar 5) (gName 2)) (tAsg (tCall (spD cl 2 fm) [] E (tCons (tVar 0) (tCons (tVar 3) tNil))) (gName 3))))
def tsEnd : TS := tRet (tLc (iRng1 (tCons (tOp (rI0 fun i j => V.int (i + j)) (tVar 1) (tC (V.int 1))) tNil)) (gName 7) tYes (tDGet2 (tVar 2) (tTup (tCons (tC (V.int 0)) (tCons (tVar 7) tNil))) (tC (V.int 0))) [7])
def tsAll (P : Program) (w : World) (K : PySem.W.Frag) (cl : Cl) (E : XK) (fa fm : List D → DM D) (n : Nat) : TS :=
  tSeq (tAsg (tDT1 (tTup (tCons (tC (V.int 0)) (tCons (tC (V.int 0)) tNil))) (tC (V.int 1))) (gName 2)) (tSeq (tAsg (tC (V.int 1)) (gName 3)) (tSeq (tFor (iRng1 (tCons (tVar 1) tNil)) (gName 4) (tsRow P w K cl E fa fm n)) tsEnd))
theorem Sg.set2 {c n r v : V} {σ : L2.St} (h : Sg c n r v σ) (x : V) : Sg c n x v (σ.set 2 (some x)) :=
  ⟨by rw [List.length_set]; exact h.len, by rw [List.getElem?_set_ne (by omega)]; exact h.s0, by rw [List.getElem?_set_ne (by omega)]; exact h.s1, by rw [List.getElem?_set_self (by rw [h.len]; omega)], by rw [List.getElem?_set_ne (by omega)]; exact h.s3⟩
theorem Sg.set3 {c n r v : V} {σ : L2.St} (h : Sg c n r v σ) (x : V) : Sg c n r x (σ.set 3 (some x)) :=
  ⟨by rw [List.length_set]; exact h.len, by rw [List.getElem?_set_ne (by omega)]; exact h.s0, by rw [List.getElem?_set_ne (by omega)]; exact h.s1, by rw [List.getElem?_set_ne (by omega)]; exact h.s2, by rw [List.getElem?_set_self (by rw [h.len]; omega)]⟩
theorem walk_end {G : Rg} {Z : List Addr} {H0 : Hp} {D : Ends} {c v : V} {n : Nat} (hn : n < 41) {r : Addr} {rows : Rw} {σ : L2.St} {H : Hp} {s : DSt} (hz : dom G Z H0) (hy : ∀ a ∈ G.Y, a ∈ Z)
    (hs : Sg c (.int (n : Int)) (.ref r) v σ) (h : H1 G H0 r (.dT (enc rows)) s H)
    (k : ∀ v H', Ext G G.Y H0 H' → G.A s H' → Rep G Z H' v (.lst ((List.range (n + 1)).map fun m => .int ((getR rows (0, m)).getD 0))) → D.rt v H') : tsEnd D σ H := by
  refine ⟨_, hs.s1, (n : Int), 1, rfl, rfl, (n : Int) + 1, rfl, by omega, by omega, ?_⟩
  intro L hL
  obtain ⟨oL, h0⟩ := free0 h.ext h.st hL
  have hLn : L ∉ Z := fun z => hz L (.inl z) h0
  have hLr : L ≠ r := fun e => by rw [e, h.hr] at hL; cases hL
  have toN : ((n : Int) + 1).toNat = n + 1 := by omega
  rw [toN]
  refine ⟨fun i m H2 => m + i = n + 1 ∧ H2 L = some (.lst (((List.range i).map fun m => (getR rows (0, m)).getD 0).map V.int)) ∧ Off G H2 L ∧ H1 G H0 r (.dT (enc rows)) s H2, ⟨n + 1, rfl, upd_same, oL.wr oL.y, h.new hL⟩, fun i m H2 ⟨hm, hl, oL, hh⟩ => ?_⟩
  by_cases hi : i < n + 1
  · refine .inr ⟨hi, fun H3 => ∃ m', m' < m ∧ m' + (i + 1) = n + 1 ∧ H3 L = some (.lst (((List.range (i + 1)).map fun m => (getR rows (0, m)).getD 0).map V.int)) ∧ Off G H3 L ∧ H1 G H0 r (.dT (enc rows)) s H3, fun _ h => h, fun x H3 y => ?_⟩
    obtain ⟨rfl, rfl⟩ := y
    have e2 : ((wipe σ [7]).set 7 (some (V.int (0 + (i : Int)))))[2]? = some (some (V.ref r)) := by
      show ((σ.set 7 none).set 7 _)[2]? = _
      rw [List.getElem?_set_ne (by omega), List.getElem?_set_ne (by omega)]; exact hs.s2
    have e7 : ((wipe σ [7]).set 7 (some (V.int (0 + (i : Int)))))[7]? = some (some (V.int (i : Int))) := by
      show ((σ.set 7 none).set 7 _)[7]? = _
      rw [List.getElem?_set_self (by rw [List.length_set, hs.len]; omega), Int.zero_add]
    refine ⟨by show ((σ.set 7 none).set 7 _).set 7 none = σ.set 7 none; rw [List.set_set, List.set_set], ?_⟩
    simp only [tYes, ↓reduceIte]
    refine ⟨_, e2, r, rfl, .inr ⟨_, .inl hh.hr⟩, _, e7, by rw [sizeLine_eq]; simp, fun t ht => ?_⟩
    have hh2 := hh.new (o := .tup [V.int 0, V.int (i : Int)]) ht
    have htL : t ≠ L := fun e => by rw [e, hl] at ht; cases ht
    refine ⟨_, DGet.t (k := encK (0, i)) hh2.hr (by rw [upd_same]; rfl), _, by rw [upd_ne (Ne.symm htL)]; exact hl, ?_, m - 1, by omega, by omega, ?_, (oL.keep (Ext.new ht) hl).wr oL.y, ?_⟩
    · rw [List.length_map, List.length_map, List.length_range, sizeLine_eq]; omega
    · have hv : ((getR rows (0, i)).map V.int).getD (V.int 0) = V.int ((getR rows (0, i)).getD 0) := by cases getR rows (0, i) <;> rfl
      rw [upd_same, valV_enc, hv, List.range_succ, List.map_append, List.map_append]
      rfl
    · have oT := oL.keep (Ext.new (o := .tup [V.int 0, V.int (i : Int)]) ht) hl
      exact ⟨hh2.ext.wr0 h0 oL.y, oT.dep hh2.st, by rw [upd_ne (Ne.symm hLr)]; exact hh2.hr, hh2.ry.wr oL.y, hh2.r0⟩
  · obtain rfl : i = n + 1 := by omega
    refine .inl ⟨Nat.le_refl _, k _ _ hh.ext hh.st (.lst ⟨hLn, oL.r⟩ hl ?_)⟩
    have := RepAll.of_ints (G := G) (Z := Z) (H := H2) ((List.range (n + 1)).map fun m => (getR rows (0, m)).getD 0)
    rw [List.map_map (g := DL.D.int)] at this
    exact this
theorem walk_row {P : Program} {w : World} {K : PySem.W.Frag} {cl : Cl} {E : XK} {fa fm : List D → DM D} {G : Rg} {Z : List Addr} {H0 : Hp} {D : Ends} {c n : V} {ck : DL.D} {v : Int} {r : Addr} {rows : Rw} {σ : L2.St} {H : Hp} {s : DSt} (hz : dom G Z H0) (hy : ∀ a ∈ G.Y, a ∈ Z) (hcz : G.C = cl.reg ∧ ∀ a ∈ G.P, a ∉ Z)
    (rc : Rep G Z H0 c ck) (hs : Sg c n (.ref r) (.int v) σ) (h : H1 G H0 r (.dT (enc rows)) s H) (gr : Good rows)
    (k : Wp ((inCt fa (.int v) rows rows rows >>= fun a => fm [ck, .int v] >>= fun v2 => toI v2 >>= fun i => (pure (a, i) : DM (Rw × Int))) s)
      (fun a s' => ∀ σ' H' r', Sg c n (.ref r') (.int a.2) σ' → H1 G H0 r' (.dT (enc a.1)) s' H' → Good a.1 → D.nx σ' H') (fun e s' => ∀ H', Ext G G.Y H0 H' → G.A s' H' → E (.ref (cl e)) none H')) :
    tsRow P w K cl E fa fm 2 D σ H := by
  refine ⟨_, hs.s2, r, enc rows, rfl, .inl h.hr, gr.hash P w, fun p hp => ?_⟩
  have hs1 := hs.set (i := 5) (by omega) (some (V.ref p))
  have e5 : (σ.set 5 (some (V.ref p)))[5]? = some (some (V.ref p)) := List.getElem?_set_self (by rw [hs.len]; omega)
  refine walk_in ⟨hcz.1, fun a ha z => hcz.2 a ha (hy a z)⟩ hs1 e5 (h.two hp) gr gr ((Wp.bind k).mono (fun a s1 k1 σ1 H2 hs2 h5 hh ga => ?_) fun _ _ k => k)
  have hs3 := hs2.set2 (V.ref p)
  have hc := hh.p
  have hzd : dom G Z H2 := fun x hx => by
    rcases hx with hx | hx
    · exact hc.ext.n x (hz x (.inl hx))
    · exact G.inY s1 H2 hc.st x (.inr (.inr hx))
  refine ⟨_, h5, ?_⟩
  refine ⟨_, hs3.s0, _, hs3.s3, rfl, G, Z, [ck, .int v], s1, hzd, hy, hcz, hc.st, .cons (rc.ext hy hc.ext) (.cons (.int _) .nil), ?_⟩
  refine (Wp.bind (x := fm [ck, .int v]) k1).mono (fun d s2 k2 x H3 e3 a3 r3 => ?_) (fun e s2 k2 H3 e3 a3 => k2 H3 (hc.ext.trans e3) a3)
  obtain ⟨i, rfl, k3⟩ := wp_toI (Wp.bind (x := toI d) k2)
  cases r3
  exact wp_pure k3 _ _ p (hs3.set3 _) (hc.keep e3 a3) ga
theorem walk_for {P : Program} {w : World} {K : PySem.W.Frag} {cl : Cl} {E : XK} {fa fm : List D → DM D} {G : Rg} {Z : List Addr} {H0 : Hp} {D : Ends} {c : V} {n : Nat} (hn : n < 41) {ck : DL.D} {r : Addr} {rows : Rw} {σ : L2.St} {H : Hp} {s : DSt} (hz : dom G Z H0) (hy : ∀ a ∈ G.Y, a ∈ Z) (hcz : G.C = cl.reg ∧ ∀ a ∈ G.P, a ∉ Z)
    (rc : Rep G Z H0 c ck) (hs : Sg c (.int (n : Int)) (.ref r) (.int 1) σ) (h : H1 G H0 r (.dT (enc rows)) s H) (gr : Good rows)
    (k : Wp (outCt fa fm ck n (.int 1) rows s) (fun a s' => ∀ σ' H' r' v, Sg c (.int (n : Int)) (.ref r') v σ' → H1 G H0 r' (.dT (enc a)) s' H' → D.nx σ' H') (fun e s' => ∀ H', Ext G G.Y H0 H' → G.A s' H' → E (.ref (cl e)) none H')) :
    tFor (iRng1 (tCons (tVar 1) tNil)) (gName 4) (tsRow P w K cl E fa fm 2) D σ H := by
  refine ⟨_, hs.s1, (n : Int), rfl, by omega, by omega, ?_⟩
  rw [Int.toNat_natCast]
  refine ⟨fun i m σ2 H2 => m + i = n ∧ ∃ r v rows s, Sg c (.int (n : Int)) (.ref r) (.int v) σ2 ∧ H1 G H0 r (.dT (enc rows)) s H2 ∧ Good rows ∧
      Wp (outCt fa fm ck m (.int v) rows s) (fun a s' => ∀ σ' H' r' v, Sg c (.int (n : Int)) (.ref r') v σ' → H1 G H0 r' (.dT (enc a)) s' H' → D.nx σ' H') (fun e s' => ∀ H', Ext G G.Y H0 H' → G.A s' H' → E (.ref (cl e)) none H'),
    ⟨n, rfl, r, 1, rows, s, hs, h, gr, k⟩, fun i m σ2 H2 ⟨hm, r2, v, rows2, s2, hs2, h2, g2, k2⟩ => ?_⟩
  cases m with
  | zero =>
    refine .inl ⟨?_, wp_pure k2 _ _ _ _ hs2 h2⟩
    show n ≤ i
    omega
  | succ m =>
    refine .inr ⟨?_, fun σ3 H3 => ∃ m', m' < m + 1 ∧ m' + (i + 1) = n ∧ ∃ r v rows s, Sg c (.int (n : Int)) (.ref r) (.int v) σ3 ∧ H1 G H0 r (.dT (enc rows)) s H3 ∧ Good rows ∧
      Wp (outCt fa fm ck m' (.int v) rows s) (fun a s' => ∀ σ' H' r' v, Sg c (.int (n : Int)) (.ref r') v σ' → H1 G H0 r' (.dT (enc a)) s' H' → D.nx σ' H') (fun e s' => ∀ H', Ext G G.Y H0 H' → G.A s' H' → E (.ref (cl e)) none H'), fun _ _ h => h, fun x H3 y => ?_⟩
    · show i < n
      omega
    obtain ⟨rfl, rfl⟩ := y
    refine walk_row hz hy hcz rc (hs2.set (i := 4) (by omega) _) h2 g2 ?_
    have e : outCt fa fm ck (m + 1) (.int v) rows2 = (inCt fa (.int v) rows2 rows2 rows2 >>= fun a => fm [ck, .int v] >>= fun v2 => toI v2 >>= fun i => (pure (a, i) : DM (Rw × Int))) >>= fun a => outCt fa fm ck m (.int a.2) a.1 := by
      show (_ >>= _) = _
      rw [bind_assoc]
      refine congrArg (fun f => inCt fa (.int v) rows2 rows2 rows2 >>= f) (funext fun a => ?_)
      rw [bind_assoc]
      refine congrArg (fun f => fm [ck, .int v] >>= f) (funext fun d => ?_)
      rw [bind_assoc]
      rfl
    rw [e] at k2
    exact (Wp.bind k2).mono (fun a s3 k3 σ' H' r' hs3 h3 g3 => ⟨m, by omega, by omega, r', a.2, a.1, s3, hs3, h3, g3, k3⟩) fun _ _ k => k
theorem walk_counts {P : Program} {w : World} {K : PySem.W.Frag} {cl : Cl} {E : XK} {fa fm : List D → DM D} {vs : List V} {H : Hp} {Q : VK} {N : List Str} (hN : N.length = 9) (h : spD cl 2 (cntM fa fm) vs H Q E) :
    tsAll P w K cl E fa fm 2 { nx := fun _ H' => Q V.non H', rt := Q } (L2.start N vs) H := by
  obtain ⟨hl, G, Z, ds, s, hz, hy, hcz, ha, hr, k⟩ := h
  match vs, ds, hr, k with
  | [c, v], [ck, .int n], .cons rc (.cons rn .nil), k =>
    cases rn
    simp only [cntM] at k
    split at k
    · rename_i hn
      obtain ⟨m, rfl⟩ : ∃ m : Nat, n = (m : Int) := ⟨n.toNat, by omega⟩
      rw [Int.toNat_natCast] at k
      have hs0 : (L2.start N [c, V.int (m : Int)]).length = 9 := by
        unfold L2.start
        rw [List.length_append, List.length_map, List.length_replicate, hN]; rfl
      have q0 : (L2.start N [c, V.int (m : Int)])[0]? = some (some c) := rfl
      have q1 : (L2.start N [c, V.int (m : Int)])[1]? = some (some (V.int (m : Int))) := rfl
      intro r hr0
      refine ⟨by rw [sizeLine_eq]; simp, fun t ht => ?_⟩
      have htr : t ≠ r := fun e => by rw [e, upd_same] at ht; cases ht
      have ht0 : H t = none := by rw [upd_ne htr] at ht; exact ht
      obtain ⟨ry, _⟩ := free0 (Ext.refl _ _) ha hr0
      obtain ⟨ty, _⟩ := free0 (Ext.refl _ _) ha ht0
      refine ⟨by rw [upd_ne (Ne.symm htr)]; exact upd_same, encK (0, 0), t, rfl, by rw [upd_same]; rfl, ?_⟩
      have hh : H1 G H r (.dT (enc [((0, 0), 1)])) s (upd (upd (upd H r (.dT [])) t (.tup [V.int 0, V.int 0])) r (.dT (enc [((0, 0), 1)]))) := by
        have x1 := ry.dep (o := .dT []) ha
        have oT := (Off.new x1 ht)
        have x2 := oT.dep (o := .tup [V.int 0, V.int 0]) x1
        have o2 := (ry.wr (o := .dT []) ry.y).wr (o := .tup [V.int 0, V.int 0]) oT.y
        exact ⟨((Ext.new hr0).trans (Ext.new ht)).wr0 hr0 ry.y, o2.dep x2, upd_same, o2.wr ry.y, hr0⟩
      have hs : Sg c (.int (m : Int)) (.ref r) (.int 1) (((L2.start N [c, V.int (m : Int)]).set 2 (some (V.ref r))).set 3 (some (V.int 1))) :=
        ⟨by rw [List.length_set, List.length_set]; exact hs0, by rw [List.getElem?_set_ne (by omega), List.getElem?_set_ne (by omega)]; exact q0, by rw [List.getElem?_set_ne (by omega), List.getElem?_set_ne (by omega)]; exact q1, by rw [List.getElem?_set_ne (by omega), List.getElem?_set_self (by rw [hs0]; omega)], by rw [List.getElem?_set_self (by rw [List.length_set, hs0]; omega)]⟩
      refine walk_for (by omega) hz hy hcz rc hs hh Good.one ((Wp.bind k).mono (fun rows s1 k1 σ' H' r' v hs1 h1 => ?_) fun _ _ k => k)
      exact walk_end (by omega) hz hy hs1 h1 fun v H2 e2 a2 r2 => wp_pure k1 v H2 e2 a2 r2
    · exact k.elim
  | [], _, _, k => cases hl
  | [_], _, _, k => cases hl
end DL

namespace DL
open PySem PySem.Spec PyProof.Rows L2
/-! ### try: .. except C as e: .., where the suite keeps e: its object goes into the abstract heap -/
/-- an exception's object: its class, no dict of its own -/
def excO (a : Addr) (cls : Value) : HO := .ext fun h => ∃ oe vs, h.get? a = some oe ∧ Zc cls none oe ∧ oe.data = .fields vs
theorem excO_ok {P : Program} {w : World} {H : Hp} {h : Heap} {a : Addr} {cls : Value} {oe : Obj} {vs : Array Value} (e : h.get? a = some oe) (z : Zc cls none oe) (d : oe.data = .fields vs) : ObjOk P w H h a (excO a cls) :=
  ⟨⟨oe, vs, e, z, d⟩, ⟨oe, e⟩, fun h1 h2 ⟨o, us, e1, z1, d1⟩ k => ⟨o, us, k o e1, z1, d1⟩⟩
section
variable {X : Cx} {pins : List (Addr × Obj)} {σ : L2.St} {H : Hp} {sI s' : Shared} {B : Heap}
theorem landedX {a : Addr} {o : HO} (I : L2.Inv X pins σ H sI) (nb : ∀ b o, sI.heap.get? b = some o → b ∉ frs X.stack → B.get? b = some o) (st : B.StaysIn s'.heap) (up : sI.heap.UpToSlots s'.heap) (os : s'.os = sI.os) (ag : AllBare s'.gens)
    (na : H a = none) (ha : sI.heap.get? a = none) (new : ObjOk X.prog X.w (upd H a o) s'.heap a o) : L2.Inv X pins σ (upd H a o) s' := by
  have ne : ∀ {b : Addr} {u : HO}, H b = some u → b ≠ a := fun e z => by rw [z, na] at e; cases e
  have nf : ∀ b ∈ frs X.stack, ∀ o, sI.heap.get? b = some o → ∃ sl, s'.heap.get? b = some { o with slots := sl } := fun b hb o e => by
    obtain ⟨_, o', e', hd⟩ := I.stack.mem hb
    rw [e] at e'; cases e'
    exact up b o e hd
  have hk := (I.inGround nb).kept st
  have J := I.call (ch := []) (h' := s'.heap) (g' := s'.gens) (t' := s'.toks) (d' := s'.drawn) (H' := upd H a o)
    ⟨fun b o e _ hb _ => st b o (nb b o e hb), fun b o e _ hb _ => nf b hb o e, fun b u e n _ => by rw [upd_ne (fun z => by rw [z, ha] at e; cases e)]; exact n, fun b o e _ => by
      by_cases hb : b ∈ frs X.stack
      · obtain ⟨sl, q⟩ := nf b hb o e
        exact ⟨_, q⟩
      · exact ⟨o, st b o (nb b o e hb)⟩, fun b xs e => by rw [upd_ne (ne e)]; exact e, fun b o u e => by rw [upd_ne (ne e)]; exact e, fun b ps e => ⟨#[], by rw [upd_ne (ne e), e]; simp⟩⟩
    (fun b u e => by
      by_cases z : b = a
      · subst z
        rw [upd_same] at e
        cases e
        exact new
      · rw [upd_ne z] at e
        exact (hk b u e).stay (fun c v _ q => q) (fun c q => by rw [upd_ne (ne q)]; exact q) fun c xs q => by rw [upd_ne (ne q)]; exact q) ag (fun _ z => nomatch z)
  obtain ⟨a1, a2, a3, a4, a5⟩ := s'
  have e5 : a5 = sI.os := os
  subst e5
  exact J
theorem suiteX (I : L2.Inv X pins σ H sI) (a : Addr) : L2.Inv (X.suite a (X.pn ++ pins)) [] σ H sI :=
  ⟨I.ok.suite _ _, I.os, I.bare, I.base, I.loc, I.cell, I.free, I.freeC, fun p hp => I.pin p (by rw [List.append_nil] at hp; exact hp), I.hok, I.len⟩
theorem unsuiteX {a : Addr} {pn' : List (Addr × Obj)} (I : L2.Inv (X.suite a (X.pn ++ pins)) pn' σ H sI) (ok : X.Ok) : L2.Inv X pins σ H sI :=
  ⟨ok, I.os, I.bare, I.base, I.loc, I.cell, I.free, I.freeC, fun p hp => I.pin p (List.mem_append_left _ hp), I.hok, I.len⟩
end
/-- what the clause 'except x as n' wishes, where the error's object is kept -/
def wAd (K : PySem.W.Frag) (c : Value) (i : Nat) (ts : TS) (Wout : WX) (D : Ends) : WX := fun cls d σ H =>
  d = none ∧ ∃ b, PySem.W.exmOne K cls c = some b ∧ (b = true → ∀ a, H a = none → ts { nx := fun σ' H' => D.nx (σ'.set i none) H', rt := D.rt, bk := fun σ' H' => D.bk (σ'.set i none) H', ct := fun σ' H' => D.ct (σ'.set i none) H' } (σ.set i (some (.ref a))) (upd H a (excO a cls))) ∧
    (b = false → Wout cls d σ H)
section
variable {X : Cx} {x n : Str} {c : Value} {i : Nat} {body suite : List Stmt} {b₀ : Stmt} {np pos pos' : Pos} {tb : WX → TS} {ts : TS} {Wout : WX}
theorem ps_try_adopt (hs : X.stack = X.env :: X.outer) (hf : X.env.frame = some X.env.locals) (hN : X.N.Nodup) (hi : X.N[i]? = some n) (hln : X.env.kindOf n = some .local) (hc : Names X x c) (tk : Takes X Wout)
    (hb : ∀ (W : WX) (pn : List (Addr × Obj)) (xe : Value → Shared → Prop), Takes (X.tr pn xe) W → PassesOwn (model X.prog X.w) X.A X.env xe → PSs (X.tr pn xe) body (tb W))
    (hsu : ∀ (a : Addr) (pn : List (Addr × Obj)), PSs (X.suite a pn) (b₀ :: suite) ts) :
    PS X (.Try body [.ExceptHandler (some (.Name x np)) (some n) (b₀ :: suite) pos'] [] [] pos) (fun D σ H => tb (wAd X.K c i ts Wout D) D σ H) := by
  refine ⟨fun pins s σ H D I h => ?_⟩
  have ok := I.ok
  have hfr : X.A.frames = some (X.env :: X.outer) := by rw [ok.frames, hs]
  have hloc : Loc X.env.scope n := .inl hln
  refine wpAny_Try_except ?_
  refine wpAny_mono ((hb (wAd X.K c i ts Wout D) (X.pn ++ pins) (fun e s₁ => wpAny (model X.prog X.w) X.A (noteFrame e X.env) (fun _ s₂ => wpAny (model X.prog X.w) X.A (setFlight e none) (fun _ s₃ =>
    wpAny (model X.prog X.w) X.A (handleBy e X.env [.ExceptHandler (some (.Name x np)) (some n) (b₀ :: suite) pos']) (SP X pins D) X.xe s₃) X.xe s₂) X.xe s₁) (fun u s' xx => ?_) PassesOwn.looking).run [] s σ H D (I.toTry _) h) (fun f s1 hsp => ?_) (fun e s1 he => he)
  · -- the catch
    obtain ⟨a, B, sI, pins', σ', H', cls, d, rfl, J', nb, up, sky, na, os, ag, hdn, b, hb1, hyes, hno⟩ := xx
    subst hdn
    have J : L2.Inv X pins σ' H' sI := J'.ofTry ok
    have sky' : Sky B (X.env :: X.outer) a (Zc cls none) X.env.locals s'.heap := by rw [← hs]; exact sky
    show wpAny (model X.prog X.w) X.A (noteFrame (.ref a) X.env) _ _ _
    refine Sky.land Zc.steady hfr hf sky' fun h3 fl3 up3 => ?_
    have J3 : L2.Inv X pins σ' H' { s' with heap := h3 } := J.landed nb fl3.1 (up.trans up3) os ag
    obtain ⟨oe3, vs3, he3, hz3, hd3⟩ := fl3.there
    have nfr : a ∉ frs (X.env :: X.outer) := fun hm => by
      obtain ⟨_, o', e', hnf⟩ := fl3.2.2.1.mem hm
      rw [he3] at e'; cases e'
      exact hnf _ hd3
    have hI : sI.heap.get? a = none := by
      cases q : sI.heap.get? a with
      | none => rfl
      | some u =>
        have := nb a u q (by rw [show X.stack = X.env :: X.outer from hs]; exact nfr)
        rw [fl3.2.1] at this; cases this
    have nL : a ≠ X.env.locals := fun z => nfr (List.mem_filterMap.mpr ⟨X.env, List.mem_cons_self, by rw [hf, z]⟩)
    have nF : a ∉ X.fs := fun hm => by
      obtain ⟨e, he, q⟩ := List.mem_filterMap.mp hm
      exact nfr (List.mem_filterMap.mpr ⟨e, List.mem_cons_of_mem _ he, q⟩)
    have S3 := J3.suite he3 hd3 na nL nF
    refine wpAny_handleBy_cons (codeAny_handlers_test ?_) (by intro q; cases q)
    have LT : PySem.W.Looks (model X.prog X.w) h3 (typeOf (.ref a)) cls := fun A Q E s k q => wpAny_typeOf_ref (k _ _ he3) (by rw [hz3.1]; exact q)
    have LM := PySem.W.exm_one (M := model X.prog X.w) (J3.kIn) LT hb1
    have test : ∀ {Q : Value → Shared → Prop} {E : Value → Shared → Prop}, Q c { s' with heap := h3 } → wpAny (model X.prog X.w) (X.A.mark (some (.ref a))) (eval (.Name x np) X.env) Q E { s' with heap := h3 } := fun {Q E} q => by
      obtain ⟨hg, hdbg, hm | ⟨hm, hv, hnn⟩⟩ := hc
      · exact ld_glob (X := X.suite a ((a, oe3) :: (X.pn ++ pins))) S3 hg hm q hdbg
      · exact ld_blt (X := X.suite a ((a, oe3) :: (X.pn ++ pins))) S3 hg hm hv q hnn hdbg
    refine test (LM.here ?_)
    cases b with
    | true =>
      refine codeAny_handlers_suite_as ?_
      refine HandSPX.lands_againZ fl3 fun h4 fl4 up4 => ?_
      obtain ⟨oe4, vs4, he4, hz4, hd4⟩ := fl4.there
      have J4 : L2.Inv X pins σ' (upd H' a (excO a cls)) { s' with heap := h4 } := landedX J nb fl4.1 ((up.trans up3).trans up4) os ag na hI (excO_ok he4 hz4 hd4)
      have S4 := suiteX J4 a
      refine store_ok (X := X.suite a (X.pn ++ pins)) (v := .ref a) S4 hN hi hloc rfl (fun s5 S5 => ?_) (.inr hln)
      refine wpAny_mono ((hsu a (X.pn ++ pins)).run [] s5 _ _ _ S5 (hyes rfl a na)) (fun f s6 hsp => ?_) (fun _ _ z => False.elim z)
      have end_ : ∀ {σ6 : L2.St} {H6 : Hp} {Q : Shared → Prop}, L2.Inv (X.suite a (X.pn ++ pins)) [] σ6 H6 s6 → (∀ s7, L2.Inv X pins (σ6.set i none) H6 s7 → Q s7) →
          wpAny (model X.prog X.w) X.A (do bindName X.env n .none; unbindBehindTheSuite X.env n pos') (fun _ s7 => Q s7) X.xe s6 := fun {σ6 H6 Q} S6 hq => gone_ok (unsuiteX S6 ok) hN hi hln hq
      cases f with
      | next =>
        obtain ⟨σ6, H6, S6, q6⟩ := hsp
        exact end_ S6 fun s7 J7 => ⟨_, _, J7, q6⟩
      | brk =>
        obtain ⟨σ6, H6, S6, q6⟩ := hsp
        exact end_ S6 fun s7 J7 => ⟨_, _, J7, q6⟩
      | cont =>
        obtain ⟨σ6, H6, S6, q6⟩ := hsp
        exact end_ S6 fun s7 J7 => ⟨_, _, J7, q6⟩
      | ret u =>
        obtain ⟨v6, σ6, H6, S6, r6, q6⟩ := hsp
        exact end_ S6 fun s7 J7 => ⟨_, _, _, J7, r6, q6⟩
    | false =>
      show wpAny _ X.A (handleBy (.ref a) X.env []) _ _ _
      refine wpAny_handleBy_nil ?_
      obtain ⟨k1, k2, k3, oe, vs, T, oT, ts', he, hz, hd, h1, hr⟩ := id fl3
      unfold PySem.passOn
      refine wpAny_bind (wpAny_field he hd h1 ?_)
      rw [if_neg (show ¬ ((Value.ref T == Value.none) = true) from by simp)]
      have fin : wpAny (model X.prog X.w) X.A (setFlight (.ref a) X.env.frame) (fun _ s4 => wpAny (model X.prog X.w) X.A (throw (.ref a) : Sem Flow) (SP X pins D) X.xe s4) X.xe { s' with heap := h3 } := by
        rw [hf]
        refine HandSPX.setFlight_upZ fl3 fun h4 hh4 up4 => wpAny_throw (tk _ _ ?_)
        exact ⟨a, B, sI, pins, σ', H', cls, none, rfl, J, nb, (up.trans up3).trans up4, .inr (.inr (by rw [hs]; exact hh4)), na, os, ag, hno rfl⟩
      first
        | exact wpAny_bind (wpAny_pure (wpAny_bind fin))
        | exact wpAny_bind fin
  · cases f with
    | next =>
      obtain ⟨σ', H', J', q⟩ := hsp
      exact wpAny_execs_nil ⟨σ', H', J'.ofTry ok, q⟩
    | brk =>
      obtain ⟨σ', H', J', q⟩ := hsp
      exact ⟨σ', H', J'.ofTry ok, q⟩
    | cont =>
      obtain ⟨σ', H', J', q⟩ := hsp
      exact ⟨σ', H', J'.ofTry ok, q⟩
    | ret u =>
      obtain ⟨v, σ', H', J', r, q⟩ := hsp
      exact ⟨v, σ', H', J'.ofTry ok, r, q⟩
end
/-- isinstance(e, c), e an error that is kept -/
def rIsX (K : PySem.W.Frag) : List V → Hp → VK → Prop := fun xs H Q => ∃ (a D : Addr) (c : V) (cv : Value) (b : Bool), xs = [.ref a, c] ∧ H a = some (excO a (.ref D)) ∧ ExcC K D ∧ (∀ u, RelV c u → u = cv) ∧ PySem.W.kitOne K (.ref D) cv = some b ∧ Q (.bl b) H
theorem call_isX {X : Cx} : CallR X (.builtin "isinstance") (rIsX X.K) := by
  intro pins s σ H xs us Q I r h
  obtain ⟨a, D, c, cv, b, rfl, hH, C, hcv, e, q⟩ := h
  cases r with
  | cons rx rr =>
    cases rr with
    | cons rt rr =>
      cases rr
      cases rx
      have ec := hcv _ rt
      subst ec
      obtain ⟨⟨oe, vs, hget, hz, hv⟩, _⟩ := (show ObjOk X.prog X.w H s.heap a (excO a (.ref D)) from I.hok a _ hH)
      have J : PySem.W.InstAt s.heap a oe D none := by
        obtain ⟨oc, od, oda, osl⟩ := oe
        obtain ⟨h1, h2⟩ := hz
        dsimp only at h1 h2 hv
        subst h1 h2 hv
        exact ⟨hget, rfl, rfl, trivial⟩
      exact PySem.W.kia_one (PySem.W.handS_kitx_exc C.hg C.hk C.hs C.hd C.ha C.hn C.ht C.hm) I.kIn J e (fun z => nomatch z) fun tk => ⟨.bl b, H, I.kept (t' := tk) fun _ _ z => z, rfl, q⟩
end DL
namespace DL
open PySem PySem.Spec PyProof.Rows L2
/-- what is told of the classes of errors -/
structure ErrK (K : PySem.W.Frag) (mg : Str → Option Value) (cl : Cl) (ce : Addr) : Prop where
  gc : mg "BadCheck" = some (.ref (cl .chk))
  gb : mg "BadBits" = some (.ref (cl .bits))
  gn : mg "BadNumber" = some (.ref (cl .num))
  gs : mg "BadSamples" = some (.ref (cl .smp))
  gp : mg "BadPlaces" = some (.ref (cl .plc))
  gt : mg "BadText" = some (.ref (cl .txt))
  gf : mg "NotFound" = some (.ref (cl .nof))
  ge : mg "CheckError" = some (.ref ce)
  ex : ∀ e, ExcC K (cl e)
  ki : ∀ e e', PySem.W.kitOne K (.ref (cl e)) (.ref (cl e')) = some (decide (e = e'))
  kc : ∀ e, PySem.W.kitOne K (.ref (cl e)) (.ref ce) = some true
  kv : ∀ e, PySem.W.kitOne K (.ref (cl e)) (.type "ValueError") = some true
  em : ∀ e, PySem.W.exmOne K (.ref (cl e)) (.ref ce) = some true
def errN : Er → Str
  | .chk => "check" | .bits => "bits" | .num => "number" | .smp => "samples" | .plc => "places" | .txt => "text" | .nof => "none"
/-- _law_error(caught) -/
def spErr (cl : Cl) : Sp := fun vs H Q _ => ∃ (a : Addr) (e : Er), vs = [.ref a] ∧ H a = some (excO a (.ref (cl e))) ∧ ∀ H', Same H H' → Q (.str (errN e)) H'
def tIsx (K : PySem.W.Frag) (c : V) : TE := tCB (rIsX K) (tCons (tVar 0) (tCons (tC c) tNil))
theorem isx {K : PySem.W.Frag} {mg : Str → Option Value} {cl : Cl} {ce : Addr} (T : ErrK K mg cl ce) {a : Addr} {e e' : Er} {σ : L2.St} {H : Hp} {Q : VK} (h0 : σ[0]? = some (some (V.ref a))) (hH : H a = some (excO a (.ref (cl e)))) (q : Q (.bl (decide (e = e'))) H) : tIsx K (.ref (cl e')) σ H Q :=
  ⟨_, h0, a, cl e, _, _, _, rfl, hH, T.ex e, fun u r => r, T.ki e e', q⟩
def tsErr (K : PySem.W.Frag) (cl : Cl) (ce : Addr) : TS :=
  tSeq (tAsg (tLst (tCons (tIsx K (.ref (cl .chk))) (tCons (tIsx K (.ref (cl .bits))) (tCons (tIsx K (.ref (cl .num))) tNil)))) (gName 1))
  (tSeq (tAsg (tOp rCat (tVar 1) (tLst (tCons (tIsx K (.ref (cl .smp))) (tCons (tIsx K (.ref (cl .plc))) (tCons (tIsx K (.ref (cl .txt))) tNil))))) (gName 1))
  (tSeq (tAsg (tOp rCat (tVar 1) (tLst (tCons (tIsx K (.ref (cl .nof))) tNil))) (gName 1))
  (tSeq (tIfS (tOr (tTest (tOp rNe (tBM K "list" (rCountF K) (tVar 1) (tCons (tC (V.bl true)) tNil)) (tC (V.int 1)))) (tOr (tNot (tB (tIsx K (.ref ce)))) (tNot (tB (tIsx K (.ty "ValueError")))))) (tRet (tC (V.str "odd"))) tNext)
    (tRet (tOp (rIxL K) (tLst (tCons (tC (V.str "check")) (tCons (tC (V.str "bits")) (tCons (tC (V.str "number")) (tCons (tC (V.str "samples")) (tCons (tC (V.str "places")) (tCons (tC (V.str "text")) (tCons (tC (V.str "none")) tNil)))))))) (tBM K "list" (rIndex K) (tVar 1) (tCons (tC (V.bl true)) tNil)))))))
def errIx : Er → Nat
  | .chk => 0 | .bits => 1 | .num => 2 | .smp => 3 | .plc => 4 | .txt => 5 | .nof => 6
theorem walk_err {K : PySem.W.Frag} {mg : Str → Option Value} {cl : Cl} {ce : Addr} (T : ErrK K mg cl ce) {a : Addr} {e : Er} {H : Hp} {Q : VK} (hH : H a = some (excO a (.ref (cl e)))) (hq : ∀ H', Same H H' → Q (.str (errN e)) H') :
    tsErr K cl ce { nx := fun _ H' => Q V.non H', rt := Q } (L2.start ["caught", "kinds"] [V.ref a]) H := by
  have keep : ∀ {H1 : Hp} {p : Addr} {o : HO}, H1 a = some (excO a (.ref (cl e))) → H1 p = none → (upd H1 p o) a = some (excO a (.ref (cl e))) := fun h hp => by rw [upd_ne (fun z => by rw [z, hp] at h; cases h)]; exact h
  refine isx T rfl hH (isx T rfl hH (isx T rfl hH ⟨by rw [sizeLine_eq]; simp, fun p hp => ?_⟩))
  have s1 : Same H (upd H p (.lst [.bl (decide (e = .chk)), .bl (decide (e = .bits)), .bl (decide (e = .num))])) := same_new hp
  have h1 := keep (o := .lst [.bl (decide (e = .chk)), .bl (decide (e = .bits)), .bl (decide (e = .num))]) hH hp
  refine ⟨_, rfl, isx T rfl h1 (isx T rfl h1 (isx T rfl h1 ⟨by rw [sizeLine_eq]; simp, fun p2 hp2 => ?_⟩))⟩
  have n12 : p ≠ p2 := fun z => by rw [← z, upd_same] at hp2; cases hp2
  refine ⟨p, p2, _, _, rfl, rfl, by rw [upd_ne n12]; exact upd_same, upd_same, by rw [sizeLine_eq]; simp, fun p3 hp3 => ?_⟩
  have s2 := s1.trans (same_new (o := .lst [.bl (decide (e = .smp)), .bl (decide (e = .plc)), .bl (decide (e = .txt))]) hp2)
  have h2 := keep (o := .lst [.bl (decide (e = .smp)), .bl (decide (e = .plc)), .bl (decide (e = .txt))]) h1 hp2
  have s3 := s2.trans (same_new (o := .lst ([.bl (decide (e = .chk)), .bl (decide (e = .bits)), .bl (decide (e = .num))] ++ [.bl (decide (e = .smp)), .bl (decide (e = .plc)), .bl (decide (e = .txt))])) hp3)
  have h3 := keep (o := .lst ([.bl (decide (e = .chk)), .bl (decide (e = .bits)), .bl (decide (e = .num))] ++ [.bl (decide (e = .smp)), .bl (decide (e = .plc)), .bl (decide (e = .txt))])) h2 hp3
  refine ⟨_, rfl, isx T rfl h3 ⟨by rw [sizeLine_eq]; simp, fun p4 hp4 => ?_⟩⟩
  have n34 : p3 ≠ p4 := fun z => by rw [← z, upd_same] at hp4; cases hp4
  have s4 := s3.trans (same_new (o := .lst [.bl (decide (e = .nof))]) hp4)
  have h4 := keep (o := .lst [.bl (decide (e = .nof))]) h3 hp4
  refine ⟨p3, p4, _, _, rfl, rfl, by rw [upd_ne n34]; exact upd_same, upd_same, by rw [sizeLine_eq]; simp, fun p5 hp5 => ?_⟩
  obtain ⟨L, hL⟩ : ∃ L : List V, L = [.bl (decide (e = .chk)), .bl (decide (e = .bits)), .bl (decide (e = .num))] ++ [.bl (decide (e = .smp)), .bl (decide (e = .plc)), .bl (decide (e = .txt))] ++ [.bl (decide (e = .nof))] := ⟨_, rfl⟩
  rw [← hL]
  have s5 := s4.trans (same_new (o := .lst L) hp5)
  have h5 := keep (o := .lst L) h4 hp5
  have hp : (upd (upd (upd (upd (upd H p (.lst [.bl (decide (e = .chk)), .bl (decide (e = .bits)), .bl (decide (e = .num))])) p2 (.lst [.bl (decide (e = .smp)), .bl (decide (e = .plc)), .bl (decide (e = .txt))])) p3 (.lst ([.bl (decide (e = .chk)), .bl (decide (e = .bits)), .bl (decide (e = .num))] ++ [.bl (decide (e = .smp)), .bl (decide (e = .plc)), .bl (decide (e = .txt))]))) p4 (.lst [.bl (decide (e = .nof))])) p5 (.lst L)) p5 = some (.lst L) := upd_same
  generalize (upd (upd (upd (upd (upd H p (.lst [.bl (decide (e = .chk)), .bl (decide (e = .bits)), .bl (decide (e = .num))])) p2 (.lst [.bl (decide (e = .smp)), .bl (decide (e = .plc)), .bl (decide (e = .txt))])) p3 (.lst ([.bl (decide (e = .chk)), .bl (decide (e = .bits)), .bl (decide (e = .num))] ++ [.bl (decide (e = .smp)), .bl (decide (e = .plc)), .bl (decide (e = .txt))]))) p4 (.lst [.bl (decide (e = .nof))])) p5 (.lst L)) = H5 at s5 h5 hp ⊢
  have hflat : L.all flatV = true := by rw [hL]; rfl
  have hcnt : (L.countP fun z => eqV z (.bl true)) = 1 := by rw [hL]; cases e <;> rfl
  refine ⟨_, rfl, .inl ⟨rfl, _, SqL.of hp⟩, p5, L, .bl true, rfl, rfl, SqL.of hp, rfl, hflat, ?_⟩
  rw [hcnt]
  refine ⟨rfl, false, rfl, ?_⟩
  refine ⟨_, rfl, a, cl e, _, _, _, rfl, h5, T.ex e, fun u r => r, T.kc e, true, rfl, ?_⟩
  refine ⟨_, rfl, a, cl e, _, _, _, rfl, h5, T.ex e, fun u r => r, T.kv e, true, rfl, ?_⟩
  refine ⟨by rw [sizeLine_eq]; simp, fun p6 hp6 => ?_⟩
  have s6 := s5.trans (same_new (o := .lst [V.str "check", V.str "bits", V.str "number", V.str "samples", V.str "places", V.str "text", V.str "none"]) hp6)
  have hp' : (upd H5 p6 (.lst [V.str "check", V.str "bits", V.str "number", V.str "samples", V.str "places", V.str "text", V.str "none"])) p5 = some (.lst L) := by rw [upd_ne (fun z => by rw [← z, hp] at hp6; cases hp6)]; exact hp
  refine ⟨_, rfl, .inl ⟨rfl, _, SqL.of hp'⟩, p5, L, .bl true, errIx e, .bl true, rfl, rfl, SqL.of hp', rfl, hflat, by rw [hL]; cases e <;> rfl, rfl, ?_, ?_⟩
  · intro m z hm hz
    rw [hL] at hz
    cases e <;> (simp only [errIx] at hm) <;> (try omega) <;> (
      obtain hm' : m = 0 ∨ m = 1 ∨ m = 2 ∨ m = 3 ∨ m = 4 ∨ m = 5 := by omega
      rcases hm' with rfl | rfl | rfl | rfl | rfl | rfl <;> first | omega | (cases hz; rfl))
  · refine ⟨p6, [V.str "check", V.str "bits", V.str "number", V.str "samples", V.str "places", V.str "text", V.str "none"], _, .str (errN e), rfl, rfl, SqL.of upd_same, ?_, hq _ s6⟩
    cases e <;> rfl
end DL

namespace DL
open PySem PySem.Spec PyProof.Rows L2
/-! ### try: .. except CheckError as e: caught = e; return .. if caught is None else _law_error(caught) -/
/-- errors become their names -/
def tryD (x : DM D) : DM D := fun s => match x s with
  | .ok d s' => .ok d s'
  | .er e s' => .ok (.str (errN e)) s'
  | .no => .no
section
variable {X : Cx} {k : Nat} {x : Str} {sp : Sp} {E : L2.St → XK} {p pos : Pos} {e : Expr} {es : List Expr} {t : TA}
theorem pe_callX (h : KO X.prog X.w X.K X.mg X.base k x sp) (hr : Room k X.A) (hg : Gl X x) (hx : ∀ σ, PassesAt (L2.CX X.prog X.w) X σ (E σ)) (ha : PA X (e :: es) t)
    (hdb : (x == ("__debug__" : Str)) = false := by decide) (he : starEach (e :: es) X.env = (false, eval e X.env) :: starEach es X.env := by rfl) (hpl : (backTo pos (starEach es X.env)).any (·.1) = false := by rfl) :
    PE X (.Call (.Name x p) (e :: es) [] pos) (tCallS sp E t) := by
  obtain ⟨f, fd, ps, g, kp, b, F⟩ := h
  exact pe_callS F hr hg g kp b hx ha hdb he hpl
end
/-- the body of a try: its value goes into slot i -/
def EvTry (cl : Cl) (os : List (Nat × Bool)) (i : Option Nat) (tb : WX → TS) (g : Env → DM D) : Prop :=
  ∀ {G H0 B Z0 O ρ s σ H} (W : WX) (D : Ends), Fr cl.reg G H0 B Z0 O os ρ s σ H →
    Wp (g ρ s) (fun d s' => ∀ v H', Ext G G.Y H H' → G.A s' H' → Rep G (adr O ++ Z0) H' v d → D.nx (match i with | some i => σ.set i (some v) | none => σ) H') (fun e s' => ∀ H', Ext G G.Y H H' → G.A s' H' → W (.ref (cl e)) none σ H') → tb W D σ H
section
variable {cl : Cl} {os : List (Nat × Bool)} {tl : TA} {gl : Env → DM (List D)} {E : XK}
/-- arguments that cannot raise -/
theorem etry_call {n : Nat} {f : List D → DM D} (h : EvA cl E0 os tl true gl) (hn : ∀ ρ s ds s', gl ρ s = .ok ds s' → ds.length = n) {G H0 B Z0 O ρ s σ H} (W : WX) (Q : VK) (F : Fr cl.reg G H0 B Z0 O os ρ s σ H)
    (w : Wp ((noEr (gl ρ) >>= fun ds => f ds) s) (fun d s' => ∀ v H', Ext G G.Y H H' → G.A s' H' → Rep G (adr O ++ Z0) H' v d → Q v H') (fun e s' => ∀ H', Ext G G.Y H H' → G.A s' H' → W (.ref (cl e)) none σ H')) :
    tCallS (spD cl n f) (WE W) tl σ H Q := by
  have w1 := Wp.noEr (E' := fun _ _ => False) w.bind
  have w2 : Wp (gl ρ s) (fun ds s' => ds.length = n ∧ Wp (f ds s') (fun d s' => ∀ v H', Ext G G.Y H H' → G.A s' H' → Rep G (adr O ++ Z0) H' v d → Q v H') (fun e s' => ∀ H', Ext G G.Y H H' → G.A s' H' → W (.ref (cl e)) none σ H')) (fun _ _ => False) := by
    cases q : gl ρ s with
    | ok ds s' => rw [q] at w1; exact ⟨hn _ _ _ _ q, w1⟩
    | er e s' => rw [q] at w1; exact w1
    | no => rw [q] at w1; exact w1
  refine h _ F (w2.mono (fun ds s1 ⟨hl, k⟩ vs H1 e1 a1 r1 => ?_) fun _ _ k => k.elim)
  have F1 := F.step e1 a1
  refine ⟨by rw [r1.length]; exact hl, G, adr O ++ Z0, ds, s1, F1.domZ, F1.sub, ⟨F1.cc, F1.pn⟩, a1, r1, ?_⟩
  exact k.mono (fun d s2 k2 v H2 e2 a2 r2 => k2 v H2 (e1.trans e2) a2 r2) fun e s2 k2 H' e2 a2 => k2 H' (e1.trans e2) a2
theorem etry_asg {n i : Nat} {f : List D → DM D} (h : EvA cl E0 os tl true gl) (hn : ∀ ρ s ds s', gl ρ s = .ok ds s' → ds.length = n) :
    EvTry cl os (some i) (fun W => tAsg (tCallS (spD cl n f) (WE W) tl) (gName i)) (fun ρ => noEr (gl ρ) >>= fun ds => f ds) := fun W D F w => etry_call h hn W _ F w
end
section
variable {cl : Cl} {E : XK} {ob : List (Nat × Bool)} {K : PySem.W.Frag} {mg : Str → Option Value} {ce : Addr}
theorem fr_nil {κ : Addr} {G : Rg} {H0 : Hp} {B : List (Nat × Addr)} {Z0 : List Addr} {O : List Own} {ρ : Env} {s : DSt} {σ : L2.St} {H : Hp} (F : Fr κ G H0 B Z0 O [] ρ s σ H) : O = [] := by
  have := F.sh
  exact List.map_eq_nil_iff.mp this
def gTryRet (i x c : Nat) (g : Env → DM D) : Env → DM Fl := fun ρ => if i < ρ.length ∧ x < ρ.length then getE c ρ >>= fun y => match y with | .non => tryD (g ρ) >>= fun d => pure (.rt d) | _ => stuck else stuck
/-- what stands behind the suite: the name holds the error -/
theorem err_ret {κ : Addr} {G : Rg} {H0 : Hp} {B : List (Nat × Addr)} {Z0 : List Addr} {O : List Own} {ρ : Env} {s s' : DSt} {σ σ' : L2.St} {H H' : Hp} {D : Ends} {tA : TE} {c : Nat} {er : Er} {a : Addr} (F : Fr κ G H0 B Z0 O [] ρ s σ H) (e : Ext G G.Y H H') (as : G.A s' H') (ha : H' a = none)
    (hc : σ'[c]? = some (some (V.ref a))) (k : ∀ v H', Ext G (wof G B) H0 H' → G.A s' H' → Rep G Z0 H' v (.str (errN er)) → D.rt v H') :
    tRet (tIf (tB (tIsN (tVar c))) tA (tCall (spErr cl) [] E (tCons (tVar c) tNil))) D σ' (upd H' a (excO a (.ref (cl er)))) := by
  refine ⟨_, hc, false, rfl, ?_⟩
  simp only [Bool.false_eq_true, ↓reduceIte]
  refine ⟨_, hc, a, er, rfl, upd_same, fun H2 s2 => ?_⟩
  have e2 : Ext G G.Y H' H2 := (Ext.new ha).trans (Same.ext s2)
  have a2 : G.A s' H2 := G.dep s' H' _ (fun z hz => by
    cases q : H' z with
    | none => exact absurd q (G.inY s' H' as z hz)
    | some o => exact s2 z o (by rw [upd_ne (fun y => by rw [y, ha] at q; cases q)]; exact q)) as
  exact k _ _ (F.wext (e.trans e2)) a2 (.str _)
theorem es_tryRet {tb : WX → TS} {g : Env → DM D} {i c x : Nat} {Wout : WX} (T : ErrK K mg cl ce) (hb : EvTry cl [] (some i) tb g) (hic : i ≠ c) (hxc : x ≠ c) :
    EvS cl E [] [] ob (tSeq (fun D σ H => tb (wAd K (.ref ce) x (tAsg (tVar x) (gName c)) Wout D) D σ H) (tRet (tIf (tB (tIsN (tVar c))) (tVar i) (tCall (spErr cl) [] E (tCons (tVar c) tNil)))))
      (gTryRet i x c g) := fun {G H0 B Z0 O ρ s σ H} D F w => by
  have hO := fr_nil F
  unfold gTryRet at w
  split at w
  · rename_i hl
    obtain ⟨y, hy, k⟩ := wp_liftO (Wp.bind (x := getE c ρ) w)
    cases y with
    | non =>
      have hcv : ρ[c]? = some (some .non) := by
        cases q : ρ[c]? with
        | none => rw [q] at hy; cases hy
        | some z => rw [q] at hy; exact congrArg some hy
      obtain ⟨v0, hv0, r0⟩ := F.var c .non hcv (by rw [hO]; exact List.not_mem_nil)
      cases r0
      have k : Wp ((tryD (g ρ) >>= fun d => (pure (.rt d) : DM Fl)) s) (PostS cl.reg G H0 B Z0 D [] ob) (fun e s' => ∀ H', Ext G (wof G B) H0 H' → G.A s' H' → E (.ref (cl e)) none H') := k
      refine hb _ _ F ?_
      have k := Wp.bind (x := tryD (g ρ)) k
      unfold tryD at k
      cases q : g ρ s with
      | ok d s' =>
        rw [q] at k
        intro v H' e a r
        refine ⟨_, by rw [List.getElem?_set_ne hic]; exact hv0, true, rfl, ?_⟩
        simp only [↓reduceIte]
        refine ⟨_, List.getElem?_set_self (by rw [F.len]; exact hl.1), ?_⟩
        rw [hO] at r
        exact k v H' (F.wext e) a r
      | er er s' =>
        rw [q] at k
        intro H' e a
        refine ⟨rfl, true, T.em er, fun _ p hp => ?_, fun z => nomatch z⟩
        refine ⟨_, List.getElem?_set_self (by rw [F.len]; exact hl.2), ?_⟩
        refine err_ret F e a hp ?_ k
        rw [List.getElem?_set_ne hxc]
        have hcl : c < σ.length := (List.getElem?_eq_some_iff.mp hv0).1
        rw [List.getElem?_set_self (by rw [List.length_set]; exact hcl)]
      | no => rw [q] at k; exact k.elim
    | _ => exact k.elim
  · exact w.elim
end
/-! the facts of the classes -/
structure ErrA (K : PySem.W.Frag) (ce C : Addr) : Prop where
  hg : PySem.W.findIn K (.ref C) "__getattribute__" = some (some (.builtin "BaseException.__getattribute__"))
  hk : PySem.W.findIn K (.ref C) "__getattr__" = some none
  hd : PySem.W.hasDictIn K C = true
  ha : PySem.W.findIn K (.ref C) "__class__" = some (some (.builtin "object.__class__"))
  hm : PySem.W.mroIn K C (.type "object") = some true
  sc : PySem.W.subIn K (.ref C) (.ref ce) = some true
  sv : PySem.W.subIn K (.ref C) (.type "ValueError") = some true
  ss : PySem.W.subIn K (.ref C) (.ref C) = some true
/-- two classes of errors apart -/
theorem errS_mk {K : PySem.W.Frag} {mg : Str → Option Value} {x y : Str} {C C' : Addr} (_ : ExcAt K mg x C) (_ : ExcAt K mg y C') (h : PySem.W.subIn K (.ref C) (.ref C') = some false) (h' : PySem.W.subIn K (.ref C') (.ref C) = some false) : PySem.W.subIn K (.ref C) (.ref C') = some false ∧ PySem.W.subIn K (.ref C') (.ref C) = some false := ⟨h, h'⟩
structure ErrC (K : PySem.W.Frag) (mg : Str → Option Value) (ce : Addr) : Prop where
  g : mg "CheckError" = some (.ref ce)
  t : PySem.W.typeIn K (.ref ce) = some (.type "type")
  d : PySem.W.hasDictIn K ce = true
  b : PySem.W.subIn K (.ref ce) (.type "BaseException") = some true
  hn : PySem.W.specialIn K (.builtin "object.__class__") "__get__" = some (some (.builtin "getset_descriptor.__get__"))
  ht : PySem.W.takesIn K (.builtin "object.__class__") = some true
theorem errC_mk {K : PySem.W.Frag} {h : Heap} {mg : Str → Option Value} {ce : Addr} (X : K.In h) (G : h.Ns mainGlobals mg) (a : PySem.W.nsIn K mainGlobals "CheckError" = some (some (.ref ce)))
    (t : PySem.W.typeIn K (.ref ce) = some (.type "type")) (d : PySem.W.hasDictIn K ce = true) (b : PySem.W.subIn K (.ref ce) (.type "BaseException") = some true)
    (hn : PySem.W.specialIn K (.builtin "object.__class__") "__get__" = some (some (.builtin "getset_descriptor.__get__"))) (ht : PySem.W.takesIn K (.builtin "object.__class__") = some true) : ErrC K mg ce := ⟨PySem.W.mg_of X G a, t, d, b, hn, ht⟩
theorem errA_mk {K : PySem.W.Frag} {mg : Str → Option Value} {x : Str} {ce C : Addr} (_ : ExcAt K mg x C) (_ : ErrC K mg ce)
    (hg : PySem.W.findIn K (.ref C) "__getattribute__" = some (some (.builtin "BaseException.__getattribute__"))) (hk : PySem.W.findIn K (.ref C) "__getattr__" = some none) (hd : PySem.W.hasDictIn K C = true)
    (ha : PySem.W.findIn K (.ref C) "__class__" = some (some (.builtin "object.__class__"))) (hm : PySem.W.mroIn K C (.type "object") = some true) (sc : PySem.W.subIn K (.ref C) (.ref ce) = some true) (sv : PySem.W.subIn K (.ref C) (.type "ValueError") = some true) (ss : PySem.W.subIn K (.ref C) (.ref C) = some true) : ErrA K ce C := ⟨hg, hk, hd, ha, hm, sc, sv, ss⟩
theorem kit_ref {K : PySem.W.Frag} {t : Value} {C : Addr} {b : Bool} (hd : PySem.W.hasDictIn K C = true) (ht : PySem.W.typeIn K (.ref C) = some (.type "type")) (h : PySem.W.subIn K t (.ref C) = some b) : PySem.W.kitCls K t (.ref C) = some b := by
  obtain ⟨cd, hc, _⟩ := PySem.W.any_some hd
  have e2 : ((PySem.W.clsIn K C).isSome && PySem.W.typeIn K (.ref C) == some (.type "type")) = true := by rw [hc, ht] <;> rfl
  show (if ((PySem.W.clsIn K C).isSome && PySem.W.typeIn K (.ref C) == some (.type "type")) = true then PySem.W.subIn K t (.ref C) else none) = some b
  rw [if_pos e2]
  exact h
theorem errK_mk {K : PySem.W.Frag} {mg : Str → Option Value} {cl : Cl} {ce : Addr} (c : ExcAt K mg "BadCheck" (cl .chk)) (b : ExcAt K mg "BadBits" (cl .bits)) (n : ExcAt K mg "BadNumber" (cl .num)) (s : ExcAt K mg "BadSamples" (cl .smp)) (p : ExcAt K mg "BadPlaces" (cl .plc)) (t : ExcAt K mg "BadText" (cl .txt)) (f : ExcAt K mg "NotFound" (cl .nof))
    (E : ErrC K mg ce) (A : ∀ e, ErrA K ce (cl e)) (S : ∀ e e', e ≠ e' → PySem.W.subIn K (.ref (cl e)) (.ref (cl e')) = some false) : ErrK K mg cl ce := by
  have hx : ∀ e, ∃ x, ExcAt K mg x (cl e) := fun e => by cases e <;> exact ⟨_, by assumption⟩
  refine ⟨c.g, b.g, n.g, s.g, p.g, t.g, f.g, E.g, fun e => ?_, fun e e' => ?_, fun e => ?_, fun e => ?_, fun e => ?_⟩
  · obtain ⟨x, X⟩ := hx e
    exact ⟨(A e).hg, (A e).hk, X.b, (A e).hd, (A e).ha, E.hn, E.ht, (A e).hm⟩
  · obtain ⟨x, X⟩ := hx e'
    unfold PySem.W.kitOne
    by_cases z : e = e'
    · subst z
      rw [if_pos (beq_self_eq_true _), decide_eq_true rfl]
    · rw [decide_eq_false z]
      have hs := S e e' z
      rw [if_neg (fun q => ?_)]
      · exact kit_ref (A e').hd X.t hs
      · have q := eq_of_beq q
        rw [q, (A e').ss] at hs
        cases hs
  · unfold PySem.W.kitOne
    split
    · rfl
    · exact kit_ref E.d E.t (A e).sc
  · unfold PySem.W.kitOne
    rw [if_neg (fun q => by cases eq_of_beq q)]
    show (if PySem.W.kitMeta "ValueError" = true then PySem.W.subIn K (.ref (cl e)) (.type "ValueError") else none) = _
    rw [if_pos (by decide +kernel)]
    exact (A e).sv
  · exact PySem.W.exm_ref E.b E.d E.t (A e).sc
end DL
namespace DL
open PySem PySem.Spec PyProof.Rows L2
def gCallX (f : List D → DM D) (gl : Env → DM (List D)) : Env → DM D := fun ρ => noEr (gl ρ) >>= fun ds => f ds
section
variable {cl : Cl} {E : XK} {ob : List (Nat × Bool)} {K : PySem.W.Frag} {mg : Str → Option Value} {ce : Addr} {tl : TA} {gl : Env → DM (List D)}
theorem x_asg {n i : Nat} {f : List D → DM D} (hn : ∀ ρ s ds s', gl ρ s = .ok ds s' → ds.length = n) (h : EwA cl E0 [] tl true gl) : EvTry cl [] (some i) (fun W => tAsg (tCallS (spD cl n f) (WE W) tl) (gName i)) (gCallX f gl) := etry_asg h.1 hn
theorem s_tryRet {tb : WX → TS} {g : Env → DM D} {i c x : Nat} {Wout : WX} (T : ErrK K mg cl ce) (hb : EvTry cl [] (some i) tb g) (hic : i ≠ c) (hxc : x ≠ c) :
    EwS cl E [] [] ob (tSeq (fun D σ H => tb (wAd K (.ref ce) x (tAsg (tVar x) (gName c)) Wout D) D σ H) (tRet (tIf (tB (tIsN (tVar c))) (tVar i) (tCall (spErr cl) [] E (tCons (tVar c) tNil))))) (gTryRet i x c g) := ⟨es_tryRet T hb hic hxc⟩
end
end DL
namespace DL
open PySem PySem.Spec PyProof.Rows L2
theorem takesN {X : Cx} : Takes X (fun _ _ _ _ => False) := fun _ _ ⟨_, _, _, _, _, _, _, _, _, _, _, _, _, _, _, _, w⟩ => w.elim
end DL

namespace DL
open PySem PySem.Spec PyProof.Rows L2 PySem.W
/-! ### min of pairs of a number and a list of numbers -/
def isPr : D → Bool
  | .tup [.int _, .lst l] => (toInts l).isSome
  | _ => false
def ltD (x y : D) : Bool := dataLt (D.py x) (D.py y)
def minF (x : D) (xs : List D) : D := xs.foldl (fun a y => if ltD y a then y else a) x
def D.minP : List D → Option D
  | [.lst (x :: xs)] => guardO ((x :: xs).all isPr) (some (minF x xs))
  | _ => none
theorem pr_cases {d : D} (h : isPr d = true) : ∃ (i : Int) (l : List Int), d = .tup [.int i, .lst (l.map .int)] := by
  unfold isPr at h
  split at h
  · rename_i i l
    obtain ⟨ns, hn⟩ := Option.isSome_iff_exists.mp h
    exact ⟨i, ns, by rw [toInts_eq hn]⟩
  · cases h
theorem alike_ints : ∀ l m : List Int, alikeAll (l.map PyData.int) (m.map PyData.int) = true
  | [], _ => by simp [alikeAll]
  | _ :: _, [] => by simp [alikeAll]
  | a :: l, b :: m => by
    simp only [List.map_cons, alikeAll, alike, Bool.true_and]
    exact alike_ints l m
theorem py_pr (i : Int) (l : List Int) : D.py (.tup [.int i, .lst (l.map .int)]) = .tuple [.int i, .list (l.map PyData.int)] := by
  simp only [D.py, D.pyAll, pyAll_ints]
theorem alike_pr {d e : D} (h : isPr d = true) (k : isPr e = true) : alike (D.py d) (D.py e) = true := by
  obtain ⟨i, l, rfl⟩ := pr_cases h
  obtain ⟨j, m, rfl⟩ := pr_cases k
  rw [py_pr, py_pr]
  simp only [alike, alikeAll, alike_ints, Bool.and_true]
theorem py_inj {d e : D} (h : isPr d = true) (k : isPr e = true) (q : D.py d = D.py e) : d = e := by
  obtain ⟨i, l, rfl⟩ := pr_cases h
  obtain ⟨j, m, rfl⟩ := pr_cases k
  rw [py_pr, py_pr] at q
  injection q with q
  injection q with q1 q2
  injection q1 with q1
  injection q2 with q2 _
  injection q2 with q2
  have : l = m := (List.map_inj_right (fun a b h => PyData.int.inj h)).mp q2
  subst q1 this
  rfl
theorem fit_pr {d : D} (n : Nat) (h : isPr d = true) : D.fit (n + 2) d = true := by
  obtain ⟨i, l, rfl⟩ := pr_cases h
  simp only [D.fit, D.fitAll, fitAll_ints, Bool.and_true]
theorem fitAll_pr (n : Nat) : ∀ {l : List D}, l.all isPr = true → D.fitAll (n + 2) l = true
  | [], _ => by simp [D.fitAll]
  | x :: l, h => by
    rw [List.all_cons, Bool.and_eq_true] at h
    simp only [D.fitAll, Bool.and_eq_true]
    exact ⟨fit_pr n h.1, fitAll_pr n h.2⟩
theorem minF_mem (x : D) : ∀ (xs : List D) , minF x xs ∈ x :: xs := by
  intro xs
  unfold minF
  induction xs generalizing x with
  | nil => exact List.mem_cons_self
  | cons y r ih =>
    rw [List.foldl_cons]
    rcases List.mem_cons.mp (ih (if ltD y x then y else x)) with h | h
    · rw [h]
      split
      · exact List.mem_cons_of_mem _ List.mem_cons_self
      · exact List.mem_cons_self
    · exact List.mem_cons_of_mem _ (List.mem_cons_of_mem _ h)
theorem minF_py (x : D) : ∀ xs : List D, D.py (minF x xs) = minD (D.py x) (D.pyAll xs) := by
  intro xs
  unfold minF minD
  induction xs generalizing x with
  | nil => simp [D.pyAll]
  | cons y r ih =>
    simp only [D.pyAll, List.foldl_cons]
    rw [ih]
    congr 1
    unfold ltD
    split <;> rfl
theorem pyAll_mem : ∀ {l : List D} {p : PyData}, p ∈ D.pyAll l → ∃ d ∈ l, p = D.py d
  | [], p, h => by simp [D.pyAll] at h
  | d :: l, p, h => by
    simp only [D.pyAll, List.mem_cons] at h
    rcases h with rfl | h
    · exact ⟨d, List.mem_cons_self, rfl⟩
    · obtain ⟨e, he, rfl⟩ := pyAll_mem h
      exact ⟨e, List.mem_cons_of_mem _ he, rfl⟩
theorem vals_at : ∀ {xs : List V} {us : List Value} {i : Nat} {u : Value}, Vals xs us → us[i]? = some u → ∃ v, xs[i]? = some v ∧ RelV v u
  | _, _, i, _, .nil, h => by simp at h
  | _, _, 0, _, .cons r _, h => by simp at h; subst h; exact ⟨_, rfl, r⟩
  | _, _, i + 1, _, .cons _ rs, h => by
    obtain ⟨v, e, r⟩ := vals_at (i := i) rs (by simpa using h)
    exact ⟨v, by simpa using e, r⟩
section
variable {X : Cx}
theorem cd_minP (hc : X.calm = true) (hu : X.A.units + 64 < cLine) : CallR X (.builtin "min") (rDc D.minP) := by
  intro pins s σ H xs us Q I rx ⟨G, Z, ds, d, hz, r, hf, q⟩
  match ds, r, hf with
  | [.lst (y :: ys)], r, hf =>
    simp only [D.minP] at hf
    obtain ⟨hall, hf⟩ := guardO_some hf
    cases hf
    cases r with
    | cons r1 r2 =>
      cases r2
      obtain ⟨a, vs, rfl, na, ha, hr⟩ := rep_lst r1
      obtain ⟨its, rv, hl, _⟩ := I.list (SqL.of (K := X.K) ha)
      rw [Vals.ref1 rx]
      have fa := fitAll_pr 0 hall
      have hd : DpAll X.K H vs (D.pyAll (y :: ys)) := hr.dp 2 _ _ fa
      obtain ⟨as, hreads⟩ := Dp.readsAll I (D.pyAll (y :: ys)) vs its hd rv
      have mem : ∀ p ∈ D.pyAll (y :: ys), ∃ e ∈ y :: ys, p = D.py e := fun p hp => pyAll_mem hp
      have isp : ∀ e ∈ y :: ys, isPr e = true := fun e he => List.all_eq_true.mp hall e he
      have hdep : PyData.depthAll (D.pyAll (y :: ys)) ≤ 2 := D.depAll 2 _ fa
      have hal : AlikeAll (D.pyAll (y :: ys)) := ⟨fun p hp p' hp' => by
        obtain ⟨e, he, rfl⟩ := mem p hp
        obtain ⟨e', he', rfl⟩ := mem p' hp'
        exact alike_pr (isp e he) (isp e' he'), fun p hp z => by
        obtain ⟨e, he, rfl⟩ := mem p hp
        obtain ⟨i, l, rfl⟩ := pr_cases (isp e he)
        rw [py_pr] at z; cases z⟩
      have e0 : D.pyAll (y :: ys) = D.py y :: D.pyAll ys := by simp only [D.pyAll]
      rw [e0] at hreads hal hdep
      refine min_list_data (I.ok.hd hc) hl.isList hreads hal (by omega) fun i v h' tk bs hi hrd hk => ?_
      have J : L2.Inv X pins σ H { s with heap := h', toks := tk } := I.kept (t' := tk) hk
      obtain ⟨w, hw, rw'⟩ := vals_at (i := i) rv (by simpa using hi)
      obtain ⟨di, hdi, rdi⟩ := hr.get' hw
      have mdi : di ∈ y :: ys := List.mem_of_getElem? hdi
      obtain ⟨as2, hr2⟩ := Dp.reads J (D.py di) w v (rdi.dp 2 _ _ (fit_pr 0 (isp di mdi))) rw'
      rw [← minF_py] at hrd
      have hmm := minF_mem y ys
      have e1 : D.py di = D.py (minF y ys) := alike_unique _ _ _ _ _ (alike_pr (isp di mdi) (isp _ hmm)) hr2 hrd
      have e2 := py_inj (isp di mdi) (isp _ hmm) e1
      rw [e2] at rdi
      exact ⟨w, H, J, rw', q w H (Same.refl H) rdi⟩
end
/-! what comes first -/
def lexL : List Int → List Int → Bool
  | _, [] => false
  | [], _ :: _ => true
  | a :: l, b :: m => if a = b then lexL l m else decide (a < b)
theorem eqv_ints : ∀ l m : List Int, PyData.eqvAll (l.map PyData.int) (m.map PyData.int) = decide (l = m)
  | [], [] => by simp [PyData.eqvAll]
  | [], _ :: _ => by simp [PyData.eqvAll]
  | _ :: _, [] => by simp [PyData.eqvAll]
  | a :: l, b :: m => by
    simp only [List.map_cons, PyData.eqvAll, PyData.eqv, eqv_ints l m]
    by_cases h : a = b
    · subst h; by_cases h2 : l = m <;> simp [h2]
    · simp [h]
theorem lt_ints : ∀ l m : List Int, PyProof.Rows.lexLt itemOrd (keyToksAll (l.map PyData.int)) (keyToksAll (m.map PyData.int)) = lexL l m
  | [], [] => by simp only [List.map_nil, keyToksAll, lexL]; decide +kernel
  | [], b :: m => by
    simp only [List.map_nil, List.map_cons, keyToksAll, lexL]
    rw [lex_diff (by simp)]; rfl
  | a :: l, [] => by
    simp only [List.map_nil, List.map_cons, keyToksAll, lexL]
    rw [lex_diff (by simp)]; rfl
  | a :: l, b :: m => by
    rw [List.map_cons, List.map_cons]
    by_cases h : a = b
    · subst h
      rw [dataLt_all_yes (by simp [alike]) (by simp [PyData.eqv]), lt_ints l m]
      show _ = if a = a then lexL l m else _
      rw [if_pos rfl]
    · rw [dataLt_all_no (by simp [alike]) (by simp [PyData.eqv, h]), dataLt_int]
      show _ = if a = b then lexL l m else _
      rw [if_neg h]
theorem lt_pr (i j : Int) (l m : List Int) : ltD (.tup [.int i, .lst (l.map .int)]) (.tup [.int j, .lst (m.map .int)]) = if i = j then lexL l m else decide (i < j) := by
  unfold ltD
  rw [py_pr, py_pr, dataLt_tuple]
  by_cases h : i = j
  · subst h
    rw [if_pos rfl, dataLt_all_yes (by simp [alike]) (by simp [PyData.eqv])]
    by_cases h2 : l = m
    · subst h2
      have e : lexL l l = false := by
        rw [← lt_ints]; exact lex_irrefl _
      rw [e]; exact lex_irrefl _
    · rw [dataLt_all_no (by simp [alike, alike_ints]) (by simp [PyData.eqv, eqv_ints, h2]), dataLt_list, lt_ints]
  · rw [if_neg h, dataLt_all_no (by simp [alike]) (by simp [PyData.eqv, h]), dataLt_int]
end DL

namespace DL
open PySem PySem.Spec PyProof.Rows L2
/-! ### a def under another name -/
def DefAtA (K : PySem.W.Frag) (mg : Str → Option Value) (x y : Str) (st : Stmt) (ps : List Str) : Prop := ∃ f fd, Fun K y y st f fd ∧ mg x = some (.ref f) ∧ Binds K fd ps []
theorem defAtA_mk {K : PySem.W.Frag} {h : Heap} {mg : Str → Option Value} {x y : Str} {st : Stmt} {ps : List Str} {f : Addr} {od an : Option Addr} {sl : Array (Option Value)} {oc kV dc pm cd ct : Value} (X : K.In h) (G : h.Ns mainGlobals mg)
    (a : PySem.W.nsIn K mainGlobals x = some (some (.ref f))) (l : K.lookup f = some ⟨oc, od, .func (PySem.W.fnOf y y (defArgs st) (defBody st) (defScope st) .none kV dc pm an cd ct), sl⟩) (c : PySem.W.codeIn K cd y = true) (k : PySem.W.keepIn K (.ref f) = true)
    (hb : ∀ (kV doc pm : Value) (an : Option Addr) (cdv ct : Value) (us : List Value), us.length = ps.length → bindArgs (PySem.W.fnOf y y (defArgs st) (defBody st) (defScope st) .none kV doc pm an cdv ct) ⟨us, []⟩ = pure (ps.zip us)) : DefAtA K mg x y st ps :=
  have F := fun_mk (st := st) l c k
  ⟨f, _, F, PySem.W.mg_of X G a, F.binds hb⟩
section
variable {P : Program} {wd : World} {K : PySem.W.Frag} {mg : Str → Option Value} {base : Heap} {k : Nat} {x y : Str} {st : Stmt} {ps : List Str} {sp : Sp}
theorem ko_ofA (d : DefAtA K mg x y st ps) (h : ∀ f fd, Fun K y y st f fd → FnOk P wd K mg base (L2.CX P wd) k f fd ps sp) : KO P wd K mg base k x sp := by
  obtain ⟨f, fd, F, g, b⟩ := d
  exact ⟨f, fd, ps, g, F.kp, b, h f fd F⟩
end
/-! ### what is not reached -/
def tNoE : TE := fun _ _ _ => False
def tNoS : TS := fun _ _ _ => False
theorem pe_no {X : Cx} {e : Expr} : PE X e tNoE := ⟨fun _ _ _ _ _ _ h => h.elim⟩
theorem pss_no {X : Cx} {b : List Stmt} : PSs X b tNoS := ⟨fun _ _ _ _ _ _ h => h.elim⟩
def gNoE : Env → DM D := fun _ => stuck
def hNo : Env → DM Fl := fun _ => stuck
theorem v_no {cl : Cl} {E : XK} {os : List (Nat × Bool)} {b : Bool} : Ew cl E os tNoE b gNoE := ⟨fun _ _ w => w.elim⟩
theorem s_no {cl : Cl} {E : XK} {os os' ob : List (Nat × Bool)} : EwS cl E os os' ob tNoS hNo := ⟨fun _ _ w => w.elim⟩
/-! ### more bodies of a try -/
def gIfX (gt : Env → DM Bool) (ga gb : Env → DM D) : Env → DM D := fun ρ => noEr (gt ρ) >>= fun k => if k = true then ga ρ else gb ρ
section
variable {cl : Cl} {E : XK} {ob : List (Nat × Bool)} {K : PySem.W.Frag} {mg : Str → Option Value} {ce : Addr} {tl tl2 : TA} {gl gl2 : Env → DM (List D)} {tt : TT} {gt : Env → DM Bool}
theorem x_drop {n : Nat} {f : List D → DM D} (hn : cnt n gl) (h : EwA cl E0 [] tl true gl) : EvTry cl [] none (fun W => tDrop (tCallS (spD cl n f) (WE W) tl)) (gCallX f gl) := fun {G H0 B Z0 O ρ s σ H} W D F w => etry_call h.1 hn W (fun _ H' => D.nx σ H') F (w.mono (fun _ _ k v H' e a r => k v H' e a r) fun _ _ k => k)
theorem x_if {ta tb : WX → TS} {ga gb : Env → DM D} (ht : EwT cl E0 [] tt gt) (h1 : EvTry cl [] none ta ga) (h2 : EvTry cl [] none tb gb) : EvTry cl [] none (fun W => tIfS tt (ta W) (tb W)) (gIfX gt ga gb) := fun {G H0 B Z0 O ρ s σ H} W D F w => by
  have w1 := Wp.noEr (E' := fun _ _ => False) (Wp.bind (x := noEr (gt ρ)) w)
  refine ht.1 _ F (w1.mono (fun k s1 kk H1 e1 a1 => ?_) fun _ _ h => h.elim)
  have F1 := F.step e1 a1
  cases k with
  | true =>
    rw [if_pos rfl] at kk ⊢
    exact h1 W D F1 (kk.mono (fun d s2 k2 v H2 e2 a2 r2 => k2 v H2 (e1.trans e2) a2 r2) fun e s2 k2 H2 e2 a2 => k2 H2 (e1.trans e2) a2)
  | false =>
    rw [if_neg Bool.false_ne_true] at kk ⊢
    exact h2 W D F1 (kk.mono (fun d s2 k2 v H2 e2 a2 r2 => k2 v H2 (e1.trans e2) a2 r2) fun e s2 k2 H2 e2 a2 => k2 H2 (e1.trans e2) a2)
/-- found = f(..) if .. else g(..) -/
theorem x_asgIf {n m i : Nat} {f g : List D → DM D} (ht : EwT cl E0 [] tt gt) (hn : cnt n gl) (h : EwA cl E0 [] tl true gl) (hm : cnt m gl2) (h2 : EwA cl E0 [] tl2 true gl2) :
    EvTry cl [] (some i) (fun W => tAsg (tIf tt (tCallS (spD cl n f) (WE W) tl) (tCallS (spD cl m g) (WE W) tl2)) (gName i)) (gIfX gt (gCallX f gl) (gCallX g gl2)) := fun {G H0 B Z0 O ρ s σ H} W D F w => by
  have w1 := Wp.noEr (E' := fun _ _ => False) (Wp.bind (x := noEr (gt ρ)) w)
  refine ht.1 _ F (w1.mono (fun k s1 kk H1 e1 a1 => ?_) fun _ _ h => h.elim)
  have F1 := F.step e1 a1
  cases k with
  | true =>
    rw [if_pos rfl] at kk ⊢
    exact etry_call h.1 hn W _ F1 (kk.mono (fun d s2 k2 v H2 e2 a2 r2 => k2 v H2 (e1.trans e2) a2 r2) fun e s2 k2 H2 e2 a2 => k2 H2 (e1.trans e2) a2)
  | false =>
    rw [if_neg Bool.false_ne_true] at kk ⊢
    exact etry_call h2.1 hm W _ F1 (kk.mono (fun d s2 k2 v H2 e2 a2 r2 => k2 v H2 (e1.trans e2) a2 r2) fun e s2 k2 H2 e2 a2 => k2 H2 (e1.trans e2) a2)
/-- return "z" if caught is None else _law_error(caught) -/
def gTryC (x c : Nat) (z : Str) (g : Env → DM D) : Env → DM Fl := fun ρ => if x < ρ.length then getE c ρ >>= fun y => match y with | .non => tryD (g ρ >>= fun _ => pure (.str z)) >>= fun d => pure (.rt d) | _ => stuck else stuck
theorem s_tryC {tb : WX → TS} {g : Env → DM D} {c x : Nat} {z : Str} {Wout : WX} (T : ErrK K mg cl ce) (hb : EvTry cl [] none tb g) (hxc : x ≠ c) :
    EwS cl E [] [] ob (tSeq (fun D σ H => tb (wAd K (.ref ce) x (tAsg (tVar x) (gName c)) Wout D) D σ H) (tRet (tIf (tB (tIsN (tVar c))) (tC (.str z)) (tCall (spErr cl) [] E (tCons (tVar c) tNil)))))
      (gTryC x c z g) := ⟨fun {G H0 B Z0 O ρ s σ H} D F w => by
  have hO := fr_nil F
  unfold gTryC at w
  split at w
  · rename_i hl
    obtain ⟨y, hy, k⟩ := wp_liftO (Wp.bind (x := getE c ρ) w)
    cases y with
    | non =>
      have hcv : ρ[c]? = some (some .non) := by
        cases q : ρ[c]? with
        | none => rw [q] at hy; cases hy
        | some z => rw [q] at hy; exact congrArg some hy
      obtain ⟨v0, hv0, r0⟩ := F.var c .non hcv (by rw [hO]; exact List.not_mem_nil)
      cases r0
      have k : Wp ((tryD (g ρ >>= fun _ => pure (.str z)) >>= fun d => (pure (.rt d) : DM Fl)) s) (PostS cl.reg G H0 B Z0 D [] ob) (fun e s' => ∀ H', Ext G (wof G B) H0 H' → G.A s' H' → E (.ref (cl e)) none H') := k
      refine hb _ _ F ?_
      have k := Wp.bind (x := tryD (g ρ >>= fun _ => pure (.str z))) k
      unfold tryD at k
      rw [bind_def] at k
      cases q : g ρ s with
      | ok d s' =>
        rw [q] at k
        intro v H' e a r
        refine ⟨_, hv0, true, rfl, ?_⟩
        simp only [↓reduceIte]
        exact k _ H' (F.wext e) a (.str _)
      | er er s' =>
        rw [q] at k
        intro H' e a
        refine ⟨rfl, true, T.em er, fun _ p hp => ?_, fun z => nomatch z⟩
        refine ⟨_, List.getElem?_set_self (by rw [F.len]; exact hl), ?_⟩
        refine err_ret F e a hp ?_ k
        rw [List.getElem?_set_ne hxc]
        have hcl : c < σ.length := (List.getElem?_eq_some_iff.mp hv0).1
        rw [List.getElem?_set_self (by rw [List.length_set]; exact hcl)]
      | no => rw [q] at k; exact k.elim
    | _ => exact k.elim
  · exact w.elim⟩
end
/-! ### a class whose __init__ raises here -/
/-- an __init__ that raises -/
def spIniX (cl : Cl) (n : Nat) (f : List D → DM D) : Sp := fun vs H _ E => vs.length = n + 1 ∧ ∃ (a : Addr) (rest : List V) (G : Rg) (Z : List Addr) (ds : List D) (s : DSt), vs = .ref a :: rest ∧ dom G Z H ∧ (∀ a ∈ G.Y, a ∈ Z) ∧ (G.C = cl.reg ∧ ∀ a ∈ G.P, a ∉ Z) ∧ G.A s H ∧ RepAll G Z H rest ds ∧
  Wp (f ds s) (fun _ _ => False) (fun e s' => ∀ H', Ext G G.Y H H' → G.A s' H' → E (.ref (cl e)) none H')
/-- a class of the text, made by its __init__ -/
def KM (P : Program) (wd : World) (K : PySem.W.Frag) (mg : Str → Option Value) (base : Heap) (k : Nat) (x : Str) (C : Addr) (sp : Sp) : Prop :=
  ∃ f fd ps, mg x = some (.ref C) ∧ Mk K C f ∧ Binds K fd ps [] ∧ FnOk P wd K mg base (L2.CX P wd) k f fd ps sp
section
variable {X : Cx} {k : Nat} {x : Str} {sp : Sp} {C : Addr} {E : XK} {p pos : Pos} {e : Expr} {es : List Expr} {t : TA}
theorem pe_mkD (h : KM X.prog X.w X.K X.mg X.base k x C sp) (hr : Room (k + 1) X.A) (hg : Gl X x) (hx : Passes (L2.CX X.prog X.w) X E) (ha : PA X (e :: es) t)
    (hdb : (x == ("__debug__" : Str)) = false := by decide) (he : starEach (e :: es) X.env = (false, eval e X.env) :: starEach es X.env := by rfl) (hpl : (backTo pos (starEach es X.env)).any (·.1) = false := by rfl) :
    PE X (.Call (.Name x p) (e :: es) [] pos) (tMake C sp [] E t) := by
  obtain ⟨f, fd, ps, g, M, b, F⟩ := h
  exact pe_make M F hr hg g b .nil hx ha hdb he hpl
end
def gMkX (f : List D → DM D) (gl : Env → DM (List D)) : Env → DM D := fun ρ => gl ρ >>= fun ds => f ds >>= fun _ => stuck
section
variable {cl : Cl} {E : XK} {os : List (Nat × Bool)} {b : Bool} {tl : TA} {gl : Env → DM (List D)} {C : Addr}
theorem v_mkX {n : Nat} {f : List D → DM D} (hn : cnt n gl) (h : EwA cl E os tl b gl) : Ew cl E os (tMake C (spIniX cl n f) [] E tl) b (gMkX f gl) := ⟨fun {G H0 B Z0 O ρ s σ H} Q F w => by
  have w2 : Wp (gl ρ s) (fun ds s' => ds.length = n ∧ Wp (f ds s') (fun _ _ => False) (fun e s' => ∀ H', Ext G G.Y H H' → G.A s' H' → E (.ref (cl e)) none H')) (fun e s' => ∀ H', Ext G G.Y H H' → G.A s' H' → E (.ref (cl e)) none H') := by
    have w1 := w.bind
    cases q : gl ρ s with
    | ok ds s' =>
      rw [q] at w1
      refine ⟨hn _ _ _ _ q, (Wp.bind (x := f ds) w1).mono (fun _ _ k => k) fun _ _ k => k⟩
    | er e s' => rw [q] at w1; exact w1
    | no => rw [q] at w1; exact w1
  refine h.1 _ F (w2.mono (fun ds s1 ⟨hl, k⟩ vs H1 e1 a1 r1 x dx hx hdx ne => ?_) fun _ _ k => k)
  have F1 := F.step e1 a1
  have sm : Same H1 (upd (upd H1 dx (.own x)) x (.ins C dx [])) := (same_new hdx).trans (same_new (by rw [upd_ne (Ne.symm ne)]; exact hx))
  have a2 := F1.same sm
  have F2 := F1.step (Same.ext sm) a2
  refine ⟨by rw [List.append_nil, List.length_cons, r1.length, hl], x, vs, G, bz b O Z0, ds, s1, by rw [List.append_nil], F2.domb, F2.ysb, ⟨F2.cc, F2.psb⟩, a2, r1.same sm, ?_⟩
  exact k.mono (fun _ _ h => h) fun e s2 k2 H2 e2 a2 => k2 H2 ((e1.trans (Same.ext sm)).trans e2) a2⟩
end
/-- Register.__init__, where check_check raises -/
def tsIniX (cl : Cl) (E : XK) (f : List D → DM D) : TS := tSeq (tDrop (tCall (spD cl 1 f) [] E (tCons (tVar 1) tNil))) tNoS
theorem walk_iniX {cl : Cl} {E : XK} {f : List D → DM D} {N : List Str} {vs : List V} {H : Hp} {D : Ends} {Q : VK} (h : spIniX cl 1 (fun ds => f ds) vs H Q E) : tsIniX cl E f D (L2.start N vs) H := by
  obtain ⟨hl, a, rest, G, Z, ds, s, rfl, hz, hy, hc, ha, hr, w⟩ := h
  cases hr with
  | nil => cases hl
  | @cons v vs d ds r1 r2 =>
    cases r2 with
    | cons => cases hl
    | nil =>
      refine ⟨v, rfl, rfl, G, Z, [d], s, hz, hy, hc, ha, .cons r1 .nil, ?_⟩
      exact w.mono (fun _ _ h => h.elim) fun e s2 k2 => k2
/-- what the top has left of a class -/
structure ClsAt (K : PySem.W.Frag) (mg : Str → Option Value) (x : Str) (C : Addr) (qi : Str) (st : Stmt) (ps : List Str) : Prop where
  g : mg x = some (.ref C)
  i : ∃ f fd, Mk K C f ∧ Fun K "__init__" qi st f fd ∧ Binds K fd ps []
theorem clsAt_mk {K : PySem.W.Frag} {h : Heap} {mg : Str → Option Value} {x qi : Str} {C f : Addr} {st : Stmt} {ps : List Str} {od an : Option Addr} {sl : Array (Option Value)} {oc kV dc pm cd ct : Value} (X : K.In h) (G : h.Ns mainGlobals mg)
    (a : PySem.W.nsIn K mainGlobals x = some (some (.ref C))) (mk : PySem.W.makesIn K C = true) (kc : PySem.W.keepIn K (.ref C) = true)
    (a1 : PySem.W.findIn K (.ref C) "__init__" = some (some (.ref f))) (i1 : PySem.W.isFn K (.ref f) = true) (l : K.lookup f = some ⟨oc, od, .func (PySem.W.fnOf "__init__" qi (defArgs st) (defBody st) (defScope st) .none kV dc pm an cd ct), sl⟩) (c : PySem.W.codeIn K cd qi = true) (k : PySem.W.keepIn K (.ref f) = true)
    (hb : ∀ (kV doc pm : Value) (an : Option Addr) (cdv ct : Value) (us : List Value), us.length = ps.length → bindArgs (PySem.W.fnOf "__init__" qi (defArgs st) (defBody st) (defScope st) .none kV doc pm an cdv ct) ⟨us, []⟩ = pure (ps.zip us)) : ClsAt K mg x C qi st ps :=
  have F := fun_mk (st := st) l c k
  ⟨PySem.W.mg_of X G a, f, _, ⟨mk, a1, i1, kc⟩, F, F.binds hb⟩
def cls_of {K : PySem.W.Frag} {mg : Str → Option Value} {x qi : Str} {C : Addr} {st : Stmt} {ps : List Str} (_ : ClsAt K mg x C qi st ps) : Addr := C
end DL

namespace DL
open PySem PySem.Spec PyProof.Rows L2
/-! ### len of an instance with an own __len__ -/
section
variable {prog : Program} {w : World} {A : Around} {E : Value → Shared → Prop} {s : Shared} {K : PySem.W.Frag} {x C f : Addr} {ox : Obj} {odd : Option Obj}
theorem len_own {Q : Value → Shared → Prop} (X : K.In s.heap) (I : PySem.W.InstAt s.heap x ox C odd) (hs : PySem.W.findIn K (.ref C) "__len__" = some (some (.ref f))) (hf : PySem.W.isFn K (.ref f) = true)
    (h : wpAny (model prog w) A.in1 (call (.ref f) [.ref x]) (fun r s₁ => ∃ (n : Nat) (u : Tok), r = Value.int n u ∧ (n : Int) < 2 ^ 63 ∧ Q (.int n (s₁.toks)) { s₁ with toks := s₁.toks + 1 }) E s) : wpAny (model prog w) A (call (.builtin "len") [.ref x]) Q E s := by
  refine Calls.call_function_entry kind_len plain_len entry_len (args_len1 _) ?_
  unfold Builtin.«len»
  refine wpAny_bind (m := oneArg "len" _) (wpAny_pure ?_)
  refine wpAny_bind (m := callSpecial? (.ref x) (PySem.Str.ofString "__len__")) (PySem.W.special_fn X I hs (beq_iff_eq.mp hf) (wpAny_mono h (fun r s' hr => ?_) fun _ _ y => y))
  obtain ⟨n, u, rfl, hn, hq⟩ := hr
  refine wpAny_bind (wpAny_holding (wpAny_pure ?_))
  refine wpAny_bind (wpAny_letGo ?_)
  show wpAny _ _ (if ((n : Nat) : Int) < 0 then _ else _) _ _ _
  rw [if_neg (by omega)]
  show wpAny _ _ (if ((n : Nat) : Int) ≥ 2 ^ 63 then _ else _) _ _ _
  rw [if_neg (by omega)]
  exact wpAny_bind (wpAny_mkInt (wpAny_pure ⟨_, rfl, hq⟩))
end
/-- a method of the class at C -/
def KMt (P : Program) (wd : World) (K : PySem.W.Frag) (mg : Str → Option Value) (base : Heap) (k : Nat) (C : Addr) (m : Str) (sp : Sp) : Prop :=
  ∃ f fd ps, Meth K C m f ∧ Binds K fd ps [] ∧ FnOk P wd K mg base (L2.CX P wd) k f fd ps sp
section
variable {X : Cx} {C : Addr} {k : Nat} {m : Str} {sp : Sp} {E : XK}
theorem call_lenO (h : KMt X.prog X.w X.K X.mg X.base k C "__len__" sp) (hr : Room (k + 1) X.A) (hx : Passes (L2.CX X.prog X.w) X E) :
    CallR X (.builtin "len") (fun xs H Q => ∃ a dx fs, xs = [.ref a] ∧ H a = some (.ins C dx fs) ∧ sp [.ref a] H (fun z H' => ∃ n : Nat, z = .int n ∧ (n : Int) < 2 ^ 63 ∧ Q (.int n) H') E) := by
  obtain ⟨f, fd, ps, M, b, F⟩ := h
  intro pins s σ H xs us Q I r h
  obtain ⟨a, dx, fs, rfl, ha, q⟩ := h
  obtain ⟨u, rfl, ru⟩ := vals1 r
  obtain rfl : u = Value.ref a := ru
  obtain ⟨mA, O, _⟩ := ins_get I.hok ha
  obtain ⟨od, J, _⟩ := O.look
  have hq : (sp [.ref a] H (fun z H' => ∃ n : Nat, z = .int n ∧ (n : Int) < 2 ^ 63 ∧ Q (.int n) H') E) := q
  have hl : ([Value.ref a] : List Value).length = ps.length := by rw [← F.len _ _ _ _ hq]; rfl
  have bb := b s [.ref a] I.kIn (by rw [List.append_nil]; exact hl)
  rw [List.append_nil] at bb
  have hr1 : Room k X.A.in1 := hr.in1
  refine len_own I.kIn J M.at_ M.fn (wpAny_call (codeAny_mono (F.run X.A.in1 X.stack s H ⟨[.ref a], []⟩ [.ref a] [.ref a] _ E hr1 I.env0.in1 bb (.cons rfl .nil) hq) fun r s' hq' => ?_))
  cases r with
  | error e => exact hx pins σ H s e s' I hq'
  | ok fl =>
    cases fl with
    | ret u =>
      obtain ⟨z, H', I', rz, n, ez, hn, qz⟩ := I.after hq'
      subst ez
      obtain ⟨t, e⟩ := (show ∃ t, u = Value.int (n : Int) t from rz)
      subst e
      exact ⟨n, t, rfl, hn, .int n, H', I'.tok _, ⟨_, rfl⟩, qz⟩
    | next => exact False.elim hq'
    | brk => exact False.elim hq'
    | cont => exact False.elim hq'
end
end DL

namespace DL
open PySem PySem.Spec PyProof.Rows L2
/-! ### the register's object -/
structure RegT (K : PySem.W.Frag) (C : Addr) : Prop where
  cl : Cls K C
  nC : NoAttr K C "check"
  nN : NoAttr K C "now"
  nR : NoAttr K C "row"
abbrev fl3 (a b d : V) : List (Str × V) := [("check", a), ("now", b), ("row", d)]
theorem sne1 : ¬ (("check" : Str) = "now") := by decide +kernel
theorem sne2 : ¬ (("check" : Str) = "row") := by decide +kernel
theorem sne3 : ¬ (("now" : Str) = "row") := by decide +kernel
theorem put_now (a b d v : V) : putF "now" v (fl3 a b d) = fl3 a v d := by
  show (if ("check" : Str) = "now" then _ else (("check" : Str), a) :: (if ("now" : Str) = "now" then [(("now" : Str), v), ("row", d)] else _)) = _
  rw [if_neg sne1, if_pos rfl]
theorem put_row (a b d v : V) : putF "row" v (fl3 a b d) = fl3 a b v := by
  show (if ("check" : Str) = "row" then _ else (("check" : Str), a) :: (if ("now" : Str) = "row" then _ else (("now" : Str), b) :: (if ("row" : Str) = "row" then [(("row" : Str), v)] else _))) = _
  rw [if_neg sne2, if_neg sne3, if_pos rfl]
theorem put_c1 (a v : V) : putF "now" v [(("check" : Str), a)] = ([(("check" : Str), a), (("now" : Str), v)] : List (Str × V)) := by
  show (if ("check" : Str) = "now" then _ else (("check" : Str), a) :: [(("now" : Str), v)]) = _
  rw [if_neg sne1]
theorem put_c2 (a b v : V) : putF "row" v [(("check" : Str), a), ("now", b)] = fl3 a b v := by
  show (if ("check" : Str) = "row" then _ else (("check" : Str), a) :: (if ("now" : Str) = "row" then _ else (("now" : Str), b) :: [(("row" : Str), v)])) = _
  rw [if_neg sne2, if_neg sne3]
theorem lkp {f g : Str} {v : V} {r : List (Str × V)} : ((f, v) :: r).lookup g = if g = f then some v else r.lookup g := by
  by_cases h : g = f
  · subst h; rw [if_pos rfl]; simp [List.lookup]
  · rw [if_neg h]
    have : (g == f) = false := beq_eq_false_iff_ne.mpr h
    simp [List.lookup, this]
theorem lk_check (a b d : V) : (fl3 a b d).lookup ("check" : Str) = some a := by rw [lkp, if_pos rfl]
theorem lk_now (a b d : V) : (fl3 a b d).lookup ("now" : Str) = some b := by rw [lkp, if_neg (Ne.symm sne1), lkp, if_pos rfl]
theorem lk_row (a b d : V) : (fl3 a b d).lookup ("row" : Str) = some d := by rw [lkp, if_neg (Ne.symm sne2), lkp, if_neg (Ne.symm sne3), lkp, if_pos rfl]
def notF (m : Str) : Prop := ¬ (m = "check") ∧ ¬ (m = "now") ∧ ¬ (m = "row")
theorem lk_no {m : Str} (h : notF m) (a b d : V) : (fl3 a b d).lookup m = none := by rw [lkp, if_neg h.1, lkp, if_neg h.2.1, lkp, if_neg h.2.2]; rfl
theorem notF_feed : notF "feed" := by unfold notF; decide +kernel
theorem notF_back : notF "back" := by unfold notF; decide +kernel
theorem notF_set_register : notF "set_register" := by unfold notF; decide +kernel
theorem notF_value : notF "value" := by unfold notF; decide +kernel
theorem notF_check_value : notF "check_value" := by unfold notF; decide +kernel
theorem notF_would : notF "would" := by unfold notF; decide +kernel
/-- what is known of it where a frame stands -/
structure Obj1 (G : Rg) (κ : Addr) (s : DSt) (H : Hp) (x dx c l : Addr) : Prop where
  xy : x ∈ G.Y
  cp : c ∈ G.P
  hx : H x = some (regO κ dx c l s.rn)
  hl : H l = some (.lst (s.rr.map V.int))
  ly : l ∉ G.Y
  lp : l ∉ G.P
  hc : H c = some (.tup (s.rc.map V.int))
  rI : ∀ (H' : Hp) (l' : Addr) (n : Int), H' x = some (regO κ dx c l' n) → ∀ a, G.R H' a ↔ a = l'
  up : ∀ (H' : Hp) (n : Int) (l' : Addr) (rr : List Int), (∀ a, a ≠ x → ¬ G.R H a → a ∈ G.Y ∨ a ∈ G.P → H' a = H a) → H' x = some (regO κ dx c l' n) → H' l' = some (.lst (rr.map V.int)) → l' ∉ G.Y → l' ∉ G.P → G.A { s with rn := n, rr := rr } H'
section
variable {κ : Addr} {G : Rg} {H0 : Hp} {B : List (Nat × Addr)} {Z0 : List Addr} {O : List Own} {os : List (Nat × Bool)} {ρ : Env} {s : DSt} {σ : L2.St} {H : Hp}
theorem obj_of {v : V} (hv : G.hv 1 = some v) (ha : G.A s H) : ∃ x dx c l, v = .ref x ∧ Obj1 G G.C s H x dx c l := by
  obtain ⟨x, dx, c, rfl, hx, hc, hR, hA⟩ := G.ob v hv
  obtain ⟨⟨l, h1, h2, h3, h4⟩, h5, h6⟩ := hA s H ha
  exact ⟨x, dx, c, l, rfl, hx, hc, h1, h2, h3, h4, h5, hR, h6⟩
theorem Fr.obj {i : Nat} (F : Fr κ G H0 B Z0 O os ρ s σ H) (h : ρ[i]? = some (some (.hd 1))) (hn : (os.map (·.1)).contains i = false) : ∃ x dx c l, σ[i]? = some (some (.ref x)) ∧ G.hv 1 = some (.ref x) ∧ Obj1 G κ s H x dx c l := by
  obtain ⟨v, e1, r⟩ := F.var i _ h (not_own F hn)
  cases r with
  | hd hv =>
    obtain ⟨x, dx, c, l, rfl, o⟩ := obj_of hv F.st
    rw [F.cc] at o
    exact ⟨x, dx, c, l, e1, hv, o⟩
theorem Obj1.nr {x dx c l : Addr} (o : Obj1 G κ s H x dx c l) (a : Addr) : G.R H a ↔ a = l := o.rI H l s.rn o.hx a
theorem Obj1.xl {x dx c l : Addr} (o : Obj1 G κ s H x dx c l) : x ≠ l := fun e => o.ly (e ▸ o.xy)
theorem Obj1.cl {x dx c l : Addr} (o : Obj1 G κ s H x dx c l) : c ≠ l := fun e => o.lp (e ▸ o.cp)
/-- the number is set -/
theorem Obj1.setN {x dx c l : Addr} (o : Obj1 G κ s H x dx c l) (n : Int) : Ext G G.Y H (upd H x (regO κ dx c l n)) ∧ G.A { s with rn := n } (upd H x (regO κ dx c l n)) := by
  have hx : upd H x (regO κ dx c l n) x = some (regO κ dx c l n) := upd_same
  refine ⟨⟨fun a u na e => ?_, fun a r => .inl ((o.nr a).mpr ((o.rI _ l n hx a).mp r)), fun a h => upd_some h⟩, ?_⟩
  · rw [upd_ne (fun z => na.1 (by rw [z]; exact o.xy))]; exact e
  · refine o.up _ n l s.rr (fun a h1 _ _ => upd_ne h1) hx ?_ o.ly o.lp
    rw [upd_ne (Ne.symm o.xl)]; exact o.hl
/-- the list grows in its place -/
theorem Obj1.grow {x dx c l : Addr} (o : Obj1 G κ s H x dx c l) (rr : List Int) : Ext G G.Y H (upd (upd H l (.lst (rr.map V.int))) x (regO κ dx c l s.rn)) ∧ G.A { s with rr := rr } (upd (upd H l (.lst (rr.map V.int))) x (regO κ dx c l s.rn)) := by
  have hx : upd (upd H l (.lst (rr.map V.int))) x (regO κ dx c l s.rn) x = some (regO κ dx c l s.rn) := upd_same
  refine ⟨⟨fun a u na e => ?_, fun a r => .inl ((o.nr a).mpr ((o.rI _ l _ hx a).mp r)), fun a h => upd_some (upd_some h)⟩, ?_⟩
  · rw [upd_ne (fun z => na.1 (by rw [z]; exact o.xy)), upd_ne (fun z => na.2 ((o.nr a).mpr z))]; exact e
  · refine o.up _ s.rn l rr (fun a h1 h2 _ => ?_) hx ?_ o.ly o.lp
    · rw [upd_ne h1, upd_ne (fun z => h2 ((o.nr a).mpr z))]
    · rw [upd_ne (Ne.symm o.xl), upd_same]
/-- a new list in its place -/
theorem Obj1.anew {x dx c l p : Addr} (o : Obj1 G κ s H x dx c l) (ha : G.A s H) (hp : H p = none) (rr : List Int) : Ext G G.Y H (upd (upd H p (.lst (rr.map V.int))) x (regO κ dx c p s.rn)) ∧ G.A { s with rr := rr } (upd (upd H p (.lst (rr.map V.int))) x (regO κ dx c p s.rn)) := by
  have hx : upd (upd H p (.lst (rr.map V.int))) x (regO κ dx c p s.rn) x = some (regO κ dx c p s.rn) := upd_same
  have px : p ≠ x := fun z => by rw [z, o.hx] at hp; cases hp
  refine ⟨⟨fun a u na e => ?_, fun a r => .inr (by rw [(o.rI _ p _ hx a).mp r]; exact hp), fun a h => upd_some (upd_some h)⟩, ?_⟩
  · rw [upd_ne (fun z => na.1 (by rw [z]; exact o.xy)), upd_ne (fun z => by rw [z, hp] at e; cases e)]; exact e
  · refine o.up _ s.rn p rr (fun a h1 h2 h3 => ?_) hx ?_ (fun z => G.inY s H ha p (.inl z) hp) (fun z => G.inY s H ha p (.inr (.inl z)) hp)
    · rw [upd_ne h1, upd_ne (fun z => by
        rw [z] at h3
        exact G.inY s H ha p (h3.elim .inl fun h => .inr (.inl h)) hp)]
    · rw [upd_ne px, upd_same]
end
/-! the words -/
def isH : D → DM Unit
  | .hd 1 => pure ()
  | _ => stuck
def gSelf (i : Nat) : Env → DM Unit := fun ρ => getE i ρ >>= isH
def gNow (i : Nat) : Env → DM D := fun ρ => gSelf i ρ >>= fun _ => fun s => .ok (.int s.rn) s
def gChk (i : Nat) : Env → DM D := fun ρ => gSelf i ρ >>= fun _ => fun s => .ok (.tup (s.rc.map .int)) s
def gLenRow (i : Nat) : Env → DM D := fun ρ => gSelf i ρ >>= fun _ => fun s => .ok (.int (s.rr.length : Int)) s
def hNow (i : Nat) (ge : Env → DM D) : Env → DM Fl := fun ρ => ge ρ >>= toI >>= fun n => gSelf i ρ >>= fun _ => fun s => .ok (.nx ρ) { s with rn := n }
def hRowAdd (i j : Nat) : Env → DM Fl := fun ρ => gSelf i ρ >>= fun _ => getE j ρ >>= itemsL >>= fun ds => liftO (toInts ds) >>= fun ns => fun s => if s.rr.length + ns.length ≤ LIM then .ok (.nx ρ) { s with rr := s.rr ++ ns } else .no
def hRowCut (i j : Nat) : Env → DM Fl := fun ρ => gSelf i ρ >>= fun _ => getE j ρ >>= itemsL >>= fun ds => fun s => if ds.length ≤ s.rr.length ∧ s.rr.length ≤ LIM then .ok (.nx ρ) { s with rr := s.rr.take (s.rr.length - ds.length) } else .no
def gMeth (f : List D → DM D) (i : Nat) (gl : Env → DM (List D)) : Env → DM D := fun ρ => gSelf i ρ >>= fun _ => gl ρ >>= fun ds => f (.hd 1 :: ds)
def gMethX (f : List D → DM D) (i : Nat) (gl : Env → DM (List D)) : Env → DM D := fun ρ => gSelf i ρ >>= fun _ => noEr (gl ρ) >>= fun ds => f (.hd 1 :: ds)
def gLenO (f : List D → DM D) (i : Nat) : Env → DM D := fun ρ => gSelf i ρ >>= fun _ => f [.hd 1] >>= toI >>= fun n => if 0 ≤ n ∧ n < 2 ^ 60 then pure (.int n) else stuck
theorem wp_self {i : Nat} {ρ : Env} {s : DSt} {α : Type} {f : Unit → DM α} {Q : α → DSt → Prop} {E : Er → DSt → Prop} (h : Wp ((gSelf i ρ >>= f) s) Q E) : ρ[i]? = some (some (.hd 1)) ∧ Wp (f () s) Q E := by
  unfold gSelf at h
  obtain ⟨d, e, k⟩ := wp_liftO (Wp.bind (x := liftO (ρ[i]?.bind id)) (Wp.bind (x := getE i ρ >>= isH) h))
  have hd : ρ[i]? = some (some d) := by
    cases q : ρ[i]? with
    | none => rw [q] at e; cases e
    | some x => rw [q] at e; exact congrArg some e
  unfold isH at k
  split at k
  · exact ⟨hd, k⟩
  · exact k.elim
section
variable {cl : Cl} {E : XK} {os os' ob : List (Nat × Bool)} {b : Bool} {K : PySem.W.Frag} {te : TE} {ge : Env → DM D} {tl : TA} {gl : Env → DM (List D)}
theorem v_now {i : Nat} (T : RegT K cl.reg) (hn : (os.map (·.1)).contains i = false) : Ew cl E os (tFld K (tVar i) "now") b (gNow i) := ⟨fun {G H0 B Z0 O ρ s σ H} Q F w => by
  obtain ⟨h, k⟩ := wp_self w
  obtain ⟨x, dx, c, l, e1, _, o⟩ := F.obj h hn
  exact ⟨_, e1, x, cl.reg, dx, _, .int s.rn, rfl, o.hx, T.cl, T.nN, lk_now _ _ _, k _ H (Ext.refl _ _) F.st (.int _)⟩⟩
theorem v_chk {i : Nat} (T : RegT K cl.reg) (hn : (os.map (·.1)).contains i = false) : Ew cl E os (tFld K (tVar i) "check") b (gChk i) := ⟨fun {G H0 B Z0 O ρ s σ H} Q F w => by
  obtain ⟨h, k⟩ := wp_self w
  obtain ⟨x, dx, c, l, e1, _, o⟩ := F.obj h hn
  exact ⟨_, e1, x, cl.reg, dx, _, .ref c, rfl, o.hx, T.cl, T.nC, lk_check _ _ _, k _ H (Ext.refl _ _) F.st (.tup ⟨F.psb _ o.cp, fun r => o.cl ((o.nr c).mp r)⟩ o.hc (RepAll.of_ints _))⟩⟩
def rLenQ (K : PySem.W.Frag) : List V → Hp → VK → Prop := fun xs H Q => ∃ p ys, xs = [.ref p] ∧ (SqL K H p ys ∨ SqT K H p ys) ∧ Q (.int ys.length) H
theorem call_lenQ {X : Cx} : CallR X (.builtin "len") (rLenQ X.K) := call_len_seq
theorem v_lenRow {i : Nat} (T : RegT K cl.reg) (hn : (os.map (·.1)).contains i = false) : Ew cl E os (tCB (rLenQ K) (tCons (tFld K (tVar i) "row") tNil)) b (gLenRow i) := ⟨fun {G H0 B Z0 O ρ s σ H} Q F w => by
  obtain ⟨h, k⟩ := wp_self w
  obtain ⟨x, dx, c, l, e1, _, o⟩ := F.obj h hn
  refine ⟨_, e1, x, cl.reg, dx, _, .ref l, rfl, o.hx, T.cl, T.nR, lk_row _ _ _, l, _, rfl, .inl (SqL.of o.hl), ?_⟩
  rw [List.length_map]
  exact k _ H (Ext.refl _ _) F.st (.int _)⟩
theorem s_nowS {i : Nat} (T : RegT K cl.reg) (hn : (os.map (·.1)).contains i = false) (h : Ew cl E os te true ge) : EwS cl E os os ob (sFld K (tVar i) te "now") (hNow i ge) := ⟨fun {G H0 B Z0 O ρ s σ H} D F w => by
  refine h.1 _ F ((Wp.bind (x := ge ρ) (Wp.bind (x := ge ρ >>= toI) w)).mono (fun d s1 k v H1 e a r => ?_) fun _ _ k H' e a => k H' (F.wext e) a)
  obtain ⟨n, rfl, k⟩ := wp_toI k
  cases r
  have F1 := F.step e a
  obtain ⟨h, k⟩ := wp_self k
  obtain ⟨x, dx, c, l, e1, _, o⟩ := F1.obj h hn
  refine ⟨_, e1, x, cl.reg, dx, _, rfl, o.hx, T.cl, T.nN, (by show 3 < 1000; decide), ?_⟩
  have sn := o.setN n
  show D.nx σ (upd H1 x (.ins cl.reg dx (putF "now" (.int n) (fl3 (.ref c) (.int s1.rn) (.ref l)))))
  rw [put_now]
  exact k _ _ _ (F1.step sn.1 sn.2)⟩
theorem s_rowAdd {i j : Nat} (T : RegT K cl.reg) (hn : (os.map (·.1)).contains i = false) (hj : (os.map (·.1)).contains j = false) : EwS cl E os os ob (sFldAug K (tVar i) (tVar j) rExt2 "row") (hRowAdd i j) := ⟨fun {G H0 B Z0 O ρ s σ H} D F w => by
  obtain ⟨h, k⟩ := wp_self w
  obtain ⟨x, dx, c, l, e1, _, o⟩ := F.obj h hn
  obtain ⟨d, e, k⟩ := wp_liftO (Wp.bind (x := liftO (ρ[j]?.bind id)) (Wp.bind (x := getE j ρ >>= itemsL) k))
  have hd : ρ[j]? = some (some d) := by
    cases q : ρ[j]? with
    | none => rw [q] at e; cases e
    | some x => rw [q] at e; exact congrArg some e
  cases d with
  | lst ds =>
    have k := wp_pure k
    obtain ⟨ns, en, k⟩ := wp_liftO (Wp.bind (x := liftO (toInts ds)) k)
    obtain ⟨v, e2, r⟩ := F.var j _ hd (not_own F hj)
    obtain ⟨q, ws, rfl, nq, hq, hr⟩ := rep_lst r
    rw [toInts_eq en] at hr
    rw [hr.ints] at hq
    have k : Wp (if s.rr.length + ns.length ≤ LIM then Rs.ok (Fl.nx ρ) { s with rr := s.rr ++ ns } else .no) _ _ := k
    split at k
    · rename_i hlen
      refine ⟨_, e1, x, cl.reg, dx, _, .ref l, rfl, o.hx, T.cl, T.nR, lk_row _ _ _, _, e2, l, q, _, _, rfl, rfl, o.hl, hq, by rw [List.length_map, List.length_map]; exact lim_le hlen, dx, fl3 (.ref c) (.int s.rn) (.ref l), by rw [upd_ne o.xl]; exact o.hx, (by show 3 < 1000; decide), ?_⟩
      have sg := o.grow (s.rr ++ ns)
      rw [put_row, ← List.map_append]
      exact k _ _ _ (F.step sg.1 sg.2)
    · exact k.elim
  | _ => exact k.elim⟩
theorem cut_take (vs : List V) {k : Nat} (h : k ≤ vs.length) : cutV vs none (some (k : Int)) = vs.take k := by
  unfold cutV
  rw [HT.sIx_none, HT.sIx_nat, Nat.min_eq_left h, List.drop_zero, Nat.sub_zero]
theorem s_rowCut {i j : Nat} (T : RegT K cl.reg) (hn : (os.map (·.1)).contains i = false) (hj : (os.map (·.1)).contains j = false) :
    EwS cl E os os ob (sFld K (tVar i) (L2.tSl (rSlL K) (tFld K (tVar i) "row") tNoPart (tPart (tOp (rI0 fun i j => V.int (i - j)) (tCB (rLenQ K) (tCons (tFld K (tVar i) "row") tNil)) (tCB (rLenQ K) (tCons (tVar j) tNil))))) "row") (hRowCut i j) := ⟨fun {G H0 B Z0 O ρ s σ H} D F w => by
  obtain ⟨h, k⟩ := wp_self w
  obtain ⟨x, dx, c, l, e1, _, o⟩ := F.obj h hn
  obtain ⟨d, e, k⟩ := wp_liftO (Wp.bind (x := liftO (ρ[j]?.bind id)) (Wp.bind (x := getE j ρ >>= itemsL) k))
  have hd : ρ[j]? = some (some d) := by
    cases q : ρ[j]? with
    | none => rw [q] at e; cases e
    | some x => rw [q] at e; exact congrArg some e
  cases d with
  | lst ds =>
    have k := wp_pure k
    obtain ⟨v, e2, r⟩ := F.var j _ hd (not_own F hj)
    obtain ⟨q, ws, rfl, nq, hq, hr⟩ := rep_lst r
    have k : Wp (if ds.length ≤ s.rr.length ∧ s.rr.length ≤ LIM then Rs.ok (Fl.nx ρ) { s with rr := s.rr.take (s.rr.length - ds.length) } else .no) _ _ := k
    split at k
    · rename_i hlen
      refine ⟨_, e1, x, cl.reg, dx, _, .ref l, rfl, o.hx, T.cl, T.nR, lk_row _ _ _, ?_⟩
      refine ⟨_, e1, x, cl.reg, dx, _, .ref l, rfl, o.hx, T.cl, T.nR, lk_row _ _ _, l, _, rfl, .inl (SqL.of o.hl), _, e2, q, ws, rfl, .inl (SqL.of hq), _, _, rfl, rfl, _, rfl, ?_⟩
      have ek : (((s.rr.map V.int).length : Int) - (ws.length : Int)) = ((s.rr.length - ds.length : Nat) : Int) := by rw [List.length_map, hr.length]; omega
      rw [ek]
      refine ⟨l, _, rfl, SqL.of o.hl, fun p hp => ?_⟩
      rw [cut_take _ (by rw [List.length_map]; omega), ← List.map_take]
      have px : x ≠ p := fun z => by rw [← z, o.hx] at hp; cases hp
      refine ⟨_, e1, x, cl.reg, dx, fl3 (.ref c) (.int s.rn) (.ref l), rfl, by rw [upd_ne px]; exact o.hx, T.cl, T.nR, (by show 3 < 1000; decide), ?_⟩
      rw [put_row]
      have sa := o.anew F.st hp (s.rr.take (s.rr.length - ds.length))
      exact k _ _ _ (F.step sa.1 sa.2)
    · exact k.elim
  | _ => exact k.elim⟩
/-- o.m(..) -/
theorem v_meth {n i : Nat} {m : Str} {f : List D → DM D} (hm : notF m) (hn : (os.map (·.1)).contains i = false) (hc : cnt n gl) (h : EwA cl E os tl b gl) : Ew cl E os (tMeth cl.reg m (spD cl (n + 1) f) [] E (tVar i) tl) b (gMeth f i gl) := ⟨fun {G H0 B Z0 O ρ s σ H} Q F w => by
  obtain ⟨hh, k⟩ := wp_self w
  obtain ⟨x, dx, c, l, e1, hv, o⟩ := F.obj hh hn
  refine ⟨_, e1, x, dx, _, rfl, o.hx, lk_no hm _ _ _, ?_⟩
  have w2 : Wp (gl ρ s) (fun ds s' => ds.length = n ∧ Wp (f (.hd 1 :: ds) s') (fun d s' => ∀ v H', Ext G G.Y H H' → G.A s' H' → Rep G (bz b O Z0) H' v d → Q v H') (fun e s' => ∀ H', Ext G G.Y H H' → G.A s' H' → E (.ref (cl e)) none H')) (fun e s' => ∀ H', Ext G G.Y H H' → G.A s' H' → E (.ref (cl e)) none H') := by
    have w1 := k.bind
    cases q : gl ρ s with
    | ok ds s' => rw [q] at w1; exact ⟨hc _ _ _ _ q, w1⟩
    | er e s' => rw [q] at w1; exact w1
    | no => rw [q] at w1; exact w1
  refine h.1 _ F (w2.mono (fun ds s1 ⟨hl, k⟩ vs H1 e a r => ?_) fun _ _ k => k)
  have F1 := F.step e a
  refine ⟨by rw [List.append_nil, List.length_cons, r.length, hl], G, bz b O Z0, .hd 1 :: ds, s1, F1.domb, F1.ysb, ⟨F1.cc, F1.psb⟩, a, by rw [List.append_nil]; exact .cons (.hd hv) r, ?_⟩
  exact k.mono (fun d s2 k2 v H2 e2 a2 r2 => k2 v H2 (e.trans e2) a2 r2) fun _ _ k2 H' e2 => k2 H' (e.trans e2)⟩
/-- len(o) -/
theorem v_lenO {i : Nat} {f : List D → DM D} (hn : (os.map (·.1)).contains i = false) :
    Ew cl E os (tCB (fun xs H Q => ∃ a dx fs, xs = [.ref a] ∧ H a = some (.ins cl.reg dx fs) ∧ spD cl 1 f [.ref a] H (fun z H' => ∃ n : Nat, z = .int n ∧ (n : Int) < 2 ^ 63 ∧ Q (.int n) H') E) (tCons (tVar i) tNil)) b (gLenO f i) := ⟨fun {G H0 B Z0 O ρ s σ H} Q F w => by
  obtain ⟨hh, k⟩ := wp_self w
  obtain ⟨x, dx, c, l, e1, hv, o⟩ := F.obj hh hn
  refine ⟨_, e1, x, dx, _, rfl, o.hx, rfl, G, bz b O Z0, [.hd 1], s, F.domb, F.ysb, ⟨F.cc, F.psb⟩, F.st, .cons (.hd hv) .nil, ?_⟩
  refine (Wp.bind (x := f [.hd 1]) (Wp.bind (x := f [.hd 1] >>= toI) k)).mono (fun d s2 k2 v H2 e2 a2 r2 => ?_) fun _ _ k2 => k2
  obtain ⟨n, rfl, k3⟩ := wp_toI k2
  split at k3
  · rename_i hb
    cases r2
    refine ⟨n.toNat, by rw [Int.toNat_of_nonneg hb.1], by omega, ?_⟩
    rw [Int.toNat_of_nonneg hb.1]
    exact wp_pure k3 _ H2 e2 a2 (.int _)
  · exact k3.elim⟩
end
/-! ### in a try -/
def tMethS (C : Addr) (m : Str) (sp : Sp) (E : L2.St → XK) (ta : TE) (t : TA) : TE := fun σ H Q => ta σ H fun x H1 => ∃ a dx fs, x = .ref a ∧ H1 a = some (.ins C dx fs) ∧ fs.lookup m = none ∧ t σ H1 fun vs H2 => sp (x :: vs) H2 Q (E σ)
section
variable {X : Cx} {C : Addr} {k : Nat} {m : Str} {sp : Sp} {E : L2.St → XK} {o e : Expr} {es : List Expr} {apos pos : Pos} {ta : TE} {t : TA}
theorem pe_methX {pl : Sem Bool} (he : PE X o ta) (c : Cls X.K C) (h : KMt X.prog X.w X.K X.mg X.base k C m sp) (hr : Room k X.A) (hx : ∀ σ, PassesAt (L2.CX X.prog X.w) X σ (E σ)) (ha : PA X (e :: es) t)
    (hst : starEach (e :: es) X.env = (false, eval e X.env) :: starEach es X.env := by rfl) (hpl : (backTo pos (starEach es X.env)).any (·.1) = false := by rfl)
    (ht : eval (.Call (.Attribute o m apos) (e :: es) [] pos) X.env = (do
      let ov ← eval o X.env
      standAt apos.atName
      let (f, first) ← holding [ov] (getMethod ov m pl)
      callWith pos f first (backTo pos (starEach (e :: es) X.env)) (backToKw pos (keywordEach [] X.env))) := by rfl) :
    PE X (.Call (.Attribute o m apos) (e :: es) [] pos) (tMethS C m sp E ta t) := by
  obtain ⟨f, fd, ps, hm, hb, F⟩ := h
  refine ⟨fun pins s σ H Q I h => ?_⟩
  refine PySem.W.methodCall_KW (pl := pl) (thn (he.run pins s σ H _ I h) fun u s1 ⟨x, H1, I1, rx, a, dx, fs, ex, ea, l, q⟩ => ?_) ht
  subst ex
  obtain rfl : u = Value.ref a := rx
  refine getmeth_ok I1 ea c hm l ?_
  refine PySem.W.callWith_K (first := [.ref a]) (h₀ := X.base) I.ok.mod.kin hm.kp (thn (ha.run pos pins s1 σ H1 _ I1 q) fun us s2 ⟨vs, H2, I2, r, q2⟩ => ⟨I2.kIn, ?_⟩) hst hpl
  exact run_fnS (us := .ref a :: us) (vs := .ref a :: vs) F hr hb (hx σ) I2 (.cons rfl r) q2
theorem pe_methD {E : XK} {pl : Sem Bool} (he : PE X o ta) (c : Cls X.K C) (h : KMt X.prog X.w X.K X.mg X.base k C m sp) (hr : Room k X.A) (hx : Passes (L2.CX X.prog X.w) X E) (ha : PA X (e :: es) t)
    (hst : starEach (e :: es) X.env = (false, eval e X.env) :: starEach es X.env := by rfl) (hpl : (backTo pos (starEach es X.env)).any (·.1) = false := by rfl)
    (ht : eval (.Call (.Attribute o m apos) (e :: es) [] pos) X.env = (do
      let ov ← eval o X.env
      standAt apos.atName
      let (f, first) ← holding [ov] (getMethod ov m pl)
      callWith pos f first (backTo pos (starEach (e :: es) X.env)) (backToKw pos (keywordEach [] X.env))) := by rfl) :
    PE X (.Call (.Attribute o m apos) (e :: es) [] pos) (tMeth C m sp [] E ta t) := by
  obtain ⟨f, fd, ps, hm, hb, F⟩ := h
  exact pe_meth he c hm F hr hb .nil hx ha hst hpl ht
theorem pe_meth0D {E : XK} {pl : Sem Bool} (he : PE X o ta) (c : Cls X.K C) (h : KMt X.prog X.w X.K X.mg X.base k C m sp) (hr : Room k X.A) (hx : Passes (L2.CX X.prog X.w) X E)
    (ht : eval (.Call (.Attribute o m apos) [] [] pos) X.env = (do
      let ov ← eval o X.env
      standAt apos.atName
      let (f, first) ← holding [ov] (getMethod ov m pl)
      callWith pos f first (backTo pos (starEach [] X.env)) (backToKw pos (keywordEach [] X.env))) := by rfl) :
    PE X (.Call (.Attribute o m apos) [] [] pos) (tMeth C m sp [] E ta tNil) := by
  obtain ⟨f, fd, ps, hm, hb, F⟩ := h
  exact pe_meth0 he c hm F hr hb .nil hx ht
end
section
variable {cl : Cl} {tl : TA} {gl : Env → DM (List D)}
/-- found = o.m(..) -/
theorem x_asgM {n i j : Nat} {m : Str} {f : List D → DM D} (hm : notF m) (hc : cnt n gl) (h : EwA cl E0 [] tl true gl) : EvTry cl [] (some i) (fun W => tAsg (tMethS cl.reg m (spD cl (n + 1) f) (WE W) (tVar j) tl) (gName i)) (gMethX f j gl) := fun {G H0 B Z0 O ρ s σ H} W D F w => by
  obtain ⟨hh, k⟩ := wp_self w
  obtain ⟨x, dx, c, l, e1, hv, o⟩ := F.obj hh rfl
  refine ⟨_, e1, x, dx, _, rfl, o.hx, lk_no hm _ _ _, ?_⟩
  have w1 := Wp.noEr (E' := fun _ _ => False) (Wp.bind (x := noEr (gl ρ)) k)
  have w2 : Wp (gl ρ s) (fun ds s' => ds.length = n ∧ Wp (f (.hd 1 :: ds) s') (fun d s' => ∀ v H', Ext G G.Y H H' → G.A s' H' → Rep G (adr O ++ Z0) H' v d → D.nx (σ.set i (some v)) H') (fun e s' => ∀ H', Ext G G.Y H H' → G.A s' H' → W (.ref (cl e)) none σ H')) (fun _ _ => False) := by
    cases q : gl ρ s with
    | ok ds s' => rw [q] at w1; exact ⟨hc _ _ _ _ q, w1⟩
    | er e s' => rw [q] at w1; exact w1
    | no => rw [q] at w1; exact w1
  refine h.1 _ F (w2.mono (fun ds s1 ⟨hl, k⟩ vs H1 e a r => ?_) fun _ _ k => k.elim)
  have F1 := F.step e a
  refine ⟨by rw [List.length_cons, r.length, hl], G, adr O ++ Z0, .hd 1 :: ds, s1, F1.domZ, F1.sub, ⟨F1.cc, F1.pn⟩, a, .cons (.hd hv) r, ?_⟩
  exact k.mono (fun d s2 k2 v H2 e2 a2 r2 => k2 v H2 (e.trans e2) a2 r2) fun e' s2 k2 H' e2 a2 => k2 H' (e.trans e2) a2
end
end DL

namespace DL
open PySem PySem.Spec PyProof.Rows L2
/-! ### a register is made -/
/-- __init__(self, check) -/
def spIni (cl : Cl) (f : List D → DM D) : Sp := fun vs H Q E => vs.length = 2 ∧ ∃ (a dx : Addr) (v : V) (rc : List Int) (G : Rg) (Z : List Addr) (s : DSt), vs = [.ref a, v] ∧ H a = some (.ins cl.reg dx []) ∧ Av G G.Y H a ∧ dom G Z H ∧ (∀ a ∈ G.Y, a ∈ Z) ∧ (G.C = cl.reg ∧ ∀ a ∈ G.P, a ∉ Z) ∧ G.A s H ∧
  Rep G Z H v (.tup (rc.map .int)) ∧ 2 < rc.length ∧
  Wp (f [.tup (rc.map .int)] s) (fun _ s1 => ∀ (c l : Addr) (H1 H' : Hp), v = .ref c → Ext G G.Y H H1 → G.A s1 H1 → H1 l = none → H' a = some (regO cl.reg dx c l (rc.getD 2 0)) → H' l = some (.lst []) → (∀ b, b ≠ a → b ≠ l → H' b = H1 b) → Q .non H')
    (fun e s1 => ∀ H', Ext G G.Y H H' → G.A s1 H' → E (.ref (cl e)) none H')
def tsIni (K : PySem.W.Frag) (cl : Cl) (E : XK) (f : List D → DM D) : TS := tSeq (tDrop (tCall (spD cl 1 f) [] E (tCons (tVar 1) tNil))) (tSeq (sFld K (tVar 0) (tVar 1) "check") (tSeq (sFld K (tVar 0) (tOp (rIxT K) (tVar 1) (tC (.int 2))) "now") (sFld K (tVar 0) (tLst tNil) "row")))
theorem walk_ini {K : PySem.W.Frag} {cl : Cl} {E : XK} {f : List D → DM D} {N : List Str} {vs : List V} {H : Hp} {Q : VK} (T : RegT K cl.reg) (h : spIni cl f vs H Q E) : tsIni K cl E f { nx := fun _ H' => Q V.non H', rt := Q } (L2.start N vs) H := by
  obtain ⟨_, a, dx, v, rc, G, Z, s, rfl, ha, av, hz, hy, hc, as, rv, hl, w⟩ := h
  obtain ⟨c, us, rfl, nc, hcc, hr⟩ := rep_tup rv
  have hus := hr.ints
  subst hus
  have s0 : (L2.start N [V.ref a, V.ref c])[0]? = some (some (V.ref a)) := rfl
  have s1 : (L2.start N [V.ref a, V.ref c])[1]? = some (some (V.ref c)) := rfl
  refine ⟨_, s1, rfl, G, Z, [.tup (rc.map .int)], s, hz, hy, hc, as, .cons (.tup nc hcc hr) .nil, ?_⟩
  refine w.mono (fun d s2 k v2 H1 e1 a1 r1 => ?_) fun e s2 k => k
  have ha1 := e1.k _ _ av ha
  have hc1 := e1.k c _ ⟨fun z => nc.1 (hy _ z), nc.2⟩ hcc
  have nac : c ≠ a := fun z => by rw [z, ha1] at hc1; cases hc1
  -- self.check = check
  refine ⟨_, s1, _, s0, a, cl.reg, dx, [], rfl, ha1, T.cl, T.nC, (by show 0 < 1000; decide), ?_⟩
  have ha2 : upd H1 a (.ins cl.reg dx (putF "check" (.ref c) [])) a = some (.ins cl.reg dx (putF "check" (.ref c) [])) := upd_same
  -- self.now = check[2]
  have hget : atI (rc.map V.int) 2 = some (.int (rc.getD 2 0)) := by
    refine atI_nat (j := 2) ?_
    rw [List.getElem?_map, List.getD_eq_getElem?_getD, List.getElem?_eq_getElem hl]; rfl
  refine ⟨_, s1, c, rc.map V.int, 2, .int (rc.getD 2 0), rfl, rfl, SqT.of (by rw [upd_ne nac]; exact hc1), hget, _, s0, a, cl.reg, dx, _, rfl, ha2, T.cl, T.nN, (by show 1 < 1000; decide), ?_⟩
  have ha3 : upd (upd H1 a (.ins cl.reg dx (putF "check" (.ref c) []))) a (.ins cl.reg dx (putF "now" (.int (rc.getD 2 0)) (putF "check" (.ref c) []))) a = some (.ins cl.reg dx (putF "now" (.int (rc.getD 2 0)) (putF "check" (.ref c) []))) := upd_same
  -- self.row = []
  refine ⟨Nat.zero_le _, fun l hl' => ?_⟩
  have nla : l ≠ a := fun z => by rw [z, upd_same] at hl'; cases hl'
  have hl1 : H1 l = none := by rw [upd_ne nla, upd_ne nla] at hl'; exact hl'
  refine ⟨_, s0, a, cl.reg, dx, _, rfl, by rw [upd_ne (Ne.symm nla)]; exact ha3, T.cl, T.nR, (by rw [show putF "check" (V.ref c) [] = [(("check" : Str), V.ref c)] from rfl, put_c1]; show 2 < 1000; decide), ?_⟩
  refine k c l H1 _ rfl e1 a1 hl1 ?_ ?_ ?_
  · rw [upd_same, show putF "check" (V.ref c) [] = [(("check" : Str), V.ref c)] from rfl, put_c1, put_c2]; rfl
  · rw [upd_ne nla, upd_same]
  · intro b h1 h2
    rw [upd_ne h1, upd_ne h2, upd_ne h1, upd_ne h1]
/-- the region with a register's object -/
def Rg.reg (G : Rg) (κ x dx c : Addr) (rc : List Int) (n0 : Int) (r0 : List Int) (hx : x ∉ G.Y) (hxP : x ∉ G.P) (hcx : c ≠ x) (hC : ∀ H a, ¬ G.R H a) (hCC : G.C = κ) (hrc : rc ≠ []) (hcy : c ∉ G.Y) : Rg where
  Y := x :: G.Y
  P := c :: G.P
  C := κ
  R := fun H a => ∀ l n, H x = some (regO κ dx c l n) → a = l
  A := fun s H => s.rc = rc ∧ G.A { s with rc := [], rn := n0, rr := r0 } H ∧ (∃ l, H x = some (regO κ dx c l s.rn) ∧ H l = some (.lst (s.rr.map V.int)) ∧ l ∉ x :: G.Y ∧ l ∉ c :: G.P) ∧ H c = some (.tup (rc.map V.int))
  hv := fun n => if n = 1 then some (.ref x) else G.hv n
  dr := fun v hv => by
    rw [if_neg (by decide)] at hv
    obtain ⟨d, l, e, hd, hl, ne, h1, h2, h⟩ := G.dr v hv
    have dx1 : x ≠ d := fun z => hx (z ▸ hd)
    have lx1 : x ≠ l := fun z => hx (z ▸ hl)
    have cd : c ≠ d := fun z => hcy (z ▸ hd)
    have c_l : c ≠ l := fun z => hcy (z ▸ hl)
    refine ⟨d, l, e, List.mem_cons_of_mem _ hd, List.mem_cons_of_mem _ hl, ne, fun H o a r l' n' e' => r l' n' (by rw [upd_ne dx1]; exact e'), fun H o a r l' n' e' => r l' n' (by rw [upd_ne lx1]; exact e'), fun s H a => ?_⟩
    obtain ⟨ar, aG, ⟨l', b1, b2, b3, b4⟩, b5⟩ := a
    obtain ⟨g1, g2, g3⟩ := h _ H aG
    refine ⟨g1, g2, fun ns cc => ⟨ar, g3 ns cc, ⟨l', ?_, ?_, b3, b4⟩, ?_⟩⟩
    · rw [upd_ne lx1, upd_ne dx1]; exact b1
    · rw [upd_ne (fun (z : l' = l) => b3 (List.mem_cons_of_mem _ (by rw [z]; exact hl))), upd_ne (fun (z : l' = d) => b3 (List.mem_cons_of_mem _ (by rw [z]; exact hd)))]; exact b2
    · rw [upd_ne c_l, upd_ne cd]; exact b5
  ob := fun v hv => by
    rw [if_pos rfl] at hv
    cases hv
    refine ⟨x, dx, c, rfl, List.mem_cons_self, List.mem_cons_self, fun H l n e a => ⟨fun h => h l n e, fun h l' n' e' => ?_⟩, fun s H a => ?_⟩
    · rw [e] at e'
      have : regO κ dx c l n = regO κ dx c l' n' := Option.some.inj e'
      have el : l = l' := by unfold regO at this; injection this with _ _ h3; injection h3 with _ h4; injection h4 with _ h5; injection h5 with h6 _; injection h6 with _ h7; injection h7
      rw [h, el]
    · obtain ⟨ar, aG, ⟨l, b1, b2, b3, b4⟩, b5⟩ := a
      refine ⟨⟨l, b1, b2, b3, b4⟩, by rw [ar]; exact b5, fun H' n l' rr k1 k2 k3 k4 k5 => ⟨ar, ?_, ⟨l', k2, k3, k4, k5⟩, ?_⟩⟩
      · refine G.dep _ H H' (fun b hb => ?_) aG
        have nbx : b ≠ x := fun z => by
          rcases hb with hb | hb | hb
          · exact hx (z ▸ hb)
          · exact hxP (z ▸ hb)
          · exact hC _ _ hb
        have nbl : b ≠ l := fun z => by
          rcases hb with hb | hb | hb
          · exact b3 (List.mem_cons_of_mem _ (z ▸ hb))
          · exact b4 (List.mem_cons_of_mem _ (z ▸ hb))
          · exact hC _ _ hb
        refine k1 b nbx (fun r => nbl (r l _ b1)) ?_
        rcases hb with hb | hb | hb
        · exact .inl (List.mem_cons_of_mem _ hb)
        · exact .inr (List.mem_cons_of_mem _ hb)
        · exact absurd hb (hC _ _)
      · rw [k1 c hcx (fun r => b4 (by rw [← r l _ b1]; exact List.mem_cons_self)) (.inr List.mem_cons_self)]; exact b5
  dep := fun s H H' h a => by
    obtain ⟨ar, aG, ⟨l, b1, b2, b3, b4⟩, b5⟩ := a
    have hxx := h x (.inl List.mem_cons_self)
    refine ⟨ar, G.dep _ H H' (fun b hb => ?_) aG, ⟨l, hxx.trans b1, ?_, b3, b4⟩, (h c (.inr (.inl List.mem_cons_self))).trans b5⟩
    · rcases hb with hb | hb | hb
      · exact h b (.inl (List.mem_cons_of_mem _ hb))
      · exact h b (.inr (.inl (List.mem_cons_of_mem _ hb)))
      · exact absurd hb (hC _ _)
    · refine (h l (.inr (.inr fun l' n' e' => ?_))).trans b2
      rw [b1] at e'
      have : regO κ dx c l s.rn = regO κ dx c l' n' := Option.some.inj e'
      unfold regO at this
      injection this with _ _ h3; injection h3 with _ h4; injection h4 with _ h5; injection h5 with h6 _; injection h6 with _ h7; injection h7
  inY := fun s H a b hb => by
    obtain ⟨ar, aG, ⟨l, b1, b2, b3, b4⟩, b5⟩ := a
    rcases hb with hb | hb | hb
    · rcases List.mem_cons.mp hb with rfl | hb
      · rw [b1]; exact Option.some_ne_none _
      · exact G.inY _ H aG b (.inl hb)
    · rcases List.mem_cons.mp hb with rfl | hb
      · rw [b5]; exact Option.some_ne_none _
      · exact G.inY _ H aG b (.inr (.inl hb))
    · rw [hb l _ b1, b2]; exact Option.some_ne_none _
  rs := fun H H' sm a r l n e => r l n (sm _ _ e)
  rd := fun H H' h a r l n e => r l n (by rw [h x List.mem_cons_self]; exact e)
  r0 := fun h => by
    rw [if_pos rfl] at h; cases h
  rcn := fun v s H h a => by rw [a.1]; exact hrc
/-- nothing of a register is handed out -/
def plainD : D → Bool
  | .non | .bl _ | .int _ | .str _ | .ty _ => true
  | _ => false
theorem rep_plain {G G' : Rg} {Z Z' : List Addr} {H H' : Hp} {v : V} {d : D} (h : plainD d = true) (r : Rep G Z H v d) : Rep G' Z' H' v d := by
  cases r <;> first | (simp [plainD] at h; done) | (constructor; done)
def chkArg : List D → DM (List Int)
  | [.tup xs] => if 2 < xs.length then liftO (toInts xs) else stuck
  | _ => stuck
theorem wp_chkArg {ds : List D} {s : DSt} {Q : List Int → DSt → Prop} {E : Er → DSt → Prop} (h : Wp (chkArg ds s) Q E) : ∃ rc : List Int, ds = [.tup (rc.map .int)] ∧ 2 < rc.length ∧ Q rc s := by
  unfold chkArg at h
  split at h
  · rename_i xs
    split at h
    · rename_i hl
      obtain ⟨rc, e, k⟩ := wp_liftO h
      have e2 := toInts_eq e
      subst e2
      exact ⟨rc, rfl, by rw [List.length_map] at hl; exact hl, k⟩
    · exact h.elim
  · exact h.elim
def regRun (i : Nat) (rc : List Int) (g2 : Env → DM Fl) (ρ : Env) : DM Fl := fun s1 => if s1.rc = [] ∧ i < ρ.length then
    (match g2 (ρ.set i (some (.hd 1))) { s1 with rc := rc, rn := rc.getD 2 0, rr := [] } with
      | .ok (.rt d) s2 => if plainD d = true then .ok (.rt d) { s2 with rc := [], rn := s1.rn, rr := s1.rr } else .no
      | .er e s2 => .er e { s2 with rc := [], rn := s1.rn, rr := s1.rr }
      | _ => .no) else .no
def hReg (i : Nat) (f : List D → DM D) (gl : Env → DM (List D)) (g2 : Env → DM Fl) : Env → DM Fl := fun ρ => gl ρ >>= fun ds => chkArg ds >>= fun rc => f ds >>= fun _ => regRun i rc g2 ρ
mutual
theorem rep_up {G G' : Rg} {Z Z' : List Addr} {H H' : Hp} (hv : ∀ n v, G.hv n = some v → G'.hv n = some v) (up : ∀ b o, Av G Z H b → H b = some o → Av G' Z' H' b ∧ H' b = some o) : ∀ {v : V} {d : D}, Rep G Z H v d → Rep G' Z' H' v d
  | _, .non, h => by cases h; exact .non
  | _, .bl b, h => by cases h; exact .bl b
  | _, .int i, h => by cases h; exact .int i
  | _, .str x, h => by cases h; exact .str x
  | _, .lst ds, h => by
    cases h with
    | lst na ha hr => exact .lst (up _ _ na ha).1 (up _ _ na ha).2 (repAll_up hv up hr)
  | _, .tup ds, h => by
    cases h with
    | tup na ha hr => exact .tup (up _ _ na ha).1 (up _ _ na ha).2 (repAll_up hv up hr)
  | _, .hd n, h => by
    cases h with
    | hd e => exact .hd (hv _ _ e)
  | _, .ty n, h => by cases h; exact .ty n
  | _, .dk ks, h => by
    cases h with
    | dk na ha => exact .dk (up _ _ na ha).1 (up _ _ na ha).2
theorem repAll_up {G G' : Rg} {Z Z' : List Addr} {H H' : Hp} (hv : ∀ n v, G.hv n = some v → G'.hv n = some v) (up : ∀ b o, Av G Z H b → H b = some o → Av G' Z' H' b ∧ H' b = some o) : ∀ {vs : List V} {ds : List D}, RepAll G Z H vs ds → RepAll G' Z' H' vs ds
  | _, [], h => by cases h; exact .nil
  | _, d :: ds, h => by
    cases h with
    | cons h1 h2 => exact .cons (rep_up hv up h1) (repAll_up hv up h2)
end
section
variable {cl : Cl} {E : XK} {ob : List (Nat × Bool)} {K : PySem.W.Frag} {tl : TA} {gl : Env → DM (List D)} {t : TS} {g2 : Env → DM Fl}
theorem s_mkReg {i : Nat} {f : List D → DM D} (h : EwA cl E [] tl true gl) (h2 : EwS cl E [] [] [] t g2) : EwS cl E [] [] ob (tSeq (tAsg (tMake cl.reg (spIni cl f) [] E tl) (gName i)) t) (hReg i f gl g2) := ⟨fun {G H0 B Z0 O ρ s σ H} D F w => by
  have hO := fr_nil F
  subst hO
  have hB : B = [] := by
    cases B with
    | nil => rfl
    | cons p B => exact absurd (F.wy p List.mem_cons_self) List.not_mem_nil
  subst hB
  have w0 : wof G [] = G.Y := List.append_nil _
  refine h.1 _ F ((Wp.bind (x := gl ρ) w).mono (fun ds s1 k vs H1 e1 a1 r1 x dx hx hdx ne => ?_) fun e s' k H' e a => k H' (F.wext e) a)
  obtain ⟨rc, eds, hl, k⟩ := wp_chkArg (Wp.bind (x := chkArg ds) k)
  subst eds
  have k := Wp.bind (x := f [.tup (rc.map .int)]) k
  have F1 := F.step e1 a1
  cases r1 with
  | @cons v vs d ds rv r2 =>
    cases r2
    have hdx' : upd H1 dx (.own x) x = none := by rw [upd_ne (Ne.symm ne)]; exact hx
    have sm : Same H1 (upd (upd H1 dx (.own x)) x (.ins cl.reg dx [])) := (same_new hdx).trans (same_new hdx')
    obtain ⟨H2, hH2⟩ : ∃ H2, H2 = upd (upd H1 dx (.own x)) x (.ins cl.reg dx []) := ⟨_, rfl⟩
    rw [← hH2] at sm ⊢
    have hx2 : H2 x = some (.ins cl.reg dx []) := by rw [hH2]; exact upd_same
    have a2 := F1.same sm
    have F2 := F1.step (Same.ext sm) a2
    have xY : x ∉ G.Y := fun z => G.inY s1 H1 a1 x (.inl z) hx
    have xP : x ∉ G.P := fun z => G.inY s1 H1 a1 x (.inr (.inl z)) hx
    have xR : ¬ G.R H2 x := fun z => G.inY s1 H1 a1 x (.inr (.inr (G.rs _ _ sm x z))) hx
    refine ⟨rfl, x, dx, v, rc, G, bz true [] Z0, s1, by rw [List.append_nil], hx2, ⟨xY, xR⟩, F2.domb, F2.ysb, ⟨F2.cc, F2.psb⟩, a2, rv.same sm, hl, ?_⟩
    refine k.mono (fun _ s3 k3 c l H3 H4 ev e3 a3 hl3 hx4 hl4 hot => ⟨rfl, ?_⟩) fun e s3 k3 H' e a => k3 H' (F2.wext e) a
    subst ev
    -- the region from here on
    have F3 := F2.step e3 a3
    unfold regRun at k3
    split at k3
    · rename_i hc
      obtain ⟨hrc, hi⟩ := hc
      have hv1 : G.hv 1 = none := by
        cases q : G.hv 1 with
        | none => rfl
        | some v => exact absurd hrc (G.rcn v s3 H3 q a3)
      have hC := G.r0 hv1
      obtain ⟨_, us, ec, nc, hcc, hr⟩ := rep_tup rv
      cases ec
      rw [hr.ints] at hcc
      have hc3 : H3 c = some (.tup (rc.map V.int)) := e3.k c _ ⟨fun z => nc.1 (F2.sub _ z), hC _ _⟩ (sm _ _ hcc)
      have hx3 : H3 x = some (.ins cl.reg dx []) := e3.k x _ ⟨xY, hC _ _⟩ hx2
      have nxl : x ≠ l := fun z => by rw [← z, hx3] at hl3; cases hl3
      have ncx : c ≠ x := fun z => by rw [z, hx3] at hc3; cases hc3
      have ncl : c ≠ l := fun z => by rw [z, hl3] at hc3; cases hc3
      have ncY : c ∉ G.Y := fun z => nc.1 (F2.sub _ z)
      have ncZ : c ∉ Z0 := fun z => nc.1 z
      have hrc0 : rc ≠ [] := fun z => by rw [z] at hl; cases hl
      have lY : l ∉ G.Y := fun z => G.inY s3 H3 a3 l (.inl z) hl3
      have lP : l ∉ G.P := fun z => G.inY s3 H3 a3 l (.inr (.inl z)) hl3
      have old : ∀ b o, b ≠ x → H3 b = some o → H4 b = some o := fun b o hb e => by
        rw [hot b hb (fun z => by rw [z, hl3] at e; cases e)]; exact e
      have a4 : G.A s3 H4 := G.dep s3 H3 H4 (fun b hb => by
        refine hot b (fun z => ?_) (fun z => ?_)
        · subst z
          rcases hb with hb | hb | hb
          · exact xY hb
          · exact xP hb
          · exact hC _ _ hb
        · subst z; exact G.inY s3 H3 a3 b hb hl3) a3
      have nR : ∀ {b : Addr} {o : HO}, H3 b = some o → ¬ (G.reg cl.reg x dx c rc s3.rn s3.rr xY xP ncx hC F3.cc hrc0 ncY).R H4 b := fun {b o} e r => by
        have := r l _ hx4
        rw [this, hl3] at e; cases e
      have hz4 : ∀ a, H3 a ≠ none → H4 a ≠ none := fun a h => by
        by_cases z : a = x
        · rw [z, hx4]; exact Option.some_ne_none _
        · cases q : H3 a with
          | none => exact absurd q h
          | some o => rw [old a o z q]; exact Option.some_ne_none _
      have xnew : ∀ b o, H b = some o → b ≠ x := fun b o e z => by
        have := e1.n b (by rw [e]; exact Option.some_ne_none _)
        rw [z] at this; exact this hx
      obtain ⟨G', hG⟩ : ∃ G', G' = G.reg cl.reg x dx c rc s3.rn s3.rr xY xP ncx hC F3.cc hrc0 ncY := ⟨_, rfl⟩
      rw [← hG] at nR
      have A4 : G'.A { s3 with rc := rc, rn := rc.getD 2 0, rr := [] } H4 := by
        rw [hG]
        refine ⟨rfl, ?_, ⟨l, hx4, hl4, fun z => (List.mem_cons.mp z).elim (fun z => nxl z.symm) lY, fun z => (List.mem_cons.mp z).elim (fun z => ncl z.symm) lP⟩, old c _ ncx hc3⟩
        have e : ({ s3 with rc := [], rn := s3.rn, rr := s3.rr } : DSt) = s3 := by rw [← hrc]
        show G.A { s3 with rc := [], rn := s3.rn, rr := s3.rr } H4
        rw [e]; exact a4
      have FR : Fr cl.reg G' H4 [] (x :: Z0) [] [] (ρ.set i (some (.hd 1))) { s3 with rc := rc, rn := rc.getD 2 0, rr := [] } (σ.set i (some (.ref x))) H4 := by
        refine ⟨rfl, Ext.refl _ _, A4, by rw [hG]; rfl, fun a ha => ?_, fun a ha z => ?_, fun p hp => absurd hp List.not_mem_nil, fun p hp => absurd hp List.not_mem_nil, fun a ha => ?_, fun o ho => absurd ho List.not_mem_nil, fun o ho => absurd ho List.not_mem_nil, fun o ho => absurd ho List.not_mem_nil, fun o ho => absurd ho List.not_mem_nil, fun o ho => absurd ho List.not_mem_nil, List.nodup_nil, List.nodup_nil, by rw [List.length_set, List.length_set]; exact F.len, fun j d hj _ => ?_, fun o ho => absurd ho List.not_mem_nil⟩
        · rw [hG] at ha
          rcases List.mem_cons.mp ha with rfl | ha
          · exact List.mem_cons_self
          · exact List.mem_cons_of_mem _ (F.yz a ha)
        · rw [hG] at ha
          rcases List.mem_cons.mp ha with e | ha2
          · rw [e] at z; exact (List.mem_cons.mp z).elim ncx ncZ
          · rcases List.mem_cons.mp z with e | z2
            · exact xP (e ▸ ha2)
            · exact F.pz a ha2 z2
        · rcases List.mem_cons.mp ha with rfl | ha
          · rw [hx4]; exact Option.some_ne_none _
          · exact hz4 a (F3.domZ0 a ha)
        · by_cases q : j = i
          · subst q
            rw [List.getElem?_set_self hi] at hj
            cases hj
            refine ⟨.ref x, List.getElem?_set_self (by rw [F.len]; exact hi), .hd ?_⟩
            rw [hG]; rfl
          · rw [List.getElem?_set_ne (Ne.symm q)] at hj ⊢
            obtain ⟨v, e, r⟩ := F.var j d hj List.not_mem_nil
            refine ⟨v, e, rep_up (fun n v e => ?_) (fun b o nb hb => ?_) r⟩
            · have n1 : n ≠ 1 := fun z => by rw [z, hv1] at e; cases e
              rw [hG]
              show (if n = 1 then _ else G.hv n) = _
              rw [if_neg n1]; exact e
            · have b3 : H3 b = some o := e3.k b o ⟨fun z => nb.1 (F.sub _ z), hC _ _⟩ (sm _ _ (e1.k b o ⟨fun z => nb.1 (F.sub _ z), nb.2⟩ hb))
              have bx := xnew b o hb
              exact ⟨⟨fun z => (List.mem_cons.mp z).elim bx nb.1, nR b3⟩, old b o bx b3⟩
      -- back
      have back : ∀ H', Ext G' (wof G' []) H4 H' → Ext G (wof G []) H0 H' := fun H' e => by
        rw [w0]
        have e4 := F3.ext
        rw [w0] at e4
        refine ⟨fun b o nb hb => ?_, fun b r => absurd r (hC _ _), fun b hb => e.n b (hz4 b (e4.n b hb))⟩
        have b3 := e4.k b o nb hb
        have bx : b ≠ x := xnew b o (by have := F.ext; rw [w0] at this; exact this.k b o nb hb)
        refine e.k b o ⟨fun z => ?_, nR b3⟩ (old b o bx b3)
        rw [show wof G' [] = G'.Y from List.append_nil _, hG] at z
        exact (List.mem_cons.mp z).elim bx nb.1
      have backA : ∀ (s2 : DSt) H', G'.A s2 H' → G.A { s2 with rc := [], rn := s3.rn, rr := s3.rr } H' := fun s2 H' a => by
        rw [hG] at a; exact a.2.1
      refine h2.1 D FR ?_
      cases q : g2 (ρ.set i (some (.hd 1))) { s3 with rc := rc, rn := rc.getD 2 0, rr := [] } with
      | ok fl s2 =>
        rw [q] at k3
        cases fl with
        | rt d =>
          dsimp only at k3
          split at k3
          · rename_i hp
            exact fun v H' e a r => k3 v H' (back H' e) (backA s2 H' a) (rep_plain hp r)
          · exact k3.elim
        | nx _ => exact k3.elim
        | bk _ => exact k3.elim
        | ct _ => exact k3.elim
      | er e s2 =>
        rw [q] at k3
        exact fun H' e a => k3 H' (back H' e) (backA s2 H' a)
      | no => rw [q] at k3; exact k3.elim
    · exact k3.elim⟩
end
end DL
namespace DL
open PySem PySem.Spec PyProof.Rows L2
/-- a method that the top has left -/
def MthAt (K : PySem.W.Frag) (C : Addr) (m q : Str) (st : Stmt) (ps : List Str) : Prop := ∃ f fd, Meth K C m f ∧ Fun K m q st f fd ∧ Binds K fd ps []
theorem mthAt_mk {K : PySem.W.Frag} {mg : Str → Option Value} {x qi m q : Str} {C f : Addr} {st0 st : Stmt} {ps0 ps : List Str} {od an : Option Addr} {sl : Array (Option Value)} {oc kV dc pm cd ct : Value} (_ : ClsAt K mg x C qi st0 ps0)
    (a1 : PySem.W.findIn K (.ref C) m = some (some (.ref f))) (i1 : PySem.W.isFn K (.ref f) = true) (l : K.lookup f = some ⟨oc, od, .func (PySem.W.fnOf m q (defArgs st) (defBody st) (defScope st) .none kV dc pm an cd ct), sl⟩) (c : PySem.W.codeIn K cd q = true) (k : PySem.W.keepIn K (.ref f) = true)
    (hb : ∀ (kV doc pm : Value) (an : Option Addr) (cdv ct : Value) (us : List Value), us.length = ps.length → bindArgs (PySem.W.fnOf m q (defArgs st) (defBody st) (defScope st) .none kV doc pm an cdv ct) ⟨us, []⟩ = pure (ps.zip us)) : MthAt K C m q st ps :=
  have F := fun_mk (st := st) l c k
  ⟨f, _, ⟨a1, i1, k⟩, F, F.binds hb⟩
theorem kmt_of {P : Program} {wd : World} {K : PySem.W.Frag} {mg : Str → Option Value} {base : Heap} {k : Nat} {C : Addr} {m q : Str} {st : Stmt} {ps : List Str} {sp : Sp} (d : MthAt K C m q st ps) (h : ∀ f fd, Fun K m q st f fd → FnOk P wd K mg base (L2.CX P wd) k f fd ps sp) : KMt P wd K mg base k C m sp := by
  obtain ⟨f, fd, M, F, b⟩ := d
  exact ⟨f, fd, ps, M, b, h f fd F⟩
theorem regT_mk {K : PySem.W.Frag} {mg : Str → Option Value} {x qi : Str} {C : Addr} {st0 : Stmt} {ps0 : List Str} (_ : ClsAt K mg x C qi st0 ps0) (pg : PySem.W.plainGet K C Str.empty = true) (hd : PySem.W.hasDictIn K C = true) (po : PySem.W.plainOver K C = true) (sa : PySem.W.findIn K (.ref C) "__setattr__" = some (some (.builtin "object.__setattr__")))
    (nC : PySem.W.findIn K (.ref C) "check" = some none) (nN : PySem.W.findIn K (.ref C) "now" = some none) (nR : PySem.W.findIn K (.ref C) "row" = some none) : RegT K C := ⟨⟨pg, hd, po, sa⟩, nC, nN, nR⟩
end DL

namespace DL
open PySem PySem.Spec PyProof.Rows L2 TL
/-! ### texts -/
def toStrs : List D → Option (List Str)
  | [] => some []
  | .str i :: r => (toStrs r).map (i :: ·)
  | _ :: _ => none
theorem toStrs_eq : ∀ {ds : List D} {ns : List Str}, toStrs ds = some ns → ds = ns.map D.str
  | [], ns, h => by cases h; rfl
  | d :: ds, ns, h => by
    cases d with
    | str i =>
      simp only [toStrs] at h
      cases q : toStrs ds with
      | none => rw [q] at h; cases h
      | some ms => rw [q] at h; cases h; rw [toStrs_eq q]; rfl
    | _ => cases h
theorem toStrs_map (ns : List Str) : toStrs (ns.map D.str) = some ns := by
  induction ns with
  | nil => rfl
  | cons n ns ih => simp only [List.map_cons, toStrs, ih]; rfl
/-- the digits of a number -/
def numS (n : Nat) : Str := ⟨(numL n).toArray⟩
theorem numS_eq {i : Int} (h : 0 ≤ i) : (Str.ofString (toString i) : Str) = numS i.toNat := by
  obtain ⟨n, rfl⟩ := Int.eq_ofNat_of_zero_le h
  exact ext_tl ((tl_num n).trans (tl_mk _).symm)
def D.str1 : List D → Option D
  | [.int i] => if 0 ≤ i ∧ i < 1000 then some (.str (numS i.toNat)) else none
  | _ => none
def joinS (z : Str) (ys : List Str) : Str := ⟨(joinL (tl z) (ys.map tl)).toArray⟩
def D.joinC (z : Str) : D → Option D
  | .lst xs => (toStrs xs).bind fun ys => guardO (decide ((ys.map (·.length)).sum + ys.length * z.length ≤ 100000)) (some (.str (joinS z ys)))
  | _ => none
def D.fmtC (z : Str) : D → Option D
  | .int i => if 0 ≤ i ∧ i < 1000 then some (.str ⟨(tl z ++ numL i.toNat).toArray⟩) else none
  | _ => none
section
variable {X : Cx}
theorem log_ok {i : Int} (h0 : 0 ≤ i) (h : i < 1000) : i.natAbs.log2 < 1920 := by
  have := Nat.log2_le_self i.natAbs
  omega
theorem cd_str : CallR X (.type "str") (rDc D.str1) := callr_imp call_str_int fun xs H Q ⟨G, Z, ds, d, hz, r, hf, q⟩ => by
  match ds, r, hf with
  | [.int i], .cons r1 .nil, hf =>
    simp only [D.str1] at hf
    split at hf
    · rename_i h
      cases hf
      rw [rep_int r1]
      exact ⟨i, rfl, log_ok h.1 h.2, q _ H (Same.refl H) (by rw [numS_eq h.1]; exact .str _)⟩
    · cases hf
theorem pe_joinC {e : Expr} {te : TE} {z : Str} {j : _} {p apos pos : Pos} (he : PE X e te) (hs : starEach [e] X.env = [(false, eval e X.env)] := by rfl)
    (hbase : attributeBase (.Constant (.str z) j p) "join" X.env (eval (.Constant (.str z) j p) X.env) = eval (.Constant (.str z) j p) X.env := by rfl) (hline : (apos.endLine == pos.line) = true := by rfl) :
    PE X (.Call (.Attribute (.Constant (.str z) j p) "join" apos) [e] [] pos) (tUn (rDu (D.joinC z)) te) := by
  refine ⟨fun pins s σ H Q I h => ?_⟩
  refine PySem.Call_method1 hbase hs hline (thn ((pe_str (X := X) (x := z) (j := j) (pos := p)).run pins s σ H (fun x H1 => x = .str z ∧ H1 = H) I ⟨rfl, rfl⟩) fun v s1 ⟨x, H1, I1, r1, q1⟩ => ?_)
  obtain ⟨rfl, rfl⟩ := q1
  obtain ⟨t, rfl⟩ := _root_.id r1
  refine ⟨"str", _, F.plainAttrs_str, F.slot_str_join, F.type_str_join, typeIs_str _ _ _, (fun _ e => nomatch e), Calls.callWith_builtin rfl (Calls.evalArgs_plain (Calls.spliced_cons ?_))⟩
  refine thn (he.run pins s1 σ H1 _ I1 h) fun u s2 ⟨y, H2, I2, r2, q2⟩ => Calls.spliced_nil (mt_join pins s2 σ H2 _ [y] _ [u] Q I2 r1 (.cons r2 .nil) ?_)
  obtain ⟨G, Z, dx, d, hz, r, hf, q⟩ := q2
  match dx, r, hf with
  | .lst ds, r, hf =>
    obtain ⟨a, vs, rfl, na, ha, hr⟩ := rep_lst r
    simp only [D.joinC] at hf
    cases e : toStrs ds with
    | none => rw [e] at hf; cases hf
    | some ys =>
      rw [e] at hf
      obtain ⟨c, hf⟩ := guardO_some hf
      cases hf
      rw [toStrs_eq e] at hr
      have ev := hr.strs
      refine ⟨z, a, ys, rfl, rfl, .inl (by rw [← ev]; exact SqL.of ha), Nat.le_trans (of_decide_eq_true c) (by decide), q _ H2 (Same.refl H2) ?_⟩
      have : Txt.join z ys = joinS z ys := ext_tl ((congrArg tl (join_eq z ys)).trans ((tl_join z ys).trans (tl_mk _).symm))
      rw [this]
      exact .str _
theorem pe_fmtC {e : Expr} {te : TE} {z : Str} {j : _} {p p2 pos : Pos} (he : PE X e te) (hl : (tl z).length ≤ 1000 := by decide +kernel) :
    PE X (.JoinedStr [.Constant (.str z) j p, .FormattedValue e (-1) none p2] pos) (tUn (rDu (D.fmtC z)) te) := by
  have hw : PE X e (fun σ H Q => ∃ Q0 : VK, te σ H Q0 ∧ ∀ x H1, Q0 x H1 → Q x H1) := ⟨fun pins s σ H Q I h => by
    obtain ⟨Q0, h0, k⟩ := h
    exact thn (he.run pins s σ H Q0 I h0) fun v s1 ⟨x, H1, I1, r1, q1⟩ => ⟨x, H1, I1, r1, k x H1 q1⟩⟩
  refine ⟨fun pins s σ H Q I h => ?_⟩
  refine (pe_joined (X := X) (pos := pos) (.cons (pe_str (x := z) (j := j) (pos := p)) (.cons (pe_fmt (pos := p2) hw) .nil))).run pins s σ H Q I ?_
  refine ⟨z, rfl, ?_, _, h, fun x H1 q => ?_⟩
  · rw [len_tl, tl_append]
    exact lim_le (Nat.le_trans (show (([] : List Nat) ++ tl z).length ≤ 1000 from hl) (by decide))
  · obtain ⟨G, Z, dx, d, hz, r, hf, q⟩ := q
    match dx, r, hf with
    | .int i, r, hf =>
      simp only [D.fmtC] at hf
      split at hf
      · rename_i hc
        cases hf
        rw [rep_int r]
        refine .inr ⟨i, rfl, log_ok hc.1 hc.2, _, rfl, ?_, ?_⟩
        · have hn := numL_len (n := i.toNat) (k := 3) (by decide) (by omega)
          rw [numS_eq hc.1, len_tl, tl_append, tl_append]
          refine lim_le (Nat.le_trans (?_ : _ ≤ 1003) (by decide))
          show ((([] : List Nat) ++ tl z) ++ numL i.toNat).length ≤ 1003
          rw [List.length_append, List.nil_append]; omega
        · have e1 : (Str.empty ++ z ++ (Str.ofString (toString i) : Str)) = ⟨(tl z ++ numL i.toNat).toArray⟩ := by
            rw [numS_eq hc.1]
            refine ext_tl ?_
            rw [tl_append, tl_append]
            rfl
          exact q _ H1 (Same.refl H1) (by rw [e1]; exact .str _)
      · cases hf
end
end DL

namespace DL
open PySem PySem.Spec PyProof.Rows L2 TL
/-! ### texts: parts, signs, words -/
def D.cutS (d : D) (lo hi : Option Int) : Option D := match d with
  | .str z => guardO (decide (z.length ≤ LIM)) (some (.str (L2.cutS z lo hi)))
  | _ => none
def sg (c : Nat) : D := .str ⟨#[c]⟩
def itemsS : D → DM (List D)
  | .str z => pure ((tl z).map sg)
  | _ => stuck
def D.inS : D → D → Option D
  | .str x, .str y => match tl x with
    | [c] => some (.bl (decide (c ∈ tl y)))
    | _ => none
  | _, _ => none
def mkS (l : List Nat) : Str := ⟨l.toArray⟩
def D.splitC (z : Str) : D → Option D
  | .str a => guardO (decide (a.length ≤ 1000)) (some (.lst ((spl (tl z) 0 [] (tl a)).map fun l => .str (mkS l))))
  | _ => none
def digs (l : List Nat) : Bool := l.all fun c => decide (48 ≤ c) && decide (c ≤ 57)
def D.int1 : List D → Option D
  | [.str a] => if tl a ≠ [] ∧ (tl a).length ≤ 100 ∧ digs (tl a) = true then some (.int ((NumText.digitsVal (tl a) : Nat) : Int)) else none
  | _ => none
theorem rep_strs {G : Rg} {Z : List Addr} {H : Hp} : ∀ ys : List Str, RepAll G Z H (ys.map V.str) (ys.map D.str)
  | [] => .nil
  | y :: ys => .cons (.str y) (rep_strs ys)
section
variable {X : Cx}
theorem sd_cutS : SlR X (rDs D.cutS) := fun pins s σ H x v vl vu lo hi sl Q I rx hs h1 h2 ⟨G, Z, dx, d, hz, r1, hf, q⟩ => sl_str pins s σ H x v vl vu lo hi sl Q I rx hs h1 h2 (by
  match dx, r1, hf with
  | .str z, r1, hf =>
    obtain ⟨c, hf⟩ := guardO_some hf
    cases hf
    exact ⟨z, rep_str r1, lim_le (of_decide_eq_true c), q _ H (Same.refl H) (.str _)⟩)
theorem od_inS : OpR X (compareOp .In) (rD D.inS) := opr_imp op_in_sign fun x y H Q ⟨G, Z, dx, dy, d, hz, rx, ry, hf, q⟩ => by
  match dx, dy, rx, ry, hf with
  | .str a, .str b, rx, ry, hf =>
    simp only [D.inS] at hf
    split at hf
    · rename_i c hc
      cases hf
      have ea : a = ⟨#[c]⟩ := ext_tl (hc.trans rfl)
      exact ⟨c, b, by rw [rep_str rx, ea], rep_str ry, q _ H (Same.refl H) (.bl _)⟩
    · cases hf
def D.mulS : D → D → Option D
  | .str x, .int i => guardO (decide (x.length ≤ 16 ∧ 0 ≤ i ∧ i ≤ 1000)) (some (.str (Txt.mul x i)))
  | _, _ => none
theorem od_mulS : OpR X (binaryOp .Mult) (rD D.mulS) := fun pins s σ H x y v u Q I rx ry ⟨G, Z, dx, dy, d, hz, r1, r2, hf, q⟩ => by
  match dx, dy, r1, r2, hf with
  | .str a, .int i, r1, r2, hf =>
    obtain ⟨c, hf⟩ := guardO_some hf
    cases hf
    have c := of_decide_eq_true c
    rw [rep_str r1] at rx
    rw [rep_int r2] at ry
    obtain ⟨t, rfl⟩ := rx
    obtain ⟨t2, rfl⟩ := ry
    exact PySem.W.KXi.mul rfl c.1 (by omega) (by omega) fun t' k _ _ => ⟨.str _, H, I.tok k, ⟨t', rfl⟩, q _ H (Same.refl H) (.str _)⟩
theorem cd_tuple : CallR X (.type "tuple") (rDc D.tuple) := callr_imp call_tuple_of fun xs H Q ⟨G, Z, ds, d, hz, r, hf, q⟩ => by
  match ds, r, hf with
  | [.lst ys], .cons r1 .nil, hf =>
    cases hf
    obtain ⟨a, vs, rfl, na, ha, hr⟩ := rep_lst r1
    refine ⟨a, vs, rfl, .inl ⟨SqL.of ha, fun l hl => ?_⟩⟩
    obtain ⟨h1, h2⟩ := newT hz hl hr
    exact q _ _ h1 h2
  | [.tup ys], .cons r1 .nil, hf =>
    cases hf
    obtain ⟨a, vs, rfl, na, ha, hr⟩ := rep_tup r1
    exact ⟨a, vs, rfl, .inr ⟨SqT.of ha, q _ H (Same.refl H) (.tup na ha hr)⟩⟩
theorem cd_int : CallR X (.type "int") (rDc D.int1) := callr_imp call_int_str fun xs H Q ⟨G, Z, ds, d, hz, r, hf, q⟩ => by
  match ds, r, hf with
  | [.str a], .cons r1 .nil, hf =>
    simp only [D.int1] at hf
    split at hf
    · rename_i h
      cases hf
      rw [rep_str r1]
      refine ⟨a, _, rfl, intText_digits (x := a) (fun c hc => ?_) h.1 (by rw [len_tl]; omega), by rw [len_tl]; omega, q _ H (Same.refl H) (.int _)⟩
      have := List.all_eq_true.mp h.2.2 c hc
      rw [Bool.and_eq_true] at this
      exact ⟨of_decide_eq_true this.1, of_decide_eq_true this.2⟩
    · cases hf
theorem pe_splitC {o : Expr} {to : TE} {z : Str} {j : _} {p apos pos : Pos} (ho : PE X o to) (hz1 : tl z ≠ [] := by decide +kernel) (hz2 : z.cps.all (· < 256) = true := by decide +kernel) (hs : starEach [.Constant (.str z) j p] X.env = [(false, eval (.Constant (.str z) j p) X.env)] := by rfl)
    (hbase : attributeBase o "split" X.env (eval o X.env) = eval o X.env := by rfl) (hline : (apos.endLine == pos.line) = true := by rfl) :
    PE X (.Call (.Attribute o "split" apos) [.Constant (.str z) j p] [] pos) (tUn (rDu (D.splitC z)) to) := by
  have hw : PE X o (fun σ H Q => ∃ Q0 : VK, to σ H Q0 ∧ ∀ x H1, Q0 x H1 → Q x H1) := ⟨fun pins s σ H Q I h => by
    obtain ⟨Q0, h0, k⟩ := h
    exact thn (ho.run pins s σ H Q0 I h0) fun v s1 ⟨x, H1, I1, r1, q1⟩ => ⟨x, H1, I1, r1, k x H1 q1⟩⟩
  refine ⟨fun pins s σ H Q I h => (pe_split hw (pe_str (x := z) (j := j) (pos := p)) hs hbase hline).run pins s σ H Q I ⟨_, h, fun x H1 q => ?_⟩⟩
  obtain ⟨G, Z, dx, d, hz, r, hf, q⟩ := q
  match dx, r, hf with
  | .str a, r, hf =>
    obtain ⟨c, hf⟩ := guardO_some hf
    cases hf
    rw [rep_str r]
    refine ⟨⟨a, rfl⟩, a, z, rfl, rfl, ?_, ?_, fun pp hp => ?_⟩
    · have := len1 hz1
      exact beq_eq_false_iff_ne.mpr (by omega)
    · exact Nat.le_trans (Nat.add_le_add_right (of_decide_eq_true c) 2) (Nat.le_trans (by decide : 1002 ≤ LIM) (lim_le (Nat.le_refl _)))
    · obtain ⟨h1, h2⟩ := newL hz hp (rep_strs (G := G) (Z := Z) (H := H1) (Txt.split a z))
      have e : (Txt.split a z).map D.str = (spl (tl z) 0 [] (tl a)).map fun l => .str (mkS l) := by
        rw [← split_spl a z hz1 (kind_ok hz2), List.map_map]
        refine List.map_congr_left fun y _ => ?_
        show D.str y = D.str (mkS (tl y))
        rw [show mkS (tl y) = y from mk_tl y]
      rw [e] at h2
      exact q _ _ h1 h2
end
section
variable {cl : Cl} {E : XK} {os : List (Nat × Bool)} {te : TE} {ge : Env → DM D} {w : Bool}
theorem ei_str (h : Ev cl E os te true ge) : EvI cl E os true (iStr te) (fun ρ => ge ρ >>= itemsS) := fun {G H0 B Z0 O ρ s σ H} R F k => by
  refine h _ F (k.bind.mono (fun d s' k v H' e a r => ?_) fun _ _ k => k)
  cases d with
  | str z =>
    have hl : ((tl z).map sg).length = z.cps.size := by rw [List.length_map]; exact Array.length_toList
    refine ⟨z, rep_str r, k _ H' e a fun Z' hZ => ⟨fun H e => ?_, fun i H l e => ?_, fun i H x H2 d hd e dm y => ?_⟩⟩
    · show z.cps.size ≤ _
      rw [hl]; exact Nat.le_refl _
    · show i < z.cps.size
      rw [← hl]; exact l
    · obtain ⟨rfl, c, hc, rfl⟩ := y
      refine ⟨Same.refl _, ?_⟩
      rw [List.getElem?_map, show (tl z)[i]? = some c from by rw [← hc]; exact Array.getElem?_toList] at hd
      cases hd
      exact .str _
  | _ => exact k.elim
theorem i_str (h : Ew cl E os te true ge) : EwI cl E os w (iStr te) (gIt itemsS ge) := ⟨EvI.weak (ei_str h.1)⟩
end
end DL

namespace DL
open PySem PySem.Spec PyProof.Rows L2
/-! ### a comprehension whose element raises -/
theorem traced_but {h h' B : Heap} {e L : Addr} {Z : Obj → Prop} {fl : Value} {m : Str → Option Value} (x : HandSPX.TracedZ h B e Z fl) (hn : h.Ns L m) (hs : Heap.SameBut L h h') : HandSPX.TracedZ h' B e Z fl := by
  obtain ⟨oe, vs, T, oT, ts, x1, x2, x3, x4, x5, x6, x7, x8, x9⟩ := x
  obtain ⟨oL, es, ep, y1, y2, _⟩ := hn
  have no : ∀ {b : Addr} {o : Obj} {us : Array Value}, h.get? b = some o → o.data = .fields us → b ≠ L := fun hb hd z => by
    rw [z, y1] at hb
    cases hb
    rw [y2] at hd
    cases hd
  exact ⟨oe, vs, T, oT, ts, (hs.2 e (no x1 x3)).trans x1, x2, x3, x4, x5, x6, (hs.2 T (no x7 x8)).trans x7, x8, x9⟩
theorem traced_base {h B B' : Heap} {e : Addr} {Z : Obj → Prop} {fl : Value} (x : HandSPX.TracedZ h B e Z fl) (k : ∀ b, B.get? b = none → B'.get? b = none) : HandSPX.TracedZ h B' e Z fl := by
  obtain ⟨oe, vs, T, oT, ts, x1, x2, x3, x4, x5, x6⟩ := x
  exact ⟨oe, vs, T, oT, ts, x1, x2, x3, x4, k _ x5, x6⟩
theorem frames_base {h B B' : Heap} (k : ∀ b, B.get? b = none → B'.get? b = none) : ∀ {l : List PySem.Env}, h.FunFrames B l → h.FunFrames B' l
  | [], _ => trivial
  | _ :: _, ⟨h1, ⟨L, o, h2, h3, h4⟩, h5⟩ => ⟨h1, ⟨L, o, h2, k _ h3, h4⟩, frames_base k h5⟩
theorem hide_none {B : Heap} {C b : Addr} (h : B.get? b = none) : (PySem.W.hideAll B [C]).get? b = none := by
  cases q : (PySem.W.hideAll B [C]).get? b with
  | none => rfl
  | some o => rw [PySem.W.of_hideAll _ q] at h; cases h
/-- noted by this frame, whatever came before -/
theorem sky_note {M : Model} {A : Around} {E₁ : Value → Shared → Prop} {env : PySem.Env} {outer : List PySem.Env} {L a : Addr} {B : Heap} {Z : Obj → Prop} {s : Shared} {Q : Unit → Shared → Prop} (hZ : HandSPX.Steady Z) (hfr : A.frames = some (env :: outer)) (hf : env.frame = some L)
    (x : Sky B (env :: outer) a Z L s.heap) (hQ : ∀ h', HandSPX.HeldZ B (env :: outer) a Z L h' → s.heap.UpToSlots h' → Q () { s with heap := h' }) : wpAny M A (noteFrame (.ref a) env) Q E₁ s := by
  rcases x with ⟨x1, x2, x3, oe, vs, x4, x5, x6, x7⟩ | x | x
  · exact HandSPX.look_newZ hZ hfr x3 hf x4 x1 x2 x6 x7 x5 hQ
  · exact HandSPX.looks_onZ hZ hfr hf x hQ
  · exact HandSPX.againZ hf x.2.2.2 (hQ s.heap x (Heap.UpToSlots.refl _))
section
variable {X : Cx} {pins : List (Addr × Obj)} {σ : L2.St} {H : Hp} {sI s' : Shared} {E : XK} {W : WX} {C : Addr} {m : Str → Option Value} {ce : PySem.Env} {e : Value}
/-- out of a call in the block: it goes on in the def's own frame -/
theorem comp_out (I : Inv X pins σ H sI) (c : L2.CX X.prog X.w X.stack H sI E e s') (hW : ∀ cls d H', E cls d H' → W cls d σ H') (tk : Takes X W) (hst : X.stack = X.env :: X.outer) (hf : X.env.frame = some X.env.locals) (hcf : ce.frame = X.env.frame) (hl : ce.locals = C)
    (hC : FpOk X pins H C) (hfs : C ∉ frs X.stack) (hn : sI.heap.Ns C m) : notedBy (model X.prog X.w) X.A ce (CompFails (model X.prog X.w) X.A X.xe ce) e s' := by
  obtain ⟨f0, f1, f2, f3, f4, f5⟩ := hC
  obtain ⟨oC, es, ep, hoC, hdC, hr⟩ := hn
  have c2 : s'.heap.Ns C m ∧ L2.CX X.prog X.w X.stack H sI (fun cls d H' => E cls d H' ∧ H' C = none) e s' := by
    obtain ⟨a, B, H', cls, d, c1, fl, hok, ub, na, c3, c4, hE⟩ := c
    exact ⟨⟨oC, es, ep, fl.1 C oC (ub.keep C oC hoC f0 hfs), hdC, hr⟩, a, B, H', cls, d, c1, fl, hok, ub, na, c3, c4, hE, ub.free C oC hoC f0⟩
  obtain ⟨nC, c2⟩ := c2
  obtain ⟨a, B, sJ, pJ, σJ, HJ, cls, d, rfl, J, nb, up, sky, na, os, ag, w, hJ⟩ := XE.of_call (W := fun cls d σ' H' => W cls d σ' H' ∧ H' C = none) I (fun cls d H' h => ⟨hW _ _ _ h.1, h.2⟩) c2
  have hfr : X.A.frames = some (X.env :: X.outer) := by rw [I.ok.frames, hst]
  rw [hst] at sky
  show wpAny _ _ (noteFrame (.ref a) ce) _ _ s'
  rw [noteFrame_env _ hcf]
  refine sky_note Zc.steady hfr hf sky fun h1 hh up1 => ?_
  refine ⟨m, by rw [hl]; exact nC.upToSlots up1, fun h2 m2 hn2 sb => ?_⟩
  rw [hl] at hn2 sb
  have k : ∀ b, B.get? b = none → (PySem.W.hideAll B [C]).get? b = none := fun b h => hide_none h
  have hh2 : HandSPX.HeldZ (PySem.W.hideAll B [C]) (X.env :: X.outer) a (Zc cls d) X.env.locals h2 := by
    obtain ⟨g1, g2, g3, g4⟩ := hh
    refine ⟨fun b o hb => ?_, k _ g2, frames_base k (Heap.FunFrames.sameBut sb hn2 g3), traced_base (traced_but g4 (nC.upToSlots up1) sb) k⟩
    have ne : b ≠ C := fun z => by rw [z, PySem.W.hideAll_none [C] (by simp)] at hb; cases hb
    exact (sb.2 b ne).trans (g1 b o (PySem.W.of_hideAll _ hb))
  obtain ⟨oe, vs, T, oT, ts, t1, t2, t3, t4, t5, t6⟩ := hh2.2.2.2
  unfold PySem.passOn
  refine wpAny_bind (wpAny_field t1 t3 t4 ?_)
  rw [if_neg (show ¬ ((Value.ref T == Value.none) = true) from by simp), hcf, hf]
  refine wpAny_bind (HandSPX.setFlight_onZ hh2 fun h3 hh3 up3 => wpAny_throw (tk _ _ ?_))
  have J2 : Inv X [] σJ HJ { sJ with heap := PySem.W.hideAll sJ.heap [C], toks := sJ.toks } := (J.unpinned (pins := []) (pl := pJ)).turned (it := C) (fun b o hb h => PySem.W.hideAll_get _ h (by simpa using hb)) hJ f1 f3 f4 fun p hp => f5 p (by
    rcases List.mem_append.mp hp with z | z
    · exact List.mem_append_left _ z
    · cases z)
  refine ⟨a, PySem.W.hideAll B [C], _, [], σJ, HJ, cls, d, rfl, J2, fun b o hb hs => ?_, fun b o hb hd => ?_, .inr (.inr (by rw [hst]; exact hh3)), na, os, ag, w⟩
  · have ne : b ≠ C := fun z => by
      have hb : (PySem.W.hideAll sJ.heap [C]).get? b = some o := hb
      rw [z, PySem.W.hideAll_none [C] (by simp)] at hb; cases hb
    exact PySem.W.hideAll_get _ (nb b o (PySem.W.of_hideAll _ hb) hs) (by simpa using ne)
  · have hb : (PySem.W.hideAll sJ.heap [C]).get? b = some o := hb
    have ne : b ≠ C := fun z => by rw [z, PySem.W.hideAll_none [C] (by simp)] at hb; cases hb
    obtain ⟨s1, u1⟩ := up b o (PySem.W.of_hideAll _ hb) hd
    obtain ⟨s2, u2⟩ := up1 b _ u1 hd
    obtain ⟨s3, u3⟩ := up3 b _ ((sb.2 b ne).trans u2) hd
    exact ⟨s3, u3⟩
end
/-- the block's context: what leaves it came out of a call -/
abbrev blkX (X : Cx) (E : XK) (s : Shared) (H : Hp) (scope : Scope) (ce : PySem.Env) (fp : List Addr) : Cx :=
  (X.blk s H scope ce fp).wish fun e s' => ∃ (pins : List (Addr × Obj)) (σ : L2.St) (H' : Hp) (sI : Shared), Inv (X.blk s H scope ce fp) pins σ H' sI ∧ L2.CX X.prog X.w X.stack H' sI E e s'
theorem passX {X : Cx} {E : XK} {s : Shared} {H : Hp} {scope : Scope} {ce : PySem.Env} {fp : List Addr} : Passes (L2.CX X.prog X.w) (blkX X E s H scope ce fp) E := fun pins σ H' sI e s' I c => ⟨pins, σ, H', sI, I.unwish, c⟩
section
variable {X : Cx} {E : XK} {W : WX}
theorem lc_out {pins : List (Addr × Obj)} {s : Shared} {σ : L2.St} {H : Hp} {Q : VK} {elt tg iter : Expr} {ifs : List Expr} {scope : Scope} {own : List (Str × Nat)} {pos pos' : Pos} {wi : TI} {g : TG} {tt : TT} {te : TE} {Qf : Value → Shared → Prop}
    (hW : ∀ cls d σ H', E cls d H' → W cls d σ H') (tk : Takes X W) (hst : X.stack = X.env :: X.outer) (hf : X.env.frame = some X.env.locals)
    (calm : X.calm = true) (nd : X.N.Nodup) (I0 : Inv X pins σ H s) (hi : PI X tg iter wi) (ok : BlkOk X.N X.env.scope scope own)
    (hg : ∀ (s : Shared) (H : Hp) (C : Addr) (cl : List (Str × Addr)) (fp : List Addr), PG (blkX X E s H scope (compEnvC scope cl C X.env) fp) tg g)
    (ht : ∀ (s : Shared) (H : Hp) (C : Addr) (cl : List (Str × Addr)) (fp : List Addr), PTs (blkX X E s H scope (compEnvC scope cl C X.env) fp) ifs tt)
    (he : ∀ (s : Shared) (H : Hp) (C : Addr) (cl : List (Str × Addr)) (fp : List Addr), PE (blkX X E s H scope (compEnvC scope cl C X.env) fp) elt te) (hs : ∀ x, foldedSetIterable iter X.env x = pure x)
    (wish : tLc wi g tt te (own.map (·.2)) σ H Q)
    (fin : ∀ D C s' m H', Inv X pins σ H' s' → Q (.ref D) H' → s'.heap.Ns C m → FpOk X pins H' C → ∃ m, s'.heap.Ns C m ∧ ∀ h', Heap.SameBut C s'.heap h' → Qf (.ref D) { s' with heap := h' }) :
    wpAny (model X.prog X.w) X.A (comprehension (.ListComp elt [⟨tg, iter, ifs, 0⟩] scope pos) scope X.env pos' (newList []) false (eval iter X.env) none) Qf X.xe s := by
  have free : ∀ y ∈ scope.names, y.2 = .free → ∃ c, X.env.cells.lookup y.1 = some c := fun y hy e => I0.ok.has _ ((ok.free y hy e).imp (fun z => z) fun z => z)
  refine comprehension_at (use := none) rfl hs (closure_ok free) ok.kind (fun y hy e => by rw [ok.uniq y hy, e]) (thn (hi.run pins s σ H _ I0 wish) fun xv s1 h1 => thn h1 fun itv s2 h2 => ?_)
  obtain ⟨it, fp, tn, J, H2, rfl, I2, T, st2, f2, todo⟩ := h2
  refine wpAny_newObj_type (newEnv_comp ?_) (Nat.zero_le _)
  obtain ⟨D, eD⟩ : ∃ D, D = s2.heap.objs.size := ⟨_, rfl⟩
  rw [← eD]
  have freshD : H2 D = none := I2.hok.fresh (Nat.le_of_eq eD.symm)
  obtain ⟨Wt, ⟨m0, w0⟩, turn⟩ := todo D freshD
  obtain ⟨s3, e3⟩ : ∃ s3 : Shared, s3 = { s2 with heap := s2.heap.push { cls := .type "list", data := .seq ([] : List Value).toArray } } := ⟨_, rfl⟩
  rw [← e3]
  have heap3 : s3.heap = s2.heap.push { cls := .type "list", data := .seq ([] : List Value).toArray } := by rw [e3]
  have keep3 : ∀ b o, s2.heap.get? b = some o → s3.heap.get? b = some o := fun b o e => by rw [heap3]; exact Heap.get?_push_of_some _ e
  have I3 : Inv X pins σ (upd H2 D (.lst [])) s3 := by
    rw [e3]
    refine I2.laid (t' := s2.toks) (fun b o e => Heap.get?_push_of_some _ e) (Nat.le_of_eq eD.symm) ⟨Nat.zero_le _, [], 0, .nil, ?_⟩
    rw [eD]
    exact Heap.get?_push_size _ rfl
  have young : ∀ b ∈ fp, b < s2.heap.objs.size := fun b hb => let ⟨o, e, _⟩ := T.obj _ _ st2 b hb; Heap.lt_size e
  have f3 : ∀ b ∈ fp, FpOk X pins (upd H2 D (.lst [])) b ∧ b < s3.heap.objs.size := fun b hb => by
    have lt := young b hb
    exact ⟨⟨by rw [upd_ne (by rw [eD]; exact Nat.ne_of_lt lt)]; exact (f2 b hb).1, (f2 b hb).2⟩, by rw [heap3, Heap.size_push]; exact Nat.lt_succ_of_lt lt⟩
  have st3 : tn 0 s3.heap := T.keep _ _ _ st2 fun b _ o e => keep3 b o e
  obtain ⟨C, eC⟩ : ∃ C, C = s3.heap.objs.size := ⟨_, rfl⟩
  obtain ⟨cl, ecl⟩ : ∃ cl, cl = cellsFrom (s3.heap.objs.size + 1) scope.names (cloFrom X.env.cells scope.names []) := ⟨_, rfl⟩
  have start := block_start I3 ok nd f3
  rw [← ecl, ← eC] at start
  have pg := hg s3 (upd H2 D (.lst [])) C cl fp
  have pt := ht s3 (upd H2 D (.lst [])) C cl fp
  have pe := he s3 (upd H2 D (.lst [])) C cl fp
  show codeAny _ _ (.compStart (.ListComp elt [⟨tg, iter, ifs, 0⟩] scope pos) 0 (.ref it) (.ref D) (compEnvC scope (cellsFrom (s3.heap.objs.size + 1) scope.names (cloFrom X.env.cells scope.names [])) s3.heap.objs.size X.env)) (compEnds (model X.prog X.w) X.A X.xe none Qf (.ref D) (compEnvC scope (cellsFrom (s3.heap.objs.size + 1) scope.names (cloFrom X.env.cells scope.names [])) s3.heap.objs.size X.env)) { s3 with heap := pushCells (s3.heap.push { cls := .type "dict", data := .dict #[] }) scope.names }
  rw [← ecl, ← eC]
  have nfp : ∀ b ∈ fp, (upd H2 D (.lst [])) b = none := fun b hb => (f3 b hb).1.1
  obtain ⟨ce, ece⟩ : ∃ ce, ce = compEnvC scope cl C X.env := ⟨_, rfl⟩
  rw [← ece] at start pg pt pe ⊢
  have hl : ce.locals = C := by rw [ece]; rfl
  have hcf : ce.frame = X.env.frame := by rw [ece]; rfl
  obtain ⟨H3, eH3⟩ : ∃ H3, H3 = upd H2 D (.lst []) := ⟨_, rfl⟩
  rw [← eH3] at I3 start pg pt pe w0 nfp f3
  obtain ⟨s4, e4⟩ : ∃ s4 : Shared, s4 = { s3 with heap := pushCells (s3.heap.push { cls := .type "dict", data := .dict #[] }) scope.names } := ⟨_, rfl⟩
  rw [← e4] at start ⊢
  have st4 : tn 0 s4.heap := T.keep _ _ _ st3 fun b _ o e => by rw [e4]; exact pushCells_keeps _ _ _ _ (Heap.get?_push_of_some _ e)
  have stat : ∀ {σ' : L2.St} {H' : Hp} {s' : Shared}, Inv (blkX X E s3 H3 scope ce fp) [] σ' H' s' → (∀ b ∈ fp, H' b = none) → ∀ b ∈ fp, FpOk (blkX X E s3 H3 scope ce fp) [] H' b := fun {σ' H' s'} I' hn b hb =>
    ⟨hn b hb, (I'.ok.exf b hb).1, I'.ok.exfs b hb, .inl hb, fun x c e => (I'.ok.exf b hb).2 x c e, fun p hp => absurd (show p ∈ ([] : List (Addr × Obj)) ++ [] from hp) (by simp)⟩
  -- back in the def's context
  have home : ∀ {p' : List (Addr × Obj)} {σ' : L2.St} {H' : Hp} {s' : Shared}, Inv (X.blk s3 H3 scope ce fp) p' σ' H' s' → Inv X pins σ H' s' ∧ H' C = none ∧ ∃ m, s'.heap.Ns C m := fun {p' σ' H' s'} I' =>
    ⟨I3.call' (ch := fp) I'.os I'.base I'.hok I'.bare fun b hb => ⟨(f3 b hb).1.2.2.2.1, (f3 b hb).1.2.1, (f3 b hb).1.2.2.2.2.1, (f3 b hb).1.2.2.2.2.2⟩, by
      have z : H' ce.locals = none := I'.free
      rw [hl] at z
      exact z, by
      obtain ⟨m, hn, _⟩ := I'.loc
      exact ⟨m, by rw [← hl]; exact hn⟩⟩
  have fail : ∀ e s', (blkX X E s3 H3 scope ce fp).xe e s' → notedBy (model X.prog X.w) X.A ce (fun e s' => compEnds (model X.prog X.w) X.A X.xe none Qf (.ref D) ce (.error e) s') e s' := fun e s' ⟨p', σ', H', sI, I', c⟩ => by
    obtain ⟨IX, nC, m, hn⟩ := home I'
    refine comp_out IX c (fun cls d H'' h => hW cls d σ H'' h) tk hst hf hcf hl (I3.fpOk (Nat.le_of_eq eC.symm) nC) (fun hC => ?_) hn
    rw [hst] at hC
    rcases List.mem_cons.mp (I3.stkSub C (by rw [hst]; exact hC)) with z | z
    · exact (I3.fpOk (H' := H') (Nat.le_of_eq eC.symm) nC).2.1 z
    · exact (I3.fpOk (H' := H') (Nat.le_of_eq eC.symm) nC).2.2.1 z
  have thx : ∀ {α : Type} {t : Sem α} {Q1 Q2 : α → Shared → Prop} {s : Shared}, wpAny (model X.prog X.w) X.A t Q1 (blkX X E s3 H3 scope ce fp).xe s → (∀ a s, Q1 a s → Q2 a s) →
      wpAny (model X.prog X.w) X.A t Q2 (notedBy (model X.prog X.w) X.A ce (fun e s' => compEnds (model X.prog X.w) X.A X.xe none Qf (.ref D) ce (.error e) s')) s := fun h k => wpAny_mono h k fail
  have loop : codeAny (model X.prog X.w) X.A (.compLoop (.ListComp elt [⟨tg, iter, ifs, 0⟩] scope pos) 0 (.ref it) (.ref D) ce) (compEnds (model X.prog X.w) X.A X.xe none Qf (.ref D) ce) s4 := by
    refine compLoop_any (fun n s' => ∃ i H', Inv (blkX X E s3 H3 scope ce fp) [] (wipe σ (own.map (·.2))) H' s' ∧ tn i s'.heap ∧ (∀ b ∈ fp, H' b = none) ∧ Wt i n H') ?_ m0 ⟨0, H3, start.wish _, st4, nfp, w0⟩
    rintro n s5 ⟨i, H5, I5, st5, n5, w5⟩
    rcases turn i n H5 w5 with ⟨stop, qq⟩ | ⟨go, Nx, hNx, step⟩
    · refine thnF (T.done (blkX X E s3 H3 scope ce fp) rfl rfl rfl calm i [] s5 _ H5 (fun _ _ => False) I5 (stat I5 n5) st5 stop) fun r s6 ⟨hr, I6⟩ => ?_
      subst hr
      obtain ⟨IX, nC, m, hn⟩ := home I6.unwish
      obtain ⟨m2, hn2, k⟩ := fin D C s6 m H5 IX qq hn (I3.fpOk (Nat.le_of_eq eC.symm) nC)
      exact ⟨m2, by rw [hl]; exact hn2, by rw [hl]; exact k⟩
    · refine thnF (T.item (blkX X E s3 H3 scope ce fp) rfl rfl rfl calm i [] s5 _ H5 (fun _ _ => False) I5 (stat I5 n5) st5 go) fun r s6 ⟨u, hr, h6⟩ => ?_
      subst hr
      refine thnF h6 fun _ s7 ⟨x, H7, I7, r7, y7, st7, n7⟩ => ?_
      have I7p := I7.pinned (stat I7 n7) (T.obj _ _ st7)
      refine thx (pg.run _ s7 _ H7 x u _ I7p r7 (step x H7 y7)) fun _ s8 ⟨σ8, H8, I8, hw8, q8⟩ => ?_
      refine thx (pt.run _ s8 σ8 H8 _ I8 q8) fun b s9 ⟨H9, I9, q9⟩ => ?_
      have over : ∀ {s' : Shared} {H' : Hp}, Inv (blkX X E s3 H3 scope ce fp) ([] ++ pinsAt fp s7.heap) σ8 H' s' → Nx H' → ∃ m, m < n ∧ ∃ i H', Inv (blkX X E s3 H3 scope ce fp) [] (wipe σ (own.map (·.2))) H' s' ∧ tn i s'.heap ∧ (∀ b ∈ fp, H' b = none) ∧ Wt i m H' := fun {s' H'} I' nx => by
        obtain ⟨m', hm, w'⟩ := hNx H' nx
        have pin : ∀ b ∈ fp, ∀ o, s7.heap.get? b = some o → s'.heap.get? b = some o ∧ H' b = none := fun b hb o e => by
          have z := I'.pin (b, o) (List.mem_append_right _ (List.mem_append_right _ (mem_pinsAt hb e)))
          exact ⟨z.1, z.2.1⟩
        refine ⟨m', hm, i + 1, H', (I'.unpinned (pins := [])).weak (by rw [← hw8, wipe_length]) (fun j v e => (wipe_some (by rw [hw8]; exact e)).1), T.keep _ _ _ st7 fun b hb o e => (pin b hb o e).1, fun b hb => ?_, w'⟩
        obtain ⟨o, e, _⟩ := T.obj _ _ st7 b hb
        exact (pin b hb o e).2
      cases b with
      | false =>
        simp only [Bool.false_eq_true, if_false] at q9 ⊢
        exact over I9 q9
      | true =>
        simp only [if_true] at q9 ⊢
        refine thx (pe.run _ s9 σ8 H9 _ I9 q9) fun z s10 ⟨yv, H10, I10, r10, acc, hD10, hz10, nx⟩ => ?_
        exact app_ok (X := blkX X E s3 H3 scope ce fp) I10 hD10 hz10 r10 fun s11 I11 => over I11 nx
  exact codeAny_compStart_list loop (T.self X.A 0 _ _ _ st4 loop)
/-- as a value -/
theorem pe_lcX {elt tg iter : Expr} {ifs : List Expr} {scope : Scope} {own : List (Str × Nat)} {pos : Pos} {wi : TI} {g : TG} {tt : TT} {te : TE} (hW : ∀ cls d σ H', E cls d H' → W cls d σ H') (tk : Takes X W) (hst : X.stack = X.env :: X.outer) (hf : X.env.frame = some X.env.locals)
    (calm : X.calm = true) (nd : X.N.Nodup) (hi : PI X tg iter wi) (ok : BlkOk X.N X.env.scope scope own)
    (hg : ∀ (s : Shared) (H : Hp) (C : Addr) (cl : List (Str × Addr)) (fp : List Addr), PG (blkX X E s H scope (compEnvC scope cl C X.env) fp) tg g)
    (ht : ∀ (s : Shared) (H : Hp) (C : Addr) (cl : List (Str × Addr)) (fp : List Addr), PTs (blkX X E s H scope (compEnvC scope cl C X.env) fp) ifs tt)
    (he : ∀ (s : Shared) (H : Hp) (C : Addr) (cl : List (Str × Addr)) (fp : List Addr), PE (blkX X E s H scope (compEnvC scope cl C X.env) fp) elt te) (hs : ∀ x, foldedSetIterable iter X.env x = pure x := by intro _; rfl) :
    PE X (.ListComp elt [⟨tg, iter, ifs, 0⟩] scope pos) (tLc wi g tt te (own.map (·.2))) := by
  refine ⟨fun pins s σ H Q I h => ?_⟩
  rw [eval_ListComp]
  refine lc_out hW tk hst hf calm nd I hi ok hg ht he hs h fun D C s' m H' I' q hn f => ⟨m, hn, fun h2 sb => ?_⟩
  exact ⟨.ref D, H', I'.turned (t' := s'.toks) (fun b o hb e => (sb.2 b hb).trans e) f.1 f.2.1 f.2.2.2.1 f.2.2.2.2.1 f.2.2.2.2.2, rfl, q⟩
end
end DL

namespace DL
open PySem PySem.Spec PyProof.Rows L2
def compDX (f : D → Env → Option Env) (c : Env → DM Bool) (e : Env → DM D) (ρ : Env) : List D → DM (List D)
  | [] => pure []
  | d :: ds => liftO (f d ρ) >>= fun ρ1 => noEr (c ρ1) >>= fun k => if k = true then e ρ1 >>= fun y => compDX f c e ρ ds >>= fun ys => pure (y :: ys) else compDX f c e ρ ds
def gCompX (vs : List Nat) (gi : Env → DM (List D)) (f : D → Env → Option Env) (c : Env → DM Bool) (e : Env → DM D) : Env → DM (List D) := fun ρ => gi ρ >>= fun its => lenOk its >>= fun its => compDX f c e (wipeE ρ vs) its
section
variable {cl : Cl} {E : XK} {os : List (Nat × Bool)} {te tk : TE} {ge gk : Env → DM D} {tt : TT} {gt : Env → DM Bool} {tg : TG} {f : D → Env → Option Env} {vs : List Nat} {w : Bool} {wi : TI} {gi : Env → DM (List D)}
theorem ev_lcX (hv : (os.all fun p => !vs.contains p.1) = true) (hi : EvI cl E os w wi gi) (hg : EvG (clr os) vs tg f) (ht : EvT cl E0 (clr os) tt gt) (he : Ev cl E (clr os) te true ge) :
    EvN cl E os (tLc wi tg tt te vs) (fun ρ => gi ρ >>= fun its => lenOk its >>= fun its => compDX f gt ge (wipeE ρ vs) its) := fun {G H0 B Z0 O ρ s σ H} Q F k => by
  have hv' : ∀ p ∈ os, vs.contains p.1 = false := fun p hp => by
    have := List.all_eq_true.mp hv p hp
    simpa using this
  refine hi _ F (k.bind.mono (fun its s1 k J H1 e a it D hD => ?_) fun _ _ k => k)
  obtain ⟨hlen, k⟩ := wp_lenOk k.bind
  have F1 := F.step e a
  have IT := it (D :: (adr O ++ Z0)) (.inr ⟨D, hD, rfl⟩)
  have nD : D ∉ adr O ++ Z0 := fun z => F1.domZ D (.inl z) hD
  have nDY : D ∉ G.Y := fun z => nD (F.sub D z)
  have hD0 : H D = none := fresh_back F s1 a e hD
  have sub' : ∀ x ∈ adr O ++ Z0, x ∈ D :: (adr O ++ Z0) := fun x hx => List.mem_cons_of_mem _ hx
  refine ⟨fun i m H2 => m + i = its.length ∧ ∃ s' aV aD, H2 D = some (.lst aV) ∧ ¬ G.R H2 D ∧ RepAll G (D :: (adr O ++ Z0)) H2 aV aD ∧ aD.length ≤ i ∧ Ext G G.Y H1 H2 ∧ G.A s' H2 ∧
      Wp (compDX f gt ge (wipeE ρ vs) (its.drop i) s') (fun ys s' => ∀ p vs H', Ext G G.Y H H' → H p = none → ¬ G.R H' p → H' p = some (.lst vs) → G.A s' H' → RepAll G (p :: (adr O ++ Z0)) H' vs (aD ++ ys) → Q (.ref p) H') (fun e s' => ∀ H', Ext G G.Y H H' → G.A s' H' → E (.ref (cl e)) none H'),
    ⟨its.length, rfl, s1, [], [], upd_same, (F1.domZ.av hD).2, .nil, Nat.zero_le _, Ext.new hD, F1.same (same_new hD), k⟩, fun i m H2 ⟨hm, s', aV, aD, hD2, nR2, rA, lA, e2, a2, k2⟩ => ?_⟩
  have ew : Ext G (if w then adr O ++ Z0 else G.Y) H1 H2 := by
    cases w with
    | true => exact e2.sub F.sub
    | false => exact e2
  by_cases hl : i < its.length
  · refine .inr ⟨IT.go i H2 hl ew, fun H3 => ∃ m', m' < m ∧ m' + (i + 1) = its.length ∧ ∃ s' aV aD, H3 D = some (.lst aV) ∧ ¬ G.R H3 D ∧ RepAll G (D :: (adr O ++ Z0)) H3 aV aD ∧ aD.length ≤ i + 1 ∧ Ext G G.Y H1 H3 ∧ G.A s' H3 ∧
      Wp (compDX f gt ge (wipeE ρ vs) (its.drop (i + 1)) s') (fun ys s' => ∀ p vs H', Ext G G.Y H H' → H p = none → ¬ G.R H' p → H' p = some (.lst vs) → G.A s' H' → RepAll G (p :: (adr O ++ Z0)) H' vs (aD ++ ys) → Q (.ref p) H') (fun e s' => ∀ H', Ext G G.Y H H' → G.A s' H' → E (.ref (cl e)) none H'), fun _ h => h, fun x H3 y => ?_⟩
    have dr : its.drop i = its[i] :: its.drop (i + 1) := List.drop_eq_getElem_cons hl
    rw [dr] at k2
    obtain ⟨ρ1, e1, k3⟩ := wp_liftO (Wp.bind (x := liftO (f its[i] (wipeE ρ vs))) k2)
    have dm2 : dom G (D :: (adr O ++ Z0)) H2 := fun x hx => by
      rcases hx with hx | hx
      · rcases List.mem_cons.mp hx with rfl | hx
        · rw [hD2]; exact Option.some_ne_none _
        · exact (F1.step e2 a2).domZ x (.inl hx)
      · exact (F1.step e2 a2).domZ x (.inr hx)
    obtain ⟨sm, rp⟩ := IT.yld i H2 x H3 its[i] (List.getElem?_eq_getElem hl) ew dm2 y
    have e3 : Ext G G.Y H1 H3 := e2.trans (Same.ext sm)
    have a3 : G.A s' H3 := (F1.step e2 a2).same sm
    have nR3 : ¬ G.R H3 D := fun r => nR2 (G.rs _ _ sm D r)
    have FB := F1.blk hv' hD e3 a3 (sm D _ hD2) nR3 nDY
    have toB : ∀ z ∈ adr (clrO O) ++ (D :: Z0), z ∈ D :: (adr O ++ Z0) := fun z hz => by
      rw [adr_clr] at hz
      rcases List.mem_append.mp hz with hz | hz
      · exact List.mem_cons_of_mem _ (List.mem_append_left _ hz)
      · rcases List.mem_cons.mp hz with rfl | hz
        · exact List.mem_cons_self
        · exact List.mem_cons_of_mem _ (List.mem_append_right _ hz)
    have ofB : ∀ z ∈ D :: (adr O ++ Z0), z ∈ adr (clrO O) ++ (D :: Z0) := fun z hz => by
      rw [adr_clr]
      rcases List.mem_cons.mp hz with rfl | hz
      · exact List.mem_append_right _ List.mem_cons_self
      · rcases List.mem_append.mp hz with hz | hz
        · exact List.mem_append_left _ hz
        · exact List.mem_append_right _ (List.mem_cons_of_mem _ hz)
    refine hg x its[i] ρ1 _ FB (Rep.reg (G := G) (G' := G.plus D (.lst aV) nDY) rfl rfl (rp.low toB)) e1 fun σ4 hw F4 => ⟨hw.trans wipe_wipe, ?_⟩
    -- what the turn keeps, but for D
    have keepG : ∀ {Ha Hb : Hp}, Ext (G.plus D (.lst aV) nDY) (G.plus D (.lst aV) nDY).Y Ha Hb → Ext G (D :: G.Y) Ha Hb := fun h => ⟨h.k, h.r, h.n⟩
    have toP : ∀ x ∈ D :: G.Y, x ∈ D :: (adr O ++ Z0) := fun x hx => by
      rcases List.mem_cons.mp hx with rfl | hx
      · exact List.mem_cons_self
      · exact sub' x (F.sub x hx)
    have un : ∀ {H5 : Hp}, Ext G (D :: G.Y) H3 H5 → Ext G G.Y H1 H5 := fun h => ⟨fun z u n q => h.k z u ⟨fun m => (List.mem_cons.mp m).elim (fun r => by rw [r, hD] at q; cases q) n.1, (e3.av (fun _ z => z) n q).2⟩ (e3.k z u n q), fun z r => (h.r z r).elim (e3.r z) fun h => .inr (by
      cases q : H1 z with
      | none => rfl
      | some o => exact absurd h (e3.n z (by rw [q]; exact Option.some_ne_none _))), fun z q => h.n z (e3.n z q)⟩
    refine ht _ F4 ((Wp.noEr (Wp.bind k3)).mono (fun kk s5 k5 H5 e5 a5 => ?_) fun _ _ (h : False) => h.elim)
    have F5 := F4.step e5 a5
    cases kk with
    | false =>
      rw [if_neg Bool.false_ne_true] at k5 ⊢
      exact ⟨m - 1, by omega, by omega, s5, aV, aD, a5.2.1, a5.2.2, rA.mono ((Same.ext sm).trans ((keepG e5).sub toP)) (fun _ h => h), by omega, un (keepG e5), a5.1, k5⟩
    | true =>
      rw [if_pos rfl] at k5 ⊢
      refine he _ F5 ((Wp.bind k5).mono (fun d2 s6 k6 v H6 e6 a6 r6 => ?_) fun er s6 ke H6 e6 a6 => ke H6 (e.trans (un ((keepG e5).trans (keepG e6)))) a6.1)
      have e7 : Ext G (D :: G.Y) H3 (upd H6 D (.lst (aV ++ [v]))) := ((keepG e5).trans (keepG e6)).trans (Ext.wr List.mem_cons_self nDY)
      have a7 : G.A s6 (upd H6 D (.lst (aV ++ [v]))) := by
        refine G.dep s6 H6 _ (fun z hz => ?_) a6.1
        rw [upd_ne (fun (r : z = D) => by
          subst r
          rcases hz with hz | hz | hz
          · exact nDY hz
          · exact G.inY s1 H1 F1.st z (.inr (.inl hz)) hD
          · exact a6.2.2 hz)]
      refine ⟨aV, a6.2.1, ?_, m - 1, by omega, by omega, s6, aV ++ [v], aD ++ [d2], upd_same, fun r => a6.2.2 (G.ru _ _ _ nDY _ r), ?_, ?_, un e7, a7, ?_⟩
      · have := rA.length
        have : aV.length < LIM := by omega
        exact lim_lt this
      · refine (rA.mono ((Same.ext sm).trans (e7.sub toP)) (fun _ h => h)).append (.one ?_)
        have r7 : Rep G (D :: (adr O ++ Z0)) H6 v d2 := (Rep.reg (G := G.plus D (.lst aV) nDY) (G' := G) rfl rfl r6).low ofB
        exact r7.mono (Ext.wr List.mem_cons_self nDY) fun _ h => h
      · rw [List.length_append]; simp; omega
      · refine (Wp.bind k6).mono (fun ys s7 k7 => ?_) fun _ _ k => k
        rw [List.append_assoc]
        exact wp_pure k7
  · have hn : its.drop i = [] := List.drop_eq_nil_of_le (by omega)
    rw [hn] at k2
    have hie : i = its.length := by omega
    refine .inl ⟨by rw [hie]; exact IT.stop H2 ew, ?_⟩
    have k3 := wp_pure k2
    rw [List.append_nil] at k3
    exact k3 D aV H2 (e.trans e2) hD0 nR2 hD2 a2 rA

/-! ### a def keeps its promise -/
theorem n_compX (hv : (os.all fun p => !vs.contains p.1) = true) (hi : EwI cl E os false wi gi) (hg : EwG (clr os) vs tg f) (ht : EwT cl E0 (clr os) tt gt) (he : Ew cl E (clr os) te true ge) : EwN cl E os (tLc wi tg tt te vs) (gCompX vs gi f gt ge) := ⟨ev_lcX hv hi.1 hg.1 ht.1 he.1⟩
end
end DL

namespace DL
open PySem PySem.Spec PyProof.Rows L2
/-! ### loops, comprehensions by what each turn does -/
theorem for_inv {f : D → Env → Option Env} {g : Env → DM Fl} {lo : Int} {n : Nat} {ρ : Env} (I : Nat → Env → Prop) (h0 : I 0 ρ)
    (h : ∀ i ρ, i < n → I i ρ → ∃ ρ1 ρ2, f (.int (lo + (i : Nat))) ρ = some ρ1 ∧ g ρ1 = pure (.nx ρ2) ∧ I (i + 1) ρ2) :
    ∃ ρ', forD f g (rngD lo n) ρ = pure (.nx ρ') ∧ I n ρ' := by
  have key : ∀ (m k : Nat) (ρ : Env), k + m = n → I k ρ → ∃ ρ', forD f g ((List.range' k m).map fun i => D.int (lo + (i : Nat))) ρ = pure (.nx ρ') ∧ I n ρ' := by
    intro m
    induction m with
    | zero => intro k ρ e hi; have : k = n := by omega
              subst this; exact ⟨ρ, rfl, hi⟩
    | succ m ih =>
      intro k ρ e hi
      obtain ⟨ρ1, ρ2, e1, e2, i2⟩ := h k ρ (by omega) hi
      obtain ⟨ρ', e3, i3⟩ := ih (k + 1) ρ2 (by omega) i2
      refine ⟨ρ', ?_, i3⟩
      rw [List.range'_succ, List.map_cons]
      show (liftO (f (.int (lo + (k : Nat))) ρ) >>= fun ρ1 => g ρ1 >>= fun fl => match fl with
        | .nx ρ2 => forD f g ((List.range' (k + 1) m).map fun i => D.int (lo + (i : Nat))) ρ2
        | .ct ρ2 => forD f g ((List.range' (k + 1) m).map fun i => D.int (lo + (i : Nat))) ρ2
        | .bk ρ2 => pure (.nx ρ2)
        | .rt d => pure (.rt d)) = _
      rw [e1]
      show (g ρ1 >>= _) = _
      rw [e2]
      exact e3
  have := key n 0 ρ (by omega) h0
  rw [← List.range_eq_range'] at this
  exact this
theorem for_invC {f : D → Env → Option Env} {g : Env → DM Fl} {lo c : Int} {n : Nat} {ρ : Env} (I : Nat → Env → Prop) (h0 : I 0 ρ)
    (h : ∀ i ρ, i < n → I i ρ → ∃ ρ1 ρ2, f (.int (lo + (i : Nat) * c)) ρ = some ρ1 ∧ g ρ1 = pure (.nx ρ2) ∧ I (i + 1) ρ2) :
    ∃ ρ', forD f g (rngC lo c n) ρ = pure (.nx ρ') ∧ I n ρ' := by
  have key : ∀ (m k : Nat) (ρ : Env), k + m = n → I k ρ → ∃ ρ', forD f g ((List.range' k m).map fun i => D.int (lo + (i : Nat) * c)) ρ = pure (.nx ρ') ∧ I n ρ' := by
    intro m
    induction m with
    | zero => intro k ρ e hi; have : k = n := by omega
              subst this; exact ⟨ρ, rfl, hi⟩
    | succ m ih =>
      intro k ρ e hi
      obtain ⟨ρ1, ρ2, e1, e2, i2⟩ := h k ρ (by omega) hi
      obtain ⟨ρ', e3, i3⟩ := ih (k + 1) ρ2 (by omega) i2
      refine ⟨ρ', ?_, i3⟩
      rw [List.range'_succ, List.map_cons]
      show (liftO (f (.int (lo + (k : Nat) * c)) ρ) >>= fun ρ1 => g ρ1 >>= fun fl => match fl with
        | .nx ρ2 => forD f g ((List.range' (k + 1) m).map fun i => D.int (lo + (i : Nat) * c)) ρ2
        | .ct ρ2 => forD f g ((List.range' (k + 1) m).map fun i => D.int (lo + (i : Nat) * c)) ρ2
        | .bk ρ2 => pure (.nx ρ2)
        | .rt d => pure (.rt d)) = _
      rw [e1]
      show (g ρ1 >>= _) = _
      rw [e2]
      exact e3
  have := key n 0 ρ (by omega) h0
  rw [← List.range_eq_range'] at this
  exact this
theorem for_invL {f : D → Env → Option Env} {g : Env → DM Fl} {its : List D} {ρ : Env} (I : Nat → Env → Prop) (h0 : I 0 ρ)
    (h : ∀ i ρ d, its[i]? = some d → I i ρ → ∃ ρ1 ρ2, f d ρ = some ρ1 ∧ g ρ1 = pure (.nx ρ2) ∧ I (i + 1) ρ2) :
    ∃ ρ', forD f g its ρ = pure (.nx ρ') ∧ I its.length ρ' := by
  have key : ∀ (l : List D) (k : Nat) (ρ : Env), l = its.drop k → k ≤ its.length → I k ρ → ∃ ρ', forD f g l ρ = pure (.nx ρ') ∧ I its.length ρ' := by
    intro l
    induction l with
    | nil =>
      intro k ρ e hk hi
      have : k = its.length := by
        have := congrArg List.length e
        rw [List.length_drop, List.length_nil] at this
        omega
      subst this; exact ⟨ρ, rfl, hi⟩
    | cons d l ih =>
      intro k ρ e hk hi
      have hl : k < its.length := by
        have := congrArg List.length e
        rw [List.length_drop, List.length_cons] at this
        omega
      have hg : its[k]? = some d := by
        have := congrArg (·[0]?) e
        simp only [List.getElem?_cons_zero, List.getElem?_drop, Nat.add_zero] at this
        exact this.symm
      have ht : l = its.drop (k + 1) := by
        have := congrArg List.tail e
        rw [List.tail_cons, List.tail_drop] at this
        exact this
      obtain ⟨ρ1, ρ2, e1, e2, i2⟩ := h k ρ d hg hi
      obtain ⟨ρ', e3, i3⟩ := ih (k + 1) ρ2 ht (by omega) i2
      refine ⟨ρ', ?_, i3⟩
      show (liftO (f d ρ) >>= fun ρ1 => g ρ1 >>= fun fl => match fl with
        | .nx ρ2 => forD f g l ρ2
        | .ct ρ2 => forD f g l ρ2
        | .bk ρ2 => pure (.nx ρ2)
        | .rt d => pure (.rt d)) = _
      rw [e1]
      show (g ρ1 >>= _) = _
      rw [e2]
      exact e3
  exact key its 0 ρ rfl (Nat.zero_le _) h0
theorem comp_flt {f : D → Env → Option Env} {c : Env → DM Bool} {e : Env → DM D} {ρ : Env} (C : D → Bool) (F : D → D) : ∀ {its : List D},
    (∀ d ∈ its, ∃ ρ1, f d ρ = some ρ1 ∧ c ρ1 = pure (C d) ∧ (C d = true → e ρ1 = pure (F d))) → compD f c e ρ its = pure ((its.filter C).map F)
  | [], _ => rfl
  | d :: its, h => by
    obtain ⟨ρ1, e1, e2, e3⟩ := h d List.mem_cons_self
    have ih := comp_flt C F fun d hd => h d (List.mem_cons_of_mem _ hd)
    show (liftO (f d ρ) >>= fun ρ1 => noEr (c ρ1) >>= fun k => if k = true then noEr (e ρ1) >>= fun y => compD f c e ρ its >>= fun ys => pure (y :: ys) else compD f c e ρ its) = _
    rw [e1, ih]
    show (noEr (c ρ1) >>= _) = _
    rw [e2]
    cases q : C d with
    | true =>
      rw [List.filter_cons, q, if_pos rfl, List.map_cons]
      show (noEr (e ρ1) >>= _) = _
      rw [e3 q]
      rfl
    | false =>
      rw [List.filter_cons, q, if_neg Bool.false_ne_true]
      rfl
theorem comp_map {f : D → Env → Option Env} {e : Env → DM D} {ρ : Env} (F : D → D) {its : List D}
    (h : ∀ d ∈ its, ∃ ρ1, f d ρ = some ρ1 ∧ e ρ1 = pure (F d)) : compD f gYes e ρ its = pure (its.map F) := by
  have := comp_flt (f := f) (c := gYes) (e := e) (ρ := ρ) (fun _ => true) F (its := its) fun d hd => by
    obtain ⟨ρ1, e1, e2⟩ := h d hd
    exact ⟨ρ1, e1, rfl, fun _ => e2⟩
  rw [this, List.filter_eq_self.mpr fun _ _ => rfl]
theorem mem_rngD {lo : Int} {n : Nat} {d : D} (h : d ∈ rngD lo n) : ∃ i : Nat, i < n ∧ d = .int (lo + (i : Nat)) := by
  obtain ⟨i, hi, e⟩ := List.mem_map.mp h
  exact ⟨i, List.mem_range.mp hi, e.symm⟩
theorem rng1_nat (n : Nat) (h : n < 1000000000) : rng1 [.int (n : Int)] = pure (rngD 0 n) := by
  show (if (n : Int) < 1000000000 ∧ -1000000000 < (n : Int) then pure (rngD 0 (n : Int).toNat) else stuck) = _
  rw [if_pos ⟨by omega, by omega⟩, Int.toNat_natCast]
theorem map_rngD {lo : Int} {n : Nat} (F : D → D) : (rngD lo n).map F = (List.range n).map fun i => F (.int (lo + (i : Nat))) := by
  unfold rngD; rw [List.map_map]; rfl
theorem bind_pure' {α β : Type} (a : α) (f : α → DM β) : (pure a >>= f) = f a := rfl
theorem xor_nat (a b : Nat) : Builtin.bitXor (a : Int) (b : Int) = ((a ^^^ b : Nat) : Int) := by
  rw [Bits.bitXor_pp (by omega) (by omega), Int.toNat_natCast, Int.toNat_natCast]
end DL

/-! # Polynomials over two elements by natural numbers -/
namespace PZ
/-- a remainder times x -/
def mv (W P v : Nat) : Nat := if 2 * v < 2 ^ W then 2 * v else (2 * v - 2 ^ W) ^^^ P
def mvn (W P : Nat) : Nat → Nat → Nat
  | 0, v => v
  | n + 1, v => mv W P (mvn W P n v)
theorem mvn_add (W P m n v : Nat) : mvn W P (m + n) v = mvn W P m (mvn W P n v) := by
  induction m with
  | zero => rw [Nat.zero_add]; rfl
  | succ m ih => rw [Nat.add_right_comm]; show mv W P _ = mv W P _; rw [ih]
theorem mvn_mv (W P n v : Nat) : mvn W P n (mv W P v) = mv W P (mvn W P n v) := by
  have : mv W P v = mvn W P 1 v := rfl
  rw [this, ← mvn_add]; rfl
/-- the top bit, and what is below -/
theorem mv_eq {W P v : Nat} (hv : v < 2 ^ W) (hW : 0 < W) : mv W P v = (2 * v) ^^^ (if v.testBit (W - 1) then 2 ^ W ^^^ P else 0) := by
  have h2 : 2 ^ W = 2 * 2 ^ (W - 1) := by
    obtain ⟨w, rfl⟩ := Nat.exists_eq_succ_of_ne_zero (by omega : W ≠ 0)
    rw [Nat.succ_sub_one, Nat.pow_succ]; omega
  unfold mv
  by_cases h : 2 * v < 2 ^ W
  · have hb : v.testBit (W - 1) = false := Nat.testBit_lt_two_pow (by omega)
    rw [if_pos h, hb]; simp
  · have hge : 2 ^ (W - 1) ≤ v := by omega
    have hb : v.testBit (W - 1) = true := by
      rw [Nat.testBit_eq_decide_div_mod_eq]
      have : v / 2 ^ (W - 1) = 1 := by
        apply Nat.div_eq_of_lt_le <;> omega
      rw [this]; rfl
    rw [if_neg h, hb, if_pos rfl, ← Nat.xor_assoc]
    congr 1
    obtain ⟨r, hr⟩ : ∃ r, 2 * v = 2 ^ W + r := ⟨2 * v - 2 ^ W, by omega⟩
    have hlt : r < 2 ^ W := by omega
    have e2 : 2 ^ W + r = 2 ^ W ^^^ r := by
      refine Nat.eq_of_testBit_eq fun i => ?_
      rw [Nat.testBit_xor, Nat.testBit_two_pow]
      by_cases hi : W = i
      · subst hi
        rw [Nat.testBit_two_pow_add_eq]
        simp [Nat.testBit_lt_two_pow hlt]
      · by_cases hi2 : i < W
        · rw [Nat.testBit_two_pow_add_gt hi2]
          simp [hi]
        · have hj : W < i := by omega
          have p1 : 2 ^ W + r < 2 ^ (W + 1) := by rw [Nat.pow_succ]; omega
          have h1 : (2 ^ W + r) < 2 ^ i := Nat.lt_of_lt_of_le p1 (Nat.pow_le_pow_right (by omega) hj)
          have h3 : r < 2 ^ i := by omega
          rw [Nat.testBit_lt_two_pow h1, Nat.testBit_lt_two_pow h3]
          simp [hi]
    rw [hr, Nat.add_sub_cancel_left, e2, Nat.xor_comm (2 ^ W) r, Nat.xor_assoc, Nat.xor_self, Nat.xor_zero]
theorem mv_lt {W P v : Nat} (hP : P < 2 ^ W) (hv : v < 2 ^ W) : mv W P v < 2 ^ W := by
  unfold mv
  split
  · assumption
  · exact Nat.xor_lt_two_pow (by omega) hP
theorem mvn_lt {W P v : Nat} (hP : P < 2 ^ W) (hv : v < 2 ^ W) : ∀ n, mvn W P n v < 2 ^ W
  | 0 => hv
  | n + 1 => mv_lt hP (mvn_lt hP hv n)
theorem dbl_xor (a b : Nat) : 2 * (a ^^^ b) = (2 * a) ^^^ (2 * b) := by
  refine Nat.eq_of_testBit_eq fun i => ?_
  cases i with
  | zero => simp [Nat.testBit_zero]
  | succ i => 
    rw [Nat.testBit_xor, Nat.testBit_succ, Nat.testBit_succ, Nat.testBit_succ]
    have h (x : Nat) : 2 * x / 2 = x := by omega
    rw [h, h, h, Nat.testBit_xor]
theorem mv_xor {W P a b : Nat} (hW : 0 < W) (ha : a < 2 ^ W) (hb : b < 2 ^ W) : mv W P (a ^^^ b) = mv W P a ^^^ mv W P b := by
  rw [mv_eq (Nat.xor_lt_two_pow ha hb) hW, mv_eq ha hW, mv_eq hb hW, Nat.testBit_xor, dbl_xor]
  cases a.testBit (W - 1) <;> cases b.testBit (W - 1) <;> simp only [Bool.xor_false, Bool.xor_true, Bool.not_false, Bool.not_true, if_true, if_false, Nat.xor_zero, Bool.false_eq_true]
  · rw [Nat.xor_assoc]
  · rw [Nat.xor_assoc, Nat.xor_assoc, Nat.xor_comm (2 * b)]
  · generalize 2 ^ W ^^^ P = q
    rw [Nat.xor_assoc]
    congr 1
    rw [Nat.xor_comm (2 * b), ← Nat.xor_assoc, Nat.xor_self, Nat.zero_xor]
theorem mv_zero (W P : Nat) : mv W P 0 = 0 := by
  unfold mv; rw [if_pos (by have := Nat.two_pow_pos W; omega)]
theorem mvn_zero (W P : Nat) : ∀ n, mvn W P n 0 = 0
  | 0 => rfl
  | n + 1 => by show mv W P (mvn W P n 0) = 0; rw [mvn_zero W P n, mv_zero]
theorem mvn_xor {W P a b : Nat} (hW : 0 < W) (hP : P < 2 ^ W) (ha : a < 2 ^ W) (hb : b < 2 ^ W) : ∀ n, mvn W P n (a ^^^ b) = mvn W P n a ^^^ mvn W P n b
  | 0 => rfl
  | n + 1 => by
    show mv W P (mvn W P n (a ^^^ b)) = mv W P _ ^^^ mv W P _
    rw [mvn_xor hW hP ha hb n, mv_xor hW (mvn_lt hP ha n) (mvn_lt hP hb n)]
/-- the sum of f's odd places, each of a moved so many times -/
def ev (W P a : Nat) (f : Nat → Int) : Nat → Nat
  | 0 => 0
  | n + 1 => ev W P a f n ^^^ (if f n % 2 = 1 then mvn W P n a else 0)
section
variable {W P a : Nat} {f g h : Nat → Int}
theorem ev_lt (hP : P < 2 ^ W) (ha : a < 2 ^ W) : ∀ n, ev W P a f n < 2 ^ W
  | 0 => Nat.two_pow_pos W
  | n + 1 => by
    refine Nat.xor_lt_two_pow (ev_lt hP ha n) ?_
    split
    · exact mvn_lt hP ha n
    · exact Nat.two_pow_pos W
theorem ev_congr : ∀ {n : Nat}, (∀ k, k < n → f k % 2 = g k % 2) → ev W P a f n = ev W P a g n
  | 0, _ => rfl
  | n + 1, e => by
    show _ ^^^ (if f n % 2 = 1 then mvn W P n a else 0) = _
    rw [ev_congr fun k hk => e k (by omega), e n (by omega)]
    rfl
theorem ev_zero : ∀ {n : Nat}, (∀ k, k < n → f k % 2 = 0) → ev W P a f n = 0
  | 0, _ => rfl
  | n + 1, e => by
    show _ ^^^ (if f n % 2 = 1 then mvn W P n a else 0) = _
    rw [ev_zero fun k hk => e k (by omega), if_neg (by have := e n (by omega); omega)]
    rfl
theorem ev_add : ∀ {n : Nat}, (∀ k, k < n → h k % 2 = (f k + g k) % 2) → ev W P a h n = ev W P a f n ^^^ ev W P a g n
  | 0, _ => (Nat.xor_self 0).symm
  | n + 1, e => by
    show _ ^^^ (if h n % 2 = 1 then mvn W P n a else 0) = (_ ^^^ (if f n % 2 = 1 then mvn W P n a else 0)) ^^^ (_ ^^^ (if g n % 2 = 1 then mvn W P n a else 0))
    rw [ev_add fun k hk => e k (by omega)]
    have e' := e n (by omega)
    have sw (A B x y : Nat) : (A ^^^ x) ^^^ (B ^^^ y) = (A ^^^ B) ^^^ (x ^^^ y) := by
      rw [Nat.xor_assoc, Nat.xor_assoc, ← Nat.xor_assoc x, Nat.xor_comm x B, Nat.xor_assoc]
    rw [sw]
    congr 1
    rcases Int.emod_two_eq (f n) with p | p <;> rcases Int.emod_two_eq (g n) with q | q
    · rw [if_neg (by omega), if_neg (by omega), if_neg (by omega)]; rfl
    · rw [if_pos (by omega), if_neg (by omega), if_pos (by omega)]; simp
    · rw [if_pos (by omega), if_pos (by omega), if_neg (by omega)]; simp
    · rw [if_neg (by omega), if_pos (by omega), if_pos (by omega)]; simp
theorem ev_mono {m n : Nat} (hmn : m ≤ n) (e : ∀ k, m ≤ k → k < n → f k % 2 = 0) : ev W P a f n = ev W P a f m := by
  induction n with
  | zero => have : m = 0 := by omega
            subst this; rfl
  | succ n ih =>
    by_cases q : m = n + 1
    · subst q; rfl
    · show _ ^^^ (if f n % 2 = 1 then mvn W P n a else 0) = _
      rw [ih (by omega) fun k h1 h2 => e k h1 (by omega), if_neg (by have := e n (by omega) (by omega); omega), Nat.xor_zero]
theorem ev_shift (hW : 0 < W) (hP : P < 2 ^ W) (ha : a < 2 ^ W) (off : Nat) (e0 : ∀ k, k < off → g k % 2 = 0) (e1 : ∀ k, g (off + k) % 2 = f k % 2) : ∀ m : Nat, ev W P a g (off + m) = mvn W P off (ev W P a f m)
  | 0 => by rw [Nat.add_zero, ev_zero e0]; exact (mvn_zero W P off).symm
  | m + 1 => by
    show ev W P a g (off + m) ^^^ (if g (off + m) % 2 = 1 then mvn W P (off + m) a else 0) = mvn W P off (ev W P a f m ^^^ (if f m % 2 = 1 then mvn W P m a else 0))
    rw [ev_shift hW hP ha off e0 e1 m, e1 m, mvn_xor hW hP (ev_lt hP ha m) (by split; exact mvn_lt hP ha m; exact Nat.two_pow_pos W)]
    congr 1
    split
    · exact mvn_add W P off m a
    · exact (mvn_zero W P off).symm
/-- of a sum -/
theorem ev_xor {b : Nat} (hW : 0 < W) (hP : P < 2 ^ W) (ha : a < 2 ^ W) (hb : b < 2 ^ W) : ∀ n, ev W P (a ^^^ b) f n = ev W P a f n ^^^ ev W P b f n
  | 0 => (Nat.xor_self 0).symm
  | n + 1 => by
    show ev W P (a ^^^ b) f n ^^^ (if f n % 2 = 1 then mvn W P n (a ^^^ b) else 0) = (_ ^^^ (if f n % 2 = 1 then mvn W P n a else 0)) ^^^ (_ ^^^ (if f n % 2 = 1 then mvn W P n b else 0))
    rw [ev_xor hW hP ha hb n, mvn_xor hW hP ha hb n]
    have sw (A B x y : Nat) : (A ^^^ x) ^^^ (B ^^^ y) = (A ^^^ B) ^^^ (x ^^^ y) := by
      rw [Nat.xor_assoc, Nat.xor_assoc, ← Nat.xor_assoc x, Nat.xor_comm x B, Nat.xor_assoc]
    rw [sw]
    congr 1
    split <;> rfl
theorem ev_mvn (hW : 0 < W) (hP : P < 2 ^ W) (ha : a < 2 ^ W) (m : Nat) : ∀ n, ev W P (mvn W P m a) f n = mvn W P m (ev W P a f n)
  | 0 => (mvn_zero W P m).symm
  | n + 1 => by
    show ev W P (mvn W P m a) f n ^^^ (if f n % 2 = 1 then mvn W P n (mvn W P m a) else 0) = mvn W P m (ev W P a f n ^^^ (if f n % 2 = 1 then mvn W P n a else 0))
    rw [ev_mvn hW hP ha m n, mvn_xor hW hP (ev_lt hP ha n) (by split; exact mvn_lt hP ha n; exact Nat.two_pow_pos W)]
    congr 1
    split
    · rw [← mvn_add, ← mvn_add, Nat.add_comm]
    · exact (mvn_zero W P m).symm
/-- the bits of a number -/
def bt (v : Nat) : Nat → Int := fun k => ((v / 2 ^ k % 2 : Nat) : Int)
theorem mvn_small {v : Nat} : ∀ {k : Nat}, v * 2 ^ k < 2 ^ W → mvn W P k v = v * 2 ^ k
  | 0, _ => by rw [Nat.pow_zero, Nat.mul_one]; rfl
  | k + 1, h => by
    have e : v * 2 ^ (k + 1) = 2 * (v * 2 ^ k) := by rw [Nat.pow_succ]; rw [← Nat.mul_assoc]; omega
    show mv W P (mvn W P k v) = _
    rw [mvn_small (by omega : v * 2 ^ k < 2 ^ W), e]
    unfold mv
    rw [if_pos (by omega)]
theorem x_small {k : Nat} (h : k < W) : mvn W P k 1 = 2 ^ k := by
  have := mvn_small (W := W) (P := P) (v := 1) (k := k) (by rw [Nat.one_mul]; exact Nat.pow_lt_pow_right (by omega) h)
  rwa [Nat.one_mul] at this
theorem ev_bt (v : Nat) : ∀ {n : Nat}, n ≤ W → ev W P 1 (bt v) n = v % 2 ^ n
  | 0, _ => by show 0 = v % 1; omega
  | n + 1, h => by
    show ev W P 1 (bt v) n ^^^ (if bt v n % 2 = 1 then mvn W P n 1 else 0) = _
    rw [ev_bt v (by omega), x_small (by omega)]
    refine Nat.eq_of_testBit_eq fun i => ?_
    have hb : (bt v n % 2 = 1) ↔ v.testBit n = true := by
      unfold bt
      rw [Nat.testBit_eq_decide_div_mod_eq, decide_eq_true_iff]
      omega
    rw [Nat.testBit_xor, Nat.testBit_mod_two_pow, Nat.testBit_mod_two_pow]
    by_cases hi : i = n
    · subst hi
      by_cases q : v.testBit i = true
      · rw [if_pos (hb.mpr q), q, Nat.testBit_two_pow_self]; simp
      · rw [if_neg (fun z => q (hb.mp z))]; simp at q; simp [q]
    · have : (if bt v n % 2 = 1 then 2 ^ n else 0).testBit i = false := by
        split
        · rw [Nat.testBit_two_pow]; simp; omega
        · simp
      rw [this, Bool.xor_false]
      congr 1
      simp; omega
/-- what a polynomial does to a value rests on its remainder alone -/
theorem ev_same (hW : 0 < W) (hP : P < 2 ^ W) (ha : a < 2 ^ W) {m n : Nat} (e : ev W P 1 f m = ev W P 1 g n) : ev W P a f m = ev W P a g n := by
  have one : 1 < 2 ^ W := Nat.one_lt_two_pow (by omega)
  -- a is the sum of its bits
  have key : ∀ k, k ≤ W → ev W P (ev W P 1 (bt a) k) f m = ev W P (ev W P 1 (bt a) k) g n := by
    intro k
    induction k with
    | zero =>
      intro _
      have z : ∀ (f : Nat → Int) n, ev W P 0 f n = 0 := by
        intro f n
        induction n with
        | zero => rfl
        | succ n ih => show ev W P 0 f n ^^^ (if f n % 2 = 1 then mvn W P n 0 else 0) = 0; rw [ih, mvn_zero]; simp
      show ev W P 0 f m = ev W P 0 g n
      rw [z, z]
    | succ k ih =>
      intro hk
      show ev W P (ev W P 1 (bt a) k ^^^ (if bt a k % 2 = 1 then mvn W P k 1 else 0)) f m = ev W P (ev W P 1 (bt a) k ^^^ (if bt a k % 2 = 1 then mvn W P k 1 else 0)) g n
      have l2 : (if bt a k % 2 = 1 then mvn W P k 1 else 0) < 2 ^ W := by split; exact mvn_lt hP one k; exact Nat.two_pow_pos W
      rw [ev_xor hW hP (ev_lt hP one k) l2, ev_xor hW hP (ev_lt hP one k) l2, ih (by omega)]
      congr 1
      split
      · rw [ev_mvn hW hP one, ev_mvn hW hP one, e]
      · have z : ∀ (f : Nat → Int) n, ev W P 0 f n = 0 := by
          intro f n
          induction n with
          | zero => rfl
          | succ n ih => show ev W P 0 f n ^^^ (if f n % 2 = 1 then mvn W P n 0 else 0) = 0; rw [ih, mvn_zero]; simp
        rw [z, z]
  have := key W (Nat.le_refl _)
  rwa [ev_bt a (Nat.le_refl W), Nat.mod_eq_of_lt ha] at this
theorem ev_one (hW : 0 < W) (ha : a < 2 ^ W) (n : Nat) : ev W P a (fun k => if k = n then 1 else 0) (n + 1) = mvn W P n a := by
  show ev W P a _ n ^^^ (if (if n = n then (1 : Int) else 0) % 2 = 1 then mvn W P n a else 0) = _
  rw [ev_zero (fun k hk => by rw [if_neg (by omega)]; rfl), if_pos rfl, if_pos (by rfl), Nat.zero_xor]
/-- the product of remainders -/
def mul (W P a b : Nat) : Nat := ev W P a (bt b) W
theorem mul_x (hW : 0 < W) (hP : P < 2 ^ W) (ha : a < 2 ^ W) (n : Nat) : mul W P a (mvn W P n 1) = mvn W P n a := by
  have one : 1 < 2 ^ W := Nat.one_lt_two_pow (by omega)
  unfold mul
  rw [ev_same hW hP ha (g := fun k => if k = n then 1 else 0) (n := n + 1) (by
    rw [ev_one hW one, ev_bt _ (Nat.le_refl W), Nat.mod_eq_of_lt (mvn_lt hP one n)])]
  exact ev_one hW ha n
end
end PZ

namespace CR
open PySem PySem.Spec PyProof.Rows L2 DL
def topS (i : Nat) : Stmt := PySem.Challenge.pw_crcfinds_k19_more_errors.main.body.getD i (.Pass ⟨0, 0, 0, 0⟩)
section
variable {P : Program} {wd : World} {K : PySem.W.Frag} {mg : Str → Option Value} {base : Heap} {cl : Cl} {ce : Addr}
abbrev s__law_error : Stmt := topS 54
theorem sc__law_error : FnScope ["caught", "kinds"] ["caught"] (defScope s__law_error) := ⟨rfl, rfl, rfl, by decide +kernel, rfl, by decide +kernel, by decide +kernel⟩
theorem ok__law_error (d : DefAt K mg "_law_error" s__law_error ["caught"]) (h_isinstance : mg "isinstance" = none) (h_ValueError : mg "ValueError" = none) (T_err : ErrK K mg cl ce) : KO P wd K mg base 1 "_law_error" (spErr cl) :=
  ko_of d fun f fd F => F.okX sc__law_error (fun vs H Q E h => by obtain ⟨a, e, rfl, _⟩ := h; rfl) fun cdv A outer s H vs Q E hr h => by
    obtain ⟨a, e, rfl, hH, hq⟩ := h
    refine ⟨_, pss_cons (ps_set (i := 1) sc__law_error.nd rfl (Or.inl rfl) (pe_lst (pa_cons (pe_callB call_isX (by rfl) h_isinstance boot_isinstance (pa_cons (pv 0) (pa_cons (pe_glob (v := .ref (cl .chk)) (by rfl) T_err.gc rfl) pa_nil))) (pa_cons (pe_callB call_isX (by rfl) h_isinstance boot_isinstance (pa_cons (pv 0) (pa_cons (pe_glob (v := .ref (cl .bits)) (by rfl) T_err.gb rfl) pa_nil))) (pa_cons (pe_callB call_isX (by rfl) h_isinstance boot_isinstance (pa_cons (pv 0) (pa_cons (pe_glob (v := .ref (cl .num)) (by rfl) T_err.gn rfl) pa_nil))) pa_nil)))))
      (pss_cons (ps_set (i := 1) sc__law_error.nd rfl (Or.inl rfl) (pe_op op_cat (pv 1) (pe_lst (pa_cons (pe_callB call_isX (by rfl) h_isinstance boot_isinstance (pa_cons (pv 0) (pa_cons (pe_glob (v := .ref (cl .smp)) (by rfl) T_err.gs rfl) pa_nil))) (pa_cons (pe_callB call_isX (by rfl) h_isinstance boot_isinstance (pa_cons (pv 0) (pa_cons (pe_glob (v := .ref (cl .plc)) (by rfl) T_err.gp rfl) pa_nil))) (pa_cons (pe_callB call_isX (by rfl) h_isinstance boot_isinstance (pa_cons (pv 0) (pa_cons (pe_glob (v := .ref (cl .txt)) (by rfl) T_err.gt rfl) pa_nil))) pa_nil))))))
      (pss_cons (ps_set (i := 1) sc__law_error.nd rfl (Or.inl rfl) (pe_op op_cat (pv 1) (pe_lst (pa_cons (pe_callB call_isX (by rfl) h_isinstance boot_isinstance (pa_cons (pv 0) (pa_cons (pe_glob (v := .ref (cl .nof)) (by rfl) T_err.gf rfl) pa_nil))) pa_nil))))
      (pss_cons (ps_if (PW.pt (pw_or (pt_cmpR op_ne (pe_bm PySem.F.plainAttrs_list PySem.F.slot_list_count PySem.F.type_list_count mt_countF (pv 1) (pa_cons pe_bl pa_nil)) pe_int (nomark _)) (pw_or (pt_not (pt_val (pe_callB call_isX (by rfl) h_isinstance boot_isinstance (pa_cons (pv 0) (pa_cons (pe_glob (v := .ref ce) (by rfl) T_err.ge rfl) pa_nil))))) (pw_or1 (pt_not (pt_val (pe_callB call_isX (by rfl) h_isinstance boot_isinstance (pa_cons (pv 0) (pa_cons (pe_bltn (v := .ty "ValueError") (by rfl) h_ValueError (by decide +kernel) rfl) pa_nil))))))))) (pss_one (ps_ret pe_str)) pss_nil)
      (pss_one (ps_ret (pe_ix ix_list (pe_lst (pa_cons pe_str (pa_cons pe_str (pa_cons pe_str (pa_cons pe_str (pa_cons pe_str (pa_cons pe_str (pa_cons pe_str pa_nil)))))))) (pe_bm PySem.F.plainAttrs_list PySem.F.slot_list_index PySem.F.type_list_index mt_index (pv 1) (pa_cons pe_bl pa_nil)) (fun _ _ => rfl))))))), ?_⟩
    exact walk_err T_err hH hq
abbrev s_is_int : Stmt := topS 11
theorem sc_is_int : FnScope ["value", "low", "high"] ["value", "low", "high"] (defScope s_is_int) := ⟨rfl, rfl, rfl, by decide +kernel, rfl, by decide +kernel, by decide +kernel⟩
def b_is_int : DL.Env → DM Fl :=
    (hRet (gAndV (gCB D.isi (gCons (getE 0) (gCons (gC (.ty "int")) gNil))) (gAndV (gNotV (gCB D.isi (gCons (getE 0) (gCons (gC (.ty "bool")) gNil)))) (gChain D.le D.le (getE 1) (getE 0) (getE 2)))))
def m_is_int : List D → DM D := runD 3 b_is_int
theorem ok_is_int (d : DefAt K mg "is_int" s_is_int ["value", "low", "high"]) (h_int : mg "int" = none) (h_isinstance : mg "isinstance" = none) (h_bool : mg "bool" = none) : KO P wd K mg base 1 "is_int" (spD cl 3 m_is_int) :=
  ko_of d fun f fd F => fn_D (n := 3) (os' := []) F sc_is_int rfl fun cdv A outer s H E hr =>
    ⟨_, (pss_one (ps_ret (pe_and (pe_callB cd_isi (by rfl) h_isinstance boot_isinstance (pa_cons (pv 0) (pa_cons (pe_bltn (v := .ty "int") (by rfl) h_int boot_int rfl) pa_nil))) (pe_and (pe_not (pe_callB cd_isi (by rfl) h_isinstance boot_isinstance (pa_cons (pv 0) (pa_cons (pe_bltn (v := .ty "bool") (by rfl) h_bool boot_bool rfl) pa_nil)))) (pe_one (pe_chain od_le od_le (pv 1) (pv 0) (pv 2))))))),
     ((s_ret (v_andV (v_cb (a_cons (v_var rfl) (a_cons v_ty a_nil))) (v_andV (v_notV (v_cb (a_cons (v_var rfl) (a_cons v_ty a_nil)))) (v_chain (v_var rfl) (v_var rfl) (v_var rfl))))) : EwS cl E [] [] [] _ b_is_int).1⟩
abbrev s_is_bits : Stmt := topS 15
theorem sc_is_bits : FnScope ["value", "bit"] ["value"] (defScope s_is_bits) := ⟨rfl, rfl, rfl, by decide +kernel, rfl, by decide +kernel, by decide +kernel⟩
def b_is_bits : DL.Env → DM Fl :=
    (hRet (gAndV (gCB D.isi (gCons (getE 0) (gCons (gC (.ty "list")) gNil))) (gAndV (gOp D.le (gCB D.len (gCons (getE 0) gNil)) (gC (.int 64))) (gCB D.all (gCons (gL (gComp [1] (gIt itemsL (getE 0)) (setE 1) gYes (gCall m_is_int (gCons (getE 1) (gCons (gC (.int 0)) (gCons (gC (.int 1)) gNil)))))) gNil)))))
def m_is_bits : List D → DM D := runD 2 b_is_bits
theorem ok_is_bits (d : DefAt K mg "is_bits" s_is_bits ["value"]) (h_list : mg "list" = none) (h_isinstance : mg "isinstance" = none) (h_len : mg "len" = none) (h_MOST_BITS : ∃ t, mg "MOST_BITS" = some (.int 64 t)) (h_all : mg "all" = none) (k_is_int : KO P wd K mg base 1 "is_int" (spD cl 3 m_is_int)) : KO P wd K mg base 2 "is_bits" (spD cl 1 m_is_bits) :=
  ko_of d fun f fd F => fn_D (n := 2) (os' := []) F sc_is_bits rfl fun cdv A outer s H E hr =>
    ⟨_, (pss_one (ps_ret (pe_and (pe_callB cd_isi (by rfl) h_isinstance boot_isinstance (pa_cons (pv 0) (pa_cons (pe_bltn (v := .ty "list") (by rfl) h_list boot_list rfl) pa_nil))) (pe_and (pe_cmpR od_le (pe_callB cd_len (by rfl) h_len boot_len (pa_cons (pv 0) pa_nil)) (pe_globI (by rfl) h_MOST_BITS) (nomark _)) (pe_one (pe_callB (cd_all rfl) (by rfl) h_all (by decide +kernel) (pa_cons (pe_lc (own := [("bit", 1)]) rfl sc_is_bits.nd (pi_list (pv 0)) (blkOk_by (own := [("bit", 1)]) (N := ["value", "bit"]) (sc := defScope s_is_bits) (by decide +kernel)) (fun _ _ _ _ _ => (pg_name (i := 1) sc_is_bits.nd rfl (Or.inl rfl))) (fun _ _ _ _ _ => pts_nil) (fun _ _ _ _ _ => (pe_callD (E := L2.E0) k_is_int (hr.mono (by decide)) (by rfl) passL (pa_cons (pv 1) (pa_cons pe_int (pa_cons pe_int pa_nil)))))) pa_nil))))))),
     ((s_ret (v_andV (v_cb (a_cons (v_var rfl) (a_cons v_ty a_nil))) (v_andV (v_op (v_cb (a_cons (v_var rfl) a_nil)) v_int) (v_cb (a_cons (v_new (n_comp (vs := [1]) rfl (i_list (v_var rfl)) (w_name rfl rfl) t_yes (v_call (cnt_cons (cnt_cons (cnt_cons cnt_nil))) (a_cons (v_var rfl) (a_cons v_int (a_cons v_int a_nil)))))) a_nil))))) : EwS cl E [] [] [] _ b_is_bits).1⟩
abbrev s_power : Stmt := topS 12
theorem sc_power : FnScope ["count", "found", "turn"] ["count"] (defScope s_power) := ⟨rfl, rfl, rfl, by decide +kernel, rfl, by decide +kernel, by decide +kernel⟩
def b_power : DL.Env → DM Fl :=
    (seqG (hAsg (gC (.int 1)) (setE 1))
    (seqG (hFor (gIt rng1 (gCons (getE 0) gNil)) (setE 2)
    (hAug 1 D.imul (gC (.int 2))))
    (hRet (getE 1))))
def m_power : List D → DM D := runD 3 b_power
theorem ok_power (d : DefAt K mg "power" s_power ["count"]) (h_range : mg "range" = none) : KO P wd K mg base 1 "power" (spD cl 1 m_power) :=
  ko_of d fun f fd F => fn_D (n := 3) (os' := []) F sc_power rfl fun cdv A outer s H E hr =>
    ⟨_, (pss_cons (ps_set (i := 1) sc_power.nd rfl (Or.inl rfl) pe_int) (pss_cons (ps_for (passes_of rfl) rfl (pi_range1 (by rfl) h_range (pa_cons (pv 0) pa_nil)) (pg_name (i := 2) sc_power.nd rfl (Or.inl rfl)) (pss_one (ps_aug (i := 1) sc_power.nd rfl (Or.inl rfl) pe_int od_imul))) (pss_one (ps_ret (pv 1))))),
     ((s_seq (s_asg (vs := [1]) v_int (w_name rfl rfl)) (s_seq (s_for (vs := [2]) (i_rng1 (a_cons (v_var rfl) a_nil)) (w_name rfl rfl) (s_aug rfl v_int)) (s_ret (v_var rfl)))) : EwS cl E [] [] [] _ b_power).1⟩
abbrev s_is_sample : Stmt := topS 32
theorem sc_is_sample : FnScope ["width", "value"] ["width", "value"] (defScope s_is_sample) := ⟨rfl, rfl, rfl, by decide +kernel, rfl, by decide +kernel, by decide +kernel⟩
def b_is_sample : DL.Env → DM Fl :=
    (seqG (gIf (gOr (gNot (gT (gCB D.isi (gCons (getE 1) (gCons (gC (.ty "tuple")) gNil))))) (gOr (gT (gOp D.ne (gCB D.len (gCons (getE 1) gNil)) (gC (.int 2)))) (gNot (gT (gCall m_is_bits (gCons (gOp D.idx (getE 1) (gC (.int 0))) gNil))))))
    (hRet (gC (.bl false)))
    hNx)
    (hRet (gCall m_is_int (gCons (gOp D.idx (getE 1) (gC (.int 1))) (gCons (gC (.int 0)) (gCons (gOp D.sub (gCall m_power (gCons (getE 0) gNil)) (gC (.int 1))) gNil))))))
def m_is_sample : List D → DM D := runD 2 b_is_sample
theorem ok_is_sample (d : DefAt K mg "is_sample" s_is_sample ["width", "value"]) (h_tuple : mg "tuple" = none) (h_isinstance : mg "isinstance" = none) (h_len : mg "len" = none) (k_is_bits : KO P wd K mg base 2 "is_bits" (spD cl 1 m_is_bits)) (k_power : KO P wd K mg base 1 "power" (spD cl 1 m_power)) (k_is_int : KO P wd K mg base 1 "is_int" (spD cl 3 m_is_int)) : KO P wd K mg base 3 "is_sample" (spD cl 2 m_is_sample) :=
  ko_of d fun f fd F => fn_D (n := 2) (os' := []) F sc_is_sample rfl fun cdv A outer s H E hr =>
    ⟨_, (pss_cons (ps_if (PW.pt (pw_or (pt_not (pt_val (pe_callB cd_isi (by rfl) h_isinstance boot_isinstance (pa_cons (pv 1) (pa_cons (pe_bltn (v := .ty "tuple") (by rfl) h_tuple boot_tuple rfl) pa_nil))))) (pw_or (pt_cmpR (od_ne (u64 hr)) (pe_callB cd_len (by rfl) h_len boot_len (pa_cons (pv 1) pa_nil)) pe_int (nomark _)) (pw_or1 (pt_not (pt_val (pe_callD (E := E) k_is_bits (hr.mono (by decide)) (by rfl) passB (pa_cons (pe_ix xd_idx (pv 1) pe_int (fun _ _ => rfl)) pa_nil)))))))) (pss_one (ps_ret pe_bl)) pss_nil) (pss_one (ps_ret (pe_callD (E := E) k_is_int (hr.mono (by decide)) (by rfl) passB (pa_cons (pe_ix xd_idx (pv 1) pe_int (fun _ _ => rfl)) (pa_cons pe_int (pa_cons (pe_op od_sub (pe_callD (E := E) k_power (hr.mono (by decide)) (by rfl) passB (pa_cons (pv 0) pa_nil)) pe_int) pa_nil))))))),
     ((s_seq (s_if (t_or (t_not (t_B (v_cb (a_cons (v_var rfl) (a_cons v_ty a_nil))))) (t_or (t_test (v_op (v_cb (a_cons (v_var rfl) a_nil)) v_int)) (t_not (t_B (v_call (cnt_cons cnt_nil) (a_cons (v_op (v_var rfl) v_int) a_nil)))))) (s_ret v_bl) s_next) (s_ret (v_call (cnt_cons (cnt_cons (cnt_cons cnt_nil))) (a_cons (v_op (v_var rfl) v_int) (a_cons v_int (a_cons (v_op (v_call (cnt_cons cnt_nil) (a_cons (v_var rfl) a_nil)) v_int) a_nil)))))) : EwS cl E [] [] [] _ b_is_sample).1⟩
abbrev s_check_samples : Stmt := topS 33
theorem sc_check_samples : FnScope ["width", "samples", "sample"] ["width", "samples"] (defScope s_check_samples) := ⟨rfl, rfl, rfl, by decide +kernel, rfl, by decide +kernel, by decide +kernel⟩
def b_check_samples : DL.Env → DM Fl :=
    (seqG (gIf (gOr (gNot (gT (gCB D.isi (gCons (getE 1) (gCons (gC (.ty "list")) gNil))))) (gNot (gT (gChain D.le D.le (gC (.int 1)) (gCB D.len (gCons (getE 1) gNil)) (gC (.int 8))))))
    (hRaise .smp)
    hNx)
    (gIf (gNot (gT (gCB D.all (gCons (gL (gComp [2] (gIt itemsL (getE 1)) (setE 2) gYes (gCall m_is_sample (gCons (getE 0) (gCons (getE 2) gNil))))) gNil))))
    (hRaise .smp)
    hNx))
def m_check_samples : List D → DM D := runD 3 b_check_samples
theorem ok_check_samples (d : DefAt K mg "check_samples" s_check_samples ["width", "samples"]) (h_list : mg "list" = none) (h_isinstance : mg "isinstance" = none) (h_len : mg "len" = none) (h_MOST_SAMPLES : ∃ t, mg "MOST_SAMPLES" = some (.int 8 t)) (h_all : mg "all" = none) (x_BadSamples : ExcAt K mg "BadSamples" (cl .smp)) (k_is_sample : KO P wd K mg base 3 "is_sample" (spD cl 2 m_is_sample)) : KO P wd K mg base 4 "check_samples" (spD cl 2 m_check_samples) :=
  ko_of d fun f fd F => fn_D (n := 3) (os' := []) F sc_check_samples rfl fun cdv A outer s H E hr =>
    ⟨_, (pss_cons (ps_if (PW.pt (pw_or (pt_not (pt_val (pe_callB cd_isi (by rfl) h_isinstance boot_isinstance (pa_cons (pv 1) (pa_cons (pe_bltn (v := .ty "list") (by rfl) h_list boot_list rfl) pa_nil))))) (pw_or1 (pt_not (pt_chain od_le od_le pe_int (pe_callB cd_len (by rfl) h_len boot_len (pa_cons (pv 1) pa_nil)) (pe_globI (by rfl) h_MOST_SAMPLES)))))) (pss_one (ps_raiseD (E := E) (e := .smp) x_BadSamples rfl (takes_of rfl rfl rfl rfl) (by rfl))) pss_nil) (pss_one (ps_if (pt_not (pt_val (pe_callB (cd_all rfl) (by rfl) h_all (by decide +kernel) (pa_cons (pe_lc (own := [("sample", 2)]) rfl sc_check_samples.nd (pi_list (pv 1)) (blkOk_by (own := [("sample", 2)]) (N := ["width", "samples", "sample"]) (sc := defScope s_check_samples) (by decide +kernel)) (fun _ _ _ _ _ => (pg_name (i := 2) sc_check_samples.nd rfl (Or.inl rfl))) (fun _ _ _ _ _ => pts_nil) (fun _ _ _ _ _ => (pe_callD (E := L2.E0) k_is_sample (hr.mono (by decide)) (by rfl) passL (pa_cons (pv 0) (pa_cons (pv 2) pa_nil))))) pa_nil)))) (pss_one (ps_raiseD (E := E) (e := .smp) x_BadSamples rfl (takes_of rfl rfl rfl rfl) (by rfl))) pss_nil))),
     ((s_seq (s_if (t_or (t_not (t_B (v_cb (a_cons (v_var rfl) (a_cons v_ty a_nil))))) (t_not (t_test (v_chain v_int (v_cb (a_cons (v_var rfl) a_nil)) v_int)))) s_raise s_next) (s_if (t_not (t_B (v_cb (a_cons (v_new (n_comp (vs := [2]) rfl (i_list (v_var rfl)) (w_name rfl rfl) t_yes (v_call (cnt_cons (cnt_cons cnt_nil)) (a_cons (v_var rfl) (a_cons (v_var rfl) a_nil))))) a_nil)))) s_raise s_next)) : EwS cl E [] [] [] _ b_check_samples).1⟩
abbrev s_added : Stmt := topS 19
theorem sc_added : FnScope ["one", "other"] ["one", "other"] (defScope s_added) := ⟨rfl, rfl, rfl, by decide +kernel, rfl, by decide +kernel, by decide +kernel⟩
def b_added : DL.Env → DM Fl :=
    (hRet (gOp D.xor (getE 0) (getE 1)))
def m_added : List D → DM D := runD 2 b_added
theorem ok_added (d : DefAt K mg "added" s_added ["one", "other"]) : KO P wd K mg base 1 "added" (spD cl 2 m_added) :=
  ko_of d fun f fd F => fn_D (n := 2) (os' := []) F sc_added rfl fun cdv A outer s H E hr =>
    ⟨_, (pss_one (ps_ret (pe_op od_xor (pv 0) (pv 1)))),
     ((s_ret (v_op (v_var rfl) (v_var rfl))) : EwS cl E [] [] [] _ b_added).1⟩
abbrev s_fed : Stmt := topS 26
theorem sc_fed : FnScope ["check", "value", "bit", "high", "top", "after"] ["check", "value", "bit"] (defScope s_fed) := ⟨rfl, rfl, rfl, by decide +kernel, rfl, by decide +kernel, by decide +kernel⟩
def b_fed : DL.Env → DM Fl :=
    (seqG (hAsg (gCall m_power (gCons (gOp D.sub (gOp D.idx (getE 0) (gC (.int 0))) (gC (.int 1))) gNil)) (setE 3))
    (seqG (hAsg (gOp D.fdiv (getE 1) (getE 3)) (setE 4))
    (seqG (hAsg (gOp D.mul (gC (.int 2)) (gOp D.sub (getE 1) (gOp D.mul (getE 4) (getE 3)))) (setE 5))
    (hRet (gIf (gT (gOp D.ne (getE 4) (getE 2))) (gCall m_added (gCons (getE 5) (gCons (gOp D.idx (getE 0) (gC (.int 1))) gNil))) (getE 5))))))
def m_fed : List D → DM D := runD 6 b_fed
theorem ok_fed (d : DefAt K mg "fed" s_fed ["check", "value", "bit"]) (k_power : KO P wd K mg base 1 "power" (spD cl 1 m_power)) (k_added : KO P wd K mg base 1 "added" (spD cl 2 m_added)) : KO P wd K mg base 2 "fed" (spD cl 3 m_fed) :=
  ko_of d fun f fd F => fn_D (n := 6) (os' := []) F sc_fed rfl fun cdv A outer s H E hr =>
    ⟨_, (pss_cons (ps_set (i := 3) sc_fed.nd rfl (Or.inl rfl) (pe_callD (E := E) k_power (hr.mono (by decide)) (by rfl) passB (pa_cons (pe_op od_sub (pe_ix xd_idx (pv 0) pe_int (fun _ _ => rfl)) pe_int) pa_nil))) (pss_cons (ps_set (i := 4) sc_fed.nd rfl (Or.inl rfl) (pe_op od_fdiv (pv 1) (pv 3))) (pss_cons (ps_set (i := 5) sc_fed.nd rfl (Or.inl rfl) (pe_op od_mul pe_int (pe_op od_sub (pv 1) (pe_op od_mul (pv 4) (pv 3))))) (pss_one (ps_ret (pe_ifExp (pt_cmpR (od_ne (u64 hr)) (pv 4) (pv 2) (nomark _)) (pe_callD (E := E) k_added (hr.mono (by decide)) (by rfl) passB (pa_cons (pv 5) (pa_cons (pe_ix xd_idx (pv 0) pe_int (fun _ _ => rfl)) pa_nil))) (pv 5))))))),
     ((s_seq (s_asg (vs := [3]) (v_call (cnt_cons cnt_nil) (a_cons (v_op (v_op (v_var rfl) v_int) v_int) a_nil)) (w_name rfl rfl)) (s_seq (s_asg (vs := [4]) (v_op (v_var rfl) (v_var rfl)) (w_name rfl rfl)) (s_seq (s_asg (vs := [5]) (v_op v_int (v_op (v_var rfl) (v_op (v_var rfl) (v_var rfl)))) (w_name rfl rfl)) (s_ret (v_if (t_test (v_op (v_var rfl) (v_var rfl))) (v_call (cnt_cons (cnt_cons cnt_nil)) (a_cons (v_var rfl) (a_cons (v_op (v_var rfl) v_int) a_nil))) (v_var rfl)))))) : EwS cl E [] [] [] _ b_fed).1⟩
abbrev s_run_through : Stmt := topS 27
theorem sc_run_through : FnScope ["check", "bits", "value", "bit"] ["check", "bits"] (defScope s_run_through) := ⟨rfl, rfl, rfl, by decide +kernel, rfl, by decide +kernel, by decide +kernel⟩
def b_run_through : DL.Env → DM Fl :=
    (seqG (hAsg (gOp D.idx (getE 0) (gC (.int 2))) (setE 2))
    (seqG (hFor (gIt itemsL (getE 1)) (setE 3)
    (hAsg (gCall m_fed (gCons (getE 0) (gCons (getE 2) (gCons (getE 3) gNil)))) (setE 2)))
    (hRet (getE 2))))
def m_run_through : List D → DM D := runD 4 b_run_through
theorem ok_run_through (d : DefAt K mg "run_through" s_run_through ["check", "bits"]) (k_fed : KO P wd K mg base 2 "fed" (spD cl 3 m_fed)) : KO P wd K mg base 3 "run_through" (spD cl 2 m_run_through) :=
  ko_of d fun f fd F => fn_D (n := 4) (os' := []) F sc_run_through rfl fun cdv A outer s H E hr =>
    ⟨_, (pss_cons (ps_set (i := 2) sc_run_through.nd rfl (Or.inl rfl) (pe_ix xd_idx (pv 0) pe_int (fun _ _ => rfl))) (pss_cons (ps_for (passes_of rfl) rfl (pi_list (pv 1)) (pg_name (i := 3) sc_run_through.nd rfl (Or.inl rfl)) (pss_one (ps_set (i := 2) sc_run_through.nd rfl (Or.inl rfl) (pe_callD (E := E) k_fed (hr.mono (by decide)) (by rfl) passB (pa_cons (pv 0) (pa_cons (pv 2) (pa_cons (pv 3) pa_nil))))))) (pss_one (ps_ret (pv 2))))),
     ((s_seq (s_asg (vs := [2]) (v_op (v_var rfl) v_int) (w_name rfl rfl)) (s_seq (s_for (vs := [3]) (i_list (v_var rfl)) (w_name rfl rfl) (s_asg (vs := [2]) (v_call (cnt_cons (cnt_cons (cnt_cons cnt_nil))) (a_cons (v_var rfl) (a_cons (v_var rfl) (a_cons (v_var rfl) a_nil)))) (w_name rfl rfl))) (s_ret (v_var rfl)))) : EwS cl E [] [] [] _ b_run_through).1⟩
abbrev s_moved : Stmt := topS 20
theorem sc_moved : FnScope ["check", "value", "width", "poly"] ["check", "value"] (defScope s_moved) := ⟨rfl, rfl, rfl, by decide +kernel, rfl, by decide +kernel, by decide +kernel⟩
def b_moved : DL.Env → DM Fl :=
    (seqG (hAsg (gSl D.cut (getE 0) gNoPart (gPart (gC (.int 2)))) (bindTup 2 (bindCons (setE 2) (bindCons (setE 3) bindNil))))
    (seqG (hAug 1 D.imul (gC (.int 2)))
    (hRet (gIf (gT (gOp D.lt (getE 1) (gCall m_power (gCons (getE 2) gNil)))) (getE 1) (gCall m_added (gCons (gOp D.sub (getE 1) (gCall m_power (gCons (getE 2) gNil))) (gCons (getE 3) gNil)))))))
def m_moved : List D → DM D := runD 4 b_moved
theorem ok_moved (d : DefAt K mg "moved" s_moved ["check", "value"]) (k_power : KO P wd K mg base 1 "power" (spD cl 1 m_power)) (k_added : KO P wd K mg base 1 "added" (spD cl 2 m_added)) : KO P wd K mg base 2 "moved" (spD cl 2 m_moved) :=
  ko_of d fun f fd F => fn_D (n := 4) (os' := []) F sc_moved rfl fun cdv A outer s H E hr =>
    ⟨_, (pss_cons (ps_asg (pe_slice sd_cut (pv 0) po_none (po_some pe_int)) (pg_tup rfl (pgs_cons (pg_name (i := 2) sc_moved.nd rfl (Or.inl rfl)) (pgs_cons (pg_name (i := 3) sc_moved.nd rfl (Or.inl rfl)) pgs_nil)))) (pss_cons (ps_aug (i := 1) sc_moved.nd rfl (Or.inl rfl) pe_int od_imul) (pss_one (ps_ret (pe_ifExp (pt_cmpR od_lt (pv 1) (pe_callD (E := E) k_power (hr.mono (by decide)) (by rfl) passB (pa_cons (pv 2) pa_nil)) (nomark _)) (pv 1) (pe_callD (E := E) k_added (hr.mono (by decide)) (by rfl) passB (pa_cons (pe_op od_sub (pv 1) (pe_callD (E := E) k_power (hr.mono (by decide)) (by rfl) passB (pa_cons (pv 2) pa_nil))) (pa_cons (pv 3) pa_nil)))))))),
     ((s_seq (s_asg (vs := [2, 3]) (v_sl (v_var rfl) o_none (o_some v_int)) (w_tup (w_cons (w_name rfl rfl) (w_cons (w_name rfl rfl) w_nil)))) (s_seq (s_aug rfl v_int) (s_ret (v_if (t_test (v_op (v_var rfl) (v_call (cnt_cons cnt_nil) (a_cons (v_var rfl) a_nil)))) (v_var rfl) (v_call (cnt_cons (cnt_cons cnt_nil)) (a_cons (v_op (v_var rfl) (v_call (cnt_cons cnt_nil) (a_cons (v_var rfl) a_nil))) (a_cons (v_var rfl) a_nil))))))) : EwS cl E [] [] [] _ b_moved).1⟩
abbrev s_period_of : Stmt := topS 22
theorem sc_period_of : FnScope ["check", "value", "found"] ["check"] (defScope s_period_of) := ⟨rfl, rfl, rfl, by decide +kernel, rfl, by decide +kernel, by decide +kernel⟩
def b_period_of : DL.Env → DM Fl :=
    (seqG (hAsg (gCall m_moved (gCons (getE 0) (gCons (gC (.int 1)) gNil))) (setE 1))
    (seqG (hAsg (gC (.int 1)) (setE 2))
    (seqG (whileD (gT (gOp D.ne (getE 1) (gC (.int 1))))
    (seqG (hAsg (gCall m_moved (gCons (getE 0) (gCons (getE 1) gNil))) (setE 1))
    (hAug 2 D.iadd (gC (.int 1)))) 300)
    (hRet (getE 2)))))
def m_period_of : List D → DM D := runD 3 b_period_of
theorem ok_period_of (d : DefAt K mg "period_of" s_period_of ["check"]) (k_moved : KO P wd K mg base 2 "moved" (spD cl 2 m_moved)) : KO P wd K mg base 3 "period_of" (spD cl 1 m_period_of) :=
  ko_of d fun f fd F => fn_D (n := 3) (os' := []) F sc_period_of rfl fun cdv A outer s H E hr =>
    ⟨_, (pss_cons (ps_set (i := 1) sc_period_of.nd rfl (Or.inl rfl) (pe_callD (E := E) k_moved (hr.mono (by decide)) (by rfl) passB (pa_cons (pv 0) (pa_cons pe_int pa_nil)))) (pss_cons (ps_set (i := 2) sc_period_of.nd rfl (Or.inl rfl) pe_int) (pss_cons (ps_while (passes_of rfl) (pt_cmpR (od_ne (u64 hr)) (pv 1) pe_int (nomark _)) (pss_cons (ps_set (i := 1) sc_period_of.nd rfl (Or.inl rfl) (pe_callD (E := E) k_moved (hr.mono (by decide)) (by rfl) passB (pa_cons (pv 0) (pa_cons (pv 1) pa_nil)))) (pss_one (ps_aug (i := 2) sc_period_of.nd rfl (Or.inl rfl) pe_int od_iadd)))) (pss_one (ps_ret (pv 2)))))),
     ((s_seq (s_asg (vs := [1]) (v_call (cnt_cons (cnt_cons cnt_nil)) (a_cons (v_var rfl) (a_cons v_int a_nil))) (w_name rfl rfl)) (s_seq (s_asg (vs := [2]) v_int (w_name rfl rfl)) (s_seq (s_while 300 (t_test (v_op (v_var rfl) v_int)) (s_seq (s_asg (vs := [1]) (v_call (cnt_cons (cnt_cons cnt_nil)) (a_cons (v_var rfl) (a_cons (v_var rfl) a_nil))) (w_name rfl rfl)) (s_aug rfl v_int))) (s_ret (v_var rfl))))) : EwS cl E [] [] [] _ b_period_of).1⟩
abbrev s_far_moved : Stmt := topS 23
theorem sc_far_moved : FnScope ["check", "value", "steps", "few", "turn"] ["check", "value", "steps"] (defScope s_far_moved) := ⟨rfl, rfl, rfl, by decide +kernel, rfl, by decide +kernel, by decide +kernel⟩
def b_far_moved : DL.Env → DM Fl :=
    (seqG (hAsg (gIf (gT (gChain D.le D.le (gC (.int 0)) (getE 2) (gC (.int 80)))) (getE 2) (gOp D.mod (getE 2) (gCall m_period_of (gCons (getE 0) gNil)))) (setE 3))
    (seqG (hFor (gIt rng1 (gCons (getE 3) gNil)) (setE 4)
    (hAsg (gCall m_moved (gCons (getE 0) (gCons (getE 1) gNil))) (setE 1)))
    (hRet (getE 1))))
def m_far_moved : List D → DM D := runD 5 b_far_moved
theorem ok_far_moved (d : DefAt K mg "far_moved" s_far_moved ["check", "value", "steps"]) (h_MOST_STEPS : ∃ t, mg "MOST_STEPS" = some (.int 80 t)) (h_range : mg "range" = none) (k_period_of : KO P wd K mg base 3 "period_of" (spD cl 1 m_period_of)) (k_moved : KO P wd K mg base 2 "moved" (spD cl 2 m_moved)) : KO P wd K mg base 4 "far_moved" (spD cl 3 m_far_moved) :=
  ko_of d fun f fd F => fn_D (n := 5) (os' := []) F sc_far_moved rfl fun cdv A outer s H E hr =>
    ⟨_, (pss_cons (ps_set (i := 3) sc_far_moved.nd rfl (Or.inl rfl) (pe_ifExp (pt_chain od_le od_le pe_int (pv 2) (pe_globI (by rfl) h_MOST_STEPS)) (pv 2) (pe_op od_mod (pv 2) (pe_callD (E := E) k_period_of (hr.mono (by decide)) (by rfl) passB (pa_cons (pv 0) pa_nil))))) (pss_cons (ps_for (passes_of rfl) rfl (pi_range1 (by rfl) h_range (pa_cons (pv 3) pa_nil)) (pg_name (i := 4) sc_far_moved.nd rfl (Or.inl rfl)) (pss_one (ps_set (i := 1) sc_far_moved.nd rfl (Or.inl rfl) (pe_callD (E := E) k_moved (hr.mono (by decide)) (by rfl) passB (pa_cons (pv 0) (pa_cons (pv 1) pa_nil)))))) (pss_one (ps_ret (pv 1))))),
     ((s_seq (s_asg (vs := [3]) (v_if (t_test (v_chain v_int (v_var rfl) v_int)) (v_var rfl) (v_op (v_var rfl) (v_call (cnt_cons cnt_nil) (a_cons (v_var rfl) a_nil)))) (w_name rfl rfl)) (s_seq (s_for (vs := [4]) (i_rng1 (a_cons (v_var rfl) a_nil)) (w_name rfl rfl) (s_asg (vs := [1]) (v_call (cnt_cons (cnt_cons cnt_nil)) (a_cons (v_var rfl) (a_cons (v_var rfl) a_nil))) (w_name rfl rfl))) (s_ret (v_var rfl)))) : EwS cl E [] [] [] _ b_far_moved).1⟩
abbrev s_rests : Stmt := topS 35
theorem sc_rests : FnScope ["check", "samples", "found", "bits", "value"] ["check", "samples"] (defScope s_rests) := ⟨rfl, rfl, rfl, by decide +kernel, rfl, by decide +kernel, by decide +kernel⟩
def b_rests : DL.Env → DM Fl :=
    (seqG (hOwn (gLstN gNil) 2)
    (seqG (hFor (gIt itemsL (getE 1)) (bindTup 2 (bindCons (setE 3) (bindCons (setE 4) bindNil)))
    (hApp 2 (gTup (gCons (gCall m_added (gCons (gCall m_run_through (gCons (getE 0) (gCons (getE 3) gNil))) (gCons (getE 4) gNil))) (gCons (gCall m_far_moved (gCons (getE 0) (gCons (gC (.int 1)) (gCons (gCB D.len (gCons (getE 3) gNil)) gNil)))) gNil)))))
    (hRet (getE 2))))
def m_rests : List D → DM D := runD 5 b_rests
theorem ok_rests (d : DefAt K mg "rests" s_rests ["check", "samples"]) (h_len : mg "len" = none) (k_run_through : KO P wd K mg base 3 "run_through" (spD cl 2 m_run_through)) (k_added : KO P wd K mg base 1 "added" (spD cl 2 m_added)) (k_far_moved : KO P wd K mg base 4 "far_moved" (spD cl 3 m_far_moved)) : KO P wd K mg base 5 "rests" (spD cl 2 m_rests) :=
  ko_of d fun f fd F => fn_D (n := 5) (os' := []) F sc_rests rfl fun cdv A outer s H E hr =>
    ⟨_, (pss_cons (ps_set (i := 2) sc_rests.nd rfl (Or.inl rfl) (pe_lst pa_nil)) (pss_cons (ps_for (passes_of rfl) rfl (pi_list (pv 1)) (pg_tup rfl (pgs_cons (pg_name (i := 3) sc_rests.nd rfl (Or.inl rfl)) (pgs_cons (pg_name (i := 4) sc_rests.nd rfl (Or.inl rfl)) pgs_nil))) (pss_one (ps_expr (pe_bm PySem.F.plainAttrs_list PySem.F.slot_list_append PySem.F.type_list_append mt_append (pv 2) (pa_cons (pe_tup (pa_cons (pe_callD (E := E) k_added (hr.mono (by decide)) (by rfl) passB (pa_cons (pe_callD (E := E) k_run_through (hr.mono (by decide)) (by rfl) passB (pa_cons (pv 0) (pa_cons (pv 3) pa_nil))) (pa_cons (pv 4) pa_nil))) (pa_cons (pe_callD (E := E) k_far_moved (hr.mono (by decide)) (by rfl) passB (pa_cons (pv 0) (pa_cons pe_int (pa_cons (pe_callB cd_len (by rfl) h_len boot_len (pa_cons (pv 3) pa_nil)) pa_nil)))) pa_nil))) pa_nil))))) (pss_one (ps_ret (pv 2))))),
     ((s_seq (s_own (n_lst a_nil) rfl) (s_seq (s_for (vs := [3, 4]) (i_list (v_var rfl)) (w_tup (w_cons (w_name rfl rfl) (w_cons (w_name rfl rfl) w_nil))) (s_app rfl (v_tup (a_cons (v_call (cnt_cons (cnt_cons cnt_nil)) (a_cons (v_call (cnt_cons (cnt_cons cnt_nil)) (a_cons (v_var rfl) (a_cons (v_var rfl) a_nil))) (a_cons (v_var rfl) a_nil))) (a_cons (v_call (cnt_cons (cnt_cons (cnt_cons cnt_nil))) (a_cons (v_var rfl) (a_cons v_int (a_cons (v_cb (a_cons (v_var rfl) a_nil)) a_nil)))) a_nil))))) (s_freeze (s_ret (v_var rfl))))) : EwS cl E [] [] [] _ b_rests).1⟩
abbrev s_product : Stmt := topS 24
theorem sc_product : FnScope ["check", "one", "other", "found", "place"] ["check", "one", "other"] (defScope s_product) := ⟨rfl, rfl, rfl, by decide +kernel, rfl, by decide +kernel, by decide +kernel⟩
def b_product : DL.Env → DM Fl :=
    (seqG (hAsg (gC (.int 0)) (setE 3))
    (seqG (hFor (gIt rng1 (gCons (gOp D.idx (getE 0) (gC (.int 0))) gNil)) (setE 4)
    (seqG (gIf (gT (gOp D.eq (gOp D.mod (gOp D.fdiv (getE 2) (gCall m_power (gCons (getE 4) gNil))) (gC (.int 2))) (gC (.int 1))))
    (hAsg (gCall m_added (gCons (getE 3) (gCons (getE 1) gNil))) (setE 3))
    hNx)
    (hAsg (gCall m_moved (gCons (getE 0) (gCons (getE 1) gNil))) (setE 1))))
    (hRet (getE 3))))
def m_product : List D → DM D := runD 5 b_product
theorem ok_product (d : DefAt K mg "product" s_product ["check", "one", "other"]) (h_range : mg "range" = none) (k_power : KO P wd K mg base 1 "power" (spD cl 1 m_power)) (k_added : KO P wd K mg base 1 "added" (spD cl 2 m_added)) (k_moved : KO P wd K mg base 2 "moved" (spD cl 2 m_moved)) : KO P wd K mg base 3 "product" (spD cl 3 m_product) :=
  ko_of d fun f fd F => fn_D (n := 5) (os' := []) F sc_product rfl fun cdv A outer s H E hr =>
    ⟨_, (pss_cons (ps_set (i := 3) sc_product.nd rfl (Or.inl rfl) pe_int) (pss_cons (ps_for (passes_of rfl) rfl (pi_range1 (by rfl) h_range (pa_cons (pe_ix xd_idx (pv 0) pe_int (fun _ _ => rfl)) pa_nil)) (pg_name (i := 4) sc_product.nd rfl (Or.inl rfl)) (pss_cons (ps_if (pt_cmpR (od_eq (u64 hr)) (pe_op od_mod (pe_op od_fdiv (pv 2) (pe_callD (E := E) k_power (hr.mono (by decide)) (by rfl) passB (pa_cons (pv 4) pa_nil))) pe_int) pe_int (nomark _)) (pss_one (ps_set (i := 3) sc_product.nd rfl (Or.inl rfl) (pe_callD (E := E) k_added (hr.mono (by decide)) (by rfl) passB (pa_cons (pv 3) (pa_cons (pv 1) pa_nil))))) pss_nil) (pss_one (ps_set (i := 1) sc_product.nd rfl (Or.inl rfl) (pe_callD (E := E) k_moved (hr.mono (by decide)) (by rfl) passB (pa_cons (pv 0) (pa_cons (pv 1) pa_nil))))))) (pss_one (ps_ret (pv 3))))),
     ((s_seq (s_asg (vs := [3]) v_int (w_name rfl rfl)) (s_seq (s_for (vs := [4]) (i_rng1 (a_cons (v_op (v_var rfl) v_int) a_nil)) (w_name rfl rfl) (s_seq (s_if (t_test (v_op (v_op (v_op (v_var rfl) (v_call (cnt_cons cnt_nil) (a_cons (v_var rfl) a_nil))) v_int) v_int)) (s_asg (vs := [3]) (v_call (cnt_cons (cnt_cons cnt_nil)) (a_cons (v_var rfl) (a_cons (v_var rfl) a_nil))) (w_name rfl rfl)) s_next) (s_asg (vs := [1]) (v_call (cnt_cons (cnt_cons cnt_nil)) (a_cons (v_var rfl) (a_cons (v_var rfl) a_nil))) (w_name rfl rfl)))) (s_ret (v_var rfl)))) : EwS cl E [] [] [] _ b_product).1⟩
abbrev s_pairs_for : Stmt := topS 36
theorem sc_pairs_for : FnScope ["width", "poly", "samples", "check", "found", "rows", "start", "finals", "rest", "step"] ["width", "poly", "samples"] (defScope s_pairs_for) := ⟨rfl, rfl, rfl, by decide +kernel, rfl, by decide +kernel, by decide +kernel⟩
def b_pairs_for : DL.Env → DM Fl :=
    (seqG (hAsg (gTup (gCons (getE 0) (gCons (getE 1) (gCons (gC (.int 0)) (gCons (gC (.int 0)) gNil))))) (setE 3))
    (seqG (hOwn (gLstN gNil) 4)
    (seqG (hAsg (gCall m_rests (gCons (getE 3) (gCons (getE 2) gNil))) (setE 5))
    (seqG (hFor (gIt rng1 (gCons (gCall m_power (gCons (getE 0) gNil)) gNil)) (setE 6)
    (seqG (hAsg (gDc [8, 9] (gIt itemsL (getE 5)) (bindTup 2 (bindCons (setE 8) (bindCons (setE 9) bindNil))) (gCall m_added (gCons (getE 8) (gCons (gCall m_product (gCons (getE 3) (gCons (getE 9) (gCons (getE 6) gNil)))) gNil)))) (setE 7))
    (gIf (gT (gOp D.eq (gCB D.lenK (gCons (getE 7) gNil)) (gC (.int 1))))
    (hApp 4 (gTup (gCons (getE 6) (gCons (gOp D.idx (gCB D.listK (gCons (getE 7) gNil)) (gC (.int 0))) gNil))))
    hNx)))
    (hRet (getE 4))))))
def m_pairs_for : List D → DM D := runD 10 b_pairs_for
theorem ok_pairs_for (d : DefAt K mg "pairs_for" s_pairs_for ["width", "poly", "samples"]) (h_range : mg "range" = none) (h_len : mg "len" = none) (h_list : mg "list" = none) (k_rests : KO P wd K mg base 5 "rests" (spD cl 2 m_rests)) (k_power : KO P wd K mg base 1 "power" (spD cl 1 m_power)) (k_product : KO P wd K mg base 3 "product" (spD cl 3 m_product)) (k_added : KO P wd K mg base 1 "added" (spD cl 2 m_added)) : KO P wd K mg base 6 "pairs_for" (spD cl 3 m_pairs_for) :=
  ko_of d fun f fd F => fn_D (n := 10) (os' := []) F sc_pairs_for rfl fun cdv A outer s H E hr =>
    ⟨_, (pss_cons (ps_set (i := 3) sc_pairs_for.nd rfl (Or.inr rfl) (pe_tup (pa_cons (pv 0) (pa_cons (pv 1) (pa_cons pe_int (pa_cons pe_int pa_nil)))))) (pss_cons (ps_set (i := 4) sc_pairs_for.nd rfl (Or.inl rfl) (pe_lst pa_nil)) (pss_cons (ps_set (i := 5) sc_pairs_for.nd rfl (Or.inl rfl) (pe_callD (E := E) k_rests (hr.mono (by decide)) (by rfl) passB (pa_cons (pv 3) (pa_cons (pv 2) pa_nil)))) (pss_cons (ps_for (passes_of rfl) rfl (pi_range1 (by rfl) h_range (pa_cons (pe_callD (E := E) k_power (hr.mono (by decide)) (by rfl) passB (pa_cons (pv 0) pa_nil)) pa_nil)) (pg_name (i := 6) sc_pairs_for.nd rfl (Or.inr rfl)) (pss_cons (ps_setDc (i := 7) (own := [("rest", 8), ("step", 9)]) rfl sc_pairs_for.nd rfl rfl (sw_trueD rfl rfl rfl (by decide +kernel)) (pi_list (pv 5)) (blkOk_by (own := [("rest", 8), ("step", 9)]) (N := ["width", "poly", "samples", "check", "found", "rows", "start", "finals", "rest", "step"]) (sc := defScope s_pairs_for) (by decide +kernel)) (fun _ _ _ _ _ => (pg_tup rfl (pgs_cons (pg_name (i := 8) sc_pairs_for.nd rfl (Or.inl rfl)) (pgs_cons (pg_name (i := 9) sc_pairs_for.nd rfl (Or.inl rfl)) pgs_nil)))) (fun _ _ _ _ _ => pts_nil) (fun _ _ _ _ _ => (pe_callD (E := L2.E0) k_added (hr.mono (by decide)) (by rfl) passL (pa_cons (pv 8) (pa_cons (pe_callD (E := L2.E0) k_product (hr.mono (by decide)) (by rfl) passL (pa_cons (pv 3) (pa_cons (pv 9) (pa_cons (pv 6) pa_nil)))) pa_nil)))) (fun _ _ _ _ _ => pe_bl)) (pss_one (ps_if (pt_cmpR (od_eq (u64 hr)) (pe_callB cd_lenK (by rfl) h_len boot_len (pa_cons (pv 7) pa_nil)) pe_int (nomark _)) (pss_one (ps_expr (pe_bm PySem.F.plainAttrs_list PySem.F.slot_list_append PySem.F.type_list_append mt_append (pv 4) (pa_cons (pe_tup (pa_cons (pv 6) (pa_cons (pe_ix xd_idx (pe_callTy (cd_listK rfl) (by rfl) h_list boot_list (pa_cons (pv 7) pa_nil)) pe_int (fun _ _ => rfl)) pa_nil))) pa_nil)))) pss_nil)))) (pss_one (ps_ret (pv 4))))))),
     ((s_seq (s_asg (vs := [3]) (v_tup (a_cons (v_var rfl) (a_cons (v_var rfl) (a_cons v_int (a_cons v_int a_nil))))) (w_name rfl rfl)) (s_seq (s_own (n_lst a_nil) rfl) (s_seq (s_asg (vs := [5]) (v_call (cnt_cons (cnt_cons cnt_nil)) (a_cons (v_var rfl) (a_cons (v_var rfl) a_nil))) (w_name rfl rfl)) (s_seq (s_for (vs := [6]) (i_rng1 (a_cons (v_call (cnt_cons cnt_nil) (a_cons (v_var rfl) a_nil)) a_nil)) (w_name rfl rfl) (s_seq (s_asg (vs := [7]) (v_dc (vs := [8, 9]) rfl (i_list (v_var rfl)) (w_tup (w_cons (w_name rfl rfl) (w_cons (w_name rfl rfl) w_nil))) (v_call (cnt_cons (cnt_cons cnt_nil)) (a_cons (v_var rfl) (a_cons (v_call (cnt_cons (cnt_cons (cnt_cons cnt_nil))) (a_cons (v_var rfl) (a_cons (v_var rfl) (a_cons (v_var rfl) a_nil)))) a_nil)))) (w_name rfl rfl)) (s_if (t_test (v_op (v_cb (a_cons (v_var rfl) a_nil)) v_int)) (s_app rfl (v_tup (a_cons (v_var rfl) (a_cons (v_op (v_cb (a_cons (v_var rfl) a_nil)) v_int) a_nil)))) s_next))) (s_freeze (s_ret (v_var rfl))))))) : EwS cl E [] [] [] _ b_pairs_for).1⟩
abbrev s_explaining : Stmt := topS 37
theorem sc_explaining : FnScope ["width", "samples", "found", "poly", "pairs"] ["width", "samples"] (defScope s_explaining) := ⟨rfl, rfl, rfl, by decide +kernel, rfl, by decide +kernel, by decide +kernel⟩
def b_explaining : DL.Env → DM Fl :=
    (seqG (gIf (gNot (gT (gCall m_is_int (gCons (getE 0) (gCons (gC (.int 1)) (gCons (gC (.int 5)) gNil))))))
    (hRaise .num)
    hNx)
    (seqG (hDrop (gCall m_check_samples (gCons (getE 0) (gCons (getE 1) gNil))))
    (seqG (hOwn (gLstN gNil) 2)
    (seqG (hFor (gIt rng3 (gCons (gC (.int 1)) (gCons (gCall m_power (gCons (getE 0) gNil)) (gCons (gC (.int 2)) gNil)))) (setE 3)
    (seqG (hAsg (gCall m_pairs_for (gCons (getE 0) (gCons (getE 3) (gCons (getE 1) gNil)))) (setE 4))
    (gIf (gT (gOp D.ne (getE 4) (gLst gNil)))
    (hApp 2 (gTup (gCons (getE 3) (gCons (gCB D.len (gCons (getE 4) gNil)) (gCons (gOp D.idx (gOp D.idx (getE 4) (gC (.int 0))) (gC (.int 0))) (gCons (gOp D.idx (gOp D.idx (getE 4) (gC (.int 0))) (gC (.int 1))) gNil))))))
    hNx)))
    (hRet (getE 2))))))
def m_explaining : List D → DM D := runD 5 b_explaining
theorem ok_explaining (d : DefAt K mg "explaining" s_explaining ["width", "samples"]) (h_MOST_SEARCH_samples : ∃ t, mg "MOST_SEARCH_samples" = some (.int 5 t)) (h_range : mg "range" = none) (h_len : mg "len" = none) (x_BadNumber : ExcAt K mg "BadNumber" (cl .num)) (k_is_int : KO P wd K mg base 1 "is_int" (spD cl 3 m_is_int)) (k_check_samples : KO P wd K mg base 4 "check_samples" (spD cl 2 m_check_samples)) (k_power : KO P wd K mg base 1 "power" (spD cl 1 m_power)) (k_pairs_for : KO P wd K mg base 6 "pairs_for" (spD cl 3 m_pairs_for)) : KO P wd K mg base 7 "explaining" (spD cl 2 m_explaining) :=
  ko_of d fun f fd F => fn_D (n := 5) (os' := []) F sc_explaining rfl fun cdv A outer s H E hr =>
    ⟨_, (pss_cons (ps_if (pt_not (pt_val (pe_callD (E := E) k_is_int (hr.mono (by decide)) (by rfl) passB (pa_cons (pv 0) (pa_cons pe_int (pa_cons (pe_globI (by rfl) h_MOST_SEARCH_samples) pa_nil)))))) (pss_one (ps_raiseD (E := E) (e := .num) x_BadNumber rfl (takes_of rfl rfl rfl rfl) (by rfl))) pss_nil) (pss_cons (ps_expr (pe_callD (E := E) k_check_samples (hr.mono (by decide)) (by rfl) passB (pa_cons (pv 0) (pa_cons (pv 1) pa_nil)))) (pss_cons (ps_set (i := 2) sc_explaining.nd rfl (Or.inl rfl) (pe_lst pa_nil)) (pss_cons (ps_for (passes_of rfl) rfl (pi_range3 (by rfl) h_range (pa_cons pe_int (pa_cons (pe_callD (E := E) k_power (hr.mono (by decide)) (by rfl) passB (pa_cons (pv 0) pa_nil)) (pa_cons pe_int pa_nil)))) (pg_name (i := 3) sc_explaining.nd rfl (Or.inl rfl)) (pss_cons (ps_set (i := 4) sc_explaining.nd rfl (Or.inl rfl) (pe_callD (E := E) k_pairs_for (hr.mono (by decide)) (by rfl) passB (pa_cons (pv 0) (pa_cons (pv 3) (pa_cons (pv 1) pa_nil))))) (pss_one (ps_if (pt_cmpR (od_ne (u64 hr)) (pv 4) (pe_lst pa_nil) (nomark _)) (pss_one (ps_expr (pe_bm PySem.F.plainAttrs_list PySem.F.slot_list_append PySem.F.type_list_append mt_append (pv 2) (pa_cons (pe_tup (pa_cons (pv 3) (pa_cons (pe_callB cd_len (by rfl) h_len boot_len (pa_cons (pv 4) pa_nil)) (pa_cons (pe_ix xd_idx (pe_ix xd_idx (pv 4) pe_int (fun _ _ => rfl)) pe_int (fun _ _ => rfl)) (pa_cons (pe_ix xd_idx (pe_ix xd_idx (pv 4) pe_int (fun _ _ => rfl)) pe_int (fun _ _ => rfl)) pa_nil))))) pa_nil)))) pss_nil)))) (pss_one (ps_ret (pv 2))))))),
     ((s_seq (s_if (t_not (t_B (v_call (cnt_cons (cnt_cons (cnt_cons cnt_nil))) (a_cons (v_var rfl) (a_cons v_int (a_cons v_int a_nil)))))) s_raise s_next) (s_seq (s_drop (v_call (cnt_cons (cnt_cons cnt_nil)) (a_cons (v_var rfl) (a_cons (v_var rfl) a_nil)))) (s_seq (s_own (n_lst a_nil) rfl) (s_seq (s_for (vs := [3]) (i_rng3 (a_cons v_int (a_cons (v_call (cnt_cons cnt_nil) (a_cons (v_var rfl) a_nil)) (a_cons v_int a_nil)))) (w_name rfl rfl) (s_seq (s_asg (vs := [4]) (v_call (cnt_cons (cnt_cons (cnt_cons cnt_nil))) (a_cons (v_var rfl) (a_cons (v_var rfl) (a_cons (v_var rfl) a_nil)))) (w_name rfl rfl)) (s_if (t_test (v_op (v_var rfl) (v_lst a_nil))) (s_app rfl (v_tup (a_cons (v_var rfl) (a_cons (v_cb (a_cons (v_var rfl) a_nil)) (a_cons (v_op (v_op (v_var rfl) v_int) v_int) (a_cons (v_op (v_op (v_var rfl) v_int) v_int) a_nil)))))) s_next))) (s_freeze (s_ret (v_var rfl))))))) : EwS cl E [] [] [] _ b_explaining).1⟩
abbrev s_first_conflict : Stmt := topS 38
theorem sc_first_conflict : FnScope ["width", "samples", "polys", "number", "poly"] ["width", "samples"] (defScope s_first_conflict) := ⟨rfl, rfl, rfl, by decide +kernel, rfl, by decide +kernel, by decide +kernel⟩
def b_first_conflict : DL.Env → DM Fl :=
    (seqG (gIf (gNot (gT (gCall m_is_int (gCons (getE 0) (gCons (gC (.int 1)) (gCons (gC (.int 5)) gNil))))))
    (hRaise .num)
    hNx)
    (seqG (hDrop (gCall m_check_samples (gCons (getE 0) (gCons (getE 1) gNil))))
    (seqG (hAsg (gLrg3 (gCons (gC (.int 1)) (gCons (gCall m_power (gCons (getE 0) gNil)) (gCons (gC (.int 2)) gNil)))) (setE 2))
    (seqG (hFor (gIt rng1 (gCons (gCB D.len (gCons (getE 1) gNil)) gNil)) (setE 3)
    (seqG (hAsg (gL (gComp [4] (gIt itemsL (getE 2)) (setE 4) (gT (gOp D.ne (gCall m_pairs_for (gCons (getE 0) (gCons (getE 4) (gCons (gSl D.cut (getE 1) gNoPart (gPart (gOp D.add (getE 3) (gC (.int 1))))) gNil)))) (gLst gNil))) (getE 4))) (setE 2))
    (gIf (gT (gOp D.eq (getE 2) (gLst gNil)))
    (hRet (getE 3))
    hNx)))
    (hRet (gC .non))))))
def m_first_conflict : List D → DM D := runD 5 b_first_conflict
theorem ok_first_conflict (d : DefAt K mg "first_conflict" s_first_conflict ["width", "samples"]) (h_MOST_SEARCH_samples : ∃ t, mg "MOST_SEARCH_samples" = some (.int 5 t)) (h_list : mg "list" = none) (h_range : mg "range" = none) (h_len : mg "len" = none) (x_BadNumber : ExcAt K mg "BadNumber" (cl .num)) (k_is_int : KO P wd K mg base 1 "is_int" (spD cl 3 m_is_int)) (k_check_samples : KO P wd K mg base 4 "check_samples" (spD cl 2 m_check_samples)) (k_power : KO P wd K mg base 1 "power" (spD cl 1 m_power)) (k_pairs_for : KO P wd K mg base 6 "pairs_for" (spD cl 3 m_pairs_for)) : KO P wd K mg base 7 "first_conflict" (spD cl 2 m_first_conflict) :=
  ko_of d fun f fd F => fn_D (n := 5) (os' := []) F sc_first_conflict rfl fun cdv A outer s H E hr =>
    ⟨_, (pss_cons (ps_if (pt_not (pt_val (pe_callD (E := E) k_is_int (hr.mono (by decide)) (by rfl) passB (pa_cons (pv 0) (pa_cons pe_int (pa_cons (pe_globI (by rfl) h_MOST_SEARCH_samples) pa_nil)))))) (pss_one (ps_raiseD (E := E) (e := .num) x_BadNumber rfl (takes_of rfl rfl rfl rfl) (by rfl))) pss_nil) (pss_cons (ps_expr (pe_callD (E := E) k_check_samples (hr.mono (by decide)) (by rfl) passB (pa_cons (pv 0) (pa_cons (pv 1) pa_nil)))) (pss_cons (ps_set (i := 2) sc_first_conflict.nd rfl (Or.inl rfl) (pe_listRg3 rfl (by rfl) h_list (by rfl) h_range (pa_cons pe_int (pa_cons (pe_callD (E := E) k_power (hr.mono (by decide)) (by rfl) passB (pa_cons (pv 0) pa_nil)) (pa_cons pe_int pa_nil))))) (pss_cons (ps_for (passes_of rfl) rfl (pi_range1 (by rfl) h_range (pa_cons (pe_callB cd_len (by rfl) h_len boot_len (pa_cons (pv 1) pa_nil)) pa_nil)) (pg_name (i := 3) sc_first_conflict.nd rfl (Or.inr rfl)) (pss_cons (ps_setLc (i := 2) (own := [("poly", 4)]) rfl sc_first_conflict.nd rfl rfl (sw_true rfl rfl rfl (by decide +kernel)) (pi_list (pv 2)) (blkOk_by (own := [("poly", 4)]) (N := ["width", "samples", "polys", "number", "poly"]) (sc := defScope s_first_conflict) (by decide +kernel)) (fun _ _ _ _ _ => (pg_name (i := 4) sc_first_conflict.nd rfl (Or.inl rfl))) (fun _ _ _ _ _ => (pts_one (pt_cmpR (od_ne (u64 hr)) (pe_callD (E := L2.E0) k_pairs_for (hr.mono (by decide)) (by rfl) passL (pa_cons (pv 0) (pa_cons (pv 4) (pa_cons (pe_slice sd_cut (pv 1) po_none (po_some (pe_op od_add (pv 3) pe_int))) pa_nil)))) (pe_lst pa_nil) (nomark _)))) (fun _ _ _ _ _ => (pv 4))) (pss_one (ps_if (pt_cmpR (od_eq (u64 hr)) (pv 2) (pe_lst pa_nil) (nomark _)) (pss_one (ps_ret (pv 3))) pss_nil)))) (pss_one (ps_ret pe_non)))))),
     ((s_seq (s_if (t_not (t_B (v_call (cnt_cons (cnt_cons (cnt_cons cnt_nil))) (a_cons (v_var rfl) (a_cons v_int (a_cons v_int a_nil)))))) s_raise s_next) (s_seq (s_drop (v_call (cnt_cons (cnt_cons cnt_nil)) (a_cons (v_var rfl) (a_cons (v_var rfl) a_nil)))) (s_seq (s_asg (vs := [2]) (v_lrg3 (a_cons v_int (a_cons (v_call (cnt_cons cnt_nil) (a_cons (v_var rfl) a_nil)) (a_cons v_int a_nil)))) (w_name rfl rfl)) (s_seq (s_for (vs := [3]) (i_rng1 (a_cons (v_cb (a_cons (v_var rfl) a_nil)) a_nil)) (w_name rfl rfl) (s_seq (s_asg (vs := [2]) (v_new (n_comp (vs := [4]) rfl (i_list (v_var rfl)) (w_name rfl rfl) (t_test (v_op (v_call (cnt_cons (cnt_cons (cnt_cons cnt_nil))) (a_cons (v_var rfl) (a_cons (v_var rfl) (a_cons (v_sl (v_var rfl) o_none (o_some (v_op (v_var rfl) v_int))) a_nil)))) (v_lst a_nil))) (v_var rfl))) (w_name rfl rfl)) (s_if (t_test (v_op (v_var rfl) (v_lst a_nil))) (s_ret (v_var rfl)) s_next))) (s_ret v_non))))) : EwS cl E [] [] [] _ b_first_conflict).1⟩
abbrev s_check_length : Stmt := topS 42
theorem sc_check_length : FnScope ["length", "most"] ["length", "most"] (defScope s_check_length) := ⟨rfl, rfl, rfl, by decide +kernel, rfl, by decide +kernel, by decide +kernel⟩
def b_check_length : DL.Env → DM Fl :=
    (gIf (gNot (gT (gCall m_is_int (gCons (getE 0) (gCons (gC (.int 1)) (gCons (getE 1) gNil))))))
    (hRaise .num)
    hNx)
def m_check_length : List D → DM D := runD 2 b_check_length
theorem ok_check_length (d : DefAt K mg "check_length" s_check_length ["length", "most"]) (x_BadNumber : ExcAt K mg "BadNumber" (cl .num)) (k_is_int : KO P wd K mg base 1 "is_int" (spD cl 3 m_is_int)) : KO P wd K mg base 2 "check_length" (spD cl 2 m_check_length) :=
  ko_of d fun f fd F => fn_D (n := 2) (os' := []) F sc_check_length rfl fun cdv A outer s H E hr =>
    ⟨_, (pss_one (ps_if (pt_not (pt_val (pe_callD (E := E) k_is_int (hr.mono (by decide)) (by rfl) passB (pa_cons (pv 0) (pa_cons pe_int (pa_cons (pv 1) pa_nil)))))) (pss_one (ps_raiseD (E := E) (e := .num) x_BadNumber rfl (takes_of rfl rfl rfl rfl) (by rfl))) pss_nil)),
     ((s_if (t_not (t_B (v_call (cnt_cons (cnt_cons (cnt_cons cnt_nil))) (a_cons (v_var rfl) (a_cons v_int (a_cons (v_var rfl) a_nil)))))) s_raise s_next) : EwS cl E [] [] [] _ b_check_length).1⟩
abbrev s_counts_of : Stmt := topS 43
theorem sc_counts_of : FnScope ["check", "length", "rows", "value", "place", "after", "rest", "many", "key"] ["check", "length"] (defScope s_counts_of) := ⟨rfl, rfl, rfl, by decide +kernel, rfl, by decide +kernel, by decide +kernel⟩
def m_counts_of : List D → DM D := cntM m_added m_moved
theorem ok_counts_of (d : DefAt K mg "counts_of" s_counts_of ["check", "length"]) (h_range : mg "range" = none) (h_dict : mg "dict" = none) (k_added : KO P wd K mg base 1 "added" (spD cl 2 m_added)) (k_moved : KO P wd K mg base 2 "moved" (spD cl 2 m_moved)) : KO P wd K mg base 3 "counts_of" (spD cl 2 m_counts_of) :=
  ko_of d fun f fd F => F.okX sc_counts_of (fun vs H Q E h => h.1) fun cdv A outer s H vs Q E hr h => by
    refine ⟨_, pss_cons (ps_set (i := 2) sc_counts_of.nd rfl (Or.inr rfl) (pe_dT1 (u0 hr) (pe_tup (pa_cons pe_int (pa_cons pe_int pa_nil))) pe_int))
      (pss_cons (ps_set (i := 3) sc_counts_of.nd rfl (Or.inl rfl) pe_int)
      (pss_cons (ps_for (passes_of rfl) rfl (pi_range1 (by rfl) h_range (pa_cons (pv 1) pa_nil)) (pg_name (i := 4) sc_counts_of.nd rfl (Or.inl rfl))
        (pss_cons (ps_set (i := 5) sc_counts_of.nd rfl (Or.inl rfl) (pe_callTy (call_dictT (u2 hr)) (by rfl) h_dict boot_dict (pa_cons (pv 2) pa_nil)))
        (pss_cons (ps_lock (ps_for (passes_of rfl) rfl (pi_keys (pv 2)) (pg_tup rfl (pgs_cons (pg_name (i := 6) sc_counts_of.nd rfl (Or.inl rfl)) (pgs_cons (pg_name (i := 7) sc_counts_of.nd rfl (Or.inl rfl)) pgs_nil)))
          (pss_cons (ps_set (i := 8) sc_counts_of.nd rfl (Or.inl rfl) (pe_tup (pa_cons (pe_callD (E := E) k_added (hr.mono (by decide)) (by rfl) passB (pa_cons (pv 6) (pa_cons (pv 3) pa_nil))) (pa_cons (pe_op op_add (pv 7) pe_int) pa_nil))))
          (pss_one (ps_asg (pe_op op_add (pe_dget2 (u1 hr) (pv 5) (pv 8) pe_int ⟨rfl, rfl, rfl, rfl⟩) (pe_dget (u1 hr) (pv 2) (pe_tup (pa_cons (pv 6) (pa_cons (pv 7) pa_nil))) (fun _ _ => rfl))) (pg_sub (pv 5) (pv 8) (set_dict (u1 hr))))))))
        (pss_cons (ps_set (i := 2) sc_counts_of.nd rfl (Or.inr rfl) (pv 5))
        (pss_one (ps_set (i := 3) sc_counts_of.nd rfl (Or.inl rfl) (pe_callD (E := E) k_moved (hr.mono (by decide)) (by rfl) passB (pa_cons (pv 0) (pa_cons (pv 3) pa_nil)))))))))
      (pss_one (ps_ret (pe_lc (own := [("many", 7)]) rfl sc_counts_of.nd (pi_range1 (by rfl) h_range (pa_cons (pe_op op_add (pv 1) pe_int) pa_nil)) (blkOk_by (own := [("many", 7)]) (N := ["check", "length", "rows", "value", "place", "after", "rest", "many", "key"]) (sc := defScope s_counts_of) (by decide +kernel)) (fun _ _ _ _ _ => (pg_name (i := 7) sc_counts_of.nd rfl (Or.inl rfl))) (fun _ _ _ _ _ => pts_nil) (fun _ _ _ _ _ => pe_dget2 (u1 hr) (pv 2) (pe_tup (pa_cons pe_int (pa_cons (pv 7) pa_nil))) pe_int ⟨rfl, rfl, rfl, rfl⟩)))))), ?_⟩
    exact walk_counts rfl h
abbrev s_distance_of : Stmt := topS 44
theorem sc_distance_of : FnScope ["check", "length", "found", "many"] ["check", "length"] (defScope s_distance_of) := ⟨rfl, rfl, rfl, by decide +kernel, rfl, by decide +kernel, by decide +kernel⟩
def b_distance_of : DL.Env → DM Fl :=
    (seqG (hAsg (gCall m_counts_of (gCons (getE 0) (gCons (getE 1) gNil))) (setE 2))
    (seqG (hFor (gIt rng2 (gCons (gC (.int 1)) (gCons (gCB D.len (gCons (getE 2) gNil)) gNil))) (setE 3)
    (gIf (gT (gOp D.gt (gOp D.idx (getE 2) (getE 3)) (gC (.int 0))))
    (hRet (getE 3))
    hNx))
    (hRet (gC .non))))
def m_distance_of : List D → DM D := runD 4 b_distance_of
theorem ok_distance_of (d : DefAt K mg "distance_of" s_distance_of ["check", "length"]) (h_len : mg "len" = none) (h_range : mg "range" = none) (k_counts_of : KO P wd K mg base 3 "counts_of" (spD cl 2 m_counts_of)) : KO P wd K mg base 4 "distance_of" (spD cl 2 m_distance_of) :=
  ko_of d fun f fd F => fn_D (n := 4) (os' := []) F sc_distance_of rfl fun cdv A outer s H E hr =>
    ⟨_, (pss_cons (ps_set (i := 2) sc_distance_of.nd rfl (Or.inl rfl) (pe_callD (E := E) k_counts_of (hr.mono (by decide)) (by rfl) passB (pa_cons (pv 0) (pa_cons (pv 1) pa_nil)))) (pss_cons (ps_for (passes_of rfl) rfl (pi_range2 (by rfl) h_range (pa_cons pe_int (pa_cons (pe_callB cd_len (by rfl) h_len boot_len (pa_cons (pv 2) pa_nil)) pa_nil))) (pg_name (i := 3) sc_distance_of.nd rfl (Or.inl rfl)) (pss_one (ps_if (pt_cmpR od_gt (pe_ix xd_idx (pv 2) (pv 3) (fun _ _ => rfl)) pe_int (nomark _)) (pss_one (ps_ret (pv 3))) pss_nil))) (pss_one (ps_ret pe_non)))),
     ((s_seq (s_asg (vs := [2]) (v_call (cnt_cons (cnt_cons cnt_nil)) (a_cons (v_var rfl) (a_cons (v_var rfl) a_nil))) (w_name rfl rfl)) (s_seq (s_for (vs := [3]) (i_rng2 (a_cons v_int (a_cons (v_cb (a_cons (v_var rfl) a_nil)) a_nil))) (w_name rfl rfl) (s_if (t_test (v_op (v_op (v_var rfl) (v_var rfl)) v_int)) (s_ret (v_var rfl)) s_next)) (s_ret v_non))) : EwS cl E [] [] [] _ b_distance_of).1⟩
abbrev s_strongest : Stmt := topS 45
theorem sc_strongest : FnScope ["width", "length", "rows", "most", "poly", "found"] ["width", "length"] (defScope s_strongest) := ⟨rfl, rfl, rfl, by decide +kernel, rfl, by decide +kernel, by decide +kernel⟩
def b_strongest : DL.Env → DM Fl :=
    (seqG (gIf (gNot (gT (gCall m_is_int (gCons (getE 0) (gCons (gC (.int 1)) (gCons (gC (.int 5)) gNil))))))
    (hRaise .num)
    hNx)
    (seqG (hDrop (gCall m_check_length (gCons (getE 1) (gCons (gOp D.fdiv (gC (.int 40)) (gC (.int 2))) gNil))))
    (seqG (hAsg (gL (gComp [4] (gIt rng3 (gCons (gC (.int 1)) (gCons (gCall m_power (gCons (getE 0) gNil)) (gCons (gC (.int 2)) gNil)))) (setE 4) gYes (gTup (gCons (gCall m_distance_of (gCons (gTup (gCons (getE 0) (gCons (getE 4) (gCons (gC (.int 0)) (gCons (gC (.int 0)) gNil))))) (gCons (getE 1) gNil))) (gCons (getE 4) gNil))))) (setE 2))
    (seqG (gIf (gT (gCB D.any (gCons (gL (gComp [5, 4] (gIt itemsL (getE 2)) (bindTup 2 (bindCons (setE 5) (bindCons (setE 4) bindNil))) gYes (gOp D.is (getE 5) (gC .non)))) gNil)))
    (hRet (gTup (gCons (gC .non) (gCons (gL (gComp [5, 4] (gIt itemsL (getE 2)) (bindTup 2 (bindCons (setE 5) (bindCons (setE 4) bindNil))) (gT (gOp D.is (getE 5) (gC .non))) (getE 4))) gNil))))
    hNx)
    (seqG (hAsg (gCB D.max (gCons (gL (gComp [5, 4] (gIt itemsL (getE 2)) (bindTup 2 (bindCons (setE 5) (bindCons (setE 4) bindNil))) gYes (getE 5))) gNil)) (setE 3))
    (hRet (gTup (gCons (getE 3) (gCons (gL (gComp [5, 4] (gIt itemsL (getE 2)) (bindTup 2 (bindCons (setE 5) (bindCons (setE 4) bindNil))) (gT (gOp D.eq (getE 5) (getE 3))) (getE 4))) gNil)))))))))
def m_strongest : List D → DM D := runD 6 b_strongest
theorem ok_strongest (d : DefAt K mg "strongest" s_strongest ["width", "length"]) (h_MOST_SEARCH_weights : ∃ t, mg "MOST_SEARCH_weights" = some (.int 5 t)) (h_MOST_LENGTH : ∃ t, mg "MOST_LENGTH" = some (.int 40 t)) (h_range : mg "range" = none) (h_any : mg "any" = none) (h_max : mg "max" = none) (x_BadNumber : ExcAt K mg "BadNumber" (cl .num)) (k_is_int : KO P wd K mg base 1 "is_int" (spD cl 3 m_is_int)) (k_check_length : KO P wd K mg base 2 "check_length" (spD cl 2 m_check_length)) (k_power : KO P wd K mg base 1 "power" (spD cl 1 m_power)) (k_distance_of : KO P wd K mg base 4 "distance_of" (spD cl 2 m_distance_of)) : KO P wd K mg base 5 "strongest" (spD cl 2 m_strongest) :=
  ko_of d fun f fd F => fn_D (n := 6) (os' := []) F sc_strongest rfl fun cdv A outer s H E hr =>
    ⟨_, (pss_cons (ps_if (pt_not (pt_val (pe_callD (E := E) k_is_int (hr.mono (by decide)) (by rfl) passB (pa_cons (pv 0) (pa_cons pe_int (pa_cons (pe_globI (by rfl) h_MOST_SEARCH_weights) pa_nil)))))) (pss_one (ps_raiseD (E := E) (e := .num) x_BadNumber rfl (takes_of rfl rfl rfl rfl) (by rfl))) pss_nil) (pss_cons (ps_expr (pe_callD (E := E) k_check_length (hr.mono (by decide)) (by rfl) passB (pa_cons (pv 1) (pa_cons (pe_op od_fdiv (pe_globI (by rfl) h_MOST_LENGTH) pe_int) pa_nil)))) (pss_cons (ps_setLc (i := 2) (own := [("poly", 4)]) rfl sc_strongest.nd rfl rfl (sw_true rfl rfl rfl (by decide +kernel)) (pi_range3 (by rfl) h_range (pa_cons pe_int (pa_cons (pe_callD (E := E) k_power (hr.mono (by decide)) (by rfl) passB (pa_cons (pv 0) pa_nil)) (pa_cons pe_int pa_nil)))) (blkOk_by (own := [("poly", 4)]) (N := ["width", "length", "rows", "most", "poly", "found"]) (sc := defScope s_strongest) (by decide +kernel)) (fun _ _ _ _ _ => (pg_name (i := 4) sc_strongest.nd rfl (Or.inl rfl))) (fun _ _ _ _ _ => pts_nil) (fun _ _ _ _ _ => (pe_tup (pa_cons (pe_callD (E := L2.E0) k_distance_of (hr.mono (by decide)) (by rfl) passL (pa_cons (pe_tup (pa_cons (pv 0) (pa_cons (pv 4) (pa_cons pe_int (pa_cons pe_int pa_nil))))) (pa_cons (pv 1) pa_nil))) (pa_cons (pv 4) pa_nil))))) (pss_cons (ps_if (pt_val (pe_callB (cd_any rfl) (by rfl) h_any (by decide +kernel) (pa_cons (pe_lc (own := [("found", 5), ("poly", 4)]) rfl sc_strongest.nd (pi_list (pv 2)) (blkOk_by (own := [("found", 5), ("poly", 4)]) (N := ["width", "length", "rows", "most", "poly", "found"]) (sc := defScope s_strongest) (by decide +kernel)) (fun _ _ _ _ _ => (pg_tup rfl (pgs_cons (pg_name (i := 5) sc_strongest.nd rfl (Or.inl rfl)) (pgs_cons (pg_name (i := 4) sc_strongest.nd rfl (Or.inl rfl)) pgs_nil)))) (fun _ _ _ _ _ => pts_nil) (fun _ _ _ _ _ => (pe_cmpR od_is (pv 5) pe_non (nomark _)))) pa_nil))) (pss_one (ps_ret (pe_tup (pa_cons pe_non (pa_cons (pe_lc (own := [("found", 5), ("poly", 4)]) rfl sc_strongest.nd (pi_list (pv 2)) (blkOk_by (own := [("found", 5), ("poly", 4)]) (N := ["width", "length", "rows", "most", "poly", "found"]) (sc := defScope s_strongest) (by decide +kernel)) (fun _ _ _ _ _ => (pg_tup rfl (pgs_cons (pg_name (i := 5) sc_strongest.nd rfl (Or.inl rfl)) (pgs_cons (pg_name (i := 4) sc_strongest.nd rfl (Or.inl rfl)) pgs_nil)))) (fun _ _ _ _ _ => (pts_one (pt_cmpR od_is (pv 5) pe_non (nomark _)))) (fun _ _ _ _ _ => (pv 4))) pa_nil))))) pss_nil) (pss_cons (ps_set (i := 3) sc_strongest.nd rfl (Or.inr rfl) (pe_callB (cd_max rfl) (by rfl) h_max (by decide +kernel) (pa_cons (pe_lc (own := [("found", 5), ("poly", 4)]) rfl sc_strongest.nd (pi_list (pv 2)) (blkOk_by (own := [("found", 5), ("poly", 4)]) (N := ["width", "length", "rows", "most", "poly", "found"]) (sc := defScope s_strongest) (by decide +kernel)) (fun _ _ _ _ _ => (pg_tup rfl (pgs_cons (pg_name (i := 5) sc_strongest.nd rfl (Or.inl rfl)) (pgs_cons (pg_name (i := 4) sc_strongest.nd rfl (Or.inl rfl)) pgs_nil)))) (fun _ _ _ _ _ => pts_nil) (fun _ _ _ _ _ => (pv 5))) pa_nil))) (pss_one (ps_ret (pe_tup (pa_cons (pv 3) (pa_cons (pe_lc (own := [("found", 5), ("poly", 4)]) rfl sc_strongest.nd (pi_list (pv 2)) (blkOk_by (own := [("found", 5), ("poly", 4)]) (N := ["width", "length", "rows", "most", "poly", "found"]) (sc := defScope s_strongest) (by decide +kernel)) (fun _ _ _ _ _ => (pg_tup rfl (pgs_cons (pg_name (i := 5) sc_strongest.nd rfl (Or.inl rfl)) (pgs_cons (pg_name (i := 4) sc_strongest.nd rfl (Or.inl rfl)) pgs_nil)))) (fun _ _ _ _ _ => (pts_one (pt_cmpR (od_eq (u64 hr)) (pv 5) (pv 3) (nomark _)))) (fun _ _ _ _ _ => (pv 4))) pa_nil)))))))))),
     ((s_seq (s_if (t_not (t_B (v_call (cnt_cons (cnt_cons (cnt_cons cnt_nil))) (a_cons (v_var rfl) (a_cons v_int (a_cons v_int a_nil)))))) s_raise s_next) (s_seq (s_drop (v_call (cnt_cons (cnt_cons cnt_nil)) (a_cons (v_var rfl) (a_cons (v_op v_int v_int) a_nil)))) (s_seq (s_asg (vs := [2]) (v_new (n_comp (vs := [4]) rfl (i_rng3 (a_cons v_int (a_cons (v_call (cnt_cons cnt_nil) (a_cons (v_var rfl) a_nil)) (a_cons v_int a_nil)))) (w_name rfl rfl) t_yes (v_tup (a_cons (v_call (cnt_cons (cnt_cons cnt_nil)) (a_cons (v_tup (a_cons (v_var rfl) (a_cons (v_var rfl) (a_cons v_int (a_cons v_int a_nil))))) (a_cons (v_var rfl) a_nil))) (a_cons (v_var rfl) a_nil))))) (w_name rfl rfl)) (s_seq (s_if (t_B (v_cb (a_cons (v_new (n_comp (vs := [5, 4]) rfl (i_list (v_var rfl)) (w_tup (w_cons (w_name rfl rfl) (w_cons (w_name rfl rfl) w_nil))) t_yes (v_op (v_var rfl) v_non))) a_nil))) (s_ret (v_tup (a_cons v_non (a_cons (v_new (n_comp (vs := [5, 4]) rfl (i_list (v_var rfl)) (w_tup (w_cons (w_name rfl rfl) (w_cons (w_name rfl rfl) w_nil))) (t_test (v_op (v_var rfl) v_non)) (v_var rfl))) a_nil)))) s_next) (s_seq (s_asg (vs := [3]) (v_cb (a_cons (v_new (n_comp (vs := [5, 4]) rfl (i_list (v_var rfl)) (w_tup (w_cons (w_name rfl rfl) (w_cons (w_name rfl rfl) w_nil))) t_yes (v_var rfl))) a_nil)) (w_name rfl rfl)) (s_ret (v_tup (a_cons (v_var rfl) (a_cons (v_new (n_comp (vs := [5, 4]) rfl (i_list (v_var rfl)) (w_tup (w_cons (w_name rfl rfl) (w_cons (w_name rfl rfl) w_nil))) (t_test (v_op (v_var rfl) (v_var rfl))) (v_var rfl))) a_nil))))))))) : EwS cl E [] [] [] _ b_strongest).1⟩
abbrev s_is_check : Stmt := topS 13
theorem sc_is_check : FnScope ["value", "most", "part"] ["value"] (defScope s_is_check) := ⟨rfl, rfl, rfl, by decide +kernel, rfl, by decide +kernel, by decide +kernel⟩
def b_is_check : DL.Env → DM Fl :=
    (seqG (gIf (gOr (gNot (gT (gCB D.isi (gCons (getE 0) (gCons (gC (.ty "tuple")) gNil))))) (gOr (gT (gOp D.ne (gCB D.len (gCons (getE 0) gNil)) (gC (.int 4)))) (gNot (gT (gCall m_is_int (gCons (gOp D.idx (getE 0) (gC (.int 0))) (gCons (gC (.int 1)) (gCons (gC (.int 8)) gNil))))))))
    (hRet (gC (.bl false)))
    hNx)
    (seqG (hAsg (gOp D.sub (gCall m_power (gCons (gOp D.idx (getE 0) (gC (.int 0))) gNil)) (gC (.int 1))) (setE 1))
    (hRet (gAndV (gCB D.all (gCons (gL (gComp [2] (gIt itemsT (gSl D.cut (getE 0) (gPart (gC (.int 1))) gNoPart)) (setE 2) gYes (gCall m_is_int (gCons (getE 2) (gCons (gC (.int 0)) (gCons (getE 1) gNil)))))) gNil)) (gOp D.eq (gOp D.mod (gOp D.idx (getE 0) (gC (.int 1))) (gC (.int 2))) (gC (.int 1)))))))
def m_is_check : List D → DM D := runD 3 b_is_check
theorem ok_is_check (d : DefAt K mg "is_check" s_is_check ["value"]) (h_tuple : mg "tuple" = none) (h_isinstance : mg "isinstance" = none) (h_len : mg "len" = none) (h_MOST_WIDTH : ∃ t, mg "MOST_WIDTH" = some (.int 8 t)) (h_all : mg "all" = none) (k_is_int : KO P wd K mg base 1 "is_int" (spD cl 3 m_is_int)) (k_power : KO P wd K mg base 1 "power" (spD cl 1 m_power)) : KO P wd K mg base 2 "is_check" (spD cl 1 m_is_check) :=
  ko_of d fun f fd F => fn_D (n := 3) (os' := []) F sc_is_check rfl fun cdv A outer s H E hr =>
    ⟨_, (pss_cons (ps_if (PW.pt (pw_or (pt_not (pt_val (pe_callB cd_isi (by rfl) h_isinstance boot_isinstance (pa_cons (pv 0) (pa_cons (pe_bltn (v := .ty "tuple") (by rfl) h_tuple boot_tuple rfl) pa_nil))))) (pw_or (pt_cmpR (od_ne (u64 hr)) (pe_callB cd_len (by rfl) h_len boot_len (pa_cons (pv 0) pa_nil)) pe_int (nomark _)) (pw_or1 (pt_not (pt_val (pe_callD (E := E) k_is_int (hr.mono (by decide)) (by rfl) passB (pa_cons (pe_ix xd_idx (pv 0) pe_int (fun _ _ => rfl)) (pa_cons pe_int (pa_cons (pe_globI (by rfl) h_MOST_WIDTH) pa_nil)))))))))) (pss_one (ps_ret pe_bl)) pss_nil) (pss_cons (ps_set (i := 1) sc_is_check.nd rfl (Or.inr rfl) (pe_op od_sub (pe_callD (E := E) k_power (hr.mono (by decide)) (by rfl) passB (pa_cons (pe_ix xd_idx (pv 0) pe_int (fun _ _ => rfl)) pa_nil)) pe_int)) (pss_one (ps_ret (pe_and (pe_callB (cd_all rfl) (by rfl) h_all (by decide +kernel) (pa_cons (pe_lc (own := [("part", 2)]) rfl sc_is_check.nd (pi_tup (pe_slice sd_cut (pv 0) (po_some pe_int) po_none)) (blkOk_by (own := [("part", 2)]) (N := ["value", "most", "part"]) (sc := defScope s_is_check) (by decide +kernel)) (fun _ _ _ _ _ => (pg_name (i := 2) sc_is_check.nd rfl (Or.inl rfl))) (fun _ _ _ _ _ => pts_nil) (fun _ _ _ _ _ => (pe_callD (E := L2.E0) k_is_int (hr.mono (by decide)) (by rfl) passL (pa_cons (pv 2) (pa_cons pe_int (pa_cons (pv 1) pa_nil)))))) pa_nil)) (pe_one (pe_cmpR (od_eq (u64 hr)) (pe_op od_mod (pe_ix xd_idx (pv 0) pe_int (fun _ _ => rfl)) pe_int) pe_int (nomark _)))))))),
     ((s_seq (s_if (t_or (t_not (t_B (v_cb (a_cons (v_var rfl) (a_cons v_ty a_nil))))) (t_or (t_test (v_op (v_cb (a_cons (v_var rfl) a_nil)) v_int)) (t_not (t_B (v_call (cnt_cons (cnt_cons (cnt_cons cnt_nil))) (a_cons (v_op (v_var rfl) v_int) (a_cons v_int (a_cons v_int a_nil)))))))) (s_ret v_bl) s_next) (s_seq (s_asg (vs := [1]) (v_op (v_call (cnt_cons cnt_nil) (a_cons (v_op (v_var rfl) v_int) a_nil)) v_int) (w_name rfl rfl)) (s_ret (v_andV (v_cb (a_cons (v_new (n_comp (vs := [2]) rfl (i_tup (v_sl (v_var rfl) (o_some v_int) o_none)) (w_name rfl rfl) t_yes (v_call (cnt_cons (cnt_cons (cnt_cons cnt_nil))) (a_cons (v_var rfl) (a_cons v_int (a_cons (v_var rfl) a_nil)))))) a_nil)) (v_op (v_op (v_op (v_var rfl) v_int) v_int) v_int))))) : EwS cl E [] [] [] _ b_is_check).1⟩
abbrev s_check_check : Stmt := topS 14
theorem sc_check_check : FnScope ["value"] ["value"] (defScope s_check_check) := ⟨rfl, rfl, rfl, by decide +kernel, rfl, by decide +kernel, by decide +kernel⟩
def b_check_check : DL.Env → DM Fl :=
    (gIf (gNot (gT (gCall m_is_check (gCons (getE 0) gNil))))
    (hRaise .chk)
    hNx)
def m_check_check : List D → DM D := runD 1 b_check_check
theorem ok_check_check (d : DefAt K mg "check_check" s_check_check ["value"]) (x_BadCheck : ExcAt K mg "BadCheck" (cl .chk)) (k_is_check : KO P wd K mg base 2 "is_check" (spD cl 1 m_is_check)) : KO P wd K mg base 3 "check_check" (spD cl 1 m_check_check) :=
  ko_of d fun f fd F => fn_D (n := 1) (os' := []) F sc_check_check rfl fun cdv A outer s H E hr =>
    ⟨_, (pss_one (ps_if (pt_not (pt_val (pe_callD (E := E) k_is_check (hr.mono (by decide)) (by rfl) passB (pa_cons (pv 0) pa_nil)))) (pss_one (ps_raiseD (E := E) (e := .chk) x_BadCheck rfl (takes_of rfl rfl rfl rfl) (by rfl))) pss_nil)),
     ((s_if (t_not (t_B (v_call (cnt_cons cnt_nil) (a_cons (v_var rfl) a_nil)))) s_raise s_next) : EwS cl E [] [] [] _ b_check_check).1⟩
abbrev s_value_of : Stmt := topS 28
theorem sc_value_of : FnScope ["check", "bits"] ["check", "bits"] (defScope s_value_of) := ⟨rfl, rfl, rfl, by decide +kernel, rfl, by decide +kernel, by decide +kernel⟩
def b_value_of : DL.Env → DM Fl :=
    (hRet (gCall m_added (gCons (gCall m_run_through (gCons (getE 0) (gCons (getE 1) gNil))) (gCons (gOp D.idx (getE 0) (gC (.int 3))) gNil))))
def m_value_of : List D → DM D := runD 2 b_value_of
theorem ok_value_of (d : DefAt K mg "value_of" s_value_of ["check", "bits"]) (k_run_through : KO P wd K mg base 3 "run_through" (spD cl 2 m_run_through)) (k_added : KO P wd K mg base 1 "added" (spD cl 2 m_added)) : KO P wd K mg base 4 "value_of" (spD cl 2 m_value_of) :=
  ko_of d fun f fd F => fn_D (n := 2) (os' := []) F sc_value_of rfl fun cdv A outer s H E hr =>
    ⟨_, (pss_one (ps_ret (pe_callD (E := E) k_added (hr.mono (by decide)) (by rfl) passB (pa_cons (pe_callD (E := E) k_run_through (hr.mono (by decide)) (by rfl) passB (pa_cons (pv 0) (pa_cons (pv 1) pa_nil))) (pa_cons (pe_ix xd_idx (pv 0) pe_int (fun _ _ => rfl)) pa_nil))))),
     ((s_ret (v_call (cnt_cons (cnt_cons cnt_nil)) (a_cons (v_call (cnt_cons (cnt_cons cnt_nil)) (a_cons (v_var rfl) (a_cons (v_var rfl) a_nil))) (a_cons (v_op (v_var rfl) v_int) a_nil)))) : EwS cl E [] [] [] _ b_value_of).1⟩
abbrev s_explains : Stmt := topS 34
theorem sc_explains : FnScope ["check", "samples", "bits", "value"] ["check", "samples"] (defScope s_explains) := ⟨rfl, rfl, rfl, by decide +kernel, rfl, by decide +kernel, by decide +kernel⟩
def b_explains : DL.Env → DM Fl :=
    (seqG (hDrop (gCall m_check_check (gCons (getE 0) gNil)))
    (seqG (hDrop (gCall m_check_samples (gCons (gOp D.idx (getE 0) (gC (.int 0))) (gCons (getE 1) gNil))))
    (hRet (gCB D.all (gCons (gL (gComp [2, 3] (gIt itemsL (getE 1)) (bindTup 2 (bindCons (setE 2) (bindCons (setE 3) bindNil))) gYes (gOp D.eq (gCall m_value_of (gCons (getE 0) (gCons (getE 2) gNil))) (getE 3)))) gNil)))))
def m_explains : List D → DM D := runD 4 b_explains
theorem ok_explains (d : DefAt K mg "explains" s_explains ["check", "samples"]) (h_all : mg "all" = none) (k_check_check : KO P wd K mg base 3 "check_check" (spD cl 1 m_check_check)) (k_check_samples : KO P wd K mg base 4 "check_samples" (spD cl 2 m_check_samples)) (k_value_of : KO P wd K mg base 4 "value_of" (spD cl 2 m_value_of)) : KO P wd K mg base 5 "explains" (spD cl 2 m_explains) :=
  ko_of d fun f fd F => fn_D (n := 4) (os' := []) F sc_explains rfl fun cdv A outer s H E hr =>
    ⟨_, (pss_cons (ps_expr (pe_callD (E := E) k_check_check (hr.mono (by decide)) (by rfl) passB (pa_cons (pv 0) pa_nil))) (pss_cons (ps_expr (pe_callD (E := E) k_check_samples (hr.mono (by decide)) (by rfl) passB (pa_cons (pe_ix xd_idx (pv 0) pe_int (fun _ _ => rfl)) (pa_cons (pv 1) pa_nil)))) (pss_one (ps_ret (pe_callB (cd_all rfl) (by rfl) h_all (by decide +kernel) (pa_cons (pe_lc (own := [("bits", 2), ("value", 3)]) rfl sc_explains.nd (pi_list (pv 1)) (blkOk_by (own := [("bits", 2), ("value", 3)]) (N := ["check", "samples", "bits", "value"]) (sc := defScope s_explains) (by decide +kernel)) (fun _ _ _ _ _ => (pg_tup rfl (pgs_cons (pg_name (i := 2) sc_explains.nd rfl (Or.inl rfl)) (pgs_cons (pg_name (i := 3) sc_explains.nd rfl (Or.inl rfl)) pgs_nil)))) (fun _ _ _ _ _ => pts_nil) (fun _ _ _ _ _ => (pe_cmpR (od_eq (u64 hr)) (pe_callD (E := L2.E0) k_value_of (hr.mono (by decide)) (by rfl) passL (pa_cons (pv 0) (pa_cons (pv 2) pa_nil))) (pv 3) (nomark _)))) pa_nil)))))),
     ((s_seq (s_drop (v_call (cnt_cons cnt_nil) (a_cons (v_var rfl) a_nil))) (s_seq (s_drop (v_call (cnt_cons (cnt_cons cnt_nil)) (a_cons (v_op (v_var rfl) v_int) (a_cons (v_var rfl) a_nil)))) (s_ret (v_cb (a_cons (v_new (n_comp (vs := [2, 3]) rfl (i_list (v_var rfl)) (w_tup (w_cons (w_name rfl rfl) (w_cons (w_name rfl rfl) w_nil))) t_yes (v_op (v_call (cnt_cons (cnt_cons cnt_nil)) (a_cons (v_var rfl) (a_cons (v_var rfl) a_nil))) (v_var rfl)))) a_nil))))) : EwS cl E [] [] [] _ b_explains).1⟩
abbrev s_check_bits : Stmt := topS 16
theorem sc_check_bits : FnScope ["value"] ["value"] (defScope s_check_bits) := ⟨rfl, rfl, rfl, by decide +kernel, rfl, by decide +kernel, by decide +kernel⟩
def b_check_bits : DL.Env → DM Fl :=
    (gIf (gNot (gT (gCall m_is_bits (gCons (getE 0) gNil))))
    (hRaise .bits)
    hNx)
def m_check_bits : List D → DM D := runD 1 b_check_bits
theorem ok_check_bits (d : DefAt K mg "check_bits" s_check_bits ["value"]) (x_BadBits : ExcAt K mg "BadBits" (cl .bits)) (k_is_bits : KO P wd K mg base 2 "is_bits" (spD cl 1 m_is_bits)) : KO P wd K mg base 3 "check_bits" (spD cl 1 m_check_bits) :=
  ko_of d fun f fd F => fn_D (n := 1) (os' := []) F sc_check_bits rfl fun cdv A outer s H E hr =>
    ⟨_, (pss_one (ps_if (pt_not (pt_val (pe_callD (E := E) k_is_bits (hr.mono (by decide)) (by rfl) passB (pa_cons (pv 0) pa_nil)))) (pss_one (ps_raiseD (E := E) (e := .bits) x_BadBits rfl (takes_of rfl rfl rfl rfl) (by rfl))) pss_nil)),
     ((s_if (t_not (t_B (v_call (cnt_cons cnt_nil) (a_cons (v_var rfl) a_nil)))) s_raise s_next) : EwS cl E [] [] [] _ b_check_bits).1⟩
abbrev s_format_bits : Stmt := topS 50
theorem sc_format_bits : FnScope ["bits", "bit"] ["bits"] (defScope s_format_bits) := ⟨rfl, rfl, rfl, by decide +kernel, rfl, by decide +kernel, by decide +kernel⟩
def b_format_bits : DL.Env → DM Fl :=
    (seqG (hDrop (gCall m_check_bits (gCons (getE 0) gNil)))
    (hRet (gUn (D.joinC "") (gL (gComp [1] (gIt itemsL (getE 0)) (setE 1) gYes (gCB D.str1 (gCons (getE 1) gNil)))))))
def m_format_bits : List D → DM D := runD 2 b_format_bits
theorem ok_format_bits (d : DefAt K mg "format_bits" s_format_bits ["bits"]) (h_str : mg "str" = none) (k_check_bits : KO P wd K mg base 3 "check_bits" (spD cl 1 m_check_bits)) : KO P wd K mg base 4 "format_bits" (spD cl 1 m_format_bits) :=
  ko_of d fun f fd F => fn_D (n := 2) (os' := []) F sc_format_bits rfl fun cdv A outer s H E hr =>
    ⟨_, (pss_cons (ps_expr (pe_callD (E := E) k_check_bits (hr.mono (by decide)) (by rfl) passB (pa_cons (pv 0) pa_nil))) (pss_one (ps_ret (pe_joinC (pe_lc (own := [("bit", 1)]) rfl sc_format_bits.nd (pi_list (pv 0)) (blkOk_by (own := [("bit", 1)]) (N := ["bits", "bit"]) (sc := defScope s_format_bits) (by decide +kernel)) (fun _ _ _ _ _ => (pg_name (i := 1) sc_format_bits.nd rfl (Or.inl rfl))) (fun _ _ _ _ _ => pts_nil) (fun _ _ _ _ _ => (pe_callTy cd_str (by rfl) h_str boot_str (pa_cons (pv 1) pa_nil)))))))),
     ((s_seq (s_drop (v_call (cnt_cons cnt_nil) (a_cons (v_var rfl) a_nil))) (s_ret (v_un (v_new (n_comp (vs := [1]) rfl (i_list (v_var rfl)) (w_name rfl rfl) t_yes (v_cb (a_cons (v_var rfl) a_nil))))))) : EwS cl E [] [] [] _ b_format_bits).1⟩
abbrev s_Register_feed : Stmt := inClass (topS 47) 1
theorem sc_Register_feed : FnScope ["self", "bits", "bit"] ["self", "bits"] (defScope s_Register_feed) := ⟨rfl, rfl, rfl, by decide +kernel, rfl, by decide +kernel, by decide +kernel⟩
def b_Register_feed : DL.Env → DM Fl :=
    (seqG (hDrop (gCall m_check_bits (gCons (getE 1) gNil)))
    (seqG (hFor (gIt itemsL (getE 1)) (setE 2)
    (hNow 0 (gCall m_fed (gCons (gChk 0) (gCons (gNow 0) (gCons (getE 2) gNil))))))
    (seqG (hRowAdd 0 1)
    (hRet (gNow 0)))))
def m_Register_feed : List D → DM D := runD 3 b_Register_feed
theorem ok_Register_feed (d : MthAt K cl.reg "feed" "Register.feed" s_Register_feed ["self", "bits"]) (T_reg : RegT K cl.reg) (k_check_bits : KO P wd K mg base 3 "check_bits" (spD cl 1 m_check_bits)) (k_fed : KO P wd K mg base 2 "fed" (spD cl 3 m_fed)) : KMt P wd K mg base 4 cl.reg "feed" (spD cl 2 m_Register_feed) :=
  kmt_of d fun f fd F => fn_D (n := 3) (os' := []) F sc_Register_feed rfl fun cdv A outer s H E hr =>
    ⟨_, (pss_cons (ps_expr (pe_callD (E := E) k_check_bits (hr.mono (by decide)) (by rfl) passB (pa_cons (pv 1) pa_nil))) (pss_cons (ps_for (passes_of rfl) rfl (pi_list (pv 1)) (pg_name (i := 2) sc_Register_feed.nd rfl (Or.inl rfl)) (pss_one (ps_fld (pv 0) (pe_callD (E := E) k_fed (hr.mono (by decide)) (by rfl) passB (pa_cons (pe_fld (pv 0) rfl) (pa_cons (pe_fld (pv 0) rfl) (pa_cons (pv 2) pa_nil)))) rfl))) (pss_cons (ps_fldaug (pv 0) (pv 1) iop_ext) (pss_one (ps_ret (pe_fld (pv 0) rfl)))))),
     ((s_seq (s_drop (v_call (cnt_cons cnt_nil) (a_cons (v_var rfl) a_nil))) (s_seq (s_for (vs := [2]) (i_list (v_var rfl)) (w_name rfl rfl) (s_nowS T_reg rfl (v_call (cnt_cons (cnt_cons (cnt_cons cnt_nil))) (a_cons (v_chk T_reg rfl) (a_cons (v_now T_reg rfl) (a_cons (v_var rfl) a_nil)))))) (s_seq (s_rowAdd T_reg rfl rfl) (s_ret (v_now T_reg rfl))))) : EwS cl E [] [] [] _ b_Register_feed).1⟩
abbrev s_moved_back : Stmt := topS 21
theorem sc_moved_back : FnScope ["check", "value", "width", "poly"] ["check", "value"] (defScope s_moved_back) := ⟨rfl, rfl, rfl, by decide +kernel, rfl, by decide +kernel, by decide +kernel⟩
def b_moved_back : DL.Env → DM Fl :=
    (seqG (hAsg (gSl D.cut (getE 0) gNoPart (gPart (gC (.int 2)))) (bindTup 2 (bindCons (setE 2) (bindCons (setE 3) bindNil))))
    (seqG (gIf (gT (gOp D.eq (gOp D.mod (getE 1) (gC (.int 2))) (gC (.int 0))))
    (hRet (gOp D.fdiv (getE 1) (gC (.int 2))))
    hNx)
    (hRet (gOp D.fdiv (gOp D.add (gCall m_added (gCons (getE 1) (gCons (getE 3) gNil))) (gCall m_power (gCons (getE 2) gNil))) (gC (.int 2))))))
def m_moved_back : List D → DM D := runD 4 b_moved_back
theorem ok_moved_back (d : DefAt K mg "moved_back" s_moved_back ["check", "value"]) (k_added : KO P wd K mg base 1 "added" (spD cl 2 m_added)) (k_power : KO P wd K mg base 1 "power" (spD cl 1 m_power)) : KO P wd K mg base 2 "moved_back" (spD cl 2 m_moved_back) :=
  ko_of d fun f fd F => fn_D (n := 4) (os' := []) F sc_moved_back rfl fun cdv A outer s H E hr =>
    ⟨_, (pss_cons (ps_asg (pe_slice sd_cut (pv 0) po_none (po_some pe_int)) (pg_tup rfl (pgs_cons (pg_name (i := 2) sc_moved_back.nd rfl (Or.inl rfl)) (pgs_cons (pg_name (i := 3) sc_moved_back.nd rfl (Or.inl rfl)) pgs_nil)))) (pss_cons (ps_if (pt_cmpR (od_eq (u64 hr)) (pe_op od_mod (pv 1) pe_int) pe_int (nomark _)) (pss_one (ps_ret (pe_op od_fdiv (pv 1) pe_int))) pss_nil) (pss_one (ps_ret (pe_op od_fdiv (pe_op od_add (pe_callD (E := E) k_added (hr.mono (by decide)) (by rfl) passB (pa_cons (pv 1) (pa_cons (pv 3) pa_nil))) (pe_callD (E := E) k_power (hr.mono (by decide)) (by rfl) passB (pa_cons (pv 2) pa_nil))) pe_int))))),
     ((s_seq (s_asg (vs := [2, 3]) (v_sl (v_var rfl) o_none (o_some v_int)) (w_tup (w_cons (w_name rfl rfl) (w_cons (w_name rfl rfl) w_nil)))) (s_seq (s_if (t_test (v_op (v_op (v_var rfl) v_int) v_int)) (s_ret (v_op (v_var rfl) v_int)) s_next) (s_ret (v_op (v_op (v_call (cnt_cons (cnt_cons cnt_nil)) (a_cons (v_var rfl) (a_cons (v_var rfl) a_nil))) (v_call (cnt_cons cnt_nil) (a_cons (v_var rfl) a_nil))) v_int)))) : EwS cl E [] [] [] _ b_moved_back).1⟩
abbrev s_unfed : Stmt := topS 48
theorem sc_unfed : FnScope ["check", "value", "bit", "high"] ["check", "value", "bit"] (defScope s_unfed) := ⟨rfl, rfl, rfl, by decide +kernel, rfl, by decide +kernel, by decide +kernel⟩
def b_unfed : DL.Env → DM Fl :=
    (seqG (hAsg (gCall m_power (gCons (gOp D.sub (gOp D.idx (getE 0) (gC (.int 0))) (gC (.int 1))) gNil)) (setE 3))
    (hRet (gCall m_added (gCons (gCall m_moved_back (gCons (getE 0) (gCons (getE 1) gNil))) (gCons (gIf (gT (gOp D.eq (getE 2) (gC (.int 1)))) (getE 3) (gC (.int 0))) gNil)))))
def m_unfed : List D → DM D := runD 4 b_unfed
theorem ok_unfed (d : DefAt K mg "unfed" s_unfed ["check", "value", "bit"]) (k_power : KO P wd K mg base 1 "power" (spD cl 1 m_power)) (k_moved_back : KO P wd K mg base 2 "moved_back" (spD cl 2 m_moved_back)) (k_added : KO P wd K mg base 1 "added" (spD cl 2 m_added)) : KO P wd K mg base 3 "unfed" (spD cl 3 m_unfed) :=
  ko_of d fun f fd F => fn_D (n := 4) (os' := []) F sc_unfed rfl fun cdv A outer s H E hr =>
    ⟨_, (pss_cons (ps_set (i := 3) sc_unfed.nd rfl (Or.inl rfl) (pe_callD (E := E) k_power (hr.mono (by decide)) (by rfl) passB (pa_cons (pe_op od_sub (pe_ix xd_idx (pv 0) pe_int (fun _ _ => rfl)) pe_int) pa_nil))) (pss_one (ps_ret (pe_callD (E := E) k_added (hr.mono (by decide)) (by rfl) passB (pa_cons (pe_callD (E := E) k_moved_back (hr.mono (by decide)) (by rfl) passB (pa_cons (pv 0) (pa_cons (pv 1) pa_nil))) (pa_cons (pe_ifExp (pt_cmpR (od_eq (u64 hr)) (pv 2) pe_int (nomark _)) (pv 3) pe_int) pa_nil)))))),
     ((s_seq (s_asg (vs := [3]) (v_call (cnt_cons cnt_nil) (a_cons (v_op (v_op (v_var rfl) v_int) v_int) a_nil)) (w_name rfl rfl)) (s_ret (v_call (cnt_cons (cnt_cons cnt_nil)) (a_cons (v_call (cnt_cons (cnt_cons cnt_nil)) (a_cons (v_var rfl) (a_cons (v_var rfl) a_nil))) (a_cons (v_if (t_test (v_op (v_var rfl) v_int)) (v_var rfl) v_int) a_nil))))) : EwS cl E [] [] [] _ b_unfed).1⟩
abbrev s_Register_back : Stmt := inClass (topS 47) 2
theorem sc_Register_back : FnScope ["self", "bits", "bit"] ["self", "bits"] (defScope s_Register_back) := ⟨rfl, rfl, rfl, by decide +kernel, rfl, by decide +kernel, by decide +kernel⟩
def b_Register_back : DL.Env → DM Fl :=
    (seqG (hDrop (gCall m_check_bits (gCons (getE 1) gNil)))
    (seqG (gIf (gT (gOp D.gt (gCB D.len (gCons (getE 1) gNil)) (gLenRow 0)))
    (hRaise .nof)
    hNx)
    (seqG (hFor (gIt itemsL (gUn D.rev (getE 1))) (setE 2)
    (hNow 0 (gCall m_unfed (gCons (gChk 0) (gCons (gNow 0) (gCons (getE 2) gNil))))))
    (seqG (hRowCut 0 1)
    (hRet (gNow 0))))))
def m_Register_back : List D → DM D := runD 3 b_Register_back
theorem ok_Register_back (d : MthAt K cl.reg "back" "Register.back" s_Register_back ["self", "bits"]) (h_len : mg "len" = none) (T_reg : RegT K cl.reg) (x_NotFound : ExcAt K mg "NotFound" (cl .nof)) (k_check_bits : KO P wd K mg base 3 "check_bits" (spD cl 1 m_check_bits)) (k_unfed : KO P wd K mg base 3 "unfed" (spD cl 3 m_unfed)) : KMt P wd K mg base 4 cl.reg "back" (spD cl 2 m_Register_back) :=
  kmt_of d fun f fd F => fn_D (n := 3) (os' := []) F sc_Register_back rfl fun cdv A outer s H E hr =>
    ⟨_, (pss_cons (ps_expr (pe_callD (E := E) k_check_bits (hr.mono (by decide)) (by rfl) passB (pa_cons (pv 1) pa_nil))) (pss_cons (ps_if (pt_cmpR od_gt (pe_callB cd_len (by rfl) h_len boot_len (pa_cons (pv 1) pa_nil)) (pe_callB call_lenQ (by rfl) h_len boot_len (pa_cons (pe_fld (pv 0) rfl) pa_nil)) (nomark _)) (pss_one (ps_raiseD (E := E) (e := .nof) x_NotFound rfl (takes_of rfl rfl rfl rfl) (by rfl))) pss_nil) (pss_cons (ps_for (passes_of rfl) rfl (pi_list (pe_revL (pv 1))) (pg_name (i := 2) sc_Register_back.nd rfl (Or.inl rfl)) (pss_one (ps_fld (pv 0) (pe_callD (E := E) k_unfed (hr.mono (by decide)) (by rfl) passB (pa_cons (pe_fld (pv 0) rfl) (pa_cons (pe_fld (pv 0) rfl) (pa_cons (pv 2) pa_nil)))) rfl))) (pss_cons (ps_fld (pv 0) (pe_slice sl_list (pe_fld (pv 0) rfl) po_none (po_some (pe_op op_sub (pe_callB call_lenQ (by rfl) h_len boot_len (pa_cons (pe_fld (pv 0) rfl) pa_nil)) (pe_callB call_lenQ (by rfl) h_len boot_len (pa_cons (pv 1) pa_nil))))) rfl) (pss_one (ps_ret (pe_fld (pv 0) rfl))))))),
     ((s_seq (s_drop (v_call (cnt_cons cnt_nil) (a_cons (v_var rfl) a_nil))) (s_seq (s_if (t_test (v_op (v_cb (a_cons (v_var rfl) a_nil)) (v_lenRow T_reg rfl))) s_raise s_next) (s_seq (s_for (vs := [2]) (i_list (v_rev (v_var rfl))) (w_name rfl rfl) (s_nowS T_reg rfl (v_call (cnt_cons (cnt_cons (cnt_cons cnt_nil))) (a_cons (v_chk T_reg rfl) (a_cons (v_now T_reg rfl) (a_cons (v_var rfl) a_nil)))))) (s_seq (s_rowCut T_reg rfl rfl) (s_ret (v_now T_reg rfl)))))) : EwS cl E [] [] [] _ b_Register_back).1⟩
abbrev s_Register_would : Stmt := inClass (topS 47) 6
theorem sc_Register_would : FnScope ["self", "bits", "value", "bit"] ["self", "bits"] (defScope s_Register_would) := ⟨rfl, rfl, rfl, by decide +kernel, rfl, by decide +kernel, by decide +kernel⟩
def b_Register_would : DL.Env → DM Fl :=
    (seqG (hDrop (gCall m_check_bits (gCons (getE 1) gNil)))
    (seqG (hAsg (gNow 0) (setE 2))
    (seqG (hFor (gIt itemsL (getE 1)) (setE 3)
    (hAsg (gCall m_fed (gCons (gChk 0) (gCons (getE 2) (gCons (getE 3) gNil)))) (setE 2)))
    (hRet (gCall m_added (gCons (getE 2) (gCons (gOp D.idx (gChk 0) (gC (.int 3))) gNil)))))))
def m_Register_would : List D → DM D := runD 4 b_Register_would
theorem ok_Register_would (d : MthAt K cl.reg "would" "Register.would" s_Register_would ["self", "bits"]) (T_reg : RegT K cl.reg) (k_check_bits : KO P wd K mg base 3 "check_bits" (spD cl 1 m_check_bits)) (k_fed : KO P wd K mg base 2 "fed" (spD cl 3 m_fed)) (k_added : KO P wd K mg base 1 "added" (spD cl 2 m_added)) : KMt P wd K mg base 4 cl.reg "would" (spD cl 2 m_Register_would) :=
  kmt_of d fun f fd F => fn_D (n := 4) (os' := []) F sc_Register_would rfl fun cdv A outer s H E hr =>
    ⟨_, (pss_cons (ps_expr (pe_callD (E := E) k_check_bits (hr.mono (by decide)) (by rfl) passB (pa_cons (pv 1) pa_nil))) (pss_cons (ps_set (i := 2) sc_Register_would.nd rfl (Or.inl rfl) (pe_fld (pv 0) rfl)) (pss_cons (ps_for (passes_of rfl) rfl (pi_list (pv 1)) (pg_name (i := 3) sc_Register_would.nd rfl (Or.inl rfl)) (pss_one (ps_set (i := 2) sc_Register_would.nd rfl (Or.inl rfl) (pe_callD (E := E) k_fed (hr.mono (by decide)) (by rfl) passB (pa_cons (pe_fld (pv 0) rfl) (pa_cons (pv 2) (pa_cons (pv 3) pa_nil))))))) (pss_one (ps_ret (pe_callD (E := E) k_added (hr.mono (by decide)) (by rfl) passB (pa_cons (pv 2) (pa_cons (pe_ix xd_idx (pe_fld (pv 0) rfl) pe_int (fun _ _ => rfl)) pa_nil)))))))),
     ((s_seq (s_drop (v_call (cnt_cons cnt_nil) (a_cons (v_var rfl) a_nil))) (s_seq (s_asg (vs := [2]) (v_now T_reg rfl) (w_name rfl rfl)) (s_seq (s_for (vs := [3]) (i_list (v_var rfl)) (w_name rfl rfl) (s_asg (vs := [2]) (v_call (cnt_cons (cnt_cons (cnt_cons cnt_nil))) (a_cons (v_chk T_reg rfl) (a_cons (v_var rfl) (a_cons (v_var rfl) a_nil)))) (w_name rfl rfl))) (s_ret (v_call (cnt_cons (cnt_cons cnt_nil)) (a_cons (v_var rfl) (a_cons (v_op (v_chk T_reg rfl) v_int) a_nil))))))) : EwS cl E [] [] [] _ b_Register_would).1⟩
abbrev s_Register_set_register : Stmt := inClass (topS 47) 3
theorem sc_Register_set_register : FnScope ["self", "value"] ["self", "value"] (defScope s_Register_set_register) := ⟨rfl, rfl, rfl, by decide +kernel, rfl, by decide +kernel, by decide +kernel⟩
def b_Register_set_register : DL.Env → DM Fl :=
    (seqG (gIf (gNot (gT (gCall m_is_int (gCons (getE 1) (gCons (gC (.int 0)) (gCons (gOp D.sub (gCall m_power (gCons (gOp D.idx (gChk 0) (gC (.int 0))) gNil)) (gC (.int 1))) gNil))))))
    (hRaise .num)
    hNx)
    (hNow 0 (getE 1)))
def m_Register_set_register : List D → DM D := runD 2 b_Register_set_register
theorem ok_Register_set_register (d : MthAt K cl.reg "set_register" "Register.set_register" s_Register_set_register ["self", "value"]) (T_reg : RegT K cl.reg) (x_BadNumber : ExcAt K mg "BadNumber" (cl .num)) (k_power : KO P wd K mg base 1 "power" (spD cl 1 m_power)) (k_is_int : KO P wd K mg base 1 "is_int" (spD cl 3 m_is_int)) : KMt P wd K mg base 2 cl.reg "set_register" (spD cl 2 m_Register_set_register) :=
  kmt_of d fun f fd F => fn_D (n := 2) (os' := []) F sc_Register_set_register rfl fun cdv A outer s H E hr =>
    ⟨_, (pss_cons (ps_if (pt_not (pt_val (pe_callD (E := E) k_is_int (hr.mono (by decide)) (by rfl) passB (pa_cons (pv 1) (pa_cons pe_int (pa_cons (pe_op od_sub (pe_callD (E := E) k_power (hr.mono (by decide)) (by rfl) passB (pa_cons (pe_ix xd_idx (pe_fld (pv 0) rfl) pe_int (fun _ _ => rfl)) pa_nil)) pe_int) pa_nil)))))) (pss_one (ps_raiseD (E := E) (e := .num) x_BadNumber rfl (takes_of rfl rfl rfl rfl) (by rfl))) pss_nil) (pss_one (ps_fld (pv 0) (pv 1) rfl))),
     ((s_seq (s_if (t_not (t_B (v_call (cnt_cons (cnt_cons (cnt_cons cnt_nil))) (a_cons (v_var rfl) (a_cons v_int (a_cons (v_op (v_call (cnt_cons cnt_nil) (a_cons (v_op (v_chk T_reg rfl) v_int) a_nil)) v_int) a_nil)))))) s_raise s_next) (s_nowS T_reg rfl (v_var rfl))) : EwS cl E [] [] [] _ b_Register_set_register).1⟩
abbrev s__law_call : Stmt := topS 55
theorem sc__law_call : FnScope ["kind", "one", "two"] ["kind", "one", "two"] (defScope s__law_call) := ⟨rfl, rfl, rfl, by decide +kernel, rfl, by decide +kernel, by decide +kernel⟩
def b__law_call : DL.Env → DM Fl :=
    (seqG (gIf (gT (gOp D.eq (getE 0) (gC (.int 0))))
    (hRet (gCall m_explaining (gCons (getE 1) (gCons (getE 2) gNil))))
    hNx)
    (seqG (gIf (gT (gOp D.eq (getE 0) (gC (.int 1))))
    (hRet (gCall m_first_conflict (gCons (getE 1) (gCons (getE 2) gNil))))
    hNx)
    (seqG (gIf (gT (gOp D.eq (getE 0) (gC (.int 2))))
    (hRet (gCall m_strongest (gCons (getE 1) (gCons (getE 2) gNil))))
    hNx)
    (seqG (gIf (gT (gOp D.eq (getE 0) (gC (.int 3))))
    (hRet (gCall m_explains (gCons (gTup (gCons (gC (.int 2)) (gCons (gC (.int 3)) (gCons (gC (.int 0)) (gCons (gC (.int 0)) gNil))))) (gCons (getE 2) gNil))))
    hNx)
    (seqG (gIf (gT (gOp D.eq (getE 0) (gC (.int 4))))
    (hRet (gCall m_format_bits (gCons (getE 2) gNil)))
    hNx)
    (seqG (gIf (gT (gOp D.eq (getE 0) (gC (.int 5))))
    (hRet (gMeth m_Register_feed 1 (gCons (getE 2) gNil)))
    hNx)
    (seqG (gIf (gT (gOp D.eq (getE 0) (gC (.int 6))))
    (hRet (gMeth m_Register_back 1 (gCons (getE 2) gNil)))
    hNx)
    (seqG (gIf (gT (gOp D.eq (getE 0) (gC (.int 7))))
    (hRet (gMeth m_Register_would 1 (gCons (getE 2) gNil)))
    hNx)
    (hRet (gMeth m_Register_set_register 1 (gCons (getE 2) gNil)))))))))))
def m__law_call : List D → DM D := runD 3 b__law_call
theorem ok__law_call (d : DefAt K mg "_law_call" s__law_call ["kind", "one", "two"]) (T_reg : RegT K cl.reg) (k_explaining : KO P wd K mg base 7 "explaining" (spD cl 2 m_explaining)) (k_first_conflict : KO P wd K mg base 7 "first_conflict" (spD cl 2 m_first_conflict)) (k_strongest : KO P wd K mg base 5 "strongest" (spD cl 2 m_strongest)) (k_explains : KO P wd K mg base 5 "explains" (spD cl 2 m_explains)) (k_format_bits : KO P wd K mg base 4 "format_bits" (spD cl 1 m_format_bits)) (k_Register_feed : KMt P wd K mg base 4 cl.reg "feed" (spD cl 2 m_Register_feed)) (k_Register_back : KMt P wd K mg base 4 cl.reg "back" (spD cl 2 m_Register_back)) (k_Register_would : KMt P wd K mg base 4 cl.reg "would" (spD cl 2 m_Register_would)) (k_Register_set_register : KMt P wd K mg base 2 cl.reg "set_register" (spD cl 2 m_Register_set_register)) : KO P wd K mg base 8 "_law_call" (spD cl 3 m__law_call) :=
  ko_of d fun f fd F => fn_D (n := 3) (os' := []) F sc__law_call rfl fun cdv A outer s H E hr =>
    ⟨_, (pss_cons (ps_if (pt_cmpR (od_eq (u64 hr)) (pv 0) pe_int (nomark _)) (pss_one (ps_ret (pe_callD (E := E) k_explaining (hr.mono (by decide)) (by rfl) passB (pa_cons (pv 1) (pa_cons (pv 2) pa_nil))))) pss_nil) (pss_cons (ps_if (pt_cmpR (od_eq (u64 hr)) (pv 0) pe_int (nomark _)) (pss_one (ps_ret (pe_callD (E := E) k_first_conflict (hr.mono (by decide)) (by rfl) passB (pa_cons (pv 1) (pa_cons (pv 2) pa_nil))))) pss_nil) (pss_cons (ps_if (pt_cmpR (od_eq (u64 hr)) (pv 0) pe_int (nomark _)) (pss_one (ps_ret (pe_callD (E := E) k_strongest (hr.mono (by decide)) (by rfl) passB (pa_cons (pv 1) (pa_cons (pv 2) pa_nil))))) pss_nil) (pss_cons (ps_if (pt_cmpR (od_eq (u64 hr)) (pv 0) pe_int (nomark _)) (pss_one (ps_ret (pe_callD (E := E) k_explains (hr.mono (by decide)) (by rfl) passB (pa_cons (pe_tup (pa_cons pe_int (pa_cons pe_int (pa_cons pe_int (pa_cons pe_int pa_nil))))) (pa_cons (pv 2) pa_nil))))) pss_nil) (pss_cons (ps_if (pt_cmpR (od_eq (u64 hr)) (pv 0) pe_int (nomark _)) (pss_one (ps_ret (pe_callD (E := E) k_format_bits (hr.mono (by decide)) (by rfl) passB (pa_cons (pv 2) pa_nil)))) pss_nil) (pss_cons (ps_if (pt_cmpR (od_eq (u64 hr)) (pv 0) pe_int (nomark _)) (pss_one (ps_ret (pe_methD (E := E) (pv 1) T_reg.cl k_Register_feed (hr.mono (by decide)) passB (pa_cons (pv 2) pa_nil)))) pss_nil) (pss_cons (ps_if (pt_cmpR (od_eq (u64 hr)) (pv 0) pe_int (nomark _)) (pss_one (ps_ret (pe_methD (E := E) (pv 1) T_reg.cl k_Register_back (hr.mono (by decide)) passB (pa_cons (pv 2) pa_nil)))) pss_nil) (pss_cons (ps_if (pt_cmpR (od_eq (u64 hr)) (pv 0) pe_int (nomark _)) (pss_one (ps_ret (pe_methD (E := E) (pv 1) T_reg.cl k_Register_would (hr.mono (by decide)) passB (pa_cons (pv 2) pa_nil)))) pss_nil) (pss_one (ps_ret (pe_methD (E := E) (pv 1) T_reg.cl k_Register_set_register (hr.mono (by decide)) passB (pa_cons (pv 2) pa_nil)))))))))))),
     ((s_seq (s_if (t_test (v_op (v_var rfl) v_int)) (s_ret (v_call (cnt_cons (cnt_cons cnt_nil)) (a_cons (v_var rfl) (a_cons (v_var rfl) a_nil)))) s_next) (s_seq (s_if (t_test (v_op (v_var rfl) v_int)) (s_ret (v_call (cnt_cons (cnt_cons cnt_nil)) (a_cons (v_var rfl) (a_cons (v_var rfl) a_nil)))) s_next) (s_seq (s_if (t_test (v_op (v_var rfl) v_int)) (s_ret (v_call (cnt_cons (cnt_cons cnt_nil)) (a_cons (v_var rfl) (a_cons (v_var rfl) a_nil)))) s_next) (s_seq (s_if (t_test (v_op (v_var rfl) v_int)) (s_ret (v_call (cnt_cons (cnt_cons cnt_nil)) (a_cons (v_tup (a_cons v_int (a_cons v_int (a_cons v_int (a_cons v_int a_nil))))) (a_cons (v_var rfl) a_nil)))) s_next) (s_seq (s_if (t_test (v_op (v_var rfl) v_int)) (s_ret (v_call (cnt_cons cnt_nil) (a_cons (v_var rfl) a_nil))) s_next) (s_seq (s_if (t_test (v_op (v_var rfl) v_int)) (s_ret (v_meth notF_feed rfl (cnt_cons cnt_nil) (a_cons (v_var rfl) a_nil))) s_next) (s_seq (s_if (t_test (v_op (v_var rfl) v_int)) (s_ret (v_meth notF_back rfl (cnt_cons cnt_nil) (a_cons (v_var rfl) a_nil))) s_next) (s_seq (s_if (t_test (v_op (v_var rfl) v_int)) (s_ret (v_meth notF_would rfl (cnt_cons cnt_nil) (a_cons (v_var rfl) a_nil))) s_next) (s_ret (v_meth notF_set_register rfl (cnt_cons cnt_nil) (a_cons (v_var rfl) a_nil))))))))))) : EwS cl E [] [] [] _ b__law_call).1⟩
abbrev s__law_asked : Stmt := topS 56
theorem sc__law_asked : FnScope ["kind", "one", "two", "caught", "e"] ["kind", "one", "two"] (defScope s__law_asked) := ⟨rfl, rfl, rfl, by decide +kernel, rfl, by decide +kernel, by decide +kernel⟩
def b__law_asked : DL.Env → DM Fl :=
    (seqG (hAsg (gC .non) (setE 3))
    (gTryC 4 3 "done" (gCallX m__law_call (gCons (getE 0) (gCons (getE 1) (gCons (getE 2) gNil))))))
def m__law_asked : List D → DM D := runD 5 b__law_asked
theorem ok__law_asked (d : DefAt K mg "_law_asked" s__law_asked ["kind", "one", "two"]) (T_err : ErrK K mg cl ce) (k__law_error : KO P wd K mg base 1 "_law_error" (spErr cl)) (k__law_call : KO P wd K mg base 8 "_law_call" (spD cl 3 m__law_call)) : KO P wd K mg base 9 "_law_asked" (spD cl 3 m__law_asked) :=
  ko_of d fun f fd F => fn_D (n := 5) (os' := []) F sc__law_asked rfl fun cdv A outer s H E hr =>
    ⟨_, (pss_cons (ps_set (i := 3) sc__law_asked.nd rfl (Or.inl rfl) pe_non) (pss_cons (ps_try_adopt (i := 4) (Wout := fun _ _ _ _ => False) rfl rfl sc__law_asked.nd rfl rfl ⟨rfl, by decide, .inl T_err.ge⟩ takesN (fun W pn xe tk _ => (pss_one (ps_expr (pe_callX k__law_call (hr.mono (by decide)) (by rfl) (fun σ => passAt tk σ) (pa_cons (pv 0) (pa_cons (pv 1) (pa_cons (pv 2) pa_nil))))))) (fun a pn => (pss_one (ps_set (i := 3) sc__law_asked.nd rfl (Or.inl rfl) (pv 4))))) (pss_one (ps_ret (pe_ifExp (pt_cmp (pc_isN (pv 3))) pe_str (pe_callD (E := E) k__law_error (hr.mono (by decide)) (by rfl) passB (pa_cons (pv 3) pa_nil))))))),
     ((s_seq (s_asg (vs := [3]) v_non (w_name rfl rfl)) (s_tryC T_err (x_drop (cnt_cons (cnt_cons (cnt_cons cnt_nil))) (a_cons (v_var rfl) (a_cons (v_var rfl) (a_cons (v_var rfl) a_nil)))) (by decide))) : EwS cl E [] [] [] _ b__law_asked).1⟩
abbrev s__law_draw : Stmt := topS 53
theorem sc__law_draw : FnScope ["draws", "limit", "numbers", "at", "cell", "mixed"] ["draws", "limit"] (defScope s__law_draw) := ⟨rfl, rfl, rfl, by decide +kernel, rfl, by decide +kernel, by decide +kernel⟩
theorem ok__law_draw (d : DefAt K mg "_law_draw" s__law_draw ["draws", "limit"]) (h_len : mg "len" = none) : KO P wd K mg base 1 "_law_draw" (spD cl 2 m__law_draw) :=
  ko_of d fun f fd F => F.okX sc__law_draw (fun vs H Q E h => h.1) fun cdv A outer s H vs Q E hr h => by
    refine ⟨_, pss_cons (ps_set (i := 2) sc__law_draw.nd rfl (Or.inl rfl) (pe_ix ix_list (pv 0) pe_int (fun _ _ => rfl)))
      (pss_cons (ps_asg (pe_op op_add (pe_ix ix_list (pv 0) pe_int (fun _ _ => rfl)) pe_int) (pg_sub (pv 0) pe_int set_list))
      (pss_cons (ps_set (i := 3) sc__law_draw.nd rfl (Or.inl rfl) (pe_op op_mod (pe_ix ix_list (pv 0) pe_int (fun _ _ => rfl)) (pe_callB call_len_seq (by rfl) h_len boot_len (pa_cons (pv 2) pa_nil))))
      (pss_cons (ps_set (i := 4) sc__law_draw.nd rfl (Or.inl rfl) (pe_ix ix_list (pv 2) (pv 3) (fun _ _ => rfl)))
      (pss_cons (ps_if (pt_cmpR op_ge (pv 4) pe_int (nomark _)) (pss_cons (ps_asg (pe_op op_fdiv (pv 4) (pv 1)) (pg_sub (pv 2) (pv 3) set_list)) (pss_one (ps_ret (pe_op op_mod (pv 4) (pv 1))))) pss_nil)
      (pss_cons (ps_set (i := 5) sc__law_draw.nd rfl (Or.inl rfl) (pe_op op_mod (pe_op op_add (pv 4) (pe_op op_mul pe_int (pe_ix ix_list (pv 0) pe_int (fun _ _ => rfl)))) pe_int))
      (pss_cons (ps_set (i := 5) sc__law_draw.nd rfl (Or.inl rfl) (pe_op op_mod (pe_op op_pow (pv 5) pe_int) pe_int))
      (pss_one (ps_ret (pe_op op_mod (pe_op op_fdiv (pe_op op_mod (pe_op op_add (pe_op op_mul (pe_op op_fdiv (pv 5) pe_int) pe_int) (pv 5)) pe_int) pe_int) (pv 1)))))))))), ?_⟩
    obtain ⟨hl, G, Z, ds, s0, hz, hy, _, ha, hrr, w⟩ := h
    obtain ⟨n, rfl⟩ := draw_args w
    obtain ⟨⟨hn0, hn1, hne⟩, w⟩ := wp_draw w
    obtain ⟨v, rfl, hv⟩ : ∃ v, vs = [v, .int n] ∧ G.hv 0 = some v := by
      cases hrr with
      | cons r1 r2 =>
        cases r2 with
        | cons r3 r4 =>
          cases r4
          cases r1 with
          | hd e => exact ⟨_, by rw [rep_int r3], e⟩
    obtain ⟨dd, l, rfl, hd, hlY, ne, hrd, hrl, hdr⟩ := G.dr _ hv
    obtain ⟨hD, hL, hst⟩ := hdr s0 H ha
    have hlen : 0 < s0.nums.length := List.length_pos_iff.mpr hne
    -- numbers = draws[0]
    refine ⟨_, rfl, dd, _, 0, _, rfl, rfl, SqL.of hD, atI_nat (j := 0) rfl, ?_⟩
    -- draws[1] = draws[1] + 1
    refine ⟨_, rfl, dd, _, 1, _, rfl, rfl, SqL.of hD, atI_nat (j := 1) rfl, _, _, rfl, rfl, _, rfl, dd, _, 1, 1, rfl, rfl, hD, rfl, ?_⟩
    have hD1 : (upd H dd (.lst [.ref l, .int (s0.cnt + 1)])) dd = some (.lst [.ref l, .int (s0.cnt + 1)]) := upd_same
    have hL1 : (upd H dd (.lst [.ref l, .int (s0.cnt + 1)])) l = some (.lst (s0.nums.map V.int)) := by rw [upd_ne (Ne.symm ne)]; exact hL
    -- at = draws[1] % len(numbers)
    refine ⟨_, rfl, dd, _, 1, _, rfl, rfl, SqL.of hD1, atI_nat (j := 1) rfl, _, rfl, l, _, rfl, .inl (SqL.of hL1), _, _, rfl, rfl, ?_, ?_⟩
    · rw [List.length_map]; omega
    rw [List.length_map]
    -- cell = numbers[at]
    have hat0 : 0 ≤ (s0.cnt + 1) % (s0.nums.length : Int) := Int.emod_nonneg _ (by omega)
    have hat1 : (s0.cnt + 1) % (s0.nums.length : Int) < s0.nums.length := Int.emod_lt_of_pos _ (by omega)
    have hnat : ((s0.cnt + 1) % (s0.nums.length : Int)) = (((s0.cnt + 1) % (s0.nums.length : Int)).toNat : Int) := (Int.toNat_of_nonneg hat0).symm
    have hlt : ((s0.cnt + 1) % (s0.nums.length : Int)).toNat < s0.nums.length := by omega
    have hget : (s0.nums.map V.int)[((s0.cnt + 1) % (s0.nums.length : Int)).toNat]? = some (.int (s0.nums.getD ((s0.cnt + 1) % (s0.nums.length : Int)).toNat 0)) := by
      rw [List.getElem?_map, List.getD_eq_getElem?_getD, List.getElem?_eq_getElem hlt]; rfl
    refine ⟨_, rfl, _, rfl, l, _, _, _, rfl, rfl, SqL.of hL1, at_of hnat hget, ?_⟩
    unfold drawV drawS drawAt at w
    generalize hcell : s0.nums.getD ((s0.cnt + 1) % (s0.nums.length : Int)).toNat 0 = cell at w ⊢
    -- the rest
    refine ⟨_, rfl, _, _, rfl, rfl, _, rfl, ?_⟩
    refine ite2 (fun hb' => ?_) (fun hb' => ?_)
    · have hb : 1000000000000000000 ≤ cell := of_decide_eq_true hb'
      rw [if_pos hb, if_pos hb] at w
      have hix : ixN (s0.nums.map V.int).length ((s0.cnt + 1) % (s0.nums.length : Int)) = some ((s0.cnt + 1) % (s0.nums.length : Int)).toNat := by
        unfold ixN
        rw [List.length_map, if_pos hat0, if_pos hat1]
      refine ⟨_, rfl, _, rfl, _, _, rfl, rfl, ⟨hn0, by omega⟩, _, rfl, _, rfl, l, _, _, _, rfl, rfl, hL1, hix, ?_⟩
      refine ⟨_, rfl, _, rfl, _, _, rfl, rfl, hn0, ?_⟩
      have hm : (s0.nums.map V.int).set ((s0.cnt + 1) % (s0.nums.length : Int)).toNat (.int (cell / n)) = (s0.nums.set ((s0.cnt + 1) % (s0.nums.length : Int)).toNat (cell / n)).map V.int := by
        rw [List.map_set]
      rw [hm]
      refine w _ _ ⟨fun a o na e => ?_, fun a r => .inl (hrd _ _ _ (hrl _ _ _ r)), fun a h => upd_some (upd_some h)⟩ (hst _ _) (.int _)
      rw [upd_ne (fun (z : a = l) => na.1 (by rw [z]; exact hlY)), upd_ne (fun (z : a = dd) => na.1 (by rw [z]; exact hd))]
      exact e
    · have hb : ¬ 1000000000000000000 ≤ cell := fun z => hb' (decide_eq_true z)
      rw [if_neg hb, if_neg hb] at w
      have hup : upd (upd H dd (.lst [.ref l, .int (s0.cnt + 1)])) l (.lst (s0.nums.map V.int)) = upd H dd (.lst [.ref l, .int (s0.cnt + 1)]) := by
        funext a
        by_cases z : a = l
        · rw [z, upd_same, hL1]
        · rw [upd_ne z]
      have hA := hst s0.nums (s0.cnt + 1)
      rw [hup] at hA
      have m0 : 0 ≤ (cell + 104729 * (s0.cnt + 1)) % 4294967291 := Int.emod_nonneg _ (by decide)
      have m1 : (cell + 104729 * (s0.cnt + 1)) % 4294967291 < 4294967291 := Int.emod_lt_of_pos _ (by decide)
      refine ⟨_, rfl, _, rfl, dd, _, 1, _, rfl, rfl, SqL.of hD1, atI_nat (j := 1) rfl, _, _, rfl, rfl, .inl (by decide), _, _, rfl, rfl, _, _, rfl, rfl, (by show (0 : Int) < 4294967291; decide), ?_⟩
      refine ⟨_, rfl, _, _, rfl, rfl, ⟨by decide, by decide, by omega⟩, _, _, rfl, rfl, (by show (0 : Int) < 4294967279; decide), ?_⟩
      have p0 : 0 ≤ ((cell + 104729 * (s0.cnt + 1)) % 4294967291) ^ (5 : Int).toNat % 4294967279 := Int.emod_nonneg _ (by decide)
      refine ⟨_, rfl, _, _, rfl, rfl, ⟨by decide, by decide⟩, _, _, rfl, rfl, .inr (by decide), _, rfl, _, _, rfl, rfl, _, _, rfl, rfl, (by show (0 : Int) < 4294967231; decide), _, _, rfl, rfl, ⟨by decide, by decide⟩, _, rfl, _, _, rfl, rfl, hn0, ?_⟩
      refine w _ _ ⟨fun a o na e => ?_, fun a r => .inl (hrd _ _ _ r), fun a h => upd_some h⟩ hA (.int _)
      rw [upd_ne (fun (z : a = dd) => na.1 (by rw [z]; exact hd))]
      exact e
abbrev s_Register_init__ : Stmt := inClass (topS 47) 0
theorem sc_Register_init__ : FnScope ["self", "check"] ["self", "check"] (defScope s_Register_init__) := ⟨rfl, rfl, rfl, by decide +kernel, rfl, by decide +kernel, by decide +kernel⟩
theorem ok_Register_init__ (d : ClsAt K mg "Register" cl.reg "Register.__init__" s_Register_init__ ["self", "check"]) (T_reg : RegT K cl.reg) (k_check_check : KO P wd K mg base 3 "check_check" (spD cl 1 m_check_check)) : KM P wd K mg base 4 "Register" cl.reg (spIni cl m_check_check) := by
  obtain ⟨g, f, fd, M, F, b⟩ := d
  exact ⟨f, fd, ["self", "check"], g, M, b, F.okX sc_Register_init__ (fun vs H Q E h => h.1) fun cdv A outer s H vs Q E hr h =>
    ⟨_, pss_cons (ps_expr (pe_callD (E := E) k_check_check (hr.mono (by decide)) (by rfl) passB (pa_cons (pv 1) pa_nil)))
      (pss_cons (ps_fld (pv 0) (pv 1) rfl) (pss_cons (ps_fld (pv 0) (pe_ix ix_tup (pv 1) pe_int (fun _ _ => rfl)) rfl) (pss_one (ps_fld (pv 0) (pe_lst pa_nil) rfl)))), walk_ini T_reg h⟩⟩
abbrev s_Register_value : Stmt := inClass (topS 47) 4
theorem sc_Register_value : FnScope ["self"] ["self"] (defScope s_Register_value) := ⟨rfl, rfl, rfl, by decide +kernel, rfl, by decide +kernel, by decide +kernel⟩
def b_Register_value : DL.Env → DM Fl :=
    (hRet (gNow 0))
def m_Register_value : List D → DM D := runD 1 b_Register_value
theorem ok_Register_value (d : MthAt K cl.reg "value" "Register.value" s_Register_value ["self"]) (T_reg : RegT K cl.reg) : KMt P wd K mg base 1 cl.reg "value" (spD cl 1 m_Register_value) :=
  kmt_of d fun f fd F => fn_D (n := 1) (os' := []) F sc_Register_value rfl fun cdv A outer s H E hr =>
    ⟨_, (pss_one (ps_ret (pe_fld (pv 0) rfl))),
     ((s_ret (v_now T_reg rfl)) : EwS cl E [] [] [] _ b_Register_value).1⟩
abbrev s_Register_check_value : Stmt := inClass (topS 47) 5
theorem sc_Register_check_value : FnScope ["self"] ["self"] (defScope s_Register_check_value) := ⟨rfl, rfl, rfl, by decide +kernel, rfl, by decide +kernel, by decide +kernel⟩
def b_Register_check_value : DL.Env → DM Fl :=
    (hRet (gCall m_added (gCons (gNow 0) (gCons (gOp D.idx (gChk 0) (gC (.int 3))) gNil))))
def m_Register_check_value : List D → DM D := runD 1 b_Register_check_value
theorem ok_Register_check_value (d : MthAt K cl.reg "check_value" "Register.check_value" s_Register_check_value ["self"]) (T_reg : RegT K cl.reg) (k_added : KO P wd K mg base 1 "added" (spD cl 2 m_added)) : KMt P wd K mg base 2 cl.reg "check_value" (spD cl 1 m_Register_check_value) :=
  kmt_of d fun f fd F => fn_D (n := 1) (os' := []) F sc_Register_check_value rfl fun cdv A outer s H E hr =>
    ⟨_, (pss_one (ps_ret (pe_callD (E := E) k_added (hr.mono (by decide)) (by rfl) passB (pa_cons (pe_fld (pv 0) rfl) (pa_cons (pe_ix xd_idx (pe_fld (pv 0) rfl) pe_int (fun _ _ => rfl)) pa_nil))))),
     ((s_ret (v_call (cnt_cons (cnt_cons cnt_nil)) (a_cons (v_now T_reg rfl) (a_cons (v_op (v_chk T_reg rfl) v_int) a_nil)))) : EwS cl E [] [] [] _ b_Register_check_value).1⟩
abbrev s_Register_len__ : Stmt := inClass (topS 47) 7
theorem sc_Register_len__ : FnScope ["self"] ["self"] (defScope s_Register_len__) := ⟨rfl, rfl, rfl, by decide +kernel, rfl, by decide +kernel, by decide +kernel⟩
def b_Register_len__ : DL.Env → DM Fl :=
    (hRet (gLenRow 0))
def m_Register_len__ : List D → DM D := runD 1 b_Register_len__
theorem ok_Register_len__ (d : MthAt K cl.reg "__len__" "Register.__len__" s_Register_len__ ["self"]) (h_len : mg "len" = none) (T_reg : RegT K cl.reg) : KMt P wd K mg base 1 cl.reg "__len__" (spD cl 1 m_Register_len__) :=
  kmt_of d fun f fd F => fn_D (n := 1) (os' := []) F sc_Register_len__ rfl fun cdv A outer s H E hr =>
    ⟨_, (pss_one (ps_ret (pe_callB call_lenQ (by rfl) h_len boot_len (pa_cons (pe_fld (pv 0) rfl) pa_nil)))),
     ((s_ret (v_lenRow T_reg rfl)) : EwS cl E [] [] [] _ b_Register_len__).1⟩
abbrev s__law_register_calls : Stmt := topS 57
theorem sc__law_register_calls : FnScope ["shown", "bad", "bits", "k"] [] (defScope s__law_register_calls) := ⟨rfl, rfl, rfl, by decide +kernel, rfl, by decide +kernel, by decide +kernel⟩
def b__law_register_calls : DL.Env → DM Fl :=
    (hReg 0 m_check_check (gCons (gTup (gCons (gC (.int 3)) (gCons (gC (.int 3)) (gCons (gC (.int 5)) (gCons (gC (.int 1)) gNil))))) gNil)
    (seqG (hFor (gIt itemsL (gLst (gCons (gC .non) (gCons (gC (.int 5)) (gCons (gTup (gCons (gC (.int 1)) gNil)) (gCons (gLst (gCons (gC (.int 2)) gNil)) (gCons (gLst (gCons (gC (.bl true)) gNil)) (gCons (gC (.str "01")) (gCons (gOp D.mul (gLst (gCons (gC (.int 0)) gNil)) (gC (.int 65))) gNil))))))))) (setE 1)
    (gIf (gOr (gT (gOp D.ne (gL (gComp [3] (gIt itemsT (gTup (gCons (gC (.int 5)) (gCons (gC (.int 6)) (gCons (gC (.int 7)) gNil))))) (setE 3) gYes (gCall m__law_asked (gCons (getE 3) (gCons (getE 0) (gCons (getE 1) gNil)))))) (gOp D.mul (gLst (gCons (gC (.str "bits")) gNil)) (gC (.int 3))))) (gT (gOp D.ne (gCall m__law_asked (gCons (gC (.int 4)) (gCons (gC (.int 0)) (gCons (getE 1) gNil)))) (gC (.str "bits")))))
    (hRet (gC (.bl false)))
    hNx))
    (seqG (hFor (gIt itemsL (gLst (gCons (gC .non) (gCons (gC (.int 8)) (gCons (gOp D.sub (gC (.int 0)) (gC (.int 1))) (gCons (gC (.bl true)) (gCons (gC (.str "1")) gNil))))))) (setE 1)
    (gIf (gT (gOp D.ne (gCall m__law_asked (gCons (gC (.int 8)) (gCons (getE 0) (gCons (getE 1) gNil)))) (gC (.str "number"))))
    (hRet (gC (.bl false)))
    hNx))
    (seqG (gIf (gOr (gT (gOp D.ne (gCall m__law_asked (gCons (gC (.int 6)) (gCons (getE 0) (gCons (gLst (gCons (gC (.int 0)) gNil)) gNil)))) (gC (.str "none")))) (gOr (gT (gOp D.ne (gMeth m_Register_value 0 gNil) (gC (.int 5)))) (gOr (gT (gOp D.ne (gMeth m_Register_check_value 0 gNil) (gC (.int 4)))) (gT (gOp D.ne (gLenO m_Register_len__ 0) (gC (.int 0)))))))
    (hRet (gC (.bl false)))
    hNx)
    (seqG (hOwn (gLstN (gCons (gC (.int 1)) (gCons (gC (.int 0)) gNil))) 2)
    (seqG (hDrop (gMeth m_Register_feed 0 (gCons (getE 2) gNil)))
    (seqG (hApp 2 (gC (.int 1)))
    (seqG (gIf (gOr (gT (gOp D.ne (gLenO m_Register_len__ 0) (gC (.int 2)))) (gOr (gT (gOp D.ne (gCall m__law_asked (gCons (gC (.int 6)) (gCons (getE 0) (gCons (gLst (gCons (gC (.int 1)) (gCons (gC (.int 0)) (gCons (gC (.int 0)) gNil)))) gNil)))) (gC (.str "none")))) (gT (gOp D.ne (gMeth m_Register_back 0 (gCons (gLst (gCons (gC (.int 1)) (gCons (gC (.int 0)) gNil))) gNil)) (gC (.int 5))))))
    (hRet (gC (.bl false)))
    hNx)
    (hRet (gAndV (gOp D.is (gMeth m_Register_set_register 0 (gCons (gC (.int 0)) gNil)) (gC .non)) (gAndV (gOp D.eq (gMeth m_Register_value 0 gNil) (gC (.int 0))) (gOp D.eq (gLenO m_Register_len__ 0) (gC (.int 0))))))))))))))
def m__law_register_calls : List D → DM D := runD 4 b__law_register_calls
theorem ok__law_register_calls (d : DefAt K mg "_law_register_calls" s__law_register_calls []) (h_len : mg "len" = none) (T_reg : RegT K cl.reg) (k_Register_init__ : KM P wd K mg base 4 "Register" cl.reg (spIni cl m_check_check)) (k__law_asked : KO P wd K mg base 9 "_law_asked" (spD cl 3 m__law_asked)) (k_Register_value : KMt P wd K mg base 1 cl.reg "value" (spD cl 1 m_Register_value)) (k_Register_check_value : KMt P wd K mg base 2 cl.reg "check_value" (spD cl 1 m_Register_check_value)) (k_Register_len__ : KMt P wd K mg base 1 cl.reg "__len__" (spD cl 1 m_Register_len__)) (k_Register_feed : KMt P wd K mg base 4 cl.reg "feed" (spD cl 2 m_Register_feed)) (k_Register_back : KMt P wd K mg base 4 cl.reg "back" (spD cl 2 m_Register_back)) (k_Register_set_register : KMt P wd K mg base 2 cl.reg "set_register" (spD cl 2 m_Register_set_register)) : KO P wd K mg base 10 "_law_register_calls" (spD cl 0 m__law_register_calls) :=
  ko_of d fun f fd F => fn_D (n := 4) (os' := []) F sc__law_register_calls rfl fun cdv A outer s H E hr =>
    ⟨_, (pss_cons (ps_set (i := 0) sc__law_register_calls.nd rfl (Or.inr rfl) (pe_mkD (E := E) k_Register_init__ (hr.mono (by decide)) (by rfl) passB (pa_cons (pe_tup (pa_cons pe_int (pa_cons pe_int (pa_cons pe_int (pa_cons pe_int pa_nil))))) pa_nil))) (pss_cons (ps_for (passes_of rfl) rfl (pi_list (pe_lst (pa_cons pe_non (pa_cons pe_int (pa_cons (pe_tup (pa_cons pe_int pa_nil)) (pa_cons (pe_lst (pa_cons pe_int pa_nil)) (pa_cons (pe_lst (pa_cons pe_bl pa_nil)) (pa_cons pe_str (pa_cons (pe_op od_mul (pe_lst (pa_cons pe_int pa_nil)) pe_int) pa_nil))))))))) (pg_name (i := 1) sc__law_register_calls.nd rfl (Or.inr rfl)) (pss_one (ps_if (PW.pt (pw_or (pt_cmpR (od_ne (u64 hr)) (pe_lc (own := [("k", 3)]) rfl sc__law_register_calls.nd (pi_tup (pe_tup (pa_cons pe_int (pa_cons pe_int (pa_cons pe_int pa_nil))))) (blkOk_by (own := [("k", 3)]) (N := ["shown", "bad", "bits", "k"]) (sc := defScope s__law_register_calls) (by decide +kernel)) (fun _ _ _ _ _ => (pg_name (i := 3) sc__law_register_calls.nd rfl (Or.inl rfl))) (fun _ _ _ _ _ => pts_nil) (fun _ _ _ _ _ => (pe_callD (E := L2.E0) k__law_asked (hr.mono (by decide)) (by rfl) passL (pa_cons (pv 3) (pa_cons (pv 0) (pa_cons (pv 1) pa_nil)))))) (pe_op od_mul (pe_lst (pa_cons pe_str pa_nil)) pe_int) (nomark _)) (pw_or1 (pt_cmpR (od_ne (u64 hr)) (pe_callD (E := E) k__law_asked (hr.mono (by decide)) (by rfl) passB (pa_cons pe_int (pa_cons pe_int (pa_cons (pv 1) pa_nil)))) pe_str (nomark _))))) (pss_one (ps_ret pe_bl)) pss_nil))) (pss_cons (ps_for (passes_of rfl) rfl (pi_list (pe_lst (pa_cons pe_non (pa_cons pe_int (pa_cons (pe_op od_sub pe_int pe_int) (pa_cons pe_bl (pa_cons pe_str pa_nil))))))) (pg_name (i := 1) sc__law_register_calls.nd rfl (Or.inr rfl)) (pss_one (ps_if (pt_cmpR (od_ne (u64 hr)) (pe_callD (E := E) k__law_asked (hr.mono (by decide)) (by rfl) passB (pa_cons pe_int (pa_cons (pv 0) (pa_cons (pv 1) pa_nil)))) pe_str (nomark _)) (pss_one (ps_ret pe_bl)) pss_nil))) (pss_cons (ps_if (PW.pt (pw_or (pt_cmpR (od_ne (u64 hr)) (pe_callD (E := E) k__law_asked (hr.mono (by decide)) (by rfl) passB (pa_cons pe_int (pa_cons (pv 0) (pa_cons (pe_lst (pa_cons pe_int pa_nil)) pa_nil)))) pe_str (nomark _)) (pw_or (pt_cmpR (od_ne (u64 hr)) (pe_meth0D (E := E) (pv 0) T_reg.cl k_Register_value (hr.mono (by decide)) passB) pe_int (nomark _)) (pw_or (pt_cmpR (od_ne (u64 hr)) (pe_meth0D (E := E) (pv 0) T_reg.cl k_Register_check_value (hr.mono (by decide)) passB) pe_int (nomark _)) (pw_or1 (pt_cmpR (od_ne (u64 hr)) (pe_callB (call_lenO (E := E) k_Register_len__ (hr.mono (by decide)) passB) (by rfl) h_len boot_len (pa_cons (pv 0) pa_nil)) pe_int (nomark _))))))) (pss_one (ps_ret pe_bl)) pss_nil) (pss_cons (ps_set (i := 2) sc__law_register_calls.nd rfl (Or.inl rfl) (pe_lst (pa_cons pe_int (pa_cons pe_int pa_nil)))) (pss_cons (ps_expr (pe_methD (E := E) (pv 0) T_reg.cl k_Register_feed (hr.mono (by decide)) passB (pa_cons (pv 2) pa_nil))) (pss_cons (ps_expr (pe_bm PySem.F.plainAttrs_list PySem.F.slot_list_append PySem.F.type_list_append mt_append (pv 2) (pa_cons pe_int pa_nil))) (pss_cons (ps_if (PW.pt (pw_or (pt_cmpR (od_ne (u64 hr)) (pe_callB (call_lenO (E := E) k_Register_len__ (hr.mono (by decide)) passB) (by rfl) h_len boot_len (pa_cons (pv 0) pa_nil)) pe_int (nomark _)) (pw_or (pt_cmpR (od_ne (u64 hr)) (pe_callD (E := E) k__law_asked (hr.mono (by decide)) (by rfl) passB (pa_cons pe_int (pa_cons (pv 0) (pa_cons (pe_lst (pa_cons pe_int (pa_cons pe_int (pa_cons pe_int pa_nil)))) pa_nil)))) pe_str (nomark _)) (pw_or1 (pt_cmpR (od_ne (u64 hr)) (pe_methD (E := E) (pv 0) T_reg.cl k_Register_back (hr.mono (by decide)) passB (pa_cons (pe_lst (pa_cons pe_int (pa_cons pe_int pa_nil))) pa_nil)) pe_int (nomark _)))))) (pss_one (ps_ret pe_bl)) pss_nil) (pss_one (ps_ret (pe_and (pe_cmpR od_is (pe_methD (E := E) (pv 0) T_reg.cl k_Register_set_register (hr.mono (by decide)) passB (pa_cons pe_int pa_nil)) pe_non (nomark _)) (pe_and (pe_cmpR (od_eq (u64 hr)) (pe_meth0D (E := E) (pv 0) T_reg.cl k_Register_value (hr.mono (by decide)) passB) pe_int (nomark _)) (pe_one (pe_cmpR (od_eq (u64 hr)) (pe_callB (call_lenO (E := E) k_Register_len__ (hr.mono (by decide)) passB) (by rfl) h_len boot_len (pa_cons (pv 0) pa_nil)) pe_int (nomark _))))))))))))))),
     ((s_mkReg (a_cons (v_tup (a_cons v_int (a_cons v_int (a_cons v_int (a_cons v_int a_nil))))) a_nil) (s_seq (s_for (vs := [1]) (i_list (v_lst (a_cons v_non (a_cons v_int (a_cons (v_tup (a_cons v_int a_nil)) (a_cons (v_lst (a_cons v_int a_nil)) (a_cons (v_lst (a_cons v_bl a_nil)) (a_cons v_str (a_cons (v_op (v_lst (a_cons v_int a_nil)) v_int) a_nil))))))))) (w_name rfl rfl) (s_if (t_or (t_test (v_op (v_new (n_comp (vs := [3]) rfl (i_tup (v_tup (a_cons v_int (a_cons v_int (a_cons v_int a_nil))))) (w_name rfl rfl) t_yes (v_call (cnt_cons (cnt_cons (cnt_cons cnt_nil))) (a_cons (v_var rfl) (a_cons (v_var rfl) (a_cons (v_var rfl) a_nil)))))) (v_op (v_lst (a_cons v_str a_nil)) v_int))) (t_test (v_op (v_call (cnt_cons (cnt_cons (cnt_cons cnt_nil))) (a_cons v_int (a_cons v_int (a_cons (v_var rfl) a_nil)))) v_str))) (s_ret v_bl) s_next)) (s_seq (s_for (vs := [1]) (i_list (v_lst (a_cons v_non (a_cons v_int (a_cons (v_op v_int v_int) (a_cons v_bl (a_cons v_str a_nil))))))) (w_name rfl rfl) (s_if (t_test (v_op (v_call (cnt_cons (cnt_cons (cnt_cons cnt_nil))) (a_cons v_int (a_cons (v_var rfl) (a_cons (v_var rfl) a_nil)))) v_str)) (s_ret v_bl) s_next)) (s_seq (s_if (t_or (t_test (v_op (v_call (cnt_cons (cnt_cons (cnt_cons cnt_nil))) (a_cons v_int (a_cons (v_var rfl) (a_cons (v_lst (a_cons v_int a_nil)) a_nil)))) v_str)) (t_or (t_test (v_op (v_meth notF_value rfl cnt_nil a_nil) v_int)) (t_or (t_test (v_op (v_meth notF_check_value rfl cnt_nil a_nil) v_int)) (t_test (v_op (v_lenO rfl) v_int))))) (s_ret v_bl) s_next) (s_seq (s_own (n_lst (a_cons v_int (a_cons v_int a_nil))) rfl) (s_seq (s_drop (v_meth notF_feed rfl (cnt_cons cnt_nil) (a_cons (v_own rfl) a_nil))) (s_seq (s_app rfl v_int) (s_freeze (s_seq (s_if (t_or (t_test (v_op (v_lenO rfl) v_int)) (t_or (t_test (v_op (v_call (cnt_cons (cnt_cons (cnt_cons cnt_nil))) (a_cons v_int (a_cons (v_var rfl) (a_cons (v_lst (a_cons v_int (a_cons v_int (a_cons v_int a_nil)))) a_nil)))) v_str)) (t_test (v_op (v_meth notF_back rfl (cnt_cons cnt_nil) (a_cons (v_lst (a_cons v_int (a_cons v_int a_nil))) a_nil)) v_int)))) (s_ret v_bl) s_next) (s_ret (v_andV (v_op (v_meth notF_set_register rfl (cnt_cons cnt_nil) (a_cons v_int a_nil)) v_non) (v_andV (v_op (v_meth notF_value rfl cnt_nil a_nil) v_int) (v_op (v_lenO rfl) v_int))))))))))))) : EwS cl E [] [] [] _ b__law_register_calls).1⟩
abbrev s__law_start : Stmt := topS 52
theorem sc__law_start : FnScope ["script"] ["script"] (defScope s__law_start) := ⟨rfl, rfl, rfl, by decide +kernel, rfl, by decide +kernel, by decide +kernel⟩
theorem ok__law_start (d : DefAt K mg "_law_start" s__law_start ["script"]) (h_list : mg "list" = none) : KO P wd K mg base 1 "_law_start" (spStart K) :=
  ko_of d fun f fd F => F.okX sc__law_start (fun vs H Q E h => by obtain ⟨a, ns, rfl, _⟩ := h; rfl) fun cdv A outer s H vs Q E hr h => by
    obtain ⟨a, ns, rfl, hs, hl, q⟩ := h
    refine ⟨_, pss_one (ps_ret (pe_lst (pa_cons (pe_ifExp (pt_cmpR (op_neD (u64 hr)) (pv 0) (pe_lst pa_nil) (nomark _)) (pe_callTy call_list_of (by rfl) h_list boot_list (pa_cons (pv 0) pa_nil)) (pe_lst (pa_cons pe_int pa_nil))) (pa_cons pe_int pa_nil)))), ?_⟩
    refine ⟨_, rfl, Nat.zero_le _, fun p hp => ?_⟩
    have sm : Same H (upd H p (.lst [])) := same_new hp
    refine ⟨.list (ns.map PyData.int), .list [], .lst (sm.seq hs) (dp_ints ns), .lst (SqL.of upd_same) .nil, shaped_ints ns, shaped_ints [], _, rfl, ite2 (fun e => ?_) (fun e => ?_)⟩
    · have hne : ns ≠ [] := fun z => by subst z; simp [PyData.eqv, PyData.eqvAll] at e
      refine ⟨_, rfl, a, ns.map V.int, rfl, .inl (sm.seq hs), fun l hl' => ?_⟩
      have sm2 : Same (upd H p (.lst [])) (upd (upd H p (.lst [])) l (.lst (ns.map V.int))) := same_new hl'
      refine ⟨lim_le (by show 2 ≤ LIM; decide), fun t ht => ?_⟩
      have hlt : l ≠ t := fun z => by rw [← z, upd_same] at ht; cases ht
      refine q t l _ hlt.symm ((sm.trans sm2).free ht) (sm.free hl') ((sm.trans sm2).trans (same_new ht)) upd_same ?_
      rw [upd_ne hlt, upd_same, nz, if_neg hne]
    · have he : ns = [] := by
        cases ns with
        | nil => rfl
        | cons x r => exact absurd (by simp [PyData.eqv, PyData.eqvAll]) e
      subst he
      refine ⟨lim_le (by show 1 ≤ LIM; decide), fun l hl' => ?_⟩
      have sm2 : Same (upd H p (.lst [])) (upd (upd H p (.lst [])) l (.lst [.int 0])) := same_new hl'
      refine ⟨lim_le (by show 2 ≤ LIM; decide), fun t ht => ?_⟩
      have hlt : l ≠ t := fun z => by rw [← z, upd_same] at ht; cases ht
      refine q t l _ hlt.symm ((sm.trans sm2).free ht) (sm.free hl') ((sm.trans sm2).trans (same_new ht)) upd_same ?_
      rw [upd_ne hlt, upd_same]
      rfl
abbrev s_law : Stmt := topS 58
theorem sc_law : FnScope ["script", "draws", "bad", "good", "odd", "k"] ["script"] (defScope s_law) := ⟨rfl, rfl, rfl, by decide +kernel, rfl, by decide +kernel, by decide +kernel⟩
def b_law : DL.Env → DM Fl :=
    (seqG (hFor (gIt itemsL (gLst (gCons (gC .non) (gCons (gC (.int 0)) (gCons (gC (.int 6)) (gCons (gOp D.sub (gC (.int 0)) (gC (.int 1))) (gCons (gC (.bl true)) (gCons (gC (.str "2")) gNil)))))))) (setE 2)
    (gIf (gT (gOp D.ne (gL (gComp [5] (gIt rng1 (gCons (gC (.int 3)) gNil)) (setE 5) gYes (gCall m__law_asked (gCons (getE 5) (gCons (getE 2) (gCons (gC .non) gNil)))))) (gOp D.mul (gLst (gCons (gC (.str "number")) gNil)) (gC (.int 3)))))
    (hRet (gC (.bl false)))
    hNx))
    (seqG (hAsg (gTup (gCons (gLst (gCons (gC (.int 1)) (gCons (gC (.int 0)) gNil))) (gCons (gCall m__law_draw (gCons (getE 1) (gCons (gC (.int 4)) gNil))) gNil))) (setE 3))
    (seqG (hAsg (gLst (gCons (gC .non) (gCons (gC (.int 5)) (gCons (gTup gNil) (gCons (gLst gNil) (gCons (gLst (gCons (gC (.int 5)) gNil)) (gCons (gLst (gCons (gTup gNil) gNil)) (gCons (gLst (gCons (gTup (gCons (gLst (gCons (gC (.int 1)) gNil)) gNil)) gNil)) (gCons (gLst (gCons (gLst (gCons (gLst (gCons (gC (.int 1)) gNil)) (gCons (gC (.int 0)) gNil))) gNil)) (gCons (gLst (gCons (gTup (gCons (gTup (gCons (gC (.int 1)) gNil)) (gCons (gC (.int 0)) gNil))) gNil)) (gCons (gLst (gCons (gTup (gCons (gLst (gCons (gC (.int 2)) gNil)) (gCons (gC (.int 0)) gNil))) gNil)) (gCons (gLst (gCons (gTup (gCons (gLst (gCons (gC (.int 1)) gNil)) (gCons (gC (.int 4)) gNil))) gNil)) (gCons (gLst (gCons (gTup (gCons (gLst (gCons (gC (.int 1)) gNil)) (gCons (gOp D.sub (gC (.int 0)) (gC (.int 1))) gNil))) gNil)) (gCons (gLst (gCons (gTup (gCons (gLst (gCons (gC (.int 1)) gNil)) (gCons (gC (.bl true)) gNil))) gNil)) (gCons (gLst (gCons (gTup (gCons (gLst (gCons (gC (.int 1)) gNil)) (gCons (gC .non) gNil))) gNil)) (gCons (gLst (gCons (gTup (gCons (gOp D.mul (gLst (gCons (gC (.int 0)) gNil)) (gC (.int 65))) (gCons (gC (.int 0)) gNil))) gNil)) (gCons (gLst (gCons (getE 3) (gCons (gC (.int 5)) gNil))) (gCons (gOp D.mul (gLst (gCons (getE 3) gNil)) (gC (.int 9))) (gCons (gTup (gCons (getE 3) gNil)) gNil))))))))))))))))))) (setE 4))
    (seqG (hFor (gIt itemsL (getE 4)) (setE 2)
    (gIf (gT (gOp D.ne (gL (gComp [5] (gIt itemsT (gTup (gCons (gC (.int 0)) (gCons (gC (.int 1)) (gCons (gC (.int 3)) gNil))))) (setE 5) gYes (gCall m__law_asked (gCons (getE 5) (gCons (gC (.int 2)) (gCons (getE 2) gNil)))))) (gOp D.mul (gLst (gCons (gC (.str "samples")) gNil)) (gC (.int 3)))))
    (hRet (gC (.bl false)))
    hNx))
    (seqG (gIf (gOr (gT (gOp D.ne (gL (gComp [5] (gIt itemsT (gTup (gCons (gC (.int 0)) (gCons (gC (.int 1)) (gCons (gC (.int 3)) gNil))))) (setE 5) gYes (gCall m__law_asked (gCons (getE 5) (gCons (gC (.int 2)) (gCons (gOp D.mul (gLst (gCons (getE 3) gNil)) (gC (.int 8))) gNil)))))) (gOp D.mul (gLst (gCons (gC (.str "done")) gNil)) (gC (.int 3))))) (gT (gOp D.ne (gL (gComp [5] (gIt itemsT (gTup (gCons (gC (.int 0)) (gCons (gC (.int 1)) gNil)))) (setE 5) gYes (gCall m__law_asked (gCons (getE 5) (gCons (gC (.int 5)) (gCons (gLst (gCons (gTup (gCons (gOp D.mul (gLst (gCons (gC (.int 0)) gNil)) (gC (.int 64))) (gCons (gC (.int 31)) gNil))) gNil)) gNil)))))) (gOp D.mul (gLst (gCons (gC (.str "done")) gNil)) (gC (.int 2))))))
    (hRet (gC (.bl false)))
    hNx)
    (seqG (hFor (gIt itemsL (gLst (gCons (gC .non) (gCons (gC (.int 0)) (gCons (gC (.int 21)) (gCons (gC (.bl true)) (gCons (gC (.str "3")) gNil))))))) (setE 2)
    (gIf (gT (gOp D.ne (gCall m__law_asked (gCons (gC (.int 2)) (gCons (gC (.int 2)) (gCons (getE 2) gNil)))) (gC (.str "number"))))
    (hRet (gC (.bl false)))
    hNx))
    (seqG (gIf (gOr (gT (gOp D.ne (gCall m__law_asked (gCons (gC (.int 2)) (gCons (gC (.int 3)) (gCons (gC (.int 20)) gNil)))) (gC (.str "done")))) (gT (gOp D.ne (gCall m_format_bits (gCons (gLst gNil) gNil)) (gC (.str "")))))
    (hRet (gC (.bl false)))
    hNx)
    (hRet (gCall m__law_register_calls gNil)))))))))
theorem ok_law {fa : Addr} {fd : FuncData} (F : Fun K "law" "law" s_law fa fd) (h_range : mg "range" = none) (k__law_asked : KO P wd K mg base 9 "_law_asked" (spD cl 3 m__law_asked)) (k__law_draw : KO P wd K mg base 1 "_law_draw" (spD cl 2 m__law_draw)) (k_format_bits : KO P wd K mg base 4 "format_bits" (spD cl 1 m_format_bits)) (k__law_register_calls : KO P wd K mg base 10 "_law_register_calls" (spD cl 0 m__law_register_calls)) (k__law_start : KO P wd K mg base 1 "_law_start" (spStart K))
    (hm : ∀ ns : List Int, ns.length ≤ 63 → ∃ s', b_law ((List.replicate 6 none).set 1 (some (.hd 0))) (st0 ns) = .ok (.rt (.bl true)) s') :
    FnOk P wd K mg base (L2.CX P wd) 11 fa fd ["script"] (spLaw K) :=
  fn_law (cl := cl) (g := b_law) F sc_law (by decide) (fun cdv A outer s H E hr =>
    ⟨_, (pss_cons (ps_set (i := 1) sc_law.nd rfl (Or.inl rfl) (pe_callD (E := E) k__law_start (hr.mono (by decide)) (by rfl) passB (pa_cons (pv 0) pa_nil))) (pss_cons (ps_for (passes_of rfl) rfl (pi_list (pe_lst (pa_cons pe_non (pa_cons pe_int (pa_cons pe_int (pa_cons (pe_op od_sub pe_int pe_int) (pa_cons pe_bl (pa_cons pe_str pa_nil)))))))) (pg_name (i := 2) sc_law.nd rfl (Or.inr rfl)) (pss_one (ps_if (pt_cmpR (od_ne (u64 hr)) (pe_lc (own := [("k", 5)]) rfl sc_law.nd (pi_range1 (by rfl) h_range (pa_cons pe_int pa_nil)) (blkOk_by (own := [("k", 5)]) (N := ["script", "draws", "bad", "good", "odd", "k"]) (sc := defScope s_law) (by decide +kernel)) (fun _ _ _ _ _ => (pg_name (i := 5) sc_law.nd rfl (Or.inl rfl))) (fun _ _ _ _ _ => pts_nil) (fun _ _ _ _ _ => (pe_callD (E := L2.E0) k__law_asked (hr.mono (by decide)) (by rfl) passL (pa_cons (pv 5) (pa_cons (pv 2) (pa_cons pe_non pa_nil)))))) (pe_op od_mul (pe_lst (pa_cons pe_str pa_nil)) pe_int) (nomark _)) (pss_one (ps_ret pe_bl)) pss_nil))) (pss_cons (ps_set (i := 3) sc_law.nd rfl (Or.inr rfl) (pe_tup (pa_cons (pe_lst (pa_cons pe_int (pa_cons pe_int pa_nil))) (pa_cons (pe_callD (E := E) k__law_draw (hr.mono (by decide)) (by rfl) passB (pa_cons (pv 1) (pa_cons pe_int pa_nil))) pa_nil)))) (pss_cons (ps_set (i := 4) sc_law.nd rfl (Or.inl rfl) (pe_lst (pa_cons pe_non (pa_cons pe_int (pa_cons (pe_tup pa_nil) (pa_cons (pe_lst pa_nil) (pa_cons (pe_lst (pa_cons pe_int pa_nil)) (pa_cons (pe_lst (pa_cons (pe_tup pa_nil) pa_nil)) (pa_cons (pe_lst (pa_cons (pe_tup (pa_cons (pe_lst (pa_cons pe_int pa_nil)) pa_nil)) pa_nil)) (pa_cons (pe_lst (pa_cons (pe_lst (pa_cons (pe_lst (pa_cons pe_int pa_nil)) (pa_cons pe_int pa_nil))) pa_nil)) (pa_cons (pe_lst (pa_cons (pe_tup (pa_cons (pe_tup (pa_cons pe_int pa_nil)) (pa_cons pe_int pa_nil))) pa_nil)) (pa_cons (pe_lst (pa_cons (pe_tup (pa_cons (pe_lst (pa_cons pe_int pa_nil)) (pa_cons pe_int pa_nil))) pa_nil)) (pa_cons (pe_lst (pa_cons (pe_tup (pa_cons (pe_lst (pa_cons pe_int pa_nil)) (pa_cons pe_int pa_nil))) pa_nil)) (pa_cons (pe_lst (pa_cons (pe_tup (pa_cons (pe_lst (pa_cons pe_int pa_nil)) (pa_cons (pe_op od_sub pe_int pe_int) pa_nil))) pa_nil)) (pa_cons (pe_lst (pa_cons (pe_tup (pa_cons (pe_lst (pa_cons pe_int pa_nil)) (pa_cons pe_bl pa_nil))) pa_nil)) (pa_cons (pe_lst (pa_cons (pe_tup (pa_cons (pe_lst (pa_cons pe_int pa_nil)) (pa_cons pe_non pa_nil))) pa_nil)) (pa_cons (pe_lst (pa_cons (pe_tup (pa_cons (pe_op od_mul (pe_lst (pa_cons pe_int pa_nil)) pe_int) (pa_cons pe_int pa_nil))) pa_nil)) (pa_cons (pe_lst (pa_cons (pv 3) (pa_cons pe_int pa_nil))) (pa_cons (pe_op od_mul (pe_lst (pa_cons (pv 3) pa_nil)) pe_int) (pa_cons (pe_tup (pa_cons (pv 3) pa_nil)) pa_nil)))))))))))))))))))) (pss_cons (ps_for (passes_of rfl) rfl (pi_list (pv 4)) (pg_name (i := 2) sc_law.nd rfl (Or.inr rfl)) (pss_one (ps_if (pt_cmpR (od_ne (u64 hr)) (pe_lc (own := [("k", 5)]) rfl sc_law.nd (pi_tup (pe_tup (pa_cons pe_int (pa_cons pe_int (pa_cons pe_int pa_nil))))) (blkOk_by (own := [("k", 5)]) (N := ["script", "draws", "bad", "good", "odd", "k"]) (sc := defScope s_law) (by decide +kernel)) (fun _ _ _ _ _ => (pg_name (i := 5) sc_law.nd rfl (Or.inl rfl))) (fun _ _ _ _ _ => pts_nil) (fun _ _ _ _ _ => (pe_callD (E := L2.E0) k__law_asked (hr.mono (by decide)) (by rfl) passL (pa_cons (pv 5) (pa_cons pe_int (pa_cons (pv 2) pa_nil)))))) (pe_op od_mul (pe_lst (pa_cons pe_str pa_nil)) pe_int) (nomark _)) (pss_one (ps_ret pe_bl)) pss_nil))) (pss_cons (ps_if (PW.pt (pw_or (pt_cmpR (od_ne (u64 hr)) (pe_lc (own := [("k", 5)]) rfl sc_law.nd (pi_tup (pe_tup (pa_cons pe_int (pa_cons pe_int (pa_cons pe_int pa_nil))))) (blkOk_by (own := [("k", 5)]) (N := ["script", "draws", "bad", "good", "odd", "k"]) (sc := defScope s_law) (by decide +kernel)) (fun _ _ _ _ _ => (pg_name (i := 5) sc_law.nd rfl (Or.inl rfl))) (fun _ _ _ _ _ => pts_nil) (fun _ _ _ _ _ => (pe_callD (E := L2.E0) k__law_asked (hr.mono (by decide)) (by rfl) passL (pa_cons (pv 5) (pa_cons pe_int (pa_cons (pe_op od_mul (pe_lst (pa_cons (pv 3) pa_nil)) pe_int) pa_nil)))))) (pe_op od_mul (pe_lst (pa_cons pe_str pa_nil)) pe_int) (nomark _)) (pw_or1 (pt_cmpR (od_ne (u64 hr)) (pe_lc (own := [("k", 5)]) rfl sc_law.nd (pi_tup (pe_tup (pa_cons pe_int (pa_cons pe_int pa_nil)))) (blkOk_by (own := [("k", 5)]) (N := ["script", "draws", "bad", "good", "odd", "k"]) (sc := defScope s_law) (by decide +kernel)) (fun _ _ _ _ _ => (pg_name (i := 5) sc_law.nd rfl (Or.inl rfl))) (fun _ _ _ _ _ => pts_nil) (fun _ _ _ _ _ => (pe_callD (E := L2.E0) k__law_asked (hr.mono (by decide)) (by rfl) passL (pa_cons (pv 5) (pa_cons pe_int (pa_cons (pe_lst (pa_cons (pe_tup (pa_cons (pe_op od_mul (pe_lst (pa_cons pe_int pa_nil)) pe_int) (pa_cons pe_int pa_nil))) pa_nil)) pa_nil)))))) (pe_op od_mul (pe_lst (pa_cons pe_str pa_nil)) pe_int) (nomark _))))) (pss_one (ps_ret pe_bl)) pss_nil) (pss_cons (ps_for (passes_of rfl) rfl (pi_list (pe_lst (pa_cons pe_non (pa_cons pe_int (pa_cons pe_int (pa_cons pe_bl (pa_cons pe_str pa_nil))))))) (pg_name (i := 2) sc_law.nd rfl (Or.inr rfl)) (pss_one (ps_if (pt_cmpR (od_ne (u64 hr)) (pe_callD (E := E) k__law_asked (hr.mono (by decide)) (by rfl) passB (pa_cons pe_int (pa_cons pe_int (pa_cons (pv 2) pa_nil)))) pe_str (nomark _)) (pss_one (ps_ret pe_bl)) pss_nil))) (pss_cons (ps_if (PW.pt (pw_or (pt_cmpR (od_ne (u64 hr)) (pe_callD (E := E) k__law_asked (hr.mono (by decide)) (by rfl) passB (pa_cons pe_int (pa_cons pe_int (pa_cons pe_int pa_nil)))) pe_str (nomark _)) (pw_or1 (pt_cmpR (od_ne (u64 hr)) (pe_callD (E := E) k_format_bits (hr.mono (by decide)) (by rfl) passB (pa_cons (pe_lst pa_nil) pa_nil)) pe_str (nomark _))))) (pss_one (ps_ret pe_bl)) pss_nil) (pss_one (ps_ret (pe_call0D (E := E) k__law_register_calls (hr.mono (by decide)) (by rfl) passB))))))))))),
     ((s_seq (s_for (vs := [2]) (i_list (v_lst (a_cons v_non (a_cons v_int (a_cons v_int (a_cons (v_op v_int v_int) (a_cons v_bl (a_cons v_str a_nil)))))))) (w_name rfl rfl) (s_if (t_test (v_op (v_new (n_comp (vs := [5]) rfl (i_rng1 (a_cons v_int a_nil)) (w_name rfl rfl) t_yes (v_call (cnt_cons (cnt_cons (cnt_cons cnt_nil))) (a_cons (v_var rfl) (a_cons (v_var rfl) (a_cons v_non a_nil)))))) (v_op (v_lst (a_cons v_str a_nil)) v_int))) (s_ret v_bl) s_next)) (s_seq (s_asg (vs := [3]) (v_tup (a_cons (v_lst (a_cons v_int (a_cons v_int a_nil))) (a_cons (v_call (cnt_cons (cnt_cons cnt_nil)) (a_cons (v_var rfl) (a_cons v_int a_nil))) a_nil))) (w_name rfl rfl)) (s_seq (s_asg (vs := [4]) (v_lst (a_cons v_non (a_cons v_int (a_cons (v_tup a_nil) (a_cons (v_lst a_nil) (a_cons (v_lst (a_cons v_int a_nil)) (a_cons (v_lst (a_cons (v_tup a_nil) a_nil)) (a_cons (v_lst (a_cons (v_tup (a_cons (v_lst (a_cons v_int a_nil)) a_nil)) a_nil)) (a_cons (v_lst (a_cons (v_lst (a_cons (v_lst (a_cons v_int a_nil)) (a_cons v_int a_nil))) a_nil)) (a_cons (v_lst (a_cons (v_tup (a_cons (v_tup (a_cons v_int a_nil)) (a_cons v_int a_nil))) a_nil)) (a_cons (v_lst (a_cons (v_tup (a_cons (v_lst (a_cons v_int a_nil)) (a_cons v_int a_nil))) a_nil)) (a_cons (v_lst (a_cons (v_tup (a_cons (v_lst (a_cons v_int a_nil)) (a_cons v_int a_nil))) a_nil)) (a_cons (v_lst (a_cons (v_tup (a_cons (v_lst (a_cons v_int a_nil)) (a_cons (v_op v_int v_int) a_nil))) a_nil)) (a_cons (v_lst (a_cons (v_tup (a_cons (v_lst (a_cons v_int a_nil)) (a_cons v_bl a_nil))) a_nil)) (a_cons (v_lst (a_cons (v_tup (a_cons (v_lst (a_cons v_int a_nil)) (a_cons v_non a_nil))) a_nil)) (a_cons (v_lst (a_cons (v_tup (a_cons (v_op (v_lst (a_cons v_int a_nil)) v_int) (a_cons v_int a_nil))) a_nil)) (a_cons (v_lst (a_cons (v_var rfl) (a_cons v_int a_nil))) (a_cons (v_op (v_lst (a_cons (v_var rfl) a_nil)) v_int) (a_cons (v_tup (a_cons (v_var rfl) a_nil)) a_nil))))))))))))))))))) (w_name rfl rfl)) (s_seq (s_for (vs := [2]) (i_list (v_var rfl)) (w_name rfl rfl) (s_if (t_test (v_op (v_new (n_comp (vs := [5]) rfl (i_tup (v_tup (a_cons v_int (a_cons v_int (a_cons v_int a_nil))))) (w_name rfl rfl) t_yes (v_call (cnt_cons (cnt_cons (cnt_cons cnt_nil))) (a_cons (v_var rfl) (a_cons v_int (a_cons (v_var rfl) a_nil)))))) (v_op (v_lst (a_cons v_str a_nil)) v_int))) (s_ret v_bl) s_next)) (s_seq (s_if (t_or (t_test (v_op (v_new (n_comp (vs := [5]) rfl (i_tup (v_tup (a_cons v_int (a_cons v_int (a_cons v_int a_nil))))) (w_name rfl rfl) t_yes (v_call (cnt_cons (cnt_cons (cnt_cons cnt_nil))) (a_cons (v_var rfl) (a_cons v_int (a_cons (v_op (v_lst (a_cons (v_var rfl) a_nil)) v_int) a_nil)))))) (v_op (v_lst (a_cons v_str a_nil)) v_int))) (t_test (v_op (v_new (n_comp (vs := [5]) rfl (i_tup (v_tup (a_cons v_int (a_cons v_int a_nil)))) (w_name rfl rfl) t_yes (v_call (cnt_cons (cnt_cons (cnt_cons cnt_nil))) (a_cons (v_var rfl) (a_cons v_int (a_cons (v_lst (a_cons (v_tup (a_cons (v_op (v_lst (a_cons v_int a_nil)) v_int) (a_cons v_int a_nil))) a_nil)) a_nil)))))) (v_op (v_lst (a_cons v_str a_nil)) v_int)))) (s_ret v_bl) s_next) (s_seq (s_for (vs := [2]) (i_list (v_lst (a_cons v_non (a_cons v_int (a_cons v_int (a_cons v_bl (a_cons v_str a_nil))))))) (w_name rfl rfl) (s_if (t_test (v_op (v_call (cnt_cons (cnt_cons (cnt_cons cnt_nil))) (a_cons v_int (a_cons v_int (a_cons (v_var rfl) a_nil)))) v_str)) (s_ret v_bl) s_next)) (s_seq (s_if (t_or (t_test (v_op (v_call (cnt_cons (cnt_cons (cnt_cons cnt_nil))) (a_cons v_int (a_cons v_int (a_cons v_int a_nil)))) v_str)) (t_test (v_op (v_call (cnt_cons cnt_nil) (a_cons (v_lst a_nil) a_nil)) v_str))) (s_ret v_bl) s_next) (s_ret (v_call cnt_nil a_nil))))))))) : EwS cl E [] [] [] _ b_law).1⟩) hm
end
end CR

namespace CR
open PySem PySem.Spec PyProof.Rows L2 DL
def four (p : Nat → Prop) (h0 : p 0) (h1 : p 1) (h2 : p 2) (h3 : p 3) : ∀ v, v < 4 → p v := fun v hv => by
  obtain h | h | h | h : v = 0 ∨ v = 1 ∨ v = 2 ∨ v = 3 := by omega
  all_goals (subst h; assumption)
theorem bind_okr {α β : Type} {x : DM α} {f : α → DM β} {s s' : DSt} {a : α} {r : Rs β} (h : x s = .ok a s') (h2 : f a s' = r) : (x >>= f) s = r := by rw [bind_def, h]; exact h2
theorem seq_k {g g2 : DL.Env → DM Fl} {ρ ρ' : DL.Env} {s s1 : DSt} {r : Rs Fl} (h : g ρ s = .ok (.nx ρ') s1) (h2 : g2 ρ' s1 = r) : seqG g g2 ρ s = r := bind_okr h h2
theorem keep (s : DSt) (n : Int) : (drawS s n).rc = s.rc ∧ (drawS s n).rn = s.rn ∧ (drawS s n).rr = s.rr := by
  unfold drawS
  split <;> exact ⟨rfl, rfl, rfl⟩
theorem noEr_ok {α : Type} {x : DM α} {s s' : DSt} {a : α} (h : x s = .ok a s') : noEr x s = .ok a s' := by unfold noEr; rw [h]
theorem comp_ok {f : D → DL.Env → Option DL.Env} {e : DL.Env → DM D} {ρ : DL.Env} {s : DSt} (F : D → D) : ∀ (its : List D), (∀ d ∈ its, ∃ ρ1, f d ρ = some ρ1 ∧ e ρ1 s = .ok (F d) s) → compD f gYes e ρ its s = .ok (its.map F) s
  | [], _ => rfl
  | d :: its, h => by
    obtain ⟨ρ1, e1, e2⟩ := h d List.mem_cons_self
    have ih := comp_ok F its fun d hd => h d (List.mem_cons_of_mem _ hd)
    show (liftO (f d ρ) >>= fun ρ1 => noEr (gYes ρ1) >>= fun k => if k = true then noEr (e ρ1) >>= fun y => compD f gYes e ρ its >>= fun ys => pure (y :: ys) else compD f gYes e ρ its) s = _
    rw [e1]
    show (noEr (e ρ1) >>= fun y => compD f gYes e ρ its >>= fun ys => pure (y :: ys)) s = _
    exact bind_okr (noEr_ok e2) (bind_okr ih rfl)
theorem call_k {f : List D → DM D} {gl : DL.Env → DM (List D)} {ρ : DL.Env} {ds : List D} {s s1 : DSt} {d : D} (h : gl ρ s = .ok ds s) (h2 : f ds s = .ok d s1) : gCall f gl ρ s = .ok d s1 := bind_okr h h2
theorem op_k {f : D → D → Option D} {ga gb : DL.Env → DM D} {ρ : DL.Env} {s : DSt} {x y z : D} (h1 : ga ρ s = .ok x s) (h2 : gb ρ s = .ok y s) (h3 : f x y = some z) : gOp f ga gb ρ s = .ok z s := bind_okr h1 (bind_okr h2 (by rw [h3]; rfl))
theorem t_k {ga : DL.Env → DM D} {ρ : DL.Env} {s : DSt} {k : Bool} (h : ga ρ s = .ok (.bl k) s) : gT ga ρ s = .ok k s := bind_okr h rfl
theorem or_k {gt gu : DL.Env → DM Bool} {ρ : DL.Env} {s : DSt} {k : Bool} (h : gt ρ s = .ok false s) (h2 : gu ρ s = .ok k s) : gOr gt gu ρ s = .ok k s := bind_okr h h2
theorem if_k {gt : DL.Env → DM Bool} {ga gb : DL.Env → DM Fl} {ρ : DL.Env} {s : DSt} {r : Rs Fl} (h : gt ρ s = .ok false s) (h2 : gb ρ s = r) : gIf gt ga gb ρ s = r := bind_okr h h2
theorem L_k {g : DL.Env → DM (List D)} {ρ : DL.Env} {s : DSt} {ds : List D} (h : g ρ s = .ok ds s) : gL g ρ s = .ok (.lst ds) s := bind_okr h rfl
theorem comp_k {vs : List Nat} {gi : DL.Env → DM (List D)} {f : D → DL.Env → Option DL.Env} {c : DL.Env → DM Bool} {e : DL.Env → DM D} {ρ ρw : DL.Env} {s : DSt} {its ys : List D} (hi : gi ρ s = .ok its s) (hl : its.length ≤ LIM) (hw : wipeE ρ vs = ρw) (hc : compD f c e ρw its s = .ok ys s) : gComp vs gi f c e ρ s = .ok ys s := by
  subst hw
  exact bind_okr hi (bind_okr (a := its) (by unfold lenOk; rw [if_pos hl]; rfl) hc)
theorem cons_k {ga : DL.Env → DM D} {gl : DL.Env → DM (List D)} {ρ : DL.Env} {s : DSt} {x : D} {xs : List D} (h : ga ρ s = .ok x s) (h2 : gl ρ s = .ok xs s) : DL.gCons ga gl ρ s = .ok (x :: xs) s := bind_okr h (bind_okr h2 rfl)
theorem tup_k {gl : DL.Env → DM (List D)} {ρ : DL.Env} {s : DSt} {xs : List D} (h : gl ρ s = .ok xs s) (hl : xs.length ≤ LIM) : DL.gTup gl ρ s = .ok (.tup xs) s := bind_okr h (bind_okr (a := xs) (by unfold lenOk; rw [if_pos hl]; rfl) rfl)
theorem asg_k {i : Nat} {ge : DL.Env → DM D} {ρ ρ' : DL.Env} {s : DSt} {d : D} (h : ge ρ s = .ok d s) (h2 : setE i d ρ = some ρ') : hAsg ge (setE i) ρ s = .ok (.nx ρ') s := bind_okr h (by rw [h2]; rfl)
def good (v : Nat) : D := .tup [.lst [.int 1, .int 0], .int (v : Int)]
def smp (l : List D) (x : D) : D := .lst [.tup [.lst l, x]]
def odd (v : Nat) : D := .lst [.non, .int 5, .tup [], .lst [], .lst [.int 5], .lst [.tup []], .lst [.tup [.lst [.int 1]]], .lst [.lst [.lst [.int 1], .int 0]], .lst [.tup [.tup [.int 1], .int 0]], smp [.int 2] (.int 0), smp [.int 1] (.int 4), smp [.int 1] (.int (-1)),
  smp [.int 1] (.bl true), smp [.int 1] .non, smp (List.replicate 65 (.int 0)) (.int 0), .lst [good v, .int 5], .lst (List.replicate 9 (good v)), .tup [good v]]
def lA4 : DL.Env → DM Bool :=
    (gT (gOp D.ne (gL (gComp [5] (gIt itemsT (DL.gTup (DL.gCons (gC (.int 0)) (DL.gCons (gC (.int 1)) (DL.gCons (gC (.int 3)) DL.gNil))))) (setE 5) gYes (gCall m__law_asked (DL.gCons (getE 5) (DL.gCons (gC (.int 2)) (DL.gCons (gOp D.mul (DL.gLst (DL.gCons (getE 3) DL.gNil)) (gC (.int 8))) DL.gNil)))))) (gOp D.mul (DL.gLst (DL.gCons (gC (.str "done")) DL.gNil)) (gC (.int 3)))))
def lB4 : DL.Env → DM Bool :=
    (gT (gOp D.ne (gL (gComp [5] (gIt itemsT (DL.gTup (DL.gCons (gC (.int 0)) (DL.gCons (gC (.int 1)) DL.gNil)))) (setE 5) gYes (gCall m__law_asked (DL.gCons (getE 5) (DL.gCons (gC (.int 5)) (DL.gCons (DL.gLst (DL.gCons (DL.gTup (DL.gCons (gOp D.mul (DL.gLst (DL.gCons (gC (.int 0)) DL.gNil)) (gC (.int 64))) (DL.gCons (gC (.int 31)) DL.gNil))) DL.gNil)) DL.gNil)))))) (gOp D.mul (DL.gLst (DL.gCons (gC (.str "done")) DL.gNil)) (gC (.int 2)))))
def lS0 : DL.Env → DM Fl :=
    (hFor (gIt itemsL (DL.gLst (DL.gCons (gC .non) (DL.gCons (gC (.int 0)) (DL.gCons (gC (.int 6)) (DL.gCons (gOp D.sub (gC (.int 0)) (gC (.int 1))) (DL.gCons (gC (.bl true)) (DL.gCons (gC (.str "2")) DL.gNil)))))))) (setE 2)
    (gIf (gT (gOp D.ne (gL (gComp [5] (gIt rng1 (DL.gCons (gC (.int 3)) DL.gNil)) (setE 5) gYes (gCall m__law_asked (DL.gCons (getE 5) (DL.gCons (getE 2) (DL.gCons (gC .non) DL.gNil)))))) (gOp D.mul (DL.gLst (DL.gCons (gC (.str "number")) DL.gNil)) (gC (.int 3)))))
    (hRet (gC (.bl false)))
    hNx))
def lS1 : DL.Env → DM Fl :=
    (hAsg (DL.gTup (DL.gCons (DL.gLst (DL.gCons (gC (.int 1)) (DL.gCons (gC (.int 0)) DL.gNil))) (DL.gCons (gCall m__law_draw (DL.gCons (getE 1) (DL.gCons (gC (.int 4)) DL.gNil))) DL.gNil))) (setE 3))
def lS2 : DL.Env → DM Fl :=
    (hAsg (DL.gLst (DL.gCons (gC .non) (DL.gCons (gC (.int 5)) (DL.gCons (DL.gTup DL.gNil) (DL.gCons (DL.gLst DL.gNil) (DL.gCons (DL.gLst (DL.gCons (gC (.int 5)) DL.gNil)) (DL.gCons (DL.gLst (DL.gCons (DL.gTup DL.gNil) DL.gNil)) (DL.gCons (DL.gLst (DL.gCons (DL.gTup (DL.gCons (DL.gLst (DL.gCons (gC (.int 1)) DL.gNil)) DL.gNil)) DL.gNil)) (DL.gCons (DL.gLst (DL.gCons (DL.gLst (DL.gCons (DL.gLst (DL.gCons (gC (.int 1)) DL.gNil)) (DL.gCons (gC (.int 0)) DL.gNil))) DL.gNil)) (DL.gCons (DL.gLst (DL.gCons (DL.gTup (DL.gCons (DL.gTup (DL.gCons (gC (.int 1)) DL.gNil)) (DL.gCons (gC (.int 0)) DL.gNil))) DL.gNil)) (DL.gCons (DL.gLst (DL.gCons (DL.gTup (DL.gCons (DL.gLst (DL.gCons (gC (.int 2)) DL.gNil)) (DL.gCons (gC (.int 0)) DL.gNil))) DL.gNil)) (DL.gCons (DL.gLst (DL.gCons (DL.gTup (DL.gCons (DL.gLst (DL.gCons (gC (.int 1)) DL.gNil)) (DL.gCons (gC (.int 4)) DL.gNil))) DL.gNil)) (DL.gCons (DL.gLst (DL.gCons (DL.gTup (DL.gCons (DL.gLst (DL.gCons (gC (.int 1)) DL.gNil)) (DL.gCons (gOp D.sub (gC (.int 0)) (gC (.int 1))) DL.gNil))) DL.gNil)) (DL.gCons (DL.gLst (DL.gCons (DL.gTup (DL.gCons (DL.gLst (DL.gCons (gC (.int 1)) DL.gNil)) (DL.gCons (gC (.bl true)) DL.gNil))) DL.gNil)) (DL.gCons (DL.gLst (DL.gCons (DL.gTup (DL.gCons (DL.gLst (DL.gCons (gC (.int 1)) DL.gNil)) (DL.gCons (gC .non) DL.gNil))) DL.gNil)) (DL.gCons (DL.gLst (DL.gCons (DL.gTup (DL.gCons (gOp D.mul (DL.gLst (DL.gCons (gC (.int 0)) DL.gNil)) (gC (.int 65))) (DL.gCons (gC (.int 0)) DL.gNil))) DL.gNil)) (DL.gCons (DL.gLst (DL.gCons (getE 3) (DL.gCons (gC (.int 5)) DL.gNil))) (DL.gCons (gOp D.mul (DL.gLst (DL.gCons (getE 3) DL.gNil)) (gC (.int 9))) (DL.gCons (DL.gTup (DL.gCons (getE 3) DL.gNil)) DL.gNil))))))))))))))))))) (setE 4))
def lS3 : DL.Env → DM Fl :=
    (hFor (gIt itemsL (getE 4)) (setE 2)
    (gIf (gT (gOp D.ne (gL (gComp [5] (gIt itemsT (DL.gTup (DL.gCons (gC (.int 0)) (DL.gCons (gC (.int 1)) (DL.gCons (gC (.int 3)) DL.gNil))))) (setE 5) gYes (gCall m__law_asked (DL.gCons (getE 5) (DL.gCons (gC (.int 2)) (DL.gCons (getE 2) DL.gNil)))))) (gOp D.mul (DL.gLst (DL.gCons (gC (.str "samples")) DL.gNil)) (gC (.int 3)))))
    (hRet (gC (.bl false)))
    hNx))
def lS4 : DL.Env → DM Fl :=
    (gIf (gOr lA4 lB4) (hRet (gC (.bl false))) hNx)
def lS5 : DL.Env → DM Fl :=
    (hFor (gIt itemsL (DL.gLst (DL.gCons (gC .non) (DL.gCons (gC (.int 0)) (DL.gCons (gC (.int 21)) (DL.gCons (gC (.bl true)) (DL.gCons (gC (.str "3")) DL.gNil))))))) (setE 2)
    (gIf (gT (gOp D.ne (gCall m__law_asked (DL.gCons (gC (.int 2)) (DL.gCons (gC (.int 2)) (DL.gCons (getE 2) DL.gNil)))) (gC (.str "number"))))
    (hRet (gC (.bl false)))
    hNx))
def lS6 : DL.Env → DM Fl :=
    (gIf (gOr (gT (gOp D.ne (gCall m__law_asked (DL.gCons (gC (.int 2)) (DL.gCons (gC (.int 3)) (DL.gCons (gC (.int 20)) DL.gNil)))) (gC (.str "done")))) (gT (gOp D.ne (gCall m_format_bits (DL.gCons (DL.gLst DL.gNil) DL.gNil)) (gC (.str "")))))
    (hRet (gC (.bl false)))
    hNx)
def lS7 : DL.Env → DM Fl :=
    (hRet (gCall m__law_register_calls DL.gNil))
theorem lP0 (s : DSt) : lS0 [none, some (.hd 0), none, none, none, none] s = .ok (.nx [none, some (.hd 0), some (.str "2"), none, none, none]) s := by kernel_rfl
theorem lP2 : ∀ v, v < 4 → ∀ s : DSt, lS2 [none, some (.hd 0), some (.str "2"), some (good v), none, none] s = .ok (.nx [none, some (.hd 0), some (.str "2"), some (good v), some (odd v), none]) s := four _ (fun s => by kernel_rfl) (fun s => by kernel_rfl) (fun s => by kernel_rfl) (fun s => by kernel_rfl)
theorem lP3 : ∀ v, v < 4 → ∀ s : DSt, lS3 [none, some (.hd 0), some (.str "2"), some (good v), some (odd v), none] s = .ok (.nx [none, some (.hd 0), some (.tup [good v]), some (good v), some (odd v), none]) s := four _ (fun s => by kernel_rfl) (fun s => by kernel_rfl) (fun s => by kernel_rfl) (fun s => by kernel_rfl)
theorem lPA : ∀ v, v < 4 → ∀ s : DSt, lA4 [none, some (.hd 0), some (.tup [good v]), some (good v), some (odd v), none] s = .ok false s := four _ (fun s => by kernel_rfl) (fun s => by kernel_rfl) (fun s => by kernel_rfl) (fun s => by kernel_rfl)
def big : D := .lst [.tup [.lst (List.replicate 64 (.int 0)), .int 31]]
theorem bigA (s : DSt) : m__law_asked [.int 0, .int 5, big] s = .ok (.str "done") s := by kernel_rfl
theorem bigB (s : DSt) : m__law_asked [.int 1, .int 5, big] s = .ok (.str "done") s := by kernel_rfl
section
theorem lPB (t2 t3 t4 : Option D) (s : DSt) : lB4 [none, some (.hd 0), t2, t3, t4, none] s = .ok false s := by
  have arg (k : D) (s : DSt) : (DL.gCons (getE 5) (DL.gCons (gC (.int 5)) (DL.gCons (DL.gLst (DL.gCons (DL.gTup (DL.gCons (gOp D.mul (DL.gLst (DL.gCons (gC (.int 0)) DL.gNil)) (gC (.int 64))) (DL.gCons (gC (.int 31)) DL.gNil))) DL.gNil)) DL.gNil))) [none, some (.hd 0), t2, t3, t4, some k] s = .ok [k, .int 5, big] s := by kernel_rfl
  have e0 : (gCall m__law_asked (DL.gCons (getE 5) (DL.gCons (gC (.int 5)) (DL.gCons (DL.gLst (DL.gCons (DL.gTup (DL.gCons (gOp D.mul (DL.gLst (DL.gCons (gC (.int 0)) DL.gNil)) (gC (.int 64))) (DL.gCons (gC (.int 31)) DL.gNil))) DL.gNil)) DL.gNil)))) [none, some (.hd 0), t2, t3, t4, some (.int 0)] s = .ok (.str "done") s := call_k (arg _ s) (bigA s)
  have e1 : (gCall m__law_asked (DL.gCons (getE 5) (DL.gCons (gC (.int 5)) (DL.gCons (DL.gLst (DL.gCons (DL.gTup (DL.gCons (gOp D.mul (DL.gLst (DL.gCons (gC (.int 0)) DL.gNil)) (gC (.int 64))) (DL.gCons (gC (.int 31)) DL.gNil))) DL.gNil)) DL.gNil)))) [none, some (.hd 0), t2, t3, t4, some (.int 1)] s = .ok (.str "done") s := call_k (arg _ s) (bigB s)
  have c1 := comp_ok (f := setE 5) (e := (gCall m__law_asked (DL.gCons (getE 5) (DL.gCons (gC (.int 5)) (DL.gCons (DL.gLst (DL.gCons (DL.gTup (DL.gCons (gOp D.mul (DL.gLst (DL.gCons (gC (.int 0)) DL.gNil)) (gC (.int 64))) (DL.gCons (gC (.int 31)) DL.gNil))) DL.gNil)) DL.gNil))))) (ρ := [none, some (.hd 0), t2, t3, t4, none]) (s := s) (fun _ => .str "done") [.int 0, .int 1] (fun d hd => by
    rcases List.mem_cons.mp hd with rfl | hd
    · exact ⟨_, rfl, e0⟩
    · rw [List.mem_singleton.mp hd]
      exact ⟨_, rfl, e1⟩)
  have c2 : (gL (gComp [5] (gIt itemsT (DL.gTup (DL.gCons (gC (.int 0)) (DL.gCons (gC (.int 1)) DL.gNil)))) (setE 5) gYes (gCall m__law_asked (DL.gCons (getE 5) (DL.gCons (gC (.int 5)) (DL.gCons (DL.gLst (DL.gCons (DL.gTup (DL.gCons (gOp D.mul (DL.gLst (DL.gCons (gC (.int 0)) DL.gNil)) (gC (.int 64))) (DL.gCons (gC (.int 31)) DL.gNil))) DL.gNil)) DL.gNil)))))) [none, some (.hd 0), t2, t3, t4, none] s = .ok (.lst [.str "done", .str "done"]) s := L_k (comp_k (its := [.int 0, .int 1]) (by kernel_rfl) (by decide) rfl c1)
  have c3 : (gOp D.mul (DL.gLst (DL.gCons (gC (.str "done")) DL.gNil)) (gC (.int 2))) [none, some (.hd 0), t2, t3, t4, none] s = .ok (.lst [.str "done", .str "done"]) s := by kernel_rfl
  have c4 : D.ne (.lst [.str "done", .str "done"]) (.lst [.str "done", .str "done"]) = some (.bl false) := by kernel_rfl
  exact t_k (op_k c2 c3 c4)
end
theorem lP4 (v : Nat) (hv : v < 4) (s : DSt) : lS4 [none, some (.hd 0), some (.tup [good v]), some (good v), some (odd v), none] s = .ok (.nx [none, some (.hd 0), some (.tup [good v]), some (good v), some (odd v), none]) s := if_k (or_k (lPA v hv s) (lPB _ _ _ s)) rfl
theorem lP5 (v : Nat) (hv : v < 4) (s : DSt) : lS5 [none, some (.hd 0), some (.tup [good v]), some (good v), some (odd v), none] s = .ok (.nx [none, some (.hd 0), some (.str "3"), some (good v), some (odd v), none]) s := by
  have g (t2 t3 t4 : Option D) : lS5 [none, some (.hd 0), t2, t3, t4, none] s = .ok (.nx [none, some (.hd 0), some (.str "3"), t3, t4, none]) s := by kernel_rfl
  exact g _ _ _
def tS0 : DL.Env → DM Fl :=
    (gIf (gNot (gT (gCall m_is_int (DL.gCons (getE 0) (DL.gCons (gC (.int 1)) (DL.gCons (gC (.int 5)) DL.gNil))))))
    (hRaise .num)
    hNx)
def tS1 : DL.Env → DM Fl :=
    (hDrop (gCall m_check_length (DL.gCons (getE 1) (DL.gCons (gOp D.fdiv (gC (.int 40)) (gC (.int 2))) DL.gNil))))
def tS2 : DL.Env → DM Fl :=
    (hAsg (gL (gComp [4] (gIt rng3 (DL.gCons (gC (.int 1)) (DL.gCons (gCall m_power (DL.gCons (getE 0) DL.gNil)) (DL.gCons (gC (.int 2)) DL.gNil)))) (setE 4) gYes (DL.gTup (DL.gCons (gCall m_distance_of (DL.gCons (DL.gTup (DL.gCons (getE 0) (DL.gCons (getE 4) (DL.gCons (gC (.int 0)) (DL.gCons (gC (.int 0)) DL.gNil))))) (DL.gCons (getE 1) DL.gNil))) (DL.gCons (getE 4) DL.gNil))))) (setE 2))
def tS3 : DL.Env → DM Fl :=
    (gIf (gT (gCB D.any (DL.gCons (gL (gComp [5, 4] (gIt itemsL (getE 2)) (bindTup 2 (bindCons (setE 5) (bindCons (setE 4) bindNil))) gYes (gOp D.is (getE 5) (gC .non)))) DL.gNil)))
    (hRet (DL.gTup (DL.gCons (gC .non) (DL.gCons (gL (gComp [5, 4] (gIt itemsL (getE 2)) (bindTup 2 (bindCons (setE 5) (bindCons (setE 4) bindNil))) (gT (gOp D.is (getE 5) (gC .non))) (getE 4))) DL.gNil))))
    hNx)
def tS4 : DL.Env → DM Fl :=
    (hAsg (gCB D.max (DL.gCons (gL (gComp [5, 4] (gIt itemsL (getE 2)) (bindTup 2 (bindCons (setE 5) (bindCons (setE 4) bindNil))) gYes (getE 5))) DL.gNil)) (setE 3))
def tS5 : DL.Env → DM Fl :=
    (hRet (DL.gTup (DL.gCons (getE 3) (DL.gCons (gL (gComp [5, 4] (gIt itemsL (getE 2)) (bindTup 2 (bindCons (setE 5) (bindCons (setE 4) bindNil))) (gT (gOp D.eq (getE 5) (getE 3))) (getE 4))) DL.gNil))))
theorem dist1 (s : DSt) : m_distance_of [.tup [.int 3, .int 1, .int 0, .int 0], .int 20] s = .ok (.int 2) s := by kernel_rfl
theorem dist3 (s : DSt) : m_distance_of [.tup [.int 3, .int 3, .int 0, .int 0], .int 20] s = .ok (.int 2) s := by kernel_rfl
theorem dist5 (s : DSt) : m_distance_of [.tup [.int 3, .int 5, .int 0, .int 0], .int 20] s = .ok (.int 2) s := by kernel_rfl
theorem dist7 (s : DSt) : m_distance_of [.tup [.int 3, .int 7, .int 0, .int 0], .int 20] s = .ok (.int 2) s := by kernel_rfl
def rowsT : D := .lst [.tup [.int 2, .int 1], .tup [.int 2, .int 3], .tup [.int 2, .int 5], .tup [.int 2, .int 7]]
section
theorem strong_ok (s : DSt) : m_strongest [.int 3, .int 20] s = .ok (.tup [.int 2, .lst [.int 1, .int 3, .int 5, .int 7]]) s := by
  have arg (p : D) (s : DSt) : (DL.gCons (DL.gTup (DL.gCons (getE 0) (DL.gCons (getE 4) (DL.gCons (gC (.int 0)) (DL.gCons (gC (.int 0)) DL.gNil))))) (DL.gCons (getE 1) DL.gNil)) [some (.int 3), some (.int 20), none, none, some p, none] s = .ok [.tup [.int 3, p, .int 0, .int 0], .int 20] s := by kernel_rfl
  have each (p : D) (s : DSt) (h : m_distance_of [.tup [.int 3, p, .int 0, .int 0], .int 20] s = .ok (.int 2) s) : (DL.gTup (DL.gCons (gCall m_distance_of (DL.gCons (DL.gTup (DL.gCons (getE 0) (DL.gCons (getE 4) (DL.gCons (gC (.int 0)) (DL.gCons (gC (.int 0)) DL.gNil))))) (DL.gCons (getE 1) DL.gNil))) (DL.gCons (getE 4) DL.gNil))) [some (.int 3), some (.int 20), none, none, some p, none] s = .ok (.tup [.int 2, p]) s :=
    tup_k (cons_k (call_k (arg p s) h) (cons_k (x := p) (xs := []) rfl rfl)) (show 2 ≤ LIM by decide)
  have c1 := comp_ok (f := setE 4) (e := (DL.gTup (DL.gCons (gCall m_distance_of (DL.gCons (DL.gTup (DL.gCons (getE 0) (DL.gCons (getE 4) (DL.gCons (gC (.int 0)) (DL.gCons (gC (.int 0)) DL.gNil))))) (DL.gCons (getE 1) DL.gNil))) (DL.gCons (getE 4) DL.gNil)))) (ρ := [some (.int 3), some (.int 20), none, none, none, none]) (s := s) (fun d => .tup [.int 2, d]) [.int 1, .int 3, .int 5, .int 7] (fun d hd => by
    rcases List.mem_cons.mp hd with rfl | hd
    · exact ⟨_, rfl, each _ s (dist1 s)⟩
    rcases List.mem_cons.mp hd with rfl | hd
    · exact ⟨_, rfl, each _ s (dist3 s)⟩
    rcases List.mem_cons.mp hd with rfl | hd
    · exact ⟨_, rfl, each _ s (dist5 s)⟩
    · rw [List.mem_singleton.mp hd]
      exact ⟨_, rfl, each _ s (dist7 s)⟩)
  have i1 : (gIt rng3 (DL.gCons (gC (.int 1)) (DL.gCons (gCall m_power (DL.gCons (getE 0) DL.gNil)) (DL.gCons (gC (.int 2)) DL.gNil)))) [some (.int 3), some (.int 20), none, none, none, none] s = .ok [.int 1, .int 3, .int 5, .int 7] s := by kernel_rfl
  have c2 : tS2 [some (.int 3), some (.int 20), none, none, none, none] s = .ok (.nx [some (.int 3), some (.int 20), some rowsT, none, none, none]) s := asg_k (L_k (comp_k i1 (by decide) rfl c1)) rfl
  have r0 : tS0 [some (.int 3), some (.int 20), none, none, none, none] s = .ok (.nx [some (.int 3), some (.int 20), none, none, none, none]) s := by kernel_rfl
  have r1 : tS1 [some (.int 3), some (.int 20), none, none, none, none] s = .ok (.nx [some (.int 3), some (.int 20), none, none, none, none]) s := by kernel_rfl
  have r3 : seqG tS3 (seqG tS4 tS5) [some (.int 3), some (.int 20), some rowsT, none, none, none] s = .ok (.rt (.tup [.int 2, .lst [.int 1, .int 3, .int 5, .int 7]])) s := by kernel_rfl
  have e : m_strongest [.int 3, .int 20] = (seqG tS0 (seqG tS1 (seqG tS2 (seqG tS3 (seqG tS4 tS5)))) [some (.int 3), some (.int 20), none, none, none, none] >>= fun fl => match fl with | .rt d => pure d | .nx _ => pure .non | _ => stuck) := rfl
  rw [e]
  exact bind_okr (seq_k r0 (seq_k r1 (seq_k c2 r3))) rfl
end
theorem eqI (a b : Int) : D.eq (.int a) (.int b) = some (.bl (decide (a = b))) := by
  show some (D.bl (a == b)) = _
  by_cases h : a = b <;> simp [h]
theorem noEr_pure {α : Type} (a : α) : noEr (pure a : DM α) = pure a := rfl
theorem asked_strong : m__law_asked [.int 2, .int 3, .int 20] = pure (.str "done") := by
  have h : m_strongest [.int 3, .int 20] = pure (.tup [.int 2, .lst [.int 1, .int 3, .int 5, .int 7]]) := funext fun s => strong_ok s
  have hm : m__law_call [.int 2, .int 3, .int 20] = pure (.tup [.int 2, .lst [.int 1, .int 3, .int 5, .int 7]]) := by
    unfold m__law_call b__law_call
    simp only [runD, seqG, hAsg, hRet, hNx, gIf, gT, gOr, gAndV, gOp, gCall, gCallX, gIfX, gTryC, DL.gCons, DL.gNil, gC, getE, setE, liftO, toB, pure_bind, Option.bind, id_eq, List.map_cons, List.map_nil, List.length_cons, List.length_nil, List.replicate, List.cons_append, List.nil_append, List.getElem?_cons_zero, List.getElem?_cons_succ, List.set_cons_zero, List.set_cons_succ, Nat.reduceSub, Nat.reduceAdd, Nat.reduceLT, Nat.zero_add, ↓reduceIte, Bool.false_eq_true, eqI, Int.reduceEq, decide_true, decide_false, h]
  unfold m__law_asked b__law_asked
  simp only [runD, seqG, hAsg, hRet, hNx, gIf, gT, gOr, gAndV, gOp, gCall, gCallX, gIfX, gTryC, DL.gCons, DL.gNil, gC, getE, setE, liftO, toB, pure_bind, Option.bind, id_eq, List.map_cons, List.map_nil, List.length_cons, List.length_nil, List.replicate, List.cons_append, List.nil_append, List.getElem?_cons_zero, List.getElem?_cons_succ, List.set_cons_zero, List.set_cons_succ, Nat.reduceSub, Nat.reduceAdd, Nat.reduceLT, Nat.zero_add, ↓reduceIte, Bool.false_eq_true, eqI, Int.reduceEq, decide_true, decide_false, noEr_pure, hm]
  rfl
theorem lP6 (v : Nat) (hv : v < 4) (s : DSt) : lS6 [none, some (.hd 0), some (.str "3"), some (good v), some (odd v), none] s = .ok (.nx [none, some (.hd 0), some (.str "3"), some (good v), some (odd v), none]) s := by
  have g (t2 t3 t4 : Option D) : lS6 [none, some (.hd 0), t2, t3, t4, none] s = .ok (.nx [none, some (.hd 0), t2, t3, t4, none]) s := by
    have a1 : (gCall m__law_asked (DL.gCons (gC (.int 2)) (DL.gCons (gC (.int 3)) (DL.gCons (gC (.int 20)) DL.gNil)))) [none, some (.hd 0), t2, t3, t4, none] s = .ok (.str "done") s := call_k (ds := [.int 2, .int 3, .int 20]) (by kernel_rfl) (by rw [asked_strong]; rfl)
    have a2 : D.ne (.str "done") (.str "done") = some (.bl false) := by kernel_rfl
    have a3 : (gT (gOp D.ne (gCall m__law_asked (DL.gCons (gC (.int 2)) (DL.gCons (gC (.int 3)) (DL.gCons (gC (.int 20)) DL.gNil)))) (gC (.str "done")))) [none, some (.hd 0), t2, t3, t4, none] s = .ok false s := t_k (op_k a1 (y := .str "done") rfl a2)
    have a4 : (gT (gOp D.ne (gCall m_format_bits (DL.gCons (DL.gLst DL.gNil) DL.gNil)) (gC (.str "")))) [none, some (.hd 0), t2, t3, t4, none] s = .ok false s := by kernel_rfl
    exact if_k (or_k a3 a4) rfl
  exact g _ _ _
theorem regs_ok (nums : List Int) (ct : Int) : m__law_register_calls [] ⟨nums, ct, [], 0, []⟩ = .ok (.bl true) ⟨nums, ct, [], 0, []⟩ := by kernel_rfl
theorem math : ∀ ns : List Int, ns.length ≤ 63 → ∃ s', b_law ((List.replicate 6 none).set 1 (some (.hd 0))) (st0 ns) = .ok (.rt (.bl true)) s' := by
  intro ns hns
  have n0 : (st0 ns).nums ≠ [] := nz_ne ns
  have r0 : (st0 ns).rc = [] ∧ (st0 ns).rn = 0 ∧ (st0 ns).rr = [] := ⟨rfl, rfl, rfl⟩
  generalize st0 ns = s0 at n0 r0
  have ed : m__law_draw [.hd 0, .int 4] s0 = .ok (.int (drawV s0 4)) (drawS s0 4) := by rw [draw_eq, if_pos ⟨by decide, by decide, n0⟩]
  have d0 : 0 ≤ drawV s0 4 := Int.emod_nonneg _ (by decide)
  have d1 : drawV s0 4 < 4 := Int.emod_lt_of_pos _ (by decide)
  obtain ⟨v, hv⟩ : ∃ v : Nat, drawV s0 4 = (v : Int) := ⟨(drawV s0 4).toNat, by omega⟩
  rw [hv] at ed d1
  have hv4 : v < 4 := by omega
  obtain ⟨nums, ct, hs⟩ : ∃ nums ct, drawS s0 4 = ⟨nums, ct, [], 0, []⟩ := by
    have q := keep s0 4
    rcases e : drawS s0 4 with ⟨nums, ct, rc, rn, rr⟩
    rw [e] at q
    obtain ⟨q1, q2, q3⟩ := q
    obtain ⟨r1, r2, r3⟩ := r0
    refine ⟨nums, ct, ?_⟩
    simp only at q1 q2 q3
    rw [q1, q2, q3, r1, r2, r3]
  have e : b_law = seqG lS0 (seqG lS1 (seqG lS2 (seqG lS3 (seqG lS4 (seqG lS5 (seqG lS6 lS7)))))) := rfl
  rw [e]
  refine ⟨⟨nums, ct, [], 0, []⟩, seq_k (lP0 s0) (seq_k (ρ' := [none, some (.hd 0), some (.str "2"), some (good v), none, none]) (s1 := drawS s0 4) ?_ (seq_k (lP2 v hv4 _) (seq_k (lP3 v hv4 _) (seq_k (lP4 v hv4 _) (seq_k (lP5 v hv4 _) (seq_k (lP6 v hv4 _) ?_))))))⟩
  · have e1 : gCall m__law_draw (DL.gCons (getE 1) (DL.gCons (gC (.int 4)) DL.gNil)) [none, some (.hd 0), some (.str "2"), none, none, none] s0 = .ok (.int (v : Int)) (drawS s0 4) := bind_okr (a := [.hd 0, .int 4]) rfl ed
    have e2 : DL.gCons (gCall m__law_draw (DL.gCons (getE 1) (DL.gCons (gC (.int 4)) DL.gNil))) DL.gNil [none, some (.hd 0), some (.str "2"), none, none, none] s0 = .ok [.int (v : Int)] (drawS s0 4) := bind_okr e1 rfl
    have e3 : DL.gCons (DL.gLst (DL.gCons (gC (.int 1)) (DL.gCons (gC (.int 0)) DL.gNil))) (DL.gCons (gCall m__law_draw (DL.gCons (getE 1) (DL.gCons (gC (.int 4)) DL.gNil))) DL.gNil) [none, some (.hd 0), some (.str "2"), none, none, none] s0 = .ok [.lst [.int 1, .int 0], .int (v : Int)] (drawS s0 4) := bind_okr (a := .lst [.int 1, .int 0]) rfl (bind_okr e2 rfl)
    have e4 : DL.gTup (DL.gCons (DL.gLst (DL.gCons (gC (.int 1)) (DL.gCons (gC (.int 0)) DL.gNil))) (DL.gCons (gCall m__law_draw (DL.gCons (getE 1) (DL.gCons (gC (.int 4)) DL.gNil))) DL.gNil)) [none, some (.hd 0), some (.str "2"), none, none, none] s0 = .ok (good v) (drawS s0 4) := bind_okr e3 rfl
    exact bind_okr e4 rfl
  · rw [hs]
    exact bind_okr (bind_okr (a := []) rfl (regs_ok nums ct)) rfl
end CR

open PySem PySem.W PyProof.Rows
set_option maxRecDepth 100000 in
set_option maxHeartbeats 0 in
theorem PySem.Challenge.cw_crcfinds_k19_more_errors_holds : PySem.Challenge.rw_crcfinds_k19_more_errors.Holds := by
  w_on; o_law; k_head; (case hw => w_witness2)
  k_fill
  refine L2.walk_of (l := PySem.Challenge.rw_crcfinds_k19_more_errors) (n := 63) (k := 11) (x := "script") (CX := fun w => L2.CX PySem.Challenge.rw_crcfinds_k19_more_errors.prog w) (sp := fun w => DL.spLaw _) rfl (by decide) rfl ⟨rfl, by decide, by decide⟩ (fun w h Y => PySem.W.kIn_of Y) ?F (fun _ _ a ns hl _ hS => ⟨a, ns, rfl, hS, hl, fun _ => rfl⟩) (fun w H s e s' h => DL.cx_none H s e s' h)
  case F =>
    intro w mg fa h KX G hmg
    have h_isinstance : mg "isinstance" = none := PySem.W.mg_none_of KX G (by k_is)
    have h_ValueError : mg "ValueError" = none := PySem.W.mg_none_of KX G (by k_is)
    have h_int : mg "int" = none := PySem.W.mg_none_of KX G (by k_is)
    have h_bool : mg "bool" = none := PySem.W.mg_none_of KX G (by k_is)
    have h_list : mg "list" = none := PySem.W.mg_none_of KX G (by k_is)
    have h_len : mg "len" = none := PySem.W.mg_none_of KX G (by k_is)
    refine' DL.andThen (DL.constI_mk (x := "MOST_BITS") (i := 64) KX G ?ca_MOST_BITS) ?cn_MOST_BITS
    case ca_MOST_BITS => k_is
    intro h_MOST_BITS
    have h_all : mg "all" = none := PySem.W.mg_none_of KX G (by k_is)
    have h_range : mg "range" = none := PySem.W.mg_none_of KX G (by k_is)
    have h_tuple : mg "tuple" = none := PySem.W.mg_none_of KX G (by k_is)
    refine' DL.andThen (DL.constI_mk (x := "MOST_SAMPLES") (i := 8) KX G ?ca_MOST_SAMPLES) ?cn_MOST_SAMPLES
    case ca_MOST_SAMPLES => k_is
    intro h_MOST_SAMPLES
    refine' DL.andThen (DL.constI_mk (x := "MOST_STEPS") (i := 80) KX G ?ca_MOST_STEPS) ?cn_MOST_STEPS
    case ca_MOST_STEPS => k_is
    intro h_MOST_STEPS
    refine' DL.andThen (DL.constI_mk (x := "MOST_SEARCH_samples") (i := 5) KX G ?ca_MOST_SEARCH_samples) ?cn_MOST_SEARCH_samples
    case ca_MOST_SEARCH_samples => k_is
    intro h_MOST_SEARCH_samples
    have h_dict : mg "dict" = none := PySem.W.mg_none_of KX G (by k_is)
    refine' DL.andThen (DL.constI_mk (x := "MOST_SEARCH_weights") (i := 5) KX G ?ca_MOST_SEARCH_weights) ?cn_MOST_SEARCH_weights
    case ca_MOST_SEARCH_weights => k_is
    intro h_MOST_SEARCH_weights
    refine' DL.andThen (DL.constI_mk (x := "MOST_LENGTH") (i := 40) KX G ?ca_MOST_LENGTH) ?cn_MOST_LENGTH
    case ca_MOST_LENGTH => k_is
    intro h_MOST_LENGTH
    have h_any : mg "any" = none := PySem.W.mg_none_of KX G (by k_is)
    have h_max : mg "max" = none := PySem.W.mg_none_of KX G (by k_is)
    refine' DL.andThen (DL.constI_mk (x := "MOST_WIDTH") (i := 8) KX G ?ca_MOST_WIDTH) ?cn_MOST_WIDTH
    case ca_MOST_WIDTH => k_is
    intro h_MOST_WIDTH
    have h_str : mg "str" = none := PySem.W.mg_none_of KX G (by k_is)
    refine' DL.andThen (DL.excAt_mk (x := "BadSamples") KX G ?ea_BadSamples ?ee_BadSamples ?ek_BadSamples ?eb_BadSamples ?et_BadSamples) ?en_BadSamples
    case ea_BadSamples => k_is
    case ee_BadSamples => k_exc
    case ek_BadSamples => k_is
    case eb_BadSamples => k_is
    case et_BadSamples => k_is
    intro x_BadSamples
    refine' DL.andThen (DL.excAt_mk (x := "BadNumber") KX G ?ea_BadNumber ?ee_BadNumber ?ek_BadNumber ?eb_BadNumber ?et_BadNumber) ?en_BadNumber
    case ea_BadNumber => k_is
    case ee_BadNumber => k_exc
    case ek_BadNumber => k_is
    case eb_BadNumber => k_is
    case et_BadNumber => k_is
    intro x_BadNumber
    refine' DL.andThen (DL.excAt_mk (x := "BadCheck") KX G ?ea_BadCheck ?ee_BadCheck ?ek_BadCheck ?eb_BadCheck ?et_BadCheck) ?en_BadCheck
    case ea_BadCheck => k_is
    case ee_BadCheck => k_exc
    case ek_BadCheck => k_is
    case eb_BadCheck => k_is
    case et_BadCheck => k_is
    intro x_BadCheck
    refine' DL.andThen (DL.excAt_mk (x := "BadBits") KX G ?ea_BadBits ?ee_BadBits ?ek_BadBits ?eb_BadBits ?et_BadBits) ?en_BadBits
    case ea_BadBits => k_is
    case ee_BadBits => k_exc
    case ek_BadBits => k_is
    case eb_BadBits => k_is
    case et_BadBits => k_is
    intro x_BadBits
    refine' DL.andThen (DL.excAt_mk (x := "NotFound") KX G ?ea_NotFound ?ee_NotFound ?ek_NotFound ?eb_NotFound ?et_NotFound) ?en_NotFound
    case ea_NotFound => k_is
    case ee_NotFound => k_exc
    case ek_NotFound => k_is
    case eb_NotFound => k_is
    case et_NotFound => k_is
    intro x_NotFound
    refine' DL.andThen (DL.excAt_mk (x := "BadPlaces") KX G ?ea_BadPlaces ?ee_BadPlaces ?ek_BadPlaces ?eb_BadPlaces ?et_BadPlaces) ?en_BadPlaces
    case ea_BadPlaces => k_is
    case ee_BadPlaces => k_exc
    case ek_BadPlaces => k_is
    case eb_BadPlaces => k_is
    case et_BadPlaces => k_is
    intro x_BadPlaces
    refine' DL.andThen (DL.excAt_mk (x := "BadText") KX G ?ea_BadText ?ee_BadText ?ek_BadText ?eb_BadText ?et_BadText) ?en_BadText
    case ea_BadText => k_is
    case ee_BadText => k_exc
    case ek_BadText => k_is
    case eb_BadText => k_is
    case et_BadText => k_is
    intro x_BadText
    refine' DL.andThen (DL.errC_mk KX G ?yc1 ?yc2 ?yc3 ?yc4 ?yc5 ?yc6) ?yc7
    case yc1 => k_is
    case yc2 => k_is
    case yc3 => k_is
    case yc4 => k_is
    case yc5 => k_is
    case yc6 => k_is
    intro y_C
    refine' DL.andThen (DL.errA_mk x_BadCheck y_C ?ya_BadCheck1 ?ya_BadCheck2 ?ya_BadCheck3 ?ya_BadCheck4 ?ya_BadCheck5 ?ya_BadCheck6 ?ya_BadCheck7 ?ya_BadCheck8) ?ya_BadCheck9
    case ya_BadCheck1 => k_is
    case ya_BadCheck2 => k_is
    case ya_BadCheck3 => k_is
    case ya_BadCheck4 => k_is
    case ya_BadCheck5 => k_is
    case ya_BadCheck6 => k_is
    case ya_BadCheck7 => k_is
    case ya_BadCheck8 => k_is
    intro a_BadCheck
    refine' DL.andThen (DL.errA_mk x_BadBits y_C ?ya_BadBits1 ?ya_BadBits2 ?ya_BadBits3 ?ya_BadBits4 ?ya_BadBits5 ?ya_BadBits6 ?ya_BadBits7 ?ya_BadBits8) ?ya_BadBits9
    case ya_BadBits1 => k_is
    case ya_BadBits2 => k_is
    case ya_BadBits3 => k_is
    case ya_BadBits4 => k_is
    case ya_BadBits5 => k_is
    case ya_BadBits6 => k_is
    case ya_BadBits7 => k_is
    case ya_BadBits8 => k_is
    intro a_BadBits
    refine' DL.andThen (DL.errA_mk x_BadNumber y_C ?ya_BadNumber1 ?ya_BadNumber2 ?ya_BadNumber3 ?ya_BadNumber4 ?ya_BadNumber5 ?ya_BadNumber6 ?ya_BadNumber7 ?ya_BadNumber8) ?ya_BadNumber9
    case ya_BadNumber1 => k_is
    case ya_BadNumber2 => k_is
    case ya_BadNumber3 => k_is
    case ya_BadNumber4 => k_is
    case ya_BadNumber5 => k_is
    case ya_BadNumber6 => k_is
    case ya_BadNumber7 => k_is
    case ya_BadNumber8 => k_is
    intro a_BadNumber
    refine' DL.andThen (DL.errA_mk x_BadSamples y_C ?ya_BadSamples1 ?ya_BadSamples2 ?ya_BadSamples3 ?ya_BadSamples4 ?ya_BadSamples5 ?ya_BadSamples6 ?ya_BadSamples7 ?ya_BadSamples8) ?ya_BadSamples9
    case ya_BadSamples1 => k_is
    case ya_BadSamples2 => k_is
    case ya_BadSamples3 => k_is
    case ya_BadSamples4 => k_is
    case ya_BadSamples5 => k_is
    case ya_BadSamples6 => k_is
    case ya_BadSamples7 => k_is
    case ya_BadSamples8 => k_is
    intro a_BadSamples
    refine' DL.andThen (DL.errA_mk x_BadPlaces y_C ?ya_BadPlaces1 ?ya_BadPlaces2 ?ya_BadPlaces3 ?ya_BadPlaces4 ?ya_BadPlaces5 ?ya_BadPlaces6 ?ya_BadPlaces7 ?ya_BadPlaces8) ?ya_BadPlaces9
    case ya_BadPlaces1 => k_is
    case ya_BadPlaces2 => k_is
    case ya_BadPlaces3 => k_is
    case ya_BadPlaces4 => k_is
    case ya_BadPlaces5 => k_is
    case ya_BadPlaces6 => k_is
    case ya_BadPlaces7 => k_is
    case ya_BadPlaces8 => k_is
    intro a_BadPlaces
    refine' DL.andThen (DL.errA_mk x_BadText y_C ?ya_BadText1 ?ya_BadText2 ?ya_BadText3 ?ya_BadText4 ?ya_BadText5 ?ya_BadText6 ?ya_BadText7 ?ya_BadText8) ?ya_BadText9
    case ya_BadText1 => k_is
    case ya_BadText2 => k_is
    case ya_BadText3 => k_is
    case ya_BadText4 => k_is
    case ya_BadText5 => k_is
    case ya_BadText6 => k_is
    case ya_BadText7 => k_is
    case ya_BadText8 => k_is
    intro a_BadText
    refine' DL.andThen (DL.errA_mk x_NotFound y_C ?ya_NotFound1 ?ya_NotFound2 ?ya_NotFound3 ?ya_NotFound4 ?ya_NotFound5 ?ya_NotFound6 ?ya_NotFound7 ?ya_NotFound8) ?ya_NotFound9
    case ya_NotFound1 => k_is
    case ya_NotFound2 => k_is
    case ya_NotFound3 => k_is
    case ya_NotFound4 => k_is
    case ya_NotFound5 => k_is
    case ya_NotFound6 => k_is
    case ya_NotFound7 => k_is
    case ya_NotFound8 => k_is
    intro a_NotFound
    refine' DL.andThen (DL.errS_mk x_BadCheck x_BadBits ?ys_011 ?ys_012) ?ys_013
    case ys_011 => k_is
    case ys_012 => k_is
    intro s_01
    refine' DL.andThen (DL.errS_mk x_BadCheck x_BadNumber ?ys_021 ?ys_022) ?ys_023
    case ys_021 => k_is
    case ys_022 => k_is
    intro s_02
    refine' DL.andThen (DL.errS_mk x_BadCheck x_BadSamples ?ys_031 ?ys_032) ?ys_033
    case ys_031 => k_is
    case ys_032 => k_is
    intro s_03
    refine' DL.andThen (DL.errS_mk x_BadCheck x_BadPlaces ?ys_041 ?ys_042) ?ys_043
    case ys_041 => k_is
    case ys_042 => k_is
    intro s_04
    refine' DL.andThen (DL.errS_mk x_BadCheck x_BadText ?ys_051 ?ys_052) ?ys_053
    case ys_051 => k_is
    case ys_052 => k_is
    intro s_05
    refine' DL.andThen (DL.errS_mk x_BadCheck x_NotFound ?ys_061 ?ys_062) ?ys_063
    case ys_061 => k_is
    case ys_062 => k_is
    intro s_06
    refine' DL.andThen (DL.errS_mk x_BadBits x_BadNumber ?ys_121 ?ys_122) ?ys_123
    case ys_121 => k_is
    case ys_122 => k_is
    intro s_12
    refine' DL.andThen (DL.errS_mk x_BadBits x_BadSamples ?ys_131 ?ys_132) ?ys_133
    case ys_131 => k_is
    case ys_132 => k_is
    intro s_13
    refine' DL.andThen (DL.errS_mk x_BadBits x_BadPlaces ?ys_141 ?ys_142) ?ys_143
    case ys_141 => k_is
    case ys_142 => k_is
    intro s_14
    refine' DL.andThen (DL.errS_mk x_BadBits x_BadText ?ys_151 ?ys_152) ?ys_153
    case ys_151 => k_is
    case ys_152 => k_is
    intro s_15
    refine' DL.andThen (DL.errS_mk x_BadBits x_NotFound ?ys_161 ?ys_162) ?ys_163
    case ys_161 => k_is
    case ys_162 => k_is
    intro s_16
    refine' DL.andThen (DL.errS_mk x_BadNumber x_BadSamples ?ys_231 ?ys_232) ?ys_233
    case ys_231 => k_is
    case ys_232 => k_is
    intro s_23
    refine' DL.andThen (DL.errS_mk x_BadNumber x_BadPlaces ?ys_241 ?ys_242) ?ys_243
    case ys_241 => k_is
    case ys_242 => k_is
    intro s_24
    refine' DL.andThen (DL.errS_mk x_BadNumber x_BadText ?ys_251 ?ys_252) ?ys_253
    case ys_251 => k_is
    case ys_252 => k_is
    intro s_25
    refine' DL.andThen (DL.errS_mk x_BadNumber x_NotFound ?ys_261 ?ys_262) ?ys_263
    case ys_261 => k_is
    case ys_262 => k_is
    intro s_26
    refine' DL.andThen (DL.errS_mk x_BadSamples x_BadPlaces ?ys_341 ?ys_342) ?ys_343
    case ys_341 => k_is
    case ys_342 => k_is
    intro s_34
    refine' DL.andThen (DL.errS_mk x_BadSamples x_BadText ?ys_351 ?ys_352) ?ys_353
    case ys_351 => k_is
    case ys_352 => k_is
    intro s_35
    refine' DL.andThen (DL.errS_mk x_BadSamples x_NotFound ?ys_361 ?ys_362) ?ys_363
    case ys_361 => k_is
    case ys_362 => k_is
    intro s_36
    refine' DL.andThen (DL.errS_mk x_BadPlaces x_BadText ?ys_451 ?ys_452) ?ys_453
    case ys_451 => k_is
    case ys_452 => k_is
    intro s_45
    refine' DL.andThen (DL.errS_mk x_BadPlaces x_NotFound ?ys_461 ?ys_462) ?ys_463
    case ys_461 => k_is
    case ys_462 => k_is
    intro s_46
    refine' DL.andThen (DL.errS_mk x_BadText x_NotFound ?ys_561 ?ys_562) ?ys_563
    case ys_561 => k_is
    case ys_562 => k_is
    intro s_56
    refine' DL.andThen (DL.clsAt_mk (x := "Register") (qi := "Register.__init__") (st := CR.s_Register_init__) (ps := ["self", "check"]) KX G ?da_Register_init__ ?dm_Register_init__ ?dn1_Register_init__ ?di_Register_init__ ?dj_Register_init__ ?dl_Register_init__ ?dc_Register_init__ ?dk_Register_init__ (fun _ _ _ _ _ _ us hl => match us, hl with | [_, _], _ => rfl)) ?dn_Register_init__
    case da_Register_init__ => k_is
    case dm_Register_init__ => k_is
    case dn1_Register_init__ => k_is
    case di_Register_init__ => k_is
    case dj_Register_init__ => k_is
    case dl_Register_init__ => k_is
    case dc_Register_init__ => k_is
    case dk_Register_init__ => k_is
    intro d_Register_init__
    refine' DL.andThen (DL.regT_mk d_Register_init__ ?rg1 ?rg2 ?rg3 ?rg4 ?rg5 ?rg6 ?rg7) ?rg8
    case rg1 => k_is
    case rg2 => k_is
    case rg3 => k_is
    case rg4 => k_is
    case rg5 => k_is
    case rg6 => k_is
    case rg7 => k_is
    intro T_reg0
    refine' DL.andThen (DL.defAt_mk (x := "_law_error") (st := CR.s__law_error) (ps := ["caught"]) KX G ?da__law_error ?dl__law_error ?dc__law_error ?dk__law_error (fun _ _ _ _ _ _ us hl => match us, hl with | [_], _ => rfl)) ?dn__law_error
    case da__law_error => k_is
    case dl__law_error => k_is
    case dc__law_error => k_is
    case dk__law_error => k_is
    intro d__law_error
    refine' DL.andThen (DL.defAt_mk (x := "is_int") (st := CR.s_is_int) (ps := ["value", "low", "high"]) KX G ?da_is_int ?dl_is_int ?dc_is_int ?dk_is_int (fun _ _ _ _ _ _ us hl => match us, hl with | [_, _, _], _ => rfl)) ?dn_is_int
    case da_is_int => k_is
    case dl_is_int => k_is
    case dc_is_int => k_is
    case dk_is_int => k_is
    intro d_is_int
    refine' DL.andThen (DL.defAt_mk (x := "is_bits") (st := CR.s_is_bits) (ps := ["value"]) KX G ?da_is_bits ?dl_is_bits ?dc_is_bits ?dk_is_bits (fun _ _ _ _ _ _ us hl => match us, hl with | [_], _ => rfl)) ?dn_is_bits
    case da_is_bits => k_is
    case dl_is_bits => k_is
    case dc_is_bits => k_is
    case dk_is_bits => k_is
    intro d_is_bits
    refine' DL.andThen (DL.defAt_mk (x := "power") (st := CR.s_power) (ps := ["count"]) KX G ?da_power ?dl_power ?dc_power ?dk_power (fun _ _ _ _ _ _ us hl => match us, hl with | [_], _ => rfl)) ?dn_power
    case da_power => k_is
    case dl_power => k_is
    case dc_power => k_is
    case dk_power => k_is
    intro d_power
    refine' DL.andThen (DL.defAt_mk (x := "is_sample") (st := CR.s_is_sample) (ps := ["width", "value"]) KX G ?da_is_sample ?dl_is_sample ?dc_is_sample ?dk_is_sample (fun _ _ _ _ _ _ us hl => match us, hl with | [_, _], _ => rfl)) ?dn_is_sample
    case da_is_sample => k_is
    case dl_is_sample => k_is
    case dc_is_sample => k_is
    case dk_is_sample => k_is
    intro d_is_sample
    refine' DL.andThen (DL.defAt_mk (x := "check_samples") (st := CR.s_check_samples) (ps := ["width", "samples"]) KX G ?da_check_samples ?dl_check_samples ?dc_check_samples ?dk_check_samples (fun _ _ _ _ _ _ us hl => match us, hl with | [_, _], _ => rfl)) ?dn_check_samples
    case da_check_samples => k_is
    case dl_check_samples => k_is
    case dc_check_samples => k_is
    case dk_check_samples => k_is
    intro d_check_samples
    refine' DL.andThen (DL.defAt_mk (x := "added") (st := CR.s_added) (ps := ["one", "other"]) KX G ?da_added ?dl_added ?dc_added ?dk_added (fun _ _ _ _ _ _ us hl => match us, hl with | [_, _], _ => rfl)) ?dn_added
    case da_added => k_is
    case dl_added => k_is
    case dc_added => k_is
    case dk_added => k_is
    intro d_added
    refine' DL.andThen (DL.defAt_mk (x := "fed") (st := CR.s_fed) (ps := ["check", "value", "bit"]) KX G ?da_fed ?dl_fed ?dc_fed ?dk_fed (fun _ _ _ _ _ _ us hl => match us, hl with | [_, _, _], _ => rfl)) ?dn_fed
    case da_fed => k_is
    case dl_fed => k_is
    case dc_fed => k_is
    case dk_fed => k_is
    intro d_fed
    refine' DL.andThen (DL.defAt_mk (x := "run_through") (st := CR.s_run_through) (ps := ["check", "bits"]) KX G ?da_run_through ?dl_run_through ?dc_run_through ?dk_run_through (fun _ _ _ _ _ _ us hl => match us, hl with | [_, _], _ => rfl)) ?dn_run_through
    case da_run_through => k_is
    case dl_run_through => k_is
    case dc_run_through => k_is
    case dk_run_through => k_is
    intro d_run_through
    refine' DL.andThen (DL.defAt_mk (x := "moved") (st := CR.s_moved) (ps := ["check", "value"]) KX G ?da_moved ?dl_moved ?dc_moved ?dk_moved (fun _ _ _ _ _ _ us hl => match us, hl with | [_, _], _ => rfl)) ?dn_moved
    case da_moved => k_is
    case dl_moved => k_is
    case dc_moved => k_is
    case dk_moved => k_is
    intro d_moved
    refine' DL.andThen (DL.defAt_mk (x := "period_of") (st := CR.s_period_of) (ps := ["check"]) KX G ?da_period_of ?dl_period_of ?dc_period_of ?dk_period_of (fun _ _ _ _ _ _ us hl => match us, hl with | [_], _ => rfl)) ?dn_period_of
    case da_period_of => k_is
    case dl_period_of => k_is
    case dc_period_of => k_is
    case dk_period_of => k_is
    intro d_period_of
    refine' DL.andThen (DL.defAt_mk (x := "far_moved") (st := CR.s_far_moved) (ps := ["check", "value", "steps"]) KX G ?da_far_moved ?dl_far_moved ?dc_far_moved ?dk_far_moved (fun _ _ _ _ _ _ us hl => match us, hl with | [_, _, _], _ => rfl)) ?dn_far_moved
    case da_far_moved => k_is
    case dl_far_moved => k_is
    case dc_far_moved => k_is
    case dk_far_moved => k_is
    intro d_far_moved
    refine' DL.andThen (DL.defAt_mk (x := "rests") (st := CR.s_rests) (ps := ["check", "samples"]) KX G ?da_rests ?dl_rests ?dc_rests ?dk_rests (fun _ _ _ _ _ _ us hl => match us, hl with | [_, _], _ => rfl)) ?dn_rests
    case da_rests => k_is
    case dl_rests => k_is
    case dc_rests => k_is
    case dk_rests => k_is
    intro d_rests
    refine' DL.andThen (DL.defAt_mk (x := "product") (st := CR.s_product) (ps := ["check", "one", "other"]) KX G ?da_product ?dl_product ?dc_product ?dk_product (fun _ _ _ _ _ _ us hl => match us, hl with | [_, _, _], _ => rfl)) ?dn_product
    case da_product => k_is
    case dl_product => k_is
    case dc_product => k_is
    case dk_product => k_is
    intro d_product
    refine' DL.andThen (DL.defAt_mk (x := "pairs_for") (st := CR.s_pairs_for) (ps := ["width", "poly", "samples"]) KX G ?da_pairs_for ?dl_pairs_for ?dc_pairs_for ?dk_pairs_for (fun _ _ _ _ _ _ us hl => match us, hl with | [_, _, _], _ => rfl)) ?dn_pairs_for
    case da_pairs_for => k_is
    case dl_pairs_for => k_is
    case dc_pairs_for => k_is
    case dk_pairs_for => k_is
    intro d_pairs_for
    refine' DL.andThen (DL.defAt_mk (x := "explaining") (st := CR.s_explaining) (ps := ["width", "samples"]) KX G ?da_explaining ?dl_explaining ?dc_explaining ?dk_explaining (fun _ _ _ _ _ _ us hl => match us, hl with | [_, _], _ => rfl)) ?dn_explaining
    case da_explaining => k_is
    case dl_explaining => k_is
    case dc_explaining => k_is
    case dk_explaining => k_is
    intro d_explaining
    refine' DL.andThen (DL.defAt_mk (x := "first_conflict") (st := CR.s_first_conflict) (ps := ["width", "samples"]) KX G ?da_first_conflict ?dl_first_conflict ?dc_first_conflict ?dk_first_conflict (fun _ _ _ _ _ _ us hl => match us, hl with | [_, _], _ => rfl)) ?dn_first_conflict
    case da_first_conflict => k_is
    case dl_first_conflict => k_is
    case dc_first_conflict => k_is
    case dk_first_conflict => k_is
    intro d_first_conflict
    refine' DL.andThen (DL.defAt_mk (x := "check_length") (st := CR.s_check_length) (ps := ["length", "most"]) KX G ?da_check_length ?dl_check_length ?dc_check_length ?dk_check_length (fun _ _ _ _ _ _ us hl => match us, hl with | [_, _], _ => rfl)) ?dn_check_length
    case da_check_length => k_is
    case dl_check_length => k_is
    case dc_check_length => k_is
    case dk_check_length => k_is
    intro d_check_length
    refine' DL.andThen (DL.defAt_mk (x := "counts_of") (st := CR.s_counts_of) (ps := ["check", "length"]) KX G ?da_counts_of ?dl_counts_of ?dc_counts_of ?dk_counts_of (fun _ _ _ _ _ _ us hl => match us, hl with | [_, _], _ => rfl)) ?dn_counts_of
    case da_counts_of => k_is
    case dl_counts_of => k_is
    case dc_counts_of => k_is
    case dk_counts_of => k_is
    intro d_counts_of
    refine' DL.andThen (DL.defAt_mk (x := "distance_of") (st := CR.s_distance_of) (ps := ["check", "length"]) KX G ?da_distance_of ?dl_distance_of ?dc_distance_of ?dk_distance_of (fun _ _ _ _ _ _ us hl => match us, hl with | [_, _], _ => rfl)) ?dn_distance_of
    case da_distance_of => k_is
    case dl_distance_of => k_is
    case dc_distance_of => k_is
    case dk_distance_of => k_is
    intro d_distance_of
    refine' DL.andThen (DL.defAt_mk (x := "strongest") (st := CR.s_strongest) (ps := ["width", "length"]) KX G ?da_strongest ?dl_strongest ?dc_strongest ?dk_strongest (fun _ _ _ _ _ _ us hl => match us, hl with | [_, _], _ => rfl)) ?dn_strongest
    case da_strongest => k_is
    case dl_strongest => k_is
    case dc_strongest => k_is
    case dk_strongest => k_is
    intro d_strongest
    refine' DL.andThen (DL.defAt_mk (x := "is_check") (st := CR.s_is_check) (ps := ["value"]) KX G ?da_is_check ?dl_is_check ?dc_is_check ?dk_is_check (fun _ _ _ _ _ _ us hl => match us, hl with | [_], _ => rfl)) ?dn_is_check
    case da_is_check => k_is
    case dl_is_check => k_is
    case dc_is_check => k_is
    case dk_is_check => k_is
    intro d_is_check
    refine' DL.andThen (DL.defAt_mk (x := "check_check") (st := CR.s_check_check) (ps := ["value"]) KX G ?da_check_check ?dl_check_check ?dc_check_check ?dk_check_check (fun _ _ _ _ _ _ us hl => match us, hl with | [_], _ => rfl)) ?dn_check_check
    case da_check_check => k_is
    case dl_check_check => k_is
    case dc_check_check => k_is
    case dk_check_check => k_is
    intro d_check_check
    refine' DL.andThen (DL.defAt_mk (x := "value_of") (st := CR.s_value_of) (ps := ["check", "bits"]) KX G ?da_value_of ?dl_value_of ?dc_value_of ?dk_value_of (fun _ _ _ _ _ _ us hl => match us, hl with | [_, _], _ => rfl)) ?dn_value_of
    case da_value_of => k_is
    case dl_value_of => k_is
    case dc_value_of => k_is
    case dk_value_of => k_is
    intro d_value_of
    refine' DL.andThen (DL.defAt_mk (x := "explains") (st := CR.s_explains) (ps := ["check", "samples"]) KX G ?da_explains ?dl_explains ?dc_explains ?dk_explains (fun _ _ _ _ _ _ us hl => match us, hl with | [_, _], _ => rfl)) ?dn_explains
    case da_explains => k_is
    case dl_explains => k_is
    case dc_explains => k_is
    case dk_explains => k_is
    intro d_explains
    refine' DL.andThen (DL.defAt_mk (x := "check_bits") (st := CR.s_check_bits) (ps := ["value"]) KX G ?da_check_bits ?dl_check_bits ?dc_check_bits ?dk_check_bits (fun _ _ _ _ _ _ us hl => match us, hl with | [_], _ => rfl)) ?dn_check_bits
    case da_check_bits => k_is
    case dl_check_bits => k_is
    case dc_check_bits => k_is
    case dk_check_bits => k_is
    intro d_check_bits
    refine' DL.andThen (DL.defAt_mk (x := "format_bits") (st := CR.s_format_bits) (ps := ["bits"]) KX G ?da_format_bits ?dl_format_bits ?dc_format_bits ?dk_format_bits (fun _ _ _ _ _ _ us hl => match us, hl with | [_], _ => rfl)) ?dn_format_bits
    case da_format_bits => k_is
    case dl_format_bits => k_is
    case dc_format_bits => k_is
    case dk_format_bits => k_is
    intro d_format_bits
    refine' DL.andThen (DL.mthAt_mk (m := "feed") (q := "Register.feed") (st := CR.s_Register_feed) (ps := ["self", "bits"]) d_Register_init__ ?di_Register_feed ?dj_Register_feed ?dl_Register_feed ?dc_Register_feed ?dk_Register_feed (fun _ _ _ _ _ _ us hl => match us, hl with | [_, _], _ => rfl)) ?dn_Register_feed
    case di_Register_feed => k_is
    case dj_Register_feed => k_is
    case dl_Register_feed => k_is
    case dc_Register_feed => k_is
    case dk_Register_feed => k_is
    intro d_Register_feed
    refine' DL.andThen (DL.defAt_mk (x := "moved_back") (st := CR.s_moved_back) (ps := ["check", "value"]) KX G ?da_moved_back ?dl_moved_back ?dc_moved_back ?dk_moved_back (fun _ _ _ _ _ _ us hl => match us, hl with | [_, _], _ => rfl)) ?dn_moved_back
    case da_moved_back => k_is
    case dl_moved_back => k_is
    case dc_moved_back => k_is
    case dk_moved_back => k_is
    intro d_moved_back
    refine' DL.andThen (DL.defAt_mk (x := "unfed") (st := CR.s_unfed) (ps := ["check", "value", "bit"]) KX G ?da_unfed ?dl_unfed ?dc_unfed ?dk_unfed (fun _ _ _ _ _ _ us hl => match us, hl with | [_, _, _], _ => rfl)) ?dn_unfed
    case da_unfed => k_is
    case dl_unfed => k_is
    case dc_unfed => k_is
    case dk_unfed => k_is
    intro d_unfed
    refine' DL.andThen (DL.mthAt_mk (m := "back") (q := "Register.back") (st := CR.s_Register_back) (ps := ["self", "bits"]) d_Register_init__ ?di_Register_back ?dj_Register_back ?dl_Register_back ?dc_Register_back ?dk_Register_back (fun _ _ _ _ _ _ us hl => match us, hl with | [_, _], _ => rfl)) ?dn_Register_back
    case di_Register_back => k_is
    case dj_Register_back => k_is
    case dl_Register_back => k_is
    case dc_Register_back => k_is
    case dk_Register_back => k_is
    intro d_Register_back
    refine' DL.andThen (DL.mthAt_mk (m := "would") (q := "Register.would") (st := CR.s_Register_would) (ps := ["self", "bits"]) d_Register_init__ ?di_Register_would ?dj_Register_would ?dl_Register_would ?dc_Register_would ?dk_Register_would (fun _ _ _ _ _ _ us hl => match us, hl with | [_, _], _ => rfl)) ?dn_Register_would
    case di_Register_would => k_is
    case dj_Register_would => k_is
    case dl_Register_would => k_is
    case dc_Register_would => k_is
    case dk_Register_would => k_is
    intro d_Register_would
    refine' DL.andThen (DL.mthAt_mk (m := "set_register") (q := "Register.set_register") (st := CR.s_Register_set_register) (ps := ["self", "value"]) d_Register_init__ ?di_Register_set_register ?dj_Register_set_register ?dl_Register_set_register ?dc_Register_set_register ?dk_Register_set_register (fun _ _ _ _ _ _ us hl => match us, hl with | [_, _], _ => rfl)) ?dn_Register_set_register
    case di_Register_set_register => k_is
    case dj_Register_set_register => k_is
    case dl_Register_set_register => k_is
    case dc_Register_set_register => k_is
    case dk_Register_set_register => k_is
    intro d_Register_set_register
    refine' DL.andThen (DL.defAt_mk (x := "_law_call") (st := CR.s__law_call) (ps := ["kind", "one", "two"]) KX G ?da__law_call ?dl__law_call ?dc__law_call ?dk__law_call (fun _ _ _ _ _ _ us hl => match us, hl with | [_, _, _], _ => rfl)) ?dn__law_call
    case da__law_call => k_is
    case dl__law_call => k_is
    case dc__law_call => k_is
    case dk__law_call => k_is
    intro d__law_call
    refine' DL.andThen (DL.defAt_mk (x := "_law_asked") (st := CR.s__law_asked) (ps := ["kind", "one", "two"]) KX G ?da__law_asked ?dl__law_asked ?dc__law_asked ?dk__law_asked (fun _ _ _ _ _ _ us hl => match us, hl with | [_, _, _], _ => rfl)) ?dn__law_asked
    case da__law_asked => k_is
    case dl__law_asked => k_is
    case dc__law_asked => k_is
    case dk__law_asked => k_is
    intro d__law_asked
    refine' DL.andThen (DL.defAt_mk (x := "_law_draw") (st := CR.s__law_draw) (ps := ["draws", "limit"]) KX G ?da__law_draw ?dl__law_draw ?dc__law_draw ?dk__law_draw (fun _ _ _ _ _ _ us hl => match us, hl with | [_, _], _ => rfl)) ?dn__law_draw
    case da__law_draw => k_is
    case dl__law_draw => k_is
    case dc__law_draw => k_is
    case dk__law_draw => k_is
    intro d__law_draw
    refine' DL.andThen (DL.mthAt_mk (m := "value") (q := "Register.value") (st := CR.s_Register_value) (ps := ["self"]) d_Register_init__ ?di_Register_value ?dj_Register_value ?dl_Register_value ?dc_Register_value ?dk_Register_value (fun _ _ _ _ _ _ us hl => match us, hl with | [_], _ => rfl)) ?dn_Register_value
    case di_Register_value => k_is
    case dj_Register_value => k_is
    case dl_Register_value => k_is
    case dc_Register_value => k_is
    case dk_Register_value => k_is
    intro d_Register_value
    refine' DL.andThen (DL.mthAt_mk (m := "check_value") (q := "Register.check_value") (st := CR.s_Register_check_value) (ps := ["self"]) d_Register_init__ ?di_Register_check_value ?dj_Register_check_value ?dl_Register_check_value ?dc_Register_check_value ?dk_Register_check_value (fun _ _ _ _ _ _ us hl => match us, hl with | [_], _ => rfl)) ?dn_Register_check_value
    case di_Register_check_value => k_is
    case dj_Register_check_value => k_is
    case dl_Register_check_value => k_is
    case dc_Register_check_value => k_is
    case dk_Register_check_value => k_is
    intro d_Register_check_value
    refine' DL.andThen (DL.mthAt_mk (m := "__len__") (q := "Register.__len__") (st := CR.s_Register_len__) (ps := ["self"]) d_Register_init__ ?di_Register_len__ ?dj_Register_len__ ?dl_Register_len__ ?dc_Register_len__ ?dk_Register_len__ (fun _ _ _ _ _ _ us hl => match us, hl with | [_], _ => rfl)) ?dn_Register_len__
    case di_Register_len__ => k_is
    case dj_Register_len__ => k_is
    case dl_Register_len__ => k_is
    case dc_Register_len__ => k_is
    case dk_Register_len__ => k_is
    intro d_Register_len__
    refine' DL.andThen (DL.defAt_mk (x := "_law_register_calls") (st := CR.s__law_register_calls) (ps := []) KX G ?da__law_register_calls ?dl__law_register_calls ?dc__law_register_calls ?dk__law_register_calls (fun _ _ _ _ _ _ us hl => match us, hl with | [], _ => rfl)) ?dn__law_register_calls
    case da__law_register_calls => k_is
    case dl__law_register_calls => k_is
    case dc__law_register_calls => k_is
    case dk__law_register_calls => k_is
    intro d__law_register_calls
    refine' DL.andThen (DL.defAt_mk (x := "_law_start") (st := CR.s__law_start) (ps := ["script"]) KX G ?da__law_start ?dl__law_start ?dc__law_start ?dk__law_start (fun _ _ _ _ _ _ us hl => match us, hl with | [_], _ => rfl)) ?dn__law_start
    case da__law_start => k_is
    case dl__law_start => k_is
    case dc__law_start => k_is
    case dk__law_start => k_is
    intro d__law_start
    refine' DL.andThen (DL.defAt_mk (x := "law") (st := CR.s_law) (ps := ["script"]) KX G ?da_law ?dl_law ?dc_law ?dk_law (fun _ _ _ _ _ _ us hl => match us, hl with | [_], _ => rfl)) ?dn_law
    case da_law => k_is
    case dl_law => k_is
    case dc_law => k_is
    case dk_law => k_is
    intro d_law
    refine DL.law_left KX d_law hmg (fun _ _ _ _ _ _ _ _ => .of_eq rfl) fun fd F base _ _ => ?_
    let cl : DL.Cl := ⟨fun e => match e with | .smp => DL.adr_of x_BadSamples | .num => DL.adr_of x_BadNumber | .chk => DL.adr_of x_BadCheck | .bits => DL.adr_of x_BadBits | .nof => DL.adr_of x_NotFound | .plc => DL.adr_of x_BadPlaces | .txt => DL.adr_of x_BadText, DL.cls_of d_Register_init__⟩
    have T_reg : DL.RegT _ cl.reg := T_reg0
    have T_err := DL.errK_mk (cl := cl) x_BadCheck x_BadBits x_BadNumber x_BadSamples x_BadPlaces x_BadText x_NotFound y_C (fun e => match e with | .chk => a_BadCheck | .bits => a_BadBits | .num => a_BadNumber | .smp => a_BadSamples | .plc => a_BadPlaces | .txt => a_BadText | .nof => a_NotFound) (fun e e2 ne => match e, e2, ne with | .chk, .chk, ne => absurd rfl ne | .chk, .bits, ne => s_01.1 | .chk, .num, ne => s_02.1 | .chk, .smp, ne => s_03.1 | .chk, .plc, ne => s_04.1 | .chk, .txt, ne => s_05.1 | .chk, .nof, ne => s_06.1 | .bits, .chk, ne => s_01.2 | .bits, .bits, ne => absurd rfl ne | .bits, .num, ne => s_12.1 | .bits, .smp, ne => s_13.1 | .bits, .plc, ne => s_14.1 | .bits, .txt, ne => s_15.1 | .bits, .nof, ne => s_16.1 | .num, .chk, ne => s_02.2 | .num, .bits, ne => s_12.2 | .num, .num, ne => absurd rfl ne | .num, .smp, ne => s_23.1 | .num, .plc, ne => s_24.1 | .num, .txt, ne => s_25.1 | .num, .nof, ne => s_26.1 | .smp, .chk, ne => s_03.2 | .smp, .bits, ne => s_13.2 | .smp, .num, ne => s_23.2 | .smp, .smp, ne => absurd rfl ne | .smp, .plc, ne => s_34.1 | .smp, .txt, ne => s_35.1 | .smp, .nof, ne => s_36.1 | .plc, .chk, ne => s_04.2 | .plc, .bits, ne => s_14.2 | .plc, .num, ne => s_24.2 | .plc, .smp, ne => s_34.2 | .plc, .plc, ne => absurd rfl ne | .plc, .txt, ne => s_45.1 | .plc, .nof, ne => s_46.1 | .txt, .chk, ne => s_05.2 | .txt, .bits, ne => s_15.2 | .txt, .num, ne => s_25.2 | .txt, .smp, ne => s_35.2 | .txt, .plc, ne => s_45.2 | .txt, .txt, ne => absurd rfl ne | .txt, .nof, ne => s_56.1 | .nof, .chk, ne => s_06.2 | .nof, .bits, ne => s_16.2 | .nof, .num, ne => s_26.2 | .nof, .smp, ne => s_36.2 | .nof, .plc, ne => s_46.2 | .nof, .txt, ne => s_56.2 | .nof, .nof, ne => absurd rfl ne)
    have k__law_error := CR.ok__law_error (P := PySem.Challenge.rw_crcfinds_k19_more_errors.prog) (wd := w) (base := base) (cl := cl) d__law_error h_isinstance h_ValueError T_err
    have k_is_int := CR.ok_is_int (P := PySem.Challenge.rw_crcfinds_k19_more_errors.prog) (wd := w) (base := base) (cl := cl) d_is_int h_int h_isinstance h_bool
    have k_is_bits := CR.ok_is_bits (P := PySem.Challenge.rw_crcfinds_k19_more_errors.prog) (wd := w) (base := base) (cl := cl) d_is_bits h_list h_isinstance h_len h_MOST_BITS h_all k_is_int
    have k_power := CR.ok_power (P := PySem.Challenge.rw_crcfinds_k19_more_errors.prog) (wd := w) (base := base) (cl := cl) d_power h_range
    have k_is_sample := CR.ok_is_sample (P := PySem.Challenge.rw_crcfinds_k19_more_errors.prog) (wd := w) (base := base) (cl := cl) d_is_sample h_tuple h_isinstance h_len k_is_bits k_power k_is_int
    have k_check_samples := CR.ok_check_samples (P := PySem.Challenge.rw_crcfinds_k19_more_errors.prog) (wd := w) (base := base) (cl := cl) d_check_samples h_list h_isinstance h_len h_MOST_SAMPLES h_all x_BadSamples k_is_sample
    have k_added := CR.ok_added (P := PySem.Challenge.rw_crcfinds_k19_more_errors.prog) (wd := w) (base := base) (cl := cl) d_added
    have k_fed := CR.ok_fed (P := PySem.Challenge.rw_crcfinds_k19_more_errors.prog) (wd := w) (base := base) (cl := cl) d_fed k_power k_added
    have k_run_through := CR.ok_run_through (P := PySem.Challenge.rw_crcfinds_k19_more_errors.prog) (wd := w) (base := base) (cl := cl) d_run_through k_fed
    have k_moved := CR.ok_moved (P := PySem.Challenge.rw_crcfinds_k19_more_errors.prog) (wd := w) (base := base) (cl := cl) d_moved k_power k_added
    have k_period_of := CR.ok_period_of (P := PySem.Challenge.rw_crcfinds_k19_more_errors.prog) (wd := w) (base := base) (cl := cl) d_period_of k_moved
    have k_far_moved := CR.ok_far_moved (P := PySem.Challenge.rw_crcfinds_k19_more_errors.prog) (wd := w) (base := base) (cl := cl) d_far_moved h_MOST_STEPS h_range k_period_of k_moved
    have k_rests := CR.ok_rests (P := PySem.Challenge.rw_crcfinds_k19_more_errors.prog) (wd := w) (base := base) (cl := cl) d_rests h_len k_run_through k_added k_far_moved
    have k_product := CR.ok_product (P := PySem.Challenge.rw_crcfinds_k19_more_errors.prog) (wd := w) (base := base) (cl := cl) d_product h_range k_power k_added k_moved
    have k_pairs_for := CR.ok_pairs_for (P := PySem.Challenge.rw_crcfinds_k19_more_errors.prog) (wd := w) (base := base) (cl := cl) d_pairs_for h_range h_len h_list k_rests k_power k_product k_added
    have k_explaining := CR.ok_explaining (P := PySem.Challenge.rw_crcfinds_k19_more_errors.prog) (wd := w) (base := base) (cl := cl) d_explaining h_MOST_SEARCH_samples h_range h_len x_BadNumber k_is_int k_check_samples k_power k_pairs_for
    have k_first_conflict := CR.ok_first_conflict (P := PySem.Challenge.rw_crcfinds_k19_more_errors.prog) (wd := w) (base := base) (cl := cl) d_first_conflict h_MOST_SEARCH_samples h_list h_range h_len x_BadNumber k_is_int k_check_samples k_power k_pairs_for
    have k_check_length := CR.ok_check_length (P := PySem.Challenge.rw_crcfinds_k19_more_errors.prog) (wd := w) (base := base) (cl := cl) d_check_length x_BadNumber k_is_int
    have k_counts_of := CR.ok_counts_of (P := PySem.Challenge.rw_crcfinds_k19_more_errors.prog) (wd := w) (base := base) (cl := cl) d_counts_of h_range h_dict k_added k_moved
    have k_distance_of := CR.ok_distance_of (P := PySem.Challenge.rw_crcfinds_k19_more_errors.prog) (wd := w) (base := base) (cl := cl) d_distance_of h_len h_range k_counts_of
    have k_strongest := CR.ok_strongest (P := PySem.Challenge.rw_crcfinds_k19_more_errors.prog) (wd := w) (base := base) (cl := cl) d_strongest h_MOST_SEARCH_weights h_MOST_LENGTH h_range h_any h_max x_BadNumber k_is_int k_check_length k_power k_distance_of
    have k_is_check := CR.ok_is_check (P := PySem.Challenge.rw_crcfinds_k19_more_errors.prog) (wd := w) (base := base) (cl := cl) d_is_check h_tuple h_isinstance h_len h_MOST_WIDTH h_all k_is_int k_power
    have k_check_check := CR.ok_check_check (P := PySem.Challenge.rw_crcfinds_k19_more_errors.prog) (wd := w) (base := base) (cl := cl) d_check_check x_BadCheck k_is_check
    have k_value_of := CR.ok_value_of (P := PySem.Challenge.rw_crcfinds_k19_more_errors.prog) (wd := w) (base := base) (cl := cl) d_value_of k_run_through k_added
    have k_explains := CR.ok_explains (P := PySem.Challenge.rw_crcfinds_k19_more_errors.prog) (wd := w) (base := base) (cl := cl) d_explains h_all k_check_check k_check_samples k_value_of
    have k_check_bits := CR.ok_check_bits (P := PySem.Challenge.rw_crcfinds_k19_more_errors.prog) (wd := w) (base := base) (cl := cl) d_check_bits x_BadBits k_is_bits
    have k_format_bits := CR.ok_format_bits (P := PySem.Challenge.rw_crcfinds_k19_more_errors.prog) (wd := w) (base := base) (cl := cl) d_format_bits h_str k_check_bits
    have k_Register_feed := CR.ok_Register_feed (P := PySem.Challenge.rw_crcfinds_k19_more_errors.prog) (wd := w) (base := base) (cl := cl) (mg := mg) d_Register_feed T_reg k_check_bits k_fed
    have k_moved_back := CR.ok_moved_back (P := PySem.Challenge.rw_crcfinds_k19_more_errors.prog) (wd := w) (base := base) (cl := cl) d_moved_back k_added k_power
    have k_unfed := CR.ok_unfed (P := PySem.Challenge.rw_crcfinds_k19_more_errors.prog) (wd := w) (base := base) (cl := cl) d_unfed k_power k_moved_back k_added
    have k_Register_back := CR.ok_Register_back (P := PySem.Challenge.rw_crcfinds_k19_more_errors.prog) (wd := w) (base := base) (cl := cl) (mg := mg) d_Register_back h_len T_reg x_NotFound k_check_bits k_unfed
    have k_Register_would := CR.ok_Register_would (P := PySem.Challenge.rw_crcfinds_k19_more_errors.prog) (wd := w) (base := base) (cl := cl) (mg := mg) d_Register_would T_reg k_check_bits k_fed k_added
    have k_Register_set_register := CR.ok_Register_set_register (P := PySem.Challenge.rw_crcfinds_k19_more_errors.prog) (wd := w) (base := base) (cl := cl) (mg := mg) d_Register_set_register T_reg x_BadNumber k_power k_is_int
    have k__law_call := CR.ok__law_call (P := PySem.Challenge.rw_crcfinds_k19_more_errors.prog) (wd := w) (base := base) (cl := cl) d__law_call T_reg k_explaining k_first_conflict k_strongest k_explains k_format_bits k_Register_feed k_Register_back k_Register_would k_Register_set_register
    have k__law_asked := CR.ok__law_asked (P := PySem.Challenge.rw_crcfinds_k19_more_errors.prog) (wd := w) (base := base) (cl := cl) d__law_asked T_err k__law_error k__law_call
    have k__law_draw := CR.ok__law_draw (P := PySem.Challenge.rw_crcfinds_k19_more_errors.prog) (wd := w) (base := base) (cl := cl) d__law_draw h_len
    have k_Register_init__ := CR.ok_Register_init__ (P := PySem.Challenge.rw_crcfinds_k19_more_errors.prog) (wd := w) (base := base) (cl := cl) (mg := mg) d_Register_init__ T_reg k_check_check
    have k_Register_value := CR.ok_Register_value (P := PySem.Challenge.rw_crcfinds_k19_more_errors.prog) (wd := w) (base := base) (cl := cl) (mg := mg) d_Register_value T_reg
    have k_Register_check_value := CR.ok_Register_check_value (P := PySem.Challenge.rw_crcfinds_k19_more_errors.prog) (wd := w) (base := base) (cl := cl) (mg := mg) d_Register_check_value T_reg k_added
    have k_Register_len__ := CR.ok_Register_len__ (P := PySem.Challenge.rw_crcfinds_k19_more_errors.prog) (wd := w) (base := base) (cl := cl) (mg := mg) d_Register_len__ h_len T_reg
    have k__law_register_calls := CR.ok__law_register_calls (P := PySem.Challenge.rw_crcfinds_k19_more_errors.prog) (wd := w) (base := base) (cl := cl) d__law_register_calls h_len T_reg k_Register_init__ k__law_asked k_Register_value k_Register_check_value k_Register_len__ k_Register_feed k_Register_back k_Register_set_register
    have k__law_start := CR.ok__law_start (P := PySem.Challenge.rw_crcfinds_k19_more_errors.prog) (wd := w) (base := base) d__law_start h_list
    exact CR.ok_law (cl := cl) F h_range k__law_asked k__law_draw k_format_bits k__law_register_calls k__law_start CR.math
