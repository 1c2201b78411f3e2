import PyProof.Rows.All
import Wide.All
import OpenK.AllK
import Wide.FinOn
import HandS.ForMost
import HandS.ForExc
import HandS.Walk
import HandS.IsInst
import HandS.TupAny
import HandS.More
import PyProof.ReprRoads
import PySem.Challenge.RW_scopenames_k02_words
set_option Elab.async false
set_option linter.all false
set_option maxRecDepth 100000
set_option maxHeartbeats 4000000
/-! DLa: values as trees, what stands for them in the tracked heap, readings over trees. -/
namespace DL
open PySem PySem.Spec PyProof.Rows L2

/-- a value with all that it holds; ref: an object that is told by its address (it may change), pen: the law's pen -/
inductive D where
  | non | bl (b : Bool) | int (i : Int) | str (x : Str) | ty (n : String)
  | lst (xs : List D) | tup (xs : List D) | dic (kvs : List (Key × D)) | obj (C : Addr) (fs : List (Str × D))
  | ref (a : Addr) | pen
/-- a thing that may change, by its own parts -/
inductive MO where
  | lst (xs : List D) | dic (kvs : List (Key × D)) | ins (C dx : Addr) (fs : List (Str × D))
abbrev Mem := Addr → Option MO
/-- the state: what may change, how often the pen was asked (at most) -/
abbrev En := List (Option D)
structure W where
  m : Mem
  n : Nat
  /-- what is wanted of an exception that leaves: its class, its fields, the state -/
  e : En → Addr → Option (List (Str × D)) → Mem → Nat → Prop
def W.tick (w : W) (k : Nat) : W := { w with n := w.n + k }
/-- no exception leaves; as ahead -/
def W.mute (w : W) : W := { w with e := fun _ _ _ _ _ => False }
/-- in a callee -/
def W.inn (w : W) (env : En) : W := { w with e := fun _ => w.e env }
/-- an exception leaves -/
def W.rz (w : W) (C : Addr) (fs : Option (List (Str × D))) : Prop := w.e [] C fs w.m w.n
def W.as (w w0 : W) : W := { w with e := w0.e }
theorem W.as_mute {w : W} : w.mute.as w = w := rfl
def updM (M : Mem) (a : Addr) (o : MO) : Mem := fun b => if b = a then some o else M b
def delM (M : Mem) (a : Addr) : Mem := fun b => if b = a then none else M b
def W.put (w : W) (a : Addr) (o : MO) : W := { w with m := updM w.m a o }
def W.del (w : W) (a : Addr) : W := { w with m := delM w.m a }
theorem updM_same {M : Mem} {a : Addr} {o : MO} : updM M a o a = some o := by unfold updM; rw [if_pos rfl]
theorem updM_ne {M : Mem} {a b : Addr} {o : MO} (h : b ≠ a) : updM M a o b = M b := by unfold updM; rw [if_neg h]
theorem updM_upd {M : Mem} {a : Addr} {o u : MO} : updM (updM M a o) a u = updM M a u := by
  funext b; unfold updM; split <;> rfl
theorem updM_comm {M : Mem} {a b : Addr} {o u : MO} (h : a ≠ b) : updM (updM M a o) b u = updM (updM M b u) a o := by
  funext c; unfold updM
  by_cases h1 : c = b
  · subst h1; rw [if_pos rfl, if_neg (Ne.symm h), if_pos rfl]
  · rw [if_neg h1]
    by_cases h2 : c = a
    · rw [if_pos h2, if_pos h2]
    · rw [if_neg h2, if_neg h2, if_neg h1]
theorem delM_upd {M : Mem} {a : Addr} {o : MO} (h : M a = none) : delM (updM M a o) a = M := by
  funext b; unfold delM updM
  by_cases e : b = a
  · rw [if_pos e, e, h]
  · rw [if_neg e, if_neg e]
theorem delM_same {M : Mem} {a : Addr} : delM M a a = none := by unfold delM; rw [if_pos rfl]
theorem delM_ne {M : Mem} {a b : Addr} (h : b ≠ a) : delM M a b = M b := by unfold delM; rw [if_neg h]
theorem W.put_put {w : W} {a : Addr} {o u : MO} : (w.put a o).put a u = w.put a u := by unfold W.put; rw [updM_upd]
theorem W.del_put {w : W} {a : Addr} {o : MO} (h : w.m a = none) : (w.put a o).del a = w := by
  unfold W.put W.del; rw [delM_upd h]
theorem W.put_at {w : W} {a : Addr} {o : MO} : (w.put a o).m a = some o := updM_same
theorem W.put_ne {w : W} {a b : Addr} {o : MO} (h : b ≠ a) : (w.put a o).m b = w.m b := updM_ne h
theorem W.put_n {w : W} {a : Addr} {o : MO} : (w.put a o).n = w.n := rfl
theorem W.tick_put {w : W} {a : Addr} {o : MO} {k : Nat} : (w.put a o).tick k = (w.tick k).put a o := rfl
theorem W.tick_del {w : W} {a : Addr} {k : Nat} : (w.del a).tick k = (w.tick k).del a := rfl
theorem W.tick_tick {w : W} {j k : Nat} : (w.tick j).tick k = w.tick (j + k) := by unfold W.tick; rw [Nat.add_assoc]
theorem W.tick0 {w : W} : w.tick 0 = w := rfl
theorem W.tick_m {w : W} {k : Nat} : (w.tick k).m = w.m := rfl
theorem W.tick_n {w : W} {k : Nat} : (w.tick k).n = w.n + k := rfl

/-- what is known of the heap and hangs on no one: G the objects that do not change any more, pm the pens -/
structure Gh where
  G : Hp
  pm : Addr → Bool
/-- what is fixed while an expression runs: L the locked ones, F the kept ones -/
structure Ck where
  L : Addr → Option Obj
  F : Hp
  e : En → Addr → Option (List (Str × D)) → Mem → Nat → Prop
mutual
inductive Rep (K : PySem.W.Frag) (g : Gh) : V → D → Prop
  | non : Rep K g .non .non
  | bl (b : Bool) : Rep K g (.bl b) (.bl b)
  | int (i : Int) : Rep K g (.int i) (.int i)
  | str (x : Str) : Rep K g (.str x) (.str x)
  | ty (n : String) : Rep K g (.ty n) (.ty n)
  | lst {a : Addr} {xs : List V} {ds : List D} : SqL K g.G a xs → RepL K g xs ds → Rep K g (.ref a) (.lst ds)
  | tup {a : Addr} {xs : List V} {ds : List D} : SqT K g.G a xs → RepL K g xs ds → Rep K g (.ref a) (.tup ds)
  | dic {a : Addr} {xs : List (Key × V)} {ds : List (Key × D)} : g.G a = some (.dK xs) → RepK K g xs ds → Rep K g (.ref a) (.dic ds)
  | obj {a C dx : Addr} {xs : List (Str × V)} {ds : List (Str × D)} : g.G a = some (.ins C dx xs) → RepF K g xs ds → Rep K g (.ref a) (.obj C ds)
  | ref (a : Addr) : Rep K g (.ref a) (.ref a)
  | pen {a : Addr} : g.pm a = true → Rep K g (.ref a) .pen
inductive RepL (K : PySem.W.Frag) (g : Gh) : List V → List D → Prop
  | nil : RepL K g [] []
  | cons {v : V} {vs : List V} {d : D} {ds : List D} : Rep K g v d → RepL K g vs ds → RepL K g (v :: vs) (d :: ds)
inductive RepK (K : PySem.W.Frag) (g : Gh) : List (Key × V) → List (Key × D) → Prop
  | nil : RepK K g [] []
  | cons {k : Key} {v : V} {vs : List (Key × V)} {d : D} {ds : List (Key × D)} : Rep K g v d → RepK K g vs ds → RepK K g ((k, v) :: vs) ((k, d) :: ds)
inductive RepF (K : PySem.W.Frag) (g : Gh) : List (Str × V) → List (Str × D) → Prop
  | nil : RepF K g [] []
  | cons {k : Str} {v : V} {vs : List (Str × V)} {d : D} {ds : List (Str × D)} : Rep K g v d → RepF K g vs ds → RepF K g ((k, v) :: vs) ((k, d) :: ds)
end

/-- more is known -/
structure Gh.le (g g' : Gh) : Prop where
  G : ∀ a u, g.G a = some u → g'.G a = some u
  pm : ∀ a, g.pm a = true → g'.pm a = true
theorem Gh.le.rfl {g : Gh} : g.le g := ⟨fun _ _ h => h, fun _ h => h⟩
theorem Gh.le.trans {g g1 g2 : Gh} (a : g.le g1) (b : g1.le g2) : g.le g2 := ⟨fun c u h => b.G c u (a.G c u h), fun c h => b.pm c (a.pm c h)⟩

section
variable {K : PySem.W.Frag} {g g' : Gh}
theorem Rd_le (h : g.le g') {a : Addr} {u : HO} (r : Rd g.G a u) : Rd g'.G a u := by
  rcases r with r | ⟨o, r⟩
  · exact .inl (h.G _ _ r)
  · exact .inr ⟨o, h.G _ _ r⟩
theorem SqL_le (h : g.le g') {a : Addr} {xs : List V} (r : SqL K g.G a xs) : SqL K g'.G a xs := r.imp (Rd_le h) id
theorem SqT_le (h : g.le g') {a : Addr} {xs : List V} (r : SqT K g.G a xs) : SqT K g'.G a xs := r.imp (Rd_le h) id
mutual
theorem Rep.le (h : g.le g') : ∀ {v : V} {d : D}, Rep K g v d → Rep K g' v d
  | _, _, .non => .non
  | _, _, .bl b => .bl b
  | _, _, .int i => .int i
  | _, _, .str x => .str x
  | _, _, .ty n => .ty n
  | _, _, .lst s r => .lst (SqL_le h s) (RepL.le h r)
  | _, _, .tup s r => .tup (SqT_le h s) (RepL.le h r)
  | _, _, .dic s r => .dic (h.G _ _ s) (RepK.le h r)
  | _, _, .obj s r => .obj (h.G _ _ s) (RepF.le h r)
  | _, _, .ref a => .ref a
  | _, _, .pen s => .pen (h.pm _ s)
theorem RepL.le (h : g.le g') : ∀ {v : List V} {d : List D}, RepL K g v d → RepL K g' v d
  | _, _, .nil => .nil
  | _, _, .cons a r => .cons (Rep.le h a) (RepL.le h r)
theorem RepK.le (h : g.le g') : ∀ {v : List (Key × V)} {d : List (Key × D)}, RepK K g v d → RepK K g' v d
  | _, _, .nil => .nil
  | _, _, .cons a r => .cons (Rep.le h a) (RepK.le h r)
theorem RepF.le (h : g.le g') : ∀ {v : List (Str × V)} {d : List (Str × D)}, RepF K g v d → RepF K g' v d
  | _, _, .nil => .nil
  | _, _, .cons a r => .cons (Rep.le h a) (RepF.le h r)
end
theorem RepL.length : ∀ {v : List V} {d : List D}, RepL K g v d → v.length = d.length
  | _, _, .nil => rfl
  | _, _, .cons _ r => congrArg Nat.succ (RepL.length r)
theorem RepK.length : ∀ {v : List (Key × V)} {d : List (Key × D)}, RepK K g v d → v.length = d.length
  | _, _, .nil => rfl
  | _, _, .cons _ r => congrArg Nat.succ (RepK.length r)
theorem RepF.length : ∀ {v : List (Str × V)} {d : List (Str × D)}, RepF K g v d → v.length = d.length
  | _, _, .nil => rfl
  | _, _, .cons _ r => congrArg Nat.succ (RepF.length r)
theorem RepL.get : ∀ {v : List V} {d : List D} {i : Nat} {x : D}, RepL K g v d → d[i]? = some x → ∃ u, v[i]? = some u ∧ Rep K g u x
  | _, _, _, _, .nil, e => by simp at e
  | _, _, 0, _, .cons a _, e => by simp at e; subst e; exact ⟨_, rfl, a⟩
  | _, _, i + 1, x, .cons _ r, e => by
    obtain ⟨u, h1, h2⟩ := RepL.get (i := i) (x := x) r (by simpa using e)
    exact ⟨u, by simpa using h1, h2⟩
theorem RepL.getV : ∀ {v : List V} {d : List D} {i : Nat} {u : V}, RepL K g v d → v[i]? = some u → ∃ x, d[i]? = some x ∧ Rep K g u x
  | _, _, _, _, .nil, e => by simp at e
  | _, _, 0, _, .cons a _, e => by simp at e; subst e; exact ⟨_, rfl, a⟩
  | _, _, i + 1, x, .cons _ r, e => by
    obtain ⟨u, h1, h2⟩ := RepL.getV (i := i) (u := x) r (by simpa using e)
    exact ⟨u, by simpa using h1, h2⟩
theorem RepL.append : ∀ {v v' : List V} {d d' : List D}, RepL K g v d → RepL K g v' d' → RepL K g (v ++ v') (d ++ d')
  | _, _, _, _, .nil, s => s
  | _, _, _, _, .cons a r, s => .cons a (RepL.append r s)
theorem RepL.take : ∀ {v : List V} {d : List D} (n : Nat), RepL K g v d → RepL K g (v.take n) (d.take n)
  | _, _, 0, _ => .nil
  | _, _, _ + 1, .nil => .nil
  | _, _, n + 1, .cons a r => .cons a (RepL.take n r)
theorem RepL.drop : ∀ {v : List V} {d : List D} (n : Nat), RepL K g v d → RepL K g (v.drop n) (d.drop n)
  | _, _, 0, r => r
  | _, _, _ + 1, .nil => .nil
  | _, _, n + 1, .cons _ r => RepL.drop n r
theorem RepL.reverse : ∀ {v : List V} {d : List D}, RepL K g v d → RepL K g v.reverse d.reverse
  | _, _, .nil => .nil
  | _, _, .cons a r => by
    rw [List.reverse_cons, List.reverse_cons]
    exact RepL.append (RepL.reverse r) (.cons a .nil)
theorem RepL.eraseIdx : ∀ {v : List V} {d : List D} (n : Nat), RepL K g v d → RepL K g (v.eraseIdx n) (d.eraseIdx n)
  | _, _, _, .nil => .nil
  | _, _, 0, .cons _ r => r
  | _, _, n + 1, .cons a r => .cons a (RepL.eraseIdx n r)
theorem RepL.set : ∀ {v : List V} {d : List D} (n : Nat) {x : V} {y : D}, Rep K g x y → RepL K g v d → RepL K g (v.set n x) (d.set n y)
  | _, _, _, _, _, _, .nil => .nil
  | _, _, 0, _, _, q, .cons _ r => .cons q r
  | _, _, n + 1, _, _, q, .cons a r => .cons a (RepL.set n q r)
theorem RepL.dropLast : ∀ {v : List V} {d : List D}, RepL K g v d → RepL K g v.dropLast d.dropLast := fun {v d} r => by
  rw [List.dropLast_eq_take, List.dropLast_eq_take, r.length]
  exact r.take _
end

/-- what stands at an address that may change -/
inductive RepM (K : PySem.W.Frag) (g : Gh) : MO → HO → Prop
  | lst {xs : List V} {ds : List D} : RepL K g xs ds → RepM K g (.lst ds) (.lst xs)
  | dic {xs : List (Key × V)} {ds : List (Key × D)} : RepK K g xs ds → RepM K g (.dic ds) (.dK xs)
  | ins {C dx : Addr} {xs : List (Str × V)} {ds : List (Str × D)} : RepF K g xs ds → RepM K g (.ins C dx ds) (.ins C dx xs)
theorem RepM.le {K : PySem.W.Frag} {g g' : Gh} (h : g.le g') {m : MO} {o : HO} (r : RepM K g m o) : RepM K g' m o := by
  cases r with
  | lst r => exact .lst (r.le h)
  | dic r => exact .dic (r.le h)
  | ins r => exact .ins (r.le h)

/-- a pen: its cells (never changed), how often it was asked, what is left of the number -/
def PenR (K : PySem.W.Frag) (G : Hp) (xs : List V) (n : Nat) : Prop :=
  ∃ (c : Addr) (ns : List Int) (i : Nat) (r : Int), xs = [.ref c, .int (i : Nat), .int r] ∧ SqL K G c (ns.map V.int) ∧ ns.length ≤ 60 ∧ i ≤ n ∧ 0 ≤ r

structure Rel (K : PySem.W.Frag) (c : Ck) (g : Gh) (w : W) (H : Hp) : Prop where
  imm : ∀ a u, g.G a = some u → (c.L a = none ∧ H a = some u) ∨ ∃ o, c.L a = some o ∧ H a = some (.frz o u)
  lck : ∀ a o, c.L a = some o → ∃ u, g.G a = some (.dK u)
  mu : ∀ a m, w.m a = some m → g.G a = none ∧ c.F a = none ∧ g.pm a = false ∧ ∃ o, H a = some o ∧ RepM K g m o
  frm : ∀ a o, c.F a = some o → H a = some o ∧ g.G a = none ∧ g.pm a = false
  pen : ∀ a, g.pm a = true → g.G a = none ∧ ∃ xs, H a = some (.lst xs) ∧ PenR K g.G xs w.n
  ex : w.e = c.e

section
variable {K : PySem.W.Frag} {c : Ck} {g g' : Gh} {w : W} {H : Hp}
theorem Rel.noG (R : Rel K c g w H) {p : Addr} (h : H p = none) : g.G p = none := by
  cases e : g.G p with
  | none => rfl
  | some u =>
    rcases R.imm p u e with ⟨_, q⟩ | ⟨o, _, q⟩ <;> · rw [h] at q; cases q
theorem Rel.noM (R : Rel K c g w H) {p : Addr} (h : H p = none) : w.m p = none := by
  cases e : w.m p with
  | none => rfl
  | some u =>
    obtain ⟨_, _, _, o, q, _⟩ := R.mu p u e
    rw [h] at q; cases q
theorem Rel.noF (R : Rel K c g w H) {p : Addr} (h : H p = none) : c.F p = none := by
  cases e : c.F p with
  | none => rfl
  | some u =>
    obtain ⟨q, _⟩ := R.frm p u e
    rw [h] at q; cases q
theorem Rel.noP (R : Rel K c g w H) {p : Addr} (h : H p = none) : g.pm p = false := by
  cases e : g.pm p with
  | false => rfl
  | true =>
    obtain ⟨_, xs, q, _⟩ := R.pen p e
    rw [h] at q; cases q
theorem Rel.noL (R : Rel K c g w H) {p : Addr} (h : g.G p = none) : c.L p = none := by
  cases e : c.L p with
  | none => rfl
  | some o =>
    obtain ⟨u, q⟩ := R.lck p o e
    rw [h] at q; cases q
def Gh.add (g : Gh) (p : Addr) (o : HO) : Gh := ⟨upd g.G p o, g.pm⟩
theorem Gh.add_le {p : Addr} {o : HO} (h : g.G p = none) : g.le (g.add p o) :=
  ⟨fun a u e => by
    show upd g.G p o a = some u
    rw [upd_ne (ne_of_none e h)]
    exact e, fun _ e => e⟩
theorem Gh.add_at {p : Addr} {o : HO} : (g.add p o).G p = some o := upd_same
theorem PenR.le {xs : List V} {n n' : Nat} (h : g.le g') (hn : n ≤ n') (r : PenR K g.G xs n) : PenR K g'.G xs n' := by
  obtain ⟨c, ns, i, r, e, s, l, h1, h2⟩ := r
  exact ⟨c, ns, i, r, e, SqL_le h s, l, Nat.le_trans h1 hn, h2⟩
/-- a new object that will not change -/
theorem Rel.alloc (R : Rel K c g w H) {p : Addr} {o : HO} (h : H p = none) : Rel K c (g.add p o) w (upd H p o) := by
  have hG := R.noG h
  have le := Gh.add_le (o := o) hG
  have ne : ∀ {a : Addr}, g.pm a = true → a ≠ p := fun {a} e z => by rw [z, R.noP h] at e; cases e
  refine ⟨fun a u e => ?_, fun a q e => ?_, fun a m e => ?_, fun a q e => ?_, fun a e => ?_, R.ex⟩
  · by_cases ha : a = p
    · subst ha
      have e' : upd g.G a o a = some u := e
      rw [upd_same] at e'; cases e'
      exact .inl ⟨R.noL hG, upd_same⟩
    · have e' : upd g.G p o a = some u := e
      rw [upd_ne ha] at e'
      rw [upd_ne ha]
      exact R.imm a u e'
  · obtain ⟨u, q⟩ := R.lck a q e
    exact ⟨u, le.G _ _ q⟩
  · obtain ⟨h1, h2, h3, o', h4, h5⟩ := R.mu a m e
    have ha : a ≠ p := ne_of_none h4 h
    exact ⟨by show upd g.G p o a = none; rw [upd_ne ha]; exact h1, h2, h3, o', by rw [upd_ne ha]; exact h4, h5.le le⟩
  · obtain ⟨h1, h2, h3⟩ := R.frm a q e
    have ha : a ≠ p := ne_of_none h1 h
    exact ⟨by rw [upd_ne ha]; exact h1, by show upd g.G p o a = none; rw [upd_ne ha]; exact h2, h3⟩
  · obtain ⟨h1, xs, h2, h3⟩ := R.pen a e
    have ha : a ≠ p := ne_of_none h2 h
    exact ⟨by show upd g.G p o a = none; rw [upd_ne ha]; exact h1, xs, by rw [upd_ne ha]; exact h2, h3.le le (Nat.le_refl _)⟩
/-- a new object that may change -/
theorem Rel.allocM (R : Rel K c g w H) {p : Addr} {o : HO} {m : MO} (h : H p = none) (r : RepM K g m o) : Rel K c g (w.put p m) (upd H p o) := by
  have hG := R.noG h
  refine ⟨fun a u e => ?_, R.lck, fun a m' e => ?_, fun a q e => ?_, fun a e => ?_, R.ex⟩
  · have ha : a ≠ p := ne_of_none e hG
    rw [upd_ne ha]
    exact R.imm a u e
  · by_cases ha : a = p
    · subst ha
      have e' : updM w.m a m a = some m' := e
      rw [updM_same] at e'; cases e'
      exact ⟨hG, R.noF h, R.noP h, o, upd_same, r⟩
    · have e' : updM w.m p m a = some m' := e
      rw [updM_ne ha] at e'
      obtain ⟨h1, h2, h3, o', h4, h5⟩ := R.mu a m' e'
      exact ⟨h1, h2, h3, o', by rw [upd_ne ha]; exact h4, h5⟩
  · obtain ⟨h1, h2, h3⟩ := R.frm a q e
    exact ⟨by rw [upd_ne (ne_of_none h1 h)]; exact h1, h2, h3⟩
  · obtain ⟨h1, xs, h2, h3⟩ := R.pen a e
    exact ⟨h1, xs, by rw [upd_ne (ne_of_none h2 h)]; exact h2, h3⟩
/-- a changing object is written -/
theorem Rel.write (R : Rel K c g w H) {p : Addr} {o : HO} {m m0 : MO} (h : w.m p = some m0) (r : RepM K g m o) : Rel K c g (w.put p m) (upd H p o) := by
  obtain ⟨hG, hF, hP, o0, h0, _⟩ := R.mu p m0 h
  refine ⟨fun a u e => ?_, R.lck, fun a m' e => ?_, fun a q e => ?_, fun a e => ?_, R.ex⟩
  · have ha : a ≠ p := ne_of_none e hG
    rw [upd_ne ha]
    exact R.imm a u e
  · by_cases ha : a = p
    · subst ha
      have e' : updM w.m a m a = some m' := e
      rw [updM_same] at e'; cases e'
      exact ⟨hG, hF, hP, o, upd_same, r⟩
    · have e' : updM w.m p m a = some m' := e
      rw [updM_ne ha] at e'
      obtain ⟨h1, h2, h3, o', h4, h5⟩ := R.mu a m' e'
      exact ⟨h1, h2, h3, o', by rw [upd_ne ha]; exact h4, h5⟩
  · obtain ⟨h1, h2, h3⟩ := R.frm a q e
    have ha : a ≠ p := fun z => by rw [z, hF] at e; cases e
    exact ⟨by rw [upd_ne ha]; exact h1, h2, h3⟩
  · obtain ⟨h1, xs, h2, h3⟩ := R.pen a e
    have ha : a ≠ p := fun z => by rw [z, hP] at e; cases e
    exact ⟨h1, xs, by rw [upd_ne ha]; exact h2, h3⟩
/-- a changing object is held fast from now on -/
theorem Rel.freeze (R : Rel K c g w H) {p : Addr} {m : MO} (h : w.m p = some m) : ∃ o, RepM K g m o ∧ g.le (g.add p o) ∧ Rel K c (g.add p o) (w.del p) H := by
  obtain ⟨hG, hF, hP, o, h0, r⟩ := R.mu p m h
  have le := Gh.add_le (o := o) hG
  refine ⟨o, r, le, fun a u e => ?_, fun a q e => ?_, fun a m' e => ?_, fun a q e => ?_, fun a e => ?_, R.ex⟩
  · by_cases ha : a = p
    · subst ha
      have e' : upd g.G a o a = some u := e
      rw [upd_same] at e'; cases e'
      exact .inl ⟨R.noL hG, h0⟩
    · have e' : upd g.G p o a = some u := e
      rw [upd_ne ha] at e'
      exact R.imm a u e'
  · obtain ⟨u, q⟩ := R.lck a q e
    exact ⟨u, le.G _ _ q⟩
  · have ha : a ≠ p := fun z => by
      subst z
      have e' : delM w.m a a = some m' := e
      rw [delM_same] at e'; cases e'
    have e' : delM w.m p a = some m' := e
    rw [delM_ne ha] at e'
    obtain ⟨h1, h2, h3, o', h4, h5⟩ := R.mu a m' e'
    exact ⟨by show upd g.G p o a = none; rw [upd_ne ha]; exact h1, h2, h3, o', h4, h5.le le⟩
  · obtain ⟨h1, h2, h3⟩ := R.frm a q e
    have ha : a ≠ p := fun z => by rw [z, hF] at e; cases e
    exact ⟨h1, by show upd g.G p o a = none; rw [upd_ne ha]; exact h2, h3⟩
  · obtain ⟨h1, xs, h2, h3⟩ := R.pen a e
    have ha : a ≠ p := fun z => by
      have e' : g.pm a = true := e
      rw [z, hP] at e'; cases e'
    exact ⟨by show upd g.G p o a = none; rw [upd_ne ha]; exact h1, xs, h2, h3.le le (Nat.le_refl _)⟩
/-- the pen was asked more often, at most -/
theorem Rel.later (R : Rel K c g w H) (k : Nat) : Rel K c g (w.tick k) H :=
  ⟨R.imm, R.lck, R.mu, R.frm, fun a e => by
    obtain ⟨h1, xs, h2, h3⟩ := R.pen a e
    exact ⟨h1, xs, h2, h3.le .rfl (Nat.le_add_right _ _)⟩, R.ex⟩
/-- what changes is forgotten -/
theorem Rel.drop (R : Rel K c g w H) (p : Addr) : Rel K c g (w.del p) H :=
  ⟨R.imm, R.lck, fun a m e => by
    have ha : a ≠ p := fun z => by
      subst z
      have e' : delM w.m a a = some m := e
      rw [delM_same] at e'; cases e'
    have e' : delM w.m p a = some m := e
    rw [delM_ne ha] at e'
    exact R.mu a m e', R.frm, R.pen, R.ex⟩
/-- what does not change may be read -/
theorem Rel.rd (R : Rel K c g w H) {a : Addr} {u : HO} (h : g.G a = some u) : Rd H a u := by
  rcases R.imm a u h with ⟨_, q⟩ | ⟨o, _, q⟩
  · exact .inl q
  · exact .inr ⟨o, q⟩
theorem Rel.sqL (R : Rel K c g w H) {a : Addr} {xs : List V} (h : SqL K g.G a xs) : SqL K H a xs := by
  rcases h with (h | ⟨o, h⟩) | h
  · exact .inl (R.rd h)
  · rcases R.imm a _ h with ⟨_, q⟩ | ⟨o', e, q⟩
    · exact .inl (.inr ⟨o, q⟩)
    · obtain ⟨u, q'⟩ := R.lck a o' e
      rw [h] at q'; cases q'
  · exact .inr h
theorem Rel.sqT (R : Rel K c g w H) {a : Addr} {xs : List V} (h : SqT K g.G a xs) : SqT K H a xs := by
  rcases h with (h | ⟨o, h⟩) | h
  · exact .inl (R.rd h)
  · rcases R.imm a _ h with ⟨_, q⟩ | ⟨o', e, q⟩
    · exact .inl (.inr ⟨o, q⟩)
    · obtain ⟨u, q'⟩ := R.lck a o' e
      rw [h] at q'; cases q'
  · exact .inr h
/-- an instance is never locked -/
theorem Rel.ins (R : Rel K c g w H) {a C dx : Addr} {fs : List (Str × V)} (h : g.G a = some (.ins C dx fs)) : H a = some (.ins C dx fs) := by
  rcases R.imm a _ h with ⟨_, q⟩ | ⟨o', e, q⟩
  · exact q
  · obtain ⟨u, q'⟩ := R.lck a o' e
    rw [h] at q'; cases q'
theorem Rel.tupH (R : Rel K c g w H) {a : Addr} {xs : List V} (h : g.G a = some (.tup xs)) : H a = some (.tup xs) := by
  rcases R.imm a _ h with ⟨_, q⟩ | ⟨o', e, q⟩
  · exact q
  · obtain ⟨u, q'⟩ := R.lck a o' e
    rw [h] at q'; cases q'
end
end DL

/-! DLb: readings over trees; names, constants, operators, tests, blocks. -/
namespace DL
open PySem PySem.Spec PyProof.Rows L2
abbrev St := L2.St

theorem PE_imp {X : Cx} {e : Expr} {t t' : TE} (h : PE X e t) (i : ∀ σ H Q, t' σ H Q → t σ H Q) : PE X e t' := ⟨fun pins s σ H Q I q => h.run pins s σ H Q I (i σ H Q q)⟩
theorem PT_imp {X : Cx} {e : Expr} {t t' : TT} (h : PT X e t) (i : ∀ σ H Q, t' σ H Q → t σ H Q) : PT X e t' := ⟨fun pins s σ H Q I q => h.run pins s σ H Q I (i σ H Q q)⟩
theorem PW_imp {X : Cx} {e : Expr} {t t' : TT} (h : PW X e t) (i : ∀ σ H Q, t' σ H Q → t σ H Q) : PW X e t' := ⟨fun wh pins s σ H Q I q => h.run wh pins s σ H Q I (i σ H Q q)⟩
theorem PA_imp {X : Cx} {e : List Expr} {t t' : TA} (h : PA X e t) (i : ∀ σ H Q, t' σ H Q → t σ H Q) : PA X e t' := ⟨fun po pins s σ H Q I q => h.run po pins s σ H Q I (i σ H Q q)⟩
theorem PS_imp {X : Cx} {e : Stmt} {t t' : TS} (h : PS X e t) (i : ∀ D σ H, t' D σ H → t D σ H) : PS X e t' := ⟨fun pins s σ H D I q => h.run pins s σ H D I (i D σ H q)⟩
theorem PSs_imp {X : Cx} {e : List Stmt} {t t' : TS} (h : PSs X e t) (i : ∀ D σ H, t' D σ H → t D σ H) : PSs X e t' := ⟨fun pins s σ H D I q => h.run pins s σ H D I (i D σ H q)⟩
theorem PS_or {X : Cx} {e : Stmt} {t t' : TS} (h : PS X e t) (h' : PS X e t') : PS X e fun D σ H => t D σ H ∨ t' D σ H := ⟨fun pins s σ H D I q => q.elim (h.run pins s σ H D I) (h'.run pins s σ H D I)⟩
theorem PE_or {X : Cx} {e : Expr} {t t' : TE} (h : PE X e t) (h' : PE X e t') : PE X e fun σ H Q => t σ H Q ∨ t' σ H Q := ⟨fun pins s σ H Q I q => q.elim (h.run pins s σ H Q I) (h'.run pins s σ H Q I)⟩
theorem OpR_or {X : Cx} {f : Value → Value → Sem Value} {r r' : R2} (h : OpR X f r) (h' : OpR X f r') : OpR X f fun x y H Q => r x y H Q ∨ r' x y H Q := fun pins s σ H x y v u Q I rx ry q =>
  q.elim (h pins s σ H x y v u Q I rx ry) (h' pins s σ H x y v u Q I rx ry)

/-! ### the readings' types -/
abbrev DK := D → W → Prop
abbrev DTE := En → W → DK → Prop
abbrev DTT := En → W → (Bool → W → Prop) → Prop
abbrev DTA := En → W → (List D → W → Prop) → Prop
structure DEnds where
  nx : En → W → Prop
  rt : DK
  bk : En → W → Prop := fun _ _ => False
  ct : En → W → Prop := fun _ _ => False
abbrev DTS := DEnds → En → W → Prop

structure EnR (K : PySem.W.Frag) (g : Gh) (env : En) (σ : St) : Prop where
  len : env.length = σ.length
  at_ : ∀ (i : Nat) d, env[i]? = some (some d) → ∃ v, σ[i]? = some (some v) ∧ Rep K g v d
theorem EnR.le {K : PySem.W.Frag} {g g' : Gh} (h : g.le g') {env : En} {σ : St} (e : EnR K g env σ) : EnR K g' env σ := ⟨e.len, fun i d q => let ⟨v, a, r⟩ := e.at_ i d q; ⟨v, a, r.le h⟩⟩
theorem EnR.set {K : PySem.W.Frag} {g : Gh} {env : En} {σ : St} (e : EnR K g env σ) {i : Nat} {v : V} {d : D} (r : Rep K g v d) : EnR K g (env.set i (some d)) (σ.set i (some v)) := by
  refine ⟨by rw [List.length_set, List.length_set]; exact e.len, fun j x q => ?_⟩
  by_cases h : i = j
  · subst h
    by_cases hi : i < env.length
    · rw [List.getElem?_set_self hi] at q
      cases q
      exact ⟨v, by rw [List.getElem?_set_self (by rw [← e.len]; exact hi)], r⟩
    · rw [List.getElem?_eq_none (by rw [List.length_set]; omega)] at q
      cases q
  · rw [List.getElem?_set_ne h] at q
    rw [List.getElem?_set_ne h]
    exact e.at_ j x q
/-- a slot is told otherwise -/
theorem EnR.tell {K : PySem.W.Frag} {g : Gh} {env : En} {σ : St} (e : EnR K g env σ) {i : Nat} {d : D} (r : ∀ v, σ[i]? = some (some v) → Rep K g v d) {d0 : D} (h0 : env[i]? = some (some d0)) : EnR K g (env.set i (some d)) σ := by
  refine ⟨by rw [List.length_set]; exact e.len, fun j x q => ?_⟩
  by_cases h : i = j
  · subst h
    obtain ⟨v, a, _⟩ := e.at_ i d0 h0
    have hi : i < env.length := (List.getElem?_eq_some_iff.mp h0).1
    rw [List.getElem?_set_self hi] at q
    cases q
    exact ⟨v, a, r v a⟩
  · rw [List.getElem?_set_ne h] at q
    exact e.at_ j x q
/-- a slot is forgotten -/
theorem EnR.none {K : PySem.W.Frag} {g : Gh} {env : En} {σ : St} (e : EnR K g env σ) (i : Nat) : EnR K g (env.set i none) σ := by
  refine ⟨by rw [List.length_set]; exact e.len, fun j x q => ?_⟩
  by_cases h : i = j
  · subst h
    by_cases hi : i < env.length
    · rw [List.getElem?_set_self hi] at q; cases q
    · rw [List.getElem?_eq_none (by rw [List.length_set]; omega)] at q; cases q
  · rw [List.getElem?_set_ne h] at q
    exact e.at_ j x q

/-! ### from a reading over trees to one over the tracked heap -/
def PQ (K : PySem.W.Frag) (c : Ck) (g : Gh) (Q : DK) (v : V) (H : Hp) : Prop := ∃ g' w d, g.le g' ∧ Rel K c g' w H ∧ Rep K g' v d ∧ Q d w
def PB (K : PySem.W.Frag) (c : Ck) (g : Gh) (Q : Bool → W → Prop) (b : Bool) (H : Hp) : Prop := ∃ g' w, g.le g' ∧ Rel K c g' w H ∧ Q b w
def PL (K : PySem.W.Frag) (c : Ck) (g : Gh) (Q : List D → W → Prop) (vs : List V) (H : Hp) : Prop := ∃ g' w ds, g.le g' ∧ Rel K c g' w H ∧ RepL K g' vs ds ∧ Q ds w
theorem PQ.up {K : PySem.W.Frag} {c : Ck} {g g1 : Gh} {Q : DK} {v : V} {H : Hp} (l : g.le g1) (h : PQ K c g1 Q v H) : PQ K c g Q v H := let ⟨g', w, d, a, b⟩ := h; ⟨g', w, d, l.trans a, b⟩
theorem PB.up {K : PySem.W.Frag} {c : Ck} {g g1 : Gh} {Q : Bool → W → Prop} {v : Bool} {H : Hp} (l : g.le g1) (h : PB K c g1 Q v H) : PB K c g Q v H := let ⟨g', w, a, b⟩ := h; ⟨g', w, l.trans a, b⟩
theorem PL.up {K : PySem.W.Frag} {c : Ck} {g g1 : Gh} {Q : List D → W → Prop} {v : List V} {H : Hp} (l : g.le g1) (h : PL K c g1 Q v H) : PL K c g Q v H := let ⟨g', w, d, a, b⟩ := h; ⟨g', w, d, l.trans a, b⟩

/-- an exception as it is wanted -/
def PX (K : PySem.W.Frag) (c : Ck) (g : Gh) (e : Addr → Option (List (Str × D)) → Mem → Nat → Prop) (cls : Value) (d : Option Addr) (H : Hp) : Prop := ∃ g' w C fs, cls = .ref C ∧ g.le g' ∧ Rel K c g' w H ∧ e C fs w.m w.n ∧
  match d with
  | none => fs = none
  | some dx => ∃ xs ds, H dx = some (.xd xs) ∧ RepF K g' xs ds ∧ fs = some ds
theorem PX.up {K : PySem.W.Frag} {c : Ck} {g g1 : Gh} {e : Addr → Option (List (Str × D)) → Mem → Nat → Prop} {cls : Value} {d : Option Addr} {H : Hp} (l : g.le g1) (h : PX K c g1 e cls d H) : PX K c g e cls d H :=
  let ⟨g', w, C, fs, a, b, r⟩ := h; ⟨g', w, C, fs, a, l.trans b, r⟩
/-- where one stands -/
structure Bx (K : PySem.W.Frag) (Wv : WX) (c : Ck) (g : Gh) (env : En) (w : W) (σ : St) (H : Hp) : Prop where
  R : Rel K c g w H
  E : EnR K g env σ
  X : ∀ env' σ' H' cls d g', g.le g' → EnR K g' env' σ' → PX K c g' (c.e env') cls d H' → Wv cls d σ' H'
theorem Bx.step {K : PySem.W.Frag} {Wv : WX} {c : Ck} {g g' : Gh} {env : En} {w w' : W} {σ : St} {H H' : Hp} (B : Bx K Wv c g env w σ H) (l : g.le g') (R : Rel K c g' w' H') : Bx K Wv c g' env w' σ H' :=
  ⟨R, B.E.le l, fun env' σ' H' cls d g2 l2 => B.X env' σ' H' cls d g2 (l.trans l2)⟩
theorem Bx.env {K : PySem.W.Frag} {Wv : WX} {c : Ck} {g : Gh} {env env' : En} {w : W} {σ σ' : St} {H : Hp} (B : Bx K Wv c g env w σ H) (E : EnR K g env' σ') : Bx K Wv c g env' w σ' H := ⟨B.R, E, B.X⟩
def liftE (K : PySem.W.Frag) (Wv : WX) (t : DTE) : TE := fun σ H Qv => ∃ c g env w Q, Bx K Wv c g env w σ H ∧ t env w Q ∧ ∀ v H', PQ K c g Q v H' → Qv v H'
def liftT (K : PySem.W.Frag) (Wv : WX) (t : DTT) : TT := fun σ H Qv => ∃ c g env w Q, Bx K Wv c g env w σ H ∧ t env w Q ∧ ∀ v H', PB K c g Q v H' → Qv v H'
def liftA (K : PySem.W.Frag) (Wv : WX) (t : DTA) : TA := fun σ H Qv => ∃ c g env w Q, Bx K Wv c g env w σ H ∧ t env w Q ∧ ∀ v H', PL K c g Q v H' → Qv v H'
structure EndsLe (K : PySem.W.Frag) (Wv : WX) (c : Ck) (g : Gh) (D : DEnds) (Dv : Ends) : Prop where
  nx : ∀ env w σ H g', g.le g' → Bx K Wv c g' env w σ H → D.nx env w → Dv.nx σ H
  rt : ∀ v H, PQ K c g D.rt v H → Dv.rt v H
  bk : ∀ env w σ H g', g.le g' → Bx K Wv c g' env w σ H → D.bk env w → Dv.bk σ H
  ct : ∀ env w σ H g', g.le g' → Bx K Wv c g' env w σ H → D.ct env w → Dv.ct σ H
theorem EndsLe.up {K : PySem.W.Frag} {Wv : WX} {c : Ck} {g g1 : Gh} {D : DEnds} {Dv : Ends} (l : g.le g1) (h : EndsLe K Wv c g D Dv) : EndsLe K Wv c g1 D Dv :=
  ⟨fun env w σ H g' a => h.nx env w σ H g' (l.trans a), fun v H q => h.rt v H (q.up l), fun env w σ H g' a => h.bk env w σ H g' (l.trans a), fun env w σ H g' a => h.ct env w σ H g' (l.trans a)⟩
def liftS (K : PySem.W.Frag) (Wv : WX) (t : DTS) : TS := fun Dv σ H => ∃ c g env w D, Bx K Wv c g env w σ H ∧ t D env w ∧ EndsLe K Wv c g D Dv

/-- a call's way out, from any place -/
structure DE (X : Cx) (Wv : WX) (e : Expr) (t : DTE) : Prop where
  pe : PE X e (liftE X.K Wv t)
structure DT (X : Cx) (Wv : WX) (e : Expr) (t : DTT) : Prop where
  pt : PT X e (liftT X.K Wv t)
structure DW (X : Cx) (Wv : WX) (e : Expr) (t : DTT) : Prop where
  pw : PW X e (liftT X.K Wv t)
structure DA (X : Cx) (Wv : WX) (es : List Expr) (t : DTA) : Prop where
  pa : PA X es (liftA X.K Wv t)
structure DS (X : Cx) (Wv : WX) (st : Stmt) (t : DTS) : Prop where
  ps : PS X st (liftS X.K Wv t)
structure DSs (X : Cx) (Wv : WX) (st : List Stmt) (t : DTS) : Prop where
  ps : PSs X st (liftS X.K Wv t)

section
variable {K : PySem.W.Frag} {Wv : WX} {c : Ck} {g : Gh} {env : En} {w : W} {H : Hp} {σ : St}
theorem bindE {t : DTE} {Q : DK} {Qv : VK} (B : Bx K Wv c g env w σ H) (h : t env w Q)
    (k : ∀ v H1 g1 w1 x, g.le g1 → Bx K Wv c g1 env w1 σ H1 → Rep K g1 v x → Q x w1 → Qv v H1) : liftE K Wv t σ H Qv :=
  ⟨c, g, env, w, Q, B, h, fun v H' ⟨g', w', d, l, R', r, q⟩ => k v H' g' w' d l (B.step l R') r q⟩
theorem bindT {t : DTT} {Q : Bool → W → Prop} {Qv : Bool → Hp → Prop} (B : Bx K Wv c g env w σ H) (h : t env w Q)
    (k : ∀ b H1 g1 w1, g.le g1 → Bx K Wv c g1 env w1 σ H1 → Q b w1 → Qv b H1) : liftT K Wv t σ H Qv :=
  ⟨c, g, env, w, Q, B, h, fun v H' ⟨g', w', l, R', q⟩ => k v H' g' w' l (B.step l R') q⟩
theorem bindA {t : DTA} {Q : List D → W → Prop} {Qv : List V → Hp → Prop} (B : Bx K Wv c g env w σ H) (h : t env w Q)
    (k : ∀ vs H1 g1 w1 xs, g.le g1 → Bx K Wv c g1 env w1 σ H1 → RepL K g1 vs xs → Q xs w1 → Qv vs H1) : liftA K Wv t σ H Qv :=
  ⟨c, g, env, w, Q, B, h, fun v H' ⟨g', w', d, l, R', r, q⟩ => k v H' g' w' d l (B.step l R') r q⟩
/-- an end within what is known -/
theorem PQ.of {Q : DK} {v : V} {g1 : Gh} {w1 : W} {x : D} {H1 : Hp} (l : g.le g1) (R : Rel K c g1 w1 H1) (r : Rep K g1 v x) (q : Q x w1) : PQ K c g Q v H1 := ⟨g1, w1, x, l, R, r, q⟩
end

/-! ### names, constants -/
def dVar (i : Nat) : DTE := fun env w Q => match env[i]? with
  | some (some d) => Q d w
  | _ => False
def dC (d : D) : DTE := fun _ w Q => Q d w
section
variable {X : Cx} {Wv : WX}
theorem de_c {e : Expr} {v : V} {d : D} (h : PE X e (tC v)) (r : ∀ g, Rep X.K g v d) : DE X Wv e (dC d) := ⟨PE_imp h fun σ H Qv ⟨c, g, env, w, Q, B, q, k⟩ =>
  k v H ⟨g, w, d, .rfl, B.R, r g, q⟩⟩
theorem dv (i : Nat) {x : Str} {pos : Pos} (hN : X.N[i]? = some x := by rfl) (hv : Vis X.env.scope x := by first | exact Or.inl rfl | exact Or.inr (Or.inl rfl) | exact Or.inr (Or.inr rfl)) (hd : (x == ("__debug__" : Str)) = false := by decide)
    (hcd : (x == ("__classdict__" : Str)) = false := by decide) : DE X Wv (.Name x pos) (dVar i) := ⟨PE_imp (pe_var hN hv hd hcd) fun σ H Qv ⟨c, g, env, w, Q, B, q, k⟩ => by
  unfold dVar at q
  split at q
  · rename_i d e
    obtain ⟨v, a, r⟩ := B.E.at_ i d e
    exact ⟨v, a, k v H ⟨g, w, d, .rfl, B.R, r, q⟩⟩
  · exact q.elim⟩
theorem de_int {i : Int} {j pos} : DE X Wv (.Constant (.int i) j pos) (dC (.int i)) := de_c pe_int fun _ => .int i
theorem de_bl {i : Bool} {j pos} : DE X Wv (.Constant (.bool i) j pos) (dC (.bl i)) := de_c pe_bl fun _ => .bl i
theorem de_non {j pos} : DE X Wv (.Constant .none j pos) (dC .non) := de_c pe_non fun _ => .non
theorem de_str {x : Str} {j pos} : DE X Wv (.Constant (.str x) j pos) (dC (.str x)) := de_c pe_str fun _ => .str x
/-- a module's constant -/
theorem de_glob {x : Str} {v : V} {u : Value} {pos : Pos} {d : D} (hg : Gl X x) (hm : X.mg x = some u) (r : RelV v u) (rd : ∀ g, Rep X.K g v d) (hd : (x == ("__debug__" : Str)) = false := by decide) : DE X Wv (.Name x pos) (dC d) := de_c (pe_glob hg hm r hd) rd
theorem de_gstr {x y : Str} {u : Tok} {pos : Pos} (hm : X.mg x = some (.str y u)) (hg : Gl X x := by rfl) (hd : (x == ("__debug__" : Str)) = false := by decide) : DE X Wv (.Name x pos) (dC (.str y)) := de_glob (v := .str y) hg hm ⟨_, rfl⟩ (fun _ => .str y) hd
theorem de_gint {x : Str} {y : Int} {u : Tok} {pos : Pos} (hm : X.mg x = some (.int y u)) (hg : Gl X x := by rfl) (hd : (x == ("__debug__" : Str)) = false := by decide) : DE X Wv (.Name x pos) (dC (.int y)) := de_glob (v := .int y) hg hm ⟨_, rfl⟩ (fun _ => .int y) hd
end

/-! ### operators by values -/
abbrev DR2 := D → D → W → DK → Prop
def OpD (X : Cx) (f : Value → Value → Sem Value) (r : DR2) : Prop :=
  ∃ r0 : R2, OpR X f r0 ∧ ∀ c g w H x y v u Q Qv, Rel X.K c g w H → Rep X.K g v x → Rep X.K g u y → r x y w Q → (∀ v H', PQ X.K c g Q v H' → Qv v H') → r0 v u H Qv
def dOp (r : DR2) (ta tb : DTE) : DTE := fun env w Q => ta env w fun x w1 => tb env w1 fun y w2 => r x y w2 Q
def onBl (d : D) (P : Bool → Prop) : Prop := match d with
  | .bl b => P b
  | _ => False
def dB (t : DTE) : DTT := fun env w Q => t env w fun x w1 => onBl x fun b => Q b w1
section
variable {X : Cx} {Wv : WX} {a b : Expr} {ta tb tc : DTE} {pos : Pos}
theorem dop_lift {r : DR2} {r0 : R2} (imp : ∀ c g w H x y v u Q Qv, Rel X.K c g w H → Rep X.K g v x → Rep X.K g u y → r x y w Q → (∀ v H', PQ X.K c g Q v H' → Qv v H') → r0 v u H Qv)
    {σ : St} {H : Hp} {Qv : VK} (h : liftE X.K Wv (dOp r ta tb) σ H Qv) : tOp r0 (liftE X.K Wv ta) (liftE X.K Wv tb) σ H Qv := by
  obtain ⟨c, g, env, w, Q, B, q, k⟩ := h
  exact bindE B q fun v H1 g1 w1 x l1 B1 r1 q1 => bindE B1 q1 fun u H2 g2 w2 y l2 B2 r2 q2 =>
    imp c g2 w2 H2 x y v u Q Qv B2.R (r1.le l2) r2 q2 fun v H' z => k v H' ((z.up l2).up l1)
theorem de_op {op : Operator} {r : DR2} (ho : OpD X (binaryOp op) r) (ha : DE X Wv a ta) (hb : DE X Wv b tb) : DE X Wv (.BinOp a op b pos) (dOp r ta tb) := by
  obtain ⟨r0, h0, imp⟩ := ho
  exact ⟨PE_imp (pe_op h0 ha.pe hb.pe) fun σ H Qv h => dop_lift imp h⟩
theorem de_cmp {op : CmpOp} {r : DR2} (ho : OpD X (compareOp op) r) (ha : DE X Wv a ta) (hb : DE X Wv b tb) (hm : behindInMarks op b = false := by first | exact nomark _ | rfl) : DE X Wv (.Compare a [op] [b] pos) (dOp r ta tb) := by
  obtain ⟨r0, h0, imp⟩ := ho
  exact ⟨PE_imp (pe_cmpR h0 ha.pe hb.pe hm) fun σ H Qv h => dop_lift imp h⟩
theorem dt_cmp {op : CmpOp} {r : DR2} (ho : OpD X (compareOp op) r) (ha : DE X Wv a ta) (hb : DE X Wv b tb) (hm : behindInMarks op b = false := by first | exact nomark _ | rfl) : DT X Wv (.Compare a [op] [b] pos) (dB (dOp r ta tb)) := by
  obtain ⟨r0, h0, imp⟩ := ho
  refine ⟨PT_imp (pt_cmpR h0 ha.pe hb.pe hm) fun σ H Qv h => ?_⟩
  obtain ⟨c, g, env, w, Q, B, q, k⟩ := h
  refine dop_lift imp (Qv := fun x H' => ∃ k, x = .bl k ∧ Qv k H') ⟨c, g, env, w, fun x w1 => onBl x fun b => Q b w1, B, q, fun v H' ⟨g', w', d, l, R', r', q'⟩ => ?_⟩
  cases r' with
  | bl z => exact ⟨z, rfl, k z H' ⟨g', w', l, R', q'⟩⟩
  | _ => exact False.elim q'
/-- an expression that gives a bool, as a test -/
theorem dt_val {e : Expr} {t : DTE} (h : DE X Wv e t) (he : ∀ whole, isTrue e X.env whole = (do let v ← whole; standAt e.pos; holding [v] (truthy v)) := by intro _; rfl) : DT X Wv e (dB t) := by
  refine ⟨PT_imp (pt_val h.pe he) fun σ H Qv h => ?_⟩
  obtain ⟨c, g, env, w, Q, B, q, k⟩ := h
  refine bindE B q fun v H1 g1 w1 x l1 B1 r1 q1 => ?_
  cases r1 with
  | bl z => exact ⟨z, rfl, k z H1 ⟨g1, w1, l1, B1.R, q1⟩⟩
  | _ => exact False.elim q1
def dChain (r r' : DR2) (ta tb tc : DTE) : DTE := fun env w Q => ta env w fun x w1 => tb env w1 fun y w2 => r x y w2 fun z w3 => onBl z fun k => if k = true then tc env w3 fun u w4 => r' y u w4 Q else Q (.bl false) w3
end
section
variable {X : Cx} {Wv : WX} {a b : Expr} {rest : List Expr} {tA tB : DTT} {ta tb : DTE} {pos : Pos}
def dAnd (t u : DTT) : DTT := fun env w Q => t env w fun b w1 => if b = true then u env w1 Q else Q false w1
def dOr (t u : DTT) : DTT := fun env w Q => t env w fun b w1 => if b = true then Q true w1 else u env w1 Q
def dNot (t : DTT) : DTT := fun env w Q => t env w fun b w1 => Q (!b) w1
def dIf (t : DTT) (ta tb : DTE) : DTE := fun env w Q => t env w fun b w1 => if b = true then ta env w1 Q else tb env w1 Q
theorem dw_and1 (h : DT X Wv a tA) : DW X Wv (.BoolOp .And [a] pos) tA := ⟨pw_and1 h.pt⟩
theorem dw_or1 (h : DT X Wv a tA) : DW X Wv (.BoolOp .Or [a] pos) tA := ⟨pw_or1 h.pt⟩
theorem dw_and (ha : DT X Wv a tA) (hb : DW X Wv (.BoolOp .And (b :: rest) pos) tB) : DW X Wv (.BoolOp .And (a :: b :: rest) pos) (dAnd tA tB) := by
  refine ⟨PW_imp (pw_and ha.pt hb.pw) fun σ H Qv ⟨c, g, env, w, Q, B, q, k⟩ => ?_⟩
  refine bindT B q fun z H1 g1 w1 l1 B1 q1 => ?_
  cases z with
  | true => exact iteT (bindT B1 q1 fun z H2 g2 w2 l2 B2 q2 => k z H2 ⟨g2, w2, l1.trans l2, B2.R, q2⟩)
  | false => exact iteF (k false H1 ⟨g1, w1, l1, B1.R, q1⟩)
theorem dw_or (ha : DT X Wv a tA) (hb : DW X Wv (.BoolOp .Or (b :: rest) pos) tB) : DW X Wv (.BoolOp .Or (a :: b :: rest) pos) (dOr tA tB) := by
  refine ⟨PW_imp (pw_or ha.pt hb.pw) fun σ H Qv ⟨c, g, env, w, Q, B, q, k⟩ => ?_⟩
  refine bindT B q fun z H1 g1 w1 l1 B1 q1 => ?_
  cases z with
  | true => exact iteT (k true H1 ⟨g1, w1, l1, B1.R, q1⟩)
  | false => exact iteF (bindT B1 q1 fun z H2 g2 w2 l2 B2 q2 => k z H2 ⟨g2, w2, l1.trans l2, B2.R, q2⟩)
theorem dt_w (h : DW X Wv a tA) : DT X Wv a tA := ⟨h.pw.pt⟩
theorem dt_not (h : DT X Wv a tA) : DT X Wv (.UnaryOp .Not a pos) (dNot tA) :=
  ⟨PT_imp (pt_not h.pt) fun σ H Qv ⟨c, g, env, w, Q, B, q, k⟩ => bindT B q fun z H1 g1 w1 l1 B1 q1 => k (!z) H1 ⟨g1, w1, l1, B1.R, q1⟩⟩
theorem de_if {c : Expr} (hc : DT X Wv c tA) (ha : DE X Wv a ta) (hb : DE X Wv b tb) : DE X Wv (.IfExp c a b pos) (dIf tA ta tb) := by
  refine ⟨PE_imp (pe_ifExp hc.pt ha.pe hb.pe) fun σ H Qv ⟨c, g, env, w, Q, B, q, k⟩ => ?_⟩
  refine bindT B q fun z H1 g1 w1 l1 B1 q1 => ?_
  cases z with
  | true => exact iteT (bindE B1 q1 fun v H2 g2 w2 x l2 B2 r2 q2 => k v H2 ⟨g2, w2, x, l1.trans l2, B2.R, r2, q2⟩)
  | false => exact iteF (bindE B1 q1 fun v H2 g2 w2 x l2 B2 r2 q2 => k v H2 ⟨g2, w2, x, l1.trans l2, B2.R, r2, q2⟩)
/-! bools as values -/
def dAndV (t u : DTE) : DTE := fun env w Q => t env w fun x w1 => onBl x fun b => if b = true then u env w1 Q else Q (.bl false) w1
def dOrV (t u : DTE) : DTE := fun env w Q => t env w fun x w1 => onBl x fun b => if b = true then Q (.bl true) w1 else u env w1 Q
def dNotV (t : DTE) : DTE := fun env w Q => t env w fun x w1 => onBl x fun b => Q (.bl (!b)) w1
theorem de_one {op} {t : DTE} (h : DE X Wv a t) : DE X Wv (.BoolOp op [a] pos) t := ⟨pe_one h.pe⟩
theorem de_and (ha : DE X Wv a ta) (hb : DE X Wv (.BoolOp .And (b :: rest) pos) tb) : DE X Wv (.BoolOp .And (a :: b :: rest) pos) (dAndV ta tb) := by
  refine ⟨PE_imp (pe_and ha.pe hb.pe) fun σ H Qv ⟨c, g, env, w, Q, B, q, k⟩ => ?_⟩
  refine bindE B q fun v H1 g1 w1 x l1 B1 r1 q1 => ?_
  cases r1 with
  | bl z =>
    refine ⟨z, rfl, ?_⟩
    have q1 : if z = true then tb env w1 Q else Q (.bl false) w1 := q1
    cases z with
    | true => exact iteT (bindE B1 (by simpa using q1) fun v H2 g2 w2 x l2 B2 r2 q2 => k v H2 ⟨g2, w2, x, l1.trans l2, B2.R, r2, q2⟩)
    | false => exact iteF (k _ H1 ⟨g1, w1, .bl false, l1, B1.R, .bl false, by simpa using q1⟩)
  | _ => exact False.elim q1
theorem de_or (ha : DE X Wv a ta) (hb : DE X Wv (.BoolOp .Or (b :: rest) pos) tb) : DE X Wv (.BoolOp .Or (a :: b :: rest) pos) (dOrV ta tb) := by
  refine ⟨PE_imp (pe_or ha.pe hb.pe) fun σ H Qv ⟨c, g, env, w, Q, B, q, k⟩ => ?_⟩
  refine bindE B q fun v H1 g1 w1 x l1 B1 r1 q1 => ?_
  cases r1 with
  | bl z =>
    refine ⟨z, rfl, ?_⟩
    have q1 : if z = true then Q (.bl true) w1 else tb env w1 Q := q1
    cases z with
    | false => exact iteF (bindE B1 (by simpa using q1) fun v H2 g2 w2 x l2 B2 r2 q2 => k v H2 ⟨g2, w2, x, l1.trans l2, B2.R, r2, q2⟩)
    | true => exact iteT (k _ H1 ⟨g1, w1, .bl true, l1, B1.R, .bl true, by simpa using q1⟩)
  | _ => exact False.elim q1
theorem de_not (ha : DE X Wv a ta) : DE X Wv (.UnaryOp .Not a pos) (dNotV ta) := by
  refine ⟨PE_imp (pe_not ha.pe) fun σ H Qv ⟨c, g, env, w, Q, B, q, k⟩ => ?_⟩
  refine bindE B q fun v H1 g1 w1 x l1 B1 r1 q1 => ?_
  cases r1 with
  | bl z => exact ⟨z, rfl, k _ H1 ⟨g1, w1, .bl (!z), l1, B1.R, .bl (!z), q1⟩⟩
  | _ => exact False.elim q1
end

/-! ### chains -/
section
variable {X : Cx} {Wv : WX} {a b c : Expr} {ta tb tc : DTE} {pos : Pos}
theorem chain_lift {r r' : DR2} {r0 r0' : R2} (imp : ∀ c g w H x y v u Q Qv, Rel X.K c g w H → Rep X.K g v x → Rep X.K g u y → r x y w Q → (∀ v H', PQ X.K c g Q v H' → Qv v H') → r0 v u H Qv)
    (imp' : ∀ c g w H x y v u Q Qv, Rel X.K c g w H → Rep X.K g v x → Rep X.K g u y → r' x y w Q → (∀ v H', PQ X.K c g Q v H' → Qv v H') → r0' v u H Qv)
    {σ : St} {H : Hp} {Qv : VK} (h : liftE X.K Wv (dChain r r' ta tb tc) σ H Qv) : tChain r0 r0' (liftE X.K Wv ta) (liftE X.K Wv tb) (liftE X.K Wv tc) σ H Qv := by
  obtain ⟨c, g, env, w, Q, B, q, k⟩ := h
  refine bindE B q fun v H1 g1 w1 x l1 B1 r1 q1 => bindE B1 q1 fun u H2 g2 w2 y l2 B2 r2 q2 => ?_
  refine imp c g2 w2 H2 x y v u _ _ B2.R (r1.le l2) r2 q2 fun z H3 ⟨g3, w3, d, l3, R3, rd, q3⟩ => ?_
  cases rd with
  | bl z =>
    refine ⟨z, rfl, ?_⟩
    have q3 : if z = true then tc env w3 (fun u w4 => r' y u w4 Q) else Q (.bl false) w3 := q3
    cases z with
    | true =>
      refine iteT (bindE (B2.step l3 R3) (by simpa using q3) fun v4 H4 g4 w4 x4 l4 B4 r4 q4 => ?_)
      exact imp' c g4 w4 H4 y x4 u v4 Q Qv B4.R (r2.le (l3.trans l4)) r4 q4 fun v H' z => k v H' ((((z.up l4).up l3).up l2).up l1)
    | false => exact iteF (k _ H3 ⟨g3, w3, .bl false, (l1.trans l2).trans l3, R3, .bl false, by simpa using q3⟩)
  | _ => exact False.elim q3
theorem de_chain {op op' : CmpOp} {r r' : DR2} (ho : OpD X (compareOp op) r) (ho' : OpD X (compareOp op') r') (ha : DE X Wv a ta) (hb : DE X Wv b tb) (hc : DE X Wv c tc)
    (hm : lastMarks [op, op'] [b, c] = false := by with_unfolding_all rfl) : DE X Wv (.Compare a [op, op'] [b, c] pos) (dChain r r' ta tb tc) := by
  obtain ⟨r0, h0, imp⟩ := ho
  obtain ⟨r0', h0', imp'⟩ := ho'
  exact ⟨PE_imp (pe_chain h0 h0' ha.pe hb.pe hc.pe hm) fun σ H Qv h => chain_lift imp imp' h⟩
theorem dt_chain {op op' : CmpOp} {r r' : DR2} (ho : OpD X (compareOp op) r) (ho' : OpD X (compareOp op') r') (ha : DE X Wv a ta) (hb : DE X Wv b tb) (hc : DE X Wv c tc)
    (hm : lastMarks [op, op'] [b, c] = false := by with_unfolding_all rfl) : DT X Wv (.Compare a [op, op'] [b, c] pos) (dB (dChain r r' ta tb tc)) := by
  obtain ⟨r0, h0, imp⟩ := ho
  obtain ⟨r0', h0', imp'⟩ := ho'
  refine ⟨PT_imp (pt_chain h0 h0' ha.pe hb.pe hc.pe hm) fun σ H Qv h => ?_⟩
  obtain ⟨c, g, env, w, Q, B, q, k⟩ := h
  refine chain_lift imp imp' (Qv := fun x H' => ∃ k, x = .bl k ∧ Qv k H') ⟨c, g, env, w, fun x w1 => onBl x fun b => Q b w1, B, q, fun v H' ⟨g', w', d, l, R', r', q'⟩ => ?_⟩
  cases r' with
  | bl z => exact ⟨z, rfl, k z H' ⟨g', w', l, R', q'⟩⟩
  | _ => exact False.elim q'
end

/-! ### argument lists, displays -/
def dNil : DTA := fun _ w Q => Q [] w
def dCons (t : DTE) (u : DTA) : DTA := fun env w Q => t env w fun x w1 => u env w1 fun xs w2 => Q (x :: xs) w2
def dTup (t : DTA) : DTE := fun env w Q => t env w fun xs w1 => xs.length ≤ sizeLine ∧ Q (.tup xs) w1
def dLst (t : DTA) : DTE := fun env w Q => t env w fun xs w1 => xs.length ≤ sizeLine ∧ Q (.lst xs) w1
/-- a list that will change -/
def dLstM (t : DTA) : DTE := fun env w Q => t env w fun xs w1 => xs.length ≤ sizeLine ∧ ∀ p, w1.m p = none → Q (.ref p) (w1.put p (.lst xs))
section
variable {X : Cx} {Wv : WX} {e : Expr} {es : List Expr} {te : DTE} {t : DTA} {pos : Pos}
theorem da_nil : DA X Wv [] dNil := ⟨PA_imp pa_nil fun σ H Qv ⟨c, g, env, w, Q, B, q, k⟩ => k [] H ⟨g, w, [], .rfl, B.R, .nil, q⟩⟩
theorem da_cons (ha : DE X Wv e te) (hr : DA X Wv es t) (hs : starEach (e :: es) X.env = (false, eval e X.env) :: starEach es X.env := by rfl) : DA X Wv (e :: es) (dCons te t) :=
  ⟨PA_imp (pa_cons ha.pe hr.pa hs) fun σ H Qv ⟨c, g, env, w, Q, B, q, k⟩ => bindE B q fun v H1 g1 w1 x l1 B1 r1 q1 => bindA B1 q1 fun vs H2 g2 w2 xs l2 B2 r2 q2 =>
    k _ H2 ⟨g2, w2, x :: xs, l1.trans l2, B2.R, .cons (r1.le l2) r2, q2⟩⟩
theorem de_tup {x1} (h : DA X Wv es t) : DE X Wv (.Tuple es x1 pos) (dTup t) :=
  ⟨PE_imp (pe_tup h.pa) fun σ H Qv ⟨c, g, env, w, Q, B, q, k⟩ => bindA B q fun vs H1 g1 w1 xs l1 B1 r1 q1 => ⟨by rw [r1.length]; exact q1.1, fun p hp =>
    have l2 := Gh.add_le (o := .tup vs) (B1.R.noG hp)
    k _ _ ⟨_, w1, .tup xs, l1.trans l2, B1.R.alloc hp, .tup (.inl (.inl Gh.add_at)) (r1.le l2), q1.2⟩⟩⟩
theorem de_lst (h : DA X Wv es t) : DE X Wv (.List es pos) (dLst t) :=
  ⟨PE_imp (pe_lst h.pa) fun σ H Qv ⟨c, g, env, w, Q, B, q, k⟩ => bindA B q fun vs H1 g1 w1 xs l1 B1 r1 q1 => ⟨by rw [r1.length]; exact q1.1, fun p hp =>
    have l2 := Gh.add_le (o := .lst vs) (B1.R.noG hp)
    k _ _ ⟨_, w1, .lst xs, l1.trans l2, B1.R.alloc hp, .lst (.inl (.inl Gh.add_at)) (r1.le l2), q1.2⟩⟩⟩
theorem de_lstM (h : DA X Wv es t) : DE X Wv (.List es pos) (dLstM t) :=
  ⟨PE_imp (pe_lst h.pa) fun σ H Qv ⟨c, g, env, w, Q, B, q, k⟩ => bindA B q fun vs H1 g1 w1 xs l1 B1 r1 q1 => ⟨by rw [r1.length]; exact q1.1, fun p hp =>
    k _ _ ⟨g1, _, .ref p, l1, B1.R.allocM hp (.lst r1), .ref p, q1.2 p (B1.R.noM hp)⟩⟩⟩
end

/-! ### a thing that changed is held fast -/
def MO.d : MO → D
  | .lst xs => .lst xs
  | .dic kvs => .dic kvs
  | .ins C _ fs => .obj C fs
/-- of an expression's value -/
def dFrz (t : DTE) : DTE := fun env w Q => t env w fun x w1 => match x with
  | .ref p => ∃ m, w1.m p = some m ∧ Q m.d (w1.del p)
  | _ => False
theorem Rel.frz {K : PySem.W.Frag} {c : Ck} {g : Gh} {w : W} {H : Hp} (R : Rel K c g w H) {p : Addr} {m : MO} (h : w.m p = some m) : ∃ g', g.le g' ∧ Rel K c g' (w.del p) H ∧ Rep K g' (.ref p) m.d := by
  obtain ⟨o, r, l, R'⟩ := R.freeze h
  refine ⟨_, l, R', ?_⟩
  cases r with
  | lst r => exact .lst (.inl (.inl Gh.add_at)) (r.le l)
  | dic r => exact .dic Gh.add_at (r.le l)
  | ins r => exact .obj Gh.add_at (r.le l)
theorem de_frz {X : Cx} {Wv : WX} {e : Expr} {t : DTE} (h : DE X Wv e t) : DE X Wv e (dFrz t) :=
  ⟨PE_imp h.pe fun σ H Qv ⟨c, g, env, w, Q, B, q, k⟩ => bindE B q fun v H1 g1 w1 x l1 B1 r1 q1 => by
    cases r1 with
    | ref p =>
      obtain ⟨m, e, q1⟩ := (show ∃ m, w1.m p = some m ∧ Q m.d (w1.del p) from q1)
      obtain ⟨g2, l2, R2, r2⟩ := B1.R.frz e
      exact k _ _ ⟨g2, _, _, l1.trans l2, R2, r2, q1⟩
    | _ => exact False.elim q1⟩
/-- the thing in a slot, ahead of a statement -/
def dFrzS (i : Nat) (t : DTS) : DTS := fun D env w => ∃ p m, env[i]? = some (some (.ref p)) ∧ w.m p = some m ∧ t D (env.set i (some m.d)) (w.del p)
theorem frzS_lift {K : PySem.W.Frag} {Wv : WX} {i : Nat} {t : DTS} {Dv : Ends} {σ : St} {H : Hp} (h : liftS K Wv (dFrzS i t) Dv σ H) : liftS K Wv t Dv σ H := by
  obtain ⟨c, g, env, w, D, B, ⟨p, m, e, em, q⟩, k⟩ := h
  obtain ⟨g2, l2, R2, r2⟩ := B.R.frz em
  refine ⟨c, g2, _, _, D, (B.step l2 R2).env ((B.E.le l2).tell (fun v hv => ?_) e), q, k.up l2⟩
  obtain ⟨v', a, r⟩ := B.E.at_ i _ e
  rw [hv] at a; cases a
  cases r
  exact r2
theorem ds_frz {X : Cx} {Wv : WX} {st : Stmt} {t : DTS} (i : Nat) (h : DS X Wv st t) : DS X Wv st (dFrzS i t) := ⟨PS_imp h.ps fun _ _ _ q => frzS_lift q⟩
theorem dss_frz {X : Cx} {Wv : WX} {st : List Stmt} {t : DTS} (i : Nat) (h : DSs X Wv st t) : DSs X Wv st (dFrzS i t) := ⟨PSs_imp h.ps fun _ _ _ q => frzS_lift q⟩

/-! ### blocks and small statements -/
def dNext : DTS := fun D env w => D.nx env w
def dSeq (t u : DTS) : DTS := fun D env w => t { D with nx := u D } env w
def dDrop (t : DTE) : DTS := fun D env w => t env w fun _ w1 => D.nx env w1
def dRet (t : DTE) : DTS := fun D env w => t env w D.rt
def dRetN : DTS := fun D _ w => D.rt .non w
def dIfS (t : DTT) (a b : DTS) : DTS := fun D env w => t env w fun z w1 => if z = true then a D env w1 else b D env w1
def dSet (i : Nat) (t : DTE) : DTS := fun D env w => t env w fun x w1 => D.nx (env.set i (some x)) w1
def dBreak : DTS := fun D env w => D.bk env w
def dCont : DTS := fun D env w => D.ct env w
def dNever : DTS := fun _ _ _ => False
section
variable {X : Cx} {Wv : WX} {st : Stmt} {rest : List Stmt} {t u : DTS} {e : Expr} {te : DTE} {pos : Pos}
theorem dss_nil : DSs X Wv [] dNext := ⟨PSs_imp pss_nil fun Dv σ H ⟨c, g, env, w, D, B, q, k⟩ => k.nx env w σ H g .rfl B q⟩
theorem dss_cons (h1 : DS X Wv st t) (h2 : DSs X Wv rest u) : DSs X Wv (st :: rest) (dSeq t u) :=
  ⟨PSs_imp (pss_cons h1.ps h2.ps) fun Dv σ H ⟨c, g, env, w, D, B, q, k⟩ =>
    ⟨c, g, env, w, { D with nx := u D }, B, q, ⟨fun env1 w1 σ1 H1 g1 l1 B1 q1 => ⟨c, g1, env1, w1, D, B1, q1, k.up l1⟩, k.rt, k.bk, k.ct⟩⟩⟩
theorem dss_one (h1 : DS X Wv st t) : DSs X Wv [st] t := ⟨pss_one h1.ps⟩
theorem ds_pass : DS X Wv (.Pass pos) dNext := ⟨PS_imp ps_pass fun Dv σ H ⟨c, g, env, w, D, B, q, k⟩ => k.nx env w σ H g .rfl B q⟩
theorem ds_break : DS X Wv (.Break pos) dBreak := ⟨PS_imp ps_break fun Dv σ H ⟨c, g, env, w, D, B, q, k⟩ => k.bk env w σ H g .rfl B q⟩
theorem ds_cont : DS X Wv (.Continue pos) dCont := ⟨PS_imp ps_continue fun Dv σ H ⟨c, g, env, w, D, B, q, k⟩ => k.ct env w σ H g .rfl B q⟩
theorem ds_expr (he : DE X Wv e te) (hs : swapsWith e none pos.line X.env = pure false := by rfl) : DS X Wv (.Expr e pos) (dDrop te) :=
  ⟨PS_imp (ps_expr he.pe hs) fun Dv σ H ⟨c, g, env, w, D, B, q, k⟩ => bindE B q fun v H1 g1 w1 x l1 B1 r1 q1 => k.nx env w1 σ H1 g1 l1 B1 q1⟩
theorem ds_ret (he : DE X Wv e te) : DS X Wv (.Return (some e) pos) (dRet te) :=
  ⟨PS_imp (ps_ret he.pe) fun Dv σ H ⟨c, g, env, w, D, B, q, k⟩ => bindE B q fun v H1 g1 w1 x l1 B1 r1 q1 => k.rt v H1 ⟨g1, w1, x, l1, B1.R, r1, q1⟩⟩
theorem ds_retN : DS X Wv (.Return none pos) dRetN := ⟨PS_imp ps_retN fun Dv σ H ⟨c, g, env, w, D, B, q, k⟩ => k.rt .non H ⟨g, w, .non, .rfl, B.R, .non, q⟩⟩
theorem ds_if {c : Expr} {a b : List Stmt} {tc : DTT} (hc : DT X Wv c tc) (ha : DSs X Wv a t) (hb : DSs X Wv b u) : DS X Wv (.If c a b pos) (dIfS tc t u) :=
  ⟨PS_imp (ps_if hc.pt ha.ps hb.ps) fun Dv σ H ⟨c, g, env, w, D, B, q, k⟩ => bindT B q fun z H1 g1 w1 l1 B1 q1 => by
    cases z with
    | true => exact iteT ⟨c, g1, env, w1, D, B1, q1, k.up l1⟩
    | false => exact iteF ⟨c, g1, env, w1, D, B1, q1, k.up l1⟩⟩
theorem ds_set {i : Nat} {x : Str} {pos' : Pos} (hN : X.N.Nodup) (he : DE X Wv e te) (hi : X.N[i]? = some x := by rfl) (hx : Loc X.env.scope x := by first | exact Or.inl rfl | exact Or.inr rfl) (hs : swapsWith e (some (.Name x pos')) pos.line X.env = pure false := by rfl) (hf : X.fn x = true ∨ X.env.scope.names.lookup x = some .local := by first | exact .inl rfl | exact .inr rfl | assumption) :
    DS X Wv (.Assign [.Name x pos'] e pos) (dSet i te) :=
  ⟨PS_imp (ps_set hN hi hx he.pe hs hf) fun Dv σ H ⟨c, g, env, w, D, B, q, k⟩ => bindE B q fun v H1 g1 w1 x l1 B1 r1 q1 => k.nx _ w1 _ H1 g1 l1 (B1.env (B1.E.set r1)) q1⟩
theorem ds_never : DS X Wv st dNever := ⟨PS_imp ps_never fun Dv σ H ⟨c, g, env, w, D, B, q, k⟩ => q⟩
theorem dss_never {sts : List Stmt} : DSs X Wv sts dNever := ⟨PSs_imp pss_never fun Dv σ H ⟨c, g, env, w, D, B, q, k⟩ => q⟩
end
end DL

/-! DLc: promises over trees; calls; loops; comprehensions. -/
namespace DL
open PySem PySem.Spec PyProof.Rows L2

/-! ### defs that run where nothing is being shown -/
structure FnG (P : Program) (w : World) (K : PySem.W.Frag) (mg : Str → Option Value) (base : Heap) (k : Nat) (f : Addr) (fd : FuncData) (ps : List Str) (sp : Sp) : Prop where
  len : ∀ vs H Q E, sp vs H Q E → vs.length = ps.length
  run : ∀ (A : Around) (outer : List Env) (s : Shared) (H : Hp) (args : Args) (us : List Value) (vs : List V) (Q : VK) (E : XK), Room k A → A.guards = some [] → Env0 P w K mg base A outer s H →
    BindsTo s fd args (ps.zip us) → Vals vs us → sp vs H Q E → codeAny (model P w) A (.call (.ref f) args) (CR (L2.CX P w) outer P w H s Q E) s
section
variable {P : Program} {w : World} {K : PySem.W.Frag} {mg : Str → Option Value} {base : Heap}
theorem FnG.mono {j k : Nat} {f : Addr} {fd : FuncData} {ps : List Str} {sp : Sp} (F : FnG P w K mg base j f fd ps sp) (h : j ≤ k) : FnG P w K mg base k f fd ps sp :=
  ⟨F.len, fun A o s H a us vs Q E hr => F.run A o s H a us vs Q E (hr.mono h)⟩
theorem FnG.imp {k : Nat} {f : Addr} {fd : FuncData} {ps : List Str} {sp sp' : Sp} (F : FnG P w K mg base k f fd ps sp) (h : ∀ vs H Q E, sp' vs H Q E → sp vs H Q E) : FnG P w K mg base k f fd ps sp' :=
  ⟨fun vs H Q E q => F.len vs H Q E (h _ _ _ _ q), fun A o s H a us vs Q E hr hg he hb hv hs => F.run A o s H a us vs Q E hr hg he hb hv (h _ _ _ _ hs)⟩
theorem fnG_of {x qual : Str} {st : Stmt} {f : Addr} {fd : FuncData} {N ps : List Str} {k : Nat} {sp : Sp} (F : Fun K x qual st f fd) (S : FnScope N ps (defScope st)) (len : ∀ vs H Q E, sp vs H Q E → vs.length = ps.length)
    (hbody : ∀ (cdv : Value) (A : Around) (outer : List Env) (s : Shared) (H : Hp) (vs : List V) (Q : VK) (E : XK), Room k (A.deeper (envOfC qual (defScope st) s.heap.objs.size f cdv)) → A.guards = some [] → sp vs H Q E →
      ∃ t, PSs (cxOf (L2.CX P w) P w K mg base N qual (defScope st) f cdv A outer s H E) (defBody st) t ∧ t { nx := fun _ H' => Q .non H', rt := Q } (start N vs) H) : FnG P w K mg base (k + 1) f fd ps sp := by
  obtain ⟨oc, od, kV, doc, pm, an, cdv, ct, osl, rfl, lk, hcd⟩ := F.ex
  refine ⟨len, fun A outer s H args us vs Q E hr hgd e0 hb r q0 => ?_⟩
  have hl := len _ _ _ _ q0
  have kin : K.In s.heap := e0.mod.kin.keeps fun b o e => (e0.bs b o e).1
  have nolim : s.heap.NoLimit := e0.mod.nolimit.keeps fun b o e => (e0.bs b o e).1
  refine codeAny_call_function hr.depth (kin _ _ lk) rfl S.co S.gen rfl (PySem.W.codeRec_of kin hcd) (hb _ _ _ _ ?_)
  refine wpAny_newFunctionEnv_cells S.kind (fun y hy => ?_) fun env he s1 x => ?_
  · obtain ⟨n, v⟩ := y
    cases S.par n (List.of_mem_zip hy).1 with
    | inl q => exact .inl q
    | inr q => exact .inr ⟨q, PySem.W.cellsFrom_some _ _ _ (.inl q)⟩
  · subst he
    refine ⟨nolim.keeps x.toInCall.keep, codeAny_func ?_⟩
    obtain ⟨t, ht, hq⟩ := hbody cdv A outer s H vs Q E (hr.deeper _) hgd q0
    have J := inv_start (CX := L2.CX P w) (P := P) (w := w) (qual := qual) (f := f) (cd := cdv) (E := E) S hr.hd e0 hl r x
    refine wpAny_mono (ht.run [] s1 _ H _ J hq) (fun fl s' hs => ?_) fun e s' hs => hs
    have fin : ∀ {σ' : St} {H' : Hp} {v : V} {u : Value}, Inv (cxOf (L2.CX P w) P w K mg base N qual (defScope st) f cdv A outer s H E) [] σ' H' s' → RelV v u → Q v H' → CE outer P w H s Q u s' :=
      fun {_ H' v _} J rv q => ⟨v, H', J.os, J.bare, J.base, J.hok, rv, q⟩
    cases fl with
    | ret u =>
      obtain ⟨v, _, H', J, rv, q⟩ := hs
      exact fin J rv q
    | next =>
      obtain ⟨_, H', J, q⟩ := hs
      exact fin (v := V.non) (u := Value.none) J rfl q
    | brk => exact hs.elim fun _ h => h.elim fun _ h => h.2.elim
    | cont => exact hs.elim fun _ h => h.elim fun _ h => h.2.elim
end

section
variable {X : Cx} {k : Nat} {f C : Addr} {fd : FuncData} {ps : List Str} {sp : Sp} {Wv : WX} {x m : Str} {p pos apos : Pos} {e o : Expr} {es : List Expr} {ta : TE} {t : TA}
theorem runG {pins : List (Addr × Obj)} {σ : St} {H : Hp} {s : Shared} {Q : VK} {us : List Value} {vs : List V} (F : FnG X.prog X.w X.K X.mg X.base k f fd ps sp) (hr : Room k X.A) (hgd : X.A.guards = some []) (hb : Binds X.K fd ps []) (tk : Takes X Wv)
    (I : Inv X pins σ H s) (r : Vals vs us) (h : sp vs H Q (WE Wv σ)) : wpAny (model X.prog X.w) X.A (call (.ref f) us) (EP X pins σ Q) X.xe s := by
  have hl : us.length = ps.length := by
    rw [← r.length]
    exact F.len _ _ _ _ h
  have b := hb s us I.kIn (by rw [List.append_nil]; exact hl)
  rw [List.append_nil] at b
  refine wpAny_call (codeAny_mono (F.run X.A X.stack s H _ us vs Q _ hr hgd I.env0 b r h) fun r s' hq => ?_)
  match r, hq with
  | .error e, hq => exact passAt tk σ pins H s e s' I hq
  | .ok (.ret u), hq => exact I.after hq
/-- a promise over a call's arguments -/
def tCallG (sp : Sp) (Wv : WX) (t : TA) : TE := fun σ H Q => t σ H fun vs H1 => sp vs H1 Q (WE Wv σ)
theorem peG_call (F : FnG X.prog X.w X.K X.mg X.base k f fd ps sp) (hr : Room k X.A) (hgd : X.A.guards = some []) (hg : Gl X x) (hm : X.mg x = some (.ref f)) (hk : PySem.W.keepIn X.K (.ref f) = true) (hb : Binds X.K fd ps []) (tk : Takes X Wv)
    (ha : PA X (e :: es) t) (hdb : (x == ("__debug__" : Str)) = false) (he : starEach (e :: es) X.env = (false, eval e X.env) :: starEach es X.env) (hpl : (backTo pos (starEach es X.env)).any (·.1) = false) :
    PE X (.Call (.Name x p) (e :: es) [] pos) (tCallG sp Wv t) :=
  ⟨fun pins s σ H Q I h => wpAny_Call_Name_kw (ld_glob I hg hm (PySem.W.callWith_K (h₀ := X.base) I.ok.mod.kin hk (thn (ha.run pos pins s σ H _ I h) fun us s1 ⟨vs, H1, I1, r, q⟩ =>
    ⟨I1.kIn, runG F hr hgd hb tk I1 r q⟩) he hpl) hdb)⟩
theorem peG_call0 (F : FnG X.prog X.w X.K X.mg X.base k f fd ps sp) (hr : Room k X.A) (hgd : X.A.guards = some []) (hg : Gl X x) (hm : X.mg x = some (.ref f)) (hk : PySem.W.keepIn X.K (.ref f) = true) (hb : Binds X.K fd ps []) (tk : Takes X Wv)
    (hdb : (x == ("__debug__" : Str)) = false) : PE X (.Call (.Name x p) [] [] pos) (tCallG sp Wv tNil) :=
  ⟨fun pins s σ H Q I h => wpAny_Call_Name_kw (ld_glob I hg hm (PySem.W.callWith_K0 I.kIn hk (runG (us := []) F hr hgd hb tk I .nil h)) hdb)⟩
end

/-! ### promises over trees -/
abbrev DSp := List D → W → DK → Prop
def liftSp (K : PySem.W.Frag) (sp : DSp) : Sp := fun vs H Qv Ev => ∃ c g w ds Q, Rel K c g w H ∧ RepL K g vs ds ∧ sp ds w Q ∧ (∀ v H', PQ K c g Q v H' → Qv v H') ∧ (∀ env, c.e env = c.e []) ∧
  ∀ cls d H' g', g.le g' → PX K c g' (c.e []) cls d H' → Ev cls d H'
/-- a def by its name -/
structure DCal (P : Program) (w : World) (K : PySem.W.Frag) (mg : Str → Option Value) (base : Heap) (k : Nat) (x : Str) (n : Nat) (sp : DSp) : Prop where
  ex : ∃ (f : Addr) (fd : FuncData) (ps : List Str), FnG P w K mg base k f fd ps (liftSp K sp) ∧ mg x = some (.ref f) ∧ PySem.W.keepIn K (.ref f) = true ∧ Binds K fd ps [] ∧ ps.length = n
theorem DCal.mono {P : Program} {w : World} {K : PySem.W.Frag} {mg : Str → Option Value} {base : Heap} {j k : Nat} {x : Str} {n : Nat} {sp : DSp} (c : DCal P w K mg base j x n sp) (h : j ≤ k) : DCal P w K mg base k x n sp :=
  let ⟨f, fd, ps, F, r⟩ := c.ex; ⟨f, fd, ps, F.mono h, r⟩
def dCall (sp : DSp) (t : DTA) : DTE := fun env w Q => t env w fun xs w1 => sp xs (w1.inn env) fun d w2 => Q d (w2.as w1)
theorem Rel.inn {K : PySem.W.Frag} {c : Ck} {g : Gh} {w : W} {H : Hp} (R : Rel K c g w H) (env : En) : Rel K { c with e := fun _ => c.e env } g (w.inn env) H :=
  ⟨R.imm, R.lck, R.mu, R.frm, R.pen, by show (fun _ => w.e env) = fun _ => c.e env; rw [R.ex]⟩
theorem Rel.out {K : PySem.W.Frag} {c c' : Ck} {g : Gh} {w w0 : W} {H : Hp} (R : Rel K c' g w H) (hL : c'.L = c.L) (hF : c'.F = c.F) (h : w0.e = c.e) : Rel K c g (w.as w0) H :=
  ⟨hL ▸ R.imm, hL ▸ R.lck, hF ▸ R.mu, hF ▸ R.frm, R.pen, h⟩
section
variable {X : Cx} {Wv : WX} {k n : Nat} {sp : DSp} {x : Str} {p pos : Pos} {e : Expr} {es : List Expr} {t : DTA}
theorem call_lift {σ : St} {H : Hp} {Qv : VK} (h : liftE X.K Wv (dCall sp t) σ H Qv) : tCallG (liftSp X.K sp) Wv (liftA X.K Wv t) σ H Qv := by
  obtain ⟨c, g, env, w, Q, B, q, kk⟩ := h
  refine bindA B q fun vs H1 g1 w1 xs l1 B1 r1 q1 => ?_
  refine ⟨{ c with e := fun _ => c.e env }, g1, w1.inn env, xs, _, B1.R.inn env, r1, q1, fun v H' ⟨g2, w2, d, l2, R2, r2, q2⟩ => ?_, fun _ => rfl, fun cls d H' g' l' px => ?_⟩
  · exact kk v H' ⟨g2, w2.as w1, d, l1.trans l2, R2.out rfl rfl B1.R.ex, r2, q2⟩
  · refine B1.X env σ H' cls d g' l' (B1.E.le l') ?_
    obtain ⟨g3, w3, C, fs, e1, l3, R3, e3, m3⟩ := px
    exact ⟨g3, w3.as w1, C, fs, e1, l3, R3.out rfl rfl B1.R.ex, e3, m3⟩
/-- f(e, ..) -/
theorem de_call (F : DCal X.prog X.w X.K X.mg X.base k x n sp) (hr : Room k X.A) (hgd : X.A.guards = some []) (tk : Takes X Wv) (ha : DA X Wv (e :: es) t) (hg : Gl X x := by rfl)
    (hdb : (x == ("__debug__" : Str)) = false := by decide) (he : starEach (e :: es) X.env = (false, eval e X.env) :: starEach es X.env := by rfl) (hpl : (backTo pos (starEach es X.env)).any (·.1) = false := by rfl) :
    DE X Wv (.Call (.Name x p) (e :: es) [] pos) (dCall sp t) := by
  obtain ⟨f, fd, ps, F, hm, kp, b, _⟩ := F.ex
  exact ⟨PE_imp (peG_call F hr hgd hg hm kp b tk ha.pa hdb he hpl) fun σ H Qv h => call_lift h⟩
/-- f() -/
theorem de_call0 (F : DCal X.prog X.w X.K X.mg X.base k x n sp) (hr : Room k X.A) (hgd : X.A.guards = some []) (tk : Takes X Wv) (hg : Gl X x := by rfl)
    (hdb : (x == ("__debug__" : Str)) = false := by decide) : DE X Wv (.Call (.Name x p) [] [] pos) (dCall sp dNil) := by
  obtain ⟨f, fd, ps, F, hm, kp, b, _⟩ := F.ex
  refine ⟨PE_imp (peG_call0 F hr hgd hg hm kp b tk hdb) fun σ H Qv h => ?_⟩
  obtain ⟨c, g, env, w, Q, B, q, kk⟩ := h
  refine ⟨{ c with e := fun _ => c.e env }, g, w.inn env, [], _, B.R.inn env, .nil, q, fun v H' ⟨g2, w2, d, l2, R2, r2, q2⟩ => ?_, fun _ => rfl, fun cls d H' g' l' px => ?_⟩
  · exact kk v H' ⟨g2, w2.as w, d, l2, R2.out rfl rfl B.R.ex, r2, q2⟩
  · refine B.X env σ H' cls d g' l' (B.E.le l') ?_
    obtain ⟨g3, w3, C, fs, e1, l3, R3, e3, m3⟩ := px
    exact ⟨g3, w3.as w, C, fs, e1, l3, R3.out rfl rfl B.R.ex, e3, m3⟩
end

/-- the slots at the entry -/
def startD (N : Nat) (ds : List D) : En := ds.map some ++ List.replicate (N - ds.length) none
theorem RepL.env {K : PySem.W.Frag} {g : Gh} {vs : List V} {ds : List D} (r : RepL K g vs ds) (N : List Str) : EnR K g (startD N.length ds) (L2.start N vs) := by
  have hl := r.length
  refine ⟨by unfold startD L2.start; simp [hl], fun i d e => ?_⟩
  unfold startD at e
  unfold L2.start
  by_cases hi : i < ds.length
  · rw [List.getElem?_append_left (by simpa using hi), List.getElem?_map] at e
    rw [List.getElem?_append_left (by simpa [hl] using hi), List.getElem?_map]
    cases q : ds[i]? with
    | none => rw [q] at e; cases e
    | some y =>
      rw [q] at e; cases e
      obtain ⟨u, a, b⟩ := r.get q
      exact ⟨u, by rw [a]; rfl, b⟩
  · rw [List.getElem?_append_right (by simpa using hi), List.getElem?_replicate] at e
    split at e <;> cases e
section
variable {P : Program} {w : World} {K : PySem.W.Frag} {mg : Str → Option Value} {base : Heap}
/-- THE RULE for a def: its body as a term of rules over trees, and the reading of that term -/
theorem dfn {x qual : Str} {st : Stmt} {f : Addr} {fd : FuncData} {N ps : List Str} {k : Nat} {sp : DSp} (F : Fun K x qual st f fd) (S : FnScope N ps (defScope st)) (len : ∀ ds w Q, sp ds w Q → ds.length = ps.length)
    (hbody : ∀ (cdv : Value) (A : Around) (outer : List Env) (s : Shared) (H : Hp) (E : XK), Room k (A.deeper (envOfC qual (defScope st) s.heap.objs.size f cdv)) → A.guards = some [] →
      ∃ t, DSs (cxOf (L2.CX P w) P w K mg base N qual (defScope st) f cdv A outer s H E) (fun cls d _ H => E cls d H) (defBody st) t ∧
        ∀ ds (wd : W) Q, sp ds wd Q → t { nx := fun _ w' => Q .non w', rt := Q } (startD N.length ds) wd) : FnG P w K mg base (k + 1) f fd ps (liftSp K sp) := by
  refine fnG_of F S (fun vs H Q E h => ?_) fun cdv A outer s H vs Q E hr hgd h => ?_
  · obtain ⟨c, g, w, ds, Q0, R, r, h, _⟩ := h
    rw [r.length]
    exact len _ _ _ h
  · obtain ⟨t, ht, hq⟩ := hbody cdv A outer s H E hr hgd
    obtain ⟨c, g, wd, ds, Q0, R, r, h, k1, k3, k2⟩ := h
    refine ⟨_, ht.ps, c, g, _, wd, _, ⟨R, r.env N, fun env' σ' H' cls d g' l' e' px => k2 cls d H' g' l' (k3 env' ▸ px)⟩, hq ds wd Q0 h, ⟨fun env w σ H g' l' B q => ?_, k1, fun env w σ H g' l' B q => q.elim, fun env w σ H g' l' B q => q.elim⟩⟩
    exact k1 .non H ⟨g', w, .non, l', B.R, .non, q⟩
end
end DL

/-! DLd: targets, what is walked, loops, comprehensions, over trees. -/
namespace DL
open PySem PySem.Spec PyProof.Rows L2

/-! ### targets -/
abbrev DTG := D → En → W → (En → W → Prop) → Prop
abbrev DTGs := List D → En → W → (En → W → Prop) → Prop
def SameW (sl : List Nat) (σ σ' : St) : Prop := ∀ vs : List Nat, (∀ i ∈ sl, i ∈ vs) → wipe σ' vs = wipe σ vs
def liftG (K : PySem.W.Frag) (Wv : WX) (sl : List Nat) (gd : DTG) : TG := fun v σ H Qv => ∃ c g env w d Q, Bx K Wv c g env w σ H ∧ Rep K g v d ∧ gd d env w Q ∧
  ∀ env' w' σ' H' g', g.le g' → Bx K Wv c g' env' w' σ' H' → SameW sl σ σ' → Q env' w' → Qv σ' H'
def liftGs (K : PySem.W.Frag) (Wv : WX) (sl : List Nat) (gd : DTGs) : TGs := fun vs σ H Qv => ∃ c g env w ds Q, Bx K Wv c g env w σ H ∧ RepL K g vs ds ∧ gd ds env w Q ∧
  ∀ env' w' σ' H' g', g.le g' → Bx K Wv c g' env' w' σ' H' → SameW sl σ σ' → Q env' w' → Qv σ' H'
structure DG (X : Cx) (Wv : WX) (tg : Expr) (sl : List Nat) (gd : DTG) : Prop where
  pg : PG X tg (liftG X.K Wv sl gd)
structure DGs (X : Cx) (Wv : WX) (ts : List Expr) (sl : List Nat) (gd : DTGs) : Prop where
  pg : PGs X ts (liftGs X.K Wv sl gd)
theorem PG_imp {X : Cx} {e : Expr} {t t' : TG} (h : PG X e t) (i : ∀ v σ H Q, t' v σ H Q → t v σ H Q) : PG X e t' := ⟨fun pins s σ H v u Q I r q => h.run pins s σ H v u Q I r (i v σ H Q q)⟩
theorem PGs_imp {X : Cx} {e : List Expr} {t t' : TGs} (h : PGs X e t) (i : ∀ v σ H Q, t' v σ H Q → t v σ H Q) : PGs X e t' := ⟨fun pins s σ H v u Q I r q => h.run pins s σ H v u Q I r (i v σ H Q q)⟩
theorem PI_imp {X : Cx} {tg e : Expr} {t t' : TI} (h : PI X tg e t) (i : ∀ σ H R, t' σ H R → t σ H R) : PI X tg e t' := ⟨fun pins s σ H R I q => h.run pins s σ H R I (i σ H R q)⟩
theorem wipe_set (σ : St) (i : Nat) (x : Option V) : ∀ vs : List Nat, i ∈ vs → wipe (σ.set i x) vs = wipe σ vs
  | v :: vs, h => by
    unfold wipe
    by_cases e : i ∈ vs
    · rw [wipe_set σ i x vs e]
    · have hv : v = i := (List.mem_cons.mp h).elim (fun z => z.symm) fun z => absurd z e
      subst hv
      have key : ∀ (us : List Nat) (τ : St), (wipe (τ.set v x) us).set v none = (wipe τ us).set v none := by
        intro us
        induction us with
        | nil =>
          intro τ
          show (τ.set v x).set v none = τ.set v none
          rw [List.set_set]
        | cons u us ih =>
          intro τ
          unfold wipe
          by_cases hu : u = v
          · subst hu
            rw [List.set_set, List.set_set]
            exact ih τ
          · rw [List.set_comm _ _ hu, ih τ, List.set_comm _ _ (Ne.symm hu)]
      exact key vs σ
theorem SameW.rfl {sl : List Nat} {σ : St} : SameW sl σ σ := fun _ _ => Eq.refl _
def gdName (i : Nat) : DTG := fun d env w Q => Q (env.set i (some d)) w
def gdNil : DTGs := fun ds env w Q => ds = [] ∧ Q env w
def gdCons (t : DTG) (u : DTGs) : DTGs := fun ds env w Q => match ds with
  | d :: r => t d env w fun env1 w1 => u r env1 w1 Q
  | [] => False
/-- a tuple, or a list, unpacked -/
def gdTup (n : Nat) (t : DTGs) : DTG := fun d env w Q => match d with
  | .tup xs => xs.length = n ∧ t xs env w Q
  | _ => False
section
variable {X : Cx} {Wv : WX} {pos : Pos}
theorem dg_name (i : Nat) {x : Str} (hN : X.N.Nodup) (hi : X.N[i]? = some x := by rfl) (hx : Loc X.env.scope x := by first | exact Or.inl rfl | exact Or.inr rfl) (hf : X.fn x = true ∨ X.env.scope.names.lookup x = some .local := by first | exact .inl rfl | exact .inr rfl | assumption) : DG X Wv (.Name x pos) [i] (gdName i) :=
  ⟨PG_imp (pg_name hN hi hx hf) fun v σ H Qv ⟨c, g, env, w, d, Q, B, r, q, k⟩ => k _ w _ H g .rfl (B.env (B.E.set r)) (fun vs hv => wipe_set σ i _ vs (hv i (by simp))) q⟩
theorem dgs_nil : DGs X Wv [] [] gdNil := ⟨PGs_imp pgs_nil fun v σ H Qv ⟨c, g, env, w, d, Q, B, r, q, k⟩ => by
  obtain ⟨rfl, q⟩ := q
  cases r
  exact ⟨rfl, k _ w _ H g .rfl B .rfl q⟩⟩
theorem dgs_cons {e : Expr} {es : List Expr} {t : DTG} {u : DTGs} {sl sl' : List Nat} (h1 : DG X Wv e sl t) (h2 : DGs X Wv es sl' u)
    (hs : (assignEach (e :: es) X.env).map (·.2) = assign e X.env :: (assignEach es X.env).map (·.2) := by rfl) : DGs X Wv (e :: es) (sl ++ sl') (gdCons t u) :=
  ⟨PGs_imp (pgs_cons h1.pg h2.pg hs) fun v σ H Qv ⟨c, g, env, w, d, Q, B, r, q, k⟩ => by
    cases r with
    | nil => exact q.elim
    | cons a r =>
      refine ⟨_, _, rfl, c, g, env, w, _, _, B, a, q, fun env1 w1 σ1 H1 g1 l1 B1 s1 q1 => ?_⟩
      refine ⟨c, g1, env1, w1, _, Q, B1, r.le l1, q1, fun env2 w2 σ2 H2 g2 l2 B2 s2 q2 => k env2 w2 σ2 H2 g2 (l1.trans l2) B2 (fun vs hv => ?_) q2⟩
      rw [s2 vs fun i hi => hv i (List.mem_append_right _ hi), s1 vs fun i hi => hv i (List.mem_append_left _ hi)]⟩
theorem dg_tup {es : List Expr} {k : Nat} {t : DTGs} {n : Nat} {sl : List Nat} (hc : X.calm = true) (h : DGs X Wv es sl t) (hn : (assignEach es X.env).length = n := by rfl) (hst : (assignEach es X.env).findIdx? (·.1) = none := by rfl) :
    DG X Wv (.Tuple es k pos) sl (gdTup n t) :=
  ⟨PG_imp (pg_tup hc h.pg hn hst) fun v σ H Qv ⟨c, g, env, w, d, Q, B, r, q, k⟩ => by
    cases r with
    | tup hs r =>
      have q : _ ∧ _ := q
      exact ⟨_, _, rfl, B.R.sqT hs, by rw [r.length]; exact q.1, c, g, env, w, _, Q, B, r, q.2, k⟩
    | _ => exact False.elim q⟩
end
/-- target = value -/
def dAsg (te : DTE) (gd : DTG) : DTS := fun D env w => te env w fun x w1 => gd x env w1 D.nx
theorem ds_asg {X : Cx} {Wv : WX} {tg e : Expr} {te : DTE} {gd : DTG} {sl : List Nat} {pos : Pos} (he : DE X Wv e te) (hg : DG X Wv tg sl gd) (hs : swapsWithSole [tg] e pos.line X.env = pure false := by rfl) (hw : swappedStores [tg] e X.env = pure none := by rfl)
    (h1 : (assignEach [tg] X.env).map (·.2) = [assign tg X.env] := by rfl) : DS X Wv (.Assign [tg] e pos) (dAsg te gd) :=
  ⟨PS_imp (ps_asg he.pe hg.pg hs hw h1) fun Dv σ H ⟨c, g, env, w, D, B, q, k⟩ => bindE B q fun v H1 g1 w1 x l1 B1 r1 q1 =>
    ⟨c, g1, env, w1, x, D.nx, B1, r1, q1, fun env2 w2 σ2 H2 g2 l2 B2 _ q2 => k.nx env2 w2 σ2 H2 g2 (l1.trans l2) B2 q2⟩⟩

/-! ### what is walked -/
structure IsIt (K : PySem.W.Frag) (L : Addr → Option Obj) (g0 : Gh) (items : List D) (J : It) : Prop where
  go : ∀ c i w H g, c.L = L → g0.le g → Rel K c g w H → i < items.length → J.go i H
  yld : ∀ c i w H g x H' d, c.L = L → g0.le g → Rel K c g w H → items[i]? = some d → J.yld i H x H' → ∃ g', g.le g' ∧ Rel K c g' w H' ∧ Rep K g' x d ∧ (∀ a o, H a = some o → H' a = some o)
  stop : ∀ c w H g, c.L = L → g0.le g → Rel K c g w H → J.stop items.length H
abbrev DTI := En → W → (List D → W → Prop) → Prop
def liftI (K : PySem.W.Frag) (Wv : WX) (ti : DTI) : TI := fun σ H Rv => ∃ c g env w Q, Bx K Wv c g env w σ H ∧ ti env w Q ∧
  ∀ items w1 H1 g1 J, g.le g1 → Rel K c g1 w1 H1 → IsIt K c.L g1 items J → Q items w1 → Rv J H1
structure DI (X : Cx) (Wv : WX) (tg iter : Expr) (ti : DTI) : Prop where
  pi : PI X tg iter (liftI X.K Wv ti)
def dItL (t : DTE) : DTI := fun env w Q => t env w fun x w1 => match x with
  | .lst xs => Q xs w1
  | _ => False
def dItT (t : DTE) : DTI := fun env w Q => t env w fun x w1 => match x with
  | .tup xs => Q xs w1
  | _ => False
def signs (x : Str) : List D := x.cps.toList.map fun c => .str ⟨#[c]⟩
def dItS (t : DTE) : DTI := fun env w Q => t env w fun x w1 => match x with
  | .str x => Q (signs x) w1
  | _ => False
def rangeD (lo : Int) (n : Nat) : List D := (List.range n).map fun (i : Nat) => .int (lo + (i : Int))
def dRng1 (t : DTA) : DTI := fun env w Q => t env w fun xs w1 => match xs with
  | [.int j] => -(2 ^ 62) ≤ j ∧ j < 2 ^ 62 ∧ Q (rangeD 0 j.toNat) w1
  | _ => False
def dRng2 (t : DTA) : DTI := fun env w Q => t env w fun xs w1 => match xs with
  | [.int i, .int j] => (-(2 ^ 62) ≤ i ∧ i < 2 ^ 62 ∧ -(2 ^ 62) ≤ j ∧ j < 2 ^ 62) ∧ Q (rangeD i (j - i).toNat) w1
  | _ => False
theorem isIt_list {K : PySem.W.Frag} {L : Addr → Option Obj} {g : Gh} {a : Addr} {xs : List V} {ds : List D} (s : SqL K g.G a xs) (r : RepL K g xs ds) : IsIt K L g ds (Itl K a) where
  go := fun c i w H g' _ l R hi => by
    have hx : i < xs.length := by rw [r.length]; exact hi
    exact ⟨xs, xs[i], R.sqL (SqL_le l s), by simp [hx]⟩
  yld := fun c i w H g' x H' d _ l R hd ⟨e, y⟩ => by
    subst e
    have h1 := y xs (R.sqL (SqL_le l s))
    obtain ⟨u, a, b⟩ := r.get hd
    rw [h1] at a; cases a
    exact ⟨g', .rfl, R, b.le l, fun _ _ z => z⟩
  stop := fun c w H g' _ l R => ⟨xs, R.sqL (SqL_le l s), by rw [r.length]; exact Nat.le_refl _⟩
theorem isIt_tup {K : PySem.W.Frag} {L : Addr → Option Obj} {g : Gh} {a : Addr} {xs : List V} {ds : List D} (s : SqT K g.G a xs) (r : RepL K g xs ds) : IsIt K L g ds (Itt K a) where
  go := fun c i w H g' _ l R hi => by
    have hx : i < xs.length := by rw [r.length]; exact hi
    exact ⟨xs, xs[i], R.sqT (SqT_le l s), by simp [hx]⟩
  yld := fun c i w H g' x H' d _ l R hd ⟨e, y⟩ => by
    subst e
    have h1 := y xs (R.sqT (SqT_le l s))
    obtain ⟨u, a, b⟩ := r.get hd
    rw [h1] at a; cases a
    exact ⟨g', .rfl, R, b.le l, fun _ _ z => z⟩
  stop := fun c w H g' _ l R => ⟨xs, R.sqT (SqT_le l s), by rw [r.length]; exact Nat.le_refl _⟩
theorem isIt_range {K : PySem.W.Frag} {L : Addr → Option Obj} {g : Gh} {lo : Int} {n : Nat} : IsIt K L g (rangeD lo n) (Itr lo n) where
  go := fun c i w H g' _ l R hi => by
    have h : i < (rangeD lo n).length := hi
    show i < n
    simpa [rangeD] using h
  yld := fun c i w H g' x H' d _ l R hd ⟨e, y⟩ => by
    subst e
    refine ⟨g', .rfl, R, ?_, fun _ _ z => z⟩
    unfold rangeD at hd
    rw [List.getElem?_map] at hd
    cases q : (List.range n)[i]? with
    | none => rw [q] at hd; cases hd
    | some j =>
      rw [q] at hd; cases hd
      obtain ⟨hi, hj⟩ := List.getElem?_eq_some_iff.mp q
      rw [List.getElem_range] at hj
      subst hj
      rw [y]
      exact .int _
  stop := fun c w H g' _ l R => by
    show n ≤ (rangeD lo n).length
    simp [rangeD]
theorem isIt_str {K : PySem.W.Frag} {L : Addr → Option Obj} {g : Gh} {z : Str} : IsIt K L g (signs z) (Its z) where
  go := fun c i w H g' _ l R hi => by
    have h : i < (signs z).length := hi
    show i < z.cps.size
    simpa [signs] using h
  yld := fun c i w H g' x H' d _ l R hd ⟨e, ch, hc, y⟩ => by
    subst e
    refine ⟨g', .rfl, R, ?_, fun _ _ z => z⟩
    unfold signs at hd
    rw [List.getElem?_map, Array.getElem?_toList, hc] at hd
    cases hd
    rw [y]
    exact .str _
  stop := fun c w H g' _ l R => by
    show z.cps.size ≤ (signs z).length
    simp [signs]
section
variable {X : Cx} {Wv : WX} {tg e a b : Expr} {t : DTE} {ta : DTA} {p pos : Pos}
theorem di_list (h : DE X Wv e t) : DI X Wv tg e (dItL t) :=
  ⟨PI_imp (pi_list h.pe) fun σ H Rv ⟨c, g, env, w, Q, B, q, k⟩ => bindE B q fun v H1 g1 w1 x l1 B1 r1 q1 => by
    cases r1 with
    | lst s r => exact ⟨_, rfl, ⟨_, B1.R.sqL s⟩, k _ w1 H1 g1 _ l1 B1.R (isIt_list s r) q1⟩
    | _ => exact False.elim q1⟩
theorem di_tup (h : DE X Wv e t) : DI X Wv tg e (dItT t) :=
  ⟨PI_imp (pi_tup h.pe) fun σ H Rv ⟨c, g, env, w, Q, B, q, k⟩ => bindE B q fun v H1 g1 w1 x l1 B1 r1 q1 => by
    cases r1 with
    | tup s r => exact ⟨_, rfl, ⟨_, B1.R.sqT s⟩, k _ w1 H1 g1 _ l1 B1.R (isIt_tup s r) q1⟩
    | _ => exact False.elim q1⟩
theorem di_str (h : DE X Wv e t) : DI X Wv tg e (dItS t) :=
  ⟨PI_imp (pi_str h.pe) fun σ H Rv ⟨c, g, env, w, Q, B, q, k⟩ => bindE B q fun v H1 g1 w1 x l1 B1 r1 q1 => by
    cases r1 with
    | str s => exact ⟨_, rfl, k _ w1 H1 g1 _ l1 B1.R isIt_str q1⟩
    | _ => exact False.elim q1⟩
theorem di_range1 (hm : X.mg "range" = none) (ha : DA X Wv [a] ta) (hg : Gl X "range" := by rfl) (hs : starEach [a] X.env = [(false, eval a X.env)] := by rfl) : DI X Wv tg (.Call (.Name "range" p) [a] [] pos) (dRng1 ta) :=
  ⟨PI_imp (pi_range1 hg hm ha.pa hs) fun σ H Rv ⟨c, g, env, w, Q, B, q, k⟩ => bindA B q fun vs H1 g1 w1 xs l1 B1 r1 q1 => by
    unfold dRng1 at q
    split at q1
    · cases r1 with
      | cons ra rr =>
        cases rr; cases ra
        exact ⟨_, rfl, q1.1, q1.2.1, k _ w1 H1 g1 _ l1 B1.R isIt_range q1.2.2⟩
    · exact q1.elim⟩
theorem di_range2 (hm : X.mg "range" = none) (ha : DA X Wv [a, b] ta) (hg : Gl X "range" := by rfl) (hs : starEach [a, b] X.env = [(false, eval a X.env), (false, eval b X.env)] := by rfl) (hs2 : starEach [b] X.env = [(false, eval b X.env)] := by rfl) :
    DI X Wv tg (.Call (.Name "range" p) [a, b] [] pos) (dRng2 ta) :=
  ⟨PI_imp (pi_range2 hg hm ha.pa hs hs2) fun σ H Rv ⟨c, g, env, w, Q, B, q, k⟩ => bindA B q fun vs H1 g1 w1 xs l1 B1 r1 q1 => by
    unfold dRng2 at q
    split at q1
    · cases r1 with
      | cons ra rr =>
        cases rr with
        | cons rb rr =>
          cases rr; cases ra; cases rb
          exact ⟨_, _, rfl, q1.1, k _ w1 H1 g1 _ l1 B1.R isIt_range q1.2⟩
    · exact q1.elim⟩
end

/-! ### for -/
def dFor (ti : DTI) (gd : DTG) (tb : DTS) : DTS := fun D env w => ti env w fun items w1 => ∃ Pv : Nat → En → W → Prop, Pv 0 env w1 ∧
  (∀ i x env w, items[i]? = some x → Pv i env w → gd x env w fun env2 w2 => tb { D with nx := Pv (i + 1), ct := Pv (i + 1), bk := D.nx } env2 w2) ∧ ∀ env w, Pv items.length env w → D.nx env w
theorem ds_for {X : Cx} {Wv : WX} {tg iter : Expr} {body : List Stmt} {ti : DTI} {gd : DTG} {tb : DTS} {sl : List Nat} {pos : Pos} (hp : PassesOwn (model X.prog X.w) X.A X.env X.xe) (hc : X.calm = true) (hi : DI X Wv tg iter ti) (hg : DG X Wv tg sl gd) (hb : DSs X Wv body tb)
    (hs : ∀ x, foldedSetIterable iter X.env x = pure x := by intro _; rfl) : DS X Wv (.For tg iter body [] pos) (dFor ti gd tb) := by
  refine ⟨PS_imp (ps_for hp hc hi.pi hg.pg hb.ps hs) fun Dv σ H ⟨c, g, env, w, D, B, q, k⟩ => ?_⟩
  refine ⟨c, g, env, w, _, B, q, fun items w1 H1 g1 J l1 R1 it q1 => ?_⟩
  obtain ⟨Pv, h0, hstep, hd⟩ := q1
  refine ⟨fun i m σ H => m = items.length - i ∧ i ≤ items.length ∧ ∃ g2 env w2, g1.le g2 ∧ Bx X.K Wv c g2 env w2 σ H ∧ Pv i env w2, ⟨items.length, by simp, Nat.zero_le _, g1, env, w1, .rfl, B.step l1 R1, h0⟩, ?_⟩
  rintro i m σ2 H2 ⟨rfl, hi, g2, env2, w2, l2, B2, p⟩
  by_cases hlt : i < items.length
  · refine .inr ⟨it.go c i w2 H2 g2 rfl l2 B2.R hlt, fun σ3 H3 => ∃ g3 env w3, g1.le g3 ∧ Bx X.K Wv c g3 env w3 σ3 H3 ∧ Pv (i + 1) env w3, fun σ3 H3 ⟨g3, env3, w3, l3, B3, p3⟩ =>
      ⟨items.length - (i + 1), by omega, rfl, hlt, g3, env3, w3, l3, B3, p3⟩, fun x H' y => ?_⟩
    have hx : items[i]? = some items[i] := by simp [hlt]
    obtain ⟨g3, l3, R3, r3, _⟩ := it.yld c i w2 H2 g2 x H' _ rfl l2 B2.R hx y
    refine ⟨c, g3, env2, w2, _, _, B2.step l3 R3, r3, hstep i _ env2 w2 hx p, fun env4 w4 σ4 H4 g4 l4 B4 _ q4 => ?_⟩
    refine ⟨c, g4, env4, w4, _, B4, q4, ⟨fun env5 w5 σ5 H5 g5 l5 B5 q5 => ⟨g5, env5, w5, ((l2.trans l3).trans l4).trans l5, B5, q5⟩, fun v H5 q5 => k.rt v H5 (q5.up (((l1.trans l2).trans l3).trans l4)), fun env5 w5 σ5 H5 g5 l5 B5 q5 => ?_, fun env5 w5 σ5 H5 g5 l5 B5 q5 => ⟨g5, env5, w5, ((l2.trans l3).trans l4).trans l5, B5, q5⟩⟩⟩
    exact k.nx env5 w5 σ5 H5 g5 ((((l1.trans l2).trans l3).trans l4).trans l5) B5 q5
  · have e : i = items.length := by omega
    subst e
    exact .inl ⟨it.stop c w2 H2 g2 rfl l2 B2.R, k.nx env2 w2 σ2 H2 g2 (l1.trans l2) B2 (hd env2 w2 p)⟩

/-! ### while -/
def dWhile (tc : DTT) (tb : DTS) : DTS := fun D env w => ∃ Pv : Nat → En → W → Prop, (∃ m, Pv m env w) ∧ ∀ m env w, Pv m env w →
  tc env w fun b w1 => if b = true then tb { D with nx := fun env' w' => ∃ m', m' < m ∧ Pv m' env' w', ct := fun env' w' => ∃ m', m' < m ∧ Pv m' env' w', bk := D.nx } env w1 else D.nx env w1
theorem ds_while {X : Cx} {Wv : WX} {c : Expr} {body : List Stmt} {tc : DTT} {tb : DTS} {pos : Pos} (hp : PassesOwn (model X.prog X.w) X.A X.env X.xe) (hc : DT X Wv c tc) (hb : DSs X Wv body tb) : DS X Wv (.While c body [] pos) (dWhile tc tb) := by
  refine ⟨PS_imp (ps_while hp hc.pt hb.ps) fun Dv σ H ⟨c, g, env, w, D, B, q, k⟩ => ?_⟩
  obtain ⟨Pv, ⟨m0, h0⟩, hstep⟩ := q
  refine ⟨fun m σ H => ∃ g2 env w2, g.le g2 ∧ Bx X.K Wv c g2 env w2 σ H ∧ Pv m env w2, ⟨m0, g, env, w, .rfl, B, h0⟩, ?_⟩
  rintro m σ2 H2 ⟨g2, env2, w2, l2, B2, p⟩
  refine bindT B2 (hstep m env2 w2 p) fun b H3 g3 w3 l3 B3 q3 => ?_
  cases b with
  | true =>
    refine iteT ⟨fun σ4 H4 => ∃ m', m' < m ∧ ∃ g4 env4 w4, g.le g4 ∧ Bx X.K Wv c g4 env4 w4 σ4 H4 ∧ Pv m' env4 w4, fun _ _ z => z, ?_⟩
    refine ⟨c, g3, env2, w3, _, B3, q3, ⟨fun env5 w5 σ5 H5 g5 l5 B5 ⟨m', hm, q5⟩ => ⟨m', hm, g5, env5, w5, (l2.trans l3).trans l5, B5, q5⟩, fun v H5 q5 => k.rt v H5 (q5.up (l2.trans l3)), fun env5 w5 σ5 H5 g5 l5 B5 q5 => ?_, fun env5 w5 σ5 H5 g5 l5 B5 ⟨m', hm, q5⟩ => ⟨m', hm, g5, env5, w5, (l2.trans l3).trans l5, B5, q5⟩⟩⟩
    exact k.nx env5 w5 σ5 H5 g5 ((l2.trans l3).trans l5) B5 q5
  | false => exact iteF (k.nx env2 w3 σ2 H3 g3 (l2.trans l3) B3 q3)

/-! ### an object held fast for a while -/
section
variable {K : PySem.W.Frag} {c : Ck} {g : Gh} {w : W} {H : Hp} {p : Addr} {o o' : HO}
def Ck.fr (c : Ck) (p : Addr) (o : HO) : Ck := { c with F := upd c.F p o }
theorem Rel.allocF (R : Rel K c g w H) (h : H p = none) : Rel K (c.fr p o) g w (upd H p o) := by
  refine ⟨fun a u e => ?_, R.lck, fun a m e => ?_, fun a q e => ?_, fun a e => ?_, R.ex⟩
  · rw [upd_ne (ne_of_none e (R.noG h))]
    exact R.imm a u e
  · obtain ⟨h1, h2, h3, o', h4, h5⟩ := R.mu a m e
    have ha : a ≠ p := ne_of_none h4 h
    exact ⟨h1, by show upd c.F p o a = none; rw [upd_ne ha]; exact h2, h3, o', by rw [upd_ne ha]; exact h4, h5⟩
  · by_cases ha : a = p
    · subst ha
      have e' : upd c.F a o a = some q := e
      rw [upd_same] at e'; cases e'
      exact ⟨upd_same, R.noG h, R.noP h⟩
    · have e' : upd c.F p o a = some q := e
      rw [upd_ne ha] at e'
      rw [upd_ne ha]
      exact R.frm a q e'
  · obtain ⟨h1, xs, h2, h3⟩ := R.pen a e
    exact ⟨h1, xs, by rw [upd_ne (ne_of_none h2 h)]; exact h2, h3⟩
theorem Rel.writeF (R : Rel K (c.fr p o) g w H) : Rel K (c.fr p o') g w (upd H p o') := by
  obtain ⟨_, hG, hP⟩ := R.frm p o upd_same
  refine ⟨fun a u e => ?_, R.lck, fun a m e => ?_, fun a q e => ?_, fun a e => ?_, R.ex⟩
  · rw [upd_ne (ne_of_none e hG)]
    exact R.imm a u e
  · obtain ⟨h1, h2, h3, o1, h4, h5⟩ := R.mu a m e
    have ha : a ≠ p := fun z => by
      have h2' : upd c.F p o a = none := h2
      rw [z, upd_same] at h2'; cases h2'
    have h2' : upd c.F p o a = none := h2
    rw [upd_ne ha] at h2'
    exact ⟨h1, by show upd c.F p o' a = none; rw [upd_ne ha]; exact h2', h3, o1, by rw [upd_ne ha]; exact h4, h5⟩
  · by_cases ha : a = p
    · subst ha
      have e' : upd c.F a o' a = some q := e
      rw [upd_same] at e'; cases e'
      exact ⟨upd_same, hG, hP⟩
    · have e' : upd c.F p o' a = some q := e
      rw [upd_ne ha] at e'
      rw [upd_ne ha]
      exact R.frm a q (by show upd c.F p o a = some q; rw [upd_ne ha]; exact e')
  · obtain ⟨h1, xs, h2, h3⟩ := R.pen a e
    have ha : a ≠ p := fun z => by rw [z, hP] at e; cases e
    exact ⟨h1, xs, by rw [upd_ne ha]; exact h2, h3⟩
/-- it is let go, and does not change any more -/
theorem Rel.landF (R : Rel K (c.fr p o) g w H) (hF : c.F p = none) : g.le (g.add p o) ∧ Rel K c (g.add p o) w H := by
  obtain ⟨h0, hG, hP⟩ := R.frm p o upd_same
  have le := Gh.add_le (o := o) hG
  have hL : c.L p = none := R.noL hG
  refine ⟨le, fun a u e => ?_, fun a q e => ?_, fun a m e => ?_, fun a q e => ?_, fun a e => ?_, R.ex⟩
  · by_cases ha : a = p
    · subst ha
      have e' : upd g.G a o a = some u := e
      rw [upd_same] at e'; cases e'
      exact .inl ⟨hL, h0⟩
    · have e' : upd g.G p o a = some u := e
      rw [upd_ne ha] at e'
      exact R.imm a u e'
  · obtain ⟨u, q⟩ := R.lck a q e
    exact ⟨u, le.G _ _ q⟩
  · obtain ⟨h1, h2, h3, o1, h4, h5⟩ := R.mu a m e
    have ha : a ≠ p := fun z => by
      have h2' : upd c.F p o a = none := h2
      rw [z, upd_same] at h2'; cases h2'
    have h2' : upd c.F p o a = none := h2
    rw [upd_ne ha] at h2'
    exact ⟨by show upd g.G p o a = none; rw [upd_ne ha]; exact h1, h2', h3, o1, h4, h5.le le⟩
  · have ha : a ≠ p := fun z => by rw [z, hF] at e; cases e
    obtain ⟨h1, h2, h3⟩ := R.frm a q (by show upd c.F p o a = some q; rw [upd_ne ha]; exact e)
    exact ⟨h1, by show upd g.G p o a = none; rw [upd_ne ha]; exact h2, h3⟩
  · obtain ⟨h1, xs, h2, h3⟩ := R.pen a e
    have ha : a ≠ p := fun z => by
      have e' : g.pm a = true := e
      rw [z, hP] at e'; cases e'
    exact ⟨by show upd g.G p o a = none; rw [upd_ne ha]; exact h1, xs, h2, h3.le le (Nat.le_refl _)⟩
/-- it is let go, and may change -/
theorem Rel.landM {m : MO} (R : Rel K (c.fr p o) g w H) (hF : c.F p = none) (r : RepM K g m o) : Rel K c g (w.put p m) H := by
  obtain ⟨h0, hG, hP⟩ := R.frm p o upd_same
  refine ⟨R.imm, R.lck, fun a m' e => ?_, fun a q e => ?_, R.pen, R.ex⟩
  · by_cases ha : a = p
    · subst ha
      have e' : updM w.m a m a = some m' := e
      rw [updM_same] at e'; cases e'
      exact ⟨hG, hF, hP, o, h0, r⟩
    · have e' : updM w.m p m a = some m' := e
      rw [updM_ne ha] at e'
      obtain ⟨h1, h2, h3, o1, h4, h5⟩ := R.mu a m' e'
      have h2' : upd c.F p o a = none := h2
      rw [upd_ne ha] at h2'
      exact ⟨h1, h2', h3, o1, h4, h5⟩
  · have ha : a ≠ p := fun z => by rw [z, hF] at e; cases e
    exact R.frm a q (by show upd c.F p o a = some q; rw [upd_ne ha]; exact e)
/-- it is forgotten -/
theorem Rel.unfr (R : Rel K (c.fr p o) g w H) (hF : c.F p = none) : Rel K c g w H := by
  refine ⟨R.imm, R.lck, fun a m e => ?_, fun a q e => ?_, R.pen, R.ex⟩
  · obtain ⟨h1, h2, h3, h4⟩ := R.mu a m e
    have h2' : upd c.F p o a = none := h2
    by_cases ha : a = p
    · rw [ha, upd_same] at h2'; cases h2'
    · rw [upd_ne ha] at h2'
      exact ⟨h1, h2', h3, h4⟩
  · have ha : a ≠ p := fun z => by rw [z, hF] at e; cases e
    exact R.frm a q (by show upd c.F p o a = some q; rw [upd_ne ha]; exact e)
theorem Rel.noMF (R : Rel K (c.fr p o) g w H) : w.m p = none := by
  cases e : w.m p with
  | none => rfl
  | some m =>
    obtain ⟨_, h2, _⟩ := R.mu p m e
    have h2' : upd c.F p o p = none := h2
    rw [upd_same] at h2'; cases h2'
def noE : En → Addr → Option (List (Str × D)) → Mem → Nat → Prop := fun _ _ _ _ _ => False
def Ck.mute (c : Ck) : Ck := { c with e := noE }
theorem Rel.mute (R : Rel K c g w H) : Rel K c.mute g w.mute H := ⟨R.imm, R.lck, R.mu, R.frm, R.pen, rfl⟩
theorem Rel.unmute {w0 : W} (R : Rel K c.mute g w H) (h : w0.e = c.e) : Rel K c g (w.as w0) H := ⟨R.imm, R.lck, R.mu, R.frm, R.pen, h⟩
end

/-! ### comprehensions -/
abbrev W0 : WX := fun _ _ _ _ => False
def wipeD (env : En) : List Nat → En
  | [] => env
  | v :: vs => (wipeD env vs).set v none
theorem EnR.noneB {K : PySem.W.Frag} {g : Gh} {env : En} {σ : St} (e : EnR K g env σ) (i : Nat) : EnR K g (env.set i Option.none) (σ.set i Option.none) := by
  refine ⟨by rw [List.length_set, List.length_set]; exact e.len, fun j x q => ?_⟩
  by_cases h : i = j
  · subst h
    by_cases hi : i < env.length
    · rw [List.getElem?_set_self hi] at q; cases q
    · rw [List.getElem?_eq_none (by rw [List.length_set]; omega)] at q; cases q
  · rw [List.getElem?_set_ne h] at q
    rw [List.getElem?_set_ne h]
    exact e.at_ j x q
theorem EnR.wipe {K : PySem.W.Frag} {g : Gh} {env : En} {σ : St} (e : EnR K g env σ) : ∀ vs, EnR K g (wipeD env vs) (wipe σ vs)
  | [] => e
  | v :: vs => (EnR.wipe e vs).noneB v
/-- a clause's tests -/
structure DTs (X : Cx) (Wv : WX) (ifs : List Expr) (t : DTT) : Prop where
  pts : PTs X ifs (liftT X.K Wv t)
def dYes : DTT := fun _ w Q => Q true w
theorem dts_nil {X : Cx} {Wv : WX} : DTs X Wv [] dYes := ⟨⟨fun pins s σ H Qv I ⟨c, g, env, w, Q, B, q, k⟩ => pts_nil.run pins s σ H Qv I (k true H ⟨g, w, .rfl, B.R, q⟩)⟩⟩
theorem dts_one {X : Cx} {Wv : WX} {c : Expr} {t : DTT} (h : DT X Wv c t) : DTs X Wv [c] t := ⟨pts_one h.pt⟩
/-- [elt for target in iter if ..] -/
def dLcG (fin : List D → W → DK → Prop) (ti : DTI) (gd : DTG) (tt : DTT) (te : DTE) (vs : List Nat) : DTE := fun env w Q => ti env w fun items w1 => items.length ≤ sizeLine ∧ ∃ Pv : Nat → List D → W → Prop, Pv 0 [] w1 ∧
  (∀ i x acc w2, items[i]? = some x → acc.length ≤ i → Pv i acc w2 → gd x (wipeD env vs) w2.mute fun env2 w3 => tt env2 w3 fun b w4 => if b = true then te env2 w4 fun y w5 => Pv (i + 1) (acc ++ [y]) (w5.as w1) else Pv (i + 1) acc (w4.as w1)) ∧
  ∀ acc w2, Pv items.length acc w2 → fin acc w2 Q
def finL : List D → W → DK → Prop := fun acc w Q => Q (.lst acc) w
def finM : List D → W → DK → Prop := fun acc w Q => ∀ p, w.m p = none → Q (.ref p) (w.put p (.lst acc))
def FinOk (K : PySem.W.Frag) (fin : List D → W → DK → Prop) : Prop := ∀ (c : Ck) (g : Gh) (w : W) (H : Hp) (p : Addr) (xs : List V) (ds : List D) (Q : DK), Rel K (c.fr p (.lst xs)) g w H → c.F p = none → RepL K g xs ds → fin ds w Q → PQ K c g Q (.ref p) H
theorem finL_ok {K : PySem.W.Frag} : FinOk K finL := fun c g w H p xs ds Q R hF r q => by
  obtain ⟨l, R'⟩ := R.landF hF
  exact ⟨_, w, _, l, R', .lst (.inl (.inl Gh.add_at)) (r.le l), q⟩
theorem finM_ok {K : PySem.W.Frag} : FinOk K finM := fun c g w H p xs ds Q R hF r q =>
  ⟨g, _, _, .rfl, R.landM hF (.lst r), .ref p, q p R.noMF⟩
abbrev dLc := dLcG finL
abbrev dLcM := dLcG finM
theorem lc_lift {K : PySem.W.Frag} {Wv : WX} {fin : List D → W → DK → Prop} (hfin : FinOk K fin) {ti : DTI} {gd : DTG} {tt : DTT} {te : DTE} {sl vs : List Nat} (hsl : ∀ i ∈ sl, i ∈ vs) {σ : St} {H : Hp} {Qv : VK} (h : liftE K Wv (dLcG fin ti gd tt te vs) σ H Qv) :
    tLc (liftI K Wv ti) (liftG K W0 sl gd) (liftT K W0 tt) (liftE K W0 te) vs σ H Qv := by
  obtain ⟨c, g, env, w, Q, B, q, k⟩ := h
  refine ⟨c, g, env, w, _, B, q, fun items w1 H1 g1 J l1 R1 it q1 => fun D hD => ?_⟩
  obtain ⟨hz, Pv, h0, hstep, hd⟩ := q1
  have hF : c.F D = none := R1.noF hD
  have B1 := B.step l1 R1
  refine ⟨fun i m H => m = items.length - i ∧ i ≤ items.length ∧ ∃ g2 acc accv w2, g1.le g2 ∧ RepL K g2 accv acc ∧ acc.length ≤ i ∧ Rel K (c.fr D (.lst accv)) g2 w2 H ∧ Pv i acc w2,
    ⟨items.length, by simp, Nat.zero_le _, g1, [], [], w1, .rfl, .nil, Nat.le_refl _, R1.allocF hD, h0⟩, ?_⟩
  rintro i m H2 ⟨rfl, hi, g2, acc, accv, w2, l2, r2, ha, R2, p⟩
  by_cases hlt : i < items.length
  · refine .inr ⟨it.go (c.fr D (.lst accv)) i w2 H2 g2 rfl l2 R2 hlt, fun H3 => ∃ g3 acc accv w3, g1.le g3 ∧ RepL K g3 accv acc ∧ acc.length ≤ i + 1 ∧ Rel K (c.fr D (.lst accv)) g3 w3 H3 ∧ Pv (i + 1) acc w3, fun H3 ⟨g3, acc3, accv3, w3, z⟩ =>
      ⟨items.length - (i + 1), by omega, rfl, hlt, g3, acc3, accv3, w3, z⟩, fun x H' y => ?_⟩
    have hx : items[i]? = some items[i] := by simp [hlt]
    obtain ⟨g3, l3, R3, r3, _⟩ := it.yld (c.fr D (.lst accv)) i w2 H2 g2 x H' _ rfl l2 R2 hx y
    have e1 : w1.e = c.e := R1.ex
    have Bm : Bx K W0 (c.fr D (.lst accv)).mute g3 (wipeD env vs) w2.mute (wipe σ vs) H' := ⟨R3.mute, (B.E.le ((l1.trans l2).trans l3)).wipe vs, fun _ _ _ _ _ _ _ _ px => by
      obtain ⟨_, _, _, _, _, _, _, z, _⟩ := px
      exact z⟩
    refine ⟨_, g3, _, _, _, _, Bm, r3, hstep i _ acc w2 hx ha p, fun env4 w4 σ4 H4 g4 l4 B4 s4 q4 => ⟨?_, ?_⟩⟩
    · have e := s4 vs hsl
      rw [e]
      have ww : ∀ us : List Nat, (∀ i ∈ us, i ∈ vs) → wipe (wipe σ vs) us = wipe σ vs := by
        intro us
        induction us with
        | nil => intro _; rfl
        | cons u us ih =>
          intro hu
          show (wipe (wipe σ vs) us).set u Option.none = wipe σ vs
          rw [ih fun i hi => hu i (List.mem_cons_of_mem _ hi)]
          have hm := hu u List.mem_cons_self
          have key : ∀ ws : List Nat, u ∈ ws → (wipe σ ws).set u none = wipe σ ws := by
            intro ws
            induction ws with
            | nil => intro h; cases h
            | cons v ws ih2 =>
              intro h
              unfold wipe
              by_cases e : u = v
              · subst e; rw [List.set_set]
              · rw [List.set_comm _ _ (Ne.symm e), ih2 ((List.mem_cons.mp h).resolve_left e)]
          exact key vs hm
      exact ww vs fun _ h => h
    · refine bindT B4 q4 fun b H5 g5 w5 l5 B5 q5 => ?_
      have c3 : ∀ {g' : Gh} {w' : W} {H' : Hp}, Rel K (c.fr D (.lst accv)).mute g' w' H' → Rel K (c.fr D (.lst accv)) g' (w'.as w1) H' := fun R => R.unmute e1
      cases b with
      | true =>
        refine iteT (bindE B5 q5 fun v H6 g6 w6 y l6 B6 r6 q6 => ?_)
        have R6 := c3 B6.R
        refine ⟨accv, (R6.frm D _ upd_same).1, by have := r2.length; omega, g6, acc ++ [y], accv ++ [v], w6.as w1, (((l2.trans l3).trans l4).trans l5).trans l6, (r2.le (((l3.trans l4).trans l5).trans l6)).append (.cons r6 .nil), by rw [List.length_append]; simpa using ha, R6.writeF, q6⟩
      | false => exact iteF ⟨g5, acc, accv, w5.as w1, ((l2.trans l3).trans l4).trans l5, r2.le ((l3.trans l4).trans l5), by omega, c3 B5.R, q5⟩
  · have e : i = items.length := by omega
    subst e
    exact .inl ⟨it.stop (c.fr D (.lst accv)) w2 H2 g2 rfl l2 R2, k _ _ ((hfin c g2 w2 H2 D accv acc Q R2 hF r2 (hd acc w2 p)).up (l1.trans l2))⟩
section
variable {X : Cx} {Wv : WX} {elt tg iter : Expr} {ifs : List Expr} {scope : Scope} {own : List (Str × Nat)} {sl : List Nat} {pos : Pos} {ti : DTI} {gd : DTG} {tt : DTT} {te : DTE} {fin : List D → W → DK → Prop}
theorem de_lcG (hfin : FinOk X.K fin) (hc : X.calm = true) (hN : X.N.Nodup) (hi : DI X Wv tg iter ti) (ok : blkC X.N X.env.scope scope own = true)
    (hg : ∀ (s : Shared) (H : Hp) (C : Addr) (cl : List (Str × Addr)) (fp : List Addr), DG (X.blk s H scope (compEnvC scope cl C X.env) fp) W0 tg sl gd)
    (ht : ∀ (s : Shared) (H : Hp) (C : Addr) (cl : List (Str × Addr)) (fp : List Addr), DTs (X.blk s H scope (compEnvC scope cl C X.env) fp) W0 ifs tt)
    (he : ∀ (s : Shared) (H : Hp) (C : Addr) (cl : List (Str × Addr)) (fp : List Addr), DE (X.blk s H scope (compEnvC scope cl C X.env) fp) W0 elt te) (hsl : (sl.all fun i => (own.map (·.2)).contains i) = true := by rfl) (hs : ∀ x, foldedSetIterable iter X.env x = pure x := by intro _; rfl) :
    DE X Wv (.ListComp elt [⟨tg, iter, ifs, 0⟩] scope pos) (dLcG fin ti gd tt te (own.map (·.2))) :=
  ⟨PE_imp (pe_lc hc hN hi.pi (blkOk_by ok) (fun s H C cl fp => (hg s H C cl fp).pg) (fun s H C cl fp => (ht s H C cl fp).pts) (fun s H C cl fp => (he s H C cl fp).pe) hs) fun σ H Qv h => lc_lift hfin (fun i hi => by simpa using List.all_eq_true.mp hsl i hi) h⟩
theorem ds_setLcG (hfin : FinOk X.K fin) {i : Nat} {y : Str} {py spos : Pos} (hc : X.calm = true) (hN : X.N.Nodup) (hi : DI X Wv tg iter ti) (ok : blkC X.N X.env.scope scope own = true)
    (hg : ∀ (s : Shared) (H : Hp) (C : Addr) (cl : List (Str × Addr)) (fp : List Addr), DG (X.blk s H scope (compEnvC scope cl C X.env) fp) W0 tg sl gd)
    (ht : ∀ (s : Shared) (H : Hp) (C : Addr) (cl : List (Str × Addr)) (fp : List Addr), DTs (X.blk s H scope (compEnvC scope cl C X.env) fp) W0 ifs tt)
    (he : ∀ (s : Shared) (H : Hp) (C : Addr) (cl : List (Str × Addr)) (fp : List Addr), DE (X.blk s H scope (compEnvC scope cl C X.env) fp) W0 elt te)
    (hy : X.N[i]? = some y := by rfl) (hyl : X.env.scope.names.lookup y = some .local := by rfl) (hsw : swapsWith (.ListComp elt [⟨tg, iter, ifs, 0⟩] scope pos) (some (.Name y py)) spos.line X.env = pure true := by exact sw_true rfl rfl rfl (by decide +kernel))
    (hsl : (sl.all fun i => (own.map (·.2)).contains i) = true := by rfl) (hs : ∀ x, foldedSetIterable iter X.env x = pure x := by intro _; rfl) :
    DS X Wv (.Assign [.Name y py] (.ListComp elt [⟨tg, iter, ifs, 0⟩] scope pos) spos) (dSet i (dLcG fin ti gd tt te (own.map (·.2)))) :=
  ⟨PS_imp (ps_setLc hc hN hy hyl hsw hi.pi (blkOk_by ok) (fun s H C cl fp => (hg s H C cl fp).pg) (fun s H C cl fp => (ht s H C cl fp).pts) (fun s H C cl fp => (he s H C cl fp).pe) hs) fun Dv σ H ⟨c, g, env, w, D, B, q, k⟩ =>
    lc_lift hfin (fun i hi => by simpa using List.all_eq_true.mp hsl i hi) ⟨c, g, env, w, _, B, q, fun v H1 ⟨g1, w1, d, l1, R1, r1, q1⟩ => k.nx _ w1 _ H1 g1 l1 ((B.step l1 R1).env ((B.E.le l1).set r1)) q1⟩⟩
end
end DL

/-! DLe: operators, subscripts, slices, built-ins over trees. -/
namespace DL
open PySem PySem.Spec PyProof.Rows L2

theorem PT_or {X : Cx} {e : Expr} {t t' : TT} (h : PT X e t) (h' : PT X e t') : PT X e fun σ H Q => t σ H Q ∨ t' σ H Q := ⟨fun pins s σ H Q I q => q.elim (h.run pins s σ H Q I) (h'.run pins s σ H Q I)⟩
theorem CallR_or {X : Cx} {f : Value} {r r' : List V → Hp → VK → Prop} (h : CallR X f r) (h' : CallR X f r') : CallR X f fun x H Q => r x H Q ∨ r' x H Q := fun pins s σ H x v Q I rx q => q.elim (h pins s σ H x v Q I rx) (h' pins s σ H x v Q I rx)

/-! ### int operators -/
theorem opD_int {X : Cx} {f : Value → Value → Sem Value} {C : Int → Int → Prop} {g : Int → Int → Int} (h : OpR X f (rI C fun i j => .int (g i j))) : OpD X f fun x y w Q => match x, y with
    | .int i, .int j => C i j ∧ Q (.int (g i j)) w
    | _, _ => False := ⟨_, h, fun c gh w H x y v u Q Qv R r1 r2 q k => by
  cases r1 with
  | int i => cases r2 with
    | int j => exact ⟨i, j, rfl, rfl, q.1, k _ _ ⟨gh, w, _, .rfl, R, .int _, q.2⟩⟩
    | _ => exact False.elim q
  | _ => exact False.elim q⟩
theorem opD_int0 {X : Cx} {f : Value → Value → Sem Value} {g : Int → Int → Int} (h : OpR X f (rI0 fun i j => .int (g i j))) : OpD X f fun x y w Q => match x, y with
    | .int i, .int j => Q (.int (g i j)) w
    | _, _ => False := ⟨_, h, fun c gh w H x y v u Q Qv R r1 r2 q k => by
  cases r1 with
  | int i => cases r2 with
    | int j => exact ⟨i, j, rfl, rfl, k _ _ ⟨gh, w, _, .rfl, R, .int _, q⟩⟩
    | _ => exact False.elim q
  | _ => exact False.elim q⟩
theorem opD_bl0 {X : Cx} {f : Value → Value → Sem Value} {g : Int → Int → Bool} (h : OpR X f (rI0 fun i j => .bl (g i j))) : OpD X f fun x y w Q => match x, y with
    | .int i, .int j => Q (.bl (g i j)) w
    | _, _ => False := ⟨_, h, fun c gh w H x y v u Q Qv R r1 r2 q k => by
  cases r1 with
  | int i => cases r2 with
    | int j => exact ⟨i, j, rfl, rfl, k _ _ ⟨gh, w, _, .rfl, R, .bl _, q⟩⟩
    | _ => exact False.elim q
  | _ => exact False.elim q⟩
section
variable {X : Cx}
theorem od_sub : OpD X (binaryOp .Sub) fun x y w Q => match x, y with
    | .int i, .int j => Q (.int (i - j)) w
    | _, _ => False := opD_int0 op_sub
/-- // and % by a number above nought -/
theorem od_fdiv : OpD X (binaryOp .FloorDiv) fun x y w Q => match x, y with
    | .int i, .int j => CDiv i j ∧ Q (.int (i / j)) w
    | _, _ => False := opD_int op_fdiv
theorem od_mod : OpD X (binaryOp .Mod) fun x y w Q => match x, y with
    | .int i, .int j => 0 < j ∧ Q (.int (i % j)) w
    | _, _ => False := opD_int op_mod
theorem od_pow : OpD X (binaryOp .Pow) fun x y w Q => match x, y with
    | .int i, .int j => CPow i j ∧ Q (.int (i ^ j.toNat)) w
    | _, _ => False := opD_int op_pow
end

/-! ### + -/
def rCatS (K : PySem.W.Frag) : R2 := fun x y H Q => ∃ l b xs zs, x = .ref l ∧ y = .ref b ∧ SqL K H l xs ∧ SqL K H b zs ∧ xs.length + zs.length ≤ sizeLine ∧ ∀ p, H p = none → Q (.ref p) (upd H p (.lst (xs ++ zs)))
theorem op_catS {X : Cx} : OpR X (binaryOp .Add) (rCatS X.K) := by
  intro pins s σ H x y v u Q I rx ry h
  obtain ⟨l, b, xs, zs, rfl, rfl, h1, h2, hz, q⟩ := h
  cases rx
  cases ry
  obtain ⟨its, r1, ⟨⟨c1, d1, t1, s1⟩, n1, e1, hc1, hd1, hs1⟩, z1⟩ := I.list h1
  obtain ⟨its2, r2, ⟨⟨c2, d2, t2, s2⟩, n2, e2, hc2, hd2, hs2⟩, z2⟩ := I.list h2
  simp only at hc1 hd1 hs1 hc2 hd2 hs2
  subst hc1 hd1 hs1 hc2 hd2 hs2
  have el := r1.length
  have el2 := r2.length
  refine concat_meets ⟨_, e1, rfl⟩ ⟨_, e2, rfl⟩ noFill_list_add seq_list_add PySem.F.slot_list_add PySem.F.entry_list_add (PySem.F.args_list_add_2 _ _)
    (list_addW l b its.toArray its2.toArray n1 n2 none none s1 s2 (by rw [List.size_toArray, List.size_toArray]; omega)) ⟨e1, e2, ?_⟩
  have ea : its.toArray ++ its2.toArray = (its ++ its2).toArray := by simp
  rw [ea]
  exact ⟨.ref _, _, I.lnew (t' := s.toks) (r1.append r2) (by rw [List.length_append]; omega), rfl, q _ I.fresh⟩
def addD : DR2 := fun x y w Q => match x, y with
  | .int i, .int j => Q (.int (i + j)) w
  | .str a, .str b => a.length + b.length ≤ sizeLine ∧ Q (.str (a ++ b)) w
  | .lst a, .lst b => a.length + b.length ≤ sizeLine ∧ Q (.lst (a ++ b)) w
  | .tup a, .tup b => a ≠ [] ∧ a.length + b.length ≤ sizeLine ∧ Q (.tup (a ++ b)) w
  | .ref p, .lst b => ∃ a, w.m p = some (.lst a) ∧ a.length + b.length ≤ sizeLine ∧ Q (.lst (a ++ b)) w
  | _, _ => False
theorem Rel.mlst {K : PySem.W.Frag} {c : Ck} {g : Gh} {w : W} {H : Hp} (R : Rel K c g w H) {p : Addr} {xs : List D} (h : w.m p = some (.lst xs)) : ∃ vs, H p = some (.lst vs) ∧ RepL K g vs xs := by
  obtain ⟨_, _, _, o, e, r⟩ := R.mu p _ h
  cases r with
  | lst r => exact ⟨_, e, r⟩
theorem Rel.mdic {K : PySem.W.Frag} {c : Ck} {g : Gh} {w : W} {H : Hp} (R : Rel K c g w H) {p : Addr} {xs : List (Key × D)} (h : w.m p = some (.dic xs)) : ∃ vs, H p = some (.dK vs) ∧ RepK K g vs xs := by
  obtain ⟨_, _, _, o, e, r⟩ := R.mu p _ h
  cases r with
  | dic r => exact ⟨_, e, r⟩
theorem newL {K : PySem.W.Frag} {c : Ck} {g : Gh} {w : W} {H : Hp} {xs : List V} {ds : List D} {Q : DK} {Qv : VK} (R : Rel K c g w H) (r : RepL K g xs ds) (q : Q (.lst ds) w) (k : ∀ v H', PQ K c g Q v H' → Qv v H') :
    ∀ p, H p = none → Qv (.ref p) (upd H p (.lst xs)) := fun p hp =>
  have l := Gh.add_le (o := .lst xs) (R.noG hp)
  k _ _ ⟨_, w, .lst ds, l, R.alloc hp, .lst (.inl (.inl Gh.add_at)) (r.le l), q⟩
theorem newT {K : PySem.W.Frag} {c : Ck} {g : Gh} {w : W} {H : Hp} {xs : List V} {ds : List D} {Q : DK} {Qv : VK} (R : Rel K c g w H) (r : RepL K g xs ds) (q : Q (.tup ds) w) (k : ∀ v H', PQ K c g Q v H' → Qv v H') :
    ∀ p, H p = none → Qv (.ref p) (upd H p (.tup xs)) := fun p hp =>
  have l := Gh.add_le (o := .tup xs) (R.noG hp)
  k _ _ ⟨_, w, .tup ds, l, R.alloc hp, .tup (.inl (.inl Gh.add_at)) (r.le l), q⟩
theorem newM {K : PySem.W.Frag} {c : Ck} {g : Gh} {w : W} {H : Hp} {xs : List V} {ds : List D} {Q : DK} {Qv : VK} (R : Rel K c g w H) (r : RepL K g xs ds) (q : ∀ p, w.m p = none → Q (.ref p) (w.put p (.lst ds))) (k : ∀ v H', PQ K c g Q v H' → Qv v H') :
    ∀ p, H p = none → Qv (.ref p) (upd H p (.lst xs)) := fun p hp =>
  k _ _ ⟨g, _, .ref p, .rfl, R.allocM hp (.lst r), .ref p, q p (R.noM hp)⟩
theorem od_add {X : Cx} : OpD X (binaryOp .Add) addD := by
  refine ⟨_, OpR_or op_add (OpR_or op_add_str (OpR_or op_catS op_catT)), fun c g w H x y v u Q Qv R r1 r2 q k => ?_⟩
  cases r1 with
  | int i => cases r2 with
    | int j => exact .inl ⟨i, j, rfl, rfl, k _ _ ⟨g, w, _, .rfl, R, .int _, q⟩⟩
    | _ => exact False.elim q
  | str i => cases r2 with
    | str j => exact .inr (.inl ⟨i, j, rfl, rfl, q.1, k _ _ ⟨g, w, _, .rfl, R, .str _, q.2⟩⟩)
    | _ => exact False.elim q
  | lst s1 r1 => cases r2 with
    | lst s2 r2 => exact .inr (.inr (.inl ⟨_, _, _, _, rfl, rfl, R.sqL s1, R.sqL s2, by rw [r1.length, r2.length]; exact q.1, newL R (r1.append r2) q.2 k⟩))
    | _ => exact False.elim q
  | @tup a xs ds s1 r1 => cases r2 with
    | @tup b ys es s2 r2 =>
      refine .inr (.inr (.inr ⟨_, _, _, _, rfl, rfl, R.sqT s1, R.sqT s2, fun z => ?_, by rw [r1.length, r2.length]; exact q.2.1, fun z => ?_, fun _ => newT R (r1.append r2) q.2.2 k⟩))
      · subst z
        cases r1
        exact q.1 rfl
      · subst z
        cases r2
        refine k _ _ ⟨g, w, _, .rfl, R, .tup s1 r1, ?_⟩
        have := q.2.2
        rw [List.append_nil] at this
        exact this
    | _ => exact False.elim q
  | ref p => cases r2 with
    | lst s2 r2 =>
      obtain ⟨a, e, q1, q2⟩ := (show ∃ a, w.m p = some (.lst a) ∧ _ ∧ _ from q)
      obtain ⟨vs, e1, r1⟩ := R.mlst e
      exact .inr (.inr (.inl ⟨_, _, _, _, rfl, rfl, SqL.of e1, R.sqL s2, by rw [r1.length, r2.length]; exact q1, newL R (r1.append r2) q2 k⟩))
    | _ => exact False.elim q
  | _ => exact False.elim q

/-! ### * -/
def mulD : DR2 := fun x y w Q => match x, y with
  | .int i, .int j => CMul i j ∧ Q (.int (i * j)) w
  | .ref p, .int j => ∃ xs, w.m p = some (.lst xs) ∧ -(2 ^ 63) ≤ j ∧ j < 2 ^ 63 ∧ xs.length * j.toNat ≤ sizeLine ∧ Q (.lst (List.replicate j.toNat xs).flatten) w
  | _, _ => False
theorem RepL.rep {K : PySem.W.Frag} {g : Gh} {xs : List V} {ds : List D} (r : RepL K g xs ds) : ∀ n : Nat, RepL K g (List.replicate n xs).flatten (List.replicate n ds).flatten
  | 0 => .nil
  | n + 1 => by
    rw [List.replicate_succ, List.replicate_succ, List.flatten_cons, List.flatten_cons]
    exact r.append (RepL.rep r n)
theorem od_mul {X : Cx} : OpD X (binaryOp .Mult) mulD := by
  refine ⟨_, OpR_or op_mul op_rep, fun c g w H x y v u Q Qv R r1 r2 q k => ?_⟩
  cases r1 with
  | int i => cases r2 with
    | int j => exact .inl ⟨i, j, rfl, rfl, q.1, k _ _ ⟨g, w, _, .rfl, R, .int _, q.2⟩⟩
    | _ => exact False.elim q
  | ref p => cases r2 with
    | int j =>
      obtain ⟨xs, e, h1, h2, h3, q⟩ := (show ∃ a, w.m p = some (.lst a) ∧ _ from q)
      obtain ⟨vs, e1, r1⟩ := R.mlst e
      exact .inr ⟨_, _, _, rfl, rfl, e1, h1, h2, by rw [r1.length]; exact h3, newL R (r1.rep _) q k⟩
    | _ => exact False.elim q
  | _ => exact False.elim q

/-! ### order -/
def strLt (a b : Str) : Bool := decide (a.cps.toList < b.cps.toList)
def ltD : DR2 := fun x y w Q => match x, y with
  | .int i, .int j => Q (.bl (decide (i < j))) w
  | .str a, .str b => Q (.bl (decide (a.cps.toList < b.cps.toList))) w
  | _, _ => False
def leD : DR2 := fun x y w Q => match x, y with
  | .int i, .int j => Q (.bl (decide (i ≤ j))) w
  | .str a, .str b => Q (.bl (!decide (b.cps.toList < a.cps.toList))) w
  | _, _ => False
def gtD : DR2 := fun x y w Q => match x, y with
  | .int i, .int j => Q (.bl (decide (j < i))) w
  | .str a, .str b => Q (.bl (decide (b.cps.toList < a.cps.toList))) w
  | _, _ => False
def geD : DR2 := fun x y w Q => match x, y with
  | .int i, .int j => Q (.bl (decide (j ≤ i))) w
  | .str a, .str b => Q (.bl (!decide (a.cps.toList < b.cps.toList))) w
  | _, _ => False
section
variable {X : Cx}
theorem od_lt : OpD X (compareOp .Lt) ltD := by
  refine ⟨_, OpR_or op_lt op_lt_str, fun c g w H x y v u Q Qv R r1 r2 q k => ?_⟩
  cases r1 with
  | int i => cases r2 with
    | int j => exact .inl ⟨i, j, rfl, rfl, k _ _ ⟨g, w, _, .rfl, R, .bl _, q⟩⟩
    | _ => exact False.elim q
  | str i => cases r2 with
    | str j => exact .inr ⟨i, j, rfl, rfl, k _ _ ⟨g, w, _, .rfl, R, .bl _, q⟩⟩
    | _ => exact False.elim q
  | _ => exact False.elim q
theorem od_le : OpD X (compareOp .LtE) leD := by
  refine ⟨_, OpR_or op_le op_le_str, fun c g w H x y v u Q Qv R r1 r2 q k => ?_⟩
  cases r1 with
  | int i => cases r2 with
    | int j => exact .inl ⟨i, j, rfl, rfl, k _ _ ⟨g, w, _, .rfl, R, .bl _, q⟩⟩
    | _ => exact False.elim q
  | str i => cases r2 with
    | str j => exact .inr ⟨i, j, rfl, rfl, k _ _ ⟨g, w, _, .rfl, R, .bl _, q⟩⟩
    | _ => exact False.elim q
  | _ => exact False.elim q
theorem od_gt : OpD X (compareOp .Gt) gtD := by
  refine ⟨_, OpR_or op_gt op_gt_str, fun c g w H x y v u Q Qv R r1 r2 q k => ?_⟩
  cases r1 with
  | int i => cases r2 with
    | int j => exact .inl ⟨i, j, rfl, rfl, k _ _ ⟨g, w, _, .rfl, R, .bl _, q⟩⟩
    | _ => exact False.elim q
  | str i => cases r2 with
    | str j => exact .inr ⟨i, j, rfl, rfl, k _ _ ⟨g, w, _, .rfl, R, .bl _, q⟩⟩
    | _ => exact False.elim q
  | _ => exact False.elim q
theorem od_ge : OpD X (compareOp .GtE) geD := by
  refine ⟨_, OpR_or op_ge op_ge_str, fun c g w H x y v u Q Qv R r1 r2 q k => ?_⟩
  cases r1 with
  | int i => cases r2 with
    | int j => exact .inl ⟨i, j, rfl, rfl, k _ _ ⟨g, w, _, .rfl, R, .bl _, q⟩⟩
    | _ => exact False.elim q
  | str i => cases r2 with
    | str j => exact .inr ⟨i, j, rfl, rfl, k _ _ ⟨g, w, _, .rfl, R, .bl _, q⟩⟩
    | _ => exact False.elim q
  | _ => exact False.elim q
end

/-! ### data -/
mutual
/-- the plain data of a tree -/
def toPy : D → Option PyData
  | .non => some .none
  | .bl b => some (.bool b)
  | .int i => some (.int i)
  | .str x => some (.str x)
  | .lst xs => (toPyL xs).map .list
  | .tup xs => (toPyL xs).map .tuple
  | .dic kvs => (toPyK kvs).map .dict
  | .ty _ | .obj _ _ | .ref _ | .pen => none
def toPyL : List D → Option (List PyData)
  | [] => some []
  | x :: xs => (toPy x).bind fun d => (toPyL xs).map (d :: ·)
def toPyK : List (Key × D) → Option (List (PyData × PyData))
  | [] => some []
  | (k, x) :: xs => (toPy x).bind fun d => (toPyK xs).map (((match k with | .inl i => .int i | .inr s => .str s), d) :: ·)
end
mutual
/-- no dict within -/
theorem Rep.dp {K : PySem.W.Frag} {c : Ck} {g : Gh} {w : W} {H : Hp} (R : Rel K c g w H) : ∀ {v : V} {d : D} {p : PyData}, Rep K g v d → toPy d = some p → PyData.hasDict p = false → Dp K H v p
  | _, _, _, .non, e, _ => by simp only [toPy] at e; cases e; exact .non
  | _, _, _, .bl b, e, _ => by simp only [toPy] at e; cases e; exact .bl b
  | _, _, _, .int b, e, _ => by simp only [toPy] at e; cases e; exact .int b
  | _, _, _, .str b, e, _ => by simp only [toPy] at e; cases e; exact .str b
  | _, _, _, .lst s r, e, h => by
    simp only [toPy, Option.map_eq_some_iff] at e
    obtain ⟨ps, e1, rfl⟩ := e
    exact .lst (R.sqL s) (RepL.dp R r e1 (by simpa [PyData.hasDict] using h))
  | _, _, _, .tup s r, e, h => by
    simp only [toPy, Option.map_eq_some_iff] at e
    obtain ⟨ps, e1, rfl⟩ := e
    exact .tup (R.sqT s) (RepL.dp R r e1 (by simpa [PyData.hasDict] using h))
  | _, _, _, .dic s r, e, h => by
    simp only [toPy, Option.map_eq_some_iff] at e
    obtain ⟨ps, e1, rfl⟩ := e
    simp [PyData.hasDict] at h
  | _, _, _, .ty n, e, _ => by simp [toPy] at e
  | _, _, _, .obj _ _, e, _ => by simp [toPy] at e
  | _, _, _, .ref _, e, _ => by simp [toPy] at e
  | _, _, _, .pen _, e, _ => by simp [toPy] at e
theorem RepL.dp {K : PySem.W.Frag} {c : Ck} {g : Gh} {w : W} {H : Hp} (R : Rel K c g w H) : ∀ {v : List V} {d : List D} {p : List PyData}, RepL K g v d → toPyL d = some p → PyData.hasDictAll p = false → DpAll K H v p
  | _, _, _, .nil, e, _ => by simp only [toPyL] at e; cases e; exact .nil
  | _, _, _, .cons a r, e, h => by
    simp only [toPyL, Option.bind_eq_some_iff, Option.map_eq_some_iff] at e
    obtain ⟨d, e1, ds, e2, rfl⟩ := e
    simp only [PyData.hasDictAll, Bool.or_eq_false_iff] at h
    exact .cons (Rep.dp R a e1 h.1) (RepL.dp R r e2 h.2)
end
/-- == of scalars, or of data without dicts -/
def eqR (neg : Bool) : DR2 := fun x y w Q => match x, y with
  | .str a, .str b => Q (.bl (neg ^^ decide (a = b))) w
  | .int a, .int b => Q (.bl (neg ^^ decide (a = b))) w
  | .bl a, .bl b => Q (.bl (neg ^^ decide (a = b))) w
  | x, y => ∃ d e, toPy x = some d ∧ toPy y = some e ∧ SeqAt.shaped d = true ∧ SeqAt.shaped e = true ∧ Q (.bl (neg ^^ PyData.eqv d e)) w
theorem shaped_noDict {d : PyData} (h : SeqAt.shaped d = true) : PyData.hasDict d = false := by
  unfold SeqAt.shaped at h
  rw [Bool.and_eq_true] at h
  exact PyData.hasDict_of_canLay d h.1
section
variable {X : Cx}
theorem eqRel {g : Gh} {c : Ck} {w : W} {H : Hp} {x y : D} {v u : V} {Q : DK} {Qv : VK} {neg : Bool} (R : Rel X.K c g w H) (r1 : Rep X.K g v x) (r2 : Rep X.K g u y) (q : eqR neg x y w Q) (k : ∀ v H', PQ X.K c g Q v H' → Qv v H') :
    (scal v u = true ∧ Qv (.bl (neg ^^ decide (v = u))) H) ∨ (∃ d e, Dp X.K H v d ∧ Dp X.K H u e ∧ SeqAt.shaped d = true ∧ SeqAt.shaped e = true ∧ Qv (.bl (neg ^^ PyData.eqv d e)) H) := by
  have fin : ∀ b, Q (.bl b) w → Qv (.bl b) H := fun b z => k _ _ ⟨g, w, _, .rfl, R, .bl b, z⟩
  have gen : (∃ d e, toPy x = some d ∧ toPy y = some e ∧ SeqAt.shaped d = true ∧ SeqAt.shaped e = true ∧ Q (.bl (neg ^^ PyData.eqv d e)) w) →
      ∃ d e, Dp X.K H v d ∧ Dp X.K H u e ∧ SeqAt.shaped d = true ∧ SeqAt.shaped e = true ∧ Qv (.bl (neg ^^ PyData.eqv d e)) H := fun ⟨d, e, h1, h2, h3, h4, h5⟩ =>
    ⟨d, e, r1.dp R h1 (shaped_noDict h3), r2.dp R h2 (shaped_noDict h4), h3, h4, fin _ h5⟩
  unfold eqR at q
  split at q
  · cases r1; cases r2
    refine .inl ⟨rfl, fin _ ?_⟩
    simpa using q
  · cases r1; cases r2
    refine .inl ⟨rfl, fin _ ?_⟩
    simpa using q
  · cases r1; cases r2
    refine .inl ⟨rfl, fin _ ?_⟩
    simpa using q
  · exact .inr (gen q)
theorem od_eq (hu : X.A.units + 64 < cLine) : OpD X (compareOp .Eq) (eqR false) := by
  refine ⟨_, OpR_or op_eq (op_eqD hu), fun c g w H x y v u Q Qv R r1 r2 q k => ?_⟩
  have z := eqRel R r1 r2 q k
  simp only [Bool.false_bne] at z
  exact z
theorem od_ne (hu : X.A.units + 64 < cLine) : OpD X (compareOp .NotEq) (eqR true) := by
  refine ⟨_, OpR_or op_ne (op_neD hu), fun c g w H x y v u Q Qv R r1 r2 q k => ?_⟩
  have z := eqRel R r1 r2 q k
  simp only [Bool.true_bne] at z
  exact z
theorem od_is : OpD X (compareOp .Is) fun x y w Q => match y with
    | .non => Q (.bl (match x with | .non => true | _ => false)) w
    | _ => False := ⟨_, op_isN, fun c g w H x y v u Q Qv R r1 r2 q k => by
  cases r2 with
  | non => exact ⟨rfl, by cases r1 <;> exact k _ _ ⟨g, w, _, .rfl, R, .bl _, q⟩⟩
  | _ => exact False.elim q⟩
theorem od_isnot : OpD X (compareOp .IsNot) fun x y w Q => match y with
    | .non => Q (.bl (match x with | .non => false | _ => true)) w
    | _ => False := ⟨_, op_notN, fun c g w H x y v u Q Qv R r1 r2 q k => by
  cases r2 with
  | non => exact ⟨rfl, by cases r1 <;> exact k _ _ ⟨g, w, _, .rfl, R, .bl _, q⟩⟩
  | _ => exact False.elim q⟩
end
end DL

/-! DLf: subscripts, in, slices, built-ins over trees. -/
namespace DL
open PySem PySem.Spec PyProof.Rows L2

/-! ### keys -/
def kD : Key → D
  | .inl i => .int i
  | .inr x => .str x
def keyOf : D → Option Key
  | .int i => some (.inl i)
  | .str x => some (.inr x)
  | _ => none
theorem keyOf_kD (k : Key) : keyOf (kD k) = some k := by cases k <;> rfl
def valD {κ : Type} [DecidableEq κ] (kvs : List (κ × D)) (k : κ) : Option D := (kvs.find? fun kv => decide (kv.1 = k)).map (·.2)
section
variable {K : PySem.W.Frag} {g : Gh}
theorem Rep.key {v : V} {d : D} {k : Key} (r : Rep K g v d) (h : keyOf d = some k) : v = kV k ∧ d = kD k := by
  cases r <;> simp only [keyOf, reduceCtorEq, Option.some.injEq] at h
  · subst h; exact ⟨rfl, rfl⟩
  · subst h; exact ⟨rfl, rfl⟩
theorem RepK.val : ∀ {xs : List (Key × V)} {ds : List (Key × D)} (k : Key), RepK K g xs ds → (valV xs k = none ∧ valD ds k = none) ∨ ∃ v d, valV xs k = some v ∧ valD ds k = some d ∧ Rep K g v d
  | _, _, k, .nil => .inl ⟨rfl, rfl⟩
  | _, _, k, @RepK.cons _ _ k' v vs d ds a r => by
    by_cases e : k' = k
    · refine .inr ⟨v, d, ?_, ?_, a⟩
      · unfold valV; rw [List.find?_cons_of_pos (by simpa using e)]; rfl
      · unfold valD; rw [List.find?_cons_of_pos (by simpa using e)]; rfl
    · have h1 : valV ((k', v) :: vs) k = valV vs k := by unfold valV; rw [List.find?_cons_of_neg (by simpa using e)]
      have h2 : valD ((k', d) :: ds) k = valD ds k := by unfold valD; rw [List.find?_cons_of_neg (by simpa using e)]
      rw [h1, h2]
      exact RepK.val k r
theorem RepK.keys : ∀ {xs : List (Key × V)} {ds : List (Key × D)}, RepK K g xs ds → xs.map (·.1) = ds.map (·.1)
  | _, _, .nil => rfl
  | _, _, .cons _ r => by rw [List.map_cons, List.map_cons, RepK.keys r]
theorem repKeys : ∀ (xs : List Key), RepL K g (xs.map kV) (xs.map kD)
  | [] => .nil
  | .inl i :: xs => .cons (.int i) (repKeys xs)
  | .inr i :: xs => .cons (.str i) (repKeys xs)
theorem RepL.atI {v : List V} {d : List D} {i : Int} {x : D} (r : RepL K g v d) (h : L2.atI d i = some x) : ∃ u, L2.atI v i = some u ∧ Rep K g u x := by
  unfold L2.atI at h ⊢
  rw [r.length]
  cases e : ixN d.length i with
  | none => rw [e] at h; cases h
  | some j =>
    rw [e] at h
    exact r.get h
end
theorem Rel.rdic {K : PySem.W.Frag} {c : Ck} {g : Gh} {w : W} {H : Hp} (R : Rel K c g w H) {a : Addr} {xs : List (Key × V)} (h : g.G a = some (.dK xs)) : Rd H a (.dK xs) := R.rd h

/-! ### subscripts -/
def subD : DR2 := fun x y w Q => match x, y with
  | .lst xs, .int i => ∃ d, atI xs i = some d ∧ Q d w
  | .tup xs, .int i => ∃ d, atI xs i = some d ∧ Q d w
  | .str z, .int i => z.length ≤ sizeLine ∧ ∃ c, atI z.cps.toList i = some c ∧ Q (.str ⟨#[c]⟩) w
  | .dic kvs, k => ∃ q d, keyOf k = some q ∧ valD kvs q = some d ∧ Q d w
  | .ref p, k => (∃ xs i d, w.m p = some (.lst xs) ∧ k = .int i ∧ atI xs i = some d ∧ Q d w) ∨ ∃ kvs q d, w.m p = some (.dic kvs) ∧ keyOf k = some q ∧ valD kvs q = some d ∧ Q d w
  | _, _ => False
def ImpD (K : PySem.W.Frag) (r0 : R2) (r : DR2) : Prop := ∀ c g w H x y v u Q Qv, Rel K c g w H → Rep K g v x → Rep K g u y → r x y w Q → (∀ v H', PQ K c g Q v H' → Qv v H') → r0 v u H Qv
def rIxD : R2 := fun x y H Q => ∃ a v, x = .ref a ∧ DGet H a y (some v) ∧ Q v H
theorem ix_dict {X : Cx} (hu : X.A.units + 1 < cLine) : IxR X rIxD := by
  intro value slice pins s σ H x y v u Q I rx ry h hs
  obtain ⟨a, z, rfl, g, q⟩ := h
  cases rx
  exact tail_any (dict_typeIs I g) PySem.F.slot_dict_getitem.lookup (d_getItem hu I g ry fun w' s' I' rw' => ⟨z, H, I', rw', q⟩) hs
theorem sub_imp {K : PySem.W.Frag} : ImpD K (fun x y H Q => rIx K x y H Q ∨ rIxD x y H Q) subD := by
  intro c g w H x y v u Q Qv R r1 r2 q k
  have fin : ∀ {v : V} {d : D}, Rep K g v d → Q d w → Qv v H := fun r z => k _ _ ⟨g, w, _, .rfl, R, r, z⟩
  cases r1 with
  | lst s1 r1 => cases r2 with
    | int i =>
      obtain ⟨d, e, q2⟩ := (show ∃ d, _ ∧ _ from q)
      obtain ⟨u, e1, ru⟩ := r1.atI e
      exact .inl (.inl ⟨_, _, _, _, rfl, rfl, R.sqL s1, e1, fin ru q2⟩)
    | _ => exact False.elim q
  | tup s1 r1 => cases r2 with
    | int i =>
      obtain ⟨d, e, q2⟩ := (show ∃ d, _ ∧ _ from q)
      obtain ⟨u, e1, ru⟩ := r1.atI e
      exact .inl (.inr (.inl ⟨_, _, _, _, rfl, rfl, R.sqT s1, e1, fin ru q2⟩))
    | _ => exact False.elim q
  | str z => cases r2 with
    | int i =>
      obtain ⟨hz, ch, e, q2⟩ := (show _ ∧ ∃ c, _ ∧ _ from q)
      exact .inl (.inr (.inr ⟨_, _, _, rfl, rfl, hz, e, fin (.str _) q2⟩))
    | _ => exact False.elim q
  | dic s1 r1 =>
    obtain ⟨ky, d, e1, e2, q2⟩ := (show ∃ q d, _ ∧ _ ∧ _ from q)
    obtain ⟨rfl, rfl⟩ := r2.key e1
    rcases r1.val ky with ⟨_, z⟩ | ⟨v', d', z1, z2, r'⟩
    · rw [e2] at z; cases z
    · rw [e2] at z2; cases z2
      exact .inr ⟨_, _, rfl, .inl ⟨_, ky, R.rdic s1, rfl, z1.symm⟩, fin r' q2⟩
  | ref p =>
    rcases (show (∃ xs i d, _) ∨ ∃ kvs q d, _ from q) with ⟨xs, i, d, e1, rfl, e2, q2⟩ | ⟨kvs, ky, d, e0, e1, e2, q2⟩
    · cases r2
      obtain ⟨vs, e3, r1⟩ := R.mlst e1
      obtain ⟨u, e4, ru⟩ := r1.atI e2
      exact .inl (.inl ⟨_, _, _, _, rfl, rfl, SqL.of e3, e4, fin ru q2⟩)
    · obtain ⟨rfl, rfl⟩ := r2.key e1
      obtain ⟨vs, e3, r1⟩ := R.mdic e0
      rcases r1.val ky with ⟨_, z⟩ | ⟨v', d', z1, z2, r'⟩
      · rw [e2] at z; cases z
      · rw [e2] at z2; cases z2
        exact .inr ⟨_, _, rfl, .inl ⟨_, ky, .inl e3, rfl, z1.symm⟩, fin r' q2⟩
  | _ => exact False.elim q
section
variable {X : Cx} {Wv : WX} {a b : Expr} {ta tb : DTE} {pos : Pos}
theorem de_sub (hu : X.A.units + 1 < cLine) (ha : DE X Wv a ta) (hb : DE X Wv b tb) (hs : PlainIx b := by exact fun _ _ => rfl) : DE X Wv (.Subscript a b pos) (dOp subD ta tb) :=
  ⟨PE_imp (pe_ix (ix_seq.or (ix_dict hu)) ha.pe hb.pe hs) fun σ H Qv h => dop_lift sub_imp h⟩
end

/-! ### in -/
def scalD : D → Bool
  | .non | .bl _ | .int _ | .str _ => true
  | _ => false
def eqS : D → D → Bool
  | .non, .non => true
  | .bl a, .bl b => a == b
  | .bl a, .int b => (if a then 1 else 0) == b
  | .int a, .bl b => a == (if b then 1 else 0)
  | .int a, .int b => a == b
  | .str a, .str b => a == b
  | _, _ => false
def inS (a b : Str) : Bool := !(Builtin.Str.occurrences b a 0 b.length 1).isEmpty
theorem inS_one (c : Nat) (z : Str) : inS ⟨#[c]⟩ z = decide (c ∈ z.cps.toList) := (PySem.StrLaws.found_one z c)
def memS (x : D) (xs : List D) : Bool := xs.any fun y => eqS y x
def inR (neg : Bool) : DR2 := fun x y w Q => match y with
  | .str b => (match x with | .str a => Q (.bl (neg ^^ inS a b)) w | _ => False)
  | .lst xs => (scalD x && xs.all scalD) = true ∧ Q (.bl (neg ^^ memS x xs)) w
  | .tup xs => (scalD x && xs.all scalD) = true ∧ Q (.bl (neg ^^ memS x xs)) w
  | .dic kvs => ∃ k, keyOf x = some k ∧ Q (.bl (neg ^^ (valD kvs k).isSome)) w
  | .ref p => (∃ xs, w.m p = some (.lst xs) ∧ (scalD x && xs.all scalD) = true ∧ Q (.bl (neg ^^ memS x xs)) w) ∨ ∃ kvs k, w.m p = some (.dic kvs) ∧ keyOf x = some k ∧ Q (.bl (neg ^^ (valD kvs k).isSome)) w
  | _ => False
section
variable {K : PySem.W.Frag} {g : Gh}
theorem Rep.flat {v : V} {d : D} (r : Rep K g v d) (h : scalD d = true) : flatV v = true := by
  cases r <;> first | rfl | (simp [scalD] at h)
theorem RepL.flat : ∀ {v : List V} {d : List D}, RepL K g v d → d.all scalD = true → v.all flatV = true
  | _, _, .nil, _ => rfl
  | _, _, .cons a r, h => by
    rw [List.all_cons, Bool.and_eq_true] at h
    rw [List.all_cons, a.flat h.1, RepL.flat r h.2]
    rfl
theorem Rep.eqS {v u : V} {d e : D} (r : Rep K g v d) (q : Rep K g u e) (h : scalD d = true) (h' : scalD e = true) : eqV v u = eqS d e := by
  cases r <;> first | (simp [scalD] at h; done) | (cases q <;> first | rfl | (simp [scalD] at h'; done))
theorem RepL.memS {x : V} {d : D} (q : Rep K g x d) (h' : scalD d = true) : ∀ {v : List V} {ds : List D}, RepL K g v ds → ds.all scalD = true → inV x v = memS d ds
  | _, _, .nil, _ => rfl
  | _, _, .cons a r, h => by
    rw [List.all_cons, Bool.and_eq_true] at h
    show (eqV _ x || _) = (eqS _ d || _)
    rw [a.eqS q h.1 h']
    exact congrArg _ (RepL.memS q h' r h.2)
end
def rInAny (K : PySem.W.Frag) (neg : Bool) : R2 := fun x y H Q => (∃ i j, x = .str i ∧ y = .str j ∧ Q (.bl (neg ^^ inS i j)) H) ∨ (∃ p xs, y = .ref p ∧ (SqL K H p xs ∨ SqT K H p xs) ∧ flatV x = true ∧ xs.all flatV = true ∧ Q (.bl (neg ^^ inV x xs)) H) ∨
  ∃ a o, y = .ref a ∧ DGet H a x o ∧ Q (.bl (neg ^^ o.isSome)) H
theorem op_inAny {X : Cx} (hu : X.A.units + 1 < cLine) : OpR X (compareOp .In) (rInAny X.K false) := by
  intro pins s σ H x y v u Q I rx ry h
  simp only [rInAny, Bool.false_bne] at h
  rcases h with ⟨i, j, rfl, rfl, q⟩ | ⟨p, xs, rfl, h1, h2, h3, q⟩ | ⟨a, o, rfl, g, q⟩
  · exact op_in_str pins s σ H _ _ v u Q I rx ry ⟨i, j, rfl, rfl, q⟩
  · exact op_in_seq pins s σ H _ _ v u Q I rx ry ⟨p, xs, rfl, h1, h2, h3, by rw [if_neg Bool.false_ne_true]; exact q⟩
  · cases ry
    exact d_in hu I g rx fun s' I' => ⟨.bl _, H, I', rfl, q⟩
theorem op_notInAny {X : Cx} (hu : X.A.units + 1 < cLine) : OpR X (compareOp .NotIn) (rInAny X.K true) := by
  intro pins s σ H x y v u Q I rx ry h
  simp only [rInAny, Bool.true_bne] at h
  rcases h with ⟨i, j, rfl, rfl, q⟩ | ⟨p, xs, rfl, h1, h2, h3, q⟩ | ⟨a, o, rfl, g, q⟩
  · exact op_notIn_str pins s σ H _ _ v u Q I rx ry ⟨i, j, rfl, rfl, q⟩
  · exact op_notIn_seq pins s σ H _ _ v u Q I rx ry ⟨p, xs, rfl, h1, h2, h3, by rw [if_pos rfl]; exact q⟩
  · cases ry
    exact d_notIn hu I g rx fun s' I' => ⟨.bl _, H, I', rfl, q⟩
theorem in_imp {K : PySem.W.Frag} (neg : Bool) : ImpD K (rInAny K neg) (inR neg) := by
  intro c g w H x y v u Q Qv R r1 r2 q k
  have fin : ∀ b, Q (.bl b) w → Qv (.bl b) H := fun b z => k _ _ ⟨g, w, _, .rfl, R, .bl b, z⟩
  have dics : ∀ {a : Addr} {xs : List (Key × V)} {ds : List (Key × D)}, Rd H a (.dK xs) → RepK K g xs ds → (∃ ky, keyOf x = some ky ∧ Q (.bl (neg ^^ (valD ds ky).isSome)) w) → ∃ a' o, V.ref a = .ref a' ∧ DGet H a' v o ∧ Qv (.bl (neg ^^ o.isSome)) H :=
    fun {a xs ds} hr r ⟨ky, e, z⟩ => by
      obtain ⟨rfl, _⟩ := r1.key e
      refine ⟨a, _, rfl, .inl ⟨xs, ky, hr, rfl, rfl⟩, ?_⟩
      rcases r.val ky with ⟨z1, z2⟩ | ⟨v', d', z1, z2, _⟩
      · rw [z2] at z; rw [z1]; exact fin _ z
      · rw [z2] at z; rw [z1]; exact fin _ z
  cases r2 with
  | str b => cases r1 with
    | str a => exact .inl ⟨_, _, rfl, rfl, fin _ q⟩
    | _ => exact False.elim q
  | lst s r =>
    obtain ⟨h, q⟩ := (show _ ∧ _ from q)
    rw [Bool.and_eq_true] at h
    exact .inr (.inl ⟨_, _, rfl, .inl (R.sqL s), r1.flat h.1, r.flat h.2, by rw [r.memS r1 h.1 h.2]; exact fin _ q⟩)
  | tup s r =>
    obtain ⟨h, q⟩ := (show _ ∧ _ from q)
    rw [Bool.and_eq_true] at h
    exact .inr (.inl ⟨_, _, rfl, .inr (R.sqT s), r1.flat h.1, r.flat h.2, by rw [r.memS r1 h.1 h.2]; exact fin _ q⟩)
  | dic s r => exact .inr (.inr (dics (R.rdic s) r q))
  | ref p =>
    rcases (show (∃ xs, _) ∨ ∃ kvs k, _ from q) with ⟨xs, e, h, q⟩ | ⟨kvs, ky, e, h, q⟩
    · obtain ⟨vs, e1, r⟩ := R.mlst e
      rw [Bool.and_eq_true] at h
      exact .inr (.inl ⟨_, _, rfl, .inl (SqL.of e1), r1.flat h.1, r.flat h.2, by rw [r.memS r1 h.1 h.2]; exact fin _ q⟩)
    · obtain ⟨vs, e1, r⟩ := R.mdic e
      exact .inr (.inr (dics (.inl e1) r ⟨ky, h, q⟩))
  | _ => exact False.elim q
theorem od_in {X : Cx} (hu : X.A.units + 1 < cLine) : OpD X (compareOp .In) (inR false) := ⟨_, op_inAny hu, in_imp false⟩
theorem od_notin {X : Cx} (hu : X.A.units + 1 < cLine) : OpD X (compareOp .NotIn) (inR true) := ⟨_, op_notInAny hu, in_imp true⟩

/-! ### built-ins by name -/
abbrev DRC := List D → W → DK → Prop
def CallD (X : Cx) (f : Value) (r : DRC) : Prop := ∃ r0, CallR X f r0 ∧ ∀ c g w H vs ds Q Qv, Rel X.K c g w H → RepL X.K g vs ds → r ds w Q → (∀ v H', PQ X.K c g Q v H' → Qv v H') → r0 vs H Qv
def dCB (r : DRC) (t : DTA) : DTE := fun env w Q => t env w fun xs w1 => r xs w1 Q
section
variable {X : Cx} {Wv : WX} {x : Str} {p pos : Pos} {e : Expr} {es : List Expr} {t : DTA} {id T : String} {r : DRC}
theorem de_callB (hc : CallD X (.builtin id) r) (hm : X.mg x = none) (ha : DA X Wv (e :: es) t) (hg : Gl X x := by rfl) (hv : bootBuiltins x = some (.builtin id) := by decide +kernel) (hn : x ≠ "__name__" := by decide) (hdb : (x == ("__debug__" : Str)) = false := by decide)
    (he : starEach (e :: es) X.env = (false, eval e X.env) :: starEach es X.env := by rfl) (hpl : (backTo pos (starEach es X.env)).any (·.1) = false := by rfl) : DE X Wv (.Call (.Name x p) (e :: es) [] pos) (dCB r t) := by
  obtain ⟨r0, h0, imp⟩ := hc
  exact ⟨PE_imp (pe_callB h0 hg hm hv ha.pa hn hdb he hpl) fun σ H Qv ⟨c, g, env, w, Q, B, q, k⟩ => bindA B q fun vs H1 g1 w1 xs l1 B1 r1 q1 => imp c g1 w1 H1 vs xs Q Qv B1.R r1 q1 fun v H' z => k v H' (z.up l1)⟩
theorem de_callTy (hc : CallD X (.type T) r) (hm : X.mg x = none) (ha : DA X Wv (e :: es) t) (hg : Gl X x := by rfl) (hv : bootBuiltins x = some (.type T) := by decide +kernel) (hn : x ≠ "__name__" := by decide) (hdb : (x == ("__debug__" : Str)) = false := by decide)
    (he : starEach (e :: es) X.env = (false, eval e X.env) :: starEach es X.env := by rfl) (hpl : (backTo pos (starEach es X.env)).any (·.1) = false := by rfl) : DE X Wv (.Call (.Name x p) (e :: es) [] pos) (dCB r t) := by
  obtain ⟨r0, h0, imp⟩ := hc
  exact ⟨PE_imp (pe_callTy h0 hg hm hv ha.pa hn hdb he hpl) fun σ H Qv ⟨c, g, env, w, Q, B, q, k⟩ => bindA B q fun vs H1 g1 w1 xs l1 B1 r1 q1 => imp c g1 w1 H1 vs xs Q Qv B1.R r1 q1 fun v H' z => k v H' (z.up l1)⟩
/-- a built-in type as a value -/
theorem de_ty {n : String} (hm : X.mg x = none) (hg : Gl X x := by rfl) (hv : bootBuiltins x = some (.type n) := by decide +kernel) (hn : x ≠ "__name__" := by decide) (hdb : (x == ("__debug__" : Str)) = false := by decide) : DE X Wv (.Name x pos) (dC (.ty n)) :=
  de_c (pe_bltn (v := .ty n) hg hm hv rfl hn hdb) fun _ => .ty n
/-- a class, a def of the module as a value -/
theorem de_ref {a : Addr} (hm : X.mg x = some (.ref a)) (hg : Gl X x := by rfl) (hdb : (x == ("__debug__" : Str)) = false := by decide) : DE X Wv (.Name x pos) (dC (.ref a)) := de_glob (v := .ref a) hg hm rfl (fun _ => .ref a) hdb
end
theorem RepL.one {K : PySem.W.Frag} {g : Gh} {vs : List V} {d : D} (r : RepL K g vs [d]) : ∃ v, vs = [v] ∧ Rep K g v d := by
  cases r with
  | cons a r => cases r; exact ⟨_, rfl, a⟩
theorem RepL.two {K : PySem.W.Frag} {g : Gh} {vs : List V} {d e : D} (r : RepL K g vs [d, e]) : ∃ v u, vs = [v, u] ∧ Rep K g v d ∧ Rep K g u e := by
  cases r with
  | cons a r => cases r with
    | cons b r => cases r; exact ⟨_, _, rfl, a, b⟩
def lenR : DRC := fun xs w Q => match xs with
  | [.str z] => z.length ≤ sizeLine ∧ Q (.int z.length) w
  | [.lst xs] => Q (.int xs.length) w
  | [.tup xs] => Q (.int xs.length) w
  | [.dic kvs] => Q (.int kvs.length) w
  | [.ref p] => (∃ xs, w.m p = some (.lst xs) ∧ Q (.int xs.length) w) ∨ ∃ kvs, w.m p = some (.dic kvs) ∧ Q (.int kvs.length) w
  | _ => False
def lenDR : List V → Hp → VK → Prop := fun xs H Q => ∃ a kvs, xs = [V.ref a] ∧ Rd H a (.dK kvs) ∧ Q (.int kvs.length) H
theorem call_lenDR {X : Cx} : CallR X (.builtin "len") lenDR := by
  intro pins s σ H xs us Q I r h
  obtain ⟨a, kvs, rfl, ha, q⟩ := h
  obtain ⟨u, rfl, ru⟩ := vals1 r
  cases ru
  exact d_len I ha fun t s' I' => ⟨.int kvs.length, H, I', ⟨t, rfl⟩, q⟩
theorem cd_len {X : Cx} : CallD X (.builtin "len") lenR := by
  refine ⟨_, CallR_or call_len call_lenDR, fun c g w H vs ds Q Qv R r q k => ?_⟩
  have fin : ∀ i, Q (.int i) w → Qv (.int i) H := fun b z => k _ _ ⟨g, w, _, .rfl, R, .int b, z⟩
  unfold lenR at q
  split at q
  · obtain ⟨v, rfl, a⟩ := r.one; cases a; exact .inl ⟨_, _, rfl, ⟨q.1, rfl⟩, fin _ q.2⟩
  · obtain ⟨v, rfl, a⟩ := r.one; cases a with
    | lst s r => exact .inl ⟨_, _, rfl, .inl ⟨_, R.sqL s, rfl⟩, by rw [r.length]; exact fin _ q⟩
  · obtain ⟨v, rfl, a⟩ := r.one; cases a with
    | tup s r => exact .inl ⟨_, _, rfl, .inr ⟨_, R.sqT s, rfl⟩, by rw [r.length]; exact fin _ q⟩
  · obtain ⟨v, rfl, a⟩ := r.one; cases a with
    | dic s r => exact .inr ⟨_, _, rfl, R.rdic s, by rw [r.length]; exact fin _ q⟩
  · obtain ⟨v, rfl, a⟩ := r.one; cases a
    rcases q with ⟨xs, e, q⟩ | ⟨xs, e, q⟩
    · obtain ⟨vs, e1, r⟩ := R.mlst e
      exact .inl ⟨_, _, rfl, .inl ⟨_, SqL.of e1, rfl⟩, by rw [r.length]; exact fin _ q⟩
    · obtain ⟨vs, e1, r⟩ := R.mdic e
      exact .inr ⟨_, _, rfl, .inl e1, by rw [r.length]; exact fin _ q⟩
  · exact q.elim
/-- all(..), any(..) of a list of bools -/
def blsOf : List D → Option (List Bool)
  | [] => some []
  | .bl b :: r => (blsOf r).map (b :: ·)
  | _ => none
theorem RepL.bls {K : PySem.W.Frag} {g : Gh} : ∀ {vs : List V} {ds : List D} {bs : List Bool}, RepL K g vs ds → blsOf ds = some bs → vs = bs.map V.bl
  | _, _, _, .nil, e => by cases e; rfl
  | _, _, _, .cons a r, e => by
    cases a <;> simp only [blsOf, Option.map_eq_some_iff, reduceCtorEq] at e
    obtain ⟨bs, e1, rfl⟩ := e
    rw [RepL.bls r e1]; rfl
theorem blsOf_map (bs : List Bool) : blsOf (bs.map D.bl) = some bs := by
  induction bs with
  | nil => rfl
  | cons b r ih => simp [blsOf, ih]
def allR0 : DRC := fun xs w Q => match xs with
  | [.lst xs] => ∃ bs, blsOf xs = some bs ∧ Q (.bl (bs.all id)) w
  | _ => False
def anyR0 : DRC := fun xs w Q => match xs with
  | [.lst xs] => ∃ bs, blsOf xs = some bs ∧ Q (.bl (bs.any id)) w
  | _ => False
theorem cd_all0 {X : Cx} (hc : X.calm = true) : CallD X (.builtin "all") allR0 := by
  refine ⟨_, cr_all hc, fun c g w H vs ds Q Qv R r q k => ?_⟩
  unfold allR0 at q
  split at q
  · obtain ⟨v, rfl, a⟩ := r.one
    obtain ⟨bs, e, q⟩ := q
    cases a with
    | lst s r =>
      have z := r.bls e
      subst z
      exact ⟨_, bs, rfl, R.sqL s, k _ _ ⟨g, w, _, .rfl, R, .bl _, q⟩⟩
  · exact q.elim
theorem cd_any0 {X : Cx} (hc : X.calm = true) : CallD X (.builtin "any") anyR0 := by
  refine ⟨_, cr_any hc, fun c g w H vs ds Q Qv R r q k => ?_⟩
  unfold anyR0 at q
  split at q
  · obtain ⟨v, rfl, a⟩ := r.one
    obtain ⟨bs, e, q⟩ := q
    cases a with
    | lst s r =>
      have z := r.bls e
      subst z
      exact ⟨_, bs, rfl, R.sqL s, k _ _ ⟨g, w, _, .rfl, R, .bl _, q⟩⟩
  · exact q.elim
/-- as a word that does not open by itself -/
structure allR (xs : List D) (w : W) (Q : DK) : Prop where
  q : allR0 xs w Q
structure anyR (xs : List D) (w : W) (Q : DK) : Prop where
  q : anyR0 xs w Q
theorem cd_all {X : Cx} (hc : X.calm = true) : CallD X (.builtin "all") allR :=
  let ⟨r0, h, i⟩ := cd_all0 (X := X) hc; ⟨r0, h, fun c g w H vs ds Q Qv R r q k => i c g w H vs ds Q Qv R r q.q k⟩
theorem cd_any {X : Cx} (hc : X.calm = true) : CallD X (.builtin "any") anyR :=
  let ⟨r0, h, i⟩ := cd_any0 (X := X) hc; ⟨r0, h, fun c g w H vs ds Q Qv R r q k => i c g w H vs ds Q Qv R r q.q k⟩
end DL

/-! DLg: slices, methods, isinstance, repr over trees. -/
namespace DL
open PySem PySem.Spec PyProof.Rows L2

/-! ### slices -/
abbrev DTO := En → W → (Option Int → W → Prop) → Prop
def liftO (K : PySem.W.Frag) (Wv : WX) (t : DTO) : TO := fun σ H Qv => ∃ c g env w Q, Bx K Wv c g env w σ H ∧ t env w Q ∧ ∀ o H', (∃ g' w', g.le g' ∧ Rel K c g' w' H' ∧ Q o w') → Qv o H'
structure DO (X : Cx) (Wv : WX) (e : Option Expr) (t : DTO) : Prop where
  po : PO X e (liftO X.K Wv t)
def dNo : DTO := fun _ w Q => Q none w
def dPart (t : DTE) : DTO := fun env w Q => t env w fun x w1 => match x with
  | .int i => Q (some i) w1
  | _ => False
theorem PO_imp {X : Cx} {e : Option Expr} {t t' : TO} (h : PO X e t) (i : ∀ σ H Q, t' σ H Q → t σ H Q) : PO X e t' := ⟨fun pins s σ H Q I q => h.run pins s σ H Q I (i σ H Q q)⟩
def cutD (xs : List D) (lo hi : Option Int) : List D := (xs.drop (HT.sIx xs.length 0 lo)).take (HT.sIx xs.length xs.length hi - HT.sIx xs.length 0 lo)
def slR : D → Option Int → Option Int → W → DK → Prop := fun x lo hi w Q => match x with
  | .str z => z.length ≤ sizeLine ∧ Q (.str (cutS z lo hi)) w
  | .lst xs => Q (.lst (cutD xs lo hi)) w
  | .tup xs => Q (.tup (cutD xs lo hi)) w
  | .ref p => ∃ xs, w.m p = some (.lst xs) ∧ Q (.lst (cutD xs lo hi)) w
  | _ => False
def dSl (t : DTE) (tl th : DTO) : DTE := fun env w Q => t env w fun x w1 => tl env w1 fun l w2 => th env w2 fun h w3 => slR x l h w3 Q
section
variable {X : Cx} {Wv : WX} {e : Expr} {te : DTE} {lo hi : Option Expr} {tl th : DTO} {pos p2 : Pos}
theorem do_none : DO X Wv none dNo := ⟨PO_imp po_none fun σ H Qv ⟨c, g, env, w, Q, B, q, k⟩ => k none H ⟨g, w, .rfl, B.R, q⟩⟩
theorem do_some (h : DE X Wv e te) : DO X Wv (some e) (dPart te) := ⟨PO_imp (po_some h.pe) fun σ H Qv ⟨c, g, env, w, Q, B, q, k⟩ => bindE B q fun v H1 g1 w1 x l1 B1 r1 q1 => by
  cases r1 with
  | int i => exact ⟨i, rfl, k _ _ ⟨g1, w1, l1, B1.R, q1⟩⟩
  | _ => exact False.elim q1⟩
theorem RepL.cut {K : PySem.W.Frag} {g : Gh} {xs : List V} {ds : List D} (r : RepL K g xs ds) (lo hi : Option Int) : RepL K g (cutV xs lo hi) (cutD ds lo hi) := by
  unfold cutV cutD
  rw [r.length]
  exact (r.drop _).take _
theorem sIx_whole {xs : List D} {lo hi : Option Int} (h : HT.sIx xs.length 0 lo = 0 ∧ HT.sIx xs.length xs.length hi = xs.length) : cutD xs lo hi = xs := by
  unfold cutD
  rw [h.1, h.2]
  simp
theorem de_slice (he : DE X Wv e te) (hl : DO X Wv lo tl) (hu : DO X Wv hi th) : DE X Wv (.Subscript e (.Slice lo hi none p2) pos) (dSl te tl th) := by
  refine ⟨PE_imp (pe_slice (sl_str.or (sl_list.or sl_tupA)) he.pe hl.po hu.po) fun σ H Qv ⟨c, g, env, w, Q, B, q, k⟩ => ?_⟩
  refine bindE B q fun v H1 g1 w1 x l1 B1 r1 q1 => ⟨c, g1, env, w1, _, B1, q1, fun l H2 ⟨g2, w2, l2, R2, q2⟩ => ⟨c, g2, env, w2, _, B1.step l2 R2, q2, fun h H3 ⟨g3, w3, l3, R3, q3⟩ => ?_⟩⟩
  have r1 := r1.le (l2.trans l3)
  have k3 : ∀ v H', PQ X.K c g3 Q v H' → Qv v H' := fun v H' z => k v H' (((z.up l3).up l2).up l1)
  cases r1 with
  | str z =>
    obtain ⟨hz, q3⟩ := (show _ ∧ _ from q3)
    exact .inl ⟨_, rfl, hz, k3 _ _ ⟨g3, w3, _, .rfl, R3, .str _, q3⟩⟩
  | lst s r => exact .inr (.inl ⟨_, _, rfl, R3.sqL s, newL R3 (r.cut l h) q3 k3⟩)
  | tup s r =>
    refine .inr (.inr ⟨_, _, rfl, R3.sqT s, fun hw => ?_, fun _ => newT R3 (r.cut l h) q3 k3⟩)
    rw [r.length] at hw
    refine k3 _ _ ⟨g3, w3, _, .rfl, R3, .tup s r, ?_⟩
    have q3 : Q (.tup (cutD _ l h)) w3 := q3
    rw [sIx_whole hw] at q3
    exact q3
  | ref p =>
    obtain ⟨xs, e, q3⟩ := (show ∃ xs, _ ∧ _ from q3)
    obtain ⟨vs, e1, r⟩ := R3.mlst e
    exact .inr (.inl ⟨_, _, rfl, SqL.of e1, newL R3 (r.cut l h) q3 k3⟩)
  | _ => exact False.elim q3
end

/-! ### list(..), tuple(..) -/
def listR : DRC := fun xs w Q => match xs with
  | [.lst xs] => Q (.lst xs) w
  | [.tup xs] => Q (.lst xs) w
  | [.dic kvs] => Q (.lst (kvs.map fun kv => kD kv.1)) w
  | [.ref p] => (∃ xs, w.m p = some (.lst xs) ∧ Q (.lst xs) w) ∨ ∃ kvs, w.m p = some (.dic kvs) ∧ Q (.lst (kvs.map fun kv => kD kv.1)) w
  | _ => False
/-- a list that will change -/
def listMR : DRC := fun xs w Q => match xs with
  | [.lst xs] => ∀ p, w.m p = none → Q (.ref p) (w.put p (.lst xs))
  | [.tup xs] => ∀ p, w.m p = none → Q (.ref p) (w.put p (.lst xs))
  | [.dic kvs] => ∀ p, w.m p = none → Q (.ref p) (w.put p (.lst (kvs.map fun kv => kD kv.1)))
  | _ => False
def tupleR : DRC := fun xs w Q => match xs with
  | [.lst xs] => Q (.tup xs) w
  | [.tup xs] => Q (.tup xs) w
  | [.ref p] => ∃ xs, w.m p = some (.lst xs) ∧ Q (.tup xs) w
  | _ => False
theorem keysMap {κ : Type} {xs : List (Key × V)} {ds : List (Key × D)} {K : PySem.W.Frag} {g : Gh} (r : RepK K g xs ds) : RepL K g (xs.map fun kv => kV kv.1) (ds.map fun kv => kD kv.1) := by
  have e1 : (xs.map fun kv => kV kv.1) = (xs.map (·.1)).map kV := by simp
  have e2 : (ds.map fun kv => kD kv.1) = (ds.map (·.1)).map kD := by simp
  rw [e1, e2, r.keys]
  exact repKeys _
section
variable {X : Cx}
theorem cd_list (hc : X.calm = true) : CallD X (.type "list") listR := by
  refine ⟨_, CallR_or call_list_of (call_listD hc), fun c g w H vs ds Q Qv R r q k => ?_⟩
  unfold listR at q
  split at q
  · obtain ⟨v, rfl, a⟩ := r.one; cases a with
    | lst s r => exact .inl ⟨_, _, rfl, .inl (R.sqL s), newL R r q k⟩
  · obtain ⟨v, rfl, a⟩ := r.one; cases a with
    | tup s r => exact .inl ⟨_, _, rfl, .inr (R.sqT s), newL R r q k⟩
  · obtain ⟨v, rfl, a⟩ := r.one; cases a with
    | dic s r => exact .inr ⟨_, _, rfl, R.rdic s, newL R (keysMap (κ := Nat) r) q k⟩
  · obtain ⟨v, rfl, a⟩ := r.one; cases a
    rcases q with ⟨xs, e, q⟩ | ⟨xs, e, q⟩
    · obtain ⟨vs, e1, r⟩ := R.mlst e
      exact .inl ⟨_, _, rfl, .inl (SqL.of e1), newL R r q k⟩
    · obtain ⟨vs, e1, r⟩ := R.mdic e
      exact .inr ⟨_, _, rfl, .inl e1, newL R (keysMap (κ := Nat) r) q k⟩
  · exact q.elim
theorem cd_listM (hc : X.calm = true) : CallD X (.type "list") listMR := by
  refine ⟨_, CallR_or call_list_of (call_listD hc), fun c g w H vs ds Q Qv R r q k => ?_⟩
  unfold listMR at q
  split at q
  · obtain ⟨v, rfl, a⟩ := r.one; cases a with
    | lst s r => exact .inl ⟨_, _, rfl, .inl (R.sqL s), newM R r q k⟩
  · obtain ⟨v, rfl, a⟩ := r.one; cases a with
    | tup s r => exact .inl ⟨_, _, rfl, .inr (R.sqT s), newM R r q k⟩
  · obtain ⟨v, rfl, a⟩ := r.one; cases a with
    | dic s r => exact .inr ⟨_, _, rfl, R.rdic s, newM R (keysMap (κ := Nat) r) q k⟩
  · exact q.elim
theorem cd_tuple : CallD X (.type "tuple") tupleR := by
  refine ⟨_, call_tuple_of, fun c g w H vs ds Q Qv R r q k => ?_⟩
  unfold tupleR at q
  split at q
  · obtain ⟨v, rfl, a⟩ := r.one; cases a with
    | lst s r => exact ⟨_, _, rfl, .inl ⟨R.sqL s, newT R r q k⟩⟩
  · obtain ⟨v, rfl, a⟩ := r.one; cases a with
    | tup s r => exact ⟨_, _, rfl, .inr ⟨R.sqT s, k _ _ ⟨g, w, _, .rfl, R, .tup s r, q⟩⟩⟩
  · obtain ⟨v, rfl, a⟩ := r.one; cases a
    obtain ⟨xs, e, q⟩ := q
    obtain ⟨vs, e1, r⟩ := R.mlst e
    exact ⟨_, _, rfl, .inl ⟨SqL.of e1, newT R r q k⟩⟩
  · exact q.elim
end

/-! ### isinstance of a built-in type -/
def tyN : D → Option String
  | .non => some "NoneType"
  | .bl _ => some "bool"
  | .int _ => some "int"
  | .str _ => some "str"
  | .lst _ => some "list"
  | .tup _ => some "tuple"
  | .dic _ => some "dict"
  | _ => none
theorem Rep.tyx {K : PySem.W.Frag} {c : Ck} {g : Gh} {w : W} {H : Hp} (R : Rel K c g w H) {v : V} {d : D} {n : String} (r : Rep K g v d) (h : tyN d = some n) : TyX K H v (.type n) := by
  cases r with
  | non => cases h; exact .base .non
  | bl b => cases h; exact .base (.bl b)
  | int b => cases h; exact .base (.int b)
  | str b => cases h; exact .base (.str b)
  | lst s r =>
    cases h
    rcases R.sqL s with (e | ⟨o, e⟩) | ⟨o, its, n, e, hc, _⟩
    · exact .base (.lst e)
    · exact .base (.frz e)
    · exact .kList e hc
  | tup s r =>
    cases h
    rcases R.sqT s with (e | ⟨o, e⟩) | ⟨o, its, n, e, hc, _⟩
    · exact .base (.tup e)
    · exact .fTuple e
    · exact .kTuple e hc
  | dic s r =>
    cases h
    rcases R.rdic s with e | ⟨o, e⟩
    · exact .base (.dK e)
    · exact .fDict e
  | _ => cases h
def isiR : DRC := fun xs w Q => match xs with
  | [x, .ty n] => ∃ m b, tyN x = some m ∧ kitB m n = some b ∧ Q (.bl b) w
  | _ => False
theorem cd_isi {X : Cx} : CallD X (.builtin "isinstance") isiR := by
  refine ⟨_, call_isi, fun c g w H vs ds Q Qv R r q k => ?_⟩
  unfold isiR at q
  split at q
  · obtain ⟨v, u, rfl, a, b⟩ := r.two
    cases b
    obtain ⟨m, b, e1, e2, q⟩ := q
    exact ⟨_, _, _, _, b, rfl, .ty _, a.tyx R e1, kit_ty e2, k _ _ ⟨g, w, _, .rfl, R, .bl b, q⟩⟩
  · exact q.elim
/-- isinstance(x, (T1, T2)) with the tuple written there -/
def kitL (m : String) : List String → Option Bool
  | [] => some false
  | n :: ns => match kitB m n with
    | some true => some true
    | some false => kitL m ns
    | none => none
theorem kitL_any {K : PySem.W.Frag} {m : String} : ∀ {ns : List String} {b : Bool}, kitL m ns = some b → PySem.W.kitAny K (.type m) (ns.map .type) = some b
  | [], b, h => by cases h; rfl
  | n :: ns, b, h => by
    unfold kitL at h
    split at h
    · rename_i e
      cases h
      exact kitAny_cons (kit_ty e) (fun z => by cases z) fun _ => rfl
    · rename_i e
      exact kitAny_cons (kit_ty e) (fun _ => kitL_any h) fun z => by cases z
    · cases h
def tysOf : List D → Option (List String)
  | [] => some []
  | .ty n :: r => (tysOf r).map (n :: ·)
  | _ => none
theorem tysOf_cls {K : PySem.W.Frag} {g : Gh} : ∀ {vs : List V} {ds : List D} {ns : List String}, RepL K g vs ds → tysOf ds = some ns → Paired ClsV vs (ns.map Value.type)
  | _, _, _, .nil, e => by cases e; exact .nil
  | _, _, _, .cons a r, e => by
    cases a <;> simp only [tysOf, Option.map_eq_some_iff, reduceCtorEq] at e
    obtain ⟨ns, e1, rfl⟩ := e
    exact .cons (.ty _) (tysOf_cls r e1)
def dIsiT (t : DTE) (ts : DTA) : DTE := fun env w Q => t env w fun x w1 => ts env w1 fun cs w2 => cs.length ≤ sizeLine ∧ ∃ m ns b, tyN x = some m ∧ tysOf cs = some ns ∧ kitL m ns = some b ∧ Q (.bl b) w2
theorem de_isiT {X : Cx} {Wv : WX} {p pos tp : Pos} {e : Expr} {cs : List Expr} {kk : Nat} {t : DTE} {ts : DTA} (hm : X.mg "isinstance" = none) (he : DE X Wv e t) (hcs : DA X Wv cs ts) (hg : Gl X "isinstance" := by rfl)
    (hs1 : starEach [e, .Tuple cs kk tp] X.env = (false, eval e X.env) :: starEach [.Tuple cs kk tp] X.env := by rfl) (hs2 : starEach [.Tuple cs kk tp] X.env = (false, eval (.Tuple cs kk tp) X.env) :: starEach [] X.env := by rfl) (hpl : (backTo pos (starEach [.Tuple cs kk tp] X.env)).any (·.1) = false := by rfl) :
    DE X Wv (.Call (.Name "isinstance" p) [e, .Tuple cs kk tp] [] pos) (dIsiT t ts) := by
  refine ⟨PE_imp (pe_callB call_isiT hg hm (by decide +kernel) (pa_cons he.pe (pa_cons (pe_tup hcs.pa) pa_nil hs2) hs1) (by decide) (by decide) hs1 hpl) fun σ H Qv ⟨c, g, env, w, Q, B, q, k⟩ => ?_⟩
  refine bindE B q fun v H1 g1 w1 x l1 B1 r1 q1 => bindA B1 q1 fun vs H2 g2 w2 xs l2 B2 r2 q2 => ⟨by rw [r2.length]; exact q2.1, fun p hp => ?_⟩
  obtain ⟨_, m, ns, b, e1, e2, e3, q2⟩ := q2
  have l3 := Gh.add_le (o := .tup vs) (B2.R.noG hp)
  have R3 := B2.R.alloc (o := .tup vs) hp
  exact ⟨v, p, vs, _, _, b, rfl, upd_same, tysOf_cls r2 e2, ((r1.le l2).le l3).tyx R3 e1, kitL_any e3, k _ _ ⟨_, w2, .bl b, (l1.trans l2).trans l3, R3, .bl b, q2⟩⟩

/-! ### methods of texts -/
def MtD (X : Cx) (id : String) (r : D → DRC) : Prop := ∃ r0, MtR X id r0 ∧ ∀ c g w H v x vs ds Q Qv, Rel X.K c g w H → Rep X.K g v x → RepL X.K g vs ds → r x ds w Q → (∀ v H', PQ X.K c g Q v H' → Qv v H') → r0 v vs H Qv
def onStr (d : D) (P : Prop) : Prop := match d with
  | .str _ => P
  | _ => False
def dM0 (r : D → DRC) (to : DTE) : DTE := fun env w Q => to env w fun x w1 => onStr x (r x [] w1 Q)
def dM1 (r : D → DRC) (to te : DTE) : DTE := fun env w Q => to env w fun x w1 => onStr x (te env w1 fun y w2 => r x [y] w2 Q)
section
variable {X : Cx} {Wv : WX} {o e : Expr} {to te : DTE} {id : String} {name : Str} {apos pos : Pos} {r : D → DRC}
theorem de_m0 (slot : Slot "str" name id) (ty : typeOf (.builtin id) = pure (.type "method_descriptor")) (rule : MtD X id r) (ho : DE X Wv o to)
    (hbase : attributeBase o name X.env (eval o X.env) = eval o X.env := by rfl) (hline : (apos.endLine == pos.line) = true := by rfl) : DE X Wv (.Call (.Attribute o name apos) [] [] pos) (dM0 r to) := by
  obtain ⟨r0, h0, imp⟩ := rule
  refine ⟨PE_imp (pe_m0 slot ty h0 ho.pe hbase hline) fun σ H Qv ⟨c, g, env, w, Q, B, q, k⟩ => bindE B q fun v H1 g1 w1 x l1 B1 r1 q1 => ?_⟩
  cases r1 with
  | str z => exact ⟨⟨_, rfl⟩, imp c g1 w1 H1 _ _ [] [] Q Qv B1.R (.str z) .nil q1 fun v H' z => k v H' (z.up l1)⟩
  | _ => exact False.elim q1
theorem de_m1 (slot : Slot "str" name id) (ty : typeOf (.builtin id) = pure (.type "method_descriptor")) (rule : MtD X id r) (ho : DE X Wv o to) (he : DE X Wv e te)
    (hs : starEach [e] X.env = [(false, eval e X.env)] := by rfl) (hbase : attributeBase o name X.env (eval o X.env) = eval o X.env := by rfl) (hline : (apos.endLine == pos.line) = true := by rfl) :
    DE X Wv (.Call (.Attribute o name apos) [e] [] pos) (dM1 r to te) := by
  obtain ⟨r0, h0, imp⟩ := rule
  refine ⟨PE_imp (pe_m1 slot ty h0 ho.pe he.pe hs hbase hline) fun σ H Qv ⟨c, g, env, w, Q, B, q, k⟩ => bindE B q fun v H1 g1 w1 x l1 B1 r1 q1 => ?_⟩
  cases r1 with
  | str z => exact ⟨⟨_, rfl⟩, bindE B1 q1 fun u H2 g2 w2 y l2 B2 r2 q2 => imp c g2 w2 H2 _ _ [u] [y] Q Qv B2.R (.str z) (.cons r2 .nil) q2 fun v H' z => k v H' ((z.up l2).up l1)⟩
  | _ => exact False.elim q1
def strsOf : List D → Option (List Str)
  | [] => some []
  | .str b :: r => (strsOf r).map (b :: ·)
  | _ => none
theorem RepL.strs {K : PySem.W.Frag} {g : Gh} : ∀ {vs : List V} {ds : List D} {bs : List Str}, RepL K g vs ds → strsOf ds = some bs → vs = bs.map V.str
  | _, _, _, .nil, e => by cases e; rfl
  | _, _, _, .cons a r, e => by
    cases a <;> simp only [strsOf, Option.map_eq_some_iff, reduceCtorEq] at e
    obtain ⟨bs, e1, rfl⟩ := e
    rw [RepL.strs r e1]; rfl
theorem strsOf_map (bs : List Str) : strsOf (bs.map D.str) = some bs := by
  induction bs with
  | nil => rfl
  | cons b r ih => simp [strsOf, ih]
def joinR : D → DRC := fun x ds w Q => match x, ds with
  | .str a, [.lst xs] => ∃ ys, strsOf xs = some ys ∧ (ys.map (·.length)).sum + ys.length * a.length ≤ 16777216 ∧ Q (.str (Txt.join a ys)) w
  | .str a, [.tup xs] => ∃ ys, strsOf xs = some ys ∧ (ys.map (·.length)).sum + ys.length * a.length ≤ 16777216 ∧ Q (.str (Txt.join a ys)) w
  | .str a, [.ref p] => ∃ xs ys, w.m p = some (.lst xs) ∧ strsOf xs = some ys ∧ (ys.map (·.length)).sum + ys.length * a.length ≤ 16777216 ∧ Q (.str (Txt.join a ys)) w
  | _, _ => False
theorem md_join : MtD X "str.join" joinR := by
  refine ⟨_, mt_join, fun c g w H v x vs ds Q Qv R r1 r2 q k => ?_⟩
  unfold joinR at q
  split at q
  · obtain ⟨u, rfl, a⟩ := r2.one; cases r1
    obtain ⟨ys, e, h, q⟩ := q
    cases a with
    | lst s r => exact ⟨_, _, ys, rfl, rfl, .inl (by rw [← r.strs e]; exact R.sqL s), h, k _ _ ⟨g, w, _, .rfl, R, .str _, q⟩⟩
  · obtain ⟨u, rfl, a⟩ := r2.one; cases r1
    obtain ⟨ys, e, h, q⟩ := q
    cases a with
    | tup s r => exact ⟨_, _, ys, rfl, rfl, .inr (by rw [← r.strs e]; exact R.sqT s), h, k _ _ ⟨g, w, _, .rfl, R, .str _, q⟩⟩
  · obtain ⟨u, rfl, a⟩ := r2.one; cases r1; cases a
    obtain ⟨xs, ys, em, e, h, q⟩ := q
    obtain ⟨vs, e1, r⟩ := R.mlst em
    exact ⟨_, _, ys, rfl, rfl, .inl (by rw [← r.strs e]; exact SqL.of e1), h, k _ _ ⟨g, w, _, .rfl, R, .str _, q⟩⟩
  · exact q.elim
def upperR : D → DRC := fun x ds w Q => match x, ds with
  | .str a, [] => a.length ≤ 5592405 ∧ Q (.str (Txt.upper a)) w
  | _, _ => False
theorem md_upper : MtD X "str.upper" upperR := by
  refine ⟨_, mt_upper, fun c g w H v x vs ds Q Qv R r1 r2 q k => ?_⟩
  unfold upperR at q
  split at q
  · cases r1; cases r2
    exact ⟨_, rfl, rfl, q.1, k _ _ ⟨g, w, _, .rfl, R, .str _, q.2⟩⟩
  · exact q.elim
theorem de_join (ho : DE X Wv o to) (he : DE X Wv e te) (hs : starEach [e] X.env = [(false, eval e X.env)] := by rfl) (hbase : attributeBase o "join" X.env (eval o X.env) = eval o X.env := by rfl) (hline : (apos.endLine == pos.line) = true := by rfl) :
    DE X Wv (.Call (.Attribute o "join" apos) [e] [] pos) (dM1 joinR to te) := de_m1 PySem.F.slot_str_join PySem.F.type_str_join md_join ho he hs hbase hline
theorem de_upper (ho : DE X Wv o to) (hbase : attributeBase o "upper" X.env (eval o X.env) = eval o X.env := by rfl) (hline : (apos.endLine == pos.line) = true := by rfl) :
    DE X Wv (.Call (.Attribute o "upper" apos) [] [] pos) (dM0 upperR to) := de_m0 PySem.F.slot_str_upper PySem.F.type_str_upper md_upper ho hbase hline
end
end DL

/-! DLh: repr; lists and dicts that change. -/
namespace DL
open PySem PySem.Spec PyProof.Rows L2

/-! ### repr -/
mutual
def noL : PyData → Bool
  | .list _ => false
  | .tuple xs => noLA xs
  | .dict kvs => noLK kvs
  | _ => true
def noLA : List PyData → Bool
  | [] => true
  | x :: xs => noL x && noLA xs
def noLK : List (PyData × PyData) → Bool
  | [] => true
  | (_, x) :: xs => noL x && noLK xs
end
section
variable {X : Cx} {pins : List (Addr × Obj)} {σ : St} {H : Hp} {s : Shared}
theorem pairs_keys {P : Program} {w : World} {h : Heap} {g : Gh} {K : PySem.W.Frag} : ∀ {es : List DictEntry} {vs : List (Key × Value)} {xs : List (Key × V)} {ds : List (Key × D)} {ps : List (PyData × PyData)},
    Pairs (mixKind P w) es vs → KV xs vs → RepK K g xs ds → toPyK ds = some ps → ReadsAll h (es.map (·.key)) (ps.map (·.1)) [] := by
  intro es vs xs ds ps hp
  induction hp generalizing xs ds ps with
  | nil =>
    intro kv rk e
    cases kv; cases rk
    simp only [toPyK] at e; cases e
    exact .nil
  | @cons e0 kv0 es vs hk hv r ih =>
    intro kv rk e
    cases kv with
    | cons kv t => cases rk with
      | cons a rk =>
        simp only [toPyK, Option.bind_eq_some_iff, Option.map_eq_some_iff] at e
        obtain ⟨d, e1, ds, e2, rfl⟩ := e
        have ih := ih t rk e2
        have hk : keyIs kv0.1 e0.key = true := hk
        rw [← kv.1] at hk
        rcases keyIs_shape hk with ⟨i, tk, e3, e4⟩ | ⟨i, tk, e3, e4⟩
        · simp only at e3
          rw [List.map_cons, List.map_cons, e4]
          subst e3
          exact ReadsAll.cons (as := []) (bs := []) (.int _ _) ih
        · simp only at e3
          rw [List.map_cons, List.map_cons, e4]
          subst e3
          exact ReadsAll.cons (as := []) (bs := []) (.str _ _) ih
mutual
theorem Rep.reads (I : Inv X pins σ H s) {c : Ck} {g : Gh} {w : W} (R : Rel X.K c g w H) : ∀ {v : V} {d : D} {p : PyData} {u : Value}, Rep X.K g v d → toPy d = some p → RelV v u → ∃ as, Reads s.heap u p as ∧ (noL p = true → ∀ a ∈ as, (a == sysModules) = false)
  | _, _, _, _, .non, e, r => by simp only [toPy] at e; cases e; cases r; exact ⟨[], .none, fun _ _ h => by cases h⟩
  | _, _, _, _, .bl b, e, r => by simp only [toPy] at e; cases e; cases r; exact ⟨[], .bool b, fun _ _ h => by cases h⟩
  | _, _, _, _, .int b, e, r => by simp only [toPy] at e; cases e; obtain ⟨t, rfl⟩ := r; exact ⟨[], .int b t, fun _ _ h => by cases h⟩
  | _, _, _, _, .str b, e, r => by simp only [toPy] at e; cases e; obtain ⟨t, rfl⟩ := r; exact ⟨[], .str b t, fun _ _ h => by cases h⟩
  | _, _, _, _, .lst sl rl, e, r => by
    simp only [toPy, Option.map_eq_some_iff] at e
    obtain ⟨ps, e1, rfl⟩ := e
    cases r
    obtain ⟨its, rv, ⟨o, n, eo, hc, hd, hs⟩, _⟩ := I.list (R.sqL sl)
    obtain ⟨as, h, _⟩ := RepL.reads I R rl e1 rv
    exact ⟨_, .list eo hc hs (by simpa using h), fun z => by simp [noL] at z⟩
  | _, _, _, _, .tup sl rl, e, r => by
    simp only [toPy, Option.map_eq_some_iff] at e
    obtain ⟨ps, e1, rfl⟩ := e
    cases r
    obtain ⟨its, rv, ⟨o, eo, hc, n, hs⟩, _⟩ := I.tuple (R.sqT sl)
    obtain ⟨as, h, h2⟩ := RepL.reads I R rl e1 rv
    exact ⟨_, .tuple eo hc hs (by simpa using h), fun z => h2 (by simpa [noL] using z)⟩
  | _, _, _, _, .dic sl rl, e, r => by
    simp only [toPy, Option.map_eq_some_iff] at e
    obtain ⟨ps, e1, rfl⟩ := e
    cases r
    obtain ⟨_, hsm, vs, kv, o, es, ep, eo, ex, ed, _, hp, _⟩ := dk_rd I.hok (R.rdic sl)
    obtain ⟨as, h, h2⟩ := RepK.reads I R rl e1 kv hp
    refine ⟨_, .dict eo ex.1 ed (pairs_keys hp kv rl e1) h, fun z a ha => ?_⟩
    rcases List.mem_cons.mp ha with e | ha
    · rw [e]; exact hsm
    · exact h2 (by simpa [noL] using z) a (by simpa using ha)
  | _, _, _, _, .ty n, e, _ => by simp [toPy] at e
  | _, _, _, _, .obj _ _, e, _ => by simp [toPy] at e
  | _, _, _, _, .ref _, e, _ => by simp [toPy] at e
  | _, _, _, _, .pen _, e, _ => by simp [toPy] at e
theorem RepL.reads (I : Inv X pins σ H s) {c : Ck} {g : Gh} {w : W} (R : Rel X.K c g w H) : ∀ {v : List V} {d : List D} {p : List PyData} {u : List Value}, RepL X.K g v d → toPyL d = some p → Vals v u → ∃ as, ReadsAll s.heap u p as ∧ (noLA p = true → ∀ a ∈ as, (a == sysModules) = false)
  | _, _, _, _, .nil, e, r => by simp only [toPyL] at e; cases e; cases r; exact ⟨[], .nil, fun _ _ h => by cases h⟩
  | _, _, _, _, .cons a rl, e, r => by
    simp only [toPyL, Option.bind_eq_some_iff, Option.map_eq_some_iff] at e
    obtain ⟨d, e1, ds, e2, rfl⟩ := e
    cases r with
    | cons r1 r2 =>
      obtain ⟨as, h1, h2⟩ := Rep.reads I R a e1 r1
      obtain ⟨bs, h3, h4⟩ := RepL.reads I R rl e2 r2
      refine ⟨_, .cons h1 h3, fun z a ha => ?_⟩
      simp only [noLA, Bool.and_eq_true] at z
      exact (List.mem_append.mp ha).elim (h2 z.1 a) (h4 z.2 a)
theorem RepK.reads (I : Inv X pins σ H s) {c : Ck} {g : Gh} {w : W} (R : Rel X.K c g w H) : ∀ {v : List (Key × V)} {d : List (Key × D)} {p : List (PyData × PyData)} {vs : List (Key × Value)} {es : List DictEntry}, RepK X.K g v d → toPyK d = some p → KV v vs → Pairs (mixKind X.prog X.w) es vs →
    ∃ as, ReadsAll s.heap (es.map (·.val)) (p.map (·.2)) as ∧ (noLK p = true → ∀ a ∈ as, (a == sysModules) = false)
  | _, _, _, _, _, .nil, e, r, hp => by simp only [toPyK] at e; cases e; cases r; cases hp; exact ⟨[], .nil, fun _ _ h => by cases h⟩
  | _, _, _, _, _, .cons a rl, e, r, hp => by
    simp only [toPyK, Option.bind_eq_some_iff, Option.map_eq_some_iff] at e
    obtain ⟨d, e1, ds, e2, rfl⟩ := e
    cases r with
    | cons r1 r2 => cases hp with
      | cons k1 k2 hp =>
        obtain ⟨as, h1, h2⟩ := Rep.reads I R a e1 r1.2
        obtain ⟨bs, h3, h4⟩ := RepK.reads I R rl e2 r2 hp
        refine ⟨_, by rw [List.map_cons, List.map_cons, k2]; exact .cons h1 h3, fun z a ha => ?_⟩
        simp only [noLK, Bool.and_eq_true] at z
        exact (List.mem_append.mp ha).elim (h2 z.1 a) (h4 z.2 a)
end
end
/-- what repr asks of data -/
structure ShowOk (d : PyData) : Prop where
  sh : d.showable = true
  dp : d.depth ≤ 60
  sz : d.shown.length ≤ sizeLine
  nl : d.hasDict = true → noL d = true
def reprR : DRC := fun xs w Q => match xs with
  | [x] => ∃ d, toPy x = some d ∧ ShowOk d ∧ Q (.str d.shown) w
  | _ => False
def rRepr (K : PySem.W.Frag) : List V → Hp → VK → Prop := fun xs H Q => ∃ v c g w x d, xs = [v] ∧ Rel K c g w H ∧ Rep K g v x ∧ toPy x = some d ∧ ShowOk d ∧ Q (.str d.shown) H
theorem call_reprR {X : Cx} (hg : X.A.guards = some []) (hu : X.A.units + 64 < cLine) : CallR X (.builtin "repr") (rRepr X.K) := by
  intro pins s σ H xs us Q I r h
  obtain ⟨v, c, g, w, x, d, rfl, R, rx, e, ok, q⟩ := h
  obtain ⟨u, rfl, ru⟩ := vals1 r
  obtain ⟨as, hr, hn⟩ := rx.reads I R e ru
  have big : ∀ a : Addr, u = .ref a → wpAny (model X.prog X.w) X.A (call (.builtin "repr") [u]) (EP X pins σ Q) X.xe s := fun a ea => by
    subst ea
    refine repr_of_reads' hr ok.sh (fun hd hm => ?_) hg (by have := ok.dp; omega) (fun _ _ z => z) (fun h' u' tk hk => ⟨.str _, H, I.kept hk, ⟨_, rfl⟩, q⟩) ok.sz
    have z := hn (ok.nl hd) _ hm
    simp at z
  have sz := ok.sz
  have sh := ok.sh
  cases rx with
  | non => simp only [toPy] at e; cases e; cases ru; exact PySem.P.repr_of_none ⟨.str _, H, I.tok _, ⟨_, rfl⟩, by simpa [PyData.shown] using q⟩
  | bl b => simp only [toPy] at e; cases e; cases ru; exact PySem.P.repr_of_bool ⟨.str _, H, I.tok _, ⟨_, rfl⟩, by simpa [PyData.shown] using q⟩
  | int b => simp only [toPy] at e; cases e; obtain ⟨t, rfl⟩ := ru; exact PySem.P.repr_of_int (by simpa [PyData.showable] using sh) ⟨.str _, H, I.tok _, ⟨_, rfl⟩, by simpa [PyData.shown] using q⟩
  | str b => simp only [toPy] at e; cases e; obtain ⟨t, rfl⟩ := ru; exact PySem.P.repr_of_str ⟨.str _, H, I.tok _, ⟨_, rfl⟩, by simpa [PyData.shown] using q⟩ (by simpa [PyData.shown] using sz)
  | lst s r => exact big _ ru
  | tup s r => exact big _ ru
  | dic s r => exact big _ ru
  | _ => simp [toPy] at e
theorem cd_repr {X : Cx} (hg : X.A.guards = some []) (hu : X.A.units + 64 < cLine) : CallD X (.builtin "repr") reprR := by
  refine ⟨_, call_reprR hg hu, fun c g w H vs ds Q Qv R r q k => ?_⟩
  unfold reprR at q
  split at q
  · obtain ⟨v, rfl, a⟩ := r.one
    obtain ⟨d, e, ok, q⟩ := q
    exact ⟨v, c, g, w, _, d, rfl, R, a, e, ok, k _ _ ⟨g, w, _, .rfl, R, .str _, q⟩⟩
  · exact q.elim
end DL

/-! DLi: lists and dicts that change. -/
namespace DL
open PySem PySem.Spec PyProof.Rows L2

/-! ### a dict's pairs -/
def putD {κ : Type} [DecidableEq κ] (kvs : List (κ × D)) (k : κ) (v : D) : List (κ × D) :=
  if (kvs.any fun kv => decide (kv.1 = k)) = true then kvs.map (fun kv => if kv.1 = k then (kv.1, v) else kv) else kvs ++ [(k, v)]
def dropD {κ : Type} [DecidableEq κ] (kvs : List (κ × D)) (k : κ) : List (κ × D) := kvs.filter fun kv => decide (kv.1 ≠ k)
def mergeD (kvs more : List (Key × D)) : List (Key × D) := more.foldl (fun acc kv => putD acc kv.1 kv.2) kvs
section
variable {K : PySem.W.Frag} {g : Gh}
theorem RepK.any {k : Key} : ∀ {xs : List (Key × V)} {ds : List (Key × D)}, RepK K g xs ds → (xs.any fun kv => decide (kv.1 = k)) = ds.any fun kv => decide (kv.1 = k)
  | _, _, .nil => rfl
  | _, _, .cons _ r => by rw [List.any_cons, List.any_cons, RepK.any r]
theorem RepK.append : ∀ {v v' : List (Key × V)} {d d' : List (Key × D)}, RepK K g v d → RepK K g v' d' → RepK K g (v ++ v') (d ++ d')
  | _, _, _, _, .nil, s => s
  | _, _, _, _, .cons a r, s => .cons a (RepK.append r s)
theorem RepK.repl {k : Key} {v : V} {d : D} (a : Rep K g v d) : ∀ {xs : List (Key × V)} {ds : List (Key × D)}, RepK K g xs ds → RepK K g (xs.map fun kv => if kv.1 = k then (kv.1, v) else kv) (ds.map fun kv => if kv.1 = k then (kv.1, d) else kv)
  | _, _, .nil => .nil
  | _, _, @RepK.cons _ _ k' v' vs d' ds b r => by
    rw [List.map_cons, List.map_cons]
    by_cases e : k' = k
    · rw [if_pos e, if_pos e]; exact .cons a (RepK.repl a r)
    · rw [if_neg e, if_neg e]; exact .cons b (RepK.repl a r)
theorem RepK.put {k : Key} {v : V} {d : D} (a : Rep K g v d) {xs : List (Key × V)} {ds : List (Key × D)} (r : RepK K g xs ds) : RepK K g (putK xs k v) (putD ds k d) := by
  unfold putK putD
  rw [r.any]
  split
  · exact r.repl a
  · exact r.append (.cons a .nil)
theorem RepK.drop {k : Key} : ∀ {xs : List (Key × V)} {ds : List (Key × D)}, RepK K g xs ds → RepK K g (dropK xs k) (dropD ds k)
  | _, _, .nil => .nil
  | _, _, @RepK.cons _ _ k' v' vs d' ds b r => by
    unfold dropK dropD
    by_cases e : k' = k
    · rw [List.filter_cons_of_neg (by simpa using e), List.filter_cons_of_neg (by simpa using e)]; exact RepK.drop r
    · rw [List.filter_cons_of_pos (by simpa using e), List.filter_cons_of_pos (by simpa using e)]; exact .cons b (RepK.drop r)
theorem RepK.merge : ∀ {more : List (Key × V)} {dm : List (Key × D)} {xs : List (Key × V)} {ds : List (Key × D)}, RepK K g more dm → RepK K g xs ds → RepK K g (mergeK xs more) (mergeD ds dm)
  | _, _, _, _, .nil, q => q
  | _, _, _, _, .cons a r, q => by
    unfold mergeK mergeD
    rw [List.foldl_cons, List.foldl_cons]
    exact RepK.merge r (q.put a)
end
theorem valD_putD {κ : Type} [DecidableEq κ] (kvs : List (κ × D)) (k j : κ) (d : D) : valD (putD kvs k d) j = if k = j then some d else valD kvs j := by
  unfold putD
  split
  · rename_i h
    induction kvs with
    | nil => simp at h
    | cons p r ih =>
      by_cases e : p.1 = k
      · rw [List.map_cons, if_pos e]
        by_cases ej : k = j
        · rw [if_pos ej]; unfold valD; rw [List.find?_cons_of_pos (by simp [e, ej])]; rfl
        · rw [if_neg ej]
          unfold valD
          rw [List.find?_cons_of_neg (by simp [e, ej]), List.find?_cons_of_neg (by simp [e, ej])]
          clear ih h
          induction r with
          | nil => rfl
          | cons q r ih =>
            by_cases eq : q.1 = k
            · rw [List.map_cons, if_pos eq, List.find?_cons_of_neg (by simp [eq, ej]), List.find?_cons_of_neg (by simp [eq, ej])]; exact ih
            · rw [List.map_cons, if_neg eq]
              by_cases e2 : q.1 = j
              · rw [List.find?_cons_of_pos (by simp [e2]), List.find?_cons_of_pos (by simp [e2])]
              · rw [List.find?_cons_of_neg (by simp [e2]), List.find?_cons_of_neg (by simp [e2])]; exact ih
      · rw [List.map_cons, if_neg e]
        have h' : (r.any fun kv => decide (kv.1 = k)) = true := by
          rw [List.any_cons] at h
          simpa [e] using h
        by_cases ej : p.1 = j
        · have : ¬ k = j := fun z => e (ej.trans z.symm)
          rw [if_neg this]
          unfold valD
          rw [List.find?_cons_of_pos (by simp [ej]), List.find?_cons_of_pos (by simp [ej])]
        · have := ih h'
          unfold valD at this ⊢
          rw [List.find?_cons_of_neg (by simp [ej]), List.find?_cons_of_neg (by simp [ej])]
          exact this
  · rename_i h
    have hk : ∀ p ∈ kvs, ¬ p.1 = k := fun p hp e => h (List.any_eq_true.mpr ⟨p, hp, decide_eq_true e⟩)
    clear h
    induction kvs with
    | nil =>
      unfold valD
      by_cases ej : k = j
      · rw [if_pos ej, List.nil_append, List.find?_cons_of_pos (by simp [ej])]; rfl
      · rw [if_neg ej, List.nil_append, List.find?_cons_of_neg (by simp [ej])]
    | cons p r ih =>
      have h1 := ih fun p hp => hk p (List.mem_cons_of_mem _ hp)
      by_cases ej : p.1 = j
      · have : ¬ k = j := fun z => hk p List.mem_cons_self (ej.trans z.symm)
        rw [if_neg this]
        unfold valD
        rw [List.cons_append, List.find?_cons_of_pos (by simp [ej]), List.find?_cons_of_pos (by simp [ej])]
      · unfold valD at h1 ⊢
        rw [List.cons_append, List.find?_cons_of_neg (by simp [ej]), List.find?_cons_of_neg (by simp [ej])]
        exact h1

/-! ### stores -/
abbrev DSet := D → D → D → W → (W → Prop) → Prop
def setD : DSet := fun o i v w Q => match o with
  | .ref p => (∃ xs k j, w.m p = some (.lst xs) ∧ i = .int k ∧ ixN xs.length k = some j ∧ Q (w.put p (.lst (xs.set j v)))) ∨
      ∃ kvs k, w.m p = some (.dic kvs) ∧ keyOf i = some k ∧ kvs.length < sizeLine ∧ Q (w.put p (.dic (putD kvs k v)))
  | _ => False
def rSetAny : V → V → V → Hp → (Hp → Prop) → Prop := fun o i v H Q => rSetL o i v H Q ∨ ∃ a H', o = .ref a ∧ DPut H a i v H' ∧ Q H'
theorem set_any {X : Cx} (hu : X.A.units + 1 < cLine) : PSet X rSetAny := by
  intro pins s σ H o i v ov iv u Q I ro ri rv h
  rcases h with h | ⟨a, H', rfl, g, q⟩
  · exact set_list pins s σ H o i v ov iv u Q I ro ri rv h
  · cases ro
    exact d_setItem hu I g ri rv fun s' I' => ⟨H', I', q⟩
def gdSub (to ti : DTE) : DTG := fun v env w Q => to env w fun o w1 => ti env w1 fun i w2 => setD o i v w2 fun w3 => Q env w3
theorem dg_sub {X : Cx} {Wv : WX} {o i : Expr} {to ti : DTE} {pos : Pos} (hu : X.A.units + 1 < cLine) (ho : DE X Wv o to) (hi : DE X Wv i ti)
    (ha : ∀ v, assign (.Subscript o i pos) X.env v = (do
      let ov ← holding [v] (eval o X.env)
      let iv ← holding [v, ov] (eval i X.env)
      standAt pos
      holding [v, ov, iv] (setItem ov iv v)
      release [v, ov, iv] []) := by intro _; rfl) : DG X Wv (.Subscript o i pos) [] (gdSub to ti) := by
  refine ⟨PG_imp (pg_sub ho.pe hi.pe (set_any hu) ha) fun v σ H Qv ⟨c, g, env, w, d, Q, B, r, q, k⟩ => ?_⟩
  refine bindE B q fun o H1 g1 w1 x l1 B1 r1 q1 => bindE B1 q1 fun i H2 g2 w2 y l2 B2 r2 q2 => ?_
  have r := r.le (l1.trans l2)
  have r1 := r1.le l2
  have fin : ∀ {p : Addr} {m0 m : MO} {h : HO}, w2.m p = some m0 → RepM X.K g2 m h → Q env (w2.put p m) → Qv σ (upd H2 p h) := fun e rm z =>
    k env _ σ _ g2 (l1.trans l2) (B2.step .rfl (B2.R.write e rm)) (fun _ _ => rfl) z
  cases r1 with
  | ref p =>
    rcases (show (∃ xs k j, _) ∨ ∃ kvs k, _ from q2) with ⟨xs, n, j, e, rfl, h, q3⟩ | ⟨kvs, ky, e, h, hl, q3⟩
    · cases r2
      obtain ⟨vs, e1, rv⟩ := B2.R.mlst e
      exact .inl ⟨p, vs, n, j, rfl, rfl, e1, by rw [rv.length]; exact h, fin e (.lst (rv.set j r)) q3⟩
    · obtain ⟨rfl, rfl⟩ := r2.key h
      obtain ⟨vs, e1, rv⟩ := B2.R.mdic e
      exact .inr ⟨p, _, rfl, DPut.k e1 (by rw [rv.length]; exact hl), fin e (.dic (rv.put r)) q3⟩
  | _ => exact False.elim q2
/-- del d[k] -/
def dDel (td ti : DTE) : DTS := fun D env w => td env w fun o w1 => ti env w1 fun i w2 => match o with
  | .ref p => ∃ kvs k, w2.m p = some (.dic kvs) ∧ keyOf i = some k ∧ (valD kvs k).isSome = true ∧ D.nx env (w2.put p (.dic (dropD kvs k)))
  | _ => False
theorem ds_del {X : Cx} {Wv : WX} {o i : Expr} {to ti : DTE} {pos tpos : Pos} (ho : DE X Wv o to) (hi : DE X Wv i ti) : DS X Wv (.Delete [.Subscript o i tpos] pos) (dDel to ti) :=
  ⟨PS_imp (ps_ddel ho.pe hi.pe) fun Dv σ H ⟨c, g, env, w, D, B, q, k⟩ => bindE B q fun o H1 g1 w1 x l1 B1 r1 q1 => bindE B1 q1 fun i H2 g2 w2 y l2 B2 r2 q2 => by
    have r1 := r1.le l2
    cases r1 with
    | ref p =>
      obtain ⟨kvs, ky, e, h, hs, q3⟩ := (show ∃ kvs k, _ from q2)
      obtain ⟨rfl, rfl⟩ := r2.key h
      obtain ⟨vs, e1, rv⟩ := B2.R.mdic e
      refine ⟨p, vs, ky, rfl, e1, rfl, ?_, k.nx env _ σ _ g2 (l1.trans l2) (B2.step .rfl (B2.R.write e (.dic rv.drop))) q3⟩
      rcases rv.val ky with ⟨_, z⟩ | ⟨v', d', z1, _, _⟩
      · rw [z] at hs; cases hs
      · rw [z1]; rfl
    | _ => exact False.elim q2⟩

/-! ### displays of dicts -/
def dDicM : DTE := fun _ w Q => ∀ p, w.m p = none → Q (.ref p) (w.put p (.dic []))
def dDic0 : DTE := fun _ w Q => Q (.dic []) w
theorem de_dicM {X : Cx} {Wv : WX} {pos : Pos} : DE X Wv (.Dict [] [] pos) dDicM :=
  ⟨PE_imp pe_dnewK fun σ H Qv ⟨c, g, env, w, Q, B, q, k⟩ p hp => k _ _ ⟨g, _, .ref p, .rfl, B.R.allocM hp (.dic .nil), .ref p, q p (B.R.noM hp)⟩⟩
theorem de_dic0 {X : Cx} {Wv : WX} {pos : Pos} : DE X Wv (.Dict [] [] pos) dDic0 :=
  ⟨PE_imp pe_dnewK fun σ H Qv ⟨c, g, env, w, Q, B, q, k⟩ p hp =>
    have l := Gh.add_le (o := .dK []) (B.R.noG hp)
    k _ _ ⟨_, w, .dic [], l, B.R.alloc hp, .dic Gh.add_at .nil, q⟩⟩
def dPairs : List (DTE × DTE) → En → W → (List (D × D) → W → Prop) → Prop
  | [], _, w, Q => Q [] w
  | (tk, tv) :: r, env, w, Q => tk env w fun x w1 => tv env w1 fun y w2 => dPairs r env w2 fun ps w3 => Q ((x, y) :: ps) w3
def keysOf : List (D × D) → Option (List (Key × D))
  | [] => some []
  | (k, d) :: r => (keyOf k).bind fun q => (keysOf r).map ((q, d) :: ·)
def dDisp (fin : List (Key × D) → W → DK → Prop) (trs : List (DTE × DTE)) : DTE := fun env w Q => dPairs trs env w fun ps w1 => ∃ kvs, keysOf ps = some kvs ∧ kvs.length ≤ 15 ∧ fin (mergeD [] kvs) w1 Q
def finD : List (Key × D) → W → DK → Prop := fun kvs w Q => Q (.dic kvs) w
def finDM : List (Key × D) → W → DK → Prop := fun kvs w Q => ∀ p, w.m p = none → Q (.ref p) (w.put p (.dic kvs))
def FinDOk (K : PySem.W.Frag) (fin : List (Key × D) → W → DK → Prop) : Prop := ∀ (c : Ck) (g : Gh) (w : W) (H : Hp) (p : Addr) (xs : List (Key × V)) (ds : List (Key × D)) (Q : DK), Rel K (c.fr p (.dK xs)) g w H → c.F p = none → RepK K g xs ds → fin ds w Q → PQ K c g Q (.ref p) H
theorem finD_ok {K : PySem.W.Frag} : FinDOk K finD := fun c g w H p xs ds Q R hF r q => by
  obtain ⟨l, R'⟩ := R.landF hF
  exact ⟨_, w, _, l, R', .dic Gh.add_at (r.le l), q⟩
theorem finDM_ok {K : PySem.W.Frag} : FinDOk K finDM := fun c g w H p xs ds Q R hF r q => ⟨g, _, _, .rfl, R.landM hF (.dic r), .ref p, q p R.noMF⟩
structure DPs (X : Cx) (Wv : WX) (pos : Pos) (keys : List (Option Expr)) (values : List Expr) (trs : List (DTE × DTE)) : Prop where
  pp : PPs X pos keys values (trs.map fun t => (liftE X.K Wv t.1, liftE X.K Wv t.2))
theorem dps_nil {X : Cx} {Wv : WX} {pos : Pos} : DPs X Wv pos [] [] [] := ⟨pps_nil⟩
theorem dps_cons {X : Cx} {Wv : WX} {pos : Pos} {k v : Expr} {ks : List (Option Expr)} {vs : List Expr} {tk tv : DTE} {trs : List (DTE × DTE)} (hk : DE X Wv k tk) (hv : DE X Wv v tv) (hr : DPs X Wv pos ks vs trs) : DPs X Wv pos (some k :: ks) (v :: vs) ((tk, tv) :: trs) := ⟨pps_cons hk.pe hv.pe hr.pp⟩
inductive RepPP (K : PySem.W.Frag) (g : Gh) : List (V × V) → List (D × D) → Prop
  | nil : RepPP K g [] []
  | cons {v u : V} {vs : List (V × V)} {d e : D} {ds : List (D × D)} : Rep K g v d → Rep K g u e → RepPP K g vs ds → RepPP K g ((v, u) :: vs) ((d, e) :: ds)
theorem RepPP.le {K : PySem.W.Frag} {g g' : Gh} (l : g.le g') : ∀ {vs : List (V × V)} {ds : List (D × D)}, RepPP K g vs ds → RepPP K g' vs ds
  | _, _, .nil => .nil
  | _, _, .cons a b r => .cons (a.le l) (b.le l) (RepPP.le l r)
theorem RepPP.keys {K : PySem.W.Frag} {g : Gh} : ∀ {vs : List (V × V)} {ds : List (D × D)} {kvs : List (Key × D)}, RepPP K g vs ds → keysOf ds = some kvs → ∃ xs : List (Key × V), vs = xs.map (fun kv => (kV kv.1, kv.2)) ∧ RepK K g xs kvs
  | _, _, _, .nil, e => by cases e; exact ⟨[], rfl, .nil⟩
  | _, _, _, .cons a b r, e => by
    simp only [keysOf, Option.bind_eq_some_iff, Option.map_eq_some_iff] at e
    obtain ⟨q, e1, kvs, e2, rfl⟩ := e
    obtain ⟨xs, rfl, rk⟩ := RepPP.keys r e2
    obtain ⟨rfl, _⟩ := a.key e1
    exact ⟨(q, _) :: xs, rfl, .cons b rk⟩
theorem pairs_lift {K : PySem.W.Frag} {Wv : WX} : ∀ {trs : List (DTE × DTE)} {c : Ck} {g : Gh} {env : En} {w : W} {σ : St} {H : Hp} {Q : List (D × D) → W → Prop} {Qv : List (V × V) → Hp → Prop}, Bx K Wv c g env w σ H → dPairs trs env w Q →
    (∀ vs H1 g1 w1 ds, g.le g1 → Bx K Wv c g1 env w1 σ H1 → RepPP K g1 vs ds → Q ds w1 → Qv vs H1) → tPairs (trs.map fun t => (liftE K Wv t.1, liftE K Wv t.2)) σ H Qv
  | [], c, g, env, w, σ, H, Q, Qv, B, q, k => k [] H g w [] .rfl B .nil q
  | (tk, tv) :: r, c, g, env, w, σ, H, Q, Qv, B, q, k => by
    refine bindE B q fun v H1 g1 w1 x l1 B1 r1 q1 => bindE B1 q1 fun u H2 g2 w2 y l2 B2 r2 q2 => ?_
    exact pairs_lift B2 q2 fun vs H3 g3 w3 ds l3 B3 r3 q3 => k _ H3 g3 w3 _ ((l1.trans l2).trans l3) B3 (.cons (r1.le (l2.trans l3)) (r2.le l3) r3) q3
theorem de_disp {X : Cx} {Wv : WX} {pos : Pos} {keys : List (Option Expr)} {values : List Expr} {trs : List (DTE × DTE)} {fin : List (Key × D) → W → DK → Prop} (hfin : FinDOk X.K fin) (h : DPs X Wv pos keys values trs) (hall : keys.all (·.isSome) = true := by rfl) (hl : keys.length = values.length := by rfl) (h0 : keys ≠ [] := by intro z; cases z)
    (h15 : keys.length ≤ 15 := by decide) : DE X Wv (.Dict keys values pos) (dDisp fin trs) := by
  refine ⟨PE_imp (pe_disp h.pp hall hl h0 h15) fun σ H Qv ⟨c, g, env, w, Q, B, q, k⟩ p hp => ?_⟩
  have hF : c.F p = none := B.R.noF hp
  have B1 : Bx X.K Wv (c.fr p (.dK [])) g env w σ (upd H p (.dK [])) := ⟨B.R.allocF hp, B.E, fun env' σ' H' cls d g' l e px => by
    refine B.X env' σ' H' cls d g' l e ?_
    obtain ⟨g1, w1, C, fs, e1, l1, R1, z⟩ := px
    refine ⟨g1, w1, C, fs, e1, l1, ?_, z⟩
    exact R1.unfr hF⟩
  refine pairs_lift B1 q fun vs H1 g1 w1 ds l1 B2 r1 q1 => ?_
  obtain ⟨kvs, e, hz, q1⟩ := q1
  obtain ⟨xs, rfl, rk⟩ := r1.keys e
  refine ⟨(B2.R.frm p _ upd_same).1, xs, rfl, by rw [rk.length]; exact hz, ?_⟩
  exact k _ _ ((hfin c g1 w1 _ p _ _ Q (B2.R.writeF) hF (rk.merge .nil) q1).up l1)
end DL

/-! DLj: methods of lists; the pen. -/
namespace DL
open PySem PySem.Spec PyProof.Rows L2

/-! ### methods of lists -/
def isML (x : D) (w : W) : Prop := match x with
  | .ref p => ∃ xs, w.m p = some (.lst xs)
  | .lst _ => True
  | _ => False
theorem isML_ty {K : PySem.W.Frag} {c : Ck} {g : Gh} {w : W} {H : Hp} (R : Rel K c g w H) {v : V} {x : D} (r : Rep K g v x) (h : isML x w) : tyV K "list" v H := by
  cases r with
  | ref p =>
    obtain ⟨xs, e⟩ := h
    obtain ⟨vs, e1, _⟩ := R.mlst e
    exact .inl ⟨rfl, _, SqL.of e1⟩
  | lst s _ => exact .inl ⟨rfl, _, R.sqL s⟩
  | _ => exact False.elim h
def dBM0 (r : D → DRC) (to : DTE) : DTE := fun env w Q => to env w fun x w1 => isML x w1 ∧ r x [] w1 Q
def dBM (r : D → DRC) (to : DTE) (t : DTA) : DTE := fun env w Q => to env w fun x w1 => isML x w1 ∧ t env w1 fun xs w2 => r x xs w2 Q
section
variable {X : Cx} {Wv : WX} {o e : Expr} {es : List Expr} {to : DTE} {t : DTA} {id : String} {name : Str} {apos cpos : Pos} {r : D → DRC}
theorem de_bm0 (slot : Slot "list" name id) (hty : typeOf (.builtin id) = pure (.type "method_descriptor")) (rule : MtD X id r) (ho : DE X Wv o to)
    (hbase : attributeBase o name X.env (eval o X.env) = eval o X.env := by rfl) (hline : (apos.endLine == cpos.line) = true := by rfl) : DE X Wv (.Call (.Attribute o name apos) [] [] cpos) (dBM0 r to) := by
  obtain ⟨r0, h0, imp⟩ := rule
  refine ⟨PE_imp (pe_bm0 PySem.F.plainAttrs_list slot hty h0 ho.pe hbase hline) fun σ H Qv ⟨c, g, env, w, Q, B, q, k⟩ => bindE B q fun v H1 g1 w1 x l1 B1 r1 q1 => ?_⟩
  exact ⟨isML_ty B1.R r1 q1.1, imp c g1 w1 H1 _ _ [] [] Q Qv B1.R r1 .nil q1.2 fun v H' z => k v H' (z.up l1)⟩
theorem de_bm (slot : Slot "list" name id) (hty : typeOf (.builtin id) = pure (.type "method_descriptor")) (rule : MtD X id r) (ho : DE X Wv o to) (ha : DA X Wv (e :: es) t)
    (hbase : attributeBase o name X.env (eval o X.env) = eval o X.env := by rfl)
    (hfew : ((backTo cpos (starEach (e :: es) X.env)).all (fun x => !x.1) && (backToKw cpos (keywordEach [] X.env)).all (fun x => x.1.isSome)
      && decide ((e :: es).length + ([] : List Keyword).length + (if ([] : List Keyword).isEmpty then 0 else 1) < 30)) = true := by rfl)
    (hline : (apos.endLine == cpos.line) = true := by rfl) (hs : starEach (e :: es) X.env = (false, eval e X.env) :: starEach es X.env := by rfl) (hplain : (backTo cpos (starEach es X.env)).any (·.1) = false := by rfl) :
    DE X Wv (.Call (.Attribute o name apos) (e :: es) [] cpos) (dBM r to t) := by
  obtain ⟨r0, h0, imp⟩ := rule
  refine ⟨PE_imp (pe_bm PySem.F.plainAttrs_list slot hty h0 ho.pe ha.pa hbase hfew hline hs hplain) fun σ H Qv ⟨c, g, env, w, Q, B, q, k⟩ => bindE B q fun v H1 g1 w1 x l1 B1 r1 q1 => ?_⟩
  exact ⟨isML_ty B1.R r1 q1.1, bindA B1 q1.2 fun vs H2 g2 w2 xs l2 B2 r2 q2 => imp c g2 w2 H2 _ _ vs xs Q Qv B2.R (r1.le l2) r2 q2 fun v H' z => k v H' ((z.up l2).up l1)⟩
def appendR : D → DRC := fun x ds w Q => match x, ds with
  | .ref p, [y] => ∃ xs, w.m p = some (.lst xs) ∧ xs.length < sizeLine ∧ Q .non (w.put p (.lst (xs ++ [y])))
  | _, _ => False
theorem md_append : MtD X "list.append" appendR := by
  refine ⟨_, mt_append, fun c g w H v x vs ds Q Qv R r1 r2 q k => ?_⟩
  unfold appendR at q
  split at q
  · obtain ⟨u, rfl, a⟩ := r2.one; cases r1
    obtain ⟨xs, e, h, q⟩ := q
    obtain ⟨ys, e1, r⟩ := R.mlst e
    exact ⟨_, _, _, rfl, rfl, e1, by rw [r.length]; exact h, k _ _ ⟨g, _, .non, .rfl, R.write e (.lst (r.append (.cons a .nil))), .non, q⟩⟩
  · exact q.elim
def extendR : D → DRC := fun x ds w Q => match x, ds with
  | .ref p, [.lst ys] => ∃ xs, w.m p = some (.lst xs) ∧ xs.length + ys.length ≤ sizeLine ∧ Q .non (w.put p (.lst (xs ++ ys)))
  | _, _ => False
def popR : D → DRC := fun x ds w Q => match x, ds with
  | .ref p, [] => ∃ xs y, w.m p = some (.lst xs) ∧ xs[xs.length - 1]? = some y ∧ Q y (w.put p (.lst xs.dropLast))
  | .ref p, [.int i] => ∃ xs k y, w.m p = some (.lst xs) ∧ -(2 ^ 63) ≤ i ∧ i < 2 ^ 63 ∧ seqIndex? i xs.length = some k ∧ xs[k]? = some y ∧ Q y (w.put p (.lst (xs.eraseIdx k)))
  | _, _ => False
theorem md_pop : MtD X "list.pop" popR := by
  refine ⟨_, MtR.or mt_pop mt_popAt, fun c g w H v x vs ds Q Qv R r1 r2 q k => ?_⟩
  unfold popR at q
  split at q
  · cases r1; cases r2
    obtain ⟨xs, y, e, h, q⟩ := q
    obtain ⟨ys, e1, r⟩ := R.mlst e
    obtain ⟨u, h1, ru⟩ := r.get h
    exact .inl ⟨_, _, u, rfl, rfl, e1, by rw [r.length]; exact h1, k _ _ ⟨g, _, y, .rfl, R.write e (.lst r.dropLast), ru, q⟩⟩
  · obtain ⟨u, rfl, a⟩ := r2.one; cases r1; cases a
    obtain ⟨xs, j, y, e, h1, h2, h3, h4, q⟩ := q
    obtain ⟨ys, e1, r⟩ := R.mlst e
    obtain ⟨u, h5, ru⟩ := r.get h4
    exact .inr ⟨_, _, _, j, u, rfl, rfl, e1, h1, h2, by rw [r.length]; exact h3, h5, k _ _ ⟨g, _, y, .rfl, R.write e (.lst (r.eraseIdx j)), ru, q⟩⟩
  · exact q.elim
def reverseR : D → DRC := fun x ds w Q => match x, ds with
  | .ref p, [] => ∃ xs, w.m p = some (.lst xs) ∧ Q .non (w.put p (.lst xs.reverse))
  | _, _ => False
theorem md_reverse : MtD X "list.reverse" reverseR := by
  refine ⟨_, mt_reverse, fun c g w H v x vs ds Q Qv R r1 r2 q k => ?_⟩
  unfold reverseR at q
  split at q
  · cases r1; cases r2
    obtain ⟨xs, e, q⟩ := q
    obtain ⟨ys, e1, r⟩ := R.mlst e
    exact ⟨_, _, rfl, rfl, e1, k _ _ ⟨g, _, .non, .rfl, R.write e (.lst r.reverse), .non, q⟩⟩
  · exact q.elim
def clearR : D → DRC := fun x ds w Q => match x, ds with
  | .ref p, [] => ∃ xs, w.m p = some (.lst xs) ∧ Q .non (w.put p (.lst []))
  | _, _ => False
theorem md_clear : MtD X "list.clear" clearR := by
  refine ⟨_, mt_clear, fun c g w H v x vs ds Q Qv R r1 r2 q k => ?_⟩
  unfold clearR at q
  split at q
  · cases r1; cases r2
    obtain ⟨xs, e, q⟩ := q
    obtain ⟨ys, e1, r⟩ := R.mlst e
    exact ⟨_, _, rfl, rfl, e1, k _ _ ⟨g, _, .non, .rfl, R.write e (.lst .nil), .non, q⟩⟩
  · exact q.elim
end

/-! ### the pen -/
def intsOf : List D → Option (List Int)
  | [] => some []
  | .int b :: r => (intsOf r).map (b :: ·)
  | _ => none
theorem RepL.ints {K : PySem.W.Frag} {g : Gh} : ∀ {vs : List V} {ds : List D} {bs : List Int}, RepL K g vs ds → intsOf ds = some bs → vs = bs.map V.int
  | _, _, _, .nil, e => by cases e; rfl
  | _, _, _, .cons a r, e => by
    cases a <;> simp only [intsOf, Option.map_eq_some_iff, reduceCtorEq] at e
    obtain ⟨bs, e1, rfl⟩ := e
    rw [RepL.ints r e1]; rfl
theorem intsOf_map (bs : List Int) : intsOf (bs.map D.int) = some bs := by
  induction bs with
  | nil => rfl
  | cons b r ih => simp [intsOf, ih]
/-- a list [cells, 0, 0] becomes the pen -/
def dMkPen (t : DTE) : DTE := fun env w Q => t env w fun x w1 => match x with
  | .ref p => ∃ cs ns, w1.m p = some (.lst [.lst cs, .int 0, .int 0]) ∧ intsOf cs = some ns ∧ ns.length ≤ 60 ∧ Q .pen (w1.del p)
  | _ => False
theorem Rel.mkPen {K : PySem.W.Frag} {c : Ck} {g : Gh} {w : W} {H : Hp} (R : Rel K c g w H) {p : Addr} {m : MO} {xs : List V} (h : w.m p = some m) (hx : H p = some (.lst xs)) (hp : PenR K g.G xs w.n) :
    g.le ⟨g.G, fun a => g.pm a || decide (a = p)⟩ ∧ Rel K c ⟨g.G, fun a => g.pm a || decide (a = p)⟩ (w.del p) H := by
  obtain ⟨hG, hF, hP, o, h0, _⟩ := R.mu p m h
  have le : g.le ⟨g.G, fun a => g.pm a || decide (a = p)⟩ := ⟨fun _ _ e => e, fun a e => by show (g.pm a || _) = true; rw [e]; rfl⟩
  refine ⟨le, R.imm, R.lck, fun a m' e => ?_, fun a q e => ?_, fun a e => ?_, R.ex⟩
  · have ha : a ≠ p := fun z => by
      subst z
      have e' : delM w.m a a = some m' := e
      rw [delM_same] at e'; cases e'
    have e' : delM w.m p a = some m' := e
    rw [delM_ne ha] at e'
    obtain ⟨h1, h2, h3, o', h4, h5⟩ := R.mu a m' e'
    exact ⟨h1, h2, by show (g.pm a || decide (a = p)) = false; rw [h3, decide_eq_false ha]; rfl, o', h4, h5.le le⟩
  · have ha : a ≠ p := fun z => by rw [z, hF] at e; cases e
    obtain ⟨h1, h2, h3⟩ := R.frm a q e
    exact ⟨h1, h2, by show (g.pm a || decide (a = p)) = false; rw [h3, decide_eq_false ha]; rfl⟩
  · have e' : (g.pm a || decide (a = p)) = true := e
    rcases Bool.or_eq_true _ _ ▸ e' with z | z
    · obtain ⟨h1, ys, h2, h3⟩ := R.pen a z
      exact ⟨h1, ys, h2, h3⟩
    · have ha : a = p := of_decide_eq_true z
      subst ha
      exact ⟨hG, xs, hx, hp⟩
theorem de_mkpen {X : Cx} {Wv : WX} {e : Expr} {t : DTE} (h : DE X Wv e t) : DE X Wv e (dMkPen t) :=
  ⟨PE_imp h.pe fun σ H Qv ⟨c, g, env, w, Q, B, q, k⟩ => bindE B q fun v H1 g1 w1 x l1 B1 r1 q1 => by
    cases r1 with
    | ref p =>
      obtain ⟨cs, ns, e, ei, hl, q2⟩ := (show ∃ cs ns, _ from q1)
      obtain ⟨vs, e1, r⟩ := B1.R.mlst e
      cases r with
      | cons a r => cases r with
        | cons b r => cases r with
          | cons d r =>
            cases r; cases b; cases d
            cases a with
            | lst s r =>
              have z := r.ints ei
              subst z
              obtain ⟨l2, R2⟩ := B1.R.mkPen e e1 ⟨_, ns, 0, 0, rfl, s, hl, Nat.zero_le _, Int.le_refl _⟩
              exact k _ _ ⟨_, _, .pen, l1.trans l2, R2, .pen (by show (g1.pm p || decide (p = p)) = true; simp), q2⟩
    | _ => exact False.elim q1⟩
end DL

/-! DLk: the law's own call. -/
namespace DL
open PySem PySem.Spec PyProof.Rows L2

/-- the law's promise: a list of at most 63 ints goes in, True comes out -/
def spLaw : DSp := fun ds w Q => ∃ ns : List Int, ds = [.lst (ns.map .int)] ∧ ns.length ≤ 63 ∧ w.n = 0 ∧ ∀ w', Q (.bl true) w'
theorem repInts {K : PySem.W.Frag} {g : Gh} : ∀ ns : List Int, RepL K g (ns.map V.int) (ns.map D.int)
  | [] => .nil
  | n :: ns => .cons (.int n) (repInts ns)
section
variable {P : Program} {w : World} {K : PySem.W.Frag} {mg mb : Str → Option Value} {k : Nat} {fa a : Addr} {x : Str} {s₁ : Shared} {vs : List Value} {ns : List Int}
theorem sp_law {H : Hp} (hO : ∀ b, H b = none ∨ b = a ∧ ∃ o, H b = some (.frz o (.lst (ns.map V.int)))) (hS : SqL K H a (ns.map V.int)) (hl : ns.length ≤ 63) :
    liftSp K spLaw [.ref a] H (fun v _ => v = .bl true) fun _ _ _ => False := by
  refine ⟨⟨fun _ => none, fun _ => none, noE⟩, ⟨H, fun _ => false⟩, ⟨fun _ => none, 0, noE⟩, [.lst (ns.map .int)], fun d _ => d = .bl true, ⟨fun b u e => .inl ⟨rfl, e⟩, fun b o e => ?_, fun b m e => ?_, fun b o e => ?_, fun b e => ?_, rfl⟩,
    .cons (.lst hS (repInts ns)) .nil, ⟨ns, rfl, hl, rfl, fun _ => rfl⟩, fun v H' ⟨g', w', d, _, _, r, q⟩ => ?_, fun _ => rfl, fun cls d H' g' _ ⟨_, _, _, _, _, _, _, z, _⟩ => z⟩
  · cases (show (none : Option Obj) = some o from e)
  · cases (show (none : Option MO) = some m from e)
  · cases (show (none : Option HO) = some o from e)
  · cases (show false = true from e)
  · have q : d = .bl true := q
    subst q
    cases r
    rfl
theorem law_run (kin : K.In s₁.heap) (hns : s₁.heap.Ns mainGlobals mg) (hb : s₁.heap.Ns builtinsNs mb) (hbb : ∀ x : Str, x ≠ "__name__" → mb x = bootBuiltins x) (hlim : s₁.heap.NoLimit) (hg : s₁.gens = #[])
    (ha : s₁.heap.get? a = some { cls := .type "list", data := .seq vs.toArray }) (hi : IntsAre vs ns) (hl : ns.length ≤ 63) (hr : Room k callerA)
    (hfa : mg x = some (.ref fa)) (F : ∀ base : Heap, K.In base → base.Ns mainGlobals mg → DCal P w K mg base k x 1 spLaw) :
    codeAny (model P w) callerA (.call (.ref fa) ⟨[.ref a], []⟩) (fun r s' => r = .ok (.ret (.bool true)) ∧ OldK s₁.heap s'.heap ∧ s'.os = s₁.os ∧ AllBare s'.gens) s₁ := by
  have rv := vals_ints hi
  have hz : ns.length ≤ sizeLine := Nat.le_trans hl (by decide)
  have go : ∀ H : Hp, (∀ b, H b = none ∨ b = a ∧ ∃ o, H b = some (.frz o (.lst (ns.map V.int)))) → SqL K H a (ns.map V.int) → HOk P w H s₁.heap → (H a ≠ none → K.lookup a = none) →
      codeAny (model P w) callerA (.call (.ref fa) ⟨[.ref a], []⟩) (fun r s' => r = .ok (.ret (.bool true)) ∧ OldK s₁.heap s'.heap ∧ s'.os = s₁.os ∧ AllBare s'.gens) s₁ := by
    intro H hO hS hok hK
    have dicts : ∀ {b : Addr} {o : Obj} {es : Array DictEntry} {ep : Nat}, s₁.heap.get? b = some o → o.data = .dict es ep → H b = none := fun {b o es ep} e d =>
      (hO b).elim id fun ⟨eb, _⟩ => by
        rw [eb, ha] at e
        cases e
        cases (show Data.seq vs.toArray _ = Data.dict es ep from d)
    have up : ∀ {b : Addr} {m : Str → Option Value}, s₁.heap.Ns b m → (hidT s₁.heap H).Ns b m := fun ⟨o, es, ep, e, d, r⟩ => ⟨o, es, ep, hidT_get e (dicts e d), d, r⟩
    have kb : K.In (hidT s₁.heap H) := fun b o e => hidT_get (kin b o e) ((hO b).elim id fun ⟨eb, o', z⟩ => by
      have := hK (by rw [← eb, z]; simp)
      rw [← eb, e] at this
      cases this)
    have lim : (hidT s₁.heap H).NoLimit := let ⟨mc, h1, h2⟩ := hlim; ⟨mc, up h1, h2⟩
    have e0 : Env0 P w K mg (hidT s₁.heap H) callerA [] s₁ H :=
      { frames := rfl, mod := ⟨kb, up hns, ⟨mb, up hb, hbb⟩, lim⟩, bs := fun b o e => of_hidT e, bsz := Nat.le_of_eq (hidT_size _ _), funs := trivial, frf := fun b hb => (List.not_mem_nil hb).elim, hok := hok, bare := .of_eq hg }
    obtain ⟨f', fd, ps, FF, hm, _, bd, pl⟩ := (F _ kb (up hns)).ex
    rw [hfa] at hm
    cases hm
    have bt := bd s₁ [.ref a] kin (by rw [pl]; rfl)
    refine codeAny_mono (FF.run callerA [] s₁ H _ [.ref a] [.ref a] _ _ hr rfl e0 bt (.cons rfl .nil) (sp_law hO hS hl)) fun r s' h => ?_
    match r, h with
    | .error e, ⟨_, _, _, _, _, _, _, _, _, _, _, _, z⟩ => exact z.elim
    | .ok (.ret u), ⟨v, H', os, bare, un, hok', r', q⟩ =>
      have q : v = .bl true := q
      subst q
      have r' : u = Value.bool true := r'
      subst r'
      refine ⟨rfl, OldK.of_keep fun b o e => ?_, os, bare⟩
      rcases hO b with z | ⟨_, ob, z⟩
      · exact un.keep b o e z (fun m => List.not_mem_nil m) (fun m => List.not_mem_nil m)
      · have e1 := (hok b _ z).1
        rw [e] at e1
        cases e1
        exact (hok' b _ (un.frzs b _ _ z)).1
  cases hk : K.lookup a with
  | some o =>
    have e := kin a o hk
    rw [ha] at e
    cases e
    exact go (fun _ => none) (fun _ => .inl rfl) (.inr ⟨_, vs.toArray, _, hk, rfl, rfl, rfl, by rw [List.size_toArray, hi.length]; exact hz, by simpa using rv⟩) (fun b u z => by cases (show (none : Option HO) = some u from z)) fun z => absurd rfl z
  | none =>
    refine go (upd (fun _ => none) a (.frz { cls := .type "list", data := .seq vs.toArray } (.lst (ns.map V.int)))) (fun b => ?_) (.inl (.inr ⟨_, upd_same⟩)) (fun b u z => ?_) fun _ => hk
    · by_cases e : b = a
      · subst e; exact .inr ⟨rfl, _, upd_same⟩
      · exact .inl (upd_ne e)
    · by_cases e : b = a
      · subst e
        rw [upd_same] at z
        cases z
        exact ⟨ha, by rw [List.length_map]; exact hz, vs, _, rv, ha⟩
      · rw [upd_ne e] at z
        cases z
end
/-- the goal that k_head leaves (case hc), from the law's promise -/
theorem walkG {l : PySem.W.OpenLaw} {k : Nat} {q : Program} {loose : List Str} {XP : (Str → Option Value) → Heap → Prop} {YP : World → Heap → Prop} {d : DefRec} {K : Params → PySem.W.Frag}
    (hn : l.most = some 63) (hdf : d.params.defaults = []) (hr : Room k callerA) (hY : ∀ (w : World) (h : Heap), YP w h → (K w.params).In h)
    (F : ∀ (w : World) (mg : Str → Option Value) (h : Heap), (K w.params).In h → h.Ns mainGlobals mg → ∀ base : Heap, DCal l.prog w (K w.params) mg base k d.name 1 spLaw) :
    PySem.W.WalkO q loose XP YP l.row.toRowW d [] (fun f vs => PySem.call f vs) := by
  refine Att.attach_call hn hdf fun w s₀ s₁ mg mb fa o pm cd doc a vs ns G Y ho hd hcd hmg hobj hints hlen hg => ?_
  exact law_run (hY w _ Y) G.T.g G.T.b G.T.builtins G.T.nolimit hg hobj hints hlen hr hmg fun base kb nb => F w mg base kb nb base
end DL

/-! DLl: a def of the text; the pen packed; small rules. -/
namespace DL
open PySem PySem.Spec PyProof.Rows L2

structure FnAt (K : PySem.W.Frag) (mg : Str → Option Value) (x : Str) (st : Stmt) (ps : List Str) : Prop where
  ex : ∃ f fd, Fun K x x st f fd ∧ mg x = some (.ref f) ∧ Binds K fd ps []
theorem de_neg {X : Cx} {Wv : WX} {a : Expr} {ta : DTE} {pos : Pos} (ha : DE X Wv a ta) : DE X Wv (.UnaryOp .USub a pos) (fun env w Q => ta env w fun x w1 => match x with | .int i => Q (.int (-i)) w1 | _ => False) :=
  ⟨PE_imp (pe_un un_neg ha.pe) fun σ H Qv ⟨c, g, env, w, Q, B, q, k⟩ => bindE B q fun v H1 g1 w1 x l1 B1 r1 q1 => by
    cases r1 with
    | int i => exact ⟨i, rfl, k _ _ ⟨g1, w1, _, l1, B1.R, .int _, q1⟩⟩
    | _ => exact False.elim q1⟩

/-! ### the pen in a def's own hands -/
/-- a pen's list -/
def penL (cs : List D) (i r : Int) : MO := .lst [.lst cs, .int i, .int r]
/-- as it is within the pen's own defs -/
def spDrawU : DSp := fun ds w Q => match ds with
  | [.ref p, .int b] => ∃ cs ns i r, w.m p = some (penL cs i r) ∧ intsOf cs = some ns ∧ ns.length ≤ 60 ∧ 0 ≤ i ∧ i < 2 ^ 31 ∧ 0 ≤ r ∧ 0 < b ∧ b < 2 ^ 30 ∧
      ∀ d i' r', 0 ≤ d → d < b → 0 ≤ i' → i' ≤ i + 1 → 0 ≤ r' → Q (.int d) (w.put p (penL cs i' r'))
  | _ => False
def spNextU : DSp := fun ds w Q => match ds with
  | [.ref p] => ∃ cs ns i r, w.m p = some (penL cs i r) ∧ intsOf cs = some ns ∧ ns.length ≤ 60 ∧ 0 ≤ i ∧ i < 2 ^ 31 ∧ 0 ≤ r ∧
      ∀ v i', 0 ≤ v → 0 ≤ i' → i' ≤ i + 1 → Q (.int v) (w.put p (penL cs i' r))
  | _ => False
/-- a draw below b -/
def spDraw : DSp := fun ds w Q => match ds with
  | [.pen, .int b] => 0 < b ∧ b < 2 ^ 30 ∧ w.n < 2 ^ 31 ∧ ∀ d : Int, 0 ≤ d → d < b → Q (.int d) (w.tick 1)
  | _ => False
/-- all but the pen at p kept as it stands, the pen opened -/
theorem Rel.unpen {K : PySem.W.Frag} {c : Ck} {g : Gh} {w : W} {H : Hp} (R : Rel K c g w H) {p : Addr} (h : g.pm p = true) :
    ∃ cs ns i r, intsOf cs = some ns ∧ ns.length ≤ 60 ∧ 0 ≤ i ∧ i ≤ (w.n : Int) ∧ 0 ≤ r ∧
      Rel K { c with F := fun a => match w.m a with | some _ => H a | none => c.F a } ⟨g.G, fun a => g.pm a && !decide (a = p)⟩ ⟨updM (fun _ => none) p (penL cs i r), w.n, w.e⟩ H := by
  obtain ⟨hG, xs, hx, ca, ns, i, r, rfl, hs, hl, hi, hr⟩ := R.pen p h
  have hM : w.m p = none := by
    cases q : w.m p with
    | none => rfl
    | some m =>
      obtain ⟨_, _, z, _⟩ := R.mu p m q
      rw [h] at z; cases z
  have hF : c.F p = none := by
    cases q : c.F p with
    | none => rfl
    | some o =>
      obtain ⟨_, _, z⟩ := R.frm p o q
      rw [h] at z; cases z
  refine ⟨ns.map .int, ns, i, r, intsOf_map ns, hl, Int.natCast_nonneg i, by omega, hr, R.imm, R.lck, fun a m e => ?_, fun a q e => ?_, fun a e => ?_, R.ex⟩
  · by_cases ha : a = p
    · subst ha
      have e' : updM (fun _ => none) a _ a = some m := e
      rw [updM_same] at e'; cases e'
      refine ⟨hG, ?_, by simp, _, hx, .lst (.cons (.lst hs (repInts ns)) (.cons (.int _) (.cons (.int _) .nil)))⟩
      show (match w.m a with | some _ => H a | none => c.F a) = none
      rw [hM]; exact hF
    · have e' : updM (fun _ => none) p _ a = some m := e
      rw [updM_ne ha] at e'; cases e'
  · have e : (match w.m a with | some _ => H a | none => c.F a) = some q := e
    cases z : w.m a with
    | none =>
      rw [z] at e
      obtain ⟨h1, h2, h3⟩ := R.frm a q e
      exact ⟨h1, h2, by simp [h3]⟩
    | some m =>
      rw [z] at e
      obtain ⟨h1, h2, h3, _⟩ := R.mu a m z
      exact ⟨e, h1, by simp [h3]⟩
  · have e' : (g.pm a && !decide (a = p)) = true := e
    rw [Bool.and_eq_true] at e'
    obtain ⟨h1, ys, h2, h3⟩ := R.pen a e'.1
    exact ⟨h1, ys, h2, h3⟩
theorem Rel.repen {K : PySem.W.Frag} {c : Ck} {g g2 : Gh} {w w2 : W} {H H2 : Hp} (R : Rel K c g w H) {p : Addr} (h : g.pm p = true) {cs : List D} {ns : List Int} {i r : Int} (hi : intsOf cs = some ns) (hl : ns.length ≤ 60) (h0 : 0 ≤ i) (h1 : i ≤ (w.n : Int) + 1) (hr : 0 ≤ r)
    (l : (⟨g.G, fun a => g.pm a && !decide (a = p)⟩ : Gh).le g2) {e' : En → Addr → Option (List (Str × D)) → Mem → Nat → Prop} (R2 : Rel K { L := c.L, F := fun a => match w.m a with | some _ => H a | none => c.F a, e := e' } g2 w2 H2) (hm : w2.m p = some (penL cs i r)) (hn : w2.n ≤ w.n + 1) :
    ∃ g3, g.le g3 ∧ g2.le g3 ∧ Rel K c g3 (w.tick 1) H2 := by
  obtain ⟨hG, hF, hP, o, ho, rm⟩ := R2.mu p _ hm
  cases rm with
  | lst rm =>
    have rv := rm
    cases rm with
    | cons ra rm => cases rm with
      | cons rb rm => cases rm with
        | cons rc rm =>
          cases rm; cases rb; cases rc
          cases ra with
          | lst sa ra =>
            have ea := ra.ints hi
            subst ea
            have l3 : g2.le ⟨g2.G, fun a => g2.pm a || decide (a = p)⟩ := ⟨fun _ _ e => e, fun a e => by show (g2.pm a || _) = true; rw [e]; rfl⟩
            have lg : g.le ⟨g2.G, fun a => g2.pm a || decide (a = p)⟩ := ⟨fun a u e => l.G a u e, fun a e => by
              show (g2.pm a || decide (a = p)) = true
              by_cases ha : a = p
              · rw [decide_eq_true ha, Bool.or_true]
              · have := l.pm a (by show (g.pm a && !decide (a = p)) = true; rw [e, decide_eq_false ha]; rfl)
                rw [this]; rfl⟩
            have noM : w.m p = none := by
              cases q : w.m p with
              | none => rfl
              | some m =>
                obtain ⟨_, _, z, _⟩ := R.mu p m q
                rw [h] at z; cases z
            have noF : c.F p = none := by
              cases q : c.F p with
              | none => rfl
              | some o =>
                obtain ⟨_, _, z⟩ := R.frm p o q
                rw [h] at z; cases z
            refine ⟨_, lg, l3, R2.imm, R2.lck, fun a m e => ?_, fun a q e => ?_, fun a e => ?_, R.ex⟩
            · have e : w.m a = some m := e
              obtain ⟨h1, h2, h3, o', h4, h5⟩ := R.mu a m e
              obtain ⟨k1, k2, k3⟩ := R2.frm a o' (by show (match w.m a with | some _ => H a | none => c.F a) = some o'; rw [e]; exact h4)
              have ha : a ≠ p := fun z => by rw [z, noM] at e; cases e
              exact ⟨k2, h2, by show (g2.pm a || decide (a = p)) = false; rw [k3, decide_eq_false ha]; rfl, o', k1, h5.le lg⟩
            · have em : w.m a = none := by
                cases q' : w.m a with
                | none => rfl
                | some m =>
                  obtain ⟨_, z, _⟩ := R.mu a m q'
                  rw [e] at z; cases z
              obtain ⟨k1, k2, k3⟩ := R2.frm a q (by show (match w.m a with | some _ => H a | none => c.F a) = some q; rw [em]; exact e)
              have ha : a ≠ p := fun z => by rw [z, noF] at e; cases e
              exact ⟨k1, k2, by show (g2.pm a || decide (a = p)) = false; rw [k3, decide_eq_false ha]; rfl⟩
            · have e' : (g2.pm a || decide (a = p)) = true := e
              by_cases ha : a = p
              · subst ha
                obtain ⟨j, rfl⟩ : ∃ j : Nat, i = j := ⟨i.toNat, by omega⟩
                exact ⟨hG, _, ho, _, ns, j, r, rfl, sa, hl, by show j ≤ w.n + 1; omega, hr⟩
              · rw [decide_eq_false ha, Bool.or_false] at e'
                obtain ⟨h1, ys, h2, h3⟩ := R2.pen a e'
                exact ⟨h1, ys, h2, h3.le .rfl hn⟩
theorem draw_pack {K : PySem.W.Frag} {vs : List V} {H : Hp} {Q : VK} {E : XK} (h : liftSp K spDraw vs H Q E) : liftSp K spDrawU vs H Q E := by
  obtain ⟨c, g, w, ds, Q0, R, r, h, k1, k2, k3⟩ := h
  unfold spDraw at h
  split at h
  · rename_i b
    obtain ⟨h1, h2, h3, h4⟩ := h
    obtain ⟨v, u, rfl, ra, rb⟩ := r.two
    cases ra with
    | @pen p hp =>
      obtain ⟨cs, ns, i, rr, e1, e2, e3, e4, e5, R'⟩ := R.unpen hp
      refine ⟨_, _, W.mute ⟨updM (fun _ => none) p (penL cs i rr), w.n, w.e⟩, [.ref p, .int b], fun d w' => ∃ d' cs' i' r', d = .int d' ∧ 0 ≤ d' ∧ d' < b ∧ intsOf cs' = some ns ∧ 0 ≤ i' ∧ i' ≤ i + 1 ∧ 0 ≤ r' ∧ w'.m p = some (penL cs' i' r') ∧ w'.n = w.n, R'.mute,
        .cons (.ref p) (.cons (by cases rb; exact .int b) .nil), ⟨cs, ns, i, rr, by show updM (fun _ => none) p (penL cs i rr) p = _; exact updM_same, e1, e2, e3, by omega, e5, h1, h2, fun d i' r' q1 q2 q3 q4 q5 => ⟨d, cs, i', r', rfl, q1, q2, e1, q3, q4, q5, by show updM (updM (fun _ => none) p (penL cs i rr)) p (penL cs i' r') p = _; exact updM_same, rfl⟩⟩, fun v H' ⟨g', w', d, l, R2, rd, d', cs', i', r', z0, z1, z2, z3, z4, z5, z6, z7, z8⟩ => ?_, fun _ => rfl, fun cls d H' g' l' ⟨_, _, _, _, _, _, _, z, _⟩ => z.elim⟩
      · subst z0
        cases rd
        obtain ⟨g3, l1, l2, R3⟩ := R.repen hp z3 e2 z4 (by omega) z6 l R2 z7 (by omega)
        exact k1 _ _ ⟨g3, _, _, l1, R3, .int d', h4 d' z1 z2⟩
  · exact h.elim
end DL

/-! DLm: small words for the readings. -/
namespace DL
open PySem PySem.Spec PyProof.Rows L2

/-! ### ways -/
theorem ifb {b : Bool} {A B : Prop} (h1 : b = true → A) (h2 : b = false → B) : if b = true then A else B := by
  cases b with
  | true => rw [if_pos rfl]; exact h1 rfl
  | false => rw [if_neg Bool.false_ne_true]; exact h2 rfl
theorem ifn {b : Bool} {A B : Prop} (h1 : b = true → B) (h2 : b = false → A) : if (!b) = true then A else B := by
  cases b with
  | true => exact h1 rfl
  | false => exact h2 rfl
theorem ifx {b : Bool} {A B : Prop} (h1 : b = true → B) (h2 : b = false → A) : if (true ^^ b) = true then A else B := by
  cases b with
  | true => exact h1 rfl
  | false => exact h2 rfl
theorem ify {b : Bool} {A B : Prop} (h1 : b = true → A) (h2 : b = false → B) : if (false ^^ b) = true then A else B := by
  cases b with
  | true => exact h1 rfl
  | false => exact h2 rfl
theorem ifd {c A B : Prop} [Decidable c] (h1 : c → A) (h2 : ¬ c → B) : if decide c = true then A else B := by
  by_cases h : c
  · rw [if_pos (decide_eq_true h)]; exact h1 h
  · rw [if_neg (by simpa using h)]; exact h2 h
theorem nif {c A B : Prop} [Decidable c] (h1 : c → B) (h2 : ¬ c → A) : if (!decide c) = true then A else B := by
  by_cases h : c
  · rw [if_neg (by simpa using h)]; exact h1 h
  · rw [if_pos (by simpa using h)]; exact h2 h
theorem sz_nat (n : Nat) (h : n ≤ 16777216 := by decide) : n ≤ sizeLine := by rw [sizeLine_eq]; exact h
theorem atI0 {α : Type} (x : α) (r : List α) : atI (x :: r) 0 = some x := atI_nat (j := 0) rfl
theorem atI_int {α : Type} {xs : List α} {i : Int} (h0 : 0 ≤ i) (h1 : i < xs.length) : ∃ v, atI xs i = some v ∧ xs[i.toNat]? = some v := by
  obtain ⟨j, rfl⟩ : ∃ j : Nat, i = j := ⟨i.toNat, by omega⟩
  have hj : j < xs.length := by omega
  have e : xs[j]? = some xs[j] := by simp [hj]
  exact ⟨xs[j], atI_nat e, by simpa using e⟩
theorem atI_mem {α : Type} {xs : List α} {i : Int} (h0 : 0 ≤ i) (h1 : i < xs.length) : ∃ v, atI xs i = some v ∧ v ∈ xs := by
  obtain ⟨v, e, e2⟩ := atI_int h0 h1
  exact ⟨v, e, List.mem_of_getElem? e2⟩

/-! ### comprehensions whose turns change nothing -/
section
variable {items : List D} {gd : DTG} {tt : DTT} {te : DTE} {vs : List Nat} {env : En} {w : W} {Q : DK} {fin : List D → W → DK → Prop}
/-- [f x for x in items] -/
theorem lc_map (f : D → D) (hz : items.length ≤ sizeLine) (h : ∀ x, x ∈ items → ∀ R : DK, R (f x) w.mute → gd x (wipeD env vs) w.mute fun env2 w3 => te env2 w3 R) (hf : fin (items.map f) w Q) :
    items.length ≤ sizeLine ∧ ∃ Pv : Nat → List D → W → Prop, Pv 0 [] w ∧
      (∀ i x acc w2, items[i]? = some x → acc.length ≤ i → Pv i acc w2 → gd x (wipeD env vs) w2.mute fun env2 w3 => dYes env2 w3 fun b w4 => if b = true then te env2 w4 fun y w5 => Pv (i + 1) (acc ++ [y]) (w5.as w) else Pv (i + 1) acc (w4.as w)) ∧
      ∀ acc w2, Pv items.length acc w2 → fin acc w2 Q := by
  refine ⟨hz, fun i acc w2 => w2 = w ∧ acc = (items.take i).map f, ⟨rfl, rfl⟩, ?_, ?_⟩
  · rintro i x acc w2 hx _ ⟨rfl, rfl⟩
    refine h x (List.mem_of_getElem? hx) (fun y w5 => w5.as w2 = w2 ∧ (items.take i).map f ++ [y] = (items.take (i + 1)).map f) ⟨rfl, ?_⟩
    rw [List.take_succ, hx]
    simp
  · rintro acc w2 ⟨rfl, rfl⟩
    rw [List.take_length]
    exact hf
/-- [f x for x in items if p x] -/
theorem lc_filter (p : D → Bool) (f : D → D) (hz : items.length ≤ sizeLine)
    (h : ∀ x, x ∈ items → ∀ (R : DK) (S : W → Prop), (p x = true → R (f x) w.mute) → (p x = false → S w.mute) → gd x (wipeD env vs) w.mute fun env2 w3 => tt env2 w3 fun b w4 => if b = true then te env2 w4 R else S w4) (hf : fin ((items.filter p).map f) w Q) :
    items.length ≤ sizeLine ∧ ∃ Pv : Nat → List D → W → Prop, Pv 0 [] w ∧
      (∀ i x acc w2, items[i]? = some x → acc.length ≤ i → Pv i acc w2 → gd x (wipeD env vs) w2.mute fun env2 w3 => tt env2 w3 fun b w4 => if b = true then te env2 w4 fun y w5 => Pv (i + 1) (acc ++ [y]) (w5.as w) else Pv (i + 1) acc (w4.as w)) ∧
      ∀ acc w2, Pv items.length acc w2 → fin acc w2 Q := by
  refine ⟨hz, fun i acc w2 => w2 = w ∧ acc = ((items.take i).filter p).map f, ⟨rfl, rfl⟩, ?_, ?_⟩
  · rintro i x acc w2 hx _ ⟨rfl, rfl⟩
    refine h x (List.mem_of_getElem? hx) (fun y w5 => w5.as w2 = w2 ∧ ((items.take i).filter p).map f ++ [y] = ((items.take (i + 1)).filter p).map f) (fun w4 => w4.as w2 = w2 ∧ ((items.take i).filter p).map f = ((items.take (i + 1)).filter p).map f) (fun e => ⟨rfl, ?_⟩) fun e => ⟨rfl, ?_⟩
    · rw [List.take_succ, hx]
      simp [e]
    · rw [List.take_succ, hx]
      simp [e]
  · rintro acc w2 ⟨rfl, rfl⟩
    rw [List.take_length]
    exact hf
end
theorem all_map (p : D → Bool) (xs : List D) : blsOf (xs.map fun x => .bl (p x)) = some (xs.map p) := by
  induction xs with
  | nil => rfl
  | cons x r ih => simp [blsOf, ih]
end DL

/-! DLm: small words for the readings. -/
/-! DLn: small rules for the joining. -/
namespace DL
open PySem PySem.Spec PyProof.Rows L2
theorem FnAt.of {K : PySem.W.Frag} {h : Heap} {mg : Str → Option Value} {x : Str} {st : Stmt} {ps : List Str} {f : Addr} {oc : Value} {od an : Option Addr} {osl : Array (Option Value)} {kV doc pm cdv ct : Value} (X : K.In h) (G : h.Ns mainGlobals mg)
    (hb : ∀ (kV doc pm : Value) (an : Option Addr) (cdv ct : Value) (us : List Value), us.length = ps.length → bindArgs (PySem.W.fnOf x x (defArgs st) (defBody st) (defScope st) .none kV doc pm an cdv ct) ⟨us, []⟩ = pure (ps.zip us))
    (a : PySem.W.nsIn K mainGlobals x = some (some (.ref f))) (l : K.lookup f = some ⟨oc, od, .func (PySem.W.fnOf x x (defArgs st) (defBody st) (defScope st) .none kV doc pm an cdv ct), osl⟩)
    (c : PySem.W.codeIn K cdv x = true) (k : PySem.W.keepIn K (.ref f) = true) : FnAt K mg x st ps := by
  have F := fun_mk (st := st) l c k
  exact ⟨⟨f, _, F, PySem.W.mg_of X G a, F.binds hb⟩⟩
theorem DCal.imp {P : Program} {w : World} {K : PySem.W.Frag} {mg : Str → Option Value} {base : Heap} {k : Nat} {x : Str} {n : Nat} {sp sp' : DSp} (c : DCal P w K mg base k x n sp) (h : ∀ vs H Q E, liftSp K sp' vs H Q E → liftSp K sp vs H Q E) : DCal P w K mg base k x n sp' :=
  let ⟨f, fd, ps, F, r⟩ := c.ex; ⟨f, fd, ps, F.imp h, r⟩
theorem cut_to {xs : List D} {k : Int} (h : 0 ≤ k) : DL.cutD xs none (some k) = xs.take k.toNat := by
  obtain ⟨j, rfl⟩ : ∃ j : Nat, k = j := ⟨k.toNat, by omega⟩
  unfold DL.cutD
  rw [HT.sIx_nat, HT.sIx_none, List.drop_zero, Int.toNat_natCast, Nat.sub_zero]
  by_cases hj : j ≤ xs.length
  · rw [Nat.min_eq_left hj]
  · rw [Nat.min_eq_right (by omega), List.take_of_length_le (Nat.le_refl _), List.take_of_length_le (by omega)]
theorem cut_from {xs : List D} {k : Int} (h : 0 ≤ k) : DL.cutD xs (some k) none = xs.drop k.toNat := by
  obtain ⟨j, rfl⟩ : ∃ j : Nat, k = j := ⟨k.toNat, by omega⟩
  unfold DL.cutD
  rw [HT.sIx_nat, HT.sIx_none, Int.toNat_natCast]
  by_cases hj : j ≤ xs.length
  · rw [Nat.min_eq_left hj, List.take_of_length_le (by rw [List.length_drop]; omega)]
  · rw [Nat.min_eq_right (by omega), List.drop_of_length_le (Nat.le_refl _), List.drop_of_length_le (by omega)]
    simp
end DL

/-! DLm: small words for the readings. -/
/-! DLo: more operators. -/
namespace DL
open PySem PySem.Spec PyProof.Rows L2
theorem mulOk {a : Str} {n : Int} (h1 : -(2 ^ 63) ≤ n) (h2 : n ≤ 16777216) (h3 : a.length * n.toNat ≤ 16777216) : MulOk a n := by
  refine ⟨?_, fun c1 c2 => ?_, fun c1 c2 => ?_⟩
  · rw [decide_eq_false (by omega), decide_eq_false (by omega)]; rfl
  · have z : (549755813887 : Int) ≤ (2 ^ 63 - 1) / n := by
      rw [Int.le_ediv_iff_mul_le (by omega)]
      omega
    have : a.length ≤ 16777216 := by
      have : 1 ≤ n.toNat := by omega
      exact Nat.le_trans (Nat.le_mul_of_pos_right _ this) h3
    omega
  · have : ¬ a.length * n.toNat > 2 ^ 24 := by omega
    simpa [Builtin.Str.tooLong, sizeLine] using this
theorem op_mulS {X : Cx} : OpR X (binaryOp .Mult) (fun x y H Q => ∃ a n, x = .str a ∧ y = .int n ∧ MulOk a n ∧ Q (.str (Txt.mul a n)) H) := by
  intro pins s σ H x y v u Q I rx ry h
  obtain ⟨a, n, rfl, rfl, hz, q⟩ := h
  obtain ⟨t, rfl⟩ := rx
  obtain ⟨t', rfl⟩ := ry
  exact SB.mul hz fun t k => ⟨.str _, H, I.tok _, ⟨t, rfl⟩, q⟩
theorem od_mulS {X : Cx} : OpD X (binaryOp .Mult) fun x y w Q => match x, y with
    | .str a, .int n => -(2 ^ 63) ≤ n ∧ n ≤ 16777216 ∧ a.length * n.toNat ≤ 16777216 ∧ Q (.str (Txt.mul a n)) w
    | _, _ => False := by
  refine ⟨_, op_mulS, fun c g w H x y v u Q Qv R r1 r2 q k => ?_⟩
  cases r1 with
  | str i => cases r2 with
    | int j => exact ⟨i, j, rfl, rfl, mulOk q.1 q.2.1 q.2.2.1, k _ _ ⟨g, w, _, .rfl, R, .str _, q.2.2.2⟩⟩
    | _ => exact False.elim q
  | _ => exact False.elim q
theorem cst_int {K : PySem.W.Frag} {h : Heap} {mg : Str → Option Value} {n : Str} {i : Int} {u : Tok} (X : K.In h) (G : h.Ns mainGlobals mg) (e : PySem.W.nsIn K mainGlobals n = some (some (.int i u))) : ∃ u, mg n = some (.int i u) := ⟨u, PySem.W.mg_of X G e⟩
theorem cst_str {K : PySem.W.Frag} {h : Heap} {mg : Str → Option Value} {n : Str} {i : Str} {u : Tok} (X : K.In h) (G : h.Ns mainGlobals mg) (e : PySem.W.nsIn K mainGlobals n = some (some (.str i u))) : ∃ u, mg n = some (.str i u) := ⟨u, PySem.W.mg_of X G e⟩
theorem FnAt.ofC {K : PySem.W.Frag} {h : Heap} {mg : Str → Option Value} (x : Str) (st : Stmt) (ps : List Str) {f : Addr} {oc : Value} {od an : Option Addr} {osl : Array (Option Value)} {kV doc pm cdv ct : Value} {R : Prop} (X : K.In h) (G : h.Ns mainGlobals mg)
    (hb : ∀ (kV doc pm : Value) (an : Option Addr) (cdv ct : Value) (us : List Value), us.length = ps.length → bindArgs (PySem.W.fnOf x x (defArgs st) (defBody st) (defScope st) .none kV doc pm an cdv ct) ⟨us, []⟩ = pure (ps.zip us))
    (a : PySem.W.nsIn K mainGlobals x = some (some (.ref f))) (l : K.lookup f = some ⟨oc, od, .func (PySem.W.fnOf x x (defArgs st) (defBody st) (defScope st) .none kV doc pm an cdv ct), osl⟩)
    (c : PySem.W.codeIn K cdv x = true) (k : PySem.W.keepIn K (.ref f) = true) (r : FnAt K mg x st ps → R) : R := r (.of X G hb a l c k)
end DL

/-! DLm: small words for the readings. -/
/-! DLp: data that repr shows; texts of bounded length. -/
namespace DL
open PySem PySem.Spec PyProof.Rows L2
def shows (d : PyData) : Bool := d.showable && decide (d.depth ≤ 60) && decide (d.shown.length ≤ 16777216) && (!d.hasDict || noL d)
theorem ShowOk.of {d : PyData} (h : shows d = true) : ShowOk d := by
  unfold shows at h
  simp only [Bool.and_eq_true, decide_eq_true_eq, Bool.or_eq_true, Bool.not_eq_true'] at h
  obtain ⟨⟨⟨h1, h2⟩, h3⟩, h4⟩ := h
  exact ⟨h1, h2, by rw [sizeLine_eq]; exact h3, fun z => h4.elim (fun e => by rw [e] at z; cases z) id⟩
/-- what repr takes -/
def Shw (d : D) : Prop := ∃ p, toPy d = some p ∧ ShowOk p
def shwB (d : D) : Bool := match toPy d with
  | some p => shows p
  | none => false
theorem Shw.of {d : D} (h : shwB d = true) : Shw d := by
  unfold shwB at h
  split at h
  · rename_i p e
    exact ⟨p, e, .of h⟩
  · cases h
/-- a text of at most n signs -/
structure Okz (n : Nat) (x : Str) : Prop where
  len : x.length ≤ n
  cp : ∀ c ∈ x.cps.toList, c < 16 ^ 8
theorem Okz.mono {n m : Nat} {x : Str} (h : Okz n x) (l : n ≤ m) : Okz m x := ⟨Nat.le_trans h.len l, h.cp⟩
theorem Okz.app {n m : Nat} {x y : Str} (h : Okz n x) (k : Okz m y) : Okz (n + m) (x ++ y) :=
  ⟨by rw [strLen_append]; exact Nat.add_le_add h.len k.len, fun c hc => by
    rw [Str.cps_append, Array.toList_append] at hc
    exact (List.mem_append.mp hc).elim (h.cp c) (k.cp c)⟩
theorem Okz.cut {n : Nat} {x : Str} (h : Okz n x) (lo hi : Option Int) : Okz n (cutS x lo hi) :=
  ⟨Nat.le_trans (cutS_length x lo hi) h.len, fun c hc => h.cp c (by
    unfold L2.cutS at hc
    rw [List.toList_toArray] at hc
    exact List.mem_of_mem_drop (List.mem_of_mem_take hc))⟩
def okz (n : Nat) (x : Str) : Bool := decide (x.length ≤ n) && x.cps.toList.all fun c => decide (c < 16 ^ 8)
theorem Okz.of {n : Nat} {x : Str} (h : okz n x = true) : Okz n x := by
  unfold okz at h
  rw [Bool.and_eq_true] at h
  exact ⟨of_decide_eq_true h.1, fun c hc => of_decide_eq_true (List.all_eq_true.mp h.2 c hc)⟩
theorem Okz.join {n : Nat} (s : Str) : ∀ {ys : List Str}, (∀ y ∈ ys, Okz n y) → Okz (ys.length * (n + s.length)) (Str.join s ys) ∨ ∃ c ∈ s.cps.toList, ¬ c < 16 ^ 8
  | [], _ => .inl ⟨Nat.zero_le _, fun c hc => by cases hc⟩
  | [x], h => .inl ⟨Nat.le_trans (h x (by simp)).len (by simp), (h x (by simp)).cp⟩
  | x :: y :: r, h => by
    by_cases hs : ∀ c ∈ s.cps.toList, c < 16 ^ 8
    · rcases Okz.join s (ys := y :: r) (fun z hz => h z (List.mem_cons_of_mem _ hz)) with k | ⟨c, hc, hn⟩
      · refine .inl ((((h x (by simp)).app (m := s.length) ⟨Nat.le_refl _, hs⟩).app k).mono ?_)
        have : (x :: y :: r).length = (y :: r).length + 1 := rfl
        rw [this, Nat.succ_mul]
        omega
      · exact absurd (hs c hc) hn
    · refine .inr ?_
      apply Classical.byContradiction
      intro hh
      exact hs fun c hc => Classical.byContradiction fun hn => hh ⟨c, hc, hn⟩
theorem Okz.join0 {n : Nat} {ys : List Str} (h : ∀ y ∈ ys, Okz n y) : Okz (ys.length * n) (Str.join ⟨#[]⟩ ys) := by
  rcases Okz.join ⟨#[]⟩ h with k | ⟨c, hc, _⟩
  · exact k
  · cases hc
theorem Okz.repr {n : Nat} {x : Str} (h : Okz n x) : (reprText x).length ≤ 10 * n + 2 := Nat.le_trans (StrLaws.reprText_len x h.cp) (by have := h.len; omega)
theorem Okz.size {n : Nat} {x : Str} (h : Okz n x) (l : n ≤ 1000000) : x.length ≤ sizeLine := Nat.le_trans h.len (sz_nat n (by omega))
theorem Okz.shw {n : Nat} {x : Str} (h : Okz n x) (l : n ≤ 1000000) : Shw (.str x) :=
  ⟨.str x, rfl, rfl, Nat.zero_le _, Nat.le_trans h.repr (sz_nat _ (by omega)), fun z => by cases z⟩
theorem Okz.shwL {n : Nat} {x : Str} (h : Okz n x) (l : n ≤ 1000000) : Shw (.lst [.str x]) :=
  ⟨.list [.str x], rfl, rfl, Nat.le_of_ble_eq_true rfl, by
    have e : (PyData.list [.str x]).shown = ("[" : Str) ++ "" ++ reprText x ++ "]" := rfl
    rw [e, strLen_append, strLen_append, strLen_append]
    have := h.repr
    exact sz_nat _ (by
      have a : ("[" : Str).length = 1 := rfl
      have b : ("]" : Str).length = 1 := rfl
      have c : ("" : Str).length = 0 := rfl
      omega), fun z => by cases z⟩
theorem Okz.shwT {n : Nat} {x : Str} (h : Okz n x) (l : n ≤ 1000000) : Shw (.tup [.str x]) :=
  ⟨.tuple [.str x], rfl, rfl, Nat.le_of_ble_eq_true rfl, by
    have e : (PyData.tuple [.str x]).shown = ("(" : Str) ++ reprText x ++ ",)" := rfl
    rw [e, strLen_append, strLen_append]
    have := h.repr
    exact sz_nat _ (by
      have a : ("(" : Str).length = 1 := rfl
      have b : (",)" : Str).length = 2 := rfl
      omega), fun z => by cases z⟩
theorem Okz.two {n m : Nat} {x y : Str} (h : Okz n x) (k : Okz m y) (l : n + m ≤ 1000000) : x.length + y.length ≤ sizeLine := by
  have := h.len
  have := k.len
  exact sz_nat _ (by omega)
theorem Okz.one {c : Nat} (h : c < 16 ^ 8) : Okz 1 ⟨#[c]⟩ := ⟨Nat.le_refl _, fun d hd => by
  have : d = c := by simpa using hd
  rw [this]; exact h⟩
/-- single signs of a text -/
theorem strs_of_signs {z : List Nat} : ∀ {acc : List D}, (∀ d ∈ acc, ∃ c, c ∈ z ∧ d = .str ⟨#[c]⟩) → ∃ ys : List Str, strsOf acc = some ys ∧ ys.length = acc.length ∧ (ys.map (·.length)).sum = acc.length ∧ ∀ y ∈ ys, ∃ c, c ∈ z ∧ y = ⟨#[c]⟩
  | [], _ => ⟨[], rfl, rfl, rfl, fun y hy => by cases hy⟩
  | d :: r, h => by
    obtain ⟨ys, e, l, q, k⟩ := strs_of_signs (acc := r) fun d hd => h d (List.mem_cons_of_mem _ hd)
    obtain ⟨c, hc, rfl⟩ := h d (List.mem_cons_self ..)
    refine ⟨⟨#[c]⟩ :: ys, by simp only [strsOf, e]; rfl, by simp [l], ?_, fun y hy => ?_⟩
    · rw [List.map_cons, List.sum_cons, q, List.length_cons]
      show 1 + r.length = _
      omega
    · rcases List.mem_cons.mp hy with rfl | hy
      · exact ⟨c, hc, rfl⟩
      · exact k y hy
theorem mem_placed {x : Str} {f : Nat → Nat → List Nat} {d : Nat} (h : d ∈ (placed x f).toList) : ∃ i c, c ∈ x.cps.toList ∧ d ∈ f i c := by
  unfold placed at h
  rw [Array.mem_toList_iff, Array.mem_flatten] at h
  obtain ⟨a, h1, h2⟩ := h
  rw [Array.mem_mapIdx] at h1
  obtain ⟨i, hi, e⟩ := h1
  subst e
  exact ⟨i, _, by rw [Array.mem_toList_iff]; exact Array.getElem_mem hi, by simpa using h2⟩
theorem Okz.upper {n : Nat} {x : Str} (h : Okz n x) (k : ∀ c ∈ x.cps.toList, ∀ d ∈ Unicode.upperOf c, d < 16 ^ 8) : Okz (3 * n) (Txt.upper x) :=
  ⟨Nat.le_trans (PyProof.Rows.len_upper x) (Nat.mul_le_mul_left _ h.len), fun d hd => by
    obtain ⟨i, c, hc, hd⟩ := mem_placed hd
    exact k c hc d hd⟩
end DL

/-! DLm: small words for the readings. -/
/-! DLq: comprehensions that draw. -/
namespace DL
open PySem PySem.Spec PyProof.Rows L2
theorem all_true {α : Type} (xs : List α) : (xs.map fun _ => true).all id = true := by
  induction xs with
  | nil => rfl
  | cons x r ih => simp [ih]
theorem all_then {xs : List D} {Q : DK} {w : W} (q : Q (.bl true) w) : allR [.lst (xs.map fun _ => .bl true)] w Q := ⟨⟨_, all_map _ _, by rw [all_true]; exact q⟩⟩
theorem all_bl {xs : List D} (p : D → Bool) {Q : DK} {w : W} (q : Q (.bl ((xs.map p).all id)) w) : allR [.lst (xs.map fun x => .bl (p x))] w Q := ⟨⟨_, all_map _ _, q⟩⟩
theorem all_of {xs : List D} {bs : List Bool} {Q : DK} {w : W} (h : blsOf xs = some bs) (q : Q (.bl (bs.all id)) w) : allR [.lst xs] w Q := ⟨⟨_, h, q⟩⟩
theorem any_of {xs : List D} {bs : List Bool} {Q : DK} {w : W} (h : blsOf xs = some bs) (q : Q (.bl (bs.any id)) w) : anyR [.lst xs] w Q := ⟨⟨_, h, q⟩⟩
theorem tick_eq {w1 w : W} {k : Nat} (hn : w1.n = w.n + k) (hm : w1.m = w.m := by rfl) (he : w1.e = w.e := by rfl) : w1 = w.tick k := by
  cases w1; cases w; cases hm; cases he; cases hn; rfl
section
variable {items : List D} {gd : DTG} {tt : DTT} {te : DTE} {vs : List Nat} {env : En} {w : W} {Q : DK} {fin : List D → W → DK → Prop}
theorem lc_pen (t : Nat) (Pd : D → Prop) (hz : items.length ≤ sizeLine)
    (h : ∀ x, x ∈ items → ∀ j, j ≤ items.length * t → ∀ R : DK, (∀ d j', Pd d → j' ≤ t → R d (w.tick (j + j')).mute) → gd x (wipeD env vs) (w.tick j).mute fun env2 w3 => te env2 w3 R)
    (hf : ∀ acc j, acc.length = items.length → (∀ d ∈ acc, Pd d) → j ≤ items.length * t → fin acc (w.tick j) Q) :
    items.length ≤ sizeLine ∧ ∃ Pv : Nat → List D → W → Prop, Pv 0 [] w ∧
      (∀ i x acc w2, items[i]? = some x → acc.length ≤ i → Pv i acc w2 → gd x (wipeD env vs) w2.mute fun env2 w3 => dYes env2 w3 fun b w4 => if b = true then te env2 w4 fun y w5 => Pv (i + 1) (acc ++ [y]) (w5.as w) else Pv (i + 1) acc (w4.as w)) ∧
      ∀ acc w2, Pv items.length acc w2 → fin acc w2 Q := by
  refine ⟨hz, fun i acc w2 => ∃ j, j ≤ i * t ∧ w2 = w.tick j ∧ acc.length = i ∧ ∀ d ∈ acc, Pd d, ⟨0, Nat.zero_le _, rfl, rfl, fun d hd => by cases hd⟩, ?_, ?_⟩
  · rintro i x acc w2 hx _ ⟨j, hj, rfl, hl, hp⟩
    have hi : i < items.length := by
      rcases Nat.lt_or_ge i items.length with h | h
      · exact h
      · rw [List.getElem?_eq_none h] at hx; cases hx
    have hj2 : j ≤ items.length * t := Nat.le_trans hj (Nat.mul_le_mul_right _ (Nat.le_of_lt hi))
    refine h x (List.mem_of_getElem? hx) j hj2 (fun y w5 => ∃ j, j ≤ (i + 1) * t ∧ w5.as w = w.tick j ∧ (acc ++ [y]).length = i + 1 ∧ ∀ d ∈ acc ++ [y], Pd d) fun d j' hd hj' => ?_
    refine ⟨j + j', by rw [Nat.succ_mul]; omega, rfl, by simp [hl], fun z hz => ?_⟩
    rcases List.mem_append.mp hz with hz | hz
    · exact hp z hz
    · rw [List.mem_singleton] at hz; subst hz; exact hd
  · rintro acc w2 ⟨j, hj, rfl, hl, hp⟩
    exact hf acc j hl hp hj
end
end DL

namespace Lk02
open PySem PySem.Spec PyProof.Rows L2 DL
def top (i : Nat) : Stmt := PySem.Challenge.pw_scopenames_k02_words.main.body.getD i (.Pass ⟨0, 0, 0, 0⟩)
abbrev s__law_is_word : Stmt := top 9
abbrev N__law_is_word : List Str := ["_law_thing", "_law_sign"]
theorem sc__law_is_word : FnScope N__law_is_word ["_law_thing"] (defScope s__law_is_word) := ⟨rfl, rfl, rfl, by decide +kernel, rfl, by decide +kernel, by decide +kernel⟩
abbrev s_is_word : Stmt := top 4
abbrev N_is_word : List Str := ["thing", "sign"]
theorem sc_is_word : FnScope N_is_word ["thing"] (defScope s_is_word) := ⟨rfl, rfl, rfl, by decide +kernel, rfl, by decide +kernel, by decide +kernel⟩
abbrev s__law_asked : Stmt := top 10
abbrev N__law_asked : List Str := ["_law_thing", "_law_seen", "_law_told"]
theorem sc__law_asked : FnScope N__law_asked ["_law_thing"] (defScope s__law_asked) := ⟨rfl, rfl, rfl, by decide +kernel, rfl, by decide +kernel, by decide +kernel⟩
abbrev s__law_next : Stmt := top 7
abbrev N__law_next : List Str := ["_law_pen_here", "_law_nth", "_law_cell", "_law_one", "_law_two", "_law_three"]
theorem sc__law_next : FnScope N__law_next ["_law_pen_here"] (defScope s__law_next) := ⟨rfl, rfl, rfl, by decide +kernel, rfl, by decide +kernel, by decide +kernel⟩
abbrev s__law_draw : Stmt := top 8
abbrev N__law_draw : List Str := ["_law_pen_here", "_law_below", "_law_digit"]
theorem sc__law_draw : FnScope N__law_draw ["_law_pen_here", "_law_below"] (defScope s__law_draw) := ⟨rfl, rfl, rfl, by decide +kernel, rfl, by decide +kernel, by decide +kernel⟩
abbrev s__law_pen : Stmt := top 6
abbrev N__law_pen : List Str := ["_law_script"]
theorem sc__law_pen : FnScope N__law_pen ["_law_script"] (defScope s__law_pen) := ⟨rfl, rfl, rfl, by decide +kernel, rfl, by decide +kernel, by decide +kernel⟩
abbrev s_law : Stmt := top 11
abbrev N_law : List Str := ["_law_script", "_law_pen_here", "_law_odd", "_law_signs", "_law_sign", "_law_turn", "_law_thing", "_law_spot", "_law_things", "_law_one", "_law_k"]
theorem sc_law : FnScope N_law ["_law_script"] (defScope s_law) := ⟨rfl, rfl, rfl, by decide +kernel, rfl, by decide +kernel, by decide +kernel⟩
structure Tx (mg : Str → Option Value) : Prop where
  b_all : mg "all" = none
  b_bool : mg "bool" = none
  b_isinstance : mg "isinstance" = none
  b_len : mg "len" = none
  b_list : mg "list" = none
  b_range : mg "range" = none
  b_repr : mg "repr" = none
  b_str : mg "str" = none
  c_DIGITS : ∃ u, mg "DIGITS" = some (.str "0123456789" u)
  c_LETTERS : ∃ u, mg "LETTERS" = some (.str "abcdefghijklmnopqrstuvwxyz" u)
  c_MAX_WORD : ∃ u, mg "MAX_WORD" = some (.int 8 u)
variable {P : Program} {w : World} {K : PySem.W.Frag} {mg : Str → Option Value} {base : Heap}
def plainD : D → Bool
  | .non | .bl _ | .int _ | .lst _ | .tup _ | .dic _ => true
  | .str x => decide (x.length ≤ sizeLine)
  | _ => false
def letters : Str := "abcdefghijklmnopqrstuvwxyz"
def digits : Str := "0123456789"
def alnum : Str := "abcdefghijklmnopqrstuvwxyz0123456789"
theorem ealn : letters ++ digits = alnum := by decide +kernel
def wordS (x : Str) : Bool := decide (1 ≤ x.length) && decide (x.length ≤ 8) && (match x.cps.toList.head? with | some c => decide (c ∈ letters.cps.toList) | none => false) && x.cps.toList.all fun c => decide (c ∈ alnum.cps.toList)
def isWord : D → Bool
  | .str x => wordS x
  | _ => false

def sp__law_is_word : DSp := fun ds w Q => match ds with
  | [d] => plainD d = true ∧ Q (.bl (isWord d)) w
  | _ => False
theorem ok__law_is_word (T : Tx mg) (F : FnAt K mg "_law_is_word" s__law_is_word ["_law_thing"])  : DCal P w K mg base 1 "_law_is_word" 1 sp__law_is_word := by
  obtain ⟨f, fd, F, hm, b⟩ := F.ex
  refine ⟨f, fd, _, dfn F sc__law_is_word (by intro ds w Q h; first | exact h.elim | (unfold sp__law_is_word at h; split at h <;> first | rfl | exact h.elim)) ?_, hm, F.kp, b, rfl⟩
  intro cdv A outer s H E hr hgd
  have hu := hu_of hr
  have nd := sc__law_is_word.nd
  refine ⟨_, (dss_cons (ds_if (dt_w (dw_or (dt_not (dt_val (de_callB cd_isi T.b_isinstance (da_cons (dv 0) (da_cons (de_ty (n := "str") T.b_str) da_nil))))) (dw_or1 (dt_not (dt_chain od_le od_le de_int (de_callB cd_len T.b_len (da_cons (dv 0) da_nil)) de_int))))) (dss_one (ds_ret de_bl)) dss_nil)
      (dss_cons (ds_if (dt_cmp (od_notin hu) (de_sub hu (dv 0) de_int) de_str) (dss_one (ds_ret de_bl)) dss_nil)
      (dss_one (ds_ret (de_callB (cd_all rfl) T.b_all (da_cons (de_lcG (own := [("_law_sign", 1)]) finL_ok rfl nd (di_str (dv 0)) (by kernel_rfl) (fun _ _ _ _ _ => (dg_name 1 nd)) (fun _ _ _ _ _ => dts_nil) (fun _ _ _ _ _ => (de_cmp (od_in hu) (dv 1) de_str))) da_nil)))))), ?_⟩
  intro ds w Q h
  match ds, h with
  | [d], h =>
    obtain ⟨h1, h2⟩ := h
    cases d with
    | str x =>
      have h1 : x.length ≤ sizeLine := of_decide_eq_true h1
      refine ⟨_, true, rfl, by decide +kernel, ?_⟩
      refine ⟨h1, ?_⟩
      have fin : wordS x = false → Q (.bl false) w := fun e => by
        have h2 : Q (.bl (wordS x)) w := h2
        rw [e] at h2; exact h2
      refine ifd (fun c1 => ?_) (fun c1 => ?_)
      · refine nif (fun c2 => ?_) (fun c2 => ?_)
        · obtain ⟨c0, r, e⟩ : ∃ c r, x.cps.toList = c :: r := by
            cases e : x.cps.toList with
            | nil =>
              have : x.cps.toList.length = x.length := by simp [Str.length]
              rw [e] at this
              simp at this
              omega
            | cons c r => exact ⟨c, r, rfl⟩
          refine ⟨h1, c0, by rw [e]; exact atI0 _ _, ?_⟩
          refine ifx (fun c3 => ?_) (fun c3 => ?_)
          · refine lc_map (fun d => .bl (match d with | .str y => inS y alnum | _ => false)) (by unfold DL.signs; rw [List.length_map]; exact h1) (fun y hy R hR => ?_) (all_bl _ ?_)
            · obtain ⟨c, hc, rfl⟩ := List.mem_map.mp hy
              have hR : R (.bl (inS ⟨#[c]⟩ alnum)) w.mute := hR
              unfold DL.inR
              show R (.bl (false ^^ inS ⟨#[c]⟩ alnum)) w.mute
              rw [Bool.false_xor]
              exact hR
            · have h2 : Q (.bl (wordS x)) w := h2
              rw [inS_one] at c3
              have c3 : decide (c0 ∈ letters.cps.toList) = true := c3
              have e2 : wordS x = ((DL.signs x).map fun d => (match d with | .str y => inS y alnum | _ => false)).all id := by
                unfold wordS DL.signs
                rw [decide_eq_true (show 1 ≤ x.length by omega), decide_eq_true (show x.length ≤ 8 by omega), e]
                simp only [List.head?]
                rw [c3]
                simp only [Bool.true_and, List.map_map, List.all_map]
                congr 1
                funext c
                simp only [Function.comp, id]
                rw [inS_one]
              rw [e2] at h2
              exact h2
          · exact fin (by
              rw [inS_one] at c3
              have c3 : decide (c0 ∈ letters.cps.toList) = false := c3
              unfold wordS; rw [e]; simp only [List.head?]; rw [c3]; simp)
        · exact fin (by unfold wordS; rw [decide_eq_false (show ¬ x.length ≤ 8 by omega)]; simp)
      · exact fin (by unfold wordS; rw [decide_eq_false (by omega)]; rfl)
    | non => exact ⟨_, false, rfl, by decide +kernel, h2⟩
    | bl b => exact ⟨_, false, rfl, by decide +kernel, h2⟩
    | int i => exact ⟨_, false, rfl, by decide +kernel, h2⟩
    | lst xs => exact ⟨_, false, rfl, by decide +kernel, h2⟩
    | tup xs => exact ⟨_, false, rfl, by decide +kernel, h2⟩
    | dic xs => exact ⟨_, false, rfl, by decide +kernel, h2⟩
    | _ => cases h1
  
def sp_is_word : DSp := fun ds w Q => match ds with
  | [d] => plainD d = true ∧ Q (.bl (isWord d)) w
  | _ => False
theorem ok_is_word (T : Tx mg) (F : FnAt K mg "is_word" s_is_word ["thing"])  : DCal P w K mg base 1 "is_word" 1 sp_is_word := by
  obtain ⟨f, fd, F, hm, b⟩ := F.ex
  obtain ⟨u_DIGITS, c_DIGITS⟩ := T.c_DIGITS
  obtain ⟨u_LETTERS, c_LETTERS⟩ := T.c_LETTERS
  obtain ⟨u_MAX_WORD, c_MAX_WORD⟩ := T.c_MAX_WORD
  refine ⟨f, fd, _, dfn F sc_is_word (by intro ds w Q h; first | exact h.elim | (unfold sp_is_word at h; split at h <;> first | rfl | exact h.elim)) ?_, hm, F.kp, b, rfl⟩
  intro cdv A outer s H E hr hgd
  have hu := hu_of hr
  have nd := sc_is_word.nd
  refine ⟨_, (dss_cons (ds_if (dt_w (dw_or (dt_not (dt_val (de_callB cd_isi T.b_isinstance (da_cons (dv 0) (da_cons (de_ty (n := "str") T.b_str) da_nil))))) (dw_or (dt_not (dt_chain od_le od_le de_int (de_callB cd_len T.b_len (da_cons (dv 0) da_nil)) (de_gint c_MAX_WORD))) (dw_or1 (dt_cmp (od_notin hu) (de_sub hu (dv 0) de_int) (de_gstr c_LETTERS)))))) (dss_one (ds_ret de_bl)) dss_nil)
      (dss_one (ds_ret (de_callB (cd_all rfl) T.b_all (da_cons (de_lcG (own := [("sign", 1)]) finL_ok rfl nd (di_str (dv 0)) (by kernel_rfl) (fun _ _ _ _ _ => (dg_name 1 nd)) (fun _ _ _ _ _ => dts_nil) (fun _ _ _ _ _ => (de_cmp (od_in hu) (dv 1) (de_op od_add (de_gstr c_LETTERS) (de_gstr c_DIGITS))))) da_nil))))), ?_⟩
  intro ds w Q h
  match ds, h with
  | [d], h =>
    obtain ⟨h1, h2⟩ := h
    cases d with
    | str x =>
      have h1 : x.length ≤ sizeLine := of_decide_eq_true h1
      refine ⟨_, true, rfl, by decide +kernel, ?_⟩
      refine ⟨h1, ?_⟩
      have fin : wordS x = false → Q (.bl false) w := fun e => by
        have h2 : Q (.bl (wordS x)) w := h2
        rw [e] at h2; exact h2
      refine ifd (fun c1 => ?_) (fun c1 => ?_)
      · refine nif (fun c2 => ?_) (fun c2 => ?_)
        · obtain ⟨c0, r, e⟩ : ∃ c r, x.cps.toList = c :: r := by
            cases e : x.cps.toList with
            | nil =>
              have : x.cps.toList.length = x.length := by simp [Str.length]
              rw [e] at this
              simp at this
              omega
            | cons c r => exact ⟨c, r, rfl⟩
          refine ⟨h1, c0, by rw [e]; exact atI0 _ _, ?_⟩
          refine ifx (fun c3 => ?_) (fun c3 => ?_)
          · refine lc_map (fun d => .bl (match d with | .str y => inS y alnum | _ => false)) (by unfold DL.signs; rw [List.length_map]; exact h1) (fun y hy R hR => ?_) (all_bl _ ?_)
            · obtain ⟨c, hc, rfl⟩ := List.mem_map.mp hy
              refine ⟨by decide, ?_⟩
              have hR : R (.bl (inS ⟨#[c]⟩ alnum)) w.mute := hR
              rw [← ealn] at hR
              unfold DL.inR
              show R (.bl (false ^^ inS ⟨#[c]⟩ (letters ++ digits))) w.mute
              rw [Bool.false_xor]
              exact hR
            · have h2 : Q (.bl (wordS x)) w := h2
              rw [inS_one] at c3
              have c3 : decide (c0 ∈ letters.cps.toList) = true := c3
              have e2 : wordS x = ((DL.signs x).map fun d => (match d with | .str y => inS y alnum | _ => false)).all id := by
                unfold wordS DL.signs
                rw [decide_eq_true (show 1 ≤ x.length by omega), decide_eq_true (show x.length ≤ 8 by omega), e]
                simp only [List.head?]
                rw [c3]
                simp only [Bool.true_and, List.map_map, List.all_map]
                congr 1
                funext c
                simp only [Function.comp, id]
                rw [inS_one]
              rw [e2] at h2
              exact h2
          · exact fin (by
              rw [inS_one] at c3
              have c3 : decide (c0 ∈ letters.cps.toList) = false := c3
              unfold wordS; rw [e]; simp only [List.head?]; rw [c3]; simp)
        · exact fin (by unfold wordS; rw [decide_eq_false (show ¬ x.length ≤ 8 by omega)]; simp)
      · exact fin (by unfold wordS; rw [decide_eq_false (by omega)]; rfl)
    | non => exact ⟨_, false, rfl, by decide +kernel, h2⟩
    | bl b => exact ⟨_, false, rfl, by decide +kernel, h2⟩
    | int i => exact ⟨_, false, rfl, by decide +kernel, h2⟩
    | lst xs => exact ⟨_, false, rfl, by decide +kernel, h2⟩
    | tup xs => exact ⟨_, false, rfl, by decide +kernel, h2⟩
    | dic xs => exact ⟨_, false, rfl, by decide +kernel, h2⟩
    | _ => cases h1
  
def sp__law_asked : DSp := fun ds w Q => match ds with
  | [d] => plainD d = true ∧ (∃ p, toPy d = some p ∧ ShowOk p) ∧ Q (.bl true) w
  | _ => False
theorem ok__law_asked (T : Tx mg) (F : FnAt K mg "_law_asked" s__law_asked ["_law_thing"]) (C__law_is_word : DCal P w K mg base 1 "_law_is_word" 1 sp__law_is_word) (C_is_word : DCal P w K mg base 1 "is_word" 1 sp_is_word) : DCal P w K mg base 2 "_law_asked" 1 sp__law_asked := by
  obtain ⟨f, fd, F, hm, b⟩ := F.ex
  refine ⟨f, fd, _, dfn F sc__law_asked (by intro ds w Q h; first | exact h.elim | (unfold sp__law_asked at h; split at h <;> first | rfl | exact h.elim)) ?_, hm, F.kp, b, rfl⟩
  intro cdv A outer s H E hr hgd
  have hu := hu_of hr
  have nd := sc__law_asked.nd
  refine ⟨_, (dss_cons (ds_set (i := 1) nd (de_callB (cd_repr hgd hr.units) T.b_repr (da_cons (dv 0) da_nil)))
      (dss_cons (ds_set (i := 2) nd (de_call (DCal.mono C_is_word (by decide)) hr hgd (takes_of rfl rfl rfl rfl) (da_cons (dv 0) da_nil)))
      (dss_one (ds_ret (de_and (de_callB cd_isi T.b_isinstance (da_cons (dv 2) (da_cons (de_ty (n := "bool") T.b_bool) da_nil))) (de_and (de_cmp (od_eq hr.units) (dv 2) (de_call (DCal.mono C__law_is_word (by decide)) hr hgd (takes_of rfl rfl rfl rfl) (da_cons (dv 0) da_nil))) (de_one (de_cmp (od_eq hr.units) (de_callB (cd_repr hgd hr.units) T.b_repr (da_cons (dv 0) da_nil)) (dv 1))))))))), ?_⟩
  intro ds w Q h
  match ds, h with
  | [d], h =>
    obtain ⟨h1, ⟨p, hp, hs⟩, h2⟩ := h
    refine ⟨p, hp, hs, ?_⟩
    refine ⟨h1, ?_⟩
    refine ⟨_, true, rfl, by decide +kernel, ?_⟩
    refine ⟨h1, ?_⟩
    refine ify (fun _ => ?_) (fun e => absurd rfl (of_decide_eq_false e))
    refine ⟨p, hp, hs, ?_⟩
    have e : (false ^^ decide (p.shown = p.shown)) = true := by rw [decide_eq_true rfl]; rfl
    rw [← e] at h2
    exact h2
  
def spPen : DSp := fun ds w Q => match ds with
  | [.lst xs] => ∃ ns, intsOf xs = some ns ∧ ns.length ≤ 63 ∧ w.n = 0 ∧ Q .pen w
  | _ => False
theorem mod_b (x m : Int) (h : 0 < m) : 0 ≤ x % m ∧ x % m < m := ⟨Int.emod_nonneg x (by omega), Int.emod_lt_of_pos x h⟩
theorem cmul_mod {x m y : Int} (h : 0 < m := by decide) (h2 : m ≤ 2 ^ 64 := by decide) : CMul (x % m) y := by
  have := mod_b x m h
  exact .inl ⟨by omega, by omega⟩
theorem cmul_l {x y : Int} (h : -(2 ^ 64) < x := by decide) (h2 : x < 2 ^ 64 := by decide) : CMul x y := .inl ⟨h, h2⟩
theorem mul_b {a b A B : Int} (h0 : 0 ≤ a) (h1 : a ≤ A) (h2 : 0 ≤ b) (h3 : b ≤ B) : 0 ≤ a * b ∧ a * b ≤ A * B :=
  ⟨Int.mul_nonneg h0 h2, Int.mul_le_mul h1 h3 h2 (by omega)⟩
theorem cp1 {c i : Int} (h0 : 0 ≤ i) (h1 : i < 2 ^ 31) : CPow (c % 1000000021 * (i + 5) + 88001 * i + 41) 3 := by
  have a := mod_b c 1000000021 (by decide)
  have b := mul_b (A := 1000000021) (B := 2147483652) a.1 (by omega) (show 0 ≤ i + 5 by omega) (by omega)
  exact ⟨by decide, by decide, by omega⟩
theorem cp2 {x c i : Int} (h0 : 0 ≤ i) (h1 : i < 2 ^ 31) : CPow (x % 2147483587 * (i + 9) + c % 65537 + 3) 5 := by
  have a := mod_b x 2147483587 (by decide)
  have a2 := mod_b c 65537 (by decide)
  have b := mul_b (A := 2147483587) (B := 2147483656) a.1 (by omega) (show 0 ≤ i + 9 by omega) (by omega)
  exact ⟨by decide, by decide, by omega⟩
theorem nn_next {x y z : Int} : 0 ≤ (x % 2147483549 * 2147483587 + y % 2147483563) * 2147483563 + z % 2147483587 := by
  have a := mod_b x 2147483549 (by decide)
  have b := mod_b y 2147483563 (by decide)
  have c := mod_b z 2147483587 (by decide)
  omega
theorem ints_mem {xs : List D} {ns : List Int} {d : D} (h : intsOf xs = some ns) (m : d ∈ xs) : ∃ c, d = .int c := by
  induction xs generalizing ns with
  | nil => cases m
  | cons x r ih =>
    cases x <;> simp only [intsOf, Option.map_eq_some_iff, reduceCtorEq] at h
    obtain ⟨bs, e1, rfl⟩ := h
    cases m with
    | head => exact ⟨_, rfl⟩
    | tail _ m => exact ih e1 m
theorem ints_len {xs : List D} {ns : List Int} (h : intsOf xs = some ns) : xs.length = ns.length := by
  induction xs generalizing ns with
  | nil => cases h; rfl
  | cons x r ih =>
    cases x <;> simp only [intsOf, Option.map_eq_some_iff, reduceCtorEq] at h
    obtain ⟨bs, e1, rfl⟩ := h
    simp [ih e1]
theorem ints_take {xs : List D} {ns : List Int} (n : Nat) (h : intsOf xs = some ns) : intsOf (xs.take n) = some (ns.take n) := by
  induction xs generalizing ns n with
  | nil => cases h; simp [intsOf]
  | cons x r ih =>
    cases x <;> simp only [intsOf, Option.map_eq_some_iff, reduceCtorEq] at h
    obtain ⟨bs, e1, rfl⟩ := h
    cases n with
    | zero => rfl
    | succ n => simp [intsOf, ih n e1]

abbrev sp__law_next : DSp := spNextU
theorem ok__law_next (T : Tx mg) (F : FnAt K mg "_law_next" s__law_next ["_law_pen_here"])  : DCal P w K mg base 1 "_law_next" 1 sp__law_next := by
  obtain ⟨f, fd, F, hm, b⟩ := F.ex
  refine ⟨f, fd, _, dfn F sc__law_next (by intro ds w Q h; first | exact h.elim | (unfold sp__law_next spNextU at h; split at h <;> first | rfl | exact h.elim)) ?_, hm, F.kp, b, rfl⟩
  intro cdv A outer s H E hr hgd
  have hu := hu_of hr
  have nd := sc__law_next.nd
  refine ⟨_, (dss_cons (ds_set (i := 1) nd (de_sub hu (dv 0) de_int))
      (dss_cons (ds_asg (de_op od_add (dv 1) de_int) (dg_sub hu (dv 0) de_int))
      (dss_cons (ds_set (i := 2) nd (de_op od_add (de_op od_mul de_int (dv 1)) de_int))
      (dss_cons (ds_if (dt_cmp od_gt (de_callB cd_len T.b_len (da_cons (de_sub hu (dv 0) de_int) da_nil)) de_int) (dss_one (ds_set (i := 2) nd (de_sub hu (de_sub hu (dv 0) de_int) (de_op od_mod (dv 1) (de_callB cd_len T.b_len (da_cons (de_sub hu (dv 0) de_int) da_nil)))))) dss_nil)
      (dss_cons (ds_if (dt_w (dw_and (dt_cmp od_lt (dv 1) (de_callB cd_len T.b_len (da_cons (de_sub hu (dv 0) de_int) da_nil))) (dw_and1 (dt_cmp od_ge (dv 2) (de_op od_pow de_int de_int))))) (dss_one (ds_ret (dv 2))) dss_nil)
      (dss_cons (ds_set (i := 3) nd (de_op od_mod (de_op od_pow (de_op od_add (de_op od_add (de_op od_mul (de_op od_mod (dv 2) de_int) (de_op od_add (dv 1) de_int)) (de_op od_mul de_int (dv 1))) de_int) de_int) de_int))
      (dss_cons (ds_set (i := 4) nd (de_op od_mod (de_op od_pow (de_op od_add (de_op od_add (de_op od_mul (dv 3) (de_op od_add (dv 1) de_int)) (de_op od_mod (dv 2) de_int)) de_int) de_int) de_int))
      (dss_cons (ds_set (i := 5) nd (de_op od_mod (de_op od_add (de_op od_add (de_op od_mul (dv 4) (dv 4)) (dv 3)) (de_op od_mul de_int (dv 1))) de_int))
      (dss_one (ds_ret (de_op od_add (de_op od_mul (de_op od_add (de_op od_mul (dv 5) de_int) (dv 4)) de_int) (dv 3)))))))))))), ?_⟩
  intro ds w Q h
  unfold sp__law_next spNextU at h
  split at h
  · rename_i p
    obtain ⟨cs, ns, i, r, hp, hi, hl, h0, h1, hr0, kk⟩ := h
    refine Or.inl ⟨_, 1, .int i, hp, rfl, rfl, ?_⟩
    refine Or.inl ⟨_, 1, 1, hp, rfl, rfl, ?_⟩
    have hp1 : (w.put p (penL cs (i + 1) r)).m p = some (penL cs (i + 1) r) := W.put_at
    have fin : ∀ v : Int, 0 ≤ v → Q (.int v) (w.put p (penL cs (i + 1) r)) := fun v hv => kk v (i + 1) hv (by omega) (by omega)
    refine ⟨cmul_l, ?_⟩
    refine Or.inl ⟨_, 0, .lst cs, hp1, rfl, rfl, ?_⟩
    refine ifd (fun c1 => ?g1) (fun c1 => ?g2)
    case' g1 =>
      refine Or.inl ⟨_, 0, .lst cs, hp1, rfl, rfl, ?_⟩
      refine Or.inl ⟨_, 0, .lst cs, hp1, rfl, rfl, ?_⟩
      have m := mod_b i cs.length c1
      obtain ⟨d, e1, e2⟩ := atI_mem (xs := cs) m.1 m.2
      obtain ⟨c, rfl⟩ := ints_mem hi e2
      refine ⟨c1, _, e1, ?_⟩
    case' g2 => generalize 31 * i + 17 = c
    all_goals
      refine Or.inl ⟨_, 0, .lst cs, hp1, rfl, rfl, ?_⟩
      refine ifd (fun c2 => ?_) (fun c2 => ?_)
      · refine ⟨⟨by decide, by decide, by decide⟩, ?_⟩
        refine ifd (fun c3 => ?_) (fun c3 => ?_)
        · exact fin c (Int.le_trans (by decide) c3)
        · exact ⟨by decide, cmul_mod, cmul_l, cp1 h0 h1, by decide, cmul_mod, by decide, cp2 h0 h1, by decide, cmul_mod, cmul_l, by decide, cmul_mod, .inr ⟨by decide, by decide⟩, fin _ nn_next⟩
      · exact ⟨by decide, cmul_mod, cmul_l, cp1 h0 h1, by decide, cmul_mod, by decide, cp2 h0 h1, by decide, cmul_mod, cmul_l, by decide, cmul_mod, .inr ⟨by decide, by decide⟩, fin _ nn_next⟩
  · exact h.elim
  
abbrev sp__law_draw : DSp := spDraw
theorem oku__law_draw (T : Tx mg) (F : FnAt K mg "_law_draw" s__law_draw ["_law_pen_here", "_law_below"]) (C__law_next : DCal P w K mg base 1 "_law_next" 1 sp__law_next) : DCal P w K mg base 2 "_law_draw" 2 spDrawU := by
  obtain ⟨f, fd, F, hm, b⟩ := F.ex
  refine ⟨f, fd, _, dfn F sc__law_draw (by intro ds w Q h; first | exact h.elim | (unfold spDrawU at h; split at h <;> first | rfl | exact h.elim)) ?_, hm, F.kp, b, rfl⟩
  intro cdv A outer s H E hr hgd
  have hu := hu_of hr
  have nd := sc__law_draw.nd
  refine ⟨_, (dss_cons (ds_if (dt_cmp od_lt (de_sub hu (dv 0) de_int) (dv 1)) (dss_one (ds_asg (de_call (DCal.mono C__law_next (by decide)) hr hgd (takes_of rfl rfl rfl rfl) (da_cons (dv 0) da_nil)) (dg_sub hu (dv 0) de_int))) dss_nil)
      (dss_cons (ds_set (i := 2) nd (de_op od_mod (de_sub hu (dv 0) de_int) (dv 1)))
      (dss_cons (ds_asg (de_op od_fdiv (de_sub hu (dv 0) de_int) (dv 1)) (dg_sub hu (dv 0) de_int))
      (dss_one (ds_ret (dv 2)))))), ?_⟩
  intro ds w Q h
  unfold spDrawU at h
  split at h
  · rename_i p b
    obtain ⟨cs, ns, i, r, hp, hi, hl, h0, h1, hr0, hb0, hb1, kk⟩ := h
    refine Or.inl ⟨_, 2, .int r, hp, rfl, rfl, ?_⟩
    refine ifd (fun c1 => ?_) (fun c1 => ?_)
    · refine ⟨cs, ns, i, r, hp, hi, hl, h0, h1, hr0, fun v i' hv hi0 hi1 => ?_⟩
      have hp1 : (w.put p (penL cs i' r)).m p = some (penL cs i' r) := W.put_at
      refine Or.inl ⟨_, 2, 2, hp1, rfl, rfl, ?_⟩
      have hp2 : ((w.put p (penL cs i' r)).put p (penL cs i' v)).m p = some (penL cs i' v) := W.put_at
      refine Or.inl ⟨_, 2, .int v, hp2, rfl, rfl, ?_⟩
      have m := mod_b v b hb0
      refine ⟨hb0, ?_⟩
      refine Or.inl ⟨_, 2, .int v, hp2, rfl, rfl, ?_⟩
      refine ⟨⟨hb0, hb1⟩, ?_⟩
      refine Or.inl ⟨_, 2, 2, hp2, rfl, rfl, ?_⟩
      have z := kk (v % b) i' (v / b) m.1 m.2 hi0 hi1 (Int.ediv_nonneg hv (by omega))
      have e : ((w.put p (penL cs i' r)).put p (penL cs i' v)).put p (penL cs i' (v / b)) = w.put p (penL cs i' (v / b)) := by
        rw [W.put_put, W.put_put]
      rw [← e] at z
      exact z
    · refine Or.inl ⟨_, 2, .int r, hp, rfl, rfl, ?_⟩
      have m := mod_b r b hb0
      refine ⟨hb0, ?_⟩
      refine Or.inl ⟨_, 2, .int r, hp, rfl, rfl, ?_⟩
      refine ⟨⟨hb0, hb1⟩, ?_⟩
      refine Or.inl ⟨_, 2, 2, hp, rfl, rfl, ?_⟩
      exact kk (r % b) i (r / b) m.1 m.2 h0 (by omega) (Int.ediv_nonneg hr0 (by omega))
  · exact h.elim
  
theorem ok__law_draw (T : Tx mg) (F : FnAt K mg "_law_draw" s__law_draw ["_law_pen_here", "_law_below"]) (C__law_next : DCal P w K mg base 1 "_law_next" 1 sp__law_next) : DCal P w K mg base 2 "_law_draw" 2 sp__law_draw := (oku__law_draw T F C__law_next).imp fun _ _ _ _ => draw_pack
abbrev sp__law_pen : DSp := spPen
theorem ok__law_pen (T : Tx mg) (F : FnAt K mg "_law_pen" s__law_pen ["_law_script"])  : DCal P w K mg base 1 "_law_pen" 1 sp__law_pen := by
  obtain ⟨f, fd, F, hm, b⟩ := F.ex
  refine ⟨f, fd, _, dfn F sc__law_pen (by intro ds w Q h; first | exact h.elim | (unfold sp__law_pen spPen at h; split at h <;> first | rfl | exact h.elim)) ?_, hm, F.kp, b, rfl⟩
  intro cdv A outer s H E hr hgd
  have hu := hu_of hr
  have nd := sc__law_pen.nd
  refine ⟨_, (dss_one (ds_ret (de_mkpen (de_lstM (da_cons (de_callTy (cd_list rfl) T.b_list (da_cons (de_slice (dv 0) do_none (do_some de_int)) da_nil)) (da_cons de_int (da_cons de_int da_nil))))))), ?_⟩
  intro ds w Q h
  unfold sp__law_pen spPen at h
  split at h
  · rename_i xs
    obtain ⟨ns, hi, hl, hn, kk⟩ := h
    refine ⟨sz_nat 3, fun p hp => ⟨_, ns.take 60, W.put_at, ?_, by rw [List.length_take]; omega, ?_⟩⟩
    · rw [cut_to (by decide)]; exact ints_take 60 hi
    · have e := W.del_put (o := MO.lst [D.lst (DL.cutD xs none (some 60)), D.int 0, D.int 0]) hp
      rw [e]
      exact kk
  · exact h.elim
  
abbrev sp_law : DSp := spLaw
def abc11 : Str := "abcmxyz0159"
def sg : Str := " !\"#$&'()*+,-./0123456789:;<=>?@ABCDEFGHIJKLMNOPQRSTUVWXYZ[\\]^_`{|}~\n\taz"
theorem sg_cp : ∀ c ∈ sg.cps.toList, c < 16 ^ 8 := by decide +kernel
theorem abc_up : ∀ c ∈ abc11.cps.toList, c < 16 ^ 8 ∧ ∀ d ∈ Unicode.upperOf c, d < 16 ^ 8 := by decide +kernel
theorem okz_pl {n : Nat} {x : Str} (h : Okz n x) (l : n ≤ 1000000) : plainD (.str x) = true := decide_eq_true (h.size l)
def ask0 (d : D) : Bool := plainD d && shwB d
theorem ok_law (T : Tx mg) (F : FnAt K mg "law" s_law ["_law_script"]) (C__law_asked : DCal P w K mg base 2 "_law_asked" 1 sp__law_asked) (C__law_draw : DCal P w K mg base 2 "_law_draw" 2 sp__law_draw) (C__law_pen : DCal P w K mg base 1 "_law_pen" 1 sp__law_pen) : DCal P w K mg base 3 "law" 1 sp_law := by
  obtain ⟨f, fd, F, hm, b⟩ := F.ex
  refine ⟨f, fd, _, dfn F sc_law (by intro ds w Q h; obtain ⟨_, rfl, _⟩ := h; rfl) ?_, hm, F.kp, b, rfl⟩
  intro cdv A outer s H E hr hgd
  have hu := hu_of hr
  have nd := sc_law.nd
  refine ⟨_, (dss_cons (ds_set (i := 1) nd (de_call (DCal.mono C__law_pen (by decide)) hr hgd (takes_of rfl rfl rfl rfl) (da_cons (dv 0) da_nil)))
      (dss_cons (ds_set (i := 2) nd (de_lst (da_cons de_non (da_cons de_bl (da_cons de_bl (da_cons de_int (da_cons de_int (da_cons (de_neg de_int) (da_cons (de_op od_pow de_int de_int) (da_cons de_str (da_cons de_str (da_cons (de_tup da_nil) (da_cons (de_lst da_nil) (da_cons de_dic0 (da_cons (de_tup (da_cons de_str da_nil)) (da_cons (de_lst (da_cons de_str da_nil)) (da_cons (de_disp finD_ok (dps_cons de_str de_int dps_nil)) da_nil)))))))))))))))))
      (dss_cons (ds_set (i := 2) nd (de_op od_add (dv 2) (de_lst (da_cons (de_op od_mulS de_str de_int) (da_cons (de_op od_mulS de_str de_int) (da_cons de_str da_nil))))))
      (dss_cons (ds_if (dt_not (dt_val (de_callB (cd_all rfl) T.b_all (da_cons (de_lcG (own := [("_law_thing", 6)]) finL_ok rfl nd (di_list (de_op od_add (dv 2) (de_lst (da_cons de_str (da_cons de_str (da_cons de_str (da_cons de_str (da_cons de_str (da_cons de_str (da_cons de_str (da_cons de_str (da_cons de_str da_nil)))))))))))) (by kernel_rfl) (fun _ _ _ _ _ => (dg_name 6 nd)) (fun _ _ _ _ _ => dts_nil) (fun _ _ _ _ _ => (de_call (DCal.mono C__law_asked (by decide)) hr hgd takes0 (da_cons (dv 6) da_nil)))) da_nil)))) (dss_one (ds_ret de_bl)) dss_nil)
      (dss_cons (ds_set (i := 3) nd de_str)
      (dss_cons (ds_for (passes_of rfl) rfl (di_str (dv 3)) (dg_name 4 nd) (dss_one (ds_if (dt_not (dt_val (de_callB (cd_all rfl) T.b_all (da_cons (de_lcG (own := [("_law_one", 9)]) finL_ok rfl nd (di_tup (de_tup (da_cons (dv 4) (da_cons (de_op od_add (dv 4) de_str) (da_cons (de_op od_add (de_op od_add de_str (dv 4)) de_str) (da_cons (de_op od_add de_str (dv 4)) da_nil)))))) (by kernel_rfl) (fun _ _ _ _ _ => (dg_name 9 nd)) (fun _ _ _ _ _ => dts_nil) (fun _ _ _ _ _ => (de_call (DCal.mono C__law_asked (by decide)) hr hgd takes0 (da_cons (dv 9) da_nil)))) da_nil)))) (dss_one (ds_ret de_bl)) dss_nil)))
      (dss_cons (ds_for (passes_of rfl) rfl (di_range1 T.b_range (da_cons de_int da_nil)) (dg_name 5 nd) (dss_cons (ds_set (i := 6) nd (de_join de_str (de_lcG (own := [("_law_k", 10)]) finL_ok rfl nd (di_range1 T.b_range (da_cons (de_call (DCal.mono C__law_draw (by decide)) hr hgd (takes_of rfl rfl rfl rfl) (da_cons (dv 1) (da_cons de_int da_nil))) da_nil)) (by kernel_rfl) (fun _ _ _ _ _ => (dg_name 10 nd)) (fun _ _ _ _ _ => dts_nil) (fun _ _ _ _ _ => (de_sub hu de_str (de_call (DCal.mono C__law_draw (by decide)) hr hgd takes0 (da_cons (dv 1) (da_cons de_int da_nil))))))))
      (dss_cons (ds_set (i := 7) nd (de_call (DCal.mono C__law_draw (by decide)) hr hgd (takes_of rfl rfl rfl rfl) (da_cons (dv 1) (da_cons (de_op od_add (de_callB cd_len T.b_len (da_cons (dv 6) da_nil)) de_int) da_nil))))
      (dss_cons (ds_set (i := 4) nd (de_sub hu (dv 3) (de_call (DCal.mono C__law_draw (by decide)) hr hgd (takes_of rfl rfl rfl rfl) (da_cons (dv 1) (da_cons (de_callB cd_len T.b_len (da_cons (dv 3) da_nil)) da_nil)))))
      (dss_cons (ds_set (i := 8) nd (de_lst (da_cons (dv 6) (da_cons (de_op od_add (de_op od_add (de_slice (dv 6) do_none (do_some (dv 7))) (dv 4)) (de_slice (dv 6) (do_some (dv 7)) do_none)) (da_cons (de_op od_add (de_op od_add (de_slice (dv 6) do_none (do_some (dv 7))) (dv 4)) (de_slice (dv 6) (do_some (de_op od_add (dv 7) de_int)) do_none)) (da_cons (de_slice (dv 6) do_none (do_some (dv 7))) da_nil))))))
      (dss_one (ds_if (dt_not (dt_val (de_callB (cd_all rfl) T.b_all (da_cons (de_lcG (own := [("_law_one", 9)]) finL_ok rfl nd (di_list (de_op od_add (dv 8) (de_lst (da_cons (de_op od_add de_str (dv 6)) (da_cons (de_upper (dv 6)) (da_cons (de_lst (da_cons (dv 6) da_nil)) (da_cons (de_tup (da_cons (dv 6) da_nil)) da_nil))))))) (by kernel_rfl) (fun _ _ _ _ _ => (dg_name 9 nd)) (fun _ _ _ _ _ => dts_nil) (fun _ _ _ _ _ => (de_call (DCal.mono C__law_asked (by decide)) hr hgd takes0 (da_cons (dv 9) da_nil)))) da_nil)))) (dss_one (ds_ret de_bl)) dss_nil)))))))
      (dss_one (ds_ret de_bl))))))))), ?_⟩
  intro ds w Q h
  obtain ⟨ns, rfl, hl, hn, kk⟩ := h
  refine ⟨ns, intsOf_map ns, hl, hn, ?_⟩
  refine ⟨⟨by decide, by decide, by decide⟩, sz_nat 0, sz_nat 0, sz_nat 1, sz_nat 1, _, rfl, by decide, sz_nat 15, ?_⟩
  refine ⟨by decide, by decide, by decide, by decide, by decide, by decide, sz_nat 3, sz_nat 18, ?_⟩
  refine ⟨sz_nat 9, sz_nat 27, ?_⟩
  refine lc_map (fun _ => .bl true) (sz_nat 27) (fun y hy R hR => ?_) (all_then ?_)
  · have z : ask0 y = true := List.all_eq_true.mp (show _ = true by decide +kernel) y hy
    unfold ask0 at z
    rw [Bool.and_eq_true] at z
    exact ⟨z.1, Shw.of z.2, hR⟩
  · refine ⟨fun (i : Nat) (env : En) (w2 : W) => w2 = w ∧ ∃ a0 a2 a4, env = [a0, some .pen, a2, some (.str sg), a4, none, none, none, none, none, none], ⟨rfl, _, _, _, rfl⟩, ?_, ?_⟩
    · rintro i x env w2 hx ⟨rfl, a0, a2, a4, rfl⟩
      obtain ⟨c, hc, rfl⟩ := List.mem_map.mp (List.mem_of_getElem? hx)
      have o1 : Okz 1 ⟨#[c]⟩ := ⟨Nat.le_refl _, fun d hd => by
        have : d = c := by simpa using hd
        rw [this]; exact sg_cp c hc⟩
      have ab : Okz 2 ("ab" : Str) := .of (by decide +kernel)
      have sa : Okz 1 ("a" : Str) := .of (by decide +kernel)
      have sb : Okz 1 ("b" : Str) := .of (by decide +kernel)
      refine ⟨sz_nat 3, sz_nat 2, sz_nat 3, sz_nat 3, sz_nat 4, ?_⟩
      refine lc_map (fun _ => .bl true) (sz_nat 4) (fun y hy R hR => ?_) (all_then ?_)
      · have z : ∃ x, y = .str x ∧ Okz 4 x := by
          simp only [List.mem_cons, List.not_mem_nil, or_false] at hy
          rcases hy with rfl | rfl | rfl | rfl
          · exact ⟨_, rfl, o1.mono (by decide)⟩
          · exact ⟨_, rfl, (o1.app ab).mono (by decide)⟩
          · exact ⟨_, rfl, ((sa.app o1).app sb).mono (by decide)⟩
          · exact ⟨_, rfl, (ab.app o1).mono (by decide)⟩
        obtain ⟨x, rfl, o⟩ := z
        exact ⟨okz_pl o (by decide), o.shw (by decide), hR⟩
      · exact ⟨rfl, _, _, _, rfl⟩
    · rintro env w2 ⟨rfl, a0, a2, a4, rfl⟩
      refine ⟨by decide, by decide, ?_⟩
      refine ⟨fun (i : Nat) (env : En) (w3 : W) => ∃ j, j ≤ i * 13 ∧ w3 = w2.tick j ∧ ∃ a0 a2 a4 a5 a6 a7 a8, env = [a0, some .pen, a2, some (.str sg), a4, a5, a6, a7, a8, none, none], ⟨0, Nat.zero_le _, rfl, _, _, _, _, _, _, _, rfl⟩, ?_, ?_⟩
      · rintro i x env w3 hx ⟨j, hj, rfl, a0, a2, a4, a5, a6, a7, a8, rfl⟩
        have hi : i < 16 := by
          rcases Nat.lt_or_ge i 16 with h | h
          · exact h
          · rw [List.getElem?_eq_none (by exact h)] at hx; cases hx
        have tk : ∀ j' : Nat, j' ≤ 30 → ((w2.tick j).tick j').n < 2 ^ 31 := fun j' hj' => by
          show w2.n + j + j' < 2 ^ 31
          omega
        refine ⟨by decide, by decide, tk 0 (by decide), fun d d0 d1 => ?_⟩
        refine ⟨by omega, by omega, ?_⟩
        refine lc_pen 1 (fun d => ∃ c, c ∈ abc11.cps.toList ∧ d = .str ⟨#[c]⟩) (sz_nat _ (by unfold DL.rangeD; rw [List.length_map, List.length_range]; omega)) (fun y hy j2 hj2 R hR => ?_) fun acc j2 hl2 hp2 hj2 => ?_
        · have hj3 : j2 ≤ 10 := by
            unfold DL.rangeD at hj2; rw [List.length_map, List.length_range] at hj2; omega
          refine ⟨by decide, by decide, by show w2.n + j + 1 + j2 < 2 ^ 31; omega, fun e e0 e1 => ?_⟩
          obtain ⟨c, h1, h2⟩ := atI_mem (xs := abc11.cps.toList) e0 e1
          exact ⟨sz_nat 11, c, h1, hR _ 1 ⟨c, h2, rfl⟩ (Nat.le_refl _)⟩
        · have hj3 : j2 ≤ 10 ∧ acc.length ≤ 10 := by
            unfold DL.rangeD at hj2 hl2; rw [List.length_map, List.length_range] at hj2 hl2; omega
          obtain ⟨ys, s1, s2, s3, s4⟩ := strs_of_signs hp2
          refine ⟨ys, s1, by rw [s3]; show acc.length + ys.length * 0 ≤ _; omega, ?_⟩
          have tc : ∀ c ∈ (Txt.join "" ys).cps.toList, c ∈ abc11.cps.toList := fun c hc => by
            have e : Txt.join "" ys = Str.join "" ys := StrLaws.glued_eq_join _ _
            rw [e, mem_join] at hc
            rcases hc with ⟨t, ht, hc⟩ | ⟨_, hc⟩
            · obtain ⟨d, hd, rfl⟩ := s4 t ht
              have : c = d := by simpa using hc
              rw [this]; exact hd
            · cases hc
          have oT : Okz 10 (Txt.join "" ys) := by
            have e : Txt.join "" ys = Str.join ⟨#[]⟩ ys := StrLaws.glued_eq_join _ _
            have := Okz.join0 (n := 1) (ys := ys) fun y hy => by
              obtain ⟨c, hc, rfl⟩ := s4 y hy
              exact .one (abc_up c hc).1
            rw [← e] at this
            exact this.mono (by omega)
          generalize Txt.join "" ys = th at tc oT
          have sT := oT.size (by decide)
          have lT := oT.len
          refine ⟨sT, by omega, by omega, by show w2.n + j + 1 + j2 < 2 ^ 31; omega, fun sp p0 p1 => ?_⟩
          refine ⟨sz_nat _ (by decide +kernel), by decide, by decide, by show w2.n + j + 1 + j2 + 1 < 2 ^ 31; omega, fun q q0 q1 => ?_⟩
          obtain ⟨c, h1, h2⟩ := atI_mem (xs := sg.cps.toList) q0 q1
          refine ⟨sz_nat _ (by decide +kernel), c, h1, ?_⟩
          have oC := Okz.one (sg_cp c h2)
          have oa : Okz 1 ("a" : Str) := .of (by decide +kernel)
          have oX := fun lo hi => oT.cut lo hi
          refine ⟨sT, (oX _ _).two oC (by decide), sT, ((oX _ _).app oC).two (oX _ _) (by decide), sT, (oX _ _).two oC (by decide), sT, ((oX _ _).app oC).two (oX _ _) (by decide), sT, sz_nat 4, ?_⟩
          refine ⟨oa.two oT (by decide), by omega, sz_nat 1, sz_nat 1, sz_nat 4, sz_nat 8, ?_⟩
          refine lc_map (fun _ => .bl true) (sz_nat 8) (fun y hy R hR => ?_) (all_then ?_)
          · have z : (∃ x, y = .str x ∧ Okz 40 x) ∨ y = .lst [.str th] ∨ y = .tup [.str th] := by
              simp only [List.mem_append, List.mem_cons, List.not_mem_nil, or_false] at hy
              rcases hy with (rfl | rfl | rfl | rfl) | (rfl | rfl | rfl | rfl)
              · exact .inl ⟨_, rfl, oT.mono (by decide)⟩
              · exact .inl ⟨_, rfl, (((oX _ _).app oC).app (oX _ _)).mono (by decide)⟩
              · exact .inl ⟨_, rfl, (((oX _ _).app oC).app (oX _ _)).mono (by decide)⟩
              · exact .inl ⟨_, rfl, (oX _ _).mono (by decide)⟩
              · exact .inl ⟨_, rfl, (oa.app oT).mono (by decide)⟩
              · exact .inl ⟨_, rfl, (oT.upper fun c hc => (abc_up c (tc c hc)).2).mono (by decide)⟩
              · exact .inr (.inl rfl)
              · exact .inr (.inr rfl)
            rcases z with ⟨x, rfl, o⟩ | rfl | rfl
            · exact ⟨okz_pl o (by decide), o.shw (by decide), hR⟩
            · exact ⟨rfl, oT.shwL (by decide), hR⟩
            · exact ⟨rfl, oT.shwT (by decide), hR⟩
          · refine ⟨j + 1 + j2 + 1 + 1, by omega, ?_, _, _, _, _, _, _, _, rfl⟩
            exact tick_eq (by show w2.n + j + 1 + j2 + 1 + 1 = _; omega)
      · rintro env w3 ⟨j, hj, rfl, a0, a2, a4, a5, a6, a7, a8, rfl⟩
        exact kk _
  
end Lk02
open PySem PySem.W PyProof.Rows DL in
theorem PySem.Challenge.cw_scopenames_k02_words_holds : PySem.Challenge.rw_scopenames_k02_words.Holds := by
  w_on; o_law; k_head; (case hw => w_witness2)
  k_fill
  refine walkG (l := PySem.Challenge.rw_scopenames_k02_words) (k := 3) rfl rfl ⟨rfl, by decide, by decide⟩ (fun w h Y => PySem.W.kIn_of Y) ?F
  case F =>
    intro w mg h KX G base
    have T : Lk02.Tx mg := by
      refine' ⟨PySem.W.mg_none_of KX G ?b_all, PySem.W.mg_none_of KX G ?b_bool, PySem.W.mg_none_of KX G ?b_isinstance, PySem.W.mg_none_of KX G ?b_len, PySem.W.mg_none_of KX G ?b_list, PySem.W.mg_none_of KX G ?b_range, PySem.W.mg_none_of KX G ?b_repr, PySem.W.mg_none_of KX G ?b_str, cst_str KX G ?c_DIGITS, cst_str KX G ?c_LETTERS, cst_int KX G ?c_MAX_WORD⟩
      (case b_all => k_is)
      (case b_bool => k_is)
      (case b_isinstance => k_is)
      (case b_len => k_is)
      (case b_list => k_is)
      (case b_range => k_is)
      (case b_repr => k_is)
      (case b_str => k_is)
      (case c_DIGITS => k_is)
      (case c_LETTERS => k_is)
      (case c_MAX_WORD => k_is)
    refine' FnAt.ofC "_law_is_word" Lk02.s__law_is_word ["_law_thing"] KX G (fun _ _ _ _ _ _ us hl => match us, hl with | [_], _ => rfl) ?a ?l ?c ?k (fun F__law_is_word => ?r__law_is_word)
    (case a => k_is)
    (case l => k_is)
    (case c => k_is)
    (case k => k_is)
    refine' FnAt.ofC "is_word" Lk02.s_is_word ["thing"] KX G (fun _ _ _ _ _ _ us hl => match us, hl with | [_], _ => rfl) ?a ?l ?c ?k (fun F_is_word => ?r_is_word)
    (case a => k_is)
    (case l => k_is)
    (case c => k_is)
    (case k => k_is)
    refine' FnAt.ofC "_law_asked" Lk02.s__law_asked ["_law_thing"] KX G (fun _ _ _ _ _ _ us hl => match us, hl with | [_], _ => rfl) ?a ?l ?c ?k (fun F__law_asked => ?r__law_asked)
    (case a => k_is)
    (case l => k_is)
    (case c => k_is)
    (case k => k_is)
    refine' FnAt.ofC "_law_next" Lk02.s__law_next ["_law_pen_here"] KX G (fun _ _ _ _ _ _ us hl => match us, hl with | [_], _ => rfl) ?a ?l ?c ?k (fun F__law_next => ?r__law_next)
    (case a => k_is)
    (case l => k_is)
    (case c => k_is)
    (case k => k_is)
    refine' FnAt.ofC "_law_draw" Lk02.s__law_draw ["_law_pen_here", "_law_below"] KX G (fun _ _ _ _ _ _ us hl => match us, hl with | [_, _], _ => rfl) ?a ?l ?c ?k (fun F__law_draw => ?r__law_draw)
    (case a => k_is)
    (case l => k_is)
    (case c => k_is)
    (case k => k_is)
    refine' FnAt.ofC "_law_pen" Lk02.s__law_pen ["_law_script"] KX G (fun _ _ _ _ _ _ us hl => match us, hl with | [_], _ => rfl) ?a ?l ?c ?k (fun F__law_pen => ?r__law_pen)
    (case a => k_is)
    (case l => k_is)
    (case c => k_is)
    (case k => k_is)
    refine' FnAt.ofC "law" Lk02.s_law ["_law_script"] KX G (fun _ _ _ _ _ _ us hl => match us, hl with | [_], _ => rfl) ?a ?l ?c ?k (fun F_law => ?r_law)
    (case a => k_is)
    (case l => k_is)
    (case c => k_is)
    (case k => k_is)
    have C__law_is_word := Lk02.ok__law_is_word (P := PySem.Challenge.pw_scopenames_k02_words) (w := w) (base := base) T F__law_is_word 
    have C_is_word := Lk02.ok_is_word (P := PySem.Challenge.pw_scopenames_k02_words) (w := w) (base := base) T F_is_word 
    have C__law_asked := Lk02.ok__law_asked (P := PySem.Challenge.pw_scopenames_k02_words) (w := w) (base := base) T F__law_asked C__law_is_word C_is_word
    have C__law_next := Lk02.ok__law_next (P := PySem.Challenge.pw_scopenames_k02_words) (w := w) (base := base) T F__law_next 
    have C__law_draw := Lk02.ok__law_draw (P := PySem.Challenge.pw_scopenames_k02_words) (w := w) (base := base) T F__law_draw C__law_next
    have C__law_pen := Lk02.ok__law_pen (P := PySem.Challenge.pw_scopenames_k02_words) (w := w) (base := base) T F__law_pen 
    have C_law := Lk02.ok_law (P := PySem.Challenge.pw_scopenames_k02_words) (w := w) (base := base) T F_law C__law_asked C__law_draw C__law_pen
    exact C_law
#print axioms PySem.Challenge.cw_scopenames_k02_words_holds
