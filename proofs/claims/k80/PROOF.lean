import PyProof.Rows.All
import HandS.ForMost
import HandS.Wide
import HandS.IsInst
import HandS.TupAny
import HandS.Style
import HandS.Gcd
import HandS.TupLe
import HandS.SortInts
import HandS.SortRule
import HandS.Deep
import KE.GoesEnum
import HandS.Zip
import HandS.Rev
import HandS.DictComp
import KE.SortData
import KE.DataMinMax
import KE.KDictPairs
import PyProof.SeqIndex
import PySem.Challenge.RW_slopelands_k80_whole_envelope
set_option Elab.async false
set_option linter.all false
set_option maxRecDepth 100000
set_option autoImplicit false
/-! DL: a layer of plain data over the hand layer. Part a: data, what they stand for in a heap, environments. -/
namespace DL
open PySem PySem.Spec L2
open PyProof.Rows hiding St
/-- plain data of Python; `scr` is the law's script, `box` the law's box of draws -/
inductive D where
  | non | bl (b : Bool) | int (i : Int) | str (x : Str) | tup (ds : List D) | ptp (ds : List D) | lst (ds : List D)
  | dk (kvs : List (Key × D)) | dt (kvs : List (List Key × D)) | scr (xs : List Int) | box
/-- the object at a is known and has no dict of its own -/
def NoD (K : PySem.W.Frag) (H : Hp) (a : Addr) : Prop := (∃ o xs, H a = some (.frz o (.tup xs)) ∧ o.dict = none) ∨ ∃ o, K.lookup a = some o ∧ o.dict = none
theorem NoD.mono {K : PySem.W.Frag} {H H' : Hp} {a : Addr} (e : Same H H') (h : NoD K H a) : NoD K H' a := by
  rcases h with ⟨o, u, h, d⟩ | h
  · exact .inl ⟨o, u, e _ _ h, d⟩
  · exact .inr h
mutual
inductive Rep (K : PySem.W.Frag) (bx : Addr) (H : Hp) : V → D → Prop
  | non : Rep K bx H .non .non
  | bl (b : Bool) : Rep K bx H (.bl b) (.bl b)
  | int (i : Int) : Rep K bx H (.int i) (.int i)
  | str (x : Str) : Rep K bx H (.str x) (.str x)
  | tup {a : Addr} {vs : List V} {ds : List D} : SqT K H a vs → RepA K bx H vs ds → Rep K bx H (.ref a) (.tup ds)
  | ptp {a : Addr} {vs : List V} {ds : List D} : SqT K H a vs → NoD K H a → RepA K bx H vs ds → Rep K bx H (.ref a) (.ptp ds)
  | lst {a : Addr} {vs : List V} {ds : List D} : H a = some (.lst vs) → RepA K bx H vs ds → Rep K bx H (.ref a) (.lst ds)
  | dk {a : Addr} {kvs : List (Key × V)} {ks : List (Key × D)} : Rd H a (.dK kvs) → RepK K bx H kvs ks → Rep K bx H (.ref a) (.dk ks)
  | dt {a : Addr} {kvs : List (List Key × V)} {ks : List (List Key × D)} : Rd H a (.dT kvs) → RepT K bx H kvs ks → Rep K bx H (.ref a) (.dt ks)
  | scr {a : Addr} {xs : List Int} : SqL K H a (xs.map V.int) → Rep K bx H (.ref a) (.scr xs)
  | box : Rep K bx H (.ref bx) .box
inductive RepA (K : PySem.W.Frag) (bx : Addr) (H : Hp) : List V → List D → Prop
  | nil : RepA K bx H [] []
  | cons {v : V} {vs : List V} {d : D} {ds : List D} : Rep K bx H v d → RepA K bx H vs ds → RepA K bx H (v :: vs) (d :: ds)
inductive RepK (K : PySem.W.Frag) (bx : Addr) (H : Hp) : List (Key × V) → List (Key × D) → Prop
  | nil : RepK K bx H [] []
  | cons {k : Key} {v : V} {vs : List (Key × V)} {d : D} {ds : List (Key × D)} : Rep K bx H v d → RepK K bx H vs ds → RepK K bx H ((k, v) :: vs) ((k, d) :: ds)
inductive RepT (K : PySem.W.Frag) (bx : Addr) (H : Hp) : List (List Key × V) → List (List Key × D) → Prop
  | nil : RepT K bx H [] []
  | cons {k : List Key} {v : V} {vs : List (List Key × V)} {d : D} {ds : List (List Key × D)} : Rep K bx H v d → RepT K bx H vs ds → RepT K bx H ((k, v) :: vs) ((k, d) :: ds)
end
section
variable {K : PySem.W.Frag} {bx : Addr} {H H' : Hp}
theorem Same.rd {a : Addr} {u : HO} (e : Same H H') (h : Rd H a u) : Rd H' a u := by
  rcases h with h | ⟨o, h⟩
  · exact .inl (e _ _ h)
  · exact .inr ⟨o, e _ _ h⟩
theorem Same.sqT {a : Addr} {xs : List V} (e : Same H H') (h : SqT K H a xs) : SqT K H' a xs := by
  rcases h with (h | ⟨o, h⟩) | h
  · exact .inl (.inl (e _ _ h))
  · exact .inl (.inr ⟨o, e _ _ h⟩)
  · exact .inr h
theorem Same.sqL {a : Addr} {xs : List V} (e : Same H H') (h : SqL K H a xs) : SqL K H' a xs := e.seq h
mutual
theorem Rep.mono (e : Same H H') : ∀ {d : D} {v : V}, Rep K bx H v d → Rep K bx H' v d
  | _, _, .non => .non
  | _, _, .bl b => .bl b
  | _, _, .int i => .int i
  | _, _, .str x => .str x
  | _, _, .tup h r => .tup (Same.sqT e h) (RepA.mono e r)
  | _, _, .ptp h z r => .ptp (Same.sqT e h) (z.mono e) (RepA.mono e r)
  | _, _, .lst h r => .lst (e _ _ h) (RepA.mono e r)
  | _, _, .dk h r => .dk (Same.rd e h) (RepK.mono e r)
  | _, _, .dt h r => .dt (Same.rd e h) (RepT.mono e r)
  | _, _, .scr h => .scr (e.seq h)
  | _, _, .box => .box
theorem RepA.mono (e : Same H H') : ∀ {ds : List D} {vs : List V}, RepA K bx H vs ds → RepA K bx H' vs ds
  | _, _, .nil => .nil
  | _, _, .cons h r => .cons (Rep.mono e h) (RepA.mono e r)
theorem RepK.mono (e : Same H H') : ∀ {ds : List (Key × D)} {vs : List (Key × V)}, RepK K bx H vs ds → RepK K bx H' vs ds
  | _, _, .nil => .nil
  | _, _, .cons h r => .cons (Rep.mono e h) (RepK.mono e r)
theorem RepT.mono (e : Same H H') : ∀ {ds : List (List Key × D)} {vs : List (List Key × V)}, RepT K bx H vs ds → RepT K bx H' vs ds
  | _, _, .nil => .nil
  | _, _, .cons h r => .cons (Rep.mono e h) (RepT.mono e r)
end
theorem RepA.length : ∀ {vs : List V} {ds : List D}, RepA K bx H vs ds → vs.length = ds.length
  | _, _, .nil => rfl
  | _, _, .cons _ r => congrArg (· + 1) (RepA.length r)
theorem RepA.get : ∀ {vs : List V} {ds : List D} {i : Nat} {d : D}, RepA K bx H vs ds → ds[i]? = some d → ∃ v, vs[i]? = some v ∧ Rep K bx H v d
  | _, _, _, _, .nil, e => by simp at e
  | _, _, 0, _, .cons h _, e => by simp at e; subst e; exact ⟨_, rfl, h⟩
  | _, _, i + 1, d, .cons _ r, e => by
    obtain ⟨v, h1, h2⟩ := RepA.get (i := i) (d := d) r (by simpa using e)
    exact ⟨v, by simpa using h1, h2⟩
theorem RepA.getV : ∀ {vs : List V} {ds : List D} {i : Nat} {v : V}, RepA K bx H vs ds → vs[i]? = some v → ∃ d, ds[i]? = some d ∧ Rep K bx H v d
  | _, _, _, _, .nil, e => by simp at e
  | _, _, 0, _, .cons h _, e => by simp at e; subst e; exact ⟨_, rfl, h⟩
  | _, _, i + 1, v, .cons _ r, e => by
    obtain ⟨d, h1, h2⟩ := RepA.getV (i := i) (v := v) r (by simpa using e)
    exact ⟨d, by simpa using h1, h2⟩
theorem RepA.append : ∀ {vs us : List V} {ds es : List D}, RepA K bx H vs ds → RepA K bx H us es → RepA K bx H (vs ++ us) (ds ++ es)
  | _, _, _, _, .nil, s => s
  | _, _, _, _, .cons r t, s => .cons r (RepA.append t s)
theorem RepA.take : ∀ {vs : List V} {ds : List D} (n : Nat), RepA K bx H vs ds → RepA K bx H (vs.take n) (ds.take n)
  | _, _, 0, _ => .nil
  | _, _, _ + 1, .nil => .nil
  | _, _, n + 1, .cons r t => .cons r (RepA.take n t)
theorem RepA.drop : ∀ {vs : List V} {ds : List D} (n : Nat), RepA K bx H vs ds → RepA K bx H (vs.drop n) (ds.drop n)
  | _, _, 0, r => r
  | _, _, _ + 1, .nil => .nil
  | _, _, n + 1, .cons _ t => RepA.drop n t
theorem RepA.set {x : V} {y : D} (r : Rep K bx H x y) : ∀ {vs : List V} {ds : List D} (i : Nat), RepA K bx H vs ds → RepA K bx H (vs.set i x) (ds.set i y)
  | _, _, _, .nil => .nil
  | _, _, 0, .cons _ t => .cons r t
  | _, _, i + 1, .cons q t => .cons q (RepA.set r i t)
theorem RepA.dropLast : ∀ {vs : List V} {ds : List D}, RepA K bx H vs ds → RepA K bx H vs.dropLast ds.dropLast
  | _, _, .nil => .nil
  | _, _, .cons _ .nil => .nil
  | _, _, .cons r (.cons r2 t) => .cons r (RepA.dropLast (.cons r2 t))
theorem RepA.reverse : ∀ {vs : List V} {ds : List D}, RepA K bx H vs ds → RepA K bx H vs.reverse ds.reverse
  | _, _, .nil => .nil
  | _, _, .cons r t => by
    rw [List.reverse_cons, List.reverse_cons]
    exact (RepA.reverse t).append (.cons r .nil)
/-- ints as data -/
theorem RepA.ints : ∀ {ns : List Int} {vs : List V}, RepA K bx H vs (ns.map D.int) → vs = ns.map V.int
  | [], _, .nil => rfl
  | n :: ns, _, .cons (.int _) r => congrArg (V.int n :: ·) (RepA.ints r)
theorem RepA.ofInts : ∀ (ns : List Int), RepA K bx H (ns.map V.int) (ns.map D.int)
  | [] => .nil
  | n :: ns => .cons (.int n) (RepA.ofInts ns)
end
/-- what of a heap is seen where some addresses are hidden -/
noncomputable def hid (P : Addr → Prop) (H : Hp) : Hp := fun a => open Classical in if P a then none else H a
section
variable {P P' : Addr → Prop} {H H' : Hp} {a : Addr} {o : HO}
theorem hid_some : hid P H a = some o ↔ ¬ P a ∧ H a = some o := by
  unfold hid
  by_cases h : P a
  · rw [if_pos h]; exact ⟨fun z => by (cases z), fun z => absurd h z.1⟩
  · rw [if_neg h]; exact ⟨fun z => ⟨h, z⟩, fun z => z.2⟩
theorem hid_same (P : Addr → Prop) (H : Hp) : Same (hid P H) H := fun _ _ e => (hid_some.mp e).2
theorem hid_mono (h : ∀ a, P' a → P a) (e : ∀ a o, ¬ P a → H a = some o → H' a = some o) : Same (hid P H) (hid P' H') := fun a o q => by
  obtain ⟨n, q⟩ := hid_some.mp q
  exact hid_some.mpr ⟨fun z => n (h a z), e a o n q⟩
end
/-- a slot: nothing, a value, an object of one's own (it may be changed) -/
inductive Sl where
  | no | val (d : D) | own (d : D)
abbrev DSt := List Sl
/-- an instance of an own class: from slot n on stand its fields -/
structure ObC where
  n : Nat
  C : Addr
  fl : List Str
  /-- what the fields hold, if they are not stored to -/
  fx : Option (List (Option V)) := none
/-- what is under way besides: nothing, the law's box, an instance (the def's self) -/
inductive Md where
  | plain | box | ob (o : ObC)
/-- whether a slot may be written as a name -/
def Md.ok : Md → Nat → Bool
  | .ob o, i => Nat.blt i o.n
  | _, _ => true
def Md.live : Md → Bool
  | .plain => false
  | _ => true
/-- around: what stood at the beginning, the box, objects under way -/
structure EC where
  H0 : Hp
  bx : Addr
  md : Md
  T : Hp
def EC.live (E : EC) : Bool := E.md.live
def hidP (E : EC) (σ : St) (δ : DSt) (a : Addr) : Prop :=
  (E.live = true ∧ a = E.bx) ∨ (∃ o, E.T a = some o) ∨ ∃ (i : Nat) (d : D), δ[i]? = some (.own d) ∧ σ[i]? = some (some (.ref a))
noncomputable abbrev HH (E : EC) (σ : St) (δ : DSt) (H : Hp) : Hp := hid (hidP E σ δ) H
/-- an object that may be written -/
inductive OwnR (K : PySem.W.Frag) (bx : Addr) (H Hh : Hp) (a : Addr) : D → Prop
  | lst {vs : List V} {ds : List D} : H a = some (.lst vs) → RepA K bx Hh vs ds → OwnR K bx H Hh a (.lst ds)
  | dk {vs : List (Key × V)} {ds : List (Key × D)} : H a = some (.dK vs) → RepK K bx Hh vs ds → OwnR K bx H Hh a (.dk ds)
  | dt {vs : List (List Key × V)} {ds : List (List Key × D)} : H a = some (.dT vs) → RepT K bx Hh vs ds → OwnR K bx H Hh a (.dt ds)
def BoxOk (K : PySem.W.Frag) (bx : Addr) (Hh H : Hp) : Prop :=
  ∃ (dg : Addr) (t : Int) (digs : List Int), H bx = some (.lst [.ref dg, .int t]) ∧ 0 ≤ t ∧ SqL K Hh dg (digs.map V.int)
/-- the instance at p has in its fields what the slots say -/
def ObOk (o : ObC) (p : Addr) (σ : St) (H : Hp) : Prop :=
  ∃ (dx : Addr) (fs : List (Str × V)), H p = some (.ins o.C dx fs) ∧ (fs.map (·.1)).Nodup ∧ (∀ q ∈ fs, q.1 ∈ o.fl) ∧ o.fl.length ≤ 900 ∧ (∀ (j : Nat) (f : Str) (v : V), o.fl[j]? = some f → σ[o.n + j]? = some (some v) → fs.lookup f = some v) ∧ ∀ τ, o.fx = some τ → ∀ j, σ[o.n + j]? = τ[j]?
def LvOk (K : PySem.W.Frag) (md : Md) (bx : Addr) (σ : St) (Hh H : Hp) : Prop := match md with
  | .plain => True
  | .box => BoxOk K bx Hh H
  | .ob o => ObOk o bx σ H
theorem LvOk.there {K : PySem.W.Frag} {md : Md} {bx : Addr} {σ : St} {Hh H : Hp} (h : LvOk K md bx σ Hh H) (hl : md.live = true) : ∃ o, H bx = some o := by
  cases md with
  | plain => cases hl
  | box => obtain ⟨dg, t, digs, h, _⟩ := h; exact ⟨_, h⟩
  | ob o => obtain ⟨dx, fs, h, _⟩ := h; exact ⟨_, h⟩
theorem LvOk.grow {K : PySem.W.Frag} {md : Md} {bx : Addr} {σ : St} {Hh Hh' H H' : Hp} (h : LvOk K md bx σ Hh H) (e : md.live = true → ∀ o, H bx = some o → H' bx = some o) (hs : Same Hh Hh') : LvOk K md bx σ Hh' H' := by
  cases md with
  | plain => trivial
  | box => obtain ⟨dg, t, digs, q1, q2, q3⟩ := h; exact ⟨dg, t, digs, e rfl _ q1, q2, hs.seq q3⟩
  | ob o => obtain ⟨dx, fs, q1, q2⟩ := h; exact ⟨dx, fs, e rfl _ q1, q2⟩
theorem LvOk.mono {K : PySem.W.Frag} {md : Md} {bx : Addr} {σ : St} {Hh Hh' H : Hp} (h : LvOk K md bx σ Hh H) (hs : Same Hh Hh') : LvOk K md bx σ Hh' H := h.grow (fun _ _ q => q) hs
theorem LvOk.slots {K : PySem.W.Frag} {md : Md} {bx : Addr} {σ σ' : St} {Hh Hh' H : Hp} (h : LvOk K md bx σ Hh H) (q : ∀ j, md.ok j = false → σ'[j]? = σ[j]?) (hs : Same Hh Hh') : LvOk K md bx σ' Hh' H := by
  have h' := h.mono hs
  cases md with
  | plain => trivial
  | box => exact h'
  | ob o =>
    obtain ⟨dx, fs, q1, q2, q3, q4, q5, q6⟩ := h'
    have e0 : ∀ j, σ'[o.n + j]? = σ[o.n + j]? := fun j => q (o.n + j) (by show Nat.blt _ _ = false; rw [Bool.eq_false_iff]; intro z; exact absurd (Nat.le_of_ble_eq_true z) (by omega))
    exact ⟨dx, fs, q1, q2, q3, q4, fun j f v e1 e2 => q5 j f v e1 (by rw [← e0 j]; exact e2), fun τ ht j => by rw [e0 j]; exact q6 τ ht j⟩
structure EnvR (K : PySem.W.Frag) (E : EC) (σ : St) (H : Hp) (δ : DSt) : Prop where
  len : σ.length = δ.length
  val : ∀ (i : Nat) (d : D), δ[i]? = some (.val d) → ∃ v, σ[i]? = some (some v) ∧ Rep K E.bx (HH E σ δ H) v d
  own : ∀ (i : Nat) (d : D), δ[i]? = some (.own d) → ∃ a, σ[i]? = some (some (.ref a)) ∧ OwnR K E.bx H (HH E σ δ H) a d ∧ E.T a = none ∧ ¬ (E.live = true ∧ a = E.bx)
  dis : ∀ (i j : Nat) (d e : D) (a : Addr), δ[i]? = some (.own d) → δ[j]? = some (.own e) → σ[i]? = some (some (.ref a)) → σ[j]? = some (some (.ref a)) → i = j
  base : Same E.H0 (HH E σ δ H)
  tmp : ∀ a o, E.T a = some o → H a = some o
  bxT : E.live = true → E.T E.bx = none
  box : LvOk K E.md E.bx σ (HH E σ δ H) H
section
variable {K : PySem.W.Frag} {E : EC} {σ : St} {H H' : Hp} {δ : DSt}
theorem OwnR.mono {bx : Addr} {Hh Hh' : Hp} {a : Addr} {d : D} (e1 : H' a = H a) (e : Same Hh Hh') (h : OwnR K bx H Hh a d) : OwnR K bx H' Hh' a d := by
  cases h with
  | lst h r => exact .lst (e1.trans h) (r.mono e)
  | dk h r => exact .dk (e1.trans h) (r.mono e)
  | dt h r => exact .dt (e1.trans h) (r.mono e)
theorem OwnR.there {bx : Addr} {Hh : Hp} {a : Addr} {d : D} (h : OwnR K bx H Hh a d) : ∃ o, H a = some o ∧ Mut (some o) := by
  cases h with
  | lst h r => exact ⟨_, h, trivial⟩
  | dk h r => exact ⟨_, h, trivial⟩
  | dt h r => exact ⟨_, h, trivial⟩
/-- an address that is hidden holds something -/
theorem EnvR.hidden (I : EnvR K E σ H δ) {a : Addr} (h : hidP E σ δ a) : ∃ o, H a = some o := by
  rcases h with ⟨h1, rfl⟩ | ⟨o, h⟩ | ⟨i, d, h1, h2⟩
  · exact I.box.there h1
  · exact ⟨o, I.tmp _ _ h⟩
  · obtain ⟨b, e, h, _⟩ := I.own i d h1
    rw [e] at h2
    cases h2
    obtain ⟨o, e, _⟩ := h.there
    exact ⟨o, e⟩
/-- nothing that is tracked changes: the heap grows -/
theorem EnvR.same (I : EnvR K E σ H δ) (e : Same H H') : EnvR K E σ H' δ := by
  have hs : Same (HH E σ δ H) (HH E σ δ H') := hid_mono (fun _ z => z) fun a o _ q => e a o q
  have eq : ∀ {a o}, H a = some o → H' a = H a := fun {a o} q => (e a o q).trans q.symm
  refine ⟨I.len, fun i d h => ?_, fun i d h => ?_, I.dis, fun a o q => hs a o (I.base a o q), fun a o h => e _ _ (I.tmp a o h), I.bxT, I.box.grow (fun _ o q => e _ o q) hs⟩
  · obtain ⟨v, h1, h2⟩ := I.val i d h
    exact ⟨v, h1, h2.mono hs⟩
  · obtain ⟨a, h1, h2, h3⟩ := I.own i d h
    obtain ⟨o, q, _⟩ := h2.there
    exact ⟨a, h1, h2.mono (eq q) hs, h3⟩
theorem EnvR.visible (_ : EnvR K E σ H δ) : Same (HH E σ δ H) H := hid_same _ _
/-- from here on more stands as it is -/
theorem EnvR.rebase (I : EnvR K E σ H δ) {H1 : Hp} (h : Same H1 (HH E σ δ H)) : EnvR K { E with H0 := H1 } σ H δ :=
  ⟨I.len, I.val, I.own, I.dis, h, I.tmp, I.bxT, I.box⟩
theorem EnvR.unbase {H1 : Hp} (I : EnvR K { E with H0 := H1 } σ H δ) (h : Same E.H0 H1) : EnvR K E σ H δ :=
  ⟨I.len, I.val, I.own, I.dis, h.trans I.base, I.tmp, I.bxT, I.box⟩
end
/-! ### values under way -/
/-- a value; what stands in a slot; a new object that nothing else knows -/
inductive BV where
  | val (d : D) | slot (i : Nat) | fresh (d : D)
def RepW (K : PySem.W.Frag) (E : EC) (σ : St) (H : Hp) (δ : DSt) (v : V) : BV → Prop
  | .val d => Rep K E.bx (HH E σ δ H) v d
  | .slot i => σ[i]? = some (some v)
  | .fresh d => Rep K E.bx (HH E σ δ H) v d
def RepB (K : PySem.W.Frag) (E : EC) (σ : St) (H : Hp) (δ : DSt) (v : V) : BV → Prop
  | .val d => Rep K E.bx (HH E σ δ H) v d
  | .slot i => σ[i]? = some (some v)
  | .fresh d => ∃ a o, v = .ref a ∧ H a = some o ∧ ¬ hidP E σ δ a ∧ EnvR K { E with T := upd E.T a o } σ H δ ∧ OwnR K E.bx H (HH { E with T := upd E.T a o } σ δ H) a d
/-- readable here and now: the root in the heap, its parts seen -/
inductive RootR (K : PySem.W.Frag) (bx : Addr) (H Hh : Hp) : V → D → Prop
  | non : RootR K bx H Hh .non .non
  | bl (b : Bool) : RootR K bx H Hh (.bl b) (.bl b)
  | int (i : Int) : RootR K bx H Hh (.int i) (.int i)
  | str (x : Str) : RootR K bx H Hh (.str x) (.str x)
  | tup {a : Addr} {vs : List V} {ds : List D} : SqT K Hh a vs → RepA K bx Hh vs ds → RootR K bx H Hh (.ref a) (.tup ds)
  | ptp {a : Addr} {vs : List V} {ds : List D} : SqT K Hh a vs → NoD K Hh a → RepA K bx Hh vs ds → RootR K bx H Hh (.ref a) (.ptp ds)
  | lst {a : Addr} {vs : List V} {ds : List D} : H a = some (.lst vs) → RepA K bx Hh vs ds → RootR K bx H Hh (.ref a) (.lst ds)
  | dk {a : Addr} {kvs : List (Key × V)} {ks : List (Key × D)} : Rd H a (.dK kvs) → RepK K bx Hh kvs ks → RootR K bx H Hh (.ref a) (.dk ks)
  | dt {a : Addr} {kvs : List (List Key × V)} {ks : List (List Key × D)} : Rd H a (.dT kvs) → RepT K bx Hh kvs ks → RootR K bx H Hh (.ref a) (.dt ks)
  | scr {a : Addr} {xs : List Int} : SqL K Hh a (xs.map V.int) → RootR K bx H Hh (.ref a) (.scr xs)
  | box : RootR K bx H Hh (.ref bx) .box
section
variable {K : PySem.W.Frag} {E : EC} {σ : St} {H H' Hh : Hp} {δ δ' : DSt} {bx : Addr} {v : V} {d : D} {b : BV}
theorem Rep.root (e : Same Hh H) (h : Rep K bx Hh v d) : RootR K bx H Hh v d := by
  cases h with
  | non => exact .non
  | bl => exact .bl _
  | int => exact .int _
  | str => exact .str _
  | tup h r => exact .tup h r
  | ptp h z r => exact .ptp h z r
  | lst h r => exact .lst (e _ _ h) r
  | dk h r => exact .dk (Same.rd e h) r
  | dt h r => exact .dt (Same.rd e h) r
  | scr h => exact .scr h
  | box => exact .box
theorem RootR.rep (e : Same Hh H) (h : RootR K bx H Hh v d) : Rep K bx H v d := by
  cases h with
  | non => exact .non
  | bl => exact .bl _
  | int => exact .int _
  | str => exact .str _
  | tup h r => exact .tup (Same.sqT e h) (r.mono e)
  | ptp h z r => exact .ptp (Same.sqT e h) (z.mono e) (r.mono e)
  | lst h r => exact .lst h (r.mono e)
  | dk h r => exact .dk h (r.mono e)
  | dt h r => exact .dt h (r.mono e)
  | scr h => exact .scr (e.seq h)
  | box => exact .box
theorem OwnR.root {a : Addr} (h : OwnR K bx H Hh a d) : RootR K bx H Hh (.ref a) d := by
  cases h with
  | lst h r => exact .lst h r
  | dk h r => exact .dk (.of h) r
  | dt h r => exact .dt (.of h) r
/-- what a new object hides more -/
theorem HH_fresh {a : Addr} {o : HO} (hT : E.T a = none) : Same (HH { E with T := upd E.T a o } σ δ H) (HH E σ δ H) := hid_mono (fun b z => by
  rcases z with z | ⟨u, z⟩ | z
  · exact .inl z
  · exact .inr (.inl ⟨u, (upd_ne (H := E.T) (o := o) (ne_of_none z hT)).trans z⟩)
  · exact .inr (.inr z)) fun _ _ _ q => q
theorem RepB.weak (h : RepB K E σ H δ v b) : RepW K E σ H δ v b := by
  cases b with
  | val d => exact h
  | slot i => exact h
  | fresh d =>
    obtain ⟨a, o, rfl, ha, hn, I, r⟩ := h
    have hv : HH E σ δ H a = some o := hid_some.mpr ⟨hn, ha⟩
    have hT : E.T a = none := by
      cases e : E.T a with
      | none => rfl
      | some u => exact absurd (.inr (.inl ⟨u, e⟩)) hn
    show Rep K E.bx (HH E σ δ H) (.ref a) d
    cases r with
    | lst h r => rw [h] at ha; cases ha; exact .lst hv (r.mono (HH_fresh hT))
    | dk h r => rw [h] at ha; cases ha; exact .dk (.of hv) (r.mono (HH_fresh hT))
    | dt h r => rw [h] at ha; cases ha; exact .dt (.of hv) (r.mono (HH_fresh hT))
/-- the value stays while more is done -/
theorem RepW.keep (h : RepW K E σ H δ v b) (I : EnvR K { E with H0 := HH E σ δ H } σ H' δ') : RepW K E σ H' δ' v b := by
  have e : Same (HH E σ δ H) (HH E σ δ' H') := I.base
  cases b with
  | val d => exact Rep.mono e h
  | slot i => exact h
  | fresh d => exact Rep.mono e h
end
def look (δ : DSt) (i : Nat) : Sl := match δ[i]? with
  | some s => s
  | none => .no
theorem look_val {δ : DSt} {i : Nat} {d : D} (h : look δ i = .val d) : δ[i]? = some (.val d) := by
  unfold look at h
  cases e : δ[i]? with
  | none => rw [e] at h; cases h
  | some s => rw [e] at h; rw [show s = .val d from h]
theorem look_own {δ : DSt} {i : Nat} {d : D} (h : look δ i = .own d) : δ[i]? = some (.own d) := by
  unfold look at h
  cases e : δ[i]? with
  | none => rw [e] at h; cases h
  | some s => rw [e] at h; rw [show s = .own d from h]
/-- with the datum of a value under way -/
def withD (δ : DSt) (b : BV) (k : D → Prop) : Prop := match b with
  | .val d => k d
  | .fresh d => k d
  | .slot i => match look δ i with
    | .val d => k d
    | .own d => k d
    | .no => False
/-- with the datum, from here on not changed any more -/
def force (b : BV) (δ : DSt) (k : D → DSt → Prop) : Prop := match b with
  | .val d => k d δ
  | .fresh d => k d δ
  | .slot i => match look δ i with
    | .val d => k d δ
    | .own d => k d (δ.set i (.val d))
    | .no => False
section
variable {K : PySem.W.Frag} {E : EC} {σ : St} {H H' Hh : Hp} {δ δ' : DSt} {bx : Addr} {v : V} {d : D} {b : BV}
theorem RepW.withD {k : D → Prop} (I : EnvR K E σ H δ) (h : RepW K E σ H δ v b) (q : withD δ b k) : ∃ d, RootR K E.bx H (HH E σ δ H) v d ∧ k d := by
  cases b with
  | val d => exact ⟨d, Rep.root (hid_same _ _) h, q⟩
  | fresh d => exact ⟨d, Rep.root (hid_same _ _) h, q⟩
  | slot i =>
    have hs : σ[i]? = some (some v) := h
    unfold DL.withD at q
    dsimp only at q
    cases e : look δ i with
    | no => rw [e] at q; exact q.elim
    | val d =>
      rw [e] at q
      obtain ⟨u, h1, h2⟩ := I.val i d (look_val e)
      rw [hs] at h1; cases h1
      exact ⟨d, Rep.root (hid_same _ _) h2, q⟩
    | own d =>
      rw [e] at q
      obtain ⟨a, h1, h2, _⟩ := I.own i d (look_own e)
      rw [hs] at h1; cases h1
      exact ⟨d, h2.root, q⟩
theorem set_get {δ : DSt} {i j : Nat} {s t : Sl} (h : (δ.set i s)[j]? = some t) : (j = i ∧ s = t) ∨ (j ≠ i ∧ δ[j]? = some t) := by
  by_cases e : j = i
  · subst e
    by_cases hl : j < δ.length
    · rw [List.getElem?_set_self hl] at h
      exact .inl ⟨rfl, Option.some.inj h⟩
    · rw [List.getElem?_eq_none (by rw [List.length_set]; omega)] at h
      cases h
  · rw [List.getElem?_set_ne (Ne.symm e)] at h
    exact .inr ⟨e, h⟩
/-- an own object becomes a value -/
theorem EnvR.freeze {i : Nat} (I : EnvR K E σ H δ) (h : δ[i]? = some (.own d)) (hs : σ[i]? = some (some v)) : EnvR K E σ H (δ.set i (.val d)) ∧ Rep K E.bx (HH E σ (δ.set i (.val d)) H) v d := by
  obtain ⟨a, h1, h2, h3, h4⟩ := I.own i d h
  rw [hs] at h1; cases h1
  have sub : ∀ b, hidP E σ (δ.set i (.val d)) b → hidP E σ δ b := fun b z => by
    rcases z with z | z | ⟨j, e, z1, z2⟩
    · exact .inl z
    · exact .inr (.inl z)
    · rcases set_get z1 with ⟨_, q⟩ | ⟨_, q⟩
      · cases q
      · exact .inr (.inr ⟨j, e, q, z2⟩)
  have hs' : Same (HH E σ δ H) (HH E σ (δ.set i (.val d)) H) := hid_mono sub fun _ _ _ q => q
  have hn : ¬ hidP E σ (δ.set i (.val d)) a := fun z => by
    rcases z with z | ⟨o, z⟩ | ⟨j, e, z1, z2⟩
    · exact h4 z
    · rw [h3] at z; cases z
    · rcases set_get z1 with ⟨_, q⟩ | ⟨hne, q⟩
      · cases q
      · exact hne (I.dis j i e d a q h z2 hs)
  have rep : Rep K E.bx (HH E σ (δ.set i (.val d)) H) (.ref a) d := by
    cases h2 with
    | lst hx r => exact .lst (hid_some.mpr ⟨hn, hx⟩) (r.mono hs')
    | dk hx r => exact .dk (.of (hid_some.mpr ⟨hn, hx⟩)) (r.mono hs')
    | dt hx r => exact .dt (.of (hid_some.mpr ⟨hn, hx⟩)) (r.mono hs')
  refine ⟨⟨by rw [List.length_set]; exact I.len, fun j e q => ?_, fun j e q => ?_, fun j k e f b q1 q2 => ?_, I.base.trans hs', I.tmp, I.bxT, I.box.mono hs'⟩, rep⟩
  · rcases set_get q with ⟨ej, q'⟩ | ⟨_, q'⟩
    · cases q'
      rw [ej]
      exact ⟨_, hs, rep⟩
    · obtain ⟨u, z1, z2⟩ := I.val j e q'
      exact ⟨u, z1, z2.mono hs'⟩
  · rcases set_get q with ⟨_, q⟩ | ⟨_, q⟩
    · cases q
    · obtain ⟨b, z1, z2, z3⟩ := I.own j e q
      exact ⟨b, z1, z2.mono rfl hs', z3⟩
  · rcases set_get q1 with ⟨_, q1⟩ | ⟨_, q1⟩
    · cases q1
    · rcases set_get q2 with ⟨_, q2⟩ | ⟨_, q2⟩
      · cases q2
      · exact I.dis j k e f b q1 q2
theorem RepW.force {k : D → DSt → Prop} (I : EnvR K E σ H δ) (h : RepW K E σ H δ v b) (q : force b δ k) : ∃ d δ', EnvR K E σ H δ' ∧ Rep K E.bx (HH E σ δ' H) v d ∧ k d δ' := by
  cases b with
  | val d => exact ⟨d, δ, I, h, q⟩
  | fresh d => exact ⟨d, δ, I, h, q⟩
  | slot i =>
    have hs : σ[i]? = some (some v) := h
    unfold DL.force at q
    dsimp only at q
    cases e : look δ i with
    | no => rw [e] at q; exact q.elim
    | val d =>
      rw [e] at q
      obtain ⟨u, h1, h2⟩ := I.val i d (look_val e)
      rw [hs] at h1; cases h1
      exact ⟨d, δ, I, h2, q⟩
    | own d =>
      rw [e] at q
      obtain ⟨I', r⟩ := I.freeze (look_own e) hs
      exact ⟨d, _, I', r, q⟩
end
end DL
set_option Elab.async false
set_option linter.all false
set_option maxRecDepth 100000
set_option autoImplicit false
/-! DL, part b: expressions. -/
namespace DL
open PySem PySem.Spec L2
open PyProof.Rows hiding St
theorem szL {n : Nat} (h : n ≤ 16000000) : n ≤ sizeLine := by rw [sizeLine_eq]; omega
abbrev DTE := DSt → (BV → DSt → Prop) → Prop
abbrev DTT := DSt → (Bool → DSt → Prop) → Prop
abbrev DTA := DSt → (List BV → DSt → Prop) → Prop
abbrev RepWs (K : PySem.W.Frag) (E : EC) (σ : St) (H : Hp) (δ : DSt) : List V → List BV → Prop := Paired (fun v b => RepW K E σ H δ v b)
def SimE (K : PySem.W.Frag) (L : Md) (te : TE) (f : DTE) : Prop := ∀ (E : EC) (σ : St) (H : Hp) (δ : DSt) (R : BV → DSt → Prop) (Q : VK), E.md = L → EnvR K E σ H δ → f δ R →
  (∀ v H' δ' b, EnvR K E σ H' δ' → RepB K E σ H' δ' v b → R b δ' → Q v H') → te σ H Q
def SimT (K : PySem.W.Frag) (L : Md) (te : TT) (f : DTT) : Prop := ∀ (E : EC) (σ : St) (H : Hp) (δ : DSt) (R : Bool → DSt → Prop) (Q : Bool → Hp → Prop), E.md = L → EnvR K E σ H δ → f δ R →
  (∀ c H' δ', EnvR K E σ H' δ' → R c δ' → Q c H') → te σ H Q
def SimA (K : PySem.W.Frag) (L : Md) (te : TA) (f : DTA) : Prop := ∀ (E : EC) (σ : St) (H : Hp) (δ : DSt) (R : List BV → DSt → Prop) (Q : List V → Hp → Prop), E.md = L → EnvR K E σ H δ → f δ R →
  (∀ vs H' δ' bs, EnvR K E σ H' δ' → RepWs K E σ H' δ' vs bs → R bs δ' → Q vs H') → te σ H Q
/-- the canonical readings -/
def teC (K : PySem.W.Frag) (L : Md) (f : DTE) : TE := fun σ H Q => ∃ (E : EC) (δ : DSt) (R : BV → DSt → Prop), E.md = L ∧ EnvR K E σ H δ ∧ f δ R ∧ ∀ v H' δ' b, EnvR K E σ H' δ' → RepB K E σ H' δ' v b → R b δ' → Q v H'
def ttC (K : PySem.W.Frag) (L : Md) (f : DTT) : TT := fun σ H Q => ∃ (E : EC) (δ : DSt) (R : Bool → DSt → Prop), E.md = L ∧ EnvR K E σ H δ ∧ f δ R ∧ ∀ c H' δ', EnvR K E σ H' δ' → R c δ' → Q c H'
def taC (K : PySem.W.Frag) (L : Md) (f : DTA) : TA := fun σ H Q => ∃ (E : EC) (δ : DSt) (R : List BV → DSt → Prop), E.md = L ∧ EnvR K E σ H δ ∧ f δ R ∧ ∀ vs H' δ' bs, EnvR K E σ H' δ' → RepWs K E σ H' δ' vs bs → R bs δ' → Q vs H'
inductive DE (X : Cx) (L : Md) (e : Expr) (f : DTE) : Prop
  | mk {te : TE} (pe : PE X e te) (sim : SimE X.K L te f)
inductive DT (X : Cx) (L : Md) (e : Expr) (f : DTT) : Prop
  | mk {te : TT} (pt : PT X e te) (sim : SimT X.K L te f)
inductive DW (X : Cx) (L : Md) (e : Expr) (f : DTT) : Prop
  | mk {te : TT} (pw : PW X e te) (sim : SimT X.K L te f)
inductive DA (X : Cx) (L : Md) (es : List Expr) (f : DTA) : Prop
  | mk {te : TA} (pa : PA X es te) (sim : SimA X.K L te f)
section
variable {X : Cx} {L : Md} {e : Expr} {es : List Expr} {f : DTE} {p : DTT} {g : DTA}
theorem DE.pe (h : DE X L e f) : PE X e (teC X.K L f) := by
  obtain ⟨pe, sim⟩ := h
  exact ⟨fun pins s σ H Q I ⟨E, δ, R, hl, J, q, k⟩ => pe.run pins s σ H Q I (sim E σ H δ R Q hl J q k)⟩
theorem DE.sim (_ : DE X L e f) : SimE X.K L (teC X.K L f) f := fun E σ H δ R Q hl I q k => ⟨E, δ, R, hl, I, q, k⟩
theorem DT.pt (h : DT X L e p) : PT X e (ttC X.K L p) := by
  obtain ⟨pe, sim⟩ := h
  exact ⟨fun pins s σ H Q I ⟨E, δ, R, hl, J, q, k⟩ => pe.run pins s σ H Q I (sim E σ H δ R Q hl J q k)⟩
theorem DT.sim (_ : DT X L e p) : SimT X.K L (ttC X.K L p) p := fun E σ H δ R Q hl I q k => ⟨E, δ, R, hl, I, q, k⟩
theorem DW.pw (h : DW X L e p) : PW X e (ttC X.K L p) := by
  obtain ⟨pe, sim⟩ := h
  exact ⟨fun w pins s σ H Q I ⟨E, δ, R, hl, J, q, k⟩ => pe.run w pins s σ H Q I (sim E σ H δ R Q hl J q k)⟩
theorem DW.sim (_ : DW X L e p) : SimT X.K L (ttC X.K L p) p := fun E σ H δ R Q hl I q k => ⟨E, δ, R, hl, I, q, k⟩
theorem DA.pa (h : DA X L es g) : PA X es (taC X.K L g) := by
  obtain ⟨pe, sim⟩ := h
  exact ⟨fun pos pins s σ H Q I ⟨E, δ, R, hl, J, q, k⟩ => pe.run pos pins s σ H Q I (sim E σ H δ R Q hl J q k)⟩
theorem DA.sim (_ : DA X L es g) : SimA X.K L (taC X.K L g) g := fun E σ H δ R Q hl I q k => ⟨E, δ, R, hl, I, q, k⟩
end
section
variable {K : PySem.W.Frag} {E : EC} {σ : St} {H H' : Hp} {δ δ' : DSt} {v : V} {d : D} {b : BV}
/-- the environment, with the heap at hand kept -/
theorem EnvR.pin (I : EnvR K E σ H δ) : EnvR K { E with H0 := HH E σ δ H } σ H δ := I.rebase (Same.refl _)
theorem EnvR.unpin (I : EnvR K E σ H δ) (J : EnvR K { E with H0 := HH E σ δ H } σ H' δ') : EnvR K E σ H' δ' := J.unbase I.base
theorem RepB.unpin {H1 : Hp} (h : RepB K { E with H0 := H1 } σ H δ v b) (hb : Same E.H0 H1) : RepB K E σ H δ v b := by
  cases b with
  | val d => exact h
  | slot i => exact h
  | fresh d =>
    obtain ⟨a, o, e1, e2, e3, e4, e5⟩ := h
    exact ⟨a, o, e1, e2, e3, EnvR.unbase (E := { E with T := upd E.T a o }) e4 hb, e5⟩
theorem RepWs.keep (I : EnvR K { E with H0 := HH E σ δ H } σ H' δ') : ∀ {vs : List V} {bs : List BV}, RepWs K E σ H δ vs bs → RepWs K E σ H' δ' vs bs
  | _, _, .nil => .nil
  | _, _, .cons r t => .cons (RepW.keep r I) (RepWs.keep I t)
/-- a new object -/
theorem EnvR.new (I : EnvR K E σ H δ) {p : Addr} {o : HO} (hp : H p = none) : Same H (upd H p o) ∧ EnvR K E σ (upd H p o) δ ∧ ¬ hidP E σ δ p ∧ HH E σ δ (upd H p o) p = some o := by
  have s : Same H (upd H p o) := fun c x e => by rw [upd_ne (ne_of_none e hp)]; exact e
  have hn : ¬ hidP E σ δ p := fun z => by
    obtain ⟨u, e⟩ := I.hidden z
    rw [hp] at e; cases e
  exact ⟨s, I.same s, hn, hid_some.mpr ⟨hn, upd_same⟩⟩
theorem HH_grow (e : Same H H') : Same (HH E σ δ H) (HH E σ δ H') := hid_mono (fun _ z => z) fun a o _ q => e a o q
/-- a new list that nothing else knows -/
theorem EnvR.fresh (I : EnvR K E σ H δ) {p : Addr} {o : HO} (hp : H p = none) : EnvR K { E with T := upd E.T p o } σ (upd H p o) δ ∧ Same (HH E σ δ H) (HH { E with T := upd E.T p o } σ δ (upd H p o)) := by
  obtain ⟨s, I2, hn, _⟩ := I.new (o := o) hp
  have hT : ∀ b u, b ≠ p → E.T b = some u → upd E.T p o b = some u := fun b u n e => by rw [upd_ne n]; exact e
  have hT2 : ∀ b u, upd E.T p o b = some u → (b = p ∧ u = o) ∨ E.T b = some u := fun b u e => by
    by_cases z : b = p
    · subst z
      rw [upd_same] at e
      cases e
      exact .inl ⟨rfl, rfl⟩
    · rw [upd_ne z] at e
      exact .inr e
  have hs : Same (HH E σ δ H) (HH { E with T := upd E.T p o } σ δ (upd H p o)) := fun c x q => by
    obtain ⟨n, q⟩ := hid_some.mp q
    refine hid_some.mpr ⟨fun z => ?_, s _ _ q⟩
    rcases z with z | ⟨u, z⟩ | z
    · exact n (.inl z)
    · rcases hT2 _ _ z with ⟨z, _⟩ | z
      · rw [z, hp] at q; cases q
      · exact n (.inr (.inl ⟨u, z⟩))
    · exact n (.inr (.inr z))
  refine ⟨⟨I.len, fun i d h => ?_, fun i d h => ?_, I.dis, I.base.trans hs, fun b u e => ?_, fun h => ?_, I.box.grow (fun _ o q => s _ o q) hs⟩, hs⟩
  · obtain ⟨v, h1, h2⟩ := I.val i d h
    exact ⟨v, h1, h2.mono hs⟩
  · obtain ⟨a, h1, h2, h3, h4⟩ := I.own i d h
    obtain ⟨u, q, _⟩ := h2.there
    refine ⟨a, h1, h2.mono ((s a u q).trans q.symm) hs, ?_, h4⟩
    show upd E.T p o a = none
    rw [upd_ne (ne_of_none q hp)]
    exact h3
  · rcases hT2 _ _ e with ⟨z, z2⟩ | z
    · rw [z, z2]; exact upd_same
    · exact s _ _ (I.tmp _ _ z)
  · obtain ⟨o1, q1⟩ := I.box.there h
    show upd E.T p o E.bx = none
    rw [upd_ne (ne_of_none q1 hp)]
    exact I.bxT h
theorem EnvR.freshL (I : EnvR K E σ H δ) {p : Addr} {vs : List V} {ds : List D} (hp : H p = none) (r : RepA K E.bx (HH E σ δ H) vs ds) :
    EnvR K E σ (upd H p (.lst vs)) δ ∧ RepB K E σ (upd H p (.lst vs)) δ (.ref p) (.fresh (.lst ds)) := by
  obtain ⟨s, I2, hn, _⟩ := I.new (o := .lst vs) hp
  obtain ⟨I3, hs⟩ := I.fresh (o := .lst vs) hp
  exact ⟨I2, p, _, rfl, upd_same, hn, I3, .lst upd_same (r.mono hs)⟩
theorem EnvR.freshT (I : EnvR K E σ H δ) {p : Addr} {vs : List V} {ds : List D} (hp : H p = none) (r : RepA K E.bx (HH E σ δ H) vs ds) :
    EnvR K E σ (upd H p (.tup vs)) δ ∧ Rep K E.bx (HH E σ δ (upd H p (.tup vs))) (.ref p) (.tup ds) := by
  obtain ⟨s, I2, hn, e⟩ := I.new (o := .tup vs) hp
  exact ⟨I2, .tup (.inl (.inl e)) (r.mono (HH_grow s))⟩
end
/-! ### names and constants -/
def fVar (i : Nat) : DTE := fun δ R => match look δ i with
  | .no => False
  | .val d => R (.val d) δ
  | .own _ => R (.slot i) δ
def fC (d : D) : DTE := fun δ R => R (.val d) δ
section
variable {X : Cx} {L : Md} {pos : Pos}
theorem sim_var {K : PySem.W.Frag} {L : Md} (i : Nat) : SimE K L (tVar i) (fVar i) := fun E σ H δ R Q hl I h k => by
  unfold fVar at h
  cases e : look δ i with
  | no => rw [e] at h; exact h.elim
  | val d =>
    rw [e] at h
    obtain ⟨v, h1, h2⟩ := I.val i d (look_val e)
    exact ⟨v, h1, k v H δ (.val d) I h2 h⟩
  | own d =>
    rw [e] at h
    obtain ⟨a, h1, h2, _⟩ := I.own i d (look_own e)
    exact ⟨_, h1, k _ H δ (.slot i) I h1 h⟩
theorem dv (i : Nat) {x : Str} (hN : X.N[i]? = some x := by rfl) (hv : Vis X.env.scope x := by first | exact Or.inl rfl | exact Or.inr (Or.inl rfl) | exact Or.inr (Or.inr rfl)) (hd : (x == ("__debug__" : Str)) = false := by decide)
    (hcd : (x == ("__classdict__" : Str)) = false := by decide) : DE X L (.Name x pos) (fVar i) := ⟨pe_var hN hv hd hcd, sim_var i⟩
theorem sim_c {K : PySem.W.Frag} {L : Md} {v : V} {d : D} (h : ∀ bx H, Rep K bx H v d) : SimE K L (tC v) (fC d) := fun E σ H δ R Q hl I q k => k v H δ (.val d) I (h _ _) q
theorem d_int {i : Int} {j} : DE X L (.Constant (.int i) j pos) (fC (.int i)) := ⟨pe_int, sim_c fun _ _ => .int i⟩
theorem d_bl {b : Bool} {j} : DE X L (.Constant (.bool b) j pos) (fC (.bl b)) := ⟨pe_bl, sim_c fun _ _ => .bl b⟩
theorem d_non {j} : DE X L (.Constant .none j pos) (fC .non) := ⟨pe_non, sim_c fun _ _ => .non⟩
theorem d_str {x : Str} {j} : DE X L (.Constant (.str x) j pos) (fC (.str x)) := ⟨pe_str, sim_c fun _ _ => .str x⟩
/-- a written thing of the module -/
theorem d_glob {x : Str} {v : V} {u : Value} {d : D} (hg : Gl X x) (hm : X.mg x = some u) (r : RelV v u) (h : ∀ bx H, Rep X.K bx H v d) (hd : (x == ("__debug__" : Str)) = false := by decide) : DE X L (.Name x pos) (fC d) :=
  ⟨pe_glob hg hm r hd, sim_c h⟩
end
/-! ### operators -/
/-- an operation by values, and what it is of data -/
def DOp (K : PySem.W.Frag) (r : R2) (g : D → D → (BV → Prop) → Prop) : Prop := ∀ (E : EC) (σ : St) (H : Hp) (δ : DSt) (x y : V) (dx dy : D) (R : BV → Prop) (Q : VK), EnvR K E σ H δ →
  RootR K E.bx H (HH E σ δ H) x dx → RootR K E.bx H (HH E σ δ H) y dy → g dx dy R → (∀ v H' b, EnvR K E σ H' δ → RepB K E σ H' δ v b → R b → Q v H') → r x y H Q
def fOp (g : D → D → (BV → Prop) → Prop) (fa fb : DTE) : DTE := fun δ R => fa δ fun x δ1 => fb δ1 fun y δ2 => withD δ2 x fun dx => withD δ2 y fun dy => g dx dy fun b => R b δ2
theorem sim_op {K : PySem.W.Frag} {L : Md} {r : R2} {g : D → D → (BV → Prop) → Prop} {ta tb : TE} {fa fb : DTE} (hr : DOp K r g) (ha : SimE K L ta fa) (hb : SimE K L tb fb) : SimE K L (tOp r ta tb) (fOp g fa fb) := fun E σ H δ R Q hl I h k => by
  refine ha E σ H δ _ _ hl I h fun x H1 δ1 bx I1 r1 h1 => ?_
  refine hb { E with H0 := HH E σ δ1 H1 } σ H1 δ1 _ _ hl I1.pin h1 fun y H2 δ2 by_ J2 r2 h2 => ?_
  have I2 := I1.unpin J2
  obtain ⟨dx, q1, h3⟩ := RepW.withD I2 (r1.weak.keep J2) h2
  obtain ⟨dy, q2, h4⟩ := RepW.withD I2 ((r2.unpin I1.base).weak) h3
  exact hr E σ H2 δ2 x y dx dy _ Q I2 q1 q2 h4 fun v H' b I' r' q => k v H' δ2 b I' r' q
theorem DOp.or {K : PySem.W.Frag} {r r' : R2} {g g' : D → D → (BV → Prop) → Prop} (h : DOp K r g) (h' : DOp K r' g') : DOp K (fun x y H Q => r x y H Q ∨ r' x y H Q) (fun x y R => g x y R ∨ g' x y R) :=
  fun E σ H δ x y dx dy R Q I rx ry q k => q.elim (fun q => .inl (h E σ H δ x y dx dy R Q I rx ry q k)) fun q => .inr (h' E σ H δ x y dx dy R Q I rx ry q k)
theorem DOp.imp {K : PySem.W.Frag} {r : R2} {g g' : D → D → (BV → Prop) → Prop} (h : DOp K r g) (e : ∀ x y R, g' x y R → g x y R) : DOp K r g' :=
  fun E σ H δ x y dx dy R Q I rx ry q k => h E σ H δ x y dx dy R Q I rx ry (e _ _ _ q) k
section
variable {X : Cx} {L : Md} {a b c : Expr} {ta tb tc : TE} {fa fb fc : DTE} {pos : Pos}
theorem d_op {op : Operator} {r : R2} {g : D → D → (BV → Prop) → Prop} (ho : OpR X (binaryOp op) r ∧ DOp X.K r g) (ha : DE X L a fa) (hb : DE X L b fb) : DE X L (.BinOp a op b pos) (fOp g fa fb) :=
  ⟨pe_op ho.1 ha.pe hb.pe, sim_op ho.2 ha.sim hb.sim⟩
theorem isT {p : Addr} {xs : List V} {H : Hp} {K : PySem.W.Frag} (h : H p = some (.lst xs)) : SqL K H p xs := .inl (.inl h)
/-- + -/
def gAdd : D → D → (BV → Prop) → Prop
  | .int i, .int j, R => R (.val (.int (i + j)))
  | .int i, .bl j, R => R (.val (.int (i + b2i j)))
  | .str x, .str y, R => x.length + y.length ≤ 16000000 ∧ R (.val (.str (x ++ y)))
  | .lst xs, .lst ys, R => xs.length + ys.length ≤ 16000000 ∧ R (.fresh (.lst (xs ++ ys)))
  | .tup xs, .tup ys, R => xs.length + ys.length ≤ 16000000 ∧ R (.val (.tup (xs ++ ys)))
  | _, _, _ => False
def rAdd (K : PySem.W.Frag) : R2 := fun x y H Q => (rI0 (fun i j => .int (i + j)) x y H Q ∨ (∃ i k, x = .int i ∧ y = .bl k ∧ Q (.int (i + b2i k)) H)) ∨ (∃ i j, x = .str i ∧ y = .str j ∧ i.length + j.length ≤ sizeLine ∧ Q (.str (i ++ j)) H) ∨ rCat x y H Q ∨ rCatA K x y H Q
theorem o_add : OpR X (binaryOp .Add) (rAdd X.K) ∧ DOp X.K (rAdd X.K) gAdd := by
  refine ⟨(op_add.or op_add_ib).or (op_add_str.or (op_cat.or op_catA)), fun E σ H δ x y dx dy R Q I rx ry q k => ?_⟩
  cases rx with
  | int i => cases ry with
    | int j => exact .inl (.inl ⟨i, j, rfl, rfl, k _ _ (.val _) I (Rep.int _) q⟩)
    | bl j => exact .inl (.inr ⟨i, j, rfl, rfl, k _ _ (.val _) I (Rep.int _) q⟩)
    | _ => exact q.elim
  | str x => cases ry with
    | str y => exact .inr (.inl ⟨x, y, rfl, rfl, szL q.1, k _ _ (.val _) I (Rep.str _) q.2⟩)
    | _ => exact q.elim
  | lst h1 r1 => cases ry with
    | lst h2 r2 =>
      refine .inr (.inr (.inl ⟨_, _, _, _, rfl, rfl, h1, h2, ?_, fun p hp => ?_⟩))
      · rw [r1.length, r2.length]; exact szL q.1
      · obtain ⟨I2, r⟩ := I.freshL hp (r1.append r2)
        exact k _ _ _ I2 r q.2
    | _ => exact q.elim
  | @tup a1 vs1 ds1 h1 r1 => cases ry with
    | @tup a2 vs2 ds2 h2 r2 =>
      refine .inr (.inr (.inr ⟨_, _, _, _, rfl, rfl, Same.sqT (hid_same _ _) h1, Same.sqT (hid_same _ _) h2, ?_, fun e => ?_, fun n e => ?_, fun n1 n2 p hp => ?_⟩))
      · rw [r1.length, r2.length]; exact szL q.1
      · have e2 : ds1 = [] := List.length_eq_zero_iff.mp (by rw [← r1.length, e]; rfl)
        subst e2
        exact k _ _ (.val (.tup ds2)) I (Rep.tup h2 r2) q.2
      · have e2 : ds2 = [] := List.length_eq_zero_iff.mp (by rw [← r2.length, e]; rfl)
        subst e2
        exact k _ _ (.val (.tup ds1)) I (Rep.tup h1 r1) (by rw [← List.append_nil ds1]; exact q.2)
      · obtain ⟨I2, r⟩ := I.freshT hp (r1.append r2)
        exact k _ _ (.val _) I2 r q.2
    | _ => exact q.elim
  | _ => cases ry <;> exact q.elim
/-- ints in, a value out -/
theorem dop_int {K : PySem.W.Frag} {C : Int → Int → Prop} {h : Int → Int → Int} : DOp K (rI C fun i j => .int (h i j)) (fun x y R => ∃ i j, x = .int i ∧ y = .int j ∧ C i j ∧ R (.val (.int (h i j)))) := by
  intro E σ H δ x y dx dy R Q I rx ry q k
  obtain ⟨i, j, rfl, rfl, hc, q⟩ := q
  cases rx
  cases ry
  exact ⟨i, j, rfl, rfl, hc, k _ _ (.val _) I (Rep.int _) q⟩
theorem dop_int0 {K : PySem.W.Frag} {h : Int → Int → Int} : DOp K (rI0 fun i j => .int (h i j)) (fun x y R => ∃ i j, x = .int i ∧ y = .int j ∧ R (.val (.int (h i j)))) := by
  intro E σ H δ x y dx dy R Q I rx ry q k
  obtain ⟨i, j, rfl, rfl, q⟩ := q
  cases rx
  cases ry
  exact ⟨i, j, rfl, rfl, k _ _ (.val _) I (Rep.int _) q⟩
theorem dop_bl0 {K : PySem.W.Frag} {h : Int → Int → Bool} : DOp K (rI0 fun i j => .bl (h i j)) (fun x y R => ∃ i j, x = .int i ∧ y = .int j ∧ R (.val (.bl (h i j)))) := by
  intro E σ H δ x y dx dy R Q I rx ry q k
  obtain ⟨i, j, rfl, rfl, q⟩ := q
  cases rx
  cases ry
  exact ⟨i, j, rfl, rfl, k _ _ (.val _) I (Rep.bl _) q⟩
def gSub : D → D → (BV → Prop) → Prop
  | .int i, .int j, R => R (.val (.int (i - j)))
  | _, _, _ => False
theorem o_sub : OpR X (binaryOp .Sub) (rI0 fun i j => .int (i - j)) ∧ DOp X.K (rI0 fun i j => .int (i - j)) gSub :=
  ⟨op_sub, dop_int0.imp fun x y R q => by
    cases x <;> first
      | exact q.elim
      | (cases y <;> first
          | exact q.elim
          | exact ⟨_, _, rfl, rfl, q⟩)⟩
/-- small numbers -/
def SmI (i : Int) : Prop := -18446744073709551616 < i ∧ i < 18446744073709551616
/-- a product that the model makes: one factor is small, or both together have less than a million bits -/
def MulC (i j : Int) : Prop := SmI i ∨ SmI j ∨ i.natAbs.log2 + j.natAbs.log2 < 1000000
theorem MulC.ok {i j : Int} (h : MulC i j) : IntMulOk i j := by
  have e : ((2 : Int) ^ 64) = 18446744073709551616 := by decide
  rcases h with h | h | h
  · exact CMul.ok (.inl ⟨by rw [e]; exact h.1, by rw [e]; exact h.2⟩)
  · exact CMul.ok (.inr ⟨by rw [e]; exact h.1, by rw [e]; exact h.2⟩)
  · exact CMulW.ok h
theorem op_mulD : OpR X (binaryOp .Mult) (rI MulC fun i j => .int (i * j)) := opI fun _ _ _ _ _ _ _ hc q => mul_int q hc.ok
def gMul : D → D → (BV → Prop) → Prop
  | .int i, .int j, R => MulC i j ∧ R (.val (.int (i * j)))
  | .lst xs, .int k, R => k < 2 ^ 63 ∧ -(2 ^ 63) ≤ k ∧ xs.length * k.toNat ≤ 16000000 ∧ R (.fresh (.lst (List.replicate k.toNat xs).flatten))
  | _, _, _ => False
def rMulD : R2 := fun x y H Q => rI MulC (fun i j => .int (i * j)) x y H Q ∨ rRep x y H Q
theorem RepA.rep {K : PySem.W.Frag} {bx : Addr} {H : Hp} {vs : List V} {ds : List D} (h : RepA K bx H vs ds) : ∀ k : Nat, RepA K bx H (List.replicate k vs).flatten (List.replicate k ds).flatten
  | 0 => .nil
  | k + 1 => by
    rw [List.replicate_succ, List.replicate_succ, List.flatten_cons, List.flatten_cons]
    exact h.append (RepA.rep h k)
theorem o_mul : OpR X (binaryOp .Mult) rMulD ∧ DOp X.K rMulD gMul := by
  refine ⟨op_mulD.or op_rep, fun E σ H δ x y dx dy R Q I rx ry q k => ?_⟩
  cases rx with
  | int i => cases ry with
    | int j => exact .inl ⟨i, j, rfl, rfl, q.1, k _ _ (.val _) I (Rep.int _) q.2⟩
    | _ => exact q.elim
  | lst h1 r1 => cases ry with
    | int j =>
      refine .inr ⟨_, j, _, rfl, rfl, h1, q.2.1, q.1, ?_, fun p hp => ?_⟩
      · rw [r1.length]; exact szL q.2.2.1
      · obtain ⟨I2, r⟩ := I.freshL hp (r1.rep j.toNat)
        exact k _ _ _ I2 r q.2.2.2
    | _ => exact q.elim
  | _ => cases ry <;> exact q.elim
def DivC (j : Int) : Prop := j ≠ 0 ∧ (SmI j ∨ j.natAbs.log2 < 9000)
theorem DivC_log {j : Int} (h : DivC j) : j.natAbs.log2 < 9000 := by
  rcases h.2 with h | h
  · have h1 := h.1
    have h2 := h.2
    have : j.natAbs < 2 ^ 65 := by omega
    exact Nat.lt_of_lt_of_le (PySem.Flt.log2_lt_of (by decide) this) (by decide)
  · exact h
theorem op_fdivD : OpR X (binaryOp .FloorDiv) (rI (fun _ j => DivC j) fun i j => .int (i.fdiv j)) := opI fun _ _ _ _ _ _ _ hc q => floordiv_int hc.1 q (.inl (PyProof.noPylong_of_log2 (DivC_log hc)))
def gFdiv : D → D → (BV → Prop) → Prop
  | .int i, .int j, R => DivC j ∧ R (.val (.int (i.fdiv j)))
  | _, _, _ => False
theorem o_fdiv : OpR X (binaryOp .FloorDiv) (rI (fun _ j => DivC j) fun i j => .int (i.fdiv j)) ∧ DOp X.K (rI (fun _ j => DivC j) fun i j => .int (i.fdiv j)) gFdiv :=
  ⟨op_fdivD, dop_int.imp fun x y R q => by
    cases x <;> first
      | exact q.elim
      | (cases y <;> first
          | exact q.elim
          | exact ⟨_, _, rfl, rfl, q.1, q.2⟩)⟩
def gMod : D → D → (BV → Prop) → Prop
  | .int i, .int j, R => j ≠ 0 ∧ R (.val (.int (i.fmod j)))
  | _, _, _ => False
theorem o_mod : OpR X (binaryOp .Mod) (rI (fun _ j => j ≠ 0) fun i j => .int (i.fmod j)) ∧ DOp X.K (rI (fun _ j => j ≠ 0) fun i j => .int (i.fmod j)) gMod :=
  ⟨op_modN, dop_int.imp fun x y R q => by
    cases x <;> first
      | exact q.elim
      | (cases y <;> first
          | exact q.elim
          | exact ⟨_, _, rfl, rfl, q.1, q.2⟩)⟩
def gPow : D → D → (BV → Prop) → Prop
  | .int i, .int j, R => CPow i j ∧ R (.val (.int (i ^ j.toNat)))
  | _, _, _ => False
theorem o_pow : OpR X (binaryOp .Pow) (rI CPow fun i j => .int (i ^ j.toNat)) ∧ DOp X.K (rI CPow fun i j => .int (i ^ j.toNat)) gPow :=
  ⟨op_pow, dop_int.imp fun x y R q => by
    cases x <;> first
      | exact q.elim
      | (cases y <;> first
          | exact q.elim
          | exact ⟨_, _, rfl, rfl, q.1, q.2⟩)⟩
def fNeg (fa : DTE) : DTE := fun δ R => fa δ fun x δ1 => withD δ1 x fun d => match d with
  | .int i => R (.val (.int (-i))) δ1
  | _ => False
theorem d_neg (ha : DE X L a fa) : DE X L (.UnaryOp .USub a pos) (fNeg fa) := by
  refine ⟨pe_un un_neg ha.pe, fun E σ H δ R Q hl I h k => ha.sim E σ H δ _ _ hl I h fun x H1 δ1 b I1 r1 h1 => ?_⟩
  obtain ⟨d, q1, h2⟩ := RepW.withD I1 r1.weak h1
  cases q1 with
  | int i => exact ⟨i, rfl, k _ _ _ (.val _) I1 (Rep.int _) h2⟩
  | _ => exact h2.elim
/-! ### comparisons -/
mutual
def toPy : D → PyData
  | .non => .none
  | .bl b => .bool b
  | .int i => .int i
  | .str x => .str x
  | .tup ds => .tuple (toPys ds)
  | .ptp ds => .tuple (toPys ds)
  | .lst ds => .list (toPys ds)
  | .dk _ => .dict []
  | .dt _ => .dict []
  | .scr _ => .dict []
  | .box => .dict []
def toPys : List D → List PyData
  | [] => []
  | d :: r => toPy d :: toPys r
end
mutual
theorem Rep.dp {K : PySem.W.Frag} {bx : Addr} {H : Hp} : ∀ {d : D} {v : V}, Rep K bx H v d → (toPy d).canLay0 = true → Dp K H v (toPy d)
  | _, _, .non, _ => .non
  | _, _, .bl b, _ => .bl b
  | _, _, .int i, _ => .int i
  | _, _, .str x, _ => .str x
  | .tup ds, _, .tup h r, e => .tup h (RepA.dp r e)
  | .ptp ds, _, .ptp h _ r, e => .tup h (RepA.dp r e)
  | .lst ds, _, .lst h r, e => .lst (.inl (.inl h)) (RepA.dp r e)
  | _, _, .dk _ _, e => by cases e
  | _, _, .dt _ _, e => by cases e
  | _, _, .scr _, e => by cases e
  | _, _, .box, e => by cases e
theorem RepA.dp {K : PySem.W.Frag} {bx : Addr} {H : Hp} : ∀ {ds : List D} {vs : List V}, RepA K bx H vs ds → PyData.canLayAll0 (toPys ds) = true → DpAll K H vs (toPys ds)
  | _, _, .nil, _ => .nil
  | d :: ds, _, .cons h r, e => by
    have e' : ((toPy d).canLay0 && PyData.canLayAll0 (toPys ds)) = true := e
    rw [Bool.and_eq_true] at e'
    exact .cons (Rep.dp h e'.1) (RepA.dp r e'.2)
end
def ShD (d : D) : Prop := SeqAt.shaped (toPy d) = true
theorem ShD.lay {d : D} (h : ShD d) : (toPy d).canLay0 = true := by
  unfold ShD SeqAt.shaped at h
  rw [Bool.and_eq_true] at h
  exact h.1
def eqD (x y : D) : Bool := PyData.eqv (toPy x) (toPy y)
def gEq (x y : D) (R : BV → Prop) : Prop := ShD x ∧ ShD y ∧ R (.val (.bl (eqD x y)))
def gNe (x y : D) (R : BV → Prop) : Prop := ShD x ∧ ShD y ∧ R (.val (.bl (!eqD x y)))
theorem o_eq (hu : X.A.units + 64 < cLine) : OpR X (compareOp .Eq) (rEqD X.K) ∧ DOp X.K (rEqD X.K) gEq :=
  ⟨op_eqD hu, fun E σ H δ x y dx dy R Q I rx ry q k => ⟨_, _, (rx.rep (hid_same _ _)).dp q.1.lay, (ry.rep (hid_same _ _)).dp q.2.1.lay, q.1, q.2.1, k _ _ (.val _) I (Rep.bl _) q.2.2⟩⟩
theorem o_ne (hu : X.A.units + 64 < cLine) : OpR X (compareOp .NotEq) (rNeD X.K) ∧ DOp X.K (rNeD X.K) gNe :=
  ⟨op_neD hu, fun E σ H δ x y dx dy R Q I rx ry q k => ⟨_, _, (rx.rep (hid_same _ _)).dp q.1.lay, (ry.rep (hid_same _ _)).dp q.2.1.lay, q.1, q.2.1, k _ _ (.val _) I (Rep.bl _) q.2.2⟩⟩
def gLt : D → D → (BV → Prop) → Prop
  | .int i, .int j, R => R (.val (.bl (decide (i < j))))
  | .str x, .str y, R => R (.val (.bl (decide (x.cps.toList < y.cps.toList))))
  | _, _, _ => False
def rLtD : R2 := fun x y H Q => rI0 (fun i j => .bl (decide (i < j))) x y H Q ∨ (∃ i j, x = .str i ∧ y = .str j ∧ Q (.bl (decide (i.cps.toList < j.cps.toList))) H)
theorem o_lt : OpR X (compareOp .Lt) rLtD ∧ DOp X.K rLtD gLt := by
  refine ⟨op_lt.or op_lt_str, fun E σ H δ x y dx dy R Q I rx ry q k => ?_⟩
  cases rx with
  | int i => cases ry with
    | int j => exact .inl ⟨i, j, rfl, rfl, k _ _ (.val _) I (Rep.bl _) q⟩
    | _ => exact q.elim
  | str x => cases ry with
    | str y => exact .inr ⟨x, y, rfl, rfl, k _ _ (.val _) I (Rep.bl _) q⟩
    | _ => exact q.elim
  | _ => cases ry <;> exact q.elim
def gLe : D → D → (BV → Prop) → Prop
  | .int i, .int j, R => R (.val (.bl (decide (i ≤ j))))
  | _, _, _ => False
theorem o_le : OpR X (compareOp .LtE) (rI0 fun i j => .bl (decide (i ≤ j))) ∧ DOp X.K (rI0 fun i j => .bl (decide (i ≤ j))) gLe :=
  ⟨op_le, dop_bl0.imp fun x y R q => by
    cases x <;> first
      | exact q.elim
      | (cases y <;> first
          | exact q.elim
          | exact ⟨_, _, rfl, rfl, q⟩)⟩
def gGt : D → D → (BV → Prop) → Prop
  | .int i, .int j, R => R (.val (.bl (decide (j < i))))
  | _, _, _ => False
theorem o_gt : OpR X (compareOp .Gt) (rI0 fun i j => .bl (decide (j < i))) ∧ DOp X.K (rI0 fun i j => .bl (decide (j < i))) gGt :=
  ⟨op_gt, dop_bl0.imp fun x y R q => by
    cases x <;> first
      | exact q.elim
      | (cases y <;> first
          | exact q.elim
          | exact ⟨_, _, rfl, rfl, q⟩)⟩
def gGe : D → D → (BV → Prop) → Prop
  | .int i, .int j, R => R (.val (.bl (decide (j ≤ i))))
  | _, _, _ => False
theorem o_ge : OpR X (compareOp .GtE) (rI0 fun i j => .bl (decide (j ≤ i))) ∧ DOp X.K (rI0 fun i j => .bl (decide (j ≤ i))) gGe :=
  ⟨op_ge, dop_bl0.imp fun x y R q => by
    cases x <;> first
      | exact q.elim
      | (cases y <;> first
          | exact q.elim
          | exact ⟨_, _, rfl, rfl, q⟩)⟩
/-- is: against None, True, False -/
def isD (x y : D) : Option Bool := match y with
  | .non => match x with
    | .non => some true
    | _ => some false
  | .bl b => match x with
    | .bl a => some (decide (a = b))
    | .box => none
    | _ => some false
  | _ => none
/-- a value of another kind than a truth value -/
def rIsO (r : Bool) : R2 := fun x y H Q => ∃ b, (x = .non ∨ (∃ i, x = .int i) ∨ (∃ i, x = .str i) ∨ ∃ a, x = .ref a) ∧ y = .bl b ∧ Q (.bl r) H
theorem op_isO : OpR X (compareOp .Is) (rIsO false) := by
  intro pins s σ H x y v u Q I rx ry h
  obtain ⟨b, hx, rfl, q⟩ := h
  cases (show u = Value.bool b from ry)
  rcases hx with rfl | ⟨i, rfl⟩ | ⟨i, rfl⟩ | ⟨i, rfl⟩
  · cases (show v = Value.none from rx)
    exact wpAny_is_other rfl (fun z => by cases z) ⟨.bl false, H, I, rfl, q⟩
  · obtain ⟨t, rfl⟩ := (show ∃ t, v = Value.int i t from rx)
    exact wpAny_is_other rfl (fun z => by cases z) ⟨.bl false, H, I, rfl, q⟩
  · obtain ⟨t, rfl⟩ := (show ∃ t, v = Value.str i t from rx)
    exact wpAny_is_other rfl (fun z => by cases z) ⟨.bl false, H, I, rfl, q⟩
  · cases (show v = Value.ref i from rx)
    exact wpAny_is_other rfl (fun z => by cases z) ⟨.bl false, H, I, rfl, q⟩
theorem op_notO : OpR X (compareOp .IsNot) (rIsO true) := by
  intro pins s σ H x y v u Q I rx ry h
  obtain ⟨b, hx, rfl, q⟩ := h
  cases (show u = Value.bool b from ry)
  rcases hx with rfl | ⟨i, rfl⟩ | ⟨i, rfl⟩ | ⟨i, rfl⟩
  · cases (show v = Value.none from rx)
    exact wpAny_isNot_other rfl (fun z => by cases z) ⟨.bl true, H, I, rfl, q⟩
  · obtain ⟨t, rfl⟩ := (show ∃ t, v = Value.int i t from rx)
    exact wpAny_isNot_other rfl (fun z => by cases z) ⟨.bl true, H, I, rfl, q⟩
  · obtain ⟨t, rfl⟩ := (show ∃ t, v = Value.str i t from rx)
    exact wpAny_isNot_other rfl (fun z => by cases z) ⟨.bl true, H, I, rfl, q⟩
  · cases (show v = Value.ref i from rx)
    exact wpAny_isNot_other rfl (fun z => by cases z) ⟨.bl true, H, I, rfl, q⟩
theorem root_non {K : PySem.W.Frag} {bx : Addr} {H Hh : Hp} {x : V} {d : D} (h : RootR K bx H Hh x d) : isD d .non = some (decide (x = .non)) := by
  cases h <;> rfl
def gIs (x y : D) (R : BV → Prop) : Prop := match isD x y with
  | some b => R (.val (.bl b))
  | none => False
def gIsnt (x y : D) (R : BV → Prop) : Prop := match isD x y with
  | some b => R (.val (.bl (!b)))
  | none => False
def rIsD : R2 := fun x y H Q => ((y = .non ∧ Q (.bl (decide (x = .non))) H) ∨ rIsB x y H Q) ∨ rIsO false x y H Q
def rIsntD : R2 := fun x y H Q => ((y = .non ∧ Q (.bl (!decide (x = .non))) H) ∨ rNotB x y H Q) ∨ rIsO true x y H Q
theorem o_is : OpR X (compareOp .Is) rIsD ∧ DOp X.K rIsD gIs := by
  refine ⟨(op_isN.or op_isBl).or op_isO, fun E σ H δ x y dx dy R Q I rx ry q k => ?_⟩
  cases ry with
  | non =>
    unfold gIs at q
    rw [root_non rx] at q
    exact .inl (.inl ⟨rfl, k _ _ (.val _) I (Rep.bl _) q⟩)
  | bl b => cases rx with
    | bl a => exact .inl (.inr ⟨a, b, rfl, rfl, k _ _ (.val _) I (Rep.bl _) q⟩)
    | box => exact q.elim
    | non => exact .inr ⟨b, .inl rfl, rfl, k _ _ (.val _) I (Rep.bl _) q⟩
    | int i => exact .inr ⟨b, .inr (.inl ⟨_, rfl⟩), rfl, k _ _ (.val _) I (Rep.bl _) q⟩
    | str i => exact .inr ⟨b, .inr (.inr (.inl ⟨_, rfl⟩)), rfl, k _ _ (.val _) I (Rep.bl _) q⟩
    | _ => exact .inr ⟨b, .inr (.inr (.inr ⟨_, rfl⟩)), rfl, k _ _ (.val _) I (Rep.bl _) q⟩
  | _ => cases rx <;> exact q.elim
theorem o_isnt : OpR X (compareOp .IsNot) rIsntD ∧ DOp X.K rIsntD gIsnt := by
  refine ⟨(op_notN.or op_notBl).or op_notO, fun E σ H δ x y dx dy R Q I rx ry q k => ?_⟩
  cases ry with
  | non =>
    unfold gIsnt at q
    rw [root_non rx] at q
    exact .inl (.inl ⟨rfl, k _ _ (.val _) I (Rep.bl _) q⟩)
  | bl b => cases rx with
    | bl a => exact .inl (.inr ⟨a, b, rfl, rfl, k _ _ (.val _) I (Rep.bl _) q⟩)
    | box => exact q.elim
    | non => exact .inr ⟨b, .inl rfl, rfl, k _ _ (.val _) I (Rep.bl _) q⟩
    | int i => exact .inr ⟨b, .inr (.inl ⟨_, rfl⟩), rfl, k _ _ (.val _) I (Rep.bl _) q⟩
    | str i => exact .inr ⟨b, .inr (.inr (.inl ⟨_, rfl⟩)), rfl, k _ _ (.val _) I (Rep.bl _) q⟩
    | _ => exact .inr ⟨b, .inr (.inr (.inr ⟨_, rfl⟩)), rfl, k _ _ (.val _) I (Rep.bl _) q⟩
  | _ => cases rx <;> exact q.elim
theorem d_cmp {op : CmpOp} {r : R2} {g : D → D → (BV → Prop) → Prop} (ho : OpR X (compareOp op) r ∧ DOp X.K r g) (ha : DE X L a fa) (hb : DE X L b fb) (hm : behindInMarks op b = false) : DE X L (.Compare a [op] [b] pos) (fOp g fa fb) :=
  ⟨pe_cmpR ho.1 ha.pe hb.pe hm, sim_op ho.2 ha.sim hb.sim⟩
/-- a value that is a truth value -/
def asB (b : BV) (k : Bool → Prop) : Prop := match b with
  | .val (.bl c) => k c
  | _ => False
def fTst (f : DTE) : DTT := fun δ R => f δ fun b δ1 => asB b fun c => R c δ1
theorem asB_of {K : PySem.W.Frag} {E : EC} {σ : St} {H : Hp} {δ : DSt} {v : V} {b : BV} {k : Bool → Prop} (r : RepB K E σ H δ v b) (h : asB b k) : ∃ c, v = .bl c ∧ k c := by
  cases b with
  | val d => cases d with
    | bl c => cases r; exact ⟨c, rfl, h⟩
    | _ => exact h.elim
  | _ => exact h.elim
theorem sim_tst {K : PySem.W.Frag} {L : Md} {t : TE} {f : DTE} (h : SimE K L t f) : SimT K L (tTest t) (fTst f) := fun E σ H δ R Q hl I q k => h E σ H δ _ _ hl I q fun v H' δ' b I' r q' => by
  obtain ⟨c, rfl, q'⟩ := asB_of r q'
  exact ⟨c, rfl, k c H' δ' I' q'⟩
theorem t_cmp {op : CmpOp} {r : R2} {g : D → D → (BV → Prop) → Prop} (ho : OpR X (compareOp op) r ∧ DOp X.K r g) (ha : DE X L a fa) (hb : DE X L b fb) (hm : behindInMarks op b = false) : DT X L (.Compare a [op] [b] pos) (fTst (fOp g fa fb)) :=
  ⟨pt_cmpR ho.1 ha.pe hb.pe hm, sim_tst (sim_op ho.2 ha.sim hb.sim)⟩
/-- a < b < c -/
def fChain (g g' : D → D → (BV → Prop) → Prop) (fa fb fc : DTE) : DTE := fun δ R => fa δ fun x δ1 => fb δ1 fun y δ2 => withD δ2 x fun dx => withD δ2 y fun dy => g dx dy fun b => asB b fun k =>
  if k = true then fc δ2 fun z δ3 => withD δ3 y fun dy => withD δ3 z fun dz => g' dy dz fun b => R b δ3 else R (.val (.bl false)) δ2
theorem sim_chain {K : PySem.W.Frag} {L : Md} {r r' : R2} {g g' : D → D → (BV → Prop) → Prop} {ta tb tc : TE} {fa fb fc : DTE} (hr : DOp K r g) (hr' : DOp K r' g') (ha : SimE K L ta fa) (hb : SimE K L tb fb) (hc : SimE K L tc fc) : SimE K L (tChain r r' ta tb tc) (fChain g g' fa fb fc) := fun E σ H δ R Q hl I h k => by
  refine ha E σ H δ _ _ hl I h fun x H1 δ1 bx I1 r1 h1 => ?_
  refine hb { E with H0 := HH E σ δ1 H1 } σ H1 δ1 _ _ hl I1.pin h1 fun y H2 δ2 by_ J2 r2 h2 => ?_
  have I2 := I1.unpin J2
  obtain ⟨dx, q1, h3⟩ := RepW.withD I2 (r1.weak.keep J2) h2
  obtain ⟨dy, q2, h4⟩ := RepW.withD I2 ((r2.unpin I1.base).weak) h3
  refine hr _ σ H2 δ2 x y dx dy _ _ I2.pin q1 q2 h4 fun v H3 b J3 r3 h5 => ?_
  have I3 := I2.unpin J3
  obtain ⟨c, rfl, h5⟩ := asB_of r3 h5
  refine ⟨c, rfl, ?_⟩
  cases c with
  | false =>
    simp only [Bool.false_eq_true, if_false] at h5 ⊢
    exact k _ _ _ (.val _) I3 (Rep.bl _) h5
  | true =>
    simp only [if_true] at h5 ⊢
    have ry := ((r2.unpin I1.base).weak).keep J3
    refine hc { E with H0 := HH E σ δ2 H3 } σ H3 δ2 _ _ hl I3.pin h5 fun z H4 δ4 bz J4 r4 h6 => ?_
    have I4 := I3.unpin J4
    obtain ⟨dy', q3, h7⟩ := RepW.withD I4 (ry.keep J4) h6
    obtain ⟨dz, q4, h8⟩ := RepW.withD I4 ((r4.unpin I3.base).weak) h7
    exact hr' E σ H4 δ4 y z dy' dz _ Q I4 q3 q4 h8 fun v H' b I' r' q => k v H' δ4 b I' r' q
theorem d_chain {op op' : CmpOp} {r r' : R2} {g g' : D → D → (BV → Prop) → Prop} (ho : OpR X (compareOp op) r ∧ DOp X.K r g) (ho' : OpR X (compareOp op') r' ∧ DOp X.K r' g') (ha : DE X L a fa) (hb : DE X L b fb) (hc : DE X L c fc)
    (hm : lastMarks [op, op'] [b, c] = false := by with_unfolding_all rfl) : DE X L (.Compare a [op, op'] [b, c] pos) (fChain g g' fa fb fc) :=
  ⟨pe_chain ho.1 ho'.1 ha.pe hb.pe hc.pe hm, sim_chain ho.2 ho'.2 ha.sim hb.sim hc.sim⟩
theorem t_chain {op op' : CmpOp} {r r' : R2} {g g' : D → D → (BV → Prop) → Prop} (ho : OpR X (compareOp op) r ∧ DOp X.K r g) (ho' : OpR X (compareOp op') r' ∧ DOp X.K r' g') (ha : DE X L a fa) (hb : DE X L b fb) (hc : DE X L c fc)
    (hm : lastMarks [op, op'] [b, c] = false := by with_unfolding_all rfl) : DT X L (.Compare a [op, op'] [b, c] pos) (fTst (fChain g g' fa fb fc)) :=
  ⟨pt_chain ho.1 ho'.1 ha.pe hb.pe hc.pe hm, sim_tst (sim_chain ho.2 ho'.2 ha.sim hb.sim hc.sim)⟩
/-! ### truth, and, or, not -/
def truD : D → (Bool → Prop) → Prop
  | .non, k => k false
  | .bl b, k => k b
  | .int i, k => k (i != 0)
  | .str x, k => x.length ≤ 16000000 ∧ k ((x.length : Int) != 0)
  | .tup ds, k => k !ds.isEmpty
  | .lst ds, k => k !ds.isEmpty
  | _, _ => False
theorem tru_of {K : PySem.W.Frag} {bx : Addr} {H Hh : Hp} {v : V} {d : D} {k : Bool → Prop} (e : Same Hh H) (r : RootR K bx H Hh v d) (h : truD d k) : ∃ c, TruV K v H c ∧ k c := by
  cases r with
  | non => exact ⟨_, rfl, h⟩
  | bl b => exact ⟨_, rfl, h⟩
  | int i => exact ⟨_, rfl, h⟩
  | str x => exact ⟨_, ⟨szL h.1, rfl⟩, h.2⟩
  | tup h1 r1 => exact ⟨_, .inr (.inl ⟨_, Same.sqT e h1, rfl⟩), by cases r1 <;> exact h⟩
  | lst h1 r1 => exact ⟨_, .inl ⟨_, .inl (.inl h1), rfl⟩, by cases r1 <;> exact h⟩
  | _ => exact h.elim
def fTru (f : DTE) : DTT := fun δ R => f δ fun b δ1 => withD δ1 b fun d => truD d fun c => R c δ1
theorem t_tru (ha : DE X L a fa) (he : ∀ whole, isTrue a X.env whole = (do let v ← whole; standAt a.pos; holding [v] (truthy v)) := by intro _; rfl) : DT X L a (fTru fa) := by
  refine ⟨pt_truth ha.pe he, fun E σ H δ R Q hl I h k => ha.sim E σ H δ _ _ hl I h fun x H1 δ1 b I1 r1 h1 => ?_⟩
  obtain ⟨d, q1, h2⟩ := RepW.withD I1 r1.weak h1
  obtain ⟨c, q2, h3⟩ := tru_of (hid_same _ _) q1 h2
  exact ⟨c, q2, k c H1 δ1 I1 h3⟩
variable {ua ub : TT} {pa pb : DTT} {rest : List Expr}
def fAnd (p q : DTT) : DTT := fun δ R => p δ fun c δ1 => if c = true then q δ1 R else R false δ1
def fOr (p q : DTT) : DTT := fun δ R => p δ fun c δ1 => if c = true then R true δ1 else q δ1 R
def fNot (p : DTT) : DTT := fun δ R => p δ fun c δ1 => R (!c) δ1
theorem w_and1 (ha : DT X L a pa) : DW X L (.BoolOp .And [a] pos) pa := ⟨pw_and1 ha.pt, ha.sim⟩
theorem w_or1 (ha : DT X L a pa) : DW X L (.BoolOp .Or [a] pos) pa := ⟨pw_or1 ha.pt, ha.sim⟩
theorem w_and (ha : DT X L a pa) (hb : DW X L (.BoolOp .And (b :: rest) pos) pb) : DW X L (.BoolOp .And (a :: b :: rest) pos) (fAnd pa pb) :=
  ⟨pw_and ha.pt hb.pw, fun E σ H δ R Q hl I h k => ha.sim E σ H δ _ _ hl I h fun c H1 δ1 I1 h1 => by
    cases c with
    | true => exact hb.sim E σ H1 δ1 R Q hl I1 h1 k
    | false => exact k false H1 δ1 I1 h1⟩
theorem w_or (ha : DT X L a pa) (hb : DW X L (.BoolOp .Or (b :: rest) pos) pb) : DW X L (.BoolOp .Or (a :: b :: rest) pos) (fOr pa pb) :=
  ⟨pw_or ha.pt hb.pw, fun E σ H δ R Q hl I h k => ha.sim E σ H δ _ _ hl I h fun c H1 δ1 I1 h1 => by
    cases c with
    | false => exact hb.sim E σ H1 δ1 R Q hl I1 h1 k
    | true => exact k true H1 δ1 I1 h1⟩
theorem t_w (h : DW X L a pa) : DT X L a pa := ⟨h.pw.pt, h.sim⟩
theorem t_not (ha : DT X L a pa) : DT X L (.UnaryOp .Not a pos) (fNot pa) :=
  ⟨pt_not ha.pt, fun E σ H δ R Q hl I h k => ha.sim E σ H δ _ _ hl I h fun c H1 δ1 I1 h1 => k _ H1 δ1 I1 h1⟩
/-- .. as values, all but the last truth values -/
def fAndV (fa fb : DTE) : DTE := fun δ R => fa δ fun x δ1 => asB x fun c => if c = true then fb δ1 R else R (.val (.bl false)) δ1
def fOrV (fa fb : DTE) : DTE := fun δ R => fa δ fun x δ1 => asB x fun c => if c = true then R (.val (.bl true)) δ1 else fb δ1 R
def fNotV (p : DTT) : DTE := fun δ R => p δ fun c δ1 => R (.val (.bl (!c))) δ1
theorem d_one {op} (h : DE X L a fa) : DE X L (.BoolOp op [a] pos) fa := ⟨pe_one h.pe, h.sim⟩
theorem d_and (ha : DE X L a fa) (hb : DE X L (.BoolOp .And (b :: rest) pos) fb) : DE X L (.BoolOp .And (a :: b :: rest) pos) (fAndV fa fb) :=
  ⟨pe_and ha.pe hb.pe, fun E σ H δ R Q hl I h k => ha.sim E σ H δ _ _ hl I h fun x H1 δ1 b I1 r1 h1 => by
    obtain ⟨c, rfl, h1⟩ := asB_of r1 h1
    refine ⟨c, rfl, ?_⟩
    cases c with
    | true => exact hb.sim E σ H1 δ1 R Q hl I1 h1 k
    | false => exact k _ H1 δ1 (.val _) I1 (Rep.bl _) h1⟩
theorem d_or (ha : DE X L a fa) (hb : DE X L (.BoolOp .Or (b :: rest) pos) fb) : DE X L (.BoolOp .Or (a :: b :: rest) pos) (fOrV fa fb) :=
  ⟨pe_or ha.pe hb.pe, fun E σ H δ R Q hl I h k => ha.sim E σ H δ _ _ hl I h fun x H1 δ1 b I1 r1 h1 => by
    obtain ⟨c, rfl, h1⟩ := asB_of r1 h1
    refine ⟨c, rfl, ?_⟩
    cases c with
    | false => exact hb.sim E σ H1 δ1 R Q hl I1 h1 k
    | true => exact k _ H1 δ1 (.val _) I1 (Rep.bl _) h1⟩
def fNotB (fa : DTE) : DTE := fun δ R => fa δ fun x δ1 => asB x fun c => R (.val (.bl (!c))) δ1
theorem d_not (ha : DE X L a fa) : DE X L (.UnaryOp .Not a pos) (fNotB fa) :=
  ⟨pe_not ha.pe, fun E σ H δ R Q hl I h k => ha.sim E σ H δ _ _ hl I h fun x H1 δ1 b I1 r1 h1 => by
    obtain ⟨c, rfl, h1⟩ := asB_of r1 h1
    exact ⟨c, rfl, k _ H1 δ1 (.val _) I1 (Rep.bl _) h1⟩⟩
def fIfE (p : DTT) (fa fb : DTE) : DTE := fun δ R => p δ fun c δ1 => if c = true then fa δ1 R else fb δ1 R
theorem d_if (hc : DT X L c pa) (ha : DE X L a fa) (hb : DE X L b fb) : DE X L (.IfExp c a b pos) (fIfE pa fa fb) :=
  ⟨pe_ifExp hc.pt ha.pe hb.pe, fun E σ H δ R Q hl I h k => hc.sim E σ H δ _ _ hl I h fun c H1 δ1 I1 h1 => by
    cases c with
    | true => exact ha.sim E σ H1 δ1 R Q hl I1 h1 k
    | false => exact hb.sim E σ H1 δ1 R Q hl I1 h1 k⟩
end
end DL
set_option Elab.async false
set_option linter.all false
set_option maxRecDepth 100000
set_option autoImplicit false
/-! DL, part c: arguments, displays, subscripts, calls. -/
namespace DL
open PySem PySem.Spec L2
open PyProof.Rows hiding St
/-! ### arguments -/
def forceL : List BV → DSt → (List D → DSt → Prop) → Prop
  | [], δ, k => k [] δ
  | b :: bs, δ, k => force b δ fun d δ1 => forceL bs δ1 fun ds δ2 => k (d :: ds) δ2
def withL (δ : DSt) : List BV → (List D → Prop) → Prop
  | [], k => k []
  | b :: bs, k => withD δ b fun d => withL δ bs fun ds => k (d :: ds)
inductive RootRs (K : PySem.W.Frag) (bx : Addr) (H Hh : Hp) : List V → List D → Prop
  | nil : RootRs K bx H Hh [] []
  | cons {v : V} {vs : List V} {d : D} {ds : List D} : RootR K bx H Hh v d → RootRs K bx H Hh vs ds → RootRs K bx H Hh (v :: vs) (d :: ds)
section
variable {K : PySem.W.Frag} {E : EC} {σ : St} {H H' : Hp} {δ δ' : DSt}
theorem RepWs.force : ∀ {E : EC} {vs : List V} {bs : List BV} {δ : DSt} {k : List D → DSt → Prop}, EnvR K E σ H δ → RepWs K E σ H δ vs bs → forceL bs δ k →
    ∃ ds δ', EnvR K E σ H δ' ∧ RepA K E.bx (HH E σ δ' H) vs ds ∧ k ds δ'
  | E, _, _, δ, k, I, .nil, h => ⟨[], δ, I, .nil, h⟩
  | E, _, _, δ, k, I, .cons r t, h => by
    obtain ⟨d, δ1, J1, r1, h1⟩ := RepW.force (E := { E with H0 := HH E σ δ H }) I.pin r h
    have I1 := I.unpin J1
    obtain ⟨ds, δ2, J2, r2, h2⟩ := RepWs.force (E := { E with H0 := HH E σ δ1 H }) I1.pin (RepWs.keep J1 t) h1
    exact ⟨d :: ds, δ2, I1.unpin J2, .cons (Rep.mono J2.base r1) r2, h2⟩
theorem RepWs.withL : ∀ {vs : List V} {bs : List BV} {k : List D → Prop}, EnvR K E σ H δ → RepWs K E σ H δ vs bs → withL δ bs k → ∃ ds, RootRs K E.bx H (HH E σ δ H) vs ds ∧ k ds
  | _, _, k, I, .nil, h => ⟨[], .nil, h⟩
  | _, _, k, I, .cons r t, h => by
    obtain ⟨d, r1, h1⟩ := RepW.withD I r h
    obtain ⟨ds, r2, h2⟩ := RepWs.withL I t h1
    exact ⟨d :: ds, .cons r1 r2, h2⟩
end
def fNil : DTA := fun δ R => R [] δ
def fCons (fa : DTE) (fr : DTA) : DTA := fun δ R => fa δ fun b δ1 => fr δ1 fun bs δ2 => R (b :: bs) δ2
section
variable {X : Cx} {L : Md} {e a b c : Expr} {es : List Expr} {te ta tb tc : TE} {t : TA} {fe fa fb fc : DTE} {f : DTA} {pos : Pos}
theorem a_nil : DA X L [] fNil := ⟨pa_nil, fun E σ H δ R Q hl I h k => k [] H δ [] I .nil h⟩
theorem a_cons (ha : DE X L e fe) (hr : DA X L es f) (hs : starEach (e :: es) X.env = (false, eval e X.env) :: starEach es X.env := by rfl) : DA X L (e :: es) (fCons fe f) :=
  ⟨pa_cons ha.pe hr.pa hs, fun E σ H δ R Q hl I h k => ha.sim E σ H δ _ _ hl I h fun x H1 δ1 b I1 r1 h1 =>
    hr.sim { E with H0 := HH E σ δ1 H1 } σ H1 δ1 _ _ hl I1.pin h1 fun xs H2 δ2 bs J2 r2 h2 => k (x :: xs) H2 δ2 (b :: bs) (I1.unpin J2) (.cons (r1.weak.keep J2) r2) h2⟩
def fTup (f : DTA) : DTE := fun δ R => f δ fun bs δ1 => forceL bs δ1 fun ds δ2 => ds.length ≤ 16000000 ∧ R (.val (.tup ds)) δ2
def fLst (f : DTA) : DTE := fun δ R => f δ fun bs δ1 => forceL bs δ1 fun ds δ2 => ds.length ≤ 16000000 ∧ R (.fresh (.lst ds)) δ2
theorem d_tup {x1} (h : DA X L es f) : DE X L (.Tuple es x1 pos) (fTup f) :=
  ⟨pe_tup h.pa, fun E σ H δ R Q hl I q k => h.sim E σ H δ _ _ hl I q fun vs H1 δ1 bs I1 r1 h1 => by
    obtain ⟨ds, δ2, I2, r2, hz, h2⟩ := RepWs.force I1 r1 h1
    refine ⟨by rw [r2.length]; exact szL hz, fun p hp => ?_⟩
    obtain ⟨I3, r3⟩ := I2.freshT hp r2
    exact k _ _ δ2 (.val _) I3 r3 h2⟩
theorem d_lst (h : DA X L es f) : DE X L (.List es pos) (fLst f) :=
  ⟨pe_lst h.pa, fun E σ H δ R Q hl I q k => h.sim E σ H δ _ _ hl I q fun vs H1 δ1 bs I1 r1 h1 => by
    obtain ⟨ds, δ2, I2, r2, hz, h2⟩ := RepWs.force I1 r1 h1
    refine ⟨by rw [r2.length]; exact szL hz, fun p hp => ?_⟩
    obtain ⟨I3, r3⟩ := I2.freshL hp r2
    exact k _ _ δ2 _ I3 r3 h2⟩
/-! ### subscripts -/
def keyD : D → Option Key
  | .int i => some (.inl i)
  | .str x => some (.inr x)
  | _ => none
theorem keyD_of {K : PySem.W.Frag} {bx : Addr} {H Hh : Hp} {v : V} {d : D} {k : Key} (r : RootR K bx H Hh v d) (e : keyD d = some k) : v = kV k := by
  cases r <;> first
    | (cases e; rfl)
    | cases e
/-- the datum at a key -/
def valD {κ : Type} [DecidableEq κ] : List (κ × D) → κ → Option D
  | [], _ => none
  | (k, d) :: r, x => if k = x then some d else valD r x
theorem RepK.valV {K : PySem.W.Frag} {bx : Addr} {H : Hp} (x : Key) : ∀ {vs : List (Key × V)} {ds : List (Key × D)}, RepK K bx H vs ds → (∀ d, valD ds x = some d → ∃ v, L2.valV vs x = some v ∧ Rep K bx H v d) ∧ (valD ds x = none → L2.valV vs x = none)
  | _, _, .nil => ⟨fun d e => (by cases e), fun _ => rfl⟩
  | _, _, .cons (k := k) r t => by
    have ih := RepK.valV x t
    unfold valD
    by_cases h : k = x
    · rw [if_pos h, valV_pos (p := (k, _)) h]
      exact ⟨fun d e => by cases e; exact ⟨_, rfl, r⟩, fun e => by cases e⟩
    · rw [if_neg h, valV_neg (p := (k, _)) h]
      exact ih
theorem RepT.valV {K : PySem.W.Frag} {bx : Addr} {H : Hp} (x : List Key) : ∀ {vs : List (List Key × V)} {ds : List (List Key × D)}, RepT K bx H vs ds → (∀ d, valD ds x = some d → ∃ v, L2.valV vs x = some v ∧ Rep K bx H v d) ∧ (valD ds x = none → L2.valV vs x = none)
  | _, _, .nil => ⟨fun d e => (by cases e), fun _ => rfl⟩
  | _, _, .cons (k := k) r t => by
    have ih := RepT.valV x t
    unfold valD
    by_cases h : k = x
    · rw [if_pos h, valV_pos (p := (k, _)) h]
      exact ⟨fun d e => by cases e; exact ⟨_, rfl, r⟩, fun e => by cases e⟩
    · rw [if_neg h, valV_neg (p := (k, _)) h]
      exact ih
def rIxD : R2 := fun x y H Q => ∃ a v, x = .ref a ∧ DGet H a y (some v) ∧ Q v H
theorem ix_dict (hu : X.A.units + 1 < cLine) : IxR X rIxD := by
  intro value slice pins s σ H x y v u Q I rx ry h hs
  obtain ⟨a, w, rfl, g, q⟩ := h
  cases rx
  exact tail_any (dict_typeIs I g) PySem.F.slot_dict_getitem.lookup (d_getItem hu I g ry fun w' s3 I3 rw' => ⟨w, H, I3, rw', q⟩) hs
def rIxA (K : PySem.W.Frag) : R2 := fun x y H Q => rIx K x y H Q ∨ rIxD x y H Q
def gIx : D → D → (BV → Prop) → Prop
  | .lst ds, .int i, R => match atI ds i with
    | some d => R (.val d)
    | none => False
  | .tup ds, .int i, R => match atI ds i with
    | some d => R (.val d)
    | none => False
  | .ptp ds, .int i, R => match atI ds i with
    | some d => R (.val d)
    | none => False
  | .str z, .int i, R => z.length ≤ 16000000 ∧ match atI z.cps.toList i with
    | some c => R (.val (.str ⟨#[c]⟩))
    | none => False
  | .scr xs, .int i, R => match atI xs i with
    | some n => R (.val (.int n))
    | none => False
  | .dk kvs, x, R => match keyD x with
    | some k => match valD kvs k with
      | some d => R (.val d)
      | none => False
    | none => False
  | _, _, _ => False
theorem RepA.atI {K : PySem.W.Frag} {bx : Addr} {H : Hp} {vs : List V} {ds : List D} {i : Int} {d : D} (r : RepA K bx H vs ds) (e : L2.atI ds i = some d) : ∃ v, L2.atI vs i = some v ∧ Rep K bx H v d := by
  unfold L2.atI at e ⊢
  rw [r.length]
  cases q : ixN ds.length i with
  | none => rw [q] at e; cases e
  | some j =>
    rw [q] at e
    exact r.get (show ds[j]? = some d from e)
theorem atI_map {α β : Type} (g : α → β) {xs : List α} {i : Int} {x : α} (e : atI xs i = some x) : atI (xs.map g) i = some (g x) := by
  unfold atI at e ⊢
  rw [List.length_map]
  cases q : ixN xs.length i with
  | none => rw [q] at e; cases e
  | some j =>
    rw [q] at e
    show (xs.map g)[j]? = some (g x)
    rw [List.getElem?_map, show xs[j]? = some x from e]
    rfl
theorem dop_ix {K : PySem.W.Frag} : DOp K (rIxA K) gIx := by
  intro E σ H δ x y dx dy R Q I rx ry q k
  cases rx with
  | lst h r => cases ry with
    | int i =>
      unfold gIx at q
      dsimp only at q
      split at q
      · rename_i d e
        obtain ⟨v, e2, r2⟩ := r.atI e
        exact .inl (.inl ⟨_, _, i, v, rfl, rfl, .inl (.inl h), e2, k _ _ (.val d) I r2 q⟩)
      · exact q.elim
    | _ => exact q.elim
  | tup h r => cases ry with
    | int i =>
      unfold gIx at q
      dsimp only at q
      split at q
      · rename_i d e
        obtain ⟨v, e2, r2⟩ := r.atI e
        exact .inl (.inr (.inl ⟨_, _, i, v, rfl, rfl, Same.sqT (hid_same _ _) h, e2, k _ _ (.val d) I r2 q⟩))
      · exact q.elim
    | _ => exact q.elim
  | ptp h _ r => cases ry with
    | int i =>
      unfold gIx at q
      dsimp only at q
      split at q
      · rename_i d e
        obtain ⟨v, e2, r2⟩ := r.atI e
        exact .inl (.inr (.inl ⟨_, _, i, v, rfl, rfl, Same.sqT (hid_same _ _) h, e2, k _ _ (.val d) I r2 q⟩))
      · exact q.elim
    | _ => exact q.elim
  | str z => cases ry with
    | int i =>
      unfold gIx at q
      dsimp only at q
      obtain ⟨hz, q⟩ := q
      split at q
      · rename_i c e
        exact .inl (.inr (.inr ⟨z, i, c, rfl, rfl, szL hz, e, k _ _ (.val _) I (Rep.str _) q⟩))
      · exact q.elim
    | _ => exact q.elim
  | scr h => cases ry with
    | int i =>
      unfold gIx at q
      dsimp only at q
      split at q
      · rename_i n e
        exact .inl (.inl ⟨_, _, i, .int n, rfl, rfl, (hid_same _ _).seq h, atI_map V.int e, k _ _ (.val _) I (Rep.int _) q⟩)
      · exact q.elim
    | _ => exact q.elim
  | dk h r =>
    unfold gIx at q
    dsimp only at q
    split at q
    · rename_i kk e
      split at q
      · rename_i d e2
        obtain ⟨v, e3, r3⟩ := (RepK.valV kk r).1 d e2
        have ey := keyD_of ry e
        subst ey
        exact .inr ⟨_, v, rfl, by rw [← e3]; exact .inl ⟨_, kk, h, rfl, rfl⟩, k _ _ (.val d) I r3 q⟩
      · exact q.elim
    · exact q.elim
  | _ => cases ry <;> exact q.elim
theorem d_ix (hu : X.A.units + 64 < cLine) (ha : DE X L a fa) (hb : DE X L b fb) (hs : PlainIx b := by exact fun _ _ => rfl) : DE X L (.Subscript a b pos) (fOp gIx fa fb) :=
  ⟨pe_ix (IxR.or ix_seq (ix_dict (by omega))) ha.pe hb.pe hs, sim_op dop_ix ha.sim hb.sim⟩
/-! ### slices -/
abbrev DTO := DSt → (Option Int → DSt → Prop) → Prop
def SimO (K : PySem.W.Frag) (L : Md) (te : TO) (f : DTO) : Prop := ∀ (E : EC) (σ : St) (H : Hp) (δ : DSt) (R : Option Int → DSt → Prop) (Q : Option Int → Hp → Prop), E.md = L → EnvR K E σ H δ → f δ R →
  (∀ o H' δ', EnvR K E σ H' δ' → R o δ' → Q o H') → te σ H Q
inductive DO (X : Cx) (L : Md) (e : Option Expr) (f : DTO) : Prop
  | mk {te : TO} (po : PO X e te) (sim : SimO X.K L te f)
def toC (K : PySem.W.Frag) (L : Md) (f : DTO) : TO := fun σ H Q => ∃ (E : EC) (δ : DSt) (R : Option Int → DSt → Prop), E.md = L ∧ EnvR K E σ H δ ∧ f δ R ∧ ∀ c H' δ', EnvR K E σ H' δ' → R c δ' → Q c H'
theorem DO.po {o : Option Expr} {g : DTO} (h : DO X L o g) : PO X o (toC X.K L g) := by
  obtain ⟨pe, sim⟩ := h
  exact ⟨fun pins s σ H Q I ⟨E, δ, R, hl, J, q, k⟩ => pe.run pins s σ H Q I (sim E σ H δ R Q hl J q k)⟩
theorem DO.sim {o : Option Expr} {g : DTO} (_ : DO X L o g) : SimO X.K L (toC X.K L g) g := fun E σ H δ R Q hl I q k => ⟨E, δ, R, hl, I, q, k⟩
def fNoPart : DTO := fun δ R => R none δ
def fPart (f : DTE) : DTO := fun δ R => f δ fun b δ1 => withD δ1 b fun d => match d with
  | .int i => R (some i) δ1
  | _ => False
theorem o_none : DO X L none fNoPart := ⟨po_none, fun E σ H δ R Q hl I h k => k none H δ I h⟩
theorem o_some (h : DE X L e fe) : DO X L (some e) (fPart fe) := ⟨po_some h.pe, fun E σ H δ R Q hl I q k => h.sim E σ H δ _ _ hl I q fun x H1 δ1 b I1 r1 h1 => by
  obtain ⟨d, r2, h2⟩ := RepW.withD I1 r1.weak h1
  cases r2 with
  | int i => exact ⟨i, rfl, k (some i) H1 δ1 I1 h2⟩
  | _ => exact h2.elim⟩
def cutD {α : Type} (xs : List α) (lo hi : Option Int) : List α := (xs.drop (HT.sIx xs.length 0 lo)).take (HT.sIx xs.length xs.length hi - HT.sIx xs.length 0 lo)
theorem RepA.cut {K : PySem.W.Frag} {bx : Addr} {H : Hp} {vs : List V} {ds : List D} (r : RepA K bx H vs ds) (lo hi : Option Int) : RepA K bx H (cutV vs lo hi) (cutD ds lo hi) := by
  unfold cutV cutD
  rw [r.length]
  exact (r.drop _).take _
def gSl : D → Option Int → Option Int → (BV → Prop) → Prop
  | .lst ds, lo, hi, R => R (.fresh (.lst (cutD ds lo hi)))
  | .tup ds, lo, hi, R => R (.val (.tup (cutD ds lo hi)))
  | .str z, lo, hi, R => z.length ≤ 16000000 ∧ R (.val (.str (cutS z lo hi)))
  | _, _, _, _ => False
def rSl (K : PySem.W.Frag) : V → Option Int → Option Int → Hp → VK → Prop := fun x lo hi H Q => rSlL K x lo hi H Q ∨ rSlA K x lo hi H Q ∨ rSlS x lo hi H Q
def fSl (fa : DTE) (fl fh : DTO) : DTE := fun δ R => fa δ fun b δ1 => fl δ1 fun lo δ2 => fh δ2 fun hi δ3 => withD δ3 b fun d => gSl d lo hi fun r => R r δ3
variable {lo hi : Option Expr} {tl th : TO} {fl fh : DTO} {p2 : Pos}
theorem d_sl (ha : DE X L a fa) (hl : DO X L lo fl) (hh : DO X L hi fh) : DE X L (.Subscript a (.Slice lo hi none p2) pos) (fSl fa fl fh) := by
  refine ⟨pe_slice (sl_list.or (sl_tupA.or sl_str)) ha.pe hl.po hh.po, fun E σ H δ R Q hv I h k => ha.sim E σ H δ _ _ hv I h fun x H1 δ1 b I1 r1 h1 => ?_⟩
  refine hl.sim { E with H0 := HH E σ δ1 H1 } σ H1 δ1 _ _ hv I1.pin h1 fun lo H2 δ2 J2 h2 => ?_
  have I2 := I1.unpin J2
  refine hh.sim { E with H0 := HH E σ δ2 H2 } σ H2 δ2 _ _ hv I2.pin h2 fun hi H3 δ3 J3 h3 => ?_
  have I3 := I2.unpin J3
  obtain ⟨d, r3, h4⟩ := RepW.withD I3 (RepW.keep (RepW.keep r1.weak J2) J3) h3
  cases r3 with
  | lst h r =>
    refine .inl ⟨_, _, rfl, .inl (.inl h), fun p hp => ?_⟩
    obtain ⟨I4, r4⟩ := I3.freshL hp (r.cut lo hi)
    exact k _ _ δ3 _ I4 r4 h4
  | @tup a0 vs0 ds0 h r =>
    refine .inr (.inl ⟨_, _, rfl, Same.sqT (hid_same _ _) h, fun hw => ?_, fun hn p hp => ?_⟩)
    · have e : cutD ds0 lo hi = ds0 := by
        unfold cutD
        rw [← r.length, hw.1, hw.2, List.drop_zero, Nat.sub_zero, r.length]
        exact List.take_length
      exact k _ _ δ3 (.val (.tup ds0)) I3 (Rep.tup h r) (by rw [← e]; exact h4)
    · obtain ⟨I4, r4⟩ := I3.freshT hp (r.cut lo hi)
      exact k _ _ δ3 (.val _) I4 r4 h4
  | str z => exact .inr (.inr ⟨z, rfl, szL h4.1, k _ _ δ3 (.val _) I3 (Rep.str _) h4.2⟩)
  | _ => exact h4.elim
/-- xs[::-1] -/
def fRevL (fa : DTE) : DTE := fun δ R => fa δ fun b δ1 => withD δ1 b fun d => match d with
  | .lst ds => R (.fresh (.lst ds.reverse)) δ1
  | _ => False
theorem d_revL {k0 : Nat} {p1 p3 : Pos} (ha : DE X L a fa) : DE X L (.Subscript a (.Slice none none (some (.UnaryOp .USub (.Constant (.int 1) k0 p1) p2)) p3) pos) (fRevL fa) :=
  ⟨pe_revL ha.pe, fun E σ H δ R Q hv I h k => ha.sim E σ H δ _ _ hv I h fun x H1 δ1 b I1 r1 h1 => by
    obtain ⟨d, r3, h4⟩ := RepW.withD I1 r1.weak h1
    cases r3 with
    | lst h r =>
      refine ⟨_, _, rfl, .inl (.inl h), fun p hp => ?_⟩
      obtain ⟨I4, r4⟩ := I1.freshL hp r.reverse
      exact k _ _ δ1 _ I4 r4 h4
    | _ => exact h4.elim⟩
/-! ### calls of the program's own defs -/
abbrev FSpec := List D → (D → Prop) → Prop
/-- what a caller hides -/
def isHd (T : Hp) (a : Addr) : Prop := ∃ o, T a = some o
def spD (K : PySem.W.Frag) (n : Nat) (spec : FSpec) : Sp := fun vs H Q _ => ∃ bx T ds, ds.length = n ∧ Same T H ∧ RepA K bx (hid (isHd T) H) vs ds ∧ spec ds fun d => ∀ v H', Same H H' → Rep K bx (hid (isHd T) H') v d → Q v H'
/-- .. of a def that draws from the box -/
def isB (T : Hp) (bx a : Addr) : Prop := a = bx ∨ ∃ o, T a = some o
def spB (K : PySem.W.Frag) (n : Nat) (spec : FSpec) : Sp := fun vs H Q _ => ∃ bx T ds, ds.length = n ∧ Same T H ∧ T bx = none ∧ BoxOk K bx (hid (isB T bx) H) H ∧ RepA K bx (hid (isB T bx) H) vs ds ∧
  spec ds fun d => ∀ v H', (∀ a o, a ≠ bx → H a = some o → H' a = some o) → BoxOk K bx (hid (isB T bx) H') H' → Rep K bx (hid (isB T bx) H') v d → Q v H'
def SMono (spec : FSpec) : Prop := ∀ ds R R', (∀ d, R d → R' d) → spec ds R → spec ds R'
/-- a def as it is known to its callers; z: whether it draws -/
structure Good (P : Program) (w : World) (K : PySem.W.Frag) (mg : Str → Option Value) (base : Heap) (z : Bool) (k : Nat) (x : Str) (n : Nat) (spec : FSpec) : Prop where
  ex : ∃ (f : Addr) (fd : FuncData) (ps : List Str), FnOk P w K mg base CX0 k f fd ps (if z = true then spB K n spec else spD K n spec) ∧ mg x = some (.ref f) ∧ PySem.W.keepIn K (.ref f) = true ∧ Binds K fd ps []
  mono : SMono spec
theorem Good.le {P : Program} {w : World} {K : PySem.W.Frag} {mg : Str → Option Value} {base : Heap} {z : Bool} {j k : Nat} {x : Str} {n : Nat} {spec : FSpec} (G : Good P w K mg base z j x n spec) (h : j ≤ k) : Good P w K mg base z k x n spec := by
  obtain ⟨f, fd, ps, F, r⟩ := G.ex
  exact ⟨⟨f, fd, ps, F.mono h, r⟩, G.mono⟩
def fCall (n : Nat) (spec : FSpec) (f : DTA) : DTE := fun δ R => f δ fun bs δ1 => forceL bs δ1 fun ds δ2 => ds.length = n ∧ spec ds fun d => R (.val d) δ2
/-- what is hidden, as it stands -/
noncomputable def hidden (E : EC) (σ : St) (δ : DSt) (H : Hp) : Hp := fun a => open Classical in if hidP E σ δ a then H a else none
theorem hidden_some {E : EC} {σ : St} {δ : DSt} {H : Hp} {a : Addr} {o : HO} : hidden E σ δ H a = some o ↔ hidP E σ δ a ∧ H a = some o := by
  unfold hidden
  by_cases h : hidP E σ δ a
  · rw [if_pos h]; exact ⟨fun z => ⟨h, z⟩, fun z => z.2⟩
  · rw [if_neg h]; exact ⟨fun z => by (cases z), fun z => absurd z.1 h⟩
theorem isHd_hidden {K : PySem.W.Frag} {E : EC} {σ : St} {δ : DSt} {H : Hp} (I : EnvR K E σ H δ) (a : Addr) : isHd (hidden E σ δ H) a ↔ hidP E σ δ a :=
  ⟨fun ⟨o, h⟩ => (hidden_some.mp h).1, fun h => let ⟨o, e⟩ := I.hidden h; ⟨o, hidden_some.mpr ⟨h, e⟩⟩⟩
theorem hid_congr {P P' : Addr → Prop} (h : ∀ a, P a ↔ P' a) (H : Hp) : hid P H = hid P' H := by
  have e : P = P' := funext fun a => propext (h a)
  rw [e]
theorem sim_call {K : PySem.W.Frag} {n : Nat} {spec : FSpec} (hm : SMono spec) (h : SimA K L t f) : SimE K L (tCall (spD K n spec) [] E0 t) (fCall n spec f) := fun E σ H δ R Q hl I q k => by
  refine h E σ H δ _ _ hl I q fun vs H1 δ1 bs I1 r1 h1 => ?_
  obtain ⟨ds, δ2, I2, r2, hz, h2⟩ := RepWs.force I1 r1 h1
  have eq : ∀ H', hid (isHd (hidden E σ δ2 H1)) H' = HH E σ δ2 H' := fun H' => hid_congr (isHd_hidden I2) H'
  refine ⟨E.bx, hidden E σ δ2 H1, ds, hz, fun a o e => (hidden_some.mp e).2, ?_, hm _ _ _ (fun d hd v H' hs hr => ?_) h2⟩
  · rw [List.append_nil, eq]; exact r2
  · rw [eq] at hr
    exact k v H' δ2 (.val d) (I2.same hs) hr hd
theorem d_call {k : Nat} {x : Str} {n : Nat} {spec : FSpec} {p : Pos} (G : Good X.prog X.w X.K X.mg X.base false k x n spec) (hr : Room k X.A) (ha : DA X L (e :: es) f) (hg : Gl X x := by rfl)
    (hdb : (x == ("__debug__" : Str)) = false := by decide) (he : starEach (e :: es) X.env = (false, eval e X.env) :: starEach es X.env := by rfl) (hpl : (backTo pos (starEach es X.env)).any (·.1) = false := by rfl) :
    DE X L (.Call (.Name x p) (e :: es) [] pos) (fCall n spec f) := by
  obtain ⟨fa, fd, ps, F, hm, hk, hb⟩ := G.ex
  exact ⟨pe_call F hr hg hm hk hb .nil pass0 ha.pa hdb he hpl, sim_call G.mono ha.sim⟩
/-- what the box hides is hidden here, too -/
theorem sim_callB {K : PySem.W.Frag} {n : Nat} {spec : FSpec} (hm : SMono spec) (h : SimA K .box t f) : SimE K .box (tCall (spB K n spec) [] E0 t) (fCall n spec f) := fun E σ H δ R Q hl I q k => by
  refine h E σ H δ _ _ hl I q fun vs H1 δ1 bs I1 r1 h1 => ?_
  obtain ⟨ds, δ2, I2, r2, hz, h2⟩ := RepWs.force I1 r1 h1
  have hm' := hl
  have hl : E.live = true := by unfold EC.live; rw [hm']; rfl
  -- the others that are hidden
  let T : Hp := fun a => open Classical in if a = E.bx then none else hidden E σ δ2 H1 a
  have hT : ∀ a o, T a = some o ↔ a ≠ E.bx ∧ hidP E σ δ2 a ∧ H1 a = some o := fun a o => by
    show (open Classical in if a = E.bx then none else hidden E σ δ2 H1 a) = some o ↔ _
    by_cases z : a = E.bx
    · rw [if_pos z]; exact ⟨fun e => by (cases e), fun e => absurd z e.1⟩
    · rw [if_neg z, hidden_some]; exact ⟨fun e => ⟨z, e⟩, fun e => e.2⟩
  have eqP : ∀ a, isB T E.bx a ↔ hidP E σ δ2 a := fun a => by
    constructor
    · rintro (z | ⟨o, z⟩)
      · exact .inl ⟨hl, z⟩
      · exact ((hT a o).mp z).2.1
    · intro z
      by_cases e : a = E.bx
      · exact .inl e
      · obtain ⟨o, q⟩ := I2.hidden z
        exact .inr ⟨o, (hT a o).mpr ⟨e, z, q⟩⟩
  have eq : ∀ H', hid (isB T E.bx) H' = HH E σ δ2 H' := fun H' => hid_congr eqP H'
  refine ⟨E.bx, T, ds, hz, fun a o e => ((hT a o).mp e).2.2, ?_, ?_, ?_, hm _ _ _ (fun d hd v H' hs hb hr => ?_) h2⟩
  · cases e : T E.bx with
    | none => rfl
    | some o => exact absurd rfl ((hT _ _).mp e).1
  · rw [eq]
    have := I2.box
    rw [hm'] at this
    exact this
  · rw [List.append_nil, eq]; exact r2
  · rw [eq] at hr hb
    have hsame : Same (HH E σ δ2 H1) (HH E σ δ2 H') := hid_mono (fun _ z => z) fun a o nz e => hs a o (fun z => nz (.inl ⟨hl, z⟩)) e
    refine k v H' δ2 (.val d) ⟨I2.len, fun i d h => ?_, fun i d h => ?_, I2.dis, I2.base.trans hsame, fun a o e => ?_, I2.bxT, by rw [hm']; exact hb⟩ hr hd
    · obtain ⟨v, h1, h2⟩ := I2.val i d h
      exact ⟨v, h1, h2.mono hsame⟩
    · obtain ⟨a, h1, h2, h3, h4⟩ := I2.own i d h
      obtain ⟨u, q, _⟩ := h2.there
      exact ⟨a, h1, h2.mono ((hs a u (fun z => h4 ⟨hl, z⟩) q).trans q.symm) hsame, h3, h4⟩
    · exact hs a o (fun z => by rw [z, I2.bxT hl] at e; cases e) (I2.tmp a o e)
end
end DL
set_option Elab.async false
set_option linter.all false
set_option maxRecDepth 100000
set_option autoImplicit false
/-! DL, part d: targets, what is walked, comprehensions, statements. -/
namespace DL
open PySem PySem.Spec L2
open PyProof.Rows hiding St
/-! ### targets -/
abbrev DAs := D → DSt → (DSt → Prop) → Prop
abbrev DAss := List D → DSt → (DSt → Prop) → Prop
def SimG (K : PySem.W.Frag) (L : Md) (g : TG) (foot : List Nat) (asg : DAs) : Prop := ∀ (E : EC) (σ : St) (H : Hp) (δ : DSt) (v : V) (d : D) (R : DSt → Prop) (Q : St → Hp → Prop), E.md = L → EnvR K E σ H δ → Rep K E.bx (HH E σ δ H) v d → asg d δ R →
  (∀ σ' δ', EnvR K E σ' H δ' → (∀ j, j ∉ foot → σ'[j]? = σ[j]?) → σ'.length = σ.length → R δ' → Q σ' H) → g v σ H Q
def SimGs (K : PySem.W.Frag) (L : Md) (g : TGs) (foot : List Nat) (asg : DAss) : Prop := ∀ (E : EC) (σ : St) (H : Hp) (δ : DSt) (vs : List V) (ds : List D) (R : DSt → Prop) (Q : St → Hp → Prop), E.md = L → EnvR K E σ H δ → RepA K E.bx (HH E σ δ H) vs ds → asg ds δ R →
  (∀ σ' δ', EnvR K E σ' H δ' → (∀ j, j ∉ foot → σ'[j]? = σ[j]?) → σ'.length = σ.length → R δ' → Q σ' H) → g vs σ H Q
def tgC (K : PySem.W.Frag) (L : Md) (foot : List Nat) (asg : DAs) : TG := fun v σ H Q => ∃ (E : EC) (δ : DSt) (d : D) (R : DSt → Prop), E.md = L ∧ EnvR K E σ H δ ∧ Rep K E.bx (HH E σ δ H) v d ∧ asg d δ R ∧
  ∀ σ' δ', EnvR K E σ' H δ' → (∀ j, j ∉ foot → σ'[j]? = σ[j]?) → σ'.length = σ.length → R δ' → Q σ' H
inductive DG (X : Cx) (L : Md) (tg : Expr) (foot : List Nat) (asg : DAs) : Prop
  | mk {g : TG} (pg : PG X tg g) (sim : SimG X.K L g foot asg) (ex : ∀ d δ k, asg d δ k → ∃ δ', k δ')
theorem DG.pg {X : Cx} {L : Md} {tg : Expr} {foot : List Nat} {asg : DAs} (h : DG X L tg foot asg) : PG X tg (tgC X.K L foot asg) := by
  obtain ⟨pe, sim, _⟩ := h
  exact ⟨fun pins s σ H v u Q I r ⟨E, δ, d, R, hl, J, rv, q, k⟩ => pe.run pins s σ H v u Q I r (sim E σ H δ v d R Q hl J rv q k)⟩
theorem DG.sim {X : Cx} {L : Md} {tg : Expr} {foot : List Nat} {asg : DAs} (_ : DG X L tg foot asg) : SimG X.K L (tgC X.K L foot asg) foot asg := fun E σ H δ v d R Q hl I r q k => ⟨E, δ, d, R, hl, I, r, q, k⟩
theorem DG.ex {X : Cx} {L : Md} {tg : Expr} {foot : List Nat} {asg : DAs} (h : DG X L tg foot asg) : ∀ d δ k, asg d δ k → ∃ δ', k δ' := by
  obtain ⟨_, _, ex⟩ := h
  exact ex
structure DGs (X : Cx) (L : Md) (tg : List Expr) (g : TGs) (foot : List Nat) (asg : DAss) (n : Nat) : Prop where
  pg : PGs X tg g
  sim : SimGs X.K L g foot asg
  len : ∀ ds δ k, asg ds δ k → ds.length = n ∧ ∃ δ', k δ'
section
variable {K : PySem.W.Frag} {E : EC} {σ : St} {H H' : Hp} {δ δ' : DSt} {v : V} {d : D} {i : Nat}
theorem get_set {α : Type} {l : List α} {i j : Nat} {s t : α} (h : (l.set i s)[j]? = some t) : (j = i ∧ s = t) ∨ (j ≠ i ∧ l[j]? = some t) := by
  by_cases e : j = i
  · subst e
    by_cases hl : j < l.length
    · rw [List.getElem?_set_self hl] at h
      exact .inl ⟨rfl, Option.some.inj h⟩
    · rw [List.getElem?_eq_none (by rw [List.length_set]; omega)] at h
      cases h
  · rw [List.getElem?_set_ne (Ne.symm e)] at h
    exact .inr ⟨e, h⟩
/-- a slot given up and set to something else -/
theorem hid_set {s : Sl} {x : Option V} (hs : ∀ d, s ≠ .own d) (a : Addr) (z : hidP E (σ.set i x) (δ.set i s) a) : hidP E σ δ a := by
  rcases z with z | z | ⟨j, e, z1, z2⟩
  · exact .inl z
  · exact .inr (.inl z)
  · rcases get_set z1 with ⟨_, q⟩ | ⟨hne, q⟩
    · exact absurd q (hs e)
    · rw [List.getElem?_set_ne (Ne.symm hne)] at z2
      exact .inr (.inr ⟨j, e, q, z2⟩)
theorem EnvR.setV (hok : E.md.ok i = true) (I : EnvR K E σ H δ) (r : Rep K E.bx (HH E σ δ H) v d) : EnvR K E (σ.set i (some v)) H (δ.set i (.val d)) := by
  have hs : Same (HH E σ δ H) (HH E (σ.set i (some v)) (δ.set i (.val d)) H) := hid_mono (hid_set fun _ z => nomatch z) fun _ _ _ q => q
  refine ⟨by rw [List.length_set, List.length_set]; exact I.len, fun j e h => ?_, fun j e h => ?_, fun j k e f a h1 h2 h3 h4 => ?_, I.base.trans hs, I.tmp, I.bxT, I.box.slots (fun j hj => List.getElem?_set_ne (fun e => by rw [← e, hok] at hj; cases hj)) hs⟩
  · rcases get_set h with ⟨ej, q⟩ | ⟨hne, q⟩
    · cases q
      subst ej
      have hl : j < δ.length := by
        have := (List.getElem?_eq_some_iff.mp h).1
        rw [List.length_set] at this
        exact this
      exact ⟨v, List.getElem?_set_self (by rw [I.len]; exact hl), r.mono hs⟩
    · obtain ⟨u, h1, h2⟩ := I.val j e q
      exact ⟨u, by rw [List.getElem?_set_ne (Ne.symm hne)]; exact h1, h2.mono hs⟩
  · rcases get_set h with ⟨ej, q⟩ | ⟨hne, q⟩
    · cases q
    · obtain ⟨a, h1, h2, h3⟩ := I.own j e q
      exact ⟨a, by rw [List.getElem?_set_ne (Ne.symm hne)]; exact h1, h2.mono rfl hs, h3⟩
  · rcases get_set h1 with ⟨ej, q⟩ | ⟨hne, q⟩
    · cases q
    · rcases get_set h2 with ⟨ek, q'⟩ | ⟨hne', q'⟩
      · cases q'
      · rw [List.getElem?_set_ne (Ne.symm hne)] at h3
        rw [List.getElem?_set_ne (Ne.symm hne')] at h4
        exact I.dis j k e f a q q' h3 h4
/-- a slot forgotten -/
theorem EnvR.drop (hok : E.md.ok i = true) (I : EnvR K E σ H δ) : EnvR K E (σ.set i none) H (δ.set i .no) := by
  have hs : Same (HH E σ δ H) (HH E (σ.set i none) (δ.set i .no) H) := hid_mono (hid_set fun _ z => nomatch z) fun _ _ _ q => q
  refine ⟨by rw [List.length_set, List.length_set]; exact I.len, fun j e h => ?_, fun j e h => ?_, fun j k e f a h1 h2 h3 h4 => ?_, I.base.trans hs, I.tmp, I.bxT, I.box.slots (fun j hj => List.getElem?_set_ne (fun e => by rw [← e, hok] at hj; cases hj)) hs⟩
  · rcases get_set h with ⟨ej, q⟩ | ⟨hne, q⟩
    · cases q
    · obtain ⟨u, h1, h2⟩ := I.val j e q
      exact ⟨u, by rw [List.getElem?_set_ne (Ne.symm hne)]; exact h1, h2.mono hs⟩
  · rcases get_set h with ⟨ej, q⟩ | ⟨hne, q⟩
    · cases q
    · obtain ⟨a, h1, h2, h3⟩ := I.own j e q
      exact ⟨a, by rw [List.getElem?_set_ne (Ne.symm hne)]; exact h1, h2.mono rfl hs, h3⟩
  · rcases get_set h1 with ⟨ej, q⟩ | ⟨hne, q⟩
    · cases q
    · rcases get_set h2 with ⟨ek, q'⟩ | ⟨hne', q'⟩
      · cases q'
      · rw [List.getElem?_set_ne (Ne.symm hne)] at h3
        rw [List.getElem?_set_ne (Ne.symm hne')] at h4
        exact I.dis j k e f a q q' h3 h4
/-- an object that is new goes into a slot -/
theorem EnvR.setO {a : Addr} {o : HO} (hok : E.md.ok i = true) (I0 : EnvR K E σ H δ) (ha : H a = some o) (hn : ¬ hidP E σ δ a) (I : EnvR K { E with T := upd E.T a o } σ H δ) (r : OwnR K E.bx H (HH { E with T := upd E.T a o } σ δ H) a d) :
    EnvR K E (σ.set i (some (.ref a))) H (δ.set i (.own d)) := by
  have sub : ∀ b, hidP E (σ.set i (some (.ref a))) (δ.set i (.own d)) b → hidP { E with T := upd E.T a o } σ δ b := fun b z => by
    rcases z with z | ⟨u, z⟩ | ⟨j, e, z1, z2⟩
    · exact .inl z
    · by_cases q : b = a
      · exact .inr (.inl ⟨o, by rw [q]; exact upd_same⟩)
      · exact .inr (.inl ⟨u, (upd_ne (H := E.T) (o := o) q).trans z⟩)
    · rcases get_set z1 with ⟨ej, q⟩ | ⟨hne, q⟩
      · have hl : j < σ.length := by
          have := (List.getElem?_eq_some_iff.mp z2).1
          rw [List.length_set] at this
          exact this
        rw [ej] at z2 hl
        rw [List.getElem?_set_self hl] at z2
        cases z2
        exact .inr (.inl ⟨o, upd_same⟩)
      · rw [List.getElem?_set_ne (Ne.symm hne)] at z2
        exact .inr (.inr ⟨j, e, q, z2⟩)
  have hs : Same (HH { E with T := upd E.T a o } σ δ H) (HH E (σ.set i (some (.ref a))) (δ.set i (.own d)) H) := hid_mono sub fun _ _ _ q => q
  have noa : ∀ (j : Nat) (e : D), δ[j]? = some (.own e) → σ[j]? = some (some (.ref a)) → False := fun j e h1 h2 => hn (.inr (.inr ⟨j, e, h1, h2⟩))
  refine ⟨by rw [List.length_set, List.length_set]; exact I.len, fun j e h => ?_, fun j e h => ?_, fun j k e f b h1 h2 h3 h4 => ?_, I.base.trans hs, I0.tmp, I0.bxT, I.box.slots (fun j hj => List.getElem?_set_ne (fun e => by rw [← e, hok] at hj; cases hj)) hs⟩
  · rcases get_set h with ⟨ej, q⟩ | ⟨hne, q⟩
    · cases q
    · obtain ⟨u, h1, h2⟩ := I.val j e q
      exact ⟨u, by rw [List.getElem?_set_ne (Ne.symm hne)]; exact h1, Rep.mono hs h2⟩
  · rcases get_set h with ⟨ej, q⟩ | ⟨hne, q⟩
    · cases q
      have hl : j < σ.length := by
        have := (List.getElem?_eq_some_iff.mp h).1
        rw [List.length_set] at this
        rw [I0.len]; exact this
      refine ⟨a, by rw [ej] at hl ⊢; exact List.getElem?_set_self hl, r.mono rfl hs, ?_, fun z => hn (.inl z)⟩
      cases q : E.T a with
      | none => rfl
      | some u => exact absurd (.inr (.inl ⟨u, q⟩)) hn
    · obtain ⟨b, h1, h2, h3⟩ := I0.own j e q
      obtain ⟨b', h1', h2', _⟩ := I.own j e q
      rw [h1] at h1'
      cases h1'
      exact ⟨b, by rw [List.getElem?_set_ne (Ne.symm hne)]; exact h1, OwnR.mono rfl hs h2', h3⟩
  · rcases get_set h1 with ⟨ej, q⟩ | ⟨hne, q⟩
    · rcases get_set h2 with ⟨ek, q'⟩ | ⟨hne', q'⟩
      · rw [ej, ek]
      · exfalso
        have hl : j < σ.length := by
          have := (List.getElem?_eq_some_iff.mp h3).1
          rw [List.length_set] at this
          exact this
        rw [ej] at h3 hl
        rw [List.getElem?_set_self hl] at h3
        cases h3
        rw [List.getElem?_set_ne (Ne.symm hne')] at h4
        exact noa k f q' h4
    · rcases get_set h2 with ⟨ek, q'⟩ | ⟨hne', q'⟩
      · exfalso
        have hl : k < σ.length := by
          have := (List.getElem?_eq_some_iff.mp h4).1
          rw [List.length_set] at this
          exact this
        rw [ek] at h4 hl
        rw [List.getElem?_set_self hl] at h4
        cases h4
        rw [List.getElem?_set_ne (Ne.symm hne)] at h3
        exact noa j e q h3
      · rw [List.getElem?_set_ne (Ne.symm hne)] at h3
        rw [List.getElem?_set_ne (Ne.symm hne')] at h4
        exact I0.dis j k e f b q q' h3 h4
end
/-- what a value under way leaves in a slot -/
def store (i : Nat) (b : BV) (δ : DSt) (k : DSt → Prop) : Prop := match b with
  | .val d => k (δ.set i (.val d))
  | .fresh d => k (δ.set i (.own d))
  | .slot j => match look δ j with
    | .val d => k (δ.set i (.val d))
    | .own d => k ((δ.set j (.val d)).set i (.val d))
    | .no => False
theorem store_sound {K : PySem.W.Frag} {E : EC} {σ : St} {H : Hp} {δ : DSt} {v : V} {i : Nat} {b : BV} {k : DSt → Prop} (hok : E.md.ok i = true) (I : EnvR K E σ H δ) (r : RepB K E σ H δ v b) (h : store i b δ k) : ∃ δ', EnvR K E (σ.set i (some v)) H δ' ∧ k δ' := by
  cases b with
  | val d => exact ⟨_, I.setV hok r, h⟩
  | fresh d =>
    obtain ⟨a, o, rfl, ha, hn, I', r⟩ := r
    exact ⟨_, I.setO hok ha hn I' r, h⟩
  | slot j =>
    have hs : σ[j]? = some (some v) := r
    unfold store at h
    dsimp only at h
    cases e : look δ j with
    | no => rw [e] at h; exact h.elim
    | val d =>
      rw [e] at h
      obtain ⟨u, h1, h2⟩ := I.val j d (look_val e)
      rw [hs] at h1; cases h1
      exact ⟨_, I.setV hok h2, h⟩
    | own d =>
      rw [e] at h
      obtain ⟨I', r'⟩ := I.freeze (look_own e) hs
      exact ⟨_, I'.setV hok r', h⟩
section
variable {X : Cx} {L : Md} {pos : Pos}
def asName (i : Nat) : DAs := fun d δ k => k (δ.set i (.val d))
theorem g_name {i : Nat} {x : Str} (hN : X.N.Nodup) (hi : X.N[i]? = some x := by rfl) (hx : Loc X.env.scope x := by first | exact Or.inl rfl | exact Or.inr rfl) (hf : X.fn x = true ∨ X.env.scope.names.lookup x = some .local := by first | exact .inl rfl | exact .inr rfl | assumption) (hok : L.ok i = true := by rfl) : DG X L (.Name x pos) [i] (asName i) :=
  ⟨pg_name hN hi hx hf, fun E σ H δ v d R Q hl I r h k => k _ _ (I.setV (by rw [hl]; exact hok) r) (fun j hj => List.getElem?_set_ne (by intro e; exact hj (by rw [e]; exact List.mem_singleton.mpr rfl))) (by rw [List.length_set]) h, fun d δ k h => ⟨_, h⟩⟩
def asNil : DAss := fun ds δ k => match ds with
  | [] => k δ
  | _ => False
def asCons (a : DAs) (as : DAss) : DAss := fun ds δ k => match ds with
  | d :: r => a d δ fun δ1 => as r δ1 k
  | [] => False
theorem gs_nil : DGs X L [] gNil [] asNil 0 := ⟨pgs_nil, fun E σ H δ vs ds R Q hl I r h k => by
  cases r with
  | nil => exact ⟨rfl, k σ δ I (fun _ _ => rfl) rfl h⟩
  | cons _ _ => exact h.elim, fun ds δ k h => by
  cases ds with
  | nil => exact ⟨rfl, δ, h⟩
  | cons _ _ => exact h.elim⟩
theorem gs_cons {e : Expr} {es : List Expr} {u : TGs} {f1 f2 : List Nat} {a : DAs} {as : DAss} {n : Nat} (h1 : DG X L e f1 a) (h2 : DGs X L es u f2 as n)
    (hs : (assignEach (e :: es) X.env).map (·.2) = assign e X.env :: (assignEach es X.env).map (·.2) := by rfl) : DGs X L (e :: es) (gCons (tgC X.K L f1 a) u) (f1 ++ f2) (asCons a as) (n + 1) :=
  ⟨pgs_cons h1.pg h2.pg hs, fun E σ H δ vs ds R Q hl I r h k => by
    cases r with
    | nil => exact h.elim
    | cons r rr =>
      refine ⟨_, _, rfl, h1.sim { E with H0 := HH E σ δ H } σ H δ _ _ _ _ hl I.pin r h fun σ1 δ1 J1 o1 l1 q1 => ?_⟩
      have I1 : EnvR X.K E σ1 H δ1 := J1.unbase I.base
      refine h2.sim E σ1 H δ1 _ _ _ _ hl I1 (rr.mono J1.base) q1 fun σ2 δ2 I2 o2 l2 q2 => k σ2 δ2 I2 (fun j hj => ?_) (l2.trans l1) q2
      have n1 : j ∉ f1 := fun z => hj (List.mem_append_left _ z)
      have n2 : j ∉ f2 := fun z => hj (List.mem_append_right _ z)
      exact (o2 j n2).trans (o1 j n1), fun ds δ k h => by
    cases ds with
    | nil => exact h.elim
    | cons d r =>
      obtain ⟨δ1, q⟩ := h1.ex d δ _ h
      obtain ⟨e, δ2, q⟩ := h2.len r δ1 k q
      exact ⟨congrArg (· + 1) e, δ2, q⟩⟩
def asTup (as : DAss) : DAs := fun d δ k => match d with
  | .tup ds => as ds δ k
  | .ptp ds => as ds δ k
  | _ => False
theorem g_tup {es : List Expr} {kk : Nat} {t : TGs} {n : Nat} {ft : List Nat} {as : DAss} (hc : X.calm = true) (h : DGs X L es t ft as n)
    (hn : (assignEach es X.env).length = n := by rfl) (hst : (assignEach es X.env).findIdx? (·.1) = none := by rfl) : DG X L (.Tuple es kk pos) ft (asTup as) :=
  ⟨pg_tup hc h.pg hn hst, fun E σ H δ v d R Q hl I r q k => by
    cases r with
    | tup h1 r1 =>
      have e : (_ : List D).length = n := (h.len _ _ _ q).1
      exact ⟨_, _, rfl, Same.sqT (hid_same _ _) h1, by rw [r1.length]; exact e, h.sim E σ H δ _ _ _ _ hl I r1 q k⟩
    | ptp h1 _ r1 =>
      have e : (_ : List D).length = n := (h.len _ _ _ q).1
      exact ⟨_, _, rfl, Same.sqT (hid_same _ _) h1, by rw [r1.length]; exact e, h.sim E σ H δ _ _ _ _ hl I r1 q k⟩
    | _ => exact q.elim, fun d δ k q => by
    cases d with
    | tup ds => exact (h.len ds δ k q).2
    | ptp ds => exact (h.len ds δ k q).2
    | _ => exact q.elim⟩
end
/-! ### what is walked -/
def Yields (K : PySem.W.Frag) (bx : Addr) (J : It) (items : List D) (B : Hp) : Prop := ∀ (P : Addr → Prop) (Hc : Hp), Same B (hid P Hc) → (∀ a, P a → ∃ o, Hc a = some o) →
  (∀ (i : Nat) (d : D), items[i]? = some d → J.go i Hc ∧ ∀ x H', J.yld i Hc x H' → Same Hc H' ∧ Rep K bx (hid P H') x d) ∧ J.stop items.length Hc
abbrev DTI := DSt → (List D → DSt → Prop) → Prop
def SimI (K : PySem.W.Frag) (L : Md) (wi : TI) (f : DTI) : Prop := ∀ (E : EC) (σ : St) (H : Hp) (δ : DSt) (R : List D → DSt → Prop) (Q : It → Hp → Prop), E.md = L → EnvR K E σ H δ → f δ R →
  (∀ J H' δ' items, EnvR K E σ H' δ' → Yields K E.bx J items (HH E σ δ' H') → R items δ' → Q J H') → wi σ H Q
inductive DI (X : Cx) (L : Md) (tg iter : Expr) (f : DTI) : Prop
  | mk {wi : TI} (pi : PI X tg iter wi) (sim : SimI X.K L wi f)
def tiC (K : PySem.W.Frag) (L : Md) (f : DTI) : TI := fun σ H Q => ∃ (E : EC) (δ : DSt) (R : List D → DSt → Prop), E.md = L ∧ EnvR K E σ H δ ∧ f δ R ∧ ∀ J H' δ' items, EnvR K E σ H' δ' → Yields K E.bx J items (HH E σ δ' H') → R items δ' → Q J H'
theorem DI.pi {X : Cx} {L : Md} {tg iter : Expr} {f : DTI} (h : DI X L tg iter f) : PI X tg iter (tiC X.K L f) := by
  obtain ⟨pe, sim⟩ := h
  exact ⟨fun pins s σ H Q I ⟨E, δ, R, hl, J, q, k⟩ => pe.run pins s σ H Q I (sim E σ H δ R Q hl J q k)⟩
theorem DI.sim {X : Cx} {L : Md} {tg iter : Expr} {f : DTI} (_ : DI X L tg iter f) : SimI X.K L (tiC X.K L f) f := fun E σ H δ R Q hl I q k => ⟨E, δ, R, hl, I, q, k⟩
section
variable {X : Cx} {L : Md} {tg a b : Expr} {ta tb : TE} {fa fb : DTE} {pos p : Pos}
/-- a list or a tuple -/
def iSeq (K : PySem.W.Frag) (tl : TE) : TI := fun σ H R => tl σ H fun x H1 => (∃ a, x = .ref a ∧ (∃ xs, SqL K H1 a xs) ∧ R (Itl K a) H1) ∨ ∃ a, x = .ref a ∧ (∃ xs, SqT K H1 a xs) ∧ R (Itt K a) H1
theorem pi_seq {l : Expr} {tl : TE} (hl : PE X l tl) : PI X tg l (iSeq X.K tl) := by
  refine ⟨fun pins s σ H R I h => ?_⟩
  refine thn (hl.run pins s σ H _ I h) fun v s1 ⟨x, H1, I1, r1, q1⟩ => ?_
  rcases q1 with ⟨a, e, ⟨xs, hq⟩, q⟩ | ⟨a, e, ⟨xs, hq⟩, q⟩
  · subst e
    cases r1
    obtain ⟨its, rv, p, hz⟩ := I1.list hq
    refine wpAny_pyIter_list p.isList ?_
    refine ⟨s1.heap.objs.size, [s1.heap.objs.size], _, _, H1, rfl, I1.kept (t' := s1.toks) fun b o e => Heap.get?_push_of_some _ e, turn_list a _, ⟨_, Heap.get?_push_size _ rfl, rfl, rfl⟩, fun b hb => ?_, q⟩
    have e : b = s1.heap.objs.size := by simpa using hb
    subst e
    exact I1.fpOk (Nat.le_refl _) (I1.hok.fresh (Nat.le_refl _))
  · subst e
    cases r1
    obtain ⟨its, rv, p, hz⟩ := I1.tuple hq
    refine wpAny_pyIter_tuple (show s1.heap.IsTuple a its.toArray from p) ?_
    refine ⟨s1.heap.objs.size, [s1.heap.objs.size], _, _, H1, rfl, I1.kept (t' := s1.toks) fun b o e => Heap.get?_push_of_some _ e, turn_tuple a _, ⟨_, Heap.get?_push_size _ rfl, rfl, rfl⟩, fun b hb => ?_, q⟩
    have e : b = s1.heap.objs.size := by simpa using hb
    subst e
    exact I1.fpOk (Nat.le_refl _) (I1.hok.fresh (Nat.le_refl _))
theorem yields_l {K : PySem.W.Frag} {bx : Addr} {a : Addr} {vs : List V} {ds : List D} {B : Hp} (h : SqL K B a vs) (r : RepA K bx B vs ds) : Yields K bx (Itl K a) ds B := fun P Hc hs hp => by
  have hq : SqL K Hc a vs := (hid_same _ _).seq (hs.seq h)
  refine ⟨fun i d hi => ?_, ⟨vs, hq, by rw [r.length]; exact Nat.le_refl _⟩⟩
  obtain ⟨v, hv, rv⟩ := r.get hi
  exact ⟨⟨vs, v, hq, hv⟩, fun x H' ⟨e, hx⟩ => by
    subst e
    have := hx vs hq
    rw [hv] at this
    cases this
    exact ⟨Same.refl _, rv.mono hs⟩⟩
theorem yields_t {K : PySem.W.Frag} {bx : Addr} {a : Addr} {vs : List V} {ds : List D} {B : Hp} (h : SqT K B a vs) (r : RepA K bx B vs ds) : Yields K bx (Itt K a) ds B := fun P Hc hs hp => by
  have hq : SqT K Hc a vs := Same.sqT (hid_same _ _) (Same.sqT hs h)
  refine ⟨fun i d hi => ?_, ⟨vs, hq, by rw [r.length]; exact Nat.le_refl _⟩⟩
  obtain ⟨v, hv, rv⟩ := r.get hi
  exact ⟨⟨vs, v, hq, hv⟩, fun x H' ⟨e, hx⟩ => by
    subst e
    have := hx vs hq
    rw [hv] at this
    cases this
    exact ⟨Same.refl _, rv.mono hs⟩⟩
def fSeq (fa : DTE) : DTI := fun δ R => fa δ fun b δ1 => force b δ1 fun d δ2 => match d with
  | .lst ds => R ds δ2
  | .tup ds => R ds δ2
  | .ptp ds => R ds δ2
  | .scr xs => R (xs.map D.int) δ2
  | _ => False
theorem i_seq (ha : DE X L a fa) : DI X L tg a (fSeq fa) :=
  ⟨pi_seq ha.pe, fun E σ H δ R Q hl I h k => ha.sim E σ H δ _ _ hl I h fun v H1 δ1 b I1 r1 h1 => by
    obtain ⟨d, δ2, I2, r2, h2⟩ := RepW.force I1 r1.weak h1
    cases r2 with
    | lst h r => exact .inl ⟨_, rfl, ⟨_, .inl (.inl ((hid_same _ _) _ _ h))⟩, k _ H1 δ2 _ I2 (yields_l (.inl (.inl h)) r) h2⟩
    | tup h r => exact .inr ⟨_, rfl, ⟨_, Same.sqT (hid_same _ _) h⟩, k _ H1 δ2 _ I2 (yields_t h r) h2⟩
    | ptp h _ r => exact .inr ⟨_, rfl, ⟨_, Same.sqT (hid_same _ _) h⟩, k _ H1 δ2 _ I2 (yields_t h r) h2⟩
    | scr h => exact .inl ⟨_, rfl, ⟨_, (hid_same _ _).seq h⟩, k _ H1 δ2 _ I2 (yields_l h (RepA.ofInts _)) h2⟩
    | _ => exact h2.elim⟩
/-- lo, lo + 1, .. (n of them) -/
def rangeD : Int → Nat → List D
  | _, 0 => []
  | lo, n + 1 => .int lo :: rangeD (lo + 1) n
theorem rangeD_length : ∀ (n : Nat) (lo : Int), (rangeD lo n).length = n
  | 0, _ => rfl
  | n + 1, lo => congrArg (· + 1) (rangeD_length n (lo + 1))
theorem rangeD_get : ∀ (n : Nat) (lo : Int) (i : Nat), i < n → (rangeD lo n)[i]? = some (.int (lo + i))
  | 0, _, _, h => by omega
  | n + 1, lo, 0, _ => by
    show some (D.int lo) = _
    rw [show lo + ((0 : Nat) : Int) = lo by omega]
  | n + 1, lo, i + 1, h => by
    show (rangeD (lo + 1) n)[i]? = _
    rw [rangeD_get n (lo + 1) i (by omega)]
    congr 2
    omega
theorem yields_r {K : PySem.W.Frag} {bx : Addr} {lo : Int} {n : Nat} {B : Hp} : Yields K bx (Itr lo n) (rangeD lo n) B := fun P Hc hs hp => by
  refine ⟨fun i d hi => ?_, Nat.le_of_eq (rangeD_length n lo).symm⟩
  have hl : i < n := by
    have := (List.getElem?_eq_some_iff.mp hi).1
    rw [rangeD_length] at this
    exact this
  rw [rangeD_get n lo i hl] at hi
  cases hi
  exact ⟨hl, fun x H' ⟨e, ex⟩ => by
    subst e ex
    exact ⟨Same.refl _, .int _⟩⟩
def smallR (i : Int) : Prop := -1000000000 ≤ i ∧ i ≤ 1000000000
theorem smallR_b {i : Int} (h : smallR i) : -(2 ^ 62) ≤ i ∧ i < 2 ^ 62 := by
  obtain ⟨h1, h2⟩ := h
  constructor <;> omega
def asI (δ : DSt) (b : BV) (k : Int → Prop) : Prop := withD δ b fun d => match d with
  | .int i => k i
  | _ => False
theorem RepW.asI {K : PySem.W.Frag} {E : EC} {σ : St} {H : Hp} {δ : DSt} {v : V} {b : BV} {k : Int → Prop} (I : EnvR K E σ H δ) (h : RepW K E σ H δ v b) (q : DL.asI δ b k) : ∃ i, v = .int i ∧ k i := by
  obtain ⟨d, r, q⟩ := RepW.withD I h q
  cases r with
  | int i => exact ⟨i, rfl, q⟩
  | _ => exact q.elim
def fRng1 (fa : DTA) : DTI := fun δ R => fa δ fun bs δ1 => match bs with
  | [b] => asI δ1 b fun j => smallR j ∧ R (rangeD 0 j.toNat) δ1
  | _ => False
def fRng2 (fa : DTA) : DTI := fun δ R => fa δ fun bs δ1 => match bs with
  | [b, c] => asI δ1 b fun i => asI δ1 c fun j => smallR i ∧ smallR j ∧ R (rangeD i (j - i).toNat) δ1
  | _ => False
variable {t : TA} {f : DTA}
theorem i_rng1 (hm : X.mg "range" = none) (ha : DA X L [a] f) (hg : Gl X "range" := by rfl) (hs : starEach [a] X.env = [(false, eval a X.env)] := by rfl) : DI X L tg (.Call (.Name "range" p) [a] [] pos) (fRng1 f) :=
  ⟨pi_range1 hg hm ha.pa hs, fun E σ H δ R Q hl I h k => ha.sim E σ H δ _ _ hl I h fun vs H1 δ1 bs I1 r1 h1 => by
    cases r1 with
    | nil => exact h1.elim
    | cons r rr => cases rr with
      | nil =>
        obtain ⟨j, rfl, hj, h2⟩ := RepW.asI I1 r h1
        exact ⟨j, rfl, (smallR_b hj).1, (smallR_b hj).2, k _ H1 δ1 _ I1 yields_r h2⟩
      | cons _ _ => exact h1.elim⟩
theorem i_rng2 (hm : X.mg "range" = none) (ha : DA X L [a, b] f) (hg : Gl X "range" := by rfl) (hs : starEach [a, b] X.env = [(false, eval a X.env), (false, eval b X.env)] := by rfl) (hs2 : starEach [b] X.env = [(false, eval b X.env)] := by rfl) : DI X L tg (.Call (.Name "range" p) [a, b] [] pos) (fRng2 f) :=
  ⟨pi_range2 hg hm ha.pa hs hs2, fun E σ H δ R Q hl I h k => ha.sim E σ H δ _ _ hl I h fun vs H1 δ1 bs I1 r1 h1 => by
    cases r1 with
    | nil => exact h1.elim
    | cons r rr => cases rr with
      | nil => exact h1.elim
      | cons r' rr => cases rr with
        | nil =>
          obtain ⟨i, rfl, h1⟩ := RepW.asI I1 r h1
          obtain ⟨j, rfl, hi, hj, h2⟩ := RepW.asI I1 r' h1
          exact ⟨i, j, rfl, ⟨(smallR_b hi).1, (smallR_b hi).2, (smallR_b hj).1, (smallR_b hj).2⟩, k _ H1 δ1 _ I1 yields_r h2⟩
        | cons _ _ => exact h1.elim⟩
end
end DL
set_option Elab.async false
set_option linter.all false
set_option maxRecDepth 100000
set_option autoImplicit false
/-! DL, part e: comprehensions, statements, defs. -/
namespace DL
open PySem PySem.Spec L2
open PyProof.Rows hiding St
/-! ### slots forgotten and brought back -/
def wipeD (δ : DSt) : List Nat → DSt
  | [] => δ
  | v :: vs => (wipeD δ vs).set v .no
def backD (δ0 δ : DSt) : List Nat → DSt
  | [] => δ
  | v :: vs => (backD δ0 δ vs).set v (look δ0 v)
def okW (δ : DSt) : List Nat → Prop
  | [] => True
  | v :: vs => (match look δ v with
    | .own _ => False
    | _ => True) ∧ okW δ vs
section
variable {K : PySem.W.Frag} {E : EC} {σ : St} {H H' : Hp} {δ δ' : DSt}
theorem EnvR.wipe (I : EnvR K E σ H δ) : ∀ vs : List Nat, vs.all E.md.ok = true → EnvR K E (L2.wipe σ vs) H (wipeD δ vs)
  | [], _ => I
  | v :: vs, h => by
    rw [List.all_cons, Bool.and_eq_true] at h
    exact (EnvR.wipe I vs h.2).drop h.1
theorem wipe_get (σ : St) (j : Nat) : ∀ vs : List Nat, (L2.wipe σ vs)[j]? = if j ∈ vs then (σ[j]?).map fun _ => none else σ[j]?
  | [] => by simp [L2.wipe]
  | v :: vs => by
    have ih := wipe_get σ j vs
    unfold L2.wipe
    by_cases e : j = v
    · subst e
      rw [if_pos List.mem_cons_self]
      by_cases hl : j < σ.length
      · rw [List.getElem?_set_self (by rw [wipe_length]; exact hl), List.getElem?_eq_getElem hl]
        rfl
      · rw [List.getElem?_eq_none (by rw [List.length_set, wipe_length]; omega), List.getElem?_eq_none (by omega)]
        rfl
    · rw [List.getElem?_set_ne (Ne.symm e), ih]
      by_cases h : j ∈ vs
      · rw [if_pos h, if_pos (List.mem_cons_of_mem _ h)]
      · rw [if_neg h, if_neg (fun z => (List.mem_cons.mp z).elim e h)]
theorem wipe_ext {σ σ' : St} {vs ft : List Nat} (hl : σ'.length = σ.length) (ho : ∀ j, j ∉ ft → σ'[j]? = σ[j]?) (hf : ∀ j ∈ ft, j ∈ vs) : L2.wipe σ' vs = L2.wipe σ vs := by
  refine List.ext_getElem? fun j => ?_
  rw [wipe_get, wipe_get]
  by_cases h : j ∈ vs
  · rw [if_pos h, if_pos h]
    by_cases hj : j < σ.length
    · rw [List.getElem?_eq_getElem hj, List.getElem?_eq_getElem (by rw [hl]; exact hj)]
      rfl
    · rw [List.getElem?_eq_none (by omega), List.getElem?_eq_none (by omega)]
  · rw [if_neg h, if_neg h]
    exact ho j fun z => h (hf j z)
theorem wipe_wipe (σ : St) (vs : List Nat) : L2.wipe (L2.wipe σ vs) vs = L2.wipe σ vs := by
  refine List.ext_getElem? fun j => ?_
  rw [wipe_get, wipe_get]
  by_cases h : j ∈ vs
  · rw [if_pos h, if_pos h]
    cases σ[j]? <;> rfl
  · rw [if_neg h, if_neg h]
theorem backD_get (δ0 δ : DSt) (j : Nat) : ∀ vs : List Nat, (backD δ0 δ vs)[j]? = if j ∈ vs then (δ[j]?).map fun _ => look δ0 j else δ[j]?
  | [] => by simp [backD]
  | v :: vs => by
    have ih := backD_get δ0 δ j vs
    have hlen : ∀ ws : List Nat, (backD δ0 δ ws).length = δ.length := fun ws => by
      induction ws with
      | nil => rfl
      | cons w ws ih => unfold backD; rw [List.length_set, ih]
    unfold backD
    by_cases e : j = v
    · subst e
      rw [if_pos List.mem_cons_self]
      by_cases hl : j < δ.length
      · rw [List.getElem?_set_self (by rw [hlen]; exact hl), List.getElem?_eq_getElem hl]
        rfl
      · rw [List.getElem?_eq_none (by rw [List.length_set, hlen]; omega), List.getElem?_eq_none (by omega)]
        rfl
    · rw [List.getElem?_set_ne (Ne.symm e), ih]
      by_cases h : j ∈ vs
      · rw [if_pos h, if_pos (List.mem_cons_of_mem _ h)]
      · rw [if_neg h, if_neg (fun z => (List.mem_cons.mp z).elim e h)]
theorem backD_length (δ0 δ : DSt) : ∀ vs : List Nat, (backD δ0 δ vs).length = δ.length
  | [] => rfl
  | v :: vs => by unfold backD; rw [List.length_set, backD_length δ0 δ vs]
theorem okW_mem {δ : DSt} : ∀ {vs : List Nat}, okW δ vs → ∀ j ∈ vs, ∀ d, look δ j ≠ .own d
  | v :: vs, h, j, hj, d => by
    rcases List.mem_cons.mp hj with rfl | hj
    · intro e
      have h1 := h.1
      rw [e] at h1
      exact h1
    · exact okW_mem h.2 j hj d
/-- behind a block: its slots are as they were -/
theorem EnvR.back {δ0 : DSt} {H0 : Hp} {vs : List Nat} (hok : vs.all E.md.ok = true) (I0 : EnvR K E σ H0 δ0) (ok : okW δ0 vs) (I : EnvR K { E with H0 := HH E σ δ0 H0 } (L2.wipe σ vs) H (wipeD δ vs)) (hl : δ.length = σ.length) : EnvR K { E with H0 := HH E σ δ0 H0 } σ H (backD δ0 δ vs) := by
  have lk : ∀ {j : Nat} {s : Sl}, (backD δ0 δ vs)[j]? = some s → (j ∈ vs ∧ look δ0 j = s ∧ j < δ.length) ∨ (j ∉ vs ∧ (wipeD δ vs)[j]? = some s ∧ (L2.wipe σ vs)[j]? = σ[j]?) := fun {j s} e => by
    have e0 := e
    rw [backD_get] at e
    by_cases h : j ∈ vs
    · rw [if_pos h] at e
      cases q : δ[j]? with
      | none => rw [q] at e; cases e
      | some t =>
        rw [q] at e
        exact .inl ⟨h, Option.some.inj e, (List.getElem?_eq_some_iff.mp q).1⟩
    · rw [if_neg h] at e
      refine .inr ⟨h, ?_, by rw [wipe_get, if_neg h]⟩
      have : ∀ ws : List Nat, j ∉ ws → (wipeD δ ws)[j]? = δ[j]? := fun ws hw => by
        induction ws with
        | nil => rfl
        | cons w ws ih =>
          unfold wipeD
          rw [List.getElem?_set_ne (fun z => hw (by rw [z]; exact List.mem_cons_self)), ih (fun z => hw (List.mem_cons_of_mem _ z))]
      rw [this vs h]
      exact e
  have hid' : ∀ a, hidP { E with H0 := HH E σ δ0 H0 } σ (backD δ0 δ vs) a → hidP { E with H0 := HH E σ δ0 H0 } (L2.wipe σ vs) (wipeD δ vs) a := fun a z => by
    rcases z with z | z | ⟨j, d, z1, z2⟩
    · exact .inl z
    · exact .inr (.inl z)
    · rcases lk z1 with ⟨h, e, _⟩ | ⟨h, e, e2⟩
      · exact absurd e (okW_mem ok j h d)
      · exact .inr (.inr ⟨j, d, e, by rw [e2]; exact z2⟩)
  have hs : Same (HH { E with H0 := HH E σ δ0 H0 } (L2.wipe σ vs) (wipeD δ vs) H) (HH { E with H0 := HH E σ δ0 H0 } σ (backD δ0 δ vs) H) := hid_mono hid' fun _ _ _ q => q
  refine ⟨by rw [backD_length]; exact hl.symm, fun j d e => ?_, fun j d e => ?_, fun j k d e a h1 h2 h3 h4 => ?_, I.base.trans hs, I.tmp, I.bxT, I.box.slots (fun j hj => by
    rw [wipe_get, if_neg]
    intro hm
    rw [List.all_eq_true.mp hok j hm] at hj
    cases hj) hs⟩
  · rcases lk e with ⟨h, e, hlt⟩ | ⟨h, e, e2⟩
    · obtain ⟨v, h1, h2⟩ := I0.val j d (look_val e)
      exact ⟨v, h1, Rep.mono hs (Rep.mono I.base h2)⟩
    · obtain ⟨v, h1, h2⟩ := I.val j d e
      exact ⟨v, by rw [← e2]; exact h1, h2.mono hs⟩
  · rcases lk e with ⟨h, e, hlt⟩ | ⟨h, e, e2⟩
    · exact absurd e (okW_mem ok j h d)
    · obtain ⟨a, h1, h2, h3⟩ := I.own j d e
      exact ⟨a, by rw [← e2]; exact h1, h2.mono rfl hs, h3⟩
  · rcases lk h1 with ⟨h, q, _⟩ | ⟨h, q1, q2⟩
    · exact absurd q (okW_mem ok j h d)
    · rcases lk h2 with ⟨h', q, _⟩ | ⟨h', q3, q4⟩
      · exact absurd q (okW_mem ok k h' e)
      · exact I.dis j k d e a q1 q3 (by rw [q2]; exact h3) (by rw [q4]; exact h4)
/-- the object under way is changed -/
theorem EnvR.tset {T : Hp} {D : Addr} {o o' : HO} (hT : T D = none) (I : EnvR K { E with T := upd T D o } σ H δ) (ho : Mut (some o)) : EnvR K { E with T := upd T D o' } σ (upd H D o') δ ∧ Same (HH { E with T := upd T D o } σ δ H) (HH { E with T := upd T D o' } σ δ (upd H D o')) := by
  have hD : H D = some o := I.tmp D o upd_same
  have nD : ∀ a, ¬ hidP { E with T := upd T D o } σ δ a → a ≠ D := fun a n e => n (.inr (.inl ⟨o, by rw [e]; exact upd_same⟩))
  have iff : ∀ a, hidP { E with T := upd T D o' } σ δ a → hidP { E with T := upd T D o } σ δ a := fun a z => by
    rcases z with z | ⟨u, z⟩ | z
    · exact .inl z
    · by_cases e : a = D
      · exact .inr (.inl ⟨o, by rw [e]; exact upd_same⟩)
      · exact .inr (.inl ⟨u, by
          have z' : upd T D o' a = some u := z
          rw [upd_ne e] at z'
          show upd T D o a = some u
          rw [upd_ne e]; exact z'⟩)
    · exact .inr (.inr z)
  have hs : Same (HH { E with T := upd T D o } σ δ H) (HH { E with T := upd T D o' } σ δ (upd H D o')) := hid_mono iff fun a u n e => by rw [upd_ne (nD a n)]; exact e
  refine ⟨⟨I.len, fun i d h => ?_, fun i d h => ?_, I.dis, I.base.trans hs, fun b u e => ?_, fun h => ?_, I.box.grow (fun hl o2 q => ?_) hs⟩, hs⟩
  · obtain ⟨v, h1, h2⟩ := I.val i d h
    exact ⟨v, h1, h2.mono hs⟩
  · obtain ⟨a, h1, h2, h3, h4⟩ := I.own i d h
    have h3 : upd T D o a = none := h3
    have na : a ≠ D := fun e => by rw [e, upd_same] at h3; cases h3
    refine ⟨a, h1, h2.mono (upd_ne na) hs, ?_, h4⟩
    show upd T D o' a = none
    rw [upd_ne na] at h3 ⊢
    exact h3
  · have e : upd T D o' b = some u := e
    by_cases z : b = D
    · rw [z, upd_same] at e
      cases e
      rw [z]; exact upd_same
    · rw [upd_ne z] at e ⊢
      exact I.tmp b u (by show upd T D o b = some u; rw [upd_ne z]; exact e)
  · have q : upd T D o E.bx = none := I.bxT h
    have na : E.bx ≠ D := fun e => by rw [e, upd_same] at q; cases q
    show upd T D o' E.bx = none
    rw [upd_ne na] at q ⊢
    exact q
  · have q' : upd T D o E.bx = none := I.bxT hl
    have na : E.bx ≠ D := fun e => by rw [e, upd_same] at q'; cases q'
    show upd H D o' E.bx = _
    rw [upd_ne na]; exact q
end
/-! ### list comprehensions -/
/-- the tests of a clause -/
inductive DTs (X : Cx) (L : Md) (ifs : List Expr) (f : DTT) : Prop
  | mk {te : TT} (pts : PTs X ifs te) (sim : SimT X.K L te f)
theorem DTs.pts {X : Cx} {L : Md} {ifs : List Expr} {f : DTT} (h : DTs X L ifs f) : PTs X ifs (ttC X.K L f) := by
  obtain ⟨pe, sim⟩ := h
  exact ⟨fun pins s σ H Q I ⟨E, δ, R, hl, J, q, k⟩ => pe.run pins s σ H Q I (sim E σ H δ R Q hl J q k)⟩
theorem DTs.sim {X : Cx} {L : Md} {ifs : List Expr} {f : DTT} (_ : DTs X L ifs f) : SimT X.K L (ttC X.K L f) f := fun E σ H δ R Q hl I q k => ⟨E, δ, R, hl, I, q, k⟩
def fYes : DTT := fun δ R => R true δ
theorem ts_nil {X : Cx} {L : Md} : DTs X L [] fYes := ⟨pts_nil, fun E σ H δ R Q hl I h k => k true H δ I h⟩
theorem ts_one {X : Cx} {L : Md} {c : Expr} {f : DTT} (h : DT X L c f) : DTs X L [c] f := ⟨pts_one h.pt, h.sim⟩
def compD (vs : List Nat) (asg : DAs) (ft : DTT) (fe : DTE) : List D → List D → DSt → (List D → DSt → Prop) → Prop
  | [], acc, δ, R => R acc δ
  | x :: xs, acc, δ, R => asg x δ fun δ1 => ft δ1 fun b δ2 => if b = true then fe δ2 fun bv δ3 => force bv δ3 fun d δ4 => acc.length < 16000000 ∧ compD vs asg ft fe xs (acc ++ [d]) (wipeD δ4 vs) R
    else compD vs asg ft fe xs acc (wipeD δ2 vs) R
def fComp (vs : List Nat) (fi : DTI) (asg : DAs) (ft : DTT) (fe : DTE) : DTE := fun δ R => fi δ fun items δ1 => okW δ1 vs ∧ compD vs asg ft fe items [] (wipeD δ1 vs) fun ds δ2 => R (.fresh (.lst ds)) (backD δ1 δ2 vs)
theorem wipeD_length (δ : DSt) : ∀ vs : List Nat, (wipeD δ vs).length = δ.length
  | [] => rfl
  | v :: vs => by unfold wipeD; rw [List.length_set, wipeD_length δ vs]
theorem wipeD_wipeD (δ : DSt) (vs : List Nat) : wipeD (wipeD δ vs) vs = wipeD δ vs := by
  have g : ∀ (δ : DSt) (j : Nat) (vs : List Nat), (wipeD δ vs)[j]? = if j ∈ vs then (δ[j]?).map fun _ => Sl.no else δ[j]? := fun δ j vs => by
    induction vs with
    | nil => simp [wipeD]
    | cons v vs ih =>
      unfold wipeD
      by_cases e : j = v
      · subst e
        rw [if_pos List.mem_cons_self]
        by_cases hl : j < δ.length
        · rw [List.getElem?_set_self (by rw [wipeD_length]; exact hl), List.getElem?_eq_getElem hl]
          rfl
        · rw [List.getElem?_eq_none (by rw [List.length_set, wipeD_length]; omega), List.getElem?_eq_none (by omega)]
          rfl
      · rw [List.getElem?_set_ne (Ne.symm e), ih]
        by_cases h : j ∈ vs
        · rw [if_pos h, if_pos (List.mem_cons_of_mem _ h)]
        · rw [if_neg h, if_neg (fun z => (List.mem_cons.mp z).elim e h)]
  refine List.ext_getElem? fun j => ?_
  rw [g, g]
  by_cases h : j ∈ vs
  · rw [if_pos h, if_pos h]
    cases δ[j]? <;> rfl
  · rw [if_neg h, if_neg h]
theorem comp_at {K : PySem.W.Frag} {L : Md} {vs ft : List Nat} {g : TG} {asg : DAs} {tt : TT} {fT : DTT} {te : TE} {fe : DTE} (hg : SimG K L g ft asg) (hok : vs.all L.ok = true) (hf : ∀ j ∈ ft, j ∈ vs) (ht : SimT K L tt fT) (he : SimE K L te fe)
    {E : EC} {σ : St} {H1 : Hp} {δ1 : DSt} {R : BV → DSt → Prop} {Q : VK} {J : It} {items : List DL.D} (hl : E.md = L) (I1 : EnvR K E σ H1 δ1) (Y : Yields K E.bx J items (HH E σ δ1 H1))
    (h1 : okW δ1 vs ∧ compD vs asg fT fe items [] (wipeD δ1 vs) fun ds δ2 => R (.fresh (.lst ds)) (backD δ1 δ2 vs)) (k : ∀ v H' δ' b, EnvR K E σ H' δ' → RepB K E σ H' δ' v b → R b δ' → Q v H') :
    tLc (fun _ H R => R J H) g tt te vs σ H1 Q := by
  obtain ⟨ok, h1⟩ := h1
  have hok' : vs.all E.md.ok = true := by rw [hl]; exact hok
  show ∀ D, H1 D = none → _
  intro D hD
  -- around the block
  have hT : E.T D = none := by
    cases e : E.T D with
    | none => rfl
    | some o => rw [I1.tmp D o e] at hD; cases hD
  let B := HH E σ δ1 H1
  let Ec : List V → EC := fun accV => { E with H0 := B, T := upd E.T D (.lst accV) }
  obtain ⟨F0, sB⟩ := (I1.pin).fresh (o := .lst []) hD
  refine ⟨fun i m Hc => m = items.length - i ∧ i ≤ items.length ∧ ∃ (accV : List V) (accD : List DL.D) (δc : DSt), EnvR K (Ec accV) (L2.wipe σ vs) Hc (wipeD δc vs) ∧ δc.length = σ.length ∧ RepA K E.bx (HH (Ec accV) (L2.wipe σ vs) (wipeD δc vs) Hc) accV accD ∧
    compD vs asg fT fe (items.drop i) accD (wipeD δc vs) fun ds δ2 => R (.fresh (.lst ds)) (backD δ1 δ2 vs), ⟨items.length, by omega, Nat.zero_le _, [], [], δ1, F0.wipe vs hok', I1.len.symm, .nil, by rw [List.drop_zero]; exact h1⟩, ?_⟩
  rintro i m Hc ⟨rfl, hi', accV, accD, δc, Ic, lc, rA, hc⟩
  obtain ⟨Y1, Y2⟩ := Y (hidP (Ec accV) (L2.wipe σ vs) (wipeD δc vs)) Hc Ic.base fun a z => Ic.hidden z
  by_cases hlt : i < items.length
  · have hx : items[i]? = some items[i] := List.getElem?_eq_getElem hlt
    obtain ⟨go, yl⟩ := Y1 i _ hx
    rw [List.drop_eq_getElem_cons hlt] at hc
    refine .inr ⟨go, fun Hn => ∃ (accV : List V) (accD : List DL.D) (δc : DSt), EnvR K (Ec accV) (L2.wipe σ vs) Hn (wipeD δc vs) ∧ δc.length = σ.length ∧ RepA K E.bx (HH (Ec accV) (L2.wipe σ vs) (wipeD δc vs) Hn) accV accD ∧
      compD vs asg fT fe (items.drop (i + 1)) accD (wipeD δc vs) fun ds δ2 => R (.fresh (.lst ds)) (backD δ1 δ2 vs), fun H' ⟨a, b, c, q⟩ => ⟨items.length - (i + 1), by omega, rfl, hlt, a, b, c, q⟩, fun x H' hy => ?_⟩
    obtain ⟨s1, r1⟩ := yl x H' hy
    have I2 := Ic.same s1
    have rA2 : RepA K E.bx (HH (Ec accV) (L2.wipe σ vs) (wipeD δc vs) H') accV accD := rA.mono (HH_grow s1)
    let E2 : EC := { Ec accV with H0 := HH (Ec accV) (L2.wipe σ vs) (wipeD δc vs) H' }
    have I2' : EnvR K E2 (L2.wipe σ vs) H' (wipeD δc vs) := I2.pin
    have sB2 : Same B E2.H0 := I2.base
    refine hg E2 (L2.wipe σ vs) H' (wipeD δc vs) x _ _ _ hl I2' r1 hc fun σ3 δ3 I3 o3 l3 h3 => ?_
    have ew : L2.wipe σ3 vs = L2.wipe σ vs := (wipe_ext l3 o3 hf).trans (wipe_wipe σ vs)
    have len3 : ∀ {H : Hp} {δ : DSt} {E : EC}, EnvR K E σ3 H δ → δ.length = σ.length := fun {H δ E} J => by
      rw [← J.len, l3, wipe_length]
    refine ⟨ew, ht E2 σ3 H' δ3 _ _ hl I3 h3 fun b H4 δ4 I4 h4 => ?_⟩
    cases b with
    | false =>
      simp only [Bool.false_eq_true, if_false] at h4 ⊢
      have J := I4.wipe vs hok'
      rw [ew] at J
      refine ⟨accV, accD, δ4, J.unbase (E := Ec accV) sB2, len3 I4, ?_, h4⟩
      exact rA2.mono J.base
    | true =>
      simp only [if_true] at h4 ⊢
      refine he E2 σ3 H4 δ4 _ _ hl I4 h4 fun y H5 δ5 bv I5 r5 h5 => ?_
      obtain ⟨d, δ6, I6, r6, hz, h6⟩ := RepW.force (E := { E2 with H0 := HH E2 σ3 δ5 H5 }) I5.pin r5.weak h5
      have I6' : EnvR K E2 σ3 H5 δ6 := I6.unbase I5.base
      have hD5 : H5 D = some (.lst accV) := I6'.tmp D _ upd_same
      have lA : accV.length = accD.length := rA.length
      refine ⟨accV, hD5, by rw [lA]; exact Nat.lt_of_lt_of_le hz (szL (Nat.le_refl _)), ?_⟩
      have J := I6'.wipe vs hok'
      rw [ew] at J
      have J2 : EnvR K (Ec accV) (L2.wipe σ vs) H5 (wipeD δ6 vs) := J.unbase (E := Ec accV) sB2
      have sw : Same (HH E2 σ3 δ6 H5) (HH E2 (L2.wipe σ vs) (wipeD δ6 vs) H5) := by
        rw [← ew]
        exact ((I6'.pin (E := E2)).wipe vs hok').base
      obtain ⟨J3, s3⟩ := EnvR.tset (E := { E with H0 := B }) (o' := .lst (accV ++ [y])) hT J2 trivial
      refine ⟨accV ++ [y], accD ++ [d], δ6, J3, len3 I6', ?_, h6⟩
      exact RepA.append ((rA2.mono J.base).mono s3) (.cons (Rep.mono s3 (Rep.mono sw r6)) .nil)
  · have ei : i = items.length := by omega
    subst ei
    rw [List.drop_length] at hc
    refine .inl ⟨Y2, ?_⟩
    have hD2 : Hc D = some (.lst accV) := Ic.tmp D _ upd_same
    -- back: with and without the new list hidden
    have P1 : EnvR K { E with H0 := B, T := upd E.T D (.lst accV) } σ Hc (backD δ1 (wipeD δc vs) vs) := by
      have I1T : EnvR K { E with T := upd E.T D (.lst []) } σ (upd H1 D (.lst [])) δ1 := (I1.fresh hD).1
      have I1U : EnvR K { E with T := upd E.T D (.lst accV) } σ (upd (upd H1 D (.lst [])) D (.lst accV)) δ1 := (EnvR.tset hT I1T trivial).1
      rw [upd_upd] at I1U
      have eB : Same B (HH { E with T := upd E.T D (.lst accV) } σ δ1 (upd H1 D (.lst accV))) := (I1.fresh (o := .lst accV) hD).2
      have eB2 : Same (HH { E with T := upd E.T D (.lst accV) } σ δ1 (upd H1 D (.lst accV))) B := fun a o q => by
        obtain ⟨n, q⟩ := hid_some.mp q
        have na : a ≠ D := fun z => n (.inr (.inl ⟨_, by rw [z]; exact upd_same⟩))
        rw [upd_ne na] at q
        refine hid_some.mpr ⟨fun z => n ?_, q⟩
        rcases z with z | ⟨u, z⟩ | z
        · exact .inl z
        · exact .inr (.inl ⟨u, (upd_ne (H := E.T) (o := .lst accV) na).trans z⟩)
        · exact .inr (.inr z)
      have eB3 : HH { E with T := upd E.T D (.lst accV) } σ δ1 (upd H1 D (.lst accV)) = B := by
        funext a
        cases e : B a with
        | some o => exact eB a o e
        | none =>
          cases e2 : HH { E with T := upd E.T D (.lst accV) } σ δ1 (upd H1 D (.lst accV)) a with
          | none => rfl
          | some o => rw [eB2 a o e2] at e; cases e
      have := EnvR.back (E := { E with T := upd E.T D (.lst accV) }) (δ := wipeD δc vs) hok' I1U ok (by rw [eB3, wipeD_wipeD]; exact Ic) (by rw [wipeD_length]; exact lc)
      rw [eB3] at this
      exact this
    have dropT : ∀ a, hidP { E with H0 := B } σ (backD δ1 (wipeD δc vs) vs) a → hidP { E with H0 := B, T := upd E.T D (.lst accV) } σ (backD δ1 (wipeD δc vs) vs) a := fun a z => by
      rcases z with z | ⟨u, z⟩ | z
      · exact .inl z
      · by_cases e : a = D
        · exact .inr (.inl ⟨_, by rw [e]; exact upd_same⟩)
        · exact .inr (.inl ⟨u, (upd_ne (H := E.T) (o := .lst accV) e).trans z⟩)
      · exact .inr (.inr z)
    have nD : ¬ hidP { E with H0 := B } σ (backD δ1 (wipeD δc vs) vs) D := fun z => by
      rcases z with ⟨z1, z2⟩ | ⟨u, z⟩ | ⟨j, d, z1, z2⟩
      · have q := P1.bxT z1
        have q : upd E.T D (.lst accV) E.bx = none := q
        have z2 : D = E.bx := z2
        rw [← z2, upd_same] at q
        cases q
      · have z : E.T D = some u := z
        rw [hT] at z; cases z
      · obtain ⟨a, q1, q2, q3, q4⟩ := P1.own j d z1
        rw [z2] at q1
        cases q1
        have q3 : upd E.T D (.lst accV) D = none := q3
        rw [upd_same] at q3
        cases q3
    have sT := hid_mono (H := Hc) (H' := Hc) dropT fun _ _ _ q => q
    have P2 : EnvR K { E with H0 := B } σ Hc (backD δ1 (wipeD δc vs) vs) := by
      refine ⟨P1.len, fun j d e => ?_, fun j d e => ?_, P1.dis, P1.base.trans sT, fun a o e => ?_, I1.bxT, P1.box.mono sT⟩
      · obtain ⟨v, h1, h2⟩ := P1.val j d e
        exact ⟨v, h1, h2.mono sT⟩
      · obtain ⟨a, h1, h2, h3, h4⟩ := P1.own j d e
        have h3 : upd E.T D (.lst accV) a = none := h3
        have na : a ≠ D := fun e => by rw [e, upd_same] at h3; cases h3
        rw [upd_ne na] at h3
        exact ⟨a, h1, h2.mono rfl sT, h3, h4⟩
      · have na : a ≠ D := fun z => by
          have e : E.T a = some o := e
          rw [z, hT] at e; cases e
        exact P1.tmp a o ((upd_ne (H := E.T) (o := .lst accV) na).trans e)
    have P3 : EnvR K E σ Hc (backD δ1 (wipeD δc vs) vs) := P2.unbase I1.base
    refine k (.ref D) Hc _ (.fresh (.lst accD)) P3 ⟨D, .lst accV, rfl, hD2, nD, EnvR.unbase (E := { E with T := upd E.T D (.lst accV) }) P1 I1.base, .lst hD2 ?_⟩ hc
    -- the items, seen from outside
    have sW : Same (HH (Ec accV) (L2.wipe σ vs) (wipeD δc vs) Hc) (HH { E with T := upd E.T D (.lst accV) } σ (backD δ1 (wipeD δc vs) vs) Hc) := hid_mono (fun a z => by
      rcases z with z | z | ⟨j, d, z1, z2⟩
      · exact .inl z
      · exact .inr (.inl z)
      · rw [backD_get] at z1
        by_cases hj : j ∈ vs
        · rw [if_pos hj] at z1
          cases q : (wipeD δc vs)[j]? with
          | none => rw [q] at z1; cases z1
          | some t =>
            rw [q] at z1
            exact absurd (Option.some.inj z1) (okW_mem ok j hj d)
        · rw [if_neg hj] at z1
          exact .inr (.inr ⟨j, d, z1, by rw [wipe_get, if_neg hj]; exact z2⟩)) fun _ _ _ q => q
    exact rA.mono sW
theorem sim_comp {K : PySem.W.Frag} {L : Md} {vs ft : List Nat} {wi : TI} {fi : DTI} {g : TG} {asg : DAs} {tt : TT} {fT : DTT} {te : TE} {fe : DTE} (hi : SimI K L wi fi) (hg : SimG K L g ft asg) (hok : vs.all L.ok = true) (hf : ∀ j ∈ ft, j ∈ vs) (ht : SimT K L tt fT) (he : SimE K L te fe) :
    SimE K L (tLc wi g tt te vs) (fComp vs fi asg fT fe) := fun E σ H δ R Q hl I h k => hi E σ H δ _ _ hl I h fun J H1 δ1 items I1 Y h1 => comp_at hg hok hf ht he hl I1 Y h1 k
section
variable {X : Cx} {L : Md} {elt tg iter : Expr} {ifs : List Expr} {scope : Scope} {own : List (Str × Nat)} {pos : Pos} {wi : TI} {g : TG} {tt : TT} {te : TE} {ft : List Nat} {fi : DTI} {asg : DAs} {fT : DTT} {fe : DTE}
theorem d_lc {vs : List Nat} (s : Shared) (H : Hp) (hc : X.calm = true) (hN : X.N.Nodup) (ok : BlkOk X.N X.env.scope scope own) (hi : DI X L tg iter fi)
    (hg : ∀ (s : Shared) (H : Hp) (C : Addr) (cl : List (Str × Addr)) (fp : List Addr), DG (X.blk s H scope (compEnvC scope cl C X.env) fp) L tg ft asg)
    (ht : ∀ (s : Shared) (H : Hp) (C : Addr) (cl : List (Str × Addr)) (fp : List Addr), DTs (X.blk s H scope (compEnvC scope cl C X.env) fp) L ifs fT)
    (he : ∀ (s : Shared) (H : Hp) (C : Addr) (cl : List (Str × Addr)) (fp : List Addr), DE (X.blk s H scope (compEnvC scope cl C X.env) fp) L elt fe)
    (hv : own.map (·.2) = vs := by rfl) (hok : (own.map (·.2)).all L.ok = true := by rfl) (hf : (ft.all fun j => (own.map (·.2)).contains j) = true := by rfl) (hs : ∀ x, foldedSetIterable iter X.env x = pure x := by intro _; rfl) : DE X L (.ListComp elt [⟨tg, iter, ifs, 0⟩] scope pos) (fComp vs fi asg fT fe) := by
  subst hv
  exact ⟨pe_lc hc hN hi.pi ok (fun s H C cl fp => (hg s H C cl fp).pg) (fun s H C cl fp => (ht s H C cl fp).pts) (fun s H C cl fp => (he s H C cl fp).pe) hs,
    sim_comp hi.sim (hg s H 0 [] []).sim hok (fun j hj => by simpa using List.all_eq_true.mp hf j hj) (ht s H 0 [] []).sim (he s H 0 [] []).sim⟩
end
end DL
set_option Elab.async false
set_option linter.all false
set_option maxRecDepth 100000
set_option autoImplicit false
/-! DL, part f: statements, defs. -/
namespace DL
open PySem PySem.Spec L2
open PyProof.Rows hiding St
structure DEnds where
  nx : DSt → Prop
  rt : D → Prop
  bk : DSt → Prop := fun _ => False
  ct : DSt → Prop := fun _ => False
abbrev DTS := DEnds → DSt → Prop
/-- what is hidden around -/
def hidE (E : EC) (a : Addr) : Prop := (E.live = true ∧ a = E.bx) ∨ ∃ o, E.T a = some o
/-- how a def leaves the heap -/
structure Fin (K : PySem.W.Frag) (E : EC) (H : Hp) : Prop where
  base : Same E.H0 (hid (hidE E) H)
  tmp : Same E.T H
  box : E.md = .box → BoxOk K E.bx (hid (hidE E) H) H
theorem HH_E {E : EC} {σ : St} {δ : DSt} {H : Hp} : Same (HH E σ δ H) (hid (hidE E) H) := hid_mono (fun a z => z.elim .inl fun z => .inr (.inl z)) fun _ _ _ q => q
theorem EnvR.fin {K : PySem.W.Frag} {E : EC} {σ : St} {H : Hp} {δ : DSt} (I : EnvR K E σ H δ) : Fin K E H := ⟨I.base.trans HH_E, I.tmp, fun z => by
  have h := I.box
  rw [z] at h
  obtain ⟨dg, t, digs, q1, q2, q3⟩ := h
  exact ⟨dg, t, digs, q1, q2, HH_E.seq q3⟩⟩
def Md.isOb : Md → Bool
  | .ob _ => true
  | _ => false
/-- a slot as a datum -/
def encS : Sl → D
  | .no => .non
  | .val d => .tup [.int 0, d]
  | .own d => .tup [.int 1, d]
/-- what a method gives back: its answer, and all slots -/
def pack (d : D) (δ : DSt) : D := .tup [d, .lst (δ.map encS)]
structure EndsOk (K : PySem.W.Frag) (E : EC) (Dn : Ends) (Df : DEnds) : Prop where
  nx : ∀ σ H δ, EnvR K E σ H δ → Df.nx δ → Dn.nx σ H
  rt : E.md.isOb = false → ∀ H v d, Fin K E H → Rep K E.bx (hid (hidE E) H) v d → Df.rt d → Dn.rt v H
  bk : ∀ σ H δ, EnvR K E σ H δ → Df.bk δ → Dn.bk σ H
  ct : ∀ σ H δ, EnvR K E σ H δ → Df.ct δ → Dn.ct σ H
  ro : E.md.isOb = true → ∀ σ H δ v d, EnvR K E σ H δ → Rep K E.bx (HH E σ δ H) v d → Df.rt (pack d δ) → Dn.rt v H
theorem EndsOk.base {K : PySem.W.Frag} {E : EC} {Dn : Ends} {Df : DEnds} {H1 : Hp} (h : EndsOk K E Dn Df) (hb : Same E.H0 H1) : EndsOk K { E with H0 := H1 } Dn Df :=
  ⟨fun σ H δ I q => h.nx σ H δ (I.unbase hb) q, fun hm H v d F r q => h.rt hm H v d ⟨hb.trans F.base, F.tmp, F.box⟩ r q, fun σ H δ I q => h.bk σ H δ (I.unbase hb) q, fun σ H δ I q => h.ct σ H δ (I.unbase hb) q, fun hm σ H δ v d I r q => h.ro hm σ H δ v d (I.unbase hb) r q⟩
def SimS (K : PySem.W.Frag) (L : Md) (ts : TS) (f : DTS) : Prop := ∀ (E : EC) (σ : St) (H : Hp) (δ : DSt) (Dn : Ends) (Df : DEnds), E.md = L → EnvR K E σ H δ → f Df δ → EndsOk K E Dn Df → ts Dn σ H
inductive DS (X : Cx) (L : Md) (st : Stmt) (f : DTS) : Prop
  | mk {ts : TS} (ps : PS X st ts) (sim : SimS X.K L ts f)
inductive DSs (X : Cx) (L : Md) (st : List Stmt) (f : DTS) : Prop
  | mk {ts : TS} (pss : PSs X st ts) (sim : SimS X.K L ts f)
def tsC (K : PySem.W.Frag) (L : Md) (f : DTS) : TS := fun Dn σ H => ∃ (E : EC) (δ : DSt) (Df : DEnds), E.md = L ∧ EnvR K E σ H δ ∧ f Df δ ∧ EndsOk K E Dn Df
theorem DS.ps {X : Cx} {L : Md} {st : Stmt} {f : DTS} (h : DS X L st f) : PS X st (tsC X.K L f) := by
  obtain ⟨pe, sim⟩ := h
  exact ⟨fun pins s σ H D I ⟨E, δ, Df, hl, J, q, k⟩ => pe.run pins s σ H D I (sim E σ H δ D Df hl J q k)⟩
theorem DS.sim {X : Cx} {L : Md} {st : Stmt} {f : DTS} (_ : DS X L st f) : SimS X.K L (tsC X.K L f) f := fun E σ H δ Dn Df hl I q k => ⟨E, δ, Df, hl, I, q, k⟩
theorem DSs.pss {X : Cx} {L : Md} {st : List Stmt} {f : DTS} (h : DSs X L st f) : PSs X st (tsC X.K L f) := by
  obtain ⟨pe, sim⟩ := h
  exact ⟨fun pins s σ H D I ⟨E, δ, Df, hl, J, q, k⟩ => pe.run pins s σ H D I (sim E σ H δ D Df hl J q k)⟩
theorem DSs.sim {X : Cx} {L : Md} {st : List Stmt} {f : DTS} (_ : DSs X L st f) : SimS X.K L (tsC X.K L f) f := fun E σ H δ Dn Df hl I q k => ⟨E, δ, Df, hl, I, q, k⟩
section
variable {X : Cx} {L : Md} {st : Stmt} {rest : List Stmt} {t u : TS} {f h : DTS} {e a b c : Expr} {te ta tb : TE} {fe fa fb : DTE} {pos : Pos}
def fNext : DTS := fun Df δ => Df.nx δ
def fSq (f h : DTS) : DTS := fun Df δ => f { Df with nx := h Df } δ
theorem ss_nil : DSs X L [] fNext := ⟨pss_nil, fun E σ H δ Dn Df hl I q ok => ok.nx σ H δ I q⟩
theorem ss_cons (h1 : DS X L st f) (h2 : DSs X L rest h) : DSs X L (st :: rest) (fSq f h) :=
  ⟨pss_cons h1.ps h2.pss, fun E σ H δ Dn Df hl I q ok => h1.sim E σ H δ _ _ hl I q ⟨fun σ H δ I q => h2.sim E σ H δ Dn Df hl I q ok, ok.rt, ok.bk, ok.ct, ok.ro⟩⟩
theorem ss_one (h1 : DS X L st f) : DSs X L [st] f := ⟨pss_one h1.ps, h1.sim⟩
def fBrk : DTS := fun Df δ => Df.bk δ
def fCt : DTS := fun Df δ => Df.ct δ
theorem s_pass : DS X L (.Pass pos) fNext := ⟨ps_pass, fun E σ H δ Dn Df hl I q ok => ok.nx σ H δ I q⟩
theorem s_break : DS X L (.Break pos) fBrk := ⟨ps_break, fun E σ H δ Dn Df hl I q ok => ok.bk σ H δ I q⟩
theorem s_continue : DS X L (.Continue pos) fCt := ⟨ps_continue, fun E σ H δ Dn Df hl I q ok => ok.ct σ H δ I q⟩
def fRet (fe : DTE) : DTS := fun Df δ => fe δ fun b δ1 => force b δ1 fun d _ => Df.rt d
theorem s_ret (he : DE X L e fe) (hm : L.isOb = false := by rfl) : DS X L (.Return (some e) pos) (fRet fe) :=
  ⟨ps_ret he.pe, fun E σ H δ Dn Df hl I q ok => he.sim E σ H δ _ _ hl I q fun v H1 δ1 b I1 r1 h1 => by
    obtain ⟨d, δ2, I2, r2, h2⟩ := RepW.force I1 r1.weak h1
    exact ok.rt (by rw [hl]; exact hm) H1 v d I2.fin (r2.mono HH_E) h2⟩
/-- return in a method -/
def fRetO (fe : DTE) : DTS := fun Df δ => fe δ fun b δ1 => force b δ1 fun d δ2 => Df.rt (pack d δ2)
theorem s_retO (he : DE X L e fe) (hm : L.isOb = true := by rfl) : DS X L (.Return (some e) pos) (fRetO fe) :=
  ⟨ps_ret he.pe, fun E σ H δ Dn Df hl I q ok => he.sim E σ H δ _ _ hl I q fun v H1 δ1 b I1 r1 h1 => by
    obtain ⟨d, δ2, I2, r2, h2⟩ := RepW.force I1 r1.weak h1
    exact ok.ro (by rw [hl]; exact hm) σ H1 δ2 v d I2 r2 h2⟩
def fRetN : DTS := fun Df _ => Df.rt .non
theorem s_retN (hm : L.isOb = false := by rfl) : DS X L (.Return none pos) fRetN := ⟨ps_retN, fun E σ H δ Dn Df hl I q ok => ok.rt (by rw [hl]; exact hm) H .non .non I.fin .non q⟩
def fDrop (fe : DTE) : DTS := fun Df δ => fe δ fun _ δ1 => Df.nx δ1
theorem s_expr (he : DE X L e fe) (hs : swapsWith e none pos.line X.env = pure false := by rfl) : DS X L (.Expr e pos) (fDrop fe) :=
  ⟨ps_expr he.pe hs, fun E σ H δ Dn Df hl I q ok => he.sim E σ H δ _ _ hl I q fun v H1 δ1 b I1 r1 h1 => ok.nx σ H1 δ1 I1 h1⟩
def fIf (p : DTT) (f h : DTS) : DTS := fun Df δ => p δ fun c δ1 => if c = true then f Df δ1 else h Df δ1
theorem s_if {fp : DTT} {ab bb : List Stmt} (hc : DT X L c fp) (ha : DSs X L ab f) (hb : DSs X L bb h) : DS X L (.If c ab bb pos) (fIf fp f h) :=
  ⟨ps_if hc.pt ha.pss hb.pss, fun E σ H δ Dn Df hl I q ok => hc.sim E σ H δ _ _ hl I q fun k H1 δ1 I1 h1 => by
    cases k with
    | true => exact ha.sim E σ H1 δ1 Dn Df hl I1 h1 ok
    | false => exact hb.sim E σ H1 δ1 Dn Df hl I1 h1 ok⟩
def fSet (i : Nat) (fe : DTE) : DTS := fun Df δ => fe δ fun b δ1 => store i b δ1 Df.nx
theorem sim_set {K : PySem.W.Frag} {i : Nat} (hok : L.ok i = true) (he : SimE K L te fe) : SimS K L (tAsg te (gName i)) (fSet i fe) := fun E σ H δ Dn Df hl I q ok => he E σ H δ _ _ hl I q fun v H1 δ1 b I1 r1 h1 => by
  obtain ⟨δ2, I2, h2⟩ := store_sound (i := i) (by rw [hl]; exact hok) I1 r1 h1
  exact ok.nx _ H1 δ2 I2 h2
theorem s_set {i : Nat} {x : Str} {pos' : Pos} (hN : X.N.Nodup) (he : DE X L e fe) (hi : X.N[i]? = some x := by rfl) (hx : Loc X.env.scope x := by first | exact Or.inl rfl | exact Or.inr rfl) (hs : swapsWith e (some (.Name x pos')) pos.line X.env = pure false := by rfl)
    (hf : X.fn x = true ∨ X.env.scope.names.lookup x = some .local := by first | exact .inl rfl | exact .inr rfl | assumption) (hok : L.ok i = true := by rfl) : DS X L (.Assign [.Name x pos'] e pos) (fSet i fe) :=
  ⟨ps_set hN hi hx he.pe hs hf, sim_set hok he.sim⟩
/-- name = [..] on one line -/
theorem s_setLc {i : Nat} {y : Str} {py : Pos} {elt tg iter : Expr} {ifs : List Expr} {scope : Scope} {own : List (Str × Nat)} {spos : Pos} {ft : List Nat} {fi : DTI} {asg : DAs} {fT : DTT} {vs : List Nat} (s : Shared) (H : Hp) (hc : X.calm = true) (hN : X.N.Nodup) (hy : X.N[i]? = some y) (hyl : X.env.scope.names.lookup y = some .local)
    (hsw : swapsWith (.ListComp elt [⟨tg, iter, ifs, 0⟩] scope pos) (some (.Name y py)) spos.line X.env = pure true) (ok : BlkOk X.N X.env.scope scope own) (hi : DI X L tg iter fi)
    (hg : ∀ (s : Shared) (H : Hp) (C : Addr) (cl : List (Str × Addr)) (fp : List Addr), DG (X.blk s H scope (compEnvC scope cl C X.env) fp) L tg ft asg)
    (ht : ∀ (s : Shared) (H : Hp) (C : Addr) (cl : List (Str × Addr)) (fp : List Addr), DTs (X.blk s H scope (compEnvC scope cl C X.env) fp) L ifs fT)
    (he : ∀ (s : Shared) (H : Hp) (C : Addr) (cl : List (Str × Addr)) (fp : List Addr), DE (X.blk s H scope (compEnvC scope cl C X.env) fp) L elt fe)
    (hv : own.map (·.2) = vs := by rfl) (hf : (ft.all fun j => (own.map (·.2)).contains j) = true := by rfl) (hs : ∀ x, foldedSetIterable iter X.env x = pure x := by intro _; rfl) (hok : L.ok i = true := by rfl) (hok2 : (own.map (·.2)).all L.ok = true := by rfl) :
    DS X L (.Assign [.Name y py] (.ListComp elt [⟨tg, iter, ifs, 0⟩] scope pos) spos) (fSet i (fComp vs fi asg fT fe)) := by
  subst hv
  exact ⟨ps_setLc hc hN hy hyl hsw hi.pi ok (fun s H C cl fp => (hg s H C cl fp).pg) (fun s H C cl fp => (ht s H C cl fp).pts) (fun s H C cl fp => (he s H C cl fp).pe) hs,
    sim_set hok (sim_comp hi.sim (hg s H 0 [] []).sim hok2 (fun j hj => by simpa using List.all_eq_true.mp hf j hj) (ht s H 0 [] []).sim (he s H 0 [] []).sim)⟩
/-- target = e -/
def fAsg (fe : DTE) (asg : DAs) : DTS := fun Df δ => fe δ fun b δ1 => force b δ1 fun d δ2 => asg d δ2 Df.nx
theorem s_asg {tg : Expr} {ft : List Nat} {asg : DAs} (he : DE X L e fe) (hg : DG X L tg ft asg) (hs : swapsWithSole [tg] e pos.line X.env = pure false := by rfl) (hw : swappedStores [tg] e X.env = pure none := by rfl)
    (h1 : (assignEach [tg] X.env).map (·.2) = [assign tg X.env] := by rfl) : DS X L (.Assign [tg] e pos) (fAsg fe asg) :=
  ⟨ps_asg he.pe hg.pg hs hw h1, fun E σ H δ Dn Df hl I q ok => he.sim E σ H δ _ _ hl I q fun v H1 δ1 b I1 r1 h1 => by
    obtain ⟨d, δ2, I2, r2, h2⟩ := RepW.force I1 r1.weak h1
    exact hg.sim E σ H1 δ2 v d _ _ hl I2 r2 h2 fun σ' δ' I' _ _ q => ok.nx σ' H1 δ' I' q⟩
/-- a, b = x, y of local names -/
def fPar (i j : Nat) (fa : DTA) : DTS := fun Df δ => fa δ fun bs δ1 => forceL bs δ1 fun ds δ2 => match ds with
  | [d, e] => Df.nx ((δ2.set i (.val d)).set j (.val e))
  | _ => False
theorem s_par {i j : Nat} {x y : Str} {px py pt : Pos} {kt k2 pt2} {fa : DTA} (hc : X.calm = true) (hN : X.N.Nodup) (ha : DA X L [a, b] fa) (hi : X.N[i]? = some x := by rfl) (hj : X.N[j]? = some y := by rfl) (hij : i ≠ j := by decide)
    (hx : X.env.scope.names.lookup x = some .local := by rfl) (hy : X.env.scope.names.lookup y = some .local := by rfl)
    (hw : swappedStores [.Tuple [.Name x px, .Name y py] kt pt] (.Tuple [a, b] k2 pt2) X.env = pure (some [x, y]) := by rfl)
    (hs : swapsWithSole [.Tuple [.Name x px, .Name y py] kt pt] (.Tuple [a, b] k2 pt2) pos.line X.env = pure false := by rfl) (hok : L.ok i = true := by rfl) (hok2 : L.ok j = true := by rfl) :
    DS X L (.Assign [.Tuple [.Name x px, .Name y py] kt pt] (.Tuple [a, b] k2 pt2) pos) (fPar i j fa) :=
  ⟨ps_par hc hN hi hj hij hx hy ha.pa hw hs, fun E σ H δ Dn Df hl I q ok => ha.sim E σ H δ _ _ hl I q fun vs H1 δ1 bs I1 r1 h1 => by
    obtain ⟨ds, δ2, I2, r2, h2⟩ := RepWs.force I1 r1 h1
    cases r2 with
    | nil => exact h2.elim
    | cons r rr => cases rr with
      | nil => exact h2.elim
      | cons r' rr => cases rr with
        | nil =>
          have I3 : EnvR X.K { E with H0 := HH E σ δ2 H1 } _ H1 _ := I2.pin.setV (i := i) (by show E.md.ok i = true; rw [hl]; exact hok) r
          have I4 := I3.setV (i := j) (by show E.md.ok j = true; rw [hl]; exact hok2) (r'.mono I3.base)
          exact ⟨_, _, rfl, ok.nx _ H1 _ (I4.unbase I2.base) h2⟩
        | cons _ _ => exact h2.elim⟩
/-- name += e, of numbers -/
def fAug (i : Nat) (g : Int → Int → Int) (fe : DTE) : DTS := fun Df δ => match look δ i with
  | .val (.int a) => fe δ fun b δ1 => asI δ1 b fun c => Df.nx (δ1.set i (.val (.int (g a c))))
  | _ => False
theorem s_aug {i : Nat} {x : Str} {pos' : Pos} {op : Operator} {g : Int → Int → Int} (hN : X.N.Nodup) (ho : PIp X op (ipI g)) (he : DE X L e fe) (hi : X.N[i]? = some x := by rfl) (hx : Loc X.env.scope x := by first | exact Or.inl rfl | exact Or.inr rfl)
    (hf : X.fn x = true ∨ X.env.scope.names.lookup x = some .local := by first | exact .inl rfl | exact .inr rfl | assumption) (hok : L.ok i = true := by rfl) : DS X L (.AugAssign (.Name x pos') op e pos) (fAug i g fe) :=
  ⟨ps_aug hN hi hx he.pe ho hf, fun E σ H δ Dn Df hl I q ok => by
    unfold fAug at q
    split at q
    · rename_i z lk
      obtain ⟨v, h1, h2⟩ := I.val i _ (look_val lk)
      cases h2
      refine ⟨_, h1, he.sim E σ H δ _ _ hl I q fun v H1 δ1 b I1 r1 q1 => ?_⟩
      obtain ⟨c, rfl, q2⟩ := RepW.asI I1 r1.weak q1
      exact ⟨_, _, rfl, rfl, ok.nx _ H1 _ (I1.setV (by rw [hl]; exact hok) (Rep.int _)) q2⟩
    · exact q.elim⟩
/-! ### loops -/
def whileD (p : DTT) (f : DTS) (Df : DEnds) : Nat → DSt → Prop
  | 0, _ => False
  | n + 1, δ => p δ fun c δ1 => if c = true then f { Df with nx := whileD p f Df n, ct := whileD p f Df n, bk := Df.nx } δ1 else Df.nx δ1
def fWhile (p : DTT) (f : DTS) : DTS := fun Df δ => ∃ n, whileD p f Df n δ
theorem s_while {fp : DTT} {bb : List Stmt} (hp : PassesOwn (model X.prog X.w) X.A X.env X.xe) (hc : DT X L c fp) (hb : DSs X L bb f) : DS X L (.While c bb [] pos) (fWhile fp f) :=
  ⟨ps_while hp hc.pt hb.pss, fun E σ H δ Dn Df hl I ⟨n, q⟩ ok => by
    refine ⟨fun m σ H => ∃ δ, EnvR X.K E σ H δ ∧ whileD fp f Df m δ, ⟨n, δ, I, q⟩, fun m σ H ⟨δ, I, q⟩ => ?_⟩
    cases m with
    | zero => exact q.elim
    | succ m =>
      refine hc.sim E σ H δ _ _ hl I q fun k H1 δ1 I1 h1 => ?_
      cases k with
      | false => exact ok.nx σ H1 δ1 I1 h1
      | true =>
        refine ⟨fun σ H => ∃ δ, EnvR X.K E σ H δ ∧ whileD fp f Df m δ, fun σ' H' ⟨δ', I', q'⟩ => ⟨m, Nat.lt_succ_self m, δ', I', q'⟩, ?_⟩
        exact hb.sim E σ H1 δ1 _ _ hl I1 h1 ⟨fun σ H δ I q => ⟨δ, I, q⟩, ok.rt, ok.nx, fun σ H δ I q => ⟨δ, I, q⟩, ok.ro⟩⟩
def forD (asg : DAs) (f : DTS) (Df : DEnds) : List D → DSt → Prop
  | [], δ => Df.nx δ
  | x :: xs, δ => asg x δ fun δ1 => f { Df with nx := forD asg f Df xs, ct := forD asg f Df xs, bk := Df.nx } δ1
def fFor (fi : DTI) (asg : DAs) (f : DTS) : DTS := fun Df δ => fi δ fun items δ1 => forD asg f Df items δ1
theorem for_at {K : PySem.W.Frag} {L : Md} {ft : List Nat} {g : TG} {asg : DAs} {tb : TS} {f : DTS} (hg : SimG K L g ft asg) (hb : SimS K L tb f) {E : EC} {σ : St} {H1 : Hp} {δ1 : DSt} {Dn : Ends} {Df : DEnds} {J : It} {items : List D}
    (hl : E.md = L) (I1 : EnvR K E σ H1 δ1) (Y : Yields K E.bx J items (HH E σ δ1 H1)) (h1 : forD asg f Df items δ1) (ok : EndsOk K E Dn Df) : tFor (fun _ H R => R J H) g tb Dn σ H1 := by
  show ∃ W : Nat → Nat → St → Hp → Prop, _
  let E1 : EC := { E with H0 := HH E σ δ1 H1 }
  have ok1 : EndsOk K E1 Dn Df := ok.base I1.base
  refine ⟨fun i m σ H => m = items.length - i ∧ i ≤ items.length ∧ ∃ δ, EnvR K E1 σ H δ ∧ forD asg f Df (items.drop i) δ, ⟨items.length, by omega, Nat.zero_le _, δ1, I1.pin, by rw [List.drop_zero]; exact h1⟩, ?_⟩
  rintro i m σc Hc ⟨rfl, hi', δc, Ic, hc'⟩
  obtain ⟨Y1, Y2⟩ := Y (hidP E1 σc δc) Hc Ic.base fun a z => Ic.hidden z
  by_cases hlt : i < items.length
  · have hx : items[i]? = some items[i] := List.getElem?_eq_getElem hlt
    obtain ⟨go, yl⟩ := Y1 i _ hx
    rw [List.drop_eq_getElem_cons hlt] at hc'
    refine .inr ⟨go, fun σn Hn => ∃ δ, EnvR K E1 σn Hn δ ∧ forD asg f Df (items.drop (i + 1)) δ, fun σ' H' q => ⟨items.length - (i + 1), by omega, rfl, hlt, q⟩, fun x H' hy => ?_⟩
    obtain ⟨s1, r1⟩ := yl x H' hy
    refine hg E1 σc H' δc x _ _ _ hl (Ic.same s1) r1 hc' fun σ2 δ2 I2 _ _ h2 => ?_
    exact hb E1 σ2 H' δ2 _ _ hl I2 h2 ⟨fun σ H δ I q => ⟨δ, I, q⟩, ok1.rt, ok1.nx, fun σ H δ I q => ⟨δ, I, q⟩, ok1.ro⟩
  · have ei : i = items.length := by omega
    subst ei
    rw [List.drop_length] at hc'
    exact .inl ⟨Y2, ok1.nx σc Hc δc Ic hc'⟩
theorem s_for {tg iter : Expr} {bb : List Stmt} {ft : List Nat} {fi : DTI} {asg : DAs} (hp : PassesOwn (model X.prog X.w) X.A X.env X.xe) (hc : X.calm = true) (hi : DI X L tg iter fi) (hg : DG X L tg ft asg) (hb : DSs X L bb f)
    (hs : ∀ x, foldedSetIterable iter X.env x = pure x := by intro _; rfl) : DS X L (.For tg iter bb [] pos) (fFor fi asg f) :=
  ⟨ps_for hp hc hi.pi hg.pg hb.pss hs, fun E σ H δ Dn Df hl I q ok => hi.sim E σ H δ _ _ hl I q fun J H1 δ1 items I1 Y h1 => for_at hg.sim hb.sim hl I1 Y h1 ok⟩
end
/-! ### one's own objects changed -/
section
variable {X : Cx} {L : Md} {e o : Expr} {te to : TE} {fe : DTE} {pos apos cpos npos : Pos}
theorem OwnR.tyL {K : PySem.W.Frag} {bx : Addr} {H Hh : Hp} {a : Addr} {ds : List D} (h : OwnR K bx H Hh a (.lst ds)) : ∃ vs, H a = some (.lst vs) ∧ RepA K bx Hh vs ds := by
  cases h with
  | lst h r => exact ⟨_, h, r⟩
/-- an own object's content is changed -/
theorem EnvR.mut {K : PySem.W.Frag} {E : EC} {σ : St} {H : Hp} {δ : DSt} {i : Nat} {a : Addr} {d d' : D} {o' : HO} (I : EnvR K E σ H δ) (h : δ[i]? = some (.own d)) (hs : σ[i]? = some (some (.ref a)))
    (r : ∀ H' Hh, H' a = some o' → Same (HH E σ δ H) Hh → OwnR K E.bx H' Hh a d') : EnvR K E σ (upd H a o') (δ.set i (.own d')) := by
  obtain ⟨a', h1, h2, h3, h4⟩ := I.own i d h
  rw [hs] at h1
  cases h1
  have hi : i < δ.length := (List.getElem?_eq_some_iff.mp h).1
  have sub : ∀ b, hidP E σ (δ.set i (.own d')) b ↔ hidP E σ δ b := fun b => by
    constructor
    · rintro (z | z | ⟨j, e, z1, z2⟩)
      · exact .inl z
      · exact .inr (.inl z)
      · rcases get_set z1 with ⟨ej, q⟩ | ⟨_, q⟩
        · exact .inr (.inr ⟨i, d, h, by rw [← ej]; exact z2⟩)
        · exact .inr (.inr ⟨j, e, q, z2⟩)
    · rintro (z | z | ⟨j, e, z1, z2⟩)
      · exact .inl z
      · exact .inr (.inl z)
      · by_cases ej : j = i
        · exact .inr (.inr ⟨i, d', List.getElem?_set_self hi, by rw [← ej]; exact z2⟩)
        · exact .inr (.inr ⟨j, e, by rw [List.getElem?_set_ne (Ne.symm ej)]; exact z1, z2⟩)
  have na : ∀ b, ¬ hidP E σ δ b → b ≠ a := fun b n e => n (.inr (.inr ⟨i, d, h, by rw [e]; exact hs⟩))
  have sm : Same (HH E σ δ H) (HH E σ (δ.set i (.own d')) (upd H a o')) := hid_mono (fun b z => (sub b).mp z) fun b u n e => by rw [upd_ne (na b n)]; exact e
  refine ⟨by rw [List.length_set]; exact I.len, fun j e q => ?_, fun j e q => ?_, fun j k e f b q1 q2 q3 q4 => ?_, I.base.trans sm, fun b u e => ?_, I.bxT, I.box.grow (fun hl o q => by rw [upd_ne (fun z' => h4 ⟨hl, z'.symm⟩)]; exact q) sm⟩
  · rcases get_set q with ⟨_, q⟩ | ⟨_, q⟩
    · cases q
    · obtain ⟨v, z1, z2⟩ := I.val j e q
      exact ⟨v, z1, z2.mono sm⟩
  · rcases get_set q with ⟨ej, q⟩ | ⟨ne, q⟩
    · cases q
      exact ⟨a, by rw [ej]; exact hs, r _ _ upd_same sm, h3, h4⟩
    · obtain ⟨b, z1, z2, z3⟩ := I.own j e q
      have nb : b ≠ a := fun z => ne (I.dis j i e d a q h (by rw [← z]; exact z1) hs)
      exact ⟨b, z1, z2.mono (upd_ne nb) sm, z3⟩
  · have lk : ∀ {j : Nat} {e : D}, (δ.set i (.own d'))[j]? = some (.own e) → ∃ e', δ[j]? = some (.own e') := fun {j e} q => by
      rcases get_set q with ⟨ej, q⟩ | ⟨_, q⟩
      · exact ⟨d, by rw [ej]; exact h⟩
      · exact ⟨e, q⟩
    obtain ⟨e', q1⟩ := lk q1
    obtain ⟨f', q2⟩ := lk q2
    exact I.dis j k e' f' b q1 q2 q3 q4
  · have : b ≠ a := fun z => by rw [z, h3] at e; cases e
    rw [upd_ne this]
    exact I.tmp b u e
/-- x.append(e) -/
def fApp (i : Nat) (fe : DTE) : DTS := fun Df δ => (match look δ i with
  | .own (.lst _) => True
  | _ => False) ∧ fe δ fun b δ1 => force b δ1 fun d δ2 => match look δ2 i with
    | .own (.lst ds) => ds.length < 16000000 ∧ Df.nx (δ2.set i (.own (.lst (ds ++ [d]))))
    | _ => False
theorem tyV_list {K : PySem.W.Frag} {H : Hp} {a : Addr} {vs : List V} (h : H a = some (.lst vs)) : tyV K "list" (.ref a) H := .inl ⟨rfl, _, .inl (.inl h)⟩
theorem s_app {i : Nat} {x : Str} (he : DE X L e fe) (hN : X.N[i]? = some x := by rfl) (hv : Vis X.env.scope x := by first | exact Or.inl rfl | exact Or.inr (Or.inl rfl) | exact Or.inr (Or.inr rfl)) (hd : (x == ("__debug__" : Str)) = false := by decide) (hcd : (x == ("__classdict__" : Str)) = false := by decide)
    (h1 : PE X (.Call (.Attribute (.Name x npos) "append" apos) [e] [] cpos) (tBM X.K "list" rAppend (tVar i) (tCons (teC X.K L fe) tNil))) (hs : swapsWith (.Call (.Attribute (.Name x npos) "append" apos) [e] [] cpos) none pos.line X.env = pure false := by rfl) :
    DS X L (.Expr (.Call (.Attribute (.Name x npos) "append" apos) [e] [] cpos) pos) (fApp i fe) :=
  ⟨ps_expr h1 hs, fun E σ H δ Dn Df hl I q ok => by
    obtain ⟨q0, q⟩ := q
    split at q0
    · rename_i ds0 lk
      obtain ⟨a, ha, hO, _⟩ := I.own i _ (look_own lk)
      obtain ⟨vs0, hH, _⟩ := OwnR.tyL hO
      refine ⟨_, ha, tyV_list hH, ?_⟩
      refine he.sim E σ H δ _ _ hl I q fun v H1 δ1 b I1 r1 h1 => ?_
      obtain ⟨d, δ2, I2, r2, h2⟩ := RepW.force I1 r1.weak h1
      split at h2
      · rename_i ds lk2
        obtain ⟨a2, ha2, hO2, _⟩ := I2.own i _ (look_own lk2)
        rw [ha] at ha2
        cases ha2
        obtain ⟨vs, hH2, r3⟩ := OwnR.tyL hO2
        refine ⟨a, vs, v, rfl, rfl, hH2, by rw [r3.length]; exact Nat.lt_of_lt_of_le h2.1 (szL (Nat.le_refl _)), ?_⟩
        exact ok.nx σ _ _ (I2.mut (look_own lk2) ha fun H' Hh e s => .lst e ((r3.mono s).append (.cons (r2.mono s) .nil))) h2.2
      · exact h2.elim
    · exact q0.elim⟩
/-- x[i] = e of an own list -/
def fSetIx (i : Nat) (fk fe : DTE) : DTS := fun Df δ => fe δ fun b δ1 => (match look δ1 i with
  | .own (.lst _) => True
  | _ => False) ∧ fk δ1 fun c δ2 => force b δ2 fun d δ3 => asI δ3 c fun k => match look δ3 i with
  | .own (.lst ds) => match ixN ds.length k with
    | some j => Df.nx (δ3.set i (.own (.lst (ds.set j d))))
    | none => False
  | _ => False
end
/-! ### a def by its body -/
def startD (N : List Str) (ds : List D) : DSt := ds.map Sl.val ++ List.replicate (N.length - ds.length) .no
theorem start_get {N : List Str} {ds : List D} {i : Nat} {s : Sl} (h : (startD N ds)[i]? = some s) : (∃ d, ds[i]? = some d ∧ s = .val d) ∨ s = .no := by
  unfold startD at h
  by_cases hi : i < ds.length
  · rw [List.getElem?_append_left (by rw [List.length_map]; exact hi), List.getElem?_map, List.getElem?_eq_getElem hi] at h
    cases h
    exact .inl ⟨_, List.getElem?_eq_getElem hi, rfl⟩
  · rw [List.getElem?_append_right (by rw [List.length_map]; omega), List.getElem?_replicate] at h
    split at h
    · cases h; exact .inr rfl
    · cases h
theorem EnvR.start {K : PySem.W.Frag} {E : EC} {H : Hp} {N : List Str} {vs : List V} {ds : List D} (hp : ∀ a, ((E.live = true ∧ a = E.bx) ∨ ∃ o, E.T a = some o) ∨ ¬ ((E.live = true ∧ a = E.bx) ∨ ∃ o, E.T a = some o)) (r : RepA K E.bx (hid (fun a => (E.live = true ∧ a = E.bx) ∨ ∃ o, E.T a = some o) H) vs ds) (hb : Same E.H0 (hid (fun a => (E.live = true ∧ a = E.bx) ∨ ∃ o, E.T a = some o) H)) (hT : Same E.T H)
    (hbT : E.live = true → E.T E.bx = none) (hbx : LvOk K E.md E.bx (L2.start N vs) (hid (fun a => (E.live = true ∧ a = E.bx) ∨ ∃ o, E.T a = some o) H) H) (hl : ds.length ≤ N.length) : EnvR K E (L2.start N vs) H (startD N ds) := by
  have hlen := r.length
  have sub : ∀ a, hidP E (L2.start N vs) (startD N ds) a → ((E.live = true ∧ a = E.bx) ∨ ∃ o, E.T a = some o) := fun a z => by
    rcases z with z | z | ⟨i, d, z1, z2⟩
    · exact .inl z
    · exact .inr z
    · rcases start_get z1 with ⟨_, _, q⟩ | q <;> cases q
  have sm : Same (hid (fun a => (E.live = true ∧ a = E.bx) ∨ ∃ o, E.T a = some o) H) (HH E (L2.start N vs) (startD N ds) H) := hid_mono sub fun _ _ _ q => q
  refine ⟨?_, fun i d h => ?_, fun i d h => ?_, fun i j d e a h1 => ?_, hb.trans sm, hT, hbT, hbx.mono sm⟩
  · unfold L2.start startD
    rw [List.length_append, List.length_append, List.length_map, List.length_map, List.length_replicate, List.length_replicate, hlen]
  · rcases start_get h with ⟨d', e, q⟩ | q
    · cases q
      obtain ⟨v, h1, h2⟩ := r.get e
      refine ⟨v, ?_, h2.mono sm⟩
      unfold L2.start
      rw [List.getElem?_append_left (by rw [List.length_map]; exact (List.getElem?_eq_some_iff.mp h1).1), List.getElem?_map, h1]
      rfl
    · cases q
  · rcases start_get h with ⟨_, _, q⟩ | q <;> cases q
  · rcases start_get h1 with ⟨_, _, q⟩ | q <;> cases q
section
variable {P : Program} {w : World} {K : PySem.W.Frag} {mg : Str → Option Value} {base : Heap}
abbrev DBody (K : PySem.W.Frag) (P : Program) (w : World) (mg : Str → Option Value) (base : Heap) (N ps : List Str) (qual : Str) (st : Stmt) (f : Addr) (z : Md) (k : Nat) (spec : FSpec) : Prop :=
  ∀ (cdv : Value) (A : Around) (outer : List Env) (s : Shared) (H : Hp) (E : XK), Room k (A.deeper (envOfC qual (defScope st) s.heap.objs.size f cdv)) →
      ∃ fd, DSs (cxOf CX0 P w K mg base N qual (defScope st) f cdv A outer s H E).nox z (defBody st) fd ∧ ∀ ds R, ds.length = ps.length → spec ds R → fd { nx := fun _ => R .non, rt := R } (startD N ds)
theorem fn_dk {x qual : Str} {st : Stmt} {f : Addr} {fd : FuncData} {N ps : List Str} {k : Nat} {spec : FSpec} (F : Fun K x qual st f fd) (S : FnScope N ps (defScope st)) 
    (body : DBody K P w mg base N ps qual st f .plain k spec) : FnOk P w K mg base CX0 (k + 1) f fd ps (spD K ps.length spec) := by
  refine F.ok S (fun vs H Q E ⟨bx, T, ds, hl, _, r, _⟩ => r.length.trans hl) fun cdv A outer s H vs Q E hr ⟨bx, T, ds, hl, hT, r, hs⟩ => ?_
  obtain ⟨fb, hd, hsp⟩ := body cdv A outer s H E hr
  refine ⟨_, hd.pss, ?_⟩
  have hpl : ps.length ≤ N.length := by have := congrArg List.length S.pre; rw [List.length_take] at this; omega
  let E1 : EC := ⟨hid (isHd T) H, bx, .plain, T⟩
  have eqP : ∀ a, isHd T a ↔ ((E1.live = true ∧ a = E1.bx) ∨ ∃ o, E1.T a = some o) := fun a => ⟨fun z => .inr z, fun z => z.elim (fun z => nomatch z.1) id⟩
  have eqH : hid (isHd T) H = hid (fun a => (E1.live = true ∧ a = E1.bx) ∨ ∃ o, E1.T a = some o) H := hid_congr eqP H
  have I : EnvR K E1 (L2.start N vs) H (startD N ds) := EnvR.start (fun a => Classical.em _) (by rw [← eqH]; exact r) (by rw [← eqH]; exact Same.refl _) hT (fun z => nomatch z) trivial (by rw [hl]; exact hpl)
  have fin : ∀ H' v d, DL.Fin K E1 H' → Rep K bx (hid (hidE E1) H') v d → (∀ v H', Same H H' → Rep K bx (hid (isHd T) H') v d → Q v H') → Q v H' := fun H' v d J r q => by
    refine q v H' (fun a o e => ?_) (r.mono (hid_mono (fun a z => .inr z) fun _ _ _ q => q))
    by_cases z : isHd T a
    · obtain ⟨u, z⟩ := z
      have e2 := hT a u z
      rw [e] at e2
      cases e2
      exact J.tmp a o z
    · exact (hid_same _ _) _ _ (J.base a o (hid_some.mpr ⟨z, e⟩))
  exact hd.sim E1 (L2.start N vs) H (startD N ds) _ _ rfl I (hsp ds _ hl hs) ⟨fun σ' H' δ' J q => fin H' .non .non J.fin .non q, fun _ H' v d J r q => fin H' v d J r q, fun _ _ _ _ q => q.elim, fun _ _ _ _ q => q.elim, fun z => nomatch z⟩
theorem fn_d {x qual : Str} {st : Stmt} {f : Addr} {fd : FuncData} {N ps : List Str} {k : Nat} {spec : FSpec} (F : Fun K x qual st f fd) (S : FnScope N ps (defScope st)) (hm : SMono spec) (hx : mg x = some (.ref f)) (hb : Binds K fd ps [])
    (body : DBody K P w mg base N ps qual st f .plain k spec) : Good P w K mg base false (k + 1) x ps.length spec :=
  ⟨⟨f, fd, ps, by rw [if_neg Bool.false_ne_true]; exact fn_dk F S body, hx, F.kp, hb⟩, hm⟩
/-- a def that draws -/
theorem fn_b {x qual : Str} {st : Stmt} {f : Addr} {fd : FuncData} {N ps : List Str} {k : Nat} {spec : FSpec} (F : Fun K x qual st f fd) (S : FnScope N ps (defScope st)) (hm : SMono spec) (hx : mg x = some (.ref f)) (hb : Binds K fd ps [])
    (body : DBody K P w mg base N ps qual st f .box k spec) : Good P w K mg base true (k + 1) x ps.length spec := by
  refine ⟨⟨f, fd, ps, ?_, hx, F.kp, hb⟩, hm⟩
  rw [if_pos rfl]
  refine F.ok S (fun vs H Q E ⟨bx, T, ds, hl, _, _, _, r, _⟩ => r.length.trans hl) fun cdv A outer s H vs Q E hr ⟨bx, T, ds, hl, hT, hbT, hbx, r, hs⟩ => ?_
  obtain ⟨fb, hd, hsp⟩ := body cdv A outer s H E hr
  refine ⟨_, hd.pss, ?_⟩
  have hpl : ps.length ≤ N.length := by have := congrArg List.length S.pre; rw [List.length_take] at this; omega
  let E1 : EC := ⟨hid (isB T bx) H, bx, .box, T⟩
  have eqP : ∀ a, isB T bx a ↔ ((E1.live = true ∧ a = E1.bx) ∨ ∃ o, E1.T a = some o) := fun a => ⟨fun z => z.elim (fun e => .inl ⟨rfl, e⟩) .inr, fun z => z.elim (fun z => .inl z.2) .inr⟩
  have eqH : hid (isB T bx) H = hid (fun a => (E1.live = true ∧ a = E1.bx) ∨ ∃ o, E1.T a = some o) H := hid_congr eqP H
  have I : EnvR K E1 (L2.start N vs) H (startD N ds) := EnvR.start (fun a => Classical.em _) (by rw [← eqH]; exact r) (by rw [← eqH]; exact Same.refl _) hT (fun _ => hbT) (by rw [← eqH]; exact hbx) (by rw [hl]; exact hpl)
  have fin : ∀ H' v d, DL.Fin K E1 H' → Rep K bx (hid (hidE E1) H') v d → (∀ v H', (∀ a o, a ≠ bx → H a = some o → H' a = some o) → BoxOk K bx (hid (isB T bx) H') H' → Rep K bx (hid (isB T bx) H') v d → Q v H') → Q v H' := fun H' v d J r q => by
    have sm : Same (hid (hidE E1) H') (hid (isB T bx) H') := hid_mono (fun a z => z.elim (fun e => .inl ⟨rfl, e⟩) fun z => .inr z) fun _ _ _ q => q
    refine q v H' (fun a o na e => ?_) ?_ (r.mono sm)
    · by_cases z : isB T bx a
      · rcases z with z | ⟨u, z⟩
        · exact absurd z na
        · have e2 := hT a u z
          rw [e] at e2
          cases e2
          exact J.tmp a o z
      · exact (hid_same _ _) _ _ (J.base a o (hid_some.mpr ⟨z, e⟩))
    · obtain ⟨dg, t, digs, q1, q2, q3⟩ := J.box rfl
      exact ⟨dg, t, digs, q1, q2, sm.seq q3⟩
  exact hd.sim E1 (L2.start N vs) H (startD N ds) _ _ rfl I (hsp ds _ hl hs) ⟨fun σ' H' δ' J q => fin H' .non .non J.fin .non q, fun _ H' v d J r q => fin H' v d J r q, fun _ _ _ _ q => q.elim, fun _ _ _ _ q => q.elim, fun z => nomatch z⟩
end
end DL
set_option Elab.async false
set_option linter.all false
set_option maxRecDepth 100000
set_option autoImplicit false
/-! DL, part g: built-ins, the box. -/
namespace DL
open PySem PySem.Spec L2
open PyProof.Rows hiding St
/-! ### built-ins -/
def DCl (K : PySem.W.Frag) (r : List V → Hp → VK → Prop) (g : List D → (BV → Prop) → Prop) : Prop := ∀ (E : EC) (σ : St) (H : Hp) (δ : DSt) (vs : List V) (ds : List D) (R : BV → Prop) (Q : VK), EnvR K E σ H δ →
  RootRs K E.bx H (HH E σ δ H) vs ds → g ds R → (∀ v H' b, EnvR K E σ H' δ → RepB K E σ H' δ v b → R b → Q v H') → r vs H Q
def fBlt (g : List D → (BV → Prop) → Prop) (fa : DTA) : DTE := fun δ R => fa δ fun bs δ1 => withL δ1 bs fun ds => g ds fun b => R b δ1
theorem sim_blt {K : PySem.W.Frag} {L : Md} {r : List V → Hp → VK → Prop} {g : List D → (BV → Prop) → Prop} {t : TA} {f : DTA} (hr : DCl K r g) (ha : SimA K L t f) : SimE K L (tCB r t) (fBlt g f) := fun E σ H δ R Q hl I q k =>
  ha E σ H δ _ _ hl I q fun vs H1 δ1 bs I1 r1 h1 => by
    obtain ⟨ds, r2, h2⟩ := RepWs.withL I1 r1 h1
    exact hr E σ H1 δ1 vs ds _ Q I1 r2 h2 fun v H' b I' r' q => k v H' δ1 b I' r' q
section
variable {X : Cx} {L : Md} {x : Str} {p pos : Pos} {e a b : Expr} {es : List Expr} {t : TA} {f : DTA} {te ta tb : TE} {fe fa fb : DTE} {id T : String} {r : List V → Hp → VK → Prop} {g : List D → (BV → Prop) → Prop}
theorem d_blt (hc : CallR X (.builtin id) r ∧ DCl X.K r g) (hm : X.mg x = none) (hv : bootBuiltins x = some (.builtin id)) (ha : DA X L (e :: es) f) (hg : Gl X x := by rfl) (hn : x ≠ "__name__" := by decide) (hdb : (x == ("__debug__" : Str)) = false := by decide)
    (he : starEach (e :: es) X.env = (false, eval e X.env) :: starEach es X.env := by rfl) (hpl : (backTo pos (starEach es X.env)).any (·.1) = false := by rfl) : DE X L (.Call (.Name x p) (e :: es) [] pos) (fBlt g f) :=
  ⟨pe_callB hc.1 hg hm hv ha.pa hn hdb he hpl, sim_blt hc.2 ha.sim⟩
theorem d_ty (hc : CallR X (.type T) r ∧ DCl X.K r g) (hm : X.mg x = none) (hv : bootBuiltins x = some (.type T)) (ha : DA X L (e :: es) f) (hg : Gl X x := by rfl) (hn : x ≠ "__name__" := by decide) (hdb : (x == ("__debug__" : Str)) = false := by decide)
    (he : starEach (e :: es) X.env = (false, eval e X.env) :: starEach es X.env := by rfl) (hpl : (backTo pos (starEach es X.env)).any (·.1) = false := by rfl) : DE X L (.Call (.Name x p) (e :: es) [] pos) (fBlt g f) :=
  ⟨pe_callTy hc.1 hg hm hv ha.pa hn hdb he hpl, sim_blt hc.2 ha.sim⟩
/-- a built-in function of a module, by a name of the module -/
theorem d_fun (hc : CallR X (.builtin id) r ∧ DCl X.K r g) (hm : X.mg x = some (.builtin id)) (ha : DA X L (e :: es) f) (hg : Gl X x := by rfl) (hdb : (x == ("__debug__" : Str)) = false := by decide)
    (he : starEach (e :: es) X.env = (false, eval e X.env) :: starEach es X.env := by rfl) (hpl : (backTo pos (starEach es X.env)).any (·.1) = false := by rfl) : DE X L (.Call (.Name x p) (e :: es) [] pos) (fBlt g f) :=
  ⟨pe_callBfun hc.1 hg hm ha.pa hdb he hpl, sim_blt hc.2 ha.sim⟩
theorem DCl.or {K : PySem.W.Frag} {r r' : List V → Hp → VK → Prop} {g g' : List D → (BV → Prop) → Prop} (h : DCl K r g) (h' : DCl K r' g') : DCl K (fun vs H Q => r vs H Q ∨ r' vs H Q) (fun ds R => g ds R ∨ g' ds R) :=
  fun E σ H δ vs ds R Q I r q k => q.elim (fun q => .inl (h E σ H δ vs ds R Q I r q k)) fun q => .inr (h' E σ H δ vs ds R Q I r q k)
/-- len -/
def gLen : List D → (BV → Prop) → Prop
  | [.lst ds], R => R (.val (.int ds.length))
  | [.tup ds], R => R (.val (.int ds.length))
  | [.ptp ds], R => R (.val (.int ds.length))
  | [.scr xs], R => R (.val (.int xs.length))
  | [.str x], R => x.length ≤ 16000000 ∧ R (.val (.int x.length))
  | _, _ => False
theorem c_len : CallR X (.builtin "len") (fun xs H Q => ∃ x n, xs = [x] ∧ LenV X.K x H n ∧ Q (.int n) H) ∧ DCl X.K (fun xs H Q => ∃ x n, xs = [x] ∧ LenV X.K x H n ∧ Q (.int n) H) gLen := by
  refine ⟨call_len, fun E σ H δ vs ds R Q I r q k => ?_⟩
  cases r with
  | nil => exact q.elim
  | cons r rr => cases rr with
    | nil =>
      cases r with
      | lst h r => exact ⟨_, _, rfl, .inl ⟨_, .inl (.inl h), r.length.symm⟩, k _ _ (.val _) I (Rep.int _) q⟩
      | tup h r => exact ⟨_, _, rfl, .inr ⟨_, Same.sqT (hid_same _ _) h, r.length.symm⟩, k _ _ (.val _) I (Rep.int _) q⟩
      | ptp h _ r => exact ⟨_, _, rfl, .inr ⟨_, Same.sqT (hid_same _ _) h, r.length.symm⟩, k _ _ (.val _) I (Rep.int _) q⟩
      | @scr a xs h => exact ⟨_, xs.length, rfl, .inl ⟨_, (hid_same _ _).seq h, by rw [List.length_map]⟩, k _ _ (.val _) I (Rep.int _) q⟩
      | str x => exact ⟨_, _, rfl, ⟨szL q.1, rfl⟩, k _ _ (.val _) I (Rep.int _) q.2⟩
      | _ => exact q.elim
    | cons _ _ => cases r <;> exact q.elim
/-- abs, min, max of two, int -/
def gAbs : List D → (BV → Prop) → Prop
  | [.int i], R => R (.val (.int (if i < 0 then -i else i)))
  | _, _ => False
theorem c_abs : CallR X (.builtin "abs") (fun xs H Q => ∃ i, xs = [.int i] ∧ Q (.int (if i < 0 then -i else i)) H) ∧ DCl X.K (fun xs H Q => ∃ i, xs = [.int i] ∧ Q (.int (if i < 0 then -i else i)) H) gAbs := by
  refine ⟨call_abs, fun E σ H δ vs ds R Q I r q k => ?_⟩
  cases r with
  | nil => exact q.elim
  | cons r rr => cases rr with
    | nil => cases r with
      | int i => exact ⟨i, rfl, k _ _ (.val _) I (Rep.int _) q⟩
      | _ => exact q.elim
    | cons _ _ => cases r <;> exact q.elim
def gMin2 : List D → (BV → Prop) → Prop
  | [.int i, .int j], R => R (.val (.int (if j < i then j else i)))
  | _, _ => False
theorem two_ints {K : PySem.W.Frag} {bx : Addr} {H Hh : Hp} {vs : List V} {ds : List D} (r : RootRs K bx H Hh vs ds) {k : Int → Int → Prop} (q : match ds with | [.int i, .int j] => k i j | _ => False) : ∃ i j, vs = [.int i, .int j] ∧ ds = [.int i, .int j] ∧ k i j := by
  cases r with
  | nil => exact q.elim
  | cons r rr => cases rr with
    | nil => cases r <;> exact q.elim
    | cons r' rr => cases rr with
      | nil => cases r with
        | int i => cases r' with
          | int j => exact ⟨i, j, rfl, rfl, q⟩
          | _ => exact q.elim
        | _ => exact q.elim
      | cons _ _ => cases r <;> first | exact q.elim | (cases r' <;> exact q.elim)
theorem c_min2 (hc : X.calm = true) : CallR X (.builtin "min") (fun xs H Q => ∃ i j, xs = [.int i, .int j] ∧ Q (.int (if j < i then j else i)) H) ∧ DCl X.K (fun xs H Q => ∃ i j, xs = [.int i, .int j] ∧ Q (.int (if j < i then j else i)) H) gMin2 := by
  refine ⟨call_min2 hc, fun E σ H δ vs ds R Q I r q k => ?_⟩
  obtain ⟨i, j, rfl, rfl, q⟩ := two_ints (k := fun i j => R (.val (.int (if j < i then j else i)))) r (by unfold gMin2 at q; split at q <;> first | exact q | exact q.elim)
  exact ⟨i, j, rfl, k _ _ (.val _) I (Rep.int _) q⟩
def gMax2 : List D → (BV → Prop) → Prop
  | [.int i, .int j], R => R (.val (.int (if j > i then j else i)))
  | _, _ => False
theorem c_max2 (hc : X.calm = true) : CallR X (.builtin "max") (fun xs H Q => ∃ i j, xs = [.int i, .int j] ∧ Q (.int (if j > i then j else i)) H) ∧ DCl X.K (fun xs H Q => ∃ i j, xs = [.int i, .int j] ∧ Q (.int (if j > i then j else i)) H) gMax2 := by
  refine ⟨call_max2 hc, fun E σ H δ vs ds R Q I r q k => ?_⟩
  obtain ⟨i, j, rfl, rfl, q⟩ := two_ints (k := fun i j => R (.val (.int (if j > i then j else i)))) r (by unfold gMax2 at q; split at q <;> first | exact q | exact q.elim)
  exact ⟨i, j, rfl, k _ _ (.val _) I (Rep.int _) q⟩
def gInt : List D → (BV → Prop) → Prop
  | [.int i], R => R (.val (.int i))
  | [.bl c], R => R (.val (.int (if c then 1 else 0)))
  | _, _ => False
theorem c_int : CallR X (.type "int") (fun xs H Q => (∃ i, xs = [.int i] ∧ Q (.int i) H) ∨ ∃ k, xs = [.bl k] ∧ Q (.int (if k then 1 else 0)) H) ∧ DCl X.K (fun xs H Q => (∃ i, xs = [.int i] ∧ Q (.int i) H) ∨ ∃ k, xs = [.bl k] ∧ Q (.int (if k then 1 else 0)) H) gInt := by
  refine ⟨call_int1, fun E σ H δ vs ds R Q I r q k => ?_⟩
  cases r with
  | nil => exact q.elim
  | cons r rr => cases rr with
    | nil => cases r with
      | int i => exact .inl ⟨i, rfl, k _ _ (.val _) I (Rep.int _) q⟩
      | bl c => exact .inr ⟨c, rfl, k _ _ (.val _) I (Rep.int _) q⟩
      | _ => exact q.elim
    | cons _ _ => cases r <;> exact q.elim
def gGcd : List D → (BV → Prop) → Prop
  | [.int i, .int j], R => R (.val (.int ((Nat.gcd i.natAbs j.natAbs : Nat) : Int)))
  | _, _ => False
theorem c_gcd : CallR X (.builtin "math.gcd") rGcd ∧ DCl X.K rGcd gGcd := by
  refine ⟨cr_gcd, fun E σ H δ vs ds R Q I r q k => ?_⟩
  obtain ⟨i, j, rfl, rfl, q⟩ := two_ints (k := fun i j => R (.val (.int ((Nat.gcd i.natAbs j.natAbs : Nat) : Int)))) r (by unfold gGcd at q; split at q <;> first | exact q | exact q.elim)
  exact ⟨i, j, rfl, k _ _ (.val _) I (Rep.int _) q⟩
/-- tuple, list of a list or a tuple -/
def gTuple : List D → (BV → Prop) → Prop
  | [.lst ds], R => R (.val (.tup ds))
  | [.tup ds], R => R (.val (.tup ds))
  | _, _ => False
theorem c_tuple : CallR X (.type "tuple") (fun xs H Q => ∃ p ys, xs = [.ref p] ∧ ((SqL X.K H p ys ∧ ∀ l, H l = none → Q (.ref l) (upd H l (.tup ys))) ∨ (SqT X.K H p ys ∧ Q (.ref p) H))) ∧
    DCl X.K (fun xs H Q => ∃ p ys, xs = [.ref p] ∧ ((SqL X.K H p ys ∧ ∀ l, H l = none → Q (.ref l) (upd H l (.tup ys))) ∨ (SqT X.K H p ys ∧ Q (.ref p) H))) gTuple := by
  refine ⟨call_tuple_of, fun E σ H δ vs ds R Q I r q k => ?_⟩
  cases r with
  | nil => exact q.elim
  | cons r rr => cases rr with
    | nil => cases r with
      | lst h r =>
        refine ⟨_, _, rfl, .inl ⟨.inl (.inl h), fun l hl => ?_⟩⟩
        obtain ⟨I2, r2⟩ := I.freshT hl r
        exact k _ _ (.val _) I2 r2 q
      | @tup a vs ds h r => exact ⟨_, _, rfl, .inr ⟨Same.sqT (hid_same _ _) h, k _ _ (.val (.tup ds)) I (Rep.tup h r) q⟩⟩
      | _ => exact q.elim
    | cons _ _ => cases r <;> exact q.elim
def gList : List D → (BV → Prop) → Prop
  | [.lst ds], R => R (.fresh (.lst ds))
  | [.tup ds], R => R (.fresh (.lst ds))
  | _, _ => False
theorem c_list : CallR X (.type "list") (fun xs H Q => ∃ p ys, xs = [.ref p] ∧ (SqL X.K H p ys ∨ SqT X.K H p ys) ∧ ∀ l, H l = none → Q (.ref l) (upd H l (.lst ys))) ∧
    DCl X.K (fun xs H Q => ∃ p ys, xs = [.ref p] ∧ (SqL X.K H p ys ∨ SqT X.K H p ys) ∧ ∀ l, H l = none → Q (.ref l) (upd H l (.lst ys))) gList := by
  refine ⟨call_list_of, fun E σ H δ vs ds R Q I r q k => ?_⟩
  cases r with
  | nil => exact q.elim
  | cons r rr => cases rr with
    | nil => cases r with
      | lst h r =>
        refine ⟨_, _, rfl, .inl (.inl (.inl h)), fun l hl => ?_⟩
        obtain ⟨I2, r2⟩ := I.freshL hl r
        exact k _ _ _ I2 r2 q
      | tup h r =>
        refine ⟨_, _, rfl, .inr (Same.sqT (hid_same _ _) h), fun l hl => ?_⟩
        obtain ⟨I2, r2⟩ := I.freshL hl r
        exact k _ _ _ I2 r2 q
      | _ => exact q.elim
    | cons _ _ => cases r <;> exact q.elim
/-- a list of ints, of truth values -/
def intsD : List D → Option (List Int)
  | [] => some []
  | .int i :: r => (intsD r).map (i :: ·)
  | _ => none
theorem RepA.intsD {K : PySem.W.Frag} {bx : Addr} {H : Hp} : ∀ {ds : List D} {vs : List V} {ns : List Int}, RepA K bx H vs ds → DL.intsD ds = some ns → vs = ns.map V.int
  | _, _, ns, .nil, e => by cases e; rfl
  | _, _, ns, .cons r t, e => by
    cases r with
    | int i =>
      unfold DL.intsD at e
      obtain ⟨ms, e1, e2⟩ := Option.map_eq_some_iff.mp e
      subst e2
      rw [RepA.intsD t e1]
      rfl
    | _ => cases e
def blsD : List D → Option (List Bool)
  | [] => some []
  | .bl i :: r => (blsD r).map (i :: ·)
  | _ => none
theorem RepA.blsD {K : PySem.W.Frag} {bx : Addr} {H : Hp} : ∀ {ds : List D} {vs : List V} {ns : List Bool}, RepA K bx H vs ds → DL.blsD ds = some ns → vs = ns.map V.bl
  | _, _, ns, .nil, e => by cases e; rfl
  | _, _, ns, .cons r t, e => by
    cases r with
    | bl i =>
      unfold DL.blsD at e
      obtain ⟨ms, e1, e2⟩ := Option.map_eq_some_iff.mp e
      subst e2
      rw [RepA.blsD t e1]
      rfl
    | _ => cases e
theorem intsD_map : ∀ ns : List Int, intsD (ns.map D.int) = some ns
  | [] => rfl
  | n :: ns => by
    show (intsD (ns.map D.int)).map (n :: ·) = _
    rw [intsD_map ns]; rfl
theorem blsD_map : ∀ ns : List Bool, blsD (ns.map D.bl) = some ns
  | [] => rfl
  | n :: ns => by
    show (blsD (ns.map D.bl)).map (n :: ·) = _
    rw [blsD_map ns]; rfl
def gSum : List D → (BV → Prop) → Prop
  | [.lst ds], R => match intsD ds with
    | some ns => R (.val (.int ns.sum))
    | none => False
  | _, _ => False
theorem c_sum (hc : X.calm = true) : CallR X (.builtin "sum") (rSum X.K) ∧ DCl X.K (rSum X.K) gSum := by
  refine ⟨cr_sum hc, fun E σ H δ vs ds R Q I r q k => ?_⟩
  cases r with
  | nil => exact q.elim
  | cons r rr => cases rr with
    | nil => cases r with
      | lst h r =>
        unfold gSum at q
        dsimp only at q
        split at q
        · rename_i ns e
          rw [r.intsD e] at h
          exact ⟨_, ns, rfl, .inl (.inl h), k _ _ (.val _) I (Rep.int _) q⟩
        · exact q.elim
      | _ => exact q.elim
    | cons _ _ => cases r <;> exact q.elim
def gAll : List D → (BV → Prop) → Prop
  | [.lst ds], R => match blsD ds with
    | some bs => R (.val (.bl (bs.all (fun b => b))))
    | none => False
  | _, _ => False
theorem c_all (hc : X.calm = true) : CallR X (.builtin "all") (rAll X.K) ∧ DCl X.K (rAll X.K) gAll := by
  refine ⟨cr_all hc, fun E σ H δ vs ds R Q I r q k => ?_⟩
  cases r with
  | nil => exact q.elim
  | cons r rr => cases rr with
    | nil => cases r with
      | lst h r =>
        unfold gAll at q
        dsimp only at q
        split at q
        · rename_i ns e
          rw [r.blsD e] at h
          exact ⟨_, ns, rfl, .inl (.inl h), k _ _ (.val _) I (Rep.bl _) q⟩
        · exact q.elim
      | _ => exact q.elim
    | cons _ _ => cases r <;> exact q.elim
def gAny : List D → (BV → Prop) → Prop
  | [.lst ds], R => match blsD ds with
    | some bs => R (.val (.bl (bs.any (fun b => b))))
    | none => False
  | _, _ => False
theorem c_any (hc : X.calm = true) : CallR X (.builtin "any") (rAny X.K) ∧ DCl X.K (rAny X.K) gAny := by
  refine ⟨cr_any hc, fun E σ H δ vs ds R Q I r q k => ?_⟩
  cases r with
  | nil => exact q.elim
  | cons r rr => cases rr with
    | nil => cases r with
      | lst h r =>
        unfold gAny at q
        dsimp only at q
        split at q
        · rename_i ns e
          rw [r.blsD e] at h
          exact ⟨_, ns, rfl, .inl (.inl h), k _ _ (.val _) I (Rep.bl _) q⟩
        · exact q.elim
      | _ => exact q.elim
    | cons _ _ => cases r <;> exact q.elim
/-- min, max of a list of ints -/
def gMinL : List D → (BV → Prop) → Prop
  | [.lst ds], R => match intsD ds with
    | some ns => 0 < ns.length ∧ ∀ m, m ∈ ns → (∀ y, y ∈ ns → m ≤ y) → R (.val (.int m))
    | none => False
  | _, _ => False
theorem c_minL (hc : X.calm = true) : CallR X (.builtin "min") (rMin X.K) ∧ DCl X.K (rMin X.K) gMinL := by
  refine ⟨cr_min hc, fun E σ H δ vs ds R Q I r q k => ?_⟩
  cases r with
  | nil => exact q.elim
  | cons r rr => cases rr with
    | nil => cases r with
      | lst h r =>
        unfold gMinL at q
        dsimp only at q
        split at q
        · rename_i ns e
          rw [r.intsD e] at h
          exact ⟨_, ns, rfl, .inl (.inl h), q.1, fun m h1 h2 => k _ _ (.val _) I (Rep.int _) (q.2 m h1 h2)⟩
        · exact q.elim
      | _ => exact q.elim
    | cons _ _ => cases r <;> exact q.elim
def gMaxL : List D → (BV → Prop) → Prop
  | [.lst ds], R => match intsD ds with
    | some ns => 0 < ns.length ∧ ∀ m, m ∈ ns → (∀ y, y ∈ ns → y ≤ m) → R (.val (.int m))
    | none => False
  | _, _ => False
theorem c_maxL (hc : X.calm = true) : CallR X (.builtin "max") (rMax X.K) ∧ DCl X.K (rMax X.K) gMaxL := by
  refine ⟨cr_max hc, fun E σ H δ vs ds R Q I r q k => ?_⟩
  cases r with
  | nil => exact q.elim
  | cons r rr => cases rr with
    | nil => cases r with
      | lst h r =>
        unfold gMaxL at q
        dsimp only at q
        split at q
        · rename_i ns e
          rw [r.intsD e] at h
          exact ⟨_, ns, rfl, .inl (.inl h), q.1, fun m h1 h2 => k _ _ (.val _) I (Rep.int _) (q.2 m h1 h2)⟩
        · exact q.elim
      | _ => exact q.elim
    | cons _ _ => cases r <;> exact q.elim
/-! ### isinstance -/
def tyN : D → Option String
  | .non => some "NoneType"
  | .bl _ => some "bool"
  | .int _ => some "int"
  | .str _ => some "str"
  | .tup _ => some "tuple"
  | .ptp _ => some "tuple"
  | .lst _ => some "list"
  | _ => none
inductive Ty5 where
  | int | bool | str | tuple | list
def Ty5.s : Ty5 → String
  | .int => "int"
  | .bool => "bool"
  | .str => "str"
  | .tuple => "tuple"
  | .list => "list"
def isiD : Ty5 → D → Option Bool
  | _, .scr _ => none
  | _, .box => none
  | _, .dk _ => none
  | _, .dt _ => none
  | .int, .int _ => some true
  | .int, .bl _ => some true
  | .bool, .bl _ => some true
  | .str, .str _ => some true
  | .tuple, .tup _ => some true
  | .tuple, .ptp _ => some true
  | .list, .lst _ => some true
  | _, _ => some false
theorem tyX_of {K : PySem.W.Frag} {bx : Addr} {H Hh : Hp} {v : V} {d : D} {n : String} (e : Same Hh H) (r : RootR K bx H Hh v d) (h : tyN d = some n) : TyX K H v (.type n) := by
  cases r with
  | non => cases h; exact .base .non
  | bl b => cases h; exact .base (.bl b)
  | int i => cases h; exact .base (.int i)
  | str x => cases h; exact .base (.str x)
  | lst h1 _ => cases h; exact .base (.lst h1)
  | tup h1 _ =>
    cases h
    rcases Same.sqT e h1 with (h1 | ⟨o, h1⟩) | ⟨o, its, n, h1, h2, _⟩
    · exact .base (.tup h1)
    · exact .fTuple h1
    · exact .kTuple h1 h2
  | ptp h1 _ _ =>
    cases h
    rcases Same.sqT e h1 with (h1 | ⟨o, h1⟩) | ⟨o, its, n, h1, h2, _⟩
    · exact .base (.tup h1)
    · exact .fTuple h1
    · exact .kTuple h1 h2
  | _ => cases h
theorem kit5 {K : PySem.W.Frag} (T : Ty5) (d : D) (b : Bool) (h : isiD T d = some b) : ∃ n, tyN d = some n ∧ PySem.W.kitOne K (.type n) (.type T.s) = some b := by
  cases T <;> cases d <;> cases h <;> exact ⟨_, rfl, kit_ty (by decide +kernel)⟩
def fIsi (T : Ty5) (fa : DTE) : DTE := fun δ R => fa δ fun b δ1 => withD δ1 b fun d => match isiD T d with
  | some c => R (.val (.bl c)) δ1
  | none => False
theorem boot_isi : bootBuiltins "isinstance" = some (.builtin "isinstance") := by decide +kernel
theorem d_isi (T : Ty5) {tn : Str} {p2 : Pos} (hmi : X.mg "isinstance" = none) (hmT : X.mg tn = none) (ha : DE X L a fa) (hv : bootBuiltins tn = some (.type T.s)) (hg : Gl X "isinstance" := by rfl) (hgT : Gl X tn := by rfl)
    (hn : tn ≠ "__name__" := by decide) (hd : (tn == ("__debug__" : Str)) = false := by decide)
    (hs : starEach [a, .Name tn p2] X.env = (false, eval a X.env) :: starEach [.Name tn p2] X.env := by rfl) (hs2 : starEach [Expr.Name tn p2] X.env = (false, eval (.Name tn p2) X.env) :: starEach [] X.env := by rfl)
    (hpl : (backTo pos (starEach [Expr.Name tn p2] X.env)).any (·.1) = false := by rfl) :
    DE X L (.Call (.Name "isinstance" p) [a, .Name tn p2] [] pos) (fIsi T fa) := by
  refine ⟨pe_callB call_isi hg hmi boot_isi (pa_cons ha.pe (pa_cons (pe_bltn (v := .ty T.s) hgT hmT hv rfl hn hd) pa_nil hs2) hs) (by decide) (by decide) hs hpl, fun E σ H δ R Q hl I q k => ha.sim E σ H δ _ _ hl I q fun v H1 δ1 b I1 r1 h1 => ?_⟩
  obtain ⟨d, r2, h2⟩ := RepW.withD I1 r1.weak h1
  split at h2
  · rename_i c e
    obtain ⟨n, e1, e2⟩ := kit5 (K := X.K) T d c e
    exact ⟨v, .ty T.s, .type n, .type T.s, c, rfl, .ty _, tyX_of (hid_same _ _) r2 e1, e2, k _ H1 δ1 (.val _) I1 (Rep.bl _) h2⟩
  · exact h2.elim
/-! ### the box -/
/-- what hangs on no box -/
def plainD : D → Bool
  | .non => true
  | .bl _ => true
  | .int _ => true
  | .str _ => true
  | .scr _ => true
  | _ => false
def plainS : Sl → Bool
  | .no => true
  | .val d => plainD d
  | .own _ => false
theorem Rep.plain {K : PySem.W.Frag} {bx bx' : Addr} {H : Hp} {v : V} {d : D} (r : Rep K bx H v d) (h : plainD d = true) : Rep K bx' H v d := by
  cases r with
  | non => exact .non
  | bl b => exact .bl b
  | int i => exact .int i
  | str x => exact .str x
  | scr h1 => exact .scr h1
  | _ => cases h
def fBox (i : Nat) (fa : DTA) (h : DTS) : DTS := fun Df δ => fa δ fun bs δ1 => forceL bs δ1 fun ds δ2 => δ2.all plainS = true ∧ match ds with
  | [.lst xs, .int t] => 0 ≤ t ∧ (intsD xs).isSome = true ∧ h { nx := fun _ => False, rt := fun d => match d with
    | .bl b => Df.rt (.bl b)
    | _ => False } (δ2.set i (.val .box))
  | _ => False
theorem sim_box {K : PySem.W.Frag} {i : Nat} {u : TS} {h : DTS} (ha : SimA K .plain t f) (hh : SimS K .box u h) : SimS K .plain (tSeq (tAsg (tLst t) (gName i)) u) (fBox i f h) := fun E σ H δ Dn Df hl I q ok => by
  refine ha E σ H δ _ _ hl I q fun vs H1 δ1 bs I1 r1 h1 => ?_
  obtain ⟨ds, δ2, I2, r2, hp, h2⟩ := RepWs.force I1 r1 h1
  have hm := hl
  have hl : E.live = false := by unfold EC.live; rw [hm]; rfl
  split at h2
  · rename_i xs z
    cases r2 with
    | cons ra rr => cases rr with
      | cons rb rr => cases rr with
        | nil =>
          cases rb
          cases ra with
          | @lst dg us _ hdg rxs =>
            obtain ⟨ht, hints, h2⟩ := h2
            obtain ⟨digs, hd⟩ := Option.isSome_iff_exists.mp hints
            have eus := rxs.intsD hd
            subst eus
            refine ⟨by show 2 ≤ sizeLine; decide, fun p np => ?_⟩
            obtain ⟨sm, I3, hn, _⟩ := I2.new (o := .lst [.ref dg, .int z]) np
            have nohid : ∀ a, hidP E σ δ2 a → (∃ o, E.T a = some o) := fun a q => by
              rcases q with q | q | ⟨j, d, q1, q2⟩
              · rw [hl] at q; cases q.1
              · exact q
              · have := List.all_eq_true.mp hp _ (List.mem_of_getElem? q1)
                cases this
            have hT : E.T p = none := by
              cases e : E.T p with
              | none => rfl
              | some o => rw [I2.tmp p o e] at np; cases np
            let E' : EC := ⟨HH E σ δ2 H1, p, .box, E.T⟩
            let H2 := upd H1 p (.lst [.ref dg, .int z])
            have slots : ∀ (j : Nat) (d : D), (δ2.set i (.val .box))[j]? ≠ some (.own d) := fun j d e => by
              rcases get_set e with ⟨_, q⟩ | ⟨_, q⟩
              · cases q
              · have := List.all_eq_true.mp hp _ (List.mem_of_getElem? q)
                cases this
            have sub : ∀ a, hidP E' (σ.set i (some (.ref p))) (δ2.set i (.val .box)) a → a = p ∨ ∃ o, E.T a = some o := fun a q => by
              rcases q with q | q | ⟨j, d, q1, _⟩
              · exact .inl q.2
              · exact .inr q
              · exact absurd q1 (slots j d)
            have sB : Same (HH E σ δ2 H1) (HH E' (σ.set i (some (.ref p))) (δ2.set i (.val .box)) H2) := fun a o q => by
              obtain ⟨n, q⟩ := hid_some.mp q
              refine hid_some.mpr ⟨fun z => ?_, sm _ _ q⟩
              rcases sub a z with z | ⟨o', z⟩
              · rw [z, np] at q; cases q
              · exact n (.inr (.inl ⟨o', z⟩))
            have I4 : EnvR K E' (σ.set i (some (.ref p))) H2 (δ2.set i (.val .box)) := by
              refine ⟨by rw [List.length_set, List.length_set]; exact I2.len, fun j d e => ?_, fun j d e => absurd e (slots j d), fun j k d e a e1 => absurd e1 (slots j d), sB, fun a o e => sm _ _ (I2.tmp a o e), fun _ => hT, ⟨dg, z, digs, upd_same, ht, sB.seq (.inl (.inl hdg))⟩⟩
              rcases get_set e with ⟨ej, q⟩ | ⟨hne, q⟩
              · cases q
                have hlt : j < σ.length := by
                  have := (List.getElem?_eq_some_iff.mp e).1
                  rw [List.length_set] at this
                  rw [I2.len]; exact this
                exact ⟨_, by rw [ej] at hlt ⊢; exact List.getElem?_set_self hlt, .box⟩
              · obtain ⟨v, h1, h2⟩ := I2.val j d q
                refine ⟨v, by rw [List.getElem?_set_ne (Ne.symm hne)]; exact h1, (Rep.plain h2 ?_).mono sB⟩
                exact List.all_eq_true.mp hp _ (List.mem_of_getElem? q)
            refine hh E' _ H2 _ _ _ rfl I4 h2 ⟨fun _ _ _ _ q => q.elim, fun _ H' v d F r q => ?_, fun _ _ _ _ q => q.elim, fun _ _ _ _ q => q.elim, fun z => nomatch z⟩
            cases r with
            | bl b =>
              refine ok.rt (by rw [hm]; rfl) H' (.bl b) (.bl b) ⟨fun a o e => ?_, F.tmp, fun z => by rw [hm] at z; cases z⟩ (.bl b) q
              have e2 := F.base a o (I2.base a o e)
              obtain ⟨n, e3⟩ := hid_some.mp e2
              refine hid_some.mpr ⟨fun z => ?_, e3⟩
              rcases z with z | z
              · rw [hl] at z; cases z.1
              · exact n (.inr z)
            | _ => exact q.elim
          | _ => exact h2.elim
  · exact h2.elim
theorem ss_box {i : Nat} {y : Str} {rest : List Stmt} {pos' : Pos} {h : DTS} (hN : X.N.Nodup) (ha : DA X .plain es f) (hr : DSs X .box rest h) (hi : X.N[i]? = some y := by rfl) (hx : Loc X.env.scope y := by first | exact Or.inl rfl | exact Or.inr rfl)
    (hs : swapsWith (.List es pos') (some (.Name y p)) pos.line X.env = pure false := by rfl) (hf : X.fn y = true ∨ X.env.scope.names.lookup y = some .local := by first | exact .inl rfl | exact .inr rfl | assumption) :
    DSs X .plain (.Assign [.Name y p] (.List es pos') pos :: rest) (fBox i f h) :=
  ⟨pss_cons (ps_set hN hi hx (pe_lst ha.pa) hs hf) hr.pss, sim_box ha.sim hr.sim⟩
/-- a draw -/
def specDraw : FSpec := fun ds R => ∃ m, ds = [.box, .int m] ∧ 0 < m ∧ ∀ n, 0 ≤ n → n < m → R (.int n)
theorem specDraw_mono : SMono specDraw := fun ds R R' h ⟨m, e, hm, q⟩ => ⟨m, e, hm, fun n h0 h1 => h _ (q n h0 h1)⟩
/-- the law -/
def specLaw : FSpec := fun ds R => ∃ ns : List Int, ds = [.scr ns] ∧ ns.length ≤ 63 ∧ R (.bl true)
theorem specLaw_mono : SMono specLaw := fun ds R R' h ⟨m, e, hm, q⟩ => ⟨m, e, hm, h _ q⟩
end
end DL
set_option Elab.async false
set_option linter.all false
set_option maxRecDepth 100000
set_option autoImplicit false
/-! DL, part h: methods of lists and texts. -/
namespace DL
open PySem PySem.Spec L2
open PyProof.Rows hiding St
section
variable {X : Cx} {L : Md} {e o : Expr} {te to : TE} {fe fo : DTE} {pos apos cpos npos : Pos} {x : Str} {i : Nat}
/-- x.append(e) as a statement -/
theorem s_append (he : DE X L e fe) (hN : X.N[i]? = some x := by rfl) (hv : Vis X.env.scope x := by first | exact Or.inl rfl | exact Or.inr (Or.inl rfl) | exact Or.inr (Or.inr rfl)) (hd : (x == ("__debug__" : Str)) = false := by decide) (hcd : (x == ("__classdict__" : Str)) = false := by decide)
    (hbase : attributeBase (.Name x npos) "append" X.env (eval (.Name x npos) X.env) = eval (.Name x npos) X.env := by rfl)
    (hfew : ((backTo cpos (starEach [e] X.env)).all (fun x => !x.1) && (backToKw cpos (keywordEach [] X.env)).all (fun x => x.1.isSome)
      && decide ([e].length + ([] : List Keyword).length + (if ([] : List Keyword).isEmpty then 0 else 1) < 30)) = true := by rfl)
    (hline : (apos.endLine == cpos.line) = true := by rfl) (hst : starEach [e] X.env = (false, eval e X.env) :: starEach [] X.env := by rfl) (hplain : (backTo cpos (starEach [] X.env)).any (·.1) = false := by rfl)
    (hs : swapsWith (.Call (.Attribute (.Name x npos) "append" apos) [e] [] cpos) none pos.line X.env = pure false := by rfl) :
    DS X L (.Expr (.Call (.Attribute (.Name x npos) "append" apos) [e] [] cpos) pos) (fApp i fe) :=
  s_app he hN hv hd hcd (pe_bm PySem.F.plainAttrs_list PySem.F.slot_list_append PySem.F.type_list_append mt_append (pe_var hN hv hd hcd) (pa_cons he.pe pa_nil hst) hbase hfew hline hst hplain) hs
/-- x[k] = e as a statement, x a list of one's own -/
theorem s_setix {ek : Expr} {fk : DTE} {ipos : Pos} (he : DE X L e fe) (hk : DE X L ek fk) (hN : X.N[i]? = some x := by rfl) (hv : Vis X.env.scope x := by first | exact Or.inl rfl | exact Or.inr (Or.inl rfl) | exact Or.inr (Or.inr rfl)) (hd : (x == ("__debug__" : Str)) = false := by decide) (hcd : (x == ("__classdict__" : Str)) = false := by decide)
    (ha : ∀ v, assign (.Subscript (.Name x npos) ek ipos) X.env v = (do
      let ov ← holding [v] (eval (.Name x npos) X.env)
      let iv ← holding [v, ov] (eval ek X.env)
      standAt ipos
      holding [v, ov, iv] (setItem ov iv v)
      release [v, ov, iv] []) := by intro _; rfl)
    (hs : swapsWithSole [.Subscript (.Name x npos) ek ipos] e pos.line X.env = pure false := by rfl) (hw : swappedStores [.Subscript (.Name x npos) ek ipos] e X.env = pure none := by rfl)
    (h1 : (assignEach [.Subscript (.Name x npos) ek ipos] X.env).map (·.2) = [assign (.Subscript (.Name x npos) ek ipos) X.env] := by rfl) :
    DS X L (.Assign [.Subscript (.Name x npos) ek ipos] e pos) (fSetIx i fk fe) :=
  ⟨ps_asg he.pe (pg_sub (pe_var hN hv hd hcd) hk.pe set_list ha) hs hw h1, fun E σ H δ Dn Df hl I q ok => he.sim E σ H δ _ _ hl I q fun v H1 δ1 b I1 r1 h1 => by
    obtain ⟨q0, h1⟩ := h1
    split at q0
    · rename_i ds0 lk0
      obtain ⟨a, hs1, _⟩ := I1.own i _ (look_own lk0)
      refine ⟨_, hs1, ?_⟩
      refine hk.sim { E with H0 := HH E σ δ1 H1 } σ H1 δ1 _ _ hl I1.pin h1 fun kv H2 δ2 c J2 r2 h2 => ?_
      have I2 := I1.unpin J2
      obtain ⟨d, δ3, J3, r3, h3⟩ := RepW.force (E := { E with H0 := HH E σ δ2 H2 }) I2.pin (RepW.keep r1.weak J2) h2
      have I3 := I2.unpin J3
      have r2' := RepW.keep (E := E) ((RepB.unpin r2 I1.base).weak) J3
      obtain ⟨k, rfl, h4⟩ := RepW.asI I3 r2' h3
      split at h4
      · rename_i ds lk
        obtain ⟨a2, ha2, hO, _⟩ := I3.own i _ (look_own lk)
        rw [hs1] at ha2
        cases ha2
        obtain ⟨vs, hH, r4⟩ := OwnR.tyL hO
        split at h4
        · rename_i j ej
          refine ⟨a, vs, k, j, rfl, rfl, hH, by rw [r4.length]; exact ej, ?_⟩
          exact ok.nx σ _ _ (I3.mut (look_own lk) hs1 fun H' Hh e s => .lst e ((r4.mono s).set (Rep.mono s r3) j)) h4
        · exact h4.elim
      · exact h4.elim
    · exact q0.elim⟩
/-- x.pop() -/
def fPop (i : Nat) : DTE := fun δ R => match look δ i with
  | .own (.lst ds) => match ds[ds.length - 1]? with
    | some d => R (.val d) (δ.set i (.own (.lst ds.dropLast)))
    | none => False
  | _ => False
theorem d_pop (hN : X.N[i]? = some x := by rfl) (hv : Vis X.env.scope x := by first | exact Or.inl rfl | exact Or.inr (Or.inl rfl) | exact Or.inr (Or.inr rfl)) (hd : (x == ("__debug__" : Str)) = false := by decide) (hcd : (x == ("__classdict__" : Str)) = false := by decide)
    (hbase : attributeBase (.Name x npos) "pop" X.env (eval (.Name x npos) X.env) = eval (.Name x npos) X.env := by rfl) (hline : (apos.endLine == cpos.line) = true := by rfl) :
    DE X L (.Call (.Attribute (.Name x npos) "pop" apos) [] [] cpos) (fPop i) :=
  ⟨pe_bm0 PySem.F.plainAttrs_list PySem.F.slot_list_pop PySem.F.type_list_pop mt_pop (pe_var hN hv hd hcd) hbase hline, fun E σ H δ R Q hl I q k => by
    unfold fPop at q
    split at q
    · rename_i ds lk
      obtain ⟨a, ha, hO, h3, h4⟩ := I.own i _ (look_own lk)
      obtain ⟨vs, hH, r⟩ := OwnR.tyL hO
      split at q
      · rename_i d ed
        obtain ⟨v, ev, rv⟩ := r.get ed
        refine ⟨_, ha, tyV_list hH, a, vs, v, rfl, rfl, hH, by rw [r.length]; exact ev, ?_⟩
        have J : EnvR X.K { E with H0 := HH E σ δ H } σ (upd H a (.lst vs.dropLast)) (δ.set i (.own (.lst ds.dropLast))) := I.pin.mut (look_own lk) ha fun H' Hh e s => .lst e (r.mono s).dropLast
        exact k v _ _ (.val d) (J.unbase I.base) (Rep.mono J.base rv) q
      · exact q.elim
    · exact q.elim⟩
/-- sep.join([..]) -/
def strsD : List D → Option (List Str)
  | [] => some []
  | .str x :: r => (strsD r).map (x :: ·)
  | _ => none
theorem RepA.strsD {K : PySem.W.Frag} {bx : Addr} {H : Hp} : ∀ {ds : List D} {vs : List V} {ns : List Str}, RepA K bx H vs ds → DL.strsD ds = some ns → vs = ns.map V.str
  | _, _, ns, .nil, e => by cases e; rfl
  | _, _, ns, .cons r t, e => by
    cases r with
    | str i =>
      unfold DL.strsD at e
      obtain ⟨ms, e1, e2⟩ := Option.map_eq_some_iff.mp e
      subst e2
      rw [RepA.strsD t e1]
      rfl
    | _ => cases e
def fJoin (fo fe : DTE) : DTE := fun δ R => fo δ fun b δ1 => (match b with
  | .val (.str _) => True
  | _ => False) ∧ fe δ1 fun c δ2 => withD δ2 b fun s => withD δ2 c fun d => match s with
    | .str a => match d with
      | .lst ds => match strsD ds with
        | some ys => (ys.map (·.length)).sum + ys.length * a.length ≤ 16000000 ∧ R (.val (.str (Txt.join a ys))) δ2
        | none => False
      | _ => False
    | _ => False
theorem d_join (ho : DE X L o fo) (he : DE X L e fe) (hs : starEach [e] X.env = [(false, eval e X.env)] := by rfl) (hbase : attributeBase o "join" X.env (eval o X.env) = eval o X.env := by rfl) (hline : (apos.endLine == pos.line) = true := by rfl) :
    DE X L (.Call (.Attribute o "join" apos) [e] [] pos) (fJoin fo fe) :=
  ⟨pe_join ho.pe he.pe hs hbase hline, fun E σ H δ R Q hl I q k => ho.sim E σ H δ _ _ hl I q fun v H1 δ1 b I1 r1 h1 => by
    obtain ⟨h0, h1⟩ := h1
    split at h0
    · rename_i a
      cases r1
      refine ⟨⟨a, rfl⟩, he.sim E σ H1 δ1 _ _ hl I1 h1 fun u H2 δ2 c I2 r2 h2 => ?_⟩
      obtain ⟨d, r3, h3⟩ := RepW.withD I2 r2.weak h2
      cases r3 with
      | lst h r =>
        dsimp only at h3
        split at h3
        · rename_i ys e
          rw [r.strsD e] at h
          exact ⟨a, _, ys, rfl, rfl, .inl (.inl (.inl h)), by omega, k _ _ _ (.val _) I2 (Rep.str _) h3.2⟩
        · exact h3.elim
      | _ => exact h3.elim
    · exact h0.elim⟩
end
end DL
set_option Elab.async false
set_option linter.all false
set_option maxRecDepth 100000
set_option autoImplicit false
/-! DL, part i: the program's top, the law. -/
namespace DL
open PySem PySem.Spec L2
open PyProof.Rows hiding St
section
variable {X : Cx} {e : Expr} {es : List Expr} {t : TA} {f : DTA} {pos : Pos}
theorem d_callB {k : Nat} {x : Str} {n : Nat} {spec : FSpec} {p : Pos} (G : Good X.prog X.w X.K X.mg X.base true k x n spec) (hr : Room k X.A) (ha : DA X .box (e :: es) f) (hg : Gl X x := by rfl)
    (hdb : (x == ("__debug__" : Str)) = false := by decide) (he : starEach (e :: es) X.env = (false, eval e X.env) :: starEach es X.env := by rfl) (hpl : (backTo pos (starEach es X.env)).any (·.1) = false := by rfl) :
    DE X .box (.Call (.Name x p) (e :: es) [] pos) (fCall n spec f) := by
  obtain ⟨fa, fd, ps, F, hm, hk, hb⟩ := G.ex
  rw [if_pos rfl] at F
  exact ⟨pe_call F hr hg hm hk hb .nil pass0 ha.pa hdb he hpl, sim_callB G.mono ha.sim⟩
/-- True as a test -/
def fTT : DTT := fun δ R => R true δ
theorem t_true {L : Md} {j} : DT X L (.Constant (.bool true) j pos) fTT :=
  ⟨pt_truth pe_bl (by intro _; rfl), fun E σ H δ R Q hl I h k => ⟨true, rfl, k true H δ I h⟩⟩
end
section
variable {P : Program} {w : World} {K : PySem.W.Frag} {mg : Str → Option Value} {base : Heap}
theorem zero_good {x qual : Str} {st : Stmt} {f : Addr} {fd : FuncData} {ps : List Str} {z : Bool} {k : Nat} {spec : FSpec} (F : Fun K x qual st f fd) (hx : mg x = some (.ref f)) (hb : Binds K fd ps []) (hm : SMono spec) (h : ∀ ds R, ¬ spec ds R) : Good P w K mg base z k x ps.length spec := by
  refine ⟨⟨f, fd, ps, ?_, hx, F.kp, hb⟩, hm⟩
  cases z with
  | false =>
    rw [if_neg Bool.false_ne_true]
    exact ⟨fun vs H Q E ⟨_, _, ds, _, _, _, q⟩ => absurd q (h _ _), fun A outer s H args us vs Q E hr e0 hb r ⟨_, _, ds, _, _, _, q⟩ => absurd q (h _ _)⟩
  | true =>
    rw [if_pos rfl]
    exact ⟨fun vs H Q E ⟨_, _, ds, _, _, _, _, _, q⟩ => absurd q (h _ _), fun A outer s H args us vs Q E hr e0 hb r ⟨_, _, ds, _, _, _, _, _, q⟩ => absurd q (h _ _)⟩
/-- a written thing of the module: its datum -/
structure CF (K : PySem.W.Frag) (mg : Str → Option Value) (x : Str) (d : D) : Prop where
  ex : ∃ (v : V) (u : Value), mg x = some u ∧ RelV v u ∧ ∀ bx H, Rep K bx H v d
theorem cf_pair {x : Str} {b : Addr} {dd : Option Addr} {n : Nat} {sl : Array (Option Value)} {i j : Int} {t1 t2 : Tok} (hm : mg x = some (.ref b)) (h : K.lookup b = some ⟨.type "tuple", dd, .seq #[.int i t1, .int j t2] n, sl⟩) : CF K mg x (.tup [.int i, .int j]) :=
  ⟨.ref b, _, hm, rfl, fun bx H => .tup (vs := [.int i, .int j]) (.inr ⟨_, _, _, h, rfl, rfl, by show 2 ≤ sizeLine; decide, .cons ⟨_, rfl⟩ (.cons ⟨_, rfl⟩ .nil)⟩) (.cons (.int _) (.cons (.int _) .nil))⟩
theorem law_sp {H : Hp} {a : Addr} {ns : List Int} (hl : ns.length ≤ 63) (_ : Only H) (hS : SqL K H a (ns.map V.int)) : spD K 1 specLaw [.ref a] H (fun v _ => v = .bl true) fun _ _ _ => False := by
  refine ⟨0, fun _ => none, [.scr ns], rfl, fun _ _ e => (by cases e), .cons (.scr ?_) .nil, ns, rfl, hl, fun v H' _ r => by cases r; rfl⟩
  have e : hid (isHd fun _ => none) H = H := by
    funext b
    cases q : H b with
    | some o => exact hid_some.mpr ⟨fun ⟨_, z⟩ => (by cases z), q⟩
    | none =>
      cases z : hid (isHd fun _ => none) H b with
      | none => rfl
      | some o => rw [(hid_some.mp z).2] at q; cases q
  rw [e]
  exact hS
end
end DL
set_option Elab.async false
set_option linter.all false
set_option maxRecDepth 100000
set_option autoImplicit false
/-! DL, part j: data readings evaluated. -/
namespace DL
open L2
theorem look_zero {s : Sl} {δ : DSt} : look (s :: δ) 0 = s := rfl
theorem look_succ {s : Sl} {δ : DSt} {n : Nat} : look (s :: δ) (n + 1) = look δ n := rfl
theorem startD_nil {N : List PySem.Str} : startD N [] = List.replicate N.length .no := rfl
theorem startD_cons {x : PySem.Str} {N : List PySem.Str} {d : D} {ds : List D} : startD (x :: N) (d :: ds) = .val d :: startD N ds := by
  unfold startD
  simp only [List.map_cons, List.length_cons, Nat.add_sub_add_right, List.cons_append]
theorem repl_s {n : Nat} {s : Sl} : List.replicate (n + 1) s = s :: List.replicate n s := rfl
theorem repl_0 {s : Sl} : List.replicate 0 s = [] := rfl
theorem atI_nat' {α : Type} {xs : List α} {k : Nat} : atI xs (k : Int) = xs[k]? := by
  unfold atI ixN
  rw [if_pos (by omega)]
  by_cases h : (k : Int) < xs.length
  · rw [if_pos h]
    show xs[(k : Int).toNat]? = _
    rw [Int.toNat_natCast]
  · rw [if_neg h]
    rw [List.getElem?_eq_none (by omega)]
    rfl
theorem atI_0 {α : Type} {xs : List α} : atI xs 0 = xs[0]? := atI_nat' (k := 0)
theorem atI_1 {α : Type} {xs : List α} : atI xs 1 = xs[1]? := atI_nat' (k := 1)
theorem atI_2 {α : Type} {xs : List α} : atI xs 2 = xs[2]? := atI_nat' (k := 2)
theorem atI_3 {α : Type} {xs : List α} : atI xs 3 = xs[3]? := atI_nat' (k := 3)
theorem atI_m1 {α : Type} {xs : List α} : atI xs (-1) = xs.getLast? := by
  unfold atI ixN
  rw [if_neg (by omega)]
  cases xs with
  | nil => rfl
  | cons x r =>
    rw [if_pos (by rw [List.length_cons]; omega), List.getLast?_eq_getElem?]
    show (x :: r)[(-1 + ((x :: r).length : Int)).toNat]? = _
    congr 1
    rw [List.length_cons]; omega
theorem atI_of {α : Type} {xs : List α} {i : Int} {k : Nat} {x : α} (hi : i = k) (h : xs[k]? = some x) : atI xs i = some x := by
  rw [hi, atI_nat', h]
theorem get_0 {α : Type} {x : α} {xs : List α} : (x :: xs)[0]? = some x := rfl
theorem get_s {α : Type} {x : α} {xs : List α} {n : Nat} : (x :: xs)[n + 1]? = xs[n]? := rfl
theorem set_0 {α : Type} {x y : α} {xs : List α} : (x :: xs).set 0 y = y :: xs := rfl
theorem set_s {α : Type} {x y : α} {xs : List α} {n : Nat} : (x :: xs).set (n + 1) y = x :: xs.set n y := rfl
def nxt (Df : DEnds) (δ : DSt) : Prop := Df.nx δ
def rtt (Df : DEnds) (d : D) : Prop := Df.rt d
def bkt (Df : DEnds) (δ : DSt) : Prop := Df.bk δ
def ctt (Df : DEnds) (δ : DSt) : Prop := Df.ct δ
theorem nx_mk {a : DSt → Prop} {b : D → Prop} {c d : DSt → Prop} {δ : DSt} : nxt ⟨a, b, c, d⟩ δ = a δ := rfl
theorem rt_mk {a : DSt → Prop} {b : D → Prop} {c d : DSt → Prop} {x : D} : rtt ⟨a, b, c, d⟩ x = b x := rfl
theorem bk_mk {a : DSt → Prop} {b : D → Prop} {c d : DSt → Prop} {δ : DSt} : bkt ⟨a, b, c, d⟩ δ = c δ := rfl
theorem ct_mk {a : DSt → Prop} {b : D → Prop} {c d : DSt → Prop} {δ : DSt} : ctt ⟨a, b, c, d⟩ δ = d δ := rfl
theorem ite_t {p q : Prop} : (if true = true then p else q) = p := if_pos rfl
theorem ite_f {p q : Prop} : (if false = true then p else q) = q := if_neg Bool.false_ne_true
theorem ite_tt {p q : Prop} : (if True then p else q) = p := if_pos trivial
theorem ite_ff {p q : Prop} : (if False then p else q) = q := if_neg not_false
abbrev Ev (N : List PySem.Str) (n : Nat) (sp : FSpec) (F : DTS) : Prop := ∀ ds R, ds.length = n → sp ds R → F ⟨fun _ => R .non, R, fun _ => False, fun _ => False⟩ (startD N ds)
/-! values under way -/
section
variable {δ : DSt} {k : D → Prop} {kk : D → DSt → Prop} {kb : Bool → Prop} {ki : Int → Prop} {ks : DSt → Prop} {d e : D} {i j : Nat} {a b : Int} {R : BV → Prop} {RR : BV → DSt → Prop}
def atSlot (s : Sl) (k : D → Prop) : Prop := match s with
  | .val d => k d
  | .own d => k d
  | .no => False
theorem withD_v : withD δ (.val d) k = k d := rfl
theorem withD_f : withD δ (.fresh d) k = k d := rfl
theorem withD_s : withD δ (.slot i) k = atSlot (look δ i) k := by
  show (match look δ i with | .val d => k d | .own d => k d | .no => False) = _
  cases look δ i <;> rfl
theorem atSlot_v : atSlot (.val d) k = k d := rfl
theorem atSlot_o : atSlot (.own d) k = k d := rfl
def frSlot (s : Sl) (i : Nat) (δ : DSt) (k : D → DSt → Prop) : Prop := match s with
  | .val d => k d δ
  | .own d => k d (δ.set i (.val d))
  | .no => False
theorem force_v : force (.val d) δ kk = kk d δ := rfl
theorem force_f : force (.fresh d) δ kk = kk d δ := rfl
theorem force_s : force (.slot i) δ kk = frSlot (look δ i) i δ kk := by
  show (match look δ i with | .val d => kk d δ | .own d => kk d (δ.set i (.val d)) | .no => False) = _
  cases look δ i <;> rfl
theorem frSlot_v : frSlot (.val d) i δ kk = kk d δ := rfl
theorem frSlot_o : frSlot (.own d) i δ kk = kk d (δ.set i (.val d)) := rfl
def stSlot (s : Sl) (i j : Nat) (δ : DSt) (k : DSt → Prop) : Prop := match s with
  | .val d => k (δ.set i (.val d))
  | .own d => k ((δ.set j (.val d)).set i (.val d))
  | .no => False
theorem store_v : store i (.val d) δ ks = ks (δ.set i (.val d)) := rfl
theorem store_f : store i (.fresh d) δ ks = ks (δ.set i (.own d)) := rfl
theorem store_s : store i (.slot j) δ ks = stSlot (look δ j) i j δ ks := by
  show (match look δ j with | .val d => ks (δ.set i (.val d)) | .own d => ks ((δ.set j (.val d)).set i (.val d)) | .no => False) = _
  cases look δ j <;> rfl
theorem stSlot_v : stSlot (.val d) i j δ ks = ks (δ.set i (.val d)) := rfl
theorem stSlot_o : stSlot (.own d) i j δ ks = ks ((δ.set j (.val d)).set i (.val d)) := rfl
theorem asB_v {c : Bool} : asB (.val (.bl c)) kb = kb c := rfl
def asInt (d : D) (k : Int → Prop) : Prop := match d with
  | .int i => k i
  | _ => False
theorem asI_eq {v : BV} : asI δ v ki = withD δ v fun d => asInt d ki := by
  show withD δ v _ = withD δ v _
  congr 1
theorem asInt_i : asInt (.int a) ki = ki a := rfl
def varS (s : Sl) (i : Nat) (δ : DSt) (R : BV → DSt → Prop) : Prop := match s with
  | .no => False
  | .val d => R (.val d) δ
  | .own _ => R (.slot i) δ
theorem fVar_eq : fVar i δ RR = varS (look δ i) i δ RR := by
  show (match look δ i with | .no => False | .val d => RR (.val d) δ | .own _ => RR (.slot i) δ) = _
  cases look δ i <;> rfl
theorem varS_v : varS (.val d) i δ RR = RR (.val d) δ := rfl
theorem varS_o : varS (.own d) i δ RR = RR (.slot i) δ := rfl
theorem force0 : forceL [] δ (fun ds δ => RR (.val (.tup ds)) δ) = RR (.val (.tup [])) δ := rfl
theorem forceL_n {kl : List D → DSt → Prop} : forceL [] δ kl = kl [] δ := rfl
theorem forceL_c {kl : List D → DSt → Prop} {v : BV} {bs : List BV} : forceL (v :: bs) δ kl = force v δ fun d δ1 => forceL bs δ1 fun ds δ2 => kl (d :: ds) δ2 := rfl
theorem withL_n {kl : List D → Prop} : withL δ [] kl = kl [] := rfl
theorem withL_c {kl : List D → Prop} {v : BV} {bs : List BV} : withL δ (v :: bs) kl = withD δ v fun d => withL δ bs fun ds => kl (d :: ds) := rfl
theorem asName_eq : asName i d δ ks = ks (δ.set i (.val d)) := rfl
theorem asTup_t {as : DAss} {ds : List D} : asTup as (.tup ds) δ ks = as ds δ ks := rfl
theorem asCons_c {f : DAs} {as : DAss} {ds : List D} : asCons f as (d :: ds) δ ks = f d δ fun δ1 => as ds δ1 ks := rfl
theorem asNil_n : asNil [] δ ks = ks δ := rfl
/-! operators -/
theorem gAdd_i : gAdd (.int a) (.int b) R = R (.val (.int (a + b))) := rfl
theorem gAdd_t {xs ys : List D} : gAdd (.tup xs) (.tup ys) R = (xs.length + ys.length ≤ 16000000 ∧ R (.val (.tup (xs ++ ys)))) := rfl
theorem gAdd_l {xs ys : List D} : gAdd (.lst xs) (.lst ys) R = (xs.length + ys.length ≤ 16000000 ∧ R (.fresh (.lst (xs ++ ys)))) := rfl
theorem gSub_i : DL.gSub (.int a) (.int b) R = R (.val (.int (a - b))) := rfl
theorem gMul_i : gMul (.int a) (.int b) R = (MulC a b ∧ R (.val (.int (a * b)))) := rfl
theorem gMul_l {xs : List D} : gMul (.lst xs) (.int b) R = (b < 2 ^ 63 ∧ -(2 ^ 63) ≤ b ∧ xs.length * b.toNat ≤ 16000000 ∧ R (.fresh (.lst (List.replicate b.toNat xs).flatten))) := rfl
theorem gFdiv_i : gFdiv (.int a) (.int b) R = (DivC b ∧ R (.val (.int (a.fdiv b)))) := rfl
theorem gMod_i : gMod (.int a) (.int b) R = (b ≠ 0 ∧ R (.val (.int (a.fmod b)))) := rfl
theorem gPow_i : gPow (.int a) (.int b) R = (CPow a b ∧ R (.val (.int (a ^ b.toNat)))) := rfl
theorem gLt_i : gLt (.int a) (.int b) R = R (.val (.bl (decide (a < b)))) := rfl
theorem gLe_i : gLe (.int a) (.int b) R = R (.val (.bl (decide (a ≤ b)))) := rfl
theorem gGt_i : gGt (.int a) (.int b) R = R (.val (.bl (decide (b < a)))) := rfl
theorem gGe_i : gGe (.int a) (.int b) R = R (.val (.bl (decide (b ≤ a)))) := rfl
theorem ShD_i : ShD (.int a) := by unfold ShD; rfl
theorem gEq_ii : gEq (.int a) (.int b) R = R (.val (.bl (a == b))) := by
  unfold gEq
  rw [show (ShD (.int a)) = True from eq_true ShD_i, show (ShD (.int b)) = True from eq_true ShD_i, true_and, true_and]
  rfl
theorem gNe_ii : gNe (.int a) (.int b) R = R (.val (.bl (!(a == b)))) := by
  unfold gNe
  rw [show (ShD (.int a)) = True from eq_true ShD_i, show (ShD (.int b)) = True from eq_true ShD_i, true_and, true_and]
  rfl
def isS (o : Option Bool) (k : Bool → Prop) : Prop := match o with
  | some b => k b
  | none => False
theorem isS_s {c : Bool} : isS (some c) kb = kb c := rfl
theorem gIs_eq : gIs d e R = isS (isD d e) fun c => R (.val (.bl c)) := by
  unfold gIs
  cases isD d e <;> rfl
theorem gIsnt_eq : gIsnt d e R = isS (isD d e) fun c => R (.val (.bl (!c))) := by
  unfold gIsnt
  cases isD d e <;> rfl
theorem isD_nn : isD .non .non = some true := rfl
theorem isD_in : isD (.int a) .non = some false := rfl
theorem isD_tn {xs : List D} : isD (.tup xs) .non = some false := rfl
theorem isD_bn {c : Bool} : isD (.bl c) .non = some false := rfl
theorem isD_sn {x : PySem.Str} : isD (.str x) .non = some false := rfl
theorem isD_ln {xs : List D} : isD (.lst xs) .non = some false := rfl
theorem isD_nb {c : Bool} : isD .non (.bl c) = some false := rfl
theorem isD_ib {c : Bool} : isD (.int a) (.bl c) = some false := rfl
theorem isD_tb {xs : List D} {c : Bool} : isD (.tup xs) (.bl c) = some false := rfl
theorem isD_sb {x : PySem.Str} {c : Bool} : isD (.str x) (.bl c) = some false := rfl
theorem isD_bb {c c' : Bool} : isD (.bl c) (.bl c') = some (decide (c = c')) := rfl
def ixS (o : Option D) (R : BV → Prop) : Prop := match o with
  | some d => R (.val d)
  | none => False
theorem ixS_s : ixS (some d) R = R (.val d) := rfl
theorem gIx_t {xs : List D} : gIx (.tup xs) (.int a) R = ixS (atI xs a) R := by
  show (match atI xs a with | some d => R (.val d) | none => False) = _
  cases atI xs a <;> rfl
theorem gIx_l {xs : List D} : gIx (.lst xs) (.int a) R = ixS (atI xs a) R := by
  show (match atI xs a with | some d => R (.val d) | none => False) = _
  cases atI xs a <;> rfl
theorem gIx_s {xs : List Int} : gIx (.scr xs) (.int a) R = ixS ((atI xs a).map .int) R := by
  show (match atI xs a with | some n => R (.val (.int n)) | none => False) = _
  cases atI xs a <;> rfl
theorem gLen_t {xs : List D} : gLen [.tup xs] R = R (.val (.int xs.length)) := rfl
theorem gLen_l {xs : List D} : gLen [.lst xs] R = R (.val (.int xs.length)) := rfl
theorem gLen_s {xs : List Int} : gLen [.scr xs] R = R (.val (.int xs.length)) := rfl
theorem gAbs_i : gAbs [.int a] R = R (.val (.int (if a < 0 then -a else a))) := rfl
theorem gMin2_i : gMin2 [.int a, .int b] R = R (.val (.int (if b < a then b else a))) := rfl
theorem gMax2_i : gMax2 [.int a, .int b] R = R (.val (.int (if b > a then b else a))) := rfl
theorem gInt_i : gInt [.int a] R = R (.val (.int a)) := rfl
theorem gInt_b {c : Bool} : gInt [.bl c] R = R (.val (.int (if c then 1 else 0))) := rfl
theorem gGcd_i : gGcd [.int a, .int b] R = R (.val (.int ((Nat.gcd a.natAbs b.natAbs : Nat) : Int))) := rfl
theorem gTuple_l {xs : List D} : gTuple [.lst xs] R = R (.val (.tup xs)) := rfl
theorem gTuple_t {xs : List D} : gTuple [.tup xs] R = R (.val (.tup xs)) := rfl
theorem gList_l {xs : List D} : gList [.lst xs] R = R (.fresh (.lst xs)) := rfl
theorem gList_t {xs : List D} : gList [.tup xs] R = R (.fresh (.lst xs)) := rfl
theorem truD_b {c : Bool} : truD (.bl c) kb = kb c := rfl
theorem truD_n : truD .non kb = kb false := rfl
theorem truD_t {xs : List D} : truD (.tup xs) kb = kb !xs.isEmpty := rfl
theorem truD_l {xs : List D} : truD (.lst xs) kb = kb !xs.isEmpty := rfl
theorem truD_i : truD (.int a) kb = kb (a != 0) := rfl
theorem fIsi_eq {T : Ty5} {fa : DTE} : fIsi T fa δ RR = fa δ fun v δ1 => withD δ1 v fun d => isS (isiD T d) fun c => RR (.val (.bl c)) δ1 := by
  show (fa δ fun v δ1 => withD δ1 v fun d => match isiD T d with | some c => RR (.val (.bl c)) δ1 | none => False) = _
  congr 1
theorem isi_int_n  : isiD .int .non = some false := rfl
theorem isi_int_b {c : Bool} : isiD .int (.bl c) = some true := rfl
theorem isi_int_i  : isiD .int (.int a) = some true := rfl
theorem isi_int_s {x : PySem.Str} : isiD .int (.str x) = some false := rfl
theorem isi_int_t {xs : List D} : isiD .int (.tup xs) = some false := rfl
theorem isi_int_l {xs : List D} : isiD .int (.lst xs) = some false := rfl
theorem isi_bool_n  : isiD .bool .non = some false := rfl
theorem isi_bool_b {c : Bool} : isiD .bool (.bl c) = some true := rfl
theorem isi_bool_i  : isiD .bool (.int a) = some false := rfl
theorem isi_bool_s {x : PySem.Str} : isiD .bool (.str x) = some false := rfl
theorem isi_bool_t {xs : List D} : isiD .bool (.tup xs) = some false := rfl
theorem isi_bool_l {xs : List D} : isiD .bool (.lst xs) = some false := rfl
theorem isi_str_n  : isiD .str .non = some false := rfl
theorem isi_str_b {c : Bool} : isiD .str (.bl c) = some false := rfl
theorem isi_str_i  : isiD .str (.int a) = some false := rfl
theorem isi_str_s {x : PySem.Str} : isiD .str (.str x) = some true := rfl
theorem isi_str_t {xs : List D} : isiD .str (.tup xs) = some false := rfl
theorem isi_str_l {xs : List D} : isiD .str (.lst xs) = some false := rfl
theorem isi_tuple_n  : isiD .tuple .non = some false := rfl
theorem isi_tuple_b {c : Bool} : isiD .tuple (.bl c) = some false := rfl
theorem isi_tuple_i  : isiD .tuple (.int a) = some false := rfl
theorem isi_tuple_s {x : PySem.Str} : isiD .tuple (.str x) = some false := rfl
theorem isi_tuple_t {xs : List D} : isiD .tuple (.tup xs) = some true := rfl
theorem isi_tuple_l {xs : List D} : isiD .tuple (.lst xs) = some false := rfl
theorem isi_list_n  : isiD .list .non = some false := rfl
theorem isi_list_b {c : Bool} : isiD .list (.bl c) = some false := rfl
theorem isi_list_i  : isiD .list (.int a) = some false := rfl
theorem isi_list_s {x : PySem.Str} : isiD .list (.str x) = some false := rfl
theorem isi_list_t {xs : List D} : isiD .list (.tup xs) = some false := rfl
theorem isi_list_l {xs : List D} : isiD .list (.lst xs) = some true := rfl
theorem fNeg_eq {fa : DTE} : fNeg fa δ RR = fa δ fun v δ1 => withD δ1 v fun d => asInt d fun i => RR (.val (.int (-i))) δ1 := rfl
theorem fPart_eq {fa : DTE} {ko : Option Int → DSt → Prop} : fPart fa δ ko = fa δ fun v δ1 => withD δ1 v fun d => asInt d fun i => ko (some i) δ1 := rfl
def seqS (d : D) (δ : DSt) (R : List D → DSt → Prop) : Prop := match d with
  | .lst ds => R ds δ
  | .tup ds => R ds δ
  | .ptp ds => R ds δ
  | .scr xs => R (xs.map D.int) δ
  | _ => False
theorem seqS_p {xs : List D} {kl : List D → DSt → Prop} : seqS (.ptp xs) δ kl = kl xs δ := rfl
theorem isi_int_p {xs : List D} : isiD .int (.ptp xs) = some false := rfl
theorem isi_bool_p {xs : List D} : isiD .bool (.ptp xs) = some false := rfl
theorem isi_str_p {xs : List D} : isiD .str (.ptp xs) = some false := rfl
theorem isi_tuple_p {xs : List D} : isiD .tuple (.ptp xs) = some true := rfl
theorem isi_list_p {xs : List D} : isiD .list (.ptp xs) = some false := rfl
theorem fSeq_eq {fa : DTE} {kl : List D → DSt → Prop} : fSeq fa δ kl = fa δ fun v δ1 => force v δ1 fun d δ2 => seqS d δ2 kl := rfl
theorem seqS_l {xs : List D} {kl : List D → DSt → Prop} : seqS (.lst xs) δ kl = kl xs δ := rfl
theorem seqS_t {xs : List D} {kl : List D → DSt → Prop} : seqS (.tup xs) δ kl = kl xs δ := rfl
def rng1S (bs : List BV) (δ : DSt) (R : List D → DSt → Prop) : Prop := match bs with
  | [b] => asI δ b fun j => smallR j ∧ R (rangeD 0 j.toNat) δ
  | _ => False
theorem fRng1_eq {fa : DTA} {kl : List D → DSt → Prop} : fRng1 fa δ kl = fa δ fun bs δ1 => rng1S bs δ1 kl := rfl
theorem rng1S_1 {v : BV} {kl : List D → DSt → Prop} : rng1S [v] δ kl = asI δ v fun j => smallR j ∧ kl (rangeD 0 j.toNat) δ := rfl
def rng2S (bs : List BV) (δ : DSt) (R : List D → DSt → Prop) : Prop := match bs with
  | [b, c] => asI δ b fun i => asI δ c fun j => smallR i ∧ smallR j ∧ R (rangeD i (j - i).toNat) δ
  | _ => False
theorem fRng2_eq {fa : DTA} {kl : List D → DSt → Prop} : fRng2 fa δ kl = fa δ fun bs δ1 => rng2S bs δ1 kl := rfl
theorem rng2S_1 {v w : BV} {kl : List D → DSt → Prop} : rng2S [v, w] δ kl = asI δ v fun i => asI δ w fun j => smallR i ∧ smallR j ∧ kl (rangeD i (j - i).toNat) δ := rfl
theorem okW_n : okW δ [] = True := rfl
def okSl (s : Sl) : Prop := match s with
  | .own _ => False
  | _ => True
theorem okW_c {vs : List Nat} : okW δ (i :: vs) = (okSl (look δ i) ∧ okW δ vs) := by
  rfl
theorem okSl_n : okSl .no = True := rfl
theorem okSl_v : okSl (.val d) = True := rfl
theorem wipeD_n : wipeD δ [] = δ := rfl
theorem wipeD_c {vs : List Nat} : wipeD δ (i :: vs) = (wipeD δ vs).set i .no := rfl
theorem backD_n {δ0 : DSt} : backD δ0 δ [] = δ := rfl
theorem backD_c {δ0 : DSt} {vs : List Nat} : backD δ0 δ (i :: vs) = (backD δ0 δ vs).set i (look δ0 i) := rfl
def callS (n : Nat) (spec : FSpec) (ds : List D) (k : D → Prop) : Prop := ds.length = n ∧ spec ds k
theorem fCall_eq {n : Nat} {spec : FSpec} {f : DTA} : fCall n spec f δ RR = f δ fun bs δ1 => forceL bs δ1 fun ds δ2 => callS n spec ds fun d => RR (.val d) δ2 := rfl
theorem call_of {n : Nat} {spec : FSpec} {ds : List D} {k : D → Prop} (h : spec ds k) (hn : ds.length = n := by rfl) : callS n spec ds k := ⟨hn, h⟩
end
/-! statements -/
section
variable {f h : DTS} {fe : DTE} {p : DTT} {fa : DTA} {asg : DAs} {fi : DTI} {Df : DEnds} {δ : DSt} {i j : Nat}
theorem fSq_i {a c d : DSt → Prop} {b : D → Prop} (q : f ⟨h ⟨a, b, c, d⟩, b, c, d⟩ δ) : fSq f h ⟨a, b, c, d⟩ δ := q
theorem fSet_i (q : fe δ fun b δ1 => store i b δ1 (nxt Df)) : fSet i fe Df δ := q
theorem fRet_i (q : fe δ fun b δ1 => force b δ1 fun d _ => rtt Df d) : fRet fe Df δ := q
theorem fRetN_i (q : rtt Df .non) : fRetN Df δ := q
theorem fDrop_i (q : fe δ fun _ δ1 => nxt Df δ1) : fDrop fe Df δ := q
theorem fIf_i (q : p δ fun c δ1 => if c = true then f Df δ1 else h Df δ1) : fIf p f h Df δ := q
theorem fAsg_i (q : fe δ fun b δ1 => force b δ1 fun d δ2 => asg d δ2 (nxt Df)) : fAsg fe asg Df δ := q
def parS (ds : List D) (i j : Nat) (δ : DSt) (k : DSt → Prop) : Prop := match ds with
  | [d, e] => k ((δ.set i (.val d)).set j (.val e))
  | _ => False
theorem parS_2 {d e : D} {k : DSt → Prop} : parS [d, e] i j δ k = k ((δ.set i (.val d)).set j (.val e)) := rfl
theorem fPar_i (q : fa δ fun bs δ1 => forceL bs δ1 fun ds δ2 => parS ds i j δ2 (nxt Df)) : fPar i j fa Df δ := q
theorem fNext_i (q : nxt Df δ) : fNext Df δ := q
theorem fBrk_i (q : bkt Df δ) : fBrk Df δ := q
theorem fCt_i (q : ctt Df δ) : fCt Df δ := q
theorem fFor_i (q : fi δ fun items δ1 => forD asg f Df items δ1) : fFor fi asg f Df δ := q
def augS (s : Sl) (i : Nat) (g : Int → Int → Int) (fe : DTE) (k : DSt → Prop) (δ : DSt) : Prop := match s with
  | .val (.int a) => fe δ fun b δ1 => asI δ1 b fun c => k (δ1.set i (.val (.int (g a c))))
  | _ => False
theorem augS_v {a : Int} {g : Int → Int → Int} {k : DSt → Prop} : augS (.val (.int a)) i g fe k δ = fe δ fun b δ1 => asI δ1 b fun c => k (δ1.set i (.val (.int (g a c)))) := rfl
theorem fAug_i {g : Int → Int → Int} (q : augS (look δ i) i g fe (nxt Df) δ) : fAug i g fe Df δ := q
def isOwnL (s : Sl) : Prop := match s with
  | .own (.lst _) => True
  | _ => False
theorem isOwnL_o {ds : List D} : isOwnL (.own (.lst ds)) = True := rfl
def appS (s : Sl) (i : Nat) (d : D) (δ : DSt) (k : DSt → Prop) : Prop := match s with
  | .own (.lst ds) => ds.length < 16000000 ∧ k (δ.set i (.own (.lst (ds ++ [d]))))
  | _ => False
theorem appS_o {ds : List D} {d : D} {k : DSt → Prop} : appS (.own (.lst ds)) i d δ k = (ds.length < 16000000 ∧ k (δ.set i (.own (.lst (ds ++ [d]))))) := rfl
theorem fApp_i (q : isOwnL (look δ i) ∧ fe δ fun b δ1 => force b δ1 fun d δ2 => appS (look δ2 i) i d δ2 (nxt Df)) : fApp i fe Df δ := q
def setS (s : Sl) (i : Nat) (k : Int) (d : D) (δ : DSt) (ks : DSt → Prop) : Prop := match s with
  | .own (.lst ds) => match ixN ds.length k with
    | some j => ks (δ.set i (.own (.lst (ds.set j d))))
    | none => False
  | _ => False
theorem fSetIx_i {fk : DTE} (q : fe δ fun b δ1 => isOwnL (look δ1 i) ∧ fk δ1 fun c δ2 => force b δ2 fun d δ3 => asI δ3 c fun k => setS (look δ3 i) i k d δ3 (nxt Df)) : fSetIx i fk fe Df δ := q
/-- a for, by its invariant over what is done and what is left -/
theorem forD_inv {asg : DAs} {f : DTS} {a c d : DSt → Prop} {b : D → Prop} (I : List D → List D → DSt → Prop)
    (step : ∀ done x todo δ (k : DSt → Prop), I done (x :: todo) δ → (∀ δ', I (done ++ [x]) todo δ' → k δ') → asg x δ fun δ1 => f ⟨k, b, a, k⟩ δ1) (fin : ∀ done δ, I done [] δ → a δ) :
    ∀ (todo done : List D) (δ : DSt), I done todo δ → forD asg f ⟨a, b, c, d⟩ todo δ
  | [], done, δ, h => fin done δ h
  | x :: todo, done, δ, h => step done x todo δ (forD asg f ⟨a, b, c, d⟩ todo) h fun δ' q => forD_inv I step fin todo (done ++ [x]) δ' q
theorem forD_cons {asg : DAs} {f : DTS} {a c d : DSt → Prop} {b : D → Prop} {x : D} {xs : List D} {δ : DSt} : forD asg f ⟨a, b, c, d⟩ (x :: xs) δ = asg x δ fun δ1 => f ⟨forD asg f ⟨a, b, c, d⟩ xs, b, a, forD asg f ⟨a, b, c, d⟩ xs⟩ δ1 := rfl
theorem forD_nil {asg : DAs} {f : DTS} {a c d : DSt → Prop} {b : D → Prop} {δ : DSt} : forD asg f ⟨a, b, c, d⟩ [] δ = a δ := rfl
/-- a for whose turns keep a property of the slots -/
theorem forD_keep {asg : DAs} {f : DTS} {a c d : DSt → Prop} {b : D → Prop} (I : DSt → Prop) {items : List D}
    (step : ∀ x δ (k : DSt → Prop), x ∈ items → I δ → (∀ δ', I δ' → k δ') → asg x δ fun δ1 => f ⟨k, b, a, k⟩ δ1) (fin : ∀ δ, I δ → a δ) (δ : DSt) (h : I δ) : forD asg f ⟨a, b, c, d⟩ items δ :=
  forD_inv (fun done todo δ => (∀ x ∈ todo, x ∈ items) ∧ I δ) (fun done x todo δ k q hk => step x δ k (q.1 x List.mem_cons_self) q.2 fun δ' q' => hk δ' ⟨fun y hy => q.1 y (List.mem_cons_of_mem _ hy), q'⟩) (fun done δ q => fin δ q.2) items [] δ ⟨fun _ h => h, h⟩
/-- a while, by its invariant and a measure -/
theorem while_inv {p : DTT} {f : DTS} {a c d : DSt → Prop} {b : D → Prop} (I : DSt → Prop) (μ : DSt → Nat)
    (step : ∀ δ (k : DSt → Prop), I δ → (∀ δ', I δ' → μ δ' < μ δ → k δ') → p δ fun z δ1 => if z = true then f ⟨k, b, a, k⟩ δ1 else a δ1) (δ : DSt) (h : I δ) : fWhile p f ⟨a, b, c, d⟩ δ := by
  have all : ∀ n δ, I δ → μ δ < n → whileD p f ⟨a, b, c, d⟩ n δ := fun n => by
    induction n with
    | zero => intro δ _ h; omega
    | succ n ih => exact fun δ h hlt => step δ (whileD p f ⟨a, b, c, d⟩ n) h fun δ' h' hlt' => ih δ' h' (by omega)
  exact ⟨μ δ + 1, all _ δ h (Nat.lt_succ_self _)⟩
/-- a comprehension, by its invariant -/
theorem comp_inv {vs : List Nat} {asg : DAs} {ft : DTT} {fe : DTE} {R : List D → DSt → Prop} (I : List D → List D → List D → DSt → Prop)
    (step : ∀ done x todo acc δ (k : List D → DSt → Prop), I done (x :: todo) acc δ → (∀ acc' δ', I (done ++ [x]) todo acc' δ' → k acc' δ') →
      asg x δ fun δ1 => ft δ1 fun b δ2 => if b = true then fe δ2 fun bv δ3 => force bv δ3 fun d δ4 => acc.length < 16000000 ∧ k (acc ++ [d]) (wipeD δ4 vs) else k acc (wipeD δ2 vs)) (fin : ∀ done acc δ, I done [] acc δ → R acc δ) :
    ∀ (todo done acc : List D) (δ : DSt), I done todo acc δ → compD vs asg ft fe todo acc δ R
  | [], done, acc, δ, h => fin done acc δ h
  | x :: todo, done, acc, δ, h => step done x todo acc δ (fun a d => compD vs asg ft fe todo a d R) h fun acc' δ' q => comp_inv I step fin todo (done ++ [x]) acc' δ' q
def compS (vs : List Nat) (fi : DTI) (asg : DAs) (ft : DTT) (fe : DTE) (δ : DSt) (R : BV → DSt → Prop) : Prop := fi δ fun items δ1 => okW δ1 vs ∧ compD vs asg ft fe items [] (wipeD δ1 vs) fun ds δ2 => R (.fresh (.lst ds)) (backD δ1 δ2 vs)
theorem fComp_eq {vs : List Nat} {asg : DAs} {ft : DTT} {fe : DTE} {R : BV → DSt → Prop} : fComp vs fi asg ft fe δ R = fi δ fun items δ1 => okW δ1 vs ∧ compD vs asg ft fe items [] (wipeD δ1 vs) fun ds δ2 => R (.fresh (.lst ds)) (backD δ1 δ2 vs) := rfl
/-- the box -/
def boxS (i : Nat) (ds : List D) (h : DTS) (Df : DEnds) (δ : DSt) : Prop := match ds with
  | [.lst xs, .int t] => 0 ≤ t ∧ (intsD xs).isSome = true ∧ h { nx := fun _ => False, rt := fun d => match d with
    | .bl b => Df.rt (.bl b)
    | _ => False } (δ.set i (.val .box))
  | _ => False
theorem fBox_i (q : fa δ fun bs δ1 => forceL bs δ1 fun ds δ2 => δ2.all plainS = true ∧ boxS i ds h Df δ2) : fBox i fa h Df δ := q
def blR (k : D → Prop) (d : D) : Prop := match d with
  | .bl b => k (.bl b)
  | _ => False
theorem blR_b {k : D → Prop} {c : Bool} : blR k (.bl c) = k (.bl c) := rfl
theorem boxS_2 {a c d : DSt → Prop} {b : D → Prop} {xs : List D} {t : Int} : boxS i [.lst xs, .int t] h ⟨a, b, c, d⟩ δ = (0 ≤ t ∧ (intsD xs).isSome = true ∧ h ⟨fun _ => False, blR b, fun _ => False, fun _ => False⟩ (δ.set i (.val .box))) := rfl
end
end DL
set_option Elab.async false
set_option linter.all false
set_option maxRecDepth 100000
set_option autoImplicit false
/-! DL, part k: equality of data. -/
namespace DL
open L2 PySem PyProof
/-- data that == looks into, at most n deep -/
inductive OkE : Nat → D → Prop
  | non {n : Nat} : OkE n .non
  | bl {n : Nat} (b : Bool) : OkE n (.bl b)
  | int {n : Nat} (i : Int) : OkE n (.int i)
  | str {n : Nat} {x : Str} (h : (toPy (.str x)).canLay0 = true) : OkE n (.str x)
  | tup {n : Nat} {ds : List D} (h : ∀ d ∈ ds, OkE n d) : OkE (n + 1) (.tup ds)
  | ptp {n : Nat} {ds : List D} (h : ∀ d ∈ ds, OkE n d) : OkE (n + 1) (.ptp ds)
  | lst {n : Nat} {ds : List D} (h : ∀ d ∈ ds, OkE n d) : OkE (n + 1) (.lst ds)
theorem okE_tup {n : Nat} {ds : List D} (h : OkE n (.tup ds)) : ∃ m, n = m + 1 ∧ ∀ d ∈ ds, OkE m d := by
  cases h with | tup h => exact ⟨_, rfl, h⟩
theorem okE_lst {n : Nat} {ds : List D} (h : OkE n (.lst ds)) : ∃ m, n = m + 1 ∧ ∀ d ∈ ds, OkE m d := by
  cases h with | lst h => exact ⟨_, rfl, h⟩
theorem lay_all : ∀ {ds : List D}, (∀ d ∈ ds, (toPy d).canLay0 = true) → PyData.canLayAll0 (toPys ds) = true
  | [], _ => rfl
  | d :: ds, h => Bool.and_eq_true_iff.mpr ⟨h d List.mem_cons_self, lay_all fun x hx => h x (List.mem_cons_of_mem _ hx)⟩
theorem dep_all {n : Nat} : ∀ {ds : List D}, (∀ d ∈ ds, (toPy d).depth ≤ n) → PyData.depthAll (toPys ds) ≤ n
  | [], _ => Nat.zero_le _
  | d :: ds, h => Nat.max_le.mpr ⟨h d List.mem_cons_self, dep_all fun x hx => h x (List.mem_cons_of_mem _ hx)⟩
theorem OkE.lay {n : Nat} {d : D} (h : OkE n d) : (toPy d).canLay0 = true ∧ (toPy d).depth ≤ n := by
  induction h with
  | non => exact ⟨rfl, Nat.zero_le _⟩
  | bl => exact ⟨rfl, Nat.zero_le _⟩
  | int => exact ⟨rfl, Nat.zero_le _⟩
  | str h => exact ⟨h, Nat.zero_le _⟩
  | tup h ih => exact ⟨lay_all fun d hd => (ih d hd).1, Nat.succ_le_succ (dep_all fun d hd => (ih d hd).2)⟩
  | ptp h ih => exact ⟨lay_all fun d hd => (ih d hd).1, Nat.succ_le_succ (dep_all fun d hd => (ih d hd).2)⟩
  | lst h ih => exact ⟨lay_all fun d hd => (ih d hd).1, Nat.succ_le_succ (dep_all fun d hd => (ih d hd).2)⟩
theorem OkE.sh {n : Nat} {d : D} (h : OkE n d) (hn : n ≤ 64 := by decide) : ShD d := by
  unfold ShD
  exact Bool.and_eq_true_iff.mpr ⟨h.lay.1, decide_eq_true (Nat.le_trans h.lay.2 hn)⟩
def eqL (xs ys : List D) : Bool := PyData.eqvAll (toPys xs) (toPys ys)
theorem eqD_tt {xs ys : List D} : eqD (.tup xs) (.tup ys) = eqL xs ys := rfl
theorem eqD_ll {xs ys : List D} : eqD (.lst xs) (.lst ys) = eqL xs ys := rfl
theorem eqD_ii {a b : Int} : eqD (.int a) (.int b) = (a == b) := rfl
theorem eqD_ss {a b : Str} : eqD (.str a) (.str b) = (a == b) := rfl
theorem eqD_nn : eqD .non .non = true := rfl
theorem eqD_ni {a : Int} : eqD .non (.int a) = false := rfl
theorem eqD_in {a : Int} : eqD (.int a) .non = false := rfl
theorem eqD_nt {xs : List D} : eqD .non (.tup xs) = false := rfl
theorem eqD_tn {xs : List D} : eqD (.tup xs) .non = false := rfl
theorem eqD_it {a : Int} {xs : List D} : eqD (.int a) (.tup xs) = false := rfl
theorem eqD_ti {a : Int} {xs : List D} : eqD (.tup xs) (.int a) = false := rfl
theorem eqD_lt {ys xs : List D} : eqD (.lst ys) (.tup xs) = false := rfl
theorem eqD_tl {ys xs : List D} : eqD (.tup ys) (.lst xs) = false := rfl
theorem eqL_nn : eqL [] [] = true := rfl
theorem eqL_cc {x y : D} {xs ys : List D} : eqL (x :: xs) (y :: ys) = (eqD x y && eqL xs ys) := rfl
theorem eqL_nc {y : D} {ys : List D} : eqL [] (y :: ys) = false := rfl
theorem eqL_cn {y : D} {ys : List D} : eqL (y :: ys) [] = false := rfl
theorem eqL_len : ∀ {xs ys : List D}, eqL xs ys = true → xs.length = ys.length
  | [], [], _ => rfl
  | [], _ :: _, h => by cases h
  | _ :: _, [], h => by cases h
  | x :: xs, y :: ys, h => by
    rw [eqL_cc, Bool.and_eq_true] at h
    exact congrArg (· + 1) (eqL_len h.2)
theorem eqL_ints : ∀ {xs ys : List Int}, eqL (xs.map .int) (ys.map .int) = decide (xs = ys)
  | [], [] => rfl
  | [], _ :: _ => rfl
  | _ :: _, [] => rfl
  | x :: xs, y :: ys => by
    show (x == y && eqL (xs.map .int) (ys.map .int)) = _
    rw [eqL_ints]
    by_cases h : x = y
    · subst h; simp
    · simp [h]
theorem eqL_refl : ∀ {xs : List D}, (∀ x ∈ xs, eqD x x = true) → eqL xs xs = true
  | [], _ => rfl
  | x :: xs, h => by
    rw [eqL_cc, h x List.mem_cons_self, eqL_refl fun y hy => h y (List.mem_cons_of_mem _ hy)]
    rfl
theorem eqD_refl {n : Nat} {d : D} (h : OkE n d) : eqD d d = true := by
  induction h with
  | non => rfl
  | bl b => show (b == b) = true; exact beq_self_eq_true _
  | int i => show (i == i) = true; exact beq_self_eq_true _
  | str h => rename_i x; show (x == x) = true; exact beq_self_eq_true _
  | tup h ih => rw [eqD_tt]; exact eqL_refl ih
  | ptp h ih => show eqL _ _ = true; exact eqL_refl ih
  | lst h ih => rw [eqD_ll]; exact eqL_refl ih
theorem OkE.le {n m : Nat} {d : D} (h : OkE n d) (hnm : n ≤ m) : OkE m d := by
  induction h generalizing m with
  | non => exact .non
  | bl b => exact .bl b
  | int i => exact .int i
  | str h => exact .str h
  | tup h ih =>
    obtain ⟨k, rfl⟩ : ∃ k, m = k + 1 := ⟨m - 1, by omega⟩
    exact .tup fun d hd => ih d hd (by omega)
  | ptp h ih =>
    obtain ⟨k, rfl⟩ : ∃ k, m = k + 1 := ⟨m - 1, by omega⟩
    exact .ptp fun d hd => ih d hd (by omega)
  | lst h ih =>
    obtain ⟨k, rfl⟩ : ∃ k, m = k + 1 := ⟨m - 1, by omega⟩
    exact .lst fun d hd => ih d hd (by omega)
theorem OkE.ints {n : Nat} {xs : List Int} : ∀ d ∈ xs.map D.int, OkE n d := fun d hd => by
  obtain ⟨i, _, rfl⟩ := List.mem_map.mp hd
  exact .int i
theorem okE_nil {n : Nat} : ∀ d ∈ ([] : List D), OkE n d := fun _ h => by cases h
theorem okE_cons {n : Nat} {x : D} {xs : List D} (h : OkE n x) (t : ∀ d ∈ xs, OkE n d) : ∀ d ∈ x :: xs, OkE n d := fun d hd => by
  rcases List.mem_cons.mp hd with rfl | h'
  · exact h
  · exact t d h'
theorem gEq_of {x y : D} {n m : Nat} {R : BV → Prop} (hx : OkE n x) (hy : OkE m y) (h : R (.val (.bl (eqD x y)))) (hn : n ≤ 64 := by decide) (hm : m ≤ 64 := by decide) : gEq x y R := ⟨hx.sh hn, hy.sh hm, h⟩
theorem gNe_of {x y : D} {n m : Nat} {R : BV → Prop} (hx : OkE n x) (hy : OkE m y) (h : R (.val (.bl (!eqD x y)))) (hn : n ≤ 64 := by decide) (hm : m ≤ 64 := by decide) : gNe x y R := ⟨hx.sh hn, hy.sh hm, h⟩
/-! readings, one step each -/
section
variable {δ : DSt} {R : BV → DSt → Prop} {Rb : Bool → DSt → Prop} {Ra : List BV → DSt → Prop} {Ro : Option Int → DSt → Prop} {d : D} {f fa fb fc : DTE} {p q : DTT} {ga gr : DTA} {g g' : D → D → (BV → Prop) → Prop} {gl : List D → (BV → Prop) → Prop} {fl fh : DTO}
theorem fC_eq : fC d δ R = R (.val d) δ := rfl
theorem fOp_eq : fOp g fa fb δ R = fa δ fun x δ1 => fb δ1 fun y δ2 => withD δ2 x fun dx => withD δ2 y fun dy => g dx dy fun b => R b δ2 := rfl
theorem fChain_eq : fChain g g' fa fb fc δ R = fa δ fun x δ1 => fb δ1 fun y δ2 => withD δ2 x fun dx => withD δ2 y fun dy => g dx dy fun b => asB b fun k =>
  if k = true then fc δ2 fun z δ3 => withD δ3 y fun dy => withD δ3 z fun dz => g' dy dz fun b => R b δ3 else R (.val (.bl false)) δ2 := rfl
theorem fTst_eq : fTst f δ Rb = f δ fun b δ1 => asB b fun c => Rb c δ1 := rfl
theorem fTru_eq : fTru f δ Rb = f δ fun b δ1 => withD δ1 b fun d => truD d fun c => Rb c δ1 := rfl
theorem fAnd_eq : fAnd p q δ Rb = p δ fun c δ1 => if c = true then q δ1 Rb else Rb false δ1 := rfl
theorem fOr_eq : fOr p q δ Rb = p δ fun c δ1 => if c = true then Rb true δ1 else q δ1 Rb := rfl
theorem fNot_eq : fNot p δ Rb = p δ fun c δ1 => Rb (!c) δ1 := rfl
theorem fAndV_eq : fAndV fa fb δ R = fa δ fun x δ1 => asB x fun c => if c = true then fb δ1 R else R (.val (.bl false)) δ1 := rfl
theorem fOrV_eq : fOrV fa fb δ R = fa δ fun x δ1 => asB x fun c => if c = true then R (.val (.bl true)) δ1 else fb δ1 R := rfl
theorem fNotV_eq : fNotV p δ R = p δ fun c δ1 => R (.val (.bl (!c))) δ1 := rfl
theorem fNotB_eq : fNotB fa δ R = fa δ fun x δ1 => asB x fun c => R (.val (.bl (!c))) δ1 := rfl
theorem fIfE_eq : fIfE p fa fb δ R = p δ fun c δ1 => if c = true then fa δ1 R else fb δ1 R := rfl
theorem fTup_eq : fTup ga δ R = ga δ fun bs δ1 => forceL bs δ1 fun ds δ2 => ds.length ≤ 16000000 ∧ R (.val (.tup ds)) δ2 := rfl
theorem fLst_eq : fLst ga δ R = ga δ fun bs δ1 => forceL bs δ1 fun ds δ2 => ds.length ≤ 16000000 ∧ R (.fresh (.lst ds)) δ2 := rfl
theorem fNil_eq : fNil δ Ra = Ra [] δ := rfl
theorem fCons_eq : fCons fa gr δ Ra = fa δ fun b δ1 => gr δ1 fun bs δ2 => Ra (b :: bs) δ2 := rfl
theorem fSl_eq : fSl fa fl fh δ R = fa δ fun b δ1 => fl δ1 fun lo δ2 => fh δ2 fun hi δ3 => withD δ3 b fun d => gSl d lo hi fun r => R r δ3 := rfl
theorem fNoPart_eq : fNoPart δ Ro = Ro none δ := rfl
def revS (d : D) (k : BV → Prop) : Prop := match d with
  | .lst ds => k (.fresh (.lst ds.reverse))
  | _ => False
theorem revS_l {ds : List D} {k : BV → Prop} : revS (.lst ds) k = k (.fresh (.lst ds.reverse)) := rfl
theorem fRevL_eq : fRevL fa δ R = fa δ fun b δ1 => withD δ1 b fun d => revS d fun v => R v δ1 := rfl
theorem fBlt_eq : fBlt gl ga δ R = ga δ fun bs δ1 => withL δ1 bs fun ds => gl ds fun b => R b δ1 := rfl
theorem fYes_eq : fYes δ Rb = Rb true δ := rfl
theorem fTT_eq : fTT δ Rb = Rb true δ := rfl
end
theorem compD_cons {vs : List Nat} {asg : DAs} {ft : DTT} {fe : DTE} {x : D} {todo acc : List D} {δ : DSt} {R : List D → DSt → Prop} : compD vs asg ft fe (x :: todo) acc δ R = asg x δ fun δ1 => ft δ1 fun b δ2 => if b = true then fe δ2 fun bv δ3 => force bv δ3 fun d δ4 => acc.length < 16000000 ∧ compD vs asg ft fe todo (acc ++ [d]) (wipeD δ4 vs) R else compD vs asg ft fe todo acc (wipeD δ2 vs) R := rfl
theorem compD_nil {vs : List Nat} {asg : DAs} {ft : DTT} {fe : DTE} {acc : List D} {δ : DSt} {R : List D → DSt → Prop} : compD vs asg ft fe [] acc δ R = R acc δ := rfl
theorem gSl_t {xs : List D} {lo hi : Option Int} {R : BV → Prop} : gSl (.tup xs) lo hi R = R (.val (.tup (cutD xs lo hi))) := rfl
theorem gSl_l {xs : List D} {lo hi : Option Int} {R : BV → Prop} : gSl (.lst xs) lo hi R = R (.fresh (.lst (cutD xs lo hi))) := rfl
/-- a comprehension that takes all items -/
theorem comp_all {vs : List Nat} {asg : DAs} {ft : DTT} {fe : DTE} {R : List D → DSt → Prop} {items : List D} {δ0 : DSt} (P : D → Prop)
    (step : ∀ x, x ∈ items → ∀ (acc : List D) (k : List D → DSt → Prop), acc.length < items.length → (∀ d, P d → k (acc ++ [d]) δ0) →
      asg x δ0 fun δ1 => ft δ1 fun b δ2 => if b = true then fe δ2 fun bv δ3 => force bv δ3 fun d δ4 => acc.length < 16000000 ∧ k (acc ++ [d]) (wipeD δ4 vs) else k acc (wipeD δ2 vs))
    (fin : ∀ acc, acc.length = items.length → (∀ d, d ∈ acc → P d) → R acc δ0) : compD vs asg ft fe items [] δ0 R := by
  refine comp_inv (fun done todo acc δ => δ = δ0 ∧ acc.length = done.length ∧ done.length + todo.length = items.length ∧ (∀ x, x ∈ todo → x ∈ items) ∧ ∀ d, d ∈ acc → P d) ?_ ?_ items [] [] δ0 ⟨rfl, rfl, Nat.zero_add _, fun x h => h, fun d h => by cases h⟩
  · intro done x todo acc δ k ⟨h1, h2, h3, h4, h5⟩ hk
    subst h1
    rw [List.length_cons] at h3
    refine step x (h4 x List.mem_cons_self) acc k (by omega) fun d hd => hk _ _ ⟨rfl, ?_, ?_, fun y hy => h4 y (List.mem_cons_of_mem _ hy), fun e he => ?_⟩
    · rw [List.length_append, List.length_append, h2]; rfl
    · rw [List.length_append, List.length_singleton]; omega
    · rcases List.mem_append.mp he with he | he
      · exact h5 e he
      · rcases List.mem_cons.mp he with rfl | he
        · exact hd
        · cases he
  · intro done acc δ ⟨h1, h2, h3, h4, h5⟩
    subst h1
    rw [List.length_nil] at h3
    exact fin acc (by omega) h5
theorem gMinL_2 {x y : Int} {R : BV → Prop} (h : R (.val (.int (if y < x then y else x)))) : gMinL [.lst [.int x, .int y]] R := by
  show 0 < [x, y].length ∧ ∀ m, m ∈ [x, y] → (∀ z, z ∈ [x, y] → m ≤ z) → R (.val (.int m))
  refine ⟨Nat.zero_lt_succ _, fun m h1 h2 => ?_⟩
  have e : m = (if y < x then y else x) := by
    have a1 := h2 x List.mem_cons_self
    have a2 := h2 y (List.mem_cons_of_mem _ List.mem_cons_self)
    rcases List.mem_cons.mp h1 with rfl | h1
    · split <;> omega
    · rcases List.mem_cons.mp h1 with rfl | h1
      · split <;> omega
      · cases h1
  rw [e]; exact h
def strB (b : BV) : Prop := match b with
  | .val (.str _) => True
  | _ => False
theorem strB_v {x : Str} : strB (.val (.str x)) = True := rfl
def joinS (s d : D) (k : D → Prop) : Prop := match s with
  | .str a => match d with
    | .lst ds => match strsD ds with
      | some ys => (ys.map (·.length)).sum + ys.length * a.length ≤ 16000000 ∧ k (.str (Txt.join a ys))
      | none => False
    | _ => False
  | _ => False
theorem fJoin_eq {fo fe : DTE} {δ : DSt} {R : BV → DSt → Prop} : fJoin fo fe δ R = fo δ fun b δ1 => strB b ∧ fe δ1 fun c δ2 => withD δ2 b fun s => withD δ2 c fun d => joinS s d fun r => R (.val r) δ2 := by
  show (fo δ fun b δ1 => _) = _
  congr 1
theorem joinS_of {a : Str} {ds : List D} {ys : List Str} {k : D → Prop} (h : strsD ds = some ys) (h1 : (ys.map (·.length)).sum + ys.length * a.length ≤ 16000000) (h2 : k (.str (Txt.join a ys))) : joinS (.str a) (.lst ds) k := by
  show (match strsD ds with | some ys => _ | none => False)
  rw [h]
  exact ⟨h1, h2⟩
end DL
set_option Elab.async false
set_option linter.all false
set_option maxRecDepth 100000
set_option autoImplicit false
/-! DL, part l: dicts. -/
namespace DL
open PySem PySem.Spec L2
open PyProof.Rows hiding St
/-- in its place, or at the end -/
def putD {κ : Type} [DecidableEq κ] : List (κ × D) → κ → D → List (κ × D)
  | [], k, d => [(k, d)]
  | (k', e) :: r, k, d => if k' = k then (k', d) :: r else (k', e) :: putD r k d
theorem putK_nil {k : Key} {v : V} : putK ([] : List (Key × V)) k v = [(k, v)] := rfl
theorem RepK.keys {K : PySem.W.Frag} {bx : Addr} {H : Hp} : ∀ {vs : List (Key × V)} {ds : List (Key × D)}, RepK K bx H vs ds → vs.map (·.1) = ds.map (·.1)
  | _, _, .nil => rfl
  | _, _, .cons _ t => congrArg (_ :: ·) (RepK.keys t)
theorem RepK.length {K : PySem.W.Frag} {bx : Addr} {H : Hp} : ∀ {vs : List (Key × V)} {ds : List (Key × D)}, RepK K bx H vs ds → vs.length = ds.length
  | _, _, .nil => rfl
  | _, _, .cons _ t => congrArg (· + 1) (RepK.length t)
theorem putK_hit {k : Key} {v : V} {p : Key × V} {r : List (Key × V)} (h : p.1 = k) (hn : ∀ q ∈ r, q.1 ≠ k) : putK (p :: r) k v = (p.1, v) :: r := by
  unfold putK
  rw [if_pos (by rw [List.any_cons, decide_eq_true h]; rfl), List.map_cons, if_pos h]
  congr 1
  have : ∀ q ∈ r, (if q.1 = k then (q.1, v) else q) = q := fun q hq => if_neg (hn q hq)
  exact (List.map_congr_left this).trans (List.map_id' r)
theorem putK_miss {k : Key} {v : V} {p : Key × V} {r : List (Key × V)} (h : p.1 ≠ k) : putK (p :: r) k v = p :: putK r k v := by
  unfold putK
  rw [List.any_cons, decide_eq_false h, Bool.false_or]
  split
  · rw [List.map_cons, if_neg h]
  · rfl
theorem RepK.put {K : PySem.W.Frag} {bx : Addr} {H : Hp} {k : Key} {v : V} {d : D} (r : Rep K bx H v d) : ∀ {vs : List (Key × V)} {ds : List (Key × D)}, RepK K bx H vs ds → (ds.map (·.1)).Nodup → RepK K bx H (putK vs k v) (putD ds k d)
  | _, _, .nil, _ => .cons r .nil
  | _, _, .cons (k := k') (v := v') (vs := vs) (d := d') (ds := ds) rk t, hn => by
    rw [List.map_cons, List.nodup_cons] at hn
    unfold putD
    by_cases h : k' = k
    · rw [if_pos h, putK_hit (p := (k', v')) h]
      · exact .cons r t
      · intro q hq e
        have : q.1 ∈ ds.map (·.1) := by rw [← RepK.keys t]; exact List.mem_map_of_mem hq
        rw [e, ← h] at this
        exact hn.1 this
    · rw [if_neg h, putK_miss (p := (k', v')) h]
      exact .cons rk (RepK.put r t hn.2)
section
variable {X : Cx} {L : Md} {e a b : Expr} {fe fa fb : DTE} {pos : Pos}
/-- y in d -/
def rDIn (n : Bool) : R2 := fun y x H Q => ∃ a o, x = .ref a ∧ DGet H a y o ∧ Q (.bl (if n = true then !o.isSome else o.isSome)) H
theorem op_din (hu : X.A.units + 1 < cLine) : OpR X (compareOp .In) (rDIn false) := by
  intro pins s σ H y x iv u Q I ry rx h
  obtain ⟨a, o, rfl, g, q⟩ := h
  obtain rfl : u = Value.ref a := rx
  exact d_in hu I g ry fun s3 I3 => ⟨.bl o.isSome, H, I3, rfl, q⟩
theorem op_dnin (hu : X.A.units + 1 < cLine) : OpR X (compareOp .NotIn) (rDIn true) := by
  intro pins s σ H y x iv u Q I ry rx h
  obtain ⟨a, o, rfl, g, q⟩ := h
  obtain rfl : u = Value.ref a := rx
  exact d_notIn hu I g ry fun s3 I3 => ⟨.bl (!o.isSome), H, I3, rfl, q⟩
/-- y in a tuple -/
def rInT (K : PySem.W.Frag) (n : Bool) : R2 := fun x y H Q => ∃ d ds, Dp K H x d ∧ Dp K H y (.tuple ds) ∧ SeqAt.shaped d = true ∧ SeqAt.shaped (.tuple ds) = true ∧ Q (.bl (if n = true then !(ds.any fun z => PyData.eqv z d) else ds.any fun z => PyData.eqv z d)) H
theorem op_inT (hu : X.A.units + 65 < cLine) : OpR X (compareOp .In) (rInT X.K false) := by
  intro pins s σ H x y v u Q I rx ry h
  obtain ⟨d, ds, hd, he, sd, se, q⟩ := h
  obtain ⟨as, r1⟩ := Dp.reads I d x v hd rx
  obtain ⟨bs, r2⟩ := Dp.reads I (.tuple ds) y u he ry
  exact SeqAt.in_tuple_reads r2 r1 (SeqAt.canLay_of_shaped se) (SeqAt.canLay_of_shaped sd) (room_in_shaped sd hu) ⟨.bl _, H, I, rfl, q⟩
theorem op_ninT (hu : X.A.units + 65 < cLine) : OpR X (compareOp .NotIn) (rInT X.K true) := by
  intro pins s σ H x y v u Q I rx ry h
  obtain ⟨d, ds, hd, he, sd, se, q⟩ := h
  obtain ⟨as, r1⟩ := Dp.reads I d x v hd rx
  obtain ⟨bs, r2⟩ := Dp.reads I (.tuple ds) y u he ry
  exact SeqAt.notIn_tuple_reads r2 r1 (SeqAt.canLay_of_shaped se) (SeqAt.canLay_of_shaped sd) (room_in_shaped sd hu) ⟨.bl _, H, I, rfl, q⟩
def inL (x : D) (ys : List D) : Bool := (toPys ys).any fun z => PyData.eqv z (toPy x)
def gInN (n : Bool) (x y : D) (R : BV → Prop) : Prop := match y with
  | .dk kvs => match keyD x with
    | some k => R (.val (.bl (if n = true then !(valD kvs k).isSome else (valD kvs k).isSome)))
    | none => False
  | .lst ys => ShD x ∧ ShD (.lst ys) ∧ R (.val (.bl (if n = true then !inL x ys else inL x ys)))
  | .tup ys => ShD x ∧ ShD (.tup ys) ∧ R (.val (.bl (if n = true then !inL x ys else inL x ys)))
  | .ptp ys => ShD x ∧ ShD (.tup ys) ∧ R (.val (.bl (if n = true then !inL x ys else inL x ys)))
  | _ => False
abbrev gIn := gInN false
abbrev gNin := gInN true
theorem RepK.got {K : PySem.W.Frag} {bx : Addr} {H : Hp} {vs : List (Key × V)} {ds : List (Key × D)} (r : RepK K bx H vs ds) (k : Key) : (L2.valV vs k).isSome = (valD ds k).isSome := by
  obtain ⟨h1, h2⟩ := RepK.valV k r
  cases e : valD ds k with
  | none => rw [h2 e]; rfl
  | some d => obtain ⟨v, e1, _⟩ := h1 d e; rw [e1]; rfl
theorem o_in (hu : X.A.units + 64 < cLine) (hu2 : X.A.units + 65 < cLine) : OpR X (compareOp .In) (fun x y H Q => (rInD X.K x y H Q ∨ rDIn false x y H Q) ∨ rInT X.K false x y H Q) ∧ DOp X.K (fun x y H Q => (rInD X.K x y H Q ∨ rDIn false x y H Q) ∨ rInT X.K false x y H Q) gIn := by
  refine ⟨((op_inD hu2).or (op_din (by omega))).or (op_inT hu2), fun E σ H δ x y dx dy R Q I rx ry q k => ?_⟩
  cases ry with
  | lst h r =>
    obtain ⟨q1, q2, q3⟩ := q
    exact .inl (.inl ⟨_, _, (rx.rep (hid_same _ _)).dp q1.lay, ((RootR.lst h r).rep (hid_same _ _)).dp q2.lay, q1, q2, k _ _ (.val _) I (Rep.bl _) q3⟩)
  | tup h r =>
    obtain ⟨q1, q2, q3⟩ := q
    exact .inr ⟨_, _, (rx.rep (hid_same _ _)).dp q1.lay, ((RootR.tup h r).rep (hid_same _ _)).dp q2.lay, q1, q2, k _ _ (.val _) I (Rep.bl _) q3⟩
  | ptp h _ r =>
    obtain ⟨q1, q2, q3⟩ := q
    exact .inr ⟨_, _, (rx.rep (hid_same _ _)).dp q1.lay, ((RootR.tup h r).rep (hid_same _ _)).dp q2.lay, q1, q2, k _ _ (.val _) I (Rep.bl _) q3⟩
  | dk h r =>
    unfold gIn gInN at q
    dsimp only at q
    split at q
    · rename_i kk e
      have ey := keyD_of rx e
      subst ey
      refine .inl (.inr ⟨_, _, rfl, .inl ⟨_, kk, h, rfl, rfl⟩, ?_⟩)
      rw [RepK.got r kk]
      exact k _ _ (.val _) I (Rep.bl _) q
    · exact q.elim
  | _ => exact q.elim
theorem o_nin (hu : X.A.units + 64 < cLine) (hu2 : X.A.units + 65 < cLine) : OpR X (compareOp .NotIn) (fun x y H Q => (rNotInD X.K x y H Q ∨ rDIn true x y H Q) ∨ rInT X.K true x y H Q) ∧ DOp X.K (fun x y H Q => (rNotInD X.K x y H Q ∨ rDIn true x y H Q) ∨ rInT X.K true x y H Q) gNin := by
  refine ⟨((op_notInD hu2).or (op_dnin (by omega))).or (op_ninT hu2), fun E σ H δ x y dx dy R Q I rx ry q k => ?_⟩
  cases ry with
  | lst h r =>
    obtain ⟨q1, q2, q3⟩ := q
    exact .inl (.inl ⟨_, _, (rx.rep (hid_same _ _)).dp q1.lay, ((RootR.lst h r).rep (hid_same _ _)).dp q2.lay, q1, q2, k _ _ (.val _) I (Rep.bl _) q3⟩)
  | tup h r =>
    obtain ⟨q1, q2, q3⟩ := q
    exact .inr ⟨_, _, (rx.rep (hid_same _ _)).dp q1.lay, ((RootR.tup h r).rep (hid_same _ _)).dp q2.lay, q1, q2, k _ _ (.val _) I (Rep.bl _) q3⟩
  | ptp h _ r =>
    obtain ⟨q1, q2, q3⟩ := q
    exact .inr ⟨_, _, (rx.rep (hid_same _ _)).dp q1.lay, ((RootR.tup h r).rep (hid_same _ _)).dp q2.lay, q1, q2, k _ _ (.val _) I (Rep.bl _) q3⟩
  | dk h r =>
    unfold gNin gInN at q
    dsimp only at q
    split at q
    · rename_i kk e
      have ey := keyD_of rx e
      subst ey
      refine .inl (.inr ⟨_, _, rfl, .inl ⟨_, kk, h, rfl, rfl⟩, ?_⟩)
      rw [RepK.got r kk]
      exact k _ _ (.val _) I (Rep.bl _) q
    · exact q.elim
  | _ => exact q.elim
/-- {} -/
def fNewK : DTE := fun δ R => R (.fresh (.dk [])) δ
theorem EnvR.freshK {K : PySem.W.Frag} {E : EC} {σ : St} {H : Hp} {δ : DSt} (I : EnvR K E σ H δ) {p : Addr} {vs : List (Key × V)} {ds : List (Key × D)} (hp : H p = none) (r : RepK K E.bx (HH E σ δ H) vs ds) :
    EnvR K E σ (upd H p (.dK vs)) δ ∧ RepB K E σ (upd H p (.dK vs)) δ (.ref p) (.fresh (.dk ds)) := by
  obtain ⟨s, I2, hn, _⟩ := I.new (o := .dK vs) hp
  obtain ⟨I3, hs⟩ := I.fresh (o := .dK vs) hp
  exact ⟨I2, p, _, rfl, upd_same, hn, I3, .dk upd_same (r.mono hs)⟩
theorem d_newK : DE X L (.Dict [] [] pos) fNewK :=
  ⟨pe_dnewK, fun E σ H δ R Q hl I q k p hp => by
    obtain ⟨I3, r3⟩ := I.freshK hp .nil
    exact k _ _ δ _ I3 r3 q⟩
end
end DL
set_option Elab.async false
set_option linter.all false
set_option maxRecDepth 100000
set_option autoImplicit false
/-! DL, part m: walks over dicts (the dict is locked meanwhile). -/
namespace DL
open PySem PySem.Spec L2
open PyProof.Rows hiding St
/-- what is read is read alike -/
structure RdLe (A B : Hp) : Prop where
  lst : ∀ a vs, A a = some (.lst vs) → B a = some (.lst vs)
  rl : ∀ a vs, Rd A a (.lst vs) → Rd B a (.lst vs)
  rt : ∀ a vs, Rd A a (.tup vs) → Rd B a (.tup vs)
  rz : ∀ a o vs, A a = some (.frz o (.tup vs)) → B a = some (.frz o (.tup vs))
  dk : ∀ a vs, Rd A a (.dK vs) → Rd B a (.dK vs)
  dt : ∀ a vs, Rd A a (.dT vs) → Rd B a (.dT vs)
section
variable {K : PySem.W.Frag} {bx : Addr} {A B : Hp}
theorem RdLe.sqL (e : RdLe A B) {a : Addr} {xs : List V} (h : SqL K A a xs) : SqL K B a xs := h.imp (e.rl a xs) id
theorem RdLe.sqT (e : RdLe A B) {a : Addr} {xs : List V} (h : SqT K A a xs) : SqT K B a xs := h.imp (e.rt a xs) id
theorem RdLe.nod (e : RdLe A B) {a : Addr} (h : NoD K A a) : NoD K B a := by
  rcases h with ⟨o, xs, h, d⟩ | h
  · exact .inl ⟨o, xs, e.rz _ _ _ h, d⟩
  · exact .inr h
mutual
theorem Rep.rdle (e : RdLe A B) : ∀ {d : D} {v : V}, Rep K bx A v d → Rep K bx B v d
  | _, _, .non => .non
  | _, _, .bl b => .bl b
  | _, _, .int i => .int i
  | _, _, .str x => .str x
  | _, _, .tup h r => .tup (e.sqT h) (RepA.rdle e r)
  | _, _, .ptp h z r => .ptp (e.sqT h) (e.nod z) (RepA.rdle e r)
  | _, _, .lst h r => .lst (e.lst _ _ h) (RepA.rdle e r)
  | _, _, .dk h r => .dk (e.dk _ _ h) (RepK.rdle e r)
  | _, _, .dt h r => .dt (e.dt _ _ h) (RepT.rdle e r)
  | _, _, .scr h => .scr (e.sqL h)
  | _, _, .box => .box
theorem RepA.rdle (e : RdLe A B) : ∀ {ds : List D} {vs : List V}, RepA K bx A vs ds → RepA K bx B vs ds
  | _, _, .nil => .nil
  | _, _, .cons h r => .cons (Rep.rdle e h) (RepA.rdle e r)
theorem RepK.rdle (e : RdLe A B) : ∀ {ds : List (Key × D)} {vs : List (Key × V)}, RepK K bx A vs ds → RepK K bx B vs ds
  | _, _, .nil => .nil
  | _, _, .cons h r => .cons (Rep.rdle e h) (RepK.rdle e r)
theorem RepT.rdle (e : RdLe A B) : ∀ {ds : List (List Key × D)} {vs : List (List Key × V)}, RepT K bx A vs ds → RepT K bx B vs ds
  | _, _, .nil => .nil
  | _, _, .cons h r => .cons (Rep.rdle e h) (RepT.rdle e r)
end
theorem OwnR.rdle {H H' : Hp} {a : Addr} {d : D} (e1 : H' a = H a) (e : RdLe A B) (h : OwnR K bx H A a d) : OwnR K bx H' B a d := by
  cases h with
  | lst h r => exact .lst (e1.trans h) (RepA.rdle e r)
  | dk h r => exact .dk (e1.trans h) (RepK.rdle e r)
  | dt h r => exact .dt (e1.trans h) (RepT.rdle e r)
/-- what a lock covers -/
inductive Lkd : HO → Prop
  | dk (kvs : List (Key × V)) : Lkd (.dK kvs)
  | dt (kvs : List (List Key × V)) : Lkd (.dT kvs)
theorem Rd.upd_ne {H : Hp} {d a : Addr} {o u : HO} (h : Rd H a u) (n : a ≠ d) : Rd (upd H d o) a u := by
  rcases h with h | ⟨x, h⟩
  · exact .inl ((L2.upd_ne n).trans h)
  · exact .inr ⟨x, (L2.upd_ne n).trans h⟩
theorem lock_le {d : Addr} {u : HO} {od : Obj} (hu : Lkd u) (h : A d = some u) : RdLe A (upd A d (.frz od u)) := by
  have key : ∀ a w, Lkd w ∨ (∃ x, w = .lst x) ∨ (∃ x, w = .tup x) → Rd A a w → Rd (upd A d (.frz od u)) a w := fun a w hw hr => by
    by_cases e : a = d
    · subst e
      rcases hr with hr | ⟨x, hr⟩
      · rw [h] at hr
        cases hr
        exact .inr ⟨od, upd_same⟩
      · rw [h] at hr
        cases hr
        cases hu
    · exact Rd.upd_ne hr e
  refine ⟨fun a vs ha => ?_, fun a vs => key a _ (.inr (.inl ⟨_, rfl⟩)), fun a vs => key a _ (.inr (.inr ⟨_, rfl⟩)), fun a o vs ha => ?_, fun a vs => key a _ (.inl (.dk _)), fun a vs => key a _ (.inl (.dt _))⟩
  rotate_left
  · by_cases e : a = d
    · subst e
      rw [h] at ha
      cases ha
      cases hu
    · exact (L2.upd_ne e).trans ha
  by_cases e : a = d
  · subst e
    rw [h] at ha
    cases ha
    cases hu
  · exact (L2.upd_ne e).trans ha
theorem unlock_le {d : Addr} {u : HO} {od : Obj} (hu : Lkd u) (h : A d = some (.frz od u)) : RdLe A (upd A d u) := by
  have key : ∀ a w, Lkd w ∨ (∃ x, w = .lst x) ∨ (∃ x, w = .tup x) → Rd A a w → Rd (upd A d u) a w := fun a w hw hr => by
    by_cases e : a = d
    · subst e
      rcases hr with hr | ⟨x, hr⟩
      · rw [h] at hr
        cases hr
        rcases hw with hw | ⟨x, hw⟩ | ⟨x, hw⟩
        · cases hw
        · cases hw
        · cases hw
      · rw [h] at hr
        cases hr
        exact .inl upd_same
    · exact Rd.upd_ne hr e
  refine ⟨fun a vs ha => ?_, fun a vs => key a _ (.inr (.inl ⟨_, rfl⟩)), fun a vs => key a _ (.inr (.inr ⟨_, rfl⟩)), fun a o vs ha => ?_, fun a vs => key a _ (.inl (.dk _)), fun a vs => key a _ (.inl (.dt _))⟩
  rotate_left
  · by_cases e : a = d
    · subst e
      rw [h] at ha
      cases ha
      cases hu
    · exact (L2.upd_ne e).trans ha
  by_cases e : a = d
  · subst e
    rw [h] at ha
    cases ha
  · exact (L2.upd_ne e).trans ha
theorem hid_upd {P : Addr → Prop} {H : Hp} {d : Addr} {o : HO} (n : ¬ P d) : hid P (upd H d o) = upd (hid P H) d o := by
  funext a
  by_cases e : a = d
  · subst e
    rw [upd_same]
    exact hid_some.mpr ⟨n, upd_same⟩
  · rw [L2.upd_ne e]
    unfold hid
    by_cases h : P a
    · rw [if_pos h, if_pos h]
    · rw [if_neg h, if_neg h, L2.upd_ne e]
end
section
variable {K : PySem.W.Frag} {E : EC} {σ : St} {H H' : Hp} {δ : DSt}
theorem EnvR.relock {H1 : Hp} (I : EnvR K E σ H δ) (h1 : ∀ a, hidP E σ δ a → H' a = H a) (h2 : RdLe (HH E σ δ H) (HH E σ δ H')) (h3 : Same H1 (HH E σ δ H')) : EnvR K { E with H0 := H1 } σ H' δ := by
  refine ⟨I.len, fun i d h => ?_, fun i d h => ?_, I.dis, h3, fun a o h => (h1 a (.inr (.inl ⟨o, h⟩))).trans (I.tmp a o h), I.bxT, ?_⟩
  · obtain ⟨v, e, r⟩ := I.val i d h
    exact ⟨v, e, Rep.rdle h2 r⟩
  · obtain ⟨a, e, r, q⟩ := I.own i d h
    exact ⟨a, e, OwnR.rdle (h1 a (.inr (.inr ⟨i, d, h, e⟩))) h2 r, q⟩
  · have hb := I.box
    have hx : E.md.live = true → H' E.bx = H E.bx := fun z => h1 E.bx (.inl ⟨z, rfl⟩)
    show LvOk K E.md E.bx σ (HH E σ δ H') H'
    cases hm : E.md with
    | plain => trivial
    | box =>
      rw [hm] at hb hx
      obtain ⟨dg, t, digs, q1, q2, q3⟩ := hb
      exact ⟨dg, t, digs, (hx rfl).trans q1, q2, h2.sqL q3⟩
    | ob o =>
      rw [hm] at hb hx
      obtain ⟨dx, fs, q1, q2⟩ := hb
      exact ⟨dx, fs, (hx rfl).trans q1, q2⟩
theorem EnvR.lock {d : Addr} {u : HO} {od : Obj} (I : EnvR K E σ H δ) (hu : Lkd u) (h : HH E σ δ H d = some u) : EnvR K { E with H0 := HH E σ δ (upd H d (.frz od u)) } σ (upd H d (.frz od u)) δ := by
  obtain ⟨n, h'⟩ := hid_some.mp h
  refine I.relock (fun a ha => L2.upd_ne fun e => n (e ▸ ha)) ?_ (Same.refl _)
  show RdLe (hid (hidP E σ δ) H) (hid (hidP E σ δ) (upd H d (.frz od u)))
  rw [hid_upd n]
  exact lock_le hu h
/-- what the locked heap keeps, the unlocked one keeps -/
theorem same_unlock {P P' : Addr → Prop} {G Hx : Hp} {d : Addr} {u : HO} {od : Obj} {H0 : Hp} (hb : Same H0 (hid P G)) (hd : hid P G d = some u) (s : Same (hid P (upd G d (.frz od u))) (hid P' Hx)) :
    ¬ P' d ∧ Hx d = some (.frz od u) ∧ Same H0 (hid P' (upd Hx d u)) := by
  obtain ⟨n, _⟩ := hid_some.mp hd
  have hx : hid P' Hx d = some (.frz od u) := s d _ (by rw [hid_upd n]; exact upd_same)
  obtain ⟨n', hx'⟩ := hid_some.mp hx
  refine ⟨n', hx', fun a o ha => ?_⟩
  rw [hid_upd n']
  have h1 := hb a o ha
  by_cases e : a = d
  · subst e
    rw [hd] at h1
    cases h1
    exact upd_same
  · rw [L2.upd_ne e]
    refine s a o ?_
    rw [hid_upd n, L2.upd_ne e]
    exact h1
theorem EnvR.unlock {d : Addr} {u : HO} {od : Obj} {σ' : St} {δ' : DSt} (I : EnvR K E σ H δ) (hu : Lkd u) (h : HH E σ δ H d = some u) (J : EnvR K { E with H0 := HH E σ δ (upd H d (.frz od u)) } σ' H' δ') :
    H' d = some (.frz od u) ∧ EnvR K E σ' (upd H' d u) δ' := by
  obtain ⟨n, h1, h2⟩ := same_unlock I.base h J.base
  refine ⟨h1, J.relock (H1 := E.H0) (fun a ha => L2.upd_ne fun e => n (e ▸ ha)) ?_ h2⟩
  have n' : ¬ hidP E σ' δ' d := n
  show RdLe (hid (hidP E σ' δ') H') (hid (hidP E σ' δ') (upd H' d u))
  rw [hid_upd n']
  exact unlock_le hu (hid_some.mpr ⟨n, h1⟩)
theorem Fin.unlock {d : Addr} {u : HO} {od : Obj} (I : EnvR K E σ H δ) (hu : Lkd u) (h : HH E σ δ H d = some u) (F : Fin K { E with H0 := HH E σ δ (upd H d (.frz od u)) } H') :
    H' d = some (.frz od u) ∧ Fin K E (upd H' d u) ∧ RdLe (hid (hidE E) H') (hid (hidE E) (upd H' d u)) := by
  obtain ⟨n, h1, h2⟩ := same_unlock I.base h F.base
  have le : RdLe (hid (hidE E) H') (hid (hidE E) (upd H' d u)) := by
    have n' : ¬ hidE E d := n
    rw [hid_upd n']
    exact unlock_le hu (hid_some.mpr ⟨n', h1⟩)
  refine ⟨h1, ⟨h2, fun a o ha => ?_, fun z => ?_⟩, le⟩
  · have ne : a ≠ d := fun e => n (.inr ⟨o, e ▸ ha⟩)
    exact (L2.upd_ne ne).trans (F.tmp a o ha)
  · obtain ⟨dg, t, digs, q1, q2, q3⟩ := F.box z
    have ne : E.bx ≠ d := fun e => n (.inl ⟨by show E.md.live = true; rw [show E.md = .box from z]; rfl, e.symm⟩)
    exact ⟨dg, t, digs, (L2.upd_ne ne).trans q1, q2, le.sqL q3⟩
theorem EndsOk.lock {d : Addr} {u : HO} {od : Obj} {Dn : Ends} {Df : DEnds} (I : EnvR K E σ H δ) (hu : Lkd u) (h : HH E σ δ H d = some u) (ok : EndsOk K E Dn Df) :
    EndsOk K { E with H0 := HH E σ δ (upd H d (.frz od u)) } ⟨fun σ' H' => H' d = some (.frz od u) ∧ Dn.nx σ' (upd H' d u), fun v H' => H' d = some (.frz od u) ∧ Dn.rt v (upd H' d u), fun σ' H' => H' d = some (.frz od u) ∧ Dn.bk σ' (upd H' d u), fun σ' H' => H' d = some (.frz od u) ∧ Dn.ct σ' (upd H' d u)⟩ Df where
  nx := fun σ2 H2 δ2 J q => by
    obtain ⟨e, J'⟩ := I.unlock hu h J
    exact ⟨e, ok.nx _ _ _ J' q⟩
  rt := fun hm H2 v dd F r q => by
    obtain ⟨e, F', le⟩ := Fin.unlock I hu h F
    exact ⟨e, ok.rt hm _ _ _ F' (Rep.rdle le r) q⟩
  ro := fun hm σ2 H2 δ2 v dd J r q => by
    obtain ⟨n, e1, h2⟩ := same_unlock I.base h J.base
    obtain ⟨e, J'⟩ := I.unlock hu h J
    have n' : ¬ hidP E σ2 δ2 d := n
    have le : RdLe (HH E σ2 δ2 H2) (HH E σ2 δ2 (upd H2 d u)) := by
      show RdLe (hid (hidP E σ2 δ2) H2) (hid (hidP E σ2 δ2) (upd H2 d u))
      rw [hid_upd n']
      exact unlock_le hu (hid_some.mpr ⟨n', e1⟩)
    exact ⟨e, ok.ro hm _ _ _ _ _ J' (Rep.rdle le r) q⟩
  bk := fun σ2 H2 δ2 J q => by
    obtain ⟨e, J'⟩ := I.unlock hu h J
    exact ⟨e, ok.bk _ _ _ J' q⟩
  ct := fun σ2 H2 δ2 J q => by
    obtain ⟨e, J'⟩ := I.unlock hu h J
    exact ⟨e, ok.ct _ _ _ J' q⟩
end
end DL
set_option Elab.async false
set_option linter.all false
set_option maxRecDepth 100000
set_option autoImplicit false
/-! DL, part n: for over dicts, comprehensions over dicts. -/
namespace DL
open PySem PySem.Spec L2
open PyProof.Rows hiding St
def keyOf : Key → D
  | .inl i => .int i
  | .inr x => .str x
theorem rep_key {K : PySem.W.Frag} {bx : Addr} {H : Hp} : ∀ k : Key, Rep K bx H (kV k) (keyOf k)
  | .inl i => .int i
  | .inr x => .str x
theorem RepK.get {K : PySem.W.Frag} {bx : Addr} {H : Hp} : ∀ {vs : List (Key × V)} {ds : List (Key × D)} {i : Nat} {k : Key} {d : D}, RepK K bx H vs ds → ds[i]? = some (k, d) → ∃ v, vs[i]? = some (k, v) ∧ Rep K bx H v d
  | _, _, _, _, _, .nil, e => by simp at e
  | _, _, 0, _, _, .cons h _, e => by simp at e; obtain ⟨rfl, rfl⟩ := e; exact ⟨_, rfl, h⟩
  | _, _, i + 1, k, d, .cons _ r, e => by
    obtain ⟨v, h1, h2⟩ := RepK.get (i := i) (k := k) (d := d) r (by simpa using e)
    exact ⟨v, by simpa using h1, h2⟩
def gKeys (kvs : List (Key × D)) : List D := kvs.map fun p => keyOf p.1
def gVals (kvs : List (Key × D)) : List D := kvs.map fun p => p.2
def gItems (kvs : List (Key × D)) : List D := kvs.map fun p => .tup [keyOf p.1, p.2]
section
variable {K : PySem.W.Frag} {bx : Addr} {B : Hp} {d : Addr} {od : Obj} {vs : List (Key × V)} {ds : List (Key × D)}
theorem map_at {α β : Type} {f : α → β} {xs : List α} {i : Nat} {y : β} (h : (xs.map f)[i]? = some y) : ∃ x, xs[i]? = some x ∧ y = f x := by
  rw [List.getElem?_map] at h
  cases e : xs[i]? with
  | none => rw [e] at h; cases h
  | some x => rw [e] at h; cases h; exact ⟨x, rfl, rfl⟩
theorem lt_at {α : Type} {xs : List α} {i : Nat} {x : α} (h : xs[i]? = some x) : i < xs.length := (List.getElem?_eq_some_iff.mp h).1
theorem yields_k (h : B d = some (.frz od (.dK vs))) (r : RepK K bx B vs ds) : Yields K bx (Itk d od vs) (gKeys ds) B := fun P Hc hs hp => by
  have hq : Hc d = some (.frz od (.dK vs)) := (hid_some.mp (hs _ _ h)).2
  refine ⟨fun i y hi => ?_, hq, by rw [gKeys, List.length_map, r.length]; exact Nat.le_refl _⟩
  obtain ⟨⟨k, e⟩, e1, rfl⟩ := map_at hi
  obtain ⟨v, e2, r2⟩ := r.get e1
  refine ⟨⟨hq, lt_at e2⟩, fun x H' ⟨eH, k', v', e3, ex⟩ => ?_⟩
  rw [e2] at e3
  cases e3
  subst eH ex
  exact ⟨Same.refl _, rep_key k⟩
theorem yields_v (h : B d = some (.frz od (.dK vs))) (r : RepK K bx B vs ds) : Yields K bx (Itd d od vs) (gVals ds) B := fun P Hc hs hp => by
  have hq : Hc d = some (.frz od (.dK vs)) := (hid_some.mp (hs _ _ h)).2
  refine ⟨fun i y hi => ?_, hq, by rw [gVals, List.length_map, r.length]; exact Nat.le_refl _⟩
  obtain ⟨⟨k, e⟩, e1, rfl⟩ := map_at hi
  obtain ⟨v, e2, r2⟩ := r.get e1
  refine ⟨⟨hq, lt_at e2⟩, fun x H' ⟨eH, k', e3⟩ => ?_⟩
  rw [e2] at e3
  cases e3
  subst eH
  exact ⟨Same.refl _, r2.mono hs⟩
theorem yields_i (h : B d = some (.frz od (.dK vs))) (r : RepK K bx B vs ds) : Yields K bx (Iti d od vs) (gItems ds) B := fun P Hc hs hp => by
  have hq : Hc d = some (.frz od (.dK vs)) := (hid_some.mp (hs _ _ h)).2
  refine ⟨fun i y hi => ?_, hq, by rw [gItems, List.length_map, r.length]; exact Nat.le_refl _⟩
  obtain ⟨⟨k, e⟩, e1, rfl⟩ := map_at hi
  obtain ⟨v, e2, r2⟩ := r.get e1
  refine ⟨⟨hq, lt_at e2⟩, fun x H' ⟨T, k', v', e3, ex, hT, eH⟩ => ?_⟩
  rw [e2] at e3
  cases e3
  subst eH ex
  have s1 : Same Hc (upd Hc T (.tup [kV k, v])) := fun c x e => by rw [L2.upd_ne (ne_of_none e hT)]; exact e
  have nP : ¬ P T := fun z => by
    obtain ⟨o, e⟩ := hp T z
    rw [hT] at e
    cases e
  have s2 : Same (hid P Hc) (hid P (upd Hc T (.tup [kV k, v]))) := hid_mono (fun _ z => z) fun a o _ q => s1 a o q
  exact ⟨s1, .tup (.inl (.inl (hid_some.mpr ⟨nP, upd_same⟩))) (.cons (rep_key k) (.cons ((r2.mono hs).mono s2) .nil))⟩
end
/-- what is walked, while the dict in slot i is locked -/
inductive DIL (X : Cx) (tg iter : Expr) (i : Nat) (g : List (Key × D) → List D) : Prop
  | mk {wi : TI} (pi : PI X tg iter wi) (sim : ∀ (E : EC) (σ : St) (H : Hp) (δ : DSt) (Q : It → Hp → Prop) (d : Addr) (od : Obj) (vs : List (Key × V)) (kvs : List (Key × D)), EnvR X.K E σ H δ → σ[i]? = some (some (.ref d)) →
      HH E σ δ H d = some (.frz od (.dK vs)) → RepK X.K E.bx (HH E σ δ H) vs kvs → (∀ J, Yields X.K E.bx J (g kvs) (HH E σ δ H) → Q J H) → wi σ H Q)
section
variable {X : Cx} {L : Md} {tg e : Expr} {pos npos apos cpos tpos : Pos} {x : Str} {i kk : Nat} {elts : List Expr}
theorem il_keys (hN : X.N[i]? = some x := by rfl) (hv : Vis X.env.scope x := by first | exact Or.inl rfl | exact Or.inr (Or.inl rfl) | exact Or.inr (Or.inr rfl)) (hd : (x == ("__debug__" : Str)) = false := by decide) (hcd : (x == ("__classdict__" : Str)) = false := by decide) : DIL X tg (.Name x npos) i gKeys :=
  ⟨pi_keys (pe_var hN hv hd hcd), fun E σ H δ Q d od vs kvs I hs h r k => ⟨_, hs, d, od, rfl, .inl ⟨vs, (hid_some.mp h).2, k _ (yields_k h r)⟩⟩⟩
theorem il_vals (hN : X.N[i]? = some x := by rfl) (hv : Vis X.env.scope x := by first | exact Or.inl rfl | exact Or.inr (Or.inl rfl) | exact Or.inr (Or.inr rfl)) (hd : (x == ("__debug__" : Str)) = false := by decide) (hcd : (x == ("__classdict__" : Str)) = false := by decide)
    (hbase : attributeBase (.Name x npos) "values" X.env (eval (.Name x npos) X.env) = eval (.Name x npos) X.env := by rfl) (hline : (apos.endLine == cpos.line) = true := by rfl) : DIL X tg (.Call (.Attribute (.Name x npos) "values" apos) [] [] cpos) i gVals :=
  ⟨pi_values (pe_var hN hv hd hcd) hbase hline, fun E σ H δ Q d od vs kvs I hs h r k => ⟨_, hs, d, od, vs, rfl, (hid_some.mp h).2, k _ (yields_v h r)⟩⟩
theorem il_items (hN : X.N[i]? = some x := by rfl) (hv : Vis X.env.scope x := by first | exact Or.inl rfl | exact Or.inr (Or.inl rfl) | exact Or.inr (Or.inr rfl)) (hd : (x == ("__debug__" : Str)) = false := by decide) (hcd : (x == ("__classdict__" : Str)) = false := by decide)
    (hbase : attributeBase (.Name x npos) "items" X.env (eval (.Name x npos) X.env) = eval (.Name x npos) X.env := by rfl) (hline : (apos.endLine == cpos.line) = true := by rfl) : DIL X (.Tuple elts kk tpos) (.Call (.Attribute (.Name x npos) "items" apos) [] [] cpos) i gItems :=
  ⟨pi_items (pe_var hN hv hd hcd) hbase hline, fun E σ H δ Q d od vs kvs I hs h r k => ⟨_, hs, d, od, vs, rfl, (hid_some.mp h).2, k _ (yields_i h r)⟩⟩
end
/-- the dict in a slot, from here on not changed -/
def frK (i : Nat) (δ : DSt) (k : List (Key × D) → DSt → Prop) : Prop := match look δ i with
  | .val (.dk kvs) => k kvs δ
  | .own (.dk kvs) => k kvs (δ.set i (.val (.dk kvs)))
  | _ => False
theorem frK_sound {K : PySem.W.Frag} {E : EC} {σ : St} {H : Hp} {δ : DSt} {i : Nat} {k : List (Key × D) → DSt → Prop} (I : EnvR K E σ H δ) (h : frK i δ k) :
    ∃ (kvs : List (Key × D)) (δ1 : DSt) (d : Addr) (vs : List (Key × V)), EnvR K E σ H δ1 ∧ σ[i]? = some (some (.ref d)) ∧ Rd (HH E σ δ1 H) d (.dK vs) ∧ RepK K E.bx (HH E σ δ1 H) vs kvs ∧ k kvs δ1 := by
  unfold frK at h
  split at h
  · rename_i kvs e
    obtain ⟨v, h1, h2⟩ := I.val i _ (look_val e)
    cases h2 with
    | dk h2 r => exact ⟨kvs, δ, _, _, I, h1, h2, r, h⟩
  · rename_i kvs e
    obtain ⟨a, h1, _⟩ := I.own i _ (look_own e)
    obtain ⟨I', r'⟩ := I.freeze (look_own e) h1
    cases r' with
    | dk h2 r => exact ⟨kvs, _, _, _, I', h1, h2, r, h⟩
  · exact h.elim
def tOr (t u : TS) : TS := fun D σ H => t D σ H ∨ u D σ H
theorem ps_or {X : Cx} {st : Stmt} {t u : TS} (h : PS X st t) (h' : PS X st u) : PS X st (tOr t u) := ⟨fun pins s σ H D I w => w.elim (h.run pins s σ H D I) (h'.run pins s σ H D I)⟩
def tOrE (t u : TE) : TE := fun σ H Q => t σ H Q ∨ u σ H Q
theorem pe_or {X : Cx} {e : Expr} {t u : TE} (h : PE X e t) (h' : PE X e u) : PE X e (tOrE t u) := ⟨fun pins s σ H Q I w => w.elim (h.run pins s σ H Q I) (h'.run pins s σ H Q I)⟩
/-- for .. in a dict -/
def fForL (i : Nat) (g : List (Key × D) → List D) (asg : DAs) (f : DTS) : DTS := fun Df δ => frK i δ fun kvs δ1 => forD asg f Df (g kvs) δ1
/-- a comprehension over a dict -/
def fCompL (vs : List Nat) (i : Nat) (g : List (Key × D) → List D) (asg : DAs) (ft : DTT) (fe : DTE) : DTE := fun δ R => frK i δ fun kvs δ1 => okW δ1 vs ∧ compD vs asg ft fe (g kvs) [] (wipeD δ1 vs) fun ds δ2 => R (.fresh (.lst ds)) (backD δ1 δ2 vs)
section
variable {X : Cx} {L : Md} {tg iter : Expr} {i : Nat} {g : List (Key × D) → List D} {asg : DAs} {ft : List Nat} {bb : List Stmt} {f : DTS} {pos : Pos}
theorem s_forL (hp : PassesOwn (model X.prog X.w) X.A X.env X.xe) (hc : X.calm = true) (hi : DIL X tg iter i g) (hg : DG X L tg ft asg) (hb : DSs X L bb f)
    (hs : ∀ x, foldedSetIterable iter X.env x = pure x := by intro _; rfl) : DS X L (.For tg iter bb [] pos) (fForL i g asg f) := by
  obtain ⟨pi, sim⟩ := hi
  refine ⟨ps_or (ps_for hp hc pi hg.pg hb.pss hs) (ps_lock (ps_for hp hc pi hg.pg hb.pss hs)), fun E σ H δ Dn Df hl I q ok => ?_⟩
  obtain ⟨kvs, δ1, d, vs, I1, hs1, h2, r, q⟩ := frK_sound I q
  rcases h2 with h2 | ⟨od, h2⟩
  · refine .inr ⟨d, .dK vs, (hid_some.mp h2).2, trivial, fun od => ?_⟩
    have I2 := I1.lock (od := od) (.dk vs) h2
    have n : ¬ hidP E σ δ1 d := (hid_some.mp h2).1
    have le : RdLe (HH E σ δ1 H) (HH E σ δ1 (upd H d (.frz od (.dK vs)))) := by
      show RdLe (hid (hidP E σ δ1) H) (hid (hidP E σ δ1) (upd H d (.frz od (.dK vs))))
      rw [hid_upd n]
      exact lock_le (.dk vs) h2
    exact sim { E with H0 := HH E σ δ1 (upd H d (.frz od (.dK vs))) } σ _ δ1 _ d od vs kvs I2 hs1 (hid_some.mpr ⟨n, upd_same⟩) (RepK.rdle le r) fun J Y => for_at (E := { E with H0 := HH E σ δ1 (upd H d (.frz od (.dK vs))) }) hg.sim hb.sim hl I2 Y q (EndsOk.lock I1 (.dk vs) h2 ok)
  · exact .inl (sim E σ H δ1 _ d od vs kvs I1 hs1 h2 r fun J Y => for_at hg.sim hb.sim hl I1 Y q ok)
end
theorem RepB.relock {K : PySem.W.Frag} {E E' : EC} {σ : St} {H H' : Hp} {δ : DSt} {v : V} {b : BV} {d : Addr} {u o' : HO} (hE : E' = { E with H0 := E'.H0 }) (r : RepB K E' σ H δ v b)
    (hb : E'.H0 d = some o') (hH : H' = upd H d u) (le : ∀ (T : Hp), ¬ hidP { E with T := T } σ δ d → EnvR K { E' with T := T } σ H δ → RdLe (HH { E with T := T } σ δ H) (HH { E with T := T } σ δ H') ∧ Same E.H0 (HH { E with T := T } σ δ H'))
    (I : EnvR K E' σ H δ) : RepB K E σ H' δ v b := by
  have eb : E'.bx = E.bx := by rw [hE]
  have el : E'.md = E.md := by rw [hE]
  have eT : E'.T = E.T := by rw [hE]
  have hP : ∀ T a, hidP { E' with T := T } σ δ a ↔ hidP { E with T := T } σ δ a := fun T a => by
    unfold hidP EC.live
    rw [el, eb]
  have fP : ∀ T, hidP { E' with T := T } σ δ = hidP { E with T := T } σ δ := fun T => funext fun a => propext (hP T a)
  have fP0 : hidP E' σ δ = hidP E σ δ := by
    have := fP E.T
    rw [← eT] at this
    exact this.trans (by rw [eT])
  have nd : ∀ T, EnvR K { E' with T := T } σ H δ → ¬ hidP { E with T := T } σ δ d := fun T J z => by
    have := (hid_some.mp (J.base d o' hb)).1
    exact this ((hP T d).mpr z)
  cases b with
  | slot i => exact r
  | val dd =>
    have n := nd E.T (by rw [← eT]; exact I)
    have l := (le E.T n (by rw [← eT]; exact I)).1
    have r' : Rep K E'.bx (hid (hidP E' σ δ) H) v dd := r
    rw [fP0, eb] at r'
    exact Rep.rdle l r'
  | fresh dd =>
    obtain ⟨a, o, ev, ha, hn, J, rO⟩ := r
    rw [eT] at J rO
    have n := nd _ J
    obtain ⟨l, sm⟩ := le _ n J
    have ne : a ≠ d := fun e => n (.inr (.inl ⟨o, by rw [e]; exact upd_same⟩))
    refine ⟨a, o, ev, by rw [hH, L2.upd_ne ne]; exact ha, by rw [← fP0]; exact hn, ?_, ?_⟩
    · have J' : EnvR K { E with T := upd E.T a o, H0 := E'.H0 } σ H δ := by
        have : ({ E' with T := upd E.T a o } : EC) = { E with T := upd E.T a o, H0 := E'.H0 } := by rw [hE]
        rw [this] at J
        exact J
      exact J'.relock (H1 := E.H0) (fun b hb' => by rw [hH]; exact L2.upd_ne fun e => n (e ▸ hb')) l sm
    · have rO' : OwnR K E'.bx H (hid (hidP { E' with T := upd E.T a o } σ δ) H) a dd := rO
      rw [fP, eb] at rO'
      exact OwnR.rdle (by rw [hH]; exact L2.upd_ne ne) l rO'
section
variable {X : Cx} {L : Md} {tg iter elt : Expr} {i : Nat} {g : List (Key × D) → List D} {asg : DAs} {ft : List Nat} {pos : Pos} {ifs : List Expr} {scope : Scope} {own : List (Str × Nat)} {fT : DTT} {fe : DTE}
theorem d_lcL {vs : List Nat} (s : Shared) (H : Hp) (hc : X.calm = true) (hN : X.N.Nodup) (ok : BlkOk X.N X.env.scope scope own) (hi : DIL X tg iter i g)
    (hg : ∀ (s : Shared) (H : Hp) (C : Addr) (cl : List (Str × Addr)) (fp : List Addr), DG (X.blk s H scope (compEnvC scope cl C X.env) fp) L tg ft asg)
    (ht : ∀ (s : Shared) (H : Hp) (C : Addr) (cl : List (Str × Addr)) (fp : List Addr), DTs (X.blk s H scope (compEnvC scope cl C X.env) fp) L ifs fT)
    (he : ∀ (s : Shared) (H : Hp) (C : Addr) (cl : List (Str × Addr)) (fp : List Addr), DE (X.blk s H scope (compEnvC scope cl C X.env) fp) L elt fe)
    (hv : own.map (·.2) = vs := by rfl) (hok : (own.map (·.2)).all L.ok = true := by rfl) (hf : (ft.all fun j => (own.map (·.2)).contains j) = true := by rfl) (hs : ∀ x, foldedSetIterable iter X.env x = pure x := by intro _; rfl) : DE X L (.ListComp elt [⟨tg, iter, ifs, 0⟩] scope pos) (fCompL vs i g asg fT fe) := by
  subst hv
  obtain ⟨pi, sim⟩ := hi
  have p1 : PE X (.ListComp elt [⟨tg, iter, ifs, 0⟩] scope pos) _ := pe_lc (te := teC X.K L fe) (tt := ttC X.K L fT) (g := tgC X.K L ft asg) hc hN pi ok (fun s H C cl fp => (hg s H C cl fp).pg) (fun s H C cl fp => (ht s H C cl fp).pts) (fun s H C cl fp => (he s H C cl fp).pe) hs
  refine ⟨pe_or p1 (pe_lock p1), fun E σ H1 δ R Q hl I q k => ?_⟩
  obtain ⟨kvs, δ1, d, vs, I1, hs1, h2, r, q⟩ := frK_sound I q
  have hfm : ∀ j ∈ ft, j ∈ own.map (·.2) := fun j hj => by simpa using List.all_eq_true.mp hf j hj
  rcases h2 with h2 | ⟨od, h2⟩
  · refine .inr ⟨d, .dK vs, (hid_some.mp h2).2, trivial, fun od => ?_⟩
    have I2 := I1.lock (od := od) (.dk vs) h2
    have n : ¬ hidP E σ δ1 d := (hid_some.mp h2).1
    have hE0 : HH E σ δ1 (upd H1 d (.frz od (.dK vs))) d = some (.frz od (.dK vs)) := hid_some.mpr ⟨n, upd_same⟩
    have le : RdLe (HH E σ δ1 H1) (HH E σ δ1 (upd H1 d (.frz od (.dK vs)))) := by
      show RdLe (hid (hidP E σ δ1) H1) (hid (hidP E σ δ1) (upd H1 d (.frz od (.dK vs))))
      rw [hid_upd n]
      exact lock_le (.dk vs) h2
    refine sim { E with H0 := HH E σ δ1 (upd H1 d (.frz od (.dK vs))) } σ _ δ1 _ d od vs kvs I2 hs1 hE0 (RepK.rdle le r) fun J Y => comp_at (E := { E with H0 := HH E σ δ1 (upd H1 d (.frz od (.dK vs))) }) (Q := fun v H' => H' d = some (.frz od (.dK vs)) ∧ Q v (upd H' d (.dK vs))) (hg s H 0 [] []).sim hok hfm (ht s H 0 [] []).sim (he s H 0 [] []).sim hl I2 Y q ?_
    intro v H' δ' b I3 r3 q3
    obtain ⟨e, I4⟩ := I1.unlock (.dk vs) h2 I3
    refine ⟨e, k v _ δ' b I4 (RepB.relock (E := E) rfl r3 hE0 rfl (fun T nT J3 => ?_) I3) q3⟩
    have sm := same_unlock I1.base h2 J3.base
    refine ⟨?_, sm.2.2⟩
    show RdLe (hid (hidP { E with T := T } σ δ') H') (hid (hidP { E with T := T } σ δ') (upd H' d (.dK vs)))
    rw [hid_upd nT]
    exact unlock_le (.dk vs) (hid_some.mpr ⟨nT, e⟩)
  · exact .inl (sim E σ H1 δ1 _ d od vs kvs I1 hs1 h2 r fun J Y => comp_at (hg s H 0 [] []).sim hok hfm (ht s H 0 [] []).sim (he s H 0 [] []).sim hl I1 Y q k)
end
end DL
set_option Elab.async false
set_option linter.all false
set_option maxRecDepth 100000
set_option autoImplicit false
/-! DL, part o: sorted, dict(), get, put, in of tuples. -/
namespace DL
open PySem PySem.Spec L2
open PyProof.Rows hiding St
/-! ### sorted of a list or a tuple -/
section
variable {prog : Program} {w : World} {A : Around} {E : Value → Shared → Prop} {s : Shared}
/-- what collect leaves -/
abbrev colH (h : Heap) (vs : List Value) : Heap := (h.push (seqObj "list" #[] 0)).update h.objs.size (Obj.mapSeq (· ++ vs.toArray))
theorem collect_tup {l : Addr} {vs : List Value} {Q : List Value → Shared → Prop} (ht : IsTup s.heap l vs.toArray) (hz : vs.length ≤ sizeLine) (h : Q vs { s with heap := colH s.heap vs }) : wpAny (model prog w) A (collect (.ref l)) Q E s := by
  obtain ⟨o, ho, hc, n, hd⟩ := ht
  have ho2 : (s.heap.push (seqObj "list" #[] 0)).get? l = some o := Heap.get?_push_of_some _ ho
  have e1 : (Value.type "tuple" == Value.type "tuple") = true := by rfl
  unfold collect
  refine wpAny_bind (wpAny_runValue (codeAny_builtin entry_proto_collect' ?_)); show wpAny _ _ (do again (.builtin "list.__iadd__" ⟨[← newList [], .ref l], []⟩)) _ _ s
  refine wpAny_bind (wpAny_newList (wpAny_pure ⟨Code.quiet_builtin _ (by decide +kernel), codeAny_builtin entry_list_iadd' ?_⟩)); show wpAny _ _ (Builtin.List.listExtendWith (.ref s.heap.objs.size) (.ref l) (.ref s.heap.objs.size)) _ _ { s with heap := s.heap.push (seqObj "list" #[] 0) }
  unfold Builtin.List.listExtendWith; refine wpAny_bind (wpAny_typeOf (T := "tuple") ⟨o, ho2, hc⟩ ?_); rw [if_pos (by rw [e1]; simp)]
  refine wpAny_bind (listItems_at ho2 hd ?_); refine wpAny_bind (listItems_at (xs := #[]) (n := 0) (Heap.get?_push_size _ rfl) rfl ?_); rw [if_neg (by simp)]
  refine wpAny_bind (listUpdate_at (xs := #[]) (n := 0) (Heap.get?_push_size _ rfl) rfl ?_ (Nat.zero_le _) (by show (#[] ++ vs.toArray).size ≤ sizeLine + 1; simp only [Array.size_append, List.size_toArray, List.length_nil]; omega)); refine wpAny_pure ?_
  show wpAny (model prog w) A (do
      let o ← load s.heap.objs.size; match o.data with
      | .seq xs _ => pure xs.toList
      | _ => unsupported "internal:collect") Q E { s with heap := colH s.heap vs }
  refine wpAny_bind (wpAny_load (get?_update_seq (Heap.get?_push_size _ rfl) _) ?_); show wpAny _ _ (pure ((#[] : Array Value) ++ vs.toArray).toList) Q E _; rw [show ((#[] : Array Value) ++ vs.toArray).toList = vs by simp]; exact wpAny_pure h
/-- sorted of what collect gives -/
theorem sorted_col {x : Value} {vs : List Value} {ltv : Value → Value → Bool} {Q : Value → Shared → Prop} (O : SrtO.Swo ltv) (hz : vs.length ≤ sizeLine)
    (hcol : ∀ (B : Around) (R : List Value → Shared → Prop) (F : Value → Shared → Prop), R vs { s with heap := colH s.heap vs } → wpAny (model prog w) B (collect x) R F s)
    (hS : 2 ≤ vs.length → ∀ (B : Around) (h₁ : Heap) (a : Addr), h₁.get? a = some (seqObj "list" vs.toArray 0) → (∀ b o, s.heap.get? b = some o → b ≠ a ∧ h₁.get? b = some o) → SrtO.SortableO prog w B { s with heap := h₁ } a vs ltv)
    (h : ∀ out : List Value, SrtO.Srtd ltv out → SrtO.Stb ltv out vs → Q (.ref (s.heap.objs.size + 1)) { s with heap := sortedAll s.heap vs out.toArray }) :
    wpAny (model prog w) A (call (.builtin "sorted") [x]) Q E s := by
  refine Calls.call_function_entry kind_sorted plain_sorted entry_sorted (args_sorted1 _) ?_; unfold Builtin.«sorted»
  refine wpAny_bind (m := checkCount "sorted" 1 1 _) (wpAny_pure ?_); refine wpAny_bind (hcol _ _ _ ?_); refine wpAny_bind (wpAny_newList ?_ hz)
  have hsz : (colH s.heap vs).objs.size = s.heap.objs.size + 1 := by rw [Heap.size_update, size_push']
  have hoL : ((colH s.heap vs).push (seqObj "list" vs.toArray 0)).get? (s.heap.objs.size + 1) = some (seqObj "list" vs.toArray 0) := by rw [← hsz]; exact Heap.get?_push_size _ rfl
  have keep : ∀ b o, s.heap.get? b = some o → b ≠ s.heap.objs.size + 1 ∧ ((colH s.heap vs).push (seqObj "list" vs.toArray 0)).get? b = some o := fun b o q => by
    have hlt : b < s.heap.objs.size := Heap.lt_size q
    exact ⟨Nat.ne_of_lt (Nat.lt_succ_of_lt hlt), Heap.get?_push_of_some _ ((Heap.get?_update_ne _ _ _ _ (Nat.ne_of_lt hlt)).trans (Heap.get?_push_of_some _ q))⟩
  show wpAny _ _ _ _ _ { s with heap := (colH s.heap vs).push (seqObj "list" vs.toArray 0) }; rw [hsz]
  refine wpAny_bind (wpAny_holding (wpAny_call_entry slot_list_sort ⟨_, hoL, rfl⟩ entry_list_sort (SrtO.list_sort_ord O hoL hz (fun h2 => hS h2 _ _ _ hoL keep) fun out hs hb => ⟨_, rfl, ?_⟩) (args_list_sort _))); exact wpAny_pure ⟨_, rfl, h out hs hb⟩
end
/-! ### sorted of pairs of ints -/
def lexLe (p q : Int × Int) : Prop := p.1 < q.1 ∨ (p.1 = q.1 ∧ p.2 ≤ q.2)
def PrI (K : PySem.W.Frag) (H : Hp) (x : V) (p : Int × Int) : Prop := ∃ t, x = V.ref t ∧ SqT K H t [.int p.1, .int p.2]
def rSortP (K : PySem.W.Frag) : List V → Hp → VK → Prop := fun vs H Q => ∃ (a : Addr) (xs : List V) (ps : List (Int × Int)), vs = [V.ref a] ∧ (SqL K H a xs ∨ SqT K H a xs) ∧ Paired (PrI K H) xs ps ∧
  ∀ (zs : List (V × (Int × Int))) (p : Addr), zs.Perm (xs.zip ps) → (zs.map (·.2)).Pairwise lexLe → H p = none → Q (.ref p) (upd H p (.lst (zs.map (·.1))))
theorem isPair_inj {h : Heap} {v : Value} {x y x' y' : Int} (p : Srt.IsPair h v x y) (q : Srt.IsPair h v x' y') : (x, y) = (x', y') := by
  obtain ⟨a, o, t, u, n, e, ho, hc, hd⟩ := p
  obtain ⟨a', o', t', u', n', e', ho', hc', hd'⟩ := q
  rw [e] at e'
  cases e'
  rw [ho] at ho'
  cases ho'
  rw [hd] at hd'
  cases hd'
  rfl
section
variable {X : Cx}
open Classical in
/-- the pair of ints that a value is -/
noncomputable def pairAt (h : Heap) (u : Value) : Int × Int := if e : ∃ p : Int × Int, Srt.IsPair h u p.1 p.2 then choose e else (0, 0)
theorem pairAt_of {h : Heap} {u : Value} {p : Int × Int} (e : Srt.IsPair h u p.1 p.2) : pairAt h u = p := by
  have ex : ∃ p : Int × Int, Srt.IsPair h u p.1 p.2 := ⟨p, e⟩
  unfold pairAt
  rw [dif_pos ex]
  have := Classical.choose_spec ex
  have k := isPair_inj this e
  exact k
theorem lexB_le {p q : Int × Int} (h : SrtO.lexB q p = false) : lexLe p q := by
  have := SrtO.lexB_no.mp h
  unfold lexLe
  omega
theorem cr_sortP : CallR X (.builtin "sorted") (rSortP X.K) := by
  intro pins s σ H vs us Q I r h
  obtain ⟨a, xs, ps, rfl, hs, hp, q⟩ := h
  obtain ⟨u, rfl, ru⟩ := vals1 r
  obtain rfl : u = Value.ref a := ru
  have key : ∃ its : List Value, Vals xs its ∧ its.length ≤ sizeLine ∧ (∀ (B : Around) (R : List Value → Shared → Prop) (F : Value → Shared → Prop), R its { s with heap := colH s.heap its } → wpAny (model X.prog X.w) B (collect (.ref a)) R F s) := by
    rcases hs with hs | hs
    · obtain ⟨its, rv, hl, hz⟩ := I.list hs
      have hz' : its.length ≤ sizeLine := by rw [← rv.length]; exact hz
      exact ⟨its, rv, hz', fun B R F h => collect_list hl.isList h hz'⟩
    · obtain ⟨its, rv, hl, hz⟩ := I.tuple hs
      have hz' : its.length ≤ sizeLine := by rw [← rv.length]; exact hz
      exact ⟨its, rv, hz', fun B R F h => collect_tup hl hz' h⟩
  obtain ⟨its, rv, hz, hcol⟩ := key
  -- each value is its pair
  have pr : ∀ {xs : List V} {its : List Value} {ps : List (Int × Int)}, Vals xs its → Paired (PrI X.K H) xs ps → (∀ u ∈ its, ∃ p : Int × Int, Srt.IsPair s.heap u p.1 p.2) ∧ (∀ u ∈ its, ∃ b, u = Value.ref b) ∧ its.map (fun u => (backV u, pairAt s.heap u)) = xs.zip ps := by
    intro xs its ps rv hp
    induction rv generalizing ps with
    | nil => exact ⟨fun u hu => (by cases hu), fun u hu => (by cases hu), by cases hp; rfl⟩
    | cons r t ih =>
      match ps, hp with
      | pq :: ps', .cons hx hp =>
        obtain ⟨i1, i2, i3⟩ := ih hp
        obtain ⟨b, rfl, hq⟩ := hx
        cases r
        obtain ⟨its2, r2, ⟨o, ho, hc, n, hd⟩, _⟩ := I.tuple hq
        obtain ⟨u1, u2, rfl, ⟨t1, rfl⟩, ⟨t2, rfl⟩⟩ : ∃ u1 u2, its2 = [u1, u2] ∧ RelV (.int pq.1) u1 ∧ RelV (.int pq.2) u2 := by
          cases r2 with
          | cons k1 r2 => cases r2 with
            | cons k2 r2 => cases r2; exact ⟨_, _, rfl, k1, k2⟩
        have ip : Srt.IsPair s.heap (.ref b) pq.1 pq.2 := ⟨b, o, t1, t2, n, rfl, ho, hc, by simpa using hd⟩
        refine ⟨fun u hu => ?_, fun u hu => ?_, ?_⟩
        · rcases List.mem_cons.mp hu with rfl | hu
          · exact ⟨_, ip⟩
          · exact i1 u hu
        · rcases List.mem_cons.mp hu with rfl | hu
          · exact ⟨_, rfl⟩
          · exact i2 u hu
        · rw [List.map_cons, List.zip_cons_cons, i3, pairAt_of ip]
          rfl
  obtain ⟨h1, h2, h3⟩ := pr rv hp
  refine sorted_col (ltv := fun v u => SrtO.lexB (pairAt s.heap v) (pairAt s.heap u)) (SrtO.swo_lex _) hz hcol (fun hlen B h₁ b hb kk => ?_) fun out hs1 hb1 => ?_
  · refine SrtO.pairs_sortableO (s := { s with heap := h₁ }) (by omega) (fun v hm => ?_) fun o e => ?_
    · obtain ⟨p, ip⟩ := h1 v hm
      rw [pairAt_of ip]
      exact ip.keeps fun b o e _ => (kk b o e).2
    · have e' : some o = some (seqObj "list" its.toArray 0) := e.symm.trans hb
      cases e'
      exact fun c => absurd (Value.type.inj c) (by decide)
  · have hm : ∀ u ∈ out, ∃ b, u = Value.ref b := fun u hu => h2 u (hb1.perm.mem_iff.mp hu)
    obtain ⟨n, hn⟩ := sortedAll_at s.heap its out.toArray
    have e1 : (out.map fun u => (backV u, pairAt s.heap u)).map (·.1) = out.map backV := by rw [List.map_map]; rfl
    have e2 : (out.map fun u => (backV u, pairAt s.heap u)).map (·.2) = out.map (pairAt s.heap) := by rw [List.map_map]; rfl
    refine ⟨.ref _, upd H (s.heap.objs.size + 1) (.lst (out.map backV)), I.laid (t' := s.toks) (fun _ _ => sortedAll_old) (Nat.le_succ _) ⟨by rw [List.length_map, hb1.len]; exact hz, out, n, vals_back hm, hn⟩, rfl, ?_⟩
    have := q (out.map fun u => (backV u, pairAt s.heap u)) (s.heap.objs.size + 1) (by rw [← h3]; exact hb1.perm.map _) ?_ (I.hok.fresh (Nat.le_succ _))
    · rw [e1] at this
      exact this
    · rw [e2, List.pairwise_map]
      exact hs1.imp fun h => lexB_le h
end
end DL
set_option Elab.async false
set_option linter.all false
set_option maxRecDepth 100000
set_option autoImplicit false
/-! DL, part p: sorted, dict(), as data. -/
namespace DL
open PySem PySem.Spec L2
open PyProof.Rows hiding St
theorem u65 {k : Nat} {A : Around} (r : Room k A) : A.units + 65 < cLine := by have := r.un; omega
def prD (p : Int × Int) : D := .tup [.int p.1, .int p.2]
def pairsD : List D → Option (List (Int × Int))
  | [] => some []
  | .tup [.int x, .int y] :: r => (pairsD r).map ((x, y) :: ·)
  | _ => none
theorem pairsD_map : ∀ ps : List (Int × Int), pairsD (ps.map prD) = some ps
  | [] => rfl
  | p :: ps => by
    show (pairsD (ps.map prD)).map (p :: ·) = _
    rw [pairsD_map ps]; rfl
theorem pairsD_eq : ∀ {ds : List D} {ps : List (Int × Int)}, pairsD ds = some ps → ds = ps.map prD
  | [], ps, e => by cases e; rfl
  | d :: r, ps, e => by
    unfold pairsD at e
    split at e
    · rename_i h; cases h
    · rename_i x y r' h
      cases h
      cases e2 : pairsD r with
      | none => rw [e2] at e; cases e
      | some qs =>
        rw [e2] at e
        cases e
        rw [pairsD_eq e2]
        rfl
    · cases e
section
variable {K : PySem.W.Frag} {bx : Addr} {H Hh : Hp}
theorem RepA.pairs (e : Same Hh H) : ∀ {ps : List (Int × Int)} {vs : List V}, RepA K bx Hh vs (ps.map prD) → Paired (PrI K H) vs ps ∧ ∀ z ∈ vs.zip ps, Rep K bx Hh z.1 (prD z.2)
  | [], _, .nil => ⟨.nil, fun z hz => by cases hz⟩
  | p :: ps, _, .cons r t => by
    obtain ⟨h1, h2⟩ := RepA.pairs e t
    refine ⟨.cons ?_ h1, fun z hz => ?_⟩
    · cases r with
      | tup h rr => cases rr with
        | cons k1 rr => cases rr with
          | cons k2 rr =>
            cases rr
            cases k1
            cases k2
            exact ⟨_, rfl, Same.sqT e h⟩
    · rcases List.mem_cons.mp hz with rfl | hz
      · exact r
      · exact h2 z hz
theorem RepA.ofZip : ∀ {zs : List (V × (Int × Int))}, (∀ z ∈ zs, Rep K bx H z.1 (prD z.2)) → RepA K bx H (zs.map (·.1)) ((zs.map (·.2)).map prD)
  | [], _ => .nil
  | z :: zs, h => .cons (h z List.mem_cons_self) (RepA.ofZip fun y hy => h y (List.mem_cons_of_mem _ hy))
end
def gSortD (ds : List D) (R : BV → Prop) : Prop := (∃ ps, pairsD ds = some ps ∧ ∀ qs : List (Int × Int), qs.Perm ps → qs.Pairwise lexLe → R (.fresh (.lst (qs.map prD))))
def gSorted : List D → (BV → Prop) → Prop
  | [.lst ds], R => gSortD ds R ∨ ∃ ns, intsD ds = some ns ∧ ∀ ns' : List Int, ns'.Perm ns → ns'.Pairwise (· ≤ ·) → R (.fresh (.lst (ns'.map .int)))
  | [.tup ds], R => gSortD ds R
  | _, _ => False
section
variable {X : Cx}
theorem zip_snd {α β : Type} : ∀ {xs : List α} {ys : List β}, xs.length = ys.length → (xs.zip ys).map (·.2) = ys
  | [], [], _ => rfl
  | _ :: xs, _ :: ys, h => congrArg (_ :: ·) (zip_snd (Nat.succ.inj h))
theorem paired_len {α β : Type} {F : α → β → Prop} : ∀ {xs : List α} {ys : List β}, Paired F xs ys → xs.length = ys.length
  | _, _, .nil => rfl
  | _, _, .cons _ t => congrArg (· + 1) (paired_len t)
theorem sortD_ok {K : PySem.W.Frag} {E : EC} {σ : St} {H : Hp} {δ : DSt} {R : BV → Prop} {Q : VK} {a : Addr} {vs : List V} {ds : List D} (I : EnvR K E σ H δ) (hs : SqL K H a vs ∨ SqT K H a vs) (r : RepA K E.bx (HH E σ δ H) vs ds) (q : gSortD ds R)
    (k : ∀ v H' b, EnvR K E σ H' δ → RepB K E σ H' δ v b → R b → Q v H') : rSortP K [.ref a] H Q := by
  obtain ⟨ps, e, q⟩ := q
  have := pairsD_eq e
  subst this
  obtain ⟨h1, h2⟩ := r.pairs (hid_same _ _)
  refine ⟨a, vs, ps, rfl, hs, h1, fun zs p hz hp hn => ?_⟩
  have hz2 := hz.map (·.2)
  rw [zip_snd (paired_len h1)] at hz2
  obtain ⟨I2, r2⟩ := I.freshL hn (RepA.ofZip (zs := zs) fun z m => h2 z (hz.mem_iff.mp m))
  exact k _ _ _ I2 r2 (q _ hz2 hp)
theorem c_sorted : CallR X (.builtin "sorted") (fun vs H Q => rSortP X.K vs H Q ∨ rSortedI X.K vs H Q) ∧ DCl X.K (fun vs H Q => rSortP X.K vs H Q ∨ rSortedI X.K vs H Q) gSorted := by
  refine ⟨cr_sortP.or cr_sortedI, fun E σ H δ vs ds R Q I r q k => ?_⟩
  cases r with
  | nil => exact q.elim
  | cons r rr => cases rr with
    | nil => cases r with
      | lst h r =>
        rcases q with q | ⟨ns, e, q⟩
        · exact .inl (sortD_ok I (.inl (.inl (.inl h))) r q k)
        · rw [r.intsD e] at h
          refine .inr ⟨_, ns, rfl, .inl (.inl h), fun ns' p h1 h2 hn => ?_⟩
          obtain ⟨I2, r2⟩ := I.freshL hn (RepA.ofInts ns')
          exact k _ _ _ I2 r2 (q ns' h1 h2)
      | tup h r => exact .inl (sortD_ok I (.inr (Same.sqT (hid_same _ _) h)) r q k)
      | _ => exact q.elim
    | cons _ _ => cases r <;> exact q.elim
/-! ### dict() of a list of pairs -/
def mergeD (ds : List (Key × D)) : List (Key × D) := ds.foldl (fun acc kv => putD acc kv.1 kv.2) []
def entsD : List D → Option (List (Key × D))
  | [] => some []
  | .tup [k, d] :: r => match keyD k with
    | some kk => (entsD r).map ((kk, d) :: ·)
    | none => none
  | _ => none
def gDict : List D → (BV → Prop) → Prop
  | [.lst ds], R => match entsD ds with
    | some kvs => R (.fresh (.dk (mergeD kvs)))
    | none => False
  | _, _ => False
theorem putD_keys {κ : Type} [DecidableEq κ] {k : κ} {d : D} : ∀ {ds : List (κ × D)} {x : κ}, x ∈ (putD ds k d).map (·.1) → x = k ∨ x ∈ ds.map (·.1)
  | [], x, h => by
    rcases List.mem_cons.mp h with h | h
    · exact .inl h
    · cases h
  | (k', e) :: r, x, h => by
    unfold putD at h
    split at h
    · exact .inr h
    · rcases List.mem_cons.mp h with h | h
      · exact .inr (List.mem_cons.mpr (.inl h))
      · rcases putD_keys h with h | h
        · exact .inl h
        · exact .inr (List.mem_cons_of_mem _ h)
theorem putD_nodup {κ : Type} [DecidableEq κ] {k : κ} {d : D} : ∀ {ds : List (κ × D)}, (ds.map (·.1)).Nodup → ((putD ds k d).map (·.1)).Nodup
  | [], _ => List.nodup_cons.mpr ⟨fun h => (by cases h), List.nodup_nil⟩
  | (k', e) :: r, h => by
    have h := List.nodup_cons.mp h
    unfold putD
    split
    · exact List.nodup_cons.mpr h
    · next hk =>
      refine List.nodup_cons.mpr ⟨fun hm => ?_, putD_nodup h.2⟩
      rcases putD_keys hm with e | e
      · exact hk e
      · exact h.1 e
theorem RepK.merge {K : PySem.W.Frag} {bx : Addr} {H : Hp} : ∀ {vs : List (Key × V)} {ds : List (Key × D)}, RepK K bx H vs ds → ∀ {us : List (Key × V)} {es : List (Key × D)}, RepK K bx H us es → (es.map (·.1)).Nodup →
    RepK K bx H (vs.foldl (fun acc kv => putK acc kv.1 kv.2) us) (ds.foldl (fun acc kv => putD acc kv.1 kv.2) es)
  | _, _, .nil, _, _, r, _ => r
  | _, _, .cons h t, _, _, r, hn => RepK.merge t (RepK.put h r hn) (putD_nodup hn)
theorem RepA.ents {K : PySem.W.Frag} {bx : Addr} {H Hh : Hp} (e : Same Hh H) : ∀ {ds : List D} {vs : List V} {kvs : List (Key × D)}, RepA K bx Hh vs ds → entsD ds = some kvs →
    ∃ (ps : List Addr) (ks : List (Key × V)), vs = ps.map V.ref ∧ Paired (fun p kv => SqT K H p [kV kv.1, kv.2]) ps ks ∧ RepK K bx Hh ks kvs
  | [], _, _, .nil, h => by cases h; exact ⟨[], [], rfl, .nil, .nil⟩
  | d :: r, _, kvs, .cons rd t, h => by
    unfold entsD at h
    split at h
    · rename_i h1; cases h1
    · rename_i kd dd r' h1
      cases h1
      split at h
      · rename_i kk ek
        cases e2 : entsD r with
        | none => rw [e2] at h; cases h
        | some rest =>
          rw [e2] at h
          cases h
          obtain ⟨ps, ks, h2, h3, h4⟩ := RepA.ents e t e2
          cases rd with
          | tup hq rr => cases rr with
            | cons k1 rr => cases rr with
              | cons k2 rr =>
                cases rr
                have ev := keyD_of (Rep.root (Same.refl _) k1) ek
                subst ev
                exact ⟨_ :: ps, (kk, _) :: ks, by rw [h2]; rfl, .cons (Same.sqT e hq) h3, .cons k2 h4⟩
      · cases h
    · cases h
theorem c_dict (hc : X.calm = true) : CallR X (.type "dict") (fun xs H Q => ∃ (a : Addr) (ps : List Addr) (kvs : List (Key × V)), xs = [.ref a] ∧ SqL X.K H a (ps.map V.ref) ∧ Paired (fun p kv => SqT X.K H p [kV kv.1, kv.2]) ps kvs ∧
    ∀ p, H p = none → Q (.ref p) (upd H p (.dK (mergeK [] kvs)))) ∧ DCl X.K (fun xs H Q => ∃ (a : Addr) (ps : List Addr) (kvs : List (Key × V)), xs = [.ref a] ∧ SqL X.K H a (ps.map V.ref) ∧ Paired (fun p kv => SqT X.K H p [kV kv.1, kv.2]) ps kvs ∧
    ∀ p, H p = none → Q (.ref p) (upd H p (.dK (mergeK [] kvs)))) gDict := by
  refine ⟨call_dictP hc, fun E σ H δ vs ds R Q I r q k => ?_⟩
  cases r with
  | nil => exact q.elim
  | cons r rr => cases rr with
    | nil => cases r with
      | lst h r =>
        unfold gDict at q
        dsimp only at q
        split at q
        · rename_i kvs e
          obtain ⟨ps, ks, rfl, h3, h4⟩ := RepA.ents (hid_same _ _) r e
          refine ⟨_, ps, ks, rfl, .inl (.inl h), h3, fun p hp => ?_⟩
          obtain ⟨I2, r2⟩ := I.freshK hp (RepK.merge h4 .nil List.nodup_nil)
          exact k _ _ _ I2 r2 q
        · exact q.elim
      | _ => exact q.elim
    | cons _ _ => cases r <;> exact q.elim
end
end DL
set_option Elab.async false
set_option linter.all false
set_option maxRecDepth 100000
set_option autoImplicit false
/-! DL, part q: more data readings evaluated. -/
namespace DL
open L2
/-- a comprehension without a test: each item becomes one -/
theorem comp_map {vs : List Nat} {asg : DAs} {ft : DTT} {fe : DTE} {R : List D → DSt → Prop} {items : List D} {δ0 : DSt} (g : D → D) (hlen : items.length ≤ 16000000)
    (step : ∀ x, x ∈ items → ∀ (acc : List D) (k : List D → DSt → Prop), acc.length < 16000000 → k (acc ++ [g x]) δ0 →
      asg x δ0 fun δ1 => ft δ1 fun b δ2 => if b = true then fe δ2 fun bv δ3 => force bv δ3 fun d δ4 => acc.length < 16000000 ∧ k (acc ++ [d]) (wipeD δ4 vs) else k acc (wipeD δ2 vs))
    (fin : R (items.map g) δ0) : compD vs asg ft fe items [] δ0 R := by
  refine comp_inv (fun done todo acc δ => δ = δ0 ∧ acc = done.map g ∧ done ++ todo = items) ?_ ?_ items [] [] δ0 ⟨rfl, rfl, rfl⟩
  · intro done x todo acc δ k ⟨h1, h2, h3⟩ hk
    subst h1
    have hx : x ∈ items := by rw [← h3]; exact List.mem_append_right _ List.mem_cons_self
    have hl : acc.length < 16000000 := by
      have : items.length = done.length + (todo.length + 1) := by rw [← h3, List.length_append, List.length_cons]
      rw [h2, List.length_map]
      omega
    refine step x hx acc k hl (hk _ _ ⟨rfl, ?_, ?_⟩)
    · rw [h2, List.map_append]; rfl
    · rw [← h3, List.append_assoc]; rfl
  · intro done acc δ ⟨h1, h2, h3⟩
    subst h1 h2
    rw [List.append_nil] at h3
    rw [h3]
    exact fin
/-- with a test: those items that pass become one -/
theorem comp_sel {vs : List Nat} {asg : DAs} {ft : DTT} {fe : DTE} {R : List D → DSt → Prop} {items : List D} {δ0 : DSt} (p : D → Bool) (g : D → D) (hlen : items.length ≤ 16000000)
    (step : ∀ x, x ∈ items → ∀ (acc : List D) (k : List D → DSt → Prop), acc.length < 16000000 → k (if p x = true then acc ++ [g x] else acc) δ0 →
      asg x δ0 fun δ1 => ft δ1 fun b δ2 => if b = true then fe δ2 fun bv δ3 => force bv δ3 fun d δ4 => acc.length < 16000000 ∧ k (acc ++ [d]) (wipeD δ4 vs) else k acc (wipeD δ2 vs))
    (fin : R ((items.filter p).map g) δ0) : compD vs asg ft fe items [] δ0 R := by
  refine comp_inv (fun done todo acc δ => δ = δ0 ∧ acc = (done.filter p).map g ∧ done ++ todo = items) ?_ ?_ items [] [] δ0 ⟨rfl, rfl, rfl⟩
  · intro done x todo acc δ k ⟨h1, h2, h3⟩ hk
    subst h1
    have hx : x ∈ items := by rw [← h3]; exact List.mem_append_right _ List.mem_cons_self
    have hl : acc.length < 16000000 := by
      have : items.length = done.length + (todo.length + 1) := by rw [← h3, List.length_append, List.length_cons]
      have := List.length_filter_le p done
      rw [h2, List.length_map]
      omega
    refine step x hx acc k hl (hk _ _ ⟨rfl, ?_, ?_⟩)
    · rw [List.filter_append, List.map_append, ← h2]
      cases h : p x
      · rw [if_neg Bool.false_ne_true, List.filter_cons_of_neg (by rw [h]; exact Bool.false_ne_true)]
        show acc = acc ++ []
        rw [List.append_nil]
      · rw [if_pos rfl, List.filter_cons_of_pos h]
        rfl
    · rw [← h3, List.append_assoc]; rfl
  · intro done acc δ ⟨h1, h2, h3⟩
    subst h1 h2
    rw [List.append_nil] at h3
    rw [h3]
    exact fin
theorem gSum_of {ns : List Int} {R : BV → Prop} (h : R (.val (.int ns.sum))) : gSum [.lst (ns.map .int)] R := by
  show (match intsD (ns.map .int) with | some ns => _ | none => False)
  rw [intsD_map]
  exact h
theorem gMinL_of {ns : List Int} {R : BV → Prop} (h0 : ns ≠ []) (h : ∀ m, m ∈ ns → (∀ y, y ∈ ns → m ≤ y) → R (.val (.int m))) : gMinL [.lst (ns.map .int)] R := by
  show (match intsD (ns.map .int) with | some ns => _ | none => False)
  rw [intsD_map]
  exact ⟨List.length_pos_iff.mpr h0, h⟩
theorem gSortP_t {ps : List (Int × Int)} {R : BV → Prop} (h : ∀ qs : List (Int × Int), qs.Perm ps → qs.Pairwise lexLe → R (.fresh (.lst (qs.map prD)))) : gSorted [.tup (ps.map prD)] R := ⟨ps, pairsD_map ps, h⟩
theorem gSortP_l {ps : List (Int × Int)} {R : BV → Prop} (h : ∀ qs : List (Int × Int), qs.Perm ps → qs.Pairwise lexLe → R (.fresh (.lst (qs.map prD)))) : gSorted [.lst (ps.map prD)] R := .inl ⟨ps, pairsD_map ps, h⟩
theorem gSortI_l {ns : List Int} {R : BV → Prop} (h : ∀ ns' : List Int, ns'.Perm ns → ns'.Pairwise (· ≤ ·) → R (.fresh (.lst (ns'.map .int)))) : gSorted [.lst (ns.map .int)] R := .inr ⟨ns, intsD_map ns, h⟩
theorem gDict_of {ds : List D} {kvs : List (Key × D)} {R : BV → Prop} (e : entsD ds = some kvs) (hn : (kvs.map (·.1)).Nodup) (h : R (.fresh (.dk kvs))) : gDict [.lst ds] R := by
  show (match entsD ds with | some kvs => R (.fresh (.dk (mergeD kvs))) | none => False)
  rw [e]
  have key : ∀ (l acc : List (Key × D)), ((acc ++ l).map (·.1)).Nodup → l.foldl (fun acc kv => putD acc kv.1 kv.2) acc = acc ++ l := by
    intro l
    induction l with
    | nil => intro acc _; rw [List.append_nil]; rfl
    | cons p r ih =>
      intro acc ha
      have pe : ∀ {acc : List (Key × D)}, p.1 ∉ acc.map (·.1) → putD acc p.1 p.2 = acc ++ [p] := by
        intro acc
        induction acc with
        | nil => intro _; rfl
        | cons q t iq =>
          intro hq
          unfold putD
          rw [if_neg (fun e => hq (List.mem_cons.mpr (.inl e.symm))), iq fun e => hq (List.mem_cons_of_mem _ e)]
          rfl
      have hp : p.1 ∉ acc.map (·.1) := fun hm => by
        rw [List.map_append, List.nodup_append] at ha
        exact ha.2.2 _ hm _ List.mem_cons_self rfl
      rw [List.foldl_cons, pe hp, ih _ (by rw [List.append_assoc]; exact ha), List.append_assoc]
      rfl
  have : mergeD kvs = kvs := by
    unfold mergeD
    rw [key kvs [] (by rw [List.nil_append]; exact hn)]
    rfl
  show R (.fresh (.dk (mergeD kvs)))
  rw [this]
  exact h
def frS (s : Sl) (i : Nat) (δ : DSt) (k : List (Key × D) → DSt → Prop) : Prop := match s with
  | .val (.dk kvs) => k kvs δ
  | .own (.dk kvs) => k kvs (δ.set i (.val (.dk kvs)))
  | _ => False
theorem frK_eq {i : Nat} {δ : DSt} {k : List (Key × D) → DSt → Prop} : frK i δ k = frS (look δ i) i δ k := by
  unfold frK frS
  rfl
theorem frS_v {kvs : List (Key × D)} {i : Nat} {δ : DSt} {k : List (Key × D) → DSt → Prop} : frS (.val (.dk kvs)) i δ k = k kvs δ := rfl
theorem frS_o {kvs : List (Key × D)} {i : Nat} {δ : DSt} {k : List (Key × D) → DSt → Prop} : frS (.own (.dk kvs)) i δ k = k kvs (δ.set i (.val (.dk kvs))) := rfl
theorem fCompL_eq {vs : List Nat} {i : Nat} {g : List (Key × D) → List D} {asg : DAs} {ft : DTT} {fe : DTE} {δ : DSt} {R : BV → DSt → Prop} : fCompL vs i g asg ft fe δ R = frK i δ fun kvs δ1 => okW δ1 vs ∧ compD vs asg ft fe (g kvs) [] (wipeD δ1 vs) fun ds δ2 => R (.fresh (.lst ds)) (backD δ1 δ2 vs) := rfl
theorem fForL_i {i : Nat} {g : List (Key × D) → List D} {asg : DAs} {f : DTS} {Df : DEnds} {δ : DSt} (q : frK i δ fun kvs δ1 => forD asg f Df (g kvs) δ1) : fForL i g asg f Df δ := q
def keyS (o : Option Key) (k : Key → Prop) : Prop := match o with
  | some x => k x
  | none => False
theorem keyS_s {x : Key} {k : Key → Prop} : keyS (some x) k = k x := rfl
theorem keyD_i {i : Int} : keyD (.int i) = some (.inl i) := rfl
theorem keyD_s {x : PySem.Str} : keyD (.str x) = some (.inr x) := rfl
theorem gIx_k {kvs : List (Key × D)} {x : D} {R : BV → Prop} : gIx (.dk kvs) x R = keyS (keyD x) fun k => ixS (valD kvs k) R := by
  show (match keyD x with | some k => (match valD kvs k with | some d => R (.val d) | none => False) | none => False) = _
  cases keyD x with
  | none => rfl
  | some k => show (match valD kvs k with | some d => R (.val d) | none => False) = ixS (valD kvs k) R; cases valD kvs k <;> rfl
theorem gIn_k {kvs : List (Key × D)} {x : D} {R : BV → Prop} : gIn x (.dk kvs) R = keyS (keyD x) fun k => R (.val (.bl (valD kvs k).isSome)) := by
  show (match keyD x with | some k => _ | none => False) = _
  cases keyD x <;> rfl
theorem gNin_k {kvs : List (Key × D)} {x : D} {R : BV → Prop} : gNin x (.dk kvs) R = keyS (keyD x) fun k => R (.val (.bl (!(valD kvs k).isSome))) := by
  show (match keyD x with | some k => _ | none => False) = _
  cases keyD x <;> rfl
end DL
set_option Elab.async false
set_option linter.all false
set_option maxRecDepth 100000
set_option autoImplicit false
/-! DL, part s: enumerate, zip, reversed, of lists and tuples. -/
namespace DL
open PySem PySem.Spec L2
open PyProof.Rows hiding St
/-! ### a list (true) or a tuple (false) -/
def SqK (k : Bool) (K : PySem.W.Frag) (H : Hp) (a : Addr) (xs : List V) : Prop := if k = true then SqL K H a xs else SqT K H a xs
def ArrK (k : Bool) (h : Heap) (a : Addr) (items : Array Value) : Prop := if k = true then h.IsList a items else h.IsTuple a items
def IterK (k : Bool) (h : Heap) (it a : Addr) (i : Nat) : Prop := if k = true then h.IsListIter it a i else h.IsTupleIter it a i
def itObj (k : Bool) (a : Addr) : Obj := { cls := .type (if k = true then "list_iterator" else "tuple_iterator"), data := .fields #[.ref a, .int 0 0] }
section
variable {k : Bool} {K : PySem.W.Frag} {H H' : Hp} {a : Addr} {xs : List V}
theorem SqK.mono (e : Same H H') (h : SqK k K H a xs) : SqK k K H' a xs := by
  cases k with
  | true => exact e.seq h
  | false => exact Same.sqT e h
theorem begins_k (k : Bool) (a : Addr) (items : Array Value) : Begins (.ref a) (itObj k a) fun h => ArrK k h a items := by
  cases k with
  | true => exact begins_list a items
  | false => exact begins_tuple a items
theorem Draws.kind {prog : Program} {w : World} {A : Around} (k : Bool) (hh : A.handled = none) (it a : Addr) (hne : a ≠ it) (items : Array Value) :
    Draws prog w A it [it, a] items.size (fun i v => items[i]? = some v) (fun i h => IterK k h it a i ∧ ArrK k h a items) := by
  cases k with
  | true => exact Draws.list hh it a hne items
  | false => exact Draws.tuple hh it a hne items
theorem IterK.obj {h : Heap} {it : Addr} {i : Nat} (q : IterK k h it a i) : ∃ o, h.get? it = some o ∧ ∃ fs, o.data = .fields fs := by
  cases k with
  | true => obtain ⟨o, ho, hc, hd⟩ := q; exact ⟨o, ho, _, hd⟩
  | false => obtain ⟨o, ho, hc, hd⟩ := q; exact ⟨o, ho, _, hd⟩
theorem IterK.at {h h' : Heap} {it : Addr} {i : Nat} (q : IterK k h it a i) (e : ∀ o, h.get? it = some o → h'.get? it = some o) : IterK k h' it a i := by
  cases k with
  | true => exact Heap.IsListIter.at q e
  | false => exact Heap.IsTupleIter.at q e
theorem IterK.begin {h : Heap} {it : Addr} (q : h.get? it = some (itObj k a)) : IterK k h it a 0 := by
  cases k with
  | true => exact ⟨_, q, rfl, rfl⟩
  | false => exact ⟨_, q, rfl, rfl⟩
theorem IterK.lt {h : Heap} {it : Addr} {i : Nat} (q : IterK k h it a i) : it < h.objs.size := by
  obtain ⟨o, ho, _⟩ := q.obj; exact Heap.lt_size ho
theorem ArrK.lt {h : Heap} {items : Array Value} (q : ArrK k h a items) : a < h.objs.size := by
  cases k with
  | true => obtain ⟨o, ho, _⟩ := q; exact Heap.lt_size ho
  | false => obtain ⟨o, ho, _⟩ := q; exact Heap.lt_size ho
end
section
variable {X : Cx} {pins : List (Addr × Obj)} {σ : St} {H : Hp} {s : Shared} {k : Bool} {a : Addr} {xs ys : List V}
theorem inv_k (I : Inv X pins σ H s) (h : SqK k X.K H a xs) : ∃ its : List Value, Vals xs its ∧ ArrK k s.heap a its.toArray ∧ xs.length ≤ sizeLine := by
  cases k with
  | true =>
    obtain ⟨its, rv, p, hz⟩ := I.list h
    exact ⟨its, rv, p.isList, hz⟩
  | false =>
    obtain ⟨its, rv, p, hz⟩ := I.tuple h
    exact ⟨its, rv, p, hz⟩
theorem inv_k_inj (I : Inv X pins σ H s) (h : SqK k X.K H a xs) (h' : SqK k X.K H a ys) : xs = ys := by
  cases k with
  | true => exact I.list_inj h h'
  | false => exact I.tuple_inj h h'
end
theorem root_k {K : PySem.W.Frag} {bx : Addr} {H Hh : Hp} {v : V} {d : D} {ds : List D} (e : Same Hh H) (r : Rep K bx Hh v d) (h : d = .lst ds ∨ d = .tup ds ∨ d = .ptp ds) : ∃ k a vs, v = .ref a ∧ SqK k K Hh a vs ∧ RepA K bx Hh vs ds := by
  rcases h with rfl | rfl | rfl
  · cases r with | lst h r => exact ⟨true, _, _, rfl, .inl (.inl h), r⟩
  · cases r with | tup h r => exact ⟨false, _, _, rfl, h, r⟩
  · cases r with | ptp h _ r => exact ⟨false, _, _, rfl, h, r⟩
/-! ### enumerate -/
theorem meets_enumT {v : Value} {o : Obj} {H : Heap → Prop} (B : Begins v o H) : Meets (Builtin.«enumerate.__new__» ⟨[.type "enumerate", v], []⟩) (fun _ R s => H s.heap ∧ R (.ok (.ret (.ref (s.heap.push o).objs.size)))
      { s with heap := (s.heap.push o).push { cls := .type "enumerate", data := .fields #[.none, .bool false, .ref s.heap.objs.size, rawInt 0, .none, .none] } }) := .of_wp fun prog w A R s h => by
  obtain ⟨hp, g, d, tk, os⟩ := s
  obtain ⟨h1, h⟩ := h
  have hsub := sub_enumerate
  have q1 : ∀ {A' : Around} {E : Value → Shared → Prop} {Q : Value → Shared → Prop}, Q (.ref hp.objs.size) ⟨hp.push o, g, d, tk, os⟩ → wpAny (model prog w) A' (pyIter v) Q E ⟨hp, g, d, tk, os⟩ := fun q => B.iter prog w _ _ ⟨hp, g, d, tk, os⟩ _ h1 q
  wp_walk using q1
  refine wpAny_stack_any fun st => wpAny_pure ?_
  split
  · rename_i c _ _ _ _ _
    cases (c == Value.type "enumerate")
    · wp_walk using q1
      exact ⟨_, rfl, h⟩
    · wp_walk using q1
      exact ⟨_, rfl, h⟩
  · wp_walk using q1
    exact ⟨_, rfl, h⟩
section
variable {prog : Program} {w : World} {A : Around} {E : Value → Shared → Prop} {s : Shared} {k : Bool}
theorem call_enumerate_k {l : Addr} {items : Array Value} {Q : Value → Shared → Prop} (hL : ArrK k s.heap l items)
    (h : ∀ h', IsEnum h' (s.heap.objs.size + 1) s.heap.objs.size 0 .none → IterK k h' s.heap.objs.size l 0 → h'.objs.size = s.heap.objs.size + 2 →
      (∀ b o, s.heap.get? b = some o → h'.get? b = some o) → Q (.ref (s.heap.objs.size + 1)) { s with heap := h' }) :
    wpAny (model prog w) A (call (.type "enumerate") [.ref l]) Q E s := by
  refine callType_new F.called_enumerate (by decide) (F.typeCall_enumerate_1 _) (F.newCall_enumerate_1 _) (fun obj => F.args_object_init_2 obj _) F.entry_enumerate_new
    (meets_enumT (begins_k k l items)) ⟨hL, ?_⟩
  have hz : (s.heap.push (itObj k l)).objs.size = s.heap.objs.size + 1 := Heap.size_push ..
  show _ ∧ _
  rw [hz]
  have he : IsEnum ((s.heap.push (itObj k l)).push
      { cls := .type "enumerate", data := .fields #[.none, .bool false, .ref s.heap.objs.size, rawInt 0, .none, .none] }) (s.heap.objs.size + 1) s.heap.objs.size 0 .none := by
    have := Heap.get?_push_size (s.heap.push (itObj k l))
      (o := { cls := .type "enumerate", data := .fields #[.none, .bool false, .ref s.heap.objs.size, rawInt 0, .none, .none] }) rfl
    rw [hz] at this; exact this
  refine ⟨⟨_, he, rfl⟩, h _ he (IterK.begin (Heap.get?_push_of_some _ (Heap.get?_push_size _ rfl))) (by rw [Heap.size_push, hz]) fun b o x => Heap.get?_push_of_some _ (Heap.get?_push_of_some _ x)⟩
end
/-- the sequence at a, each item in a new pair -/
def IteK (k : Bool) (K : PySem.W.Frag) (a : Addr) : It :=
  ⟨fun i H => ∃ (xs : List V) (x : V), SqK k K H a xs ∧ xs[i]? = some x, fun i H v H' => ∃ T x, v = .ref T ∧ H T = none ∧ H' = upd H T (.tup [.int (i : Nat), x]) ∧ ∀ xs, SqK k K H a xs → xs[i]? = some x, fun i H => ∃ xs : List V, SqK k K H a xs ∧ xs.length = i⟩
theorem turn_enumK {P : Program} {w : World} {K : PySem.W.Frag} {elts : List Expr} {kk : Nat} {tpos : Pos} (k : Bool) (a e it : Addr) :
    Turn P w K (.Tuple elts kk tpos) (IteK k K a) [e, it] e (fun i h => (∃ old, IsEnum h e it ((i : Nat) : Int) old) ∧ IterK k h it a i ∧ e ≠ it ∧ e ≠ a ∧ a ≠ it) where
  mem := by simp
  obj := fun i h st b hb => by
    obtain ⟨⟨old, he⟩, hi, _⟩ := st
    obtain ⟨o, ho, fs, hd⟩ := hi.obj
    have e' : b = e ∨ b = it := by simpa using hb
    rcases e' with z | z
    · rw [z]; exact ⟨_, he, fun v q => nomatch q⟩
    · rw [z]; exact ⟨o, ho, fun v q => by rw [hd] at q; cases q⟩
  keep := fun i h h' st k => let ⟨⟨old, he⟩, hi, hne⟩ := st; ⟨⟨old, k e (by simp) _ he⟩, hi.at fun o q => k it (by simp) o q, hne⟩
  item := by
    intro X hP hw hK hc i pins s σ H E I hf st hg
    subst hP hw hK
    obtain ⟨⟨old, he⟩, hit, hne, hea, hai⟩ := st
    obtain ⟨xs, x, hq, hx⟩ := hg
    obtain ⟨its, rv, p, hz⟩ := inv_k I hq
    obtain ⟨u, hu, ru⟩ := rv.get hx
    have hel : e < s.heap.objs.size := Heap.lt_size he
    have hil : it < s.heap.objs.size := hit.lt
    have hlt : i < its.toArray.size := by
      have := (List.getElem?_eq_some_iff.mp hu).1
      simpa using this
    have D := Draws.kind (prog := X.prog) (w := X.w) (A := X.A.in1) k (I.ok.hd hc) it a hai its.toArray
    refine wpAny_pyNext_enum_itemD D he ⟨hit, p⟩ hlt hne (by simp only [List.mem_cons, List.not_mem_nil, or_false, not_or]; exact ⟨hne, hea⟩) fun u' h' tk hP ho hit' hT hsz hk => ?_
    have hP' : its.toArray[i]? = some u' := hP
    have e0 : u' = u := by
      have : its.toArray[i]? = some u := by simpa using hu
      rw [this] at hP'; exact (Option.some.inj hP').symm
    subst e0
    refine ⟨_, rfl, wpAny_letOwnedTupleGo_enum (s := { s with heap := h', toks := tk + 1 }) ho fun h'' he' sb => ?_⟩
    have hT2 : h''.get? s.heap.objs.size = some { cls := .type "tuple", data := .seq #[.int i tk, u'] } := (sb.2 _ (Nat.ne_of_gt hel)).trans hT
    have new : ObjOk X.prog X.w (upd H s.heap.objs.size (.tup [.int (i : Nat), x])) h'' s.heap.objs.size (.tup [.int (i : Nat), x]) :=
      ⟨by show 2 ≤ sizeLine; decide, [.int i tk, u'], .cons ⟨_, rfl⟩ (.cons ru .nil), ⟨_, hT2, rfl, _, rfl⟩⟩
    have I1 : Inv X pins σ (upd H s.heap.objs.size (.tup [.int (i : Nat), x])) { s with heap := h'', toks := tk + 1 } :=
      I.turnedNew (ch := [e, it]) (fun b ob hb q => (sb.2 b (fun z => hb (by simp [z]))).trans (hk b ob (fun z => hb (by simp [z])) (fun z => hb (by simp [z])) q)) hf (Nat.le_refl _) new
    refine ⟨.ref s.heap.objs.size, _, I1, rfl, ⟨_, x, rfl, I.hok.fresh (Nat.le_refl _), rfl, fun ys hy => by rw [inv_k_inj I hy hq]; exact hx⟩, ⟨⟨u', ?_⟩, hit'.1.at fun o q => (sb.2 it (Ne.symm hne)).trans q, hne, hea, hai⟩, fun b hb => ?_⟩
    · have e1 : ((i + 1 : Nat) : Int) = (i : Int) + 1 := by omega
      rw [e1]; exact he'
    · have hb' : b < s.heap.objs.size := by
        have e' : b = e ∨ b = it := by simpa using hb
        rcases e' with z | z
        · rw [z]; exact hel
        · rw [z]; exact hil
      rw [upd_ne (Nat.ne_of_lt hb')]
      exact (hf b hb).1
  done := by
    intro X hP hw hK hc i pins s σ H E I hf st hg
    subst hP hw hK
    obtain ⟨⟨old, he⟩, hit, hne, hea, hai⟩ := st
    obtain ⟨xs, hq, hx⟩ := hg
    obtain ⟨its, rv, p, hz⟩ := inv_k I hq
    obtain ⟨f0, f1, f2, f3, f4, f5⟩ := hf it (by simp)
    have hl := rv.length
    have D := Draws.kind (prog := X.prog) (w := X.w) (A := X.A.in1) k (I.ok.hd hc) it a hai its.toArray
    have en : i = its.toArray.size := by simp; omega
    rw [en] at he hit
    exact wpAny_pyNext_enum_endD D he ⟨hit, p⟩ fun h' eb => ⟨rfl, I.turned (t' := s.toks) (fun b o hb q => eb b o hb q) f0 f1 f3 f4 f5⟩
  self := fun A i s Q E st h => let ⟨⟨_, he⟩, _⟩ := st; wpAny_pyIter_enum he h
def iEnumK (K : PySem.W.Frag) (ta : TA) : TI := fun σ H R => ta σ H fun vs H1 => ∃ k a xs, vs = [.ref a] ∧ SqK k K H1 a xs ∧ R (IteK k K a) H1
theorem pi_enumK {X : Cx} {e : Expr} {ta : TA} {p pos tpos : Pos} {elts : List Expr} {kk : Nat} (hg : Gl X "enumerate") (hm : X.mg "enumerate" = none) (ha : PA X [e] ta) (hs : starEach [e] X.env = [(false, eval e X.env)] := by rfl) :
    PI X (.Tuple elts kk tpos) (.Call (.Name "enumerate" p) [e] [] pos) (iEnumK X.K ta) := by
  refine ⟨fun pins s σ H R I h => ?_⟩
  refine Call_ (ld_blt I hg hm boot_enumerate (PyProof.Rows.callWith_type1 (thn (ha.run pos pins s σ H _ I h) fun us s1 ⟨vs, H1, I1, r1, q1⟩ => ?_) hs rfl))
  obtain ⟨k, a, xs, ex, hq, q⟩ := q1
  subst ex
  cases r1 with
  | cons r rr =>
    cases rr
    cases r
    obtain ⟨its, rv, p', hz⟩ := inv_k I1 hq
    refine call_enumerate_k p' fun h' he hit hsz hk => wpAny_pyIter_enum he ?_
    have I2 : Inv X pins σ H1 { s1 with heap := h' } := I1.kept (t' := s1.toks) hk
    have hla := p'.lt
    refine ⟨s1.heap.objs.size + 1, [s1.heap.objs.size + 1, s1.heap.objs.size], _, _, H1, rfl, I2, turn_enumK k a (s1.heap.objs.size + 1) s1.heap.objs.size, ⟨⟨.none, he⟩, hit, Nat.succ_ne_self _, fun z => ?_, fun z => ?_⟩, fun b hb => ?_, q⟩
    · rw [← z] at hla
      exact Nat.not_lt.mpr (Nat.le_succ _) hla
    · exact Nat.ne_of_lt hla z
    have e' : b = s1.heap.objs.size + 1 ∨ b = s1.heap.objs.size := by simpa using hb
    have hle : s1.heap.objs.size ≤ b := by
      rcases e' with z | z
      · rw [z]; exact Nat.le_add_right _ _
      · rw [z]; exact Nat.le_refl _
    exact I1.fpOk hle (I1.hok.fresh hle)
/-! ### zip -/
def ItzK (k l : Bool) (K : PySem.W.Frag) (a b : Addr) : It :=
  ⟨fun i H => ∃ (xs ys : List V) (x y : V), SqK k K H a xs ∧ SqK l K H b ys ∧ xs[i]? = some x ∧ ys[i]? = some y,
    fun i H v H' => ∃ T x y, v = .ref T ∧ H T = none ∧ H' = upd H T (.tup [x, y]) ∧ (∀ xs, SqK k K H a xs → xs[i]? = some x) ∧ ∀ ys, SqK l K H b ys → ys[i]? = some y,
    fun i H => ∃ xs ys : List V, SqK k K H a xs ∧ SqK l K H b ys ∧ i ≤ xs.length ∧ i ≤ ys.length ∧ (i = xs.length ∨ i = ys.length)⟩
theorem turn_zipK {P : Program} {w : World} {K : PySem.W.Frag} {elts : List Expr} {kk : Nat} {tpos : Pos} (k l : Bool) {a b z TI TO i1 i2 : Addr} (S : ZipSep2 z TI TO i1 i2 [i1, a] [i2, b]) (ha : a ≠ i1) (hb : b ≠ i2) :
    Turn P w K (.Tuple elts kk tpos) (ItzK k l K a b) [z, TI, TO, i1, i2] z (fun i h => IsZip h z TI TO .none ∧ IsTupOf2 h TI (.ref i1) (.ref i2) ∧ (∃ x y, IsTupOf2 h TO x y) ∧ IterK k h i1 a i ∧ IterK l h i2 b i) where
  mem := by simp
  obj := fun i h st c hc => by
    obtain ⟨hz, hTI, ⟨x, y, hTO⟩, h1, h2⟩ := st
    obtain ⟨o1, e1, f1, d1⟩ := h1.obj
    obtain ⟨o2, e2, f2, d2⟩ := h2.obj
    have e' : c = z ∨ c = TI ∨ c = TO ∨ c = i1 ∨ c = i2 := by simpa using hc
    rcases e' with q | q | q | q | q
    · rw [q]; exact ⟨_, hz, fun v q => nomatch q⟩
    · rw [q]; exact ⟨_, hTI, fun v q => nomatch q⟩
    · rw [q]; exact ⟨_, hTO, fun v q => nomatch q⟩
    · rw [q]; exact ⟨o1, e1, fun v q => by rw [d1] at q; cases q⟩
    · rw [q]; exact ⟨o2, e2, fun v q => by rw [d2] at q; cases q⟩
  keep := fun i h h' st k => by
    obtain ⟨hz, hTI, ⟨x, y, hTO⟩, h1, h2⟩ := st
    exact ⟨k z (by simp) _ hz, k TI (by simp) _ hTI, ⟨x, y, k TO (by simp) _ hTO⟩, h1.at fun o q => k i1 (by simp) o q, h2.at fun o q => k i2 (by simp) o q⟩
  item := by
    intro X hP hw hK hc i pins s σ H E I hf st hg
    subst hP hw hK
    obtain ⟨hz, hTI, ⟨x0, y0, hTO⟩, h1, h2⟩ := st
    obtain ⟨xs, ys, x, y, hqx, hqy, hx, hy⟩ := hg
    obtain ⟨its, rv, p, _⟩ := inv_k I hqx
    obtain ⟨its2, rv2, p2, _⟩ := inv_k I hqy
    obtain ⟨u, hu, ru⟩ := rv.get hx
    obtain ⟨u2, hu2, ru2⟩ := rv2.get hy
    have hzl : z < s.heap.objs.size := Heap.lt_size hz
    have hlt : i < its.toArray.size := by
      have := (List.getElem?_eq_some_iff.mp hu).1
      simpa using this
    have hlt2 : i < its2.toArray.size := by
      have := (List.getElem?_eq_some_iff.mp hu2).1
      simpa using this
    have D1 := Draws.kind (prog := X.prog) (w := X.w) (A := X.A.in1) k (I.ok.hd hc) i1 a ha its.toArray
    have D2 := Draws.kind (prog := X.prog) (w := X.w) (A := X.A.in1) l (I.ok.hd hc) i2 b hb its2.toArray
    refine wpAny_pyNext_zipD2_item S D1 D2 hz hTI hTO ⟨h1, p⟩ ⟨h2, p2⟩ hlt hlt2 fun v1 v2 h' tk hP1 hP2 z' TO' h1' h2' hT hsz hk => ?_
    have e0 : v1 = u := by
      have : its.toArray[i]? = some u := by simpa using hu
      have hP' : its.toArray[i]? = some v1 := hP1
      rw [this] at hP'; exact (Option.some.inj hP').symm
    have e1 : v2 = u2 := by
      have : its2.toArray[i]? = some u2 := by simpa using hu2
      have hP' : its2.toArray[i]? = some v2 := hP2
      rw [this] at hP'; exact (Option.some.inj hP').symm
    subst e0 e1
    refine ⟨_, rfl, wpAny_letOwnedTupleGo_zip (s := { s with heap := h', toks := tk }) z' fun h'' z'' sb => ?_⟩
    have hT2 : h''.get? s.heap.objs.size = some { cls := .type "tuple", data := .seq #[v1, v2] } := (sb.2 _ (Nat.ne_of_gt hzl)).trans hT
    have new : ObjOk X.prog X.w (upd H s.heap.objs.size (.tup [x, y])) h'' s.heap.objs.size (.tup [x, y]) :=
      ⟨by show 2 ≤ sizeLine; decide, [v1, v2], .cons ru (.cons ru2 .nil), ⟨_, hT2, rfl, _, rfl⟩⟩
    have I1 : Inv X pins σ (upd H s.heap.objs.size (.tup [x, y])) { s with heap := h'', toks := tk } :=
      I.turnedNew (t' := tk) (ch := [z, TI, TO, i1, i2]) (fun c o hb q => (sb.2 c (fun q' => hb (by simp [q']))).trans (hk c o (fun q' => hb (by simp [q'])) (fun q' => hb (by simp [q'])) (fun q' => hb (by simp [q'])) (fun q' => hb (by simp [q'])) q)) hf (Nat.le_refl _) new
    refine ⟨.ref s.heap.objs.size, _, I1, rfl, ⟨_, x, y, rfl, I.hok.fresh (Nat.le_refl _), rfl, fun l hl => by rw [inv_k_inj I hl hqx]; exact hx, fun l hl => by rw [inv_k_inj I hl hqy]; exact hy⟩, ⟨z'', ?_, ⟨v1, v2, ?_⟩, ?_, ?_⟩, fun c hcm => ?_⟩
    · exact (sb.2 _ S.TIz).trans (hk _ _ S.TIz S.TITO S.TIi1 S.TIi2 hTI)
    · exact (sb.2 _ S.TOz).trans TO'
    · exact h1'.1.at fun o q => (sb.2 _ (Ne.symm S.zi1)).trans q
    · exact h2'.1.at fun o q => (sb.2 _ (Ne.symm S.zi2)).trans q
    · have hlt : c < s.heap.objs.size := by
        have e' : c = z ∨ c = TI ∨ c = TO ∨ c = i1 ∨ c = i2 := by simpa using hcm
        rcases e' with q | q | q | q | q
        · rw [q]; exact hzl
        · rw [q]; exact Heap.lt_size hTI
        · rw [q]; exact Heap.lt_size hTO
        · rw [q]; exact h1.lt
        · rw [q]; exact h2.lt
      rw [upd_ne (Nat.ne_of_lt hlt)]
      exact (hf c hcm).1
  done := by
    intro X hP hw hK hc i pins s σ H E I hf st hg
    subst hP hw hK
    obtain ⟨hz, hTI, ⟨x0, y0, hTO⟩, h1, h2⟩ := st
    obtain ⟨xs, ys, hqx, hqy, le1, le2, hend⟩ := hg
    obtain ⟨its, rv, p, _⟩ := inv_k I hqx
    obtain ⟨its2, rv2, p2, _⟩ := inv_k I hqy
    have l1 := rv.length
    have l2 := rv2.length
    have D1 := Draws.kind (prog := X.prog) (w := X.w) (A := X.A.in1) k (I.ok.hd hc) i1 a ha its.toArray
    have D2 := Draws.kind (prog := X.prog) (w := X.w) (A := X.A.in1) l (I.ok.hd hc) i2 b hb its2.toArray
    have s1 : its.toArray.size = its.length := List.size_toArray ..
    have s2 : its2.toArray.size = its2.length := List.size_toArray ..
    exact wpAny_pyNext_zipD2_end S D1 D2 hz hTI hTO ⟨h1, p⟩ ⟨h2, p2⟩ (by omega) (by omega) (by omega) fun h' tk hk => ⟨rfl, I.turnedL (t' := tk) (ch := [z, TI, TO, i1, i2]) (fun c o hb q =>
      hk c o (fun q' => hb (by simp [q'])) (fun q' => hb (by simp [q'])) (fun q' => hb (by simp [q'])) (fun q' => hb (by simp [q'])) q) hf⟩
  self := fun A i s Q E st h => wpAny_pyIter_zip st.1 h
def iZipK (K : PySem.W.Frag) (ta : TA) : TI := fun σ H R => ta σ H fun vs H1 => ∃ k l a b xs ys, vs = [.ref a, .ref b] ∧ SqK k K H1 a xs ∧ SqK l K H1 b ys ∧ R (ItzK k l K a b) H1
theorem pi_zipK {X : Cx} {e e2 : Expr} {ta : TA} {p pos tpos : Pos} {elts : List Expr} {kk : Nat} (hg : Gl X "zip") (hm : X.mg "zip" = none) (ha : PA X [e, e2] ta)
    (hs : starEach [e, e2] X.env = (false, eval e X.env) :: starEach [e2] X.env := by rfl) (hpl : (backTo pos (starEach [e2] X.env)).any (·.1) = false := by rfl) :
    PI X (.Tuple elts kk tpos) (.Call (.Name "zip" p) [e, e2] [] pos) (iZipK X.K ta) := by
  refine ⟨fun pins s σ H R I h => ?_⟩
  refine Call_ (ld_blt I hg hm PyProof.Rows.boot_zip (PyProof.Rows.callWith_type1 (thn (ha.run pos pins s σ H _ I h) fun us s1 ⟨vs, H1, I1, r1, q1⟩ => ?_) hs hpl))
  obtain ⟨k, l, a, b, xs, ys, ex, hqx, hqy, q⟩ := q1
  subst ex
  cases r1 with
  | cons r rr =>
    cases rr with
    | cons r' rr =>
      cases rr
      cases r
      cases r'
      have fresh5 : ∀ c, c ∈ [s1.heap.objs.size + 4, s1.heap.objs.size + 2, s1.heap.objs.size + 3, s1.heap.objs.size, s1.heap.objs.size + 1] → FpOk X pins H1 c := fun c hcm => by
        have e' : c = s1.heap.objs.size + 4 ∨ c = s1.heap.objs.size + 2 ∨ c = s1.heap.objs.size + 3 ∨ c = s1.heap.objs.size ∨ c = s1.heap.objs.size + 1 := by simpa using hcm
        have hle : s1.heap.objs.size ≤ c := by
          rcases e' with z | z | z | z | z
          · rw [z]; exact Nat.le_add_right _ _
          · rw [z]; exact Nat.le_add_right _ _
          · rw [z]; exact Nat.le_add_right _ _
          · rw [z]; exact Nat.le_refl _
          · rw [z]; exact Nat.le_add_right _ _
        exact I1.fpOk hle (I1.hok.fresh hle)
      obtain ⟨its, rv, p1, _⟩ := inv_k I1 hqx
      obtain ⟨its2, rv2, p2, _⟩ := inv_k I1 hqy
      have la : a < s1.heap.objs.size := p1.lt
      have lb : b < s1.heap.objs.size := p2.lt
      refine zip_begins2 (begins_k k a its.toArray) (begins_k l b its2.toArray) p1 p2 fun h' hz hTI hTO h1 h2 hsz hk => wpAny_pyIter_zip hz ?_
      have I2 : Inv X pins σ H1 { s1 with heap := h' } := I1.kept (t' := s1.toks) hk
      exact ⟨s1.heap.objs.size + 4, [s1.heap.objs.size + 4, s1.heap.objs.size + 2, s1.heap.objs.size + 3, s1.heap.objs.size, s1.heap.objs.size + 1], _, _, H1, rfl, I2, turn_zipK k l
        (zip_sep2 (fp1 := [a]) (fp2 := [b]) (fun c hc => by rw [List.mem_singleton.mp hc]; exact la) (fun c hc => by rw [List.mem_singleton.mp hc]; exact lb)) (Nat.ne_of_lt la) (Nat.ne_of_lt (Nat.lt_of_lt_of_le lb (Nat.le_add_right _ 1))),
        ⟨hz, hTI, ⟨_, _, hTO⟩, IterK.begin h1, IterK.begin h2⟩, fresh5, q⟩
/-! ### as data -/
def enumD : Nat → List D → List D
  | _, [] => []
  | i, d :: ds => .tup [.int (i : Int), d] :: enumD (i + 1) ds
theorem enumD_length : ∀ {ds : List D} {n : Nat}, (enumD n ds).length = ds.length
  | [], _ => rfl
  | _ :: ds, n => congrArg (· + 1) (enumD_length (ds := ds) (n := n + 1))
theorem enumD_get : ∀ {ds : List D} {n i : Nat} {y : D}, (enumD n ds)[i]? = some y → ∃ d, ds[i]? = some d ∧ y = .tup [.int ((n + i : Nat) : Int), d]
  | [], _, _, _, h => by cases h
  | d :: ds, n, 0, y, h => ⟨d, rfl, (Option.some.inj h).symm⟩
  | d :: ds, n, i + 1, y, h => by
    obtain ⟨e, h1, h2⟩ := enumD_get (ds := ds) (n := n + 1) (i := i) h
    exact ⟨e, h1, by rw [h2, show n + 1 + i = n + (i + 1) by omega]⟩
def zipD : List D → List D → List D
  | x :: xs, y :: ys => .tup [x, y] :: zipD xs ys
  | _, _ => []
theorem zipD_length : ∀ {xs ys : List D}, (zipD xs ys).length = min xs.length ys.length
  | [], ys => by rw [zipD, List.length_nil, Nat.zero_min]; intro a b c d e; cases e
  | _ :: _, [] => by rw [zipD, List.length_nil, Nat.min_zero]; intro a b c d e f; cases f
  | _ :: xs, _ :: ys => by rw [zipD, List.length_cons, List.length_cons, List.length_cons, zipD_length]; omega
theorem zipD_get : ∀ {xs ys : List D} {i : Nat} {z : D}, (zipD xs ys)[i]? = some z → ∃ x y, xs[i]? = some x ∧ ys[i]? = some y ∧ z = .tup [x, y]
  | x :: xs, y :: ys, 0, z, h => ⟨x, y, rfl, rfl, (Option.some.inj h).symm⟩
  | x :: xs, y :: ys, i + 1, z, h => zipD_get (xs := xs) (ys := ys) (i := i) h
  | [], _, _, _, h => by
    unfold zipD at h
    cases h
  | _ :: _, [], _, _, h => by
    unfold zipD at h
    cases h
section
variable {K : PySem.W.Frag} {bx : Addr} {B : Hp} {a b : Addr} {k l : Bool} {vs us : List V} {ds es : List D}
theorem pair_new {P : Addr → Prop} {Hc : Hp} {T : Addr} {x y : V} {d e : D} (hp : ∀ a, P a → ∃ o, Hc a = some o) (hT : Hc T = none) (r1 : Rep K bx (hid P Hc) x d) (r2 : Rep K bx (hid P Hc) y e) :
    Same Hc (upd Hc T (.tup [x, y])) ∧ Rep K bx (hid P (upd Hc T (.tup [x, y]))) (.ref T) (.tup [d, e]) := by
  have s1 : Same Hc (upd Hc T (.tup [x, y])) := fun c x e => by rw [L2.upd_ne (ne_of_none e hT)]; exact e
  have nP : ¬ P T := fun z => by
    obtain ⟨o, e⟩ := hp T z
    rw [hT] at e
    cases e
  have s2 : Same (hid P Hc) (hid P (upd Hc T (.tup [x, y]))) := hid_mono (fun _ z => z) fun a o _ q => s1 a o q
  exact ⟨s1, .tup (.inl (.inl (hid_some.mpr ⟨nP, upd_same⟩))) (.cons (r1.mono s2) (.cons (r2.mono s2) .nil))⟩
theorem yields_e (h : SqK k K B a vs) (r : RepA K bx B vs ds) : Yields K bx (IteK k K a) (enumD 0 ds) B := fun P Hc hs hp => by
  have hq : SqK k K Hc a vs := (h.mono hs).mono (hid_same _ _)
  refine ⟨fun i y hi => ?_, vs, hq, by rw [enumD_length, r.length]⟩
  obtain ⟨d, e1, rfl⟩ := enumD_get hi
  obtain ⟨v, e2, r2⟩ := r.get e1
  refine ⟨⟨vs, v, hq, e2⟩, fun x H' ⟨T, v', ex, hT, eH, hv⟩ => ?_⟩
  have := hv vs hq
  rw [e2] at this
  cases this
  subst eH ex
  rw [Nat.zero_add]
  exact pair_new hp hT (.int _) (r2.mono hs)
theorem yields_z (h : SqK k K B a vs) (r : RepA K bx B vs ds) (h' : SqK l K B b us) (r' : RepA K bx B us es) : Yields K bx (ItzK k l K a b) (zipD ds es) B := fun P Hc hs hp => by
  have hq : SqK k K Hc a vs := (h.mono hs).mono (hid_same _ _)
  have hq' : SqK l K Hc b us := (h'.mono hs).mono (hid_same _ _)
  have l1 := r.length
  have l2 := r'.length
  refine ⟨fun i y hi => ?_, vs, us, hq, hq', by rw [zipD_length]; omega, by rw [zipD_length]; omega, by rw [zipD_length]; omega⟩
  obtain ⟨d, e, e1, e1', rfl⟩ := zipD_get hi
  obtain ⟨v, e2, r2⟩ := r.get e1
  obtain ⟨v2, e2', r2'⟩ := r'.get e1'
  refine ⟨⟨vs, us, v, v2, hq, hq', e2, e2'⟩, fun x H' ⟨T, v', w', ex, hT, eH, hv, hw⟩ => ?_⟩
  have q1 := hv vs hq
  rw [e2] at q1
  cases q1
  have q2 := hw us hq'
  rw [e2'] at q2
  cases q2
  subst eH ex
  exact pair_new hp hT (r2.mono hs) (r2'.mono hs)
end
/-- the items of a list or a tuple -/
def seqI (d : D) (k : List D → Prop) : Prop := match d with
  | .lst ds => k ds
  | .tup ds => k ds
  | .ptp ds => k ds
  | _ => False
theorem seqI_p {ds : List D} {k : List D → Prop} : seqI (.ptp ds) k = k ds := rfl
theorem seqI_l {ds : List D} {k : List D → Prop} : seqI (.lst ds) k = k ds := rfl
theorem seqI_t {ds : List D} {k : List D → Prop} : seqI (.tup ds) k = k ds := rfl
theorem seqI_of {d : D} {k : List D → Prop} (h : seqI d k) : ∃ ds, (d = .lst ds ∨ d = .tup ds ∨ d = .ptp ds) ∧ k ds := by
  cases d with
  | lst ds => exact ⟨ds, .inl rfl, h⟩
  | tup ds => exact ⟨ds, .inr (.inl rfl), h⟩
  | ptp ds => exact ⟨ds, .inr (.inr rfl), h⟩
  | _ => exact h.elim
def fEnum (fa : DTE) : DTI := fun δ R => fa δ fun b δ1 => force b δ1 fun d δ2 => seqI d fun ds => R (enumD 0 ds) δ2
def fZip (fa : DTA) : DTI := fun δ R => fa δ fun bs δ1 => forceL bs δ1 fun ds δ2 => match ds with
  | [x, y] => seqI x fun xs => seqI y fun ys => R (zipD xs ys) δ2
  | _ => False
section
variable {X : Cx} {L : Md} {a b e : Expr} {fa : DTE} {f : DTA} {ta : TE} {p pos tpos : Pos} {elts : List Expr} {kk : Nat}
theorem i_enum (hm : X.mg "enumerate" = none) (ha : DE X L e fa) (hg : Gl X "enumerate" := by rfl) (hs : starEach [e] X.env = [(false, eval e X.env)] := by rfl) :
    DI X L (.Tuple elts kk tpos) (.Call (.Name "enumerate" p) [e] [] pos) (fEnum fa) :=
  ⟨pi_enumK hg hm (pa_cons ha.pe pa_nil hs) hs, fun E σ H δ R Q hl I h k => ha.sim E σ H δ _ _ hl I h fun v H1 δ1 b I1 r1 h1 => by
    obtain ⟨d, δ2, I2, r2, h2⟩ := RepW.force I1 r1.weak h1
    obtain ⟨ds, hd, h3⟩ := seqI_of h2
    obtain ⟨kd, a, vs, rfl, hq, r3⟩ := root_k (Same.refl _) r2 hd
    exact ⟨kd, a, vs, rfl, hq.mono (hid_same _ _), k _ H1 δ2 _ I2 (yields_e hq r3) h3⟩⟩
theorem i_zip (hm : X.mg "zip" = none) (ha : DA X L [a, b] f) (hg : Gl X "zip" := by rfl)
    (hs : starEach [a, b] X.env = (false, eval a X.env) :: starEach [b] X.env := by rfl) (hpl : (backTo pos (starEach [b] X.env)).any (·.1) = false := by rfl) :
    DI X L (.Tuple elts kk tpos) (.Call (.Name "zip" p) [a, b] [] pos) (fZip f) :=
  ⟨pi_zipK hg hm ha.pa hs hpl, fun E σ H δ R Q hl I h k => ha.sim E σ H δ _ _ hl I h fun vs H1 δ1 bs I1 r1 h1 => by
    obtain ⟨ds, δ2, I2, r2, h2⟩ := RepWs.force I1 r1 h1
    match ds, r2, h2 with
    | [x, y], .cons rx (.cons ry .nil), h2 =>
      obtain ⟨xs, hx, h3⟩ := seqI_of h2
      obtain ⟨ys, hy, h4⟩ := seqI_of h3
      obtain ⟨k1, a1, v1, rfl, q1, r3⟩ := root_k (Same.refl _) rx hx
      obtain ⟨k2, a2, v2, rfl, q2, r4⟩ := root_k (Same.refl _) ry hy
      exact ⟨k1, k2, a1, a2, v1, v2, rfl, q1.mono (hid_same _ _), q2.mono (hid_same _ _), k _ H1 δ2 _ I2 (yields_z q1 r3 q2 r4) h4⟩⟩
end
end DL
set_option Elab.async false
set_option linter.all false
set_option maxRecDepth 100000
set_option autoImplicit false
/-! DL, part t: an instance of an own class, its fields as slots. -/
namespace DL
open PySem PySem.Spec L2
open PyProof.Rows hiding St
/-! ### slots that no name sees -/
section
variable {X : Cx} {pins : List (Addr × Obj)} {σ σ' : St} {H : Hp} {s : Shared}
/-- the same where a name sees it -/
def Gh (X : Cx) (σ σ' : St) : Prop := σ'.length = σ.length ∧ ∀ (j : Nat) (x : Str), X.N[j]? = some x → Vis X.env.scope x → σ'[j]? = σ[j]?
theorem inv_ghost (I : Inv X pins σ H s) (g : Gh X σ σ') : Inv X pins σ' H s :=
  ⟨I.ok, I.os, I.bare, I.base, let ⟨m, hm, hl⟩ := I.loc; ⟨m, hm, fun i y u e1 e2 e3 => hl i y u e1 (by rw [← g.2 i y e1 e3]; exact e2) e3⟩, I.cell, I.free, I.freeC, I.pin, I.hok, g.1.trans I.len⟩
/-- behind a statement, slots that no name sees may be told anew -/
def tGh (X : Cx) (t : TS) : TS := fun D σ H => t { D with nx := fun σ1 H1 => ∃ σ2, Gh X σ1 σ2 ∧ D.nx σ2 H1 } σ H
theorem ps_ghost {st : Stmt} {t : TS} (h : PS X st t) : PS X st (tGh X t) := ⟨fun pins s σ H D I q => by
  refine thn (h.run pins s σ H _ I q) fun f s1 r => ?_
  cases f with
  | next =>
    obtain ⟨σ1, H1, I1, σ2, g, q⟩ := r
    exact ⟨σ2, H1, inv_ghost I1 g, q⟩
  | ret v => exact r
  | brk => exact r
  | cont => exact r⟩
/-- ahead of a body -/
theorem pss_ghost {st : List Stmt} {t : TS} (h : PSs X st t) : PSs X st (fun D σ H => ∃ σ1, Gh X σ σ1 ∧ t D σ1 H) := ⟨fun pins s σ H D I ⟨σ1, g, q⟩ => h.run pins s σ1 H D (inv_ghost I g) q⟩
end
/-! ### into a method and back -/
section
variable {K : PySem.W.Frag} {E : EC} {σ σf : St} {H H' : Hp} {δ φ : DSt} {o : ObC}
theorem drop_get {α : Type} (l : List α) (n j : Nat) : (l.drop n)[j]? = l[n + j]? := List.getElem?_drop
/-- the locals left off -/
theorem EnvR.leave (I : EnvR K { E with md := .ob o } σ H δ) : EnvR K { E with md := .ob { o with n := 0 } } (σ.drop o.n) H (δ.drop o.n) ∧
    Same (HH { E with md := .ob o } σ δ H) (HH { E with md := .ob { o with n := 0 } } (σ.drop o.n) (δ.drop o.n) H) := by
  have hs : Same (HH { E with md := .ob o } σ δ H) (HH { E with md := .ob { o with n := 0 } } (σ.drop o.n) (δ.drop o.n) H) := hid_mono (fun a z => by
    rcases z with z | z | ⟨j, d, z1, z2⟩
    · exact .inl ⟨rfl, z.2⟩
    · exact .inr (.inl z)
    · rw [drop_get] at z1 z2
      exact .inr (.inr ⟨_, d, z1, z2⟩)) fun _ _ _ q => q
  refine ⟨⟨by rw [List.length_drop, List.length_drop, I.len], fun j d h => ?_, fun j d h => ?_, fun i j d e a h1 h2 h3 h4 => ?_, I.base.trans hs, I.tmp, fun _ => I.bxT rfl, ?_⟩, hs⟩
  · rw [drop_get] at h
    obtain ⟨v, h1, h2⟩ := I.val _ d h
    exact ⟨v, by rw [drop_get]; exact h1, h2.mono hs⟩
  · rw [drop_get] at h
    obtain ⟨a, h1, h2, h3, h4⟩ := I.own _ d h
    exact ⟨a, by rw [drop_get]; exact h1, h2.mono rfl hs, h3, fun z => h4 ⟨rfl, z.2⟩⟩
  · rw [drop_get] at h1 h2 h3 h4
    have := I.dis _ _ d e a h1 h2 h3 h4
    omega
  · obtain ⟨dx, fs, q1, q2, q3, q4, q5, q6⟩ := I.box
    refine ⟨dx, fs, q1, q2, q3, q4, fun j f v e1 e2 => q5 j f v e1 ?_, fun τ ht j => ?_⟩
    · have e2 : (σ.drop o.n)[0 + j]? = some (some v) := e2
      rw [Nat.zero_add, drop_get] at e2
      exact e2
    · show (σ.drop o.n)[0 + j]? = τ[j]?
      rw [Nat.zero_add, drop_get]
      exact q6 τ ht j
/-- locals ahead of the fields -/
def preV (n : Nat) (vs : List V) : St := vs.map some ++ List.replicate (n - vs.length) none
def preD (n : Nat) (ds : List D) : DSt := ds.map Sl.val ++ List.replicate (n - ds.length) .no
theorem preD_get {n : Nat} {ds : List D} {i : Nat} {s : Sl} (h : (preD n ds)[i]? = some s) : (∃ d, ds[i]? = some d ∧ s = .val d) ∨ s = .no := by
  unfold preD at h
  by_cases hl : i < ds.length
  · rw [List.getElem?_append_left (by rw [List.length_map]; exact hl), List.getElem?_map] at h
    obtain ⟨d, e, rfl⟩ := Option.map_eq_some_iff.mp h
    exact .inl ⟨d, e, rfl⟩
  · rw [List.getElem?_append_right (by rw [List.length_map]; omega), List.getElem?_replicate] at h
    split at h
    · cases h; exact .inr rfl
    · cases h
theorem preD_len {n : Nat} {ds : List D} (h : ds.length ≤ n) : (preD n ds).length = n := by
  unfold preD
  rw [List.length_append, List.length_map, List.length_replicate]; omega
theorem preV_len {n : Nat} {vs : List V} (h : vs.length ≤ n) : (preV n vs).length = n := by
  unfold preV
  rw [List.length_append, List.length_map, List.length_replicate]; omega
theorem app_get {α : Type} {a b : List α} {n : Nat} (h : a.length = n) {i : Nat} {x : α} (e : (a ++ b)[i]? = some x) : (i < n ∧ a[i]? = some x) ∨ (n ≤ i ∧ b[i - n]? = some x) := by
  by_cases hl : i < a.length
  · rw [List.getElem?_append_left hl] at e
    exact .inl ⟨by omega, e⟩
  · rw [List.getElem?_append_right (by omega)] at e
    exact .inr ⟨by omega, by rw [← h]; exact e⟩
theorem app_at {α : Type} {a b : List α} {n : Nat} (h : a.length = n) (j : Nat) : (a ++ b)[n + j]? = b[j]? := by
  rw [List.getElem?_append_right (by omega), h]; congr 1; omega
theorem EnvR.enter {vs : List V} {ds : List D} {n : Nat} (I : EnvR K { E with md := .ob { o with n := 0 } } σf H φ) (r : RepA K E.bx (HH { E with md := .ob { o with n := 0 } } σf φ H) vs ds) (hn : o.n = n) (hl : ds.length ≤ n) :
    EnvR K { E with md := .ob o } (preV n vs ++ σf) H (preD n ds ++ φ) := by
  subst hn
  have hlen := r.length
  have lV : (preV o.n vs).length = o.n := preV_len (by omega)
  have lD : (preD o.n ds).length = o.n := preD_len hl
  have noown : ∀ {i : Nat} {d : D}, (preD o.n ds ++ φ)[i]? = some (.own d) → o.n ≤ i ∧ φ[i - o.n]? = some (.own d) := fun {i d} h => by
    rcases app_get lD h with ⟨_, q⟩ | q
    · rcases preD_get q with ⟨_, _, q⟩ | q <;> cases q
    · exact q
  have back : ∀ {i : Nat} {x : Option V}, o.n ≤ i → (preV o.n vs ++ σf)[i]? = σf[i - o.n]? := fun {i x} h => by
    have := app_at (b := σf) lV (i - o.n)
    rw [show o.n + (i - o.n) = i by omega] at this
    exact this
  have hs : Same (HH { E with md := .ob { o with n := 0 } } σf φ H) (HH { E with md := .ob o } (preV o.n vs ++ σf) (preD o.n ds ++ φ) H) := hid_mono (fun a z => by
    rcases z with z | z | ⟨j, d, z1, z2⟩
    · exact .inl ⟨rfl, z.2⟩
    · exact .inr (.inl z)
    · obtain ⟨q1, q2⟩ := noown z1
      rw [back (x := none) q1] at z2
      exact .inr (.inr ⟨_, d, q2, z2⟩)) fun _ _ _ q => q
  refine ⟨by rw [List.length_append, List.length_append, lV, lD, I.len], fun j d h => ?_, fun j d h => ?_, fun i j d e a h1 h2 h3 h4 => ?_, I.base.trans hs, I.tmp, fun _ => I.bxT rfl, ?_⟩
  · rcases app_get lD h with ⟨hj, q⟩ | ⟨hj, q⟩
    · rcases preD_get q with ⟨d', e, q⟩ | q
      · cases q
        obtain ⟨v, h1, h2⟩ := r.get e
        refine ⟨v, ?_, h2.mono hs⟩
        have hv : j < vs.length := (List.getElem?_eq_some_iff.mp h1).1
        unfold preV
        rw [List.getElem?_append_left (by rw [List.length_append, List.length_map]; omega), List.getElem?_append_left (by rw [List.length_map]; exact hv), List.getElem?_map, h1]
        rfl
      · cases q
    · obtain ⟨v, h1, h2⟩ := I.val _ d q
      exact ⟨v, by rw [back (x := none) hj]; exact h1, h2.mono hs⟩
  · obtain ⟨q1, q2⟩ := noown h
    obtain ⟨a, h1, h2, h3, h4⟩ := I.own _ d q2
    exact ⟨a, by rw [back (x := none) q1]; exact h1, h2.mono rfl hs, h3, fun z => h4 ⟨rfl, z.2⟩⟩
  · obtain ⟨q1, q2⟩ := noown h1
    obtain ⟨q3, q4⟩ := noown h2
    rw [back (x := none) q1] at h3
    rw [back (x := none) q3] at h4
    have := I.dis _ _ d e a q2 q4 h3 h4
    omega
  · obtain ⟨dx, fs, q1, q2, q3, q4, q5, q6⟩ := I.box
    refine ⟨dx, fs, q1, q2, q3, q4, fun j f v e1 e2 => q5 j f v e1 ?_, fun τ ht j => ?_⟩
    · rw [app_at lV] at e2
      show σf[0 + j]? = _
      rw [Nat.zero_add]; exact e2
    · rw [app_at lV]
      have := q6 τ ht j
      rw [show ({ o with n := 0 } : ObC).n + j = j from Nat.zero_add j] at this
      exact this
open Classical in
/-- what is hidden besides the fields -/
noncomputable def restT (E : EC) (σ : St) (δ : DSt) (n : Nat) (H : Hp) : Hp := fun a => if (∃ u, E.T a = some u) ∨ (∃ (i : Nat) (d : D), i < n ∧ δ[i]? = some (.own d) ∧ σ[i]? = some (some (.ref a))) then H a else none
theorem restT_some {n : Nat} {a : Addr} {u : HO} : restT E σ δ n H a = some u ↔ ((∃ u, E.T a = some u) ∨ (∃ (i : Nat) (d : D), i < n ∧ δ[i]? = some (.own d) ∧ σ[i]? = some (some (.ref a)))) ∧ H a = some u := by
  unfold restT
  by_cases h : (∃ u, E.T a = some u) ∨ (∃ (i : Nat) (d : D), i < n ∧ δ[i]? = some (.own d) ∧ σ[i]? = some (some (.ref a)))
  · rw [if_pos h]; exact ⟨fun z => ⟨h, z⟩, fun z => z.2⟩
  · rw [if_neg h]; exact ⟨fun z => (by cases z), fun z => absurd z.1 h⟩
noncomputable def downE (E : EC) (σ : St) (δ : DSt) (H : Hp) (o : ObC) (fx : Option (List (Option V))) : EC := ⟨HH E σ δ H, E.bx, .ob ⟨0, o.C, o.fl, fx⟩, restT E σ δ o.n H⟩
theorem down_hid (I : EnvR K E σ H δ) (hm : E.md = .ob o) (fx : Option (List (Option V))) (a : Addr) : hidP (downE E σ δ H o fx) (σ.drop o.n) (δ.drop o.n) a ↔ hidP E σ δ a := by
  constructor
  · rintro (z | ⟨u, z⟩ | ⟨j, d, z1, z2⟩)
    · exact .inl ⟨by show E.md.live = true; rw [hm]; rfl, z.2⟩
    · rcases (restT_some.mp z).1 with z | ⟨i, d, _, z1, z2⟩
      · exact .inr (.inl z)
      · exact .inr (.inr ⟨i, d, z1, z2⟩)
    · rw [drop_get] at z1 z2
      exact .inr (.inr ⟨_, d, z1, z2⟩)
  · rintro (z | ⟨u, z⟩ | ⟨j, d, z1, z2⟩)
    · exact .inl ⟨rfl, z.2⟩
    · exact .inr (.inl ⟨u, restT_some.mpr ⟨.inl ⟨u, z⟩, I.tmp a u z⟩⟩)
    · by_cases hj : j < o.n
      · obtain ⟨a', e1, e2, _⟩ := I.own j d z1
        rw [z2] at e1
        cases e1
        obtain ⟨u, e3, _⟩ := e2.there
        exact .inr (.inl ⟨u, restT_some.mpr ⟨.inr ⟨j, d, hj, z1, z2⟩, e3⟩⟩)
      · refine .inr (.inr ⟨j - o.n, d, ?_, ?_⟩)
        · rw [drop_get, show o.n + (j - o.n) = j by omega]; exact z1
        · rw [drop_get, show o.n + (j - o.n) = j by omega]; exact z2
theorem EnvR.down (I : EnvR K E σ H δ) (hm : E.md = .ob o) (fx : Option (List (Option V))) (hfx : ∀ τ, fx = some τ → τ = σ.drop o.n) : EnvR K (downE E σ δ H o fx) (σ.drop o.n) H (δ.drop o.n) := by
  have eq : HH (downE E σ δ H o fx) (σ.drop o.n) (δ.drop o.n) H = HH E σ δ H := hid_congr (down_hid I hm fx) H
  have hl : E.live = true := by show E.md.live = true; rw [hm]; rfl
  refine ⟨by rw [List.length_drop, List.length_drop, I.len], fun j d h => ?_, fun j d h => ?_, fun i j d e a h1 h2 h3 h4 => ?_, by rw [eq]; exact Same.refl _, fun a u h => (restT_some.mp h).2, fun _ => ?_, ?_⟩
  · rw [drop_get] at h
    obtain ⟨v, h1, h2⟩ := I.val _ d h
    exact ⟨v, by rw [drop_get]; exact h1, by rw [eq]; exact h2⟩
  · rw [drop_get] at h
    obtain ⟨a, h1, h2, h3, h4⟩ := I.own _ d h
    refine ⟨a, by rw [drop_get]; exact h1, by rw [eq]; exact h2, ?_, fun z => h4 ⟨hl, z.2⟩⟩
    cases e : restT E σ δ o.n H a with
    | none => exact e
    | some u =>
      rcases (restT_some.mp e).1 with ⟨u', z⟩ | ⟨i, d', hi, z1, z2⟩
      · rw [h3] at z; cases z
      · have := I.dis _ _ d d' a h z1 h1 z2
        omega
  · rw [drop_get] at h1 h2 h3 h4
    have := I.dis _ _ d e a h1 h2 h3 h4
    omega
  · cases e : restT E σ δ o.n H E.bx with
    | none => exact e
    | some u =>
      rcases (restT_some.mp e).1 with ⟨u', z⟩ | ⟨i, d', hi, z1, z2⟩
      · rw [I.bxT hl] at z; cases z
      · obtain ⟨a, g1, _, _, g4⟩ := I.own i d' z1
        rw [z2] at g1
        cases g1
        exact absurd ⟨hl, rfl⟩ g4
  · have hb := I.box
    rw [hm] at hb
    obtain ⟨dx, fs, q1, q2, q3, q4, q5, q6⟩ := hb
    refine ⟨dx, fs, q1, q2, q3, q4, fun j f v e1 e2 => q5 j f v e1 ?_, fun τ ht j => ?_⟩
    · have e2 : (σ.drop o.n)[0 + j]? = some (some v) := e2
      rw [Nat.zero_add, drop_get] at e2
      exact e2
    · show (σ.drop o.n)[0 + j]? = τ[j]?
      rw [Nat.zero_add, hfx τ ht]
theorem EnvR.up {φ' : DSt} {fx : Option (List (Option V))} (I : EnvR K E σ H δ) (hm : E.md = .ob o) (hn : o.n ≤ σ.length) (J : EnvR K (downE E σ δ H o fx) σf H' φ') (hfx : ∀ τ, o.fx = some τ → σf = σ.drop o.n) :
    EnvR K E (σ.take o.n ++ σf) H' (δ.take o.n ++ φ') ∧ ∀ a, hidP E (σ.take o.n ++ σf) (δ.take o.n ++ φ') a ↔ hidP (downE E σ δ H o fx) σf φ' a := by
  have hl : E.live = true := by show E.md.live = true; rw [hm]; rfl
  have lV : (σ.take o.n).length = o.n := by rw [List.length_take]; omega
  have lD : (δ.take o.n).length = o.n := by rw [List.length_take, ← I.len]; omega
  have tk : ∀ {α : Type} {l : List α} {i : Nat} {x : α}, (l.take o.n)[i]? = some x → i < o.n ∧ l[i]? = some x := fun {α l i x} h => by
    rw [List.getElem?_take] at h
    split at h
    · exact ⟨by assumption, h⟩
    · cases h
  have atV : ∀ {i : Nat}, i < o.n → (σ.take o.n ++ σf)[i]? = σ[i]? := fun {i} h => by
    rw [List.getElem?_append_left (by omega), List.getElem?_take, if_pos h]
  have atF : ∀ {i : Nat}, o.n ≤ i → (σ.take o.n ++ σf)[i]? = σf[i - o.n]? := fun {i} h => by
    have := app_at (b := σf) lV (i - o.n)
    rw [show o.n + (i - o.n) = i by omega] at this
    exact this
  have keep : ∀ a u, restT E σ δ o.n H a = some u → H' a = H a := fun a u h => (J.tmp a u h).trans (restT_some.mp h).2.symm
  have iff : ∀ a, hidP E (σ.take o.n ++ σf) (δ.take o.n ++ φ') a ↔ hidP (downE E σ δ H o fx) σf φ' a := fun a => by
    constructor
    · rintro (z | ⟨u, z⟩ | ⟨j, d, z1, z2⟩)
      · exact .inl ⟨rfl, z.2⟩
      · exact .inr (.inl ⟨u, restT_some.mpr ⟨.inl ⟨u, z⟩, I.tmp a u z⟩⟩)
      · rcases app_get lD z1 with ⟨hj, q⟩ | ⟨hj, q⟩
        · rw [atV hj] at z2
          obtain ⟨a', e1, e2, _⟩ := I.own j d (tk q).2
          rw [z2] at e1
          cases e1
          obtain ⟨u, e3, _⟩ := e2.there
          exact .inr (.inl ⟨u, restT_some.mpr ⟨.inr ⟨j, d, hj, (tk q).2, z2⟩, e3⟩⟩)
        · rw [atF hj] at z2
          exact .inr (.inr ⟨_, d, q, z2⟩)
    · rintro (z | ⟨u, z⟩ | ⟨j, d, z1, z2⟩)
      · exact .inl ⟨hl, z.2⟩
      · rcases (restT_some.mp z).1 with z | ⟨i, d, hi, z1, z2⟩
        · exact .inr (.inl z)
        · refine .inr (.inr ⟨i, d, ?_, by rw [atV hi]; exact z2⟩)
          rw [List.getElem?_append_left (by omega), List.getElem?_take, if_pos hi]; exact z1
      · refine .inr (.inr ⟨o.n + j, d, by rw [app_at lD]; exact z1, by rw [app_at lV]; exact z2⟩)
  have eq : HH E (σ.take o.n ++ σf) (δ.take o.n ++ φ') H' = HH (downE E σ δ H o fx) σf φ' H' := hid_congr iff H'
  have sm : Same (HH E σ δ H) (HH (downE E σ δ H o fx) σf φ' H') := J.base
  refine ⟨⟨by rw [List.length_append, List.length_append, lV, lD, J.len], fun j d h => ?_, fun j d h => ?_, fun i j d e a h1 h2 h3 h4 => ?_, by rw [eq]; exact I.base.trans sm, fun a u h => ?_, I.bxT, ?_⟩, iff⟩
  · rw [eq]
    rcases app_get lD h with ⟨hj, q⟩ | ⟨hj, q⟩
    · obtain ⟨v, h1, h2⟩ := I.val j d (tk q).2
      exact ⟨v, by rw [atV hj]; exact h1, h2.mono sm⟩
    · obtain ⟨v, h1, h2⟩ := J.val _ d q
      exact ⟨v, by rw [atF hj]; exact h1, h2⟩
  · rw [eq]
    rcases app_get lD h with ⟨hj, q⟩ | ⟨hj, q⟩
    · obtain ⟨a, h1, h2, h3⟩ := I.own j d (tk q).2
      obtain ⟨u, e3, _⟩ := h2.there
      exact ⟨a, by rw [atV hj]; exact h1, h2.mono (keep a u (restT_some.mpr ⟨.inr ⟨j, d, hj, (tk q).2, h1⟩, e3⟩)) sm, h3⟩
    · obtain ⟨a, h1, h2, h3, h4⟩ := J.own _ d q
      refine ⟨a, by rw [atF hj]; exact h1, h2, ?_, fun z => h4 ⟨rfl, z.2⟩⟩
      cases e : E.T a with
      | none => rfl
      | some u =>
        have : restT E σ δ o.n H a = some u := restT_some.mpr ⟨.inl ⟨u, e⟩, I.tmp a u e⟩
        have h3 : restT E σ δ o.n H a = none := h3
        rw [this] at h3; cases h3
  · have cross : ∀ {i j : Nat} {d e : D}, i < o.n → o.n ≤ j → (δ.take o.n)[i]? = some (.own d) → φ'[j - o.n]? = some (.own e) → (σ.take o.n ++ σf)[i]? = some (some (.ref a)) → (σ.take o.n ++ σf)[j]? = some (some (.ref a)) → False := fun {i j d e} hi hj q1 q2 z1 z2 => by
      rw [atV hi] at z1
      rw [atF hj] at z2
      obtain ⟨b, g1, g2, _⟩ := I.own _ d (tk q1).2
      rw [z1] at g1
      cases g1
      obtain ⟨u, e3, _⟩ := g2.there
      obtain ⟨b', g1', _, g3', _⟩ := J.own _ e q2
      rw [z2] at g1'
      cases g1'
      have : restT E σ δ o.n H a = some u := restT_some.mpr ⟨.inr ⟨i, d, hi, (tk q1).2, z1⟩, e3⟩
      have h3 : restT E σ δ o.n H a = none := g3'
      rw [this] at h3; cases h3
    rcases app_get lD h1 with ⟨hi, q1⟩ | ⟨hi, q1⟩
    · rcases app_get lD h2 with ⟨hj, q2⟩ | ⟨hj, q2⟩
      · rw [atV hi] at h3
        rw [atV hj] at h4
        exact I.dis i j d e a (tk q1).2 (tk q2).2 h3 h4
      · exact (cross hi hj q1 q2 h3 h4).elim
    · rcases app_get lD h2 with ⟨hj, q2⟩ | ⟨hj, q2⟩
      · exact (cross hj hi q2 q1 h4 h3).elim
      · rw [atF hi] at h3
        rw [atF hj] at h4
        have := J.dis _ _ d e a q1 q2 h3 h4
        omega
  · exact J.tmp a u (restT_some.mpr ⟨.inl ⟨u, h⟩, I.tmp a u h⟩)
  · rw [hm]
    have hb : ObOk _ _ _ _ := J.box
    have hb0 := I.box
    rw [hm] at hb0
    obtain ⟨dx, fs, q1, q2, q3, q4, q5, q6⟩ := hb
    obtain ⟨_, _, _, _, _, _, _, q7⟩ := hb0
    refine ⟨dx, fs, q1, q2, q3, q4, fun j f v e1 e2 => q5 j f v e1 ?_, fun τ ht j => ?_⟩
    · rw [app_at lV] at e2
      show σf[0 + j]? = _
      rw [Nat.zero_add]; exact e2
    · rw [app_at lV, hfx τ ht, drop_get]
      exact q7 τ ht j
end
end DL
set_option Elab.async false
set_option linter.all false
set_option maxRecDepth 100000
set_option autoImplicit false
/-! DL, part u: fields read and stored, methods called, instances made. -/
namespace DL
open PySem PySem.Spec L2
open PyProof.Rows hiding St
/-! ### fields -/
def isBx (s : Sl) : Prop := match s with
  | .val .box => True
  | _ => False
theorem isBx_of {s : Sl} (h : isBx s) : s = .val .box := by
  unfold isBx at h
  split at h
  · rfl
  · exact h.elim
def fFld (i j : Nat) : DTE := fun δ R => isBx (look δ i) ∧ fVar j δ R
section
variable {X : Cx} {o : ObC} {i j J : Nat} {x f : Str} {npos pos : Pos}
theorem self_at {K : PySem.W.Frag} {E : EC} {σ : St} {H : Hp} {δ : DSt} (I : EnvR K E σ H δ) (h : isBx (look δ i)) : σ[i]? = some (some (.ref E.bx)) := by
  obtain ⟨v, h1, h2⟩ := I.val i _ (look_val (isBx_of h))
  cases h2
  exact h1
theorem ob_at {K : PySem.W.Frag} {E : EC} {σ : St} {H : Hp} {δ : DSt} (I : EnvR K E σ H δ) (hl : E.md = .ob o) : ObOk o E.bx σ H := by
  have := I.box
  rw [hl] at this
  exact this
theorem d_fld (c : Cls X.K o.C) (n : NoAttr X.K o.C f) (hN : X.N[i]? = some x := by rfl) (hf : o.fl[j]? = some f := by rfl) (hJ : o.n + j = J := by rfl) (hv : Vis X.env.scope x := by first | exact Or.inl rfl | exact Or.inr (Or.inl rfl) | exact Or.inr (Or.inr rfl)) (hd : (x == ("__debug__" : Str)) = false := by decide) (hcd : (x == ("__classdict__" : Str)) = false := by decide)
    (hb : attributeBase (.Name x npos) f X.env (eval (.Name x npos) X.env) = eval (.Name x npos) X.env := by rfl) : DE X (.ob o) (.Attribute (.Name x npos) f pos) (fFld i J) :=
  ⟨pe_fld (pe_var hN hv hd hcd) hb, fun E σ H δ R Q hl I q k => by
    obtain ⟨q0, q⟩ := q
    obtain ⟨dx, fs, e1, e2, e3, e4, e5, e6⟩ := ob_at I hl
    unfold fVar at q
    split at q
    · exact q.elim
    · rename_i d lk
      obtain ⟨v, g1, g2⟩ := I.val J d (look_val lk)
      exact ⟨_, self_at I q0, _, o.C, dx, fs, v, rfl, e1, c, n, e5 j f v hf (by rw [hJ]; exact g1), k v H δ (.val d) I g2 q⟩
    · rename_i d lk
      obtain ⟨a, g1, g2, _⟩ := I.own J d (look_own lk)
      exact ⟨_, self_at I q0, _, o.C, dx, fs, _, rfl, e1, c, n, e5 j f _ hf (by rw [hJ]; exact g1), k _ H δ (.slot J) I g1 q⟩⟩
/-- the instance hidden as any object -/
theorem ob_hid {E : EC} {σ : St} {δ : DSt} {u : HO} (hl : E.md = .ob o) (hT : E.T E.bx = none) (a : Addr) : hidP { E with md := .plain, T := upd E.T E.bx u } σ δ a ↔ hidP E σ δ a := by
  constructor
  · rintro (z | ⟨w, z⟩ | z)
    · exact nomatch z.1
    · have z : upd E.T E.bx u a = some w := z
      by_cases e : a = E.bx
      · exact .inl ⟨by show E.md.live = true; rw [hl]; rfl, e⟩
      · rw [upd_ne e] at z
        exact .inr (.inl ⟨w, z⟩)
    · exact .inr (.inr z)
  · rintro (z | ⟨w, z⟩ | z)
    · exact .inr (.inl ⟨u, by show upd E.T E.bx u a = some u; rw [z.2]; exact upd_same⟩)
    · by_cases e : a = E.bx
      · exact .inr (.inl ⟨u, by show upd E.T E.bx u a = some u; rw [e]; exact upd_same⟩)
      · exact .inr (.inl ⟨w, by show upd E.T E.bx u a = some w; rw [upd_ne e]; exact z⟩)
    · exact .inr (.inr z)
theorem EnvR.shut {K : PySem.W.Frag} {E : EC} {σ : St} {H : Hp} {δ : DSt} {u : HO} (I : EnvR K E σ H δ) (hl : E.md = .ob o) (hu : H E.bx = some u) : EnvR K { E with md := .plain, T := upd E.T E.bx u } σ H δ := by
  have hlv : E.live = true := by show E.md.live = true; rw [hl]; rfl
  have hT := I.bxT hlv
  have eq : HH { E with md := .plain, T := upd E.T E.bx u } σ δ H = HH E σ δ H := hid_congr (ob_hid hl hT) H
  refine ⟨I.len, fun i d h => ?_, fun i d h => ?_, I.dis, by rw [eq]; exact I.base, fun a w h => ?_, fun z => (nomatch z), trivial⟩
  · obtain ⟨v, h1, h2⟩ := I.val i d h
    exact ⟨v, h1, by rw [eq]; exact h2⟩
  · obtain ⟨a, h1, h2, h3, h4⟩ := I.own i d h
    refine ⟨a, h1, by rw [eq]; exact h2, ?_, fun z => nomatch z.1⟩
    show upd E.T E.bx u a = none
    rw [upd_ne (fun e => h4 ⟨hlv, e⟩)]; exact h3
  · have h : upd E.T E.bx u a = some w := h
    by_cases e : a = E.bx
    · rw [e, upd_same] at h
      cases h
      rw [e]; exact hu
    · rw [upd_ne e] at h
      exact I.tmp a w h
theorem EnvR.unshut {K : PySem.W.Frag} {E : EC} {σ : St} {H : Hp} {δ : DSt} {u : HO} (I : EnvR K { E with md := .plain, T := upd E.T E.bx u } σ H δ) (hl : E.md = .ob o) (hT : E.T E.bx = none) (hb : ObOk o E.bx σ H) : EnvR K E σ H δ := by
  have hlv : E.live = true := by show E.md.live = true; rw [hl]; rfl
  have eq : HH { E with md := .plain, T := upd E.T E.bx u } σ δ H = HH E σ δ H := hid_congr (ob_hid hl hT) H
  refine ⟨I.len, fun i d h => ?_, fun i d h => ?_, I.dis, by rw [← eq]; exact I.base, fun a w h => ?_, fun _ => hT, by rw [hl]; exact hb⟩
  · obtain ⟨v, h1, h2⟩ := I.val i d h
    exact ⟨v, h1, by rw [← eq]; exact h2⟩
  · obtain ⟨a, h1, h2, h3, h4⟩ := I.own i d h
    have h3 : upd E.T E.bx u a = none := h3
    have ne : a ≠ E.bx := fun e => by rw [e, upd_same] at h3; cases h3
    rw [upd_ne ne] at h3
    exact ⟨a, h1, by rw [← eq]; exact h2, h3, fun z => ne z.2⟩
  · refine I.tmp a w ?_
    show upd E.T E.bx u a = some w
    rw [upd_ne (fun e => by rw [e, hT] at h; cases h)]; exact h
theorem RepB.shut {K : PySem.W.Frag} {E : EC} {σ : St} {H : Hp} {δ : DSt} {u : HO} {v : V} {b : BV} (r : RepB K E σ H δ v b) (I : EnvR K E σ H δ) (hl : E.md = .ob o) (hu : H E.bx = some u) : RepB K { E with md := .plain, T := upd E.T E.bx u } σ H δ v b := by
  have hlv : E.live = true := by show E.md.live = true; rw [hl]; rfl
  have hT := I.bxT hlv
  have eq : HH { E with md := .plain, T := upd E.T E.bx u } σ δ H = HH E σ δ H := hid_congr (ob_hid hl hT) H
  cases b with
  | val d =>
    show Rep K E.bx (HH { E with md := .plain, T := upd E.T E.bx u } σ δ H) v d
    rw [eq]; exact r
  | slot i => exact r
  | fresh d =>
    obtain ⟨a, w, rfl, ha, hn, J, rO⟩ := r
    have ne : a ≠ E.bx := fun e => hn (.inl ⟨hlv, e⟩)
    have JT : ({ E with T := upd E.T a w } : EC).T E.bx = none := by show upd E.T a w E.bx = none; rw [upd_ne (Ne.symm ne)]; exact hT
    have J' := EnvR.shut (E := { E with T := upd E.T a w }) J hl hu
    have cm : upd (upd E.T a w) E.bx u = upd (upd E.T E.bx u) a w := by
      funext b
      by_cases e1 : b = E.bx
      · rw [e1, upd_same, upd_ne (Ne.symm ne), upd_same]
      · by_cases e2 : b = a
        · rw [e2, upd_ne ne, upd_same, upd_same]
        · rw [upd_ne e1, upd_ne e2, upd_ne e2, upd_ne e1]
    refine ⟨a, w, rfl, ha, fun z => hn ((ob_hid hl hT a).mp z), ?_, ?_⟩
    · have : ({ E with md := .plain, T := upd (upd E.T a w) E.bx u } : EC) = { E with md := .plain, T := upd (upd E.T E.bx u) a w } := by rw [cm]
      rw [← this]; exact J'
    · have e2 : HH { E with md := .plain, T := upd (upd E.T a w) E.bx u } σ δ H = HH { E with T := upd E.T a w } σ δ H := hid_congr (ob_hid (E := { E with T := upd E.T a w }) hl JT) H
      have e3 : HH { E with md := .plain, T := upd (upd E.T E.bx u) a w } σ δ H = HH { E with T := upd E.T a w } σ δ H := by rw [← cm]; exact e2
      show OwnR K E.bx H (HH { E with md := .plain, T := upd (upd E.T E.bx u) a w } σ δ H) a d
      rw [e3]; exact rO
theorem mem_putF {f : Str} {v : V} : ∀ {fs : List (Str × V)} {q : Str × V}, q ∈ putF f v fs → q.1 = f ∨ q ∈ fs
  | [], q, h => by
    have : q = (f, v) := by simpa [putF] using h
    exact .inl (by rw [this])
  | (g, y) :: r, q, h => by
    unfold putF at h
    split at h
    · next e =>
      rcases List.mem_cons.mp h with h | h
      · exact .inl (by rw [h]; exact e)
      · exact .inr (List.mem_cons_of_mem _ h)
    · rcases List.mem_cons.mp h with h | h
      · exact .inr (by rw [h]; exact List.mem_cons_self ..)
      · rcases mem_putF h with h | h
        · exact .inl h
        · exact .inr (List.mem_cons_of_mem _ h)
theorem nodup_putF {f : Str} {v : V} : ∀ {fs : List (Str × V)}, (fs.map (·.1)).Nodup → ((putF f v fs).map (·.1)).Nodup
  | [], _ => by simp [putF]
  | (g, y) :: r, h => by
    rw [List.map_cons, List.nodup_cons] at h
    unfold putF
    split
    · rw [List.map_cons, List.nodup_cons]; exact h
    · next ne =>
      rw [List.map_cons, List.nodup_cons]
      refine ⟨fun z => ?_, nodup_putF h.2⟩
      obtain ⟨q, hq, e⟩ := List.mem_map.mp z
      rcases mem_putF hq with e2 | hq
      · exact ne (e.symm.trans e2)
      · exact h.1 (List.mem_map.mpr ⟨q, hq, e⟩)
theorem len_sub {α : Type} [DecidableEq α] : ∀ {l m : List α}, l.Nodup → (∀ x ∈ l, x ∈ m) → l.length ≤ m.length
  | [], _, _, _ => Nat.zero_le _
  | x :: l, m, h, s => by
    rw [List.nodup_cons] at h
    have hm := s x (List.mem_cons_self ..)
    have := len_sub (l := l) (m := m.erase x) h.2 fun y hy => (List.mem_erase_of_ne (fun e => h.1 (by rw [← e]; exact hy))).mpr (s y (List.mem_cons_of_mem _ hy))
    rw [List.length_erase_of_mem hm] at this
    have : 0 < m.length := List.length_pos_of_mem hm
    rw [List.length_cons]; omega
theorem ob_len {p : Addr} {σ : St} {H : Hp} {dx : Addr} {fs : List (Str × V)} (h2 : (fs.map (·.1)).Nodup) (h3 : ∀ q ∈ fs, q.1 ∈ o.fl) (h4 : o.fl.length ≤ 900) : fs.length < 1000 := by
  have := len_sub h2 (m := o.fl) fun x hx => by
    obtain ⟨q, hq, rfl⟩ := List.mem_map.mp hx
    exact h3 q hq
  rw [List.length_map] at this
  omega
/-- self.f = e -/
def fFSet (i J : Nat) (fe : DTE) : DTS := fun Df δ => fe δ fun b δ1 => isBx (look δ1 i) ∧ store J b δ1 Df.nx
theorem gh_set {σ : St} {v : Option V} (hp : X.N[J]? = some x) (hn : X.env.scope.names.lookup x = none) : Gh X σ (σ.set J v) :=
  ⟨List.length_set .., fun k y e1 e2 => List.getElem?_set_ne fun e => by
    subst e
    rw [hp] at e1
    cases e1
    rcases e2 with e | e | e <;> rw [hn] at e <;> cases e⟩
theorem store_ob {K : PySem.W.Frag} {E : EC} {σ : St} {H : Hp} {δ : DSt} {v : V} {b : BV} {k : DSt → Prop} {dx : Addr} {fs : List (Str × V)} (I : EnvR K E σ H δ) (hl : E.md = .ob o) (hx : o.fx = none) (hf : o.fl[j]? = some f) (hnd : o.fl.Nodup) (hJ : o.n + j = J)
    (hH : H E.bx = some (.ins o.C dx fs)) (h2 : (fs.map (·.1)).Nodup) (h3 : ∀ q ∈ fs, q.1 ∈ o.fl) (h4 : o.fl.length ≤ 900) (h5 : ∀ (j : Nat) (f : Str) (v : V), o.fl[j]? = some f → σ[o.n + j]? = some (some v) → fs.lookup f = some v)
    (r : RepB K E σ H δ v b) (h : store J b δ k) : ∃ δ', EnvR K E (σ.set J (some v)) (upd H E.bx (.ins o.C dx (putF f v fs))) δ' ∧ k δ' := by
  have hlv : E.live = true := by show E.md.live = true; rw [hl]; rfl
  have hT := I.bxT hlv
  have I1 := I.shut hl hH
  obtain ⟨δ', I2, q⟩ := store_sound (i := J) rfl I1 (r.shut I hl hH) h
  have I3 := (EnvR.tset (E := { E with md := .plain }) (o' := .ins o.C dx (putF f v fs)) hT I2 trivial).1
  refine ⟨δ', EnvR.unshut (E := E) I3 hl hT ⟨dx, putF f v fs, upd_same, nodup_putF h2, fun q hq => ?_, h4, fun j' f' v' e1 e2 => ?_, fun τ ht => by rw [hx] at ht; cases ht⟩, q⟩
  · rcases mem_putF hq with e | hq
    · rw [e]; exact List.mem_of_getElem? hf
    · exact h3 q hq
  · rw [lookup_putF]
    by_cases e : f' = f
    · rw [if_pos e]
      have : j' = j := (List.getElem?_inj (by exact (List.getElem?_eq_some_iff.mp e1).1) hnd).mp (by rw [e1, hf, e])
      subst this
      rw [hJ] at e2
      rcases get_set e2 with ⟨_, q⟩ | ⟨n, _⟩
      · exact congrArg some (Option.some.inj q)
      · exact absurd rfl n
    · rw [if_neg e]
      refine h5 j' f' v' e1 ?_
      rcases get_set e2 with ⟨n, _⟩ | ⟨_, q⟩
      · exfalso
        have : j' = j := by omega
        subst this
        rw [e1] at hf
        exact e (Option.some.inj hf)
      · exact q
theorem s_fld {e : Expr} {fe : DTE} {pos' : Pos} {ph : Str} (c : Cls X.K o.C) (n : NoAttr X.K o.C f) (he : DE X (.ob o) e fe) (hx : o.fx = none := by rfl) (hN : X.N[i]? = some x := by rfl) (hf : o.fl[j]? = some f := by rfl) (hnd : o.fl.Nodup := by dsimp only; decide) (hJ : o.n + j = J := by rfl) (hp : X.N[J]? = some ph := by rfl) (hn : X.env.scope.names.lookup ph = none := by rfl)
    (hv : Vis X.env.scope x := by first | exact Or.inl rfl | exact Or.inr (Or.inl rfl) | exact Or.inr (Or.inr rfl)) (hd : (x == ("__debug__" : Str)) = false := by decide) (hcd : (x == ("__classdict__" : Str)) = false := by decide)
    (hs : swapsWith e (some (.Attribute (.Name x npos) f pos')) pos.line X.env = pure false := by rfl) : DS X (.ob o) (.Assign [.Attribute (.Name x npos) f pos'] e pos) (fFSet i J fe) :=
  ⟨ps_ghost (ps_fld (pe_var hN hv hd hcd) he.pe hs), fun E σ H δ Dn Df hl I q ok => he.sim E σ H δ _ _ hl I q fun v H1 δ1 b I1 r1 h1 => by
    obtain ⟨q0, h1⟩ := h1
    obtain ⟨dx, fs, e1, e2, e3, e4, e5, e6⟩ := ob_at I1 hl
    obtain ⟨δ', I2, q2⟩ := store_ob I1 hl hx hf hnd hJ e1 e2 e3 e4 e5 r1 h1
    exact ⟨_, self_at I1 q0, _, o.C, dx, fs, rfl, e1, c, n, ob_len (p := E.bx) (σ := σ) (H := H1) (dx := dx) e2 e3 e4, _, gh_set hp hn, ok.nx _ _ δ' I2 q2⟩⟩
/-- self.f[k] = e -/
def fFSetIx (i J : Nat) (fk fe : DTE) : DTS := fun Df δ => fe δ fun b δ1 => isBx (look δ1 i) ∧ isOwnL (look δ1 J) ∧ fk δ1 fun c δ2 => force b δ2 fun d δ3 => asI δ3 c fun k => setS (look δ3 J) J k d δ3 Df.nx
theorem isOwnL_of {s : Sl} (h : isOwnL s) : ∃ ds, s = .own (.lst ds) := by
  unfold isOwnL at h
  split at h
  · exact ⟨_, rfl⟩
  · exact h.elim
theorem s_fldix {e ek : Expr} {fe fk : DTE} {ipos apos : Pos} (c : Cls X.K o.C) (n : NoAttr X.K o.C f) (he : DE X (.ob o) e fe) (hk : DE X (.ob o) ek fk) (hN : X.N[i]? = some x := by rfl) (hf : o.fl[j]? = some f := by rfl) (hJ : o.n + j = J := by rfl)
    (hv : Vis X.env.scope x := by first | exact Or.inl rfl | exact Or.inr (Or.inl rfl) | exact Or.inr (Or.inr rfl)) (hd : (x == ("__debug__" : Str)) = false := by decide) (hcd : (x == ("__classdict__" : Str)) = false := by decide)
    (hb : attributeBase (.Name x npos) f X.env (eval (.Name x npos) X.env) = eval (.Name x npos) X.env := by rfl)
    (ha : ∀ v, assign (.Subscript (.Attribute (.Name x npos) f apos) ek ipos) X.env v = (do
      let ov ← holding [v] (eval (.Attribute (.Name x npos) f apos) X.env)
      let iv ← holding [v, ov] (eval ek X.env)
      standAt ipos
      holding [v, ov, iv] (setItem ov iv v)
      release [v, ov, iv] []) := by intro _; rfl)
    (hs : swapsWithSole [.Subscript (.Attribute (.Name x npos) f apos) ek ipos] e pos.line X.env = pure false := by rfl) (hw : swappedStores [.Subscript (.Attribute (.Name x npos) f apos) ek ipos] e X.env = pure none := by rfl)
    (h1 : (assignEach [.Subscript (.Attribute (.Name x npos) f apos) ek ipos] X.env).map (·.2) = [assign (.Subscript (.Attribute (.Name x npos) f apos) ek ipos) X.env] := by rfl) :
    DS X (.ob o) (.Assign [.Subscript (.Attribute (.Name x npos) f apos) ek ipos] e pos) (fFSetIx i J fk fe) :=
  ⟨ps_asg he.pe (pg_sub (pe_fld (pe_var hN hv hd hcd) hb) hk.pe set_list ha) hs hw h1, fun E σ H δ Dn Df hl I q ok => he.sim E σ H δ _ _ hl I q fun v H1 δ1 b I1 r1 h1 => by
    obtain ⟨q0, q1, h1⟩ := h1
    obtain ⟨ds0, lk0⟩ := isOwnL_of q1
    obtain ⟨dx, fs, e1, e2, e3, e4, e5, e6⟩ := ob_at I1 hl
    obtain ⟨a, hs1, _⟩ := I1.own J _ (look_own lk0)
    refine ⟨_, self_at I1 q0, _, o.C, dx, fs, .ref a, rfl, e1, c, n, e5 j f _ hf (by rw [hJ]; exact hs1), ?_⟩
    refine hk.sim { E with H0 := HH E σ δ1 H1 } σ H1 δ1 _ _ hl I1.pin h1 fun kv H2 δ2 c J2 r2 h2 => ?_
    have I2 := I1.unpin J2
    obtain ⟨d, δ3, J3, r3, h3⟩ := RepW.force (E := { E with H0 := HH E σ δ2 H2 }) I2.pin (RepW.keep r1.weak J2) h2
    have I3 := I2.unpin J3
    have r2' := RepW.keep (E := E) ((RepB.unpin r2 I1.base).weak) J3
    obtain ⟨k, rfl, h4⟩ := RepW.asI I3 r2' h3
    unfold setS at h4
    split at h4
    · rename_i ds lk
      obtain ⟨a2, ha2, hO, _⟩ := I3.own J _ (look_own lk)
      rw [hs1] at ha2
      cases ha2
      obtain ⟨vs, hH, r4⟩ := OwnR.tyL hO
      split at h4
      · rename_i j ej
        refine ⟨a, vs, k, j, rfl, rfl, hH, by rw [r4.length]; exact ej, ?_⟩
        exact ok.nx σ _ _ (I3.mut (look_own lk) hs1 fun H' Hh e s => .lst e ((r4.mono s).set (Rep.mono s r3) j)) h4
      · exact h4.elim
    · exact h4.elim⟩
end
/-! ### methods -/
abbrev OSpec := List D → DSt → (D → DSt → Prop) → Prop
def OMono (spec : OSpec) : Prop := ∀ ds φ R R', (∀ d φ', R d φ' → R' d φ') → spec ds φ R → spec ds φ R'
/-- a method: what it asks and promises; z: it stores to no field -/
def spM (K : PySem.W.Frag) (C : Addr) (fl : List Str) (z : Bool) (n : Nat) (spec : OSpec) : Sp := fun vs H Q _ => ∃ (E : EC) (σf : St) (φ : DSt) (ds : List D) (vs' : List V) (fx : Option (List (Option V))), vs = .ref E.bx :: vs' ∧ E.md = .ob ⟨0, C, fl, fx⟩ ∧ (z = true → fx = some σf) ∧ (z = false → fx = none) ∧
  φ.length = fl.length ∧ ds.length = n ∧ EnvR K E σf H φ ∧ RepA K E.bx (HH E σf φ H) vs' ds ∧ spec ds φ fun d φ' => ∀ v H' σf', EnvR K E σf' H' φ' → Rep K E.bx (HH E σf' φ' H') v d → Q v H'
structure GoodM (P : Program) (w : World) (K : PySem.W.Frag) (mg : Str → Option Value) (base : Heap) (C : Addr) (fl : List Str) (z : Bool) (k : Nat) (m : Str) (n : Nat) (spec : OSpec) : Prop where
  ex : ∃ (f : Addr) (fd : FuncData) (ps : List Str), FnOk P w K mg base CX0 k f fd ps (spM K C fl z n spec) ∧ Meth K C m f ∧ Binds K fd ps []
  mono : OMono spec
def decS : D → Sl
  | .tup [.int 0, d] => .val d
  | .tup [.int _, d] => .own d
  | _ => .no
theorem dec_enc : ∀ s : Sl, decS (encS s) = s
  | .no => rfl
  | .val d => rfl
  | .own d => rfl
theorem dec_encs (δ : DSt) : (δ.map encS).map decS = δ := by
  rw [List.map_map]
  conv => rhs; rw [← List.map_id δ]
  exact List.map_congr_left fun s _ => dec_enc s
def rtO (n : Nat) (R : D → DSt → Prop) (p : D) : Prop := match p with
  | .tup [d, .lst l] => R d ((l.map decS).drop n)
  | _ => False
theorem rtO_pack {n : Nat} {R : D → DSt → Prop} {d : D} {δ : DSt} : rtO n R (pack d δ) = R d (δ.drop n) := by
  show R d (((δ.map encS).map decS).drop n) = _
  rw [dec_encs]
section
variable {P : Program} {w : World} {K : PySem.W.Frag} {mg : Str → Option Value} {base : Heap} {C : Addr} {fl : List Str}
abbrev DBodyM (K : PySem.W.Frag) (P : Program) (w : World) (mg : Str → Option Value) (base : Heap) (C : Addr) (fl : List Str) (z : Bool) (nn : Nat) (N ps : List Str) (qual : Str) (st : Stmt) (f : Addr) (k : Nat) (spec : OSpec) : Prop :=
  ∀ (cdv : Value) (A : Around) (outer : List Env) (s : Shared) (H : Hp) (E : XK), Room k (A.deeper (envOfC qual (defScope st) s.heap.objs.size f cdv)) → ∀ fx : Option (List (Option V)), (z = false → fx = none) →
      ∃ fd, DSs (cxOf CX0 P w K mg base N qual (defScope st) f cdv A outer s H E).nox (.ob ⟨nn, C, fl, fx⟩) (defBody st) fd ∧ ∀ ds φ R, ds.length + 1 = ps.length → φ.length = fl.length → spec ds φ R → fd { nx := fun δ => R .non (δ.drop nn), rt := rtO nn R } (preD nn (.box :: ds) ++ φ)
theorem fn_m {x qual m : Str} {st : Stmt} {f : Addr} {fd : FuncData} {N ps : List Str} {k nn : Nat} {z : Bool} {spec : OSpec} (F : Fun K x qual st f fd) (S : FnScope N ps (defScope st)) (hN : N.length = nn + fl.length) (hp : ps.length ≤ nn) (hp0 : 0 < ps.length)
    (hph : ((N.drop nn).all fun x => ((defScope st).names.lookup x).isNone) = true) (hm : OMono spec) (hx : Meth K C m f) (hb : Binds K fd ps []) (body : DBodyM K P w mg base C fl z nn N ps qual st f k spec) : GoodM P w K mg base C fl z (k + 1) m (ps.length - 1) spec := by
  refine ⟨⟨f, fd, ps, ?_, hx, hb⟩, hm⟩
  refine F.ok S (fun vs H Q E ⟨E0, σf, φ, ds, vs', fx, e, _, _, _, _, hl, _, r, _⟩ => by have := r.length; rw [e, List.length_cons]; omega) fun cdv A outer s H vs Q E hr ⟨E0, σf, φ, ds, vs', fx, e, hmd, hz1, hz2, hφ, hl, I, r, hs⟩ => ?_
  obtain ⟨fb, hd, hsp⟩ := body cdv A outer s H E hr fx hz2
  refine ⟨_, pss_ghost hd.pss, ?_⟩
  subst e
  obtain ⟨H0, bx, md, T⟩ := E0
  have hmd : md = .ob ⟨0, C, fl, fx⟩ := hmd
  subst hmd
  have lr := r.length
  have I1 := EnvR.enter (E := ⟨H0, bx, .plain, T⟩) (o := ⟨nn, C, fl, fx⟩) (vs := .ref bx :: vs') (ds := .box :: ds) I (.cons .box r) rfl (by show (D.box :: ds).length ≤ nn; rw [List.length_cons]; omega)
  refine ⟨preV nn (V.ref bx :: vs') ++ σf, ⟨?_, fun j y e1 e2 => ?_⟩, hd.sim _ _ H _ _ _ rfl I1 (hsp ds φ _ (by omega) hφ hs) ⟨fun σ' H' δ' J q => ?_, fun z => (nomatch z), fun _ _ _ _ q => q.elim, fun _ _ _ _ q => q.elim, fun _ σ' H' δ' v d J r q => ?_⟩⟩
  · have e1 : (preV nn (V.ref bx :: vs')).length = nn := preV_len (by rw [List.length_cons]; omega)
    rw [List.length_append, e1, L2.start, List.length_append, List.length_map, List.length_replicate, List.length_cons]
    have := I.len
    have e2 : σf.length = fl.length := this.trans hφ
    have hc : N.length = nn + fl.length := hN
    omega
  · have hj : j < nn := by
      rcases Nat.lt_or_ge j nn with h | h
      · exact h
      · exfalso
        have e1 : N[j]? = some y := e1
        have hmem : y ∈ N.drop nn := List.mem_of_getElem? (i := j - nn) (by rw [drop_get, show nn + (j - nn) = j by omega]; exact e1)
        have hno := List.all_eq_true.mp hph y hmem
        have e2 : Vis (defScope st) y := e2
        rcases e2 with e | e | e <;> rw [e] at hno <;> cases hno
    have e1 : (preV nn (V.ref bx :: vs')).length = nn := preV_len (by rw [List.length_cons]; omega)
    rw [List.getElem?_append_left (by omega)]
    have hc : N.length = nn + fl.length := hN
    show (preV nn (V.ref bx :: vs'))[j]? = (L2.start N (V.ref bx :: vs'))[j]?
    unfold preV L2.start
    by_cases hv : j < (V.ref bx :: vs').length
    · rw [List.getElem?_append_left (by rw [List.length_map]; exact hv), List.getElem?_append_left (by rw [List.length_map]; exact hv)]
    · rw [List.getElem?_append_right (by rw [List.length_map]; omega), List.getElem?_append_right (by rw [List.length_map]; omega), List.getElem?_replicate, List.getElem?_replicate, List.length_map, if_pos (by omega), if_pos (by omega)]
  · have J0 := EnvR.leave (E := ⟨H0, bx, .plain, T⟩) (o := ⟨nn, C, fl, fx⟩) J
    exact q .non H' _ J0.1 .non
  · dsimp only at q
    rw [rtO_pack] at q
    have J0 := EnvR.leave (E := ⟨H0, bx, .plain, T⟩) (o := ⟨nn, C, fl, fx⟩) J
    exact q v H' _ J0.1 (r.mono J0.2)
end
/-! ### calls of methods -/
def fMeth (i nn n : Nat) (spec : OSpec) (fa : DTA) : DTE := fun δ R => isBx (look δ i) ∧ fa δ fun bs δ1 => forceL bs δ1 fun ds δ2 => ds.length = n ∧ spec ds (δ2.drop nn) fun d φ' => R (.val d) (δ2.take nn ++ φ')
theorem lookup_out {m : Str} : ∀ {fs : List (Str × V)}, (∀ q ∈ fs, q.1 ≠ m) → fs.lookup m = none
  | [], _ => rfl
  | (f, v) :: r, h => by
    have h1 : (m == f) = false := by
      rw [beq_eq_false_iff_ne]
      exact fun e => h (f, v) (List.mem_cons_self ..) e.symm
    rw [List.lookup_cons, h1]
    exact lookup_out fun q hq => h q (List.mem_cons_of_mem _ hq)
section
variable {X : Cx} {o : ObC} {i n k : Nat} {x m : Str} {npos apos pos : Pos} {e : Expr} {es : List Expr} {f : DTA} {spec : OSpec} {pl : Sem Bool} {z : Bool} {cpos : Pos}
theorem down_rep {K : PySem.W.Frag} {E : EC} {σ : St} {H : Hp} {δ : DSt} (I : EnvR K E σ H δ) (hm : E.md = .ob o) (fx : Option (List (Option V))) {vs : List V} {ds : List D} (r : RepA K E.bx (HH E σ δ H) vs ds) : RepA K E.bx (HH (downE E σ δ H o fx) (σ.drop o.n) (δ.drop o.n) H) vs ds := by
  rw [show HH (downE E σ δ H o fx) (σ.drop o.n) (δ.drop o.n) H = HH E σ δ H from hid_congr (down_hid I hm fx) H]
  exact r
theorem meth_pure {K : PySem.W.Frag} {E : EC} {σ : St} {H : Hp} {δ : DSt} {vs : List V} {ds : List D} {R : D → DSt → Prop} {Q : VK} (hmo : OMono spec) (I : EnvR K E σ H δ) (hl : E.md = .ob o) (hfl : δ.length = o.n + o.fl.length) (r : RepA K E.bx (HH E σ δ H) vs ds) (hn : ds.length = n) (q : spec ds (δ.drop o.n) R)
    (k : ∀ v H' δ' d φ', δ' = δ.take o.n ++ φ' → EnvR K E σ H' δ' → Rep K E.bx (HH E σ δ' H') v d → R d φ' → Q v H') : spM K o.C o.fl true n spec (.ref E.bx :: vs) H Q E0 := by
  have J := I.down hl (some (σ.drop o.n)) fun τ e => (Option.some.inj e).symm
  refine ⟨downE E σ δ H o (some (σ.drop o.n)), σ.drop o.n, δ.drop o.n, ds, vs, some (σ.drop o.n), rfl, rfl, fun _ => rfl, fun z => (nomatch z), by rw [List.length_drop]; omega, hn, J, down_rep I hl _ r, hmo _ _ _ _ (fun d φ' hr v H' σf' J' r' => ?_) q⟩
  have eσ : σf' = σ.drop o.n := by
    obtain ⟨dx, fs, _, _, _, _, _, q6⟩ := (J'.box : ObOk _ _ _ _)
    refine List.ext_getElem? fun j => ?_
    have := q6 _ rfl j
    rw [show (⟨0, o.C, o.fl, some (σ.drop o.n)⟩ : ObC).n + j = j from Nat.zero_add j] at this
    exact this
  have hσ : o.n ≤ σ.length := by rw [I.len]; omega
  obtain ⟨I', iff⟩ := EnvR.up I hl hσ J' fun _ _ => eσ
  have eq : σ.take o.n ++ σf' = σ := by rw [eσ]; exact List.take_append_drop ..
  rw [eq] at I' iff
  have eH : HH E σ (δ.take o.n ++ φ') H' = HH (downE E σ δ H o (some (σ.drop o.n))) σf' φ' H' := hid_congr iff H'
  exact k v H' _ d φ' rfl I' (by rw [eH]; exact r') hr
theorem d_meth (c : Cls X.K o.C) (G : GoodM X.prog X.w X.K X.mg X.base o.C o.fl true k m n spec) (hr : Room k X.A) (ha : DA X (.ob o) (e :: es) f) (hN : X.N[i]? = some x := by rfl) (hlen : X.N.length = o.n + o.fl.length := by rfl) (hno : m ∉ o.fl := by dsimp only; decide)
    (hv : Vis X.env.scope x := by first | exact Or.inl rfl | exact Or.inr (Or.inl rfl) | exact Or.inr (Or.inr rfl)) (hd : (x == ("__debug__" : Str)) = false := by decide) (hcd : (x == ("__classdict__" : Str)) = false := by decide)
    (hst : starEach (e :: es) X.env = (false, eval e X.env) :: starEach es X.env := by rfl) (hpl : (backTo pos (starEach es X.env)).any (·.1) = false := by rfl)
    (ht : eval (.Call (.Attribute (.Name x npos) m apos) (e :: es) [] pos) X.env = (do
      let ov ← eval (.Name x npos) X.env
      standAt apos.atName
      let (f, first) ← holding [ov] (getMethod ov m pl)
      callWith pos f first (backTo pos (starEach (e :: es) X.env)) (backToKw pos (keywordEach [] X.env))) := by rfl) :
    DE X (.ob o) (.Call (.Attribute (.Name x npos) m apos) (e :: es) [] pos) (fun δ R => δ.length = o.n + o.fl.length ∧ fMeth i o.n n spec f δ R) := by
  obtain ⟨fa, fd, ps, F, hm, hb⟩ := G.ex
  refine ⟨pe_meth (pe_var hN hv hd hcd) c hm F hr hb .nil pass0 ha.pa hst hpl ht, fun E σ H δ R Q hl I q kk => ?_⟩
  obtain ⟨hL, q0, q⟩ := q
  obtain ⟨dx, fs, e1, e2, e3, e4, e5, e6⟩ := ob_at I hl
  refine ⟨_, self_at I q0, _, dx, fs, rfl, e1, lookup_out fun p hp e => hno (by rw [← e]; exact e3 p hp), ?_⟩
  refine ha.sim E σ H δ _ _ hl I q fun vs H1 δ1 bs I1 r1 h1 => ?_
  obtain ⟨ds, δ2, I2, r2, hz, h2⟩ := RepWs.force I1 r1 h1
  have hL2 : δ2.length = o.n + o.fl.length := by rw [← I2.len, I.len]; exact hL
  rw [List.append_nil]
  exact meth_pure G.mono I2 hl hL2 r2 hz h2 fun v H' δ' d φ' e I' r' hR => kk v H' δ' (.val d) I' r' (by rw [e]; exact hR)
/-- a method that may store to fields, its answer not looked at -/
def fMethS (i nn n : Nat) (spec : OSpec) (fa : DTA) : DTS := fun Df δ => isBx (look δ i) ∧ fa δ fun bs δ1 => forceL bs δ1 fun ds δ2 => ds.length = n ∧ spec ds (δ2.drop nn) fun _ φ' => φ'.length = (δ2.drop nn).length ∧ Df.nx (δ2.take nn ++ φ')
/-- .. its answer in slot k -/
def fMethA (k i nn n : Nat) (spec : OSpec) (fa : DTA) : DTS := fun Df δ => isBx (look δ i) ∧ fa δ fun bs δ1 => forceL bs δ1 fun ds δ2 => ds.length = n ∧ spec ds (δ2.drop nn) fun d φ' => φ'.length = (δ2.drop nn).length ∧ Df.nx ((δ2.take nn ++ φ').set k (.val d))
def HidN (X : Cx) (n : Nat) : Prop := ∀ (j : Nat) (y : Str), X.N[j]? = some y → Vis X.env.scope y → j < n
theorem hidN_of {n : Nat} (h : ((X.N.drop n).all fun x => (X.env.scope.names.lookup x).isNone) = true) : HidN X n := fun j y e1 e2 => by
  rcases Nat.lt_or_ge j n with h' | h'
  · exact h'
  · exfalso
    have hmem : y ∈ X.N.drop n := List.mem_of_getElem? (i := j - n) (by rw [drop_get, show n + (j - n) = j by omega]; exact e1)
    have hno := List.all_eq_true.mp h y hmem
    rcases e2 with e | e | e <;> rw [e] at hno <;> cases hno
theorem gh_up {σ σf : St} (hh : HidN X o.n) (hn : o.n ≤ σ.length) (hl : σf.length = σ.length - o.n) : Gh X σ (σ.take o.n ++ σf) := by
  refine ⟨by rw [List.length_append, List.length_take]; omega, fun j y e1 e2 => ?_⟩
  have hj := hh j y e1 e2
  rw [List.getElem?_append_left (by rw [List.length_take]; omega), List.getElem?_take, if_pos hj]
theorem meth_put {K : PySem.W.Frag} {E : EC} {σ : St} {H : Hp} {δ : DSt} {vs : List V} {ds : List D} {R : D → DSt → Prop} {Q : VK} (hmo : OMono spec) (I : EnvR K E σ H δ) (hl : E.md = .ob o) (hx : o.fx = none) (hfl : δ.length = o.n + o.fl.length) (r : RepA K E.bx (HH E σ δ H) vs ds) (hn : ds.length = n) (q : spec ds (δ.drop o.n) R)
    (k : ∀ v H' σf δ' d φ', δ' = δ.take o.n ++ φ' → σf.length = φ'.length → EnvR K E (σ.take o.n ++ σf) H' δ' → Rep K E.bx (HH E (σ.take o.n ++ σf) δ' H') v d → R d φ' → Q v H') : spM K o.C o.fl false n spec (.ref E.bx :: vs) H Q E0 := by
  have J := I.down hl none fun τ e => nomatch e
  refine ⟨downE E σ δ H o none, σ.drop o.n, δ.drop o.n, ds, vs, none, rfl, rfl, fun z => (nomatch z), fun _ => rfl, by rw [List.length_drop]; omega, hn, J, down_rep I hl _ r, hmo _ _ _ _ (fun d φ' hr v H' σf' J' r' => ?_) q⟩
  have hσ : o.n ≤ σ.length := by rw [I.len]; omega
  obtain ⟨I', iff⟩ := EnvR.up I hl hσ J' fun τ e => by rw [hx] at e; cases e
  have eH : HH E (σ.take o.n ++ σf') (δ.take o.n ++ φ') H' = HH (downE E σ δ H o none) σf' φ' H' := hid_congr iff H'
  exact k v H' _ _ d φ' rfl J'.len I' (by rw [eH]; exact r') hr
theorem s_methS (c : Cls X.K o.C) (G : GoodM X.prog X.w X.K X.mg X.base o.C o.fl false k m n spec) (hr : Room k X.A) (ha : DA X (.ob o) (e :: es) f) (hx : o.fx = none := by rfl) (hN : X.N[i]? = some x := by rfl) (hlen : X.N.length = o.n + o.fl.length := by rfl) (hno : m ∉ o.fl := by dsimp only; decide)
    (hh : ((X.N.drop o.n).all fun x => (X.env.scope.names.lookup x).isNone) = true := by decide +kernel)
    (hv : Vis X.env.scope x := by first | exact Or.inl rfl | exact Or.inr (Or.inl rfl) | exact Or.inr (Or.inr rfl)) (hd : (x == ("__debug__" : Str)) = false := by decide) (hcd : (x == ("__classdict__" : Str)) = false := by decide)
    (hst : starEach (e :: es) X.env = (false, eval e X.env) :: starEach es X.env := by rfl) (hpl : (backTo cpos (starEach es X.env)).any (·.1) = false := by rfl)
    (ht : eval (.Call (.Attribute (.Name x npos) m apos) (e :: es) [] cpos) X.env = (do
      let ov ← eval (.Name x npos) X.env
      standAt apos.atName
      let (f, first) ← holding [ov] (getMethod ov m pl)
      callWith cpos f first (backTo cpos (starEach (e :: es) X.env)) (backToKw cpos (keywordEach [] X.env))) := by rfl)
    (hs : swapsWith (.Call (.Attribute (.Name x npos) m apos) (e :: es) [] cpos) none pos.line X.env = pure false := by rfl) :
    DS X (.ob o) (.Expr (.Call (.Attribute (.Name x npos) m apos) (e :: es) [] cpos) pos) (fun Df δ => δ.length = o.n + o.fl.length ∧ fMethS i o.n n spec f Df δ) := by
  obtain ⟨fa, fd, ps, F, hm, hb⟩ := G.ex
  refine ⟨ps_ghost (ps_expr (pe_meth (pe_var hN hv hd hcd) c hm F hr hb .nil pass0 ha.pa hst hpl ht) hs), fun E σ H δ Dn Df hl I q ok => ?_⟩
  obtain ⟨hL, q0, q⟩ := q
  obtain ⟨dx, fs, e1, e2, e3, e4, e5, e6⟩ := ob_at I hl
  refine ⟨_, self_at I q0, _, dx, fs, rfl, e1, lookup_out fun p hp e => hno (by rw [← e]; exact e3 p hp), ?_⟩
  refine ha.sim E σ H δ _ _ hl I q fun vs H1 δ1 bs I1 r1 h1 => ?_
  obtain ⟨ds, δ2, I2, r2, hz, h2⟩ := RepWs.force I1 r1 h1
  have hL2 : δ2.length = o.n + o.fl.length := by rw [← I2.len, I.len]; exact hL
  rw [List.append_nil]
  refine meth_put G.mono I2 hl hx hL2 r2 hz h2 fun v H' σf δ' d φ' e hs I' r' hR => ?_
  obtain ⟨hφ, hR⟩ := hR
  rw [← e] at hR
  refine ⟨_, gh_up (hidN_of hh) (by rw [I2.len]; omega) ?_, ok.nx _ H' δ' I' hR⟩
  rw [hs, hφ, List.length_drop, I2.len]
theorem s_methA {kx : Nat} {y : Str} {pos' : Pos} (c : Cls X.K o.C) (G : GoodM X.prog X.w X.K X.mg X.base o.C o.fl false k m n spec) (hr : Room k X.A) (hNd : X.N.Nodup) (ha : DA X (.ob o) (e :: es) f) (hx : o.fx = none := by rfl) (hN : X.N[i]? = some x := by rfl) (hk : X.N[kx]? = some y := by rfl) (hlen : X.N.length = o.n + o.fl.length := by rfl) (hno : m ∉ o.fl := by dsimp only; decide)
    (hh : ((X.N.drop o.n).all fun x => (X.env.scope.names.lookup x).isNone) = true := by decide +kernel) (hok : (Md.ob o).ok kx = true := by rfl)
    (hv : Vis X.env.scope x := by first | exact Or.inl rfl | exact Or.inr (Or.inl rfl) | exact Or.inr (Or.inr rfl)) (hd : (x == ("__debug__" : Str)) = false := by decide) (hcd : (x == ("__classdict__" : Str)) = false := by decide)
    (hst : starEach (e :: es) X.env = (false, eval e X.env) :: starEach es X.env := by rfl) (hpl : (backTo cpos (starEach es X.env)).any (·.1) = false := by rfl)
    (ht : eval (.Call (.Attribute (.Name x npos) m apos) (e :: es) [] cpos) X.env = (do
      let ov ← eval (.Name x npos) X.env
      standAt apos.atName
      let (f, first) ← holding [ov] (getMethod ov m pl)
      callWith cpos f first (backTo cpos (starEach (e :: es) X.env)) (backToKw cpos (keywordEach [] X.env))) := by rfl)
    (hy : Loc X.env.scope y := by first | exact Or.inl rfl | exact Or.inr rfl) (hs : swapsWith (.Call (.Attribute (.Name x npos) m apos) (e :: es) [] cpos) (some (.Name y pos')) pos.line X.env = pure false := by rfl)
    (hfn : X.fn y = true ∨ X.env.scope.names.lookup y = some .local := by first | exact .inl rfl | exact .inr rfl | assumption) :
    DS X (.ob o) (.Assign [.Name y pos'] (.Call (.Attribute (.Name x npos) m apos) (e :: es) [] cpos) pos) (fun Df δ => δ.length = o.n + o.fl.length ∧ fMethA kx i o.n n spec f Df δ) := by
  obtain ⟨fa, fd, ps, F, hm, hb⟩ := G.ex
  refine ⟨ps_ghost (ps_set hNd hk hy (pe_meth (pe_var hN hv hd hcd) c hm F hr hb .nil pass0 ha.pa hst hpl ht) hs hfn), fun E σ H δ Dn Df hl I q ok => ?_⟩
  obtain ⟨hL, q0, q⟩ := q
  obtain ⟨dx, fs, e1, e2, e3, e4, e5, e6⟩ := ob_at I hl
  refine ⟨_, self_at I q0, _, dx, fs, rfl, e1, lookup_out fun p hp e => hno (by rw [← e]; exact e3 p hp), ?_⟩
  refine ha.sim E σ H δ _ _ hl I q fun vs H1 δ1 bs I1 r1 h1 => ?_
  obtain ⟨ds, δ2, I2, r2, hz, h2⟩ := RepWs.force I1 r1 h1
  have hL2 : δ2.length = o.n + o.fl.length := by rw [← I2.len, I.len]; exact hL
  rw [List.append_nil]
  refine meth_put G.mono I2 hl hx hL2 r2 hz h2 fun v H' σf δ' d φ' e hs I' r' hR => ?_
  obtain ⟨hφ, hR⟩ := hR
  rw [← e] at hR
  have hkn : kx < o.n := Nat.le_of_ble_eq_true hok
  have hσ : o.n ≤ σ.length := by rw [I2.len]; omega
  have I3 := I'.setV (i := kx) (by rw [hl]; exact hok) r'
  refine ⟨_, ?_, ok.nx _ H' _ I3 hR⟩
  obtain ⟨g1, g2⟩ := gh_up (σf := σf) (hidN_of hh) hσ (by rw [hs, hφ, List.length_drop, I2.len])
  refine ⟨by rw [List.length_set, List.length_set]; exact g1, fun j z z1 z2 => ?_⟩
  by_cases ej : j = kx
  · subst ej
    rw [List.getElem?_set_self (by rw [g1]; omega), List.getElem?_set_self (by omega)]
  · rw [List.getElem?_set_ne (Ne.symm ej), List.getElem?_set_ne (Ne.symm ej)]
    exact g2 j z z1 z2
end
/-! ### an instance made -/
mutual
/-- no box in it -/
def bfree : D → Bool
  | .box => false
  | .tup ds => bfrees ds
  | .ptp ds => bfrees ds
  | .lst ds => bfrees ds
  | .dk kvs => bfreeK kvs
  | .dt _ => false
  | _ => true
def bfrees : List D → Bool
  | [] => true
  | d :: ds => bfree d && bfrees ds
def bfreeK : List (Key × D) → Bool
  | [] => true
  | p :: ds => bfree p.2 && bfreeK ds
end
mutual
theorem Rep.rebox {K : PySem.W.Frag} {bx bx' : Addr} {H : Hp} : ∀ {d : D} {v : V}, Rep K bx H v d → bfree d = true → Rep K bx' H v d
  | _, _, .non, _ => .non
  | _, _, .bl b, _ => .bl b
  | _, _, .int i, _ => .int i
  | _, _, .str x, _ => .str x
  | _, _, .tup h r, e => .tup h (RepA.rebox r e)
  | _, _, .ptp h z r, e => .ptp h z (RepA.rebox r e)
  | _, _, .lst h r, e => .lst h (RepA.rebox r e)
  | _, _, .dk h r, e => .dk h (RepK.rebox r e)
  | _, _, .dt _ _, e => by cases e
  | _, _, .scr h, _ => .scr h
  | _, _, .box, e => by cases e
theorem RepA.rebox {K : PySem.W.Frag} {bx bx' : Addr} {H : Hp} : ∀ {ds : List D} {vs : List V}, RepA K bx H vs ds → bfrees ds = true → RepA K bx' H vs ds
  | _, _, .nil, _ => .nil
  | _, _, .cons r t, e => by
    rw [bfrees, Bool.and_eq_true] at e
    exact .cons (Rep.rebox r e.1) (RepA.rebox t e.2)
theorem RepK.rebox {K : PySem.W.Frag} {bx bx' : Addr} {H : Hp} : ∀ {ds : List (Key × D)} {vs : List (Key × V)}, RepK K bx H vs ds → bfreeK ds = true → RepK K bx' H vs ds
  | _, _, .nil, _ => .nil
  | _, _, .cons r t, e => by
    rw [bfreeK, Bool.and_eq_true] at e
    exact .cons (Rep.rebox r e.1) (RepK.rebox t e.2)
end
def bfS : Sl → Bool
  | .no => true
  | .val d => bfree d
  | .own _ => false
def rtP (R : D → Prop) (p : D) : Prop := match p with
  | .tup [d, .lst _] => bfree d = true ∧ R d
  | _ => False
theorem rtP_pack {R : D → Prop} {d : D} {δ : DSt} : rtP R (pack d δ) = (bfree d = true ∧ R d) := rfl
/-- x = C(..), and what follows; nn: the local names, mm: the fields -/
def fMake (k nn mm n : Nat) (spec : OSpec) (fa : DTA) (h : DTS) : DTS := fun Df δ => δ.length = nn + mm ∧ fa δ fun bs δ1 => forceL bs δ1 fun ds δ2 => δ2.all bfS = true ∧ bfrees ds = true ∧ ds.length = n ∧
  spec ds (List.replicate mm .no) fun d φ' => d = .non ∧ φ'.length = mm ∧ h ⟨fun _ => False, rtP Df.rt, fun _ => False, fun _ => False⟩ ((δ2.take nn ++ φ').set k (.val .box))
section
variable {X : Cx} {n k nn mm kf : Nat} {f : DTA} {spec : OSpec} {C : Addr} {fl : List Str} {h : DTS}
theorem make_env {K : PySem.W.Frag} {E : EC} {σ : St} {H1 H3 : Hp} {δ : DSt} {p : Addr} {B : Hp} {σf : St} {φ : DSt} (I : EnvR K E σ H1 δ) (hm : E.md = .plain) (hbf : δ.all bfS = true) (hB : B = HH E σ δ H1) (hl : δ.length = nn + mm) (hk : k < nn)
    (J : EnvR K ⟨B, p, .ob ⟨0, C, fl, none⟩, E.T⟩ σf H3 φ) : EnvR K ⟨B, p, .ob ⟨nn, C, fl, none⟩, E.T⟩ ((σ.take nn ++ σf).set k (some (.ref p))) H3 ((δ.take nn ++ φ).set k (.val .box)) := by
  have lD : (δ.take nn).length = nn := by rw [List.length_take]; omega
  have lV : (σ.take nn).length = nn := by rw [List.length_take, I.len]; omega
  have tk : ∀ {α : Type} {l : List α} {i : Nat} {x : α}, (l.take nn)[i]? = some x → i < nn ∧ l[i]? = some x := fun {α l i x} h => by
    rw [List.getElem?_take] at h
    split at h
    · exact ⟨by assumption, h⟩
    · cases h
  have bf : ∀ {i : Nat} {s : Sl}, δ[i]? = some s → bfS s = true := fun {i s} h => List.all_eq_true.mp hbf _ (List.mem_of_getElem? h)
  have atV : ∀ {i : Nat}, i < nn → (σ.take nn ++ σf)[i]? = σ[i]? := fun {i} h => by
    rw [List.getElem?_append_left (by omega), List.getElem?_take, if_pos h]
  have atF : ∀ {i : Nat}, nn ≤ i → (σ.take nn ++ σf)[i]? = σf[i - nn]? := fun {i} h => by
    have := app_at (b := σf) lV (i - nn)
    rw [show nn + (i - nn) = i by omega] at this
    exact this
  have own : ∀ {i : Nat} {d : D}, ((δ.take nn ++ φ).set k (.val .box))[i]? = some (.own d) → nn ≤ i ∧ φ[i - nn]? = some (.own d) := fun {i d} h => by
    rcases get_set h with ⟨_, q⟩ | ⟨_, q⟩
    · cases q
    · rcases app_get lD q with ⟨_, q⟩ | q
      · have := bf (tk q).2
        cases this
      · exact q
  have setF : ∀ {i : Nat}, nn ≤ i → ((σ.take nn ++ σf).set k (some (V.ref p)))[i]? = σf[i - nn]? := fun {i} h => by
    rw [List.getElem?_set_ne (by omega)]; exact atF h
  have hs : Same (HH ⟨B, p, .ob ⟨0, C, fl, none⟩, E.T⟩ σf φ H3) (HH ⟨B, p, .ob ⟨nn, C, fl, none⟩, E.T⟩ ((σ.take nn ++ σf).set k (some (.ref p))) ((δ.take nn ++ φ).set k (.val .box)) H3) := hid_mono (fun a z => by
    rcases z with z | z | ⟨j, d, z1, z2⟩
    · exact .inl ⟨rfl, z.2⟩
    · exact .inr (.inl z)
    · obtain ⟨q1, q2⟩ := own z1
      rw [setF q1] at z2
      exact .inr (.inr ⟨_, d, q2, z2⟩)) fun _ _ _ q => q
  refine ⟨?_, fun j d h => ?_, fun j d h => ?_, fun i j d e a h1 h2 h3 h4 => ?_, J.base.trans hs, J.tmp, fun _ => J.bxT rfl, ?_⟩
  · rw [List.length_set, List.length_set, List.length_append, List.length_append, lV, lD]
    have := J.len
    omega
  · rcases get_set h with ⟨ej, q⟩ | ⟨nej, q⟩
    · cases q
      rw [ej, List.getElem?_set_self (by rw [List.length_append]; omega)]
      exact ⟨_, rfl, .box⟩
    · rcases app_get lD q with ⟨hj, q⟩ | ⟨hj, q⟩
      · obtain ⟨v, h1, h2⟩ := I.val j d (tk q).2
        refine ⟨v, by rw [List.getElem?_set_ne (Ne.symm nej), atV hj]; exact h1, ?_⟩
        have h3 : Rep K p (HH E σ δ H1) v d := Rep.rebox h2 (bf (tk q).2)
        rw [← hB] at h3
        exact (h3.mono J.base).mono hs
      · obtain ⟨v, h1, h2⟩ := J.val _ d q
        exact ⟨v, by rw [setF hj]; exact h1, h2.mono hs⟩
  · obtain ⟨q1, q2⟩ := own h
    obtain ⟨a, h1, h2, h3, h4⟩ := J.own _ d q2
    exact ⟨a, by rw [setF q1]; exact h1, h2.mono rfl hs, h3, fun z => h4 ⟨rfl, z.2⟩⟩
  · obtain ⟨q1, q2⟩ := own h1
    obtain ⟨q3, q4⟩ := own h2
    rw [setF q1] at h3
    rw [setF q3] at h4
    have := J.dis _ _ d e a q2 q4 h3 h4
    omega
  · obtain ⟨dx, fs, q1, q2, q3, q4, q5, q6⟩ := (J.box : ObOk _ _ _ _)
    refine ⟨dx, fs, q1, q2, q3, q4, fun j f v e1 e2 => q5 j f v e1 ?_, fun τ ht => by cases ht⟩
    have e2 : ((σ.take nn ++ σf).set k (some (V.ref p)))[nn + j]? = some (some v) := e2
    rw [setF (by omega)] at e2
    show σf[0 + j]? = _
    rw [show 0 + j = nn + j - nn by omega]
    exact e2
theorem ss_make {y cn : Str} {e : Expr} {es : List Expr} {rest : List Stmt} {p p2 pos pos' : Pos} {fi : Addr} {fd : FuncData} {ps : List Str} (hmo : OMono spec) (M : Mk X.K C fi) (F : FnOk X.prog X.w X.K X.mg X.base CX0 kf fi fd ps (spM X.K C fl false n spec)) (hb : Binds X.K fd ps []) (hr : Room (kf + 1) X.A) (hg : X.mg cn = some (.ref C)) (hfl : fl.length ≤ 900) (hNd : X.N.Nodup)
    (ha : DA X .plain (e :: es) f) (hrest : DSs X (.ob ⟨nn, C, fl, none⟩) rest h) (hmm : fl.length = mm := by rfl) (hlen : X.N.length = nn + mm := by rfl) (hkn : Nat.blt k nn = true := by rfl) (hgl : Gl X cn := by rfl) (hk : X.N[k]? = some y := by rfl)
    (hh : ((X.N.drop nn).all fun x => (X.env.scope.names.lookup x).isNone) = true := by decide +kernel)
    (hdb : (cn == ("__debug__" : Str)) = false := by decide) (he : starEach (e :: es) X.env = (false, eval e X.env) :: starEach es X.env := by rfl) (hpl : (backTo pos (starEach es X.env)).any (·.1) = false := by rfl)
    (hy : Loc X.env.scope y := by first | exact Or.inl rfl | exact Or.inr rfl) (hs : swapsWith (.Call (.Name cn p2) (e :: es) [] pos) (some (.Name y p)) pos'.line X.env = pure false := by rfl)
    (hfn : X.fn y = true ∨ X.env.scope.names.lookup y = some .local := by first | exact .inl rfl | exact .inr rfl | assumption) :
    DSs X .plain (.Assign [.Name y p] (.Call (.Name cn p2) (e :: es) [] pos) pos' :: rest) (fMake k nn mm n spec f h) := by
  have hkn' : k < nn := Nat.le_of_ble_eq_true hkn
  refine ⟨pss_cons (ps_ghost (ps_set hNd hk hy (pe_make M F hr hgl hg hb .nil pass0 ha.pa hdb he hpl) hs hfn)) hrest.pss, fun E σ H δ Dn Df hl I q ok => ?_⟩
  obtain ⟨hL, q⟩ := q
  refine ha.sim E σ H δ _ _ hl I q fun vs H1 δ1 bs I1 r1 h1 => ?_
  obtain ⟨ds, δ2, I2, r2, hbf, hbd, hn, h2⟩ := RepWs.force I1 r1 h1
  have hL2 : δ2.length = nn + mm := by rw [← I2.len, I.len]; exact hL
  have hlv : E.live = false := by show E.md.live = false; rw [hl]; rfl
  show ∀ x dx, H1 x = none → H1 dx = none → dx ≠ x → _
  intro x dx nx ndx nex
  have noown : ∀ (j : Nat) (d : D), δ2[j]? ≠ some (.own d) := fun j d e => by
    have := List.all_eq_true.mp hbf _ (List.mem_of_getElem? e)
    cases this
  have hidE2 : ∀ a, hidP E σ δ2 a → ∃ o, E.T a = some o := fun a z => by
    rcases z with z | z | ⟨j, d, z1, _⟩
    · rw [hlv] at z; cases z.1
    · exact z
    · exact absurd z1 (noown j d)
  have hTx : E.T x = none := by
    cases e : E.T x with
    | none => rfl
    | some o => rw [I2.tmp x o e] at nx; cases nx
  let H2 := upd (upd H1 dx (.own x)) x (.ins C dx [])
  have grow : Same H1 H2 := fun a o e => by
    show upd (upd H1 dx (.own x)) x (.ins C dx []) a = some o
    rw [upd_ne (ne_of_none e nx), upd_ne (ne_of_none e ndx)]; exact e
  let E0' : EC := ⟨HH E σ δ2 H1, x, .ob ⟨0, C, fl, none⟩, E.T⟩
  have sB : Same (HH E σ δ2 H1) (HH E0' (List.replicate mm none) (List.replicate mm .no) H2) := fun a o q => by
    obtain ⟨na, q⟩ := hid_some.mp q
    refine hid_some.mpr ⟨fun z => ?_, grow _ _ q⟩
    rcases z with z | z | ⟨j, d, z1, _⟩
    · have z2 : a = x := z.2
      rw [z2, nx] at q; cases q
    · exact na (.inr (.inl z))
    · rw [List.getElem?_replicate] at z1
      split at z1 <;> cases z1
  have J0 : EnvR X.K E0' (List.replicate mm none) H2 (List.replicate mm .no) := by
    refine ⟨by rw [List.length_replicate, List.length_replicate], fun j d h => ?_, fun j d h => ?_, fun i j d e a h1 => ?_, sB, fun a o e => grow _ _ (I2.tmp a o e), fun _ => hTx, ⟨dx, [], upd_same, .nil, (fun q hq => by cases hq), hfl, fun j f v _ e2 => ?_, fun τ ht => by cases ht⟩⟩
    · rw [List.getElem?_replicate] at h
      split at h <;> cases h
    · rw [List.getElem?_replicate] at h
      split at h <;> cases h
    · rw [List.getElem?_replicate] at h1
      split at h1 <;> cases h1
    · rw [List.getElem?_replicate] at e2
      split at e2 <;> cases e2
  have rA : RepA X.K x (HH E0' (List.replicate mm none) (List.replicate mm .no) H2) vs ds := (RepA.rebox r2 hbd).mono sB
  refine ⟨E0', List.replicate mm none, List.replicate mm .no, ds, vs, none, by rw [List.append_nil], rfl, fun z => (nomatch z), fun _ => rfl, by rw [List.length_replicate]; exact hmm.symm, hn, J0, rA, hmo _ _ _ _ (fun d φ' hR v H3 σf J r' => ?_) h2⟩
  obtain ⟨hd, hφ, hR⟩ := hR
  subst hd
  cases r'
  refine ⟨rfl, ?_⟩
  have I4 := make_env (k := k) I2 hl hbf rfl hL2 hkn' J
  have hσ : nn ≤ σ.length := by rw [I2.len]; omega
  refine ⟨(σ.take nn ++ σf).set k (some (.ref x)), ?_, hrest.sim _ _ H3 _ _ _ rfl I4 hR ⟨fun _ _ _ _ q => q.elim, fun z => (nomatch z), fun _ _ _ _ q => q.elim, fun _ _ _ _ q => q.elim, fun _ σ5 H5 δ5 v d I5 r5 q => ?_⟩⟩
  · obtain ⟨g1, g2⟩ := gh_up (o := ⟨nn, C, fl, none⟩) (σf := σf) (hidN_of hh) hσ (by rw [J.len, hφ, I2.len, hL2]; show mm = nn + mm - nn; omega)
    refine ⟨by rw [List.length_set, List.length_set]; exact g1, fun j z z1 z2 => ?_⟩
    by_cases ej : j = k
    · subst ej
      rw [List.getElem?_set_self (by rw [g1]; omega), List.getElem?_set_self (by omega)]
    · rw [List.getElem?_set_ne (Ne.symm ej), List.getElem?_set_ne (Ne.symm ej)]
      exact g2 j z z1 z2
  · have q : rtP Df.rt (pack d δ5) := q
    rw [rtP_pack] at q
    have sm : Same (HH ⟨HH E σ δ2 H1, x, .ob ⟨nn, C, fl, none⟩, E.T⟩ σ5 δ5 H5) (hid (hidE E) H5) := hid_mono (fun a z => by
      rcases z with z | z
      · rw [hlv] at z; cases z.1
      · exact .inr (.inl z)) fun _ _ _ q => q
    refine ok.rt (by rw [hl]; rfl) H5 v d ⟨I2.base.trans (I5.base.trans sm), I5.tmp, fun z => by rw [hl] at z; cases z⟩ (Rep.rebox (r5.mono sm) q.1) q.2
end
end DL
set_option Elab.async false
set_option linter.all false
set_option maxRecDepth 100000
set_option autoImplicit false
/-! DL, part v: dict comprehensions, get, stores to dicts. -/
namespace DL
open PySem PySem.Spec L2
open PyProof.Rows hiding St
theorem keyS_of {o : Option Key} {k : Key → Prop} (h : keyS o k) : ∃ x, o = some x ∧ k x := by
  cases o with
  | none => exact h.elim
  | some x => exact ⟨x, rfl, h⟩
def dcompD (vs : List Nat) (asg : DAs) (ft : DTT) (fk fv : DTE) : List D → List (Key × D) → DSt → (List (Key × D) → DSt → Prop) → Prop
  | [], acc, δ, R => R acc δ
  | x :: xs, acc, δ, R => asg x δ fun δ1 => ft δ1 fun b δ2 => if b = true then fk δ2 fun kb δ3 => withD δ3 kb fun kd => keyS (keyD kd) fun key => fv δ3 fun bv δ4 => force bv δ4 fun d δ5 => acc.length < 16000000 ∧ dcompD vs asg ft fk fv xs (putD acc key d) (wipeD δ5 vs) R
    else dcompD vs asg ft fk fv xs acc (wipeD δ2 vs) R
def fDComp (vs : List Nat) (fi : DTI) (asg : DAs) (ft : DTT) (fk fv : DTE) : DTE := fun δ R => fi δ fun items δ1 => okW δ1 vs ∧ dcompD vs asg ft fk fv items [] (wipeD δ1 vs) fun ds δ2 => R (.fresh (.dk ds)) (backD δ1 δ2 vs)
theorem dcomp_at {K : PySem.W.Frag} {L : Md} {vs ft : List Nat} {g : TG} {asg : DAs} {tt : TT} {fT : DTT} {tk tv : TE} {fk fv : DTE} (hg : SimG K L g ft asg) (hok : vs.all L.ok = true) (hf : ∀ j ∈ ft, j ∈ vs) (ht : SimT K L tt fT) (hk : SimE K L tk fk) (he : SimE K L tv fv)
    {E : EC} {σ : St} {H1 : Hp} {δ1 : DSt} {R : BV → DSt → Prop} {Q : VK} {J : It} {items : List DL.D} (hl : E.md = L) (I1 : EnvR K E σ H1 δ1) (Y : Yields K E.bx J items (HH E σ δ1 H1))
    (h1 : okW δ1 vs ∧ dcompD vs asg fT fk fv items [] (wipeD δ1 vs) fun ds δ2 => R (.fresh (.dk ds)) (backD δ1 δ2 vs)) (k : ∀ v H' δ' b, EnvR K E σ H' δ' → RepB K E σ H' δ' v b → R b δ' → Q v H') :
    tDc (fun _ H R => R J H) g tt tk tv vs σ H1 Q := by
  obtain ⟨ok, h1⟩ := h1
  have hok' : vs.all E.md.ok = true := by rw [hl]; exact hok
  show ∀ D, H1 D = none → _
  intro D hD
  -- around the block
  have hT : E.T D = none := by
    cases e : E.T D with
    | none => rfl
    | some o => rw [I1.tmp D o e] at hD; cases hD
  let B := HH E σ δ1 H1
  let Ec : List (Key × V) → EC := fun accV => { E with H0 := B, T := upd E.T D (.dK accV) }
  obtain ⟨F0, sB⟩ := (I1.pin).fresh (o := .dK []) hD
  refine ⟨fun i m Hc => m = items.length - i ∧ i ≤ items.length ∧ ∃ (accV : List (Key × V)) (accD : List (Key × DL.D)) (δc : DSt), EnvR K (Ec accV) (L2.wipe σ vs) Hc (wipeD δc vs) ∧ δc.length = σ.length ∧ RepK K E.bx (HH (Ec accV) (L2.wipe σ vs) (wipeD δc vs) Hc) accV accD ∧ (accD.map (·.1)).Nodup ∧
    dcompD vs asg fT fk fv (items.drop i) accD (wipeD δc vs) fun ds δ2 => R (.fresh (.dk ds)) (backD δ1 δ2 vs), ⟨items.length, by omega, Nat.zero_le _, [], [], δ1, F0.wipe vs hok', I1.len.symm, .nil, .nil, by rw [List.drop_zero]; exact h1⟩, ?_⟩
  rintro i m Hc ⟨rfl, hi', accV, accD, δc, Ic, lc, rA, nD0, hc⟩
  obtain ⟨Y1, Y2⟩ := Y (hidP (Ec accV) (L2.wipe σ vs) (wipeD δc vs)) Hc Ic.base fun a z => Ic.hidden z
  by_cases hlt : i < items.length
  · have hx : items[i]? = some items[i] := List.getElem?_eq_getElem hlt
    obtain ⟨go, yl⟩ := Y1 i _ hx
    rw [List.drop_eq_getElem_cons hlt] at hc
    refine .inr ⟨go, fun Hn => ∃ (accV : List (Key × V)) (accD : List (Key × DL.D)) (δc : DSt), EnvR K (Ec accV) (L2.wipe σ vs) Hn (wipeD δc vs) ∧ δc.length = σ.length ∧ RepK K E.bx (HH (Ec accV) (L2.wipe σ vs) (wipeD δc vs) Hn) accV accD ∧ (accD.map (·.1)).Nodup ∧
      dcompD vs asg fT fk fv (items.drop (i + 1)) accD (wipeD δc vs) fun ds δ2 => R (.fresh (.dk ds)) (backD δ1 δ2 vs), fun H' ⟨a, b, c, q⟩ => ⟨items.length - (i + 1), by omega, rfl, hlt, a, b, c, q⟩, fun x H' hy => ?_⟩
    obtain ⟨s1, r1⟩ := yl x H' hy
    have I2 := Ic.same s1
    have rA2 : RepK K E.bx (HH (Ec accV) (L2.wipe σ vs) (wipeD δc vs) H') accV accD := rA.mono (HH_grow s1)
    let E2 : EC := { Ec accV with H0 := HH (Ec accV) (L2.wipe σ vs) (wipeD δc vs) H' }
    have I2' : EnvR K E2 (L2.wipe σ vs) H' (wipeD δc vs) := I2.pin
    have sB2 : Same B E2.H0 := I2.base
    refine hg E2 (L2.wipe σ vs) H' (wipeD δc vs) x _ _ _ hl I2' r1 hc fun σ3 δ3 I3 o3 l3 h3 => ?_
    have ew : L2.wipe σ3 vs = L2.wipe σ vs := (wipe_ext l3 o3 hf).trans (wipe_wipe σ vs)
    have len3 : ∀ {H : Hp} {δ : DSt} {E : EC}, EnvR K E σ3 H δ → δ.length = σ.length := fun {H δ E} J => by
      rw [← J.len, l3, wipe_length]
    refine ⟨ew, ht E2 σ3 H' δ3 _ _ hl I3 h3 fun b H4 δ4 I4 h4 => ?_⟩
    cases b with
    | false =>
      simp only [Bool.false_eq_true, if_false] at h4 ⊢
      have J := I4.wipe vs hok'
      rw [ew] at J
      refine ⟨accV, accD, δ4, J.unbase (E := Ec accV) sB2, len3 I4, ?_, nD0, h4⟩
      exact rA2.mono J.base
    | true =>
      simp only [if_true] at h4 ⊢
      refine hk { E2 with H0 := HH E2 σ3 δ4 H4 } σ3 H4 δ4 _ _ hl I4.pin h4 fun yk Hk δk bk Ik rk hk' => ?_
      obtain ⟨kd, rkd, hk'⟩ := RepW.withD Ik rk.weak hk'
      obtain ⟨key, hkey, hk'⟩ := keyS_of hk'
      have eky := keyD_of rkd hkey
      have Ik2 : EnvR K E2 σ3 Hk δk := Ik.unbase I4.base
      refine he E2 σ3 Hk δk _ _ hl Ik2 hk' fun y H5 δ5 bv I5 r5 h5 => ?_
      obtain ⟨d, δ6, I6, r6, hz, h6⟩ := RepW.force (E := { E2 with H0 := HH E2 σ3 δ5 H5 }) I5.pin r5.weak h5
      have I6' : EnvR K E2 σ3 H5 δ6 := I6.unbase I5.base
      have hD5 : H5 D = some (.dK accV) := I6'.tmp D _ upd_same
      have lA : accV.length = accD.length := rA.length
      refine ⟨accV, key, eky, hD5, by rw [lA]; exact Nat.lt_of_lt_of_le hz (szL (Nat.le_refl _)), ?_⟩
      have J := I6'.wipe vs hok'
      rw [ew] at J
      have J2 : EnvR K (Ec accV) (L2.wipe σ vs) H5 (wipeD δ6 vs) := J.unbase (E := Ec accV) sB2
      have sw : Same (HH E2 σ3 δ6 H5) (HH E2 (L2.wipe σ vs) (wipeD δ6 vs) H5) := by
        rw [← ew]
        exact ((I6'.pin (E := E2)).wipe vs hok').base
      obtain ⟨J3, s3⟩ := EnvR.tset (E := { E with H0 := B }) (o' := .dK (putK accV key y)) hT J2 trivial
      refine ⟨putK accV key y, putD accD key d, δ6, J3, len3 I6', ?_, putD_nodup nD0, h6⟩
      exact RepK.put (Rep.mono s3 (Rep.mono sw r6)) ((rA2.mono J.base).mono s3) nD0
  · have ei : i = items.length := by omega
    subst ei
    rw [List.drop_length] at hc
    refine .inl ⟨Y2, ?_⟩
    have hD2 : Hc D = some (.dK accV) := Ic.tmp D _ upd_same
    -- back: with and without the new list hidden
    have P1 : EnvR K { E with H0 := B, T := upd E.T D (.dK accV) } σ Hc (backD δ1 (wipeD δc vs) vs) := by
      have I1T : EnvR K { E with T := upd E.T D (.dK []) } σ (upd H1 D (.dK [])) δ1 := (I1.fresh hD).1
      have I1U : EnvR K { E with T := upd E.T D (.dK accV) } σ (upd (upd H1 D (.dK [])) D (.dK accV)) δ1 := (EnvR.tset hT I1T trivial).1
      rw [upd_upd] at I1U
      have eB : Same B (HH { E with T := upd E.T D (.dK accV) } σ δ1 (upd H1 D (.dK accV))) := (I1.fresh (o := .dK accV) hD).2
      have eB2 : Same (HH { E with T := upd E.T D (.dK accV) } σ δ1 (upd H1 D (.dK accV))) B := fun a o q => by
        obtain ⟨n, q⟩ := hid_some.mp q
        have na : a ≠ D := fun z => n (.inr (.inl ⟨_, by rw [z]; exact upd_same⟩))
        rw [upd_ne na] at q
        refine hid_some.mpr ⟨fun z => n ?_, q⟩
        rcases z with z | ⟨u, z⟩ | z
        · exact .inl z
        · exact .inr (.inl ⟨u, (upd_ne (H := E.T) (o := .dK accV) na).trans z⟩)
        · exact .inr (.inr z)
      have eB3 : HH { E with T := upd E.T D (.dK accV) } σ δ1 (upd H1 D (.dK accV)) = B := by
        funext a
        cases e : B a with
        | some o => exact eB a o e
        | none =>
          cases e2 : HH { E with T := upd E.T D (.dK accV) } σ δ1 (upd H1 D (.dK accV)) a with
          | none => rfl
          | some o => rw [eB2 a o e2] at e; cases e
      have := EnvR.back (E := { E with T := upd E.T D (.dK accV) }) (δ := wipeD δc vs) hok' I1U ok (by rw [eB3, wipeD_wipeD]; exact Ic) (by rw [wipeD_length]; exact lc)
      rw [eB3] at this
      exact this
    have dropT : ∀ a, hidP { E with H0 := B } σ (backD δ1 (wipeD δc vs) vs) a → hidP { E with H0 := B, T := upd E.T D (.dK accV) } σ (backD δ1 (wipeD δc vs) vs) a := fun a z => by
      rcases z with z | ⟨u, z⟩ | z
      · exact .inl z
      · by_cases e : a = D
        · exact .inr (.inl ⟨_, by rw [e]; exact upd_same⟩)
        · exact .inr (.inl ⟨u, (upd_ne (H := E.T) (o := .dK accV) e).trans z⟩)
      · exact .inr (.inr z)
    have nD : ¬ hidP { E with H0 := B } σ (backD δ1 (wipeD δc vs) vs) D := fun z => by
      rcases z with ⟨z1, z2⟩ | ⟨u, z⟩ | ⟨j, d, z1, z2⟩
      · have q := P1.bxT z1
        have q : upd E.T D (.dK accV) E.bx = none := q
        have z2 : D = E.bx := z2
        rw [← z2, upd_same] at q
        cases q
      · have z : E.T D = some u := z
        rw [hT] at z; cases z
      · obtain ⟨a, q1, q2, q3, q4⟩ := P1.own j d z1
        rw [z2] at q1
        cases q1
        have q3 : upd E.T D (.dK accV) D = none := q3
        rw [upd_same] at q3
        cases q3
    have sT := hid_mono (H := Hc) (H' := Hc) dropT fun _ _ _ q => q
    have P2 : EnvR K { E with H0 := B } σ Hc (backD δ1 (wipeD δc vs) vs) := by
      refine ⟨P1.len, fun j d e => ?_, fun j d e => ?_, P1.dis, P1.base.trans sT, fun a o e => ?_, I1.bxT, P1.box.mono sT⟩
      · obtain ⟨v, h1, h2⟩ := P1.val j d e
        exact ⟨v, h1, h2.mono sT⟩
      · obtain ⟨a, h1, h2, h3, h4⟩ := P1.own j d e
        have h3 : upd E.T D (.dK accV) a = none := h3
        have na : a ≠ D := fun e => by rw [e, upd_same] at h3; cases h3
        rw [upd_ne na] at h3
        exact ⟨a, h1, h2.mono rfl sT, h3, h4⟩
      · have na : a ≠ D := fun z => by
          have e : E.T a = some o := e
          rw [z, hT] at e; cases e
        exact P1.tmp a o ((upd_ne (H := E.T) (o := .dK accV) na).trans e)
    have P3 : EnvR K E σ Hc (backD δ1 (wipeD δc vs) vs) := P2.unbase I1.base
    refine k (.ref D) Hc _ (.fresh (.dk accD)) P3 ⟨D, .dK accV, rfl, hD2, nD, EnvR.unbase (E := { E with T := upd E.T D (.dK accV) }) P1 I1.base, .dk hD2 ?_⟩ hc
    -- the items, seen from outside
    have sW : Same (HH (Ec accV) (L2.wipe σ vs) (wipeD δc vs) Hc) (HH { E with T := upd E.T D (.dK accV) } σ (backD δ1 (wipeD δc vs) vs) Hc) := hid_mono (fun a z => by
      rcases z with z | z | ⟨j, d, z1, z2⟩
      · exact .inl z
      · exact .inr (.inl z)
      · rw [backD_get] at z1
        by_cases hj : j ∈ vs
        · rw [if_pos hj] at z1
          cases q : (wipeD δc vs)[j]? with
          | none => rw [q] at z1; cases z1
          | some t =>
            rw [q] at z1
            exact absurd (Option.some.inj z1) (okW_mem ok j hj d)
        · rw [if_neg hj] at z1
          exact .inr (.inr ⟨j, d, z1, by rw [wipe_get, if_neg hj]; exact z2⟩)) fun _ _ _ q => q
    exact rA.mono sW
theorem sim_dcomp {K : PySem.W.Frag} {L : Md} {vs ft : List Nat} {wi : TI} {fi : DTI} {g : TG} {asg : DAs} {tt : TT} {fT : DTT} {tk tv : TE} {fk fv : DTE} (hi : SimI K L wi fi) (hg : SimG K L g ft asg) (hok : vs.all L.ok = true) (hf : ∀ j ∈ ft, j ∈ vs) (ht : SimT K L tt fT) (hk : SimE K L tk fk) (he : SimE K L tv fv) :
    SimE K L (tDc wi g tt tk tv vs) (fDComp vs fi asg fT fk fv) := fun E σ H δ R Q hl I h k => hi E σ H δ _ _ hl I h fun J H1 δ1 items I1 Y h1 => dcomp_at hg hok hf ht hk he hl I1 Y h1 k
section
variable {X : Cx} {L : Md} {kx elt tg iter : Expr} {ifs : List Expr} {scope : Scope} {own : List (Str × Nat)} {pos : Pos} {wi : TI} {g : TG} {tt : TT} {te : TE} {ft : List Nat} {fi : DTI} {asg : DAs} {fT : DTT} {fk fe : DTE}
theorem d_dc {vs : List Nat} (s : Shared) (H : Hp) (hc : X.calm = true) (hN : X.N.Nodup) (ok : BlkOk X.N X.env.scope scope own) (hi : DI X L tg iter fi)
    (hg : ∀ (s : Shared) (H : Hp) (C : Addr) (cl : List (Str × Addr)) (fp : List Addr), DG (X.blk s H scope (compEnvC scope cl C X.env) fp) L tg ft asg)
    (ht : ∀ (s : Shared) (H : Hp) (C : Addr) (cl : List (Str × Addr)) (fp : List Addr), DTs (X.blk s H scope (compEnvC scope cl C X.env) fp) L ifs fT)
    (hk : ∀ (s : Shared) (H : Hp) (C : Addr) (cl : List (Str × Addr)) (fp : List Addr), DE (X.blk s H scope (compEnvC scope cl C X.env) fp) L kx fk)
    (he : ∀ (s : Shared) (H : Hp) (C : Addr) (cl : List (Str × Addr)) (fp : List Addr), DE (X.blk s H scope (compEnvC scope cl C X.env) fp) L elt fe)
    (hv : own.map (·.2) = vs := by rfl) (hok : (own.map (·.2)).all L.ok = true := by rfl) (hf : (ft.all fun j => (own.map (·.2)).contains j) = true := by rfl) (hs : ∀ x, foldedSetIterable iter X.env x = pure x := by intro _; rfl) : DE X L (.DictComp kx elt [⟨tg, iter, ifs, 0⟩] scope pos) (fDComp vs fi asg fT fk fe) := by
  subst hv
  exact ⟨pe_dc hc hN hi.pi ok (fun s H C cl fp => (hg s H C cl fp).pg) (fun s H C cl fp => (ht s H C cl fp).pts) (fun s H C cl fp => (hk s H C cl fp).pe) (fun s H C cl fp => (he s H C cl fp).pe) hs,
    sim_dcomp hi.sim (hg s H 0 [] []).sim hok (fun j hj => by simpa using List.all_eq_true.mp hf j hj) (ht s H 0 [] []).sim (hk s H 0 [] []).sim (he s H 0 [] []).sim⟩
end
end DL
set_option Elab.async false
set_option linter.all false
set_option maxRecDepth 100000
set_option autoImplicit false
/-! DL, part w: order of data: <, sorted, min, max. -/
namespace DL
open PySem PySem.Spec L2
open PyProof.Rows hiding St
/-- a < b, of alike data -/
def ltD (x y : D) : Bool := PySem.W.dataLt (toPy x) (toPy y)
def leD (x y : D) : Bool := PySem.W.dataLe false toPy x y
def alikeD (x y : D) : Bool := PySem.W.alike (toPy x) (toPy y)
/-- the toPy of lists -/
theorem toPys_map : ∀ ds : List D, toPys ds = ds.map toPy
  | [] => rfl
  | d :: ds => by rw [toPys, toPys_map ds]; rfl
structure OrdD (x y : D) : Prop where
  sx : ShD x
  sy : ShD y
  al : alikeD x y = true
  nn : toPy x ≠ .none
theorem shaped_depth {d : PyData} (h : SeqAt.shaped d = true) : d.depth ≤ 64 := by
  unfold SeqAt.shaped at h
  simp only [Bool.and_eq_true, decide_eq_true_eq] at h
  omega
section
variable {X : Cx}
def rLtA (K : PySem.W.Frag) (neg sw : Bool) : R2 := fun x y H Q => ∃ d e, Dp K H x d ∧ Dp K H y e ∧ PySem.W.alike d e = true ∧ d ≠ .none ∧ d.depth ≤ 64 ∧ Q (.bl (if neg = true then !(if sw = true then PySem.W.dataLt e d else PySem.W.dataLt d e) else (if sw = true then PySem.W.dataLt e d else PySem.W.dataLt d e))) H
theorem op_ltA (hu : X.A.units + 65 < cLine) : OpR X (compareOp .Lt) (rLtA X.K false false) := by
  intro pins s σ H x y v u Q I rx ry ⟨d, e, hd, he, ha, hn, hz, q⟩
  obtain ⟨as, r1⟩ := Dp.reads I d x v hd rx
  obtain ⟨bs, r2⟩ := Dp.reads I e y u he ry
  exact PySem.W.lt_data r1 r2 ha hn (Nat.lt_of_le_of_lt (Nat.add_le_add_left (Nat.le_trans (Nat.min_le_left _ _) hz) _) (by omega)) ⟨.bl _, H, I, rfl, q⟩
theorem op_gtA (hu : X.A.units + 65 < cLine) : OpR X (compareOp .Gt) (rLtA X.K false true) := by
  intro pins s σ H x y v u Q I rx ry ⟨d, e, hd, he, ha, hn, hz, q⟩
  obtain ⟨as, r1⟩ := Dp.reads I d x v hd rx
  obtain ⟨bs, r2⟩ := Dp.reads I e y u he ry
  exact PySem.W.gt_data r1 r2 ha hn (Nat.lt_of_le_of_lt (Nat.add_le_add_left (Nat.le_trans (Nat.min_le_left _ _) hz) _) (by omega)) ⟨.bl _, H, I, rfl, q⟩
theorem op_leA (hu : X.A.units + 65 < cLine) : OpR X (compareOp .LtE) (rLtA X.K true true) := by
  intro pins s σ H x y v u Q I rx ry ⟨d, e, hd, he, ha, hn, hz, q⟩
  obtain ⟨as, r1⟩ := Dp.reads I d x v hd rx
  obtain ⟨bs, r2⟩ := Dp.reads I e y u he ry
  exact PySem.W.le_data r1 r2 ha hn (Nat.lt_of_le_of_lt (Nat.add_le_add_left (Nat.le_trans (Nat.min_le_left _ _) hz) _) (by omega)) ⟨.bl _, H, I, rfl, q⟩
theorem op_geA (hu : X.A.units + 65 < cLine) : OpR X (compareOp .GtE) (rLtA X.K true false) := by
  intro pins s σ H x y v u Q I rx ry ⟨d, e, hd, he, ha, hn, hz, q⟩
  obtain ⟨as, r1⟩ := Dp.reads I d x v hd rx
  obtain ⟨bs, r2⟩ := Dp.reads I e y u he ry
  exact PySem.W.ge_data r1 r2 ha hn (Nat.lt_of_le_of_lt (Nat.add_le_add_left (Nat.le_trans (Nat.min_le_left _ _) hz) _) (by omega)) ⟨.bl _, H, I, rfl, q⟩
/-- x < y of data: neg: not so; sw: y < x -/
def gOrd (neg sw : Bool) (x y : D) (R : BV → Prop) : Prop := OrdD x y ∧ R (.val (.bl (if neg = true then !(if sw = true then ltD y x else ltD x y) else (if sw = true then ltD y x else ltD x y))))
theorem dop_ord {K : PySem.W.Frag} {neg sw : Bool} : DOp K (rLtA K neg sw) (gOrd neg sw) := fun E σ H δ x y dx dy R Q I rx ry ⟨o, q⟩ k =>
  ⟨_, _, (rx.rep (hid_same _ _)).dp o.sx.lay, (ry.rep (hid_same _ _)).dp o.sy.lay, o.al, o.nn, shaped_depth o.sx, k _ _ (.val _) I (Rep.bl _) q⟩
def gLtA (x y : D) (R : BV → Prop) : Prop := gLt x y R ∨ gOrd false false x y R
def gGtA (x y : D) (R : BV → Prop) : Prop := gGt x y R ∨ gOrd false true x y R
def gLeA (x y : D) (R : BV → Prop) : Prop := gLe x y R ∨ gOrd true true x y R
def gGeA (x y : D) (R : BV → Prop) : Prop := gGe x y R ∨ gOrd true false x y R
theorem o_ltA (hu : X.A.units + 65 < cLine) : OpR X (compareOp .Lt) (fun x y H Q => rLtD x y H Q ∨ rLtA X.K false false x y H Q) ∧ DOp X.K (fun x y H Q => rLtD x y H Q ∨ rLtA X.K false false x y H Q) gLtA :=
  ⟨o_lt.1.or (op_ltA hu), DOp.or o_lt.2 dop_ord⟩
theorem o_gtA (hu : X.A.units + 65 < cLine) : OpR X (compareOp .Gt) (fun x y H Q => rI0 (fun i j => .bl (decide (j < i))) x y H Q ∨ rLtA X.K false true x y H Q) ∧ DOp X.K (fun x y H Q => rI0 (fun i j => .bl (decide (j < i))) x y H Q ∨ rLtA X.K false true x y H Q) gGtA :=
  ⟨o_gt.1.or (op_gtA hu), DOp.or o_gt.2 dop_ord⟩
theorem o_leA (hu : X.A.units + 65 < cLine) : OpR X (compareOp .LtE) (fun x y H Q => rI0 (fun i j => .bl (decide (i ≤ j))) x y H Q ∨ rLtA X.K true true x y H Q) ∧ DOp X.K (fun x y H Q => rI0 (fun i j => .bl (decide (i ≤ j))) x y H Q ∨ rLtA X.K true true x y H Q) gLeA :=
  ⟨o_le.1.or (op_leA hu), DOp.or o_le.2 dop_ord⟩
theorem o_geA (hu : X.A.units + 65 < cLine) : OpR X (compareOp .GtE) (fun x y H Q => rI0 (fun i j => .bl (decide (j ≤ i))) x y H Q ∨ rLtA X.K true false x y H Q) ∧ DOp X.K (fun x y H Q => rI0 (fun i j => .bl (decide (j ≤ i))) x y H Q ∨ rLtA X.K true false x y H Q) gGeA :=
  ⟨o_ge.1.or (op_geA hu), DOp.or o_ge.2 dop_ord⟩
/-! ### sorted -/
/-- data that can be sorted together -/
structure SrtD (ds : List D) : Prop where
  sh : ∀ d ∈ ds, ShD d
  al : ∀ d ∈ ds, ∀ e ∈ ds, alikeD d e = true
  kd : PySem.W.Sortable (ds.map toPy)
def sortD (ds : List D) : List D := ds.mergeSort leD
def rSortA (K : PySem.W.Frag) : List V → Hp → VK → Prop := fun vs H Q => ∃ (a : Addr) (xs : List V) (ps : List PyData), vs = [V.ref a] ∧ SqL K H a xs ∧ Paired (fun v d => Dp K H v d) xs ps ∧ PySem.W.AllAlike ps ∧ PySem.W.Sortable ps ∧ (∀ d ∈ ps, d.depth ≤ 64) ∧
  ∀ p, H p = none → Q (.ref p) (upd H p (.lst (((xs.zip ps).mergeSort (PySem.W.dataLe false Prod.snd)).map Prod.fst)))
theorem each_rel {K : PySem.W.Frag} {H : Hp} {pins : List (Addr × Obj)} {σ : St} {s : Shared} (hK : K = X.K) (I : Inv X pins σ H s) : ∀ {xs : List V} {its : List Value} {ps : List PyData}, Vals xs its → Paired (fun v d => Dp K H v d) xs ps →
    PySem.W.EachIs (fun u z => RelV z.1 u) its (xs.zip ps) ∧ PySem.W.EachIs (fun u z => ∃ as, Reads s.heap u z.2 as) its (xs.zip ps)
  | _, _, _, .nil, .nil => ⟨.nil, .nil⟩
  | _, _, _, .cons r t, .cons d e => by
    obtain ⟨h1, h2⟩ := each_rel hK I t e
    subst hK
    exact ⟨.cons r h1, .cons (Dp.reads I _ _ _ d r) h2⟩
theorem each_back : ∀ {out : List Value} {zs : List (V × PyData)}, PySem.W.EachIs (fun u z => RelV z.1 u) out zs → Vals (zs.map Prod.fst) out
  | _, _, .nil => .nil
  | _, _, .cons r t => .cons r (each_back t)
theorem zip_snd' {α β : Type} {F : α → β → Prop} : ∀ {xs : List α} {ys : List β}, Paired F xs ys → (xs.zip ys).map Prod.snd = ys
  | _, _, .nil => rfl
  | _, _, .cons _ t => by rw [List.zip_cons_cons, List.map_cons, zip_snd' t]
theorem cr_sortA (hu : X.A.units + 70 < cLine) : CallR X (.builtin "sorted") (rSortA X.K) := by
  intro pins s σ H vs us Q I r h
  obtain ⟨a, xs, ps, rfl, hs, hp, hal, hk, hz, q⟩ := h
  obtain ⟨u, rfl, ru⟩ := vals1 r
  obtain rfl : u = Value.ref a := ru
  obtain ⟨its, rv, hl, hlen⟩ := I.list hs
  obtain ⟨e1, e2⟩ := each_rel rfl I rv hp
  have hsnd := zip_snd' hp
  have hzl : (xs.zip ps).length = xs.length := by
    have h1 := congrArg List.length hsnd
    rw [List.length_map] at h1
    have h2 := rv.length
    have h3 := e1.length
    omega
  refine PySem.W.sorted_data (bs := xs.zip ps) (enc := Prod.snd) hl.isList e1 e2 (by rw [hsnd]; exact hal) (by rw [hsnd]; exact hk) (by rw [hzl]; exact hlen) (fun b hb => ?_) fun out hol ho => ?_
  · have : b.2 ∈ ps := by rw [← hsnd]; exact List.mem_map_of_mem hb
    have := hz _ this
    omega
  · obtain ⟨n, hn⟩ := sortedAll_at s.heap its out.toArray
    exact ⟨.ref _, upd H (s.heap.objs.size + 1) (.lst (((xs.zip ps).mergeSort (PySem.W.dataLe false Prod.snd)).map Prod.fst)), I.laid (t' := s.toks) (fun _ _ => sortedAll_old) (Nat.le_succ _) ⟨by rw [List.length_map, List.length_mergeSort, hzl]; exact hlen, out, n, each_back ho, hn⟩, rfl, q _ (I.hok.fresh (Nat.le_succ _))⟩
theorem RepA.dps {K : PySem.W.Frag} {bx : Addr} {H : Hp} : ∀ {ds : List D} {vs : List V}, RepA K bx H vs ds → (∀ d ∈ ds, (toPy d).canLay0 = true) → Paired (fun v d => Dp K H v d) vs (ds.map toPy)
  | _, _, .nil, _ => .nil
  | _, _, .cons r t, h => .cons (Rep.dp r (h _ (List.mem_cons_self ..))) (RepA.dps t fun d hd => h d (List.mem_cons_of_mem _ hd))
theorem repA_zip {K : PySem.W.Frag} {bx : Addr} {H : Hp} : ∀ {ds : List D} {vs : List V}, RepA K bx H vs ds → ∀ z ∈ vs.zip ds, Rep K bx H z.1 z.2
  | _, _, .nil, z, hz => by cases hz
  | _, _, .cons r t, z, hz => by
    rcases List.mem_cons.mp hz with rfl | hz
    · exact r
    · exact repA_zip t z hz
theorem repA_of {K : PySem.W.Frag} {bx : Addr} {H : Hp} : ∀ {zs : List (V × D)}, (∀ z ∈ zs, Rep K bx H z.1 z.2) → RepA K bx H (zs.map Prod.fst) (zs.map Prod.snd)
  | [], _ => .nil
  | z :: zs, h => .cons (h z (List.mem_cons_self ..)) (repA_of fun y hy => h y (List.mem_cons_of_mem _ hy))
theorem zip_map_snd {α β γ : Type} (f : β → γ) : ∀ (xs : List α) (ys : List β), xs.zip (ys.map f) = (xs.zip ys).map fun z => (z.1, f z.2)
  | [], _ => rfl
  | _ :: _, [] => rfl
  | x :: xs, y :: ys => by rw [List.map_cons, List.zip_cons_cons, List.zip_cons_cons, List.map_cons, zip_map_snd f xs ys]
def gSortA : List D → (BV → Prop) → Prop
  | [.lst ds], R => SrtD ds ∧ R (.fresh (.lst (sortD ds)))
  | _, _ => False
theorem c_sortA (hu : X.A.units + 70 < cLine) : CallR X (.builtin "sorted") (rSortA X.K) ∧ DCl X.K (rSortA X.K) gSortA := by
  refine ⟨cr_sortA hu, fun E σ H δ vs ds R Q I r q k => ?_⟩
  match ds, r, q with
  | [.lst ds], .cons (@RootR.lst _ _ _ _ aa vs' _ hH rA) .nil, q =>
    obtain ⟨S, q⟩ := q
    have lay : ∀ d ∈ ds, (toPy d).canLay0 = true := fun d hd => (S.sh d hd).lay
    refine ⟨_, _, ds.map toPy, rfl, .inl (.inl hH), RepA.dps (rA.mono (hid_same _ _)) lay, ?_, S.kd, ?_, fun p hp => ?_⟩
    · intro x hx y hy
      obtain ⟨d, hd, rfl⟩ := List.mem_map.mp hx
      obtain ⟨e, he, rfl⟩ := List.mem_map.mp hy
      exact S.al d hd e he
    · intro x hx
      obtain ⟨d, hd, rfl⟩ := List.mem_map.mp hx
      exact shaped_depth (S.sh d hd)
    · have e0 : ((vs'.zip (ds.map toPy)).mergeSort (PySem.W.dataLe false Prod.snd)).map Prod.fst = ((vs'.zip ds).mergeSort fun z w => leD z.2 w.2).map Prod.fst := by
        rw [zip_map_snd, ← List.map_mergeSort (r := fun z w : V × D => leD z.2 w.2) (s := PySem.W.dataLe false Prod.snd) (f := fun z : V × D => (z.1, toPy z.2)) (fun a _ b _ => rfl), List.map_map]
        rfl
      have e1 : ((vs'.zip ds).mergeSort fun z w => leD z.2 w.2).map Prod.snd = sortD ds := by
        rw [List.map_mergeSort (s := leD) (fun a _ b _ => rfl), zip_snd rA.length]; rfl
      rw [e0]
      have hr : RepA X.K E.bx (HH E σ δ H) (((vs'.zip ds).mergeSort fun z w => leD z.2 w.2).map Prod.fst) (sortD ds) := by
        rw [← e1]
        exact repA_of fun z hz => repA_zip rA z (List.mem_mergeSort.mp hz)
      obtain ⟨I2, r2⟩ := I.freshL hp hr
      exact k _ _ _ I2 r2 q
end
end DL
set_option Elab.async false
set_option linter.all false
set_option maxRecDepth 100000
set_option autoImplicit false
/-! DL, part x: dicts stored to and asked, methods without arguments, three names at once, str, list.index. -/
namespace DL
open PySem PySem.Spec L2
open PyProof.Rows hiding St
section
variable {X : Cx}
/-- name = {..} on one line -/
theorem sw_trueD {kx elt : Expr} {gs : List Comprehension} {scope : Scope} {pos py : Pos} {y : Str} {l : Nat} {env : Env} (hk : env.scope.kind = .function) (hy : env.scope.names.lookup y = some .local) (hl : (py.line == pos.line) = true)
    (ha : (scope.names.any fun (n, k) => n == y && (k == .local || k == .cell)) = false) : swapsWith (.DictComp kx elt gs scope pos) (some (.Name y py)) l env = pure true := by
  have ky : env.kindOf y = some .local := hy
  have hb : env.blockKind = .function := by unfold Env.blockKind; rw [hk]; rfl
  unfold swapsWith
  simp only [hb, ky, ha, Expr.pos, hl]
  rfl
theorem ps_setDc {i : Nat} {y : Str} {py : Pos} {kx elt tg iter : Expr} {ifs : List Expr} {scope : Scope} {own : List (Str × Nat)} {pos spos : Pos} {wi : TI} {g : TG} {tt : TT} {tk te : TE} (hc : X.calm = true) (hN : X.N.Nodup) (hy : X.N[i]? = some y) (hyl : X.env.scope.names.lookup y = some .local)
    (hsw : swapsWith (.DictComp kx elt [⟨tg, iter, ifs, 0⟩] scope pos) (some (.Name y py)) spos.line X.env = pure true) (hi : PI X tg iter wi) (ok : BlkOk X.N X.env.scope scope own)
    (hg : ∀ (s : Shared) (H : Hp) (C : Addr) (cl : List (Str × Addr)) (fp : List Addr), PG (X.blk s H scope (compEnvC scope cl C X.env) fp) tg g) (ht : ∀ (s : Shared) (H : Hp) (C : Addr) (cl : List (Str × Addr)) (fp : List Addr), PTs (X.blk s H scope (compEnvC scope cl C X.env) fp) ifs tt)
    (hk : ∀ (s : Shared) (H : Hp) (C : Addr) (cl : List (Str × Addr)) (fp : List Addr), PE (X.blk s H scope (compEnvC scope cl C X.env) fp) kx tk)
    (he : ∀ (s : Shared) (H : Hp) (C : Addr) (cl : List (Str × Addr)) (fp : List Addr), PE (X.blk s H scope (compEnvC scope cl C X.env) fp) elt te) (hs : ∀ x, foldedSetIterable iter X.env x = pure x := by intro _; rfl) :
    PS X (.Assign [.Name y py] (.DictComp kx elt [⟨tg, iter, ifs, 0⟩] scope pos) spos) (tAsg (tDc wi g tt tk te (own.map (·.2))) (gName i)) := by
  refine ⟨fun pins s σ H D I h => ?_⟩
  rw [exec_Assign_Name_used _ _ _ _ hsw]
  refine wpAny_bind (wpAny_standAt (wpAny_bind ?_))
  show wpAny _ X.A (do let _ ← comprehension (.DictComp kx elt [⟨tg, iter, ifs, 0⟩] scope pos) scope X.env (firstIterPos [⟨tg, iter, ifs, 0⟩] pos) newDict false (eval iter X.env) (some (assign (.Name y py) X.env))) _ _ s
  have h : tDc wi g tt tk te (own.map (·.2)) σ H (fun x H1 => gName i x σ H1 D.nx) := h
  refine wpAny_bind (thn (dc_core (Qf := fun _ s' => SP X pins D .next s') hc hN I hi ok hg ht hk he hs h fun L C s' m H' I' q hn f => ?_) fun _ s' hq => wpAny_pure (wpAny_pure hq))
  show wpAny _ _ (assign (.Name y py) X.env (.ref L)) _ _ _
  refine wpAny_assign_Name (store_ok2 (v := V.ref L) I' hN hy (.inl hyl) rfl (fun s2 I2 ⟨a, sb, ha⟩ => ?_) (.inr hyl))
  obtain ⟨f0, f1, f2, f3, f4, f5⟩ := f
  have haC : C ≠ a := by
    rcases ha with z | z
    · rw [z]; exact f1
    · exact fun e => f4 y a z e.symm
  refine ⟨m, hn.sameBut sb haC, fun h3 sb3 => ?_⟩
  exact ⟨_, H', I2.turned (t' := s2.toks) (fun b o hb e => (sb3.2 b hb).trans e) f0 f1 f3 f4 f5, q⟩
end
section
variable {X : Cx} {L : Md} {kx elt tg iter : Expr} {ifs : List Expr} {scope : Scope} {own : List (Str × Nat)} {pos spos py : Pos} {ft : List Nat} {fi : DTI} {asg : DAs} {fT : DTT} {fk fe : DTE} {i : Nat} {y : Str}
theorem s_setDc {vs : List Nat} (s : Shared) (H : Hp) (hc : X.calm = true) (hN : X.N.Nodup) (hy : X.N[i]? = some y) (hyl : X.env.scope.names.lookup y = some .local)
    (hsw : swapsWith (.DictComp kx elt [⟨tg, iter, ifs, 0⟩] scope pos) (some (.Name y py)) spos.line X.env = pure true) (ok : BlkOk X.N X.env.scope scope own) (hi : DI X L tg iter fi)
    (hg : ∀ (s : Shared) (H : Hp) (C : Addr) (cl : List (Str × Addr)) (fp : List Addr), DG (X.blk s H scope (compEnvC scope cl C X.env) fp) L tg ft asg)
    (ht : ∀ (s : Shared) (H : Hp) (C : Addr) (cl : List (Str × Addr)) (fp : List Addr), DTs (X.blk s H scope (compEnvC scope cl C X.env) fp) L ifs fT)
    (hk : ∀ (s : Shared) (H : Hp) (C : Addr) (cl : List (Str × Addr)) (fp : List Addr), DE (X.blk s H scope (compEnvC scope cl C X.env) fp) L kx fk)
    (he : ∀ (s : Shared) (H : Hp) (C : Addr) (cl : List (Str × Addr)) (fp : List Addr), DE (X.blk s H scope (compEnvC scope cl C X.env) fp) L elt fe)
    (hv : own.map (·.2) = vs := by rfl) (hf : (ft.all fun j => (own.map (·.2)).contains j) = true := by rfl) (hs : ∀ x, foldedSetIterable iter X.env x = pure x := by intro _; rfl) (hok : L.ok i = true := by rfl) (hok2 : (own.map (·.2)).all L.ok = true := by rfl) :
    DS X L (.Assign [.Name y py] (.DictComp kx elt [⟨tg, iter, ifs, 0⟩] scope pos) spos) (fSet i (fDComp vs fi asg fT fk fe)) := by
  subst hv
  exact ⟨ps_setDc hc hN hy hyl hsw hi.pi ok (fun s H C cl fp => (hg s H C cl fp).pg) (fun s H C cl fp => (ht s H C cl fp).pts) (fun s H C cl fp => (hk s H C cl fp).pe) (fun s H C cl fp => (he s H C cl fp).pe) hs,
    sim_set hok (sim_dcomp hi.sim (hg s H 0 [] []).sim hok2 (fun j hj => by simpa using List.all_eq_true.mp hf j hj) (ht s H 0 [] []).sim (hk s H 0 [] []).sim (he s H 0 [] []).sim)⟩
end
/-! ### d.get(k), d.get(k, x) -/
def isDk (d : D) : Prop := match d with
  | .dk _ => True
  | _ => False
def getK (d k : D) (R : Option D → Prop) : Prop := match d with
  | .dk kvs => keyS (keyD k) fun key => R (valD kvs key)
  | _ => False
theorem getK_k {kvs : List (Key × D)} {k : D} {R : Option D → Prop} : getK (.dk kvs) k R = keyS (keyD k) fun key => R (valD kvs key) := rfl
theorem isDk_k {kvs : List (Key × D)} : isDk (.dk kvs) = True := rfl
def orD (o : Option D) (x : D) : D := match o with
  | some d => d
  | none => x
def fGet1 (fd fk : DTE) : DTE := fun δ R => fd δ fun b δ1 => withD δ1 b fun dd => isDk dd ∧ fk δ1 fun c δ2 => withD δ2 b fun dd => withD δ2 c fun kd => getK dd kd fun o => R (.val (orD o .non)) δ2
def fGet2 (fd fk fx : DTE) : DTE := fun δ R => fd δ fun b δ1 => withD δ1 b fun dd => isDk dd ∧ fk δ1 fun c δ2 => fx δ2 fun e δ3 => withD δ3 b fun dd => withD δ3 c fun kd => force e δ3 fun xd δ4 => getK dd kd fun o => R (.val (orD o xd)) δ4
section
variable {X : Cx} {L : Md} {o e f : Expr} {apos cpos : Pos} {fd fk fx : DTE}
theorem isD_root {K : PySem.W.Frag} {bx : Addr} {H Hh : Hp} {v : V} {d : D} (r : RootR K bx H Hh v d) (h : isDk d) : ∃ a kvs ds, v = .ref a ∧ d = .dk ds ∧ Rd H a (.dK kvs) ∧ RepK K bx Hh kvs ds := by
  cases r with
  | dk h1 r => exact ⟨_, _, _, rfl, rfl, h1, r⟩
  | _ => exact h.elim
theorem d_get1 (hu : X.A.units + 64 < cLine) (ho : DE X L o fd) (he : DE X L e fk) (hb : attributeBase o "get" X.env (eval o X.env) = eval o X.env := by rfl)
    (hf : ((backTo cpos (starEach [e] X.env)).all (fun x => !x.1) && (backToKw cpos (keywordEach [] X.env)).all (fun x => x.1.isSome) && decide (([e] : List Expr).length + ([] : List Keyword).length + (if ([] : List Keyword).isEmpty then 0 else 1) < 30)) = true := by rfl)
    (hl : (apos.endLine == cpos.line) = true := by rfl) (ht : backTo cpos (starEach [e] X.env) = [(false, eval e X.env)] := by rfl) : DE X L (.Call (.Attribute o "get" apos) [e] [] cpos) (fGet1 fd fk) :=
  ⟨pe_dget1 (by omega) ho.pe he.pe ⟨hb, hf, hl, ht⟩, fun E σ H δ R Q hl I q k => ho.sim E σ H δ _ _ hl I q fun v H1 δ1 b I1 r1 h1 => by
    obtain ⟨d, r2, hdk, h2⟩ := RepW.withD I1 r1.weak h1
    obtain ⟨a, kvs, ds, rfl, rfl, hRd, _⟩ := isD_root r2 hdk
    refine ⟨a, rfl, .inl ⟨kvs, hRd⟩, ?_⟩
    refine he.sim { E with H0 := HH E σ δ1 H1 } σ H1 δ1 _ _ hl I1.pin h2 fun kv H2 δ2 c J2 r3 h3 => ?_
    have I2 := I1.unpin J2
    obtain ⟨dd, r4, h4⟩ := RepW.withD I2 (RepW.keep r1.weak J2) h3
    obtain ⟨kd, r5, h5⟩ := RepW.withD I2 ((RepB.unpin r3 I1.base).weak) h4
    unfold getK at h5
    split at h5
    · rename_i ds2
      cases r4 with
      | dk hR rK =>
        obtain ⟨key, hkey, h6⟩ := keyS_of h5
        have ek := keyD_of r5 hkey
        subst ek
        obtain ⟨g1, g2⟩ := rK.valV key
        refine ⟨_, .inl ⟨_, key, hR, rfl, rfl⟩, ?_⟩
        cases ev : valD ds2 key with
        | none =>
          rw [ev] at h6
          rw [g2 ev]
          exact k _ H2 δ2 (.val _) I2 .non h6
        | some d =>
          rw [ev] at h6
          obtain ⟨v, e1, e2⟩ := g1 d ev
          rw [e1]
          exact k _ H2 δ2 (.val _) I2 e2 h6
    · exact h5.elim⟩
theorem d_get2 (hu : X.A.units + 64 < cLine) (ho : DE X L o fd) (he : DE X L e fk) (hx : DE X L f fx) (hb : attributeBase o "get" X.env (eval o X.env) = eval o X.env := by rfl)
    (hf : ((backTo cpos (starEach [e, f] X.env)).all (fun x => !x.1) && (backToKw cpos (keywordEach [] X.env)).all (fun x => x.1.isSome) && decide (([e, f] : List Expr).length + ([] : List Keyword).length + (if ([] : List Keyword).isEmpty then 0 else 1) < 30)) = true := by rfl)
    (hl : (apos.endLine == cpos.line) = true := by rfl) (ht : backTo cpos (starEach [e, f] X.env) = [(false, eval e X.env), (false, eval f X.env)] := by rfl) : DE X L (.Call (.Attribute o "get" apos) [e, f] [] cpos) (fGet2 fd fk fx) :=
  ⟨pe_dget2 (by omega) ho.pe he.pe hx.pe ⟨hb, hf, hl, ht⟩, fun E σ H δ R Q hl I q k => ho.sim E σ H δ _ _ hl I q fun v H1 δ1 b I1 r1 h1 => by
    obtain ⟨d, r2, hdk, h2⟩ := RepW.withD I1 r1.weak h1
    obtain ⟨a, kvs, ds, rfl, rfl, hRd, _⟩ := isD_root r2 hdk
    refine ⟨a, rfl, .inl ⟨kvs, hRd⟩, ?_⟩
    refine he.sim { E with H0 := HH E σ δ1 H1 } σ H1 δ1 _ _ hl I1.pin h2 fun kv H2 δ2 c J2 r3 h3 => ?_
    have I2 := I1.unpin J2
    have rb2 := RepW.keep (E := E) r1.weak J2
    have rc2 := (RepB.unpin r3 I1.base).weak
    refine hx.sim { E with H0 := HH E σ δ2 H2 } σ H2 δ2 _ _ hl I2.pin h3 fun xv H3 δ3 e J3 r4 h4 => ?_
    have I3 := I2.unpin J3
    obtain ⟨dd, r5, h5⟩ := RepW.withD I3 (RepW.keep (E := E) rb2 J3) h4
    obtain ⟨kd, r6, h6⟩ := RepW.withD I3 (RepW.keep (E := E) rc2 J3) h5
    obtain ⟨xd, δ4, J4, r7, h7⟩ := RepW.force (E := { E with H0 := HH E σ δ3 H3 }) I3.pin ((RepB.unpin r4 I2.base).weak) h6
    have I4 := I3.unpin J4
    unfold getK at h7
    split at h7
    · rename_i ds2
      cases r5 with
      | dk hR rK =>
        obtain ⟨key, hkey, h8⟩ := keyS_of h7
        have ek := keyD_of r6 hkey
        subst ek
        obtain ⟨g1, g2⟩ := (RepK.mono J4.base rK).valV key
        refine ⟨_, .inl ⟨_, key, hR, rfl, rfl⟩, ?_⟩
        cases ev : valD ds2 key with
        | none =>
          rw [ev] at h8
          rw [g2 ev]
          exact k _ H3 δ4 (.val _) I4 r7 h8
        | some d =>
          rw [ev] at h8
          obtain ⟨v, e1, e2⟩ := g1 d ev
          rw [e1]
          exact k _ H3 δ4 (.val _) I4 e2 h8
    · exact h7.elim⟩
end
/-! ### d[k] = v, d an own dict -/
def isOwnK (s : Sl) : Prop := match s with
  | .own (.dk _) => True
  | _ => False
theorem isOwnK_of {s : Sl} (h : isOwnK s) : ∃ kvs, s = .own (.dk kvs) := by
  unfold isOwnK at h
  split at h
  · exact ⟨_, rfl⟩
  · exact h.elim
theorem isOwnK_o {kvs : List (Key × D)} : isOwnK (.own (.dk kvs)) = True := rfl
def putS (s : Sl) (i : Nat) (key : Key) (d : D) (δ : DSt) (k : DSt → Prop) : Prop := match s with
  | .own (.dk kvs) => (kvs.map (·.1)).Nodup ∧ kvs.length < 16000000 ∧ k (δ.set i (.own (.dk (putD kvs key d))))
  | _ => False
theorem putS_o {kvs : List (Key × D)} {i : Nat} {key : Key} {d : D} {δ : DSt} {k : DSt → Prop} : putS (.own (.dk kvs)) i key d δ k = ((kvs.map (·.1)).Nodup ∧ kvs.length < 16000000 ∧ k (δ.set i (.own (.dk (putD kvs key d))))) := rfl
def fSetKey (i : Nat) (fk fe : DTE) : DTS := fun Df δ => fe δ fun b δ1 => isOwnK (look δ1 i) ∧ fk δ1 fun c δ2 => force b δ2 fun d δ3 => withD δ3 c fun kd => keyS (keyD kd) fun key => putS (look δ3 i) i key d δ3 (nxt Df)
section
variable {X : Cx} {L : Md} {e ek : Expr} {fe fk : DTE} {pos ipos npos : Pos} {x : Str} {i : Nat}
theorem s_setkey (hu : X.A.units + 64 < cLine) (he : DE X L e fe) (hk : DE X L ek fk) (hN : X.N[i]? = some x := by rfl) (hv : Vis X.env.scope x := by first | exact Or.inl rfl | exact Or.inr (Or.inl rfl) | exact Or.inr (Or.inr rfl)) (hd : (x == ("__debug__" : Str)) = false := by decide) (hcd : (x == ("__classdict__" : Str)) = false := by decide)
    (hs : swapsWith e (some (.Subscript (.Name x npos) ek ipos)) pos.line X.env = pure false := by rfl) :
    DS X L (.Assign [.Subscript (.Name x npos) ek ipos] e pos) (fSetKey i fk fe) :=
  ⟨ps_dput (by omega) (pe_var hN hv hd hcd) hk.pe he.pe hs, fun E σ H δ Dn Df hl I q ok => he.sim E σ H δ _ _ hl I q fun v H1 δ1 b I1 r1 h1 => by
    obtain ⟨q1, h1⟩ := h1
    obtain ⟨kv0, lk0⟩ := isOwnK_of q1
    obtain ⟨a, hs1, _⟩ := I1.own i _ (look_own lk0)
    refine ⟨_, hs1, hk.sim { E with H0 := HH E σ δ1 H1 } σ H1 δ1 _ _ hl I1.pin h1 fun kv H2 δ2 c J2 r2 h2 => ?_⟩
    have I2 := I1.unpin J2
    obtain ⟨d, δ3, J3, r3, h3⟩ := RepW.force (E := { E with H0 := HH E σ δ2 H2 }) I2.pin (RepW.keep r1.weak J2) h2
    have I3 := I2.unpin J3
    have r2' := RepW.keep (E := E) ((RepB.unpin r2 I1.base).weak) J3
    obtain ⟨kd, r5, h4⟩ := RepW.withD I3 r2' h3
    obtain ⟨key, hkey, h5⟩ := keyS_of h4
    have ek := keyD_of r5 hkey
    subst ek
    unfold putS at h5
    split at h5
    · rename_i kvs lk
      obtain ⟨a2, ha2, hO, _⟩ := I3.own i _ (look_own lk)
      rw [hs1] at ha2
      cases ha2
      cases hO with
      | dk hH rK =>
        obtain ⟨hnd, hlen, h6⟩ := h5
        refine ⟨a, _, rfl, DPut.k hH (by rw [rK.length]; exact Nat.lt_of_lt_of_le hlen (szL (Nat.le_refl _))), ?_⟩
        exact ok.nx σ _ _ (I3.mut (look_own lk) hs1 fun H' Hh e s => .dk e (RepK.put (Rep.mono s r3) (rK.mono s) hnd)) h6
    · exact h5.elim⟩
end
/-! ### methods without arguments -/
section
variable {X : Cx} {o : ObC} {i n k : Nat} {x m : Str} {npos apos pos cpos : Pos} {spec : OSpec} {pl : Sem Bool}
theorem d_meth0 (c : Cls X.K o.C) (G : GoodM X.prog X.w X.K X.mg X.base o.C o.fl true k m 0 spec) (hr : Room k X.A) (hN : X.N[i]? = some x := by rfl) (hlen : X.N.length = o.n + o.fl.length := by rfl) (hno : m ∉ o.fl := by dsimp only; decide)
    (hv : Vis X.env.scope x := by first | exact Or.inl rfl | exact Or.inr (Or.inl rfl) | exact Or.inr (Or.inr rfl)) (hd : (x == ("__debug__" : Str)) = false := by decide) (hcd : (x == ("__classdict__" : Str)) = false := by decide)
    (ht : eval (.Call (.Attribute (.Name x npos) m apos) [] [] pos) X.env = (do
      let ov ← eval (.Name x npos) X.env
      standAt apos.atName
      let (f, first) ← holding [ov] (getMethod ov m pl)
      callWith pos f first (backTo pos (starEach [] X.env)) (backToKw pos (keywordEach [] X.env))) := by rfl) :
    DE X (.ob o) (.Call (.Attribute (.Name x npos) m apos) [] [] pos) (fun δ R => δ.length = o.n + o.fl.length ∧ fMeth i o.n 0 spec fNil δ R) := by
  obtain ⟨fa, fd, ps, F, hm, hb⟩ := G.ex
  refine ⟨pe_meth0 (pe_var hN hv hd hcd) c hm F hr hb .nil pass0 ht, fun E σ H δ R Q hl I q kk => ?_⟩
  obtain ⟨hL, q0, q⟩ := q
  obtain ⟨dx, fs, e1, e2, e3, e4, e5, e6⟩ := ob_at I hl
  refine ⟨_, self_at I q0, _, dx, fs, rfl, e1, lookup_out fun p hp e => hno (by rw [← e]; exact e3 p hp), ?_⟩
  exact meth_pure (vs := []) G.mono I hl hL .nil rfl q.2 fun v H' δ' d φ' e I' r' hR => kk v H' δ' (.val d) I' r' (by rw [e]; exact hR)
theorem s_methS0 (c : Cls X.K o.C) (G : GoodM X.prog X.w X.K X.mg X.base o.C o.fl false k m 0 spec) (hr : Room k X.A) (hx : o.fx = none := by rfl) (hN : X.N[i]? = some x := by rfl) (hlen : X.N.length = o.n + o.fl.length := by rfl) (hno : m ∉ o.fl := by dsimp only; decide)
    (hh : ((X.N.drop o.n).all fun x => (X.env.scope.names.lookup x).isNone) = true := by decide +kernel)
    (hv : Vis X.env.scope x := by first | exact Or.inl rfl | exact Or.inr (Or.inl rfl) | exact Or.inr (Or.inr rfl)) (hd : (x == ("__debug__" : Str)) = false := by decide) (hcd : (x == ("__classdict__" : Str)) = false := by decide)
    (ht : eval (.Call (.Attribute (.Name x npos) m apos) [] [] cpos) X.env = (do
      let ov ← eval (.Name x npos) X.env
      standAt apos.atName
      let (f, first) ← holding [ov] (getMethod ov m pl)
      callWith cpos f first (backTo cpos (starEach [] X.env)) (backToKw cpos (keywordEach [] X.env))) := by rfl)
    (hs : swapsWith (.Call (.Attribute (.Name x npos) m apos) [] [] cpos) none pos.line X.env = pure false := by rfl) :
    DS X (.ob o) (.Expr (.Call (.Attribute (.Name x npos) m apos) [] [] cpos) pos) (fun Df δ => δ.length = o.n + o.fl.length ∧ fMethS i o.n 0 spec fNil Df δ) := by
  obtain ⟨fa, fd, ps, F, hm, hb⟩ := G.ex
  refine ⟨ps_ghost (ps_expr (pe_meth0 (pe_var hN hv hd hcd) c hm F hr hb .nil pass0 ht) hs), fun E σ H δ Dn Df hl I q ok => ?_⟩
  obtain ⟨hL, q0, q⟩ := q
  obtain ⟨dx, fs, e1, e2, e3, e4, e5, e6⟩ := ob_at I hl
  refine ⟨_, self_at I q0, _, dx, fs, rfl, e1, lookup_out fun p hp e => hno (by rw [← e]; exact e3 p hp), ?_⟩
  refine meth_put (vs := []) G.mono I hl hx hL .nil rfl q.2 fun v H' σf δ' d φ' e hs I' r' hR => ?_
  obtain ⟨hφ, hR⟩ := hR
  rw [← e] at hR
  refine ⟨_, gh_up (hidN_of hh) (by rw [I.len]; omega) ?_, ok.nx _ H' δ' I' hR⟩
  rw [hs, hφ, List.length_drop, I.len]
end
/-! ### three names at once -/
def fPar3 (i j l : Nat) (fa : DTA) : DTS := fun Df δ => fa δ fun bs δ1 => forceL bs δ1 fun ds δ2 => match ds with
  | [d, e, f] => Df.nx (((δ2.set i (.val d)).set j (.val e)).set l (.val f))
  | _ => False
section
variable {X : Cx} {L : Md} {a b c : Expr} {pos : Pos}
theorem s_par3 {i j l : Nat} {x y z : Str} {px py pz pt : Pos} {kt k2 pt2} {fa : DTA} (hc : X.calm = true) (hN : X.N.Nodup) (ha : DA X L [a, b, c] fa) (hi : X.N[i]? = some x := by rfl) (hj : X.N[j]? = some y := by rfl) (hl : X.N[l]? = some z := by rfl) (hij : i ≠ j := by decide) (hil : i ≠ l := by decide) (hjl : j ≠ l := by decide)
    (hx : X.env.scope.names.lookup x = some .local := by rfl) (hy : X.env.scope.names.lookup y = some .local := by rfl) (hz : X.env.scope.names.lookup z = some .local := by rfl)
    (hw : swappedStores [.Tuple [.Name x px, .Name y py, .Name z pz] kt pt] (.Tuple [a, b, c] k2 pt2) X.env = pure (some [x, y, z]) := by rfl)
    (hs : swapsWithSole [.Tuple [.Name x px, .Name y py, .Name z pz] kt pt] (.Tuple [a, b, c] k2 pt2) pos.line X.env = pure false := by rfl) (hok : L.ok i = true := by rfl) (hok2 : L.ok j = true := by rfl) (hok3 : L.ok l = true := by rfl) :
    DS X L (.Assign [.Tuple [.Name x px, .Name y py, .Name z pz] kt pt] (.Tuple [a, b, c] k2 pt2) pos) (fPar3 i j l fa) :=
  ⟨ps_par3 hc hN hi hj hl hij hil hjl hx hy hz ha.pa hw hs, fun E σ H δ Dn Df hl I q ok => ha.sim E σ H δ _ _ hl I q fun vs H1 δ1 bs I1 r1 h1 => by
    obtain ⟨ds, δ2, I2, r2, h2⟩ := RepWs.force I1 r1 h1
    match ds, r2, h2 with
    | [d, e, f], .cons ra (.cons rb (.cons rc .nil)), h2 =>
      have I3 : EnvR X.K { E with H0 := HH E σ δ2 H1 } _ H1 _ := I2.pin.setV (i := i) (by show E.md.ok i = true; rw [hl]; exact hok) ra
      have I4 := I3.setV (i := j) (by show E.md.ok j = true; rw [hl]; exact hok2) (rb.mono I3.base)
      have I5 := I4.setV (i := l) (by show E.md.ok l = true; rw [hl]; exact hok3) (rc.mono I4.base)
      exact ⟨_, _, _, rfl, ok.nx _ H1 _ (I5.unbase I2.base) h2⟩⟩
end
/-! ### str(n) -/
def gStr : List D → (BV → Prop) → Prop
  | [.int i], R => i.natAbs.log2 < 1920 ∧ R (.val (.str (toString i : String)))
  | _, _ => False
theorem c_str {X : Cx} : CallR X (.type "str") (fun xs H Q => ∃ i, xs = [.int i] ∧ i.natAbs.log2 < 1920 ∧ Q (.str (toString i : String)) H) ∧ DCl X.K (fun xs H Q => ∃ i, xs = [.int i] ∧ i.natAbs.log2 < 1920 ∧ Q (.str (toString i : String)) H) gStr :=
  ⟨call_str_int, fun E σ H δ vs ds R Q I r q k => by
    match ds, r, q with
    | [.int i], .cons (.int _) .nil, q => exact ⟨i, rfl, q.1, k _ _ (.val _) I (.str _) q.2⟩⟩
/-! ### xs.index(y), xs a list -/
/-- the first place of an equal one -/
def idxD : List D → D → Option Nat
  | [], _ => none
  | x :: xs, y => if eqD x y = true then some 0 else (idxD xs y).map (· + 1)
theorem idxD_spec : ∀ {xs : List D} {y : D} {j : Nat}, idxD xs y = some j → (∃ x, xs[j]? = some x ∧ eqD x y = true) ∧ ∀ (m : Nat) (x : D), m < j → xs[m]? = some x → eqD x y = false
  | x :: xs, y, j, h => by
    unfold idxD at h
    split at h
    · next e =>
      cases h
      exact ⟨⟨x, rfl, e⟩, fun m z hm => absurd hm (Nat.not_lt_zero _)⟩
    · next e =>
      obtain ⟨k, hk, rfl⟩ := Option.map_eq_some_iff.mp h
      obtain ⟨h1, h2⟩ := idxD_spec hk
      refine ⟨h1, fun m z hm hz => ?_⟩
      cases m with
      | zero =>
        cases hz
        exact Bool.eq_false_iff.mpr e
      | succ m => exact h2 m z (by omega) hz
def isL (d : D) : Prop := match d with
  | .lst _ => True
  | _ => False
def idxS (s d : D) (k : Nat → Prop) : Prop := match s with
  | .lst ds => ShD (.lst ds) ∧ ShD d ∧ ∃ j, idxD ds d = some j ∧ k j
  | _ => False
def fIdx (fo fe : DTE) : DTE := fun δ R => fo δ fun b δ1 => withD δ1 b fun s => isL s ∧ fe δ1 fun c δ2 => withD δ2 b fun s => withD δ2 c fun d => idxS s d fun j => R (.val (.int (j : Int))) δ2
section
variable {X : Cx} {L : Md} {e o : Expr} {fe fo : DTE} {pos apos cpos : Pos}
theorem d_index (hu : X.A.units + 65 < cLine) (ho : DE X L o fo) (he : DE X L e fe) (hbase : attributeBase o "index" X.env (eval o X.env) = eval o X.env := by rfl)
    (hfew : ((backTo cpos (starEach [e] X.env)).all (fun x => !x.1) && (backToKw cpos (keywordEach [] X.env)).all (fun x => x.1.isSome)
      && decide ([e].length + ([] : List Keyword).length + (if ([] : List Keyword).isEmpty then 0 else 1) < 30)) = true := by rfl)
    (hline : (apos.endLine == cpos.line) = true := by rfl) (hst : starEach [e] X.env = (false, eval e X.env) :: starEach [] X.env := by rfl) (hplain : (backTo cpos (starEach [] X.env)).any (·.1) = false := by rfl) :
    DE X L (.Call (.Attribute o "index" apos) [e] [] cpos) (fIdx fo fe) :=
  ⟨pe_bm PySem.F.plainAttrs_list PySem.F.slot_list_index PySem.F.type_list_index (mt_indexD hu) ho.pe (pa_cons he.pe pa_nil hst) hbase hfew hline hst hplain, fun E σ H δ R Q hl I q k => ho.sim E σ H δ _ _ hl I q fun v H1 δ1 b I1 r1 h1 => by
    obtain ⟨s, r2, hs, h2⟩ := RepW.withD I1 r1.weak h1
    cases r2 with
    | lst hH _ =>
      refine ⟨tyV_list hH, ?_⟩
      refine he.sim { E with H0 := HH E σ δ1 H1 } σ H1 δ1 _ _ hl I1.pin h2 fun yv H2 δ2 c J2 r3 h3 => ?_
      have I2 := I1.unpin J2
      obtain ⟨s2, r4, h4⟩ := RepW.withD I2 (RepW.keep (E := E) r1.weak J2) h3
      obtain ⟨d, r5, h5⟩ := RepW.withD I2 ((RepB.unpin r3 I1.base).weak) h4
      unfold idxS at h5
      split at h5
      · rename_i ds
        obtain ⟨s1, s2, j, hj, h6⟩ := h5
        obtain ⟨⟨x, hx, hxe⟩, hno⟩ := idxD_spec hj
        refine ⟨_, yv, toPy d, toPys ds, j, toPy x, rfl, rfl, (r4.rep (hid_same _ _)).dp s1.lay, (r5.rep (hid_same _ _)).dp s2.lay, s1, s2, by rw [toPys_map, List.getElem?_map, hx]; rfl, hxe, fun m z hm hz => ?_, k _ H2 δ2 (.val _) I2 (Rep.int _) h6⟩
        rw [toPys_map, List.getElem?_map] at hz
        obtain ⟨y, hy, rfl⟩ := Option.map_eq_some_iff.mp hz
        exact hno m y hm hy
      · exact h5.elim
    | _ => exact hs.elim⟩
end
end DL
set_option Elab.async false
set_option linter.all false
set_option maxRecDepth 100000
set_option autoImplicit false
/-! DL, part y: these readings evaluated. -/
namespace DL
open PySem PySem.Spec L2
open PyProof.Rows hiding St
theorem u70 {k : Nat} {A : Around} (r : Room k A) : A.units + 70 < cLine := by have := r.un; omega
/-! methods, with the number of fields told -/
def fMethL (i nn mm n : Nat) (spec : OSpec) (fa : DTA) : DTE := fun δ R => δ.length = nn + mm ∧ fMeth i nn n spec fa δ R
def fMethSL (i nn mm n : Nat) (spec : OSpec) (fa : DTA) : DTS := fun Df δ => δ.length = nn + mm ∧ fMethS i nn n spec fa Df δ
def fMethAL (k i nn mm n : Nat) (spec : OSpec) (fa : DTA) : DTS := fun Df δ => δ.length = nn + mm ∧ fMethA k i nn n spec fa Df δ
section
variable {X : Cx} {C : Addr} {fl : List Str} {fx : Option (List (Option V))} {e : Expr} {fe : DTE} {st : Stmt} {fs : DTS} {i nn mm n k : Nat} {spec : OSpec} {fa : DTA}
theorem d_methL (h : DE X (.ob ⟨nn, C, fl, fx⟩) e (fun δ R => δ.length = nn + fl.length ∧ fMeth i nn n spec fa δ R)) (hm : fl.length = mm := by rfl) : DE X (.ob ⟨nn, C, fl, fx⟩) e (fMethL i nn mm n spec fa) := by subst hm; exact h
theorem s_methSL (h : DS X (.ob ⟨nn, C, fl, fx⟩) st (fun Df δ => δ.length = nn + fl.length ∧ fMethS i nn n spec fa Df δ)) (hm : fl.length = mm := by rfl) : DS X (.ob ⟨nn, C, fl, fx⟩) st (fMethSL i nn mm n spec fa) := by subst hm; exact h
theorem s_methAL (h : DS X (.ob ⟨nn, C, fl, fx⟩) st (fun Df δ => δ.length = nn + fl.length ∧ fMethA k i nn n spec fa Df δ)) (hm : fl.length = mm := by rfl) : DS X (.ob ⟨nn, C, fl, fx⟩) st (fMethAL k i nn mm n spec fa) := by subst hm; exact h
end
/-! one step each -/
section
variable {δ : DSt} {R : BV → DSt → Prop} {Df : DEnds} {i j J nn mm n k : Nat} {fa fb fc : DTE} {ga : DTA} {spec : OSpec} {fi : DTI} {asg : DAs} {ft : DTT} {h : DTS} {kl : List D → DSt → Prop} {a b c d : DSt → Prop} {rt : D → Prop}
theorem isBx_v : isBx (.val .box) = True := rfl
theorem fFld_eq : fFld i J δ R = (isBx (look δ i) ∧ varS (look δ J) J δ R) := rfl
def methS (spec : OSpec) (nn n : Nat) (ds : List D) (δ2 : DSt) (k : D → DSt → Prop) : Prop := ds.length = n ∧ spec ds (δ2.drop nn) fun d φ' => k d (δ2.take nn ++ φ')
theorem fMethL_eq : fMethL i nn mm n spec ga δ R = (δ.length = nn + mm ∧ isBx (look δ i) ∧ ga δ fun bs δ1 => forceL bs δ1 fun ds δ2 => methS spec nn n ds δ2 fun d δ3 => R (.val d) δ3) := rfl
theorem meth_of {ds : List D} {δ2 : DSt} {k : D → DSt → Prop} (h : spec ds (δ2.drop nn) fun d φ' => k d (δ2.take nn ++ φ')) (hn : ds.length = n := by rfl) : methS spec nn n ds δ2 k := ⟨hn, h⟩
def methP (spec : OSpec) (nn n : Nat) (ds : List D) (δ2 : DSt) (k : D → DSt → Prop) : Prop := ds.length = n ∧ spec ds (δ2.drop nn) fun d φ' => φ'.length = (δ2.drop nn).length ∧ k d (δ2.take nn ++ φ')
theorem fMethSL_i (q : δ.length = nn + mm ∧ isBx (look δ i) ∧ ga δ fun bs δ1 => forceL bs δ1 fun ds δ2 => methP spec nn n ds δ2 fun _ δ3 => nxt Df δ3) : fMethSL i nn mm n spec ga Df δ := q
theorem fMethAL_i (q : δ.length = nn + mm ∧ isBx (look δ i) ∧ ga δ fun bs δ1 => forceL bs δ1 fun ds δ2 => methP spec nn n ds δ2 fun d δ3 => nxt Df (δ3.set k (.val d))) : fMethAL k i nn mm n spec ga Df δ := q
theorem methP_of {ds : List D} {δ2 : DSt} {k : D → DSt → Prop} (h : spec ds (δ2.drop nn) fun d φ' => φ'.length = (δ2.drop nn).length ∧ k d (δ2.take nn ++ φ')) (hn : ds.length = n := by rfl) : methP spec nn n ds δ2 k := ⟨hn, h⟩
theorem fFSet_i (q : fa δ fun b δ1 => isBx (look δ1 i) ∧ store J b δ1 (nxt Df)) : fFSet i J fa Df δ := q
theorem fFSetIx_i (q : fb δ fun b δ1 => isBx (look δ1 i) ∧ isOwnL (look δ1 J) ∧ fa δ1 fun c δ2 => force b δ2 fun d δ3 => asI δ3 c fun k => setS (look δ3 J) J k d δ3 (nxt Df)) : fFSetIx i J fa fb Df δ := q
def makeS (spec : OSpec) (k nn mm n : Nat) (ds : List D) (δ2 : DSt) (h : DTS) (Df : DEnds) : Prop := δ2.all bfS = true ∧ bfrees ds = true ∧ ds.length = n ∧
  spec ds (List.replicate mm .no) fun d φ' => d = .non ∧ φ'.length = mm ∧ h ⟨fun _ => False, rtP (rtt Df), fun _ => False, fun _ => False⟩ ((δ2.take nn ++ φ').set k (.val .box))
theorem fMake_i (q : δ.length = nn + mm ∧ ga δ fun bs δ1 => forceL bs δ1 fun ds δ2 => makeS spec k nn mm n ds δ2 h Df) : fMake k nn mm n spec ga h Df δ := q
theorem fRetO_i (q : fa δ fun b δ1 => force b δ1 fun d δ2 => rtt Df (pack d δ2)) : fRetO fa Df δ := q
theorem fDComp_eq {vs : List Nat} : fDComp vs fi asg ft fa fb δ R = fi δ fun items δ1 => okW δ1 vs ∧ dcompD vs asg ft fa fb items [] (wipeD δ1 vs) fun ds δ2 => R (.fresh (.dk ds)) (backD δ1 δ2 vs) := rfl
theorem dcompD_cons {vs : List Nat} {x : D} {todo : List D} {acc : List (Key × D)} {R : List (Key × D) → DSt → Prop} : dcompD vs asg ft fa fb (x :: todo) acc δ R = asg x δ fun δ1 => ft δ1 fun b δ2 => if b = true then fa δ2 fun kb δ3 => withD δ3 kb fun kd => keyS (keyD kd) fun key => fb δ3 fun bv δ4 => force bv δ4 fun d δ5 => acc.length < 16000000 ∧ dcompD vs asg ft fa fb todo (putD acc key d) (wipeD δ5 vs) R
    else dcompD vs asg ft fa fb todo acc (wipeD δ2 vs) R := rfl
theorem dcompD_nil {vs : List Nat} {acc : List (Key × D)} {R : List (Key × D) → DSt → Prop} : dcompD vs asg ft fa fb [] acc δ R = R acc δ := rfl
theorem fGet1_eq : fGet1 fa fb δ R = fa δ fun b δ1 => withD δ1 b fun dd => isDk dd ∧ fb δ1 fun c δ2 => withD δ2 b fun dd => withD δ2 c fun kd => getK dd kd fun o => R (.val (orD o .non)) δ2 := rfl
theorem fGet2_eq : fGet2 fa fb fc δ R = fa δ fun b δ1 => withD δ1 b fun dd => isDk dd ∧ fb δ1 fun c δ2 => fc δ2 fun e δ3 => withD δ3 b fun dd => withD δ3 c fun kd => force e δ3 fun xd δ4 => getK dd kd fun o => R (.val (orD o xd)) δ4 := rfl
theorem fSetKey_i (q : fb δ fun b δ1 => isOwnK (look δ1 i) ∧ fa δ1 fun c δ2 => force b δ2 fun d δ3 => withD δ3 c fun kd => keyS (keyD kd) fun key => putS (look δ3 i) i key d δ3 (nxt Df)) : fSetKey i fa fb Df δ := q
def parS3 (ds : List D) (i j l : Nat) (δ : DSt) (k : DSt → Prop) : Prop := match ds with
  | [d, e, f] => k (((δ.set i (.val d)).set j (.val e)).set l (.val f))
  | _ => False
theorem parS3_3 {d e f : D} {i j l : Nat} {k : DSt → Prop} : parS3 [d, e, f] i j l δ k = k (((δ.set i (.val d)).set j (.val e)).set l (.val f)) := rfl
theorem fPar3_i {l : Nat} (q : ga δ fun bs δ1 => forceL bs δ1 fun ds δ2 => parS3 ds i j l δ2 (nxt Df)) : fPar3 i j l ga Df δ := q
theorem fEnum_eq : fEnum fa δ kl = fa δ fun b δ1 => force b δ1 fun d δ2 => seqI d fun ds => kl (enumD 0 ds) δ2 := rfl
def zipS (ds : List D) (k : List D → Prop) : Prop := match ds with
  | [x, y] => seqI x fun xs => seqI y fun ys => k (zipD xs ys)
  | _ => False
theorem zipS_2 {x y : D} {k : List D → Prop} : zipS [x, y] k = seqI x fun xs => seqI y fun ys => k (zipD xs ys) := rfl
theorem fZip_eq : fZip ga δ kl = ga δ fun bs δ1 => forceL bs δ1 fun ds δ2 => zipS ds fun zs => kl zs δ2 := rfl
theorem fIdx_eq : fIdx fa fb δ R = fa δ fun b δ1 => withD δ1 b fun s => isL s ∧ fb δ1 fun c δ2 => withD δ2 b fun s => withD δ2 c fun d => idxS s d fun j => R (.val (.int (j : Int))) δ2 := rfl
theorem isL_l {ds : List D} : isL (.lst ds) = True := rfl
theorem rtt_mk5 {x : D} : rtt ⟨a, rt, c, d⟩ x = rt x := rfl
theorem gStr_i {z : Int} {R : BV → Prop} : gStr [.int z] R = (z.natAbs.log2 < 1920 ∧ R (.val (.str (toString z : String)))) := rfl
theorem gAdd_s {x y : Str} {R : BV → Prop} : gAdd (.str x) (.str y) R = (x.length + y.length ≤ 16000000 ∧ R (.val (.str (x ++ y)))) := rfl
theorem gSortA_l {ds : List D} {R : BV → Prop} (h : SrtD ds) (q : R (.fresh (.lst (sortD ds)))) : gSortA [.lst ds] R := ⟨h, q⟩
theorem setS_o {ds : List D} {kk : Int} {d : D} {ks : DSt → Prop} {jj : Nat} (hj : ixN ds.length kk = some jj) (q : ks (δ.set i (.own (.lst (ds.set jj d))))) : setS (.own (.lst ds)) i kk d δ ks := by
  unfold setS
  dsimp only
  rw [hj]
  exact q
end
abbrev EvM (nn n m : Nat) (sp : OSpec) (F : DTS) : Prop := ∀ ds φ R, ds.length = n → φ.length = m → sp ds φ R → F ⟨fun δ => R .non (δ.drop nn), rtO nn R, fun _ => False, fun _ => False⟩ (preD nn (.box :: ds) ++ φ)
theorem preD_cons {n : Nat} {d : D} {ds : List D} : preD (n + 1) (d :: ds) = .val d :: preD n ds := by
  unfold preD
  rw [List.map_cons, List.cons_append, List.length_cons, Nat.add_sub_add_right]
theorem preD_nil {n : Nat} : preD n [] = List.replicate n .no := by unfold preD; rfl
/-- a dict comprehension, by its invariant -/
theorem dcomp_inv {vs : List Nat} {asg : DAs} {ft : DTT} {fk fe : DTE} {R : List (Key × D) → DSt → Prop} (I : List D → List D → List (Key × D) → DSt → Prop)
    (step : ∀ done x todo acc δ (k : List (Key × D) → DSt → Prop), I done (x :: todo) acc δ → (∀ acc' δ', I (done ++ [x]) todo acc' δ' → k acc' δ') →
      asg x δ fun δ1 => ft δ1 fun b δ2 => if b = true then fk δ2 fun kb δ3 => withD δ3 kb fun kd => keyS (keyD kd) fun key => fe δ3 fun bv δ4 => force bv δ4 fun d δ5 => acc.length < 16000000 ∧ k (putD acc key d) (wipeD δ5 vs) else k acc (wipeD δ2 vs)) (fin : ∀ done acc δ, I done [] acc δ → R acc δ) :
    ∀ (todo done : List D) (acc : List (Key × D)) (δ : DSt), I done todo acc δ → dcompD vs asg ft fk fe todo acc δ R
  | [], done, acc, δ, h => fin done acc δ h
  | x :: todo, done, acc, δ, h => step done x todo acc δ (fun a d => dcompD vs asg ft fk fe todo a d R) h fun acc' δ' q => dcomp_inv I step fin todo (done ++ [x]) acc' δ' q
theorem putD_new {key : Key} {d : D} : ∀ {acc : List (Key × D)}, key ∉ acc.map (·.1) → putD acc key d = acc ++ [(key, d)]
  | [], _ => rfl
  | (k, e) :: r, h => by
    rw [List.map_cons, List.mem_cons, not_or] at h
    unfold putD
    rw [if_neg (fun z => h.1 z.symm), putD_new h.2, List.cons_append]
/-- a dict comprehension without a test, all keys unlike -/
theorem dcomp_map {vs : List Nat} {asg : DAs} {ft : DTT} {fk fe : DTE} {R : List (Key × D) → DSt → Prop} {items : List D} {δ0 : DSt} (kf : D → Key) (g : D → D) (hlen : items.length ≤ 16000000) (hnd : (items.map kf).Nodup)
    (step : ∀ x, x ∈ items → ∀ (acc : List (Key × D)) (k : List (Key × D) → DSt → Prop), acc.length < 16000000 → k (putD acc (kf x) (g x)) δ0 →
      asg x δ0 fun δ1 => ft δ1 fun b δ2 => if b = true then fk δ2 fun kb δ3 => withD δ3 kb fun kd => keyS (keyD kd) fun key => fe δ3 fun bv δ4 => force bv δ4 fun d δ5 => acc.length < 16000000 ∧ k (putD acc key d) (wipeD δ5 vs) else k acc (wipeD δ2 vs))
    (fin : R (items.map fun x => (kf x, g x)) δ0) : dcompD vs asg ft fk fe items [] δ0 R := by
  refine dcomp_inv (fun done todo acc δ => items = done ++ todo ∧ acc = done.map (fun x => (kf x, g x)) ∧ δ = δ0) ?_ ?_ items [] [] δ0 ⟨rfl, rfl, rfl⟩
  · rintro done x todo acc δ k ⟨e1, e2, e3⟩ hk
    subst e3
    have hm : x ∈ items := by rw [e1]; exact List.mem_append_right _ (List.mem_cons_self ..)
    have hl : acc.length < 16000000 := by
      have := congrArg List.length e1
      rw [List.length_append, List.length_cons] at this
      rw [e2, List.length_map]; omega
    refine step x hm acc k hl (hk _ _ ⟨by rw [e1, List.append_assoc]; rfl, ?_, rfl⟩)
    rw [putD_new, e2, List.map_append]
    · rfl
    · rw [e2, List.map_map]
      intro hc
      rw [e1, List.map_append, List.nodup_append] at hnd
      exact hnd.2.2 (kf x) (by simpa using hc) (kf x) (by simp) rfl
  · rintro done acc δ ⟨e1, e2, e3⟩
    rw [List.append_nil] at e1
    rw [e2, e3, ← e1]
    exact fin
end DL
set_option Elab.async false
set_option linter.all false
set_option maxRecDepth 100000
set_option autoImplicit false
/-! DL, part z: an own list that is only looked through stays an own one. -/
namespace DL
open PySem PySem.Spec L2
open PyProof.Rows hiding St
/-- data that are no objects -/
def scal : D → Bool
  | .int _ | .bl _ | .non | .str _ => true
  | _ => false
def scB : BV → Prop
  | .val d => scal d = true
  | .fresh (.lst ds) => ds.all scal = true
  | _ => False
/-- own lists besides hold no objects -/
def scS : Sl → Bool
  | .own (.lst ds) => ds.all scal
  | .own _ => false
  | _ => true
theorem Rep.scal {K : PySem.W.Frag} {bx : Addr} {H H' : Hp} {v : V} {d : D} (h : scal d = true) (r : Rep K bx H v d) : Rep K bx H' v d := by
  cases r with
  | non => exact .non
  | bl b => exact .bl b
  | int i => exact .int i
  | str x => exact .str x
  | _ => cases h
theorem RepA.scal {K : PySem.W.Frag} {bx : Addr} {H H' : Hp} : ∀ {ds : List D} {vs : List V}, ds.all DL.scal = true → RepA K bx H vs ds → RepA K bx H' vs ds
  | [], _, _, .nil => .nil
  | d :: ds, _, h, .cons r rs => by
    rw [List.all_cons, Bool.and_eq_true] at h
    exact .cons (r.scal h.1) (RepA.scal h.2 rs)
def thawOk (J : Nat) (δ : DSt) : Prop := ∀ i s, i ≠ J → δ[i]? = some s → scS s = true
theorem EnvR.thaw {K : PySem.W.Frag} {E : EC} {σ : St} {H H' : Hp} {δ : DSt} {J : Nat} {d : D} {T' : Hp} (hb : E.md ≠ .box) (I : EnvR K E σ H δ) (hJ : δ[J]? = some (.own d)) (ok : thawOk J δ)
    (I' : EnvR K { E with H0 := HH E σ (δ.set J (.val d)) H, T := T' } σ H' (δ.set J (.val d))) (hT : ∀ a, (∃ o, E.T a = some o) → ∃ o, T' a = some o) : EnvR K { E with T := T' } σ H' δ := by
  have lt : J < δ.length := (List.getElem?_eq_some_iff.mp hJ).1
  have sub : ∀ x, hidP E σ (δ.set J (.val d)) x → hidP E σ δ x := by
    rintro x (h | h | ⟨i, e, h1, h2⟩)
    · exact .inl h
    · exact .inr (.inl h)
    · have hne : J ≠ i := fun z => by subst z; rw [List.getElem?_set_self lt] at h1; cases h1
      rw [List.getElem?_set_ne hne] at h1
      exact .inr (.inr ⟨i, e, h1, h2⟩)
  -- what was seen is seen
  have hS : Same (HH E σ δ H) (HH { E with T := T' } σ δ H') := by
    intro x o h
    obtain ⟨n, h⟩ := hid_some.mp h
    have h1 : HH E σ (δ.set J (.val d)) H x = some o := hid_some.mpr ⟨fun z => n (sub x z), h⟩
    obtain ⟨n2, h2⟩ := hid_some.mp (I'.base x o h1)
    refine hid_some.mpr ⟨?_, h2⟩
    rintro (z | z | z)
    · exact n (.inl z)
    · exact n2 (.inr (.inl z))
    · exact n (.inr (.inr z))
  obtain ⟨aJ, s1, s2, s3, s4⟩ := I.own J d hJ
  have vJ : ¬ (∃ o, T' aJ = some o) ∧ HH E σ (δ.set J (.val d)) H aJ = H aJ := by
    have n : ¬ hidP E σ (δ.set J (.val d)) aJ := by
      rintro (z | ⟨o, z⟩ | ⟨i, e, h1, h2⟩)
      · exact s4 z
      · rw [s3] at z; cases z
      · have hne : J ≠ i := fun z => by subst z; rw [List.getElem?_set_self lt] at h1; cases h1
        rw [List.getElem?_set_ne hne] at h1
        exact hne (I.dis J i d e aJ hJ h1 s1 h2)
    obtain ⟨o, ho, _⟩ := s2.there
    have h1 : HH E σ (δ.set J (.val d)) H aJ = some o := hid_some.mpr ⟨n, ho⟩
    exact ⟨fun z => (hid_some.mp (I'.base aJ o h1)).1 (.inr (.inl z)), by rw [h1, ho]⟩
  have hH : H' aJ = H aJ := by
    obtain ⟨o, ho, _⟩ := s2.there
    rw [ho]
    exact (hid_some.mp (I'.base aJ o (vJ.2.trans ho))).2
  refine ⟨I.len, fun i e h => ?_, fun i e h => ?_, I.dis, I.base.trans hS, I'.tmp, I'.bxT, ?_⟩
  · obtain ⟨v, h1, h2⟩ := I.val i e h
    exact ⟨v, h1, h2.mono hS⟩
  · by_cases e1 : i = J
    · subst e1
      rw [hJ] at h; cases h
      refine ⟨aJ, s1, s2.mono hH hS, ?_, s4⟩
      show T' aJ = none
      cases hT' : T' aJ with
      | none => rfl
      | some o => exact absurd ⟨o, hT'⟩ vJ.1
    · obtain ⟨a, h1, h2, h3, h4⟩ := I'.own i e (by rw [List.getElem?_set_ne (Ne.symm e1)]; exact h)
      refine ⟨a, h1, ?_, h3, h4⟩
      have hs := ok i _ e1 h
      cases h2 with
      | lst g r => exact .lst g (r.scal hs)
      | dk g r => cases hs
      | dt g r => cases hs
  · have hb' := I'.box
    have : LvOk K E.md E.bx σ (HH { E with H0 := HH E σ (δ.set J (.val d)) H, T := T' } σ (δ.set J (.val d)) H') H' := hb'
    show LvOk K E.md E.bx σ (HH { E with T := T' } σ δ H') H'
    revert this hb
    generalize E.md = md
    intro hb this
    cases md with
    | plain => trivial
    | box => exact absurd rfl hb
    | ob o => exact this
def fThaw (J : Nat) (f : DTE) : DTE := fun δ R => (∃ d, look δ J = .own d) ∧ thawOk J δ ∧ ∀ d, look δ J = .own d → f (δ.set J (.val d)) fun b δ' => δ' = δ.set J (.val d) ∧ scB b ∧ R b δ
theorem d_thaw {X : Cx} {L : Md} {e : Expr} {f : DTE} {J : Nat} (h : DE X L e f) (hL : L ≠ .box := by intro h; cases h) : DE X L e (fThaw J f) := by
  obtain ⟨pe, sim⟩ := h
  refine ⟨pe, fun E σ H δ R Q hl I q k => ?_⟩
  obtain ⟨⟨d, hd⟩, ok, q⟩ := q
  have hJ := look_own hd
  have hb : E.md ≠ .box := fun z => hL (hl.symm.trans z)
  obtain ⟨aJ, hv, _⟩ := I.own J d hJ
  obtain ⟨I0, _⟩ := I.freeze hJ hv
  refine sim { E with H0 := HH E σ (δ.set J (.val d)) H } σ H _ _ Q hl I0.pin (q d hd) fun v' H' δ' b I' r h' => ?_
  obtain ⟨e1, hs, hR⟩ := h'
  subst e1
  have I2 : EnvR X.K E σ H' δ := I.thaw (T' := E.T) hb hJ ok I' fun a z => z
  refine k v' H' δ b I2 ?_ hR
  cases b with
  | val x => exact Rep.scal hs r
  | slot i => cases hs
  | fresh x =>
    obtain ⟨a, o, e1, e2, e3, e4, e5⟩ := r
    cases x with
    | lst ds =>
      have I3 := I.thaw (T' := upd E.T a o) hb hJ ok e4 fun b z => by
        by_cases hz : b = a
        · exact ⟨o, by rw [hz]; exact upd_same⟩
        · obtain ⟨u, z⟩ := z; exact ⟨u, by rw [upd_ne hz]; exact z⟩
      refine ⟨a, o, e1, e2, ?_, I3, ?_⟩
      · rintro (z | z | ⟨i, e, z1, z2⟩)
        · exact e3 (.inl z)
        · exact e3 (.inr (.inl z))
        · by_cases hi : i = J
          · subst hi
            obtain ⟨a', q1, _, q3, _⟩ := I3.own i e z1
            rw [z2] at q1; cases q1
            have q3 : upd E.T a o a = none := q3
            rw [upd_same] at q3; cases q3
          · exact e3 (.inr (.inr ⟨i, e, by rw [List.getElem?_set_ne (Ne.symm hi)]; exact z1, z2⟩))
      · cases e5 with
        | lst g rr => exact .lst g (rr.scal hs)
    | _ => cases hs
theorem fThaw_own {J : Nat} {f : DTE} {δ : DSt} {R : BV → DSt → Prop} {d : D} (h : look δ J = .own d) (ok : thawOk J δ) (q : f (δ.set J (.val d)) fun b δ' => δ' = δ.set J (.val d) ∧ scB b ∧ R b δ) : fThaw J f δ R :=
  ⟨⟨d, h⟩, ok, fun e he => by rw [h] at he; cases he; exact q⟩
end DL
set_option Elab.async false
set_option linter.all false
set_option maxRecDepth 100000
set_option autoImplicit false
/-! DL, part za: tuples that have no dict of their own: made by tuple(..) of a list, and dict(..) of them. -/
namespace DL
open PySem PySem.Spec L2
open PyProof.Rows hiding St
section
variable {X : Cx}
def rTupP (K : PySem.W.Frag) : List V → Hp → VK → Prop := fun xs H Q => ∃ p ys, xs = [.ref p] ∧ SqL K H p ys ∧ ∀ l o, H l = none → o.dict = none → Q (.ref l) (upd H l (.frz o (.tup ys)))
theorem call_tupleP : CallR X (.type "tuple") (rTupP X.K) := by
  intro pins s σ H xs us Q I r h
  obtain ⟨p, ys, rfl, hq, q⟩ := h
  obtain ⟨u, rfl, rx⟩ := vals1 r
  cases rx
  obtain ⟨its, r', pl, hz⟩ := I.list hq
  have hlen := r'.length
  refine call_tuple_list pl.isList (fun h' kp => ?_) (by simp only [List.size_toArray] <;> omega)
  have I1 : Inv X pins σ H { s with heap := h' } := I.kept (t' := s.toks) kp
  have I2 : Inv X pins σ (upd H h'.objs.size (.frz { cls := .type "tuple", data := .seq its.toArray } (.tup ys))) { s with heap := h'.push { cls := .type "tuple", data := .seq its.toArray } } :=
    I1.laid (t' := s.toks) (fun b o e => Heap.get?_push_of_some _ e) (Nat.le_refl _) (show ObjOk X.prog X.w _ _ _ (.frz _ (.tup ys)) from ⟨Heap.get?_push_size _ rfl, hz, its, r', IsTup.new _ _⟩)
  exact ⟨.ref h'.objs.size, _, I2, rfl, q _ _ (I1.hok.fresh (Nat.le_refl _)) rfl⟩
def gTupleP : List D → (BV → Prop) → Prop
  | [.lst ds], R => R (.val (.ptp ds))
  | _, _ => False
theorem EnvR.freshP {K : PySem.W.Frag} {E : EC} {σ : St} {H : Hp} {δ : DSt} (I : EnvR K E σ H δ) {p : Addr} {o : Obj} {vs : List V} {ds : List D} (hp : H p = none) (ho : o.dict = none) (r : RepA K E.bx (HH E σ δ H) vs ds) :
    EnvR K E σ (upd H p (.frz o (.tup vs))) δ ∧ Rep K E.bx (HH E σ δ (upd H p (.frz o (.tup vs)))) (.ref p) (.ptp ds) := by
  obtain ⟨s, I2, hn, e⟩ := I.new (o := .frz o (.tup vs)) hp
  exact ⟨I2, .ptp (.inl (.inr ⟨o, e⟩)) (.inl ⟨o, vs, e, ho⟩) (r.mono (HH_grow s))⟩
theorem c_tupleP : CallR X (.type "tuple") (rTupP X.K) ∧ DCl X.K (rTupP X.K) gTupleP := by
  refine ⟨call_tupleP, fun E σ H δ vs ds R Q I r q k => ?_⟩
  cases r with
  | nil => exact q.elim
  | cons r rr => cases rr with
    | nil => cases r with
      | lst h r =>
        refine ⟨_, _, rfl, .inl (.inl h), fun l o hl ho => ?_⟩
        obtain ⟨I2, r2⟩ := I.freshP hl ho r
        exact k _ _ (.val _) I2 r2 q
      | _ => exact q.elim
    | cons _ _ => cases r <;> exact q.elim
/-! dict of a tuple of pairs -/
theorem nod_at {pins : List (Addr × Obj)} {σ : St} {H : Hp} {s : Shared} {a : Addr} {ys : List V} (I : Inv X pins σ H s) (hq : SqT X.K H a ys) (hz : NoD X.K H a) : ∃ its : List Value, Vals ys its ∧ PySem.PlainSeq "tuple" s.heap a its.toArray ∧ ys.length ≤ sizeLine := by
  obtain ⟨its, r, ⟨o, ho, hc, n, hd⟩, z⟩ := I.tuple hq
  have hdn : o.dict = none := by
    rcases hz with ⟨o', xs, h, d⟩ | ⟨o', h, d⟩
    · have e : s.heap.get? a = some o' := (I.hok a _ h).1
      rw [ho] at e; cases e; exact d
    · have e := I.kIn a o' h
      rw [ho] at e; cases e; exact d
  exact ⟨its, r, ⟨o, n, ho, hc, hdn, hd⟩, z⟩
theorem pairs_of2 {pins : List (Addr × Obj)} {σ : St} {H : Hp} {s : Shared} (I : Inv X pins σ H s) : ∀ {ps : List Addr} {kvs : List (Key × V)}, Paired (fun p kv => SqT X.K H p [kV kv.1, kv.2]) ps kvs →
    ∃ (prs : List (Key × Value)) (qs : List (Value × Value)), KV kvs prs ∧ prs.length = ps.length ∧ qs.length = ps.length ∧ ∀ (j : Nat) (k v : Value), qs[j]? = some (k, v) → ∃ (b : Addr) (key : Key), ps[j]? = some b ∧ IsTup s.heap b #[k, v] ∧ prs[j]? = some (key, v) ∧ keyIs key k = true
  | _, _, .nil => ⟨[], [], .nil, rfl, rfl, fun j k v e => by simp at e⟩
  | _, _, .cons (a := p) (b := kv) h t => by
    obtain ⟨prs, qs, r, hl, hl2, hp⟩ := pairs_of2 I t
    obtain ⟨its, rv, ht, _⟩ := I.tuple h
    obtain ⟨u, y, ei, ru, ry⟩ := vals2 rv
    subst ei
    refine ⟨(kv.1, y) :: prs, (u, y) :: qs, .cons ⟨rfl, ry⟩ r, by rw [List.length_cons, List.length_cons, hl], by rw [List.length_cons, List.length_cons, hl2], fun j k v e => ?_⟩
    cases j with
    | zero =>
      have e' : (u, y) = (k, v) := Option.some.inj e
      cases e'
      exact ⟨p, kv.1, rfl, ht, rfl, kV_is (P := X.prog) (w := X.w) ru⟩
    | succ j =>
      obtain ⟨b, key, e1, e2, e3, e4⟩ := hp j k v (by simpa using e)
      exact ⟨b, key, by simpa using e1, e2, by simpa using e3, e4⟩
def rDictT (K : PySem.W.Frag) : List V → Hp → VK → Prop := fun xs H Q => ∃ (a : Addr) (ps : List Addr) (kvs : List (Key × V)), xs = [.ref a] ∧ SqT K H a (ps.map V.ref) ∧ NoD K H a ∧ Paired (fun p kv => SqT K H p [kV kv.1, kv.2]) ps kvs ∧
    ∀ p, H p = none → Q (.ref p) (upd H p (.dK (mergeK [] kvs)))
theorem call_dictT (hcalm : X.calm = true) : CallR X (.type "dict") (rDictT X.K) := by
  intro pins s σ H xs us Q I r q
  obtain ⟨a, ps, kvs, ex, hq, hnd, hp, q⟩ := q
  subst ex
  obtain ⟨u, eu, rx⟩ := vals1 r
  subst eu
  cases rx
  obtain ⟨its, rv, pl, hz⟩ := nod_at I hq hnd
  have ei := refs_at rv
  subst ei
  rw [List.length_map] at hz
  obtain ⟨prs, qs, rel, hl, hl2, hpr⟩ := pairs_of2 I hp
  refine PySem.call_dict_pairs (knd := mixKind X.prog X.w) (kvs := prs) (PySem.PairArg.tuple a (ps.map Value.ref).toArray (fun j => (ps[j]?).getD 0) qs) (I.ok.hd hcalm) ⟨pl, by simp [hl2], fun j k v e => ?_⟩ ⟨by rw [hl, hl2], fun i key v e => ?_⟩ (by rw [hl2]; exact hz) fun h' tk hd' k => ?_
  · obtain ⟨b, kk, e1, e2, e3, e4⟩ := hpr j k v e
    refine ⟨by simp [e1], ?_⟩
    show PySem.PairAt s.heap ((ps[j]?).getD 0) k v
    rw [e1]
    exact .inl e2
  · obtain ⟨b, kk, e1, e2, e3, e4⟩ := hpr i key v e
    exact ⟨kk, e3, e4⟩
  · have hm : (s.heap.objs.size == sysModules) = false := beq_eq_false_iff_ne.mpr (Nat.ne_of_gt I.big)
    have hlen : (mergeK [] kvs).length ≤ sizeLine := by
      refine Nat.le_trans (length_mergeK kvs []) ?_
      rw [List.length_nil, Nat.zero_add, rel.length, hl]
      exact hz
    exact ⟨.ref s.heap.objs.size, upd H s.heap.objs.size (.dK (mergeK [] kvs)), I.laid (t' := tk) (fun b o e => k b o (by simp) e) (Nat.le_refl _) (show ObjOk X.prog X.w _ _ _ (.dK (mergeK [] kvs)) from ⟨hlen, hm, merged [] prs, KV.merge rel .nil, hd'⟩), rfl, q _ (I.hok.fresh (Nat.le_refl _))⟩
def gDictT : List D → (BV → Prop) → Prop
  | [.ptp ds], R => match entsD ds with
    | some kvs => R (.fresh (.dk (mergeD kvs)))
    | none => False
  | _, _ => False
theorem c_dictT (hc : X.calm = true) : CallR X (.type "dict") (rDictT X.K) ∧ DCl X.K (rDictT X.K) gDictT := by
  refine ⟨call_dictT hc, fun E σ H δ vs ds R Q I r q k => ?_⟩
  cases r with
  | nil => exact q.elim
  | cons r rr => cases rr with
    | nil => cases r with
      | ptp h z r =>
        unfold gDictT at q
        dsimp only at q
        split at q
        · rename_i kvs e
          obtain ⟨ps, ks, rfl, h3, h4⟩ := RepA.ents (hid_same _ _) r e
          refine ⟨_, ps, ks, rfl, Same.sqT (hid_same _ _) h, z.mono (hid_same _ _), h3, fun p hp => ?_⟩
          obtain ⟨I2, r2⟩ := I.freshK hp (RepK.merge h4 .nil List.nodup_nil)
          exact k _ _ _ I2 r2 q
        · exact q.elim
      | _ => exact q.elim
    | cons _ _ => cases r <;> exact q.elim
end
theorem gTupleP_l {xs : List D} {R : BV → Prop} : gTupleP [.lst xs] R = R (.val (.ptp xs)) := rfl
theorem gDictT_of {ds : List D} {kvs : List (Key × D)} {R : BV → Prop} (e : entsD ds = some kvs) (hn : (kvs.map (·.1)).Nodup) (h : R (.fresh (.dk kvs))) : gDictT [.ptp ds] R := by
  have := gDict_of e hn h
  exact this
end DL
set_option Elab.async false
set_option linter.all false
set_option maxRecDepth 100000
set_option autoImplicit false
/-! DL, part zb: x, y = e, (a new object). -/
namespace DL
open PySem PySem.Spec L2
open PyProof.Rows hiding St
/-- two names, the second one's value is new and stays an own object -/
def fParN (i j : Nat) (fa fb : DTE) : DTS := fun Df δ => fa δ fun b δ1 => force b δ1 fun d δ2 => fb δ2 fun c δ3 => match c with
  | .fresh e => Df.nx ((δ3.set i (.val d)).set j (.own e))
  | _ => False
section
variable {X : Cx} {L : Md} {a b : Expr} {fa fb : DTE} {pos : Pos}
theorem s_parN {i j : Nat} {x y : Str} {px py pt : Pos} {kt k2 pt2} (hc : X.calm = true) (hN : X.N.Nodup) (ha : DE X L a fa) (hb : DE X L b fb) (hi : X.N[i]? = some x := by rfl) (hj : X.N[j]? = some y := by rfl) (hij : i ≠ j := by decide)
    (hx : X.env.scope.names.lookup x = some .local := by rfl) (hy : X.env.scope.names.lookup y = some .local := by rfl)
    (hs1 : starEach [a, b] X.env = (false, eval a X.env) :: starEach [b] X.env := by rfl) (hs2 : starEach [b] X.env = (false, eval b X.env) :: starEach [] X.env := by rfl)
    (hw : swappedStores [.Tuple [.Name x px, .Name y py] kt pt] (.Tuple [a, b] k2 pt2) X.env = pure (some [x, y]) := by rfl)
    (hs : swapsWithSole [.Tuple [.Name x px, .Name y py] kt pt] (.Tuple [a, b] k2 pt2) pos.line X.env = pure false := by rfl) (hok : L.ok i = true := by rfl) (hok2 : L.ok j = true := by rfl) :
    DS X L (.Assign [.Tuple [.Name x px, .Name y py] kt pt] (.Tuple [a, b] k2 pt2) pos) (fParN i j fa fb) :=
  ⟨ps_par hc hN hi hj hij hx hy (pa_cons ha.pe (pa_cons hb.pe pa_nil hs2) hs1) hw hs, fun E σ H δ Dn Df hl I q ok => by
    refine ha.sim E σ H δ _ _ hl I q fun v H1 δ1 c I1 r1 h1 => ?_
    obtain ⟨d, δ2, I2, r2, h2⟩ := RepW.force I1 r1.weak h1
    refine hb.sim { E with H0 := HH E σ δ2 H1 } σ H1 δ2 _ _ hl I2.pin h2 fun v' H3 δ3 c3 I3 r3 h3 => ?_
    cases c3 with
    | val _ => exact h3.elim
    | slot _ => exact h3.elim
    | fresh e =>
      obtain ⟨p, o, rfl, e2, e3, e4, e5⟩ := r3
      have ok1 : E.md.ok i = true := by rw [hl]; exact hok
      have ok2 : E.md.ok j = true := by rw [hl]; exact hok2
      have J0 := I3.setV (i := i) (by show E.md.ok i = true; exact ok1) (r2.mono I3.base)
      have J1 := e4.setV (i := i) (by show E.md.ok i = true; exact ok1) (r2.mono e4.base)
      have hn : ¬ hidP { E with H0 := HH E σ δ2 H1 } (σ.set i (some v)) (δ3.set i (.val d)) p := fun z => e3 (hid_set (i := i) (s := .val d) (x := some v) (fun _ z => by cases z) p z)
      have r' := e5.mono rfl (Hh' := HH { E with H0 := HH E σ δ2 H1, T := upd E.T p o } (σ.set i (some v)) (δ3.set i (.val d)) H3) (hid_mono (hid_set (i := i) (s := .val d) (x := some v) fun _ z => by cases z) fun _ _ _ q => q)
      have J2 := EnvR.setO (i := j) (by show E.md.ok j = true; exact ok2) J0 e2 hn J1 r'
      exact ⟨_, _, rfl, ok.nx _ H3 _ (J2.unbase I2.base) h3⟩⟩
/-- the same, where the names are cells: a tuple is made and unpacked -/
theorem s_asgN {i j : Nat} {x y : Str} {px py pt : Pos} {kt k2 pt2} (hc : X.calm = true) (hN : X.N.Nodup) (ha : DE X L a fa) (hb : DE X L b fb) (hi : X.N[i]? = some x := by rfl) (hj : X.N[j]? = some y := by rfl)
    (hx : Loc X.env.scope x := by first | exact Or.inl rfl | exact Or.inr rfl) (hy : Loc X.env.scope y := by first | exact Or.inl rfl | exact Or.inr rfl)
    (hfx : X.fn x = true ∨ X.env.scope.names.lookup x = some .local := by first | exact .inl rfl | exact .inr rfl | assumption) (hfy : X.fn y = true ∨ X.env.scope.names.lookup y = some .local := by first | exact .inl rfl | exact .inr rfl | assumption)
    (hs1 : starEach [a, b] X.env = (false, eval a X.env) :: starEach [b] X.env := by rfl) (hs2 : starEach [b] X.env = (false, eval b X.env) :: starEach [] X.env := by rfl)
    (hs : swapsWithSole [.Tuple [.Name x px, .Name y py] kt pt] (.Tuple [a, b] k2 pt2) pos.line X.env = pure false := by rfl) (hw : swappedStores [.Tuple [.Name x px, .Name y py] kt pt] (.Tuple [a, b] k2 pt2) X.env = pure none := by rfl)
    (h1 : (assignEach [Expr.Tuple [.Name x px, .Name y py] kt pt] X.env).map (·.2) = [assign (.Tuple [.Name x px, .Name y py] kt pt) X.env] := by rfl)
    (hp1 : (assignEach [Expr.Name x px, .Name y py] X.env).map (·.2) = assign (.Name x px) X.env :: (assignEach [Expr.Name y py] X.env).map (·.2) := by rfl) (hp2 : (assignEach [Expr.Name y py] X.env).map (·.2) = assign (.Name y py) X.env :: (assignEach [] X.env).map (·.2) := by rfl)
    (hn : (assignEach [Expr.Name x px, .Name y py] X.env).length = 2 := by rfl) (hst : (assignEach [Expr.Name x px, .Name y py] X.env).findIdx? (·.1) = none := by rfl) (hok : L.ok i = true := by rfl) (hok2 : L.ok j = true := by rfl) :
    DS X L (.Assign [.Tuple [.Name x px, .Name y py] kt pt] (.Tuple [a, b] k2 pt2) pos) (fParN i j fa fb) :=
  ⟨ps_asg (pe_tup (pa_cons ha.pe (pa_cons hb.pe pa_nil hs2) hs1)) (pg_tup hc (pgs_cons (pg_name hN hi hx hfx) (pgs_cons (pg_name hN hj hy hfy) pgs_nil hp2) hp1) hn hst) hs hw h1, fun E σ H δ Dn Df hl I q ok => by
    refine ha.sim E σ H δ _ _ hl I q fun v H1 δ1 c I1 r1 h1 => ?_
    obtain ⟨d, δ2, I2, r2, h2⟩ := RepW.force I1 r1.weak h1
    refine hb.sim { E with H0 := HH E σ δ2 H1 } σ H1 δ2 _ _ hl I2.pin h2 fun v' H3 δ3 c3 I3 r3 h3 => ?_
    cases c3 with
    | val _ => exact h3.elim
    | slot _ => exact h3.elim
    | fresh e =>
      obtain ⟨p, o, rfl, e2, e3, e4, e5⟩ := r3
      have ok1 : E.md.ok i = true := by rw [hl]; exact hok
      have ok2 : E.md.ok j = true := by rw [hl]; exact hok2
      have J0 := I3.setV (i := i) (by show E.md.ok i = true; exact ok1) (r2.mono I3.base)
      have J1 := e4.setV (i := i) (by show E.md.ok i = true; exact ok1) (r2.mono e4.base)
      have hn : ¬ hidP { E with H0 := HH E σ δ2 H1 } (σ.set i (some v)) (δ3.set i (.val d)) p := fun z => e3 (hid_set (i := i) (s := .val d) (x := some v) (fun _ z => by cases z) p z)
      have r' := e5.mono rfl (Hh' := HH { E with H0 := HH E σ δ2 H1, T := upd E.T p o } (σ.set i (some v)) (δ3.set i (.val d)) H3) (hid_mono (hid_set (i := i) (s := .val d) (x := some v) fun _ z => by cases z) fun _ _ _ q => q)
      have J2 := EnvR.setO (i := j) (by show E.md.ok j = true; exact ok2) J0 e2 hn J1 r'
      refine ⟨by show 2 ≤ sizeLine; decide, fun l hl0 => ?_⟩
      have s : Same H3 (upd H3 l (.tup [v, .ref p])) := fun c x e => by rw [L2.upd_ne (ne_of_none e hl0)]; exact e
      refine ⟨l, [v, .ref p], rfl, .inl (.inl upd_same), rfl, ?_⟩
      exact ⟨v, [.ref p], rfl, .ref p, [], rfl, rfl, ok.nx _ _ _ ((J2.unbase I2.base).same s) h3⟩⟩
end
theorem fParN_i {i j : Nat} {fa fb : DTE} {Df : DEnds} {δ : DSt} (q : fa δ fun b δ1 => force b δ1 fun d δ2 => fb δ2 fun c δ3 => match c with
  | .fresh e => nxt Df ((δ3.set i (.val d)).set j (.own e))
  | _ => False) : fParN i j fa fb Df δ := q
end DL
set_option Elab.async false
set_option linter.all false
set_option maxRecDepth 100000
set_option autoImplicit false
/-! DL, part zc: tuple displays whose objects are known to have no dict of their own. -/
namespace DL
open PySem PySem.Spec L2
open PyProof.Rows hiding St
section
variable {X : Cx} {L : Md} {es : List Expr} {t : TA} {f : DTA} {pos : Pos} {x1 : Nat}
def tTupP (t : TA) : TE := fun σ H Q => t σ H fun xs H1 => xs.length ≤ sizeLine ∧ ∀ (p : Addr) (o : Obj), H1 p = none → o.dict = none → Q (.ref p) (upd H1 p (.frz o (.tup xs)))
theorem pe_tupP (h : PA X es t) : PE X (.Tuple es x1 pos) (tTupP t) :=
  ⟨fun pins s σ H Q I hq => wpAny_Tuple_spliced (thn (h.run pos pins s σ H _ I hq) fun us s1 ⟨xs, H1, I1, r, z, q⟩ =>
    ⟨by rw [← r.length]; exact z, .ref s1.heap.objs.size, _,
      I1.laid (t' := s1.toks) (fun b u e => Heap.get?_push_of_some _ e) (Nat.le_refl _) (show ObjOk X.prog X.w _ _ _ (.frz _ (.tup xs)) from ⟨Heap.get?_push_size _ rfl, z, us, r, IsTup.new _ _⟩), rfl,
      q _ _ (I1.hok.fresh (Nat.le_refl _)) rfl⟩)⟩
def fTupP (f : DTA) : DTE := fun δ R => f δ fun bs δ1 => forceL bs δ1 fun ds δ2 => ds.length ≤ 16000000 ∧ R (.val (.ptp ds)) δ2
theorem fTupP_eq {δ : DSt} {R : BV → DSt → Prop} : fTupP f δ R = f δ fun bs δ1 => forceL bs δ1 fun ds δ2 => ds.length ≤ 16000000 ∧ R (.val (.ptp ds)) δ2 := rfl
theorem d_tupP (h : DA X L es f) : DE X L (.Tuple es x1 pos) (fTupP f) :=
  ⟨pe_tupP h.pa, fun E σ H δ R Q hl I q k => h.sim E σ H δ _ _ hl I q fun vs H1 δ1 bs I1 r1 h1 => by
    obtain ⟨ds, δ2, I2, r2, hz, h2⟩ := RepWs.force I1 r1 h1
    refine ⟨by rw [r2.length]; exact szL hz, fun p o hp ho => ?_⟩
    obtain ⟨I3, r3⟩ := I2.freshP hp ho r2
    exact k _ _ δ2 (.val _) I3 r3 h2⟩
end
end DL
set_option Elab.async false
set_option linter.all false
set_option maxRecDepth 100000
set_option autoImplicit false
/-! DL, part zd: index of tuples whose objects have no dict of their own. -/
namespace DL
open PySem PySem.Spec L2
open PyProof.Rows hiding St
section
variable {X : Cx}
/-- a known tuple -/
def tyKT (K : PySem.W.Frag) (x : V) (H : Hp) : Prop := match x with
  | .ref p => (∃ ys, SqT K H p ys) ∧ NoD K H p
  | _ => False
theorem tyKT_is {pins : List (Addr × Obj)} {σ : St} {H : Hp} {s : Shared} {x : V} {v : Value} (J : Inv X pins σ H s) (rv : RelV x v) (ty : tyKT X.K x H) : s.TypeIs v "tuple" ∧ ∀ (a : Addr), v = Value.ref a → ∃ ob, s.heap.get? a = some ob ∧ ob.dict = none := by
  cases x with
  | ref p =>
    obtain ⟨⟨ys, hq⟩, hz⟩ := ty
    cases rv
    obtain ⟨its, _, ⟨o, n, ho, hc, hd, _⟩, _⟩ := nod_at J hq hz
    exact ⟨⟨o, ho, hc⟩, fun a e => by cases e; exact ⟨o, ho, hd⟩⟩
  | _ => exact ty.elim
def tBMN (K : PySem.W.Frag) (r : V → List V → Hp → VK → Prop) (to : TE) (t : TA) : TE := fun σ H Q => to σ H fun x H1 => tyKT K x H1 ∧ t σ H1 fun xs H2 => r x xs H2 Q
theorem pe_bmN {o e : Expr} {es : List Expr} {to : TE} {t : TA} {name : Str} {apos cpos : Pos} {id : String} {r : V → List V → Hp → VK → Prop} (slot : Slot "tuple" name id) (hty : typeOf (.builtin id) = pure (.type "method_descriptor")) (hm : MtR X id r) (po : PE X o to) (pa : PA X (e :: es) t)
    (hbase : attributeBase o name X.env (eval o X.env) = eval o X.env)
    (hfew : ((backTo cpos (starEach (e :: es) X.env)).all (fun x => !x.1) && (backToKw cpos (keywordEach [] X.env)).all (fun x => x.1.isSome)
      && decide ((e :: es).length + ([] : List Keyword).length + (if ([] : List Keyword).isEmpty then 0 else 1) < 30)) = true)
    (hline : (apos.endLine == cpos.line) = true) (hst : starEach (e :: es) X.env = (false, eval e X.env) :: starEach es X.env) (hplain : (backTo cpos (starEach es X.env)).any (·.1) = false) :
    PE X (.Call (.Attribute o name apos) (e :: es) [] cpos) (tBMN X.K r to t) :=
  ⟨fun pins s σ H Q I h => wpAny_Call_method_late hbase hfew hline rfl (thn (po.run pins s σ H _ I h) fun v s1 ⟨x, H1, I1, r1, ty, q1⟩ => by
    obtain ⟨h1, h2⟩ := tyKT_is I1 r1 ty
    have hA := pa.run cpos pins s1 σ H1 _ I1 q1
    rw [hst] at hA ⊢
    exact ⟨"tuple", id, PySem.F.plainAttrs_tuple, slot, hty, h1, h2, Calls.callWith_builtin (show (backTo cpos ((false, eval e X.env) :: starEach es X.env)).any (·.1) = false from (Bool.false_or _).trans hplain) (Calls.evalArgs_plain (thn hA fun us s2 ⟨vs, H2, I2, r2, q2⟩ => hm pins s2 σ H2 x vs v us Q I2 r1 r2 q2))⟩)⟩
/-- the first place of an equal one -/
def rIdxT (K : PySem.W.Frag) : V → List V → Hp → VK → Prop := fun x xs H Q => ∃ (p : Addr) (y : V) (d : PyData) (ds : List PyData) (j : Nat) (z : PyData), x = .ref p ∧ xs = [y] ∧ Dp K H (.ref p) (.tuple ds) ∧ NoD K H p ∧ Dp K H y d ∧
  SeqAt.shaped (.tuple ds) = true ∧ SeqAt.shaped d = true ∧ ds[j]? = some z ∧ PyData.eqv z d = true ∧ (∀ (m : Nat) (c : PyData), m < j → ds[m]? = some c → PyData.eqv c d = false) ∧ Q (.int (j : Nat)) H
theorem mt_idxT (hu : X.A.units + 65 < cLine) : MtR X "tuple.index" (rIdxT X.K) := by
  intro pins s σ H x xs v us Q I rx rxs h
  obtain ⟨p, y, d, ds, j, z, rfl, rfl, hl, hN, hy, hsh, hsd, hz, hit, hno, q⟩ := h
  cases rx
  obtain ⟨uy, rfl, ry⟩ := vals1 rxs
  obtain ⟨bs, rd⟩ := Dp.reads I d y uy hy ry
  have lay : PyData.canLayAll0 ds = true := SeqAt.canLay_of_shaped hsh
  cases hl with
  | tup hs ha =>
    obtain ⟨its, rv, ⟨⟨cls, dd, data, sls⟩, n, ho, hc, hd, hdt⟩, hlen⟩ := nod_at I hs hN
    dsimp only at hc hd hdt
    subst hc hd hdt
    obtain ⟨as, rs⟩ := Dp.readsAll I ds _ its ha rv
    have hm : its.map (SeqAt.readOf s.heap) = ds := SeqAt.readsAll_map ds its as lay rs
    have get : ∀ (m : Nat) (hm' : m < its.toArray.size), ds[m]? = some (SeqAt.readOf s.heap its.toArray[m]) := fun m hm' => by
      have hl' : m < its.length := by simpa using hm'
      rw [← hm, List.getElem?_map, List.getElem?_eq_getElem hl']
      simp
    have hj : j < its.toArray.size := by
      have h1 := (List.getElem?_eq_some_iff.mp hz).1
      rw [← hm, List.length_map] at h1
      simpa using h1
    have e1 : SeqAt.readOf s.heap its.toArray[j] = z := by have := get j hj; rw [hz] at this; exact (Option.some.inj this).symm
    let f : Nat → Bool := fun m => if hm' : m < its.toArray.size then PyData.eqv (SeqAt.readOf s.heap its.toArray[m]) d else false
    have ef : ∀ (m : Nat) (hm' : m < its.toArray.size), f m = PyData.eqv (SeqAt.readOf s.heap its.toArray[m]) d := fun m hm' => by
      exact dif_pos hm'
    have all := SeqAt.items_eqAt (A := X.A) (vs := its.toArray) (show ReadsAll s.heap its.toArray.toList ds as from rs) rd lay (SeqAt.canLay_of_shaped hsd) (room_in_shaped hsd hu)
    refine call_meets PySem.F.slot_tuple_index ⟨_, ho, rfl⟩ PySem.F.entry_tuple_index (PySem.F.args_tuple_index_2 _ _) (SeqAt.tuple_index2_found p its.toArray n none sls uy f j hj (Nat.zero_le _) hj (by rw [ef j hj, e1]; exact hit) fun m hm' _ hmj => by
      rw [ef m hm']; exact hno m _ hmj (get m hm')) ⟨ho, fun m hm' => by rw [ef m hm']; exact all _ (Array.getElem_mem hm'), ?_⟩
    exact ⟨.int (j : Int), H, I.tok _, ⟨_, rfl⟩, q⟩
end
theorem gIx_p {ds : List D} {i : Int} {R : BV → Prop} : gIx (.ptp ds) (.int i) R = ixS (atI ds i) R := by
  show (match atI ds i with | some d => R (.val d) | none => False) = _
  cases atI ds i <;> rfl
theorem gLen_p {ds : List D} {R : BV → Prop} : gLen [.ptp ds] R = R (.val (.int ds.length)) := rfl
/-- index of known tuples -/
def isP (d : D) : Prop := match d with
  | .ptp _ => True
  | _ => False
theorem isP_p {ds : List D} : isP (.ptp ds) = True := rfl
def idxP (s d : D) (k : Nat → Prop) : Prop := match s with
  | .ptp ds => ShD (.ptp ds) ∧ ShD d ∧ ∃ j, idxD ds d = some j ∧ k j
  | _ => False
theorem idxP_of {ds : List D} {d : D} {k : Nat → Prop} (h1 : ShD (.ptp ds)) (h2 : ShD d) {j : Nat} (h3 : idxD ds d = some j) (h4 : k j) : idxP (.ptp ds) d k := ⟨h1, h2, j, h3, h4⟩
def fIdxT (fo fe : DTE) : DTE := fun δ R => fo δ fun b δ1 => withD δ1 b fun s => isP s ∧ fe δ1 fun c δ2 => withD δ2 b fun s => withD δ2 c fun d => idxP s d fun j => R (.val (.int (j : Int))) δ2
theorem fIdxT_eq {fo fe : DTE} {δ : DSt} {R : BV → DSt → Prop} : fIdxT fo fe δ R = fo δ fun b δ1 => withD δ1 b fun s => isP s ∧ fe δ1 fun c δ2 => withD δ2 b fun s => withD δ2 c fun d => idxP s d fun j => R (.val (.int (j : Int))) δ2 := rfl
section
variable {X : Cx} {L : Md} {e o : Expr} {fe fo : DTE} {apos cpos : Pos}
theorem d_indexT (hu : X.A.units + 65 < cLine) (ho : DE X L o fo) (he : DE X L e fe) (hbase : attributeBase o "index" X.env (eval o X.env) = eval o X.env := by rfl)
    (hfew : ((backTo cpos (starEach [e] X.env)).all (fun x => !x.1) && (backToKw cpos (keywordEach [] X.env)).all (fun x => x.1.isSome)
      && decide ([e].length + ([] : List Keyword).length + (if ([] : List Keyword).isEmpty then 0 else 1) < 30)) = true := by rfl)
    (hline : (apos.endLine == cpos.line) = true := by rfl) (hst : starEach [e] X.env = (false, eval e X.env) :: starEach [] X.env := by rfl) (hplain : (backTo cpos (starEach [] X.env)).any (·.1) = false := by rfl) :
    DE X L (.Call (.Attribute o "index" apos) [e] [] cpos) (fIdxT fo fe) :=
  ⟨pe_bmN PySem.F.slot_tuple_index PySem.F.type_tuple_index (mt_idxT hu) ho.pe (pa_cons he.pe pa_nil hst) hbase hfew hline hst hplain, fun E σ H δ R Q hl I q k => ho.sim E σ H δ _ _ hl I q fun v H1 δ1 b I1 r1 h1 => by
    obtain ⟨s, r2, hs, h2⟩ := RepW.withD I1 r1.weak h1
    cases r2 with
    | ptp hH hN _ =>
      refine ⟨⟨⟨_, Same.sqT (hid_same _ _) hH⟩, hN.mono (hid_same _ _)⟩, ?_⟩
      refine he.sim { E with H0 := HH E σ δ1 H1 } σ H1 δ1 _ _ hl I1.pin h2 fun yv H2 δ2 c J2 r3 h3 => ?_
      have I2 := I1.unpin J2
      obtain ⟨s2, r4, h4⟩ := RepW.withD I2 (RepW.keep (E := E) r1.weak J2) h3
      obtain ⟨d, r5, h5⟩ := RepW.withD I2 ((RepB.unpin r3 I1.base).weak) h4
      unfold idxP at h5
      split at h5
      · rename_i ds
        obtain ⟨s1, s2, j, hj, h6⟩ := h5
        obtain ⟨⟨x, hx, hxe⟩, hno⟩ := idxD_spec hj
        cases r4 with
        | ptp hH2 hN2 hA2 =>
        refine ⟨_, yv, toPy d, toPys ds, j, toPy x, rfl, rfl, ((RootR.ptp hH2 hN2 hA2).rep (hid_same _ _)).dp s1.lay, hN2.mono (hid_same _ _), (r5.rep (hid_same _ _)).dp s2.lay, s1, s2, by rw [toPys_map, List.getElem?_map, hx]; rfl, hxe, fun m z hm hz => ?_, k _ H2 δ2 (.val _) I2 (Rep.int _) h6⟩
        rw [toPys_map, List.getElem?_map] at hz
        obtain ⟨y, hy, rfl⟩ := Option.map_eq_some_iff.mp hz
        exact hno m y hm hy
      · exact h5.elim
    | _ => exact hs.elim⟩
end
/-! ### sorted of dicts with keys of ints -/
section
variable {X : Cx}
def rSortK : List V → Hp → VK → Prop := fun xs H Q => ∃ (a : Addr) (kvs : List (Key × V)) (ks : List Int), xs = [.ref a] ∧ Rd H a (.dK kvs) ∧ kvs.map (·.1) = ks.map Sum.inl ∧ ks.length < 64 ∧
  ∀ (ys : List Int) (p : Addr), ys.Perm ks → ys.Pairwise (· ≤ ·) → H p = none → Q (.ref p) (upd H p (.lst (ys.map V.int)))
def gSortK : List D → (BV → Prop) → Prop
  | [.dk kvs], R => ∃ ks : List Int, kvs.map (·.1) = ks.map Sum.inl ∧ ks.length < 64 ∧ ∀ ys : List Int, ys.Perm ks → ys.Pairwise (· ≤ ·) → R (.fresh (.lst (ys.map .int)))
  | _, _ => False
theorem repK_keys {K : PySem.W.Frag} {bx : Addr} {H : Hp} : ∀ {vs : List (Key × V)} {ds : List (Key × D)}, RepK K bx H vs ds → vs.map (·.1) = ds.map (·.1)
  | _, _, .nil => rfl
  | _, _, .cons _ t => by rw [List.map_cons, List.map_cons, repK_keys t]
theorem repA_ints {K : PySem.W.Frag} {bx : Addr} {H : Hp} : ∀ ys : List Int, RepA K bx H (ys.map V.int) (ys.map D.int)
  | [] => .nil
  | y :: ys => .cons (.int y) (repA_ints ys)
theorem c_sortK (hc : X.calm = true) : CallR X (.builtin "sorted") rSortK ∧ DCl X.K rSortK gSortK := by
  refine ⟨call_sortedDI hc, fun E σ H δ vs ds R Q I r q k => ?_⟩
  cases r with
  | nil => exact q.elim
  | cons r rr => cases rr with
    | nil => cases r with
      | dk hH rK =>
        obtain ⟨ks, hk, hl, q⟩ := q
        refine ⟨_, _, ks, rfl, hH, (repK_keys rK).trans hk, hl, fun ys p hy hs hp => ?_⟩
        obtain ⟨I2, r2⟩ := I.freshL hp (RepA.ofInts ys)
        exact k _ _ _ I2 r2 (q ys hy hs)
      | _ => exact q.elim
    | cons _ _ => cases r <;> exact q.elim
end
end DL
set_option Elab.async false
set_option linter.all false
set_option maxRecDepth 100000
set_option autoImplicit false
set_option maxHeartbeats 4000000
/-! LK: helpers that the laws share, as data. -/
namespace LK
open DL L2 PySem
local macro_rules | `(tactic| walk_at "dl") => `(tactic| simp -implicitDefEqProofs only [↓fC_eq, ↓fVar_eq, ↓fOp_eq, ↓fNeg_eq, ↓fChain_eq, ↓fTst_eq, ↓fTru_eq, ↓fAnd_eq, ↓fOr_eq, ↓fNot_eq, ↓fAndV_eq, ↓fOrV_eq, ↓fNotV_eq, ↓fNotB_eq, ↓fIfE_eq, ↓fTup_eq, ↓fLst_eq, ↓fNil_eq, ↓fCons_eq, ↓fSl_eq, ↓fNoPart_eq, ↓fPart_eq, ↓fRevL_eq, ↓fCall_eq, ↓fBlt_eq, ↓fComp_eq, ↓fJoin_eq, strB_v, revS_l, ↓fCompL_eq, ↓frK_eq, frS_v, frS_o, gIx_k, gIn_k, gNin_k, keyD_i, keyD_s, keyS_s, gSl_t, gSl_l, ↓fIsi_eq, ↓fSeq_eq, ↓fRng1_eq, ↓fRng2_eq, ↓fYes_eq, ↓fTT_eq,
  nx_mk, rt_mk, bk_mk, ct_mk, repl_s, repl_0, List.length_cons, List.length_nil, look_zero, look_succ, get_0, get_s, set_0, set_s, atI_0, atI_1, atI_2, atI_3, atI_m1, List.getLast?_cons_cons, List.getLast?_singleton,
  withD_v, withD_f, withD_s, atSlot_v, atSlot_o, force_v, force_f, force_s, frSlot_v, frSlot_o, store_v, store_f, store_s, stSlot_v, stSlot_o, asB_v, asI_eq, asInt_i, varS_v, varS_o, forceL_n, forceL_c, withL_n, withL_c, asName_eq, asTup_t, asCons_c, asNil_n,
  gAdd_i, gAdd_t, gAdd_l, gSub_i, gMul_i, gMul_l, gFdiv_i, gMod_i, gPow_i, gLt_i, gLe_i, gGt_i, gGe_i, gEq_ii, gNe_ii, isS_s, gIs_eq, gIsnt_eq, isD_nn, isD_in, isD_tn, isD_bn, isi_int_n, isi_int_b, isi_int_i, isi_int_s, isi_int_t, isi_int_l, isi_bool_n, isi_bool_b, isi_bool_i, isi_bool_s, isi_bool_t, isi_bool_l, isi_str_n, isi_str_b, isi_str_i, isi_str_s, isi_str_t, isi_str_l, isi_tuple_n, isi_tuple_b, isi_tuple_i, isi_tuple_s, isi_tuple_t, isi_tuple_l, isi_list_n, isi_list_b, isi_list_i, isi_list_s, isi_list_t, isi_list_l,
  isD_sn, isD_ln, isD_nb, isD_ib, isD_tb, isD_sb, isD_bb, ixS_s, gIx_t, gIx_l, gIx_s, gLen_t, gLen_l, gLen_s, gAbs_i, gMin2_i, gMax2_i, gInt_i, gInt_b, gGcd_i, gTuple_l, gTuple_t, gList_l, gList_t, truD_b, truD_n, truD_t, truD_l, truD_i, seqS_l, seqS_t, rng1S_1, rng2S_1, okW_n, okW_c, okSl_n, okSl_v, wipeD_n, wipeD_c, backD_n, backD_c, parS_2, augS_v, isOwnL_o, appS_o, ite_t, ite_f, ite_tt, ite_ff,
  Nat.reduceAdd, Nat.reduceSub, Nat.reduceLeDiff, Bool.not_true, Bool.not_false, List.isEmpty_cons, List.isEmpty_nil, true_and, and_true, decide_true, decide_false])
local macro_rules | `(tactic| walk_at "s1") => `(tactic| first | with_reducible refine fSet_i ?_ | with_reducible refine fRet_i ?_ | with_reducible refine fIf_i ?_ | with_reducible refine fPar_i ?_ | with_reducible refine fAsg_i ?_ | with_reducible refine fAug_i ?_ | with_reducible refine fApp_i ?_ | with_reducible refine fSetIx_i ?_ | with_reducible refine fDrop_i ?_ | with_reducible refine fFor_i ?_ | with_reducible refine fForL_i ?_ | with_reducible refine fNext_i ?_ | with_reducible refine fBrk_i ?_ | with_reducible refine fCt_i ?_ | with_reducible refine fRetN_i ?_)
local macro_rules | `(tactic| walk_at "st") => `(tactic| ((first | (with_reducible refine fSq_i ?_; walk_at "s1") | walk_at "s1"); (try walk_at "dl")))
def F__law_cell : DTS :=
 (fSq (fIf (fTst (fOp gLt (fVar 1) (fBlt gLen (fCons (fVar 0) fNil))))
 (fRet (fOp gIx (fVar 0) (fVar 1)))
 fNext)
 (fRet (fC (.int 0))))
def F__law_digits (sp__law_cell : FSpec) : DTS :=
 (fSq (fSet 3 (fLst fNil))
 (fSq (fFor (fRng2 (fCons (fVar 1) (fCons (fVar 2) fNil))) (asName 4)
 (fSq (fSet 5 (fCall 2 sp__law_cell (fCons (fVar 0) (fCons (fVar 4) fNil))))
 (fSq (fIf (fTst (fOp gLt (fVar 5) (fC (.int 0))))
 (fSet 5 (fOp DL.gSub (fC (.int 1)) (fOp DL.gMul (fC (.int 2)) (fVar 5))))
 fNext)
 (fSq (fIf (fTst (fOp gGt (fBlt gLen (fCons (fVar 3) fNil)) (fC (.int 1500))))
 fBrk
 fNext)
 (fIf (fTst (fOp gGe (fVar 5) (fOp DL.gPow (fC (.int 10)) (fC (.int 18)))))
 (fFor (fRng1 (fCons (fC (.int 60)) fNil)) (asName 6)
 (fIf (fTst (fOp gGt (fVar 5) (fC (.int 0))))
 (fSq (fApp 3 (fOp DL.gMod (fBlt gInt (fCons (fVar 5) fNil)) (fC (.int 1000))))
 (fSet 5 (fOp DL.gFdiv (fVar 5) (fC (.int 1000)))))
 fNext))
 (fSq (fSet 7 (fOp DL.gMod (fBlt gInt (fCons (fOp DL.gAdd (fOp DL.gAdd (fOp DL.gMul (fVar 5) (fC (.int 48271))) (fOp DL.gMul (fVar 4) (fC (.int 69621)))) (fC (.int 11))) fNil)) (fC (.int 2147483647))))
 (fFor (fRng1 (fCons (fC (.int 12)) fNil)) (asName 6)
 (fSq (fSet 7 (fOp DL.gMod (fBlt gInt (fCons (fOp DL.gAdd (fOp DL.gAdd (fOp DL.gMul (fVar 7) (fC (.int 16807))) (fOp DL.gMul (fC (.int 7)) (fVar 6))) (fC (.int 1))) fNil)) (fC (.int 2147483647))))
 (fApp 3 (fOp DL.gMod (fBlt gInt (fCons (fOp DL.gFdiv (fVar 7) (fC (.int 997))) fNil)) (fC (.int 1000))))))))))))
 (fRet (fVar 3))))
def F__law_low : DTS :=
 (fSq (fPar 2 3 (fCons (fBlt gAbs (fCons (fVar 0) fNil)) (fCons (fVar 1) fNil)))
 (fSq (fWhile (fTst (fOp gGt (fVar 3) (fC (.int 0))))
 (fPar 2 3 (fCons (fVar 3) (fCons (fOp DL.gMod (fVar 2) (fVar 3)) fNil))))
 (fRet (fTup (fCons (fOp DL.gFdiv (fVar 0) (fVar 2)) (fCons (fOp DL.gFdiv (fVar 1) (fVar 2)) fNil))))))
def F__law_less : DTS :=
 (fRet (fOp gLt (fOp DL.gMul (fOp gIx (fVar 0) (fC (.int 0))) (fOp gIx (fVar 1) (fC (.int 1)))) (fOp DL.gMul (fOp gIx (fVar 1) (fC (.int 0))) (fOp gIx (fVar 0) (fC (.int 1))))))
def F__law_like (sp__law_like : FSpec) : DTS :=
 (fSq (fIf (fTru (fIsi .tuple (fVar 1)))
 (fSq (fIf (fOr (fNot (fTru (fIsi .tuple (fVar 0)))) (fTst (fOp gNe (fBlt gLen (fCons (fVar 0) fNil)) (fBlt gLen (fCons (fVar 1) fNil)))))
 (fRet (fC (.bl false)))
 fNext)
 (fRet (fOp gEq (fComp [2] (fRng1 (fCons (fBlt gLen (fCons (fVar 1) fNil)) fNil)) (asName 2) (fNot (fTru (fCall 2 sp__law_like (fCons (fOp gIx (fVar 0) (fVar 2)) (fCons (fOp gIx (fVar 1) (fVar 2)) fNil))))) (fC (.int 1))) (fLst fNil))))
 fNext)
 (fSq (fIf (fTst (fOp gIs (fVar 1) (fC .non)))
 (fRet (fOp gIs (fVar 0) (fC .non)))
 fNext)
 (fSq (fIf (fTst (fOp gIs (fVar 1) (fC (.bl true))))
 (fRet (fOp gIs (fVar 0) (fC (.bl true))))
 fNext)
 (fSq (fIf (fTst (fOp gIs (fVar 1) (fC (.bl false))))
 (fRet (fOp gIs (fVar 0) (fC (.bl false))))
 fNext)
 (fSq (fIf (fTru (fIsi .str (fVar 1)))
 (fRet (fAndV (fIsi .str (fVar 0)) (fOp gEq (fJoin (fC (.str "")) (fLst (fCons (fVar 0) fNil))) (fVar 1))))
 fNext)
 (fRet (fAndV (fIsi .int (fVar 0)) (fAndV (fNotB (fIsi .bool (fVar 0))) (fOp gEq (fVar 0) (fVar 1))))))))))
def F__law_whole : DTS :=
 (fSq (fIf (fOr (fNot (fTru (fIsi .int (fVar 0)))) (fTru (fIsi .bool (fVar 0))))
 (fRet (fC (.bl false)))
 fNext)
 (fRet (fAndV (fOrV (fOp gIs (fVar 1) (fC .non)) (fOp gLe (fVar 1) (fVar 0))) (fOrV (fOp gIs (fVar 2) (fC .non)) (fOp gLe (fVar 0) (fVar 2))))))
def F__law_other (sp__law_draw : FSpec) : DTS :=
 (fSq (fIf (fTru (fIsi .tuple (fVar 1)))
 (fSq (fSet 2 (fBlt gTuple (fCons (fComp [3] (fRng1 (fCons (fBlt gLen (fCons (fVar 1) fNil)) fNil)) (asName 3) fYes (fOp gIx (fVar 1) (fOp DL.gSub (fOp DL.gSub (fBlt gLen (fCons (fVar 1) fNil)) (fC (.int 1))) (fVar 3)))) fNil)))
 (fRet (fOp gIx (fLst (fCons (fBlt gList (fCons (fVar 1) fNil)) (fCons (fOp DL.gAdd (fVar 1) (fSl (fVar 1) fNoPart (fPart (fC (.int 1))))) (fCons (fSl (fVar 1) (fPart (fC (.int 1))) fNoPart) (fCons (fC .non) (fCons (fTup fNil) (fCons (fVar 2) fNil))))))) (fCall 2 sp__law_draw (fCons (fVar 0) (fCons (fC (.int 6)) fNil))))))
 fNext)
 (fSq (fIf (fTru (fIsi .str (fVar 1)))
 (fRet (fOp gIx (fLst (fCons (fC (.str "x0")) (fCons (fC (.str "x1")) (fCons (fC (.str "r0")) (fCons (fC (.str "r1")) (fCons (fC (.str "rows")) (fCons (fC (.str "most")) (fCons (fC (.str "just")) (fCons (fC (.str "sum")) (fCons (fC (.str "A")) (fCons (fC (.str "")) (fCons (fC (.str "x y")) (fCons (fC .non) fNil))))))))))))) (fCall 2 sp__law_draw (fCons (fVar 0) (fCons (fC (.int 12)) fNil)))))
 fNext)
 (fSq (fIf (fTst (fOp gIs (fVar 1) (fC .non)))
 (fRet (fOp gIx (fLst (fCons (fC (.int 0)) (fCons (fC (.str "")) (fCons (fTup fNil) fNil)))) (fCall 2 sp__law_draw (fCons (fVar 0) (fCons (fC (.int 3)) fNil)))))
 fNext)
 (fRet (fOp gIx (fLst (fCons (fOp DL.gAdd (fVar 1) (fC (.int 1))) (fCons (fOp DL.gSub (fVar 1) (fC (.int 1))) (fCons (fOp DL.gSub (fC (.int 0)) (fVar 1)) (fCons (fC (.bl true)) (fCons (fC .non) (fCons (fC (.int 0)) (fCons (fC (.int 100)) fNil)))))))) (fCall 2 sp__law_draw (fCons (fVar 0) (fCons (fC (.int 7)) fNil))))))))
def F__law_changed (sp__law_draw sp__law_other sp__law_changed : FSpec) : DTS :=
 (fSq (fIf (fOr (fNot (fTru (fIsi .tuple (fVar 1)))) (fOr (fTst (fOp gEq (fVar 1) (fTup fNil))) (fTst (fOp gEq (fCall 2 sp__law_draw (fCons (fVar 0) (fCons (fC (.int 9)) fNil))) (fC (.int 0))))))
 (fRet (fCall 2 sp__law_other (fCons (fVar 0) (fCons (fVar 1) fNil))))
 fNext)
 (fSq (fSet 2 (fOp DL.gMod (fCall 2 sp__law_draw (fCons (fVar 0) (fCons (fC (.int 900)) fNil))) (fBlt gLen (fCons (fVar 1) fNil))))
 (fRet (fOp DL.gAdd (fOp DL.gAdd (fSl (fVar 1) fNoPart (fPart (fVar 2))) (fTup (fCons (fCall 2 sp__law_changed (fCons (fVar 0) (fCons (fOp gIx (fVar 1) (fVar 2)) fNil))) fNil))) (fSl (fVar 1) (fPart (fOp DL.gAdd (fVar 2) (fC (.int 1)))) fNoPart)))))
def sp_cell : FSpec := fun ds R => ∃ ns k, ds = [.scr ns, .int k] ∧ 0 ≤ k ∧ ∀ n, R (.int n)
theorem mono_cell : SMono sp_cell := fun ds R R' h ⟨ns, k, e, hk, q⟩ => ⟨ns, k, e, hk, fun n => h _ (q n)⟩
theorem ev_cell : Ev ["script", "k"] 2 sp_cell F__law_cell := by
  intro ds R _ ⟨ns, k, e, hk, q⟩
  subst e
  simp only [startD_cons, startD_nil]
  unfold F__law_cell
  walk_at "st"
  split
  · next h =>
    walk_at "st"
    obtain ⟨m, rfl⟩ := Int.eq_ofNat_of_zero_le hk
    have hm : m < ns.length := by
      have := of_decide_eq_true h
      omega
    rw [atI_nat', List.getElem?_eq_getElem hm]
    exact q _
  · walk_at "st"
    walk_at "st"
    exact q _
theorem rangeD_mem : ∀ {n : Nat} {lo : Int} {x : D}, x ∈ rangeD lo n → ∃ i : Int, x = .int i ∧ lo ≤ i ∧ i < lo + n
  | n + 1, lo, x, h => by
    have h : x ∈ (D.int lo :: rangeD (lo + 1) n) := h
    rcases List.mem_cons.mp h with h | h
    · exact ⟨lo, h, Int.le_refl _, by omega⟩
    · obtain ⟨i, h1, h2, h3⟩ := rangeD_mem h
      exact ⟨i, h1, by omega, by omega⟩
theorem map_app {dg : List Int} {n : Int} : dg.map D.int ++ [D.int n] = (dg ++ [n]).map D.int := by rw [List.map_append]; rfl
def sp_digits : FSpec := fun ds R => ∃ ns, ds = [.scr ns, .int 0, .int 63] ∧ ∀ dg : List Int, R (.lst (dg.map .int))
theorem mono_digits : SMono sp_digits := fun ds R R' h ⟨ns, e, q⟩ => ⟨ns, e, fun dg => h _ (q dg)⟩
def digitsRest : DTS :=
 (fSq (fIf (fTst (fOp gGt (fBlt gLen (fCons (fVar 3) fNil)) (fC (.int 1500))))
 fBrk
 fNext)
 (fIf (fTst (fOp gGe (fVar 5) (fOp DL.gPow (fC (.int 10)) (fC (.int 18)))))
 (fFor (fRng1 (fCons (fC (.int 60)) fNil)) (asName 6)
 (fIf (fTst (fOp gGt (fVar 5) (fC (.int 0))))
 (fSq (fApp 3 (fOp DL.gMod (fBlt gInt (fCons (fVar 5) fNil)) (fC (.int 1000))))
 (fSet 5 (fOp DL.gFdiv (fVar 5) (fC (.int 1000)))))
 fNext))
 (fSq (fSet 7 (fOp DL.gMod (fBlt gInt (fCons (fOp DL.gAdd (fOp DL.gAdd (fOp DL.gMul (fVar 5) (fC (.int 48271))) (fOp DL.gMul (fVar 4) (fC (.int 69621)))) (fC (.int 11))) fNil)) (fC (.int 2147483647))))
 (fFor (fRng1 (fCons (fC (.int 12)) fNil)) (asName 6)
 (fSq (fSet 7 (fOp DL.gMod (fBlt gInt (fCons (fOp DL.gAdd (fOp DL.gAdd (fOp DL.gMul (fVar 7) (fC (.int 16807))) (fOp DL.gMul (fC (.int 7)) (fVar 6))) (fC (.int 1))) fNil)) (fC (.int 2147483647))))
 (fApp 3 (fOp DL.gMod (fBlt gInt (fCons (fOp DL.gFdiv (fVar 7) (fC (.int 997))) fNil)) (fC (.int 1000)))))))))
theorem digits_turn (ns dg : List Int) (i n : Int) (s6 s7 : Sl) (hl : dg.length ≤ 1560) (k : DSt → Prop) (R : D → Prop) (bk : DSt → Prop)
    (hk : ∀ (δ' : DSt), (∃ (dg : List Int) (s4 s5 s6 s7 : Sl), δ' = [.val (.scr ns), .val (.int 0), .val (.int 63), .own (.lst (dg.map .int)), s4, s5, s6, s7] ∧ dg.length ≤ 1560) → k δ')
    (hb : ∀ dg : List Int, bk [.val (.scr ns), .val (.int 0), .val (.int 63), .own (.lst (dg.map .int)), .val (.int i), .val (.int n), s6, s7]) :
    digitsRest ⟨k, R, bk, k⟩ [.val (.scr ns), .val (.int 0), .val (.int 63), .own (.lst (dg.map .int)), .val (.int i), .val (.int n), s6, s7] := by
  unfold digitsRest
  have hM : ∀ j : Int, MulC j 48271 := fun j => .inr (.inl ⟨by decide, by decide⟩)
  walk_at "st"
  split
  · walk_at "st"
    exact hb dg
  · next hlen =>
    have hlen : dg.length ≤ 1500 := by
      have := of_decide_eq_false (Bool.eq_false_iff.mpr hlen)
      rw [List.length_map] at this
      omega
    walk_at "st"
    walk_at "st"
    refine ⟨⟨by decide, by decide, by decide⟩, ?_⟩
    split
    · walk_at "st"
      refine ⟨⟨by decide, by decide⟩, ?_⟩
      refine forD_inv (fun done todo δ => ∃ (dg : List Int) (n : Int) (s6 : Sl), δ = [.val (.scr ns), .val (.int 0), .val (.int 63), .own (.lst (dg.map .int)), .val (.int i), .val (.int n), s6, s7] ∧ dg.length ≤ 1500 + done.length ∧ done.length + todo.length = 60) ?_ ?_ _ [] _ ⟨dg, n, s6, rfl, hlen, rfl⟩
      · intro done x todo δ k' ⟨dg, n, s6, e, hl, hd⟩ hk'
        subst e
        walk_at "dl"
        walk_at "st"
        split
        · walk_at "st"
          refine ⟨by decide, ?_⟩
          rw [List.length_cons] at hd
          refine ⟨by rw [List.length_map]; omega, ?_⟩
          walk_at "st"
          refine ⟨⟨by decide, .inl ⟨by decide, by decide⟩⟩, ?_⟩
          refine hk' _ ⟨dg ++ [n.fmod 1000], _, _, by rw [← map_app], ?_, ?_⟩
          · rw [List.length_append, List.length_append]; exact Nat.add_le_add_right hl 1 
          · rw [List.length_append, List.length_singleton]; omega
        · walk_at "st"
          rw [List.length_cons] at hd
          refine hk' _ ⟨dg, _, _, rfl, ?_, ?_⟩
          · rw [List.length_append]; omega
          · rw [List.length_append, List.length_singleton]; omega
      · intro done δ ⟨dg, n, s6, e, hl, hd⟩
        refine hk _ ⟨dg, _, _, _, _, e, ?_⟩
        rw [List.length_nil] at hd
        omega
    · walk_at "st"
      refine ⟨hM _, .inr (.inl ⟨by decide, by decide⟩), by decide, ?_⟩
      walk_at "s1"
      walk_at "dl"
      refine ⟨⟨by decide, by decide⟩, ?_⟩
      refine forD_inv (fun done todo δ => ∃ (dg : List Int) (s6 : Sl) (m : Int), δ = [.val (.scr ns), .val (.int 0), .val (.int 63), .own (.lst (dg.map .int)), .val (.int i), .val (.int n), s6, .val (.int m)] ∧ dg.length ≤ 1500 + done.length ∧ done.length + todo.length = 12 ∧ ∀ x ∈ todo, ∃ j : Int, x = .int j) ?_ ?_ _ [] _ ⟨dg, s6, _, rfl, hlen, rfl, fun x hx => (rangeD_mem hx).imp fun _ h => h.1⟩
      · intro done x todo δ k' ⟨dg, s6, m, e, hl, hd, hx⟩ hk'
        subst e
        obtain ⟨j, rfl⟩ := hx _ List.mem_cons_self
        walk_at "dl"
        walk_at "st"
        refine ⟨.inr (.inl ⟨by decide, by decide⟩), .inl ⟨by decide, by decide⟩, by decide, ?_⟩
        walk_at "st"
        refine ⟨⟨by decide, .inl ⟨by decide, by decide⟩⟩, by decide, ?_⟩
        rw [List.length_cons] at hd
        refine ⟨by rw [List.length_map]; omega, ?_⟩
        refine hk' _ ⟨dg ++ [_], _, _, by rw [← map_app], ?_, ?_, fun x h => hx x (List.mem_cons_of_mem _ h)⟩
        · rw [List.length_append, List.length_append]; exact Nat.add_le_add_right hl 1 
        · rw [List.length_append, List.length_singleton]; omega
      · intro done δ ⟨dg, s6, m, e, hl, hd, _⟩
        refine hk _ ⟨dg, _, _, _, _, e, ?_⟩
        rw [List.length_nil] at hd
        omega
theorem ev_digits : Ev ["script", "first", "last", "digits", "k", "cell", "step", "seed"] 3 sp_digits (F__law_digits sp_cell) := by
  intro ds R _ ⟨ns, e, q⟩
  subst e
  simp only [startD_cons, startD_nil]
  unfold F__law_digits
  walk_at "st"
  walk_at "st"
  refine ⟨⟨by decide, by decide⟩, ⟨by decide, by decide⟩, ?_⟩
  refine forD_keep (fun δ => ∃ (dg : List Int) (s4 s5 s6 s7 : Sl), δ = [.val (.scr ns), .val (.int 0), .val (.int 63), .own (.lst (dg.map .int)), s4, s5, s6, s7] ∧ dg.length ≤ 1560) ?_ ?_ _ ?_
  · intro x δ k hx ⟨dg, s4, s5, s6, s7, e, hl⟩ hk
    subst e
    obtain ⟨i, rfl, hi, _⟩ := rangeD_mem hx
    walk_at "dl"
    walk_at "st"
    refine call_of ⟨ns, i, rfl, hi, fun n => ?_⟩
    walk_at "dl"
    walk_at "st"
    have hM : ∀ j : Int, MulC j 48271 := fun j => .inr (.inl ⟨by decide, by decide⟩)
    split
    · walk_at "st"
      refine ⟨.inl ⟨by decide, by decide⟩, ?_⟩
      exact digits_turn ns dg i (1 - 2 * n) s6 s7 hl k R _ hk fun dg => by walk_at "st"; exact q dg
    · walk_at "st"
      exact digits_turn ns dg i n s6 s7 hl k R _ hk fun dg => by walk_at "st"; exact q dg
  · intro δ ⟨dg, s4, s5, s6, s7, e, hl⟩
    subst e
    walk_at "st"
    exact q dg
  · exact ⟨[], _, _, _, _, rfl, by decide⟩
theorem gcd_step {x y : Int} (hx : 0 ≤ x) (hy : 0 ≤ y) : Int.gcd y (x % y) = Int.gcd x y := by
  obtain ⟨a, rfl⟩ := Int.eq_ofNat_of_zero_le hx
  obtain ⟨b, rfl⟩ := Int.eq_ofNat_of_zero_le hy
  show Nat.gcd b (a % b) = Nat.gcd a b
  rw [Nat.gcd_comm a b, Nat.gcd_rec b a, Nat.gcd_comm]
theorem log2_mono {a b : Nat} (h : a ≤ b) : a.log2 ≤ b.log2 := by
  by_cases ha : a = 0
  · subst ha; rw [Nat.log2_zero]; exact Nat.zero_le _
  · exact (Nat.le_log2 (by omega)).mpr (Nat.le_trans (Nat.log2_self_le ha) h)
theorem DivC_of {j : Int} {m : Int} (h0 : 0 < j) (h : j ≤ m) (hm : m.natAbs.log2 < 9000) : DivC j :=
  ⟨by omega, .inr (Nat.lt_of_le_of_lt (log2_mono (by omega)) hm)⟩
def sp_low : FSpec := fun ds R => ∃ n b : Int, ds = [.int n, .int b] ∧ 0 < b ∧ b.natAbs.log2 < 9000 ∧ R (.tup [.int (n / (Int.gcd n b)), .int (b / (Int.gcd n b))])
theorem mono_low : SMono sp_low := fun ds R R' h ⟨n, b, e, h0, h1, q⟩ => ⟨n, b, e, h0, h1, h _ q⟩
theorem ev_low : Ev ["number", "by", "one", "two"] 2 sp_low F__law_low := by
  intro ds R _ ⟨n, b, e, hb, hb9, q⟩
  subst e
  simp only [startD_cons, startD_nil]
  unfold F__law_low
  walk_at "st"
  with_reducible refine fSq_i ?_
  refine while_inv (fun δ => ∃ x y : Int, δ = [.val (.int n), .val (.int b), .val (.int x), .val (.int y)] ∧ 0 ≤ x ∧ 0 ≤ y ∧ Int.gcd x y = Int.gcd n b) (fun δ => match δ with
    | [_, _, _, .val (.int y)] => y.toNat
    | _ => 0) ?_ _ ⟨_, b, rfl, ?_, by omega, ?_⟩
  · intro δ k ⟨x, y, e, hx, hy, hg⟩ hk
    subst e
    walk_at "dl"
    split
    · next h =>
      have h := of_decide_eq_true h
      walk_at "st"
      refine ⟨by omega, ?_⟩
      have hf : x.fmod y = x % y := Int.fmod_eq_emod_of_nonneg _ hy
      have h0 := Int.emod_nonneg x (show y ≠ 0 by omega)
      have h1 := Int.emod_lt_of_pos x h
      refine hk _ ⟨_, _, rfl, hy, by omega, ?_⟩ ?_
      · rw [← hg, hf, gcd_step hx hy]
      · show (x.fmod y).toNat < y.toNat
        omega
    · next h =>
      have h := of_decide_eq_false (Bool.eq_false_iff.mpr h)
      have : y = 0 := by omega
      subst this
      have hx2 : x = Int.gcd n b := by
        rw [← hg, Int.gcd_zero]; omega
      have hgp : 0 < Int.gcd n b := Int.gcd_pos_of_ne_zero_right _ (by omega)
      have hgb : ((Int.gcd n b : Nat) : Int) ≤ b := Int.le_of_dvd hb (Int.gcd_dvd_right ..)
      walk_at "st"
      rw [hx2]
      refine ⟨DivC_of (by omega) hgb hb9, DivC_of (by omega) hgb hb9, ?_⟩
      rw [Int.fdiv_eq_ediv_of_nonneg _ (by omega), Int.fdiv_eq_ediv_of_nonneg _ (by omega)]
      exact q
  · split <;> omega
  · split
    · rw [Int.neg_gcd]
    · rfl
def sp_less : FSpec := fun ds R => ∃ a b c d : Int, ds = [.tup [.int a, .int b], .tup [.int c, .int d]] ∧ MulC a d ∧ MulC c b ∧ R (.bl (decide (a * d < c * b)))
theorem mono_less : SMono sp_less := fun ds R R' h ⟨a, b, c, d, e, h0, h1, q⟩ => ⟨a, b, c, d, e, h0, h1, h _ q⟩
theorem ev_less : Ev ["one", "two"] 2 sp_less F__law_less := by
  intro ds R _ ⟨a, b, c, d, e, h0, h1, q⟩
  subst e
  simp only [startD_cons, startD_nil]
  unfold F__law_less
  walk_at "st"
  exact ⟨h0, h1, q⟩
inductive FitD : Nat → D → Prop
  | non {n : Nat} : FitD n .non
  | bl {n : Nat} (b : Bool) : FitD n (.bl b)
  | int {n : Nat} (i : Int) : FitD n (.int i)
  | str {n : Nat} {x : Str} (h : (toPy (.str x)).canLay0 = true) (hl : x.length ≤ 1000000) : FitD n (.str x)
  | tup {n : Nat} {ds : List D} (h : ∀ d ∈ ds, FitD n d) (hl : ds.length ≤ 1000000) : FitD (n + 1) (.tup ds)
def Calm : Nat → D → Prop
  | _, .scr _ => False
  | _, .box => False
  | _, .dk _ => False
  | _, .dt _ => False
  | _, .ptp _ => False
  | _, .str x => (toPy (.str x)).canLay0 = true ∧ x.length ≤ 1000000
  | n + 1, .tup ds => ∀ d ∈ ds, Calm n d
  | _, _ => True
theorem calm_fit {n : Nat} {d : D} (h : FitD n d) : Calm n d := by
  induction h with
  | non => unfold Calm; trivial
  | bl => unfold Calm; trivial
  | int => unfold Calm; trivial
  | str h hl => unfold Calm; exact ⟨h, hl⟩
  | tup h hl ih => unfold Calm; exact ih
theorem calm_isi {n : Nat} {t : D} (h : Calm n t) (T : Ty5) : isiD T t ≠ none := by
  cases t <;> first
    | (unfold Calm at h; exact h.elim)
    | (cases T <;> intro e <;> cases e)
theorem join_one {a x : Str} : Txt.join a [x] = x := by unfold Txt.join; rfl
def sp_like (k : Nat) : FSpec := fun ds R => ∃ t d, ds = [t, d] ∧ Calm k t ∧ (∃ j, k = j + 1 ∧ FitD j d) ∧ ∀ b : Bool, (b = true ↔ t = d) → R (.bl b)
theorem mono_like (k : Nat) : SMono (sp_like k) := fun ds R R' h ⟨t, d, e, h0, h1, q⟩ => ⟨t, d, e, h0, h1, fun b hb => h _ (q b hb)⟩
theorem zero_like : ∀ ds R, ¬ sp_like 0 ds R := fun ds R ⟨t, d, e, h0, ⟨j, h1, _⟩, q⟩ => by cases h1
theorem ev_like (k : Nat) : Ev ["told", "due", "k"] 2 (sp_like (k + 1)) (F__law_like (sp_like k)) := by
  intro ds R hn0 ⟨t, d, e, ht, ⟨j, hj, hd⟩, q⟩
  obtain rfl : k = j := by omega
  subst e
  simp only [startD_cons, startD_nil]
  unfold F__law_like
  cases hd with
  | non =>
    repeat walk_at "st"
    cases t with
    | box => unfold Calm at ht; exact ht.elim
    | scr => unfold Calm at ht; exact ht.elim
    | dk => unfold Calm at ht; exact ht.elim
    | dt => unfold Calm at ht; exact ht.elim
    | ptp => unfold Calm at ht; exact ht.elim
    | non => exact q _ ⟨fun _ => rfl, fun _ => rfl⟩
    | _ => exact q false ⟨nofun, nofun⟩
  | bl b =>
    cases b
    · repeat walk_at "st"
      cases t with
      | box => unfold Calm at ht; exact ht.elim
      | scr => unfold Calm at ht; exact ht.elim
      | dk => unfold Calm at ht; exact ht.elim
      | dt => unfold Calm at ht; exact ht.elim
      | ptp => unfold Calm at ht; exact ht.elim
      | bl b => exact q _ (by rw [decide_eq_true_iff]; exact ⟨fun h => (by rw [h]), fun h => (by cases h; rfl)⟩)
      | _ => exact q false ⟨nofun, nofun⟩
    · repeat walk_at "st"
      cases t with
      | box => unfold Calm at ht; exact ht.elim
      | scr => unfold Calm at ht; exact ht.elim
      | dk => unfold Calm at ht; exact ht.elim
      | dt => unfold Calm at ht; exact ht.elim
      | ptp => unfold Calm at ht; exact ht.elim
      | bl b => exact q _ (by rw [decide_eq_true_iff]; exact ⟨fun h => (by rw [h]), fun h => (by cases h; rfl)⟩)
      | _ => exact q false ⟨nofun, nofun⟩
  | str hs hl =>
    rename_i x
    repeat walk_at "st"
    cases t with
    | box => unfold Calm at ht; exact ht.elim
    | scr => unfold Calm at ht; exact ht.elim
    | dk => unfold Calm at ht; exact ht.elim
    | dt => unfold Calm at ht; exact ht.elim
    | ptp => unfold Calm at ht; exact ht.elim
    | str y =>
      unfold Calm at ht
      walk_at "dl"
      refine joinS_of (ys := [y]) rfl (by show y.length + 0 + 1 * 0 ≤ 16000000; omega) ?_
      rw [join_one]
      refine gEq_of (n := 0) (m := 0) (.str ht.1) (.str hs) ?_
      walk_at "dl"
      rw [eqD_ss]
      exact q _ ⟨fun h => by rw [eq_of_beq h], fun h => by cases h; exact beq_self_eq_true _⟩
    | _ => walk_at "dl"; exact q false ⟨nofun, nofun⟩
  | int i => 
    repeat walk_at "st"
    cases t with
    | box => unfold Calm at ht; exact ht.elim
    | scr => unfold Calm at ht; exact ht.elim
    | dk => unfold Calm at ht; exact ht.elim
    | dt => unfold Calm at ht; exact ht.elim
    | ptp => unfold Calm at ht; exact ht.elim
    | int j =>
      walk_at "dl"
      exact q _ ⟨fun h => by rw [eq_of_beq h], fun h => by cases h; exact beq_self_eq_true _⟩
    | _ => walk_at "dl"; exact q false ⟨nofun, nofun⟩
  | tup hs hm =>
    rename_i n m
    repeat walk_at "st"
    cases t with
    | box => unfold Calm at ht; exact ht.elim
    | scr => unfold Calm at ht; exact ht.elim
    | dk => unfold Calm at ht; exact ht.elim
    | dt => unfold Calm at ht; exact ht.elim
    | ptp => unfold Calm at ht; exact ht.elim
    | tup ts =>
      walk_at "dl"
      split
      · next h =>
        walk_at "st"
        refine q false ⟨nofun, fun e => ?_⟩
        cases e
        rw [beq_self_eq_true] at h
        cases h
      · next h =>
        have hl : ts.length = m.length := by
          have : ((ts.length : Int) == m.length) = true := by
            cases h2 : ((ts.length : Int) == m.length) with
            | true => rfl
            | false => rw [h2] at h; exact absurd rfl h
          have := eq_of_beq this
          omega
        walk_at "st"
        refine ⟨⟨by omega, by omega⟩, ⟨trivial, trivial⟩, ?_⟩
        have e0 : ((m.length : Int) - 0).toNat = m.length := by omega
        refine comp_inv (fun done todo acc δ => todo = rangeD done.length (m.length - done.length) ∧ done.length ≤ m.length ∧ (∃ c, acc = List.replicate c (.int 1) ∧ c ≤ done.length ∧ (c = 0 ↔ ∀ i, i < done.length → ts[i]? = m[i]?)) ∧ δ = [.val (.tup ts), .val (.tup m), .no]) ?_ ?_ _ [] [] _ ⟨rfl, Nat.zero_le _, ⟨0, rfl, Nat.le_refl _, ⟨fun _ i hi => (by cases hi), fun _ => rfl⟩⟩, rfl⟩
        · intro done x todo acc δ K ⟨h1, h2, ⟨c, h3, h4, h5⟩, h6⟩ hK
          subst h6
          have hlt : done.length < m.length := by
            rcases Nat.lt_or_ge done.length m.length with h | h
            · exact h
            · rw [Nat.sub_eq_zero_of_le h] at h1; cases h1
          obtain ⟨r, hr⟩ : ∃ r, m.length - done.length = r + 1 := ⟨m.length - done.length - 1, by omega⟩
          rw [hr] at h1
          obtain ⟨rfl, rfl⟩ := List.cons.inj h1
          have hm1 : m[done.length]? = some (m[done.length]'hlt) := List.getElem?_eq_getElem hlt
          have ht1 : ts[done.length]? = some (ts[done.length]'(by omega)) := List.getElem?_eq_getElem (by omega)
          have iff1 : (∀ i, i < (done ++ [D.int done.length]).length → ts[i]? = m[i]?) ↔ (∀ i, i < done.length → ts[i]? = m[i]?) ∧ ts[done.length]'(by omega) = m[done.length]'hlt := by
            rw [List.length_append, List.length_singleton]
            constructor
            · intro H
              refine ⟨fun i hi => H i (by omega), ?_⟩
              have := H done.length (by omega)
              rw [hm1, ht1] at this
              exact Option.some.inj this
            · intro ⟨H1, H2⟩ i hi
              by_cases hi' : i < done.length
              · exact H1 i hi'
              · obtain rfl : i = done.length := by omega
                rw [hm1, ht1, H2]
          walk_at "dl"
          rw [atI_nat', ht1]
          walk_at "dl"
          rw [atI_nat', hm1]
          walk_at "dl"
          refine call_of ⟨_, _, rfl, ?_, ⟨_, rfl, hs _ (List.getElem_mem _)⟩, fun b hb => ?_⟩
          · unfold Calm at ht
            exact ht _ (List.getElem_mem _)
          walk_at "dl"
          subst h3
          have hlen : (done ++ [D.int done.length]).length = done.length + 1 := by rw [List.length_append, List.length_singleton]
          have hrr : rangeD ((done.length : Int) + 1) r = rangeD ((done ++ [D.int done.length]).length : Nat) (m.length - (done ++ [D.int done.length]).length) := by
            rw [hlen, show m.length - (done.length + 1) = r by omega]
            rfl
          cases b with
          | true =>
            walk_at "dl"
            refine hK _ _ ⟨hrr, by rw [hlen]; omega, ⟨c, rfl, by rw [hlen]; omega, ?_⟩, rfl⟩
            rw [iff1, h5]
            exact ⟨fun z => ⟨z, hb.mp rfl⟩, fun z => z.1⟩
          | false =>
            walk_at "dl"
            rw [List.length_replicate]
            refine ⟨by omega, hK _ _ ⟨hrr, by rw [hlen]; omega, ⟨c + 1, by rw [List.replicate_succ'], by rw [hlen]; omega, ?_⟩, rfl⟩⟩
            rw [iff1]
            refine ⟨fun z => (by cases z), fun z => ?_⟩
            have := hb.mpr z.2
            cases this
        · intro done acc δ ⟨h1, h2, ⟨c, h3, h4, h5⟩, h6⟩
          subst h6 h3
          walk_at "dl"
          have hdl : done.length = m.length := by
            rcases Nat.lt_or_ge done.length m.length with h | h
            · obtain ⟨r, hr⟩ : ∃ r, m.length - done.length = r + 1 := ⟨m.length - done.length - 1, by omega⟩
              rw [hr] at h1
              cases h1
            · omega
          refine gEq_of (n := 1) (m := 1) (.lst fun d hd => by rw [List.eq_of_mem_replicate hd]; exact .int 1) (.lst okE_nil) ?_
          walk_at "dl"
          rw [eqD_ll]
          refine q _ ?_
          have e2 : eqL (List.replicate c (D.int 1)) [] = decide (c = 0) := by cases c <;> rfl
          rw [e2, decide_eq_true_iff, h5, hdl]
          constructor
          · intro H
            congr 1
            refine List.ext_getElem? fun i => ?_
            rcases Nat.lt_or_ge i m.length with hi | hi
            · exact H i hi
            · rw [List.getElem?_eq_none hi, List.getElem?_eq_none (by omega)]
          · intro H i hi
            cases H
            rfl
    | _ => walk_at "dl"; walk_at "st"; exact q false ⟨nofun, nofun⟩
theorem cutD_sub {α : Type} {xs : List α} {lo hi : Option Int} {x : α} (h : x ∈ cutD xs lo hi) : x ∈ xs := by
  unfold cutD at h
  exact List.mem_of_mem_drop (List.mem_of_mem_take h)
theorem cutD_len {α : Type} {xs : List α} {lo hi : Option Int} : (cutD xs lo hi).length ≤ xs.length := by
  unfold cutD
  rw [List.length_take, List.length_drop]
  omega
theorem atI_mem {α : Type} {xs : List α} {i : Int} (h0 : 0 ≤ i) (h1 : i < xs.length) : ∃ x, x ∈ xs ∧ atI xs i = some x := by
  obtain ⟨k, rfl⟩ := Int.eq_ofNat_of_zero_le h0
  have hk : k < xs.length := by omega
  exact ⟨xs[k], List.getElem_mem _, by rw [atI_nat', List.getElem?_eq_getElem hk]⟩
theorem ixS_of {o : Option D} {R : BV → Prop} (d : D) (e : o = some d) (h : R (.val d)) : ixS o R := by
  rw [e]; exact h
theorem map_int_mem {α : Type} {x : α} {xs : List α} {p : α → Prop} (h : p x) (t : ∀ y ∈ xs, p y) : ∀ y ∈ x :: xs, p y := fun y hy => by
  rcases List.mem_cons.mp hy with rfl | hy
  · exact h
  · exact t y hy
/-- what is told: integers up to M, texts, tuples of at most L, n deep -/
inductive Th (L : Nat) (M : Int) : Nat → D → Prop
  | non {n : Nat} : Th L M n .non
  | int {n : Nat} {i : Int} (h1 : -M ≤ i) (h2 : i ≤ M) : Th L M n (.int i)
  | str {n : Nat} {x : Str} (h : (toPy (.str x)).canLay0 = true) (hl : x.length ≤ 1000000) : Th L M n (.str x)
  | tup {n : Nat} {ds : List D} (h : ∀ d ∈ ds, Th L M n d) (hl : ds.length ≤ L) : Th L M (n + 1) (.tup ds)
/-- the same with truth values and lists -/
inductive Bd (L : Nat) (M : Int) : Nat → D → Prop
  | non {n : Nat} : Bd L M n .non
  | bl {n : Nat} (b : Bool) : Bd L M n (.bl b)
  | int {n : Nat} {i : Int} (h1 : -M ≤ i) (h2 : i ≤ M) : Bd L M n (.int i)
  | str {n : Nat} {x : Str} (h : (toPy (.str x)).canLay0 = true) (hl : x.length ≤ 1000000) : Bd L M n (.str x)
  | tup {n : Nat} {ds : List D} (h : ∀ d ∈ ds, Bd L M n d) (hl : ds.length ≤ L) : Bd L M (n + 1) (.tup ds)
  | lst {n : Nat} {ds : List D} (h : ∀ d ∈ ds, Bd L M n d) (hl : ds.length ≤ L) : Bd L M (n + 1) (.lst ds)
theorem Th.bd {L : Nat} {M : Int} {n : Nat} {d : D} (h : Th L M n d) : Bd L M n d := by
  induction h with
  | non => exact .non
  | int h1 h2 => exact .int h1 h2
  | str h hl => exact .str h hl
  | tup h hl ih => exact .tup ih hl
theorem Bd.le {L L' : Nat} {M M' : Int} {n n' : Nat} {d : D} (h : Bd L M n d) (hL : L ≤ L') (hM : M ≤ M') (hn : n ≤ n') : Bd L' M' n' d := by
  induction h generalizing n' with
  | non => exact .non
  | bl b => exact .bl b
  | int h1 h2 => exact .int (by omega) (by omega)
  | str h hl => exact .str h hl
  | tup h hl ih =>
    obtain ⟨k, rfl⟩ : ∃ k, n' = k + 1 := ⟨n' - 1, by omega⟩
    exact .tup (fun d hd => ih d hd (by omega)) (by omega)
  | lst h hl ih =>
    obtain ⟨k, rfl⟩ : ∃ k, n' = k + 1 := ⟨n' - 1, by omega⟩
    exact .lst (fun d hd => ih d hd (by omega)) (by omega)
theorem Bd.ok {L : Nat} {M : Int} {n : Nat} {d : D} (h : Bd L M n d) : OkE n d := by
  induction h with
  | non => exact .non
  | bl b => exact .bl b
  | int h1 h2 => exact .int _
  | str h hl => exact .str h
  | tup h hl ih => exact .tup ih
  | lst h hl ih => exact .lst ih
theorem Bd.calm {L : Nat} {M : Int} {n : Nat} {d : D} (h : Bd L M n d) : ∀ k, Calm k d := by
  induction h with
  | non => intro k; cases k <;> (unfold Calm; trivial)
  | bl b => intro k; cases k <;> (unfold Calm; trivial)
  | int h1 h2 => intro k; cases k <;> (unfold Calm; trivial)
  | str h hl => intro k; cases k <;> (unfold Calm; exact ⟨h, hl⟩)
  | tup h hl ih => intro k; cases k with
    | zero => unfold Calm; trivial
    | succ k => unfold Calm; exact fun d hd => ih d hd k
  | lst h hl ih => intro k; cases k <;> (unfold Calm; trivial)
theorem okS (x : Str) (h : (toPy (.str x)).canLay0 = true := by decide +kernel) (hl : x.length ≤ 1000000 := by decide +kernel) {L : Nat} {M : Int} {n : Nat} : Bd L M n (.str x) := .str h hl
theorem bd_nil {L : Nat} {M : Int} {n : Nat} : ∀ d ∈ ([] : List D), Bd L M n d := fun _ h => by cases h
def sp_other : FSpec := fun ds R => ∃ thing L M n, ds = [.box, thing] ∧ Th L M n thing ∧ L ≤ 100000 ∧ 0 ≤ M ∧ ∀ d, Bd (2 * L + 1) (M + 100) (n + 1) d → R d
theorem mono_other : SMono sp_other := fun ds R R' h ⟨t, L, M, n, e, h0, h1, h2, q⟩ => ⟨t, L, M, n, e, h0, h1, h2, fun d hd => h _ (q d hd)⟩
theorem ev_other : Ev ["box", "thing", "behind", "k"] 2 sp_other (F__law_other specDraw) := by
  intro ds R hn0 ⟨t, L, M, n, e, ht, hL, hM, q⟩
  subst e
  simp only [startD_cons, startD_nil]
  unfold F__law_other
  cases ht with
  | non =>
    repeat walk_at "st"
    refine call_of ⟨3, rfl, by decide, fun j j0 j1 => ?_⟩
    walk_at "dl"
    obtain ⟨d, hd, e⟩ := atI_mem (xs := [D.int 0, D.str "", D.tup []]) j0 j1
    refine ixS_of d e ?_
    walk_at "dl"
    exact q d (map_int_mem (.int (by omega) (by omega)) (map_int_mem (okS "") (map_int_mem (.tup bd_nil (Nat.zero_le _)) bd_nil)) d hd)
  | int h1 h2 =>
    rename_i i
    repeat walk_at "st"
    refine call_of ⟨7, rfl, by decide, fun j j0 j1 => ?_⟩
    walk_at "dl"
    obtain ⟨d, hd, e⟩ := atI_mem (xs := [D.int (i + 1), D.int (i - 1), D.int (0 - i), D.bl true, D.non, D.int 0, D.int 100]) j0 j1
    refine ixS_of d e ?_
    walk_at "dl"
    exact q d (map_int_mem (.int (by omega) (by omega)) (map_int_mem (.int (by omega) (by omega)) (map_int_mem (.int (by omega) (by omega)) (map_int_mem (.bl true) (map_int_mem .non (map_int_mem (.int (by omega) (by omega)) (map_int_mem (.int (by omega) (by omega)) bd_nil)))))) d hd)
  | str h hl =>
    rename_i x
    repeat walk_at "st"
    refine call_of ⟨12, rfl, by decide, fun j j0 j1 => ?_⟩
    walk_at "dl"
    obtain ⟨d, hd, e⟩ := atI_mem (xs := [D.str "x0", D.str "x1", D.str "r0", D.str "r1", D.str "rows", D.str "most", D.str "just", D.str "sum", D.str "A", D.str "", D.str "x y", D.non]) j0 j1
    refine ixS_of d e ?_
    walk_at "dl"
    exact q d (map_int_mem (okS _) (map_int_mem (okS _) (map_int_mem (okS _) (map_int_mem (okS _) (map_int_mem (okS _) (map_int_mem (okS _) (map_int_mem (okS _) (map_int_mem (okS _) (map_int_mem (okS _) (map_int_mem (okS _) (map_int_mem (okS _) (map_int_mem .non bd_nil))))))))))) d hd)
  | tup h hl =>
    rename_i n ds
    walk_at "st"
    walk_at "st"
    refine ⟨⟨by omega, by omega⟩, ?_⟩
    have e0 : ((ds.length : Int)).toNat = ds.length := by omega
    rw [e0]
    refine comp_all (Th L M n) ?_ ?_
    · intro x hx acc k hacc hk
      obtain ⟨i, rfl, hi0, hi1⟩ := rangeD_mem hx
      rw [rangeD_length] at hacc
      walk_at "dl"
      obtain ⟨d, hd, e⟩ := atI_mem (xs := ds) (i := ds.length - 1 - i) (by omega) (by omega)
      refine ixS_of d e ?_
      walk_at "dl"
      exact ⟨by omega, hk _ (h d hd)⟩
    · intro acc hlen hacc
      rw [rangeD_length] at hlen
      walk_at "dl"
      walk_at "st"
      have c1 : (cutD ds none (some 1)).length ≤ ds.length := cutD_len
      refine ⟨by omega, ?_⟩
      refine call_of ⟨6, rfl, by decide, fun j j0 j1 => ?_⟩
      walk_at "dl"
      obtain ⟨d, hd, e⟩ := atI_mem (xs := [D.lst ds, D.tup (ds ++ cutD ds none (some 1)), D.tup (cutD ds (some 1) none), D.non, D.tup [], D.tup acc]) j0 j1
      refine ixS_of d e ?_
      walk_at "dl"
      have up : ∀ d ∈ ds, Bd (2 * L + 1) (M + 100) (n + 1) d := fun d hd => (h d hd).bd.le (by omega) (by omega) (by omega)
      have c2 : (cutD ds (some 1) none).length ≤ ds.length := cutD_len
      refine q d (map_int_mem (.lst up (by omega)) (map_int_mem (.tup (fun y hy => ?_) (by rw [List.length_append]; omega)) (map_int_mem (.tup (fun y hy => up y (cutD_sub hy)) (by omega)) (map_int_mem .non (map_int_mem (.tup bd_nil (Nat.zero_le _)) (map_int_mem (.tup (fun y hy => (hacc y hy).bd.le (by omega) (by omega) (by omega)) (by omega)) bd_nil))))) d hd)
      rcases List.mem_append.mp hy with hy | hy
      · exact up y hy
      · exact up y (cutD_sub hy)
theorem eqL_nil {ds : List D} : eqL ds [] = ds.isEmpty := by cases ds <;> rfl
def sp_changed (k : Nat) : FSpec := fun ds R => ∃ thing L M n, ds = [.box, thing] ∧ Th L M n thing ∧ n < k ∧ n ≤ 50 ∧ L ≤ 100000 ∧ 0 ≤ M ∧ ∀ d, Bd (2 * L + 1) (M + 100) (n + 1) d → R d
theorem mono_changed (k : Nat) : SMono (sp_changed k) := fun ds R R' h ⟨t, L, M, n, e, h0, hk, h3, h1, h2, q⟩ => ⟨t, L, M, n, e, h0, hk, h3, h1, h2, fun d hd => h _ (q d hd)⟩
theorem zero_changed : ∀ ds R, ¬ sp_changed 0 ds R := fun ds R ⟨t, L, M, n, e, h0, hk, _⟩ => by cases hk
theorem ev_changed (k : Nat) : Ev ["box", "thing", "at"] 2 (sp_changed (k + 1)) (F__law_changed specDraw sp_other (sp_changed k)) := by
  intro ds R hn0 ⟨t, L, M, n, e, ht, hk, hn, hL, hM, q⟩
  subst e
  simp only [startD_cons, startD_nil]
  unfold F__law_changed
  cases ht with
  | tup h hl =>
    rename_i n ds
    walk_at "st"
    refine gEq_of (n := 60) (m := 60) (.tup fun d hd => ((h d hd).bd.ok.le (by omega))) (.tup okE_nil) ?_
    walk_at "dl"
    rw [eqD_tt, eqL_nil]
    have hO : ∀ d, Bd (2 * L + 1) (M + 100) (n + 1 + 1) d → R d := q
    split
    · walk_at "st"
      refine call_of ⟨_, L, M, n + 1, rfl, .tup h hl, hL, hM, fun d hd => ?_⟩
      walk_at "dl"
      exact q d hd
    · next hne =>
      have hpos : 0 < ds.length := by
        cases ds with
        | nil => exact absurd rfl hne
        | cons => rw [List.length_cons]; omega
      refine call_of ⟨9, rfl, by decide, fun j _ _ => ?_⟩
      walk_at "dl"
      split
      · walk_at "st"
        refine call_of ⟨_, L, M, n + 1, rfl, .tup h hl, hL, hM, fun d hd => ?_⟩
        walk_at "dl"
        exact q d hd
      · walk_at "st"
        walk_at "st"
        refine call_of ⟨900, rfl, by decide, fun j j0 j1 => ?_⟩
        walk_at "dl"
        refine ⟨by omega, ?_⟩
        walk_at "st"
        rw [Int.fmod_eq_emod_of_nonneg _ (by omega)]
        have r0 := Int.emod_nonneg j (show (ds.length : Int) ≠ 0 by omega)
        have r1 := Int.emod_lt_of_pos j (show 0 < (ds.length : Int) by omega)
        generalize j % (ds.length : Int) = a at *
        obtain ⟨x, hx, e⟩ := atI_mem (xs := ds) r0 r1
        refine ixS_of x e ?_
        walk_at "dl"
        refine call_of ⟨_, L, M, n, rfl, h x hx, by omega, by omega, hL, hM, fun d hd => ?_⟩
        walk_at "dl"
        have c1 : (cutD ds none (some a)).length ≤ ds.length := cutD_len
        have c2 : (cutD ds (some (a + 1)) none).length ≤ ds.length := cutD_len
        refine ⟨by omega, by rw [List.length_append, List.length_singleton]; omega, q _ (.tup (fun y hy => ?_) (by rw [List.length_append, List.length_append, List.length_singleton]; omega))⟩
        have up : ∀ d ∈ ds, Bd (2 * L + 1) (M + 100) (n + 1) d := fun d hd => (h d hd).bd.le (by omega) (by omega) (by omega)
        rcases List.mem_append.mp hy with hy | hy
        · rcases List.mem_append.mp hy with hy | hy
          · exact up y (cutD_sub hy)
          · rcases List.mem_cons.mp hy with rfl | hy
            · exact hd
            · cases hy
        · exact up y (cutD_sub hy)
  | _ =>
    walk_at "st"
    walk_at "st"
    refine call_of ⟨_, L, M, n, rfl, ?_, hL, hM, fun d hd => ?_⟩
    · first
        | exact .non
        | exact .int (by assumption) (by assumption)
        | exact .str (by assumption) (by assumption)
    walk_at "dl"
    exact q d hd
def loB (lo : D) (i : Int) : Bool := match lo with
  | .int l => decide (l ≤ i)
  | _ => true
def hiB (hi : D) (i : Int) : Bool := match hi with
  | .int h => decide (i ≤ h)
  | _ => true
/-- an integer, not below lo, not above hi -/
def wholeB (d lo hi : D) : Bool := match d with
  | .int i => loB lo i && hiB hi i
  | _ => false
def sp_whole : FSpec := fun ds R => ∃ d lo hi k, ds = [d, lo, hi] ∧ Calm k d ∧ (lo = .non ∨ ∃ l, lo = .int l) ∧ (hi = .non ∨ ∃ l, hi = .int l) ∧ R (.bl (wholeB d lo hi))
theorem mono_whole : SMono sp_whole := fun ds R R' h ⟨d, lo, hi, k, e, h0, h1, h2, q⟩ => ⟨d, lo, hi, k, e, h0, h1, h2, h _ q⟩
theorem ev_whole : Ev ["thing", "low", "high"] 3 sp_whole F__law_whole := by
  intro ds R hn0 ⟨d, lo, hi, k, e, hd, hlo, hhi, q⟩
  subst e
  simp only [startD_cons, startD_nil]
  unfold F__law_whole
  cases d with
  | box => cases k <;> (unfold Calm at hd; exact hd.elim)
  | scr => cases k <;> (unfold Calm at hd; exact hd.elim)
  | dk => cases k <;> (unfold Calm at hd; exact hd.elim)
  | dt => cases k <;> (unfold Calm at hd; exact hd.elim)
  | int i =>
    rcases hlo with rfl | ⟨l, rfl⟩
    · rcases hhi with rfl | ⟨m, rfl⟩
      · repeat walk_at "st"
        exact q
      · repeat walk_at "st"
        exact q
    · rcases hhi with rfl | ⟨m, rfl⟩
      · repeat walk_at "st"
        have q : R (.bl (decide (l ≤ i) && true)) := q
        rw [Bool.and_true] at q
        split
        · next h => rw [h] at q; exact q
        · next h => rw [Bool.eq_false_iff.mpr h] at q; exact q
      · repeat walk_at "st"
        have q : R (.bl (decide (l ≤ i) && decide (i ≤ m))) := q
        split
        · next h => rw [h] at q; exact q
        · next h => rw [Bool.eq_false_iff.mpr h] at q; exact q
  | _ =>
    repeat walk_at "st"
    exact q
end LK
set_option Elab.async false
set_option linter.all false
set_option autoImplicit false
/-! LRa: fractions as Lean's rationals; how many bits they have. -/
namespace LR
/-- both parts below 2^n -/
def Qb (n : Nat) (q : Rat) : Prop := q.num.natAbs < 2 ^ n ∧ q.den < 2 ^ n
theorem two_pow_mono {n m : Nat} (h : n ≤ m) : 2 ^ n ≤ 2 ^ m := Nat.pow_le_pow_right (by decide) h
theorem Qb.mono {n m : Nat} {q : Rat} (h : Qb n q) (hm : n ≤ m) : Qb m q := ⟨Nat.lt_of_lt_of_le h.1 (two_pow_mono hm), Nat.lt_of_lt_of_le h.2 (two_pow_mono hm)⟩
theorem Qb.pos {n : Nat} {q : Rat} (h : Qb n q) : 1 ≤ n := by
  cases n with
  | zero =>
    have := h.2
    have := q.den_pos
    omega
  | succ n => omega
theorem num_le (n b : Int) : (Rat.divInt n b).num.natAbs ≤ n.natAbs := by
  rw [Rat.num_divInt]
  refine Nat.le_trans (Int.natAbs_ediv_le_natAbs _ _) ?_
  rw [Int.natAbs_mul]
  rcases Int.lt_trichotomy b 0 with h | h | h
  · rw [Int.sign_eq_neg_one_of_neg h]; simp
  · subst h; simp
  · rw [Int.sign_eq_one_of_pos h]; simp
theorem den_le (n b : Int) (hb : b ≠ 0) : (Rat.divInt n b).den ≤ b.natAbs := by
  rw [Rat.den_divInt, if_neg hb]
  exact Nat.div_le_self _ _
theorem Qb.divInt {k : Nat} {n b : Int} (hb : b ≠ 0) (h1 : n.natAbs < 2 ^ k) (h2 : b.natAbs < 2 ^ k) : Qb k (Rat.divInt n b) :=
  ⟨Nat.lt_of_le_of_lt (num_le n b) h1, Nat.lt_of_le_of_lt (den_le n b hb) h2⟩
theorem Qb.div {k : Nat} {n b : Int} (hb : b ≠ 0) (h1 : n.natAbs < 2 ^ k) (h2 : b.natAbs < 2 ^ k) : Qb k ((n : Rat) / (b : Rat)) := by
  rw [← Rat.divInt_eq_div]; exact Qb.divInt hb h1 h2
theorem Qb.int {k : Nat} {n : Int} (h1 : n.natAbs < 2 ^ k) (hk : 1 ≤ k) : Qb k (n : Rat) :=
  ⟨h1, by rw [Rat.den_intCast]; exact Nat.lt_of_lt_of_le (by decide) (two_pow_mono (n := 1) hk)⟩
theorem mul_lt_pow {a b n m : Nat} (h1 : a < 2 ^ n) (h2 : b < 2 ^ m) : a * b < 2 ^ (n + m) := by
  rw [Nat.pow_add]
  exact Nat.mul_lt_mul'' h1 h2
theorem add_eq (a b : Rat) : a + b = Rat.divInt (a.num * b.den + b.num * a.den) (a.den * b.den) := by
  rw [Rat.add_def', ← Rat.divInt_ofNat]; simp
theorem sub_eq (a b : Rat) : a - b = Rat.divInt (a.num * b.den - b.num * a.den) (a.den * b.den) := by
  rw [Rat.sub_def', ← Rat.divInt_ofNat]; simp
theorem mul_eq (a b : Rat) : a * b = Rat.divInt (a.num * b.num) (a.den * b.den) := by
  rw [Rat.mul_def', ← Rat.divInt_ofNat]; simp
theorem div_eq (a b : Rat) (hb : b ≠ 0) : a / b = Rat.divInt (a.num * b.den) (a.den * b.num) := by
  rw [Rat.div_def, Rat.inv_def]
  have : a = Rat.divInt a.num a.den := (Rat.num_divInt_den a).symm
  conv => lhs; rw [this]
  rw [Rat.divInt_mul_divInt]
theorem dden_ne (a b : Rat) : (a.den * b.den : Int) ≠ 0 := Int.mul_ne_zero (Int.natCast_ne_zero.mpr a.den_nz) (Int.natCast_ne_zero.mpr b.den_nz)
theorem abs_add_lt {x y : Int} {n : Nat} (h1 : x.natAbs < 2 ^ n) (h2 : y.natAbs < 2 ^ n) : (x + y).natAbs < 2 ^ (n + 1) := by
  rw [Nat.pow_succ]; omega
theorem Qb.numden {n m : Nat} {a b : Rat} (h1 : Qb n a) (h2 : Qb m b) : (a.num * b.den).natAbs < 2 ^ (n + m) := by
  rw [Int.natAbs_mul, Int.natAbs_natCast]; exact mul_lt_pow h1.1 h2.2
theorem Qb.dens {n m : Nat} {a b : Rat} (h1 : Qb n a) (h2 : Qb m b) : (a.den * b.den : Int).natAbs < 2 ^ (n + m) := by
  rw [Int.natAbs_mul, Int.natAbs_natCast, Int.natAbs_natCast]; exact mul_lt_pow h1.2 h2.2
theorem Qb.add {n m : Nat} {a b : Rat} (h1 : Qb n a) (h2 : Qb m b) : Qb (n + m + 1) (a + b) := by
  rw [add_eq]
  refine Qb.divInt (dden_ne a b) (abs_add_lt (h1.numden h2) (by rw [Nat.add_comm]; exact h2.numden h1)) ?_
  exact Nat.lt_of_lt_of_le (h1.dens h2) (two_pow_mono (by omega))
theorem Qb.sub {n m : Nat} {a b : Rat} (h1 : Qb n a) (h2 : Qb m b) : Qb (n + m + 1) (a - b) := by
  rw [sub_eq]
  refine Qb.divInt (dden_ne a b) ?_ ?_
  · rw [Int.sub_eq_add_neg]
    exact abs_add_lt (h1.numden h2) (by rw [Int.natAbs_neg, Nat.add_comm]; exact h2.numden h1)
  exact Nat.lt_of_lt_of_le (h1.dens h2) (two_pow_mono (by omega))
theorem Qb.mul {n m : Nat} {a b : Rat} (h1 : Qb n a) (h2 : Qb m b) : Qb (n + m) (a * b) := by
  rw [mul_eq]
  exact Qb.divInt (dden_ne a b) (by rw [Int.natAbs_mul]; exact mul_lt_pow h1.1 h2.1) (h1.dens h2)
theorem num_ne {b : Rat} (hb : b ≠ 0) : b.num ≠ 0 := fun h => hb (Rat.num_eq_zero.mp h)
theorem Qb.over {n m : Nat} {a b : Rat} (h1 : Qb n a) (h2 : Qb m b) (hb : b ≠ 0) : Qb (n + m) (a / b) := by
  rw [div_eq a b hb]
  refine Qb.divInt (Int.mul_ne_zero (Int.natCast_ne_zero.mpr a.den_nz) (num_ne hb)) (h1.numden h2) ?_
  rw [Int.natAbs_mul, Int.natAbs_natCast]; exact mul_lt_pow h1.2 h2.1
theorem Qb.neg {n : Nat} {a : Rat} (h : Qb n a) : Qb n (-a) := ⟨by rw [Rat.neg_num, Int.natAbs_neg]; exact h.1, by rw [Rat.neg_den]; exact h.2⟩
theorem Qb.zero {n : Nat} (h : 1 ≤ n) : Qb n 0 := Qb.int (n := 0) (by simp; exact Nat.pow_pos (by decide)) h
theorem Qb.one {n : Nat} (h : 1 ≤ n) : Qb n 1 := Qb.int (n := 1) (Nat.lt_of_lt_of_le (by decide) (two_pow_mono (n := 1) h)) h
/-- sums of many -/
def qsum (qs : List Rat) : Rat := qs.foldl (· + ·) 0
theorem qfold (qs : List Rat) (a : Rat) : qs.foldl (· + ·) a = a + qs.sum := by
  induction qs generalizing a with
  | nil => simp [Rat.add_zero]
  | cons q qs ih => rw [List.foldl_cons, ih, List.sum_cons, Rat.add_assoc]
theorem qsum_eq (qs : List Rat) : qsum qs = qs.sum := by rw [qsum, qfold, Rat.zero_add]
theorem Qb.sum {n : Nat} {qs : List Rat} (h : ∀ q ∈ qs, Qb n q) : Qb ((n + 1) * qs.length + 1) qs.sum := by
  induction qs with
  | nil => exact Qb.zero (by simp)
  | cons q qs ih =>
    rw [List.sum_cons]
    refine (Qb.add (h q (List.mem_cons_self ..)) (ih fun r hr => h r (List.mem_cons_of_mem _ hr))).mono ?_
    rw [List.length_cons, Nat.mul_succ]; omega
/-- lowest terms, as the laws and the program make them -/
theorem divInt_parts {n b : Int} (hb : 0 < b) : (Rat.divInt n b).num = n / (Int.gcd n b : Int) ∧ ((Rat.divInt n b).den : Int) = b / (Int.gcd n b : Int) := by
  rw [Rat.num_divInt, Rat.den_divInt, if_neg (by omega), Int.sign_eq_one_of_pos hb, Int.one_mul, Int.gcd_comm]
  refine ⟨rfl, ?_⟩
  rw [Int.natCast_ediv]
  congr 1
  omega
theorem log_lt {n : Nat} {k : Nat} (h : n < 2 ^ k) (hk : 1 ≤ k) : n.log2 < k := by
  rcases Nat.eq_zero_or_pos n with h0 | h0
  · subst h0; rw [Nat.log2_zero]; omega
  · exact (Nat.log2_lt (by omega)).mpr h
end LR
set_option Elab.async false
set_option linter.all false
set_option maxRecDepth 100000
set_option autoImplicit false
set_option maxHeartbeats 4000000
/-! LR: fractions as data; the helpers on fractions that the program and the laws share. -/
namespace LR
open DL L2 PySem
def ratD (q : Rat) : D := .tup [.int q.num, .int (q.den : Int)]
theorem ratD_inj {a b : Rat} : ratD a = ratD b ↔ a = b := by
  constructor
  · intro h
    injection h with h
    injection h with h1 h2
    injection h2 with h2 _
    injection h1 with h1
    injection h2 with h2
    exact Rat.ext h1 (Int.ofNat_inj.mp h2)
  · rintro rfl; rfl
section
variable {q a b : Rat} {R : BV → Prop} {kb : Bool → Prop} {δ : DSt} {ks : DSt → Prop} {as : DAss} {c : Bool}
theorem gIx_r0 : gIx (ratD q) (.int 0) R = R (.val (.int q.num)) := by rw [ratD, gIx_t, atI_0, get_0, ixS_s]
theorem gIx_r1 : gIx (ratD q) (.int 1) R = R (.val (.int q.den)) := by rw [ratD, gIx_t, atI_1, get_s, get_0, ixS_s]
theorem isi_int_r : isiD .int (ratD q) = some false := isi_int_t
theorem isi_bool_r : isiD .bool (ratD q) = some false := isi_bool_t
theorem isi_str_r : isiD .str (ratD q) = some false := isi_str_t
theorem isi_tuple_r : isiD .tuple (ratD q) = some true := isi_tuple_t
theorem isi_list_r : isiD .list (ratD q) = some false := isi_list_t
theorem gLen_r : gLen [ratD q] R = R (.val (.int 2)) := by rw [ratD, gLen_t]; rfl
theorem isD_rn : isD (ratD q) .non = some false := isD_tn
theorem isD_rb : isD (ratD q) (.bl c) = some false := isD_tb
theorem asTup_r : asTup as (ratD q) δ ks = as [.int q.num, .int q.den] δ ks := asTup_t
theorem truD_r : truD (ratD q) kb = kb true := by rw [ratD, truD_t]; rfl
theorem okE_r {n : Nat} : OkE (n + 1) (ratD q) := .tup (okE_cons (.int _) (okE_cons (.int _) okE_nil))
theorem eqD_rr : eqD (ratD a) (ratD b) = decide (a = b) := by
  rw [ratD, ratD, eqD_tt, eqL_cc, eqL_cc, eqL_nn, eqD_ii, eqD_ii, Bool.and_true]
  by_cases h : a = b
  · subst h; simp
  · rw [decide_eq_false h]
    rcases Classical.em (a.num = b.num) with h1 | h1
    · have h2 : (a.den : Int) ≠ b.den := fun e => h (Rat.ext h1 (Int.ofNat_inj.mp e))
      rw [beq_eq_false_iff_ne.mpr h2, Bool.and_false]
    · rw [beq_eq_false_iff_ne.mpr h1, Bool.false_and]
theorem gEq_rr : gEq (ratD a) (ratD b) R = R (.val (.bl (decide (a = b)))) := by
  unfold gEq
  rw [eqD_rr]
  exact propext ⟨fun h => h.2.2, fun h => ⟨(okE_r (n := 0)).sh, (okE_r (n := 0)).sh, h⟩⟩
theorem gNe_rr : gNe (ratD a) (ratD b) R = R (.val (.bl (!decide (a = b)))) := by
  unfold gNe
  rw [eqD_rr]
  exact propext ⟨fun h => h.2.2, fun h => ⟨(okE_r (n := 0)).sh, (okE_r (n := 0)).sh, h⟩⟩
end
local macro_rules | `(tactic| walk_at "dl") => `(tactic| simp -implicitDefEqProofs only [↓fC_eq, ↓fVar_eq, ↓fOp_eq, ↓fNeg_eq, ↓fChain_eq, ↓fTst_eq, ↓fTru_eq, ↓fAnd_eq, ↓fOr_eq, ↓fNot_eq, ↓fAndV_eq, ↓fOrV_eq, ↓fNotV_eq, ↓fNotB_eq, ↓fIfE_eq, ↓fTup_eq, ↓fLst_eq, ↓fNil_eq, ↓fCons_eq, ↓fSl_eq, ↓fNoPart_eq, ↓fPart_eq, ↓fRevL_eq, ↓fCall_eq, ↓fBlt_eq, ↓fComp_eq, ↓fJoin_eq, strB_v, revS_l, ↓fCompL_eq, ↓frK_eq, frS_v, frS_o, gIx_k, gIn_k, gNin_k, keyD_i, keyD_s, keyS_s, gSl_t, gSl_l, ↓fIsi_eq, ↓fSeq_eq, ↓fRng1_eq, ↓fRng2_eq, ↓fYes_eq, ↓fTT_eq,
  nx_mk, rt_mk, bk_mk, ct_mk, repl_s, repl_0, List.length_cons, List.length_nil, look_zero, look_succ, get_0, get_s, set_0, set_s, atI_0, atI_1, atI_2, atI_3, atI_m1, List.getLast?_cons_cons, List.getLast?_singleton,
  withD_v, withD_f, withD_s, atSlot_v, atSlot_o, force_v, force_f, force_s, frSlot_v, frSlot_o, store_v, store_f, store_s, stSlot_v, stSlot_o, asB_v, asI_eq, asInt_i, varS_v, varS_o, forceL_n, forceL_c, withL_n, withL_c, asName_eq, asTup_t, asCons_c, asNil_n,
  gAdd_i, gAdd_t, gAdd_l, gSub_i, gMul_i, gMul_l, gFdiv_i, gMod_i, gPow_i, gLt_i, gLe_i, gGt_i, gGe_i, gEq_ii, gNe_ii, isS_s, gIs_eq, gIsnt_eq, isD_nn, isD_in, isD_tn, isD_bn, isi_int_n, isi_int_b, isi_int_i, isi_int_s, isi_int_t, isi_int_l, isi_bool_n, isi_bool_b, isi_bool_i, isi_bool_s, isi_bool_t, isi_bool_l, isi_str_n, isi_str_b, isi_str_i, isi_str_s, isi_str_t, isi_str_l, isi_tuple_n, isi_tuple_b, isi_tuple_i, isi_tuple_s, isi_tuple_t, isi_tuple_l, isi_list_n, isi_list_b, isi_list_i, isi_list_s, isi_list_t, isi_list_l,
  isD_sn, isD_ln, isD_nb, isD_ib, isD_tb, isD_sb, isD_bb, ixS_s, gIx_t, gIx_l, gIx_s, gLen_t, gLen_l, gLen_s, gAbs_i, gMin2_i, gMax2_i, gInt_i, gInt_b, gGcd_i, gTuple_l, gTuple_t, gList_l, gList_t, truD_b, truD_n, truD_t, truD_l, truD_i, seqS_l, seqS_t, rng1S_1, rng2S_1, okW_n, okW_c, okSl_n, okSl_v, wipeD_n, wipeD_c, backD_n, backD_c, parS_2, augS_v, isOwnL_o, appS_o, ite_t, ite_f, ite_tt, ite_ff,
  Nat.reduceAdd, Nat.reduceSub, Nat.reduceLeDiff, Bool.not_true, Bool.not_false, List.isEmpty_cons, List.isEmpty_nil, gIx_r0, gIx_r1, isi_int_r, isi_bool_r, isi_str_r, isi_tuple_r, isi_list_r, gLen_r, isD_rn, isD_rb, asTup_r, truD_r, gEq_rr, gNe_rr, true_and, and_true, decide_true, decide_false])
local macro_rules | `(tactic| walk_at "s1") => `(tactic| first | with_reducible refine fSet_i ?_ | with_reducible refine fRet_i ?_ | with_reducible refine fIf_i ?_ | with_reducible refine fPar_i ?_ | with_reducible refine fAsg_i ?_ | with_reducible refine fAug_i ?_ | with_reducible refine fApp_i ?_ | with_reducible refine fSetIx_i ?_ | with_reducible refine fDrop_i ?_ | with_reducible refine fFor_i ?_ | with_reducible refine fForL_i ?_ | with_reducible refine fNext_i ?_ | with_reducible refine fBrk_i ?_ | with_reducible refine fCt_i ?_ | with_reducible refine fRetN_i ?_)
local macro_rules | `(tactic| walk_at "st") => `(tactic| ((first | (with_reducible refine fSq_i ?_; walk_at "s1") | walk_at "s1"); (try walk_at "dl")))
local macro_rules | `(tactic| walk_at "mono") => `(tactic| (intro ds R R' h; repeat (first | exact h _ | with_reducible refine Exists.imp fun _ => ?_ | with_reducible refine And.imp_right ?_ | with_reducible refine fun f hf => h _ (f hf) | with_reducible refine fun f hf => ?_)))
/-! sizes -/
abbrev Fi (q : Rat) : Prop := Qb 4000 q
theorem mulC_log {i j : Int} {n m : Nat} (h1 : i.natAbs < 2 ^ n) (h2 : j.natAbs < 2 ^ m) (hn : 1 ≤ n) (hm : 1 ≤ m) (h : n + m ≤ 1000000) : MulC i j := by
  refine .inr (.inr ?_)
  have a := log_lt h1 hn
  have b := log_lt h2 hm
  omega
theorem mulC_nd {a b : Rat} (h1 : Fi a) (h2 : Fi b) : MulC a.num b.den := mulC_log h1.1 (by rw [Int.natAbs_natCast]; exact h2.2) (by decide) (by decide) (by decide)
theorem mulC_dn {a b : Rat} (h1 : Fi a) (h2 : Fi b) : MulC a.den b.num := mulC_log (by rw [Int.natAbs_natCast]; exact h1.2) h2.1 (by decide) (by decide) (by decide)
theorem mulC_dd {a b : Rat} (h1 : Fi a) (h2 : Fi b) : MulC a.den b.den := mulC_log (by rw [Int.natAbs_natCast]; exact h1.2) (by rw [Int.natAbs_natCast]; exact h2.2) (by decide) (by decide) (by decide)
theorem mulC_nn {a b : Rat} (h1 : Fi a) (h2 : Fi b) : MulC a.num b.num := mulC_log h1.1 h2.1 (by decide) (by decide) (by decide)
theorem fi_dens {a b : Rat} (h1 : Fi a) (h2 : Fi b) : (a.den * b.den : Int).natAbs < 2 ^ 9000 := Nat.lt_of_lt_of_le (h1.dens h2) (two_pow_mono (by decide))
/-- an integer's size as a fraction -/
theorem fi_int {n : Int} (h1 : -1000000000000 ≤ n) (h2 : n ≤ 1000000000000) : Fi (n : Rat) := Qb.int (Nat.lt_of_lt_of_le (show n.natAbs < 2 ^ 41 by omega) (two_pow_mono (by decide))) (by decide)
theorem qb_int {n : Int} {k : Nat} (h1 : -1000000000000 ≤ n) (h2 : n ≤ 1000000000000) (hk : 41 ≤ k) : Qb k (n : Rat) := Qb.int (Nat.lt_of_lt_of_le (show n.natAbs < 2 ^ 41 by omega) (two_pow_mono hk)) (by omega)
/-! the program's low -/
def F_low : DTS :=
 (fSq (fSet 2 (fIfE (fTst (fOp gGt (fVar 1) (fC (.int 0)))) (fBlt gGcd (fCons (fVar 0) (fCons (fVar 1) fNil))) (fOp DL.gSub (fC (.int 0)) (fBlt gGcd (fCons (fVar 0) (fCons (fVar 1) fNil))))))
 (fRet (fTup (fCons (fOp DL.gFdiv (fVar 0) (fVar 2)) (fCons (fOp DL.gFdiv (fVar 1) (fVar 2)) fNil)))))
def sp_plow : FSpec := fun ds R => ∃ n b : Int, ds = [.int n, .int b] ∧ b ≠ 0 ∧ b.natAbs < 2 ^ 9000 ∧ R (ratD ((n : Rat) / (b : Rat)))
theorem mono_plow : SMono sp_plow := by unfold sp_plow; walk_at "mono"
theorem rat_parts {n b : Int} (hb : 0 < b) : D.tup [.int (n / (Int.gcd n b : Int)), .int (b / (Int.gcd n b : Int))] = ratD ((n : Rat) / (b : Rat)) := by
  obtain ⟨h1, h2⟩ := divInt_parts (n := n) hb
  rw [ratD, ← Rat.divInt_eq_div, h1, h2]
theorem divC_gcd {n b : Int} (hb : b ≠ 0) (h : b.natAbs < 2 ^ 9000) : DivC (Int.gcd n b : Int) := by
  have h0 : 0 < Int.gcd n b := Int.gcd_pos_of_ne_zero_right _ hb
  have h1 : Int.gcd n b ≤ b.natAbs := Nat.le_of_dvd (by omega) (Int.gcd_dvd_natAbs_right n b)
  exact ⟨by omega, .inr (by rw [Int.natAbs_natCast]; exact log_lt (Nat.lt_of_le_of_lt h1 h) (by decide))⟩
theorem ev_plow : Ev ["top", "bottom", "common"] 2 sp_plow F_low := by
  intro ds R _ ⟨n, b, e, hb, hs, k⟩
  subst e
  simp only [startD_cons, startD_nil]
  unfold F_low
  have hd := divC_gcd (n := n) hb hs
  walk_at "st"
  split
  · next h =>
    have h := of_decide_eq_true h
    walk_at "st"
    refine ⟨hd, hd, ?_⟩
    rw [show (Nat.gcd n.natAbs b.natAbs) = Int.gcd n b from rfl, Int.fdiv_eq_ediv_of_nonneg _ (by omega), Int.fdiv_eq_ediv_of_nonneg _ (by omega), rat_parts h]
    exact k
  · next h =>
    have h := of_decide_eq_false (Bool.eq_false_iff.mpr h)
    walk_at "st"
    have hd' : DivC (0 - (Int.gcd n b : Int)) := by
      rw [Int.zero_sub]
      exact ⟨fun e => hd.1 (by omega), .inr (by rw [Int.natAbs_neg]; exact DivC_log hd)⟩
    refine ⟨hd', hd', ?_⟩
    have e1 : ∀ x : Int, x.fdiv (0 - (Int.gcd n b : Int)) = (-x) / (Int.gcd n b : Int) := fun x => by
      rw [Int.zero_sub, ← Int.fdiv_eq_ediv_of_nonneg _ (by omega), ← Int.neg_fdiv_neg (-x), Int.neg_neg]
    rw [show (Nat.gcd n.natAbs b.natAbs) = Int.gcd n b from rfl, e1, e1]
    have e2 : Int.gcd n b = Int.gcd (-n) (-b) := by rw [Int.neg_gcd, Int.gcd_neg]
    have e3 : (n : Rat) / (b : Rat) = ((-n : Int) : Rat) / ((-b : Int) : Rat) := by rw [← Rat.divInt_eq_div, ← Rat.divInt_eq_div, Rat.neg_divInt_neg]
    rw [e2, rat_parts (by omega), ← e3]
    exact k
/-! the laws' low -/
def sp_qlow : FSpec := fun ds R => ∃ n b : Int, ds = [.int n, .int b] ∧ 0 < b ∧ b.natAbs < 2 ^ 9000 ∧ R (ratD ((n : Rat) / (b : Rat)))
theorem mono_qlow : SMono sp_qlow := by unfold sp_qlow; walk_at "mono"
theorem ev_qlow : Ev ["number", "by", "one", "two"] 2 sp_qlow LK.F__law_low := by
  intro ds R hl ⟨n, b, e, hb, hs, k⟩
  refine LK.ev_low ds R hl ⟨n, b, e, hb, log_lt hs (by decide), ?_⟩
  rw [rat_parts hb]
  exact k
/-! two fractions in, one out -/
def sp_q2 (f : Rat → Rat → Rat) : FSpec := fun ds R => ∃ a b : Rat, ds = [ratD a, ratD b] ∧ Fi a ∧ Fi b ∧ R (ratD (f a b))
theorem mono_q2 (f : Rat → Rat → Rat) : SMono (sp_q2 f) := by unfold sp_q2; walk_at "mono"
abbrev sp_qadd : FSpec := sp_q2 (· + ·)
abbrev sp_qsub : FSpec := sp_q2 (· - ·)
abbrev sp_qmul : FSpec := sp_q2 (· * ·)
def F_plus (sp_low : FSpec) : DTS :=
 (fRet (fCall 2 sp_low (fCons (fOp DL.gAdd (fOp DL.gMul (fOp gIx (fVar 0) (fC (.int 0))) (fOp gIx (fVar 1) (fC (.int 1)))) (fOp DL.gMul (fOp gIx (fVar 1) (fC (.int 0))) (fOp gIx (fVar 0) (fC (.int 1))))) (fCons (fOp DL.gMul (fOp gIx (fVar 0) (fC (.int 1))) (fOp gIx (fVar 1) (fC (.int 1)))) fNil))))
def F_minus (sp_low : FSpec) : DTS :=
 (fRet (fCall 2 sp_low (fCons (fOp DL.gSub (fOp DL.gMul (fOp gIx (fVar 0) (fC (.int 0))) (fOp gIx (fVar 1) (fC (.int 1)))) (fOp DL.gMul (fOp gIx (fVar 1) (fC (.int 0))) (fOp gIx (fVar 0) (fC (.int 1))))) (fCons (fOp DL.gMul (fOp gIx (fVar 0) (fC (.int 1))) (fOp gIx (fVar 1) (fC (.int 1)))) fNil))))
def F_times (sp_low : FSpec) : DTS :=
 (fRet (fCall 2 sp_low (fCons (fOp DL.gMul (fOp gIx (fVar 0) (fC (.int 0))) (fOp gIx (fVar 1) (fC (.int 0)))) (fCons (fOp DL.gMul (fOp gIx (fVar 0) (fC (.int 1))) (fOp gIx (fVar 1) (fC (.int 1)))) fNil))))
def F_over (sp_low : FSpec) : DTS :=
 (fRet (fCall 2 sp_low (fCons (fOp DL.gMul (fOp gIx (fVar 0) (fC (.int 0))) (fOp gIx (fVar 1) (fC (.int 1)))) (fCons (fOp DL.gMul (fOp gIx (fVar 0) (fC (.int 1))) (fOp gIx (fVar 1) (fC (.int 0)))) fNil))))
def F_scaled (sp_low : FSpec) : DTS :=
 (fRet (fCall 2 sp_low (fCons (fOp DL.gMul (fVar 0) (fOp gIx (fVar 1) (fC (.int 0)))) (fCons (fOp gIx (fVar 1) (fC (.int 1))) fNil))))
def F__law_scaled (sp__law_low : FSpec) : DTS :=
 (fRet (fCall 2 sp__law_low (fCons (fOp DL.gMul (fOp gIx (fVar 0) (fC (.int 0))) (fVar 1)) (fCons (fOp gIx (fVar 0) (fC (.int 1))) fNil))))
def F__law_minus (sp__law_add : FSpec) : DTS :=
 (fRet (fCall 2 sp__law_add (fCons (fVar 0) (fCons (fTup (fCons (fOp DL.gSub (fC (.int 0)) (fOp gIx (fVar 1) (fC (.int 0)))) (fCons (fOp gIx (fVar 1) (fC (.int 1))) fNil))) fNil))))
def F_turned : DTS :=
 (fRet (fTup (fCons (fOp DL.gSub (fC (.int 0)) (fOp gIx (fVar 0) (fC (.int 0)))) (fCons (fOp gIx (fVar 0) (fC (.int 1))) fNil))))
def F_total (sp_plus : FSpec) : DTS :=
 (fSq (fSet 1 (fC (.tup [(.int 0), (.int 1)])))
 (fSq (fFor (fSeq (fVar 0)) (asName 2)
 (fSet 1 (fCall 2 sp_plus (fCons (fVar 1) (fCons (fVar 2) fNil)))))
 (fRet (fVar 1))))
def F__law_sum (sp__law_add : FSpec) : DTS :=
 (fSq (fSet 1 (fTup (fCons (fC (.int 0)) (fCons (fC (.int 1)) fNil))))
 (fSq (fFor (fSeq (fVar 0)) (asName 2)
 (fSet 1 (fCall 2 sp__law_add (fCons (fVar 1) (fCons (fVar 2) fNil)))))
 (fRet (fVar 1))))
theorem cast_num_den (a : Rat) : (a.num : Rat) / ((a.den : Int) : Rat) = a := by rw [← Rat.divInt_eq_div, Rat.num_divInt_den]
/-- a low with a positive bottom: what both lows give -/
def LowOk (sp : FSpec) : Prop := ∀ n b R, 0 < b → b.natAbs < 2 ^ 9000 → R (ratD ((n : Rat) / (b : Rat))) → sp [.int n, .int b] R
theorem low_p : LowOk sp_plow := fun n b R h1 h2 k => ⟨n, b, rfl, by omega, h2, k⟩
theorem low_q : LowOk sp_qlow := fun n b R h1 h2 k => ⟨n, b, rfl, h1, h2, k⟩
theorem dd_pos (a b : Rat) : (0 : Int) < a.den * b.den := Int.mul_pos (by have := a.den_pos; omega) (by have := b.den_pos; omega)
theorem ev_qadd' {sp : FSpec} {x y : Str} (h : LowOk sp) : Ev [x, y] 2 sp_qadd (F_plus sp) := by
  intro ds R _ ⟨a, b, e, ha, hb, k⟩
  subst e
  simp only [startD_cons, startD_nil]
  unfold F_plus
  walk_at "st"
  refine ⟨mulC_nd ha hb, mulC_nd hb ha, mulC_dd ha hb, call_of (h _ _ _ (dd_pos a b) (fi_dens ha hb) ?_)⟩
  (try walk_at "dl")
  rw [← Rat.divInt_eq_div, ← add_eq]
  exact k
theorem ev_qsub' {sp : FSpec} {x y : Str} (h : LowOk sp) : Ev [x, y] 2 sp_qsub (F_minus sp) := by
  intro ds R _ ⟨a, b, e, ha, hb, k⟩
  subst e
  simp only [startD_cons, startD_nil]
  unfold F_minus
  walk_at "st"
  refine ⟨mulC_nd ha hb, mulC_nd hb ha, mulC_dd ha hb, call_of (h _ _ _ (dd_pos a b) (fi_dens ha hb) ?_)⟩
  (try walk_at "dl")
  rw [← Rat.divInt_eq_div, ← sub_eq]
  exact k
theorem ev_qmul' {sp : FSpec} {x y : Str} (h : LowOk sp) : Ev [x, y] 2 sp_qmul (F_times sp) := by
  intro ds R _ ⟨a, b, e, ha, hb, k⟩
  subst e
  simp only [startD_cons, startD_nil]
  unfold F_times
  walk_at "st"
  refine ⟨mulC_nn ha hb, mulC_dd ha hb, call_of (h _ _ _ (dd_pos a b) (fi_dens ha hb) ?_)⟩
  (try walk_at "dl")
  rw [← Rat.divInt_eq_div, ← mul_eq]
  exact k
def sp_qover : FSpec := fun ds R => ∃ a b : Rat, ds = [ratD a, ratD b] ∧ Fi a ∧ Fi b ∧ b ≠ 0 ∧ R (ratD (a / b))
theorem mono_qover : SMono sp_qover := by unfold sp_qover; walk_at "mono"
theorem ev_qover' {x y : Str} : Ev [x, y] 2 sp_qover (F_over sp_plow) := by
  intro ds R _ ⟨a, b, e, ha, hb, hn, k⟩
  subst e
  simp only [startD_cons, startD_nil]
  unfold F_over
  walk_at "st"
  refine ⟨mulC_nd ha hb, mulC_dn ha hb, call_of ⟨_, _, rfl, Int.mul_ne_zero (Int.natCast_ne_zero.mpr a.den_nz) (num_ne hn), ?_, ?_⟩⟩
  · rw [Int.natAbs_mul, Int.natAbs_natCast]
    exact Nat.lt_of_lt_of_le (mul_lt_pow ha.2 hb.1) (two_pow_mono (by decide))
  walk_at "dl"
  rw [← Rat.divInt_eq_div, ← div_eq a b hn]
  exact k
theorem scale_eq (n : Int) (a : Rat) : ((n * a.num : Int) : Rat) / ((a.den : Int) : Rat) = n * a := by
  rw [Rat.intCast_mul, Rat.div_def, Rat.mul_assoc, ← Rat.div_def, cast_num_den]
def sp_qscaled : FSpec := fun ds R => ∃ (n : Int) (a : Rat), ds = [.int n, ratD a] ∧ n.natAbs < 2 ^ 4000 ∧ Fi a ∧ R (ratD (n * a))
theorem mono_qscaled : SMono sp_qscaled := by unfold sp_qscaled; walk_at "mono"
theorem fi_den {a : Rat} (ha : Fi a) : ((a.den : Int)).natAbs < 2 ^ 9000 := by rw [Int.natAbs_natCast]; exact Nat.lt_of_lt_of_le ha.2 (two_pow_mono (by decide))
theorem ev_qscaled : Ev ["number", "one"] 2 sp_qscaled (F_scaled sp_plow) := by
  intro ds R _ ⟨n, a, e, hn, ha, k⟩
  subst e
  simp only [startD_cons, startD_nil]
  unfold F_scaled
  walk_at "st"
  refine ⟨mulC_log hn ha.1 (by decide) (by decide) (by decide), call_of ⟨_, _, rfl, Int.natCast_ne_zero.mpr a.den_nz, fi_den ha, ?_⟩⟩
  walk_at "dl"
  rw [scale_eq]
  exact k
/-- the laws have the fraction ahead -/
def sp_qscaledL : FSpec := fun ds R => ∃ (a : Rat) (n : Int), ds = [ratD a, .int n] ∧ n.natAbs < 2 ^ 4000 ∧ Fi a ∧ R (ratD (n * a))
theorem mono_qscaledL : SMono sp_qscaledL := by unfold sp_qscaledL; walk_at "mono"
theorem ev_qscaledL : Ev ["one", "number"] 2 sp_qscaledL (F__law_scaled sp_qlow) := by
  intro ds R _ ⟨a, n, e, hn, ha, k⟩
  subst e
  simp only [startD_cons, startD_nil]
  unfold F__law_scaled
  walk_at "st"
  refine ⟨mulC_log ha.1 hn (by decide) (by decide) (by decide), call_of ⟨_, _, rfl, by have := a.den_pos; omega, fi_den ha, ?_⟩⟩
  walk_at "dl"
  rw [Int.mul_comm, scale_eq]
  exact k
def sp_qneg : FSpec := fun ds R => ∃ a : Rat, ds = [ratD a] ∧ R (ratD (-a))
theorem mono_qneg : SMono sp_qneg := by unfold sp_qneg; walk_at "mono"
theorem neg_parts (a : Rat) : D.tup [.int (0 - a.num), .int (a.den : Int)] = ratD (-a) := by rw [ratD, Rat.neg_num, Rat.neg_den, Int.zero_sub]
theorem ev_qneg : Ev ["one"] 1 sp_qneg F_turned := by
  intro ds R _ ⟨a, e, k⟩
  subst e
  simp only [startD_cons, startD_nil]
  unfold F_turned
  walk_at "st"
  rw [neg_parts]
  exact k
theorem ev_qsubL : Ev ["one", "two"] 2 sp_qsub (F__law_minus sp_qadd) := by
  intro ds R _ ⟨a, b, e, ha, hb, k⟩
  subst e
  simp only [startD_cons, startD_nil]
  unfold F__law_minus
  walk_at "st"
  rw [neg_parts]
  refine call_of ⟨a, -b, rfl, ha, hb.neg, ?_⟩
  walk_at "dl"
  rw [← Rat.sub_eq_add_neg]
  exact k
def sp_qless : FSpec := fun ds R => ∃ a b : Rat, ds = [ratD a, ratD b] ∧ Fi a ∧ Fi b ∧ R (.bl (decide (a < b)))
theorem mono_qless : SMono sp_qless := by unfold sp_qless; walk_at "mono"
theorem ev_qless' {x y : Str} : Ev [x, y] 2 sp_qless LK.F__law_less := by
  intro ds R _ ⟨a, b, e, ha, hb, k⟩
  subst e
  simp only [startD_cons, startD_nil]
  unfold LK.F__law_less
  walk_at "st"
  refine ⟨mulC_nd ha hb, mulC_nd hb ha, ?_⟩
  rw [show decide (a.num * (b.den : Int) < b.num * (a.den : Int)) = decide (a < b) from decide_eq_decide.mpr (Rat.lt_iff a b).symm]
  exact k
/-! sums -/
structure SumFi (qs : List Rat) : Prop where
  each : ∀ q ∈ qs, Fi q
  part : ∀ i, Fi (qs.take i).sum
theorem SumFi.of {qs : List Rat} {n : Nat} (h : ∀ q ∈ qs, Qb n q) (hl : (n + 1) * qs.length + 1 ≤ 4000) (hn : n ≤ 4000) : SumFi qs := by
  refine ⟨fun q hq => (h q hq).mono hn, fun i => (Qb.sum (n := n) fun q hq => h q (List.mem_of_mem_take hq)).mono ?_⟩
  have h1 : (qs.take i).length ≤ qs.length := List.length_take_le' ..
  have := Nat.mul_le_mul_left (n + 1) h1
  omega
def sp_qsum : FSpec := fun ds R => ∃ (s : D) (qs : List Rat), ds = [s] ∧ (s = .lst (qs.map ratD) ∨ s = .tup (qs.map ratD)) ∧ SumFi qs ∧ R (ratD qs.sum)
theorem mono_qsum : SMono sp_qsum := by unfold sp_qsum; walk_at "mono"
theorem rat_zero : D.tup [.int 0, .int 1] = ratD 0 := rfl
theorem sum_app (qs : List Rat) (q : Rat) : (qs ++ [q]).sum = qs.sum + q := by
  induction qs with
  | nil => simp [Rat.add_zero, Rat.zero_add]
  | cons x qs ih => rw [List.cons_append, List.sum_cons, List.sum_cons, ih, Rat.add_assoc]
theorem sum_for {R : D → Prop} {bk ct : DSt → Prop} {K : DSt → Prop} (s : Sl) (qs : List Rat) (h : SumFi qs) (k : ∀ s2, K [s, .val (ratD qs.sum), s2]) :
    ∀ (todo done : List Rat) (s2 : Sl), qs = done ++ todo → forD (asName 2) (fSet 1 (fCall 2 sp_qadd (fCons (fVar 1) (fCons (fVar 2) fNil)))) ⟨K, R, bk, ct⟩ (todo.map ratD) [s, .val (ratD done.sum), s2]
  | [], done, s2, e => by
    rw [List.append_nil] at e
    subst e
    rw [List.map_nil, forD_nil]
    exact k s2
  | q :: todo, done, s2, e => by
    rw [List.map_cons, forD_cons]
    walk_at "dl"
    walk_at "st"
    have hd : done = qs.take done.length := by rw [e, List.take_left]
    refine call_of ⟨_, q, rfl, ?_, h.each q (by rw [e]; exact List.mem_append_right _ (List.mem_cons_self ..)), ?_⟩
    · rw [hd]; exact h.part _
    walk_at "dl"
    have := sum_for (R := R) (bk := bk) (ct := ct) s qs h k todo (done ++ [q]) (.val (ratD q)) (by rw [e, List.append_assoc]; rfl)
    rw [sum_app] at this
    exact this
theorem ev_qsum : Ev ["values", "found", "value"] 1 sp_qsum (F_total sp_qadd) := by
  intro ds R _ ⟨s, qs, e, hs, hq, k⟩
  subst e
  simp only [startD_cons, startD_nil]
  unfold F_total
  rw [rat_zero]
  rcases hs with rfl | rfl
  · walk_at "st"
    walk_at "st"
    refine sum_for _ qs hq (fun s2 => ?_) qs [] _ rfl
    walk_at "st"
    exact k
  · walk_at "st"
    walk_at "st"
    refine sum_for _ qs hq (fun s2 => ?_) qs [] _ rfl
    walk_at "st"
    exact k
theorem ev_qsumL : Ev ["values", "found", "value"] 1 sp_qsum (F__law_sum sp_qadd) := by
  intro ds R _ ⟨s, qs, e, hs, hq, k⟩
  subst e
  simp only [startD_cons, startD_nil]
  unfold F__law_sum
  rcases hs with rfl | rfl
  · walk_at "st"
    rw [rat_zero]
    walk_at "st"
    refine sum_for _ qs hq (fun s2 => ?_) qs [] _ rfl
    walk_at "st"
    exact k
  · walk_at "st"
    rw [rat_zero]
    walk_at "st"
    refine sum_for _ qs hq (fun s2 => ?_) qs [] _ rfl
    walk_at "st"
    exact k
/-! is it a whole number, between two, a pair, a fraction -/
def F_is_whole : DTS :=
 (fRet (fAndV (fIsi .int (fVar 0)) (fNotB (fIsi .bool (fVar 0)))))
def F_is_between (sp_is_whole : FSpec) : DTS :=
 (fRet (fAndV (fCall 1 sp_is_whole (fCons (fVar 0) fNil)) (fChain gLe gLe (fVar 1) (fVar 0) (fVar 2))))
def F_is_pair : DTS :=
 (fRet (fAndV (fIsi .tuple (fVar 0)) (fOp gEq (fBlt gLen (fCons (fVar 0) fNil)) (fC (.int 2)))))
def F_is_fraction (sp_is_whole : FSpec) : DTS :=
 (fSq (fIf (fOr (fNot (fTru (fIsi .tuple (fVar 0)))) (fTst (fOp gNe (fBlt gLen (fCons (fVar 0) fNil)) (fC (.int 2)))))
 (fRet (fC (.bl false)))
 fNext)
 (fSq (fAsg (fVar 0) (asTup (asCons (asName 1) (asCons (asName 2) asNil))))
 (fSq (fIf (fOr (fNot (fTru (fCall 1 sp_is_whole (fCons (fVar 1) fNil)))) (fOr (fNot (fTru (fCall 1 sp_is_whole (fCons (fVar 2) fNil)))) (fTst (fOp gLt (fVar 2) (fC (.int 1))))))
 (fRet (fC (.bl false)))
 fNext)
 (fRet (fOp gEq (fBlt gGcd (fCons (fVar 1) (fCons (fVar 2) fNil))) (fC (.int 1)))))))
def F__law_is_fraction (sp__law_whole sp__law_low : FSpec) : DTS :=
 (fSq (fIf (fOr (fNot (fTru (fIsi .tuple (fVar 0)))) (fOr (fTst (fOp gNe (fBlt gLen (fCons (fVar 0) fNil)) (fC (.int 2)))) (fOr (fNot (fTru (fCall 3 sp__law_whole (fCons (fOp gIx (fVar 0) (fC (.int 0))) (fCons (fC .non) (fCons (fC .non) fNil)))))) (fNot (fTru (fCall 3 sp__law_whole (fCons (fOp gIx (fVar 0) (fC (.int 1))) (fCons (fC (.int 1)) (fCons (fC .non) fNil)))))))))
 (fRet (fC (.bl false)))
 fNext)
 (fRet (fOp gEq (fCall 2 sp__law_low (fCons (fOp gIx (fVar 0) (fC (.int 0))) (fCons (fOp gIx (fVar 0) (fC (.int 1))) fNil))) (fVar 0))))
def intB : D → Bool
  | .int _ => true
  | _ => false
def sp_isw : FSpec := fun ds R => ∃ d, ds = [d] ∧ LK.Calm 0 d ∧ R (.bl (intB d))
theorem mono_isw : SMono sp_isw := by unfold sp_isw; walk_at "mono"
theorem ev_isw : Ev ["thing"] 1 sp_isw F_is_whole := by
  intro ds R _ ⟨d, e, hc, k⟩
  subst e
  simp only [startD_cons, startD_nil]
  unfold F_is_whole
  walk_at "st"
  cases d with
  | int i => walk_at "dl"; exact k
  | bl b => walk_at "dl"; exact k
  | non => walk_at "dl"; exact k
  | str x => walk_at "dl"; exact k
  | tup x => walk_at "dl"; exact k
  | lst x => walk_at "dl"; exact k
  | dk x => exact hc.elim
  | dt x => exact hc.elim
  | ptp x => exact hc.elim
  | scr x => exact hc.elim
  | box => exact hc.elim
def sp_isb : FSpec := fun ds R => ∃ d l h, ds = [d, .int l, .int h] ∧ LK.Calm 0 d ∧ R (.bl (LK.wholeB d (.int l) (.int h)))
theorem mono_isb : SMono sp_isb := by unfold sp_isb; walk_at "mono"
theorem ev_isb : Ev ["thing", "least", "most"] 3 sp_isb (F_is_between sp_isw) := by
  intro ds R _ ⟨d, l, h, e, hc, k⟩
  subst e
  simp only [startD_cons, startD_nil]
  unfold F_is_between
  walk_at "st"
  refine call_of ⟨d, rfl, hc, ?_⟩
  walk_at "dl"
  cases d with
  | int i =>
    unfold intB
    unfold LK.wholeB LK.loB LK.hiB at k
    walk_at "dl"
    dsimp only at k
    by_cases hl : l ≤ i
    · rw [decide_eq_true hl] at k ⊢
      walk_at "dl"
      exact k
    · rw [decide_eq_false hl] at k ⊢
      walk_at "dl"
      exact k
  | bl b => unfold intB; walk_at "dl"; exact k
  | non => unfold intB; walk_at "dl"; exact k
  | str x => unfold intB; walk_at "dl"; exact k
  | tup x => unfold intB; walk_at "dl"; exact k
  | lst x => unfold intB; walk_at "dl"; exact k
  | dk x => exact hc.elim
  | dt x => exact hc.elim
  | ptp x => exact hc.elim
  | scr x => exact hc.elim
  | box => exact hc.elim
def pairB : D → Bool
  | .tup [_, _] => true
  | _ => false
theorem pairB_len {ds : List D} : pairB (.tup ds) = ((ds.length : Int) == 2) := by
  rcases ds with _ | ⟨a, _ | ⟨b, _ | ⟨c, ds⟩⟩⟩
  · rfl
  · rfl
  · rfl
  · show false = _
    symm
    rw [beq_eq_false_iff_ne]
    show ((ds.length + 1 + 1 + 1 : Nat) : Int) ≠ 2
    omega
theorem pairB_iff {d : D} : pairB d = true ↔ ∃ a b, d = .tup [a, b] := by
  constructor
  · intro h
    cases d with
    | tup ds =>
      rcases ds with _ | ⟨a, _ | ⟨b, _ | ⟨c, ds⟩⟩⟩
      · cases h
      · cases h
      · exact ⟨a, b, rfl⟩
      · cases h
    | _ => cases h
  · rintro ⟨a, b, rfl⟩; rfl
def sp_isp : FSpec := fun ds R => ∃ d, ds = [d] ∧ LK.Calm 0 d ∧ R (.bl (pairB d))
theorem mono_isp : SMono sp_isp := by unfold sp_isp; walk_at "mono"
theorem ev_isp : Ev ["thing"] 1 sp_isp F_is_pair := by
  intro ds R _ ⟨d, e, hc, k⟩
  subst e
  simp only [startD_cons, startD_nil]
  unfold F_is_pair
  walk_at "st"
  cases d with
  | int i => walk_at "dl"; exact k
  | bl b => walk_at "dl"; exact k
  | non => walk_at "dl"; exact k
  | str x => walk_at "dl"; exact k
  | tup x => rw [pairB_len] at k; walk_at "dl"; exact k
  | lst x => walk_at "dl"; exact k
  | dk x => exact hc.elim
  | dt x => exact hc.elim
  | ptp x => exact hc.elim
  | scr x => exact hc.elim
  | box => exact hc.elim
def frB : D → Bool
  | .tup [.int n, .int b] => decide (1 ≤ b) && (Int.gcd n b == 1)
  | _ => false
theorem frB_iff {d : D} : frB d = true ↔ ∃ q, d = ratD q := by
  constructor
  · intro h
    unfold frB at h
    split at h
    · next n b =>
      rw [Bool.and_eq_true, decide_eq_true_iff, beq_iff_eq] at h
      refine ⟨⟨n, b.toNat, by omega, ?_⟩, ?_⟩
      · rw [Nat.Coprime, show b.toNat = b.natAbs by omega]
        exact h.2
      · show _ = D.tup [.int n, .int (b.toNat : Int)]
        rw [Int.toNat_of_nonneg (by omega)]
    · cases h
  · rintro ⟨q, rfl⟩
    show (decide ((1 : Int) ≤ (q.den : Int)) && (Int.gcd q.num (q.den : Int) == 1)) = true
    rw [Bool.and_eq_true, decide_eq_true_iff, beq_iff_eq]
    refine ⟨by have := q.den_pos; omega, ?_⟩
    rw [Int.gcd, Int.natAbs_natCast]
    exact q.reduced
theorem frB_rat {q : Rat} : frB (ratD q) = true := frB_iff.mpr ⟨q, rfl⟩
theorem calm0 {d : D} {n : Nat} (h : LK.Calm n d) : LK.Calm 0 d := by
  cases d with
  | scr _ => cases n <;> exact h.elim
  | box => cases n <;> exact h.elim
  | dk _ => cases n <;> exact h.elim
  | dt _ => cases n <;> exact h.elim
  | ptp _ => cases n <;> exact h.elim
  | str x => cases n <;> exact h
  | _ => trivial
def sp_isf : FSpec := fun ds R => ∃ d k, ds = [d] ∧ LK.Calm (k + 1) d ∧ R (.bl (frB d))
theorem mono_isf : SMono sp_isf := by unfold sp_isf; walk_at "mono"
theorem frB_tup {a b : D} : frB (.tup [a, b]) = (intB a && (intB b && (match a, b with | .int n, .int m => decide (1 ≤ m) && (Int.gcd n m == 1) | _, _ => true))) := by
  cases a <;> cases b <;> rfl
theorem ev_isf : Ev ["thing", "top", "bottom"] 1 sp_isf (F_is_fraction sp_isw) := by
  intro ds R hlen ⟨d, kk, e, hc, k⟩
  subst e
  simp only [startD_cons, startD_nil]
  unfold F_is_fraction
  have hf : pairB d = false → R (.bl false) := fun h => by
    have : frB d = false := by
      rw [← Bool.not_eq_true]
      intro z
      obtain ⟨q, rfl⟩ := frB_iff.mp z
      cases h
    rw [this] at k; exact k
  cases d with
  | int i => walk_at "st"; walk_at "st"; exact k
  | bl b => walk_at "st"; walk_at "st"; exact k
  | non => walk_at "st"; walk_at "st"; exact k
  | str x => walk_at "st"; walk_at "st"; exact k
  | lst x => walk_at "st"; walk_at "st"; exact k
  | dk x => exact hc.elim
  | dt x => exact hc.elim
  | ptp x => exact hc.elim
  | scr x => exact hc.elim
  | box => exact hc.elim
  | tup xs =>
    by_cases hp : pairB (.tup xs) = true
    · obtain ⟨a, b, e⟩ := pairB_iff.mp hp
      cases e
      have ha := calm0 (hc a (List.mem_cons_self ..))
      have hb := calm0 (hc b (List.mem_cons_of_mem _ (List.mem_cons_self ..)))
      walk_at "st"
      rw [show ((((0 + 1 + 1 : Nat) : Int)) == 2) = true from rfl]
      walk_at "dl"
      walk_at "st"
      walk_at "st"
      walk_at "st"
      refine call_of ⟨a, rfl, ha, ?_⟩
      rw [frB_tup] at k
      cases hia : intB a with
      | false =>
        rw [hia] at k
        walk_at "dl"
        walk_at "st"
        exact k
      | true =>
        walk_at "dl"
        refine call_of ⟨b, rfl, hb, ?_⟩
        cases hib : intB b with
        | false =>
          rw [hia, hib] at k
          walk_at "dl"
          walk_at "st"
          exact k
        | true =>
          cases a <;> try cases hia
          cases b <;> try cases hib
          clear hlen
          next n m =>
          unfold intB at k
          dsimp only at k
          walk_at "dl"
          by_cases hm : m < 1
          · rw [decide_eq_true hm]
            rw [decide_eq_false (by omega : ¬ 1 ≤ m)] at k
            (try walk_at "dl")
            walk_at "st"
            exact k
          · rw [decide_eq_false hm]
            rw [decide_eq_true (by omega : 1 ≤ m)] at k
            (try walk_at "dl")
            walk_at "st"
            walk_at "st"
            rw [show ((((n.natAbs.gcd m.natAbs : Nat) : Int)) == 1) = (Int.gcd n m == 1) by
              rw [Int.gcd]
              rw [Bool.eq_iff_iff, beq_iff_eq, beq_iff_eq]
              omega]
            exact k
    · have hp := Bool.eq_false_iff.mpr hp
      have := hf hp
      rw [pairB_len] at hp
      walk_at "st"
      rw [hp]
      walk_at "dl"
      walk_at "st"
      exact this
def sp_isfL : FSpec := fun ds R => ∃ d k, ds = [d] ∧ LK.Calm (k + 1) d ∧ (∀ n b, d = .tup [.int n, .int b] → b.natAbs < 2 ^ 9000) ∧ R (.bl (frB d))
theorem mono_isfL : SMono sp_isfL := by unfold sp_isfL; walk_at "mono"
theorem frB_low {n b : Int} (hb : 1 ≤ b) : eqD (ratD ((n : Rat) / (b : Rat))) (.tup [.int n, .int b]) = frB (.tup [.int n, .int b]) := by
  cases h : frB (.tup [.int n, .int b]) with
  | true =>
    obtain ⟨q, e⟩ := frB_iff.mp h
    rw [e, eqD_rr, decide_eq_true_iff]
    injection e with e
    injection e with e1 e2
    injection e2 with e2 _
    injection e1 with e1
    injection e2 with e2
    rw [e1, e2, cast_num_den]
  | false =>
    rw [← Bool.not_eq_true] at h ⊢
    intro z
    refine h (frB_iff.mpr ⟨(n : Rat) / (b : Rat), ?_⟩)
    rw [ratD, eqD_tt, eqL_cc, eqL_cc, eqL_nn, eqD_ii, eqD_ii, Bool.and_true, Bool.and_eq_true, beq_iff_eq, beq_iff_eq] at z
    rw [ratD, z.1, z.2]
theorem ev_isfL : Ev ["thing"] 1 sp_isfL (F__law_is_fraction LK.sp_whole sp_qlow) := by
  intro ds R hlen ⟨d, kk, e, hc, hs, k⟩
  subst e
  simp only [startD_cons, startD_nil]
  unfold F__law_is_fraction
  have hf : pairB d = false → R (.bl false) := fun h => by
    have : frB d = false := by
      rw [← Bool.not_eq_true]
      intro z
      obtain ⟨q, rfl⟩ := frB_iff.mp z
      cases h
    rw [this] at k; exact k
  cases d with
  | int i => walk_at "st"; walk_at "st"; exact k
  | bl b => walk_at "st"; walk_at "st"; exact k
  | non => walk_at "st"; walk_at "st"; exact k
  | str x => walk_at "st"; walk_at "st"; exact k
  | lst x => walk_at "st"; walk_at "st"; exact k
  | dk x => exact hc.elim
  | dt x => exact hc.elim
  | ptp x => exact hc.elim
  | scr x => exact hc.elim
  | box => exact hc.elim
  | tup xs =>
    by_cases hp : pairB (.tup xs) = true
    · obtain ⟨a, b, e⟩ := pairB_iff.mp hp
      cases e
      have ha := calm0 (hc a (List.mem_cons_self ..))
      have hb := calm0 (hc b (List.mem_cons_of_mem _ (List.mem_cons_self ..)))
      walk_at "st"
      rw [show ((((0 + 1 + 1 : Nat) : Int)) == 2) = true from rfl]
      walk_at "dl"
      refine call_of ⟨a, _, _, _, rfl, ha, .inl rfl, .inl rfl, ?_⟩
      cases hia : LK.wholeB a .non .non with
      | false =>
        walk_at "dl"
        walk_at "st"
        rw [frB_tup] at k
        cases a with
        | int i => cases hia
        | _ => exact k
      | true =>
        walk_at "dl"
        refine call_of ⟨b, _, _, _, rfl, hb, .inr ⟨1, rfl⟩, .inl rfl, ?_⟩
        cases a <;> try cases hia
        clear hlen
        next n =>
        cases hib : LK.wholeB b (.int 1) .non with
        | false =>
          walk_at "dl"
          walk_at "st"
          cases b with
          | int m =>
            unfold LK.wholeB LK.loB LK.hiB at hib
            dsimp only at hib
            rw [Bool.and_true] at hib
            simp only [frB] at k
            rw [hib] at k
            exact k
          | _ => exact k
        | true =>
          walk_at "dl"
          cases b <;> try cases hib
          next m =>
          unfold LK.wholeB LK.loB LK.hiB at hib
          dsimp only at hib
          rw [Bool.and_true, decide_eq_true_iff] at hib
          walk_at "st"
          walk_at "st"
          refine call_of ⟨n, m, rfl, by omega, hs n m rfl, ?_⟩
          walk_at "dl"
          refine gEq_of (n := 1) (m := 1) okE_r (.tup (okE_cons (.int _) (okE_cons (.int _) okE_nil))) ?_
          rw [frB_low hib]
          walk_at "dl"
          exact k
    · have hp := Bool.eq_false_iff.mpr hp
      have := hf hp
      rw [pairB_len] at hp
      walk_at "st"
      rw [hp]
      walk_at "dl"
      walk_at "st"
      exact this
end LR
set_option autoImplicit false
namespace E80
open DL LR
/-! P80: the greatest of lines. -/
section
variable (a b : Nat → Int)
def val (i : Nat) (x : Rat) : Rat := (a i : Rat) + (b i : Rat) * x
def mt (t l : Nat) : Rat := ((a t - a l : Int) : Rat) / ((b l - b t : Int) : Rat)
abbrev Row := Option Rat × Nat
def stops (s : Option Rat) (x : Rat) : Bool := match s with
  | none => true
  | some q => decide (q < x)
def pops (l : Nat) : List Row → Option Rat × List Row
  | [] => (none, [])
  | (s, t) :: rest => if stops s (mt a b t l) = true then (some (mt a b t l), (s, t) :: rest) else pops l rest
def push (st : List Row) (l : Nat) : List Row := ((pops a b l st).1, l) :: (pops a b l st).2
end
variable {a b : Nat → Int}
theorem dpos {t l : Nat} (h : b t < b l) : (0 : Rat) < ((b l - b t : Int) : Rat) := Rat.intCast_lt_intCast.mpr (show (0 : Int) < b l - b t by omega)
theorem mt_lt {t l : Nat} (h : b t < b l) {x : Rat} : mt a b t l < x ↔ ((a t - a l : Int) : Rat) < x * ((b l - b t : Int) : Rat) := Rat.div_lt_iff (dpos h)
theorem lt_mt {t l : Nat} (h : b t < b l) {x : Rat} : x < mt a b t l ↔ x * ((b l - b t : Int) : Rat) < ((a t - a l : Int) : Rat) := Rat.lt_div_iff (dpos h)
theorem val_le {t l : Nat} (h : b t < b l) {x : Rat} (hx : x ≤ mt a b t l) : val a b l x ≤ val a b t x := by
  have := mt_lt (a := a) h (x := x)
  rw [← Rat.not_lt, this, Rat.not_lt, Rat.intCast_sub, Rat.intCast_sub] at hx
  unfold val
  grind
theorem val_ge {t l : Nat} (h : b t < b l) {x : Rat} (hx : mt a b t l ≤ x) : val a b t x ≤ val a b l x := by
  have := lt_mt (a := a) h (x := x)
  rw [← Rat.not_lt, this, Rat.not_lt, Rat.intCast_sub, Rat.intCast_sub] at hx
  unfold val
  grind
theorem val_mt {t l : Nat} (h : b t < b l) : val a b t (mt a b t l) = val a b l (mt a b t l) := Rat.le_antisymm (val_ge h Rat.le_refl) (val_le h Rat.le_refl)
theorem val_same {i j : Nat} (hb : b i = b j) (ha : a i ≤ a j) (x : Rat) : val a b i x ≤ val a b j x := by
  unfold val
  rw [hb]
  have : (a i : Rat) ≤ (a j : Rat) := Rat.intCast_le_intCast.mpr ha
  grind
/-- a chain of lines -/
inductive Ch (a b : Nat → Int) : List Row → Prop
  | nil : Ch a b []
  | one {l : Nat} : Ch a b [(none, l)]
  | cons {l t : Nat} {s : Option Rat} {rest : List Row} (hb : b t < b l) (hs : stops s (mt a b t l) = true) (h : Ch a b ((s, t) :: rest)) : Ch a b ((some (mt a b t l), l) :: (s, t) :: rest)
theorem Ch.tail {p : Row} {rest : List Row} (h : Ch a b (p :: rest)) : Ch a b rest := by
  cases h with
  | one => exact .nil
  | cons hb hs h => exact h
theorem push_ch {l : Nat} : ∀ {st : List Row}, Ch a b st → (∀ p ∈ st, b p.2 < b l) → Ch a b (push a b st l)
  | [], _, _ => .one
  | (s, t) :: rest, h, hb => by
    unfold push pops
    split
    · next hc => exact .cons (hb _ List.mem_cons_self) hc h
    · next hc => exact push_ch h.tail fun p hp => hb p (List.mem_cons_of_mem _ hp)
theorem pops_sub {l : Nat} : ∀ {st : List Row}, ∀ p ∈ (pops a b l st).2, p ∈ st
  | [], p, hp => by cases hp
  | (s, t) :: rest, p, hp => by
    unfold pops at hp
    split at hp
    · exact hp
    · exact List.mem_cons_of_mem _ (pops_sub p hp)
theorem push_sub {l : Nat} {st : List Row} {p : Row} (hp : p ∈ push a b st l) : p.2 = l ∨ p ∈ st := by
  rcases List.mem_cons.mp hp with rfl | h
  · exact .inl rfl
  · exact .inr (pops_sub p h)
theorem push_head {l : Nat} {st : List Row} : ∃ p ∈ push a b st l, p.2 = l := ⟨_, List.mem_cons_self, rfl⟩
theorem push_dom {l : Nat} : ∀ {st : List Row}, Ch a b st → (∀ p ∈ st, b p.2 < b l) → ∀ p ∈ st, ∀ x, ∃ p' ∈ push a b st l, val a b p.2 x ≤ val a b p'.2 x
  | [], _, _, p, hp, _ => by cases hp
  | (s, t) :: rest, h, hb, p, hp, x => by
    have ht : b t < b l := hb (s, t) List.mem_cons_self
    by_cases hc : stops s (mt a b t l) = true
    · have e : push a b ((s, t) :: rest) l = (some (mt a b t l), l) :: (s, t) :: rest := by unfold push pops; rw [if_pos hc]
      rw [e]
      exact ⟨p, List.mem_cons_of_mem _ hp, Rat.le_refl⟩
    · have e : push a b ((s, t) :: rest) l = push a b rest l := by
        unfold push
        rw [pops, if_neg hc]
      rw [e]
      have hb' : ∀ p ∈ rest, b p.2 < b l := fun p hp => hb p (List.mem_cons_of_mem _ hp)
      rcases List.mem_cons.mp hp with rfl | hp'
      · cases h with
        | one => exact absurd rfl hc
        | cons hbt hs hr =>
          rename_i u s' rest'
          by_cases hx : x ≤ mt a b u t
          · obtain ⟨p', hp', hv⟩ := push_dom hr hb' (s', u) List.mem_cons_self x
            exact ⟨p', hp', Rat.le_trans (val_le hbt hx) hv⟩
          · obtain ⟨p', hp', e'⟩ := push_head (a := a) (b := b) (l := l) (st := (s', u) :: rest')
            refine ⟨p', hp', ?_⟩
            rw [e']
            refine val_ge ht ?_
            have h1 : ¬ mt a b u t < mt a b t l := fun z => hc (decide_eq_true z)
            exact Rat.le_trans (Rat.not_lt.mp h1) (Rat.le_of_lt (Rat.not_le.mp hx))
      · exact push_dom h.tail hb' p hp' x
/-- at a place, the last line begun is the greatest -/
def cond (x : Rat) (p : Row) : Bool := match p.1 with
  | none => true
  | some q => !decide (x < q)
theorem sel_max (x : Rat) : ∀ {st : List Row}, Ch a b st → st ≠ [] → ∃ pre p post, st = pre ++ p :: post ∧ (∀ r ∈ pre, cond x r = false) ∧ cond x p = true ∧ ∀ r ∈ st, val a b r.2 x ≤ val a b p.2 x := by
  intro st h hne
  induction h with
  | nil => exact absurd rfl hne
  | one => 
    refine ⟨[], _, [], rfl, fun r hr => (by cases hr), rfl, fun r hr => ?_⟩
    rw [List.mem_singleton.mp hr]; exact Rat.le_refl
  | cons hb hs h ih =>
    rename_i l t s rest
    obtain ⟨pre, p, post, e, h1, h2, h3⟩ := ih (by simp)
    by_cases hx : x < mt a b t l
    · refine ⟨(some (mt a b t l), l) :: pre, p, post, by rw [e]; rfl, fun r hr => ?_, h2, fun r hr => ?_⟩
      · rcases List.mem_cons.mp hr with rfl | hr
        · show (!decide (x < mt a b t l)) = false
          rw [decide_eq_true hx]; rfl
        · exact h1 r hr
      · rcases List.mem_cons.mp hr with rfl | hr
        · exact Rat.le_trans (val_le hb (Rat.le_of_lt hx)) (h3 (s, t) List.mem_cons_self)
        · exact h3 r hr
    · refine ⟨[], _, _, rfl, fun r hr => (by cases hr), by show (!decide (x < mt a b t l)) = true; rw [decide_eq_false hx]; rfl, fun r hr => ?_⟩
      rcases List.mem_cons.mp hr with rfl | hr
      · exact Rat.le_refl
      · have hx' := Rat.not_lt.mp hx
        have ht : cond x (s, t) = true := by
          cases s with
          | none => rfl
          | some q =>
            have : q < mt a b t l := of_decide_eq_true hs
            show (!decide (x < q)) = true
            rw [decide_eq_false (Rat.not_lt.mpr (Rat.le_trans (Rat.le_of_lt this) hx'))]; rfl
        have hp : p = (s, t) := by
          cases pre with
          | nil => injection e with e1 e2; exact e1.symm
          | cons r pre =>
            injection e with e1 e2
            have := h1 r List.mem_cons_self
            rw [← e1, ht] at this; cases this
        rw [hp] at h3
        exact Rat.le_trans (h3 r hr) (val_ge hb hx')
/-! all lines -/
structure Env (a b : Nat → Int) (done : List Nat) (st : List Row) : Prop where
  ch : Ch a b st
  mem : ∀ p ∈ st, p.2 ∈ done
  dom : ∀ j ∈ done, ∀ x, ∃ p ∈ st, val a b j x ≤ val a b p.2 x
theorem Env.step {done : List Nat} {st : List Row} (h : Env a b done st) {l : Nat} (hl : ∀ j ∈ done, b j < b l) : Env a b (done ++ [l]) (push a b st l) := by
  have hb : ∀ p ∈ st, b p.2 < b l := fun p hp => hl _ (h.mem p hp)
  refine ⟨push_ch h.ch hb, fun p hp => ?_, fun j hj x => ?_⟩
  · rcases push_sub hp with e | hp
    · rw [e]; exact List.mem_append_right _ List.mem_cons_self
    · exact List.mem_append_left _ (h.mem p hp)
  · rcases List.mem_append.mp hj with hj | hj
    · obtain ⟨p, hp, hv⟩ := h.dom j hj x
      obtain ⟨p', hp', hv'⟩ := push_dom h.ch hb p hp x
      exact ⟨p', hp', Rat.le_trans hv hv'⟩
    · rw [List.mem_singleton.mp hj]
      obtain ⟨p, hp, e⟩ := push_head (a := a) (b := b) (l := l) (st := st)
      exact ⟨p, hp, by rw [e]; exact Rat.le_refl⟩
theorem env_all : ∀ (todo done : List Nat) (st : List Row), Env a b done st → (done ++ todo).Pairwise (fun i j => b i < b j) → Env a b (done ++ todo) (todo.foldl (push a b) st)
  | [], done, st, h, _ => by rw [List.append_nil]; exact h
  | l :: todo, done, st, h, hp => by
    have e : done ++ l :: todo = done ++ [l] ++ todo := by simp
    rw [e] at hp ⊢
    refine env_all todo (done ++ [l]) (push a b st l) (h.step fun j hj => ?_) hp
    rw [List.append_assoc, List.pairwise_append] at hp
    exact hp.2.2 j hj l List.mem_cons_self
/-! the steepest first -/
def stp (a b : Nat → Int) : Nat → List Int × (Int → Nat)
  | 0 => ([], fun _ => 0)
  | k + 1 => if b k ∈ (stp a b k).1 then (if a ((stp a b k).2 (b k)) < a k then ((stp a b k).1, fun r => if r = b k then k else (stp a b k).2 r) else stp a b k) else ((stp a b k).1 ++ [b k], fun r => if r = b k then k else (stp a b k).2 r)
structure Inv (a b : Nat → Int) (k : Nat) (S : List Int × (Int → Nat)) : Prop where
  nd : S.1.Nodup
  len : S.1.length ≤ k
  ok : ∀ r ∈ S.1, S.2 r < k ∧ b (S.2 r) = r ∧ (∀ j, j < k → b j = r → a j ≤ a (S.2 r)) ∧ ∀ j, j < S.2 r → b j = r → a j < a (S.2 r)
  all : ∀ j, j < k → b j ∈ S.1
theorem stp_inv (a b : Nat → Int) : ∀ k, Inv a b k (stp a b k)
  | 0 => ⟨List.nodup_nil, Nat.le_refl _, fun r h => (by cases h), fun j h => by omega⟩
  | k + 1 => by
    have h := stp_inv a b k
    unfold stp
    split
    · next hm =>
      split
      · next hlt =>
        refine ⟨h.nd, by have := h.len; show (stp a b k).1.length ≤ k + 1; omega, fun r hr => ?_, fun j hj => ?_⟩
        · dsimp only
          by_cases e : r = b k
          · rw [if_pos e]
            obtain ⟨o1, o2, o3, o4⟩ := h.ok (b k) hm
            refine ⟨by omega, e.symm, fun j hj hb => ?_, fun j hj hb => ?_⟩
            · by_cases ej : j = k
              · rw [ej]; exact Int.le_refl _
              · have := o3 j (by omega) (hb.trans e); omega
            · have := o3 j hj (hb.trans e); omega
          · rw [if_neg e]
            obtain ⟨o1, o2, o3, o4⟩ := h.ok r hr
            refine ⟨by omega, o2, fun j hj hb => ?_, o4⟩
            by_cases ej : j = k
            · exact absurd (by rw [← hb, ej]) e
            · exact o3 j (by omega) hb
        · by_cases ej : j = k
          · rw [ej]; exact hm
          · exact h.all j (by omega)
      · next hlt =>
        refine ⟨h.nd, by have := h.len; omega, fun r hr => ?_, fun j hj => ?_⟩
        · obtain ⟨o1, o2, o3, o4⟩ := h.ok r hr
          refine ⟨by omega, o2, fun j hj hb => ?_, o4⟩
          by_cases ej : j = k
          · rw [ej] at hb ⊢
            rw [hb] at hlt
            omega
          · exact o3 j (by omega) hb
        · by_cases ej : j = k
          · rw [ej]; exact hm
          · exact h.all j (by omega)
    · next hm =>
      refine ⟨?_, ?_, fun r hr => ?_, fun j hj => ?_⟩
      · show ((stp a b k).1 ++ [b k]).Nodup
        rw [List.nodup_append]
        exact ⟨h.nd, List.nodup_cons.mpr ⟨(by simp), List.nodup_nil⟩, fun x hx y hy e => hm (by rw [List.mem_singleton.mp hy] at e; rw [← e]; exact hx)⟩
      · show ((stp a b k).1 ++ [b k]).length ≤ k + 1
        rw [List.length_append, List.length_singleton]; have := h.len; omega
      · have hr : r ∈ (stp a b k).1 ++ [b k] := hr
        dsimp only
        by_cases e : r = b k
        · rw [if_pos e]
          refine ⟨by omega, e.symm, fun j hj hb => ?_, fun j hj hb => ?_⟩
          · by_cases ej : j = k
            · rw [ej]; exact Int.le_refl _
            · exact absurd (by rw [← e, ← hb]; exact h.all j (by omega)) hm
          · exact absurd (by rw [← e, ← hb]; exact h.all j hj) hm
        · rw [if_neg e]
          have hr' : r ∈ (stp a b k).1 := (List.mem_append.mp hr).resolve_right fun z => e (List.mem_singleton.mp z)
          obtain ⟨o1, o2, o3, o4⟩ := h.ok r hr'
          refine ⟨by omega, o2, fun j hj hb => ?_, o4⟩
          by_cases ej : j = k
          · exact absurd (by rw [← hb, ej]) e
          · exact o3 j (by omega) hb
      · show b j ∈ (stp a b k).1 ++ [b k]
        by_cases ej : j = k
        · rw [ej]; exact List.mem_append_right _ List.mem_cons_self
        · exact List.mem_append_left _ (h.all j (by omega))
def ordF (a b : Nat → Int) (n : Nat) : List Nat := ((stp a b n).1.mergeSort (fun x y => decide (x ≤ y))).map (stp a b n).2
theorem sort_unique {ys ks : List Int} (hp : ys.Perm ks) (hs : ys.Pairwise (· ≤ ·)) : ys = ks.mergeSort fun x y => decide (x ≤ y) := by
  refine List.Perm.eq_of_pairwise (le := fun x y => x ≤ y) (fun x y _ _ h1 h2 => Int.le_antisymm h1 h2) hs ?_ (hp.trans (List.mergeSort_perm ks _).symm)
  have := List.pairwise_mergeSort (le := fun x y : Int => decide (x ≤ y)) (fun x y z h1 h2 => by simp only [decide_eq_true_iff] at *; omega) (fun x y => by simp only [Bool.or_eq_true, decide_eq_true_iff]; omega) ks
  exact this.imp fun h => of_decide_eq_true h
theorem ord_mem {n i : Nat} (h : i ∈ ordF a b n) : i < n ∧ ∀ j, j < i → ¬ (a j = a i ∧ b j = b i) := by
  obtain ⟨r, hr, rfl⟩ := List.mem_map.mp h
  have hr := (List.mergeSort_perm _ _).mem_iff.mp hr
  obtain ⟨o1, o2, o3, o4⟩ := (stp_inv a b n).ok r hr
  exact ⟨o1, fun j hj ⟨e1, e2⟩ => by have := o4 j hj (e2.trans o2); omega⟩
theorem ord_dom {n j : Nat} (h : j < n) : ∃ i ∈ ordF a b n, b j = b i ∧ a j ≤ a i := by
  have hr := (stp_inv a b n).all j h
  obtain ⟨o1, o2, o3, o4⟩ := (stp_inv a b n).ok _ hr
  exact ⟨_, List.mem_map.mpr ⟨b j, (List.mergeSort_perm _ _).mem_iff.mpr hr, rfl⟩, o2.symm, o3 j h rfl⟩
theorem ord_asc (a b : Nat → Int) (n : Nat) : (ordF a b n).Pairwise fun i j => b i < b j := by
  have I := stp_inv a b n
  unfold ordF
  rw [List.pairwise_map]
  have h1 := List.pairwise_mergeSort (le := fun x y : Int => decide (x ≤ y)) (fun x y z h1 h2 => by simp only [decide_eq_true_iff] at *; omega) (fun x y => by simp only [Bool.or_eq_true, decide_eq_true_iff]; omega) (stp a b n).1
  have h2 : ((stp a b n).1.mergeSort fun x y => decide (x ≤ y)).Nodup := (List.mergeSort_perm _ _).nodup_iff.mpr I.nd
  have h3 : ∀ x ∈ (stp a b n).1.mergeSort (fun x y => decide (x ≤ y)), b ((stp a b n).2 x) = x := fun x hx => (I.ok x ((List.mergeSort_perm _ _).mem_iff.mp hx)).2.1
  have h4 := (h1.and h2)
  refine List.Pairwise.imp_of_mem (fun {x y} hx hy hxy => ?_) h4
  rw [h3 x hx, h3 y hy]
  have := of_decide_eq_true hxy.1
  have hne : x ≠ y := hxy.2
  omega
def stF (a b : Nat → Int) (n : Nat) : List Row := (ordF a b n).foldl (push a b) []
theorem env_st (a b : Nat → Int) (n : Nat) : Env a b (ordF a b n) (stF a b n) := by
  have := env_all (a := a) (b := b) (ordF a b n) [] [] ⟨.nil, fun p h => (by cases h), fun j h => by cases h⟩ (by rw [List.nil_append]; exact ord_asc a b n)
  rw [List.nil_append] at this
  exact this
end E80
set_option linter.all false
set_option autoImplicit false
namespace N80
open DL L2
def F__law_cell : DTS :=
 (fSq (fIf (fTst (fOp gLt (fVar 1) (fBlt gLen (fCons (fVar 0) fNil))))
 (fRet (fOp gIx (fVar 0) (fVar 1)))
 fNext)
 (fRet (fC (.int 0))))
def F__law_digits (sp__law_cell : FSpec) : DTS :=
 (fSq (fSet 3 (fLst fNil))
 (fSq (fFor (fRng2 (fCons (fVar 1) (fCons (fVar 2) fNil))) (asName 4)
 (fSq (fSet 5 (fCall 2 sp__law_cell (fCons (fVar 0) (fCons (fVar 4) fNil))))
 (fSq (fIf (fTst (fOp gLt (fVar 5) (fC (.int 0))))
 (fSet 5 (fOp DL.gSub (fC (.int 1)) (fOp DL.gMul (fC (.int 2)) (fVar 5))))
 fNext)
 (fSq (fIf (fTst (fOp gGt (fBlt gLen (fCons (fVar 3) fNil)) (fC (.int 1500))))
 fBrk
 fNext)
 (fIf (fTst (fOp gGe (fVar 5) (fOp DL.gPow (fC (.int 10)) (fC (.int 18)))))
 (fFor (fRng1 (fCons (fC (.int 60)) fNil)) (asName 6)
 (fIf (fTst (fOp gGt (fVar 5) (fC (.int 0))))
 (fSq (fApp 3 (fOp DL.gMod (fBlt gInt (fCons (fVar 5) fNil)) (fC (.int 1000))))
 (fSet 5 (fOp DL.gFdiv (fVar 5) (fC (.int 1000)))))
 fNext))
 (fSq (fSet 7 (fOp DL.gMod (fBlt gInt (fCons (fOp DL.gAdd (fOp DL.gAdd (fOp DL.gMul (fVar 5) (fC (.int 48271))) (fOp DL.gMul (fVar 4) (fC (.int 69621)))) (fC (.int 11))) fNil)) (fC (.int 2147483647))))
 (fFor (fRng1 (fCons (fC (.int 12)) fNil)) (asName 6)
 (fSq (fSet 7 (fOp DL.gMod (fBlt gInt (fCons (fOp DL.gAdd (fOp DL.gAdd (fOp DL.gMul (fVar 7) (fC (.int 16807))) (fOp DL.gMul (fC (.int 7)) (fVar 6))) (fC (.int 1))) fNil)) (fC (.int 2147483647))))
 (fApp 3 (fOp DL.gMod (fBlt gInt (fCons (fOp DL.gFdiv (fVar 7) (fC (.int 997))) fNil)) (fC (.int 1000))))))))))))
 (fRet (fVar 3))))
def F__steepest_first : DTS :=
 (fSq (fSet 1 fNewK)
 (fSq (fFor (fEnum (fVar 0)) (asTup (asCons (asName 2) (asCons (asTup (asCons (asName 3) (asCons (asName 4) asNil))) asNil)))
 (fIf (fOr (fTst (fOp gNin (fVar 4) (fVar 1))) (fTst (fOp gLt (fOp gIx (fOp gIx (fVar 0) (fOp gIx (fVar 1) (fVar 4))) (fC (.int 0))) (fVar 3))))
 (fSetKey 1 (fVar 4) (fVar 2))
 fNext))
 (fRet (fComp [4] (fSeq (fBlt gSortK (fCons (fVar 1) fNil))) (asName 4) fYes (fOp gIx (fVar 1) (fVar 4))))))
def F_low : DTS :=
 (fSq (fSet 2 (fIfE (fTst (fOp gGt (fVar 1) (fC (.int 0)))) (fBlt gGcd (fCons (fVar 0) (fCons (fVar 1) fNil))) (fOp DL.gSub (fC (.int 0)) (fBlt gGcd (fCons (fVar 0) (fCons (fVar 1) fNil))))))
 (fRet (fTup (fCons (fOp DL.gFdiv (fVar 0) (fVar 2)) (fCons (fOp DL.gFdiv (fVar 1) (fVar 2)) fNil)))))
def F__meets (sp_low : FSpec) : DTS :=
 (fRet (fCall 2 sp_low (fCons (fOp DL.gSub (fOp gIx (fVar 0) (fC (.int 0))) (fOp gIx (fVar 1) (fC (.int 0)))) (fCons (fOp DL.gSub (fOp gIx (fVar 1) (fC (.int 1))) (fOp gIx (fVar 0) (fC (.int 1)))) fNil))))
def F_less : DTS :=
 (fRet (fOp gLt (fOp DL.gMul (fOp gIx (fVar 0) (fC (.int 0))) (fOp gIx (fVar 1) (fC (.int 1)))) (fOp DL.gMul (fOp gIx (fVar 1) (fC (.int 0))) (fOp gIx (fVar 0) (fC (.int 1))))))
def F_envelope (sp__steepest_first sp__meets sp_less : FSpec) : DTS :=
 (fSq (fSet 1 (fLst fNil))
 (fSq (fFor (fSeq (fCall 1 sp__steepest_first (fCons (fVar 0) fNil))) (asName 2)
 (fSq (fSet 3 (fC .non))
 (fSq (fWhile (fTru (fVar 1))
 (fSq (fSet 3 (fCall 2 sp__meets (fCons (fOp gIx (fVar 0) (fOp gIx (fOp gIx (fVar 1) (fNeg (fC (.int 1)))) (fC (.int 1)))) (fCons (fOp gIx (fVar 0) (fVar 2)) fNil))))
 (fSq (fIf (fOr (fTst (fOp gIs (fOp gIx (fOp gIx (fVar 1) (fNeg (fC (.int 1)))) (fC (.int 0))) (fC .non))) (fTru (fCall 2 sp_less (fCons (fOp gIx (fOp gIx (fVar 1) (fNeg (fC (.int 1)))) (fC (.int 0))) (fCons (fVar 3) fNil)))))
 fBrk
 fNext)
 (fSq (fDrop (fPop 1))
 (fSet 3 (fC .non))))))
 (fApp 1 (fTup (fCons (fVar 3) (fCons (fVar 2) fNil)))))))
 (fRet (fBlt gTuple (fCons (fVar 1) fNil)))))
def F__law_whole : DTS :=
 (fSq (fIf (fOr (fNot (fTru (fIsi .int (fVar 0)))) (fTru (fIsi .bool (fVar 0))))
 (fRet (fC (.bl false)))
 fNext)
 (fRet (fAndV (fOrV (fOp gIs (fVar 1) (fC .non)) (fOp gLe (fVar 1) (fVar 0))) (fOrV (fOp gIs (fVar 2) (fC .non)) (fOp gLe (fVar 0) (fVar 2))))))
def F__law_less : DTS :=
 (fRet (fOp gLt (fOp DL.gMul (fOp gIx (fVar 0) (fC (.int 0))) (fOp gIx (fVar 1) (fC (.int 1)))) (fOp DL.gMul (fOp gIx (fVar 1) (fC (.int 0))) (fOp gIx (fVar 0) (fC (.int 1))))))
def F__law_low : DTS :=
 (fSq (fPar 2 3 (fCons (fBlt gAbs (fCons (fVar 0) fNil)) (fCons (fVar 1) fNil)))
 (fSq (fWhile (fTst (fOp gGt (fVar 3) (fC (.int 0))))
 (fPar 2 3 (fCons (fVar 3) (fCons (fOp DL.gMod (fVar 2) (fVar 3)) fNil))))
 (fRet (fTup (fCons (fOp DL.gFdiv (fVar 0) (fVar 2)) (fCons (fOp DL.gFdiv (fVar 1) (fVar 2)) fNil))))))
def F__law_is_fraction (sp__law_whole sp__law_low : FSpec) : DTS :=
 (fSq (fIf (fOr (fNot (fTru (fIsi .tuple (fVar 0)))) (fOr (fTst (fOp gNe (fBlt gLen (fCons (fVar 0) fNil)) (fC (.int 2)))) (fOr (fNot (fTru (fCall 3 sp__law_whole (fCons (fOp gIx (fVar 0) (fC (.int 0))) (fCons (fC .non) (fCons (fC .non) fNil)))))) (fNot (fTru (fCall 3 sp__law_whole (fCons (fOp gIx (fVar 0) (fC (.int 1))) (fCons (fC (.int 1)) (fCons (fC .non) fNil)))))))))
 (fRet (fC (.bl false)))
 fNext)
 (fRet (fOp gEq (fCall 2 sp__law_low (fCons (fOp gIx (fVar 0) (fC (.int 0))) (fCons (fOp gIx (fVar 0) (fC (.int 1))) fNil))) (fVar 0))))
def F__law_scaled (sp__law_low : FSpec) : DTS :=
 (fRet (fCall 2 sp__law_low (fCons (fOp DL.gMul (fOp gIx (fVar 0) (fC (.int 0))) (fVar 1)) (fCons (fOp gIx (fVar 0) (fC (.int 1))) fNil))))
def F__law_add (sp__law_low : FSpec) : DTS :=
 (fRet (fCall 2 sp__law_low (fCons (fOp DL.gAdd (fOp DL.gMul (fOp gIx (fVar 0) (fC (.int 0))) (fOp gIx (fVar 1) (fC (.int 1)))) (fOp DL.gMul (fOp gIx (fVar 1) (fC (.int 0))) (fOp gIx (fVar 0) (fC (.int 1))))) (fCons (fOp DL.gMul (fOp gIx (fVar 0) (fC (.int 1))) (fOp gIx (fVar 1) (fC (.int 1)))) fNil))))
def F__law_line_at (sp__law_scaled sp__law_add : FSpec) : DTS :=
 (fRet (fCall 2 sp__law_add (fCons (fTup (fCons (fOp gIx (fVar 0) (fC (.int 0))) (fCons (fC (.int 1)) fNil))) (fCons (fCall 2 sp__law_scaled (fCons (fVar 1) (fCons (fOp gIx (fVar 0) (fC (.int 1))) fNil))) fNil))))
def F__law_other (sp__law_draw : FSpec) : DTS :=
 (fSq (fIf (fTru (fIsi .tuple (fVar 1)))
 (fSq (fSet 2 (fBlt gTuple (fCons (fComp [3] (fRng1 (fCons (fBlt gLen (fCons (fVar 1) fNil)) fNil)) (asName 3) fYes (fOp gIx (fVar 1) (fOp DL.gSub (fOp DL.gSub (fBlt gLen (fCons (fVar 1) fNil)) (fC (.int 1))) (fVar 3)))) fNil)))
 (fRet (fOp gIx (fLst (fCons (fBlt gList (fCons (fVar 1) fNil)) (fCons (fOp DL.gAdd (fVar 1) (fSl (fVar 1) fNoPart (fPart (fC (.int 1))))) (fCons (fSl (fVar 1) (fPart (fC (.int 1))) fNoPart) (fCons (fC .non) (fCons (fTup fNil) (fCons (fVar 2) fNil))))))) (fCall 2 sp__law_draw (fCons (fVar 0) (fCons (fC (.int 6)) fNil))))))
 fNext)
 (fSq (fIf (fTru (fIsi .str (fVar 1)))
 (fRet (fOp gIx (fLst (fCons (fC (.str "x0")) (fCons (fC (.str "x1")) (fCons (fC (.str "r0")) (fCons (fC (.str "r1")) (fCons (fC (.str "rows")) (fCons (fC (.str "most")) (fCons (fC (.str "just")) (fCons (fC (.str "sum")) (fCons (fC (.str "A")) (fCons (fC (.str "")) (fCons (fC (.str "x y")) (fCons (fC .non) fNil))))))))))))) (fCall 2 sp__law_draw (fCons (fVar 0) (fCons (fC (.int 12)) fNil)))))
 fNext)
 (fSq (fIf (fTst (fOp gIs (fVar 1) (fC .non)))
 (fRet (fOp gIx (fLst (fCons (fC (.int 0)) (fCons (fC (.str "")) (fCons (fTup fNil) fNil)))) (fCall 2 sp__law_draw (fCons (fVar 0) (fCons (fC (.int 3)) fNil)))))
 fNext)
 (fRet (fOp gIx (fLst (fCons (fOp DL.gAdd (fVar 1) (fC (.int 1))) (fCons (fOp DL.gSub (fVar 1) (fC (.int 1))) (fCons (fOp DL.gSub (fC (.int 0)) (fVar 1)) (fCons (fC (.bl true)) (fCons (fC .non) (fCons (fC (.int 0)) (fCons (fC (.int 100)) fNil)))))))) (fCall 2 sp__law_draw (fCons (fVar 0) (fCons (fC (.int 7)) fNil))))))))
def F__law_changed (sp__law_draw sp__law_other sp__law_changed : FSpec) : DTS :=
 (fSq (fIf (fOr (fNot (fTru (fIsi .tuple (fVar 1)))) (fOr (fTst (fOp gEq (fVar 1) (fTup fNil))) (fTst (fOp gEq (fCall 2 sp__law_draw (fCons (fVar 0) (fCons (fC (.int 9)) fNil))) (fC (.int 0))))))
 (fRet (fCall 2 sp__law_other (fCons (fVar 0) (fCons (fVar 1) fNil))))
 fNext)
 (fSq (fSet 2 (fOp DL.gMod (fCall 2 sp__law_draw (fCons (fVar 0) (fCons (fC (.int 900)) fNil))) (fBlt gLen (fCons (fVar 1) fNil))))
 (fRet (fOp DL.gAdd (fOp DL.gAdd (fSl (fVar 1) fNoPart (fPart (fVar 2))) (fTup (fCons (fCall 2 sp__law_changed (fCons (fVar 0) (fCons (fOp gIx (fVar 1) (fVar 2)) fNil))) fNil))) (fSl (fVar 1) (fPart (fOp DL.gAdd (fVar 2) (fC (.int 1)))) fNoPart)))))
def F__law_like (sp__law_like : FSpec) : DTS :=
 (fSq (fIf (fTru (fIsi .tuple (fVar 1)))
 (fSq (fIf (fOr (fNot (fTru (fIsi .tuple (fVar 0)))) (fTst (fOp gNe (fBlt gLen (fCons (fVar 0) fNil)) (fBlt gLen (fCons (fVar 1) fNil)))))
 (fRet (fC (.bl false)))
 fNext)
 (fRet (fOp gEq (fComp [2] (fRng1 (fCons (fBlt gLen (fCons (fVar 1) fNil)) fNil)) (asName 2) (fNot (fTru (fCall 2 sp__law_like (fCons (fOp gIx (fVar 0) (fVar 2)) (fCons (fOp gIx (fVar 1) (fVar 2)) fNil))))) (fC (.int 1))) (fLst fNil))))
 fNext)
 (fSq (fIf (fTst (fOp gIs (fVar 1) (fC .non)))
 (fRet (fOp gIs (fVar 0) (fC .non)))
 fNext)
 (fSq (fIf (fTst (fOp gIs (fVar 1) (fC (.bl true))))
 (fRet (fOp gIs (fVar 0) (fC (.bl true))))
 fNext)
 (fSq (fIf (fTst (fOp gIs (fVar 1) (fC (.bl false))))
 (fRet (fOp gIs (fVar 0) (fC (.bl false))))
 fNext)
 (fSq (fIf (fTru (fIsi .str (fVar 1)))
 (fRet (fAndV (fIsi .str (fVar 0)) (fOp gEq (fJoin (fC (.str "")) (fLst (fCons (fVar 0) fNil))) (fVar 1))))
 fNext)
 (fRet (fAndV (fIsi .int (fVar 0)) (fAndV (fNotB (fIsi .bool (fVar 0))) (fOp gEq (fVar 0) (fVar 1))))))))))
def F_is_pair : DTS :=
 (fRet (fAndV (fIsi .tuple (fVar 0)) (fOp gEq (fBlt gLen (fCons (fVar 0) fNil)) (fC (.int 2)))))
def F_is_whole : DTS :=
 (fRet (fAndV (fIsi .int (fVar 0)) (fNotB (fIsi .bool (fVar 0)))))
def F_is_fraction (sp_is_whole : FSpec) : DTS :=
 (fSq (fIf (fOr (fNot (fTru (fIsi .tuple (fVar 0)))) (fTst (fOp gNe (fBlt gLen (fCons (fVar 0) fNil)) (fC (.int 2)))))
 (fRet (fC (.bl false)))
 fNext)
 (fSq (fAsg (fVar 0) (asTup (asCons (asName 1) (asCons (asName 2) asNil))))
 (fSq (fIf (fOr (fNot (fTru (fCall 1 sp_is_whole (fCons (fVar 1) fNil)))) (fOr (fNot (fTru (fCall 1 sp_is_whole (fCons (fVar 2) fNil)))) (fTst (fOp gLt (fVar 2) (fC (.int 1))))))
 (fRet (fC (.bl false)))
 fNext)
 (fRet (fOp gEq (fBlt gGcd (fCons (fVar 1) (fCons (fVar 2) fNil))) (fC (.int 1)))))))
def F_is_between (sp_is_whole : FSpec) : DTS :=
 (fRet (fAndV (fCall 1 sp_is_whole (fCons (fVar 0) fNil)) (fChain gLe gLe (fVar 1) (fVar 0) (fVar 2))))
def F_is_envelope (sp_is_pair sp_is_fraction sp_is_between sp_envelope : FSpec) : DTS :=
 (fSq (fIf (fOr (fNot (fTru (fIsi .tuple (fVar 1)))) (fOr (fNot (fTru (fVar 1))) (fNot (fTru (fBlt gAll (fCons (fComp [2] (fSeq (fVar 1)) (asName 2) fYes (fCall 1 sp_is_pair (fCons (fVar 2) fNil))) fNil))))))
 (fRet (fC (.bl false)))
 fNext)
 (fSq (fIf (fOr (fTst (fOp gIsnt (fOp gIx (fOp gIx (fVar 1) (fC (.int 0))) (fC (.int 0))) (fC .non))) (fNot (fTru (fBlt gAll (fCons (fComp [2] (fSeq (fSl (fVar 1) (fPart (fC (.int 1))) fNoPart)) (asName 2) fYes (fCall 1 sp_is_fraction (fCons (fOp gIx (fVar 2) (fC (.int 0))) fNil))) fNil)))))
 (fRet (fC (.bl false)))
 fNext)
 (fSq (fIf (fNot (fTru (fBlt gAll (fCons (fComp [2] (fSeq (fVar 1)) (asName 2) fYes (fCall 3 sp_is_between (fCons (fOp gIx (fVar 2) (fC (.int 1))) (fCons (fC (.int 0)) (fCons (fOp DL.gSub (fBlt gLen (fCons (fVar 0) fNil)) (fC (.int 1))) fNil))))) fNil))))
 (fRet (fC (.bl false)))
 fNext)
 (fRet (fOp gEq (fVar 1) (fCall 1 sp_envelope (fCons (fVar 0) fNil)))))))
def F_law (sp__law_digits sp__law_draw sp_envelope sp__law_whole sp__law_less sp__law_is_fraction sp__law_line_at sp__law_low sp__law_changed sp__law_like sp_is_envelope : FSpec) : DTS :=
 (fBox 1 (fCons (fCall 3 sp__law_digits (fCons (fVar 0) (fCons (fC (.int 0)) (fCons (fC (.int 63)) fNil)))) (fCons (fC (.int 0)) fNil))
 (fSq (fFor (fRng1 (fCons (fC (.int 3)) fNil)) (asName 2)
 (fSq (fSet 3 (fBlt gTupleP (fCons (fComp [5] (fRng1 (fCons (fOp DL.gAdd (fC (.int 1)) (fCall 2 sp__law_draw (fCons (fVar 1) (fCons (fC (.int 6)) fNil)))) fNil)) (asName 5) fYes (fTup (fCons (fOp DL.gSub (fCall 2 sp__law_draw (fCons (fVar 1) (fCons (fC (.int 13)) fNil))) (fC (.int 6))) (fCons (fOp DL.gSub (fCall 2 sp__law_draw (fCons (fVar 1) (fCons (fC (.int 7)) fNil))) (fC (.int 3))) fNil)))) fNil)))
 (fSq (fSet 4 (fCall 1 sp_envelope (fCons (fVar 3) fNil)))
 (fSq (fIf (fOr (fNot (fTru (fIsi .tuple (fVar 4)))) (fOr (fTst (fOp gEq (fVar 4) (fTup fNil))) (fOr (fTst (fOp gIsnt (fOp gIx (fOp gIx (fVar 4) (fC (.int 0))) (fC (.int 0))) (fC .non))) (fTst (fOp gNe (fComp [10] (fSeq (fVar 4)) (asName 10) (fNot (fTru (fCall 3 sp__law_whole (fCons (fOp gIx (fVar 10) (fC (.int 1))) (fCons (fC (.int 0)) (fCons (fOp DL.gSub (fBlt gLen (fCons (fVar 3) fNil)) (fC (.int 1))) fNil)))))) (fC (.int 1))) (fLst fNil))))))
 (fRet (fC (.bl false)))
 fNext)
 (fSq (fIf (fOr (fTst (fOp gNe (fComp [5] (fRng2 (fCons (fC (.int 2)) (fCons (fBlt gLen (fCons (fVar 4) fNil)) fNil))) (asName 5) (fNot (fTru (fCall 2 sp__law_less (fCons (fOp gIx (fOp gIx (fVar 4) (fOp DL.gSub (fVar 5) (fC (.int 1)))) (fC (.int 0))) (fCons (fOp gIx (fOp gIx (fVar 4) (fVar 5)) (fC (.int 0))) fNil))))) (fC (.int 1))) (fLst fNil))) (fTst (fOp gNe (fComp [10] (fSeq (fVar 4)) (asName 10) (fTst (fOp gNe (fIdxT (fVar 3) (fOp gIx (fVar 3) (fOp gIx (fVar 10) (fC (.int 1))))) (fOp gIx (fVar 10) (fC (.int 1))))) (fVar 10)) (fLst fNil))))
 (fRet (fC (.bl false)))
 fNext)
 (fSq (fFor (fRng2 (fCons (fC (.int 1)) (fCons (fBlt gLen (fCons (fVar 4) fNil)) fNil))) (asName 5)
 (fSq (fIf (fOr (fTst (fOp gEq (fOp gIx (fOp gIx (fVar 4) (fVar 5)) (fC (.int 1))) (fOp gIx (fOp gIx (fVar 4) (fOp DL.gSub (fVar 5) (fC (.int 1)))) (fC (.int 1))))) (fNot (fTru (fCall 1 sp__law_is_fraction (fCons (fOp gIx (fOp gIx (fVar 4) (fVar 5)) (fC (.int 0))) fNil)))))
 (fRet (fC (.bl false)))
 fNext)
 (fIf (fTst (fOp gNe (fCall 2 sp__law_line_at (fCons (fOp gIx (fVar 3) (fOp gIx (fOp gIx (fVar 4) (fOp DL.gSub (fVar 5) (fC (.int 1)))) (fC (.int 1)))) (fCons (fOp gIx (fOp gIx (fVar 4) (fVar 5)) (fC (.int 0))) fNil))) (fCall 2 sp__law_line_at (fCons (fOp gIx (fVar 3) (fOp gIx (fOp gIx (fVar 4) (fVar 5)) (fC (.int 1)))) (fCons (fOp gIx (fOp gIx (fVar 4) (fVar 5)) (fC (.int 0))) fNil)))))
 (fRet (fC (.bl false)))
 fNext)))
 (fSq (fFor (fRng1 (fCons (fC (.int 8)) fNil)) (asName 6)
 (fSq (fSet 7 (fCall 2 sp__law_low (fCons (fOp DL.gSub (fCall 2 sp__law_draw (fCons (fVar 1) (fCons (fC (.int 41)) fNil))) (fC (.int 20))) (fCons (fOp DL.gAdd (fC (.int 1)) (fCall 2 sp__law_draw (fCons (fVar 1) (fCons (fC (.int 3)) fNil)))) fNil))))
 (fSq (fSet 8 (fOp gIx (fComp [10] (fSeq (fVar 4)) (asName 10) (fOr (fTst (fOp gIs (fOp gIx (fVar 10) (fC (.int 0))) (fC .non))) (fNot (fTru (fCall 2 sp__law_less (fCons (fVar 7) (fCons (fOp gIx (fVar 10) (fC (.int 0))) fNil)))))) (fOp gIx (fVar 10) (fC (.int 1)))) (fNeg (fC (.int 1)))))
 (fIf (fTst (fOp gNe (fComp [11] (fSeq (fVar 3)) (asName 11) (fTru (fCall 2 sp__law_less (fCons (fCall 2 sp__law_line_at (fCons (fOp gIx (fVar 3) (fVar 8)) (fCons (fVar 7) fNil))) (fCons (fCall 2 sp__law_line_at (fCons (fVar 11) (fCons (fVar 7) fNil))) fNil)))) (fC (.int 1))) (fLst fNil)))
 (fRet (fC (.bl false)))
 fNext))))
 (fFor (fRng1 (fCons (fC (.int 4)) fNil)) (asName 6)
 (fSq (fSet 9 (fIfE (fTst (fOp gGt (fVar 6) (fC (.int 0)))) (fCall 2 sp__law_changed (fCons (fVar 1) (fCons (fVar 4) fNil))) (fVar 4)))
 (fIf (fNot (fTru (fCall 2 sp__law_like (fCons (fCall 2 sp_is_envelope (fCons (fVar 3) (fCons (fVar 9) fNil))) (fCons (fCall 2 sp__law_like (fCons (fVar 9) (fCons (fVar 4) fNil))) fNil)))))
 (fRet (fC (.bl false)))
 fNext))))))))))
 (fRet (fC (.bl true)))))
end N80
set_option Elab.async false
set_option linter.all false
set_option maxRecDepth 100000
set_option autoImplicit false
set_option maxHeartbeats 4000000
namespace N80
open DL L2 PySem LR
local macro_rules | `(tactic| walk_at "dl") => `(tactic| simp -implicitDefEqProofs only [↓fC_eq, ↓fVar_eq, ↓fOp_eq, ↓fNeg_eq, ↓fChain_eq, ↓fTst_eq, ↓fTru_eq, ↓fAnd_eq, ↓fOr_eq, ↓fNot_eq, ↓fAndV_eq, ↓fOrV_eq, ↓fNotV_eq, ↓fNotB_eq, ↓fIfE_eq, ↓fTup_eq, ↓fTupP_eq, ↓fLst_eq, ↓fNil_eq, ↓fCons_eq, ↓fSl_eq, ↓fNoPart_eq, ↓fPart_eq, ↓fRevL_eq, ↓fCall_eq, ↓fBlt_eq, ↓fComp_eq, ↓fJoin_eq, strB_v, revS_l, ↓fCompL_eq, ↓frK_eq, frS_v, frS_o, gIx_k, gIn_k, gNin_k, keyD_i, keyD_s, keyS_s, gSl_t, gSl_l, ↓fIsi_eq, ↓fSeq_eq, ↓fRng1_eq, ↓fRng2_eq, ↓fYes_eq, ↓fTT_eq,
  nx_mk, rt_mk, bk_mk, ct_mk, repl_s, repl_0, List.length_cons, List.length_nil, look_zero, look_succ, get_0, get_s, set_0, set_s, atI_0, atI_1, atI_2, atI_3, atI_m1, List.getLast?_cons_cons, List.getLast?_singleton,
  withD_v, withD_f, withD_s, atSlot_v, atSlot_o, force_v, force_f, force_s, frSlot_v, frSlot_o, store_v, store_f, store_s, stSlot_v, stSlot_o, asB_v, asI_eq, asInt_i, varS_v, varS_o, forceL_n, forceL_c, withL_n, withL_c, asName_eq, asTup_t, asCons_c, asNil_n,
  gAdd_i, gAdd_t, gAdd_l, gSub_i, gMul_i, gMul_l, gFdiv_i, gMod_i, gPow_i, gLt_i, gLe_i, gGt_i, gGe_i, gEq_ii, gNe_ii, isS_s, gIs_eq, gIsnt_eq, isD_nn, isD_in, isD_tn, isD_bn, isi_int_n, isi_int_b, isi_int_i, isi_int_s, isi_int_t, isi_int_l, isi_bool_n, isi_bool_b, isi_bool_i, isi_bool_s, isi_bool_t, isi_bool_l, isi_str_n, isi_str_b, isi_str_i, isi_str_s, isi_str_t, isi_str_l, isi_tuple_n, isi_tuple_b, isi_tuple_i, isi_tuple_s, isi_tuple_t, isi_tuple_l, isi_list_n, isi_list_b, isi_list_i, isi_list_s, isi_list_t, isi_list_l,
  isD_sn, isD_ln, isD_nb, isD_ib, isD_tb, isD_sb, isD_bb, ixS_s, gIx_t, gIx_l, gIx_s, gLen_t, gLen_l, gLen_s, gAbs_i, gMin2_i, gMax2_i, gInt_i, gInt_b, gGcd_i, gTuple_l, gTuple_t, gList_l, gList_t, truD_b, truD_n, truD_t, truD_l, truD_i, seqS_l, seqS_t, rng1S_1, rng2S_1, okW_n, okW_c, okSl_n, okSl_v, wipeD_n, wipeD_c, backD_n, backD_c, parS_2, augS_v, isOwnL_o, appS_o, ite_t, ite_f, ite_tt, ite_ff,
  Nat.reduceAdd, Nat.reduceSub, Nat.reduceLeDiff, Bool.not_true, Bool.not_false, List.isEmpty_cons, List.isEmpty_nil, gIx_r0, gIx_r1, isi_int_r, isi_bool_r, isi_str_r, isi_tuple_r, isi_list_r, gLen_r, isD_rn, isD_rb, asTup_r, truD_r, gEq_rr, gNe_rr, ↓fFld_eq, isBx_v, ↓fMethL_eq, ↓fDComp_eq, ↓fGet1_eq, ↓fGet2_eq, ↓fEnum_eq, ↓fZip_eq, zipS_2, seqI_l, seqI_t, rtt_mk5, preD_cons, preD_nil, List.cons_append, List.nil_append, List.drop_succ_cons, List.drop_zero, List.take_succ_cons, List.take_zero, rtO_pack, seqS_p, seqI_p, isi_int_p, isi_bool_p, isi_str_p, isi_tuple_p, isi_list_p, gTupleP_l, gIx_p, gLen_p, isP_p, ↓fIdxT_eq, true_and, and_true, decide_true, decide_false])
local macro_rules | `(tactic| walk_at "s1") => `(tactic| first | with_reducible refine fSet_i ?_ | with_reducible refine fRet_i ?_ | with_reducible refine fIf_i ?_ | with_reducible refine fPar_i ?_ | with_reducible refine fAsg_i ?_ | with_reducible refine fAug_i ?_ | with_reducible refine fApp_i ?_ | with_reducible refine fSetIx_i ?_ | with_reducible refine fDrop_i ?_ | with_reducible refine fFor_i ?_ | with_reducible refine fForL_i ?_ | with_reducible refine fNext_i ?_ | with_reducible refine fBrk_i ?_ | with_reducible refine fCt_i ?_ | with_reducible refine fRetN_i ?_ | with_reducible refine fFSet_i ?_ | with_reducible refine fFSetIx_i ?_ | with_reducible refine fMethSL_i ?_ | with_reducible refine fMethAL_i ?_ | with_reducible refine fMake_i ?_ | with_reducible refine fRetO_i ?_ | with_reducible refine fSetKey_i ?_ | with_reducible refine fPar3_i ?_ | with_reducible refine fParN_i ?_)
local macro_rules | `(tactic| walk_at "st") => `(tactic| ((first | (with_reducible refine fSq_i ?_; walk_at "s1") | walk_at "s1"); (try walk_at "dl")))
open E80
def linesD (n : Nat) (a b : Nat → Int) : D := .ptp ((List.range n).map fun i => .tup [.int (a i), .int (b i)])
def optD (o : Option Rat) : D := match o with
  | none => .non
  | some q => ratD q
def rowD (p : Row) : D := .tup [optD p.1, .int (p.2 : Int)]
def envD (st : List Row) : D := .tup (st.reverse.map rowD)
theorem enumD_map (f : Nat → D) : ∀ (n m : Nat), enumD m ((List.range' m n).map f) = (List.range' m n).map fun j => .tup [.int (j : Int), f j]
  | 0, _ => rfl
  | n + 1, m => by
    rw [List.range'_succ, List.map_cons, List.map_cons, enumD]
    congr 1
    exact enumD_map f n (m + 1)
theorem enum_range {n : Nat} {f : Nat → D} : enumD 0 ((List.range n).map f) = (List.range n).map fun (j : Nat) => .tup [.int (j : Int), f j] := by
  rw [List.range_eq_range']
  exact enumD_map f n 0
theorem for_range {asg : DAs} {f : DTS} {a c d : DSt → Prop} {b : D → Prop} (ι : Nat → D) (n : Nat) (I : Nat → DSt → Prop)
    (step : ∀ k, k < n → ∀ (δ : DSt) (kk : DSt → Prop), I k δ → (∀ δ', I (k + 1) δ' → kk δ') → asg (ι k) δ fun δ1 => f ⟨kk, b, a, kk⟩ δ1) (fin : ∀ δ, I n δ → a δ) (δ : DSt) (h : I 0 δ) : forD asg f ⟨a, b, c, d⟩ ((List.range n).map ι) δ := by
  have all : ∀ (j k : Nat), k + j = n → ∀ δ, I k δ → forD asg f ⟨a, b, c, d⟩ ((List.range' k j).map ι) δ := by
    intro j
    induction j with
    | zero => intro k e δ h; obtain rfl : k = n := by omega
              exact fin δ h
    | succ j ih =>
      intro k e δ h
      rw [List.range'_succ, List.map_cons, forD_cons]
      exact step k (by omega) δ _ h fun δ' h' => ih (k + 1) (by omega) δ' h'
  rw [List.range_eq_range']
  exact all n 0 (by omega) δ h
theorem comp_mapL {α : Type} {vs : List Nat} {asg : DAs} {ft : DTT} {fe : DTE} {R : List D → DSt → Prop} {δ0 : DSt} (ι g : α → D) (l : List α) (hlen : l.length ≤ 16000000)
    (step : ∀ x, x ∈ l → ∀ (acc : List D) (k : List D → DSt → Prop), acc.length < 16000000 → k (acc ++ [g x]) δ0 →
      asg (ι x) δ0 fun δ1 => ft δ1 fun b δ2 => if b = true then fe δ2 fun bv δ3 => force bv δ3 fun d δ4 => acc.length < 16000000 ∧ k (acc ++ [d]) (wipeD δ4 vs) else k acc (wipeD δ2 vs))
    (fin : R (l.map g) δ0) : compD vs asg ft fe (l.map ι) [] δ0 R := by
  have all : ∀ (todo done : List α), done ++ todo = l → compD vs asg ft fe (todo.map ι) (done.map g) δ0 R := by
    intro todo
    induction todo with
    | nil => intro done e; rw [List.append_nil] at e; rw [List.map_nil, compD_nil, e]; exact fin
    | cons x todo ih =>
      intro done e
      have hl := congrArg List.length e
      rw [List.length_append, List.length_cons] at hl
      rw [List.map_cons, compD_cons]
      refine step x (by rw [← e]; exact List.mem_append_right _ List.mem_cons_self) (done.map g) (fun a d => compD vs asg ft fe (todo.map ι) a d R) (by rw [List.length_map]; omega) ?_
      have := ih (done ++ [x]) (by rw [List.append_assoc]; exact e)
      rw [List.map_append] at this
      exact this
  exact all l [] rfl
theorem comp_selL {α : Type} {vs : List Nat} {asg : DAs} {ft : DTT} {fe : DTE} {R : List D → DSt → Prop} {δ0 : DSt} (ι g : α → D) (p : α → Bool) (l : List α) (hlen : l.length ≤ 16000000)
    (step : ∀ x, x ∈ l → ∀ (acc : List D) (k : List D → DSt → Prop), acc.length < 16000000 → (p x = true → k (acc ++ [g x]) δ0) → (p x = false → k acc δ0) →
      asg (ι x) δ0 fun δ1 => ft δ1 fun b δ2 => if b = true then fe δ2 fun bv δ3 => force bv δ3 fun d δ4 => acc.length < 16000000 ∧ k (acc ++ [d]) (wipeD δ4 vs) else k acc (wipeD δ2 vs))
    (fin : R ((l.filter p).map g) δ0) : compD vs asg ft fe (l.map ι) [] δ0 R := by
  have all : ∀ (todo done : List α), done ++ todo = l → compD vs asg ft fe (todo.map ι) ((done.filter p).map g) δ0 R := by
    intro todo
    induction todo with
    | nil => intro done e; rw [List.append_nil] at e; rw [List.map_nil, compD_nil, e]; exact fin
    | cons x todo ih =>
      intro done e
      have hl := congrArg List.length e
      rw [List.length_append, List.length_cons] at hl
      rw [List.map_cons, compD_cons]
      have hlf := List.length_filter_le p done
      have := ih (done ++ [x]) (by rw [List.append_assoc]; exact e)
      rw [List.filter_append] at this
      refine step x (by rw [← e]; exact List.mem_append_right _ List.mem_cons_self) ((done.filter p).map g) (fun a d => compD vs asg ft fe (todo.map ι) a d R) (by rw [List.length_map]; omega) (fun h => ?_) fun h => ?_
      · rw [List.filter_cons_of_pos h, List.filter_nil, List.map_append] at this
        exact this
      · rw [List.filter_cons_of_neg (by rw [h]; decide), List.filter_nil, List.append_nil] at this
        exact this
  exact all l [] rfl
theorem comp_mapI {vs : List Nat} {asg : DAs} {ft : DTT} {fe : DTE} {R : List D → DSt → Prop} {δ0 : DSt} (g : D → D) (l : List D) (hlen : l.length ≤ 16000000)
    (step : ∀ x, x ∈ l → ∀ (acc : List D) (k : List D → DSt → Prop), acc.length < 16000000 → k (acc ++ [g x]) δ0 →
      asg x δ0 fun δ1 => ft δ1 fun b δ2 => if b = true then fe δ2 fun bv δ3 => force bv δ3 fun d δ4 => acc.length < 16000000 ∧ k (acc ++ [d]) (wipeD δ4 vs) else k acc (wipeD δ2 vs))
    (fin : R (l.map g) δ0) : compD vs asg ft fe l [] δ0 R := by
  have := comp_mapL (fun x => x) g l hlen step fin
  rwa [List.map_id'] at this
theorem comp_noI {vs : List Nat} {asg : DAs} {ft : DTT} {fe : DTE} {R : List D → DSt → Prop} {δ0 : DSt} (l : List D)
    (step : ∀ x, x ∈ l → ∀ (k : List D → DSt → Prop), k [] δ0 →
      asg x δ0 fun δ1 => ft δ1 fun b δ2 => if b = true then fe δ2 fun bv δ3 => force bv δ3 fun d δ4 => ([] : List D).length < 16000000 ∧ k ([] ++ [d]) (wipeD δ4 vs) else k [] (wipeD δ2 vs))
    (fin : R [] δ0) : compD vs asg ft fe l [] δ0 R := by
  have all : ∀ (todo : List D), (∀ x ∈ todo, x ∈ l) → compD vs asg ft fe todo [] δ0 R := by
    intro todo
    induction todo with
    | nil => intro _; rw [compD_nil]; exact fin
    | cons x todo ih =>
      intro h
      rw [compD_cons]
      exact step x (h x List.mem_cons_self) (fun a d => compD vs asg ft fe todo a d R) (ih fun y hy => h y (List.mem_cons_of_mem _ hy))
  exact all l fun x h => h
theorem comp_rangeC {β : Type} [Inhabited β] {vs : List Nat} {asg : DAs} {ft : DTT} {fe : DTE} {R : List D → DSt → Prop} {δ0 : DSt} (ι : Nat → D) (g : Nat → β → D) (Q : Nat → β → Prop) (n : Nat) (hlen : n ≤ 16000000)
    (step : ∀ j, j < n → ∀ (acc : List D) (k : List D → DSt → Prop), acc.length < 16000000 → (∀ b, Q j b → k (acc ++ [g j b]) δ0) →
      asg (ι j) δ0 fun δ1 => ft δ1 fun b δ2 => if b = true then fe δ2 fun bv δ3 => force bv δ3 fun d δ4 => acc.length < 16000000 ∧ k (acc ++ [d]) (wipeD δ4 vs) else k acc (wipeD δ2 vs))
    (fin : ∀ f : Nat → β, (∀ j, j < n → Q j (f j)) → R ((List.range n).map fun j => g j (f j)) δ0) : compD vs asg ft fe ((List.range n).map ι) [] δ0 R := by
  have all : ∀ (m k : Nat), k + m = n → ∀ f : Nat → β, (∀ j, j < k → Q j (f j)) → compD vs asg ft fe ((List.range' k m).map ι) ((List.range k).map fun j => g j (f j)) δ0 R := by
    intro m
    induction m with
    | zero =>
      intro k e f hf
      obtain rfl : k = n := by omega
      rw [List.range'_zero, List.map_nil, compD_nil]
      exact fin f hf
    | succ m ih =>
      intro k e f hf
      rw [List.range'_succ, List.map_cons, compD_cons]
      refine step k (by omega) _ (fun a d => compD vs asg ft fe ((List.range' (k + 1) m).map ι) a d R) (by rw [List.length_map, List.length_range]; omega) fun b hb => ?_
      have := ih (k + 1) (by omega) (fun j => if j = k then b else f j) fun j hj => by
        by_cases e : j = k
        · subst e; rw [if_pos rfl]; exact hb
        · rw [if_neg e]; exact hf j (by omega)
      rw [List.range_succ, List.map_append] at this
      have e2 : (List.range k).map (fun j => g j (if j = k then b else f j)) = (List.range k).map fun j => g j (f j) := List.map_congr_left fun j hj => by
        have := List.mem_range.mp hj
        rw [if_neg (by omega)]
      rw [e2] at this
      simpa using this
  have := all n 0 (by omega) (fun _ => default) (fun j hj => by omega)
  rw [← List.range_eq_range'] at this
  exact this
theorem rangeD_range (n : Nat) : rangeD 0 n = (List.range n).map fun (j : Nat) => D.int (j : Int) := by
  refine List.ext_getElem? fun i => ?_
  by_cases h : i < n
  · rw [rangeD_get n 0 i h, List.getElem?_map, List.getElem?_range h, Int.zero_add]; rfl
  · rw [List.getElem?_eq_none (by rw [rangeD_length]; omega), List.getElem?_eq_none (by rw [List.length_map, List.length_range]; omega)]
theorem box_start {i : Nat} {dg : List Int} {h : DTS} {a c d : DSt → Prop} {b : D → Prop} {δ : DSt} (hp : δ.all plainS = true) (q : h ⟨fun _ => False, blR b, fun _ => False, fun _ => False⟩ (δ.set i (.val .box))) : δ.all plainS = true ∧ boxS i [.lst (dg.map .int), .int 0] h ⟨a, b, c, d⟩ δ := by
  rw [boxS_2, intsD_map]
  exact ⟨hp, by decide, rfl, q⟩
/-! ### the steepest -/
def bestD (S : List Int × (Int → Nat)) : List (Key × D) := S.1.map fun r => (.inl r, .int (S.2 r : Int))
theorem best_val {S : List Int × (Int → Nat)} (r : Int) : valD (bestD S) (.inl r) = if r ∈ S.1 then some (.int (S.2 r : Int)) else none := by
  obtain ⟨ks, g⟩ := S
  unfold bestD
  dsimp only
  induction ks with
  | nil => rfl
  | cons k ks ih =>
    rw [List.map_cons, valD]
    by_cases e : k = r
    · subst e; rw [if_pos rfl, if_pos List.mem_cons_self]
    · rw [if_neg (fun z => e (by injection z)), ih]
      by_cases m : r ∈ ks
      · rw [if_pos m, if_pos (List.mem_cons_of_mem _ m)]
      · rw [if_neg m, if_neg fun z => (List.mem_cons.mp z).elim (fun q => e q.symm) m]
theorem best_keys (S : List Int × (Int → Nat)) : (bestD S).map (·.1) = S.1.map Sum.inl := by unfold bestD; rw [List.map_map]; rfl
theorem inl_nodup {ks : List Int} (h : ks.Nodup) : (ks.map (Sum.inl : Int → Key)).Nodup := by
  unfold List.Nodup
  rw [List.pairwise_map]
  exact h.imp fun hne e => hne (by injection e)
theorem put_new (g : Int → Nat) (r : Int) (k : Nat) : ∀ ks : List Int, r ∉ ks → putD (ks.map fun r => ((Sum.inl r : Key), D.int (g r : Int))) (.inl r) (.int (k : Int)) = (ks ++ [r]).map fun r' => ((Sum.inl r' : Key), D.int ((if r' = r then k else g r' : Nat) : Int))
  | [], _ => by simp [putD]
  | c :: ks, h => by
    have hne : c ≠ r := fun e => h (by rw [e]; exact List.mem_cons_self)
    rw [List.map_cons, putD, if_neg (fun z => hne (by injection z)), put_new g r k ks fun z => h (List.mem_cons_of_mem _ z), List.cons_append, List.map_cons, if_neg hne]
theorem put_old (g : Int → Nat) (r : Int) (k : Nat) : ∀ ks : List Int, ks.Nodup → r ∈ ks → putD (ks.map fun r => ((Sum.inl r : Key), D.int (g r : Int))) (.inl r) (.int (k : Int)) = ks.map fun r' => ((Sum.inl r' : Key), D.int ((if r' = r then k else g r' : Nat) : Int))
  | c :: ks, hd, h => by
    have hd' := List.nodup_cons.mp hd
    rw [List.map_cons, putD, List.map_cons]
    by_cases e : c = r
    · subst e
      rw [if_pos rfl, if_pos rfl]
      congr 1
      refine List.map_congr_left fun j hj => ?_
      rw [if_neg fun z => hd'.1 (by rw [← z]; exact hj)]
    · rw [if_neg (fun z => e (by injection z)), if_neg e, put_old g r k ks hd'.2 ((List.mem_cons.mp h).resolve_left fun z => e z.symm)]
theorem lines_ix {n : Nat} {a b : Nat → Int} {i : Nat} (hi : i < n) {R : BV → Prop} (q : R (.val (.tup [.int (a i), .int (b i)]))) : gIx (linesD n a b) (.int (i : Int)) R := by
  unfold linesD
  rw [gIx_p, atI_nat', List.getElem?_map, List.getElem?_range hi]
  exact q
theorem seqI_lines {n : Nat} {a b : Nat → Int} {k : List D → Prop} : seqI (linesD n a b) k = k ((List.range n).map fun i => .tup [.int (a i), .int (b i)]) := rfl
theorem seqS_lines {n : Nat} {a b : Nat → Int} {δ : DSt} {k : List D → DSt → Prop} : seqS (linesD n a b) δ k = k ((List.range n).map fun i => .tup [.int (a i), .int (b i)]) δ := rfl
theorem gLen_lines {n : Nat} {a b : Nat → Int} {R : BV → Prop} : gLen [linesD n a b] R = R (.val (.int (n : Int))) := by unfold linesD; rw [gLen_p, List.length_map, List.length_range]
def sp__steepest_first : FSpec := fun ds R => ∃ (n : Nat) (a b : Nat → Int), ds = [linesD n a b] ∧ n ≤ 60 ∧ R (.lst ((ordF a b n).map fun (i : Nat) => .int (i : Int)))
theorem mono__steepest_first : SMono sp__steepest_first := fun ds R R' h ⟨n, a, b, h1, h2, q⟩ => ⟨n, a, b, h1, h2, h _ q⟩
abbrev sp__law_cell : FSpec := LK.sp_cell
theorem mono__law_cell : SMono sp__law_cell := LK.mono_cell
theorem ev__law_cell : Ev ["script", "k"] 2 sp__law_cell (F__law_cell) := LK.ev_cell
abbrev sp__law_digits : FSpec := LK.sp_digits
theorem mono__law_digits : SMono sp__law_digits := LK.mono_digits
theorem ev__law_digits : Ev ["script", "first", "last", "digits", "k", "cell", "step", "seed"] 3 sp__law_digits (F__law_digits sp__law_cell) := LK.ev_digits
abbrev sp__law_draw : FSpec := specDraw
theorem ev__steepest_first : Ev ["lines", "best", "at", "height", "rise"] 1 sp__steepest_first F__steepest_first := by
  intro ds R _ ⟨n, a, b, e, hn, q⟩
  subst e
  simp only [startD_cons, startD_nil]
  unfold F__steepest_first
  walk_at "st"
  try unfold fNewK
  walk_at "dl"
  walk_at "st"
  rw [seqI_lines, enum_range]
  refine for_range _ n (fun k δ => ∃ s2 s3 s4 : Sl, okSl s4 ∧ δ = [.val (linesD n a b), .own (.dk (bestD (stp a b k))), s2, s3, s4]) ?_ ?_ _ ⟨.no, .no, .no, trivial, rfl⟩
  · rintro k hk δ kk ⟨s2, s3, s4, o4, rfl⟩ hnx
    have I := stp_inv a b k
    walk_at "dl"
    walk_at "st"
    rw [best_val]
    by_cases hm : b k ∈ (stp a b k).1
    · rw [if_pos hm]
      walk_at "dl"
      rw [if_neg (by simp)]
      have o := I.ok _ hm
      refine lines_ix (by omega) ?_
      walk_at "dl"
      have e1 : stp a b (k + 1) = if a ((stp a b k).2 (b k)) < a k then ((stp a b k).1, fun r => if r = b k then k else (stp a b k).2 r) else stp a b k := by rw [stp, if_pos hm]
      by_cases hlt : a ((stp a b k).2 (b k)) < a k
      · rw [decide_eq_true hlt]
        walk_at "dl"
        walk_at "st"
        refine ⟨trivial, ?_⟩
        rw [putS_o, best_keys]
        refine ⟨inl_nodup I.nd, by unfold bestD; rw [List.length_map]; have := I.len; omega, ?_⟩
        walk_at "dl"
        refine hnx _ ⟨.val (.int (k : Int)), .val (.int (a k)), .val (.int (b k)), ?_, ?_⟩
        rotate_left 1
        · rw [e1, if_pos hlt]
          unfold bestD
          rw [put_old _ _ _ _ I.nd hm]
        · trivial
      · rw [decide_eq_false hlt]
        walk_at "dl"
        walk_at "st"
        refine hnx _ ⟨.val (.int (k : Int)), .val (.int (a k)), .val (.int (b k)), ?_, ?_⟩
        rotate_left 1
        · rw [e1, if_neg hlt]
        · trivial
    · rw [if_neg hm]
      have e1 : stp a b (k + 1) = ((stp a b k).1 ++ [b k], fun r => if r = b k then k else (stp a b k).2 r) := by rw [stp, if_neg hm]
      rw [if_pos (by rfl)]
      walk_at "st"
      refine ⟨trivial, ?_⟩
      rw [putS_o, best_keys]
      refine ⟨inl_nodup I.nd, by unfold bestD; rw [List.length_map]; have := I.len; omega, ?_⟩
      walk_at "dl"
      refine hnx _ ⟨.val (.int (k : Int)), .val (.int (a k)), .val (.int (b k)), ?_, ?_⟩
      rotate_left 1
      · rw [e1]
        unfold bestD
        rw [put_new _ _ _ _ hm]
      · trivial
  · rintro δ ⟨s2, s3, s4, o4, rfl⟩
    walk_at "st"
    have I := stp_inv a b n
    refine ⟨(stp a b n).1, best_keys _, by have := I.len; omega, fun ys hp hs => ?_⟩
    rw [sort_unique hp hs]
    walk_at "dl"
    refine ⟨o4, ?_⟩
    refine comp_mapL (fun r => .int r) (fun r => .int ((stp a b n).2 r : Int)) _ (by rw [List.length_mergeSort]; have := I.len; omega) ?_ ?_
    · intro r hr acc k hacc hk
      have hr := (List.mergeSort_perm _ _).mem_iff.mp hr
      walk_at "dl"
      rw [best_val, if_pos hr, ixS_s]
      walk_at "dl"
      exact ⟨hacc, hk⟩
    · try walk_at "dl"
      unfold ordF at q
      rw [List.map_map] at q
      exact q
abbrev sp_low : FSpec := LR.sp_plow
theorem mono_low : SMono sp_low := LR.mono_plow
theorem ev_low : Ev ["top", "bottom", "common"] 2 sp_low (F_low) := LR.ev_plow
def lineD (a b : Nat → Int) (i : Nat) : D := .tup [.int (a i), .int (b i)]
def sp__meets : FSpec := fun ds R => ∃ (a b : Nat → Int) (t l : Nat), ds = [lineD a b t, lineD a b l] ∧ b t < b l ∧ (∀ i, (b i).natAbs ≤ 1000) ∧ R (ratD (mt a b t l))
theorem mono__meets : SMono sp__meets := fun ds R R' h ⟨a, b, t, l, h1, h2, h3, q⟩ => ⟨a, b, t, l, h1, h2, h3, h _ q⟩
theorem ev__meets : Ev ["one", "two"] 2 sp__meets (F__meets sp_low) := by
  intro ds R _ ⟨a, b, t, l, e, hb, hs, q⟩
  subst e
  simp only [startD_cons, startD_nil, lineD]
  unfold F__meets
  walk_at "st"
  have h1 := hs l
  have h2 := hs t
  refine call_of ⟨_, _, rfl, by omega, Nat.lt_of_lt_of_le (show (b l - b t).natAbs < 2 ^ 12 by omega) (two_pow_mono (by decide)), ?_⟩
  try walk_at "dl"
  exact q
abbrev sp_less : FSpec := LR.sp_qless
theorem mono_less : SMono sp_less := LR.mono_qless
theorem ev_less : Ev ["one", "other"] 2 sp_less (F_less) := LR.ev_qless'
theorem mt_fi {a b : Nat → Int} {t l : Nat} (h : b t < b l) (hs : ∀ i, (a i).natAbs ≤ 1000 ∧ (b i).natAbs ≤ 1000) : Qb 12 (mt a b t l) := by
  have h1 := hs t
  have h2 := hs l
  exact Qb.div (by omega) (by omega) (by omega)
theorem Ch.qb {a b : Nat → Int} (hs : ∀ i, (a i).natAbs ≤ 1000 ∧ (b i).natAbs ≤ 1000) {st : List Row} (h : Ch a b st) : ∀ p ∈ st, ∀ q, p.1 = some q → Qb 12 q := by
  induction h with
  | nil => intro p hp; cases hp
  | one => intro p hp q e; rw [List.mem_singleton.mp hp] at e; cases e
  | cons hb hs' h ih =>
    intro p hp q e
    rcases List.mem_cons.mp hp with rfl | hp
    · cases e; exact mt_fi hb hs
    · exact ih p hp q e
def lines_ok (n : Nat) (a b : Nat → Int) : Prop := 1 ≤ n ∧ n ≤ 60 ∧ ∀ i, (a i).natAbs ≤ 1000 ∧ (b i).natAbs ≤ 1000
def sp_envelope : FSpec := fun ds R => ∃ (n : Nat) (a b : Nat → Int), ds = [linesD n a b] ∧ lines_ok n a b ∧ R (envD (stF a b n))
theorem mono_envelope : SMono sp_envelope := fun ds R R' h ⟨n, a, b, h1, h2, q⟩ => ⟨n, a, b, h1, h2, h _ q⟩
theorem for_list {α : Type} {asg : DAs} {f : DTS} {a c d : DSt → Prop} {b : D → Prop} (ι : α → D) (l : List α) (I : List α → DSt → Prop)
    (step : ∀ done x todo, l = done ++ x :: todo → ∀ (δ : DSt) (kk : DSt → Prop), I done δ → (∀ δ', I (done ++ [x]) δ' → kk δ') → asg (ι x) δ fun δ1 => f ⟨kk, b, a, kk⟩ δ1) (fin : ∀ δ, I l δ → a δ) (δ : DSt) (h : I [] δ) : forD asg f ⟨a, b, c, d⟩ (l.map ι) δ := by
  have all : ∀ (todo done : List α), l = done ++ todo → ∀ δ, I done δ → forD asg f ⟨a, b, c, d⟩ (todo.map ι) δ := by
    intro todo
    induction todo with
    | nil => intro done e δ h; rw [List.append_nil] at e; subst e; exact fin δ h
    | cons x todo ih =>
      intro done e δ h
      rw [List.map_cons, forD_cons]
      exact step done x todo e δ _ h fun δ' h' => ih (done ++ [x]) (by rw [List.append_assoc]; exact e) δ' h'
  exact all l [] rfl δ h
theorem pops_len (a b : Nat → Int) (l : Nat) : ∀ st : List Row, (pops a b l st).2.length ≤ st.length
  | [] => Nat.le_refl _
  | (s, t) :: rest => by
    unfold pops
    split
    · exact Nat.le_refl _
    · exact Nat.le_trans (pops_len a b l rest) (Nat.le_succ _)
theorem fold_len (a b : Nat → Int) : ∀ (done : List Nat) (st : List Row), (done.foldl (push a b) st).length ≤ st.length + done.length
  | [], st => Nat.le_refl _
  | l :: done, st => by
    have h1 := fold_len a b done (push a b st l)
    have h2 := pops_len a b l st
    have h3 : (push a b st l).length = (pops a b l st).2.length + 1 := rfl
    rw [List.foldl_cons, List.length_cons]
    omega
theorem pop_of {s0 s2 s3 : Sl} {xs : List D} {d : D} {R : BV → DSt → Prop} (q : R (.val d) [s0, .own (.lst xs), s2, s3]) : fPop 1 [s0, .own (.lst (xs ++ [d])), s2, s3] R := by
  unfold fPop
  have e1 : look [s0, Sl.own (.lst (xs ++ [d])), s2, s3] 1 = .own (.lst (xs ++ [d])) := rfl
  rw [e1]
  dsimp only
  have e2 : (xs ++ [d])[(xs ++ [d]).length - 1]? = some d := by simp
  rw [e2]
  dsimp only
  rw [List.dropLast_concat]
  exact q
def mlen (δ : DSt) : Nat := match look δ 1 with
  | .own (.lst ds) => ds.length
  | _ => 0
theorem rows_snoc (p : Row) (rest : List Row) : ((p :: rest).reverse.map rowD) = rest.reverse.map rowD ++ [rowD p] := by
  rw [List.reverse_cons, List.map_append]; rfl
theorem ev_envelope : Ev ["lines", "rows", "at", "start"] 1 sp_envelope (F_envelope sp__steepest_first sp__meets sp_less) := by
  intro ds R _ ⟨n, a, b, e, ⟨hn1, hn, hs⟩, q⟩
  subst e
  simp only [startD_cons, startD_nil]
  unfold F_envelope
  walk_at "st"
  walk_at "st"
  refine call_of ⟨n, a, b, rfl, hn, ?_⟩
  try walk_at "dl"
  refine for_list (fun (i : Nat) => .int (i : Int)) (ordF a b n) (fun done δ => ∃ s2 s3 : Sl, δ = [.val (linesD n a b), .own (.lst ((done.foldl (push a b) []).reverse.map rowD)), s2, s3]) ?_ ?_ _ ⟨.no, .no, rfl⟩
  · rintro done l todo e δ kk ⟨s2, s3, rfl⟩ hnx
    have hl : l < n := (ord_mem (by rw [e]; exact List.mem_append_right _ List.mem_cons_self)).1
    have hasc := ord_asc a b n
    rw [e, List.pairwise_append] at hasc
    have hE : Env a b done (done.foldl (push a b) []) := by
      have := env_all (a := a) (b := b) done [] [] ⟨.nil, fun p h => (by cases h), fun j h => (by cases h)⟩ (by rw [List.nil_append]; exact hasc.1)
      rwa [List.nil_append] at this
    have hbl : ∀ p ∈ done.foldl (push a b) [], b p.2 < b l := fun p hp => hasc.2.2 _ (hE.mem p hp) l List.mem_cons_self
    have hin : ∀ p ∈ done.foldl (push a b) [], p.2 < n := fun p hp => (ord_mem (by rw [e]; exact List.mem_append_left _ (hE.mem p hp))).1
    have hlen : (done.foldl (push a b) []).length ≤ 1000000 := by
      have h1 := fold_len a b done []
      have h2 : done.length ≤ (ordF a b n).length := by rw [e, List.length_append]; omega
      have h3 := (stp_inv a b n).len
      unfold ordF at h2
      rw [List.length_map, List.length_mergeSort] at h2
      simp only [List.length_nil] at h1
      omega
    rw [show (done ++ [l]).foldl (push a b) [] = push a b (done.foldl (push a b) []) l by rw [List.foldl_append]; rfl] at hnx
    generalize done.foldl (push a b) [] = st0 at *
    walk_at "dl"
    walk_at "st"
    with_reducible refine fSq_i ?_
    refine while_inv (fun δ => ∃ st, pops a b l st = pops a b l st0 ∧ (∀ p ∈ st, p ∈ st0) ∧ st.length ≤ st0.length ∧ δ = [.val (linesD n a b), .own (.lst (st.reverse.map rowD)), .val (.int (l : Int)), .val .non]) mlen ?_ _ ⟨st0, rfl, fun p h => h, Nat.le_refl _, rfl⟩
    rintro δ kw ⟨st, hp, hsub, hle, rfl⟩ hkw
    cases st with
    | nil =>
      walk_at "dl"
      rw [if_neg (by simp)]
      walk_at "st"
      refine ⟨by simp, ?_⟩
      refine hnx _ ⟨.val (.int (l : Int)), .val .non, ?_⟩
      have e1 : push a b st0 l = [(none, l)] := by unfold push; rw [← hp]; rfl
      rw [e1]
      rfl
    | cons p rest =>
      obtain ⟨s, t⟩ := p
      have hmem := hsub (s, t) List.mem_cons_self
      have ht : t < n := hin _ hmem
      have hbt : b t < b l := hbl _ hmem
      rw [rows_snoc] at hkw ⊢
      walk_at "dl"
      rw [if_pos (by simp)]
      walk_at "st"
      rw [List.getLast?_concat, ixS_s]
      simp only [rowD] at hkw ⊢
      walk_at "dl"
      refine lines_ix ht ?_
      refine lines_ix hl ?_
      walk_at "dl"
      refine call_of ⟨a, b, t, l, rfl, hbt, fun i => (hs i).2, ?_⟩
      walk_at "dl"
      walk_at "st"
      rw [List.getLast?_concat, ixS_s]
      walk_at "dl"
      have brk : stops s (mt a b t l) = true → fApp 1 (fTup (fCons (fVar 3) (fCons (fVar 2) fNil))) ⟨kk, R, fRet (fBlt gTuple (fCons (fVar 1) fNil)) ⟨fun x => R D.non, R, fun _ => False, fun _ => False⟩, kk⟩ [.val (linesD n a b), .own (.lst (rest.reverse.map rowD ++ [.tup [optD s, .int (t : Int)]])), .val (.int (l : Int)), .val (ratD (mt a b t l))] := fun hst => by
        walk_at "st"
        refine ⟨by rw [List.length_append, List.length_map, List.length_reverse]; simp at hle ⊢; omega, ?_⟩
        refine hnx _ ⟨.val (.int (l : Int)), .val (ratD (mt a b t l)), ?_⟩
        have e1 : push a b st0 l = (some (mt a b t l), l) :: (s, t) :: rest := by unfold push; rw [← hp, pops, if_pos hst]
        rw [e1, rows_snoc, rows_snoc]
        rfl
      have go : ¬ stops s (mt a b t l) = true → fSq (fDrop (fPop 1)) (fSet 3 (fC D.non)) ⟨kw, R, fApp 1 (fTup (fCons (fVar 3) (fCons (fVar 2) fNil))) ⟨kk, R, fRet (fBlt gTuple (fCons (fVar 1) fNil)) ⟨fun x => R D.non, R, fun _ => False, fun _ => False⟩, kk⟩, kw⟩ [.val (linesD n a b), .own (.lst (rest.reverse.map rowD ++ [.tup [optD s, .int (t : Int)]])), .val (.int (l : Int)), .val (ratD (mt a b t l))] := fun hst => by
        with_reducible refine fSq_i ?_
        refine fDrop_i ?_
        refine pop_of ?_
        try dsimp only [nxt]
        walk_at "st"
        refine hkw _ ⟨rest, ?_, fun p hp => hsub p (List.mem_cons_of_mem _ hp), by simp at hle; omega, rfl⟩ ?_
        · rw [← hp, pops, if_neg hst]
        · simp [mlen, look]
      cases s with
      | none =>
        rw [show isD (optD none) .non = some true from rfl]
        walk_at "dl"
        walk_at "st"
        exact brk rfl
      | some q' =>
        rw [show isD (optD (some q')) .non = some false from rfl]
        walk_at "dl"
        refine call_of ⟨q', mt a b t l, rfl, (Ch.qb hs hE.ch _ hmem q' rfl).mono (by decide), (mt_fi hbt hs).mono (by decide), ?_⟩
        by_cases hlt : q' < mt a b t l
        · rw [decide_eq_true hlt]
          walk_at "dl"
          walk_at "st"
          exact brk (decide_eq_true hlt)
        · rw [decide_eq_false hlt]
          walk_at "dl"
          walk_at "st"
          exact go fun z => hlt (of_decide_eq_true z)
  · rintro δ ⟨s2, s3, rfl⟩
    walk_at "st"
    exact q
abbrev sp__law_whole : FSpec := LK.sp_whole
theorem mono__law_whole : SMono sp__law_whole := LK.mono_whole
theorem ev__law_whole : Ev ["thing", "low_v", "high"] 3 sp__law_whole (F__law_whole) := LK.ev_whole
abbrev sp__law_less : FSpec := LR.sp_qless
theorem mono__law_less : SMono sp__law_less := LR.mono_qless
theorem ev__law_less : Ev ["one", "two"] 2 sp__law_less (F__law_less) := LR.ev_qless'
abbrev sp__law_low : FSpec := LR.sp_qlow
theorem mono__law_low : SMono sp__law_low := LR.mono_qlow
theorem ev__law_low : Ev ["number", "by", "one", "two"] 2 sp__law_low (F__law_low) := LR.ev_qlow
abbrev sp__law_is_fraction : FSpec := LR.sp_isfL
theorem mono__law_is_fraction : SMono sp__law_is_fraction := LR.mono_isfL
theorem ev__law_is_fraction : Ev ["thing"] 1 sp__law_is_fraction (F__law_is_fraction sp__law_whole sp__law_low) := LR.ev_isfL
abbrev sp__law_scaled : FSpec := LR.sp_qscaledL
theorem mono__law_scaled : SMono sp__law_scaled := LR.mono_qscaledL
theorem ev__law_scaled : Ev ["one", "number"] 2 sp__law_scaled (F__law_scaled sp__law_low) := LR.ev_qscaledL
abbrev sp__law_add : FSpec := LR.sp_qadd
theorem mono__law_add : SMono sp__law_add := (LR.mono_q2 _)
theorem ev__law_add : Ev ["one", "two"] 2 sp__law_add (F__law_add sp__law_low) := (LR.ev_qadd' LR.low_q)
def sp__law_line_at : FSpec := fun ds R => ∃ (a b : Nat → Int) (i : Nat) (x : Rat), ds = [lineD a b i, ratD x] ∧ (a i).natAbs ≤ 1000 ∧ (b i).natAbs ≤ 1000 ∧ Qb 100 x ∧ R (ratD (val a b i x))
theorem mono__law_line_at : SMono sp__law_line_at := fun ds R R' h ⟨a, b, i, x, h1, h2, h3, h4, q⟩ => ⟨a, b, i, x, h1, h2, h3, h4, h _ q⟩
theorem ev__law_line_at : Ev ["line", "x"] 2 sp__law_line_at (F__law_line_at sp__law_scaled sp__law_add) := by
  intro ds R _ ⟨a, b, i, x, e, ha, hb, hx, q⟩
  subst e
  simp only [startD_cons, startD_nil, lineD]
  unfold F__law_line_at
  walk_at "st"
  refine call_of ⟨x, b i, rfl, Nat.lt_of_le_of_lt hb (Nat.lt_of_lt_of_le (by decide : 1000 < 2 ^ 10) (two_pow_mono (by decide))), hx.mono (by decide), ?_⟩
  try walk_at "dl"
  refine call_of ⟨(a i : Rat), (b i : Rat) * x, rfl, fi_int (by omega) (by omega), ((Qb.int (n := b i) (k := 10) (Nat.lt_of_le_of_lt hb (by decide)) (by decide)).mul hx).mono (by decide), ?_⟩
  try walk_at "dl"
  exact q
abbrev sp__law_other : FSpec := LK.sp_other
theorem mono__law_other : SMono sp__law_other := LK.mono_other
theorem ev__law_other : Ev ["box", "thing", "behind", "k"] 2 sp__law_other (F__law_other sp__law_draw) := LK.ev_other
abbrev sp__law_changed (k : Nat) : FSpec := LK.sp_changed k
theorem mono__law_changed (k : Nat) : SMono (sp__law_changed k) := LK.mono_changed k
theorem zero__law_changed : ∀ ds R, ¬ sp__law_changed 0 ds R := LK.zero_changed
theorem ev__law_changed (k : Nat) : Ev ["box", "thing", "at"] 2 (sp__law_changed (k + 1)) (F__law_changed sp__law_draw sp__law_other (sp__law_changed k)) := LK.ev_changed k
abbrev sp__law_like (k : Nat) : FSpec := LK.sp_like k
theorem mono__law_like (k : Nat) : SMono (sp__law_like k) := LK.mono_like k
theorem zero__law_like : ∀ ds R, ¬ sp__law_like 0 ds R := LK.zero_like
theorem ev__law_like (k : Nat) : Ev ["told", "due", "k"] 2 (sp__law_like (k + 1)) (F__law_like (sp__law_like k)) := LK.ev_like k
abbrev sp_is_pair : FSpec := LR.sp_isp
theorem mono_is_pair : SMono sp_is_pair := LR.mono_isp
theorem ev_is_pair : Ev ["thing"] 1 sp_is_pair (F_is_pair) := LR.ev_isp
abbrev sp_is_whole : FSpec := LR.sp_isw
theorem mono_is_whole : SMono sp_is_whole := LR.mono_isw
theorem ev_is_whole : Ev ["thing"] 1 sp_is_whole (F_is_whole) := LR.ev_isw
abbrev sp_is_fraction : FSpec := LR.sp_isf
theorem mono_is_fraction : SMono sp_is_fraction := LR.mono_isf
theorem ev_is_fraction : Ev ["thing", "top", "bottom"] 1 sp_is_fraction (F_is_fraction sp_is_whole) := LR.ev_isf
abbrev sp_is_between : FSpec := LR.sp_isb
theorem mono_is_between : SMono sp_is_between := LR.mono_isb
theorem ev_is_between : Ev ["thing", "least", "most"] 3 sp_is_between (F_is_between sp_is_whole) := LR.ev_isb
theorem blsD_map : ∀ bs : List Bool, blsD (bs.map D.bl) = some bs
  | [] => rfl
  | b :: bs => by
    rw [List.map_cons, blsD, blsD_map bs]; rfl
theorem gAll_map {α : Type} (l : List α) (f : α → Bool) {R : BV → Prop} (q : R (.val (.bl (l.all f)))) : gAll [.lst (l.map fun x => .bl (f x))] R := by
  unfold gAll
  have e : l.map (fun x => D.bl (f x)) = (l.map f).map D.bl := by rw [List.map_map]; rfl
  rw [e]
  dsimp only
  rw [blsD_map]
  dsimp only
  rw [List.all_map]
  exact q
theorem cut_one {α : Type} (x : α) (xs : List α) : cutD (x :: xs) (some 1) none = xs := by
  unfold cutD
  have e1 : HT.sIx (x :: xs).length 0 (some 1) = 1 := by simp [HT.sIx]
  have e2 : HT.sIx (x :: xs).length (x :: xs).length none = (x :: xs).length := rfl
  rw [e1, e2]
  simp
def rowI (p : Option Rat × Int) : D := .tup [optD p.1, .int p.2]
theorem optD_eq (o o' : Option Rat) : eqD (optD o) (optD o') = decide (o = o') := by
  cases o with
  | none => cases o' with
    | none => rfl
    | some q => simp [optD, ratD, eqD]; rfl
  | some p => cases o' with
    | none => simp [optD, ratD, eqD]; rfl
    | some q => 
      show eqD (ratD p) (ratD q) = _
      rw [eqD_rr]; simp
theorem rowI_eq (p p' : Option Rat × Int) : eqD (rowI p) (rowI p') = decide (p = p') := by
  unfold rowI
  rw [eqD_tt, eqL_cc, eqL_cc, eqL_nn, optD_eq, eqD_ii, Bool.and_true]
  obtain ⟨o, i⟩ := p
  obtain ⟨o', i'⟩ := p'
  by_cases h1 : o = o' <;> by_cases h2 : i = i' <;> simp [h1, h2]
theorem rowsI_eq : ∀ l l' : List (Option Rat × Int), eqL (l.map rowI) (l'.map rowI) = decide (l = l')
  | [], [] => rfl
  | [], _ :: _ => rfl
  | _ :: _, [] => rfl
  | p :: l, p' :: l' => by
    rw [List.map_cons, List.map_cons, eqL_cc, rowI_eq, rowsI_eq l l']
    by_cases h1 : p = p' <;> by_cases h2 : l = l' <;> simp [h1, h2]
theorem rowI_inj {p p' : Option Rat × Int} (h : rowI p = rowI p') : p = p' := by
  have := rowI_eq p p'
  rw [h, rowI_eq] at this
  exact of_decide_eq_true (by rw [← this]; exact decide_eq_true rfl)
theorem Ch.bottom {a b : Nat → Int} {st : List Row} (h : Ch a b st) (hne : st ≠ []) : ∃ l0 tl, st.reverse = (none, l0) :: tl ∧ ∀ p ∈ tl, ∃ q, p.1 = some q := by
  induction h with
  | nil => exact absurd rfl hne
  | one => exact ⟨_, [], rfl, fun p hp => (by cases hp)⟩
  | cons hb hs h ih =>
    obtain ⟨l0, tl, e, ht⟩ := ih (by simp)
    rw [List.reverse_cons, e]
    refine ⟨l0, tl ++ [_], rfl, fun p hp => ?_⟩
    rcases List.mem_append.mp hp with hp | hp
    · exact ht p hp
    · rw [List.mem_singleton.mp hp]; exact ⟨_, rfl⟩
theorem st_ne {n : Nat} {a b : Nat → Int} (hn : 1 ≤ n) : stF a b n ≠ [] := fun e => by
  obtain ⟨i, hi, _⟩ := ord_dom (a := a) (b := b) (n := n) (j := 0) (by omega)
  obtain ⟨p, hp, _⟩ := (env_st a b n).dom i hi 0
  rw [e] at hp; cases hp
theorem st_lt {n : Nat} {a b : Nat → Int} {p : Row} (hp : p ∈ stF a b n) : p.2 < n := (ord_mem ((env_st a b n).mem p hp)).1
theorem seqS_tup {ds : List D} {δ : DSt} {k : List D → DSt → Prop} : seqS (.tup ds) δ k = k ds δ := rfl
theorem all_map_self {f : D → D} {l : List D} {R : Prop} (h : R) : R := h
def sp_is_envelope : FSpec := fun ds R => ∃ (n : Nat) (a b : Nat → Int) (d : D) (L : Nat) (M : Int) (m : Nat), ds = [linesD n a b, d] ∧ lines_ok n a b ∧ LK.Bd L M m d ∧ L ≤ 10000000 ∧ m ≤ 60 ∧ ∀ bb : Bool, (bb = true ↔ d = envD (stF a b n)) → R (.bl bb)
theorem mono_is_envelope : SMono sp_is_envelope := fun ds R R' h ⟨n, a, b, d, L, M, m, h1, h2, h3, h4, h5, q⟩ => ⟨n, a, b, d, L, M, m, h1, h2, h3, h4, h5, fun bb hb => h _ (q bb hb)⟩
/-- what passes the guards -/
theorem rows_form {n : Nat} : ∀ rs : List D, (∀ x ∈ rs, pairB x = true) → (∀ x ∈ rs, ∃ u v, x = .tup [u, v] ∧ frB u = true ∧ LK.wholeB v (.int 0) (.int ((n : Int) - 1)) = true) → ∃ l : List (Option Rat × Int), rs = l.map rowI
  | [], _, _ => ⟨[], rfl⟩
  | x :: rs, hp, h => by
    obtain ⟨l, e⟩ := rows_form rs (fun y hy => hp y (List.mem_cons_of_mem _ hy)) fun y hy => h y (List.mem_cons_of_mem _ hy)
    obtain ⟨u, v, rfl, hu, hv⟩ := h x List.mem_cons_self
    obtain ⟨q, rfl⟩ := frB_iff.mp hu
    have : ∃ i, v = .int i := by cases v <;> first | exact ⟨_, rfl⟩ | (simp [LK.wholeB] at hv)
    obtain ⟨i, rfl⟩ := this
    exact ⟨(some q, i) :: l, by rw [e]; rfl⟩
theorem pair_iff {x : D} (h : pairB x = true) : ∃ u v, x = .tup [u, v] := by
  cases x with
  | tup ds =>
    rcases ds with _ | ⟨u, _ | ⟨v, _ | ⟨w, ds⟩⟩⟩
    · cases h
    · cases h
    · exact ⟨u, v, rfl⟩
    · cases h
  | _ => cases h
theorem bd_tup {L : Nat} {M : Int} {m : Nat} {ds : List D} (h : LK.Bd L M m (.tup ds)) : ∀ d ∈ ds, LK.Bd L M (m - 1) d := by
  cases h with
  | tup h hl => exact h
theorem bd_fst {L : Nat} {M : Int} {m : Nat} {u v : D} (h : LK.Bd L M m (.tup [u, v])) : LK.Bd L M (m - 1) u := bd_tup h u List.mem_cons_self
theorem bd_snd {L : Nat} {M : Int} {m : Nat} {u v : D} (h : LK.Bd L M m (.tup [u, v])) : LK.Bd L M (m - 1) v := bd_tup h v (List.mem_cons_of_mem _ List.mem_cons_self)
def nonB (d : D) : Bool := match d with
  | .non => true
  | _ => false
theorem isD_bd {L : Nat} {M : Int} {m : Nat} {u : D} (h : LK.Bd L M m u) : isD u .non = some (nonB u) := by
  cases h <;> rfl
def fstD (d : D) : D := match d with
  | .tup (u :: _) => u
  | _ => .non
def sndD (d : D) : D := match d with
  | .tup (_ :: v :: _) => v
  | _ => .non
theorem okE_env (st : List Row) : OkE 3 (envD st) := .tup fun d hd => by
  obtain ⟨p, _, rfl⟩ := List.mem_map.mp hd
  refine .tup (okE_cons ?_ (okE_cons (.int _) okE_nil))
  cases p.1 with
  | none => exact .non
  | some q => exact okE_r (n := 0)
theorem ev_is_envelope : Ev ["lines", "thing", "row"] 2 sp_is_envelope (F_is_envelope sp_is_pair sp_is_fraction sp_is_between sp_envelope) := by
  intro ds R _ ⟨n, a, b, d, L, M, m, e, hl, hB, hL, hm, q⟩
  subst e
  simp only [startD_cons, startD_nil]
  unfold F_is_envelope
  have no : d ≠ envD (stF a b n) → R (.bl false) := fun h => q false ⟨fun z => (by cases z), fun z => absurd z h⟩
  have hok := hB.ok
  obtain ⟨l0, tl, est, htl⟩ := Ch.bottom (env_st a b n).ch (st_ne hl.1)
  have eE : envD (stF a b n) = .tup (rowD (none, l0) :: tl.map rowD) := by unfold envD; rw [est]; rfl
  cases hB with
  | non => walk_at "st"; exact no fun z => (by rw [eE] at z; cases z)
  | bl c => walk_at "st"; exact no fun z => (by rw [eE] at z; cases z)
  | int h1 h2 => walk_at "st"; exact no fun z => (by rw [eE] at z; cases z)
  | str h hz => walk_at "st"; exact no fun z => (by rw [eE] at z; cases z)
  | lst h hz => walk_at "st"; exact no fun z => (by rw [eE] at z; cases z)
  | @tup m' rs h hz =>
    cases rs with
    | nil =>
      walk_at "st"
      exact no fun z => (by rw [eE] at z; injection z with z; cases z)
    | cons r0 rs =>
      have len : (r0 :: rs).length ≤ 16000000 := by omega
      walk_at "st"
      refine comp_mapI (fun x => .bl (pairB x)) (r0 :: rs) len ?_ ?_
      · intro x hx acc k hacc hk
        walk_at "dl"
        refine call_of ⟨x, rfl, (h x hx).calm 0, ?_⟩
        try walk_at "dl"
        exact ⟨hacc, hk⟩
      · try walk_at "dl"
        refine gAll_map (r0 :: rs) pairB ?_
        try walk_at "dl"
        have pr : ∀ x ∈ tl.map rowD, ∃ (q : Rat) (i : Nat), x = .tup [ratD q, .int (i : Int)] ∧ i < n := fun x hx => by
          obtain ⟨p, hp, rfl⟩ := List.mem_map.mp hx
          obtain ⟨q', hq⟩ := htl p hp
          refine ⟨q', p.2, by unfold rowD; rw [hq]; rfl, st_lt (a := a) (b := b) (List.mem_reverse.mp (by rw [est]; exact List.mem_cons_of_mem _ hp))⟩
        have l0n : l0 < n := st_lt (a := a) (b := b) (p := (none, l0)) (List.mem_reverse.mp (by rw [est]; exact List.mem_cons_self))
        cases hp : (r0 :: rs).all pairB with
        | false =>
          rw [if_pos (by rfl)]
          walk_at "st"
          refine no fun z => ?_
          rw [eE] at z
          injection z with z
          rw [z, List.all_cons] at hp
          have h2 : (tl.map rowD).all pairB = true := List.all_eq_true.mpr fun x hx => by
            obtain ⟨q', i, rfl, _⟩ := pr x hx; rfl
          rw [h2] at hp
          cases hp
        | true =>
          rw [if_neg (by decide)]
          walk_at "st"
          have hpp : ∀ x ∈ r0 :: rs, ∃ u v, x = .tup [u, v] := fun x hx => pair_iff (List.all_eq_true.mp hp x hx)
          obtain ⟨u0, v0, rfl⟩ := hpp r0 List.mem_cons_self
          walk_at "st"
          have hu0 : LK.Bd L M (m' - 1) u0 := bd_fst (h _ List.mem_cons_self)
          rw [isD_bd hu0]
          walk_at "dl"
          cases hnb : nonB u0 with
          | false =>
            rw [if_pos (by rfl)]
            walk_at "st"
            refine no fun z => ?_
            rw [eE] at z
            injection z with z
            injection z with z1 z2
            have : u0 = .non := by injection z1 with z1; injection z1
            rw [this] at hnb; cases hnb
          | true =>
            have hu : u0 = .non := by cases u0 <;> first | rfl | (cases hnb)
            subst hu
            rw [if_neg (by decide), cut_one]
            refine comp_mapI (fun x => .bl (frB (fstD x))) rs (by simp at len; omega) ?_ ?_
            · intro x hx acc k hacc hk
              obtain ⟨u, v, rfl⟩ := hpp x (List.mem_cons_of_mem _ hx)
              walk_at "dl"
              refine call_of ⟨u, 0, rfl, (bd_fst (h _ (List.mem_cons_of_mem _ hx))).calm 1, ?_⟩
              try walk_at "dl"
              exact ⟨hacc, hk⟩
            · try walk_at "dl"
              refine gAll_map rs (fun x => frB (fstD x)) ?_
              walk_at "dl"
              cases hfr : rs.all (fun x => frB (fstD x)) with
              | false =>
                rw [if_pos (by rfl)]
                walk_at "st"
                refine no fun z => ?_
                rw [eE] at z
                injection z with z
                injection z with z1 z2
                rw [z2] at hfr
                have h2 : (tl.map rowD).all (fun x => frB (fstD x)) = true := List.all_eq_true.mpr fun x hx => by
                  obtain ⟨q', i, rfl, _⟩ := pr x hx; exact frB_rat
                rw [h2] at hfr
                cases hfr
              | true =>
                rw [if_neg (by decide)]
                walk_at "st"
                walk_at "st"
                refine comp_mapI (fun x => .bl (LK.wholeB (sndD x) (.int 0) (.int ((n : Int) - 1)))) (.tup [.non, v0] :: rs) len ?_ ?_
                · intro x hx acc k hacc hk
                  obtain ⟨u, v, rfl⟩ := hpp x hx
                  walk_at "dl"
                  rw [gLen_lines]
                  walk_at "dl"
                  refine call_of ⟨v, 0, _, rfl, (bd_snd (h _ hx)).calm 0, ?_⟩
                  try walk_at "dl"
                  exact ⟨hacc, hk⟩
                · try walk_at "dl"
                  refine gAll_map (.tup [.non, v0] :: rs) (fun x => LK.wholeB (sndD x) (.int 0) (.int ((n : Int) - 1))) ?_
                  walk_at "dl"
                  have wh : ∀ i : Nat, i < n → LK.wholeB (.int (i : Int)) (.int 0) (.int ((n : Int) - 1)) = true := fun i hi => by
                    show (decide ((0 : Int) ≤ (i : Int)) && decide ((i : Int) ≤ (n : Int) - 1)) = true
                    rw [decide_eq_true (by omega), decide_eq_true (by omega)]; rfl
                  cases hwh : (D.tup [.non, v0] :: rs).all (fun x => LK.wholeB (sndD x) (.int 0) (.int ((n : Int) - 1))) with
                  | false =>
                    rw [if_pos (by rfl)]
                    walk_at "st"
                    refine no fun z => ?_
                    rw [eE] at z
                    injection z with z
                    rw [z] at hwh
                    have h2 : (rowD (none, l0) :: tl.map rowD).all (fun x => LK.wholeB (sndD x) (.int 0) (.int ((n : Int) - 1))) = true := List.all_eq_true.mpr fun x hx => by
                      rcases List.mem_cons.mp hx with rfl | hx
                      · exact wh l0 l0n
                      · obtain ⟨q', i, rfl, hi⟩ := pr x hx; exact wh i hi
                    rw [h2] at hwh
                    cases hwh
                  | true =>
                    rw [if_neg (by decide)]
                    walk_at "st"
                    walk_at "st"
                    refine call_of ⟨n, a, b, rfl, hl, ?_⟩
                    try walk_at "dl"
                    have hw := List.all_eq_true.mp hwh
                    have hf := List.all_eq_true.mp hfr
                    obtain ⟨l, hrs⟩ := rows_form (n := n) rs (fun x hx => List.all_eq_true.mp hp x (List.mem_cons_of_mem _ hx)) fun x hx => by
                      obtain ⟨u, v, rfl⟩ := hpp x (List.mem_cons_of_mem _ hx)
                      exact ⟨u, v, rfl, hf _ hx, hw _ (List.mem_cons_of_mem _ hx)⟩
                    have hv0 : ∃ i, v0 = .int i := by
                      have := hw _ List.mem_cons_self
                      cases v0 <;> first | exact ⟨_, rfl⟩ | (simp [LK.wholeB, sndD] at this)
                    obtain ⟨i0, rfl⟩ := hv0
                    have e1 : D.tup (D.tup [.non, .int i0] :: rs) = .tup (((none, i0) :: l).map rowI) := by rw [hrs]; rfl
                    have e2 : envD (stF a b n) = .tup (((stF a b n).reverse.map fun p => (p.1, (p.2 : Int))).map rowI) := by unfold envD; rw [List.map_map]; rfl
                    refine gEq_of hok (okE_env (stF a b n)) ?_ (by omega)
                    refine q _ ?_
                    rw [e1, e2, eqD_tt, rowsI_eq, decide_eq_true_iff]
                    constructor
                    · intro z; rw [z]
                    · intro z
                      injection z with z
                      have := rowsI_eq ((none, i0) :: l) ((stF a b n).reverse.map fun p => (p.1, (p.2 : Int)))
                      rw [z, rowsI_eq] at this
                      exact of_decide_eq_true (by rw [← this]; exact decide_eq_true rfl)
/-- the rows, from the left on -/
structure Rws (n : Nat) (a b : Nat → Int) (rs : List Row) : Prop where
  pos : 0 < rs.length
  len : rs.length ≤ 60
  lt : ∀ p ∈ rs, p.2 < n ∧ ∀ j, j < p.2 → ¬ (a j = a p.2 ∧ b j = b p.2)
  fst : ∀ p, rs[0]? = some p → p.1 = none
  nxt : ∀ k p r, rs[k]? = some p → rs[k + 1]? = some r → r.1 = some (mt a b p.2 r.2) ∧ b p.2 < b r.2 ∧ stops p.1 (mt a b p.2 r.2) = true
  qb : ∀ p ∈ rs, ∀ q, p.1 = some q → Qb 12 q
  sel : ∀ x, ∃ pre p post, rs = post ++ p :: pre ∧ (∀ r ∈ pre, E80.cond x r = false) ∧ E80.cond x p = true ∧ ∀ j, j < n → val a b j x ≤ val a b p.2 x
theorem Ch.nxt {a b : Nat → Int} {st : List Row} (h : Ch a b st) : ∀ k p r, st.reverse[k]? = some p → st.reverse[k + 1]? = some r → r.1 = some (mt a b p.2 r.2) ∧ b p.2 < b r.2 ∧ stops p.1 (mt a b p.2 r.2) = true := by
  induction h with
  | nil => intro k p r h; simp at h
  | one => intro k p r h1 h2; simp at h2
  | cons hb hs h ih =>
    rename_i l t s rest
    intro k p r h1 h2
    rw [List.reverse_cons] at h1 h2
    have hl : ((s, t) :: rest).reverse.length = rest.length + 1 := by simp
    by_cases hk : k + 1 < rest.length + 1
    · rw [List.getElem?_append_left (by rw [hl]; omega)] at h1 h2
      exact ih k p r h1 h2
    · have hk2 : k + 1 < (((s, t) :: rest).reverse ++ [(some (mt a b t l), l)]).length := by
        rcases Nat.lt_or_ge (k + 1) (((s, t) :: rest).reverse ++ [(some (mt a b t l), l)]).length with z | z
        · exact z
        · rw [List.getElem?_eq_none z] at h2; cases h2
      rw [List.length_append, hl, List.length_singleton] at hk2
      have e : k = rest.length := by omega
      subst e
      rw [List.getElem?_append_right (by rw [hl]; omega), hl] at h2
      rw [List.getElem?_append_left (by rw [hl]; omega), List.reverse_cons, List.getElem?_append_right (by simp)] at h1
      simp at h1 h2
      subst h1 h2
      exact ⟨rfl, hb, hs⟩
theorem rws_of {n : Nat} {a b : Nat → Int} (h : lines_ok n a b) : Rws n a b (stF a b n).reverse := by
  obtain ⟨h1, h2, h3⟩ := h
  have E := env_st a b n
  have ne := st_ne (a := a) (b := b) h1
  obtain ⟨l0, tl, e, ht⟩ := Ch.bottom E.ch ne
  refine ⟨by rw [e]; simp, ?_, fun p hp => ?_, fun p hp => ?_, Ch.nxt E.ch, fun p hp => Ch.qb h3 E.ch p (List.mem_reverse.mp hp), fun x => ?_⟩
  · have h4 := fold_len a b (ordF a b n) []
    have h5 := (stp_inv a b n).len
    rw [List.length_reverse]
    have h6 : (ordF a b n).length = (stp a b n).1.length := by unfold ordF; rw [List.length_map, List.length_mergeSort]
    simp only [List.length_nil] at h4
    unfold stF
    omega
  · exact ord_mem (E.mem p (List.mem_reverse.mp hp))
  · rw [e] at hp; cases hp; rfl
  · obtain ⟨pre, p, post, e1, e2, e3, e4⟩ := sel_max x E.ch ne
    refine ⟨pre.reverse, p, post.reverse, by rw [e1]; simp, fun r hr => e2 r (List.mem_reverse.mp hr), e3, fun j hj => ?_⟩
    obtain ⟨i, hi, hb, ha⟩ := ord_dom (a := a) (b := b) hj
    obtain ⟨r, hr, hv⟩ := E.dom i hi x
    exact Rat.le_trans (val_same hb ha x) (Rat.le_trans hv (e4 r hr))
theorem lines_congr {n : Nat} {f : Nat → Int × Int} : D.ptp ((List.range n).map fun j => .tup [.int (f j).1, .int (f j).2]) = linesD n (fun i => if i < n then (f i).1 else 0) (fun i => if i < n then (f i).2 else 0) := by
  unfold linesD
  exact congrArg _ (List.map_congr_left fun j hj => by dsimp only; rw [if_pos (List.mem_range.mp hj), if_pos (List.mem_range.mp hj)])
theorem tup_ix {ds : List D} {i : Nat} {d : D} (h : ds[i]? = some d) {R : BV → Prop} (q : R (.val d)) : gIx (.tup ds) (.int (i : Int)) R := by
  rw [gIx_t, atI_nat', h]; exact q
theorem idxD_at (f : Nat → D) (y : D) : ∀ (c m i : Nat), m ≤ i → i < m + c → eqD (f i) y = true → (∀ j, m ≤ j → j < i → eqD (f j) y = false) → idxD ((List.range' m c).map f) y = some (i - m)
  | 0, m, i, h1, h2, _, _ => by omega
  | c + 1, m, i, h1, h2, h3, h4 => by
    rw [List.range'_succ, List.map_cons, idxD]
    by_cases e : m = i
    · subst e
      rw [if_pos h3, Nat.sub_self]
    · rw [if_neg (by rw [h4 m (Nat.le_refl _) (by omega)]; decide), idxD_at f y c (m + 1) i (by omega) (by omega) h3 fun j hj1 hj2 => h4 j (by omega) hj2]
      show some (i - (m + 1) + 1) = _
      congr 1
      omega
theorem line_eq (a b : Nat → Int) (i j : Nat) : eqD (lineD a b i) (lineD a b j) = decide (a i = a j ∧ b i = b j) := by
  unfold lineD
  rw [eqD_tt, eqL_cc, eqL_cc, eqL_nn, eqD_ii, eqD_ii, Bool.and_true]
  by_cases h1 : a i = a j <;> by_cases h2 : b i = b j <;> simp [h1, h2]
theorem okE_lines (n : Nat) (a b : Nat → Int) : OkE 3 (linesD n a b) := .ptp fun d hd => by
  obtain ⟨i, _, rfl⟩ := List.mem_map.mp hd
  exact .tup (okE_cons (.int _) (okE_cons (.int _) okE_nil))
theorem line_ok (a b : Nat → Int) (i : Nat) : OkE 1 (lineD a b i) := .tup (okE_cons (.int _) (okE_cons (.int _) okE_nil))
theorem idx_line {n : Nat} {a b : Nat → Int} {i : Nat} (hi : i < n) (hf : ∀ j, j < i → ¬ (a j = a i ∧ b j = b i)) {k : Nat → Prop} (q : k i) : idxP (linesD n a b) (lineD a b i) k := by
  unfold linesD
  refine idxP_of ((okE_lines n a b).sh (by decide)) ((line_ok a b i).sh (by decide)) (j := i) ?_ q
  have := idxD_at (fun i => lineD a b i) (lineD a b i) n 0 i (Nat.zero_le _) (by omega) (by rw [line_eq]; simp) fun j _ hj => by
    rw [line_eq, decide_eq_false (hf j hj)]
  rw [← List.range_eq_range'] at this
  exact this
theorem th_env {n : Nat} {a b : Nat → Int} {rs : List Row} (h : Rws n a b rs) (hn : n ≤ 60) : LK.Th 100 5000 3 (.tup (rs.map rowD)) := .tup (fun d hd => by
  obtain ⟨p, hp, rfl⟩ := List.mem_map.mp hd
  have hlt := (h.lt p hp).1
  refine .tup (fun e he => ?_) (by simp)
  rcases List.mem_cons.mp he with rfl | he
  · cases hq : p.1 with
    | none => exact .non
    | some q =>
      obtain ⟨h1, h2⟩ := h.qb p hp q hq
      refine .tup (fun e he => ?_) (by simp)
      rcases List.mem_cons.mp he with rfl | he
      · exact .int (by omega) (by omega)
      · rw [List.mem_singleton.mp he]
        exact .int (by omega) (by omega)
  · rw [List.mem_singleton.mp he]
    exact .int (by omega) (by omega)) (by rw [List.length_map]; have := h.len; omega)
theorem fit_nil {k : Nat} : ∀ d ∈ ([] : List D), LK.FitD k d := fun _ h => by cases h
theorem fit_cons {k : Nat} {x : D} {xs : List D} (h : LK.FitD k x) (t : ∀ d ∈ xs, LK.FitD k d) : ∀ d ∈ x :: xs, LK.FitD k d := fun d hd => by
  rcases List.mem_cons.mp hd with rfl | h'
  · exact h
  · exact t d h'
theorem fit_env {n : Nat} {a b : Nat → Int} {rs : List Row} (h : Rws n a b rs) {k : Nat} : LK.FitD (k + 3) (.tup (rs.map rowD)) := .tup (fun d hd => by
  obtain ⟨p, hp, rfl⟩ := List.mem_map.mp hd
  refine .tup (fit_cons ?_ (fit_cons (.int _) fit_nil)) (by simp)
  cases p.1 with
  | none => exact .non
  | some q => exact .tup (fit_cons (.int _) (fit_cons (.int _) fit_nil)) (by simp)) (by rw [List.length_map]; have := h.len; omega)
theorem calm_r {k : Nat} {q : Rat} : LK.Calm (k + 1) (ratD q) := by
  intro d hd
  simp only [List.mem_cons, List.not_mem_nil, or_false] at hd
  rcases hd with rfl | rfl <;> (cases k <;> trivial)
theorem isfL_r {q : Rat} {R : D → Prop} (h : Qb 12 q) (k : R (.bl true)) : sp_isfL [ratD q] R :=
  ⟨_, 0, rfl, calm_r, fun n b e => by
    injection e with e; injection e with _ e; injection e with e _; injection e with e
    rw [← e, Int.natAbs_natCast]
    exact Nat.lt_of_lt_of_le h.2 (two_pow_mono (by decide)), by rw [frB_rat]; exact k⟩
theorem val_fi {a b : Nat → Int} {i : Nat} (h : (a i).natAbs ≤ 1000 ∧ (b i).natAbs ≤ 1000) {x : Rat} (hx : Qb 12 x) : Fi (val a b i x) :=
  ((Qb.int (n := a i) (k := 10) (Nat.lt_of_le_of_lt h.1 (by decide)) (by decide)).add ((Qb.int (n := b i) (k := 10) (Nat.lt_of_le_of_lt h.2 (by decide)) (by decide)).mul hx)).mono (by decide)
theorem ev_law : Ev ["script", "box", "turn", "lines", "told", "k", "step", "x", "at", "thing", "row", "line"] 1 specLaw (F_law sp__law_digits sp__law_draw sp_envelope sp__law_whole sp__law_less sp__law_is_fraction sp__law_line_at sp__law_low (sp__law_changed 8) (sp__law_like 8) sp_is_envelope) := by
  intro ds R _ ⟨ns, e, hn, hR⟩
  subst e
  simp only [startD_cons, startD_nil]
  unfold F_law
  refine fBox_i ?_
  walk_at "dl"
  refine call_of ⟨ns, rfl, fun dg => ?_⟩
  walk_at "dl"
  refine box_start rfl ?_
  walk_at "dl"
  walk_at "st"
  refine ⟨⟨by decide, by decide⟩, ?_⟩
  refine forD_keep (fun δ => ∃ s2 s3 s4 s5 s6 s7 s8 s9 s10 s11 : Sl, okSl s5 ∧ okSl s10 ∧ okSl s11 ∧ δ = [.val (.scr ns), .val .box, s2, s3, s4, s5, s6, s7, s8, s9, s10, s11]) ?_ ?_ _ ⟨.no, .no, .no, .no, .no, .no, .no, .no, .no, .no, trivial, trivial, trivial, rfl⟩
  · intro x δ K hx ⟨s2, s3, s4, s5, s6, s7, s8, s9, s10, s11, o5, o10, o11, e⟩ hK
    subst e
    walk_at "dl"
    walk_at "st"
    refine call_of ⟨6, rfl, by decide, fun m0 m1 m2 => ?_⟩
    obtain ⟨m, rfl⟩ := Int.eq_ofNat_of_zero_le m1
    try walk_at "dl"
    refine ⟨⟨by omega, by omega⟩, o5, ?_⟩
    rw [show ((1 : Int) + (m : Int)).toNat = 1 + m by omega, rangeD_range]
    refine comp_rangeC (β := Int × Int) _ (fun _ p => .tup [.int p.1, .int p.2]) (fun _ p => p.1.natAbs ≤ 1000 ∧ p.2.natAbs ≤ 1000) (1 + m) (by omega) ?_ ?_
    · intro j hj acc k hacc hk
      walk_at "dl"
      refine call_of ⟨13, rfl, by decide, fun z z0 z1 => ?_⟩
      try walk_at "dl"
      refine call_of ⟨7, rfl, by decide, fun y y0 y1 => ?_⟩
      try walk_at "dl"
      exact ⟨hacc, hk (z - 6, y - 3) ⟨by dsimp only; omega, by dsimp only; omega⟩⟩
    · intro f hf
      try walk_at "dl"
      rw [lines_congr]
      generalize ha : (fun i => if i < 1 + m then (f i).1 else 0) = a
      generalize hb : (fun i => if i < 1 + m then (f i).2 else 0) = b
      have hl : lines_ok (1 + m) a b := ⟨by omega, by omega, fun i => by
        rw [← ha, ← hb]
        by_cases z : i < 1 + m
        · dsimp only; rw [if_pos z, if_pos z]; exact hf i z
        · dsimp only; rw [if_neg z, if_neg z]; decide⟩
      have hn60 : 1 + m ≤ 60 := by omega
      generalize 1 + m = n at *
      walk_at "st"
      refine call_of ⟨n, a, b, rfl, hl, ?_⟩
      have W := rws_of hl
      have hE : envD (stF a b n) = .tup ((stF a b n).reverse.map rowD) := rfl
      rw [hE]
      try walk_at "dl"
      generalize hrs : (stF a b n).reverse = rs at *
      have okR : OkE 3 (.tup (rs.map rowD)) := by rw [← hE]; exact okE_env _
      obtain ⟨p0, rs', hp0⟩ : ∃ p0 rs', rs = p0 :: rs' := by
        cases rs with
        | nil => exact absurd W.pos (by simp)
        | cons p0 rs' => exact ⟨p0, rs', rfl⟩
      have hf0 : p0.1 = none := W.fst p0 (by rw [hp0]; rfl)
      have lr := W.len
      walk_at "st"
      refine gEq_of (n := 3) (m := 1) okR (.tup fun _ h => nomatch h) ?_
      rw [asB_v, if_neg (by rw [hp0]; simp [eqD_tt, eqL_cn])]
      try walk_at "dl"
      rw [show (rs.map rowD)[0]? = some (.tup [.non, .int (p0.2 : Int)]) by rw [hp0]; show some (rowD p0) = _; unfold rowD; rw [hf0]; rfl, ixS_s]
      walk_at "dl"
      refine ⟨o10, ?_⟩
      refine comp_noI _ ?_ ?_
      · intro y hy k hk
        obtain ⟨p, hp, rfl⟩ := List.mem_map.mp hy
        simp only [rowD]
        walk_at "dl"
        rw [gLen_lines]
        walk_at "dl"
        refine call_of ⟨_, _, _, 0, rfl, trivial, .inr ⟨_, rfl⟩, .inr ⟨_, rfl⟩, ?_⟩
        have hlt := (W.lt p hp).1
        rw [show LK.wholeB (.int (p.2 : Int)) (.int 0) (.int ((n : Int) - 1)) = true by
          show (decide ((0 : Int) ≤ (p.2 : Int)) && decide ((p.2 : Int) ≤ (n : Int) - 1)) = true
          rw [decide_eq_true (by omega), decide_eq_true (by omega)]; rfl]
        walk_at "dl"
        exact hk
      · try walk_at "dl"
        refine gNe_of (n := 1) (m := 1) (.lst fun _ h => nomatch h) (.lst fun _ h => nomatch h) ?_
        rw [asB_v, if_neg (by decide)]
        walk_at "st"
        walk_at "st"
        rw [List.length_map]
        refine ⟨by unfold smallR; decide, by unfold smallR; omega, o5, ?_⟩
        have row : ∀ k (hk : k < rs.length), rs[k]? = some rs[k] := fun k hk => List.getElem?_eq_getElem hk
        have told : ∀ k (hk : k < rs.length), atI (rs.map rowD) (k : Int) = some (rowD rs[k]) := fun k hk => by rw [atI_nat', List.getElem?_map, row k hk]; rfl
        have later : ∀ k (hk : k + 1 < rs.length), rs[k + 1].1 = some (mt a b rs[k].2 rs[k + 1].2) ∧ b rs[k].2 < b rs[k + 1].2 ∧ stops rs[k].1 (mt a b rs[k].2 rs[k + 1].2) = true := fun k hk => W.nxt k _ _ (row k (by omega)) (row (k + 1) hk)
        refine comp_noI _ ?_ ?_
        · intro y hy k hk
          obtain ⟨i, rfl, hi1, hi2⟩ := LK.rangeD_mem hy
          obtain ⟨j, rfl⟩ : ∃ j : Nat, i = ((j + 1 + 1 : Nat) : Int) := ⟨(i - 2).toNat, by omega⟩
          have hj : j + 1 + 1 < rs.length := by omega
          obtain ⟨a1, a2, a3⟩ := later j (by omega)
          obtain ⟨b1, b2, b3⟩ := later (j + 1) hj
          walk_at "dl"
          rw [show ((j + 1 + 1 : Nat) : Int) - 1 = ((j + 1 : Nat) : Int) by omega, told (j + 1) (by omega), told (j + 1 + 1) hj]
          simp only [rowD, a1, b1, optD]
          walk_at "dl"
          rw [a1] at b3
          have f1 := W.qb _ (List.getElem_mem (show j + 1 < rs.length by omega)) _ a1
          have f2 := W.qb _ (List.getElem_mem hj) _ b1
          refine call_of ⟨_, _, rfl, f1.mono (by decide), f2.mono (by decide), ?_⟩
          rw [show decide (mt a b rs[j].2 rs[j + 1].2 < mt a b rs[j + 1].2 rs[j + 1 + 1].2) = true from b3]
          try walk_at "dl"
          exact hk
        · try walk_at "dl"
          refine gNe_of (n := 1) (m := 1) (.lst fun _ h => nomatch h) (.lst fun _ h => nomatch h) ?_
          rw [asB_v, if_neg (by decide)]
          try walk_at "dl"
          refine ⟨o10, ?_⟩
          refine comp_noI _ ?_ ?_
          · intro y hy k hk
            obtain ⟨p, hp, rfl⟩ := List.mem_map.mp hy
            obtain ⟨hlt, hfirst⟩ := W.lt p hp
            simp only [rowD]
            walk_at "dl"
            refine ⟨trivial, ?_⟩
            try walk_at "dl"
            refine lines_ix hlt ?_
            try walk_at "dl"
            refine idx_line hlt hfirst ?_
            try walk_at "dl"
            rw [show ((p.2 : Int) == (p.2 : Int)) = true from beq_self_eq_true _]
            try walk_at "dl"
            exact hk
          · try walk_at "dl"
            refine gNe_of (n := 1) (m := 1) (.lst fun _ h => nomatch h) (.lst fun _ h => nomatch h) ?_
            rw [asB_v, if_neg (by decide)]
            walk_at "st"
            walk_at "st"
            rw [List.length_map]
            refine ⟨by unfold smallR; decide, by unfold smallR; omega, ?_⟩
            refine forD_keep (fun δ => ∃ s5 : Sl, okSl s5 ∧ δ = [.val (.scr ns), .val .box, .val x, .val (linesD n a b), .val (.tup (rs.map rowD)), s5, s6, s7, s8, s9, s10, s11]) ?_ ?_ _ ⟨s5, o5, rfl⟩
            · rintro y δ K2 hy ⟨s5, o5, rfl⟩ hK2
              obtain ⟨i, rfl, hi1, hi2⟩ := LK.rangeD_mem hy
              obtain ⟨j, rfl⟩ : ∃ j : Nat, i = ((j + 1 : Nat) : Int) := ⟨(i - 1).toNat, by omega⟩
              have hj : j + 1 < rs.length := by omega
              obtain ⟨a1, a2, a3⟩ := later j hj
              have f1 := W.qb _ (List.getElem_mem hj) _ a1
              have m1 := (W.lt _ (List.getElem_mem (show j < rs.length by omega))).1
              have m2 := (W.lt _ (List.getElem_mem hj)).1
              walk_at "dl"
              walk_at "st"
              rw [show ((j + 1 : Nat) : Int) - 1 = (j : Int) by omega, told j (by omega), told (j + 1) hj]
              simp only [rowD, a1, optD]
              walk_at "dl"
              have hne : ¬ ((rs[j + 1].2 : Int) == (rs[j].2 : Int)) = true := fun z => by
                have z := eq_of_beq z
                have z : rs[j + 1].2 = rs[j].2 := by omega
                rw [z] at a2; omega
              rw [if_neg hne]
              refine call_of (isfL_r f1 ?_)
              walk_at "dl"
              walk_at "st"
              walk_at "st"
              have ha1 := fun i => hl.2.2 i
              rw [show ((j + 1 : Nat) : Int) - 1 = (j : Int) by omega, told j (by omega), ixS_s]
              simp only [rowD]
              walk_at "dl"
              refine lines_ix m1 ?_
              rw [told (j + 1) hj, ixS_s]
              simp only [rowD, a1, optD]
              walk_at "dl"
              refine call_of ⟨a, b, rs[j].2, mt a b rs[j].2 rs[j + 1].2, rfl, (ha1 _).1, (ha1 _).2, f1.mono (by decide), ?_⟩
              try walk_at "dl"
              rw [told (j + 1) hj, ixS_s]
              simp only [rowD, a1, optD]
              walk_at "dl"
              refine lines_ix m2 ?_
              try walk_at "dl"
              refine call_of ⟨a, b, rs[j + 1].2, mt a b rs[j].2 rs[j + 1].2, rfl, (ha1 _).1, (ha1 _).2, f1.mono (by decide), ?_⟩
              try walk_at "dl"
              rw [val_mt a2]
              try walk_at "dl"
              try walk_at "st"
              exact hK2 _ ⟨.val (.int ((j + 1 : Nat) : Int)), trivial, rfl⟩
            · rintro δ ⟨s5, o5, rfl⟩
              walk_at "st"
              refine ⟨by unfold smallR; decide, ?_⟩
              refine forD_keep (fun δ => ∃ s6 s7 s8 : Sl, δ = [.val (.scr ns), .val .box, .val x, .val (linesD n a b), .val (.tup (rs.map rowD)), s5, s6, s7, s8, s9, s10, s11]) ?_ ?_ _ ⟨s6, s7, s8, rfl⟩
              · rintro y δ K2 hy ⟨s6, s7, s8, rfl⟩ hK2
                walk_at "dl"
                walk_at "st"
                refine call_of ⟨41, rfl, by decide, fun z z0 z1 => ?_⟩
                try walk_at "dl"
                refine call_of ⟨3, rfl, by decide, fun w w0 w1 => ?_⟩
                try walk_at "dl"
                refine call_of ⟨_, _, rfl, by omega, Nat.lt_of_lt_of_le (show (1 + w).natAbs < 2 ^ 3 by omega) (two_pow_mono (by decide)), ?_⟩
                have fx : Qb 12 (((z - 20 : Int) : Rat) / ((1 + w : Int) : Rat)) := Qb.div (by omega) (by omega) (by omega)
                generalize ((z - 20 : Int) : Rat) / ((1 + w : Int) : Rat) = X at *
                try walk_at "dl"
                walk_at "st"
                refine ⟨o10, ?_⟩
                refine comp_selL rowD (fun p => .int (p.2 : Int)) (fun p => E80.cond X p) rs (by omega) ?_ ?_
                · intro p hp acc k hacc h1 h2
                  cases hq : p.1 with
                  | none =>
                    have e1 : rowD p = .tup [.non, .int (p.2 : Int)] := by unfold rowD; rw [hq]; rfl
                    have e2 : E80.cond X p = true := by unfold E80.cond; rw [hq]
                    rw [e1]
                    walk_at "dl"
                    exact ⟨hacc, h1 e2⟩
                  | some q1 =>
                    have e1 : rowD p = .tup [ratD q1, .int (p.2 : Int)] := by unfold rowD; rw [hq]; rfl
                    have e2 : E80.cond X p = !decide (X < q1) := by unfold E80.cond; rw [hq]
                    rw [e1]
                    walk_at "dl"
                    refine call_of ⟨X, q1, rfl, fx.mono (by decide), (W.qb p hp q1 hq).mono (by decide), ?_⟩
                    by_cases hlt : X < q1
                    · rw [decide_eq_true hlt] at e2 ⊢
                      walk_at "dl"
                      exact h2 e2
                    · rw [decide_eq_false hlt] at e2 ⊢
                      walk_at "dl"
                      exact ⟨hacc, h1 e2⟩
                · obtain ⟨pre, p, post, es, en, ey, emax⟩ := W.sel X
                  have hpm : p ∈ rs := by rw [es]; exact List.mem_append_right _ List.mem_cons_self
                  have efil : rs.filter (fun p => E80.cond X p) = post.filter (fun p => E80.cond X p) ++ [p] := by
                    have enil : pre.filter (fun p => E80.cond X p) = [] := List.filter_eq_nil_iff.mpr fun r hr => by rw [en r hr]; decide
                    rw [es, List.filter_append, List.filter_cons_of_pos ey, enil]
                  rw [efil, List.map_append]
                  try walk_at "dl"
                  rw [show ((post.filter fun p => E80.cond X p).map (fun p => D.int (p.2 : Int)) ++ [p].map fun p => D.int (p.2 : Int)).getLast? = some (.int (p.2 : Int)) from List.getLast?_concat, ixS_s]
                  walk_at "dl"
                  walk_at "st"
                  rw [seqS_lines]
                  refine ⟨o11, ?_⟩
                  have hpn := (W.lt p hpm).1
                  refine comp_noI _ ?_ ?_
                  · intro y hy k hk
                    obtain ⟨j, hj, rfl⟩ := List.mem_map.mp hy
                    have hj := List.mem_range.mp hj
                    walk_at "dl"
                    refine lines_ix hpn ?_
                    try walk_at "dl"
                    refine call_of ⟨a, b, p.2, X, rfl, (hl.2.2 _).1, (hl.2.2 _).2, fx.mono (by decide), ?_⟩
                    try walk_at "dl"
                    refine call_of ⟨a, b, j, X, rfl, (hl.2.2 _).1, (hl.2.2 _).2, fx.mono (by decide), ?_⟩
                    try walk_at "dl"
                    refine call_of ⟨_, _, rfl, val_fi (hl.2.2 _) fx, val_fi (hl.2.2 _) fx, ?_⟩
                    rw [decide_eq_false (Rat.not_lt.mpr (emax j hj))]
                    try walk_at "dl"
                    exact hk
                  · try walk_at "dl"
                    refine gNe_of (n := 1) (m := 1) (.lst fun _ h => nomatch h) (.lst fun _ h => nomatch h) ?_
                    rw [asB_v, if_neg (by decide)]
                    walk_at "st"
                    exact hK2 _ ⟨_, _, _, rfl⟩
              · rintro δ ⟨s6, s7, s8, rfl⟩
                walk_at "st"
                refine ⟨by unfold smallR; decide, ?_⟩
                refine forD_keep (fun δ => ∃ s6 s9 : Sl, δ = [.val (.scr ns), .val .box, .val x, .val (linesD n a b), .val (.tup (rs.map rowD)), s5, s6, s7, s8, s9, s10, s11]) ?_ ?_ _ ⟨s6, s9, rfl⟩
                · rintro y δ K2 hy ⟨s6, s9, rfl⟩ hK2
                  obtain ⟨i, rfl, hi1, hi2⟩ := LK.rangeD_mem hy
                  have judge : ∀ (thing : D) (L : Nat) (M : Int) (k : Nat), LK.Bd L M k thing → L ≤ 1000000 → k ≤ 50 → fIf (fNot (fTru (fCall 2 (sp__law_like 8) (fCons (fCall 2 sp_is_envelope (fCons (fVar 3) (fCons (fVar 9) fNil))) (fCons (fCall 2 (sp__law_like 8) (fCons (fVar 9) (fCons (fVar 4) fNil))) fNil))))) (fRet (fC (.bl false))) fNext ⟨K2, blR R, K, K2⟩ [.val (.scr ns), .val .box, .val x, .val (linesD n a b), .val (.tup (rs.map rowD)), s5, .val (.int i), s7, s8, .val thing, s10, s11] := fun thing L M k hB hL hk => by
                    walk_at "st"
                    refine call_of ⟨n, a, b, thing, L, M, k, rfl, hl, hB, by omega, by omega, fun b1 hb1 => ?_⟩
                    try walk_at "dl"
                    refine call_of ⟨thing, .tup (rs.map rowD), rfl, hB.calm 8, ⟨7, rfl, fit_env W⟩, fun b2 hb2 => ?_⟩
                    try walk_at "dl"
                    have e : b1 = b2 := by rw [Bool.eq_iff_iff, hb1, hb2, hE]
                    refine call_of ⟨.bl b1, .bl b2, rfl, LK.calm_fit (.bl _), ⟨7, rfl, .bl _⟩, fun b3 hb3 => ?_⟩
                    rw [hb3.mpr (by rw [e])]
                    try walk_at "dl"
                    walk_at "st"
                    exact hK2 _ ⟨_, _, rfl⟩
                  have hT := th_env W hn60
                  walk_at "dl"
                  walk_at "st"
                  split
                  · refine call_of ⟨_, 100, 5000, 3, rfl, hT, by decide, by decide, by decide, by decide, fun d hd => ?_⟩
                    exact judge d _ _ _ hd (by decide) (by decide)
                  · exact judge _ _ _ _ hT.bd (by decide) (by decide)
                · rintro δ ⟨s6, s9, rfl⟩
                  exact hK _ ⟨_, _, _, _, _, _, _, _, _, _, o5, o10, o11, rfl⟩
  · rintro δ ⟨s2, s3, s4, s5, s6, s7, s8, s9, s10, s11, o5, o10, o11, rfl⟩
    walk_at "st"
    exact hR
end N80
set_option Elab.async false
set_option linter.all false
set_option maxRecDepth 100000
set_option autoImplicit false
namespace N80
open PySem PySem.Spec L2 DL
open PyProof.Rows hiding St
def topS (i : Nat) : Stmt := PySem.Challenge.pw_slopelands_k80_whole_envelope.main.body.getD i (.Pass ⟨0, 0, 0, 0⟩)
abbrev s__law_cell : Stmt := topS 17
theorem sc__law_cell : FnScope ["script", "k"] ["script", "k"] (defScope s__law_cell) := ⟨rfl, rfl, rfl, by decide +kernel, rfl, by decide +kernel, by decide +kernel⟩
abbrev s__law_digits : Stmt := topS 18
theorem sc__law_digits : FnScope ["script", "first", "last", "digits", "k", "cell", "step", "seed"] ["script", "first", "last"] (defScope s__law_digits) := ⟨rfl, rfl, rfl, by decide +kernel, rfl, by decide +kernel, by decide +kernel⟩
abbrev s__law_draw : Stmt := topS 19
theorem sc__law_draw : FnScope ["box", "many", "at"] ["box", "many"] (defScope s__law_draw) := ⟨rfl, rfl, rfl, by decide +kernel, rfl, by decide +kernel, by decide +kernel⟩
abbrev s__steepest_first : Stmt := topS 11
theorem sc__steepest_first : FnScope ["lines", "best", "at", "height", "rise"] ["lines"] (defScope s__steepest_first) := ⟨rfl, rfl, rfl, by decide +kernel, rfl, by decide +kernel, by decide +kernel⟩
abbrev s_low : Stmt := topS 2
theorem sc_low : FnScope ["top", "bottom", "common"] ["top", "bottom"] (defScope s_low) := ⟨rfl, rfl, rfl, by decide +kernel, rfl, by decide +kernel, by decide +kernel⟩
abbrev s__meets : Stmt := topS 12
theorem sc__meets : FnScope ["one", "two"] ["one", "two"] (defScope s__meets) := ⟨rfl, rfl, rfl, by decide +kernel, rfl, by decide +kernel, by decide +kernel⟩
abbrev s_less : Stmt := topS 3
theorem sc_less : FnScope ["one", "other"] ["one", "other"] (defScope s_less) := ⟨rfl, rfl, rfl, by decide +kernel, rfl, by decide +kernel, by decide +kernel⟩
abbrev s_envelope : Stmt := topS 13
theorem sc_envelope : FnScope ["lines", "rows", "at", "start"] ["lines"] (defScope s_envelope) := ⟨rfl, rfl, rfl, by decide +kernel, rfl, by decide +kernel, by decide +kernel⟩
abbrev s__law_whole : Stmt := topS 21
theorem sc__law_whole : FnScope ["thing", "low_v", "high"] ["thing", "low_v", "high"] (defScope s__law_whole) := ⟨rfl, rfl, rfl, by decide +kernel, rfl, by decide +kernel, by decide +kernel⟩
abbrev s__law_less : Stmt := topS 24
theorem sc__law_less : FnScope ["one", "two"] ["one", "two"] (defScope s__law_less) := ⟨rfl, rfl, rfl, by decide +kernel, rfl, by decide +kernel, by decide +kernel⟩
abbrev s__law_low : Stmt := topS 22
theorem sc__law_low : FnScope ["number", "by", "one", "two"] ["number", "by"] (defScope s__law_low) := ⟨rfl, rfl, rfl, by decide +kernel, rfl, by decide +kernel, by decide +kernel⟩
abbrev s__law_is_fraction : Stmt := topS 16
theorem sc__law_is_fraction : FnScope ["thing"] ["thing"] (defScope s__law_is_fraction) := ⟨rfl, rfl, rfl, by decide +kernel, rfl, by decide +kernel, by decide +kernel⟩
abbrev s__law_scaled : Stmt := topS 25
theorem sc__law_scaled : FnScope ["one", "number"] ["one", "number"] (defScope s__law_scaled) := ⟨rfl, rfl, rfl, by decide +kernel, rfl, by decide +kernel, by decide +kernel⟩
abbrev s__law_add : Stmt := topS 23
theorem sc__law_add : FnScope ["one", "two"] ["one", "two"] (defScope s__law_add) := ⟨rfl, rfl, rfl, by decide +kernel, rfl, by decide +kernel, by decide +kernel⟩
abbrev s__law_line_at : Stmt := topS 28
theorem sc__law_line_at : FnScope ["line", "x"] ["line", "x"] (defScope s__law_line_at) := ⟨rfl, rfl, rfl, by decide +kernel, rfl, by decide +kernel, by decide +kernel⟩
abbrev s__law_other : Stmt := topS 26
theorem sc__law_other : FnScope ["box", "thing", "behind", "k"] ["box", "thing"] (defScope s__law_other) := ⟨rfl, rfl, rfl, by decide +kernel, rfl, by decide +kernel, by decide +kernel⟩
abbrev s__law_changed : Stmt := topS 27
theorem sc__law_changed : FnScope ["box", "thing", "at"] ["box", "thing"] (defScope s__law_changed) := ⟨rfl, rfl, rfl, by decide +kernel, rfl, by decide +kernel, by decide +kernel⟩
abbrev s__law_like : Stmt := topS 20
theorem sc__law_like : FnScope ["told", "due", "k"] ["told", "due"] (defScope s__law_like) := ⟨rfl, rfl, rfl, by decide +kernel, rfl, by decide +kernel, by decide +kernel⟩
abbrev s_is_pair : Stmt := topS 9
theorem sc_is_pair : FnScope ["thing"] ["thing"] (defScope s_is_pair) := ⟨rfl, rfl, rfl, by decide +kernel, rfl, by decide +kernel, by decide +kernel⟩
abbrev s_is_whole : Stmt := topS 5
theorem sc_is_whole : FnScope ["thing"] ["thing"] (defScope s_is_whole) := ⟨rfl, rfl, rfl, by decide +kernel, rfl, by decide +kernel, by decide +kernel⟩
abbrev s_is_fraction : Stmt := topS 7
theorem sc_is_fraction : FnScope ["thing", "top", "bottom"] ["thing"] (defScope s_is_fraction) := ⟨rfl, rfl, rfl, by decide +kernel, rfl, by decide +kernel, by decide +kernel⟩
abbrev s_is_between : Stmt := topS 6
theorem sc_is_between : FnScope ["thing", "least", "most"] ["thing", "least", "most"] (defScope s_is_between) := ⟨rfl, rfl, rfl, by decide +kernel, rfl, by decide +kernel, by decide +kernel⟩
abbrev s_is_envelope : Stmt := topS 14
theorem sc_is_envelope : FnScope ["lines", "thing", "row"] ["lines", "thing"] (defScope s_is_envelope) := ⟨rfl, rfl, rfl, by decide +kernel, rfl, by decide +kernel, by decide +kernel⟩
abbrev s_law : Stmt := topS 29
theorem sc_law : FnScope ["script", "box", "turn", "lines", "told", "k", "step", "x", "at", "thing", "row", "line"] ["script"] (defScope s_law) := ⟨rfl, rfl, rfl, by decide +kernel, rfl, by decide +kernel, by decide +kernel⟩
section
variable {P : Program} {w : World} {K : PySem.W.Frag} {mg : Str → Option Value} {base : Heap}
set_option maxHeartbeats 4000000 in
theorem der__law_cell {f : Addr} (m_len : mg "len" = none)  (cdv : Value) (A : Around) (outer : List Env) (s : Shared) (H : Hp) (E : XK) (hr : Room 0 (A.deeper (envOfC "_law_cell" (defScope s__law_cell) s.heap.objs.size f cdv))) :
    DSs (cxOf CX0 P w K mg base ["script", "k"] "_law_cell" (defScope s__law_cell) f cdv A outer s H E).nox .plain (defBody s__law_cell) (F__law_cell) := 
 (ss_cons (s_if (t_cmp o_lt (dv 1) (d_blt c_len m_len PySem.boot_len (a_cons (dv 0) a_nil)) (nomark _)) (ss_one (s_ret (d_ix hr.units (dv 0) (dv 1)))) ss_nil)
 (ss_one (s_ret d_int)))
set_option maxHeartbeats 4000000 in
theorem der__law_digits {f : Addr} {sp__law_cell : FSpec} (G__law_cell : Good P w K mg base false 1 "_law_cell" 2 sp__law_cell) (m_int : mg "int" = none) (m_len : mg "len" = none) (m_range : mg "range" = none)  (cdv : Value) (A : Around) (outer : List Env) (s : Shared) (H : Hp) (E : XK) (hr : Room 1 (A.deeper (envOfC "_law_digits" (defScope s__law_digits) s.heap.objs.size f cdv))) :
    DSs (cxOf CX0 P w K mg base ["script", "first", "last", "digits", "k", "cell", "step", "seed"] "_law_digits" (defScope s__law_digits) f cdv A outer s H E).nox .plain (defBody s__law_digits) (F__law_digits sp__law_cell) := 
 (ss_cons (s_set (i := 3) sc__law_digits.nd (d_lst a_nil))
 (ss_cons (s_for PassesOwn.never rfl (i_rng2 m_range (a_cons (dv 1) (a_cons (dv 2) a_nil))) (g_name sc__law_digits.nd (i := 4)) (ss_cons (s_set (i := 5) sc__law_digits.nd (d_call G__law_cell (hr.mono (by decide)) (a_cons (dv 0) (a_cons (dv 4) a_nil))))
 (ss_cons (s_if (t_cmp o_lt (dv 5) d_int (nomark _)) (ss_one (s_set (i := 5) sc__law_digits.nd (d_op o_sub d_int (d_op o_mul d_int (dv 5))))) ss_nil)
 (ss_cons (s_if (t_cmp o_gt (d_blt c_len m_len PySem.boot_len (a_cons (dv 3) a_nil)) d_int (nomark _)) (ss_one s_break) ss_nil)
 (ss_one (s_if (t_cmp o_ge (dv 5) (d_op o_pow d_int d_int) (nomark _)) (ss_one (s_for PassesOwn.never rfl (i_rng1 m_range (a_cons d_int a_nil)) (g_name sc__law_digits.nd (i := 6)) (ss_one (s_if (t_cmp o_gt (dv 5) d_int (nomark _)) (ss_cons (s_append (i := 3) (d_op o_mod (d_ty c_int m_int boot_int (a_cons (dv 5) a_nil)) d_int))
 (ss_one (s_set (i := 5) sc__law_digits.nd (d_op o_fdiv (dv 5) d_int)))) ss_nil)))) (ss_cons (s_set (i := 7) sc__law_digits.nd (d_op o_mod (d_ty c_int m_int boot_int (a_cons (d_op o_add (d_op o_add (d_op o_mul (dv 5) d_int) (d_op o_mul (dv 4) d_int)) d_int) a_nil)) d_int))
 (ss_one (s_for PassesOwn.never rfl (i_rng1 m_range (a_cons d_int a_nil)) (g_name sc__law_digits.nd (i := 6)) (ss_cons (s_set (i := 7) sc__law_digits.nd (d_op o_mod (d_ty c_int m_int boot_int (a_cons (d_op o_add (d_op o_add (d_op o_mul (dv 7) d_int) (d_op o_mul d_int (dv 6))) d_int) a_nil)) d_int))
 (ss_one (s_append (i := 3) (d_op o_mod (d_ty c_int m_int boot_int (a_cons (d_op o_fdiv (dv 7) d_int) a_nil)) d_int)))))))))))))
 (ss_one (s_ret (dv 3)))))
theorem ok_draw {f : Addr} {fd : FuncData} (F : Fun K "_law_draw" "_law_draw" s__law_draw f fd) (hm : mg "_law_draw" = some (.ref f)) (hb : Binds K fd ["box", "many"] []) (ml : mg "len" = none) (mi : mg "int" = none) : Good P w K mg base true 1 "_law_draw" 2 specDraw := by
  refine ⟨⟨f, fd, ["box", "many"], ?_, hm, F.kp, hb⟩, specDraw_mono⟩
  rw [if_pos rfl]
  refine F.ok sc__law_draw (fun vs H Q E ⟨_, _, ds, hl, _, _, _, r, _⟩ => r.length.trans hl) fun cdv A outer s H vs Q E hr ⟨bx, T, ds, hl, hT, hbT, hbx, r, m, e, hm0, q⟩ => ?_
  subst e
  obtain ⟨dg, t, digs, q1, q2, q3⟩ := hbx
  cases r with
  | cons r0 r => cases r with
    | cons r1 r => cases r with
      | nil =>
        cases r0
        cases r1
        refine ⟨_, pss_cons (ps_set (i := 2) sc__law_draw.nd rfl (.inl rfl) (pe_ix ix_list (pv 0) pe_int (fun _ _ => rfl)))
          (pss_cons (ps_asg (pe_op op_add (pv 2) pe_int) (pg_sub (pv 0) pe_int set_list))
          (pss_cons (ps_if (pt_cmpR op_lt (pv 2) (pe_callB call_len_seq (by rfl) ml PySem.boot_len (pa_cons (pe_ix ix_list (pv 0) pe_int (fun _ _ => rfl)) pa_nil)) (nomark _))
            (pss_one (ps_ret (pe_op op_modN (pe_callTy call_int1 (by rfl) mi boot_int (pa_cons (pe_ix ix_list (pe_ix ix_list (pv 0) pe_int (fun _ _ => rfl)) (pv 2) (fun _ _ => rfl)) pa_nil)) (pv 1)))) pss_nil)
          (pss_one (ps_ret (pe_op op_modN (pe_callTy call_int1 (by rfl) mi boot_int (pa_cons (pe_op op_mul (pv 2) pe_int) pa_nil)) (pv 1)))))), ?_⟩
        have nd : dg ≠ bx ∨ ∃ (o : Obj) (its : Array Value) (n : Nat), K.lookup dg = some o ∧ o.cls = .type "list" ∧ o.dict = none ∧ o.data = .seq its n ∧ its.size ≤ sizeLine ∧ Vals (digs.map V.int) its.toList := by
          rcases q3 with (h | ⟨o, h⟩) | h
          · exact .inl fun z => (hid_some.mp h).1 (.inl z)
          · exact .inl fun z => (hid_some.mp h).1 (.inl z)
          · exact .inr h
        have sv : SqL K H dg (digs.map V.int) := (hid_same _ _).seq q3
        let H2 : Hp := upd H bx (.lst [.ref dg, .int (t + 1)])
        have sv2 : SqL K H2 dg (digs.map V.int) := by
          rcases q3 with (h | ⟨o, h⟩) | h
          · have n : dg ≠ bx := fun z => (hid_some.mp h).1 (.inl z)
            exact .inl (.inl (by show upd H bx _ dg = _; rw [upd_ne n]; exact (hid_some.mp h).2))
          · have n : dg ≠ bx := fun z => (hid_some.mp h).1 (.inl z)
            exact .inl (.inr ⟨o, by show upd H bx _ dg = _; rw [upd_ne n]; exact (hid_some.mp h).2⟩)
          · exact .inr h
        have sm : Same (hid (isB T bx) H) (hid (isB T bx) H2) := hid_mono (fun _ z => z) fun a o n e => by
          show upd H bx _ a = _
          rw [upd_ne (fun z => n (.inl z))]; exact e
        have box2 : BoxOk K bx (hid (isB T bx) H2) H2 := ⟨dg, t + 1, digs, upd_same, by omega, sm.seq q3⟩
        have old : ∀ a o, a ≠ bx → H a = some o → H2 a = some o := fun a o n e => by
          show upd H bx _ a = _
          rw [upd_ne n]; exact e
        have fin : ∀ x : Int, Q (.int (x.fmod m)) H2 := fun x => by
          refine q (x.fmod m) (Int.fmod_nonneg_of_pos x hm0) (Int.fmod_lt_of_pos x hm0) _ H2 old box2 (.int _)
        -- at = box[1]
        refine ⟨.ref bx, rfl, bx, _, 1, .int t, rfl, rfl, .inl (.inl q1), rfl, ?_⟩
        -- box[1] = at + 1
        refine ⟨.int t, rfl, t, 1, rfl, rfl, .ref bx, rfl, bx, _, 1, 1, rfl, rfl, q1, rfl, ?_⟩
        -- if at < len(box[0])
        refine ⟨.int t, rfl, .ref bx, rfl, bx, [.ref dg, .int (t + 1)], 0, .ref dg, rfl, rfl, .inl (.inl upd_same), rfl, dg, digs.map V.int, rfl, .inl sv2, t, _, rfl, rfl, _, rfl, ite2 (fun h => ?_) fun h => ?_⟩
        · have h1 : t < (digs.length : Int) := by
            have := of_decide_eq_true h
            rw [List.length_map] at this
            exact this
          have h2 : t.toNat < digs.length := by omega
          refine ⟨.ref bx, rfl, bx, [.ref dg, .int (t + 1)], 0, .ref dg, rfl, rfl, .inl (.inl upd_same), rfl, .int t, rfl, dg, digs.map V.int, t, .int digs[t.toNat], rfl, rfl, sv2, ?_, .inl ⟨digs[t.toNat], rfl, .int m, rfl, digs[t.toNat], m, rfl, rfl, by omega, ?_⟩⟩
          · have e : t = ((t.toNat : Nat) : Int) := by omega
            exact L2.at_of e (by rw [List.getElem?_map, List.getElem?_eq_getElem h2]; rfl)
          · exact fin _
        · refine ⟨.int t, rfl, t, 7, rfl, rfl, .inr ⟨by decide, by decide⟩, .inl ⟨t * 7, rfl, .int m, rfl, t * 7, m, rfl, rfl, by omega, ?_⟩⟩
          exact fin _
set_option maxHeartbeats 4000000 in
theorem der__steepest_first {f : Addr} (m_enumerate : mg "enumerate" = none) (m_sorted : mg "sorted" = none)  (cdv : Value) (A : Around) (outer : List Env) (s : Shared) (H : Hp) (E : XK) (hr : Room 0 (A.deeper (envOfC "_steepest_first" (defScope s__steepest_first) s.heap.objs.size f cdv))) :
    DSs (cxOf CX0 P w K mg base ["lines", "best", "at", "height", "rise"] "_steepest_first" (defScope s__steepest_first) f cdv A outer s H E).nox .plain (defBody s__steepest_first) (F__steepest_first) := 
 (ss_cons (s_set (i := 1) sc__steepest_first.nd d_newK)
 (ss_cons (s_for PassesOwn.never rfl (i_enum m_enumerate (dv 0)) (g_tup rfl (gs_cons (g_name sc__steepest_first.nd (i := 2)) (gs_cons (g_tup rfl (gs_cons (g_name sc__steepest_first.nd (i := 3)) (gs_cons (g_name sc__steepest_first.nd (i := 4)) gs_nil))) gs_nil))) (ss_one (s_if (t_w (w_or (t_cmp (o_nin hr.units (u65 hr)) (dv 4) (dv 1) (by with_unfolding_all rfl)) (w_or1 (t_cmp o_lt (d_ix hr.units (d_ix hr.units (dv 0) (d_ix hr.units (dv 1) (dv 4))) d_int) (dv 3) (nomark _))))) (ss_one (s_setkey (i := 1) hr.units (dv 2) (dv 4))) ss_nil)))
 (ss_one (s_ret (d_lc s H rfl sc__steepest_first.nd (blkOk_by (own := [("rise", 4)]) (N := ["lines", "best", "at", "height", "rise"]) (sc := defScope s__steepest_first) (by decide +kernel)) (i_seq (d_blt (c_sortK rfl) m_sorted (by decide +kernel) (a_cons (dv 1) a_nil))) (fun _ _ _ _ _ => (g_name sc__steepest_first.nd (i := 4))) (fun _ _ _ _ _ => ts_nil) (fun _ _ _ _ _ => (d_ix hr.units (dv 1) (dv 4))))))))
set_option maxHeartbeats 4000000 in
theorem der_low {f : Addr} (m_gcd : mg "gcd" = some (.builtin "math.gcd"))  (cdv : Value) (A : Around) (outer : List Env) (s : Shared) (H : Hp) (E : XK) (hr : Room 0 (A.deeper (envOfC "low" (defScope s_low) s.heap.objs.size f cdv))) :
    DSs (cxOf CX0 P w K mg base ["top", "bottom", "common"] "low" (defScope s_low) f cdv A outer s H E).nox .plain (defBody s_low) (F_low) := 
 (ss_cons (s_set (i := 2) sc_low.nd (d_if (t_cmp o_gt (dv 1) d_int (nomark _)) (d_fun c_gcd m_gcd (a_cons (dv 0) (a_cons (dv 1) a_nil))) (d_op o_sub d_int (d_fun c_gcd m_gcd (a_cons (dv 0) (a_cons (dv 1) a_nil))))))
 (ss_one (s_ret (d_tup (a_cons (d_op o_fdiv (dv 0) (dv 2)) (a_cons (d_op o_fdiv (dv 1) (dv 2)) a_nil))))))
set_option maxHeartbeats 4000000 in
theorem der__meets {f : Addr} {sp_low : FSpec} (G_low : Good P w K mg base false 1 "low" 2 sp_low)   (cdv : Value) (A : Around) (outer : List Env) (s : Shared) (H : Hp) (E : XK) (hr : Room 1 (A.deeper (envOfC "_meets" (defScope s__meets) s.heap.objs.size f cdv))) :
    DSs (cxOf CX0 P w K mg base ["one", "two"] "_meets" (defScope s__meets) f cdv A outer s H E).nox .plain (defBody s__meets) (F__meets sp_low) := 
 (ss_one (s_ret (d_call G_low (hr.mono (by decide)) (a_cons (d_op o_sub (d_ix hr.units (dv 0) d_int) (d_ix hr.units (dv 1) d_int)) (a_cons (d_op o_sub (d_ix hr.units (dv 1) d_int) (d_ix hr.units (dv 0) d_int)) a_nil)))))
set_option maxHeartbeats 4000000 in
theorem der_less {f : Addr}   (cdv : Value) (A : Around) (outer : List Env) (s : Shared) (H : Hp) (E : XK) (hr : Room 0 (A.deeper (envOfC "less" (defScope s_less) s.heap.objs.size f cdv))) :
    DSs (cxOf CX0 P w K mg base ["one", "other"] "less" (defScope s_less) f cdv A outer s H E).nox .plain (defBody s_less) (F_less) := 
 (ss_one (s_ret (d_cmp o_lt (d_op o_mul (d_ix hr.units (dv 0) d_int) (d_ix hr.units (dv 1) d_int)) (d_op o_mul (d_ix hr.units (dv 1) d_int) (d_ix hr.units (dv 0) d_int)) (nomark _))))
set_option maxHeartbeats 4000000 in
theorem der_envelope {f : Addr} {sp__steepest_first : FSpec} {sp__meets : FSpec} {sp_less : FSpec} (G__steepest_first : Good P w K mg base false 1 "_steepest_first" 1 sp__steepest_first) (G__meets : Good P w K mg base false 2 "_meets" 2 sp__meets) (G_less : Good P w K mg base false 1 "less" 2 sp_less) (m_tuple : mg "tuple" = none)  (cdv : Value) (A : Around) (outer : List Env) (s : Shared) (H : Hp) (E : XK) (hr : Room 2 (A.deeper (envOfC "envelope" (defScope s_envelope) s.heap.objs.size f cdv))) :
    DSs (cxOf CX0 P w K mg base ["lines", "rows", "at", "start"] "envelope" (defScope s_envelope) f cdv A outer s H E).nox .plain (defBody s_envelope) (F_envelope sp__steepest_first sp__meets sp_less) := 
 (ss_cons (s_set (i := 1) sc_envelope.nd (d_lst a_nil))
 (ss_cons (s_for PassesOwn.never rfl (i_seq (d_call G__steepest_first (hr.mono (by decide)) (a_cons (dv 0) a_nil))) (g_name sc_envelope.nd (i := 2)) (ss_cons (s_set (i := 3) sc_envelope.nd d_non)
 (ss_cons (s_while PassesOwn.never (t_tru (dv 1)) (ss_cons (s_set (i := 3) sc_envelope.nd (d_call G__meets (hr.mono (by decide)) (a_cons (d_ix hr.units (dv 0) (d_ix hr.units (d_ix hr.units (dv 1) (d_neg d_int)) d_int)) (a_cons (d_ix hr.units (dv 0) (dv 2)) a_nil))))
 (ss_cons (s_if (t_w (w_or (t_cmp o_is (d_ix hr.units (d_ix hr.units (dv 1) (d_neg d_int)) d_int) d_non (nomark _)) (w_or1 (t_tru (d_call G_less (hr.mono (by decide)) (a_cons (d_ix hr.units (d_ix hr.units (dv 1) (d_neg d_int)) d_int) (a_cons (dv 3) a_nil))))))) (ss_one s_break) ss_nil)
 (ss_cons (s_expr (d_pop (i := 1)))
 (ss_one (s_set (i := 3) sc_envelope.nd d_non))))))
 (ss_one (s_append (i := 1) (d_tup (a_cons (dv 3) (a_cons (dv 2) a_nil))))))))
 (ss_one (s_ret (d_ty c_tuple m_tuple boot_tuple (a_cons (dv 1) a_nil))))))
set_option maxHeartbeats 4000000 in
theorem der__law_whole {f : Addr} (m_bool : mg "bool" = none) (m_int : mg "int" = none) (m_isinstance : mg "isinstance" = none)  (cdv : Value) (A : Around) (outer : List Env) (s : Shared) (H : Hp) (E : XK) (hr : Room 0 (A.deeper (envOfC "_law_whole" (defScope s__law_whole) s.heap.objs.size f cdv))) :
    DSs (cxOf CX0 P w K mg base ["thing", "low_v", "high"] "_law_whole" (defScope s__law_whole) f cdv A outer s H E).nox .plain (defBody s__law_whole) (F__law_whole) := 
 (ss_cons (s_if (t_w (w_or (t_not (t_tru (d_isi .int m_isinstance m_int (dv 0) boot_int))) (w_or1 (t_tru (d_isi .bool m_isinstance m_bool (dv 0) boot_bool))))) (ss_one (s_ret d_bl)) ss_nil)
 (ss_one (s_ret (d_and (d_or (d_cmp o_is (dv 1) d_non (nomark _)) (d_one (d_cmp o_le (dv 1) (dv 0) (nomark _)))) (d_one (d_or (d_cmp o_is (dv 2) d_non (nomark _)) (d_one (d_cmp o_le (dv 0) (dv 2) (nomark _)))))))))
set_option maxHeartbeats 4000000 in
theorem der__law_less {f : Addr}   (cdv : Value) (A : Around) (outer : List Env) (s : Shared) (H : Hp) (E : XK) (hr : Room 0 (A.deeper (envOfC "_law_less" (defScope s__law_less) s.heap.objs.size f cdv))) :
    DSs (cxOf CX0 P w K mg base ["one", "two"] "_law_less" (defScope s__law_less) f cdv A outer s H E).nox .plain (defBody s__law_less) (F__law_less) := 
 (ss_one (s_ret (d_cmp o_lt (d_op o_mul (d_ix hr.units (dv 0) d_int) (d_ix hr.units (dv 1) d_int)) (d_op o_mul (d_ix hr.units (dv 1) d_int) (d_ix hr.units (dv 0) d_int)) (nomark _))))
set_option maxHeartbeats 4000000 in
theorem der__law_low {f : Addr} (m_abs : mg "abs" = none)  (cdv : Value) (A : Around) (outer : List Env) (s : Shared) (H : Hp) (E : XK) (hr : Room 0 (A.deeper (envOfC "_law_low" (defScope s__law_low) s.heap.objs.size f cdv))) :
    DSs (cxOf CX0 P w K mg base ["number", "by", "one", "two"] "_law_low" (defScope s__law_low) f cdv A outer s H E).nox .plain (defBody s__law_low) (F__law_low) := 
 (ss_cons (s_par (i := 2) (j := 3) rfl sc__law_low.nd (a_cons (d_blt c_abs m_abs boot_abs (a_cons (dv 0) a_nil)) (a_cons (dv 1) a_nil)))
 (ss_cons (s_while PassesOwn.never (t_cmp o_gt (dv 3) d_int (nomark _)) (ss_one (s_par (i := 2) (j := 3) rfl sc__law_low.nd (a_cons (dv 3) (a_cons (d_op o_mod (dv 2) (dv 3)) a_nil)))))
 (ss_one (s_ret (d_tup (a_cons (d_op o_fdiv (dv 0) (dv 2)) (a_cons (d_op o_fdiv (dv 1) (dv 2)) a_nil)))))))
set_option maxHeartbeats 4000000 in
theorem der__law_is_fraction {f : Addr} {sp__law_whole : FSpec} {sp__law_low : FSpec} (G__law_whole : Good P w K mg base false 1 "_law_whole" 3 sp__law_whole) (G__law_low : Good P w K mg base false 1 "_law_low" 2 sp__law_low) (m_isinstance : mg "isinstance" = none) (m_len : mg "len" = none) (m_tuple : mg "tuple" = none)  (cdv : Value) (A : Around) (outer : List Env) (s : Shared) (H : Hp) (E : XK) (hr : Room 1 (A.deeper (envOfC "_law_is_fraction" (defScope s__law_is_fraction) s.heap.objs.size f cdv))) :
    DSs (cxOf CX0 P w K mg base ["thing"] "_law_is_fraction" (defScope s__law_is_fraction) f cdv A outer s H E).nox .plain (defBody s__law_is_fraction) (F__law_is_fraction sp__law_whole sp__law_low) := 
 (ss_cons (s_if (t_w (w_or (t_not (t_tru (d_isi .tuple m_isinstance m_tuple (dv 0) boot_tuple))) (w_or (t_cmp (o_ne hr.units) (d_blt c_len m_len PySem.boot_len (a_cons (dv 0) a_nil)) d_int (nomark _)) (w_or (t_not (t_tru (d_call G__law_whole (hr.mono (by decide)) (a_cons (d_ix hr.units (dv 0) d_int) (a_cons d_non (a_cons d_non a_nil)))))) (w_or1 (t_not (t_tru (d_call G__law_whole (hr.mono (by decide)) (a_cons (d_ix hr.units (dv 0) d_int) (a_cons d_int (a_cons d_non a_nil))))))))))) (ss_one (s_ret d_bl)) ss_nil)
 (ss_one (s_ret (d_cmp (o_eq hr.units) (d_call G__law_low (hr.mono (by decide)) (a_cons (d_ix hr.units (dv 0) d_int) (a_cons (d_ix hr.units (dv 0) d_int) a_nil))) (dv 0) (nomark _)))))
set_option maxHeartbeats 4000000 in
theorem der__law_scaled {f : Addr} {sp__law_low : FSpec} (G__law_low : Good P w K mg base false 1 "_law_low" 2 sp__law_low)   (cdv : Value) (A : Around) (outer : List Env) (s : Shared) (H : Hp) (E : XK) (hr : Room 1 (A.deeper (envOfC "_law_scaled" (defScope s__law_scaled) s.heap.objs.size f cdv))) :
    DSs (cxOf CX0 P w K mg base ["one", "number"] "_law_scaled" (defScope s__law_scaled) f cdv A outer s H E).nox .plain (defBody s__law_scaled) (F__law_scaled sp__law_low) := 
 (ss_one (s_ret (d_call G__law_low (hr.mono (by decide)) (a_cons (d_op o_mul (d_ix hr.units (dv 0) d_int) (dv 1)) (a_cons (d_ix hr.units (dv 0) d_int) a_nil)))))
set_option maxHeartbeats 4000000 in
theorem der__law_add {f : Addr} {sp__law_low : FSpec} (G__law_low : Good P w K mg base false 1 "_law_low" 2 sp__law_low)   (cdv : Value) (A : Around) (outer : List Env) (s : Shared) (H : Hp) (E : XK) (hr : Room 1 (A.deeper (envOfC "_law_add" (defScope s__law_add) s.heap.objs.size f cdv))) :
    DSs (cxOf CX0 P w K mg base ["one", "two"] "_law_add" (defScope s__law_add) f cdv A outer s H E).nox .plain (defBody s__law_add) (F__law_add sp__law_low) := 
 (ss_one (s_ret (d_call G__law_low (hr.mono (by decide)) (a_cons (d_op o_add (d_op o_mul (d_ix hr.units (dv 0) d_int) (d_ix hr.units (dv 1) d_int)) (d_op o_mul (d_ix hr.units (dv 1) d_int) (d_ix hr.units (dv 0) d_int))) (a_cons (d_op o_mul (d_ix hr.units (dv 0) d_int) (d_ix hr.units (dv 1) d_int)) a_nil)))))
set_option maxHeartbeats 4000000 in
theorem der__law_line_at {f : Addr} {sp__law_scaled : FSpec} {sp__law_add : FSpec} (G__law_scaled : Good P w K mg base false 2 "_law_scaled" 2 sp__law_scaled) (G__law_add : Good P w K mg base false 2 "_law_add" 2 sp__law_add)   (cdv : Value) (A : Around) (outer : List Env) (s : Shared) (H : Hp) (E : XK) (hr : Room 2 (A.deeper (envOfC "_law_line_at" (defScope s__law_line_at) s.heap.objs.size f cdv))) :
    DSs (cxOf CX0 P w K mg base ["line", "x"] "_law_line_at" (defScope s__law_line_at) f cdv A outer s H E).nox .plain (defBody s__law_line_at) (F__law_line_at sp__law_scaled sp__law_add) := 
 (ss_one (s_ret (d_call G__law_add (hr.mono (by decide)) (a_cons (d_tup (a_cons (d_ix hr.units (dv 0) d_int) (a_cons d_int a_nil))) (a_cons (d_call G__law_scaled (hr.mono (by decide)) (a_cons (dv 1) (a_cons (d_ix hr.units (dv 0) d_int) a_nil))) a_nil)))))
set_option maxHeartbeats 4000000 in
theorem der__law_other {f : Addr} {sp__law_draw : FSpec} (G__law_draw : Good P w K mg base true 1 "_law_draw" 2 sp__law_draw) (m_isinstance : mg "isinstance" = none) (m_len : mg "len" = none) (m_list : mg "list" = none) (m_range : mg "range" = none) (m_str : mg "str" = none) (m_tuple : mg "tuple" = none)  (cdv : Value) (A : Around) (outer : List Env) (s : Shared) (H : Hp) (E : XK) (hr : Room 1 (A.deeper (envOfC "_law_other" (defScope s__law_other) s.heap.objs.size f cdv))) :
    DSs (cxOf CX0 P w K mg base ["box", "thing", "behind", "k"] "_law_other" (defScope s__law_other) f cdv A outer s H E).nox .box (defBody s__law_other) (F__law_other sp__law_draw) := 
 (ss_cons (s_if (t_tru (d_isi .tuple m_isinstance m_tuple (dv 1) boot_tuple)) (ss_cons (s_set (i := 2) sc__law_other.nd (d_ty c_tuple m_tuple boot_tuple (a_cons (d_lc s H rfl sc__law_other.nd (blkOk_by (own := [("k", 3)]) (N := ["box", "thing", "behind", "k"]) (sc := defScope s__law_other) (by decide +kernel)) (i_rng1 m_range (a_cons (d_blt c_len m_len PySem.boot_len (a_cons (dv 1) a_nil)) a_nil)) (fun _ _ _ _ _ => (g_name sc__law_other.nd (i := 3))) (fun _ _ _ _ _ => ts_nil) (fun _ _ _ _ _ => (d_ix hr.units (dv 1) (d_op o_sub (d_op o_sub (d_blt c_len m_len PySem.boot_len (a_cons (dv 1) a_nil)) d_int) (dv 3))))) a_nil)))
 (ss_one (s_ret (d_ix hr.units (d_lst (a_cons (d_ty c_list m_list boot_list (a_cons (dv 1) a_nil)) (a_cons (d_op o_add (dv 1) (d_sl (dv 1) o_none (o_some d_int))) (a_cons (d_sl (dv 1) (o_some d_int) o_none) (a_cons d_non (a_cons (d_tup a_nil) (a_cons (dv 2) a_nil))))))) (d_callB G__law_draw (hr.mono (by omega)) (a_cons (dv 0) (a_cons d_int a_nil))))))) ss_nil)
 (ss_cons (s_if (t_tru (d_isi .str m_isinstance m_str (dv 1) boot_str)) (ss_one (s_ret (d_ix hr.units (d_lst (a_cons d_str (a_cons d_str (a_cons d_str (a_cons d_str (a_cons d_str (a_cons d_str (a_cons d_str (a_cons d_str (a_cons d_str (a_cons d_str (a_cons d_str (a_cons d_non a_nil))))))))))))) (d_callB G__law_draw (hr.mono (by omega)) (a_cons (dv 0) (a_cons d_int a_nil)))))) ss_nil)
 (ss_cons (s_if (t_cmp o_is (dv 1) d_non (nomark _)) (ss_one (s_ret (d_ix hr.units (d_lst (a_cons d_int (a_cons d_str (a_cons (d_tup a_nil) a_nil)))) (d_callB G__law_draw (hr.mono (by omega)) (a_cons (dv 0) (a_cons d_int a_nil)))))) ss_nil)
 (ss_one (s_ret (d_ix hr.units (d_lst (a_cons (d_op o_add (dv 1) d_int) (a_cons (d_op o_sub (dv 1) d_int) (a_cons (d_op o_sub d_int (dv 1)) (a_cons d_bl (a_cons d_non (a_cons d_int (a_cons d_int a_nil)))))))) (d_callB G__law_draw (hr.mono (by omega)) (a_cons (dv 0) (a_cons d_int a_nil)))))))))
set_option maxHeartbeats 4000000 in
theorem der__law_changed {f : Addr} {k : Nat} (hk : 2 ≤ k) {sp__law_draw : FSpec} {sp__law_other : FSpec} {sp__law_changed : FSpec} (G__law_draw : Good P w K mg base true 1 "_law_draw" 2 sp__law_draw) (G__law_other : Good P w K mg base true 2 "_law_other" 2 sp__law_other) (G__law_changed : Good P w K mg base true k "_law_changed" 2 sp__law_changed) (m_isinstance : mg "isinstance" = none) (m_len : mg "len" = none) (m_tuple : mg "tuple" = none)  (cdv : Value) (A : Around) (outer : List Env) (s : Shared) (H : Hp) (E : XK) (hr : Room k (A.deeper (envOfC "_law_changed" (defScope s__law_changed) s.heap.objs.size f cdv))) :
    DSs (cxOf CX0 P w K mg base ["box", "thing", "at"] "_law_changed" (defScope s__law_changed) f cdv A outer s H E).nox .box (defBody s__law_changed) (F__law_changed sp__law_draw sp__law_other sp__law_changed) := 
 (ss_cons (s_if (t_w (w_or (t_not (t_tru (d_isi .tuple m_isinstance m_tuple (dv 1) boot_tuple))) (w_or (t_cmp (o_eq hr.units) (dv 1) (d_tup a_nil) (nomark _)) (w_or1 (t_cmp (o_eq hr.units) (d_callB G__law_draw (hr.mono (by omega)) (a_cons (dv 0) (a_cons d_int a_nil))) d_int (nomark _)))))) (ss_one (s_ret (d_callB G__law_other (hr.mono (by omega)) (a_cons (dv 0) (a_cons (dv 1) a_nil))))) ss_nil)
 (ss_cons (s_set (i := 2) sc__law_changed.nd (d_op o_mod (d_callB G__law_draw (hr.mono (by omega)) (a_cons (dv 0) (a_cons d_int a_nil))) (d_blt c_len m_len PySem.boot_len (a_cons (dv 1) a_nil))))
 (ss_one (s_ret (d_op o_add (d_op o_add (d_sl (dv 1) o_none (o_some (dv 2))) (d_tup (a_cons (d_callB G__law_changed (hr.mono (by omega)) (a_cons (dv 0) (a_cons (d_ix hr.units (dv 1) (dv 2)) a_nil))) a_nil))) (d_sl (dv 1) (o_some (d_op o_add (dv 2) d_int)) o_none))))))
set_option maxHeartbeats 4000000 in
theorem der__law_like {f : Addr} {k : Nat} (hk : 0 ≤ k) {sp__law_like : FSpec} (G__law_like : Good P w K mg base false k "_law_like" 2 sp__law_like) (m_bool : mg "bool" = none) (m_int : mg "int" = none) (m_isinstance : mg "isinstance" = none) (m_len : mg "len" = none) (m_range : mg "range" = none) (m_str : mg "str" = none) (m_tuple : mg "tuple" = none)  (cdv : Value) (A : Around) (outer : List Env) (s : Shared) (H : Hp) (E : XK) (hr : Room k (A.deeper (envOfC "_law_like" (defScope s__law_like) s.heap.objs.size f cdv))) :
    DSs (cxOf CX0 P w K mg base ["told", "due", "k"] "_law_like" (defScope s__law_like) f cdv A outer s H E).nox .plain (defBody s__law_like) (F__law_like sp__law_like) := 
 (ss_cons (s_if (t_tru (d_isi .tuple m_isinstance m_tuple (dv 1) boot_tuple)) (ss_cons (s_if (t_w (w_or (t_not (t_tru (d_isi .tuple m_isinstance m_tuple (dv 0) boot_tuple))) (w_or1 (t_cmp (o_ne hr.units) (d_blt c_len m_len PySem.boot_len (a_cons (dv 0) a_nil)) (d_blt c_len m_len PySem.boot_len (a_cons (dv 1) a_nil)) (nomark _))))) (ss_one (s_ret d_bl)) ss_nil)
 (ss_one (s_ret (d_cmp (o_eq hr.units) (d_lc s H rfl sc__law_like.nd (blkOk_by (own := [("k", 2)]) (N := ["told", "due", "k"]) (sc := defScope s__law_like) (by decide +kernel)) (i_rng1 m_range (a_cons (d_blt c_len m_len PySem.boot_len (a_cons (dv 1) a_nil)) a_nil)) (fun _ _ _ _ _ => (g_name sc__law_like.nd (i := 2))) (fun _ _ _ _ _ => (ts_one (t_not (t_tru (d_call G__law_like (hr.mono (by omega)) (a_cons (d_ix hr.units (dv 0) (dv 2)) (a_cons (d_ix hr.units (dv 1) (dv 2)) a_nil))))))) (fun _ _ _ _ _ => d_int)) (d_lst a_nil) (nomark _))))) ss_nil)
 (ss_cons (s_if (t_cmp o_is (dv 1) d_non (nomark _)) (ss_one (s_ret (d_cmp o_is (dv 0) d_non (nomark _)))) ss_nil)
 (ss_cons (s_if (t_cmp o_is (dv 1) d_bl (nomark _)) (ss_one (s_ret (d_cmp o_is (dv 0) d_bl (nomark _)))) ss_nil)
 (ss_cons (s_if (t_cmp o_is (dv 1) d_bl (nomark _)) (ss_one (s_ret (d_cmp o_is (dv 0) d_bl (nomark _)))) ss_nil)
 (ss_cons (s_if (t_tru (d_isi .str m_isinstance m_str (dv 1) boot_str)) (ss_one (s_ret (d_and (d_isi .str m_isinstance m_str (dv 0) boot_str) (d_one (d_cmp (o_eq hr.units) (d_join d_str (d_lst (a_cons (dv 0) a_nil))) (dv 1) (nomark _)))))) ss_nil)
 (ss_one (s_ret (d_and (d_isi .int m_isinstance m_int (dv 0) boot_int) (d_and (d_not (d_isi .bool m_isinstance m_bool (dv 0) boot_bool)) (d_one (d_cmp (o_eq hr.units) (dv 0) (dv 1) (nomark _))))))))))))
set_option maxHeartbeats 4000000 in
theorem der_is_pair {f : Addr} (m_isinstance : mg "isinstance" = none) (m_len : mg "len" = none) (m_tuple : mg "tuple" = none)  (cdv : Value) (A : Around) (outer : List Env) (s : Shared) (H : Hp) (E : XK) (hr : Room 0 (A.deeper (envOfC "is_pair" (defScope s_is_pair) s.heap.objs.size f cdv))) :
    DSs (cxOf CX0 P w K mg base ["thing"] "is_pair" (defScope s_is_pair) f cdv A outer s H E).nox .plain (defBody s_is_pair) (F_is_pair) := 
 (ss_one (s_ret (d_and (d_isi .tuple m_isinstance m_tuple (dv 0) boot_tuple) (d_one (d_cmp (o_eq hr.units) (d_blt c_len m_len PySem.boot_len (a_cons (dv 0) a_nil)) d_int (nomark _))))))
set_option maxHeartbeats 4000000 in
theorem der_is_whole {f : Addr} (m_bool : mg "bool" = none) (m_int : mg "int" = none) (m_isinstance : mg "isinstance" = none)  (cdv : Value) (A : Around) (outer : List Env) (s : Shared) (H : Hp) (E : XK) (hr : Room 0 (A.deeper (envOfC "is_whole" (defScope s_is_whole) s.heap.objs.size f cdv))) :
    DSs (cxOf CX0 P w K mg base ["thing"] "is_whole" (defScope s_is_whole) f cdv A outer s H E).nox .plain (defBody s_is_whole) (F_is_whole) := 
 (ss_one (s_ret (d_and (d_isi .int m_isinstance m_int (dv 0) boot_int) (d_one (d_not (d_isi .bool m_isinstance m_bool (dv 0) boot_bool))))))
set_option maxHeartbeats 4000000 in
theorem der_is_fraction {f : Addr} {sp_is_whole : FSpec} (G_is_whole : Good P w K mg base false 1 "is_whole" 1 sp_is_whole) (m_gcd : mg "gcd" = some (.builtin "math.gcd")) (m_isinstance : mg "isinstance" = none) (m_len : mg "len" = none) (m_tuple : mg "tuple" = none)  (cdv : Value) (A : Around) (outer : List Env) (s : Shared) (H : Hp) (E : XK) (hr : Room 1 (A.deeper (envOfC "is_fraction" (defScope s_is_fraction) s.heap.objs.size f cdv))) :
    DSs (cxOf CX0 P w K mg base ["thing", "top", "bottom"] "is_fraction" (defScope s_is_fraction) f cdv A outer s H E).nox .plain (defBody s_is_fraction) (F_is_fraction sp_is_whole) := 
 (ss_cons (s_if (t_w (w_or (t_not (t_tru (d_isi .tuple m_isinstance m_tuple (dv 0) boot_tuple))) (w_or1 (t_cmp (o_ne hr.units) (d_blt c_len m_len PySem.boot_len (a_cons (dv 0) a_nil)) d_int (nomark _))))) (ss_one (s_ret d_bl)) ss_nil)
 (ss_cons (s_asg (dv 0) (g_tup rfl (gs_cons (g_name sc_is_fraction.nd (i := 1)) (gs_cons (g_name sc_is_fraction.nd (i := 2)) gs_nil))))
 (ss_cons (s_if (t_w (w_or (t_not (t_tru (d_call G_is_whole (hr.mono (by decide)) (a_cons (dv 1) a_nil)))) (w_or (t_not (t_tru (d_call G_is_whole (hr.mono (by decide)) (a_cons (dv 2) a_nil)))) (w_or1 (t_cmp o_lt (dv 2) d_int (nomark _)))))) (ss_one (s_ret d_bl)) ss_nil)
 (ss_one (s_ret (d_cmp (o_eq hr.units) (d_fun c_gcd m_gcd (a_cons (dv 1) (a_cons (dv 2) a_nil))) d_int (nomark _)))))))
set_option maxHeartbeats 4000000 in
theorem der_is_between {f : Addr} {sp_is_whole : FSpec} (G_is_whole : Good P w K mg base false 1 "is_whole" 1 sp_is_whole)   (cdv : Value) (A : Around) (outer : List Env) (s : Shared) (H : Hp) (E : XK) (hr : Room 1 (A.deeper (envOfC "is_between" (defScope s_is_between) s.heap.objs.size f cdv))) :
    DSs (cxOf CX0 P w K mg base ["thing", "least", "most"] "is_between" (defScope s_is_between) f cdv A outer s H E).nox .plain (defBody s_is_between) (F_is_between sp_is_whole) := 
 (ss_one (s_ret (d_and (d_call G_is_whole (hr.mono (by decide)) (a_cons (dv 0) a_nil)) (d_one (d_chain o_le o_le (dv 1) (dv 0) (dv 2))))))
set_option maxHeartbeats 4000000 in
theorem der_is_envelope {f : Addr} {sp_is_pair : FSpec} {sp_is_fraction : FSpec} {sp_is_between : FSpec} {sp_envelope : FSpec} (G_is_pair : Good P w K mg base false 1 "is_pair" 1 sp_is_pair) (G_is_fraction : Good P w K mg base false 2 "is_fraction" 1 sp_is_fraction) (G_is_between : Good P w K mg base false 2 "is_between" 3 sp_is_between) (G_envelope : Good P w K mg base false 3 "envelope" 1 sp_envelope) (m_all : mg "all" = none) (m_isinstance : mg "isinstance" = none) (m_len : mg "len" = none) (m_tuple : mg "tuple" = none)  (cdv : Value) (A : Around) (outer : List Env) (s : Shared) (H : Hp) (E : XK) (hr : Room 3 (A.deeper (envOfC "is_envelope" (defScope s_is_envelope) s.heap.objs.size f cdv))) :
    DSs (cxOf CX0 P w K mg base ["lines", "thing", "row"] "is_envelope" (defScope s_is_envelope) f cdv A outer s H E).nox .plain (defBody s_is_envelope) (F_is_envelope sp_is_pair sp_is_fraction sp_is_between sp_envelope) := 
 (ss_cons (s_if (t_w (w_or (t_not (t_tru (d_isi .tuple m_isinstance m_tuple (dv 1) boot_tuple))) (w_or (t_not (t_tru (dv 1))) (w_or1 (t_not (t_tru (d_blt (c_all rfl) m_all boot_all (a_cons (d_lc s H rfl sc_is_envelope.nd (blkOk_by (own := [("row", 2)]) (N := ["lines", "thing", "row"]) (sc := defScope s_is_envelope) (by decide +kernel)) (i_seq (dv 1)) (fun _ _ _ _ _ => (g_name sc_is_envelope.nd (i := 2))) (fun _ _ _ _ _ => ts_nil) (fun _ _ _ _ _ => (d_call G_is_pair (hr.mono (by decide)) (a_cons (dv 2) a_nil)))) a_nil)))))))) (ss_one (s_ret d_bl)) ss_nil)
 (ss_cons (s_if (t_w (w_or (t_cmp o_isnt (d_ix hr.units (d_ix hr.units (dv 1) d_int) d_int) d_non (nomark _)) (w_or1 (t_not (t_tru (d_blt (c_all rfl) m_all boot_all (a_cons (d_lc s H rfl sc_is_envelope.nd (blkOk_by (own := [("row", 2)]) (N := ["lines", "thing", "row"]) (sc := defScope s_is_envelope) (by decide +kernel)) (i_seq (d_sl (dv 1) (o_some d_int) o_none)) (fun _ _ _ _ _ => (g_name sc_is_envelope.nd (i := 2))) (fun _ _ _ _ _ => ts_nil) (fun _ _ _ _ _ => (d_call G_is_fraction (hr.mono (by decide)) (a_cons (d_ix hr.units (dv 2) d_int) a_nil)))) a_nil))))))) (ss_one (s_ret d_bl)) ss_nil)
 (ss_cons (s_if (t_not (t_tru (d_blt (c_all rfl) m_all boot_all (a_cons (d_lc s H rfl sc_is_envelope.nd (blkOk_by (own := [("row", 2)]) (N := ["lines", "thing", "row"]) (sc := defScope s_is_envelope) (by decide +kernel)) (i_seq (dv 1)) (fun _ _ _ _ _ => (g_name sc_is_envelope.nd (i := 2))) (fun _ _ _ _ _ => ts_nil) (fun _ _ _ _ _ => (d_call G_is_between (hr.mono (by decide)) (a_cons (d_ix hr.units (dv 2) d_int) (a_cons d_int (a_cons (d_op o_sub (d_blt c_len m_len PySem.boot_len (a_cons (dv 0) a_nil)) d_int) a_nil)))))) a_nil)))) (ss_one (s_ret d_bl)) ss_nil)
 (ss_one (s_ret (d_cmp (o_eq hr.units) (dv 1) (d_call G_envelope (hr.mono (by decide)) (a_cons (dv 0) a_nil)) (nomark _)))))))
set_option maxHeartbeats 4000000 in
theorem der_law {f : Addr} {sp__law_digits : FSpec} {sp__law_draw : FSpec} {sp_envelope : FSpec} {sp__law_whole : FSpec} {sp__law_less : FSpec} {sp__law_is_fraction : FSpec} {sp__law_line_at : FSpec} {sp__law_low : FSpec} {sp__law_changed : FSpec} {sp__law_like : FSpec} {sp_is_envelope : FSpec} (G__law_digits : Good P w K mg base false 2 "_law_digits" 3 sp__law_digits) (G__law_draw : Good P w K mg base true 1 "_law_draw" 2 sp__law_draw) (G_envelope : Good P w K mg base false 3 "envelope" 1 sp_envelope) (G__law_whole : Good P w K mg base false 1 "_law_whole" 3 sp__law_whole) (G__law_less : Good P w K mg base false 1 "_law_less" 2 sp__law_less) (G__law_is_fraction : Good P w K mg base false 2 "_law_is_fraction" 1 sp__law_is_fraction) (G__law_line_at : Good P w K mg base false 3 "_law_line_at" 2 sp__law_line_at) (G__law_low : Good P w K mg base false 1 "_law_low" 2 sp__law_low) (G__law_changed : Good P w K mg base true 10 "_law_changed" 2 sp__law_changed) (G__law_like : Good P w K mg base false 8 "_law_like" 2 sp__law_like) (G_is_envelope : Good P w K mg base false 4 "is_envelope" 2 sp_is_envelope) (m_isinstance : mg "isinstance" = none) (m_len : mg "len" = none) (m_range : mg "range" = none) (m_tuple : mg "tuple" = none)  (cdv : Value) (A : Around) (outer : List Env) (s : Shared) (H : Hp) (E : XK) (hr : Room 10 (A.deeper (envOfC "law" (defScope s_law) s.heap.objs.size f cdv))) :
    DSs (cxOf CX0 P w K mg base ["script", "box", "turn", "lines", "told", "k", "step", "x", "at", "thing", "row", "line"] "law" (defScope s_law) f cdv A outer s H E).nox .plain (defBody s_law) (F_law sp__law_digits sp__law_draw sp_envelope sp__law_whole sp__law_less sp__law_is_fraction sp__law_line_at sp__law_low sp__law_changed sp__law_like sp_is_envelope) := 
 (ss_box (i := 1) sc_law.nd (a_cons (d_call G__law_digits (hr.mono (by decide)) (a_cons (dv 0) (a_cons d_int (a_cons d_int a_nil)))) (a_cons d_int a_nil))
 (ss_cons (s_for PassesOwn.never rfl (i_rng1 m_range (a_cons d_int a_nil)) (g_name sc_law.nd (i := 2)) (ss_cons (s_set (i := 3) sc_law.nd (d_ty c_tupleP m_tuple boot_tuple (a_cons (d_lc s H rfl sc_law.nd (blkOk_by (own := [("k", 5)]) (N := ["script", "box", "turn", "lines", "told", "k", "step", "x", "at", "thing", "row", "line"]) (sc := defScope s_law) (by decide +kernel)) (i_rng1 m_range (a_cons (d_op o_add d_int (d_callB G__law_draw (hr.mono (by omega)) (a_cons (dv 1) (a_cons d_int a_nil)))) a_nil)) (fun _ _ _ _ _ => (g_name sc_law.nd (i := 5))) (fun _ _ _ _ _ => ts_nil) (fun _ _ _ _ _ => (d_tup (a_cons (d_op o_sub (d_callB G__law_draw (hr.mono (by omega)) (a_cons (dv 1) (a_cons d_int a_nil))) d_int) (a_cons (d_op o_sub (d_callB G__law_draw (hr.mono (by omega)) (a_cons (dv 1) (a_cons d_int a_nil))) d_int) a_nil))))) a_nil)))
 (ss_cons (s_set (i := 4) sc_law.nd (d_call G_envelope (hr.mono (by decide)) (a_cons (dv 3) a_nil)))
 (ss_cons (s_if (t_w (w_or (t_not (t_tru (d_isi .tuple m_isinstance m_tuple (dv 4) boot_tuple))) (w_or (t_cmp (o_eq hr.units) (dv 4) (d_tup a_nil) (nomark _)) (w_or (t_cmp o_isnt (d_ix hr.units (d_ix hr.units (dv 4) d_int) d_int) d_non (nomark _)) (w_or1 (t_cmp (o_ne hr.units) (d_lc s H rfl sc_law.nd (blkOk_by (own := [("row", 10)]) (N := ["script", "box", "turn", "lines", "told", "k", "step", "x", "at", "thing", "row", "line"]) (sc := defScope s_law) (by decide +kernel)) (i_seq (dv 4)) (fun _ _ _ _ _ => (g_name sc_law.nd (i := 10))) (fun _ _ _ _ _ => (ts_one (t_not (t_tru (d_call G__law_whole (hr.mono (by decide)) (a_cons (d_ix hr.units (dv 10) d_int) (a_cons d_int (a_cons (d_op o_sub (d_blt c_len m_len PySem.boot_len (a_cons (dv 3) a_nil)) d_int) a_nil)))))))) (fun _ _ _ _ _ => d_int)) (d_lst a_nil) (nomark _))))))) (ss_one (s_ret d_bl)) ss_nil)
 (ss_cons (s_if (t_w (w_or (t_cmp (o_ne hr.units) (d_lc s H rfl sc_law.nd (blkOk_by (own := [("k", 5)]) (N := ["script", "box", "turn", "lines", "told", "k", "step", "x", "at", "thing", "row", "line"]) (sc := defScope s_law) (by decide +kernel)) (i_rng2 m_range (a_cons d_int (a_cons (d_blt c_len m_len PySem.boot_len (a_cons (dv 4) a_nil)) a_nil))) (fun _ _ _ _ _ => (g_name sc_law.nd (i := 5))) (fun _ _ _ _ _ => (ts_one (t_not (t_tru (d_call G__law_less (hr.mono (by decide)) (a_cons (d_ix hr.units (d_ix hr.units (dv 4) (d_op o_sub (dv 5) d_int)) d_int) (a_cons (d_ix hr.units (d_ix hr.units (dv 4) (dv 5)) d_int) a_nil))))))) (fun _ _ _ _ _ => d_int)) (d_lst a_nil) (nomark _)) (w_or1 (t_cmp (o_ne hr.units) (d_lc s H rfl sc_law.nd (blkOk_by (own := [("row", 10)]) (N := ["script", "box", "turn", "lines", "told", "k", "step", "x", "at", "thing", "row", "line"]) (sc := defScope s_law) (by decide +kernel)) (i_seq (dv 4)) (fun _ _ _ _ _ => (g_name sc_law.nd (i := 10))) (fun _ _ _ _ _ => (ts_one (t_cmp (o_ne hr.units) (d_indexT (u65 hr) (dv 3) (d_ix hr.units (dv 3) (d_ix hr.units (dv 10) d_int))) (d_ix hr.units (dv 10) d_int) (nomark _)))) (fun _ _ _ _ _ => (dv 10))) (d_lst a_nil) (nomark _))))) (ss_one (s_ret d_bl)) ss_nil)
 (ss_cons (s_for PassesOwn.never rfl (i_rng2 m_range (a_cons d_int (a_cons (d_blt c_len m_len PySem.boot_len (a_cons (dv 4) a_nil)) a_nil))) (g_name sc_law.nd (i := 5)) (ss_cons (s_if (t_w (w_or (t_cmp (o_eq hr.units) (d_ix hr.units (d_ix hr.units (dv 4) (dv 5)) d_int) (d_ix hr.units (d_ix hr.units (dv 4) (d_op o_sub (dv 5) d_int)) d_int) (nomark _)) (w_or1 (t_not (t_tru (d_call G__law_is_fraction (hr.mono (by decide)) (a_cons (d_ix hr.units (d_ix hr.units (dv 4) (dv 5)) d_int) a_nil))))))) (ss_one (s_ret d_bl)) ss_nil)
 (ss_one (s_if (t_cmp (o_ne hr.units) (d_call G__law_line_at (hr.mono (by decide)) (a_cons (d_ix hr.units (dv 3) (d_ix hr.units (d_ix hr.units (dv 4) (d_op o_sub (dv 5) d_int)) d_int)) (a_cons (d_ix hr.units (d_ix hr.units (dv 4) (dv 5)) d_int) a_nil))) (d_call G__law_line_at (hr.mono (by decide)) (a_cons (d_ix hr.units (dv 3) (d_ix hr.units (d_ix hr.units (dv 4) (dv 5)) d_int)) (a_cons (d_ix hr.units (d_ix hr.units (dv 4) (dv 5)) d_int) a_nil))) (nomark _)) (ss_one (s_ret d_bl)) ss_nil))))
 (ss_cons (s_for PassesOwn.never rfl (i_rng1 m_range (a_cons d_int a_nil)) (g_name sc_law.nd (i := 6)) (ss_cons (s_set (i := 7) sc_law.nd (d_call G__law_low (hr.mono (by decide)) (a_cons (d_op o_sub (d_callB G__law_draw (hr.mono (by omega)) (a_cons (dv 1) (a_cons d_int a_nil))) d_int) (a_cons (d_op o_add d_int (d_callB G__law_draw (hr.mono (by omega)) (a_cons (dv 1) (a_cons d_int a_nil)))) a_nil))))
 (ss_cons (s_set (i := 8) sc_law.nd (d_ix hr.units (d_lc s H rfl sc_law.nd (blkOk_by (own := [("row", 10)]) (N := ["script", "box", "turn", "lines", "told", "k", "step", "x", "at", "thing", "row", "line"]) (sc := defScope s_law) (by decide +kernel)) (i_seq (dv 4)) (fun _ _ _ _ _ => (g_name sc_law.nd (i := 10))) (fun _ _ _ _ _ => (ts_one (t_w (w_or (t_cmp o_is (d_ix hr.units (dv 10) d_int) d_non (nomark _)) (w_or1 (t_not (t_tru (d_call G__law_less (hr.mono (by decide)) (a_cons (dv 7) (a_cons (d_ix hr.units (dv 10) d_int) a_nil)))))))))) (fun _ _ _ _ _ => (d_ix hr.units (dv 10) d_int))) (d_neg d_int)))
 (ss_one (s_if (t_cmp (o_ne hr.units) (d_lc s H rfl sc_law.nd (blkOk_by (own := [("line", 11)]) (N := ["script", "box", "turn", "lines", "told", "k", "step", "x", "at", "thing", "row", "line"]) (sc := defScope s_law) (by decide +kernel)) (i_seq (dv 3)) (fun _ _ _ _ _ => (g_name sc_law.nd (i := 11))) (fun _ _ _ _ _ => (ts_one (t_tru (d_call G__law_less (hr.mono (by decide)) (a_cons (d_call G__law_line_at (hr.mono (by decide)) (a_cons (d_ix hr.units (dv 3) (dv 8)) (a_cons (dv 7) a_nil))) (a_cons (d_call G__law_line_at (hr.mono (by decide)) (a_cons (dv 11) (a_cons (dv 7) a_nil))) a_nil)))))) (fun _ _ _ _ _ => d_int)) (d_lst a_nil) (nomark _)) (ss_one (s_ret d_bl)) ss_nil)))))
 (ss_one (s_for PassesOwn.never rfl (i_rng1 m_range (a_cons d_int a_nil)) (g_name sc_law.nd (i := 6)) (ss_cons (s_set (i := 9) sc_law.nd (d_if (t_cmp o_gt (dv 6) d_int (nomark _)) (d_callB G__law_changed (hr.mono (by omega)) (a_cons (dv 1) (a_cons (dv 4) a_nil))) (dv 4)))
 (ss_one (s_if (t_not (t_tru (d_call G__law_like (hr.mono (by decide)) (a_cons (d_call G_is_envelope (hr.mono (by decide)) (a_cons (dv 3) (a_cons (dv 9) a_nil))) (a_cons (d_call G__law_like (hr.mono (by decide)) (a_cons (dv 9) (a_cons (dv 4) a_nil))) a_nil))))) (ss_one (s_ret d_bl)) ss_nil))))))))))))
 (ss_one (s_ret d_bl))))
structure Top (K : PySem.W.Frag) (mg : Str → Option Value) : Prop where
  fn__law_cell : ∃ f fd, Fun K "_law_cell" "_law_cell" s__law_cell f fd ∧ mg "_law_cell" = some (.ref f)
  fn__law_digits : ∃ f fd, Fun K "_law_digits" "_law_digits" s__law_digits f fd ∧ mg "_law_digits" = some (.ref f)
  fn__law_draw : ∃ f fd, Fun K "_law_draw" "_law_draw" s__law_draw f fd ∧ mg "_law_draw" = some (.ref f)
  fn__steepest_first : ∃ f fd, Fun K "_steepest_first" "_steepest_first" s__steepest_first f fd ∧ mg "_steepest_first" = some (.ref f)
  fn_low : ∃ f fd, Fun K "low" "low" s_low f fd ∧ mg "low" = some (.ref f)
  fn__meets : ∃ f fd, Fun K "_meets" "_meets" s__meets f fd ∧ mg "_meets" = some (.ref f)
  fn_less : ∃ f fd, Fun K "less" "less" s_less f fd ∧ mg "less" = some (.ref f)
  fn_envelope : ∃ f fd, Fun K "envelope" "envelope" s_envelope f fd ∧ mg "envelope" = some (.ref f)
  fn__law_whole : ∃ f fd, Fun K "_law_whole" "_law_whole" s__law_whole f fd ∧ mg "_law_whole" = some (.ref f)
  fn__law_less : ∃ f fd, Fun K "_law_less" "_law_less" s__law_less f fd ∧ mg "_law_less" = some (.ref f)
  fn__law_low : ∃ f fd, Fun K "_law_low" "_law_low" s__law_low f fd ∧ mg "_law_low" = some (.ref f)
  fn__law_is_fraction : ∃ f fd, Fun K "_law_is_fraction" "_law_is_fraction" s__law_is_fraction f fd ∧ mg "_law_is_fraction" = some (.ref f)
  fn__law_scaled : ∃ f fd, Fun K "_law_scaled" "_law_scaled" s__law_scaled f fd ∧ mg "_law_scaled" = some (.ref f)
  fn__law_add : ∃ f fd, Fun K "_law_add" "_law_add" s__law_add f fd ∧ mg "_law_add" = some (.ref f)
  fn__law_line_at : ∃ f fd, Fun K "_law_line_at" "_law_line_at" s__law_line_at f fd ∧ mg "_law_line_at" = some (.ref f)
  fn__law_other : ∃ f fd, Fun K "_law_other" "_law_other" s__law_other f fd ∧ mg "_law_other" = some (.ref f)
  fn__law_changed : ∃ f fd, Fun K "_law_changed" "_law_changed" s__law_changed f fd ∧ mg "_law_changed" = some (.ref f)
  fn__law_like : ∃ f fd, Fun K "_law_like" "_law_like" s__law_like f fd ∧ mg "_law_like" = some (.ref f)
  fn_is_pair : ∃ f fd, Fun K "is_pair" "is_pair" s_is_pair f fd ∧ mg "is_pair" = some (.ref f)
  fn_is_whole : ∃ f fd, Fun K "is_whole" "is_whole" s_is_whole f fd ∧ mg "is_whole" = some (.ref f)
  fn_is_fraction : ∃ f fd, Fun K "is_fraction" "is_fraction" s_is_fraction f fd ∧ mg "is_fraction" = some (.ref f)
  fn_is_between : ∃ f fd, Fun K "is_between" "is_between" s_is_between f fd ∧ mg "is_between" = some (.ref f)
  fn_is_envelope : ∃ f fd, Fun K "is_envelope" "is_envelope" s_is_envelope f fd ∧ mg "is_envelope" = some (.ref f)
  fn_law : ∃ f fd, Fun K "law" "law" s_law f fd ∧ mg "law" = some (.ref f)
  m_abs : mg "abs" = none
  m_all : mg "all" = none
  m_bool : mg "bool" = none
  m_enumerate : mg "enumerate" = none
  m_gcd : mg "gcd" = some (.builtin "math.gcd")
  m_int : mg "int" = none
  m_isinstance : mg "isinstance" = none
  m_len : mg "len" = none
  m_list : mg "list" = none
  m_range : mg "range" = none
  m_sorted : mg "sorted" = none
  m_str : mg "str" = none
  m_tuple : mg "tuple" = none
theorem good__law_cell (T : Top K mg) : Good P w K mg base false 1 "_law_cell" 2 sp__law_cell := by
  obtain ⟨f, fd, F, hm⟩ := T.fn__law_cell
  refine fn_d (ps := ["script", "k"]) F sc__law_cell mono__law_cell hm (F.binds (ps := ["script", "k"]) fun _ _ _ _ _ _ us hl => match us, hl with | [_, _], _ => rfl) fun cdv A outer s H E hr => ?_
  have h := der__law_cell (P := P) (w := w) (K := K) (mg := mg) (base := base) (f := f) T.m_len cdv A outer s H E hr
  exact ⟨_, h, fun ds R hl hs => ev__law_cell ds R hl hs⟩
theorem good__law_digits (T : Top K mg) : Good P w K mg base false 2 "_law_digits" 3 sp__law_digits := by
  obtain ⟨f, fd, F, hm⟩ := T.fn__law_digits
  refine fn_d (ps := ["script", "first", "last"]) F sc__law_digits mono__law_digits hm (F.binds (ps := ["script", "first", "last"]) fun _ _ _ _ _ _ us hl => match us, hl with | [_, _, _], _ => rfl) fun cdv A outer s H E hr => ?_
  have h := der__law_digits (P := P) (w := w) (K := K) (mg := mg) (base := base) (f := f) (good__law_cell T) T.m_int T.m_len T.m_range cdv A outer s H E hr
  exact ⟨_, h, fun ds R hl hs => ev__law_digits ds R hl hs⟩
theorem good__law_draw (T : Top K mg) : Good P w K mg base true 1 "_law_draw" 2 specDraw := by
  obtain ⟨f, fd, F, hm⟩ := T.fn__law_draw
  exact ok_draw F hm (F.binds (ps := ["box", "many"]) fun _ _ _ _ _ _ us hl => match us, hl with | [_, _], _ => rfl) T.m_len T.m_int
theorem good__steepest_first (T : Top K mg) : Good P w K mg base false 1 "_steepest_first" 1 sp__steepest_first := by
  obtain ⟨f, fd, F, hm⟩ := T.fn__steepest_first
  refine fn_d (ps := ["lines"]) F sc__steepest_first mono__steepest_first hm (F.binds (ps := ["lines"]) fun _ _ _ _ _ _ us hl => match us, hl with | [_], _ => rfl) fun cdv A outer s H E hr => ?_
  have h := der__steepest_first (P := P) (w := w) (K := K) (mg := mg) (base := base) (f := f) T.m_enumerate T.m_sorted cdv A outer s H E hr
  exact ⟨_, h, fun ds R hl hs => ev__steepest_first ds R hl hs⟩
theorem good_low (T : Top K mg) : Good P w K mg base false 1 "low" 2 sp_low := by
  obtain ⟨f, fd, F, hm⟩ := T.fn_low
  refine fn_d (ps := ["top", "bottom"]) F sc_low mono_low hm (F.binds (ps := ["top", "bottom"]) fun _ _ _ _ _ _ us hl => match us, hl with | [_, _], _ => rfl) fun cdv A outer s H E hr => ?_
  have h := der_low (P := P) (w := w) (K := K) (mg := mg) (base := base) (f := f) T.m_gcd cdv A outer s H E hr
  exact ⟨_, h, fun ds R hl hs => ev_low ds R hl hs⟩
theorem good__meets (T : Top K mg) : Good P w K mg base false 2 "_meets" 2 sp__meets := by
  obtain ⟨f, fd, F, hm⟩ := T.fn__meets
  refine fn_d (ps := ["one", "two"]) F sc__meets mono__meets hm (F.binds (ps := ["one", "two"]) fun _ _ _ _ _ _ us hl => match us, hl with | [_, _], _ => rfl) fun cdv A outer s H E hr => ?_
  have h := der__meets (P := P) (w := w) (K := K) (mg := mg) (base := base) (f := f) (good_low T) cdv A outer s H E hr
  exact ⟨_, h, fun ds R hl hs => ev__meets ds R hl hs⟩
theorem good_less (T : Top K mg) : Good P w K mg base false 1 "less" 2 sp_less := by
  obtain ⟨f, fd, F, hm⟩ := T.fn_less
  refine fn_d (ps := ["one", "other"]) F sc_less mono_less hm (F.binds (ps := ["one", "other"]) fun _ _ _ _ _ _ us hl => match us, hl with | [_, _], _ => rfl) fun cdv A outer s H E hr => ?_
  have h := der_less (P := P) (w := w) (K := K) (mg := mg) (base := base) (f := f) cdv A outer s H E hr
  exact ⟨_, h, fun ds R hl hs => ev_less ds R hl hs⟩
theorem good_envelope (T : Top K mg) : Good P w K mg base false 3 "envelope" 1 sp_envelope := by
  obtain ⟨f, fd, F, hm⟩ := T.fn_envelope
  refine fn_d (ps := ["lines"]) F sc_envelope mono_envelope hm (F.binds (ps := ["lines"]) fun _ _ _ _ _ _ us hl => match us, hl with | [_], _ => rfl) fun cdv A outer s H E hr => ?_
  have h := der_envelope (P := P) (w := w) (K := K) (mg := mg) (base := base) (f := f) (good__steepest_first T) (good__meets T) (good_less T) T.m_tuple cdv A outer s H E hr
  exact ⟨_, h, fun ds R hl hs => ev_envelope ds R hl hs⟩
theorem good__law_whole (T : Top K mg) : Good P w K mg base false 1 "_law_whole" 3 sp__law_whole := by
  obtain ⟨f, fd, F, hm⟩ := T.fn__law_whole
  refine fn_d (ps := ["thing", "low_v", "high"]) F sc__law_whole mono__law_whole hm (F.binds (ps := ["thing", "low_v", "high"]) fun _ _ _ _ _ _ us hl => match us, hl with | [_, _, _], _ => rfl) fun cdv A outer s H E hr => ?_
  have h := der__law_whole (P := P) (w := w) (K := K) (mg := mg) (base := base) (f := f) T.m_bool T.m_int T.m_isinstance cdv A outer s H E hr
  exact ⟨_, h, fun ds R hl hs => ev__law_whole ds R hl hs⟩
theorem good__law_less (T : Top K mg) : Good P w K mg base false 1 "_law_less" 2 sp__law_less := by
  obtain ⟨f, fd, F, hm⟩ := T.fn__law_less
  refine fn_d (ps := ["one", "two"]) F sc__law_less mono__law_less hm (F.binds (ps := ["one", "two"]) fun _ _ _ _ _ _ us hl => match us, hl with | [_, _], _ => rfl) fun cdv A outer s H E hr => ?_
  have h := der__law_less (P := P) (w := w) (K := K) (mg := mg) (base := base) (f := f) cdv A outer s H E hr
  exact ⟨_, h, fun ds R hl hs => ev__law_less ds R hl hs⟩
theorem good__law_low (T : Top K mg) : Good P w K mg base false 1 "_law_low" 2 sp__law_low := by
  obtain ⟨f, fd, F, hm⟩ := T.fn__law_low
  refine fn_d (ps := ["number", "by"]) F sc__law_low mono__law_low hm (F.binds (ps := ["number", "by"]) fun _ _ _ _ _ _ us hl => match us, hl with | [_, _], _ => rfl) fun cdv A outer s H E hr => ?_
  have h := der__law_low (P := P) (w := w) (K := K) (mg := mg) (base := base) (f := f) T.m_abs cdv A outer s H E hr
  exact ⟨_, h, fun ds R hl hs => ev__law_low ds R hl hs⟩
theorem good__law_is_fraction (T : Top K mg) : Good P w K mg base false 2 "_law_is_fraction" 1 sp__law_is_fraction := by
  obtain ⟨f, fd, F, hm⟩ := T.fn__law_is_fraction
  refine fn_d (ps := ["thing"]) F sc__law_is_fraction mono__law_is_fraction hm (F.binds (ps := ["thing"]) fun _ _ _ _ _ _ us hl => match us, hl with | [_], _ => rfl) fun cdv A outer s H E hr => ?_
  have h := der__law_is_fraction (P := P) (w := w) (K := K) (mg := mg) (base := base) (f := f) (good__law_whole T) (good__law_low T) T.m_isinstance T.m_len T.m_tuple cdv A outer s H E hr
  exact ⟨_, h, fun ds R hl hs => ev__law_is_fraction ds R hl hs⟩
theorem good__law_scaled (T : Top K mg) : Good P w K mg base false 2 "_law_scaled" 2 sp__law_scaled := by
  obtain ⟨f, fd, F, hm⟩ := T.fn__law_scaled
  refine fn_d (ps := ["one", "number"]) F sc__law_scaled mono__law_scaled hm (F.binds (ps := ["one", "number"]) fun _ _ _ _ _ _ us hl => match us, hl with | [_, _], _ => rfl) fun cdv A outer s H E hr => ?_
  have h := der__law_scaled (P := P) (w := w) (K := K) (mg := mg) (base := base) (f := f) (good__law_low T) cdv A outer s H E hr
  exact ⟨_, h, fun ds R hl hs => ev__law_scaled ds R hl hs⟩
theorem good__law_add (T : Top K mg) : Good P w K mg base false 2 "_law_add" 2 sp__law_add := by
  obtain ⟨f, fd, F, hm⟩ := T.fn__law_add
  refine fn_d (ps := ["one", "two"]) F sc__law_add mono__law_add hm (F.binds (ps := ["one", "two"]) fun _ _ _ _ _ _ us hl => match us, hl with | [_, _], _ => rfl) fun cdv A outer s H E hr => ?_
  have h := der__law_add (P := P) (w := w) (K := K) (mg := mg) (base := base) (f := f) (good__law_low T) cdv A outer s H E hr
  exact ⟨_, h, fun ds R hl hs => ev__law_add ds R hl hs⟩
theorem good__law_line_at (T : Top K mg) : Good P w K mg base false 3 "_law_line_at" 2 sp__law_line_at := by
  obtain ⟨f, fd, F, hm⟩ := T.fn__law_line_at
  refine fn_d (ps := ["line", "x"]) F sc__law_line_at mono__law_line_at hm (F.binds (ps := ["line", "x"]) fun _ _ _ _ _ _ us hl => match us, hl with | [_, _], _ => rfl) fun cdv A outer s H E hr => ?_
  have h := der__law_line_at (P := P) (w := w) (K := K) (mg := mg) (base := base) (f := f) (good__law_scaled T) (good__law_add T) cdv A outer s H E hr
  exact ⟨_, h, fun ds R hl hs => ev__law_line_at ds R hl hs⟩
theorem good__law_other (T : Top K mg) : Good P w K mg base true 2 "_law_other" 2 sp__law_other := by
  obtain ⟨f, fd, F, hm⟩ := T.fn__law_other
  refine fn_b (ps := ["box", "thing"]) F sc__law_other mono__law_other hm (F.binds (ps := ["box", "thing"]) fun _ _ _ _ _ _ us hl => match us, hl with | [_, _], _ => rfl) fun cdv A outer s H E hr => ?_
  have h := der__law_other (P := P) (w := w) (K := K) (mg := mg) (base := base) (f := f) (good__law_draw T) T.m_isinstance T.m_len T.m_list T.m_range T.m_str T.m_tuple cdv A outer s H E hr
  exact ⟨_, h, fun ds R hl hs => ev__law_other ds R hl hs⟩
theorem all__law_changed (T : Top K mg) : ∀ k, Good P w K mg base true (2 + k) "_law_changed" 2 (sp__law_changed k)
  | 0 => by
    obtain ⟨f, fd, F, hm⟩ := T.fn__law_changed
    exact zero_good F hm (F.binds (ps := ["box", "thing"]) fun _ _ _ _ _ _ us hl => match us, hl with | [_, _], _ => rfl) (mono__law_changed 0) zero__law_changed
  | k + 1 => by
    have ih := all__law_changed T k
    obtain ⟨f, fd, F, hm⟩ := T.fn__law_changed
    refine fn_b (ps := ["box", "thing"]) F sc__law_changed (mono__law_changed (k + 1)) hm (F.binds (ps := ["box", "thing"]) fun _ _ _ _ _ _ us hl => match us, hl with | [_, _], _ => rfl) fun cdv A outer s H E hr => ?_
    have h := der__law_changed (P := P) (w := w) (K := K) (mg := mg) (base := base) (f := f) (by omega) (good__law_draw T) (good__law_other T) (ih) T.m_isinstance T.m_len T.m_tuple cdv A outer s H E hr
    exact ⟨_, h, fun ds R hl hs => ev__law_changed k ds R hl hs⟩
theorem good__law_changed (T : Top K mg) : Good P w K mg base true 10 "_law_changed" 2 (sp__law_changed 8) := all__law_changed T 8
theorem all__law_like (T : Top K mg) : ∀ k, Good P w K mg base false (0 + k) "_law_like" 2 (sp__law_like k)
  | 0 => by
    obtain ⟨f, fd, F, hm⟩ := T.fn__law_like
    exact zero_good F hm (F.binds (ps := ["told", "due"]) fun _ _ _ _ _ _ us hl => match us, hl with | [_, _], _ => rfl) (mono__law_like 0) zero__law_like
  | k + 1 => by
    have ih := all__law_like T k
    obtain ⟨f, fd, F, hm⟩ := T.fn__law_like
    refine fn_d (ps := ["told", "due"]) F sc__law_like (mono__law_like (k + 1)) hm (F.binds (ps := ["told", "due"]) fun _ _ _ _ _ _ us hl => match us, hl with | [_, _], _ => rfl) fun cdv A outer s H E hr => ?_
    have h := der__law_like (P := P) (w := w) (K := K) (mg := mg) (base := base) (f := f) (by omega) (ih) T.m_bool T.m_int T.m_isinstance T.m_len T.m_range T.m_str T.m_tuple cdv A outer s H E hr
    exact ⟨_, h, fun ds R hl hs => ev__law_like k ds R hl hs⟩
theorem good__law_like (T : Top K mg) : Good P w K mg base false 8 "_law_like" 2 (sp__law_like 8) := all__law_like T 8
theorem good_is_pair (T : Top K mg) : Good P w K mg base false 1 "is_pair" 1 sp_is_pair := by
  obtain ⟨f, fd, F, hm⟩ := T.fn_is_pair
  refine fn_d (ps := ["thing"]) F sc_is_pair mono_is_pair hm (F.binds (ps := ["thing"]) fun _ _ _ _ _ _ us hl => match us, hl with | [_], _ => rfl) fun cdv A outer s H E hr => ?_
  have h := der_is_pair (P := P) (w := w) (K := K) (mg := mg) (base := base) (f := f) T.m_isinstance T.m_len T.m_tuple cdv A outer s H E hr
  exact ⟨_, h, fun ds R hl hs => ev_is_pair ds R hl hs⟩
theorem good_is_whole (T : Top K mg) : Good P w K mg base false 1 "is_whole" 1 sp_is_whole := by
  obtain ⟨f, fd, F, hm⟩ := T.fn_is_whole
  refine fn_d (ps := ["thing"]) F sc_is_whole mono_is_whole hm (F.binds (ps := ["thing"]) fun _ _ _ _ _ _ us hl => match us, hl with | [_], _ => rfl) fun cdv A outer s H E hr => ?_
  have h := der_is_whole (P := P) (w := w) (K := K) (mg := mg) (base := base) (f := f) T.m_bool T.m_int T.m_isinstance cdv A outer s H E hr
  exact ⟨_, h, fun ds R hl hs => ev_is_whole ds R hl hs⟩
theorem good_is_fraction (T : Top K mg) : Good P w K mg base false 2 "is_fraction" 1 sp_is_fraction := by
  obtain ⟨f, fd, F, hm⟩ := T.fn_is_fraction
  refine fn_d (ps := ["thing"]) F sc_is_fraction mono_is_fraction hm (F.binds (ps := ["thing"]) fun _ _ _ _ _ _ us hl => match us, hl with | [_], _ => rfl) fun cdv A outer s H E hr => ?_
  have h := der_is_fraction (P := P) (w := w) (K := K) (mg := mg) (base := base) (f := f) (good_is_whole T) T.m_gcd T.m_isinstance T.m_len T.m_tuple cdv A outer s H E hr
  exact ⟨_, h, fun ds R hl hs => ev_is_fraction ds R hl hs⟩
theorem good_is_between (T : Top K mg) : Good P w K mg base false 2 "is_between" 3 sp_is_between := by
  obtain ⟨f, fd, F, hm⟩ := T.fn_is_between
  refine fn_d (ps := ["thing", "least", "most"]) F sc_is_between mono_is_between hm (F.binds (ps := ["thing", "least", "most"]) fun _ _ _ _ _ _ us hl => match us, hl with | [_, _, _], _ => rfl) fun cdv A outer s H E hr => ?_
  have h := der_is_between (P := P) (w := w) (K := K) (mg := mg) (base := base) (f := f) (good_is_whole T) cdv A outer s H E hr
  exact ⟨_, h, fun ds R hl hs => ev_is_between ds R hl hs⟩
theorem good_is_envelope (T : Top K mg) : Good P w K mg base false 4 "is_envelope" 2 sp_is_envelope := by
  obtain ⟨f, fd, F, hm⟩ := T.fn_is_envelope
  refine fn_d (ps := ["lines", "thing"]) F sc_is_envelope mono_is_envelope hm (F.binds (ps := ["lines", "thing"]) fun _ _ _ _ _ _ us hl => match us, hl with | [_, _], _ => rfl) fun cdv A outer s H E hr => ?_
  have h := der_is_envelope (P := P) (w := w) (K := K) (mg := mg) (base := base) (f := f) (good_is_pair T) (good_is_fraction T) (good_is_between T) (good_envelope T) T.m_all T.m_isinstance T.m_len T.m_tuple cdv A outer s H E hr
  exact ⟨_, h, fun ds R hl hs => ev_is_envelope ds R hl hs⟩
theorem fnok_law (T : Top K mg) {f : Addr} {fd : FuncData} (F : Fun K "law" "law" s_law f fd) : FnOk P w K mg base CX0 11 f fd ["script"] (spD K 1 specLaw) :=
  fn_dk (ps := ["script"]) F sc_law fun cdv A outer s H E hr => by
    have h := der_law (P := P) (w := w) (K := K) (mg := mg) (base := base) (f := f) (good__law_digits T) (good__law_draw T) (good_envelope T) (good__law_whole T) (good__law_less T) (good__law_is_fraction T) (good__law_line_at T) (good__law_low T) (good__law_changed T) (good__law_like T) (good_is_envelope T) T.m_isinstance T.m_len T.m_range T.m_tuple cdv A outer s H E hr
    exact ⟨_, h, fun ds R hl hs => ev_law ds R hl hs⟩
end
end N80
namespace N80
open PySem PySem.Spec L2 DL
open PyProof.Rows hiding St
theorem all_mk {l : PySem.W.OpenLaw} {w : World} {K : PySem.W.Frag} {h : Heap} {mg : Str → Option Value} {fa : Addr} (X : K.In h) (G : h.Ns mainGlobals mg) (hfa : mg "law" = some (.ref fa))
    {f0 : Addr} {od0 an0 : Option Addr} {sl0 : Array (Option Value)} {oc0 kV0 dc0 pm0 cd0 ct0 : Value}
    (a0 : PySem.W.nsIn K mainGlobals "_law_cell" = some (some (.ref f0))) (l0 : K.lookup f0 = some ⟨oc0, od0, .func (PySem.W.fnOf "_law_cell" "_law_cell" (defArgs s__law_cell) (defBody s__law_cell) (defScope s__law_cell) .none kV0 dc0 pm0 an0 cd0 ct0), sl0⟩) (c0 : PySem.W.codeIn K cd0 "_law_cell" = true) (k0 : PySem.W.keepIn K (.ref f0) = true)
    {f1 : Addr} {od1 an1 : Option Addr} {sl1 : Array (Option Value)} {oc1 kV1 dc1 pm1 cd1 ct1 : Value}
    (a1 : PySem.W.nsIn K mainGlobals "_law_digits" = some (some (.ref f1))) (l1 : K.lookup f1 = some ⟨oc1, od1, .func (PySem.W.fnOf "_law_digits" "_law_digits" (defArgs s__law_digits) (defBody s__law_digits) (defScope s__law_digits) .none kV1 dc1 pm1 an1 cd1 ct1), sl1⟩) (c1 : PySem.W.codeIn K cd1 "_law_digits" = true) (k1 : PySem.W.keepIn K (.ref f1) = true)
    {f2 : Addr} {od2 an2 : Option Addr} {sl2 : Array (Option Value)} {oc2 kV2 dc2 pm2 cd2 ct2 : Value}
    (a2 : PySem.W.nsIn K mainGlobals "_law_draw" = some (some (.ref f2))) (l2 : K.lookup f2 = some ⟨oc2, od2, .func (PySem.W.fnOf "_law_draw" "_law_draw" (defArgs s__law_draw) (defBody s__law_draw) (defScope s__law_draw) .none kV2 dc2 pm2 an2 cd2 ct2), sl2⟩) (c2 : PySem.W.codeIn K cd2 "_law_draw" = true) (k2 : PySem.W.keepIn K (.ref f2) = true)
    {f3 : Addr} {od3 an3 : Option Addr} {sl3 : Array (Option Value)} {oc3 kV3 dc3 pm3 cd3 ct3 : Value}
    (a3 : PySem.W.nsIn K mainGlobals "_steepest_first" = some (some (.ref f3))) (l3 : K.lookup f3 = some ⟨oc3, od3, .func (PySem.W.fnOf "_steepest_first" "_steepest_first" (defArgs s__steepest_first) (defBody s__steepest_first) (defScope s__steepest_first) .none kV3 dc3 pm3 an3 cd3 ct3), sl3⟩) (c3 : PySem.W.codeIn K cd3 "_steepest_first" = true) (k3 : PySem.W.keepIn K (.ref f3) = true)
    {f4 : Addr} {od4 an4 : Option Addr} {sl4 : Array (Option Value)} {oc4 kV4 dc4 pm4 cd4 ct4 : Value}
    (a4 : PySem.W.nsIn K mainGlobals "low" = some (some (.ref f4))) (l4 : K.lookup f4 = some ⟨oc4, od4, .func (PySem.W.fnOf "low" "low" (defArgs s_low) (defBody s_low) (defScope s_low) .none kV4 dc4 pm4 an4 cd4 ct4), sl4⟩) (c4 : PySem.W.codeIn K cd4 "low" = true) (k4 : PySem.W.keepIn K (.ref f4) = true)
    {f5 : Addr} {od5 an5 : Option Addr} {sl5 : Array (Option Value)} {oc5 kV5 dc5 pm5 cd5 ct5 : Value}
    (a5 : PySem.W.nsIn K mainGlobals "_meets" = some (some (.ref f5))) (l5 : K.lookup f5 = some ⟨oc5, od5, .func (PySem.W.fnOf "_meets" "_meets" (defArgs s__meets) (defBody s__meets) (defScope s__meets) .none kV5 dc5 pm5 an5 cd5 ct5), sl5⟩) (c5 : PySem.W.codeIn K cd5 "_meets" = true) (k5 : PySem.W.keepIn K (.ref f5) = true)
    {f6 : Addr} {od6 an6 : Option Addr} {sl6 : Array (Option Value)} {oc6 kV6 dc6 pm6 cd6 ct6 : Value}
    (a6 : PySem.W.nsIn K mainGlobals "less" = some (some (.ref f6))) (l6 : K.lookup f6 = some ⟨oc6, od6, .func (PySem.W.fnOf "less" "less" (defArgs s_less) (defBody s_less) (defScope s_less) .none kV6 dc6 pm6 an6 cd6 ct6), sl6⟩) (c6 : PySem.W.codeIn K cd6 "less" = true) (k6 : PySem.W.keepIn K (.ref f6) = true)
    {f7 : Addr} {od7 an7 : Option Addr} {sl7 : Array (Option Value)} {oc7 kV7 dc7 pm7 cd7 ct7 : Value}
    (a7 : PySem.W.nsIn K mainGlobals "envelope" = some (some (.ref f7))) (l7 : K.lookup f7 = some ⟨oc7, od7, .func (PySem.W.fnOf "envelope" "envelope" (defArgs s_envelope) (defBody s_envelope) (defScope s_envelope) .none kV7 dc7 pm7 an7 cd7 ct7), sl7⟩) (c7 : PySem.W.codeIn K cd7 "envelope" = true) (k7 : PySem.W.keepIn K (.ref f7) = true)
    {f8 : Addr} {od8 an8 : Option Addr} {sl8 : Array (Option Value)} {oc8 kV8 dc8 pm8 cd8 ct8 : Value}
    (a8 : PySem.W.nsIn K mainGlobals "_law_whole" = some (some (.ref f8))) (l8 : K.lookup f8 = some ⟨oc8, od8, .func (PySem.W.fnOf "_law_whole" "_law_whole" (defArgs s__law_whole) (defBody s__law_whole) (defScope s__law_whole) .none kV8 dc8 pm8 an8 cd8 ct8), sl8⟩) (c8 : PySem.W.codeIn K cd8 "_law_whole" = true) (k8 : PySem.W.keepIn K (.ref f8) = true)
    {f9 : Addr} {od9 an9 : Option Addr} {sl9 : Array (Option Value)} {oc9 kV9 dc9 pm9 cd9 ct9 : Value}
    (a9 : PySem.W.nsIn K mainGlobals "_law_less" = some (some (.ref f9))) (l9 : K.lookup f9 = some ⟨oc9, od9, .func (PySem.W.fnOf "_law_less" "_law_less" (defArgs s__law_less) (defBody s__law_less) (defScope s__law_less) .none kV9 dc9 pm9 an9 cd9 ct9), sl9⟩) (c9 : PySem.W.codeIn K cd9 "_law_less" = true) (k9 : PySem.W.keepIn K (.ref f9) = true)
    {f10 : Addr} {od10 an10 : Option Addr} {sl10 : Array (Option Value)} {oc10 kV10 dc10 pm10 cd10 ct10 : Value}
    (a10 : PySem.W.nsIn K mainGlobals "_law_low" = some (some (.ref f10))) (l10 : K.lookup f10 = some ⟨oc10, od10, .func (PySem.W.fnOf "_law_low" "_law_low" (defArgs s__law_low) (defBody s__law_low) (defScope s__law_low) .none kV10 dc10 pm10 an10 cd10 ct10), sl10⟩) (c10 : PySem.W.codeIn K cd10 "_law_low" = true) (k10 : PySem.W.keepIn K (.ref f10) = true)
    {f11 : Addr} {od11 an11 : Option Addr} {sl11 : Array (Option Value)} {oc11 kV11 dc11 pm11 cd11 ct11 : Value}
    (a11 : PySem.W.nsIn K mainGlobals "_law_is_fraction" = some (some (.ref f11))) (l11 : K.lookup f11 = some ⟨oc11, od11, .func (PySem.W.fnOf "_law_is_fraction" "_law_is_fraction" (defArgs s__law_is_fraction) (defBody s__law_is_fraction) (defScope s__law_is_fraction) .none kV11 dc11 pm11 an11 cd11 ct11), sl11⟩) (c11 : PySem.W.codeIn K cd11 "_law_is_fraction" = true) (k11 : PySem.W.keepIn K (.ref f11) = true)
    {f12 : Addr} {od12 an12 : Option Addr} {sl12 : Array (Option Value)} {oc12 kV12 dc12 pm12 cd12 ct12 : Value}
    (a12 : PySem.W.nsIn K mainGlobals "_law_scaled" = some (some (.ref f12))) (l12 : K.lookup f12 = some ⟨oc12, od12, .func (PySem.W.fnOf "_law_scaled" "_law_scaled" (defArgs s__law_scaled) (defBody s__law_scaled) (defScope s__law_scaled) .none kV12 dc12 pm12 an12 cd12 ct12), sl12⟩) (c12 : PySem.W.codeIn K cd12 "_law_scaled" = true) (k12 : PySem.W.keepIn K (.ref f12) = true)
    {f13 : Addr} {od13 an13 : Option Addr} {sl13 : Array (Option Value)} {oc13 kV13 dc13 pm13 cd13 ct13 : Value}
    (a13 : PySem.W.nsIn K mainGlobals "_law_add" = some (some (.ref f13))) (l13 : K.lookup f13 = some ⟨oc13, od13, .func (PySem.W.fnOf "_law_add" "_law_add" (defArgs s__law_add) (defBody s__law_add) (defScope s__law_add) .none kV13 dc13 pm13 an13 cd13 ct13), sl13⟩) (c13 : PySem.W.codeIn K cd13 "_law_add" = true) (k13 : PySem.W.keepIn K (.ref f13) = true)
    {f14 : Addr} {od14 an14 : Option Addr} {sl14 : Array (Option Value)} {oc14 kV14 dc14 pm14 cd14 ct14 : Value}
    (a14 : PySem.W.nsIn K mainGlobals "_law_line_at" = some (some (.ref f14))) (l14 : K.lookup f14 = some ⟨oc14, od14, .func (PySem.W.fnOf "_law_line_at" "_law_line_at" (defArgs s__law_line_at) (defBody s__law_line_at) (defScope s__law_line_at) .none kV14 dc14 pm14 an14 cd14 ct14), sl14⟩) (c14 : PySem.W.codeIn K cd14 "_law_line_at" = true) (k14 : PySem.W.keepIn K (.ref f14) = true)
    {f15 : Addr} {od15 an15 : Option Addr} {sl15 : Array (Option Value)} {oc15 kV15 dc15 pm15 cd15 ct15 : Value}
    (a15 : PySem.W.nsIn K mainGlobals "_law_other" = some (some (.ref f15))) (l15 : K.lookup f15 = some ⟨oc15, od15, .func (PySem.W.fnOf "_law_other" "_law_other" (defArgs s__law_other) (defBody s__law_other) (defScope s__law_other) .none kV15 dc15 pm15 an15 cd15 ct15), sl15⟩) (c15 : PySem.W.codeIn K cd15 "_law_other" = true) (k15 : PySem.W.keepIn K (.ref f15) = true)
    {f16 : Addr} {od16 an16 : Option Addr} {sl16 : Array (Option Value)} {oc16 kV16 dc16 pm16 cd16 ct16 : Value}
    (a16 : PySem.W.nsIn K mainGlobals "_law_changed" = some (some (.ref f16))) (l16 : K.lookup f16 = some ⟨oc16, od16, .func (PySem.W.fnOf "_law_changed" "_law_changed" (defArgs s__law_changed) (defBody s__law_changed) (defScope s__law_changed) .none kV16 dc16 pm16 an16 cd16 ct16), sl16⟩) (c16 : PySem.W.codeIn K cd16 "_law_changed" = true) (k16 : PySem.W.keepIn K (.ref f16) = true)
    {f17 : Addr} {od17 an17 : Option Addr} {sl17 : Array (Option Value)} {oc17 kV17 dc17 pm17 cd17 ct17 : Value}
    (a17 : PySem.W.nsIn K mainGlobals "_law_like" = some (some (.ref f17))) (l17 : K.lookup f17 = some ⟨oc17, od17, .func (PySem.W.fnOf "_law_like" "_law_like" (defArgs s__law_like) (defBody s__law_like) (defScope s__law_like) .none kV17 dc17 pm17 an17 cd17 ct17), sl17⟩) (c17 : PySem.W.codeIn K cd17 "_law_like" = true) (k17 : PySem.W.keepIn K (.ref f17) = true)
    {f18 : Addr} {od18 an18 : Option Addr} {sl18 : Array (Option Value)} {oc18 kV18 dc18 pm18 cd18 ct18 : Value}
    (a18 : PySem.W.nsIn K mainGlobals "is_pair" = some (some (.ref f18))) (l18 : K.lookup f18 = some ⟨oc18, od18, .func (PySem.W.fnOf "is_pair" "is_pair" (defArgs s_is_pair) (defBody s_is_pair) (defScope s_is_pair) .none kV18 dc18 pm18 an18 cd18 ct18), sl18⟩) (c18 : PySem.W.codeIn K cd18 "is_pair" = true) (k18 : PySem.W.keepIn K (.ref f18) = true)
    {f19 : Addr} {od19 an19 : Option Addr} {sl19 : Array (Option Value)} {oc19 kV19 dc19 pm19 cd19 ct19 : Value}
    (a19 : PySem.W.nsIn K mainGlobals "is_whole" = some (some (.ref f19))) (l19 : K.lookup f19 = some ⟨oc19, od19, .func (PySem.W.fnOf "is_whole" "is_whole" (defArgs s_is_whole) (defBody s_is_whole) (defScope s_is_whole) .none kV19 dc19 pm19 an19 cd19 ct19), sl19⟩) (c19 : PySem.W.codeIn K cd19 "is_whole" = true) (k19 : PySem.W.keepIn K (.ref f19) = true)
    {f20 : Addr} {od20 an20 : Option Addr} {sl20 : Array (Option Value)} {oc20 kV20 dc20 pm20 cd20 ct20 : Value}
    (a20 : PySem.W.nsIn K mainGlobals "is_fraction" = some (some (.ref f20))) (l20 : K.lookup f20 = some ⟨oc20, od20, .func (PySem.W.fnOf "is_fraction" "is_fraction" (defArgs s_is_fraction) (defBody s_is_fraction) (defScope s_is_fraction) .none kV20 dc20 pm20 an20 cd20 ct20), sl20⟩) (c20 : PySem.W.codeIn K cd20 "is_fraction" = true) (k20 : PySem.W.keepIn K (.ref f20) = true)
    {f21 : Addr} {od21 an21 : Option Addr} {sl21 : Array (Option Value)} {oc21 kV21 dc21 pm21 cd21 ct21 : Value}
    (a21 : PySem.W.nsIn K mainGlobals "is_between" = some (some (.ref f21))) (l21 : K.lookup f21 = some ⟨oc21, od21, .func (PySem.W.fnOf "is_between" "is_between" (defArgs s_is_between) (defBody s_is_between) (defScope s_is_between) .none kV21 dc21 pm21 an21 cd21 ct21), sl21⟩) (c21 : PySem.W.codeIn K cd21 "is_between" = true) (k21 : PySem.W.keepIn K (.ref f21) = true)
    {f22 : Addr} {od22 an22 : Option Addr} {sl22 : Array (Option Value)} {oc22 kV22 dc22 pm22 cd22 ct22 : Value}
    (a22 : PySem.W.nsIn K mainGlobals "is_envelope" = some (some (.ref f22))) (l22 : K.lookup f22 = some ⟨oc22, od22, .func (PySem.W.fnOf "is_envelope" "is_envelope" (defArgs s_is_envelope) (defBody s_is_envelope) (defScope s_is_envelope) .none kV22 dc22 pm22 an22 cd22 ct22), sl22⟩) (c22 : PySem.W.codeIn K cd22 "is_envelope" = true) (k22 : PySem.W.keepIn K (.ref f22) = true)
    {f23 : Addr} {od23 an23 : Option Addr} {sl23 : Array (Option Value)} {oc23 kV23 dc23 pm23 cd23 ct23 : Value}
    (a23 : PySem.W.nsIn K mainGlobals "law" = some (some (.ref f23))) (l23 : K.lookup f23 = some ⟨oc23, od23, .func (PySem.W.fnOf "law" "law" (defArgs s_law) (defBody s_law) (defScope s_law) .none kV23 dc23 pm23 an23 cd23 ct23), sl23⟩) (c23 : PySem.W.codeIn K cd23 "law" = true) (k23 : PySem.W.keepIn K (.ref f23) = true)
    (z_abs : PySem.W.nsIn K mainGlobals "abs" = some none)
    (z_all : PySem.W.nsIn K mainGlobals "all" = some none)
    (z_bool : PySem.W.nsIn K mainGlobals "bool" = some none)
    (z_enumerate : PySem.W.nsIn K mainGlobals "enumerate" = some none)
    (z_gcd : PySem.W.nsIn K mainGlobals "gcd" = some (some (.builtin "math.gcd")))
    (z_int : PySem.W.nsIn K mainGlobals "int" = some none)
    (z_isinstance : PySem.W.nsIn K mainGlobals "isinstance" = some none)
    (z_len : PySem.W.nsIn K mainGlobals "len" = some none)
    (z_list : PySem.W.nsIn K mainGlobals "list" = some none)
    (z_range : PySem.W.nsIn K mainGlobals "range" = some none)
    (z_sorted : PySem.W.nsIn K mainGlobals "sorted" = some none)
    (z_str : PySem.W.nsIn K mainGlobals "str" = some none)
    (z_tuple : PySem.W.nsIn K mainGlobals "tuple" = some none) :
    ∃ fd : FuncData, (∀ (s : Shared) (v : Value), BindsTo s fd ⟨[v], []⟩ [("script", v)]) ∧ ∀ base : Heap, K.In base → base.Ns mainGlobals mg → FnOk l.prog w K mg base CX0 11 fa fd ["script"] (spD K 1 specLaw) := by
  have T : Top K mg := ⟨⟨_, _, fun_mk (st := s__law_cell) l0 c0 k0, PySem.W.mg_of X G a0⟩, ⟨_, _, fun_mk (st := s__law_digits) l1 c1 k1, PySem.W.mg_of X G a1⟩, ⟨_, _, fun_mk (st := s__law_draw) l2 c2 k2, PySem.W.mg_of X G a2⟩, ⟨_, _, fun_mk (st := s__steepest_first) l3 c3 k3, PySem.W.mg_of X G a3⟩, ⟨_, _, fun_mk (st := s_low) l4 c4 k4, PySem.W.mg_of X G a4⟩, ⟨_, _, fun_mk (st := s__meets) l5 c5 k5, PySem.W.mg_of X G a5⟩, ⟨_, _, fun_mk (st := s_less) l6 c6 k6, PySem.W.mg_of X G a6⟩, ⟨_, _, fun_mk (st := s_envelope) l7 c7 k7, PySem.W.mg_of X G a7⟩, ⟨_, _, fun_mk (st := s__law_whole) l8 c8 k8, PySem.W.mg_of X G a8⟩, ⟨_, _, fun_mk (st := s__law_less) l9 c9 k9, PySem.W.mg_of X G a9⟩, ⟨_, _, fun_mk (st := s__law_low) l10 c10 k10, PySem.W.mg_of X G a10⟩, ⟨_, _, fun_mk (st := s__law_is_fraction) l11 c11 k11, PySem.W.mg_of X G a11⟩, ⟨_, _, fun_mk (st := s__law_scaled) l12 c12 k12, PySem.W.mg_of X G a12⟩, ⟨_, _, fun_mk (st := s__law_add) l13 c13 k13, PySem.W.mg_of X G a13⟩, ⟨_, _, fun_mk (st := s__law_line_at) l14 c14 k14, PySem.W.mg_of X G a14⟩, ⟨_, _, fun_mk (st := s__law_other) l15 c15 k15, PySem.W.mg_of X G a15⟩, ⟨_, _, fun_mk (st := s__law_changed) l16 c16 k16, PySem.W.mg_of X G a16⟩, ⟨_, _, fun_mk (st := s__law_like) l17 c17 k17, PySem.W.mg_of X G a17⟩, ⟨_, _, fun_mk (st := s_is_pair) l18 c18 k18, PySem.W.mg_of X G a18⟩, ⟨_, _, fun_mk (st := s_is_whole) l19 c19 k19, PySem.W.mg_of X G a19⟩, ⟨_, _, fun_mk (st := s_is_fraction) l20 c20 k20, PySem.W.mg_of X G a20⟩, ⟨_, _, fun_mk (st := s_is_between) l21 c21 k21, PySem.W.mg_of X G a21⟩, ⟨_, _, fun_mk (st := s_is_envelope) l22 c22 k22, PySem.W.mg_of X G a22⟩, ⟨_, _, fun_mk (st := s_law) l23 c23 k23, PySem.W.mg_of X G a23⟩, PySem.W.mg_none_of X G z_abs, PySem.W.mg_none_of X G z_all, PySem.W.mg_none_of X G z_bool, PySem.W.mg_none_of X G z_enumerate, PySem.W.mg_of X G z_gcd, PySem.W.mg_none_of X G z_int, PySem.W.mg_none_of X G z_isinstance, PySem.W.mg_none_of X G z_len, PySem.W.mg_none_of X G z_list, PySem.W.mg_none_of X G z_range, PySem.W.mg_none_of X G z_sorted, PySem.W.mg_none_of X G z_str, PySem.W.mg_none_of X G z_tuple⟩
  have e := hfa.symm.trans (PySem.W.mg_of X G a23)
  cases e
  refine ⟨PySem.W.fnOf "law" "law" (defArgs s_law) (defBody s_law) (defScope s_law) .none kV23 dc23 pm23 an23 cd23 ct23, fun s v => .of_eq rfl, fun base _ _ => ?_⟩
  exact fnok_law T (fun_mk (st := s_law) l23 c23 k23)
end N80
open PySem PySem.W PyProof.Rows
set_option maxHeartbeats 0 in
theorem PySem.Challenge.cw_slopelands_k80_whole_envelope_holds : PySem.Challenge.rw_slopelands_k80_whole_envelope.Holds := by
  w_on; o_law; k_head; (case hw => w_witness2)
  k_fill
  refine L2.walk_of (l := PySem.Challenge.rw_slopelands_k80_whole_envelope) (n := 63) (k := 11) (x := "script") (CX := fun _ => L2.CX0) (sp := fun w => DL.spD _ 1 DL.specLaw) rfl (by decide) rfl ⟨rfl, by decide, by decide⟩ (fun w h Y => PySem.W.kIn_of Y) ?F (fun _ _ a ns hl ho hS => DL.law_sp hl ho hS) (fun _ _ _ _ _ h => h)
  case F =>
    intro w mg fa h KX G hmg
    refine' N80.all_mk KX G hmg ?a0 ?l0 ?c0 ?k0 ?a1 ?l1 ?c1 ?k1 ?a2 ?l2 ?c2 ?k2 ?a3 ?l3 ?c3 ?k3 ?a4 ?l4 ?c4 ?k4 ?a5 ?l5 ?c5 ?k5 ?a6 ?l6 ?c6 ?k6 ?a7 ?l7 ?c7 ?k7 ?a8 ?l8 ?c8 ?k8 ?a9 ?l9 ?c9 ?k9 ?a10 ?l10 ?c10 ?k10 ?a11 ?l11 ?c11 ?k11 ?a12 ?l12 ?c12 ?k12 ?a13 ?l13 ?c13 ?k13 ?a14 ?l14 ?c14 ?k14 ?a15 ?l15 ?c15 ?k15 ?a16 ?l16 ?c16 ?k16 ?a17 ?l17 ?c17 ?k17 ?a18 ?l18 ?c18 ?k18 ?a19 ?l19 ?c19 ?k19 ?a20 ?l20 ?c20 ?k20 ?a21 ?l21 ?c21 ?k21 ?a22 ?l22 ?c22 ?k22 ?a23 ?l23 ?c23 ?k23 ?z_abs ?z_all ?z_bool ?z_enumerate ?z_gcd ?z_int ?z_isinstance ?z_len ?z_list ?z_range ?z_sorted ?z_str ?z_tuple
    (case a0 => k_is); (case l0 => k_is); (case c0 => k_is); (case k0 => k_is); (case a1 => k_is); (case l1 => k_is); (case c1 => k_is); (case k1 => k_is); (case a2 => k_is); (case l2 => k_is); (case c2 => k_is); (case k2 => k_is); (case a3 => k_is); (case l3 => k_is); (case c3 => k_is); (case k3 => k_is); (case a4 => k_is); (case l4 => k_is); (case c4 => k_is); (case k4 => k_is); (case a5 => k_is); (case l5 => k_is); (case c5 => k_is); (case k5 => k_is); (case a6 => k_is); (case l6 => k_is); (case c6 => k_is); (case k6 => k_is); (case a7 => k_is); (case l7 => k_is); (case c7 => k_is); (case k7 => k_is); (case a8 => k_is); (case l8 => k_is); (case c8 => k_is); (case k8 => k_is); (case a9 => k_is); (case l9 => k_is); (case c9 => k_is); (case k9 => k_is); (case a10 => k_is); (case l10 => k_is); (case c10 => k_is); (case k10 => k_is); (case a11 => k_is); (case l11 => k_is); (case c11 => k_is); (case k11 => k_is); (case a12 => k_is); (case l12 => k_is); (case c12 => k_is); (case k12 => k_is); (case a13 => k_is); (case l13 => k_is); (case c13 => k_is); (case k13 => k_is); (case a14 => k_is); (case l14 => k_is); (case c14 => k_is); (case k14 => k_is); (case a15 => k_is); (case l15 => k_is); (case c15 => k_is); (case k15 => k_is); (case a16 => k_is); (case l16 => k_is); (case c16 => k_is); (case k16 => k_is); (case a17 => k_is); (case l17 => k_is); (case c17 => k_is); (case k17 => k_is); (case a18 => k_is); (case l18 => k_is); (case c18 => k_is); (case k18 => k_is); (case a19 => k_is); (case l19 => k_is); (case c19 => k_is); (case k19 => k_is); (case a20 => k_is); (case l20 => k_is); (case c20 => k_is); (case k20 => k_is); (case a21 => k_is); (case l21 => k_is); (case c21 => k_is); (case k21 => k_is); (case a22 => k_is); (case l22 => k_is); (case c22 => k_is); (case k22 => k_is); (case a23 => k_is); (case l23 => k_is); (case c23 => k_is); (case k23 => k_is); (case z_abs => k_is); (case z_all => k_is); (case z_bool => k_is); (case z_enumerate => k_is); (case z_gcd => k_is); (case z_int => k_is); (case z_isinstance => k_is); (case z_len => k_is); (case z_list => k_is); (case z_range => k_is); (case z_sorted => k_is); (case z_str => k_is); (case z_tuple => k_is)
