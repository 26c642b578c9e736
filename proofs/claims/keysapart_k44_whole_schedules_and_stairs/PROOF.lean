import PyProof.Rows.All
import Wide.All
import OpenK.AllK
import Wide.FinOn
import HandS.ForMost
import HandS.Walk
import HandS.SortInts
import HandS.TupAny
import HandS.Style
import HandS.IsInst
import HandS.WordsDict
import HandS.More
import HandS.ListItems
import HandS.Zip
import HandS.Defaults
import HandS.Deep
import HandS.Wide
import PyProof.Draws
import KE.GoesMore
import KE.GoesEnum
import PySem.Challenge.RW_keysapart_k44_whole_schedules_and_stairs
set_option Elab.async false
set_option linter.all false
set_option maxRecDepth 100000
set_option maxHeartbeats 1000000
/-! PM: values as trees; what stands for them in the heap. -/
namespace PM
open PySem L2

inductive PV where
  | non | bl (b : Bool) | int (i : Int) | str (x : Str)
  | tup (xs : List PV) | lst (xs : List PV) | dic (ks : List Key) (vs : List PV)
  | obj (C : Addr) (ns : List Str) (vs : List PV)
  | ref (a : Addr) | src | scr (ns : List Int)

/-- sources of draws, in pairs of places -/
abbrev Ws := List (Addr × Addr)
def inW (W : Ws) (b : Addr) : Prop := ∃ p ∈ W, b = p.1 ∨ b = p.2
-- SOURCE FORM
/-- what stands at a source -/
def SA (H : Hp) (p : Addr × Addr) : Prop :=
  p.1 ≠ p.2 ∧ ∃ (cs : List Nat) (s : Nat), cs.length ≤ 63 ∧ s < 2147483647 ∧ H p.1 = some (.lst [.ref p.2, .int (s : Int)]) ∧ H p.2 = some (.lst (cs.map fun (c : Nat) => V.int (c : Int)))
theorem SA.at {H H' : Hp} {p : Addr × Addr} (h1 : H' p.1 = H p.1) (h2 : H' p.2 = H p.2) (h : SA H p) : SA H' p := by
  obtain ⟨n, cs, s, hl, hs, a, b⟩ := h
  exact ⟨n, cs, s, hl, hs, by rw [h1]; exact a, by rw [h2]; exact b⟩
theorem SA.some {H : Hp} {p : Addr × Addr} (h : SA H p) : (∃ o, H p.1 = some o) ∧ ∃ o, H p.2 = some o := by
  obtain ⟨n, cs, s, hl, hs, a, b⟩ := h
  exact ⟨⟨_, a⟩, _, b⟩
-- SOURCE FORM ENDS
theorem inW_some {H : Hp} {W : Ws} (h : ∀ p ∈ W, SA H p) {b : Addr} (hb : inW W b) : ∃ o, H b = some o := by
  obtain ⟨p, hp, e | e⟩ := hb
  · rw [e]; exact (h p hp).some.1
  · rw [e]; exact (h p hp).some.2

/-- a heap with what is to be avoided -/
structure Wd where
  Z : Addr → Prop
  W : Ws
  H : Hp
def KTup (K : PySem.W.Frag) (a : Addr) (xs : List V) : Prop := ∃ (o : Obj) (its : Array Value) (n : Nat), K.lookup a = some o ∧ o.cls = .type "tuple" ∧ o.data = .seq its n ∧ its.size ≤ sizeLine ∧ Vals xs its.toList
def KLst (K : PySem.W.Frag) (a : Addr) (xs : List V) : Prop := ∃ (o : Obj) (its : Array Value) (n : Nat), K.lookup a = some o ∧ o.cls = .type "list" ∧ o.dict = none ∧ o.data = .seq its n ∧ its.size ≤ sizeLine ∧ Vals xs its.toList
def TupAt (K : PySem.W.Frag) (S : Wd) (a : Addr) (xs : List V) : Prop := (¬ S.Z a ∧ S.H a = some (.tup xs)) ∨ KTup K a xs
def LstAt (S : Wd) (a : Addr) (xs : List V) : Prop := ¬ S.Z a ∧ S.H a = some (.lst xs)
theorem TupAt.sq {K : PySem.W.Frag} {S : Wd} {a : Addr} {xs : List V} (h : TupAt K S a xs) : SqT K S.H a xs := h.elim (fun x => .inl (.inl x.2)) .inr
theorem LstAt.sq {K : PySem.W.Frag} {S : Wd} {a : Addr} {xs : List V} (h : LstAt S a xs) : SqL K S.H a xs := .inl (.inl h.2)

mutual
def Rp (K : PySem.W.Frag) (S : Wd) : PV → V → Prop
  | .non, v => v = .non
  | .bl b, v => v = .bl b
  | .int i, v => v = .int i
  | .str x, v => v = .str x
  | .ref a, v => v = .ref a
  | .src, v => ∃ p ∈ S.W, v = .ref p.1
  | .scr ns, v => ∃ a, v = .ref a ∧ ((¬ S.Z a ∧ ∃ o, S.H a = some (.frz o (.lst (ns.map V.int)))) ∨ KLst K a (ns.map V.int))
  | .tup ps, v => ∃ a vs, v = .ref a ∧ TupAt K S a vs ∧ Rps K S ps vs
  | .lst ps, v => ∃ a vs, v = .ref a ∧ LstAt S a vs ∧ Rps K S ps vs
  | .dic ks ps, v => ∃ a vs, v = .ref a ∧ ¬ S.Z a ∧ S.H a = some (.dK (ks.zip vs)) ∧ ks.length = vs.length ∧ Rps K S ps vs
  | .obj C ns ps, v => ∃ a dx vs, v = .ref a ∧ ¬ S.Z a ∧ S.H a = some (.ins C dx (ns.zip vs)) ∧ ns.length = vs.length ∧ Rps K S ps vs
def Rps (K : PySem.W.Frag) (S : Wd) : List PV → List V → Prop
  | [], vs => vs = []
  | p :: ps, vs => ∃ v r, vs = v :: r ∧ Rp K S p v ∧ Rps K S ps r
end

structure Ext (S S' : Wd) : Prop where
  keep : ∀ b o, ¬ S.Z b → S.H b = some o → ¬ S'.Z b ∧ S'.H b = some o
  srcs : ∀ p ∈ S.W, p ∈ S'.W
theorem Ext.trans {S S' S'' : Wd} (x : Ext S S') (y : Ext S' S'') : Ext S S'' :=
  ⟨fun b o h e => let ⟨h1, e1⟩ := x.keep b o h e; y.keep b o h1 e1, fun p hp => y.srcs p (x.srcs p hp)⟩
section
variable {K : PySem.W.Frag} {S S' : Wd}
theorem TupAt.ext (x : Ext S S') {a : Addr} {xs : List V} (h : TupAt K S a xs) : TupAt K S' a xs := h.elim (fun y => .inl (x.keep a _ y.1 y.2)) .inr
theorem LstAt.ext (x : Ext S S') {a : Addr} {xs : List V} (h : LstAt S a xs) : LstAt S' a xs := x.keep a _ h.1 h.2
mutual
theorem Rp.ext (x : Ext S S') : ∀ {p : PV} {v : V}, Rp K S p v → Rp K S' p v
  | .non, _, h => h
  | .bl _, _, h => h
  | .int _, _, h => h
  | .str _, _, h => h
  | .ref _, _, h => h
  | .src, _, h => by
    unfold Rp at h ⊢
    obtain ⟨p, hp, e⟩ := h
    exact ⟨p, x.srcs p hp, e⟩
  | .scr ns, _, h => by
    unfold Rp at h ⊢
    obtain ⟨a, e, h⟩ := h
    rcases h with ⟨h1, o, h2⟩ | h
    · exact ⟨a, e, .inl ⟨(x.keep a _ h1 h2).1, o, (x.keep a _ h1 h2).2⟩⟩
    · exact ⟨a, e, .inr h⟩
  | .tup ps, _, h => by
    unfold Rp at h ⊢
    obtain ⟨a, vs, e, h1, h2⟩ := h
    exact ⟨a, vs, e, h1.ext x, Rps.ext x h2⟩
  | .lst ps, _, h => by
    unfold Rp at h ⊢
    obtain ⟨a, vs, e, h1, h2⟩ := h
    exact ⟨a, vs, e, h1.ext x, Rps.ext x h2⟩
  | .dic ks ps, _, h => by
    unfold Rp at h ⊢
    obtain ⟨a, vs, e, h0, h1, hl, h2⟩ := h
    exact ⟨a, vs, e, (x.keep a _ h0 h1).1, (x.keep a _ h0 h1).2, hl, Rps.ext x h2⟩
  | .obj C ns ps, _, h => by
    unfold Rp at h ⊢
    obtain ⟨a, dx, vs, e, h0, h1, hl, h2⟩ := h
    exact ⟨a, dx, vs, e, (x.keep a _ h0 h1).1, (x.keep a _ h0 h1).2, hl, Rps.ext x h2⟩
theorem Rps.ext (x : Ext S S') : ∀ {ps : List PV} {vs : List V}, Rps K S ps vs → Rps K S' ps vs
  | [], _, h => h
  | p :: ps, _, h => by
    unfold Rps at h ⊢
    obtain ⟨v, r, e, h1, h2⟩ := h
    exact ⟨v, r, e, Rp.ext x h1, Rps.ext x h2⟩
end
theorem Rps.len : ∀ {ps : List PV} {vs : List V}, Rps K S ps vs → ps.length = vs.length
  | [], _, h => by unfold Rps at h; rw [h]; rfl
  | p :: ps, _, h => by
    unfold Rps at h
    obtain ⟨v, r, e, h1, h2⟩ := h
    rw [e, List.length_cons, List.length_cons, Rps.len h2]
theorem Rps.nil : Rps K S [] [] := by unfold Rps; rfl
theorem Rps.cons {p : PV} {ps : List PV} {v : V} {vs : List V} (h : Rp K S p v) (t : Rps K S ps vs) : Rps K S (p :: ps) (v :: vs) := by unfold Rps; exact ⟨v, vs, rfl, h, t⟩
theorem Rps.cons_inv {p : PV} {ps : List PV} {v : V} {vs : List V} (h : Rps K S (p :: ps) (v :: vs)) : Rp K S p v ∧ Rps K S ps vs := by
  unfold Rps at h
  obtain ⟨_, _, e, h1, h2⟩ := h
  cases e
  exact ⟨h1, h2⟩
theorem Rps.get : ∀ {ps : List PV} {vs : List V} {i : Nat} {p : PV}, Rps K S ps vs → ps[i]? = some p → ∃ v, vs[i]? = some v ∧ Rp K S p v
  | [], _, _, _, _, e => by simp at e
  | q :: ps, _, 0, p, h, e => by
    unfold Rps at h
    obtain ⟨v, r, e1, h1, h2⟩ := h
    subst e1
    simp at e
    subst e
    exact ⟨v, by simp, h1⟩
  | q :: ps, _, i + 1, p, h, e => by
    unfold Rps at h
    obtain ⟨v, r, e1, h1, h2⟩ := h
    subst e1
    obtain ⟨w, e2, h3⟩ := Rps.get (i := i) (p := p) h2 (by simpa using e)
    exact ⟨w, by simpa using e2, h3⟩
theorem Rps.append : ∀ {ps qs : List PV} {vs ws : List V}, Rps K S ps vs → Rps K S qs ws → Rps K S (ps ++ qs) (vs ++ ws)
  | [], _, _, _, h, h' => by unfold Rps at h; subst h; exact h'
  | p :: ps, _, _, _, h, h' => by
    unfold Rps at h
    obtain ⟨v, r, e, h1, h2⟩ := h
    subst e
    exact Rps.cons h1 (Rps.append h2 h')
theorem Rps.take : ∀ {ps : List PV} {vs : List V} (n : Nat), Rps K S ps vs → Rps K S (ps.take n) (vs.take n)
  | [], _, _, h => by unfold Rps at h; subst h; simp; exact Rps.nil
  | p :: ps, _, 0, h => by simp; exact Rps.nil
  | p :: ps, _, n + 1, h => by
    unfold Rps at h
    obtain ⟨v, r, e, h1, h2⟩ := h
    subst e
    exact Rps.cons h1 (Rps.take n h2)
theorem Rps.drop : ∀ {ps : List PV} {vs : List V} (n : Nat), Rps K S ps vs → Rps K S (ps.drop n) (vs.drop n)
  | [], _, _, h => by unfold Rps at h; subst h; simp; exact Rps.nil
  | p :: ps, _, 0, h => h
  | p :: ps, _, n + 1, h => by
    unfold Rps at h
    obtain ⟨v, r, e, h1, h2⟩ := h
    subst e
    exact Rps.drop n h2
theorem Rps.set {p : PV} {v : V} (hp : Rp K S p v) : ∀ {ps : List PV} {vs : List V} (n : Nat), Rps K S ps vs → Rps K S (ps.set n p) (vs.set n v)
  | [], _, _, h => by unfold Rps at h; subst h; exact Rps.nil
  | q :: ps, _, 0, h => by
    unfold Rps at h
    obtain ⟨w, r, e, h1, h2⟩ := h
    subst e
    exact Rps.cons hp h2
  | q :: ps, _, n + 1, h => by
    unfold Rps at h
    obtain ⟨w, r, e, h1, h2⟩ := h
    subst e
    exact Rps.cons h1 (Rps.set hp n h2)
theorem Rps.reverse : ∀ {ps : List PV} {vs : List V}, Rps K S ps vs → Rps K S ps.reverse vs.reverse
  | [], _, h => by unfold Rps at h; subst h; exact Rps.nil
  | p :: ps, _, h => by
    unfold Rps at h
    obtain ⟨v, r, e, h1, h2⟩ := h
    subst e
    rw [List.reverse_cons, List.reverse_cons]
    exact Rps.append (Rps.reverse h2) (Rps.cons h1 Rps.nil)
theorem Rps.eraseIdx : ∀ {ps : List PV} {vs : List V} (n : Nat), Rps K S ps vs → Rps K S (ps.eraseIdx n) (vs.eraseIdx n)
  | [], _, _, h => by unfold Rps at h; subst h; exact Rps.nil
  | q :: ps, _, 0, h => by
    unfold Rps at h
    obtain ⟨w, r, e, h1, h2⟩ := h
    subst e
    exact h2
  | q :: ps, _, n + 1, h => by
    unfold Rps at h
    obtain ⟨w, r, e, h1, h2⟩ := h
    subst e
    exact Rps.cons h1 (Rps.eraseIdx n h2)
theorem Rps.ints : ∀ {ns : List Int} {vs : List V}, Rps K S (ns.map PV.int) vs ↔ vs = ns.map V.int
  | [], _ => by unfold Rps; rfl
  | n :: ns, vs => by
    constructor
    · intro h
      rw [List.map_cons] at h
      unfold Rps at h
      obtain ⟨v, r, e, h1, h2⟩ := h
      unfold Rp at h1
      rw [e, h1, Rps.ints.mp h2]
      rfl
    · intro h
      rw [h, List.map_cons, List.map_cons]
      exact Rps.cons (by unfold Rp; rfl) (Rps.ints.mpr rfl)
theorem Rps.strs : ∀ {ns : List Str} {vs : List V}, Rps K S (ns.map PV.str) vs ↔ vs = ns.map V.str
  | [], _ => by unfold Rps; rfl
  | n :: ns, vs => by
    constructor
    · intro h
      rw [List.map_cons] at h
      unfold Rps at h
      obtain ⟨v, r, e, h1, h2⟩ := h
      unfold Rp at h1
      rw [e, h1, Rps.strs.mp h2]
      rfl
    · intro h
      rw [h, List.map_cons, List.map_cons]
      exact Rps.cons (by unfold Rp; rfl) (Rps.strs.mpr rfl)
theorem Rps.bls : ∀ {ns : List Bool} {vs : List V}, Rps K S (ns.map PV.bl) vs ↔ vs = ns.map V.bl
  | [], _ => by unfold Rps; rfl
  | n :: ns, vs => by
    constructor
    · intro h
      rw [List.map_cons] at h
      unfold Rps at h
      obtain ⟨v, r, e, h1, h2⟩ := h
      unfold Rp at h1
      rw [e, h1, Rps.bls.mp h2]
      rfl
    · intro h
      rw [h, List.map_cons, List.map_cons]
      exact Rps.cons (by unfold Rp; rfl) (Rps.bls.mpr rfl)
end

/-- as Rp, but the list at the root may be one's own -/
def RpO (K : PySem.W.Frag) (S : Wd) : PV → V → Prop
  | .lst ps, v => ∃ a vs, v = .ref a ∧ (¬ inW S.W a ∧ S.H a = some (.lst vs)) ∧ Rps K S ps vs
  | .dic ks ps, v => ∃ a vs, v = .ref a ∧ ¬ inW S.W a ∧ S.H a = some (.dK (ks.zip vs)) ∧ ks.length = vs.length ∧ Rps K S ps vs
  | p, v => Rp K S p v
/-- what stands at a, its parts clean -/
def OwnAt (K : PySem.W.Frag) (S : Wd) (a : Addr) : PV → Prop
  | .lst ps => ∃ vs, S.H a = some (.lst vs) ∧ Rps K S ps vs
  | .dic ks ps => ∃ vs, S.H a = some (.dK (ks.zip vs)) ∧ ks.length = vs.length ∧ Rps K S ps vs
  | .obj C ns ps => ∃ dx vs, S.H a = some (.ins C dx (ns.zip vs)) ∧ ns.length = vs.length ∧ Rps K S ps vs
  | _ => False

/-! ### what an expression's value is: clean, its root perhaps one's own, newly made -/
inductive Md where | cl | ow | fr deriving DecidableEq
/-- all that was tracked stays, but the sources; these keep their form -/
structure Grow (W : Ws) (H H' : Hp) : Prop where
  keep : ∀ b o, ¬ inW W b → H b = some o → H' b = some o
  src : ∀ p ∈ W, SA H' p
theorem Grow.trans {W : Ws} {H H1 H2 : Hp} (a : Grow W H H1) (b : Grow W H1 H2) : Grow W H H2 := ⟨fun c o n e => b.keep c o n (a.keep c o n e), b.src⟩
theorem Grow.refl {W : Ws} {H : Hp} (h : ∀ p ∈ W, SA H p) : Grow W H H := ⟨fun _ _ _ e => e, h⟩
theorem Grow.free {W : Ws} {H H1 : Hp} (g : Grow W H H1) {a : Addr} (h : H1 a = none) : H a = none := by
  cases e : H a with
  | none => rfl
  | some o =>
    by_cases w : inW W a
    · obtain ⟨u, e1⟩ := inW_some g.src w
      rw [h] at e1; cases e1
    · rw [g.keep a o w e] at h; cases h
theorem Grow.ext {Z : Addr → Prop} {W : Ws} {H H' : Hp} (g : Grow W H H') (hz : ∀ b, inW W b → Z b) : Ext ⟨Z, W, H⟩ ⟨Z, W, H'⟩ := ⟨fun b o h e => ⟨h, g.keep b o (fun w => h (hz b w)) e⟩, fun _ h => h⟩
/-- a new object -/
theorem Grow.new {W : Ws} {H : Hp} (h : ∀ p ∈ W, SA H p) {a : Addr} {o : HO} (n : H a = none) : Grow W H (upd H a o) := by
  have k : ∀ b u, H b = some u → upd H a o b = some u := fun b u e => by rw [upd_ne (ne_of_none e n)]; exact e
  refine ⟨fun b u _ e => k b u e, fun p hp => ?_⟩
  obtain ⟨⟨_, e1⟩, _, e2⟩ := (h p hp).some
  exact SA.at (by rw [k _ _ e1, e1]) (by rw [k _ _ e2, e2]) (h p hp)
def VK1 (K : PySem.W.Frag) (md : Md) (Z : Addr → Prop) (W : Ws) (H H' : Hp) (p : PV) (v : V) : Prop :=
  match md with
  | .cl => Rp K ⟨Z, W, H'⟩ p v
  | .ow => RpO K ⟨Z, W, H'⟩ p v
  | .fr => ∃ a, v = .ref a ∧ H a = none ∧ OwnAt K ⟨fun b => Z b ∨ b = a, W, H'⟩ a p
section
variable {K : PySem.W.Frag} {Z Z' : Addr → Prop} {W : Ws} {H H1 H' : Hp} {p : PV} {v : V}
theorem Rp.ow (hz : ∀ b, inW W b → Z b) (h : Rp K ⟨Z, W, H⟩ p v) : RpO K ⟨Z, W, H⟩ p v := by
  cases p with
  | lst ps =>
    unfold Rp at h
    obtain ⟨a, vs, e, h1, h2⟩ := h
    exact ⟨a, vs, e, ⟨fun w => h1.1 (hz a w), h1.2⟩, h2⟩
  | dic ks ps =>
    unfold Rp at h
    obtain ⟨a, vs, e, h0, h1⟩ := h
    exact ⟨a, vs, e, fun w => h0 (hz a w), h1⟩
  | _ => exact h
theorem ext_less (h : ∀ b, Z' b → Z b) : Ext ⟨Z, W, H⟩ ⟨Z', W, H⟩ := ⟨fun b o n e => ⟨fun z => n (h b z), e⟩, fun _ h => h⟩
/-- newly made is clean -/
theorem OwnAt.cl {a : Addr} (hz : ¬ Z a) (h : OwnAt K ⟨fun b => Z b ∨ b = a, W, H⟩ a p) : Rp K ⟨Z, W, H⟩ p (.ref a) := by
  have x : Ext ⟨fun b => Z b ∨ b = a, W, H⟩ ⟨Z, W, H⟩ := ext_less fun b => .inl
  cases p with
  | lst ps =>
    obtain ⟨vs, e, r⟩ := h
    unfold Rp
    exact ⟨a, vs, rfl, ⟨hz, e⟩, Rps.ext x r⟩
  | dic ks ps =>
    obtain ⟨vs, e, l, r⟩ := h
    unfold Rp
    exact ⟨a, vs, rfl, hz, e, l, Rps.ext x r⟩
  | obj C ns ps =>
    obtain ⟨dx, vs, e, l, r⟩ := h
    unfold Rp
    exact ⟨a, dx, vs, rfl, hz, e, l, Rps.ext x r⟩
  | _ => exact h.elim
theorem VK1.cl (hd : ∀ b, Z b → ∃ o, H b = some o) (h : VK1 K .fr Z W H H' p v) : VK1 K .cl Z W H H' p v := by
  obtain ⟨a, rfl, n, o⟩ := h
  exact o.cl fun z => by
    obtain ⟨u, e⟩ := hd a z
    rw [n] at e; cases e
theorem RpO.grow (hz : ∀ b, inW W b → Z b) (g : Grow W H H') (h : RpO K ⟨Z, W, H⟩ p v) : RpO K ⟨Z, W, H'⟩ p v := by
  cases p with
  | lst ps =>
    obtain ⟨a, vs, e, h1, h2⟩ := h
    exact ⟨a, vs, e, ⟨h1.1, g.keep a _ h1.1 h1.2⟩, Rps.ext (g.ext hz) h2⟩
  | dic ks ps =>
    obtain ⟨a, vs, e, h0, h1, l, h2⟩ := h
    exact ⟨a, vs, e, h0, g.keep a _ h0 h1, l, Rps.ext (g.ext hz) h2⟩
  | non => exact Rp.ext (g.ext hz) h
  | bl _ => exact Rp.ext (g.ext hz) h
  | int _ => exact Rp.ext (g.ext hz) h
  | str _ => exact Rp.ext (g.ext hz) h
  | ref _ => exact Rp.ext (g.ext hz) h
  | src => exact Rp.ext (g.ext hz) h
  | scr _ => exact Rp.ext (g.ext hz) h
  | tup _ => exact Rp.ext (g.ext hz) h
  | obj _ _ _ => exact Rp.ext (g.ext hz) h
end

/-! ### a def's state -/
/-- how a name holds its list: shared, its own, its own and locked -/
inductive Ow where | sh | ow | lk deriving DecidableEq
abbrev Env := List (Option PV)
/-- what is fixed while a def runs -/
structure Gh where
  gw : Bool
  zb : Addr → Prop
  W0 : Ws
  H0 : Hp
  fz : Hp
  Wm : Ws
  pins : List (Nat × Addr × HO)
def cO (c : List Ow) (i : Nat) : Ow := c.getD i .sh
def Zt (G : Gh) (A : Nat → Option Addr) (W : Ws) : Addr → Prop := fun b => G.zb b ∨ inW W b ∨ ∃ i, A i = some b
structure SR (K : PySem.W.Frag) (G : Gh) (c : List Ow) (A : Nat → Option Addr) (W : Ws) (env : Env) (σ : St) (H : Hp) : Prop where
  len : env.length = σ.length
  W0in : ∀ p ∈ G.W0, p ∈ W
  Wmin : ∀ p ∈ G.Wm, p ∈ W
  Wnew : ∀ p ∈ W, p ∈ G.W0 ∨ (G.H0 p.1 = none ∧ G.H0 p.2 = none)
  Wfix : G.gw = false → W = G.W0
  src : ∀ p ∈ W, SA H p
  keep : ∀ b o, ¬ inW G.W0 b → G.H0 b = some o → H b = some o
  zbt : ∀ b, G.zb b → ∃ o, H b = some o
  Asep : ∀ i a, A i = some a → G.H0 a = none ∧ ¬ inW W a ∧ ¬ G.zb a ∧ cO c i ≠ .sh ∧ ∃ o, H a = some o
  Ainj : ∀ i j a, A i = some a → A j = some a → i = j
  Aset : ∀ i p, cO c i ≠ .sh → env[i]? = some (some p) → ∃ a, A i = some a
  slots : ∀ i p, env[i]? = some (some p) → ∃ v, σ[i]? = some (some v) ∧
    match A i with
    | none => Rp K ⟨Zt G A W, W, H⟩ p v
    | some a => v = .ref a ∧ OwnAt K ⟨Zt G A W, W, H⟩ a p
  pins : ∀ q ∈ G.pins, H q.2.1 = some q.2.2 ∧ ¬ inW W q.2.1 ∧ A q.1 = some q.2.1 ∧ cO c q.1 = .lk
  fz : ∀ b o, G.fz b = some o → H b = some o ∧ ¬ Zt G A W b
section
variable {K : PySem.W.Frag} {G : Gh} {c : List Ow} {A : Nat → Option Addr} {W : Ws} {env : Env} {σ : St} {H H' : Hp}
theorem Zt.w {b : Addr} (h : inW W b) : Zt G A W b := .inr (.inl h)
theorem SR.zt (R : SR K G c A W env σ H) {b : Addr} (h : Zt G A W b) : ∃ o, H b = some o := by
  rcases h with h | h | ⟨i, h⟩
  · exact R.zbt b h
  · exact inW_some R.src h
  · exact (R.Asep i b h).2.2.2.2
theorem OwnAt.ext {S S' : Wd} (x : Ext S S') {a : Addr} (e : S'.H a = S.H a) {p : PV} (h : OwnAt K S a p) : OwnAt K S' a p := by
  cases p with
  | lst ps => obtain ⟨vs, h1, h2⟩ := h; exact ⟨vs, by rw [e]; exact h1, Rps.ext x h2⟩
  | dic ks ps => obtain ⟨vs, h1, l, h2⟩ := h; exact ⟨vs, by rw [e]; exact h1, l, Rps.ext x h2⟩
  | obj C ns ps => obtain ⟨dx, vs, h1, l, h2⟩ := h; exact ⟨dx, vs, by rw [e]; exact h1, l, Rps.ext x h2⟩
  | _ => exact h.elim
theorem SR.grow (R : SR K G c A W env σ H) (g : Grow W H H') : SR K G c A W env σ H' := by
  have x : Ext ⟨Zt G A W, W, H⟩ ⟨Zt G A W, W, H'⟩ := g.ext fun b => Zt.w
  have kA : ∀ i a, A i = some a → H' a = H a := fun i a e => by
    obtain ⟨_, n, _, _, o, ho⟩ := R.Asep i a e
    rw [ho, g.keep a o n ho]
  refine ⟨R.len, R.W0in, R.Wmin, R.Wnew, R.Wfix, g.src, fun b o n e => ?_, fun b hb => ?_, fun i a e => ?_, R.Ainj, R.Aset, fun i p e => ?_, fun q hq => ?_, fun b o e => ?_⟩
  · refine g.keep b o (fun w => ?_) (R.keep b o n e)
    obtain ⟨p, hp, hb⟩ := w
    rcases R.Wnew p hp with z | ⟨z1, z2⟩
    · exact n ⟨p, z, hb⟩
    · rcases hb with hb | hb
      · rw [hb, z1] at e; cases e
      · rw [hb, z2] at e; cases e
  · obtain ⟨o, e⟩ := R.zbt b hb
    by_cases w : inW W b
    · exact inW_some g.src w
    · exact ⟨o, g.keep b o w e⟩
  · obtain ⟨h1, h2, h3, h4, o, h5⟩ := R.Asep i a e
    exact ⟨h1, h2, h3, h4, o, g.keep a o h2 h5⟩
  · obtain ⟨v, h1, h2⟩ := R.slots i p e
    refine ⟨v, h1, ?_⟩
    cases hA : A i with
    | none => rw [hA] at h2; exact Rp.ext x h2
    | some a => rw [hA] at h2; exact ⟨h2.1, h2.2.ext x (kA i a hA)⟩
  · obtain ⟨h1, h2, h3⟩ := R.pins q hq
    exact ⟨g.keep _ _ h2 h1, h2, h3⟩
  · obtain ⟨h1, h2⟩ := R.fz b o e
    exact ⟨g.keep b o (fun w => h2 (Zt.w w)) h1, h2⟩
end
end PM

set_option maxHeartbeats 1000000
/-! PM: expressions. -/
namespace PM
open PySem L2

abbrev TEm := Env → (PV → Prop) → Prop
abbrev TAm := Env → (List PV → Prop) → Prop
abbrev TTm := Env → (Bool → Prop) → Prop
def tmE (K : PySem.W.Frag) (c : List Ow) (md : Md) (t : TEm) : TE := fun σ H Q => ∃ G A W env P, SR K G c A W env σ H ∧ t env P ∧ ∀ p v H', Grow W H H' → VK1 K md (Zt G A W) W H H' p v → P p → Q v H'
def tmT (K : PySem.W.Frag) (c : List Ow) (t : TTm) : TT := fun σ H Q => ∃ G A W env P, SR K G c A W env σ H ∧ t env P ∧ ∀ b H', Grow W H H' → P b → Q b H'
def VKs (K : PySem.W.Frag) (md : Md) (Z : Addr → Prop) (W : Ws) (H : Hp) : List PV → List V → Prop := Paired (match md with
  | .ow => RpO K ⟨Z, W, H⟩
  | _ => Rp K ⟨Z, W, H⟩)
def tmA (K : PySem.W.Frag) (c : List Ow) (md : Md) (t : TAm) : TA := fun σ H Q => ∃ G A W env P, SR K G c A W env σ H ∧ t env P ∧ ∀ ps vs H', Grow W H H' → VKs K md (Zt G A W) W H' ps vs → P ps → Q vs H'
structure PEm (X : Cx) (c : List Ow) (md : Md) (e : Expr) (t : TEm) : Prop where
  run : PE X e (tmE X.K c md t)
structure PTm (X : Cx) (c : List Ow) (e : Expr) (t : TTm) : Prop where
  run : PT X e (tmT X.K c t)
structure PWm (X : Cx) (c : List Ow) (e : Expr) (t : TTm) : Prop where
  run : PW X e (tmT X.K c t)
structure PAm (X : Cx) (c : List Ow) (md : Md) (es : List Expr) (t : TAm) : Prop where
  run : PA X es (tmA X.K c md t)
theorem _root_.L2.PE.weak {X : Cx} {e : Expr} {t t' : TE} (h : PE X e t) (k : ∀ σ H Q, t' σ H Q → t σ H Q) : PE X e t' := ⟨fun pins s σ H Q I x => h.run pins s σ H Q I (k σ H Q x)⟩
theorem _root_.L2.PT.weak {X : Cx} {e : Expr} {t t' : TT} (h : PT X e t) (k : ∀ σ H Q, t' σ H Q → t σ H Q) : PT X e t' := ⟨fun pins s σ H Q I x => h.run pins s σ H Q I (k σ H Q x)⟩
theorem _root_.L2.PW.weak {X : Cx} {e : Expr} {t t' : TT} (h : PW X e t) (k : ∀ σ H Q, t' σ H Q → t σ H Q) : PW X e t' := ⟨fun wh pins s σ H Q I x => h.run wh pins s σ H Q I (k σ H Q x)⟩
theorem _root_.L2.PA.weak {X : Cx} {e : List Expr} {t t' : TA} (h : PA X e t) (k : ∀ σ H Q, t' σ H Q → t σ H Q) : PA X e t' := ⟨fun pos pins s σ H Q I x => h.run pos pins s σ H Q I (k σ H Q x)⟩

section
variable {K : PySem.W.Frag} {Z Z' : Addr → Prop} {W : Ws} {H H1 H' : Hp} {p : PV} {v : V} {md : Md}
/-- any value may be taken as one whose root is perhaps one's own -/
theorem VK1.ow (hz : ∀ b, inW W b → Z b) (hd : ∀ b, Z b → ∃ o, H b = some o) (h : VK1 K md Z W H H' p v) : RpO K ⟨Z, W, H'⟩ p v := by
  cases md with
  | cl => exact Rp.ow hz h
  | ow => exact h
  | fr => exact Rp.ow hz (VK1.cl hd h)
theorem VK1.back {H0 : Hp} (g : Grow W H0 H) (h : VK1 K md Z W H H' p v) : VK1 K md Z W H0 H' p v := by
  cases md with
  | cl => exact h
  | ow => exact h
  | fr =>
    obtain ⟨a, e, n, o⟩ := h
    exact ⟨a, e, g.free n, o⟩
/-- what has no list is clean -/
theorem RpO.cl (hp : ∀ ps, p ≠ .lst ps) (hq : ∀ ks ps, p ≠ .dic ks ps) (h : RpO K ⟨Z, W, H⟩ p v) : Rp K ⟨Z, W, H⟩ p v := by
  cases p with
  | lst ps => exact absurd rfl (hp ps)
  | dic ks ps => exact absurd rfl (hq ks ps)
  | _ => exact h
theorem RpO.int {i : Int} (h : RpO K ⟨Z, W, H⟩ (.int i) v) : v = .int i := by unfold RpO Rp at h; exact h
theorem RpO.bl {i : Bool} (h : RpO K ⟨Z, W, H⟩ (.bl i) v) : v = .bl i := by unfold RpO Rp at h; exact h
theorem RpO.str {i : Str} (h : RpO K ⟨Z, W, H⟩ (.str i) v) : v = .str i := by unfold RpO Rp at h; exact h
theorem RpO.non (h : RpO K ⟨Z, W, H⟩ .non v) : v = .non := by unfold RpO Rp at h; exact h
theorem RpO.tup {ps : List PV} (h : RpO K ⟨Z, W, H⟩ (.tup ps) v) : ∃ a vs, v = .ref a ∧ TupAt K ⟨Z, W, H⟩ a vs ∧ Rps K ⟨Z, W, H⟩ ps vs := by unfold RpO Rp at h; exact h
theorem RpO.lst {ps : List PV} (h : RpO K ⟨Z, W, H⟩ (.lst ps) v) : ∃ a vs, v = .ref a ∧ (¬ inW W a ∧ H a = some (.lst vs)) ∧ Rps K ⟨Z, W, H⟩ ps vs := by unfold RpO at h; exact h
theorem Rp.int' {i : Int} : Rp K ⟨Z, W, H⟩ (.int i) (.int i) := by unfold Rp; rfl
theorem Rp.bl' {i : Bool} : Rp K ⟨Z, W, H⟩ (.bl i) (.bl i) := by unfold Rp; rfl
theorem Rp.str' {i : Str} : Rp K ⟨Z, W, H⟩ (.str i) (.str i) := by unfold Rp; rfl
theorem Rp.non' : Rp K ⟨Z, W, H⟩ .non .non := by unfold Rp; rfl
/-- a new tuple -/
theorem Rp.newTup {ps : List PV} {vs : List V} {a : Addr} (hz : ¬ Z a) (n : H a = none) (hs : ∀ p ∈ W, SA H p) (hw : ∀ b, inW W b → Z b) (h : Rps K ⟨Z, W, H⟩ ps vs) : Rp K ⟨Z, W, upd H a (.tup vs)⟩ (.tup ps) (.ref a) := by
  unfold Rp
  exact ⟨a, vs, rfl, .inl ⟨hz, upd_same⟩, Rps.ext ((Grow.new hs n).ext hw) h⟩
/-- a new list -/
theorem OwnAt.newLst {ps : List PV} {vs : List V} {a : Addr} (n : H a = none) (h : Rps K ⟨Z, W, H⟩ ps vs) : OwnAt K ⟨fun b => Z b ∨ b = a, W, upd H a (.lst vs)⟩ a (.lst ps) :=
by
  have x : Ext ⟨Z, W, H⟩ ⟨fun b => Z b ∨ b = a, W, upd H a (.lst vs)⟩ := by
    refine ⟨fun b o z e => ⟨fun y => ?_, ?_⟩, fun _ h => h⟩
    · have e' : H b = some o := e
      rcases y with y | y
      · exact z y
      · rw [y, n] at e'; cases e'
    · have e' : H b = some o := e
      show upd H a (.lst vs) b = some o
      rw [upd_ne (ne_of_none e' n)]; exact e'
  exact ⟨vs, upd_same, Rps.ext x h⟩
theorem VK1.ofRp (h : Rp K ⟨Z, W, H'⟩ p v) : VK1 K .cl Z W H H' p v := h
theorem VK1.o (h : VK1 K .ow Z W H H' p v) : RpO K ⟨Z, W, H'⟩ p v := h
theorem VK1.c (h : VK1 K .cl Z W H H' p v) : Rp K ⟨Z, W, H'⟩ p v := h
theorem VK1.bl {b : Bool} (h : VK1 K md Z W H H' (.bl b) v) : v = .bl b := by
  cases md with
  | cl => unfold VK1 Rp at h; exact h
  | ow => unfold VK1 RpO Rp at h; exact h
  | fr => obtain ⟨a, _, _, h⟩ := h; exact h.elim
end
theorem SR.dz {K : PySem.W.Frag} {G : Gh} {c : List Ow} {A : Nat → Option Addr} {W : Ws} {env : Env} {σ : St} {H : Hp} (R : SR K G c A W env σ H) : ∀ b, Zt G A W b → ∃ o, H b = some o := fun _ h => R.zt h
theorem SR.nz {K : PySem.W.Frag} {G : Gh} {c : List Ow} {A : Nat → Option Addr} {W : Ws} {env : Env} {σ : St} {H : Hp} (R : SR K G c A W env σ H) {a : Addr} (n : H a = none) : ¬ Zt G A W a := fun z => by
  obtain ⟨o, e⟩ := R.zt z
  rw [n] at e; cases e
theorem SR.sz {K : PySem.W.Frag} {G : Gh} {c : List Ow} {A : Nat → Option Addr} {W : Ws} {env : Env} {σ : St} {H : Hp} (_ : SR K G c A W env σ H) : ∀ b, inW W b → Zt G A W b := fun _ => Zt.w

/-! ### coercions -/
section
variable {X : Cx} {c : List Ow} {e : Expr} {t : TEm} {md : Md}
theorem PEm.ow (h : PEm X c md e t) : PEm X c .ow e t := ⟨h.run.weak fun σ H Q ⟨G, A, W, env, P, R, ht, k⟩ => ⟨G, A, W, env, P, R, ht, fun p v H' g r hp => k p v H' g (r.ow R.sz R.dz) hp⟩⟩
theorem PEm.cl (h : PEm X c .fr e t) : PEm X c .cl e t := ⟨h.run.weak fun σ H Q ⟨G, A, W, env, P, R, ht, k⟩ => ⟨G, A, W, env, P, R, ht, fun p v H' g r hp => k p v H' g (VK1.cl R.dz r) hp⟩⟩
end

/-! ### names, constants -/
section
variable {X : Cx} {c : List Ow} {pos : Pos}
def mVar (i : Nat) : TEm := fun env P => ∃ v, env[i]? = some (some v) ∧ P v
def mC (p : PV) : TEm := fun _ P => P p
/-- a shared name -/
theorem em_var (i : Nat) {x : Str} (hN : X.N[i]? = some x := by rfl) (hc : cO c i = .sh := by rfl) (hv : Vis X.env.scope x := by first | exact Or.inl rfl | exact Or.inr (Or.inl rfl) | exact Or.inr (Or.inr rfl)) (hd : (x == ("__debug__" : Str)) = false := by decide)
    (hcd : (x == ("__classdict__" : Str)) = false := by decide) : PEm X c .cl (.Name x pos) (mVar i) := ⟨(pe_var hN hv hd hcd).weak fun σ H Q h => by
  obtain ⟨G, A, W, env, P, R, ⟨p, e, hp⟩, k⟩ := h
  obtain ⟨v, e1, h1⟩ := R.slots i p e
  cases hA : A i with
  | none =>
    rw [hA] at h1
    exact ⟨v, e1, k p v H (Grow.refl R.src) h1 hp⟩
  | some a => exact absurd hc (R.Asep i a hA).2.2.2.1⟩
def mVarO (i : Nat) : TEm := fun env P => ∃ v, env[i]? = some (some v) ∧ (∀ C ns ps, v ≠ .obj C ns ps) ∧ P v
/-- any name -/
theorem em_varO (i : Nat) {x : Str} (hN : X.N[i]? = some x := by rfl) (hv : Vis X.env.scope x := by first | exact Or.inl rfl | exact Or.inr (Or.inl rfl) | exact Or.inr (Or.inr rfl)) (hd : (x == ("__debug__" : Str)) = false := by decide)
    (hcd : (x == ("__classdict__" : Str)) = false := by decide) : PEm X c .ow (.Name x pos) (mVarO i) := ⟨(pe_var hN hv hd hcd).weak fun σ H Q h => by
  obtain ⟨G, A, W, env, P, R, ⟨p, e, no, hp⟩, k⟩ := h
  obtain ⟨v, e1, h1⟩ := R.slots i p e
  refine ⟨v, e1, k p v H (Grow.refl R.src) ?_ hp⟩
  cases hA : A i with
  | none =>
    rw [hA] at h1
    exact Rp.ow R.sz h1
  | some a =>
    rw [hA] at h1
    obtain ⟨rfl, h1⟩ := h1
    have nw := (R.Asep i a hA).2.1
    cases p with
    | lst ps => obtain ⟨vs, e2, r⟩ := h1; exact ⟨a, vs, rfl, ⟨nw, e2⟩, r⟩
    | dic ks ps => obtain ⟨vs, e2, l, r⟩ := h1; exact ⟨a, vs, rfl, nw, e2, l, r⟩
    | obj C ns ps => exact absurd rfl (no C ns ps)
    | _ => exact h1.elim⟩
theorem em_const {md : Md} {e : Expr} {p : PV} {v : V} (h : PE X e (tC v)) (r : ∀ Z W H, Rp X.K ⟨Z, W, H⟩ p v) : PEm X c .cl e (mC p) := ⟨h.weak fun σ H Q h => by
  obtain ⟨G, A, W, env, P, R, hp, k⟩ := h
  exact k p v H (Grow.refl R.src) (r _ _ _) hp⟩
theorem em_int {i : Int} {j : Nat} : PEm X c .cl (.Constant (.int i) j pos) (mC (.int i)) := em_const (md := .cl) pe_int fun _ _ _ => Rp.int'
theorem em_bl {b : Bool} {j : Nat} : PEm X c .cl (.Constant (.bool b) j pos) (mC (.bl b)) := em_const (md := .cl) pe_bl fun _ _ _ => Rp.bl'
theorem em_non {j : Nat} : PEm X c .cl (.Constant .none j pos) (mC .non) := em_const (md := .cl) pe_non fun _ _ _ => Rp.non'
theorem em_str {x : Str} {j : Nat} : PEm X c .cl (.Constant (.str x) j pos) (mC (.str x)) := em_const (md := .cl) pe_str fun _ _ _ => Rp.str'
end

/-! ### operations by values -/
abbrev PO2 := PV → PV → (PV → Prop) → Prop
abbrev PO1 := PV → (PV → Prop) → Prop
abbrev POn := List PV → (PV → Prop) → Prop
/-- what stands around an operation -/
structure Sit (Z : Addr → Prop) (W : Ws) (H : Hp) : Prop where
  wz : ∀ b, inW W b → Z b
  src : ∀ p ∈ W, SA H p
  zd : ∀ b, Z b → ∃ o, H b = some o
theorem SR.sit {K : PySem.W.Frag} {G : Gh} {c : List Ow} {A : Nat → Option Addr} {W : Ws} {env : Env} {σ : St} {H : Hp} (R : SR K G c A W env σ H) : Sit (Zt G A W) W H := ⟨R.sz, R.src, R.dz⟩
theorem Sit.nz {Z : Addr → Prop} {W : Ws} {H : Hp} (s : Sit Z W H) {a : Addr} (n : H a = none) : ¬ Z a := fun z => by
  obtain ⟨o, e⟩ := s.zd a z
  rw [n] at e; cases e
def Lift1 (K : PySem.W.Frag) (r : V → Hp → VK → Prop) (o : PO1) (md : Md) : Prop :=
  ∀ Z W H px vx P Q, Sit Z W H → RpO K ⟨Z, W, H⟩ px vx → o px P → (∀ p v H', Grow W H H' → VK1 K md Z W H H' p v → P p → Q v H') → r vx H Q
def Lift2 (K : PySem.W.Frag) (r : R2) (o : PO2) (md : Md) : Prop :=
  ∀ Z W H px py vx vy P Q, Sit Z W H → RpO K ⟨Z, W, H⟩ px vx → RpO K ⟨Z, W, H⟩ py vy → o px py P → (∀ p v H', Grow W H H' → VK1 K md Z W H H' p v → P p → Q v H') → r vx vy H Q
def LiftN (K : PySem.W.Frag) (r : List V → Hp → VK → Prop) (o : POn) (md : Md) : Prop :=
  ∀ Z W H ps vs P Q, Sit Z W H → VKs K .ow Z W H ps vs → o ps P → (∀ p v H', Grow W H H' → VK1 K md Z W H H' p v → P p → Q v H') → r vs H Q
def mOp1 (o : PO1) (ta : TEm) : TEm := fun env P => ta env fun x => o x P
def mOp (o : PO2) (ta tb : TEm) : TEm := fun env P => ta env fun x => tb env fun y => o x y P
def mB (o : POn) (t : TAm) : TEm := fun env P => t env fun xs => o xs P
section
variable {X : Cx} {c : List Ow} {a b : Expr} {ta tb : TEm} {md : Md} {pos : Pos} {r : R2} {o : PO2}
theorem tm1 {K : PySem.W.Frag} {r : V → Hp → VK → Prop} {o : PO1} (L : Lift1 K r o md) (σ : St) (H : Hp) (Q : VK) (h : tmE K c md (mOp1 o ta) σ H Q) : tmE K c .ow ta σ H fun x H1 => r x H1 Q := by
  obtain ⟨G, A, W, env, P, R, h, k⟩ := h
  exact ⟨G, A, W, env, _, R, h, fun px vx H1 g1 rx h1 => L _ W H1 px vx P Q (R.grow g1).sit rx h1 fun p v H' g r hp => k p v H' (g1.trans g) (r.back g1) hp⟩
theorem tm2 {K : PySem.W.Frag} (L : Lift2 K r o md) (σ : St) (H : Hp) (Q : VK) (h : tmE K c md (mOp o ta tb) σ H Q) : tOp r (tmE K c .ow ta) (tmE K c .ow tb) σ H Q := by
  obtain ⟨G, A, W, env, P, R, h, k⟩ := h
  refine ⟨G, A, W, env, _, R, h, fun px vx H1 g1 rx h1 => ⟨G, A, W, env, _, R.grow g1, h1, fun py vy H2 g2 ry h2 => ?_⟩⟩
  exact L _ W H2 px py vx vy P Q ((R.grow g1).grow g2).sit (RpO.grow R.sz g2 rx) ry h2 fun p v H' g r hp => k p v H' ((g1.trans g2).trans g) (r.back (g1.trans g2)) hp
theorem em_op {op : Operator} (ho : OpR X (binaryOp op) r) (L : Lift2 X.K r o md) (ha : PEm X c .ow a ta) (hb : PEm X c .ow b tb) : PEm X c md (.BinOp a op b pos) (mOp o ta tb) := ⟨(pe_op ho ha.run hb.run).weak (tm2 L)⟩
theorem em_cmp {op : CmpOp} (ho : OpR X (compareOp op) r) (L : Lift2 X.K r o md) (ha : PEm X c .ow a ta) (hb : PEm X c .ow b tb) (hm : behindInMarks op b = false) : PEm X c md (.Compare a [op] [b] pos) (mOp o ta tb) := ⟨(pe_cmpR ho ha.run hb.run hm).weak (tm2 L)⟩
theorem em_un {op : UnaryOp} {r : V → Hp → VK → Prop} {o : PO1} (ho : UnR X (unaryOp op) r) (L : Lift1 X.K r o md) (ha : PEm X c .ow a ta) : PEm X c md (.UnaryOp op a pos) (mOp1 o ta) := ⟨(pe_un ho ha.run).weak (tm1 L)⟩
/-- arguments -/
def mNil : TAm := fun _ P => P []
def mCons (t : TEm) (ts : TAm) : TAm := fun env P => t env fun x => ts env fun xs => P (x :: xs)
variable {e : Expr} {es : List Expr} {te : TEm} {t : TAm}
theorem am_nil : PAm X c md [] mNil := ⟨pa_nil.weak fun σ H Q h => by
  obtain ⟨G, A, W, env, P, R, h, k⟩ := h
  exact k [] [] H (Grow.refl R.src) .nil h⟩
theorem VKs.grow {K : PySem.W.Frag} {Z : Addr → Prop} {W : Ws} {H H' : Hp} (hz : ∀ b, inW W b → Z b) (g : Grow W H H') : ∀ {ps : List PV} {vs : List V}, VKs K md Z W H ps vs → VKs K md Z W H' ps vs
  | _, _, .nil => .nil
  | _, _, .cons h t => .cons (by cases md with
    | cl => exact Rp.ext (g.ext hz) h
    | fr => exact Rp.ext (g.ext hz) h
    | ow => exact RpO.grow hz g h) (VKs.grow hz g t)
theorem am_cons (ha : PEm X c .ow e te) (hr : PAm X c .ow es t) (hs : starEach (e :: es) X.env = (false, eval e X.env) :: starEach es X.env := by rfl) : PAm X c .ow (e :: es) (mCons te t) := ⟨(pa_cons ha.run hr.run hs).weak fun σ H Q h => by
  obtain ⟨G, A, W, env, P, R, h, k⟩ := h
  refine ⟨G, A, W, env, _, R, h, fun px vx H1 g1 rx h1 => ⟨G, A, W, env, _, R.grow g1, h1, fun ps vs H2 g2 rs h2 => ?_⟩⟩
  exact k (px :: ps) (vx :: vs) H2 (g1.trans g2) (.cons (RpO.grow R.sz g2 rx) rs) h2⟩
theorem am_consC (ha : PEm X c .cl e te) (hr : PAm X c .cl es t) (hs : starEach (e :: es) X.env = (false, eval e X.env) :: starEach es X.env := by rfl) : PAm X c .cl (e :: es) (mCons te t) := ⟨(pa_cons ha.run hr.run hs).weak fun σ H Q h => by
  obtain ⟨G, A, W, env, P, R, h, k⟩ := h
  refine ⟨G, A, W, env, _, R, h, fun px vx H1 g1 rx h1 => ⟨G, A, W, env, _, R.grow g1, h1, fun ps vs H2 g2 rs h2 => ?_⟩⟩
  exact k (px :: ps) (vx :: vs) H2 (g1.trans g2) (.cons (Rp.ext (g2.ext R.sz) rx) rs) h2⟩
theorem VKs.rps {K : PySem.W.Frag} {Z : Addr → Prop} {W : Ws} {H : Hp} : ∀ {ps : List PV} {vs : List V}, VKs K .cl Z W H ps vs → Rps K ⟨Z, W, H⟩ ps vs
  | _, _, .nil => Rps.nil
  | _, _, .cons h t => Rps.cons h (VKs.rps t)
theorem tmN {K : PySem.W.Frag} {r : List V → Hp → VK → Prop} {o : POn} (L : LiftN K r o md) (σ : St) (H : Hp) (Q : VK) (h : tmE K c md (mB o t) σ H Q) : tCB r (tmA K c .ow t) σ H Q := by
  obtain ⟨G, A, W, env, P, R, h, k⟩ := h
  exact ⟨G, A, W, env, _, R, h, fun ps vs H1 g1 rs h1 => L _ W H1 ps vs P Q (R.grow g1).sit rs h1 fun p v H' g r hp => k p v H' (g1.trans g) (r.back g1) hp⟩
/-- a built-in function, a built-in class, called -/
theorem em_callB {id : String} {x : Str} {p : Pos} {r : List V → Hp → VK → Prop} {o : POn} (hc : CallR X (.builtin id) r) (L : LiftN X.K r o md) (hg : Gl X x) (hm : X.mg x = none) (hv : bootBuiltins x = some (.builtin id)) (ha : PAm X c .ow (e :: es) t) (hn : x ≠ "__name__" := by decide) (hdb : (x == ("__debug__" : Str)) = false := by decide)
    (he : starEach (e :: es) X.env = (false, eval e X.env) :: starEach es X.env := by rfl) (hpl : (backTo pos (starEach es X.env)).any (·.1) = false := by rfl) : PEm X c md (.Call (.Name x p) (e :: es) [] pos) (mB o t) :=
  ⟨(pe_callB hc hg hm hv ha.run hn hdb he hpl).weak (tmN L)⟩
theorem em_callTy {T : String} {x : Str} {p : Pos} {r : List V → Hp → VK → Prop} {o : POn} (hc : CallR X (.type T) r) (L : LiftN X.K r o md) (hg : Gl X x) (hm : X.mg x = none) (hv : bootBuiltins x = some (.type T)) (ha : PAm X c .ow (e :: es) t) (hn : x ≠ "__name__" := by decide) (hdb : (x == ("__debug__" : Str)) = false := by decide)
    (he : starEach (e :: es) X.env = (false, eval e X.env) :: starEach es X.env := by rfl) (hpl : (backTo pos (starEach es X.env)).any (·.1) = false := by rfl) : PEm X c md (.Call (.Name x p) (e :: es) [] pos) (mB o t) :=
  ⟨(pe_callTy hc hg hm hv ha.run hn hdb he hpl).weak (tmN L)⟩
/-- displays -/
def mTup (t : TAm) : TEm := fun env P => t env fun xs => xs.length ≤ sizeLine ∧ P (.tup xs)
def mLst (t : TAm) : TEm := fun env P => t env fun xs => xs.length ≤ sizeLine ∧ P (.lst xs)
theorem Paired.len {α β : Type} {R : α → β → Prop} : ∀ {xs : List α} {ys : List β}, Paired R xs ys → xs.length = ys.length
  | _, _, .nil => rfl
  | _, _, .cons _ t => by rw [List.length_cons, List.length_cons, Paired.len t]
theorem em_tup {x1 : Nat} (h : PAm X c .cl es t) : PEm X c .cl (.Tuple es x1 pos) (mTup t) := ⟨(pe_tup h.run).weak fun σ H Q h => by
  obtain ⟨G, A, W, env, P, R, h, k⟩ := h
  refine ⟨G, A, W, env, _, R, h, fun ps vs H1 g1 rs ⟨hl, h1⟩ => ⟨by rw [← Paired.len rs]; exact hl, fun a n => ?_⟩⟩
  have R1 := R.grow g1
  exact k (.tup ps) (.ref a) _ (g1.trans (Grow.new R1.src n)) (Rp.newTup (R1.nz n) n R1.src R.sz rs.rps) h1⟩
theorem em_lst (h : PAm X c .cl es t) : PEm X c .fr (.List es pos) (mLst t) := ⟨(pe_lst h.run).weak fun σ H Q h => by
  obtain ⟨G, A, W, env, P, R, h, k⟩ := h
  refine ⟨G, A, W, env, _, R, h, fun ps vs H1 g1 rs ⟨hl, h1⟩ => ⟨by rw [← Paired.len rs]; exact hl, fun a n => ?_⟩⟩
  have R1 := R.grow g1
  exact k (.lst ps) (.ref a) _ (g1.trans (Grow.new R1.src n)) ⟨a, rfl, g1.free n, OwnAt.newLst n rs.rps⟩ h1⟩
end

/-! ### tests -/
section
variable {X : Cx} {c : List Ow} {a b : Expr} {ta tb : TEm} {tA tB : TTm} {pos : Pos} {rest : List Expr} {md : Md}
/-- a value that is True or False, as a test -/
def mTB (t : TEm) : TTm := fun env P => t env fun x => ∃ k, x = .bl k ∧ P k
theorem tm_val (h : PEm X c .ow a ta) (he : ∀ whole, isTrue a X.env whole = (do let v ← whole; standAt a.pos; holding [v] (truthy v)) := by intro _; rfl) : PTm X c a (mTB ta) := ⟨(pt_val h.run he).weak fun σ H Q h => by
  obtain ⟨G, A, W, env, P, R, h, k⟩ := h
  exact ⟨G, A, W, env, _, R, h, fun p v H1 g1 r ⟨j, e, h1⟩ => ⟨j, by subst e; exact VK1.bl r, k j H1 g1 h1⟩⟩⟩
theorem tm_cmp {op : CmpOp} {r : R2} {o : PO2} (ho : OpR X (compareOp op) r) (L : Lift2 X.K r o .cl) (ha : PEm X c .ow a ta) (hb : PEm X c .ow b tb) (hm : behindInMarks op b = false) : PTm X c (.Compare a [op] [b] pos) (mTB (mOp o ta tb)) := ⟨(pt_cmpR ho ha.run hb.run hm).weak fun σ H Q h => by
  obtain ⟨G, A, W, env, P, R, h, k⟩ := h
  refine tm2 L σ H _ ⟨G, A, W, env, _, R, h, fun p v H1 g1 r ⟨j, e, h1⟩ => ⟨j, ?_, k j H1 g1 h1⟩⟩
  subst e
  exact VK1.bl r⟩
def mAnd (t u : TTm) : TTm := fun env P => t env fun b => if b = true then u env P else P false
def mOr (t u : TTm) : TTm := fun env P => t env fun b => if b = true then P true else u env P
def mNot (t : TTm) : TTm := fun env P => t env fun b => P (!b)
theorem tm_not (h : PTm X c a tA) : PTm X c (.UnaryOp .Not a pos) (mNot tA) := ⟨(pt_not h.run).weak fun σ H Q h => by
  obtain ⟨G, A, W, env, P, R, h, k⟩ := h
  exact ⟨G, A, W, env, _, R, h, fun b H1 g1 h1 => k _ H1 g1 h1⟩⟩
theorem wm_and1 (h : PTm X c a tA) : PWm X c (.BoolOp .And [a] pos) tA := ⟨pw_and1 h.run⟩
theorem wm_or1 (h : PTm X c a tA) : PWm X c (.BoolOp .Or [a] pos) tA := ⟨pw_or1 h.run⟩
theorem wm_and (ha : PTm X c a tA) (hb : PWm X c (.BoolOp .And (b :: rest) pos) tB) : PWm X c (.BoolOp .And (a :: b :: rest) pos) (mAnd tA tB) := ⟨(pw_and ha.run hb.run).weak fun σ H Q h => by
  obtain ⟨G, A, W, env, P, R, h, k⟩ := h
  refine ⟨G, A, W, env, _, R, h, fun b H1 g1 h1 => ?_⟩
  cases b with
  | true => rw [if_pos rfl] at h1 ⊢; exact ⟨G, A, W, env, _, R.grow g1, h1, fun b H2 g2 h2 => k b H2 (g1.trans g2) h2⟩
  | false => rw [if_neg Bool.false_ne_true] at h1 ⊢; exact k _ H1 g1 h1⟩
theorem wm_or (ha : PTm X c a tA) (hb : PWm X c (.BoolOp .Or (b :: rest) pos) tB) : PWm X c (.BoolOp .Or (a :: b :: rest) pos) (mOr tA tB) := ⟨(pw_or ha.run hb.run).weak fun σ H Q h => by
  obtain ⟨G, A, W, env, P, R, h, k⟩ := h
  refine ⟨G, A, W, env, _, R, h, fun b H1 g1 h1 => ?_⟩
  cases b with
  | false => rw [if_neg Bool.false_ne_true] at h1 ⊢; exact ⟨G, A, W, env, _, R.grow g1, h1, fun b H2 g2 h2 => k b H2 (g1.trans g2) h2⟩
  | true => rw [if_pos rfl] at h1 ⊢; exact k _ H1 g1 h1⟩
theorem PWm.pt (h : PWm X c a tA) : PTm X c a tA := ⟨h.run.pt⟩
/-- and, or, not as values that are True or False -/
def mAndV (t u : TEm) : TEm := fun env P => t env fun x => ∃ k, x = .bl k ∧ if k = true then u env P else P (.bl false)
def mOrV (t u : TEm) : TEm := fun env P => t env fun x => ∃ k, x = .bl k ∧ if k = true then P (.bl true) else u env P
def oNot : PO1 := fun x P => ∃ k, x = .bl k ∧ P (.bl (!k))
theorem em_one {op : BoolOp} (h : PEm X c md a ta) : PEm X c md (.BoolOp op [a] pos) ta := ⟨pe_one h.run⟩
theorem em_and (ha : PEm X c .ow a ta) (hb : PEm X c .cl (.BoolOp .And (b :: rest) pos) tb) : PEm X c .cl (.BoolOp .And (a :: b :: rest) pos) (mAndV ta tb) := ⟨(pe_and ha.run hb.run).weak fun σ H Q h => by
  obtain ⟨G, A, W, env, P, R, h, k⟩ := h
  refine ⟨G, A, W, env, _, R, h, fun p v H1 g1 r ⟨j, e, h1⟩ => ⟨j, by subst e; exact VK1.bl r, ?_⟩⟩
  cases j with
  | true => rw [if_pos rfl] at h1 ⊢; exact ⟨G, A, W, env, _, R.grow g1, h1, fun p v H2 g2 r2 h2 => k p v H2 (g1.trans g2) r2 h2⟩
  | false => rw [if_neg Bool.false_ne_true] at h1 ⊢; exact k _ _ H1 g1 (VK1.ofRp Rp.bl') h1⟩
theorem em_or (ha : PEm X c .ow a ta) (hb : PEm X c .cl (.BoolOp .Or (b :: rest) pos) tb) : PEm X c .cl (.BoolOp .Or (a :: b :: rest) pos) (mOrV ta tb) := ⟨(pe_or ha.run hb.run).weak fun σ H Q h => by
  obtain ⟨G, A, W, env, P, R, h, k⟩ := h
  refine ⟨G, A, W, env, _, R, h, fun p v H1 g1 r ⟨j, e, h1⟩ => ⟨j, by subst e; exact VK1.bl r, ?_⟩⟩
  cases j with
  | false => rw [if_neg Bool.false_ne_true] at h1 ⊢; exact ⟨G, A, W, env, _, R.grow g1, h1, fun p v H2 g2 r2 h2 => k p v H2 (g1.trans g2) r2 h2⟩
  | true => rw [if_pos rfl] at h1 ⊢; exact k _ _ H1 g1 (VK1.ofRp Rp.bl') h1⟩
theorem em_not (ha : PEm X c .ow a ta) : PEm X c .cl (.UnaryOp .Not a pos) (mOp1 oNot ta) := ⟨(pe_not ha.run).weak fun σ H Q h => by
  obtain ⟨G, A, W, env, P, R, h, k⟩ := h
  exact ⟨G, A, W, env, _, R, h, fun p v H1 g1 r ⟨j, e, h1⟩ => ⟨j, by subst e; exact VK1.bl r, k _ _ H1 g1 (VK1.ofRp Rp.bl') h1⟩⟩⟩
def mIf (t : TTm) (ta tb : TEm) : TEm := fun env P => t env fun b => if b = true then ta env P else tb env P
theorem em_if {cnd : Expr} (hc : PTm X c cnd tA) (ha : PEm X c md a ta) (hb : PEm X c md b tb) : PEm X c md (.IfExp cnd a b pos) (mIf tA ta tb) := ⟨(pe_ifExp hc.run ha.run hb.run).weak fun σ H Q h => by
  obtain ⟨G, A, W, env, P, R, h, k⟩ := h
  refine ⟨G, A, W, env, _, R, h, fun b H1 g1 h1 => ?_⟩
  cases b with
  | true => rw [if_pos rfl] at h1 ⊢; exact ⟨G, A, W, env, _, R.grow g1, h1, fun p v H2 g2 r2 h2 => k p v H2 (g1.trans g2) (r2.back g1) h2⟩
  | false => rw [if_neg Bool.false_ne_true] at h1 ⊢; exact ⟨G, A, W, env, _, R.grow g1, h1, fun p v H2 g2 r2 h2 => k p v H2 (g1.trans g2) (r2.back g1) h2⟩⟩
end
end PM

set_option maxHeartbeats 1000000
/-! PM: operations by values. -/
namespace PM
open PySem L2

theorem OpR.or {X : Cx} {f : Value → Value → Sem Value} {r r' : R2} (h : OpR X f r) (h' : OpR X f r') : OpR X f (fun x y H Q => r x y H Q ∨ r' x y H Q) := by
  intro pins s σ H x y v u Q I rx ry q
  rcases q with q | q
  · exact h pins s σ H x y v u Q I rx ry q
  · exact h' pins s σ H x y v u Q I rx ry q
theorem CallR.or {X : Cx} {f : Value} {r r' : List V → Hp → VK → Prop} (h : CallR X f r) (h' : CallR X f r') : CallR X f (fun x H Q => r x H Q ∨ r' x H Q) := by
  intro pins s σ H x us Q I rx q
  rcases q with q | q
  · exact h pins s σ H x us Q I rx q
  · exact h' pins s σ H x us Q I rx q
section
variable {K : PySem.W.Frag}
theorem Sit.fin {Z : Addr → Prop} {W : Ws} {H : Hp} {P : PV → Prop} {Q : VK} {p : PV} {v : V} (S : Sit Z W H) (k : ∀ p v H', Grow W H H' → VK1 K .cl Z W H H' p v → P p → Q v H') (r : Rp K ⟨Z, W, H⟩ p v) (hp : P p) : Q v H := k p v H (Grow.refl S.src) (VK1.ofRp r) hp
/-! ### whole numbers -/
/-- two ints under a condition -/
def oI (C : Int → Int → Prop) (g : Int → Int → PV) : PO2 := fun x y P => ∃ i j, x = .int i ∧ y = .int j ∧ C i j ∧ P (g i j)
theorem lift_I {C C' : Int → Int → Prop} {g : Int → Int → PV} {g' : Int → Int → V} (hc : ∀ i j, C i j → C' i j) (hg : ∀ i j, C i j → ∀ Z W H, Rp K ⟨Z, W, H⟩ (g i j) (g' i j)) : Lift2 K (rI C' g') (oI C g) .cl := by
  rintro Z W H px py vx vy P Q S rx ry ⟨i, j, rfl, rfl, c, hp⟩ k
  exact ⟨i, j, rx.int, ry.int, hc i j c, S.fin k (hg i j c _ _ _) hp⟩
theorem lift_I0 {g : Int → Int → PV} {g' : Int → Int → V} (hg : ∀ i j Z W H, Rp K ⟨Z, W, H⟩ (g i j) (g' i j)) : Lift2 K (rI0 g') (oI (fun _ _ => True) g) .cl := by
  rintro Z W H px py vx vy P Q S rx ry ⟨i, j, rfl, rfl, c, hp⟩ k
  exact ⟨i, j, rx.int, ry.int, S.fin k (hg i j _ _ _) hp⟩
def oSub : PO2 := fun x y P => ∃ i j, x = .int i ∧ y = .int j ∧ P (.int (i - j))
theorem lift_sub : Lift2 K (rI0 fun i j => .int (i - j)) oSub .cl := by
  rintro Z W H px py vx vy P Q S rx ry ⟨i, j, rfl, rfl, hp⟩ k
  exact ⟨i, j, rx.int, ry.int, S.fin k Rp.int' hp⟩
def oFdiv : PO2 := fun x y P => ∃ i j, x = .int i ∧ y = .int j ∧ (0 < j ∧ j < 1073741824) ∧ P (.int (i / j))
theorem lift_fdiv : Lift2 K (rI CDiv fun i j => .int (i / j)) oFdiv .cl := by
  rintro Z W H px py vx vy P Q S rx ry ⟨i, j, rfl, rfl, c, hp⟩ k
  exact ⟨i, j, rx.int, ry.int, c, S.fin k Rp.int' hp⟩
def oMod : PO2 := fun x y P => ∃ i j, x = .int i ∧ y = .int j ∧ 0 < j ∧ P (.int (i % j))
theorem lift_mod : Lift2 K (rI (fun _ j => 0 < j) fun i j => .int (i % j)) oMod .cl := by
  rintro Z W H px py vx vy P Q S rx ry ⟨i, j, rfl, rfl, c, hp⟩ k
  exact ⟨i, j, rx.int, ry.int, c, S.fin k Rp.int' hp⟩
def oPow : PO2 := fun x y P => ∃ i j, x = .int i ∧ y = .int j ∧ (0 ≤ j ∧ j ≤ 1000000 ∧ i.natAbs < 2 ^ 64) ∧ P (.int (i ^ j.toNat))
theorem lift_pow : Lift2 K (rI CPow fun i j => .int (i ^ j.toNat)) oPow .cl := by
  rintro Z W H px py vx vy P Q S rx ry ⟨i, j, rfl, rfl, c, hp⟩ k
  exact ⟨i, j, rx.int, ry.int, c, S.fin k Rp.int' hp⟩
def oNeg : PO1 := fun x P => ∃ i, x = .int i ∧ P (.int (-i))
theorem lift_neg : Lift1 K (rU fun i => .int (-i)) oNeg .cl := by
  rintro Z W H px vx P Q S rx ⟨i, rfl, hp⟩ k
  exact ⟨i, rx.int, S.fin k Rp.int' hp⟩
def oLt : PO2 := fun x y P => ∃ i j, x = .int i ∧ y = .int j ∧ P (.bl (decide (i < j)))
def oLe : PO2 := fun x y P => ∃ i j, x = .int i ∧ y = .int j ∧ P (.bl (decide (i ≤ j)))
def oGt : PO2 := fun x y P => ∃ i j, x = .int i ∧ y = .int j ∧ P (.bl (decide (j < i)))
def oGe : PO2 := fun x y P => ∃ i j, x = .int i ∧ y = .int j ∧ P (.bl (decide (j ≤ i)))
theorem lift_lt : Lift2 K (rI0 fun i j => .bl (decide (i < j))) oLt .cl := by
  rintro Z W H px py vx vy P Q S rx ry ⟨i, j, rfl, rfl, hp⟩ k
  exact ⟨i, j, rx.int, ry.int, S.fin k Rp.bl' hp⟩
theorem lift_le : Lift2 K (rI0 fun i j => .bl (decide (i ≤ j))) oLe .cl := by
  rintro Z W H px py vx vy P Q S rx ry ⟨i, j, rfl, rfl, hp⟩ k
  exact ⟨i, j, rx.int, ry.int, S.fin k Rp.bl' hp⟩
theorem lift_gt : Lift2 K (rI0 fun i j => .bl (decide (j < i))) oGt .cl := by
  rintro Z W H px py vx vy P Q S rx ry ⟨i, j, rfl, rfl, hp⟩ k
  exact ⟨i, j, rx.int, ry.int, S.fin k Rp.bl' hp⟩
theorem lift_ge : Lift2 K (rI0 fun i j => .bl (decide (j ≤ i))) oGe .cl := by
  rintro Z W H px py vx vy P Q S rx ry ⟨i, j, rfl, rfl, hp⟩ k
  exact ⟨i, j, rx.int, ry.int, S.fin k Rp.bl' hp⟩

/-! ### +, * -/
def oAdd : PO2 := fun x y P => match x, y with
  | .int i, .int j => P (.int (i + j))
  | .tup a, .tup b => a.length + b.length ≤ sizeLine ∧ P (.tup (a ++ b))
  | .str a, .str b => a.length + b.length ≤ sizeLine ∧ P (.str (a ++ b))
  | .lst a, .lst b => a.length + b.length ≤ sizeLine ∧ P (.lst (a ++ b))
  | _, _ => False
def rStr : R2 := fun x y H Q => ∃ i j, x = .str i ∧ y = .str j ∧ i.length + j.length ≤ sizeLine ∧ Q (.str (i ++ j)) H
abbrev rPlus (K : PySem.W.Frag) : R2 := fun x y H Q => (rI0 (fun i j => .int (i + j)) x y H Q ∨ rCatA K x y H Q) ∨ (rStr x y H Q ∨ rCat x y H Q)
theorem op_plus {X : Cx} : OpR X (binaryOp .Add) (rPlus X.K) := OpR.or (OpR.or op_add op_catA) (OpR.or op_add_str op_cat)
theorem Rps.isNil {S : Wd} {ps : List PV} {vs : List V} (h : Rps K S ps vs) : ps = [] ↔ vs = [] := by
  have l := h.len
  constructor
  · intro e; rw [e] at l; exact List.eq_nil_of_length_eq_zero l.symm
  · intro e; rw [e] at l; exact List.eq_nil_of_length_eq_zero l
theorem lift_cat {P : PV → Prop} {Q : VK} {Z : Addr → Prop} {W : Ws} {H : Hp} {a b : List PV} {vx vy : V} (S : Sit Z W H) (rx : RpO K ⟨Z, W, H⟩ (.lst a) vx) (ry : RpO K ⟨Z, W, H⟩ (.lst b) vy) (hl : a.length + b.length ≤ sizeLine) (hp : P (.lst (a ++ b)))
    (k : ∀ p v H', Grow W H H' → VK1 K .fr Z W H H' p v → P p → Q v H') : rCat vx vy H Q := by
  obtain ⟨l1, vs, rfl, ⟨_, e1⟩, r1⟩ := rx.lst
  obtain ⟨l2, ws, rfl, ⟨_, e2⟩, r2⟩ := ry.lst
  refine ⟨l1, l2, vs, ws, rfl, rfl, e1, e2, by rw [← r1.len, ← r2.len]; exact hl, fun p n => ?_⟩
  exact k _ _ _ (Grow.new S.src n) ⟨p, rfl, n, OwnAt.newLst n (r1.append r2)⟩ hp
theorem lift_plus : Lift2 K (rPlus K) oAdd .cl := by
  intro Z W H px py vx vy P Q S rx ry h k
  cases px with
  | int i =>
    cases py with
    | int j => exact .inl (.inl ⟨i, j, rx.int, ry.int, S.fin k Rp.int' h⟩)
    | _ => exact h.elim
  | str i =>
    cases py with
    | str j => exact .inr (.inl ⟨i, j, rx.str, ry.str, h.1, S.fin k Rp.str' h.2⟩)
    | _ => exact h.elim
  | tup a =>
    cases py with
    | tup b =>
      obtain ⟨hl, hp⟩ := h
      have rx' : Rp K ⟨Z, W, H⟩ (.tup a) vx := rx
      have ry' : Rp K ⟨Z, W, H⟩ (.tup b) vy := ry
      obtain ⟨l1, vs, rfl, e1, r1⟩ := rx.tup
      obtain ⟨l2, ws, rfl, e2, r2⟩ := ry.tup
      refine .inl (.inr ⟨l1, l2, vs, ws, rfl, rfl, e1.sq, e2.sq, by rw [← r1.len, ← r2.len]; exact hl, fun z => ?_, fun _ z => ?_, fun _ _ p n => ?_⟩)
      · rw [r1.isNil.mpr z, List.nil_append] at hp
        exact S.fin k ry' hp
      · rw [r2.isNil.mpr z, List.append_nil] at hp
        exact S.fin k rx' hp
      · exact k _ _ _ (Grow.new S.src n) (VK1.ofRp (Rp.newTup (S.nz n) n S.src S.wz (r1.append r2))) hp
    | _ => exact h.elim
  | lst a =>
    cases py with
    | lst b => exact .inr (.inr (lift_cat S rx ry h.1 h.2 fun p v H' g r hp => k p v H' g (VK1.cl S.zd r) hp))
    | _ => exact h.elim
  | _ => exact h.elim
/-- lists, the sum a new one -/
def oCat : PO2 := fun x y P => ∃ a b, x = .lst a ∧ y = .lst b ∧ a.length + b.length ≤ sizeLine ∧ P (.lst (a ++ b))
theorem lift_catF : Lift2 K rCat oCat .fr := by
  rintro Z W H px py vx vy P Q S rx ry ⟨a, b, rfl, rfl, hl, hp⟩ k
  exact lift_cat S rx ry hl hp k
def oMul : PO2 := fun x y P => ∃ i j, x = .int i ∧ y = .int j ∧ CMul i j ∧ P (.int (i * j))
theorem lift_mul : Lift2 K (rI CMul fun i j => .int (i * j)) oMul .cl := by
  rintro Z W H px py vx vy P Q S rx ry ⟨i, j, rfl, rfl, c, hp⟩ k
  exact ⟨i, j, rx.int, ry.int, c, S.fin k Rp.int' hp⟩
theorem Rps.rep {S : Wd} {ps : List PV} {vs : List V} (h : Rps K S ps vs) : ∀ n : Nat, Rps K S (List.replicate n ps).flatten (List.replicate n vs).flatten
  | 0 => Rps.nil
  | n + 1 => by
    rw [List.replicate_succ, List.replicate_succ, List.flatten_cons, List.flatten_cons]
    exact h.append (Rps.rep h n)
def oRep : PO2 := fun x y P => ∃ a k, x = .lst a ∧ y = .int k ∧ (-(2 ^ 63) ≤ k ∧ k < 2 ^ 63) ∧ a.length * k.toNat ≤ sizeLine ∧ P (.lst (List.replicate k.toNat a).flatten)
theorem lift_rep : Lift2 K rRep oRep .fr := by
  rintro Z W H px py vx vy P Q S rx ry ⟨a, i, rfl, rfl, ⟨h1, h2⟩, hl, hp⟩ k
  obtain ⟨l1, vs, rfl, ⟨_, e1⟩, r1⟩ := rx.lst
  refine ⟨l1, i, vs, rfl, ry.int, e1, h1, h2, by rw [← r1.len]; exact hl, fun p n => ?_⟩
  exact k _ _ _ (Grow.new S.src n) ⟨p, rfl, n, OwnAt.newLst n (r1.rep _)⟩ hp

/-! ### == of data -/
mutual
def toD : PV → Option PyData
  | .non => some .none
  | .bl b => some (.bool b)
  | .int i => some (.int i)
  | .str x => some (.str x)
  | .tup ps => (toDs ps).map .tuple
  | .lst ps => (toDs ps).map .list
  | _ => none
def toDs : List PV → Option (List PyData)
  | [] => some []
  | p :: ps => (toD p).bind fun d => (toDs ps).map fun ds => d :: ds
end
mutual
theorem toD_dp {S : Wd} : ∀ {p : PV} {v : V} {d : PyData}, Rp K S p v → toD p = some d → Dp K S.H v d
  | .non, _, _, h, e => by unfold Rp at h; subst h; unfold toD at e; cases e; exact .non
  | .bl b, _, _, h, e => by unfold Rp at h; subst h; unfold toD at e; cases e; exact .bl b
  | .int b, _, _, h, e => by unfold Rp at h; subst h; unfold toD at e; cases e; exact .int b
  | .str b, _, _, h, e => by unfold Rp at h; subst h; unfold toD at e; cases e; exact .str b
  | .tup ps, _, _, h, e => by
    unfold Rp at h
    obtain ⟨a, vs, rfl, h1, h2⟩ := h
    unfold toD at e
    cases q : toDs ps with
    | none => rw [q] at e; cases e
    | some ds => rw [q] at e; cases e; exact .tup h1.sq (toDs_dp h2 q)
  | .lst ps, _, _, h, e => by
    unfold Rp at h
    obtain ⟨a, vs, rfl, h1, h2⟩ := h
    unfold toD at e
    cases q : toDs ps with
    | none => rw [q] at e; cases e
    | some ds => rw [q] at e; cases e; exact .lst h1.sq (toDs_dp h2 q)
  | .dic _ _, _, _, _, e => by unfold toD at e; cases e
  | .obj _ _ _, _, _, _, e => by unfold toD at e; cases e
  | .ref _, _, _, _, e => by unfold toD at e; cases e
  | .src, _, _, _, e => by unfold toD at e; cases e
  | .scr _, _, _, _, e => by unfold toD at e; cases e
theorem toDs_dp {S : Wd} : ∀ {ps : List PV} {vs : List V} {ds : List PyData}, Rps K S ps vs → toDs ps = some ds → DpAll K S.H vs ds
  | [], _, _, h, e => by unfold Rps at h; subst h; unfold toDs at e; cases e; exact .nil
  | p :: ps, _, _, h, e => by
    unfold Rps at h
    obtain ⟨v, r, rfl, h1, h2⟩ := h
    unfold toDs at e
    cases q : toD p with
    | none => rw [q] at e; cases e
    | some d =>
      rw [q] at e
      cases q2 : toDs ps with
      | none => rw [q2] at e; cases e
      | some ds => rw [q2] at e; cases e; exact .cons (toD_dp h1 q) (toDs_dp h2 q2)
end
theorem toD_dpO {Z : Addr → Prop} {W : Ws} {H : Hp} {p : PV} {v : V} {d : PyData} (h : RpO K ⟨Z, W, H⟩ p v) (e : toD p = some d) : Dp K H v d := by
  cases p with
  | lst ps =>
    obtain ⟨a, vs, rfl, h1, h2⟩ := h.lst
    unfold toD at e
    cases q : toDs ps with
    | none => rw [q] at e; cases e
    | some ds => rw [q] at e; cases e; exact .lst (.inl (.inl h1.2)) (toDs_dp h2 q)
  | dic _ _ => unfold toD at e; cases e
  | non => exact toD_dp (S := ⟨Z, W, H⟩) h e
  | bl _ => exact toD_dp (S := ⟨Z, W, H⟩) h e
  | int _ => exact toD_dp (S := ⟨Z, W, H⟩) h e
  | str _ => exact toD_dp (S := ⟨Z, W, H⟩) h e
  | tup _ => exact toD_dp (S := ⟨Z, W, H⟩) h e
  | obj _ _ _ => unfold toD at e; cases e
  | ref _ => unfold toD at e; cases e
  | src => unfold toD at e; cases e
  | scr _ => unfold toD at e; cases e
def oEq : PO2 := fun x y P => ∃ d e, toD x = some d ∧ toD y = some e ∧ SeqAt.shaped d = true ∧ SeqAt.shaped e = true ∧ P (.bl (PyData.eqv d e))
def oNe : PO2 := fun x y P => ∃ d e, toD x = some d ∧ toD y = some e ∧ SeqAt.shaped d = true ∧ SeqAt.shaped e = true ∧ P (.bl (!PyData.eqv d e))
theorem lift_eq : Lift2 K (rEqD K) oEq .cl := by
  rintro Z W H px py vx vy P Q S rx ry ⟨d, e, h1, h2, s1, s2, hp⟩ k
  exact ⟨d, e, toD_dpO rx h1, toD_dpO ry h2, s1, s2, S.fin k Rp.bl' hp⟩
theorem lift_ne : Lift2 K (rNeD K) oNe .cl := by
  rintro Z W H px py vx vy P Q S rx ry ⟨d, e, h1, h2, s1, s2, hp⟩ k
  exact ⟨d, e, toD_dpO rx h1, toD_dpO ry h2, s1, s2, S.fin k Rp.bl' hp⟩
/-- == of scalars, short -/
def oEqS : PO2 := fun x y P => match x, y with
  | .int i, .int j => P (.bl (decide (i = j)))
  | .str i, .str j => P (.bl (decide (i = j)))
  | .bl i, .bl j => P (.bl (decide (i = j)))
  | _, _ => False
def oNeS : PO2 := fun x y P => match x, y with
  | .int i, .int j => P (.bl (!decide (i = j)))
  | .str i, .str j => P (.bl (!decide (i = j)))
  | .bl i, .bl j => P (.bl (!decide (i = j)))
  | _, _ => False

/-! ### is -/
def isNon : PV → Bool
  | .non => true
  | _ => false
theorem RpO.isNon {Z : Addr → Prop} {W : Ws} {H : Hp} {p : PV} {v : V} (h : RpO K ⟨Z, W, H⟩ p v) : decide (v = .non) = isNon p := by
  cases p with
  | non => rw [h.non]; rfl
  | bl b => rw [h.bl]; rfl
  | int b => rw [h.int]; rfl
  | str b => rw [h.str]; rfl
  | tup b => obtain ⟨a, vs, rfl, _⟩ := h.tup; rfl
  | lst b => obtain ⟨a, vs, rfl, _⟩ := h.lst; rfl
  | dic _ _ => obtain ⟨a, vs, rfl, _⟩ := h; rfl
  | obj _ _ _ => unfold RpO Rp at h; obtain ⟨a, dx, vs, rfl, _⟩ := h; rfl
  | ref _ => unfold RpO Rp at h; subst h; rfl
  | src => unfold RpO Rp at h; obtain ⟨p, _, rfl⟩ := h; rfl
  | scr _ => unfold RpO Rp at h; obtain ⟨p, rfl, _⟩ := h; rfl
def oIsN : PO2 := fun x y P => y = .non ∧ P (.bl (isNon x))
def oNotN : PO2 := fun x y P => y = .non ∧ P (.bl (!isNon x))
theorem lift_isN : Lift2 K (fun x y H Q => y = .non ∧ Q (.bl (decide (x = .non))) H) oIsN .cl := by
  rintro Z W H px py vx vy P Q S rx ry ⟨rfl, hp⟩ k
  refine ⟨ry.non, ?_⟩
  rw [rx.isNon]
  exact S.fin k Rp.bl' hp
theorem lift_notN : Lift2 K (fun x y H Q => y = .non ∧ Q (.bl (!decide (x = .non))) H) oNotN .cl := by
  rintro Z W H px py vx vy P Q S rx ry ⟨rfl, hp⟩ k
  refine ⟨ry.non, ?_⟩
  rw [rx.isNon]
  exact S.fin k Rp.bl' hp
def oIsB : PO2 := fun x y P => ∃ a b, x = .bl a ∧ y = .bl b ∧ P (.bl (decide (a = b)))
def oNotB : PO2 := fun x y P => ∃ a b, x = .bl a ∧ y = .bl b ∧ P (.bl (!decide (a = b)))
theorem lift_isB : Lift2 K rIsB oIsB .cl := by
  rintro Z W H px py vx vy P Q S rx ry ⟨a, b, rfl, rfl, hp⟩ k
  exact ⟨a, b, rx.bl, ry.bl, S.fin k Rp.bl' hp⟩
theorem lift_notB : Lift2 K rNotB oNotB .cl := by
  rintro Z W H px py vx vy P Q S rx ry ⟨a, b, rfl, rfl, hp⟩ k
  exact ⟨a, b, rx.bl, ry.bl, S.fin k Rp.bl' hp⟩

/-! ### in, of flat things -/
def flatP : PV → Bool
  | .non => true
  | .bl _ => true
  | .int _ => true
  | .str _ => true
  | _ => false
def eqP : PV → PV → Bool
  | .non, .non => true
  | .bl a, .bl b => a == b
  | .bl a, .int b => (if a then 1 else 0) == b
  | .int a, .bl b => a == (if b then 1 else 0)
  | .int a, .int b => a == b
  | .str a, .str b => a == b
  | _, _ => false
def flV : PV → V
  | .bl b => .bl b
  | .int i => .int i
  | .str x => .str x
  | _ => .non
theorem RpO.flat {Z : Addr → Prop} {W : Ws} {H : Hp} {p : PV} {v : V} (h : RpO K ⟨Z, W, H⟩ p v) (f : flatP p = true) : v = flV p := by
  cases p with
  | non => exact h.non
  | bl b => exact h.bl
  | int b => exact h.int
  | str b => exact h.str
  | _ => exact absurd f (by simp [flatP])
theorem flV_flat {p : PV} (f : flatP p = true) : flatV (flV p) = true := by cases p <;> first | rfl | exact absurd f (by simp [flatP])
theorem flV_eq {p q : PV} (f : flatP p = true) (g : flatP q = true) : eqV (flV p) (flV q) = eqP p q := by
  cases p <;> cases q <;> first | rfl | (simp [flatP] at f; done) | (simp [flatP] at g; done)
theorem Rps.flat {S : Wd} : ∀ {ps : List PV} {vs : List V}, Rps K S ps vs → ps.all flatP = true → vs = ps.map flV
  | [], _, h, _ => by unfold Rps at h; exact h
  | p :: ps, _, h, f => by
    unfold Rps at h
    obtain ⟨v, r, rfl, h1, h2⟩ := h
    rw [List.all_cons, Bool.and_eq_true] at f
    rw [List.map_cons, Rps.flat h2 f.2]
    obtain ⟨Z, W, H⟩ := S
    have e : v = flV p := by
      cases p with
      | non => unfold Rp at h1; exact h1
      | bl b => unfold Rp at h1; exact h1
      | int b => unfold Rp at h1; exact h1
      | str b => unfold Rp at h1; exact h1
      | _ => exact absurd f.1 (by simp [flatP])
    rw [e]
def inP (x : PV) (ps : List PV) : Bool := ps.any fun y => eqP y x
theorem inV_flat {x : PV} (f : flatP x = true) : ∀ {ps : List PV}, ps.all flatP = true → inV (flV x) (ps.map flV) = inP x ps
  | [], _ => rfl
  | p :: ps, h => by
    rw [List.all_cons, Bool.and_eq_true] at h
    have e := inV_flat f h.2
    unfold inV inP at e ⊢
    rw [List.map_cons, List.any_cons, List.any_cons, flV_eq h.1 f, e]
def oIn (neg : Bool) : PO2 := fun x y P => ∃ ps, (y = .lst ps ∨ y = .tup ps) ∧ flatP x = true ∧ ps.all flatP = true ∧ P (.bl (if neg then !inP x ps else inP x ps))
theorem lift_in {neg : Bool} : Lift2 K (rIn K neg) (oIn neg) .cl := by
  rintro Z W H px py vx vy P Q S rx ry ⟨ps, hy, fx, fs, hp⟩ k
  have ex := rx.flat fx
  subst ex
  rcases hy with rfl | rfl
  · obtain ⟨a, vs, rfl, e, r⟩ := ry.lst
    have ev := r.flat fs
    subst ev
    refine ⟨a, _, rfl, .inl (.inl (.inl e.2)), flV_flat fx, ?_, ?_⟩
    · rw [List.all_eq_true] at fs ⊢
      intro v hv
      obtain ⟨p, hp, rfl⟩ := List.mem_map.mp hv
      exact flV_flat (fs p hp)
    · rw [inV_flat fx fs]
      exact S.fin k Rp.bl' hp
  · obtain ⟨a, vs, rfl, e, r⟩ := ry.tup
    have ev := r.flat fs
    subst ev
    refine ⟨a, _, rfl, .inr e.sq, flV_flat fx, ?_, ?_⟩
    · rw [List.all_eq_true] at fs ⊢
      intro v hv
      obtain ⟨p, hp, rfl⟩ := List.mem_map.mp hv
      exact flV_flat (fs p hp)
    · rw [inV_flat fx fs]
      exact S.fin k Rp.bl' hp

/-! ### subscripts -/
def oIx : PO2 := fun x y P => match x, y with
  | .lst ps, .int i => ∃ p, atI ps i = some p ∧ P p
  | .tup ps, .int i => ∃ p, atI ps i = some p ∧ P p
  | .str z, .int i => z.length ≤ sizeLine ∧ ∃ c, atI z.cps.toList i = some c ∧ P (.str ⟨#[c]⟩)
  | _, _ => False
theorem Rps.atI {S : Wd} {ps : List PV} {vs : List V} {i : Int} {p : PV} (h : Rps K S ps vs) (e : L2.atI ps i = some p) : ∃ v, L2.atI vs i = some v ∧ Rp K S p v := by
  unfold L2.atI at e ⊢
  rw [← h.len]
  cases q : ixN ps.length i with
  | none => rw [q] at e; cases e
  | some j =>
    rw [q] at e
    exact h.get (i := j) e
theorem lift_ix : Lift2 K (rIx K) oIx .cl := by
  intro Z W H px py vx vy P Q S rx ry h k
  cases px with
  | lst ps =>
    cases py with
    | int i =>
      obtain ⟨p, e, hp⟩ := h
      obtain ⟨a, vs, rfl, e1, r⟩ := rx.lst
      obtain ⟨v, e2, r2⟩ := r.atI e
      exact .inl ⟨a, vs, i, v, rfl, ry.int, .inl (.inl e1.2), e2, S.fin k r2 hp⟩
    | _ => exact h.elim
  | tup ps =>
    cases py with
    | int i =>
      obtain ⟨p, e, hp⟩ := h
      obtain ⟨a, vs, rfl, e1, r⟩ := rx.tup
      obtain ⟨v, e2, r2⟩ := r.atI e
      exact .inr (.inl ⟨a, vs, i, v, rfl, ry.int, e1.sq, e2, S.fin k r2 hp⟩)
    | _ => exact h.elim
  | str z =>
    cases py with
    | int i =>
      obtain ⟨hl, c, e, hp⟩ := h
      exact .inr (.inr ⟨z, i, c, rx.str, ry.int, hl, e, S.fin k Rp.str' hp⟩)
    | _ => exact h.elim
  | _ => exact h.elim
theorem em_ix {X : Cx} {c : List Ow} {a b : Expr} {ta tb : TEm} {pos : Pos} (ha : PEm X c .ow a ta) (hb : PEm X c .ow b tb) (hs : PlainIx b) : PEm X c .cl (.Subscript a b pos) (mOp oIx ta tb) := ⟨(pe_ix ix_seq ha.run hb.run hs).weak (tm2 lift_ix)⟩
end
end PM

set_option maxHeartbeats 1000000
/-! PM: slices, built-ins. -/
namespace PM
open PySem L2
/-! ### sorting -/
def ins (x : Int) : List Int → List Int
  | [] => [x]
  | y :: ys => if x ≤ y then x :: y :: ys else y :: ins x ys
def isort : List Int → List Int
  | [] => []
  | x :: xs => ins x (isort xs)
theorem ins_perm (x : Int) : ∀ ys, (ins x ys).Perm (x :: ys)
  | [] => List.Perm.refl _
  | y :: ys => by
    unfold ins
    split
    · exact List.Perm.refl _
    · exact ((ins_perm x ys).cons y).trans (List.Perm.swap x y ys)
theorem isort_perm : ∀ xs, (isort xs).Perm xs
  | [] => List.Perm.refl _
  | x :: xs => (ins_perm x (isort xs)).trans ((isort_perm xs).cons x)
theorem ins_sorted (x : Int) : ∀ ys : List Int, ys.Pairwise (· ≤ ·) → (ins x ys).Pairwise (· ≤ ·)
  | [], _ => by unfold ins; exact List.pairwise_singleton _ _
  | y :: ys, h => by
    unfold ins
    rw [List.pairwise_cons] at h
    split
    · rename_i hxy
      refine List.pairwise_cons.mpr ⟨fun z hz => ?_, List.pairwise_cons.mpr h⟩
      rcases List.mem_cons.mp hz with rfl | hz
      · exact hxy
      · exact Int.le_trans hxy (h.1 z hz)
    · rename_i hxy
      refine List.pairwise_cons.mpr ⟨fun z hz => ?_, ins_sorted x ys h.2⟩
      rcases List.mem_cons.mp ((ins_perm x ys).mem_iff.mp hz) with rfl | hz
      · omega
      · exact h.1 z hz
theorem isort_sorted : ∀ xs, (isort xs).Pairwise (· ≤ ·)
  | [] => List.Pairwise.nil
  | x :: xs => ins_sorted x _ (isort_sorted xs)
theorem sorted_unique {xs ys : List Int} (p : xs.Perm ys) (hx : xs.Pairwise (· ≤ ·)) (hy : ys.Pairwise (· ≤ ·)) : xs = ys :=
  p.eq_of_pairwise (fun a b _ _ h1 h2 => Int.le_antisymm h1 h2) hx hy
theorem isort_eq {xs ys : List Int} (p : ys.Perm xs) (h : ys.Pairwise (· ≤ ·)) : ys = isort xs := sorted_unique (p.trans (isort_perm xs).symm) h (isort_sorted xs)

section
variable {K : PySem.W.Frag}
theorem VKs.nil_inv {Z : Addr → Prop} {W : Ws} {H : Hp} {vs : List V} (h : VKs K .ow Z W H [] vs) : vs = [] := by cases h; rfl
theorem VKs.one {Z : Addr → Prop} {W : Ws} {H : Hp} {p : PV} {vs : List V} (h : VKs K .ow Z W H [p] vs) : ∃ v, vs = [v] ∧ RpO K ⟨Z, W, H⟩ p v := by
  cases h with
  | cons h t => cases t; exact ⟨_, rfl, h⟩
theorem VKs.two {Z : Addr → Prop} {W : Ws} {H : Hp} {p q : PV} {vs : List V} (h : VKs K .ow Z W H [p, q] vs) : ∃ v w, vs = [v, w] ∧ RpO K ⟨Z, W, H⟩ p v ∧ RpO K ⟨Z, W, H⟩ q w := by
  cases h with
  | cons h t => cases t with
    | cons h' t' => cases t'; exact ⟨_, _, rfl, h, h'⟩
/-! ### numbers -/
def oAbs : POn := fun xs P => ∃ i, xs = [.int i] ∧ P (.int (if i < 0 then -i else i))
theorem lift_abs : LiftN K (fun xs H Q => ∃ i, xs = [.int i] ∧ Q (.int (if i < 0 then -i else i)) H) oAbs .cl := by
  rintro Z W H ps vs P Q S r ⟨i, rfl, hp⟩ k
  obtain ⟨v, rfl, rv⟩ := r.one
  exact ⟨i, by rw [rv.int], S.fin k Rp.int' hp⟩
def oMax2 : POn := fun xs P => ∃ i j, xs = [.int i, .int j] ∧ P (.int (if j > i then j else i))
def oMin2 : POn := fun xs P => ∃ i j, xs = [.int i, .int j] ∧ P (.int (if j < i then j else i))
theorem lift_max2 : LiftN K (fun xs H Q => ∃ i j, xs = [.int i, .int j] ∧ Q (.int (if j > i then j else i)) H) oMax2 .cl := by
  rintro Z W H ps vs P Q S r ⟨i, j, rfl, hp⟩ k
  obtain ⟨v, w, rfl, rv, rw'⟩ := r.two
  exact ⟨i, j, by rw [rv.int, rw'.int], S.fin k Rp.int' hp⟩
theorem lift_min2 : LiftN K (fun xs H Q => ∃ i j, xs = [.int i, .int j] ∧ Q (.int (if j < i then j else i)) H) oMin2 .cl := by
  rintro Z W H ps vs P Q S r ⟨i, j, rfl, hp⟩ k
  obtain ⟨v, w, rfl, rv, rw'⟩ := r.two
  exact ⟨i, j, by rw [rv.int, rw'.int], S.fin k Rp.int' hp⟩
def oInt : POn := fun xs P => match xs with
  | [.int i] => P (.int i)
  | [.bl b] => P (.int (if b then 1 else 0))
  | _ => False
theorem lift_int : LiftN K (fun xs H Q => (∃ i, xs = [.int i] ∧ Q (.int i) H) ∨ ∃ k, xs = [.bl k] ∧ Q (.int (if k then 1 else 0)) H) oInt .cl := by
  intro Z W H ps vs P Q S r h k
  match ps, h with
  | [.int i], h =>
    obtain ⟨v, rfl, rv⟩ := r.one
    exact .inl ⟨i, by rw [rv.int], S.fin k Rp.int' h⟩
  | [.bl i], h =>
    obtain ⟨v, rfl, rv⟩ := r.one
    exact .inr ⟨i, by rw [rv.bl], S.fin k Rp.int' h⟩
/-! ### len, list, tuple, sorted, sum .. -/
def plen : PV → Option Nat
  | .lst ps => some ps.length
  | .tup ps => some ps.length
  | .dic ks _ => some ks.length
  | .str x => if x.length ≤ sizeLine then some x.length else none
  | .scr ns => some ns.length
  | _ => none
def oLen : POn := fun xs P => ∃ x n, xs = [x] ∧ plen x = some n ∧ P (.int (n : Int))
abbrev rLen (K : PySem.W.Frag) : List V → Hp → VK → Prop := fun xs H Q => (∃ x n, xs = [x] ∧ LenV K x H n ∧ Q (.int n) H) ∨ (∃ a kvs, xs = [V.ref a] ∧ H a = some (.dK kvs) ∧ Q (.int kvs.length) H)
theorem call_lenA {X : Cx} : CallR X (.builtin "len") (rLen X.K) := CallR.or call_len call_lenD
theorem lift_len : LiftN K (rLen K) oLen .cl := by
  rintro Z W H ps vs P Q S r ⟨x, n, rfl, hn, hp⟩ k
  obtain ⟨v, rfl, rv⟩ := r.one
  cases x with
  | lst ps =>
    obtain ⟨a, ws, rfl, e, r1⟩ := rv.lst
    obtain rfl : ps.length = n := Option.some.inj hn
    exact .inl ⟨_, ps.length, rfl, .inl ⟨ws, .inl (.inl e.2), r1.len⟩, S.fin k Rp.int' hp⟩
  | tup ps =>
    obtain ⟨a, ws, rfl, e, r1⟩ := rv.tup
    obtain rfl : ps.length = n := Option.some.inj hn
    exact .inl ⟨_, ps.length, rfl, .inr ⟨ws, e.sq, r1.len⟩, S.fin k Rp.int' hp⟩
  | dic ks ps =>
    obtain ⟨a, ws, rfl, _, e, l, r1⟩ := rv
    obtain rfl : ks.length = n := Option.some.inj hn
    have el : (ks.zip ws).length = ks.length := by rw [List.length_zip, ← l, Nat.min_self]
    refine .inr ⟨a, _, rfl, e, ?_⟩
    rw [el]
    exact S.fin k Rp.int' hp
  | str x =>
    rw [rv.str]
    have hn' : (if x.length ≤ sizeLine then some x.length else none) = some n := hn
    by_cases hl : x.length ≤ sizeLine
    · rw [if_pos hl] at hn'
      obtain rfl : x.length = n := Option.some.inj hn'
      exact .inl ⟨_, x.length, rfl, ⟨hl, rfl⟩, S.fin k Rp.int' hp⟩
    · rw [if_neg hl] at hn'; cases hn'
  | scr ns =>
    unfold RpO Rp at rv
    obtain ⟨a, rfl, e⟩ := rv
    obtain rfl : ns.length = n := Option.some.inj hn
    have e' : SqL K H a (ns.map V.int) := e.elim (fun z => let ⟨o, w⟩ := z.2; .inl (.inr ⟨o, w⟩)) .inr
    exact .inl ⟨_, ns.length, rfl, .inl ⟨ns.map V.int, e', by rw [List.length_map]⟩, S.fin k Rp.int' hp⟩
  | _ => cases hn
/-- the items of a list or tuple -/
def seqP : PV → Option (List PV)
  | .lst ps => some ps
  | .tup ps => some ps
  | _ => none
theorem RpO.seq {Z : Addr → Prop} {W : Ws} {H : Hp} {p : PV} {ps : List PV} {v : V} (h : RpO K ⟨Z, W, H⟩ p v) (e : seqP p = some ps) : ∃ a vs, v = .ref a ∧ (SqL K H a vs ∨ SqT K H a vs) ∧ Rps K ⟨Z, W, H⟩ ps vs := by
  cases p with
  | lst qs =>
    obtain rfl : qs = ps := Option.some.inj e
    obtain ⟨a, ws, rfl, e, r1⟩ := h.lst
    exact ⟨a, ws, rfl, .inl (.inl (.inl e.2)), r1⟩
  | tup qs =>
    obtain rfl : qs = ps := Option.some.inj e
    obtain ⟨a, ws, rfl, e, r1⟩ := h.tup
    exact ⟨a, ws, rfl, .inr e.sq, r1⟩
  | _ => cases e
def oList : POn := fun xs P => ∃ x ps, xs = [x] ∧ seqP x = some ps ∧ P (.lst ps)
theorem lift_list : LiftN K (fun xs H Q => ∃ p ys, xs = [.ref p] ∧ (SqL K H p ys ∨ SqT K H p ys) ∧ ∀ l, H l = none → Q (.ref l) (upd H l (.lst ys))) oList .fr := by
  rintro Z W H ps vs P Q S r ⟨x, qs, rfl, hn, hp⟩ k
  obtain ⟨v, rfl, rv⟩ := r.one
  obtain ⟨a, ws, rfl, e, r1⟩ := rv.seq hn
  exact ⟨a, ws, rfl, e, fun l n => k _ _ _ (Grow.new S.src n) ⟨l, rfl, n, OwnAt.newLst n r1⟩ hp⟩
def oTuple : POn := fun xs P => ∃ x ps, xs = [x] ∧ seqP x = some ps ∧ P (.tup ps)
theorem lift_tuple : LiftN K (fun xs H Q => ∃ p ys, xs = [.ref p] ∧ ((SqL K H p ys ∧ ∀ l, H l = none → Q (.ref l) (upd H l (.tup ys))) ∨ (SqT K H p ys ∧ Q (.ref p) H))) oTuple .cl := by
  rintro Z W H ps vs P Q S r ⟨x, qs, rfl, hn, hp⟩ k
  obtain ⟨v, rfl, rv⟩ := r.one
  cases x with
  | lst ps =>
    obtain rfl : ps = qs := Option.some.inj hn
    obtain ⟨a, ws, rfl, e, r1⟩ := rv.lst
    exact ⟨a, ws, rfl, .inl ⟨.inl (.inl e.2), fun l n => k _ _ _ (Grow.new S.src n) (VK1.ofRp (Rp.newTup (S.nz n) n S.src S.wz r1)) hp⟩⟩
  | tup ps =>
    obtain rfl : ps = qs := Option.some.inj hn
    have rv' : Rp K ⟨Z, W, H⟩ (.tup ps) v := rv
    obtain ⟨a, ws, rfl, e, r1⟩ := rv.tup
    exact ⟨a, ws, rfl, .inr ⟨e.sq, S.fin k rv' hp⟩⟩
  | _ => cases hn
def intKey (i : Int) : Key := Sum.inl i
def oSorted : POn := fun xs P => ∃ ns : List Int, (xs = [.lst (ns.map .int)] ∨ ((∃ vs, xs = [.dic (ns.map intKey) vs]) ∧ ns.length < 64)) ∧ P (.lst ((isort ns).map .int))
abbrev rSortedA (K : PySem.W.Frag) : List V → Hp → VK → Prop := fun xs H Q => rSortedI K xs H Q ∨ (∃ (a : Addr) (kvs : List (Key × V)) (ks : List Int), xs = [.ref a] ∧ Rd H a (.dK kvs) ∧ kvs.map (·.1) = ks.map Sum.inl ∧ ks.length < 64 ∧
    ∀ (ys : List Int) (p : Addr), ys.Perm ks → ys.Pairwise (· ≤ ·) → H p = none → Q (.ref p) (upd H p (.lst (ys.map V.int))))
theorem call_sortedA {X : Cx} (hc : X.calm = true) : CallR X (.builtin "sorted") (rSortedA X.K) := CallR.or cr_sortedI (call_sortedDI hc)
theorem lift_sorted : LiftN K (rSortedA K) oSorted .fr := by
  rintro Z W H ps vs P Q S r ⟨ns, h, hp⟩ k
  have fin : ∀ (ys : List Int) (p : Addr), ys.Perm ns → ys.Pairwise (· ≤ ·) → H p = none → Q (.ref p) (upd H p (.lst (ys.map V.int))) := fun ys p hy hs n => by
    rw [isort_eq hy hs]
    exact k _ _ _ (Grow.new S.src n) ⟨p, rfl, n, OwnAt.newLst n (Rps.ints.mpr rfl)⟩ hp
  rcases h with rfl | ⟨⟨vals, rfl⟩, h64⟩
  · obtain ⟨v, rfl, rv⟩ := r.one
    obtain ⟨a, ws, rfl, e, r1⟩ := rv.lst
    have ew := Rps.ints.mp r1
    subst ew
    exact .inl ⟨a, ns, rfl, .inl (.inl e.2), fin⟩
  · obtain ⟨v, rfl, rv⟩ := r.one
    obtain ⟨a, ws, rfl, _, e, l, r1⟩ := rv
    refine .inr ⟨a, _, ns, rfl, .inl e, ?_, h64, fin⟩
    exact List.map_fst_zip (Nat.le_of_eq l)
def oSum : POn := fun xs P => ∃ ns : List Int, xs = [.lst (ns.map .int)] ∧ P (.int ns.sum)
theorem lift_sum : LiftN K (rSum K) oSum .cl := by
  rintro Z W H ps vs P Q S r ⟨ns, rfl, hp⟩ k
  obtain ⟨v, rfl, rv⟩ := r.one
  obtain ⟨a, ws, rfl, e, r1⟩ := rv.lst
  have ew := Rps.ints.mp r1
  subst ew
  exact ⟨a, ns, rfl, .inl (.inl e.2), S.fin k Rp.int' hp⟩
def oMaxL : POn := fun xs P => ∃ ns : List Int, xs = [.lst (ns.map .int)] ∧ 0 < ns.length ∧ ∀ m, m ∈ ns → (∀ y, y ∈ ns → y ≤ m) → P (.int m)
def oMinL : POn := fun xs P => ∃ ns : List Int, xs = [.lst (ns.map .int)] ∧ 0 < ns.length ∧ ∀ m, m ∈ ns → (∀ y, y ∈ ns → m ≤ y) → P (.int m)
theorem lift_maxL : LiftN K (rMax K) oMaxL .cl := by
  rintro Z W H ps vs P Q S r ⟨ns, rfl, h0, hp⟩ k
  obtain ⟨v, rfl, rv⟩ := r.one
  obtain ⟨a, ws, rfl, e, r1⟩ := rv.lst
  have ew := Rps.ints.mp r1
  subst ew
  exact ⟨a, ns, rfl, .inl (.inl e.2), h0, fun m h1 h2 => S.fin k Rp.int' (hp m h1 h2)⟩
theorem lift_minL : LiftN K (rMin K) oMinL .cl := by
  rintro Z W H ps vs P Q S r ⟨ns, rfl, h0, hp⟩ k
  obtain ⟨v, rfl, rv⟩ := r.one
  obtain ⟨a, ws, rfl, e, r1⟩ := rv.lst
  have ew := Rps.ints.mp r1
  subst ew
  exact ⟨a, ns, rfl, .inl (.inl e.2), h0, fun m h1 h2 => S.fin k Rp.int' (hp m h1 h2)⟩
def oAll : POn := fun xs P => ∃ bs : List Bool, xs = [.lst (bs.map .bl)] ∧ P (.bl (bs.all id))
def oAny : POn := fun xs P => ∃ bs : List Bool, xs = [.lst (bs.map .bl)] ∧ P (.bl (bs.any id))
theorem lift_all : LiftN K (rAll K) oAll .cl := by
  rintro Z W H ps vs P Q S r ⟨ns, rfl, hp⟩ k
  obtain ⟨v, rfl, rv⟩ := r.one
  obtain ⟨a, ws, rfl, e, r1⟩ := rv.lst
  have ew := Rps.bls.mp r1
  subst ew
  exact ⟨a, ns, rfl, .inl (.inl e.2), S.fin k Rp.bl' hp⟩
theorem lift_any : LiftN K (rAny K) oAny .cl := by
  rintro Z W H ps vs P Q S r ⟨ns, rfl, hp⟩ k
  obtain ⟨v, rfl, rv⟩ := r.one
  obtain ⟨a, ws, rfl, e, r1⟩ := rv.lst
  have ew := Rps.bls.mp r1
  subst ew
  exact ⟨a, ns, rfl, .inl (.inl e.2), S.fin k Rp.bl' hp⟩

/-! ### isinstance -/
def pty : PV → Option String
  | .non => some "NoneType"
  | .bl _ => some "bool"
  | .int _ => some "int"
  | .str _ => some "str"
  | .tup _ => some "tuple"
  | .lst _ => some "list"
  | .dic _ _ => some "dict"
  | _ => none
theorem RpO.tyx {Z : Addr → Prop} {W : Ws} {H : Hp} {p : PV} {v : V} {T : String} (h : RpO K ⟨Z, W, H⟩ p v) (e : pty p = some T) : TyX K H v (.type T) := by
  cases p with
  | non => cases e; rw [h.non]; exact .base .non
  | bl _ => cases e; rw [h.bl]; exact .base (.bl _)
  | int _ => cases e; rw [h.int]; exact .base (.int _)
  | str _ => cases e; rw [h.str]; exact .base (.str _)
  | tup ps =>
    cases e
    obtain ⟨a, ws, rfl, e, r1⟩ := h.tup
    rcases e with e | ⟨o, its, n, h1, h2, _⟩
    · exact .base (.tup e.2)
    · exact .kTuple h1 h2
  | lst ps => cases e; obtain ⟨a, ws, rfl, e, r1⟩ := h.lst; exact .base (.lst e.2)
  | dic ks ps => cases e; obtain ⟨a, ws, rfl, _, e, _⟩ := h; exact .base (.dK e)
  | _ => cases e
def oIsi (T : String) : PO1 := fun x P => ∃ U b, pty x = some U ∧ kitB U T = some b ∧ P (.bl b)
theorem em_isi (T : String) {X : Cx} {c : List Ow} {a : Expr} {ta : TEm} {p p2 pos : Pos} {nm : Str} (ha : PEm X c .ow a ta) (hg : Gl X "isinstance") (hm : X.mg "isinstance" = none) (hgT : Gl X nm) (hmT : X.mg nm = none) (hT : bootBuiltins nm = some (.type T))
    (hn : nm ≠ "__name__" := by decide) (hd : (nm == ("__debug__" : Str)) = false := by decide)
    (he : starEach [a, .Name nm p2] X.env = (false, eval a X.env) :: starEach [.Name nm p2] X.env := by rfl) (he2 : starEach [.Name nm p2] X.env = (false, eval (.Name nm p2) X.env) :: starEach [] X.env := by rfl) (hpl : (backTo pos (starEach [.Name nm p2] X.env)).any (·.1) = false := by rfl) :
    PEm X c .cl (.Call (.Name "isinstance" p) [a, .Name nm p2] [] pos) (mOp1 (oIsi T) ta) := ⟨(pe_callB (r := rIsi X.K) call_isi hg hm PyProof.Rows.boot_isinstance (pa_cons ha.run (pa_cons (pe_bltn (v := .ty T) hgT hmT hT rfl hn hd) pa_nil he2) he) (by decide) (by decide) he hpl).weak fun σ H Q h => by
  obtain ⟨G, A, W, env, P, R, h, k⟩ := h
  refine ⟨G, A, W, env, _, R, h, fun px vx H1 g1 rx ⟨U, b, hU, hb, h1⟩ => ?_⟩
  exact ⟨vx, .ty T, .type U, .type T, b, rfl, .ty T, rx.tyx hU, kit_ty hb, k _ _ H1 g1 (VK1.ofRp Rp.bl') h1⟩⟩

/-! ### slices -/
structure POm (X : Cx) (c : List Ow) (e : Option Expr) (t : Env → (Option Int → Prop) → Prop) : Prop where
  run : PO X e (fun σ H Q => ∃ G A W env P, SR X.K G c A W env σ H ∧ t env P ∧ ∀ o H', Grow W H H' → P o → Q o H')
def mNo : Env → (Option Int → Prop) → Prop := fun _ P => P none
def mPart (t : TEm) : Env → (Option Int → Prop) → Prop := fun env P => t env fun x => ∃ i, x = .int i ∧ P (some i)
theorem om_none {X : Cx} {c : List Ow} : POm X c none mNo := ⟨⟨fun pins s σ H Q I h => po_none.run pins s σ H Q I (by
  obtain ⟨G, A, W, env, P, R, h, k⟩ := h
  exact k none H (Grow.refl R.src) h)⟩⟩
theorem om_some {X : Cx} {c : List Ow} {e : Expr} {t : TEm} (h : PEm X c .ow e t) : POm X c (some e) (mPart t) := ⟨⟨fun pins s σ H Q I x => (po_some h.run).run pins s σ H Q I (by
  obtain ⟨G, A, W, env, P, R, x, k⟩ := x
  refine ⟨G, A, W, env, _, R, x, fun p v H1 g1 r ⟨i, e, h1⟩ => ?_⟩
  subst e
  exact ⟨i, r.o.int, k _ H1 g1 h1⟩)⟩⟩
def cutP (xs : List PV) (lo hi : Option Int) : List PV := (xs.drop (HT.sIx xs.length 0 lo)).take (HT.sIx xs.length xs.length hi - HT.sIx xs.length 0 lo)
theorem Rps.cut {S : Wd} {ps : List PV} {vs : List V} (h : Rps K S ps vs) (lo hi : Option Int) : Rps K S (cutP ps lo hi) (cutV vs lo hi) := by
  unfold cutP cutV
  rw [h.len]
  exact Rps.take _ (Rps.drop _ h)
def mSl (o : PV → Option Int → Option Int → (PV → Prop) → Prop) (t : TEm) (tl th : Env → (Option Int → Prop) → Prop) : TEm := fun env P => t env fun x => tl env fun l => th env fun u => o x l u P
def oSlL : PV → Option Int → Option Int → (PV → Prop) → Prop := fun x l u P => ∃ ps, x = .lst ps ∧ P (.lst (cutP ps l u))
def oSlT : PV → Option Int → Option Int → (PV → Prop) → Prop := fun x l u P => ∃ ps, x = .tup ps ∧ P (.tup (cutP ps l u))
theorem cut_whole {xs : List PV} {lo hi : Option Int} (h : HT.sIx xs.length 0 lo = 0 ∧ HT.sIx xs.length xs.length hi = xs.length) : cutP xs lo hi = xs := by
  unfold cutP
  rw [h.1, h.2]
  simp
section
variable {X : Cx} {c : List Ow} {e : Expr} {lo hi : Option Expr} {te : TEm} {tl th : Env → (Option Int → Prop) → Prop} {pos p2 : Pos}
theorem em_slL (he : PEm X c .ow e te) (hl : POm X c lo tl) (hu : POm X c hi th) : PEm X c .fr (.Subscript e (.Slice lo hi none p2) pos) (mSl oSlL te tl th) := ⟨(pe_slice sl_list he.run hl.run hu.run).weak fun σ H Q h => by
  obtain ⟨G, A, W, env, P, R, h, k⟩ := h
  refine ⟨G, A, W, env, _, R, h, fun px vx H1 g1 rx h1 => ⟨G, A, W, env, _, R.grow g1, h1, fun l H2 g2 h2 => ⟨G, A, W, env, _, (R.grow g1).grow g2, h2, fun u H3 g3 h3 => ?_⟩⟩⟩
  have R3 := ((R.grow g1).grow g2).grow g3
  obtain ⟨ps, rfl, hp⟩ := h3
  obtain ⟨a, vs, rfl, e, r⟩ := RpO.lst (RpO.grow R.sz (g2.trans g3) rx.o)
  exact ⟨a, vs, rfl, .inl (.inl e.2), fun p n => k _ _ _ (((g1.trans g2).trans g3).trans (Grow.new R3.src n)) ⟨p, rfl, ((g1.trans g2).trans g3).free n, OwnAt.newLst n (r.cut l u)⟩ hp⟩⟩
theorem em_slT (he : PEm X c .ow e te) (hl : POm X c lo tl) (hu : POm X c hi th) : PEm X c .cl (.Subscript e (.Slice lo hi none p2) pos) (mSl oSlT te tl th) := ⟨(pe_slice sl_tupA he.run hl.run hu.run).weak fun σ H Q h => by
  obtain ⟨G, A, W, env, P, R, h, k⟩ := h
  refine ⟨G, A, W, env, _, R, h, fun px vx H1 g1 rx h1 => ⟨G, A, W, env, _, R.grow g1, h1, fun l H2 g2 h2 => ⟨G, A, W, env, _, (R.grow g1).grow g2, h2, fun u H3 g3 h3 => ?_⟩⟩⟩
  have R3 := ((R.grow g1).grow g2).grow g3
  obtain ⟨ps, rfl, hp⟩ := h3
  have rx3 := RpO.grow R.sz (g2.trans g3) rx.o
  have rx4 : Rp X.K ⟨Zt G A W, W, H3⟩ (.tup ps) vx := rx3
  obtain ⟨a, vs, rfl, e, r⟩ := RpO.tup rx3
  refine ⟨a, vs, rfl, e.sq, fun w => ?_, fun _ p n => ?_⟩
  · rw [← r.len] at w
    rw [cut_whole w] at hp
    exact k _ _ H3 ((g1.trans g2).trans g3) (VK1.ofRp rx4) hp
  · exact k _ _ _ (((g1.trans g2).trans g3).trans (Grow.new R3.src n)) (VK1.ofRp (Rp.newTup (R3.nz n) n R3.src R.sz (r.cut l u))) hp⟩
end
end
end PM

set_option maxHeartbeats 1000000
/-! PM: statements. -/
namespace PM
open PySem L2

theorem cO_set {c : List Ow} {i j : Nat} {o : Ow} : cO (c.set i o) j = if j = i ∧ i < c.length then o else cO c j := by
  unfold cO
  rw [List.getD_eq_getElem?_getD, List.getD_eq_getElem?_getD, List.getElem?_set]
  by_cases h : i = j
  · subst h
    by_cases h2 : i < c.length
    · rw [if_pos rfl, if_pos h2, if_pos (And.intro rfl h2)]; rfl
    · rw [if_pos rfl, if_neg h2, if_neg (fun z => h2 z.2), List.getElem?_eq_none (by omega)]
  · rw [if_neg h, if_neg (fun z => h z.1.symm)]
theorem cO_sh {c : List Ow} {i : Nat} : cO (c.set i .sh) i = .sh := by
  rw [cO_set]
  by_cases h : i < c.length
  · rw [if_pos ⟨rfl, h⟩]
  · rw [if_neg (fun z => h z.2)]
    unfold cO
    rw [List.getD_eq_getElem?_getD, List.getElem?_eq_none (by omega)]; rfl
theorem cO_ne {c : List Ow} {i j : Nat} {o : Ow} (h : j ≠ i) : cO (c.set i o) j = cO c j := by rw [cO_set, if_neg (fun z => h z.1)]
theorem env_set_get {α : Type} {env : List (Option α)} {i j : Nat} {x p : α} (e : (env.set i (some x))[j]? = some (some p)) : (j = i ∧ i < env.length ∧ p = x) ∨ (j ≠ i ∧ env[j]? = some (some p)) := by
  rw [List.getElem?_set] at e
  by_cases h : i = j
  · subst h
    rw [if_pos rfl] at e
    by_cases h2 : i < env.length
    · rw [if_pos h2] at e
      exact .inl ⟨rfl, h2, (Option.some.inj (Option.some.inj e)).symm⟩
    · rw [if_neg h2] at e; cases e
  · rw [if_neg h] at e
    exact .inr ⟨fun z => h z.symm, e⟩
section
variable {K : PySem.W.Frag} {G G' : Gh} {c c' : List Ow} {A : Nat → Option Addr} {W : Ws} {env : Env} {σ : St} {H H' : Hp}
def dropA (A : Nat → Option Addr) (i : Nat) : Nat → Option Addr := fun j => if j = i then none else A j
def putA (A : Nat → Option Addr) (i : Nat) (a : Addr) : Nat → Option Addr := fun j => if j = i then some a else A j
theorem dropA_some {i j : Nat} {a : Addr} (e : dropA A i j = some a) : j ≠ i ∧ A j = some a := by
  unfold dropA at e
  by_cases h : j = i
  · rw [if_pos h] at e; cases e
  · rw [if_neg h] at e; exact ⟨h, e⟩
theorem dropA_ne {i j : Nat} (h : j ≠ i) : dropA A i j = A j := if_neg h
theorem dropA_eq {i : Nat} : dropA A i i = none := if_pos rfl
theorem putA_ne {i j : Nat} {a : Addr} (h : j ≠ i) : putA A i a j = A j := if_neg h
theorem putA_eq {i : Nat} {a : Addr} : putA A i a i = some a := if_pos rfl
theorem zt_drop {i : Nat} {b : Addr} (h : Zt G (dropA A i) W b) : Zt G A W b := by
  rcases h with h | h | ⟨j, h⟩
  · exact .inl h
  · exact .inr (.inl h)
  · exact .inr (.inr ⟨j, (dropA_some h).2⟩)
/-- a name takes a clean value -/
theorem SR.set_sh {i : Nat} {p : PV} {v : V} (R : SR K G c A W env σ H) (hl : cO c i ≠ .lk) (r : Rp K ⟨Zt G A W, W, H⟩ p v) : SR K G (c.set i .sh) (dropA A i) W (env.set i (some p)) (σ.set i (some v)) H := by
  have x : Ext ⟨Zt G A W, W, H⟩ ⟨Zt G (dropA A i) W, W, H⟩ := ext_less fun b => zt_drop
  refine ⟨by rw [List.length_set, List.length_set]; exact R.len, R.W0in, R.Wmin, R.Wnew, R.Wfix, R.src, R.keep, R.zbt, fun j a e => ?_, fun j k a e1 e2 => ?_, fun j q hc e => ?_, fun j q e => ?_, fun q hq => ?_, fun b o e => ?_⟩
  · obtain ⟨n, e⟩ := dropA_some e
    obtain ⟨h1, h2, h3, h4, h5⟩ := R.Asep j a e
    exact ⟨h1, h2, h3, by rw [cO_ne n]; exact h4, h5⟩
  · exact R.Ainj j k a (dropA_some e1).2 (dropA_some e2).2
  · rcases env_set_get e with ⟨rfl, _, _⟩ | ⟨n, e⟩
    · exact absurd cO_sh hc
    · rw [cO_ne n] at hc
      obtain ⟨a, ha⟩ := R.Aset j q hc e
      exact ⟨a, by rw [dropA_ne n]; exact ha⟩
  · rcases env_set_get e with ⟨rfl, hi, rfl⟩ | ⟨n, e⟩
    · refine ⟨v, by rw [List.getElem?_set_self (by rw [← R.len]; exact hi)], ?_⟩
      rw [dropA_eq]
      exact Rp.ext x r
    · obtain ⟨w, h1, h2⟩ := R.slots j q e
      refine ⟨w, by rw [List.getElem?_set_ne (Ne.symm n)]; exact h1, ?_⟩
      rw [dropA_ne n]
      cases hA : A j with
      | none => rw [hA] at h2; exact Rp.ext x h2
      | some a => rw [hA] at h2; exact ⟨h2.1, h2.2.ext x rfl⟩
  · obtain ⟨h1, h2, h3, h4⟩ := R.pins q hq
    have n : q.1 ≠ i := fun z => hl (z ▸ h4)
    exact ⟨h1, h2, by rw [dropA_ne n]; exact h3, by rw [cO_ne n]; exact h4⟩
  · obtain ⟨h1, h2⟩ := R.fz b o e
    exact ⟨h1, fun z => h2 (zt_drop z)⟩
theorem SR.h0 (R : SR K G c A W env σ H) {a : Addr} (n : H a = none) : G.H0 a = none := by
  cases e : G.H0 a with
  | none => rfl
  | some o =>
    by_cases w : inW G.W0 a
    · obtain ⟨p, hp, hb⟩ := w
      obtain ⟨u, e1⟩ := inW_some R.src (b := a) ⟨p, R.W0in p hp, hb⟩
      rw [n] at e1; cases e1
    · rw [R.keep a o w e] at n; cases n
/-- a name takes a new list -/
theorem SR.set_ow {i : Nat} {p : PV} {a : Addr} (R : SR K G c A W env σ H) (hi' : i < c.length) (hl : cO c i ≠ .lk) (g : Grow W H H') (n : H a = none) (r : OwnAt K ⟨fun b => Zt G A W b ∨ b = a, W, H'⟩ a p) :
    SR K G (c.set i .ow) (putA A i a) W (env.set i (some p)) (σ.set i (some (.ref a))) H' := by
  have R' := R.grow g
  have ta : ∃ o, H' a = some o := by
    cases p with
    | lst ps => obtain ⟨vs, e, _⟩ := r; exact ⟨_, e⟩
    | dic ks ps => obtain ⟨vs, e, _⟩ := r; exact ⟨_, e⟩
    | obj C ns ps => obtain ⟨dx, vs, e, _⟩ := r; exact ⟨_, e⟩
    | _ => exact r.elim
  have nt : ∀ b o, H b = some o → b ≠ a := fun b o e z => by rw [z, n] at e; cases e
  have nw : ¬ inW W a := fun w => by obtain ⟨o, e⟩ := inW_some R.src w; rw [n] at e; cases e
  have nz : ¬ G.zb a := fun z => by obtain ⟨o, e⟩ := R.zbt a z; rw [n] at e; cases e
  have zt : ∀ b, Zt G (putA A i a) W b → Zt G A W b ∨ b = a := fun b z => by
    rcases z with z | z | ⟨j, z⟩
    · exact .inl (.inl z)
    · exact .inl (.inr (.inl z))
    · by_cases hj : j = i
      · subst hj; rw [putA_eq] at z; cases z; exact .inr rfl
      · rw [putA_ne hj] at z; exact .inl (.inr (.inr ⟨j, z⟩))
  have x : Ext ⟨Zt G A W, W, H⟩ ⟨Zt G (putA A i a) W, W, H'⟩ := ⟨fun b o hz e => ⟨fun z => (zt b z).elim hz (nt b o e), g.keep b o (fun w => hz (Zt.w w)) e⟩, fun _ h => h⟩
  have y : Ext ⟨fun b => Zt G A W b ∨ b = a, W, H'⟩ ⟨Zt G (putA A i a) W, W, H'⟩ := ext_less zt
  have own : ∀ j b, A j = some b → H' b = H b ∧ b ≠ a := fun j b e => by
    obtain ⟨_, n2, _, _, o, ho⟩ := R.Asep j b e
    exact ⟨by rw [ho, g.keep b o n2 ho], nt b o ho⟩
  refine ⟨by rw [List.length_set, List.length_set]; exact R.len, R.W0in, R.Wmin, R.Wnew, R.Wfix, R'.src, R'.keep, R'.zbt, fun j b e => ?_, fun j k b e1 e2 => ?_, fun j q hc e => ?_, fun j q e => ?_, fun q hq => ?_, fun b o e => ?_⟩
  · by_cases hj : j = i
    · subst hj
      rw [putA_eq] at e; cases e
      exact ⟨R.h0 n, nw, nz, by rw [cO_set, if_pos ⟨rfl, hi'⟩]; decide, ta⟩
    · rw [putA_ne hj] at e
      obtain ⟨h1, h2, h3, h4, h5⟩ := R'.Asep j b e
      exact ⟨h1, h2, h3, by rw [cO_ne hj]; exact h4, h5⟩
  · by_cases hj : j = i
    · by_cases hk : k = i
      · rw [hj, hk]
      · subst hj; rw [putA_eq] at e1; cases e1; rw [putA_ne hk] at e2; exact absurd rfl (own k a e2).2
    · by_cases hk : k = i
      · subst hk; rw [putA_eq] at e2; cases e2; rw [putA_ne hj] at e1; exact absurd rfl (own j a e1).2
      · rw [putA_ne hj] at e1; rw [putA_ne hk] at e2; exact R.Ainj j k b e1 e2
  · by_cases hj : j = i
    · subst hj; exact ⟨a, putA_eq⟩
    · rcases env_set_get e with ⟨z, _, _⟩ | ⟨_, e⟩
      · exact absurd z hj
      · rw [cO_ne hj] at hc
        obtain ⟨b, hb⟩ := R.Aset j q hc e
        exact ⟨b, by rw [putA_ne hj]; exact hb⟩
  · rcases env_set_get e with ⟨rfl, hi, rfl⟩ | ⟨hj, e⟩
    · refine ⟨.ref a, by rw [List.getElem?_set_self (by rw [← R.len]; exact hi)], ?_⟩
      rw [putA_eq]
      exact ⟨rfl, r.ext y rfl⟩
    · obtain ⟨w, h1, h2⟩ := R.slots j q e
      refine ⟨w, by rw [List.getElem?_set_ne (Ne.symm hj)]; exact h1, ?_⟩
      rw [putA_ne hj]
      cases hA : A j with
      | none => rw [hA] at h2; exact Rp.ext x h2
      | some b => rw [hA] at h2; exact ⟨h2.1, h2.2.ext x (own j b hA).1⟩
  · obtain ⟨h1, h2, h3, h4⟩ := R'.pins q hq
    have nj : q.1 ≠ i := fun z => hl (z ▸ h4)
    exact ⟨h1, h2, by rw [putA_ne nj]; exact h3, by rw [cO_ne nj]; exact h4⟩
  · obtain ⟨h1, h2⟩ := R.fz b o e
    obtain ⟨h3, _⟩ := R'.fz b o e
    exact ⟨h3, fun z => (zt b z).elim h2 (nt b o h1)⟩
/-- one's own list is changed -/
theorem SR.mut {j : Nat} {a : Addr} {o : HO} {p p0 : PV} (e0 : env[j]? = some (some p0)) (R : SR K G c A W env σ H) (hA : A j = some a) (hc : cO c j = .ow) (r : OwnAt K ⟨Zt G A W, W, upd H a o⟩ a p) :
    SR K G c A W (env.set j (some p)) σ (upd H a o) := by
  obtain ⟨a1, a2, a3, a4, u, a5⟩ := R.Asep j a hA
  have za : Zt G A W a := .inr (.inr ⟨j, hA⟩)
  have x : Ext ⟨Zt G A W, W, H⟩ ⟨Zt G A W, W, upd H a o⟩ := ⟨fun b w hz e => ⟨hz, by show upd H a o b = some w; rw [upd_ne (fun z => hz (by rw [z]; exact za))]; exact e⟩, fun _ h => h⟩
  have tr : ∀ b, (∃ w, H b = some w) → ∃ w, upd H a o b = some w := fun b ⟨w, e⟩ => by
    by_cases z : b = a
    · subst z; exact ⟨o, upd_same⟩
    · exact ⟨w, by rw [upd_ne z]; exact e⟩
  have ne_w : ∀ q ∈ W, q.1 ≠ a ∧ q.2 ≠ a := fun q hq => ⟨fun z => a2 ⟨q, hq, .inl z.symm⟩, fun z => a2 ⟨q, hq, .inr z.symm⟩⟩
  refine ⟨by rw [List.length_set]; exact R.len, R.W0in, R.Wmin, R.Wnew, R.Wfix, fun q hq => ?_, fun b w hw e => ?_, fun b hb => tr b (R.zbt b hb), fun k b e => ?_, R.Ainj, fun k q hk e => ?_, fun k q e => ?_, fun q hq => ?_, fun b w e => ?_⟩
  · exact SA.at (upd_ne (ne_w q hq).1) (upd_ne (ne_w q hq).2) (R.src q hq)
  · rw [upd_ne (fun z => by rw [z, a1] at e; cases e)]
    exact R.keep b w hw e
  · obtain ⟨h1, h2, h3, h4, h5⟩ := R.Asep k b e
    exact ⟨h1, h2, h3, h4, tr b h5⟩
  · rcases env_set_get e with ⟨z, _, _⟩ | ⟨_, e⟩
    · rw [z]; exact ⟨a, hA⟩
    · exact R.Aset k q hk e
  · rcases env_set_get e with ⟨z, hl, z2⟩ | ⟨n, e⟩
    · subst z z2
      obtain ⟨v, h1, h2⟩ := R.slots k p0 e0
      rw [hA] at h2
      refine ⟨v, h1, ?_⟩
      rw [hA]
      exact ⟨h2.1, r⟩
    · obtain ⟨v, h1, h2⟩ := R.slots k q e
      refine ⟨v, h1, ?_⟩
      cases hk : A k with
      | none => rw [hk] at h2; exact Rp.ext x h2
      | some b =>
        rw [hk] at h2
        refine ⟨h2.1, h2.2.ext x ?_⟩
        have : b ≠ a := fun z => n (R.Ainj k j a (z ▸ hk) hA)
        exact upd_ne this
  · obtain ⟨h1, h2, h3, h4⟩ := R.pins q hq
    have : q.2.1 ≠ a := fun z => by
      have := R.Ainj q.1 j a (z ▸ h3) hA
      rw [this, hc] at h4; cases h4
    exact ⟨by rw [upd_ne this]; exact h1, h2, h3, h4⟩
  · obtain ⟨h1, h2⟩ := R.fz b w e
    exact ⟨by rw [upd_ne (fun z => h2 (by rw [z]; exact za))]; exact h1, h2⟩
end

section
variable {K : PySem.W.Frag} {G G' : Gh} {c c' : List Ow} {A : Nat → Option Addr} {W : Ws} {env : Env} {σ : St} {H H' : Hp}
theorem OwnAt.less {Z Z' : Addr → Prop} {a : Addr} {p : PV} (r : OwnAt K ⟨Z, W, H⟩ a p) (h : ∀ b, Z' b → Z b) : OwnAt K ⟨Z', W, H⟩ a p := r.ext (ext_less h) rfl
/-- what is one's own may become shared -/
def FrzOk : List Ow → List Ow → Bool
  | [], [] => true
  | x :: xs, y :: ys => (decide (x = y) || (decide (x = .ow) && decide (y = .sh))) && FrzOk xs ys
  | _, _ => false
theorem FrzOk.at : ∀ {c c' : List Ow} (i : Nat), FrzOk c c' = true → cO c' i = cO c i ∨ (cO c i = .ow ∧ cO c' i = .sh)
  | [], [], _, _ => .inl rfl
  | x :: xs, y :: ys, 0, h => by
    unfold FrzOk at h
    rw [Bool.and_eq_true, Bool.or_eq_true, Bool.and_eq_true, decide_eq_true_eq, decide_eq_true_eq, decide_eq_true_eq] at h
    rcases h.1 with e | e
    · subst e; exact .inl rfl
    · exact .inr ⟨e.1, e.2⟩
  | x :: xs, y :: ys, i + 1, h => by
    unfold FrzOk at h
    rw [Bool.and_eq_true] at h
    exact FrzOk.at (c := xs) (c' := ys) i h.2
theorem SR.frz (R : SR K G c A W env σ H) (h : FrzOk c c' = true) : ∃ A', SR K G c' A' W env σ H := by
  have hat := fun i => FrzOk.at (c := c) (c' := c') i h
  let A' : Nat → Option Addr := fun i => if cO c' i = .sh then none else A i
  have d1 : ∀ i a, A' i = some a → A i = some a ∧ cO c' i ≠ .sh := fun i a e => by
    have e' : (if cO c' i = .sh then none else A i) = some a := e
    by_cases z : cO c' i = .sh
    · rw [if_pos z] at e'; cases e'
    · rw [if_neg z] at e'; exact ⟨e', z⟩
  have d2 : ∀ i, cO c' i ≠ .sh → A' i = A i := fun i z => if_neg z
  have d3 : ∀ i, cO c' i = .sh → A' i = none := fun i z => if_pos z
  have zt : ∀ b, Zt G A' W b → Zt G A W b := fun b z => by
    rcases z with z | z | ⟨i, z⟩
    · exact .inl z
    · exact .inr (.inl z)
    · exact .inr (.inr ⟨i, (d1 i b z).1⟩)
  have x : Ext ⟨Zt G A W, W, H⟩ ⟨Zt G A' W, W, H⟩ := ext_less zt
  refine ⟨A', R.len, R.W0in, R.Wmin, R.Wnew, R.Wfix, R.src, R.keep, R.zbt, fun i a e => ?_, fun i j a e1 e2 => R.Ainj i j a (d1 i a e1).1 (d1 j a e2).1, fun i p hc e => ?_, fun i p e => ?_, fun q hq => ?_, fun b o e => ?_⟩
  · obtain ⟨h1, h2, h3, _, h5⟩ := R.Asep i a (d1 i a e).1
    exact ⟨h1, h2, h3, (d1 i a e).2, h5⟩
  · rw [d2 i hc]
    exact R.Aset i p (fun z => by
      rcases hat i with w | w
      · exact hc (w.trans z)
      · exact hc w.2) e
  · obtain ⟨v, h1, h2⟩ := R.slots i p e
    refine ⟨v, h1, ?_⟩
    by_cases z : cO c' i = .sh
    · rw [d3 i z]
      cases hA : A i with
      | none => rw [hA] at h2; exact Rp.ext x h2
      | some a =>
        rw [hA] at h2
        obtain ⟨rfl, h2⟩ := h2
        obtain ⟨_, a2, a3, _, _⟩ := R.Asep i a hA
        refine OwnAt.cl (Z := Zt G A' W) (fun w => ?_) (h2.less (Z' := fun b => Zt G A' W b ∨ b = a) fun b w => ?_)
        · rcases w with w | w | ⟨j, w⟩
          · exact a3 w
          · exact a2 w
          · obtain ⟨w1, w2⟩ := d1 j a w
            have := R.Ainj j i a w1 hA
            exact w2 (this ▸ z)
        · rcases w with w | w
          · exact zt b w
          · rw [w]; exact .inr (.inr ⟨i, hA⟩)
    · rw [d2 i z]
      cases hA : A i with
      | none => rw [hA] at h2; exact Rp.ext x h2
      | some a => rw [hA] at h2; exact ⟨h2.1, h2.2.ext x rfl⟩
  · obtain ⟨h1, h2, h3, h4⟩ := R.pins q hq
    have e : cO c' q.1 = .lk := by
      rcases hat q.1 with w | w
      · rw [w]; exact h4
      · rw [h4] at w; cases w.1
    exact ⟨h1, h2, by rw [d2 q.1 (by rw [e]; decide)]; exact h3, e⟩
  · obtain ⟨h1, h2⟩ := R.fz b o e
    exact ⟨h1, fun z => h2 (zt b z)⟩

/-! ### statements -/
structure Em where
  nx : Env → Prop
  rt : PV → Prop
  bk : Env → Prop := fun _ => False
  ct : Env → Prop := fun _ => False
abbrev TSm := Em → Env → Prop
/-- what a def gives back -/
def RetOk (K : PySem.W.Frag) (rm : Md) (G : Gh) (p : PV) (v : V) (H : Hp) : Prop :=
  ∃ W, (∀ q ∈ G.W0, q ∈ W) ∧ (G.gw = false → W = G.W0) ∧ (∀ q ∈ W, SA H q) ∧ (∀ b o, ¬ inW G.W0 b → G.H0 b = some o → H b = some o) ∧ VK1 K rm (fun b => G.zb b ∨ inW W b) W G.H0 H p v
structure Kont (K : PySem.W.Frag) (rm : Md) (cL c' : List Ow) (G : Gh) (M : Em) (D : Ends) : Prop where
  nx : ∀ A W env σ H, SR K G c' A W env σ H → M.nx env → D.nx σ H
  rt : ∀ p v H, RetOk K rm G p v H → M.rt p → D.rt v H
  bk : ∀ A W env σ H, SR K G cL A W env σ H → M.bk env → D.bk σ H
  ct : ∀ A W env σ H, SR K G cL A W env σ H → M.ct env → D.ct σ H
structure Fx where
  rm : Md
  gw : Bool
  cL : List Ow
def tmS (K : PySem.W.Frag) (f : Fx) (c c' : List Ow) (t : TSm) : TS := fun D σ H => ∃ G A W env M, G.gw = f.gw ∧ SR K G c A W env σ H ∧ t M env ∧ Kont K f.rm f.cL c' G M D
structure PSm (X : Cx) (f : Fx) (c c' : List Ow) (st : Stmt) (t : TSm) : Prop where
  run : PS X st (tmS X.K f c c' t)
structure PSsm (X : Cx) (f : Fx) (c c' : List Ow) (st : List Stmt) (t : TSm) : Prop where
  run : PSs X st (tmS X.K f c c' t)
theorem _root_.L2.PS.weak {X : Cx} {e : Stmt} {t t' : TS} (h : PS X e t) (k : ∀ D σ H, t' D σ H → t D σ H) : PS X e t' := ⟨fun pins s σ H D I x => h.run pins s σ H D I (k D σ H x)⟩
theorem _root_.L2.PSs.weak {X : Cx} {e : List Stmt} {t t' : TS} (h : PSs X e t) (k : ∀ D σ H, t' D σ H → t D σ H) : PSs X e t' := ⟨fun pins s σ H D I x => h.run pins s σ H D I (k D σ H x)⟩
end
section
variable {X : Cx} {f : Fx} {c c1 c' : List Ow} {st : Stmt} {rest : List Stmt} {t u : TSm} {e : Expr} {te : TEm} {pos : Pos}
def sNext : TSm := fun M env => M.nx env
def sSeq (t u : TSm) : TSm := fun M env => t { M with nx := u M } env
theorem sm_nil : PSsm X f c c [] sNext := ⟨pss_nil.weak fun D σ H h => by
  obtain ⟨G, A, W, env, M, hg, R, h, k⟩ := h
  exact k.nx A W env σ H R h⟩
theorem sm_cons (h1 : PSm X f c c1 st t) (h2 : PSsm X f c1 c' rest u) : PSsm X f c c' (st :: rest) (sSeq t u) := ⟨(pss_cons h1.run h2.run).weak fun D σ H h => by
  obtain ⟨G, A, W, env, M, hg, R, h, k⟩ := h
  exact ⟨G, A, W, env, _, hg, R, h, ⟨fun A W env σ H R' h' => ⟨G, A, W, env, M, hg, R', h', k⟩, k.rt, k.bk, k.ct⟩⟩⟩
theorem sm_one (h1 : PSm X f c c' st t) : PSsm X f c c' [st] t := ⟨pss_one h1.run⟩
/-- ownership may be let go ahead of a block, behind it -/
theorem sm_pre (h : FrzOk c c1 = true) (h1 : PSsm X f c1 c' rest t) : PSsm X f c c' rest t := ⟨h1.run.weak fun D σ H h' => by
  obtain ⟨G, A, W, env, M, hg, R, h', k⟩ := h'
  obtain ⟨A', R'⟩ := R.frz h
  exact ⟨G, A', W, env, M, hg, R', h', k⟩⟩
theorem sm_post (h : FrzOk c1 c' = true) (h1 : PSsm X f c c1 rest t) : PSsm X f c c' rest t := ⟨h1.run.weak fun D σ H h' => by
  obtain ⟨G, A, W, env, M, hg, R, h', k⟩ := h'
  exact ⟨G, A, W, env, M, hg, R, h', ⟨fun A W env σ H R' h2 => by
    obtain ⟨A', R2⟩ := R'.frz h
    exact k.nx A' W env σ H R2 h2, k.rt, k.bk, k.ct⟩⟩⟩
theorem sm_pre1 (h : FrzOk c c1 = true) (h1 : PSm X f c1 c' st t) : PSm X f c c' st t := ⟨h1.run.weak fun D σ H h' => by
  obtain ⟨G, A, W, env, M, hg, R, h', k⟩ := h'
  obtain ⟨A', R'⟩ := R.frz h
  exact ⟨G, A', W, env, M, hg, R', h', k⟩⟩
theorem sm_pass : PSm X f c c (.Pass pos) sNext := ⟨ps_pass.weak fun D σ H h => by
  obtain ⟨G, A, W, env, M, hg, R, h, k⟩ := h
  exact k.nx A W env σ H R h⟩
def sBreak : TSm := fun M env => M.bk env
def sCont : TSm := fun M env => M.ct env
theorem sm_break (h : FrzOk c f.cL = true) : PSm X f c c' (.Break pos) sBreak := ⟨ps_break.weak fun D σ H h' => by
  obtain ⟨G, A, W, env, M, hg, R, h', k⟩ := h'
  obtain ⟨A', R'⟩ := R.frz h
  exact k.bk A' W env σ H R' h'⟩
theorem sm_cont (h : FrzOk c f.cL = true) : PSm X f c c' (.Continue pos) sCont := ⟨ps_continue.weak fun D σ H h' => by
  obtain ⟨G, A, W, env, M, hg, R, h', k⟩ := h'
  obtain ⟨A', R'⟩ := R.frz h
  exact k.ct A' W env σ H R' h'⟩
def sDrop (te : TEm) : TSm := fun M env => te env fun _ => M.nx env
theorem sm_expr {md : Md} (he : PEm X c md e te) (hs : swapsWith e none pos.line X.env = pure false := by rfl) : PSm X f c c (.Expr e pos) (sDrop te) := ⟨(ps_expr he.run hs).weak fun D σ H h => by
  obtain ⟨G, A, W, env, M, hg, R, h, k⟩ := h
  exact ⟨G, A, W, env, _, R, h, fun p v H1 g r h1 => k.nx A W env σ H1 (R.grow g) h1⟩⟩
def sRet (te : TEm) : TSm := fun M env => te env M.rt
theorem SR.ret {K : PySem.W.Frag} {G : Gh} {A : Nat → Option Addr} {W : Ws} {env : Env} {σ : St} {H H1 : Hp} {rm : Md} {p : PV} {v : V} (R : SR K G c A W env σ H) (g : Grow W H H1) (hm : rm ≠ .ow) (r : VK1 K rm (Zt G A W) W H H1 p v) : RetOk K rm G p v H1 := by
  have R1 := R.grow g
  refine ⟨W, R.W0in, R.Wfix, R1.src, R1.keep, ?_⟩
  have less : ∀ b, (G.zb b ∨ inW W b) → Zt G A W b := fun b z => z.elim .inl fun z => .inr (.inl z)
  cases rm with
  | cl => exact VK1.ofRp (Rp.ext (ext_less less) r.c)
  | ow => exact absurd rfl hm
  | fr =>
    obtain ⟨a, e, n, o⟩ := r
    exact ⟨a, e, R.h0 n, o.less fun b z => z.elim (fun z => .inl (less b z)) .inr⟩
theorem sm_ret (he : PEm X c f.rm e te) (hm : f.rm ≠ .ow := by decide) : PSm X f c c' (.Return (some e) pos) (sRet te) := ⟨(ps_ret he.run).weak fun D σ H h => by
  obtain ⟨G, A, W, env, M, hg, R, h, k⟩ := h
  exact ⟨G, A, W, env, _, R, h, fun p v H1 g r h1 => k.rt p v H1 (R.ret g hm r) h1⟩⟩
/-- a list of one's own given back -/
theorem sm_retO (i : Nat) {x : Str} {pos' : Pos} (hN : X.N[i]? = some x := by rfl) (hc : cO c i ≠ .sh := by decide) (hm : f.rm ≠ .ow := by decide) (hv : Vis X.env.scope x := by first | exact Or.inl rfl | exact Or.inr (Or.inl rfl) | exact Or.inr (Or.inr rfl)) (hd : (x == ("__debug__" : Str)) = false := by decide)
    (hcd : (x == ("__classdict__" : Str)) = false := by decide) : PSm X f c c' (.Return (some (.Name x pos')) pos) (sRet (mVar i)) := ⟨(ps_ret (pe_var hN hv hd hcd)).weak fun D σ H h => by
  obtain ⟨G, A, W, env, M, hg, R, ⟨p, e, hp⟩, k⟩ := h
  obtain ⟨v, h1, h2⟩ := R.slots i p e
  obtain ⟨a, hA⟩ := R.Aset i p hc e
  rw [hA] at h2
  obtain ⟨rfl, h2⟩ := h2
  obtain ⟨a1, a2, a3, _, _⟩ := R.Asep i a hA
  refine ⟨.ref a, h1, k.rt p _ H ⟨W, R.W0in, R.Wfix, R.src, R.keep, ?_⟩ hp⟩
  have o : OwnAt X.K ⟨fun b => (G.zb b ∨ inW W b) ∨ b = a, W, H⟩ a p := h2.less fun b z => by
    rcases z with z | z
    · exact z.elim .inl fun z => .inr (.inl z)
    · rw [z]; exact .inr (.inr ⟨i, hA⟩)
  cases hr : f.rm with
  | ow => exact absurd hr hm
  | cl => exact VK1.ofRp (o.cl fun z => z.elim a3 a2)
  | fr => exact ⟨a, rfl, a1, o⟩⟩
def sRetN : TSm := fun M _ => M.rt .non
theorem sm_retN (hm : f.rm = .cl := by rfl) : PSm X f c c' (.Return none pos) sRetN := ⟨ps_retN.weak fun D σ H h => by
  obtain ⟨G, A, W, env, M, hg, R, h, k⟩ := h
  refine k.rt _ _ H ⟨W, R.W0in, R.Wfix, R.src, R.keep, ?_⟩ h
  rw [hm]
  exact VK1.ofRp Rp.non'⟩
def sIf (tc : TTm) (t u : TSm) : TSm := fun M env => tc env fun b => if b = true then t M env else u M env
theorem sm_if {cnd : Expr} {a b : List Stmt} {tc : TTm} (hc : PTm X c cnd tc) (ha : PSsm X f c c' a t) (hb : PSsm X f c c' b u) : PSm X f c c' (.If cnd a b pos) (sIf tc t u) := ⟨(ps_if hc.run ha.run hb.run).weak fun D σ H h => by
  obtain ⟨G, A, W, env, M, hg, R, h, k⟩ := h
  refine ⟨G, A, W, env, _, R, h, fun b H1 g h1 => ?_⟩
  cases b with
  | true => rw [if_pos rfl] at h1 ⊢; exact ⟨G, A, W, env, M, hg, R.grow g, h1, k⟩
  | false => rw [if_neg Bool.false_ne_true] at h1 ⊢; exact ⟨G, A, W, env, M, hg, R.grow g, h1, k⟩⟩
/-- x = e -/
def sSet (i : Nat) (te : TEm) : TSm := fun M env => te env fun p => M.nx (env.set i (some p))
theorem sm_set (i : Nat) {x : Str} {pos' : Pos} (hN : X.N.Nodup) (he : PEm X c .cl e te) (hi : X.N[i]? = some x := by rfl) (hx : Loc X.env.scope x := by first | exact Or.inl rfl | exact Or.inr rfl) (hl : cO c i ≠ .lk := by decide) (hs : swapsWith e (some (.Name x pos')) pos.line X.env = pure false := by rfl) (hf : X.fn x = true ∨ X.env.scope.names.lookup x = some .local := by first | exact .inl rfl | exact .inr rfl | assumption) :
    PSm X f c (c.set i .sh) (.Assign [.Name x pos'] e pos) (sSet i te) := ⟨(ps_set hN hi hx he.run hs hf).weak fun D σ H h => by
  obtain ⟨G, A, W, env, M, hg, R, h, k⟩ := h
  exact ⟨G, A, W, env, _, R, h, fun p v H1 g r h1 => k.nx _ W _ _ H1 ((R.grow g).set_sh hl r.c) h1⟩⟩
theorem sm_setF (i : Nat) {x : Str} {pos' : Pos} (hN : X.N.Nodup) (he : PEm X c .fr e te) (hi : X.N[i]? = some x := by rfl) (hx : Loc X.env.scope x := by first | exact Or.inl rfl | exact Or.inr rfl) (hlen : i < c.length := by decide) (hl : cO c i ≠ .lk := by decide) (hs : swapsWith e (some (.Name x pos')) pos.line X.env = pure false := by rfl) (hf : X.fn x = true ∨ X.env.scope.names.lookup x = some .local := by first | exact .inl rfl | exact .inr rfl | assumption) :
    PSm X f c (c.set i .ow) (.Assign [.Name x pos'] e pos) (sSet i te) := ⟨(ps_set hN hi hx he.run hs hf).weak fun D σ H h => by
  obtain ⟨G, A, W, env, M, hg, R, h, k⟩ := h
  refine ⟨G, A, W, env, _, R, h, fun p v H1 g r h1 => ?_⟩
  obtain ⟨a, rfl, n, o⟩ := r
  exact k.nx _ W _ _ H1 (R.set_ow hlen hl g n o) h1⟩
/-- x += e, whole numbers -/
def sAug (i : Nat) (o : PO2) (te : TEm) : TSm := fun M env => ∃ x, env[i]? = some (some x) ∧ te env fun y => o x y fun z => M.nx (env.set i (some z))
theorem sm_aug (i : Nat) {x : Str} {pos' : Pos} {op : Operator} {r : R2} {o : PO2} (ho : OpR X (inplaceOp op) r) (L : Lift2 X.K r o .cl) (hN : X.N.Nodup) (he : PEm X c .ow e te) (hi : X.N[i]? = some x := by rfl) (hx : Loc X.env.scope x := by first | exact Or.inl rfl | exact Or.inr rfl) (hc : cO c i = .sh := by rfl) (hf : X.fn x = true ∨ X.env.scope.names.lookup x = some .local := by first | exact .inl rfl | exact .inr rfl | assumption) :
    PSm X f c (c.set i .sh) (.AugAssign (.Name x pos') op e pos) (sAug i o te) := ⟨(ps_aug hN hi hx he.run (ti := r) (fun pins s σ H x y v u Q I rx ry h => ho pins s σ H x y v u Q I rx ry h) hf).weak fun D σ H h => by
  obtain ⟨G, A, W, env, M, hg, R, ⟨p, ep, h⟩, k⟩ := h
  obtain ⟨v, h1, h2⟩ := R.slots i p ep
  have hA : A i = none := by
    cases hA : A i with
    | none => rfl
    | some a => exact absurd hc (R.Asep i a hA).2.2.2.1
  rw [hA] at h2
  refine ⟨v, h1, G, A, W, env, _, R, h, fun q w H1 g r h3 => ?_⟩
  refine L _ W H1 p q v w _ _ (R.grow g).sit (RpO.grow R.sz g (Rp.ow R.sz h2)) r.o h3 fun z u H2 g2 r2 h4 => ?_
  exact k.nx _ W _ _ H2 (((R.grow g).grow g2).set_sh (by rw [hc]; decide) r2.c) h4⟩
end
end PM

set_option maxHeartbeats 1000000
/-! PM: lists changed, targets, loops. -/
namespace PM
open PySem L2
section
variable {X : Cx} {f : Fx} {c c1 c' : List Ow} {st : Stmt} {rest : List Stmt} {t u : TSm} {e ei : Expr} {te ti : TEm} {pos : Pos}
/-- one's own list, as it stands -/
theorem SR.mine {K : PySem.W.Frag} {G : Gh} {A : Nat → Option Addr} {W : Ws} {env : Env} {σ : St} {H : Hp} {i : Nat} {p : PV} (R : SR K G c A W env σ H) (hc : cO c i = .ow) (e : env[i]? = some (some p)) : ∃ a, A i = some a ∧ σ[i]? = some (some (.ref a)) ∧ OwnAt K ⟨Zt G A W, W, H⟩ a p := by
  obtain ⟨v, h1, h2⟩ := R.slots i p e
  obtain ⟨a, hA⟩ := R.Aset i p (by rw [hc]; decide) e
  rw [hA] at h2
  exact ⟨a, hA, by rw [h1, h2.1], h2.2⟩
theorem OwnAt.mutL {K : PySem.W.Frag} {Z : Addr → Prop} {W : Ws} {H : Hp} {a : Addr} {ps : List PV} {vs : List V} (hz : Z a) (r : Rps K ⟨Z, W, H⟩ ps vs) : OwnAt K ⟨Z, W, upd H a (.lst vs)⟩ a (.lst ps) :=
by
  have x : Ext ⟨Z, W, H⟩ ⟨Z, W, upd H a (.lst vs)⟩ := ⟨fun b w h e => ⟨h, by show upd H a (.lst vs) b = some w; rw [upd_ne (fun z => h (by rw [z]; exact hz))]; exact e⟩, fun _ h => h⟩
  exact ⟨vs, upd_same, Rps.ext x r⟩
/-- x.append(e) -/
def sApp (i : Nat) (te : TEm) : TSm := fun M env => ∃ ps, env[i]? = some (some (.lst ps)) ∧ te env fun p => ps.length < sizeLine ∧ M.nx (env.set i (some (.lst (ps ++ [p]))))
theorem sm_app (i : Nat) {x : Str} {p1 p2 cpos : Pos} (he : PEm X c .cl e te) (hN : X.N[i]? = some x := by rfl) (hc : cO c i = .ow := by rfl) (hv : Vis X.env.scope x := by first | exact Or.inl rfl | exact Or.inr (Or.inl rfl) | exact Or.inr (Or.inr rfl)) (hd : (x == ("__debug__" : Str)) = false := by decide)
    (hcd : (x == ("__classdict__" : Str)) = false := by decide)
    (hbase : attributeBase (.Name x p1) "append" X.env (eval (.Name x p1) X.env) = eval (.Name x p1) X.env := by rfl)
    (hfew : ((backTo cpos (starEach [e] X.env)).all (fun x => !x.1) && (backToKw cpos (keywordEach [] X.env)).all (fun x => x.1.isSome)
      && decide (([e] : List Expr).length + ([] : List Keyword).length + (if ([] : List Keyword).isEmpty then 0 else 1) < 30)) = true := by rfl)
    (hline : (p2.endLine == cpos.line) = true := by rfl) (hs : starEach [e] X.env = (false, eval e X.env) :: starEach [] X.env := by rfl) (hplain : (backTo cpos (starEach [] X.env)).any (·.1) = false := by rfl)
    (hsw : swapsWith (.Call (.Attribute (.Name x p1) "append" p2) [e] [] cpos) none pos.line X.env = pure false := by rfl) :
    PSm X f c c (.Expr (.Call (.Attribute (.Name x p1) "append" p2) [e] [] cpos) pos) (sApp i te) := ⟨(ps_expr (pe_bm PySem.F.plainAttrs_list PySem.F.slot_list_append PySem.F.type_list_append mt_append (pe_var hN hv hd hcd) (pa_cons he.run pa_nil hs) hbase hfew hline hs hplain) hsw).weak fun D σ H h => by
  obtain ⟨G, A, W, env, M, hg, R, ⟨ps, e0, h⟩, k⟩ := h
  obtain ⟨a, hA, hσ, vs, hH, r⟩ := R.mine hc e0
  refine ⟨.ref a, hσ, .inl ⟨rfl, vs, .inl (.inl hH)⟩, G, A, W, env, _, R, h, fun p v H1 g rv ⟨hl, h1⟩ => ?_⟩
  have R1 := R.grow g
  obtain ⟨a', hA', _, ws, hH1, r1⟩ := R1.mine hc e0
  rw [hA] at hA'; cases hA'
  refine ⟨a, ws, v, rfl, rfl, hH1, by rw [← r1.len]; exact hl, ?_⟩
  exact k.nx A W _ σ _ (R1.mut e0 hA hc (OwnAt.mutL (.inr (.inr ⟨i, hA⟩)) (r1.append (Rps.cons rv.c Rps.nil)))) h1⟩
/-- x.extend(e), e a list -/
def sExt (i : Nat) (te : TEm) : TSm := fun M env => ∃ ps, env[i]? = some (some (.lst ps)) ∧ te env fun p => ∃ qs, p = .lst qs ∧ ps.length + qs.length ≤ sizeLine ∧ M.nx (env.set i (some (.lst (ps ++ qs))))
theorem sm_ext (i : Nat) {x : Str} {p1 p2 cpos : Pos} (he : PEm X c .cl e te) (hN : X.N[i]? = some x := by rfl) (hc : cO c i = .ow := by rfl) (hv : Vis X.env.scope x := by first | exact Or.inl rfl | exact Or.inr (Or.inl rfl) | exact Or.inr (Or.inr rfl)) (hd : (x == ("__debug__" : Str)) = false := by decide)
    (hcd : (x == ("__classdict__" : Str)) = false := by decide)
    (hbase : attributeBase (.Name x p1) "extend" X.env (eval (.Name x p1) X.env) = eval (.Name x p1) X.env := by rfl)
    (hfew : ((backTo cpos (starEach [e] X.env)).all (fun x => !x.1) && (backToKw cpos (keywordEach [] X.env)).all (fun x => x.1.isSome)
      && decide (([e] : List Expr).length + ([] : List Keyword).length + (if ([] : List Keyword).isEmpty then 0 else 1) < 30)) = true := by rfl)
    (hline : (p2.endLine == cpos.line) = true := by rfl) (hs : starEach [e] X.env = (false, eval e X.env) :: starEach [] X.env := by rfl) (hplain : (backTo cpos (starEach [] X.env)).any (·.1) = false := by rfl)
    (hsw : swapsWith (.Call (.Attribute (.Name x p1) "extend" p2) [e] [] cpos) none pos.line X.env = pure false := by rfl) :
    PSm X f c c (.Expr (.Call (.Attribute (.Name x p1) "extend" p2) [e] [] cpos) pos) (sExt i te) := ⟨(ps_expr (pe_bm PySem.F.plainAttrs_list PySem.F.slot_list_extend PySem.F.type_list_extend mt_extend (pe_var hN hv hd hcd) (pa_cons he.run pa_nil hs) hbase hfew hline hs hplain) hsw).weak fun D σ H h => by
  obtain ⟨G, A, W, env, M, hg, R, ⟨ps, e0, h⟩, k⟩ := h
  obtain ⟨a, hA, hσ, vs, hH, r⟩ := R.mine hc e0
  refine ⟨.ref a, hσ, .inl ⟨rfl, vs, .inl (.inl hH)⟩, G, A, W, env, _, R, h, fun p v H1 g rv ⟨qs, eq, hl, h1⟩ => ?_⟩
  subst eq
  have R1 := R.grow g
  obtain ⟨a', hA', _, ws, hH1, r1⟩ := R1.mine hc e0
  rw [hA] at hA'; cases hA'
  obtain ⟨b, us, rfl, e2, r2⟩ := (Rp.ow R1.sz rv.c).lst
  refine ⟨a, b, ws, us, rfl, rfl, hH1, e2.2, by rw [← r1.len, ← r2.len]; exact hl, ?_⟩
  exact k.nx A W _ σ _ (R1.mut e0 hA hc (OwnAt.mutL (.inr (.inr ⟨i, hA⟩)) (r1.append r2))) h1⟩
/-- y = x.pop(), y = x.pop(e) -/
def sPop (j i : Nat) : TSm := fun M env => ∃ ps p, env[i]? = some (some (.lst ps)) ∧ ps[ps.length - 1]? = some p ∧ M.nx ((env.set i (some (.lst ps.dropLast))).set j (some p))
theorem Rps.dropLast {K : PySem.W.Frag} {S : Wd} {ps : List PV} {vs : List V} (h : Rps K S ps vs) : Rps K S ps.dropLast vs.dropLast := by
  rw [List.dropLast_eq_take, List.dropLast_eq_take, h.len]
  exact h.take _
theorem sm_pop (j i : Nat) {x y : Str} {py p1 p2 cpos : Pos} (hNd : X.N.Nodup) (hi : X.N[j]? = some y := by rfl) (hy : Loc X.env.scope y := by first | exact Or.inl rfl | exact Or.inr rfl) (hl : cO c j ≠ .lk := by decide) (hN : X.N[i]? = some x := by rfl) (hc : cO c i = .ow := by rfl) (hv : Vis X.env.scope x := by first | exact Or.inl rfl | exact Or.inr (Or.inl rfl) | exact Or.inr (Or.inr rfl)) (hd : (x == ("__debug__" : Str)) = false := by decide)
    (hcd : (x == ("__classdict__" : Str)) = false := by decide) (hbase : attributeBase (.Name x p1) "pop" X.env (eval (.Name x p1) X.env) = eval (.Name x p1) X.env := by rfl) (hline : (p2.endLine == cpos.line) = true := by rfl)
    (hsw : swapsWith (.Call (.Attribute (.Name x p1) "pop" p2) [] [] cpos) (some (.Name y py)) pos.line X.env = pure false := by rfl) (hf : X.fn y = true ∨ X.env.scope.names.lookup y = some .local := by first | exact .inl rfl | exact .inr rfl | assumption) :
    PSm X f c (c.set j .sh) (.Assign [.Name y py] (.Call (.Attribute (.Name x p1) "pop" p2) [] [] cpos) pos) (sPop j i) := ⟨(ps_set hNd hi hy (pe_bm0 PySem.F.plainAttrs_list PySem.F.slot_list_pop PySem.F.type_list_pop mt_pop (pe_var hN hv hd hcd) hbase hline) hsw hf).weak fun D σ H h => by
  obtain ⟨G, A, W, env, M, hg, R, ⟨ps, p, e0, ep, h⟩, k⟩ := h
  obtain ⟨a, hA, hσ, vs, hH, r⟩ := R.mine hc e0
  obtain ⟨v, ev, rv⟩ := r.get ep
  refine ⟨.ref a, hσ, .inl ⟨rfl, vs, .inl (.inl hH)⟩, a, vs, v, rfl, rfl, hH, by rw [← r.len]; exact ev, ?_⟩
  have za : Zt G A W a := .inr (.inr ⟨i, hA⟩)
  have R1 := R.mut e0 hA hc (OwnAt.mutL za r.dropLast)
  have x : Ext ⟨Zt G A W, W, H⟩ ⟨Zt G A W, W, upd H a (.lst vs.dropLast)⟩ := ⟨fun b w hz e => ⟨hz, by show upd H a _ b = some w; rw [upd_ne (fun z => hz (by rw [z]; exact za))]; exact e⟩, fun _ h => h⟩
  exact k.nx _ W _ _ _ (R1.set_sh hl (Rp.ext x rv)) h⟩
def sPopAt (j i : Nat) (te : TEm) : TSm := fun M env => ∃ ps, env[i]? = some (some (.lst ps)) ∧ te env fun q => ∃ (m : Int) (n : Nat) (p : PV), q = .int m ∧ (-(2 ^ 63) ≤ m ∧ m < 2 ^ 63) ∧ ixN ps.length m = some n ∧ ps[n]? = some p ∧ M.nx ((env.set i (some (.lst (ps.eraseIdx n)))).set j (some p))
theorem sm_popAt (j i : Nat) {x y : Str} {py p1 p2 cpos : Pos} (hNd : X.N.Nodup) (he : PEm X c .ow e te) (hi : X.N[j]? = some y := by rfl) (hy : Loc X.env.scope y := by first | exact Or.inl rfl | exact Or.inr rfl) (hl : cO c j ≠ .lk := by decide) (hN : X.N[i]? = some x := by rfl) (hc : cO c i = .ow := by rfl) (hv : Vis X.env.scope x := by first | exact Or.inl rfl | exact Or.inr (Or.inl rfl) | exact Or.inr (Or.inr rfl)) (hd : (x == ("__debug__" : Str)) = false := by decide)
    (hcd : (x == ("__classdict__" : Str)) = false := by decide) (hbase : attributeBase (.Name x p1) "pop" X.env (eval (.Name x p1) X.env) = eval (.Name x p1) X.env := by rfl)
    (hfew : ((backTo cpos (starEach [e] X.env)).all (fun x => !x.1) && (backToKw cpos (keywordEach [] X.env)).all (fun x => x.1.isSome)
      && decide (([e] : List Expr).length + ([] : List Keyword).length + (if ([] : List Keyword).isEmpty then 0 else 1) < 30)) = true := by rfl) (hline : (p2.endLine == cpos.line) = true := by rfl) (hs : starEach [e] X.env = (false, eval e X.env) :: starEach [] X.env := by rfl) (hplain : (backTo cpos (starEach [] X.env)).any (·.1) = false := by rfl)
    (hsw : swapsWith (.Call (.Attribute (.Name x p1) "pop" p2) [e] [] cpos) (some (.Name y py)) pos.line X.env = pure false := by rfl) (hf : X.fn y = true ∨ X.env.scope.names.lookup y = some .local := by first | exact .inl rfl | exact .inr rfl | assumption) :
    PSm X f c (c.set j .sh) (.Assign [.Name y py] (.Call (.Attribute (.Name x p1) "pop" p2) [e] [] cpos) pos) (sPopAt j i te) := ⟨(ps_set hNd hi hy (pe_bm PySem.F.plainAttrs_list PySem.F.slot_list_pop PySem.F.type_list_pop mt_popAt (pe_var hN hv hd hcd) (pa_cons he.run pa_nil hs) hbase hfew hline hs hplain) hsw hf).weak fun D σ H h => by
  obtain ⟨G, A, W, env, M, hg, R, ⟨ps, e0, h⟩, k⟩ := h
  obtain ⟨a, hA, hσ, vs, hH, r⟩ := R.mine hc e0
  refine ⟨.ref a, hσ, .inl ⟨rfl, vs, .inl (.inl hH)⟩, G, A, W, env, _, R, h, fun q w H1 g rq ⟨m, n, p, eq, ⟨hm1, hm2⟩, hix, hp, h1⟩ => ?_⟩
  subst eq
  have R1 := R.grow g
  obtain ⟨a', hA', _, ws, hH1, r1⟩ := R1.mine hc e0
  rw [hA] at hA'; cases hA'
  obtain ⟨v, ev, rv⟩ := r1.get hp
  rw [r1.len] at hix
  refine ⟨a, ws, m, n, v, rfl, by rw [rq.o.int], hH1, hm1, hm2, (ixN_seq hix).1, ev, ?_⟩
  have za : Zt G A W a := .inr (.inr ⟨i, hA⟩)
  have R2 := R1.mut e0 hA hc (OwnAt.mutL za (r1.eraseIdx n))
  have x : Ext ⟨Zt G A W, W, H1⟩ ⟨Zt G A W, W, upd H1 a (.lst (ws.eraseIdx n))⟩ := ⟨fun b w hz e => ⟨hz, by show upd H1 a _ b = some w; rw [upd_ne (fun z => hz (by rw [z]; exact za))]; exact e⟩, fun _ h => h⟩
  exact k.nx _ W _ _ _ (R2.set_sh hl (Rp.ext x rv)) h1⟩
/-- x[k] = e, x a list of one's own -/
def sPut (i : Nat) (ti te : TEm) : TSm := fun M env => te env fun p => ∃ ps, env[i]? = some (some (.lst ps)) ∧ ti env fun q => ∃ (m : Int) (n : Nat), q = .int m ∧ ixN ps.length m = some n ∧ M.nx (env.set i (some (.lst (ps.set n p))))
theorem sm_put (i : Nat) {x : Str} {p1 p2 : Pos} (he : PEm X c .cl e te) (hk : PEm X c .ow ei ti) (hN : X.N[i]? = some x := by rfl) (hc : cO c i = .ow := by rfl) (hv : Vis X.env.scope x := by first | exact Or.inl rfl | exact Or.inr (Or.inl rfl) | exact Or.inr (Or.inr rfl)) (hd : (x == ("__debug__" : Str)) = false := by decide)
    (hcd : (x == ("__classdict__" : Str)) = false := by decide)
    (ha : ∀ v, assign (.Subscript (.Name x p1) ei p2) X.env v = (do
      let ov ← holding [v] (eval (.Name x p1) X.env)
      let iv ← holding [v, ov] (eval ei X.env)
      standAt p2
      holding [v, ov, iv] (setItem ov iv v)
      release [v, ov, iv] []) := by intro _; rfl)
    (hs : swapsWithSole [.Subscript (.Name x p1) ei p2] e pos.line X.env = pure false := by rfl) (hw : swappedStores [.Subscript (.Name x p1) ei p2] e X.env = pure none := by rfl)
    (h1 : (assignEach [.Subscript (.Name x p1) ei p2] X.env).map (·.2) = [assign (.Subscript (.Name x p1) ei p2) X.env] := by rfl) :
    PSm X f c c (.Assign [.Subscript (.Name x p1) ei p2] e pos) (sPut i ti te) := ⟨(ps_asg he.run (pg_sub (pe_var hN hv hd hcd) hk.run set_list ha) hs hw h1).weak fun D σ H h => by
  obtain ⟨G, A, W, env, M, hg, R, h, k⟩ := h
  refine ⟨G, A, W, env, _, R, h, fun p v H1 g rv ⟨ps, e0, h1⟩ => ?_⟩
  have R1 := R.grow g
  obtain ⟨a, hA, hσ, vs, hH, r⟩ := R1.mine hc e0
  refine ⟨.ref a, hσ, G, A, W, env, _, R1, h1, fun q w H2 g2 rq ⟨m, n, eq, hix, h2⟩ => ?_⟩
  subst eq
  have R2 := R1.grow g2
  obtain ⟨a', hA', _, ws, hH2, r2⟩ := R2.mine hc e0
  rw [hA] at hA'; cases hA'
  rw [r2.len] at hix
  refine ⟨a, ws, m, n, rfl, rq.o.int, hH2, hix, ?_⟩
  exact k.nx A W _ σ _ (R2.mut e0 hA hc (OwnAt.mutL (.inr (.inr ⟨i, hA⟩)) (Rps.set (Rp.ext (g2.ext R.sz) rv.c) n r2))) h2⟩

/-! ### targets -/
abbrev TGm := PV → Env → (Env → Prop) → Prop
/-- only the slots vs are touched -/
def Touch (vs : List Nat) (σ σ' : St) : Prop := σ'.length = σ.length ∧ ∀ j, j ∉ vs → σ'[j]? = σ[j]?
def tgM (K : PySem.W.Frag) (c : List Ow) (vs : List Nat) (t : TGm) : TG := fun v σ H Q => ∃ G A W env p k, SR K G c A W env σ H ∧ Rp K ⟨Zt G A W, W, H⟩ p v ∧ t p env k ∧ ∀ env' σ', SR K G c A W env' σ' H → Touch vs σ σ' → k env' → Q σ' H
structure PGm (X : Cx) (c : List Ow) (vs : List Nat) (tg : Expr) (t : TGm) : Prop where
  run : PG X tg (tgM X.K c vs t)
def gmN (i : Nat) : TGm := fun p env k => k (env.set i (some p))
theorem c_same {c : List Ow} {i : Nat} (h : cO c i = .sh) : c.set i .sh = c := by
  apply List.ext_getElem?
  intro j
  rw [List.getElem?_set]
  by_cases e : i = j
  · subst e
    rw [if_pos rfl]
    by_cases h2 : i < c.length
    · rw [if_pos h2]
      unfold cO at h
      rw [List.getD_eq_getElem?_getD, List.getElem?_eq_getElem h2] at h
      rw [List.getElem?_eq_getElem h2]
      exact congrArg some h.symm
    · rw [if_neg h2, List.getElem?_eq_none (by omega)]
  · rw [if_neg e]
theorem SR.noA {K : PySem.W.Frag} {G : Gh} {A : Nat → Option Addr} {W : Ws} {env : Env} {σ : St} {H : Hp} {i : Nat} (R : SR K G c A W env σ H) (hc : cO c i = .sh) : A i = none := by
  cases hA : A i with
  | none => rfl
  | some a => exact absurd hc (R.Asep i a hA).2.2.2.1
theorem SR.set_cl {K : PySem.W.Frag} {G : Gh} {A : Nat → Option Addr} {W : Ws} {env : Env} {σ : St} {H : Hp} {i : Nat} {p : PV} {v : V} (R : SR K G c A W env σ H) (hc : cO c i = .sh) (r : Rp K ⟨Zt G A W, W, H⟩ p v) : SR K G c A W (env.set i (some p)) (σ.set i (some v)) H := by
  have h := R.set_sh (i := i) (by rw [hc]; decide) r
  rw [c_same hc] at h
  have e : dropA A i = A := by
    funext j
    by_cases z : j = i
    · rw [z, dropA_eq, R.noA hc]
    · exact dropA_ne z
  rw [e] at h
  exact h
theorem gm_name (i : Nat) {x : Str} {pos : Pos} (hN : X.N.Nodup) (hi : X.N[i]? = some x := by rfl) (hc : cO c i = .sh := by rfl) (hx : Loc X.env.scope x := by first | exact Or.inl rfl | exact Or.inr rfl) (hf : X.fn x = true ∨ X.env.scope.names.lookup x = some .local := by first | exact .inl rfl | exact .inr rfl | assumption) : PGm X c [i] (.Name x pos) (gmN i) :=
  ⟨⟨fun pins s σ H v u Q I r h => (pg_name hN hi hx hf).run pins s σ H v u Q I r (by
    obtain ⟨G, A, W, env, p, k, R, rp, h, q⟩ := h
    exact q _ _ (R.set_cl hc rp) ⟨List.length_set .., fun j hj => List.getElem?_set_ne (fun z => hj (by rw [← z]; exact List.mem_singleton.mpr rfl))⟩ h)⟩⟩
abbrev TGsm := List PV → Env → (Env → Prop) → Prop
def tgsM (K : PySem.W.Frag) (c : List Ow) (vs : List Nat) (t : TGsm) : TGs := fun ws σ H Q => ∃ G A W env ps k, SR K G c A W env σ H ∧ Rps K ⟨Zt G A W, W, H⟩ ps ws ∧ t ps env k ∧ ∀ env' σ', SR K G c A W env' σ' H → Touch vs σ σ' → k env' → Q σ' H
structure PGsm (X : Cx) (c : List Ow) (vs : List Nat) (tg : List Expr) (t : TGsm) : Prop where
  run : PGs X tg (tgsM X.K c vs t)
theorem Touch.refl {vs : List Nat} {σ : St} : Touch vs σ σ := ⟨rfl, fun _ _ => rfl⟩
theorem Touch.trans {vs ws : List Nat} {σ σ1 σ2 : St} (a : Touch vs σ σ1) (b : Touch ws σ1 σ2) : Touch (vs ++ ws) σ σ2 :=
  ⟨b.1.trans a.1, fun j hj => (b.2 j fun z => hj (List.mem_append_right _ z)).trans (a.2 j fun z => hj (List.mem_append_left _ z))⟩
def gmNil : TGsm := fun ps env k => ps = [] ∧ k env
def gmCons (g : TGm) (r : TGsm) : TGsm := fun ps env k => ∃ p qs, ps = p :: qs ∧ g p env fun env' => r qs env' k
theorem gsm_nil : PGsm X c [] [] gmNil := ⟨⟨fun pins s σ H vs us Q I r h => pgs_nil.run pins s σ H vs us Q I r (by
  obtain ⟨G, A, W, env, ps, k, R, rp, ⟨e, h⟩, q⟩ := h
  subst e
  exact ⟨by unfold Rps at rp; exact rp, q _ _ R Touch.refl h⟩)⟩⟩
theorem gsm_cons {tg : Expr} {tgs : List Expr} {g : TGm} {r : TGsm} {vs ws : List Nat} (h1 : PGm X c vs tg g) (h2 : PGsm X c ws tgs r) (hs : (assignEach (tg :: tgs) X.env).map (·.2) = assign tg X.env :: (assignEach tgs X.env).map (·.2) := by rfl) : PGsm X c (vs ++ ws) (tg :: tgs) (gmCons g r) :=
  ⟨⟨fun pins s σ H vs us Q I r' h => (pgs_cons h1.run h2.run hs).run pins s σ H vs us Q I r' (by
    obtain ⟨G, A, W, env, ps, k, R, rp, ⟨p, qs, e, h⟩, q⟩ := h
    subst e
    unfold Rps at rp
    obtain ⟨v, ws, e2, r1, r2⟩ := rp
    exact ⟨v, ws, e2, G, A, W, env, p, _, R, r1, h, fun env' σ' R' t1 h' => ⟨G, A, W, env', qs, k, R', r2, h', fun env2 σ2 R2 t2 h2 => q env2 σ2 R2 (t1.trans t2) h2⟩⟩)⟩⟩
def gmT (n : Nat) (r : TGsm) : TGm := fun p env k => ∃ ps, p = .tup ps ∧ ps.length = n ∧ r ps env k
theorem gm_tup {es : List Expr} {kk : Nat} {r : TGsm} {n : Nat} {pos : Pos} {vs : List Nat} (hc : X.calm = true) (h : PGsm X c vs es r) (hn : (assignEach es X.env).length = n := by rfl) (hst : (assignEach es X.env).findIdx? (·.1) = none := by rfl) : PGm X c vs (.Tuple es kk pos) (gmT n r) :=
  ⟨⟨fun pins s σ H v u Q I r' h' => (pg_tup hc h.run hn hst).run pins s σ H v u Q I r' (by
    obtain ⟨G, A, W, env, p, k, R, rp, ⟨ps, e, hl, h⟩, q⟩ := h'
    subst e
    unfold Rp at rp
    obtain ⟨a, vs, rfl, h1, h2⟩ := rp
    exact ⟨a, vs, rfl, h1.sq, by rw [← h2.len]; exact hl, G, A, W, env, ps, k, R, h2, h, q⟩)⟩⟩
/-- (a, b) = e -/
def sAsg (te : TEm) (g : TGm) : TSm := fun M env => te env fun p => g p env M.nx
theorem sm_asg {tg : Expr} {g : TGm} {vs : List Nat} (he : PEm X c .cl e te) (hg : PGm X c vs tg g) (hs : swapsWithSole [tg] e pos.line X.env = pure false := by rfl) (hw : swappedStores [tg] e X.env = pure none := by rfl)
    (h1 : (assignEach [tg] X.env).map (·.2) = [assign tg X.env] := by rfl) : PSm X f c c (.Assign [tg] e pos) (sAsg te g) := ⟨(ps_asg he.run hg.run hs hw h1).weak fun D σ H h => by
  obtain ⟨G, A, W, env, M, hg, R, h, k⟩ := h
  exact ⟨G, A, W, env, _, R, h, fun p v H1 g rv h1 => ⟨G, A, W, env, p, M.nx, R.grow g, rv.c, h1, fun env' σ' R' _ h' => k.nx A W env' σ' H1 R' h'⟩⟩⟩
end
end PM

set_option maxHeartbeats 1000000
/-! PM: what is walked, for, while, comprehensions. -/
namespace PM
open PySem L2
/-- all that was tracked is as it was -/
def GrowA (H H' : Hp) : Prop := ∀ b o, H b = some o → H' b = some o
theorem GrowA.grow {W : Ws} {H H' : Hp} (g : GrowA H H') (h : ∀ p ∈ W, SA H p) : Grow W H H' := ⟨fun b o _ e => g b o e, fun p hp => by
  obtain ⟨⟨_, e1⟩, _, e2⟩ := (h p hp).some
  exact SA.at (by rw [g _ _ e1, e1]) (by rw [g _ _ e2, e2]) (h p hp)⟩
theorem GrowA.refl {H : Hp} : GrowA H H := fun _ _ e => e
theorem GrowA.new {H : Hp} {a : Addr} {o : HO} (n : H a = none) : GrowA H (upd H a o) := fun b u e => by rw [upd_ne (ne_of_none e n)]; exact e
/-- the items of a walk: pl are places that must stand as they are -/
def ItOk (K : PySem.W.Frag) (Z : Addr → Prop) (W : Ws) (H : Hp) (pl : List (Addr × HO)) (J : It) (items : List PV) : Prop :=
  ∃ (Gd : Hp → Prop) (Y : Nat → Hp → V → Hp → Prop), Walk J items.length Gd Y ∧ ∀ Z2 W2 H2, Ext ⟨Z, W, H⟩ ⟨Z2, W2, H2⟩ → (∀ b, Z2 b → ∃ o, H2 b = some o) → (∀ q ∈ pl, H2 q.1 = some q.2) →
    Gd H2 ∧ ∀ i x H3 p, items[i]? = some p → Y i H2 x H3 → GrowA H2 H3 ∧ Rp K ⟨Z2, W2, H3⟩ p x
abbrev TIm := Env → (List PV → Prop) → Prop
/-- lk: the slot whose own list is walked -/
structure PIm (X : Cx) (c : List Ow) (lk : Option Nat) (tg iter : Expr) (t : TIm) : Prop where
  run : PI X tg iter (fun σ H R => ∃ G A W env P, SR X.K G c A W env σ H ∧ t env P ∧ ∀ J items H' pl, Grow W H H' → (match lk with | none => pl = [] | some j => ∃ a o, pl = [(a, o)] ∧ A j = some a ∧ H' a = some o) → ItOk X.K (Zt G A W) W H' pl J items → P items → R J H')
section
variable {X : Cx} {c : List Ow} {tg e : Expr} {te : TEm} {pos : Pos}
def iSeq (K : PySem.W.Frag) (tl : TE) : TI := fun σ H R => tl σ H fun x H1 => ∃ a, x = .ref a ∧ (((∃ xs, SqL K H1 a xs) ∧ R (Itl K a) H1) ∨ ((∃ xs, SqT K H1 a xs) ∧ R (Itt K a) H1))
theorem pi_seq {l : Expr} {tl : TE} (hl : PE X l tl) : PI X tg l (iSeq X.K tl) := by
  refine ⟨fun pins s σ H R I h => ?_⟩
  refine thn (hl.run pins s σ H _ I h) fun v s1 ⟨x, H1, I1, r1, q1⟩ => ?_
  obtain ⟨a, e, q1⟩ := q1
  subst e
  cases r1
  rcases q1 with ⟨⟨xs, hq⟩, q⟩ | ⟨⟨xs, hq⟩, q⟩
  · obtain ⟨its, rv, p, hz⟩ := I1.list hq
    refine wpAny_pyIter_list p.isList ?_
    refine ⟨s1.heap.objs.size, [s1.heap.objs.size], _, _, H1, rfl, I1.kept (t' := s1.toks) fun b o e => Heap.get?_push_of_some _ e, turn_list a _, ⟨_, Heap.get?_push_size _ rfl, rfl, rfl⟩, fun b hb => ?_, q⟩
    have e : b = s1.heap.objs.size := by simpa using hb
    subst e
    exact I1.fpOk (Nat.le_refl _) (I1.hok.fresh (Nat.le_refl _))
  · obtain ⟨its, rv, p, hz⟩ := I1.tuple hq
    refine wpAny_pyIter_tuple (show s1.heap.IsTuple a its.toArray from p) ?_
    refine ⟨s1.heap.objs.size, [s1.heap.objs.size], _, _, H1, rfl, I1.kept (t' := s1.toks) fun b o e => Heap.get?_push_of_some _ e, turn_tuple a _, ⟨_, Heap.get?_push_size _ rfl, rfl, rfl⟩, fun b hb => ?_, q⟩
    have e : b = s1.heap.objs.size := by simpa using hb
    subst e
    exact I1.fpOk (Nat.le_refl _) (I1.hok.fresh (Nat.le_refl _))
/-- a list or tuple -/
def mItems (te : TEm) : TIm := fun env P => te env fun p => ∃ ps, seqP p = some ps ∧ P ps
theorem itok_list {K : PySem.W.Frag} {Z : Addr → Prop} {W : Ws} {H : Hp} {a : Addr} {vs : List V} {ps : List PV} (h : ¬ Z a) (e : H a = some (.lst vs)) (r : Rps K ⟨Z, W, H⟩ ps vs) : ItOk K Z W H [] (Itl K a) ps := by
  refine ⟨_, _, by rw [r.len]; exact walk_list, fun Z2 W2 H2 x hz _ => ?_⟩
  have e2 := (x.keep a _ h e).2
  refine ⟨.inl (.inl e2), fun i v H3 p hp y => ?_⟩
  obtain ⟨rfl, hv⟩ := y
  obtain ⟨w, hw, rw'⟩ := r.get hp
  rw [hv] at hw; cases hw
  exact ⟨GrowA.refl, Rp.ext x rw'⟩
theorem itok_own {K : PySem.W.Frag} {Z : Addr → Prop} {W : Ws} {H : Hp} {a : Addr} {vs : List V} {ps : List PV} (e : H a = some (.lst vs)) (r : Rps K ⟨Z, W, H⟩ ps vs) : ItOk K Z W H [(a, .lst vs)] (Itl K a) ps := by
  refine ⟨_, _, by rw [r.len]; exact walk_list, fun Z2 W2 H2 x hz hpl => ?_⟩
  have e2 : H2 a = some (.lst vs) := hpl (a, .lst vs) (by simp)
  refine ⟨.inl (.inl e2), fun i v H3 p hp y => ?_⟩
  obtain ⟨rfl, hv⟩ := y
  obtain ⟨w, hw, rw'⟩ := r.get hp
  rw [hv] at hw; cases hw
  exact ⟨GrowA.refl, Rp.ext x rw'⟩
theorem itok_tup {K : PySem.W.Frag} {Z : Addr → Prop} {W : Ws} {H : Hp} {a : Addr} {vs : List V} {ps : List PV} (e : TupAt K ⟨Z, W, H⟩ a vs) (r : Rps K ⟨Z, W, H⟩ ps vs) : ItOk K Z W H [] (Itt K a) ps := by
  refine ⟨_, _, by rw [r.len]; exact walk_tup, fun Z2 W2 H2 x hz _ => ?_⟩
  refine ⟨(e.ext x).sq, fun i v H3 p hp y => ?_⟩
  obtain ⟨rfl, hv⟩ := y
  obtain ⟨w, hw, rw'⟩ := r.get hp
  rw [hv] at hw; cases hw
  exact ⟨GrowA.refl, Rp.ext x rw'⟩
theorem im_seq (he : PEm X c .cl e te) : PIm X c none tg e (mItems te) := ⟨⟨fun pins s σ H R I h => (pi_seq he.run).run pins s σ H R I (by
  obtain ⟨G, A, W, env, P, R, h, k⟩ := h
  refine ⟨G, A, W, env, _, R, h, fun p v H1 g rv ⟨ps, hp, h1⟩ => ?_⟩
  cases p with
  | lst qs =>
    obtain rfl : qs = ps := Option.some.inj hp
    have rv' := rv.c
    unfold Rp at rv'
    obtain ⟨a, vs, rfl, e, r⟩ := rv'
    exact ⟨a, rfl, .inl ⟨⟨vs, e.sq⟩, k _ qs H1 [] g rfl (itok_list e.1 e.2 r) h1⟩⟩
  | tup qs =>
    obtain rfl : qs = ps := Option.some.inj hp
    have rv' := rv.c
    unfold Rp at rv'
    obtain ⟨a, vs, rfl, e, r⟩ := rv'
    exact ⟨a, rfl, .inr ⟨⟨vs, e.sq⟩, k _ qs H1 [] g rfl (itok_tup e r) h1⟩⟩
  | _ => cases hp)⟩⟩
/-- one's own list -/
theorem im_own (j : Nat) {x : Str} (hN : X.N[j]? = some x := by rfl) (hc : cO c j ≠ .sh := by decide) (hv : Vis X.env.scope x := by first | exact Or.inl rfl | exact Or.inr (Or.inl rfl) | exact Or.inr (Or.inr rfl)) (hd : (x == ("__debug__" : Str)) = false := by decide)
    (hcd : (x == ("__classdict__" : Str)) = false := by decide) : PIm X c (some j) tg (.Name x pos) (fun env P => ∃ ps, env[j]? = some (some (.lst ps)) ∧ P ps) := ⟨⟨fun pins s σ H R I h => (pi_seq (pe_var hN hv hd hcd)).run pins s σ H R I (by
  obtain ⟨G, A, W, env, P, R, ⟨ps, e, h⟩, k⟩ := h
  obtain ⟨v, h1, h2⟩ := R.slots j _ e
  obtain ⟨a, hA⟩ := R.Aset j _ hc e
  rw [hA] at h2
  obtain ⟨rfl, vs, hH, r⟩ := h2
  exact ⟨_, h1, a, rfl, .inl ⟨⟨vs, .inl (.inl hH)⟩, k _ ps H [(a, .lst vs)] (Grow.refl R.src) ⟨a, _, rfl, hA, hH⟩ (itok_own hH r) h⟩⟩)⟩⟩
/-- ranges -/
def rngP (lo : Int) (n : Nat) : List PV := (List.range n).map fun i => PV.int (lo + (i : Nat))
theorem itok_range {K : PySem.W.Frag} {Z : Addr → Prop} {W : Ws} {H : Hp} {lo : Int} {n : Nat} : ItOk K Z W H [] (Itr lo n) (rngP lo n) := by
  refine ⟨_, _, by unfold rngP; rw [List.length_map, List.length_range]; exact walk_range, fun Z2 W2 H2 x hz _ => ⟨trivial, fun i v H3 p hp y => ?_⟩⟩
  obtain ⟨rfl, rfl⟩ := y
  unfold rngP at hp
  obtain ⟨hi, e⟩ := List.getElem?_eq_some_iff.mp hp
  rw [List.length_map, List.length_range] at hi
  rw [List.getElem_map, List.getElem_range] at e
  subst e
  exact ⟨GrowA.refl, Rp.int'⟩
def mRng1 (t : TEm) : TIm := fun env P => t env fun x => ∃ n, x = .int n ∧ (-(2 ^ 62) ≤ n ∧ n < 2 ^ 62) ∧ P (rngP 0 n.toNat)
def mRng2 (t u : TEm) : TIm := fun env P => t env fun x => u env fun y => ∃ a b, x = .int a ∧ y = .int b ∧ (-(2 ^ 62) ≤ a ∧ a < 2 ^ 62 ∧ -(2 ^ 62) ≤ b ∧ b < 2 ^ 62) ∧ P (rngP a (b - a).toNat)
variable {a b : Expr} {ta tb : TEm}
theorem im_rng1 {p : Pos} (hm : X.mg "range" = none) (ha : PEm X c .ow a ta) (hg : Gl X "range" := by rfl) (hs0 : starEach [a] X.env = (false, eval a X.env) :: starEach [] X.env := by rfl) (hs : starEach [a] X.env = [(false, eval a X.env)] := by rfl) : PIm X c none tg (.Call (.Name "range" p) [a] [] pos) (mRng1 ta) := ⟨⟨fun pins s σ H R I h => (pi_range1 hg hm (pa_cons ha.run pa_nil hs0) hs).run pins s σ H R I (by
  obtain ⟨G, A, W, env, P, R, h, k⟩ := h
  refine ⟨G, A, W, env, _, R, h, fun q v H1 g rv ⟨n, e, ⟨h1, h2⟩, h3⟩ => ?_⟩
  subst e
  exact ⟨n, by rw [rv.o.int], h1, h2, k _ _ H1 [] g rfl itok_range h3⟩)⟩⟩
theorem im_rng2 {p : Pos} (hm : X.mg "range" = none) (ha : PEm X c .ow a ta) (hb : PEm X c .ow b tb) (hg : Gl X "range" := by rfl) (hs0 : starEach [a, b] X.env = (false, eval a X.env) :: starEach [b] X.env := by rfl) (hs1 : starEach [b] X.env = (false, eval b X.env) :: starEach [] X.env := by rfl)
    (hs : starEach [a, b] X.env = [(false, eval a X.env), (false, eval b X.env)] := by rfl) (hs2 : starEach [b] X.env = [(false, eval b X.env)] := by rfl) : PIm X c none tg (.Call (.Name "range" p) [a, b] [] pos) (mRng2 ta tb) := ⟨⟨fun pins s σ H R I h => (pi_range2 hg hm (pa_cons ha.run (pa_cons hb.run pa_nil hs1) hs0) hs hs2).run pins s σ H R I (by
  obtain ⟨G, A, W, env, P, R, h, k⟩ := h
  refine ⟨G, A, W, env, _, R, h, fun q v H1 g rv h1 => ⟨G, A, W, env, _, R.grow g, h1, fun q2 v2 H2 g2 rv2 ⟨n, m, e, e2, ⟨b1, b2, b3, b4⟩, h5⟩ => ?_⟩⟩
  subst e e2
  exact ⟨n, m, by rw [rv.o.int, rv2.o.int], ⟨b1, b2, b3, b4⟩, k _ _ H2 [] (g.trans g2) rfl itok_range h5⟩)⟩⟩
end

/-! ### for -/
def mForGo (g : TGm) (tb : TSm) (M : Em) : List PV → Env → Prop
  | [], env => M.nx env
  | x :: xs, env => g x env fun env1 => tb { M with nx := mForGo g tb M xs, ct := mForGo g tb M xs, bk := M.nx } env1
def sFor (wi : TIm) (g : TGm) (tb : TSm) : TSm := fun M env => wi env fun items => mForGo g tb M items env
section
variable {K : PySem.W.Frag} {G : Gh} {c : List Ow} {A : Nat → Option Addr} {W : Ws} {env : Env} {σ : St} {H : Hp}
/-- into a loop: what is clean now stays so -/
noncomputable def inLoop (G : Gh) (Z : Addr → Prop) (W : Ws) (H : Hp) (more : List (Nat × Addr × HO)) : Gh :=
  { G with fz := fun b => open Classical in if Z b then none else H b, Wm := W, pins := more ++ G.pins }
def lkC (c : List Ow) : Option Nat → List Ow
  | none => c
  | some j => c.set j .lk
theorem cO_lk {c : List Ow} {j i : Nat} (hj : cO c j ≠ .sh) : cO (c.set j .lk) i = if i = j then .lk else cO c i := by
  rw [cO_set]
  by_cases h : i = j
  · have hl : j < c.length := by
      cases Nat.lt_or_ge j c.length with
      | inl z => exact z
      | inr z =>
        exact absurd (by unfold cO; rw [List.getD_eq_getElem?_getD, List.getElem?_eq_none z]; rfl) hj
    rw [if_pos ⟨h, hl⟩, if_pos h]
  · rw [if_neg (fun z => h z.1), if_neg h]
theorem SR.loop (R : SR K G c A W env σ H) : SR K (inLoop G (Zt G A W) W H []) c A W env σ H := by
  refine ⟨R.len, R.W0in, fun _ h => h, R.Wnew, R.Wfix, R.src, R.keep, R.zbt, R.Asep, R.Ainj, R.Aset, R.slots, R.pins, fun b o e => ?_⟩
  have e' : (open Classical in if Zt G A W b then none else H b) = some o := e
  by_cases z : Zt G A W b
  · rw [if_pos z] at e'; cases e'
  · rw [if_neg z] at e'; exact ⟨e', z⟩
theorem SR.lock {j : Nat} {a : Addr} {o : HO} (R : SR K G c A W env σ H) (hc : cO c j = .ow) (hA : A j = some a) (e : H a = some o) : SR K (inLoop G (Zt G A W) W H [(j, a, o)]) (c.set j .lk) A W env σ H := by
  have hj : cO c j ≠ .sh := by rw [hc]; decide
  have R' := R.loop
  refine ⟨R.len, R.W0in, fun _ h => h, R.Wnew, R.Wfix, R.src, R.keep, R.zbt, fun i b e => ?_, R.Ainj, fun i p hi e => ?_, R.slots, fun q hq => ?_, R'.fz⟩
  · obtain ⟨h1, h2, h3, h4, h5⟩ := R.Asep i b e
    refine ⟨h1, h2, h3, ?_, h5⟩
    rw [cO_lk hj]
    by_cases z : i = j
    · rw [if_pos z]; decide
    · rw [if_neg z]; exact h4
  · rw [cO_lk hj] at hi
    by_cases z : i = j
    · exact ⟨a, z ▸ hA⟩
    · rw [if_neg z] at hi; exact R.Aset i p hi e
  · rcases List.mem_append.mp hq with hq | hq
    · have : q = (j, a, o) := by simpa using hq
      subst this
      exact ⟨e, (R.Asep j a hA).2.1, hA, by rw [cO_lk hj, if_pos rfl]⟩
    · obtain ⟨h1, h2, h3, h4⟩ := R.pins q hq
      refine ⟨h1, h2, h3, ?_⟩
      rw [cO_lk hj]
      by_cases z : q.1 = j
      · rw [if_pos z]
      · rw [if_neg z]; exact h4
theorem SR.unloop {Z0 : Addr → Prop} {W0 : Ws} {H0 : Hp} {more : List (Nat × Addr × HO)} (R : SR K (inLoop G Z0 W0 H0 more) c A W env σ H) (hf : ∀ b o, G.fz b = some o → H0 b = some o ∧ ¬ Z0 b) (hw : ∀ p ∈ G.Wm, p ∈ W0) : SR K G c A W env σ H := by
  refine ⟨R.len, R.W0in, fun p h => R.Wmin p (hw p h), R.Wnew, R.Wfix, R.src, R.keep, R.zbt, R.Asep, R.Ainj, R.Aset, R.slots, fun q hq => R.pins q (List.mem_append_right _ hq), fun b o e => R.fz b o ?_⟩
  obtain ⟨h1, h2⟩ := hf b o e
  show (open Classical in if Z0 b then none else H0 b) = some o
  rw [if_neg h2]; exact h1
theorem SR.unlock {j : Nat} (R : SR K G (c.set j .lk) A W env σ H) (hc : cO c j = .ow) (hp : ∀ q ∈ G.pins, cO c q.1 = .lk) : SR K G c A W env σ H := by
  have hj : cO c j ≠ .sh := by rw [hc]; decide
  have eq : ∀ i, cO (c.set j .lk) i ≠ .sh ↔ cO c i ≠ .sh := fun i => by
    rw [cO_lk hj]
    by_cases z : i = j
    · rw [if_pos z, z]; exact ⟨fun _ => hj, fun _ => by decide⟩
    · rw [if_neg z]
  refine ⟨R.len, R.W0in, R.Wmin, R.Wnew, R.Wfix, R.src, R.keep, R.zbt, fun i b e => ?_, R.Ainj, fun i p hi e => R.Aset i p ((eq i).mpr hi) e, R.slots, fun q hq => ?_, R.fz⟩
  · obtain ⟨h1, h2, h3, h4, h5⟩ := R.Asep i b e
    exact ⟨h1, h2, h3, (eq i).mp h4, h5⟩
  · obtain ⟨h1, h2, h3, _⟩ := R.pins q hq
    exact ⟨h1, h2, h3, hp q hq⟩
/-- the state in a loop sees all that was clean -/
theorem SR.ext {Z0 : Addr → Prop} {W0 : Ws} {H0 : Hp} {more : List (Nat × Addr × HO)} (R : SR K (inLoop G Z0 W0 H0 more) c A W env σ H) : Ext ⟨Z0, W0, H0⟩ ⟨Zt (inLoop G Z0 W0 H0 more) A W, W, H⟩ :=
  ⟨fun b o n e => by
    obtain ⟨h1, h2⟩ := R.fz b o (by
      show (open Classical in if Z0 b then none else H0 b) = some o
      rw [if_neg n]; exact e)
    exact ⟨h2, h1⟩, fun p hp => R.Wmin p hp⟩
end
section
variable {X : Cx} {f : Fx} {c : List Ow} {tg iter : Expr} {body : List Stmt} {wi : TIm} {g : TGm} {tb : TSm} {pos : Pos}
theorem sm_for {lk : Option Nat} {vs : List Nat} (hp : PassesOwn (model X.prog X.w) X.A X.env X.xe) (hc : X.calm = true) (hi : PIm X c lk tg iter wi) (hg : PGm X (lkC c lk) vs tg g) (hb : PSsm X { f with cL := lkC c lk } (lkC c lk) (lkC c lk) body tb) (hlk : ∀ j, lk = some j → cO c j = .ow)
    (hs : ∀ x, foldedSetIterable iter X.env x = pure x := by intro _; rfl) : PSm X f c c (.For tg iter body [] pos) (sFor wi g tb) := ⟨(ps_for hp hc hi.run hg.run hb.run hs).weak fun D σ H h => by
  obtain ⟨G, A, W, env, M, hgw, R, h, k⟩ := h
  refine ⟨G, A, W, env, _, R, h, fun J items H1 pl g1 hpl ⟨Gd, Y, wk, hit⟩ h1 => ?_⟩
  have R1 := R.grow g1
  -- into the loop
  obtain ⟨more, hmore, R2, hnx⟩ : ∃ more, (∀ q ∈ pl, ∃ j, (j, q.1, q.2) ∈ more) ∧ SR X.K (inLoop G (Zt G A W) W H1 more) (lkC c lk) A W env σ H1 ∧
      ∀ A' W' env' σ' H', SR X.K (inLoop G (Zt G A W) W H1 more) (lkC c lk) A' W' env' σ' H' → SR X.K G c A' W' env' σ' H' := by
    cases lk with
    | none =>
      have hpl' : pl = [] := hpl
      subst hpl'
      exact ⟨[], (fun q hq => by cases hq), R1.loop, fun A' W' env' σ' H' R' => R'.unloop R1.fz R1.Wmin⟩
    | some j =>
      obtain ⟨a, o, rfl, hA, ho⟩ := hpl
      have hj := hlk j rfl
      refine ⟨[(j, a, o)], (fun q hq => ⟨j, by rw [List.mem_singleton] at hq; rw [hq]; exact List.mem_singleton.mpr rfl⟩), R1.lock hj hA ho, fun A' W' env' σ' H' R' => ?_⟩
      exact (R'.unloop R1.fz R1.Wmin).unlock hj fun q hq => (R1.pins q hq).2.2.2
  have K2 : Kont X.K f.rm (lkC c lk) (lkC c lk) (inLoop G (Zt G A W) W H1 more) M ⟨fun σ H => D.nx σ H, D.rt, fun _ _ => True, fun _ _ => True⟩ :=
    ⟨fun A' W' env' σ' H' R' h' => k.nx _ _ _ _ _ (hnx _ _ _ _ _ R') h', fun p v H' r h' => k.rt p v H' r h', fun _ _ _ _ _ _ _ => trivial, fun _ _ _ _ _ _ _ => trivial⟩
  refine for_it (D := D) (g := tgM X.K (lkC c lk) vs g) (tb := tmS X.K { f with cL := lkC c lk } (lkC c lk) (lkC c lk) tb) wk (fun i σ H => ∃ A' W' env', SR X.K (inLoop G (Zt G A W) W H1 more) (lkC c lk) A' W' env' σ H ∧ mForGo g tb M (items.drop i) env') ⟨A, W, env, R2, h1⟩ (fun i σ H _ hP => ?_) (fun i x σ H H' hi hP y => ?_) (fun σ H hP => ?_)
  · obtain ⟨A', W', env', R', _⟩ := hP
    exact (hit _ W' H R'.ext R'.dz fun q hq => by
      obtain ⟨j, hj⟩ := hmore q hq
      exact (R'.pins (j, q.1, q.2) (List.mem_append_left _ hj)).1).1
  · obtain ⟨A', W', env', R', h'⟩ := hP
    have hd : items.drop i = items[i] :: items.drop (i + 1) := List.drop_eq_getElem_cons hi
    rw [hd] at h'
    obtain ⟨ga, rp⟩ := (hit _ W' H R'.ext R'.dz fun q hq => by
      obtain ⟨j, hj⟩ := hmore q hq
      exact (R'.pins (j, q.1, q.2) (List.mem_append_left _ hj)).1).2 i x H' items[i] (List.getElem?_eq_getElem hi) y
    refine ⟨_, A', W', env', items[i], _, R'.grow (ga.grow R'.src), rp, h', fun env2 σ2 R2 _ h2 => ?_⟩
    refine ⟨inLoop G (Zt G A W) W H1 more, A', W', env2, _, hgw, R2, h2, ⟨fun A3 W3 env3 σ3 H3 R3 h3 => ⟨A3, W3, env3, R3, h3⟩, fun p v H3 r3 h3 => k.rt p v H3 r3 h3, fun A3 W3 env3 σ3 H3 R3 h3 => k.nx _ _ _ _ _ (hnx _ _ _ _ _ R3) h3, fun A3 W3 env3 σ3 H3 R3 h3 => ⟨A3, W3, env3, R3, h3⟩⟩⟩
  · obtain ⟨A', W', env', R', h'⟩ := hP
    rw [List.drop_length] at h'
    exact k.nx _ _ _ _ _ (hnx _ _ _ _ _ R') h'⟩
/-- while -/
def sWhile (tc : TTm) (tb : TSm) : TSm := fun M env => ∃ Wv : Nat → Env → Prop, (∃ m, Wv m env) ∧ ∀ m env, Wv m env →
  tc env fun b => if b = true then tb { M with nx := fun env' => ∃ m', m' < m ∧ Wv m' env', ct := fun env' => ∃ m', m' < m ∧ Wv m' env', bk := M.nx } env else M.nx env
theorem sm_while {cnd : Expr} {tc : TTm} (hp : PassesOwn (model X.prog X.w) X.A X.env X.xe) (hc : PTm X c cnd tc) (hb : PSsm X { f with cL := c } c c body tb) : PSm X f c c (.While cnd body [] pos) (sWhile tc tb) := ⟨(ps_while hp hc.run hb.run).weak fun D σ H h => by
  obtain ⟨G, A, W, env, M, hgw, R, ⟨Wv, ⟨m, w0⟩, turn⟩, k⟩ := h
  refine ⟨fun m σ H => ∃ A W env, SR X.K G c A W env σ H ∧ Wv m env, ⟨m, A, W, env, R, w0⟩, ?_⟩
  rintro m σ H ⟨A, W, env, R, w⟩
  refine ⟨G, A, W, env, _, R, turn m env w, fun b H1 g h1 => ?_⟩
  cases b with
  | true =>
    rw [if_pos rfl] at h1 ⊢
    refine ⟨fun σ' H' => ∃ m' A W env, m' < m ∧ SR X.K G c A W env σ' H' ∧ Wv m' env, fun σ' H' ⟨m', A, W, env, hm, R', w'⟩ => ⟨m', hm, A, W, env, R', w'⟩, ?_⟩
    exact ⟨G, A, W, env, _, hgw, R.grow g, h1, ⟨fun A W env σ H R' ⟨m', hm, w'⟩ => ⟨m', A, W, env, hm, R', w'⟩, k.rt, fun A W env σ H R' h' => k.nx A W env σ H R' h', fun A W env σ H R' ⟨m', hm, w'⟩ => ⟨m', A, W, env, hm, R', w'⟩⟩⟩
  | false =>
    rw [if_neg Bool.false_ne_true] at h1 ⊢
    exact k.nx A W env σ H1 (R.grow g) h1⟩
end
end PM

set_option maxHeartbeats 1000000
/-! PM: comprehensions. -/
namespace PM
open PySem L2
def wipeE (env : Env) : List Nat → Env
  | [] => env
  | v :: vs => (wipeE env vs).set v none
theorem wipeE_length (env : Env) : ∀ vs : List Nat, (wipeE env vs).length = env.length
  | [] => rfl
  | v :: vs => by unfold wipeE; rw [List.length_set, wipeE_length env vs]
theorem wipeE_some {env : Env} {i : Nat} {p : PV} : ∀ {vs : List Nat}, (wipeE env vs)[i]? = some (some p) → env[i]? = some (some p) ∧ i ∉ vs
  | [], h => ⟨h, by simp⟩
  | v :: vs, h => by
    unfold wipeE at h
    rw [List.getElem?_set] at h
    by_cases e : v = i
    · rw [if_pos e] at h
      split at h <;> cases h
    · rw [if_neg e] at h
      obtain ⟨h1, h2⟩ := wipeE_some h
      refine ⟨h1, fun z => ?_⟩
      rcases List.mem_cons.mp z with z | z
      · exact e z.symm
      · exact h2 z
theorem wipe_out {σ : St} {j : Nat} : ∀ {vs : List Nat}, j ∉ vs → (wipe σ vs)[j]? = σ[j]?
  | [], _ => rfl
  | v :: vs, h => by
    unfold wipe
    rw [List.getElem?_set_ne (fun z => h (by rw [z]; exact List.mem_cons_self)), wipe_out (fun z => h (List.mem_cons_of_mem _ z))]
theorem wipe_in {σ : St} {j : Nat} : ∀ {vs : List Nat}, j ∈ vs → j < σ.length → (wipe σ vs)[j]? = some none
  | [], h, _ => by cases h
  | v :: vs, h, hl => by
    unfold wipe
    by_cases e : v = j
    · subst e
      rw [List.getElem?_set_self (by rw [wipe_length]; exact hl)]
    · rw [List.getElem?_set_ne e]
      rcases List.mem_cons.mp h with z | z
      · exact absurd z.symm e
      · exact wipe_in z hl
theorem Touch.wipe {vs ws : List Nat} {σ σ' : St} (t : Touch ws σ σ') (h : ∀ j ∈ ws, j ∈ vs) : wipe σ' vs = wipe σ vs := by
  apply List.ext_getElem?
  intro j
  by_cases hj : j ∈ vs
  · by_cases hl : j < σ.length
    · rw [wipe_in hj hl, wipe_in hj (by rw [t.1]; exact hl)]
    · rw [List.getElem?_eq_none (by rw [wipe_length, t.1]; omega), List.getElem?_eq_none (by rw [wipe_length]; omega)]
  · rw [wipe_out hj, wipe_out hj]
    exact t.2 j fun z => hj (h j z)
theorem wipe_wipe {σ : St} {vs : List Nat} : wipe (wipe σ vs) vs = wipe σ vs := by
  apply List.ext_getElem?
  intro j
  by_cases hj : j ∈ vs
  · by_cases hl : j < σ.length
    · rw [wipe_in hj (by rw [wipe_length]; exact hl), wipe_in hj hl]
    · rw [List.getElem?_eq_none (by rw [wipe_length, wipe_length]; omega), List.getElem?_eq_none (by rw [wipe_length]; omega)]
  · rw [wipe_out hj]
section
variable {K : PySem.W.Frag} {G : Gh} {c : List Ow} {A : Nat → Option Addr} {W : Ws} {env : Env} {σ : St} {H : Hp}
theorem SR.wipe (vs : List Nat) (R : SR K G c A W env σ H) : SR K G c A W (wipeE env vs) (L2.wipe σ vs) H := by
  refine ⟨by rw [wipeE_length, wipe_length]; exact R.len, R.W0in, R.Wmin, R.Wnew, R.Wfix, R.src, R.keep, R.zbt, R.Asep, R.Ainj, fun i p hc e => R.Aset i p hc (wipeE_some e).1, fun i p e => ?_, R.pins, R.fz⟩
  obtain ⟨e1, n⟩ := wipeE_some e
  obtain ⟨v, h1, h2⟩ := R.slots i p e1
  exact ⟨v, by rw [wipe_out n]; exact h1, h2⟩
/-- one more place to be avoided -/
def Gh.and (G : Gh) (D : Addr) : Gh := { G with zb := fun b => G.zb b ∨ b = D }
theorem zt_and {D : Addr} {b : Addr} : Zt (G.and D) A W b ↔ (Zt G A W b ∨ b = D) := by
  constructor
  · rintro ((h | h) | h | h)
    · exact .inl (.inl h)
    · exact .inr h
    · exact .inl (.inr (.inl h))
    · exact .inl (.inr (.inr h))
  · rintro ((h | h | h) | h)
    · exact .inl (.inl h)
    · exact .inr (.inl h)
    · exact .inr (.inr h)
    · exact .inl (.inr h)
theorem SR.and {D : Addr} {o : HO} (R : SR K G c A W env σ H) (n : H D = none) : SR K (G.and D) c A W env σ (upd H D o) := by
  have g : Grow W H (upd H D o) := Grow.new R.src n
  have R' := R.grow g
  have nt : ∀ b u, H b = some u → b ≠ D := fun b u e z => by rw [z, n] at e; cases e
  have x : Ext ⟨Zt G A W, W, H⟩ ⟨Zt (G.and D) A W, W, upd H D o⟩ := ⟨fun b u hz e => ⟨fun z => (zt_and.mp z).elim hz (nt b u e), by show upd H D o b = some u; rw [upd_ne (nt b u e)]; exact e⟩, fun _ h => h⟩
  refine ⟨R'.len, R'.W0in, R'.Wmin, R'.Wnew, R'.Wfix, R'.src, R'.keep, fun b hb => ?_, fun i a e => ?_, R'.Ainj, R'.Aset, fun i p e => ?_, R'.pins, fun b u e => ?_⟩
  · rcases hb with hb | hb
    · exact R'.zbt b hb
    · rw [hb]; exact ⟨o, upd_same⟩
  · obtain ⟨h1, h2, h3, h4, h5⟩ := R'.Asep i a e
    obtain ⟨_, _, _, _, u, hu⟩ := R.Asep i a e
    exact ⟨h1, h2, fun z => z.elim h3 (nt a u hu), h4, h5⟩
  · obtain ⟨v, h1, h2⟩ := R.slots i p e
    refine ⟨v, h1, ?_⟩
    cases hA : A i with
    | none => rw [hA] at h2; exact Rp.ext x h2
    | some a =>
      rw [hA] at h2
      obtain ⟨_, _, _, _, u, hu⟩ := R.Asep i a hA
      exact ⟨h2.1, h2.2.ext x (upd_ne (nt a u hu))⟩
  · obtain ⟨h1, h2⟩ := R.fz b u e
    exact ⟨by rw [upd_ne (nt b u h1)]; exact h1, fun z => (zt_and.mp z).elim h2 (nt b u h1)⟩
theorem SR.upZ {D : Addr} {o : HO} (R : SR K G c A W env σ H) (hz : G.zb D) (h0 : G.H0 D = none) (nw : ¬ inW W D) : SR K G c A W env σ (upd H D o) := by
  have za : Zt G A W D := .inl hz
  have x : Ext ⟨Zt G A W, W, H⟩ ⟨Zt G A W, W, upd H D o⟩ := ⟨fun b w hn e => ⟨hn, by show upd H D o b = some w; rw [upd_ne (fun z => hn (by rw [z]; exact za))]; exact e⟩, fun _ h => h⟩
  have tr : ∀ b, (∃ w, H b = some w) → ∃ w, upd H D o b = some w := fun b ⟨w, e⟩ => by
    by_cases z : b = D
    · subst z; exact ⟨o, upd_same⟩
    · exact ⟨w, by rw [upd_ne z]; exact e⟩
  have neA : ∀ i a, A i = some a → a ≠ D := fun i a e z => (R.Asep i a e).2.2.1 (by rw [z]; exact hz)
  refine ⟨R.len, R.W0in, R.Wmin, R.Wnew, R.Wfix, fun q hq => ?_, fun b w hw e => ?_, fun b hb => tr b (R.zbt b hb), fun i a e => ?_, R.Ainj, R.Aset, fun i p e => ?_, fun q hq => ?_, fun b w e => ?_⟩
  · exact SA.at (upd_ne (fun z => nw ⟨q, hq, .inl z.symm⟩)) (upd_ne (fun z => nw ⟨q, hq, .inr z.symm⟩)) (R.src q hq)
  · rw [upd_ne (fun z => by rw [z, h0] at e; cases e)]; exact R.keep b w hw e
  · obtain ⟨h1, h2, h3, h4, h5⟩ := R.Asep i a e
    exact ⟨h1, h2, h3, h4, tr a h5⟩
  · obtain ⟨v, h1, h2⟩ := R.slots i p e
    refine ⟨v, h1, ?_⟩
    cases hA : A i with
    | none => rw [hA] at h2; exact Rp.ext x h2
    | some a => rw [hA] at h2; exact ⟨h2.1, h2.2.ext x (upd_ne (neA i a hA))⟩
  · obtain ⟨h1, h2, h3, h4⟩ := R.pins q hq
    exact ⟨by rw [upd_ne (neA q.1 _ h3)]; exact h1, h2, h3, h4⟩
  · obtain ⟨h1, h2⟩ := R.fz b w e
    exact ⟨by rw [upd_ne (fun z => h2 (by rw [z]; exact za))]; exact h1, h2⟩
end
structure PTsm (X : Cx) (c : List Ow) (es : List Expr) (t : TTm) : Prop where
  run : PTs X es (tmT X.K c t)
def mYes : TTm := fun _ P => P true
theorem tsm_nil {X : Cx} {c : List Ow} : PTsm X c [] mYes := ⟨⟨fun pins s σ H Q I h => pts_nil.run pins s σ H Q I (by
  obtain ⟨G, A, W, env, P, R, h, k⟩ := h
  exact k true H (Grow.refl R.src) h)⟩⟩
theorem tsm_one {X : Cx} {c : List Ow} {e : Expr} {t : TTm} (h : PTm X c e t) : PTsm X c [e] t := ⟨pts_one h.run⟩
/-- the turns of a comprehension -/
def mCompGo (g : TGm) (tt : TTm) (te : TEm) (env : Env) (P : PV → Prop) : List PV → List PV → Prop
  | [], acc => P (.lst acc)
  | x :: xs, acc => g x env fun env1 => tt env1 fun b => if b = true then te env1 fun y => acc.length < sizeLine ∧ mCompGo g tt te env P xs (acc ++ [y]) else mCompGo g tt te env P xs acc
def mLc (wi : TIm) (vs : List Nat) (g : TGm) (tt : TTm) (te : TEm) : TEm := fun env P => wi env fun items => mCompGo g tt te (wipeE env vs) P items []
def tiM (K : PySem.W.Frag) (c : List Ow) (lk : Option Nat) (t : TIm) : TI := fun σ H R => ∃ G A W env P, SR K G c A W env σ H ∧ t env P ∧ ∀ J items H' pl, Grow W H H' → (match lk with | none => pl = [] | some j => ∃ a o, pl = [(a, o)] ∧ A j = some a ∧ H' a = some o) → ItOk K (Zt G A W) W H' pl J items → P items → R J H'
theorem tm_lc {K : PySem.W.Frag} {c : List Ow} {lk : Option Nat} {wi : TIm} {vs ws : List Nat} {g : TGm} {tt : TTm} {te : TEm} (hw : ∀ j ∈ ws, j ∈ vs) (σ : St) (H : Hp) (Q : VK) (h : tmE K c .fr (mLc wi vs g tt te) σ H Q) :
    tLc (tiM K c lk wi) (tgM K c ws g) (tmT K c tt) (tmE K c .cl te) vs σ H Q := by
  obtain ⟨G, A, W, env, P, R, h, k⟩ := h
  refine ⟨G, A, W, env, _, R, h, fun J items H1 pl g1 hpl ⟨Gd, Y, wk, hit⟩ h1 D nD => ?_⟩
  have R1 := R.grow g1
  have nW : ¬ inW W D := fun w => by obtain ⟨o, e⟩ := inW_some R1.src w; rw [nD] at e; cases e
  have plD : ∀ q ∈ pl, H1 q.1 = some q.2 ∧ ¬ inW W q.1 := fun q hq => by
    cases lk with
    | none => have e : pl = [] := hpl; rw [e] at hq; cases hq
    | some j =>
      obtain ⟨a, o, e, hA, ho⟩ := hpl
      rw [e, List.mem_singleton] at hq
      rw [hq]
      exact ⟨ho, (R1.Asep j a hA).2.1⟩
  have RD : SR K (G.and D) c A W (wipeE env vs) (wipe σ vs) (upd H1 D (.lst [])) := (R1.wipe vs).and nD
  refine lc_it (g := tgM K c ws g) (tt := tmT K c tt) (te := tmE K c .cl te) wk
    (fun i H2 => ∃ acc wacc, SR K (G.and D) c A W (wipeE env vs) (wipe σ vs) H2 ∧ Grow W H1 H2 ∧ H2 D = some (.lst wacc) ∧ Rps K ⟨Zt (G.and D) A W, W, H2⟩ acc wacc ∧ mCompGo g tt te (wipeE env vs) P (items.drop i) acc)
    ⟨[], [], RD, Grow.new R1.src nD, upd_same, Rps.nil, h1⟩ (fun i H2 _ hP => ?_) (fun i x H2 H3 hi hP y => ?_) (fun H2 hP => ?_)
  · obtain ⟨acc, wacc, R2, g2, hD, ra, hq⟩ := hP
    refine (hit _ W H2 ⟨fun b o hz e => ?_, fun _ h => h⟩ R2.dz fun q hq => g2.keep _ _ (plD q hq).2 (plD q hq).1).1
    exact ⟨fun z => (zt_and.mp z).elim hz (fun z => by have e' : H1 b = some o := e; rw [z, nD] at e'; cases e'), g2.keep b o (fun w => hz (Zt.w w)) e⟩
  · obtain ⟨acc, wacc, R2, g2, hD, ra, hq⟩ := hP
    have x12 : Ext ⟨Zt G A W, W, H1⟩ ⟨Zt (G.and D) A W, W, H2⟩ := ⟨fun b o hz e => ⟨fun z => (zt_and.mp z).elim hz (fun z => by have e' : H1 b = some o := e; rw [z, nD] at e'; cases e'), g2.keep b o (fun w => hz (Zt.w w)) e⟩, fun _ h => h⟩
    have hd : items.drop i = items[i] :: items.drop (i + 1) := List.drop_eq_getElem_cons hi
    rw [hd] at hq
    obtain ⟨ga, rp⟩ := (hit _ W H2 x12 R2.dz fun q hq => g2.keep _ _ (plD q hq).2 (plD q hq).1).2 i x H3 items[i] (List.getElem?_eq_getElem hi) y
    have g23 := ga.grow R2.src
    have R3 := R2.grow g23
    refine ⟨G.and D, A, W, wipeE env vs, items[i], _, R3, rp, hq, fun env1 σ1 R4 t4 h4 => ?_⟩
    refine ⟨(t4.wipe hw).trans wipe_wipe, G.and D, A, W, env1, _, R4, h4, fun b H4 g4 h5 => ?_⟩
    cases b with
    | true =>
      rw [if_pos rfl] at h5 ⊢
      refine ⟨G.and D, A, W, env1, _, R4.grow g4, h5, fun p v H5 g5 rv ⟨hl, h6⟩ => ?_⟩
      have g25 : Grow W H2 H5 := (g23.trans g4).trans g5
      have hD5 : H5 D = some (.lst wacc) := g25.keep D _ nW hD
      have R5 := R2.grow g25
      have ra5 : Rps K ⟨Zt (G.and D) A W, W, H5⟩ acc wacc := Rps.ext (g25.ext R2.sz) ra
      have zD : Zt (G.and D) A W D := zt_and.mpr (.inr rfl)
      have xD : ∀ o, Ext ⟨Zt (G.and D) A W, W, H5⟩ ⟨Zt (G.and D) A W, W, upd H5 D o⟩ := fun o => ⟨fun b w hn e => ⟨hn, by show upd H5 D o b = some w; rw [upd_ne (fun z => hn (by rw [z]; exact zD))]; exact e⟩, fun _ h => h⟩
      refine ⟨wacc, hD5, by rw [← ra.len]; exact hl, acc ++ [p], wacc ++ [v], R5.upZ (.inr rfl) (R1.h0 nD) nW, ?_, upd_same, Rps.ext (xD _) (ra5.append (Rps.cons rv.c Rps.nil)), h6⟩
      have g15 := g2.trans g25
      exact ⟨fun b o hw e => by rw [upd_ne (fun z => by rw [z, nD] at e; cases e)]; exact g15.keep b o hw e, (R5.upZ (o := .lst (wacc ++ [v])) (.inr rfl) (R1.h0 nD) nW).src⟩
    | false =>
      rw [if_neg Bool.false_ne_true] at h5 ⊢
      have g24 : Grow W H2 H4 := g23.trans g4
      exact ⟨acc, wacc, R2.grow g24, g2.trans g24, g24.keep D _ nW hD, Rps.ext (g24.ext R2.sz) ra, h5⟩
  · obtain ⟨acc, wacc, R2, g2, hD, ra, hq⟩ := hP
    rw [List.drop_length] at hq
    exact k (.lst acc) (.ref D) H2 (g1.trans g2) ⟨D, rfl, g1.free nD, wacc, hD, Rps.ext (ext_less fun b z => zt_and.mpr z) ra⟩ hq
section
variable {X : Cx} {f : Fx} {c : List Ow} {lk : Option Nat} {elt tg iter : Expr} {ifs : List Expr} {scope : Scope} {own : List (Str × Nat)} {pos spos : Pos} {wi : TIm} {ws : List Nat} {g : TGm} {tt : TTm} {te : TEm}
theorem em_lc (hc : X.calm = true) (hN : X.N.Nodup) (hi : PIm X c lk tg iter wi) (ok : BlkOk X.N X.env.scope scope own)
    (hg : ∀ (s : Shared) (H : Hp) (C : Addr) (cl : List (Str × Addr)) (fp : List Addr), PGm (X.blk s H scope (compEnvC scope cl C X.env) fp) c ws tg g) (ht : ∀ (s : Shared) (H : Hp) (C : Addr) (cl : List (Str × Addr)) (fp : List Addr), PTsm (X.blk s H scope (compEnvC scope cl C X.env) fp) c ifs tt)
    (he : ∀ (s : Shared) (H : Hp) (C : Addr) (cl : List (Str × Addr)) (fp : List Addr), PEm (X.blk s H scope (compEnvC scope cl C X.env) fp) c .cl elt te) (hw : ∀ j ∈ ws, j ∈ own.map (·.2) := by decide) (hs : ∀ x, foldedSetIterable iter X.env x = pure x := by intro _; rfl) :
    PEm X c .fr (.ListComp elt [⟨tg, iter, ifs, 0⟩] scope pos) (mLc wi (own.map (·.2)) g tt te) :=
  ⟨(pe_lc hc hN hi.run ok (fun s H C cl fp => (hg s H C cl fp).run) (fun s H C cl fp => (ht s H C cl fp).run) (fun s H C cl fp => (he s H C cl fp).run) hs).weak fun σ H Q h => tm_lc hw σ H Q h⟩
theorem sm_setLc (i : Nat) {y : Str} {py : Pos} (hc : X.calm = true) (hN : X.N.Nodup) (hi : PIm X c lk tg iter wi) (ok : BlkOk X.N X.env.scope scope own)
    (hg : ∀ (s : Shared) (H : Hp) (C : Addr) (cl : List (Str × Addr)) (fp : List Addr), PGm (X.blk s H scope (compEnvC scope cl C X.env) fp) c ws tg g) (ht : ∀ (s : Shared) (H : Hp) (C : Addr) (cl : List (Str × Addr)) (fp : List Addr), PTsm (X.blk s H scope (compEnvC scope cl C X.env) fp) c ifs tt)
    (he : ∀ (s : Shared) (H : Hp) (C : Addr) (cl : List (Str × Addr)) (fp : List Addr), PEm (X.blk s H scope (compEnvC scope cl C X.env) fp) c .cl elt te)
    (hsw : swapsWith (.ListComp elt [⟨tg, iter, ifs, 0⟩] scope pos) (some (.Name y py)) spos.line X.env = pure true) (hy : X.N[i]? = some y := by rfl) (hyl : X.env.scope.names.lookup y = some .local := by rfl) (hlen : i < c.length := by decide) (hl : cO c i ≠ .lk := by decide) (hw : ∀ j ∈ ws, j ∈ own.map (·.2) := by decide) (hs : ∀ x, foldedSetIterable iter X.env x = pure x := by intro _; rfl) :
    PSm X f c (c.set i .ow) (.Assign [.Name y py] (.ListComp elt [⟨tg, iter, ifs, 0⟩] scope pos) spos) (sSet i (mLc wi (own.map (·.2)) g tt te)) :=
  ⟨(ps_setLc hc hN hy hyl hsw hi.run ok (fun s H C cl fp => (hg s H C cl fp).run) (fun s H C cl fp => (ht s H C cl fp).run) (fun s H C cl fp => (he s H C cl fp).run) hs).weak fun D σ H h => by
    obtain ⟨G, A, W, env, M, hgw, R, h, k⟩ := h
    refine tm_lc hw σ H _ ⟨G, A, W, env, _, R, h, fun p v H1 g r h1 => ?_⟩
    obtain ⟨a, rfl, n, o⟩ := r
    exact k.nx _ W _ _ H1 (R.set_ow hlen hl g n o) h1⟩
end
end PM

set_option maxHeartbeats 1000000
/-! PM: defs and their calls. -/
namespace PM
open PySem L2
abbrev Spec := List PV → (PV → Prop) → Prop
/-- what a def promises -/
def spM (K : PySem.W.Frag) (rm : Md) (spec : Spec) : Sp := fun vs H Q _ => ∃ (zb : Addr → Prop) (W : Ws) (ps : List PV) (P : PV → Prop), (∀ b, zb b → ∃ o, H b = some o) ∧ (∀ q ∈ W, SA H q) ∧ Rps K ⟨fun b => zb b ∨ inW W b, W, H⟩ ps vs ∧ spec ps P ∧
  ∀ p v H', Grow W H H' → VK1 K rm (fun b => zb b ∨ inW W b) W H H' p v → P p → Q v H'
def mCall (spec : Spec) (ds : List PV) (t : TAm) : TEm := fun env P => t env fun ps => spec (ps ++ ds) P
theorem VK1.less {K : PySem.W.Frag} {Z Z' : Addr → Prop} {W : Ws} {H H' : Hp} {p : PV} {v : V} {md : Md} (hm : md ≠ .ow) (h : ∀ b, Z' b → Z b) (r : VK1 K md Z W H H' p v) : VK1 K md Z' W H H' p v := by
  cases md with
  | cl => exact VK1.ofRp (Rp.ext (ext_less h) r.c)
  | ow => exact absurd rfl hm
  | fr =>
    obtain ⟨a, e, n, o⟩ := r
    exact ⟨a, e, n, o.less fun b z => z.elim (fun z => .inl (h b z)) .inr⟩
/-- defaults: constants -/
def Cst (K : PySem.W.Frag) (ds : List PV) (vs : List V) : Prop := ∀ S, Rps K S ds vs
section
variable {X : Cx} {c : List Ow} {k : Nat} {fa : Addr} {fd : FuncData} {pns : List Str} {spec : Spec} {rm : Md} {x : Str} {p pos : Pos} {e : Expr} {es : List Expr} {t : TAm} {ds : List PV} {dvs : List V} {dus : List Value}
theorem tm_call {K : PySem.W.Frag} (hm : rm ≠ .ow) (hds : Cst K ds dvs) (σ : St) (H : Hp) (Q : VK) (h : tmE K c rm (mCall spec ds t) σ H Q) : tCall (spM K rm spec) dvs E0 (tmA K c .cl t) σ H Q := by
  obtain ⟨G, A, W, env, P, R, h, k⟩ := h
  refine ⟨G, A, W, env, _, R, h, fun ps vs H1 g1 rs h1 => ?_⟩
  have R1 := R.grow g1
  have l1 : ∀ b, (Zt G A W b ∨ inW W b) → Zt G A W b := fun b z => z.elim id Zt.w
  refine ⟨Zt G A W, W, ps ++ ds, P, R1.dz, R1.src, (Rps.ext (ext_less l1) rs.rps).append (hds _), h1, fun p v H' g r hp => k p v H' (g1.trans g) ?_ hp⟩
  exact (r.less hm fun b z => .inl z).back g1
theorem em_call (F : FnOk X.prog X.w X.K X.mg X.base CX0 k fa fd pns (spM X.K rm spec)) (hr : Room k X.A) (hm : X.mg x = some (.ref fa)) (hk : PySem.W.keepIn X.K (.ref fa) = true) (hb : Binds X.K fd pns dus) (hd : Vals dvs dus) (hds : Cst X.K ds dvs)
    (ha : PAm X c .cl (e :: es) t) (hrm : rm ≠ .ow := by decide) (hg : Gl X x := by rfl) (hdb : (x == ("__debug__" : Str)) = false := by decide) (he : starEach (e :: es) X.env = (false, eval e X.env) :: starEach es X.env := by rfl) (hpl : (backTo pos (starEach es X.env)).any (·.1) = false := by rfl) :
    PEm X c rm (.Call (.Name x p) (e :: es) [] pos) (mCall spec ds t) := ⟨(pe_call F hr hg hm hk hb hd pass0 ha.run hdb he hpl).weak fun σ H Q h => tm_call hrm hds σ H Q h⟩
/-- a def's own lists handed on for a look: what comes back is no list -/
def mCallO (spec : Spec) (ds : List PV) (t : TAm) : TEm := fun env P => t env fun ps => spec (ps ++ ds) fun r => flatP r = true ∧ P r
theorem VKs.look {K : PySem.W.Frag} {Z : Addr → Prop} {W : Ws} {H : Hp} (hz : ∀ b, inW W b → Z b) : ∀ {ps : List PV} {vs : List V}, VKs K .ow Z W H ps vs → Rps K ⟨fun b => (fun _ => False) b ∨ inW W b, W, H⟩ ps vs
  | _, _, .nil => Rps.nil
  | p :: _, v :: _, .cons h t => Rps.cons (by
    have x : Ext ⟨Z, W, H⟩ ⟨fun b => (fun _ => False) b ∨ inW W b, W, H⟩ := ext_less fun b z => z.elim False.elim (hz b)
    have h' : RpO K ⟨Z, W, H⟩ p v := h
    cases p with
    | lst ps =>
      obtain ⟨a, ws, e, h1, h2⟩ := h'
      unfold Rp
      exact ⟨a, ws, e, ⟨fun z => z.elim False.elim h1.1, h1.2⟩, Rps.ext x h2⟩
    | dic ks ps =>
      obtain ⟨a, ws, e, h0, h1, l, h2⟩ := h'
      unfold Rp
      exact ⟨a, ws, e, fun z => z.elim False.elim h0, h1, l, Rps.ext x h2⟩
    | non => exact Rp.ext x h'
    | bl _ => exact Rp.ext x h'
    | int _ => exact Rp.ext x h'
    | str _ => exact Rp.ext x h'
    | tup _ => exact Rp.ext x h'
    | obj _ _ _ => exact Rp.ext x h'
    | ref _ => exact Rp.ext x h'
    | src => exact Rp.ext x h'
    | scr _ => exact Rp.ext x h') (VKs.look hz t)
theorem Rp.flat {K : PySem.W.Frag} {S S' : Wd} {p : PV} {v : V} (f : flatP p = true) (h : Rp K S p v) : Rp K S' p v := by
  cases p with
  | non => unfold Rp at h ⊢; exact h
  | bl _ => unfold Rp at h ⊢; exact h
  | int _ => unfold Rp at h ⊢; exact h
  | str _ => unfold Rp at h ⊢; exact h
  | _ => exact absurd f (by simp [flatP])
theorem em_callO (F : FnOk X.prog X.w X.K X.mg X.base CX0 k fa fd pns (spM X.K .cl spec)) (hr : Room k X.A) (hm : X.mg x = some (.ref fa)) (hk : PySem.W.keepIn X.K (.ref fa) = true) (hb : Binds X.K fd pns dus) (hd : Vals dvs dus) (hds : Cst X.K ds dvs)
    (ha : PAm X c .ow (e :: es) t) (hg : Gl X x := by rfl) (hdb : (x == ("__debug__" : Str)) = false := by decide) (he : starEach (e :: es) X.env = (false, eval e X.env) :: starEach es X.env := by rfl) (hpl : (backTo pos (starEach es X.env)).any (·.1) = false := by rfl) :
    PEm X c .cl (.Call (.Name x p) (e :: es) [] pos) (mCallO spec ds t) := ⟨(pe_call F hr hg hm hk hb hd pass0 ha.run hdb he hpl).weak fun σ H Q h => by
  obtain ⟨G, A, W, env, P, R, h, k⟩ := h
  refine ⟨G, A, W, env, _, R, h, fun ps vs H1 g1 rs h1 => ?_⟩
  refine ⟨fun _ => False, W, ps ++ ds, _, fun b z => z.elim, (R.grow g1).src, (VKs.look R.sz rs).append (hds _), h1, fun p v H' g r ⟨hf, hp⟩ => k p v H' (g1.trans g) (VK1.ofRp (Rp.flat hf r.c)) hp⟩⟩
end
/-- where a def begins -/
def startE (n : Nat) (args : List PV) : Env := args.map some ++ List.replicate (n - args.length) none
def shs (n : Nat) : List Ow := List.replicate n .sh
theorem cO_shs {n i : Nat} : cO (shs n) i = .sh := by
  unfold cO shs
  rw [List.getD_eq_getElem?_getD, List.getElem?_replicate]
  split <;> rfl
theorem SR.start {K : PySem.W.Frag} {N : List Str} {zb : Addr → Prop} {W : Ws} {ps : List PV} {vs : List V} {H : Hp} {gw : Bool} (hz : ∀ b, zb b → ∃ o, H b = some o) (hs : ∀ q ∈ W, SA H q) (r : Rps K ⟨fun b => zb b ∨ inW W b, W, H⟩ ps vs) :
    SR K ⟨gw, zb, W, H, fun _ => none, W, []⟩ (shs N.length) (fun _ => none) W (startE N.length ps) (L2.start N vs) H := by
  have less : ∀ b, Zt ⟨gw, zb, W, H, fun _ => none, W, []⟩ (fun _ => none) W b → (zb b ∨ inW W b) := fun b z => by
    rcases z with z | z | ⟨i, z⟩
    · exact .inl z
    · exact .inr z
    · cases z
  refine ⟨?_, fun _ h => h, fun _ h => h, fun _ h => .inl h, fun _ => rfl, hs, fun _ _ _ e => e, hz, fun i a e => (by cases e), fun i j a e => (by cases e), fun i p hc => absurd cO_shs hc, fun i p e => ?_, fun q hq => (by cases hq), fun b o e => (by cases e)⟩
  · unfold startE L2.start
    rw [List.length_append, List.length_append, List.length_map, List.length_map, List.length_replicate, List.length_replicate, r.len]
  · have hi : i < ps.length := by
      unfold startE at e
      cases Nat.lt_or_ge i ps.length with
      | inl h => exact h
      | inr h =>
        rw [List.getElem?_append_right (by rw [List.length_map]; exact h), List.getElem?_replicate] at e
        split at e <;> cases e
    have hp : ps[i]? = some p := by
      unfold startE at e
      rw [List.getElem?_append_left (by rw [List.length_map]; exact hi), List.getElem?_map] at e
      cases q : ps[i]? with
      | none => rw [q] at e; cases e
      | some u => rw [q] at e; cases e; rfl
    obtain ⟨v, hv, rv⟩ := r.get hp
    refine ⟨v, ?_, Rp.ext (ext_less less) rv⟩
    unfold L2.start
    rw [List.getElem?_append_left (by rw [List.length_map, ← r.len]; exact hi), List.getElem?_map, hv]
    rfl
section
variable {P : Program} {w : World} {K : PySem.W.Frag} {mg : Str → Option Value} {base : Heap}
/-- the context of a def's body -/
abbrev bodyX (P : Program) (w : World) (K : PySem.W.Frag) (mg : Str → Option Value) (base : Heap) (N : List Str) (qual : Str) (st : Stmt) (f : Addr) (cdv : Value) (A : Around) (outer : List PySem.Env) (s : Shared) (H : Hp) (E : XK) : Cx :=
  (cxOf CX0 P w K mg base N qual (defScope st) f cdv A outer s H E).nox
def nxOf (rm : Md) (Q : PV → Prop) : Prop := match rm with
  | .cl => Q .non
  | _ => False
/-- THE RULE for a def -/
theorem fn_m {x qual : Str} {st : Stmt} {f : Addr} {fd : FuncData} {N pns : List Str} {k : Nat} {rm : Md} {spec : Spec} {t : TSm} {dvs : List V} (F : FunD K x qual (defArgs st) (defBody st) (defScope st) dvs [] f fd) (S : FnScope N pns (defScope st))
    (hlen : ∀ ps Q, spec ps Q → ps.length = pns.length)
    (hbody : ∀ (cdv : Value) (A : Around) (outer : List PySem.Env) (s : Shared) (H : Hp) (E : XK), Room k (A.deeper (PyProof.Rows.envOfC qual (defScope st) s.heap.objs.size f cdv)) → ∃ c', PSsm (bodyX P w K mg base N qual st f cdv A outer s H E) ⟨rm, false, []⟩ (shs N.length) c' (defBody st) t)
    (hok : ∀ ps Q, spec ps Q → t { nx := fun _ => nxOf rm Q, rt := Q } (startE N.length ps)) : FnOk P w K mg base CX0 (k + 1) f fd pns (spM K rm spec) := by
  refine F.ok S (fun vs H Q E h => ?_) (fun cdv A outer s H vs Q E hr h => ?_)
  · obtain ⟨zb, W, ps, P, _, _, r, hs, _⟩ := h
    rw [← r.len]; exact hlen ps P hs
  · obtain ⟨zb, W, ps, P, hz, hsrc, r, hs, kk⟩ := h
    have hret : ∀ p v H', RetOk K rm ⟨false, zb, W, H, fun _ => none, W, []⟩ p v H' → P p → Q v H' := fun p v H' hr hp => by
      obtain ⟨W', h1, h2, h3, h4, h5⟩ := hr
      have e : W' = W := h2 rfl
      subst e
      exact kk p v H' ⟨fun b o n e => h4 b o n e, h3⟩ h5 hp
    have hsr : SR K ⟨false, zb, W, H, fun _ => none, W, []⟩ (shs N.length) (fun _ => none) W (startE N.length ps) (L2.start N vs) H := SR.start hz hsrc r
    obtain ⟨c', hb⟩ := hbody cdv A outer s H E hr
    refine ⟨_, hb.run.nox, ⟨false, zb, W, H, fun _ => none, W, []⟩, fun _ => none, W, startE N.length ps, { nx := fun _ => nxOf rm P, rt := P }, rfl, hsr, hok ps P hs, ⟨fun A' W' env' σ' H' R' hp => ?_, hret, fun _ _ _ _ _ _ z => z.elim, fun _ _ _ _ _ _ z => z.elim⟩⟩
    cases rm with
    | cl => exact hret .non .non H' (R'.ret (Grow.refl R'.src) (by decide) (VK1.ofRp Rp.non')) hp
    | ow => exact hp.elim
    | fr => exact hp.elim
end
end PM

set_option maxHeartbeats 1000000
/-! PM: more rules of the layer beneath: t[::-1], enumerate(t). -/
namespace HT
open PySem PySem.Spec PyProof.Rows
section
variable {prog : Program} {w : World} {A : Around} {E : Value → Shared → Prop} {s : Shared}
theorem sliceApplied_rev {sl : Addr} {n : Nat} {t : Tok} {Q : Int × Int × Nat → Shared → Prop} (hs : s.heap.IsSliceOf sl .none .none (.int (-1) t))
    (h : Q ((n : Int) - 1, -1, n) s) : wpAny (model prog w) A (Builtin.Slice.sliceApplied (.ref sl) (pure (n : Int))) Q E s := by
  obtain ⟨os, hos, hcs, hds⟩ := id hs
  unfold Builtin.Slice.sliceApplied Builtin.Slice.sliceFields
  refine wpAny_bind (wpAny_bind (wpAny_field hos hds (x := .none) rfl (wpAny_bind (wpAny_field hos hds (x := .none) rfl (wpAny_bind (wpAny_field hos hds (x := .int (-1) t) rfl (wpAny_pure ?_)))))))
  refine wpAny_bind (slicePart_int ?_)
  show wpAny _ _ (if ((-1 : Int) == 0) = true then _ else _) _ _ s
  rw [if_neg (by decide)]
  refine wpAny_bind (slicePart_none (wpAny_bind (slicePart_none (wpAny_bind (wpAny_pure ?_)))))
  show wpAny _ _ (match Builtin.Slice.sliceAdjust none none (-1) (n : Int) with | (lo, hi) => pure (lo, (-1 : Int), Builtin.Slice.slicePlaces lo hi (-1))) _ _ s
  have e1 : Builtin.Slice.sliceAdjust none none (-1) (n : Int) = ((n : Int) - 1, -1) := by
    unfold Builtin.Slice.sliceAdjust
    simp
  rw [e1]
  show wpAny _ _ (pure ((n : Int) - 1, (-1 : Int), Builtin.Slice.slicePlaces ((n : Int) - 1) (-1) (-1))) _ _ s
  have e2 : Builtin.Slice.slicePlaces ((n : Int) - 1) (-1) (-1) = n := by
    unfold Builtin.Slice.slicePlaces
    have h1 : ¬ ((-1 : Int) > 0) := by omega
    simp only [h1, if_false]
    have h3 : (- -1 : Int) = 1 := by decide
    rw [h3, Int.ediv_one]
    split <;> omega
  rw [e2]
  exact wpAny_pure h
theorem filterMap_same {α β : Type} {f g : α → Option β} : ∀ {l : List α}, (∀ a ∈ l, f a = g a) → l.filterMap f = l.filterMap g
  | [], _ => rfl
  | a :: l, h => by
    rw [List.filterMap_cons, List.filterMap_cons, h a List.mem_cons_self, filterMap_same fun b hb => h b (List.mem_cons_of_mem _ hb)]
theorem pick_rev (xs : Array Value) : ((List.range xs.size).filterMap fun (m : Nat) => xs[(((xs.size : Int) - 1) + (m : Int) * (-1)).toNat]?).toArray = xs.toList.reverse.toArray := by
  have e : ∀ m ∈ List.range xs.size, xs[(((xs.size : Int) - 1) + (m : Int) * (-1)).toNat]? = xs[xs.size - 1 - m]? := fun m hm => by
    have := List.mem_range.mp hm
    have : (((xs.size : Int) - 1) + (m : Int) * (-1)).toNat = xs.size - 1 - m := by omega
    rw [this]
  rw [filterMap_same e]
  have e2 := PySem.W.krv_all xs
  have e3 := PySem.W.krv_range xs.size
  rw [← e2, ← List.filterMap_reverse, ← e3, List.filterMap_map]
  rfl
theorem getItem_tuple_rev {t sl : Addr} {items : Array Value} {tk : Tok} {Q : Value → Shared → Prop} (ht : IsTup s.heap t items) (hs : s.heap.IsSliceOf sl .none .none (.int (-1) tk))
    (h : Q (.ref s.heap.objs.size) { s with heap := s.heap.push { cls := .type "tuple", data := .seq items.toList.reverse.toArray } })
    (hsz : items.size ≤ sizeLine) : wpAny (model prog w) A (getItem (.ref t) (.ref sl)) Q E s := by
  have htake : sizeOk (.seq items.toList.reverse.toArray) := by
    show items.toList.reverse.toArray.size ≤ sizeLine
    rw [List.size_toArray, List.length_reverse, Array.length_toList]
    omega
  obtain ⟨os, hos, hcs, hds⟩ := id hs
  have hTs : s.TypeIs (.ref sl) "slice" := ⟨os, hos, hcs⟩
  unfold getItem
  try with_reducible refine wpAny_holding ?_
  first | refine wpAny_bind (wpAny_pure ?_) | skip
  refine wpAny_bind (wpAny_sequenceKey ht.typeIs (by decide) ?_)
  refine wpAny_bind (wpAny_callSpecial?_slot (name := Str.ofString "__getitem__") ht.typeIs PyProof.Rows.slot_tuple_getitem
    (wpAny_call_entry PyProof.Rows.slot_tuple_getitem ht.typeIs entry_tuple_getitem ?_ (args_tuple_getitem _ _)))
  show wpAny _ _ (Builtin.Tuple.tupleItemsOf (.ref t) >>= _) _ _ s
  refine wpAny_bind (tupleItemsOf_ ht ?_)
  refine wpAny_bind (wpAny_typeOf hTs ?_)
  rw [if_pos (by decide)]
  refine wpAny_bind (sliceApplied_rev hs ?_)
  have hno : ¬ (((((items.size : Nat) : Int) - 1) == 0 && (-1 : Int) == 1 && items.size == items.size) = true) := by
    intro q
    rw [Bool.and_eq_true, Bool.and_eq_true] at q
    exact absurd q.1.2 (by decide)
  show wpAny _ _ (if ((((items.size : Nat) : Int) - 1) == 0 && (-1 : Int) == 1 && items.size == items.size) = true then _ else _) _ _ s
  rw [if_neg hno, pick_rev]
  first
    | exact wpAny_bind (m := Builtin.Tuple.tupleExact _) (wpAny_newObj_type (wpAny_pure ⟨_, rfl, wpAny_pure h⟩) htake)
    | exact wpAny_bind (m := Builtin.Tuple.tupleExact _) (wpAny_newObj_type (wpAny_bind (wpAny_pure (wpAny_pure ⟨_, rfl, wpAny_pure h⟩))) htake)
    | exact wpAny_bind (wpAny_bind (m := Builtin.Tuple.tupleExact _) (wpAny_newObj_type (wpAny_pure (wpAny_pure ⟨_, rfl, wpAny_pure h⟩)) htake))
    | exact wpAny_bind (wpAny_bind (m := Builtin.Tuple.tupleExact _) (wpAny_newObj_type (wpAny_pure ⟨_, rfl, wpAny_pure h⟩) htake))
end
end HT
namespace L2
open PySem PySem.Spec PyProof.Rows
section
variable {X : Cx}
/-- x[::-1], a list or a tuple -/
def tRevA (K : PySem.W.Frag) (te : TE) : TE := fun σ H Q => te σ H fun x H1 => ∃ a xs, x = .ref a ∧ ((SqL K H1 a xs ∧ ∀ p, H1 p = none → Q (.ref p) (upd H1 p (.lst xs.reverse))) ∨ (SqT K H1 a xs ∧ ∀ p, H1 p = none → Q (.ref p) (upd H1 p (.tup xs.reverse))))
theorem pe_revA {e : Expr} {te : TE} {k : Nat} {p1 p2 p3 pos : Pos} (he : PE X e te) : PE X (.Subscript e (.Slice none none (some (.UnaryOp .USub (.Constant (.int 1) k p1) p2)) p3) pos) (tRevA X.K te) := by
  refine ⟨fun pins s σ H Q I h => ?_⟩
  refine Subscript_ (thn (he.run pins s σ H _ I h) fun v s1 ⟨x, H1, I1, r1, q1⟩ => ?_)
  obtain ⟨a, xs, ex, q1⟩ := q1
  subst ex
  cases r1
  have hst : PO X (some (.UnaryOp .USub (.Constant (.int 1) k p1) p2)) (tPart (tUn (rU fun i => .int (-i)) (tC (.int 1)))) := po_some (pe_un un_neg pe_int)
  refine wpAny_Slice (thn (po_none.run pins s1 σ H1 (fun o H2 => o = none ∧ H2 = H1) I1 ⟨rfl, rfl⟩) fun vl s2 ⟨l, H2, I2, pl, el, e2⟩ => ?_)
  subst el e2
  refine thn (po_none.run pins s2 σ H2 (fun o H3 => o = none ∧ H3 = H2) I2 ⟨rfl, rfl⟩) fun vu s3 ⟨u, H3, I3, pu, eu, e3⟩ => ?_
  subst eu e3
  refine thn (hst.run pins s3 σ H3 (fun o H4 => o = some (-1) ∧ H4 = H3) I3 ⟨1, rfl, -1, rfl, rfl, rfl⟩) fun vs s4 ⟨o, H4, I4, ps, eo, e4⟩ => ?_
  subst eo e4
  have I5 : Inv X pins σ H4 { s4 with heap := s4.heap.push { cls := .type "slice", data := .fields #[vl, vu, vs] } } := I4.kept (t' := s4.toks) fun b ob q => Heap.get?_push_of_some _ q
  show wpAny (model X.prog X.w) X.A (subscriptTail e (.Slice none none (some (.UnaryOp .USub (.Constant (.int 1) k p1) p2)) p3) (.ref a) (.ref s4.heap.objs.size)) (EP X pins σ Q) X.xe { s4 with heap := s4.heap.push { cls := .type "slice", data := .fields #[vl, vu, vs] } }
  rcases q1 with ⟨hx, q⟩ | ⟨hx, q⟩
  · obtain ⟨its, r, ht, hz⟩ := I5.list hx
    have hlen := r.length
    refine tail_any (ops := [.ref a, .ref s4.heap.objs.size]) ht.isList.typeIs (PySem.slot_list_getitem.lookup) ?_ (by with_unfolding_all rfl)
    refine wpAny_getItem_list_slice ht.isList (Heap.IsSliceOf.new _ vl vu vs) pl pu ps (by decide) ?_ (by rw [List.size_toArray]; omega)
    rw [PySem.W.krv_pick]
    refine ⟨.ref _, _, I5.laid (t' := s4.toks) (o := .lst xs.reverse) (fun b ob q => Heap.get?_push_of_some _ q) (Nat.le_refl _) ?_, rfl, q _ (I5.hok.fresh (Nat.le_refl _))⟩
    exact ⟨by rw [List.length_reverse]; exact hz, _, 0, r.reverse, Heap.get?_push_size _ rfl⟩
  · obtain ⟨its, r, ht, hz⟩ := I5.tuple hx
    have hlen := r.length
    refine tail_any (ops := [.ref a, .ref s4.heap.objs.size]) ht.typeIs PyProof.Rows.slot_tuple_getitem.lookup ?_ (by with_unfolding_all rfl)
    have hsl : ({ s4 with heap := s4.heap.push { cls := .type "slice", data := .fields #[vl, vu, vs] } } : Shared).heap.IsSliceOf s4.heap.objs.size vl vu vs := Heap.IsSliceOf.new _ vl vu vs
    cases pl
    cases pu
    cases ps
    refine HT.getItem_tuple_rev ht hsl ?_ (by rw [List.size_toArray]; omega)
    refine ⟨.ref _, _, I5.laid (t' := s4.toks) (o := .tup xs.reverse) (fun b ob q => Heap.get?_push_of_some _ q) (Nat.le_refl _) ?_, rfl, q _ (I5.hok.fresh (Nat.le_refl _))⟩
    exact ⟨by rw [List.length_reverse]; exact hz, _, r.reverse, IsTup.new _ _⟩
end
/-! ### enumerate(t) of a tuple -/
open Sem (wp) in
theorem meets_enumerate_new1 {v : Value} {o : Obj} {H : Heap → Prop} (B : Begins v o H) :
    Meets (Builtin.«enumerate.__new__» ⟨[.type "enumerate", v], []⟩) (fun _ R s => H s.heap ∧
      R (.ok (.ret (.ref (s.heap.push o).objs.size))) { s with heap := (s.heap.push o).push { cls := .type "enumerate", data := .fields #[.none, .bool false, .ref s.heap.objs.size, rawInt 0, .none, .none] } }) :=
  .of_wp fun prog w A R s h => by
    obtain ⟨hp, g, d, tk, os⟩ := s; obtain ⟨h1, h⟩ := h
    have hsub := sub_enumerate
    have q1 : ∀ {A' : Around} {E : Value → Shared → Prop} {Q : Value → Shared → Prop}, Q (.ref hp.objs.size) ⟨hp.push o, g, d, tk, os⟩ → wpAny (model prog w) A' (pyIter v) Q E ⟨hp, g, d, tk, os⟩ :=
      fun q => B.iter prog w _ _ ⟨hp, g, d, tk, os⟩ _ h1 q
    wp_walk using q1
    refine wpAny_stack_any fun st => wpAny_pure ?_
    split
    · rename_i c _ _ _ _ _
      cases (c == Value.type "enumerate")
      · wp_walk using q1
        exact ⟨_, rfl, h⟩
      · wp_walk using q1
        exact ⟨_, rfl, h⟩
    · wp_walk using q1
      exact ⟨_, rfl, h⟩
theorem call_enumerate_tuple {prog : Program} {w : World} {A : Around} {E : Value → Shared → Prop} {s : Shared} {l : Addr} {items : Array Value} {Q : Value → Shared → Prop} (hL : s.heap.IsTuple l items)
    (h : ∀ h', IsEnum h' (s.heap.objs.size + 1) s.heap.objs.size 0 .none → h'.IsTupleIter s.heap.objs.size l 0 → h'.objs.size = s.heap.objs.size + 2 →
      (∀ b o, s.heap.get? b = some o → h'.get? b = some o) → Q (.ref (s.heap.objs.size + 1)) { s with heap := h' }) :
    wpAny (model prog w) A (call (.type "enumerate") [.ref l]) Q E s := by
  have B := begins_tuple (t := l) (items := items)
  refine callType_new F.called_enumerate (by decide) (F.typeCall_enumerate_1 _) (F.newCall_enumerate_1 _) (fun obj => F.args_object_init_2 obj _) F.entry_enumerate_new
    (meets_enumerate_new1 B) ⟨hL, ?_⟩
  have hz : (s.heap.push { cls := .type "tuple_iterator", data := .fields #[.ref l, .int 0 0] }).objs.size = s.heap.objs.size + 1 := Heap.size_push ..
  show _ ∧ _
  rw [hz]
  have he : IsEnum ((s.heap.push { cls := .type "tuple_iterator", data := .fields #[.ref l, .int 0 0] }).push
      { cls := .type "enumerate", data := .fields #[.none, .bool false, .ref s.heap.objs.size, rawInt 0, .none, .none] }) (s.heap.objs.size + 1) s.heap.objs.size 0 .none := by
    have := Heap.get?_push_size (s.heap.push { cls := .type "tuple_iterator", data := .fields #[.ref l, .int 0 0] })
      (o := { cls := .type "enumerate", data := .fields #[.none, .bool false, .ref s.heap.objs.size, rawInt 0, .none, .none] }) rfl
    rw [hz] at this; exact this
  refine ⟨⟨_, he, rfl⟩, h _ he ⟨_, Heap.get?_push_of_some _ (Heap.get?_push_size _ rfl), rfl, rfl⟩ (by rw [Heap.size_push, hz]) fun b o x => Heap.get?_push_of_some _ (Heap.get?_push_of_some _ x)⟩
end L2

set_option maxHeartbeats 1000000
/-! PM: enumerate, zip. -/
namespace L2
open PySem PySem.Spec PyProof.Rows
section
/-- the tuple at a, each item in a new pair -/
def IteT (K : PySem.W.Frag) (a : Addr) : It :=
  ⟨fun i H => ∃ (xs : List V) (x : V), SqT K H a xs ∧ xs[i]? = some x, fun i H v H' => ∃ T x, v = .ref T ∧ H T = none ∧ H' = upd H T (.tup [.int (i : Nat), x]) ∧ ∀ xs, SqT K H a xs → xs[i]? = some x, fun i H => ∃ xs : List V, SqT K H a xs ∧ xs.length ≤ i⟩
theorem turn_enumT {P : Program} {w : World} {K : PySem.W.Frag} {elts : List Expr} {kk : Nat} {tpos : Pos} (a e it : Addr) (hai : a ≠ it) (hae : a ≠ e) :
    Turn P w K (.Tuple elts kk tpos) (IteT K a) [e, it] e (fun i h => (∃ old, IsEnum h e it ((i : Nat) : Int) old) ∧ h.IsTupleIter it a i ∧ e ≠ it) where
  mem := by simp
  obj := fun i h st b hb => by
    obtain ⟨⟨old, he⟩, ⟨o, ho, hc, hd⟩, _⟩ := st
    have e' : b = e ∨ b = it := by simpa using hb
    rcases e' with z | z
    · rw [z]; exact ⟨_, he, fun v q => nomatch q⟩
    · rw [z]; exact ⟨o, ho, fun v q => by rw [hd] at q; cases q⟩
  keep := fun i h h' st k => let ⟨⟨old, he⟩, hi, hne⟩ := st; ⟨⟨old, k e (by simp) _ he⟩, hi.at fun o q => k it (by simp) o q, hne⟩
  item := by
    intro X hP hw hK hc i pins s σ H E I hf st hg
    subst hP hw hK
    obtain ⟨⟨old, he⟩, hit, hne⟩ := st
    obtain ⟨xs, x, hq, hx⟩ := hg
    obtain ⟨its, rv, p, hz⟩ := I.tuple hq
    obtain ⟨u, hu, ru⟩ := rv.get hx
    have hel : e < s.heap.objs.size := Heap.lt_size he
    have hil : it < s.heap.objs.size := by obtain ⟨_, q, _⟩ := hit; exact Heap.lt_size q
    have D := Draws.tuple (prog := X.prog) (w := X.w) (A := X.A.in1) (I.ok.hd hc) it a hai its.toArray
    have hi : i < its.toArray.size := by
      rw [List.size_toArray]
      exact (List.getElem?_eq_some_iff.mp hu).1
    refine wpAny_pyNext_enum_itemD D he ⟨hit, (show s.heap.IsTuple a its.toArray from p)⟩ hi hne (by simp [hne, Ne.symm hae]) fun x2 h' tk hP ho hst hT hsz hk => ?_
    have ex2 : x2 = u := by
      have := hP
      rw [List.getElem?_toArray, hu] at this
      exact (Option.some.inj this).symm
    subst ex2
    obtain ⟨hit', _⟩ := hst
    refine ⟨_, rfl, wpAny_letOwnedTupleGo_enum (s := { s with heap := h', toks := tk + 1 }) ho fun h'' he' sb => ?_⟩
    have hT2 : h''.get? s.heap.objs.size = some { cls := .type "tuple", data := .seq #[.int i tk, x2] } := (sb.2 _ (Nat.ne_of_gt hel)).trans hT
    have new : ObjOk X.prog X.w (upd H s.heap.objs.size (.tup [.int (i : Nat), x])) h'' s.heap.objs.size (.tup [.int (i : Nat), x]) :=
      ⟨by show 2 ≤ sizeLine; decide, [.int i tk, x2], .cons ⟨_, rfl⟩ (.cons ru .nil), ⟨_, hT2, rfl, _, rfl⟩⟩
    have I1 : Inv X pins σ (upd H s.heap.objs.size (.tup [.int (i : Nat), x])) { s with heap := h'', toks := tk + 1 } :=
      I.turnedNew (ch := [e, it]) (fun b ob hb q => (sb.2 b (fun z => hb (by simp [z]))).trans (hk b ob (fun z => hb (by simp [z])) (fun z => hb (by simp [z])) q)) hf (Nat.le_refl _) new
    refine ⟨.ref s.heap.objs.size, _, I1, rfl, ⟨_, x, rfl, I.hok.fresh (Nat.le_refl _), rfl, fun ys hy => by rw [I.tuple_inj hy hq]; exact hx⟩, ⟨⟨x2, ?_⟩, hit'.at fun o q => (sb.2 it (Ne.symm hne)).trans q, hne⟩, fun b hb => ?_⟩
    · have e1 : ((i + 1 : Nat) : Int) = (i : Int) + 1 := by omega
      rw [e1]; exact he'
    · have hb' : b < s.heap.objs.size := by
        have e' : b = e ∨ b = it := by simpa using hb
        rcases e' with z | z
        · rw [z]; exact hel
        · rw [z]; exact hil
      rw [upd_ne (Nat.ne_of_lt hb')]
      exact (hf b hb).1
  done := by
    intro X hP hw hK hc i pins s σ H E I hf st hg
    subst hP hw hK
    obtain ⟨⟨old, he⟩, hit, hne⟩ := st
    obtain ⟨xs, hq, hx⟩ := hg
    obtain ⟨its, rv, p, hz⟩ := I.tuple hq
    obtain ⟨f0, f1, f2, f3, f4, f5⟩ := hf it (by simp)
    have hl := rv.length
    have fin : ∀ h', Heap.ExtBut it s.heap h' → (none : Option Value) = none ∧ Inv X pins σ H { s with heap := h' } := fun h' eb => ⟨rfl, I.turned (t' := s.toks) (fun b o hb q => eb b o hb q) f0 f1 f3 f4 f5⟩
    -- the tuple's iterator stands at its end, or behind it
    have hTy : s.TypeIs (.ref e) "enumerate" := ⟨_, he, rfl⟩
    unfold pyNext
    refine wpAny_bind (wpAny_attempt (wpAny_callSpecial?_slot (name := Str.ofString "__next__") hTy F.slot_enumerate_next
      (wpAny_call_entry F.slot_enumerate_next hTy F.entry_enumerate_next ?_ (F.args_enumerate_next_1 _))))
    show wpAny _ _ (field (.ref e) 2 >>= _) _ _ _
    refine wpAny_bind (wpAny_field he rfl (x := .ref it) rfl ?_)
    refine wpAny_bind (wpAny_nextOf_tuple_end (I.ok.hd hc) hit (show s.heap.IsTuple a its.toArray from p) (by simp; omega) fun h' x he' hx' => ?_)
    obtain ⟨o, ho, hc'⟩ := hx'
    refine wpAny_bind (wpAny_isInstance (T := "StopIteration") (b := true) ⟨o, ho, hc'⟩ isSubtype_stop ?_)
    exact wpAny_pure (fin _ he')
  self := fun A i s Q E st h => let ⟨⟨_, he⟩, _⟩ := st; wpAny_pyIter_enum he h
def iEnumA (K : PySem.W.Frag) (ta : TA) : TI := fun σ H R => ta σ H fun vs H1 => ∃ a xs, vs = [.ref a] ∧ ((SqL K H1 a xs ∧ R (Ite K a) H1) ∨ (SqT K H1 a xs ∧ R (IteT K a) H1))
theorem pi_enumA {X : Cx} {e : Expr} {ta : TA} {p pos tpos : Pos} {elts : List Expr} {kk : Nat} (hg : Gl X "enumerate") (hm : X.mg "enumerate" = none) (ha : PA X [e] ta) (hs : starEach [e] X.env = [(false, eval e X.env)] := by rfl) :
    PI X (.Tuple elts kk tpos) (.Call (.Name "enumerate" p) [e] [] pos) (iEnumA X.K ta) := by
  refine ⟨fun pins s σ H R I h => ?_⟩
  refine Call_ (ld_blt I hg hm boot_enumerate (PyProof.Rows.callWith_type1 (thn (ha.run pos pins s σ H _ I h) fun us s1 ⟨vs, H1, I1, r1, q1⟩ => ?_) hs rfl))
  obtain ⟨a, xs, ex, q⟩ := q1
  subst ex
  have fp : ∀ b ∈ [s1.heap.objs.size + 1, s1.heap.objs.size], FpOk X pins H1 b := fun b hb => by
    have e' : b = s1.heap.objs.size + 1 ∨ b = s1.heap.objs.size := by simpa using hb
    have hle : s1.heap.objs.size ≤ b := by
      rcases e' with z | z
      · rw [z]; exact Nat.le_add_right _ _
      · rw [z]; exact Nat.le_refl _
    exact I1.fpOk hle (I1.hok.fresh hle)
  cases r1 with
  | cons r rr =>
    cases rr
    cases r
    rcases q with ⟨hq, q⟩ | ⟨hq, q⟩
    · obtain ⟨its, rv, p', hz⟩ := I1.list hq
      refine call_enumerate_list p'.isList fun h' he hit hsz hk => wpAny_pyIter_enum he ?_
      have I2 : Inv X pins σ H1 { s1 with heap := h' } := I1.kept (t' := s1.toks) hk
      exact ⟨s1.heap.objs.size + 1, [s1.heap.objs.size + 1, s1.heap.objs.size], _, _, H1, rfl, I2, turn_enum a (s1.heap.objs.size + 1) s1.heap.objs.size, ⟨⟨.none, he⟩, hit, Nat.succ_ne_self _⟩, fp, q⟩
    · obtain ⟨its, rv, p', hz⟩ := I1.tuple hq
      have hal : a < s1.heap.objs.size := p'.lt
      refine call_enumerate_tuple (show s1.heap.IsTuple a its.toArray from p') fun h' he hit hsz hk => wpAny_pyIter_enum he ?_
      have I2 : Inv X pins σ H1 { s1 with heap := h' } := I1.kept (t' := s1.toks) hk
      exact ⟨s1.heap.objs.size + 1, [s1.heap.objs.size + 1, s1.heap.objs.size], _, _, H1, rfl, I2, turn_enumT a (s1.heap.objs.size + 1) s1.heap.objs.size (Nat.ne_of_lt hal) (Nat.ne_of_lt (Nat.lt_succ_of_lt hal)), ⟨⟨.none, he⟩, hit, Nat.succ_ne_self _⟩, fp, q⟩
theorem walk_enumT {K : PySem.W.Frag} {a : Addr} {xs : List V} : Walk (IteT K a) xs.length (fun H => SqT K H a xs) (YPair (fun i => some (.int (i : Nat))) (fun i => xs[i]?)) := by
  refine ⟨fun i _ hi q => ⟨xs, xs[i], q, by simp [hi]⟩, fun _ q => ⟨xs, q, Nat.le_refl _⟩, fun i H v H' _ q y => ?_⟩
  obtain ⟨T, x, h1, h2, h3, h4⟩ := y
  exact ⟨T, .int (i : Nat), x, h1, h2, h3, rfl, h4 xs q⟩
theorem walk_zipT {K : PySem.W.Frag} {a b : Addr} {xs ys : List V} {n : Nat} (hn : n = min xs.length ys.length) : Walk (RZ.ItzT K a b) n (fun H => SqT K H a xs ∧ SqT K H b ys) (YPair (fun i => xs[i]?) (fun i => ys[i]?)) := by
  subst hn
  refine ⟨fun i _ hi q => ?_, fun _ q => ⟨xs, ys, q.1, q.2, by omega⟩, fun i H v H' _ q y => ?_⟩
  · have h1 : i < xs.length := by omega
    have h2 : i < ys.length := by omega
    exact ⟨xs, ys, xs[i], ys[i], q.1, q.2, by simp [h1], by simp [h2]⟩
  · obtain ⟨T, x, z, h1, h2, h3, h4, h5⟩ := y
    exact ⟨T, x, z, h1, h2, h3, h4 xs q.1, h5 ys q.2⟩
end
end L2
namespace PM
open PySem L2
/-- items that come in new pairs -/
theorem itok_pair {K : PySem.W.Frag} {Z : Addr → Prop} {W : Ws} {H : Hp} {J : It} {n : Nat} {Gd : Hp → Prop} {xs ys : Nat → Option V} {items : List PV} (hn : items.length = n) (wk : Walk J n Gd (YPair xs ys))
    (hst : ∀ Z2 W2 H2, Ext ⟨Z, W, H⟩ ⟨Z2, W2, H2⟩ → Gd H2 ∧ ∀ (i : Nat) (p : PV) (x y : V), items[i]? = some p → xs i = some x → ys i = some y → ∃ a b, p = .tup [a, b] ∧ Rp K ⟨Z2, W2, H2⟩ a x ∧ Rp K ⟨Z2, W2, H2⟩ b y) : ItOk K Z W H [] J items := by
  refine ⟨Gd, YPair xs ys, by rw [hn]; exact wk, fun Z2 W2 H2 x hz _ => ?_⟩
  obtain ⟨g, k⟩ := hst Z2 W2 H2 x
  refine ⟨g, fun i v H3 p hp y => ?_⟩
  obtain ⟨T, u, w, rfl, nT, rfl, h1, h2⟩ := y
  obtain ⟨a, b, rfl, ra, rb⟩ := k i p u w hp h1 h2
  have ga : GrowA H2 (upd H2 T (.tup [u, w])) := GrowA.new nT
  have nz : ¬ Z2 T := fun z => by obtain ⟨o, e⟩ := hz T z; rw [nT] at e; cases e
  have x2 : Ext ⟨Z2, W2, H2⟩ ⟨Z2, W2, upd H2 T (.tup [u, w])⟩ := ⟨fun b o hb e => ⟨hb, ga b o e⟩, fun _ h => h⟩
  refine ⟨ga, ?_⟩
  unfold Rp
  exact ⟨T, [u, w], rfl, .inl ⟨nz, upd_same⟩, Rps.cons (Rp.ext x2 ra) (Rps.cons (Rp.ext x2 rb) Rps.nil)⟩
def enumP (ps : List PV) : List PV := (List.range ps.length).map fun i => .tup [.int (i : Nat), ps.getD i .non]
def zipP (ps qs : List PV) : List PV := List.zipWith (fun a b => .tup [a, b]) ps qs
theorem enumP_get {ps : List PV} {i : Nat} {p : PV} (h : (enumP ps)[i]? = some p) : ∃ q, ps[i]? = some q ∧ p = .tup [.int (i : Nat), q] := by
  unfold enumP at h
  obtain ⟨hi, e⟩ := List.getElem?_eq_some_iff.mp h
  rw [List.length_map, List.length_range] at hi
  rw [List.getElem_map, List.getElem_range] at e
  refine ⟨ps[i], List.getElem?_eq_getElem hi, ?_⟩
  rw [← e, List.getD_eq_getElem?_getD, List.getElem?_eq_getElem hi]
  rfl
section
variable {X : Cx} {c : List Ow} {e e2 : Expr} {te te2 : TEm} {p pos tpos : Pos} {elts : List Expr} {kk : Nat}
def mEnum (te : TEm) : TIm := fun env P => te env fun p => ∃ ps, seqP p = some ps ∧ P (enumP ps)
theorem im_enum (hm : X.mg "enumerate" = none) (he : PEm X c .cl e te) (hg : Gl X "enumerate" := by rfl) (hs0 : starEach [e] X.env = (false, eval e X.env) :: starEach [] X.env := by rfl) (hs : starEach [e] X.env = [(false, eval e X.env)] := by rfl) :
    PIm X c none (.Tuple elts kk tpos) (.Call (.Name "enumerate" p) [e] [] pos) (mEnum te) := ⟨⟨fun pins s σ H R I h => (pi_enumA hg hm (pa_cons he.run pa_nil hs0) hs).run pins s σ H R I (by
  obtain ⟨G, A, W, env, P, R, h, k⟩ := h
  refine ⟨G, A, W, env, _, R, h, fun p v H1 g rv ⟨ps, hp, h1⟩ => ?_⟩
  have hl : (enumP ps).length = ps.length := by unfold enumP; rw [List.length_map, List.length_range]
  have rv' := rv.c
  cases p with
  | lst qs =>
    obtain rfl : qs = ps := Option.some.inj hp
    unfold Rp at rv'
    obtain ⟨a, vs, rfl, e, r⟩ := rv'
    refine ⟨a, vs, rfl, .inl ⟨e.sq, k _ _ H1 [] g rfl (itok_pair (hl.trans r.len) walk_enum fun Z2 W2 H2 x => ⟨(e.ext x).sq, fun i q u w hq h2 h3 => ?_⟩) h1⟩⟩
    obtain ⟨q0, hq0, rfl⟩ := enumP_get hq
    obtain ⟨w', hw', rw'⟩ := r.get hq0
    rw [h3] at hw'; cases hw'
    cases h2
    exact ⟨_, _, rfl, Rp.int', Rp.ext x rw'⟩
  | tup qs =>
    obtain rfl : qs = ps := Option.some.inj hp
    unfold Rp at rv'
    obtain ⟨a, vs, rfl, e, r⟩ := rv'
    refine ⟨a, vs, rfl, .inr ⟨e.sq, k _ _ H1 [] g rfl (itok_pair (hl.trans r.len) walk_enumT fun Z2 W2 H2 x => ⟨(e.ext x).sq, fun i q u w hq h2 h3 => ?_⟩) h1⟩⟩
    obtain ⟨q0, hq0, rfl⟩ := enumP_get hq
    obtain ⟨w', hw', rw'⟩ := r.get hq0
    rw [h3] at hw'; cases hw'
    cases h2
    exact ⟨_, _, rfl, Rp.int', Rp.ext x rw'⟩
  | _ => cases hp)⟩⟩
/-- zip of two lists, or of two tuples -/
def mZip (te te2 : TEm) : TIm := fun env P => te env fun x => te2 env fun y => match x, y with
  | .lst ps, .lst qs => P (zipP ps qs)
  | .tup ps, .tup qs => P (zipP ps qs)
  | _, _ => False
theorem zipP_get {ps qs : List PV} {i : Nat} {p : PV} (h : (zipP ps qs)[i]? = some p) : ∃ a b, ps[i]? = some a ∧ qs[i]? = some b ∧ p = .tup [a, b] := by
  unfold zipP at h
  rw [List.getElem?_zipWith] at h
  cases h1 : ps[i]? with
  | none => rw [h1] at h; cases h
  | some a =>
    cases h2 : qs[i]? with
    | none => rw [h1, h2] at h; cases h
    | some b => rw [h1, h2] at h; cases h; exact ⟨a, b, rfl, rfl, rfl⟩
theorem im_zip (hm : X.mg "zip" = none) (he : PEm X c .cl e te) (he2 : PEm X c .cl e2 te2) (hg : Gl X "zip" := by rfl) (hs0 : starEach [e, e2] X.env = (false, eval e X.env) :: starEach [e2] X.env := by rfl) (hs1 : starEach [e2] X.env = (false, eval e2 X.env) :: starEach [] X.env := by rfl)
    (hs2 : (backTo pos (starEach [e2] X.env)).any (·.1) = false := by rfl) :
    PIm X c none (.Tuple elts kk tpos) (.Call (.Name "zip" p) [e, e2] [] pos) (mZip te te2) := ⟨⟨fun pins s σ H R I h => (RZ.pi_zipA hg hm (pa_cons he.run (pa_cons he2.run pa_nil hs1) hs0) hs0 hs2).run pins s σ H R I (by
  obtain ⟨G, A, W, env, P, R, h, k⟩ := h
  refine ⟨G, A, W, env, _, R, h, fun p v H1 g rv h1 => ⟨G, A, W, env, _, R.grow g, h1, fun q w H2 g2 rw2 h2 => ?_⟩⟩
  have rv' := Rp.ext (g2.ext R.sz) rv.c
  have rw' := rw2.c
  cases p with
  | lst ps =>
    cases q with
    | lst qs =>
      unfold Rp at rv' rw'
      obtain ⟨a, vs, rfl, e, r⟩ := rv'
      obtain ⟨b, ws, rfl, e', r'⟩ := rw'
      have hl : (zipP ps qs).length = min vs.length ws.length := by unfold zipP; rw [List.length_zipWith, r.len, r'.len]
      refine ⟨a, b, vs, ws, rfl, .inl ⟨e.sq, e'.sq, k _ _ H2 [] (g.trans g2) rfl (itok_pair hl (walk_zip rfl) fun Z2 W2 H3 x => ⟨⟨(e.ext x).sq, (e'.ext x).sq⟩, fun i q u w hq h3 h4 => ?_⟩) h2⟩⟩
      obtain ⟨a0, b0, ha, hb, rfl⟩ := zipP_get hq
      obtain ⟨u', hu', ru'⟩ := r.get ha
      obtain ⟨w', hw', rw'⟩ := r'.get hb
      rw [h3] at hu'; cases hu'
      rw [h4] at hw'; cases hw'
      exact ⟨_, _, rfl, Rp.ext x ru', Rp.ext x rw'⟩
    | _ => exact h2.elim
  | tup ps =>
    cases q with
    | tup qs =>
      unfold Rp at rv' rw'
      obtain ⟨a, vs, rfl, e, r⟩ := rv'
      obtain ⟨b, ws, rfl, e', r'⟩ := rw'
      have hl : (zipP ps qs).length = min vs.length ws.length := by unfold zipP; rw [List.length_zipWith, r.len, r'.len]
      refine ⟨a, b, vs, ws, rfl, .inr ⟨e.sq, e'.sq, k _ _ H2 [] (g.trans g2) rfl (itok_pair hl (walk_zipT rfl) fun Z2 W2 H3 x => ⟨⟨(e.ext x).sq, (e'.ext x).sq⟩, fun i q u w hq h3 h4 => ?_⟩) h2⟩⟩
      obtain ⟨a0, b0, ha, hb, rfl⟩ := zipP_get hq
      obtain ⟨u', hu', ru'⟩ := r.get ha
      obtain ⟨w', hw', rw'⟩ := r'.get hb
      rw [h3] at hu'; cases hu'
      rw [h4] at hw'; cases hw'
      exact ⟨_, _, rfl, Rp.ext x ru', Rp.ext x rw'⟩
    | _ => exact h2.elim
  | _ => exact h2.elim)⟩⟩
end
end PM

set_option maxHeartbeats 1000000
/-! PM: several names at once, views of any line, dicts. -/
namespace PM
open PySem L2

/-! ### several names at once -/
def Gh.shun (G : Gh) (a : Addr) : Gh := { G with zb := fun b => G.zb b ∨ b = a }
section
variable {K : PySem.W.Frag} {G : Gh} {c : List Ow} {A : Nat → Option Addr} {W : Ws} {env : Env} {σ : St} {H H1 H' : Hp}
theorem zt_shun {a b : Addr} (h : Zt (G.shun a) A W b) : Zt G A W b ∨ b = a := by
  rcases h with (h | h) | h | h
  · exact .inl (.inl h)
  · exact .inr h
  · exact .inl (.inr (.inl h))
  · exact .inl (.inr (.inr h))
/-- a new thing that is to be left alone -/
theorem SR.shun (R : SR K G c A W env σ H) (g : Grow W H H1) {a : Addr} (n : H a = none) (t : ∃ o, H1 a = some o) : SR K (G.shun a) c A W env σ H1 := by
  have R1 := R.grow g
  have nt : ∀ b o, H b = some o → b ≠ a := fun b o e z => by rw [z, n] at e; cases e
  have x : Ext ⟨Zt G A W, W, H⟩ ⟨Zt (G.shun a) A W, W, H1⟩ := ⟨fun b o hz e => ⟨fun z => (zt_shun z).elim hz (nt b o e), g.keep b o (fun w => hz (Zt.w w)) e⟩, fun _ h => h⟩
  refine ⟨R1.len, R1.W0in, R1.Wmin, R1.Wnew, R1.Wfix, R1.src, R1.keep, fun b hb => ?_, fun i b e => ?_, R1.Ainj, R1.Aset, fun i p e => ?_, R1.pins, fun b o e => ?_⟩
  · rcases hb with hb | hb
    · exact R1.zbt b hb
    · rw [hb]; exact t
  · obtain ⟨h1, h2, h3, h4, h5⟩ := R1.Asep i b e
    obtain ⟨o, e2⟩ := (R.Asep i b e).2.2.2.2
    exact ⟨h1, h2, fun z => z.elim h3 (nt b o e2), h4, h5⟩
  · obtain ⟨v, h1, h2⟩ := R.slots i p e
    refine ⟨v, h1, ?_⟩
    cases hA : A i with
    | none => rw [hA] at h2; exact Rp.ext x h2
    | some b =>
      rw [hA] at h2
      obtain ⟨_, n2, _, _, o, ho⟩ := R.Asep i b hA
      exact ⟨h2.1, h2.2.ext x (by show H1 b = H b; rw [ho, g.keep b o n2 ho])⟩
  · obtain ⟨h1, h2⟩ := R.fz b o e
    exact ⟨(R1.fz b o e).1, fun z => (zt_shun z).elim h2 (nt b o h1)⟩
/-- values made one behind the other, the new ones each apart -/
inductive Chn (K : PySem.W.Frag) (W : Ws) : (Addr → Prop) → Hp → List Md → List PV → List V → Hp → Prop
  | nil {Z : Addr → Prop} {H : Hp} : Chn K W Z H [] [] [] H
  | cl {Z : Addr → Prop} {H H1 H' : Hp} {ms : List Md} {p : PV} {ps : List PV} {v : V} {vs : List V} : Grow W H H1 → VK1 K .cl Z W H H1 p v → Chn K W Z H1 ms ps vs H' → Chn K W Z H (.cl :: ms) (p :: ps) (v :: vs) H'
  | fr {Z : Addr → Prop} {H H1 H' : Hp} {ms : List Md} {p : PV} {ps : List PV} {a : Addr} {vs : List V} : Grow W H H1 → H a = none → OwnAt K ⟨fun b => Z b ∨ b = a, W, H1⟩ a p → Chn K W (fun b => Z b ∨ b = a) H1 ms ps vs H' → Chn K W Z H (.fr :: ms) (p :: ps) (.ref a :: vs) H'
theorem Chn.less {Z Z' : Addr → Prop} {ms : List Md} {ps : List PV} {vs : List V} (h : Chn K W Z H ms ps vs H') (k : ∀ b, Z' b → Z b) : Chn K W Z' H ms ps vs H' := by
  induction h generalizing Z' with
  | nil => exact .nil
  | cl g r _ ih => exact .cl g (VK1.ofRp (Rp.ext (ext_less k) r.c)) (ih k)
  | fr g n o _ ih =>
    exact .fr g n (o.less fun b z => z.imp (k b) id) (ih fun b z => z.imp (k b) id)
theorem Chn.grow {Z : Addr → Prop} {ms : List Md} {ps : List PV} {vs : List V} (h : Chn K W Z H ms ps vs H') (hs : ∀ p ∈ W, SA H p) : Grow W H H' := by
  induction h with
  | nil => exact Grow.refl hs
  | cl g r _ ih => exact g.trans (ih g.src)
  | fr g n o _ ih => exact g.trans (ih g.src)
def tmX (K : PySem.W.Frag) (c : List Ow) (ms : List Md) (t : TAm) : TA := fun σ H Q => ∃ G A W env P, SR K G c A W env σ H ∧ t env P ∧ ∀ ps vs H', Chn K W (Zt G A W) H ms ps vs H' → P ps → Q vs H'
structure PXm (X : Cx) (c : List Ow) (ms : List Md) (es : List Expr) (t : TAm) : Prop where
  run : PA X es (tmX X.K c ms t)
theorem OwnAt.tr {S : Wd} {a : Addr} {p : PV} (h : OwnAt K S a p) : ∃ o, S.H a = some o := by
  cases p with
  | lst ps => obtain ⟨vs, e, _⟩ := h; exact ⟨_, e⟩
  | dic ks ps => obtain ⟨vs, e, _⟩ := h; exact ⟨_, e⟩
  | obj C ns ps => obtain ⟨dx, vs, e, _⟩ := h; exact ⟨_, e⟩
  | _ => exact h.elim
variable {X : Cx} {e : Expr} {es : List Expr} {te : TEm} {t : TAm} {ms : List Md}
theorem xm_nil : PXm X c [] [] mNil := ⟨pa_nil.weak fun σ H Q h => by
  obtain ⟨G, A, W, env, P, R, h, k⟩ := h
  exact k [] [] H .nil h⟩
theorem xm_cl (ha : PEm X c .cl e te) (hr : PXm X c ms es t) (hs : starEach (e :: es) X.env = (false, eval e X.env) :: starEach es X.env := by rfl) : PXm X c (.cl :: ms) (e :: es) (mCons te t) := ⟨(pa_cons ha.run hr.run hs).weak fun σ H Q h => by
  obtain ⟨G, A, W, env, P, R, h, k⟩ := h
  exact ⟨G, A, W, env, _, R, h, fun px vx H1 g1 rx h1 => ⟨G, A, W, env, _, R.grow g1, h1, fun ps vs H2 ch h2 => k _ _ H2 (.cl g1 rx ch) h2⟩⟩⟩
theorem xm_fr (ha : PEm X c .fr e te) (hr : PXm X c ms es t) (hs : starEach (e :: es) X.env = (false, eval e X.env) :: starEach es X.env := by rfl) : PXm X c (.fr :: ms) (e :: es) (mCons te t) := ⟨(pa_cons ha.run hr.run hs).weak fun σ H Q h => by
  obtain ⟨G, A, W, env, P, R, h, k⟩ := h
  refine ⟨G, A, W, env, _, R, h, fun px vx H1 g1 rx h1 => ?_⟩
  obtain ⟨a, rfl, n, o⟩ := rx
  exact ⟨G.shun a, A, W, env, _, R.shun g1 n o.tr, h1, fun ps vs H2 ch h2 => k _ _ H2 (.fr g1 n o (ch.less fun b z => by
    rcases z with z | z
    · rcases z with z | z | z
      · exact .inl (.inl z)
      · exact .inr (.inl z)
      · exact .inr (.inr z)
    · exact .inl (.inr z))) h2⟩⟩
def mdO : Md → Ow
  | .fr => .ow
  | _ => .sh
/-- one name takes the first of them -/
theorem SR.chn {md : Md} {i : Nat} {p : PV} {v : V} {ps : List PV} {vs : List V} (R : SR K G c A W env σ H) (h : Chn K W (Zt G A W) H (md :: ms) (p :: ps) (v :: vs) H') (hi : i < c.length) (hl : cO c i ≠ .lk) :
    ∃ A1 H1, SR K G (c.set i (mdO md)) A1 W (env.set i (some p)) (σ.set i (some v)) H1 ∧ Chn K W (Zt G A1 W) H1 ms ps vs H' := by
  cases h with
  | cl g r ch => exact ⟨_, _, (R.grow g).set_sh hl r.c, ch.less fun b z => zt_drop z⟩
  | fr g n o ch =>
    refine ⟨_, _, R.set_ow hi hl g n o, ch.less fun b z => ?_⟩
    rcases z with z | z | ⟨j, z⟩
    · exact .inl (.inl z)
    · exact .inl (.inr (.inl z))
    · by_cases hj : j = i
      · subst hj; rw [putA_eq] at z; cases z; exact .inr rfl
      · rw [putA_ne hj] at z; exact .inl (.inr (.inr ⟨j, z⟩))
variable {f : Fx}
def setN {α : Type} (env : List (Option α)) : List Nat → List α → List (Option α)
  | i :: is, p :: ps => setN (env.set i (some p)) is ps
  | _, _ => env
def putMs (c : List Ow) : List Nat → List Md → List Ow
  | i :: is, m :: ms => putMs (c.set i (mdO m)) is ms
  | _, _ => c
def okPut (c : List Ow) : List Nat → List Md → Bool
  | i :: is, m :: ms => decide (i < c.length) && !decide (cO c i = .lk) && okPut (c.set i (mdO m)) is ms
  | [], [] => true
  | _, _ => false
theorem Chn.len {Z : Addr → Prop} {ps : List PV} {vs : List V} (h : Chn K W Z H ms ps vs H') : ms.length = ps.length ∧ ms.length = vs.length := by
  induction h with
  | nil => exact ⟨rfl, rfl⟩
  | cl _ _ _ ih => exact ⟨by rw [List.length_cons, List.length_cons, ih.1], by rw [List.length_cons, List.length_cons, ih.2]⟩
  | fr _ _ _ _ ih => exact ⟨by rw [List.length_cons, List.length_cons, ih.1], by rw [List.length_cons, List.length_cons, ih.2]⟩
theorem SR.chnN : ∀ {is : List Nat} {ms : List Md} {c : List Ow} {A : Nat → Option Addr} {env : Env} {σ : St} {H : Hp} {ps : List PV} {vs : List V}, SR K G c A W env σ H → Chn K W (Zt G A W) H ms ps vs H' → okPut c is ms = true → ∃ A', SR K G (putMs c is ms) A' W (setN env is ps) (setN σ is vs) H'
  | [], [], _, _, _, _, _, _, _, R, h, _ => by cases h; exact ⟨_, R⟩
  | [], _ :: _, _, _, _, _, _, _, _, _, _, ok => by cases ok
  | _ :: _, [], _, _, _, _, _, _, _, _, _, ok => by cases ok
  | i :: is, m :: ms, c, A, env, σ, H, ps, vs, R, h, ok => by
    have ok' : (decide (i < c.length) && !decide (cO c i = .lk) && okPut (c.set i (mdO m)) is ms) = true := ok
    rw [Bool.and_eq_true, Bool.and_eq_true] at ok'
    obtain ⟨⟨h1, h2⟩, h3⟩ := ok'
    have h2' : cO c i ≠ .lk := fun z => by rw [decide_eq_true z] at h2; cases h2
    cases ps with
    | nil => cases h
    | cons p ps =>
      cases vs with
      | nil => cases h
      | cons v vs =>
        obtain ⟨A1, H1, R1, ch⟩ := R.chn h (of_decide_eq_true h1) h2'
        have q := SR.chnN R1 ch h3
        exact q
def sPar (is : List Nat) (t : TAm) : TSm := fun M env => t env fun ps => M.nx (setN env is ps)
theorem sm_par {i j : Nat} {x y : Str} {a b : Expr} {px py pt pos : Pos} {kt k2 : Nat} {pt2 : Pos} (is : List Nat) (hc : X.calm = true) (hN : X.N.Nodup) (ha : PXm X c ms [a, b] t) (he : is = [i, j] := by rfl) (hi : X.N[i]? = some x := by rfl) (hj : X.N[j]? = some y := by rfl) (hij : i ≠ j := by decide)
    (hx : X.env.scope.names.lookup x = some .local := by rfl) (hy : X.env.scope.names.lookup y = some .local := by rfl) (ok : okPut c is ms = true := by decide)
    (hw : swappedStores [.Tuple [.Name x px, .Name y py] kt pt] (.Tuple [a, b] k2 pt2) X.env = pure (some [x, y]) := by rfl)
    (hs : swapsWithSole [.Tuple [.Name x px, .Name y py] kt pt] (.Tuple [a, b] k2 pt2) pos.line X.env = pure false := by rfl) :
    PSm X f c (putMs c is ms) (.Assign [.Tuple [.Name x px, .Name y py] kt pt] (.Tuple [a, b] k2 pt2) pos) (sPar is t) := ⟨(ps_par hc hN hi hj hij hx hy ha.run hw hs).weak fun D σ H h => by
  subst he
  obtain ⟨G, A, W, env, M, hg, R, h, k⟩ := h
  refine ⟨G, A, W, env, _, R, h, fun ps vs H2 ch h2 => ?_⟩
  obtain ⟨A', R'⟩ := R.chnN ch ok
  obtain ⟨v, w, rfl⟩ : ∃ v w, vs = [v, w] := by
    cases ms with
    | nil => cases ok
    | cons m1 ms =>
      cases ms with
      | nil => unfold okPut okPut at ok; rw [Bool.and_false] at ok; cases ok
      | cons m2 ms =>
        cases ms with
        | cons m3 ms => unfold okPut okPut okPut at ok; rw [Bool.and_false, Bool.and_false] at ok; cases ok
        | nil =>
          have hl := ch.len.2
          cases vs with
          | nil => cases hl
          | cons v vs =>
            cases vs with
            | nil => cases hl
            | cons w vs =>
              cases vs with
              | nil => exact ⟨v, w, rfl⟩
              | cons _ _ => cases hl
  exact ⟨v, w, rfl, k.nx _ _ _ _ _ R' h2⟩⟩
theorem sm_par3 {i j l : Nat} {x y z : Str} {a b d : Expr} {px py pz pt pos : Pos} {kt k2 : Nat} {pt2 : Pos} (is : List Nat) (hc : X.calm = true) (hN : X.N.Nodup) (ha : PXm X c ms [a, b, d] t) (he : is = [i, j, l] := by rfl) (hi : X.N[i]? = some x := by rfl) (hj : X.N[j]? = some y := by rfl) (hl : X.N[l]? = some z := by rfl) (hij : i ≠ j := by decide) (hil : i ≠ l := by decide) (hjl : j ≠ l := by decide)
    (hx : X.env.scope.names.lookup x = some .local := by rfl) (hy : X.env.scope.names.lookup y = some .local := by rfl) (hz : X.env.scope.names.lookup z = some .local := by rfl) (ok : okPut c is ms = true := by decide)
    (hw : swappedStores [.Tuple [.Name x px, .Name y py, .Name z pz] kt pt] (.Tuple [a, b, d] k2 pt2) X.env = pure (some [x, y, z]) := by rfl)
    (hs : swapsWithSole [.Tuple [.Name x px, .Name y py, .Name z pz] kt pt] (.Tuple [a, b, d] k2 pt2) pos.line X.env = pure false := by rfl) :
    PSm X f c (putMs c is ms) (.Assign [.Tuple [.Name x px, .Name y py, .Name z pz] kt pt] (.Tuple [a, b, d] k2 pt2) pos) (sPar is t) := ⟨(ps_par3 hc hN hi hj hl hij hil hjl hx hy hz ha.run hw hs).weak fun D σ H h => by
  subst he
  obtain ⟨G, A, W, env, M, hg, R, h, k⟩ := h
  refine ⟨G, A, W, env, _, R, h, fun ps vs H2 ch h2 => ?_⟩
  obtain ⟨A', R'⟩ := R.chnN ch ok
  obtain ⟨v, w, u, rfl⟩ : ∃ v w u, vs = [v, w, u] := by
    cases ms with
    | nil => cases ok
    | cons m1 ms =>
      cases ms with
      | nil => unfold okPut okPut at ok; rw [Bool.and_false] at ok; cases ok
      | cons m2 ms =>
        cases ms with
        | nil => unfold okPut okPut okPut at ok; rw [Bool.and_false, Bool.and_false] at ok; cases ok
        | cons m3 ms =>
          cases ms with
          | cons m4 ms => unfold okPut okPut okPut okPut at ok; rw [Bool.and_false, Bool.and_false, Bool.and_false] at ok; cases ok
          | nil =>
            have hl := ch.len.2
            cases vs with
            | nil => cases hl
            | cons v vs =>
              cases vs with
              | nil => cases hl
              | cons w vs =>
                cases vs with
                | nil => cases hl
                | cons u vs =>
                  cases vs with
                  | nil => exact ⟨v, w, u, rfl⟩
                  | cons _ _ => cases hl
  exact ⟨v, w, u, rfl, k.nx _ _ _ _ _ R' h2⟩⟩
/-- the same by way of a tuple -/
def gNs (is : List Nat) : TGs := fun vs σ H Q => vs.length = is.length ∧ Q (setN σ is vs) H
theorem pgs_n0 : PGs X [] (gNs []) := ⟨fun pins s σ H vs us Q I r h => pgs_nil.run pins s σ H vs us Q I r (by
  obtain ⟨e, h⟩ := h
  cases vs with
  | nil => exact ⟨rfl, h⟩
  | cons _ _ => cases e)⟩
theorem pgs_n {i : Nat} {is : List Nat} {x : Str} {p : Pos} (hN : X.N.Nodup) (h2 : PGs X es (gNs is)) (hi : X.N[i]? = some x := by rfl) (hx : Loc X.env.scope x := by first | exact Or.inl rfl | exact Or.inr rfl) (hf : X.fn x = true ∨ X.env.scope.names.lookup x = some .local := by first | exact .inl rfl | exact .inr rfl | assumption)
    (hs : (assignEach (.Name x p :: es) X.env).map (·.2) = assign (.Name x p) X.env :: (assignEach es X.env).map (·.2) := by rfl) : PGs X (.Name x p :: es) (gNs (i :: is)) := ⟨fun pins s σ H vs us Q I r h => (pgs_cons (pg_name hN hi hx hf) h2 hs).run pins s σ H vs us Q I r (by
  obtain ⟨e, h⟩ := h
  cases vs with
  | nil => cases e
  | cons v vs => exact ⟨v, vs, rfl, Nat.succ.inj e, h⟩)⟩
theorem okPut_len : ∀ {is : List Nat} {ms : List Md} {c : List Ow}, okPut c is ms = true → is.length = ms.length
  | [], [], _, _ => rfl
  | [], _ :: _, _, h => by cases h
  | _ :: _, [], _, h => by cases h
  | i :: is, m :: ms, c, h => by
    unfold okPut at h
    rw [Bool.and_eq_true] at h
    rw [List.length_cons, List.length_cons, okPut_len h.2]
theorem sm_parG {tgs : List Expr} {pt pos : Pos} {kt k2 n : Nat} {pt2 : Pos} (is : List Nat) (hc : X.calm = true) (hg : PGs X tgs (gNs is)) (ha : PXm X c ms es t) (ok : okPut c is ms = true := by decide) (hl : is.length ≤ sizeLine := by decide)
    (hs : swapsWithSole [.Tuple tgs kt pt] (.Tuple es k2 pt2) pos.line X.env = pure false := by rfl) (hw : swappedStores [.Tuple tgs kt pt] (.Tuple es k2 pt2) X.env = pure none := by rfl)
    (h1 : (assignEach [.Tuple tgs kt pt] X.env).map (·.2) = [assign (.Tuple tgs kt pt) X.env] := by rfl) (hn : (assignEach tgs X.env).length = n := by rfl) (hnl : is.length = n := by rfl) (hst : (assignEach tgs X.env).findIdx? (·.1) = none := by rfl) :
    PSm X f c (putMs c is ms) (.Assign [.Tuple tgs kt pt] (.Tuple es k2 pt2) pos) (sPar is t) := ⟨(ps_asg (pe_tup ha.run) (pg_tup hc hg hn hst) hs hw h1).weak fun D σ H h => by
  obtain ⟨G, A, W, env, M, hgw, R, h, k⟩ := h
  refine ⟨G, A, W, env, _, R, h, fun ps vs H2 ch h2 => ?_⟩
  obtain ⟨A', R'⟩ := R.chnN ch ok
  have hl2 : vs.length = is.length := ch.len.2.symm.trans (okPut_len ok).symm
  refine ⟨by rw [hl2]; exact hl, fun T nT => ⟨T, vs, rfl, .inl (.inl upd_same), hl2.trans hnl, hl2, ?_⟩⟩
  exact k.nx _ _ _ _ _ (R'.grow (Grow.new R'.src nT)) h2⟩
end

/-! ### a part of any line, a line turned round -/
def oSl : PV → Option Int → Option Int → (PV → Prop) → Prop := fun x l u P => match x with
  | .lst ps => P (.lst (cutP ps l u))
  | .tup ps => P (.tup (cutP ps l u))
  | _ => False
def oRev : PO1 := fun x P => match x with
  | .lst ps => P (.lst ps.reverse)
  | .tup ps => P (.tup ps.reverse)
  | _ => False
section
variable {X : Cx} {c : List Ow} {e : Expr} {lo hi : Option Expr} {te : TEm} {tl th : Env → (Option Int → Prop) → Prop} {pos p2 : Pos}
theorem em_sl (he : PEm X c .ow e te) (hl : POm X c lo tl) (hu : POm X c hi th) : PEm X c .cl (.Subscript e (.Slice lo hi none p2) pos) (mSl oSl te tl th) := ⟨(pe_slice (SlR.or sl_list sl_tupA) he.run hl.run hu.run).weak fun σ H Q h => by
  obtain ⟨G, A, W, env, P, R, h, k⟩ := h
  refine ⟨G, A, W, env, _, R, h, fun px vx H1 g1 rx h1 => ⟨G, A, W, env, _, R.grow g1, h1, fun l H2 g2 h2 => ⟨G, A, W, env, _, (R.grow g1).grow g2, h2, fun u H3 g3 h3 => ?_⟩⟩⟩
  have R3 := ((R.grow g1).grow g2).grow g3
  have rx3 := RpO.grow R.sz (g2.trans g3) rx.o
  cases px with
  | lst ps =>
    have h3' : P (.lst (cutP ps l u)) := h3
    obtain ⟨a, vs, rfl, e, r⟩ := RpO.lst rx3
    refine .inl ⟨a, vs, rfl, .inl (.inl e.2), fun p n => k _ _ _ (((g1.trans g2).trans g3).trans (Grow.new R3.src n)) (VK1.ofRp (OwnAt.cl (R3.nz n) (OwnAt.newLst n (r.cut l u)))) h3'⟩
  | tup ps =>
    have h3' : P (.tup (cutP ps l u)) := h3
    have rx4 : Rp X.K ⟨Zt G A W, W, H3⟩ (.tup ps) vx := rx3
    obtain ⟨a, vs, rfl, e, r⟩ := RpO.tup rx3
    refine .inr ⟨a, vs, rfl, e.sq, fun w => ?_, fun _ p n => ?_⟩
    · rw [← r.len] at w
      rw [cut_whole w] at h3'
      exact k _ _ H3 ((g1.trans g2).trans g3) (VK1.ofRp rx4) h3'
    · exact k _ _ _ (((g1.trans g2).trans g3).trans (Grow.new R3.src n)) (VK1.ofRp (Rp.newTup (R3.nz n) n R3.src R.sz (r.cut l u))) h3'
  | _ => exact h3.elim⟩
theorem em_rev {k : Nat} {p1 p3 p4 : Pos} (he : PEm X c .ow e te) : PEm X c .cl (.Subscript e (.Slice none none (some (.UnaryOp .USub (.Constant (.int 1) k p1) p4)) p3) pos) (mOp1 oRev te) := ⟨(pe_revA he.run).weak fun σ H Q h => by
  obtain ⟨G, A, W, env, P, R, h, kk⟩ := h
  refine ⟨G, A, W, env, _, R, h, fun px vx H1 g1 rx h1 => ?_⟩
  have R1 := R.grow g1
  have rx3 := rx.o
  cases px with
  | lst ps =>
    have h3' : P (.lst ps.reverse) := h1
    obtain ⟨a, vs, rfl, e, r⟩ := RpO.lst rx3
    exact ⟨a, vs, rfl, .inl ⟨.inl (.inl e.2), fun p n => kk _ _ _ (g1.trans (Grow.new R1.src n)) (VK1.ofRp (OwnAt.cl (R1.nz n) (OwnAt.newLst n r.reverse))) h3'⟩⟩
  | tup ps =>
    have h3' : P (.tup ps.reverse) := h1
    obtain ⟨a, vs, rfl, e, r⟩ := RpO.tup rx3
    exact ⟨a, vs, rfl, .inr ⟨e.sq, fun p n => kk _ _ _ (g1.trans (Grow.new R1.src n)) (VK1.ofRp (Rp.newTup (R1.nz n) n R1.src R.sz r.reverse)) h3'⟩⟩
  | _ => exact h1.elim⟩
end

/-! ### dicts -/
def pkey : PV → Option Key
  | .int i => some (.inl i)
  | .str x => some (.inr x)
  | _ => none
theorem pkey_v {K : PySem.W.Frag} {Z : Addr → Prop} {W : Ws} {H : Hp} {p : PV} {v : V} {k : Key} (h : pkey p = some k) (r : RpO K ⟨Z, W, H⟩ p v) : v = kV k := by
  cases p with
  | int i => cases h; exact r.int
  | str x => cases h; exact r.str
  | _ => cases h
/-- the place of a key -/
def kAt (ks : List Key) (k : Key) : Option Nat := ks.findIdx? (fun j => decide (j = k))
def kPut (ks : List Key) (vs : List PV) (k : Key) (v : PV) : PV := match kAt ks k with
  | some i => .dic ks (vs.set i v)
  | none => .dic (ks ++ [k]) (vs ++ [v])
theorem valV_zip {k : Key} : ∀ {ks : List Key} {vs : List V}, ks.length = vs.length → valV (ks.zip vs) k = (kAt ks k).bind (vs[·]?)
  | [], [], _ => rfl
  | j :: ks, v :: vs, h => by
    have ih := valV_zip (k := k) (ks := ks) (vs := vs) (by simpa using h)
    unfold kAt at ih ⊢
    rw [List.zip_cons_cons, List.findIdx?_cons]
    by_cases e : j = k
    · rw [valV_pos (p := (j, v)) e, if_pos (decide_eq_true e)]; rfl
    · rw [valV_neg (p := (j, v)) e, ih, if_neg (by simpa using e)]
      cases ks.findIdx? (fun j => decide (j = k)) with
      | none => rfl
      | some i => rfl
theorem kAt_none {ks : List Key} {k : Key} (h : kAt ks k = none) : ∀ j ∈ ks, j ≠ k := fun j hj => by
  unfold kAt at h
  rw [List.findIdx?_eq_none_iff] at h
  exact of_decide_eq_false (h j hj)
theorem map_same {k : Key} {v : V} : ∀ {ks : List Key} {vs : List V}, (∀ j ∈ ks, j ≠ k) → (ks.zip vs).map (fun kv => if kv.1 = k then (kv.1, v) else kv) = ks.zip vs
  | [], _, _ => rfl
  | _ :: _, [], _ => rfl
  | j :: ks, w :: vs, h => by
    rw [List.zip_cons_cons, List.map_cons, map_same (fun i hi => h i (List.mem_cons_of_mem _ hi)), if_neg (h j (List.mem_cons_self ..))]
theorem map_put {k : Key} {v : V} : ∀ {ks : List Key} {vs : List V} {i : Nat}, ks.Nodup → kAt ks k = some i → (ks.zip vs).map (fun kv => if kv.1 = k then (kv.1, v) else kv) = ks.zip (vs.set i v)
  | [], _, _, _, h => by cases h
  | _ :: _, [], i, _, _ => by simp
  | j :: ks, w :: vs, i, hn, h => by
    rw [List.nodup_cons] at hn
    unfold kAt at h
    rw [List.findIdx?_cons] at h
    by_cases e : j = k
    · rw [if_pos (decide_eq_true e)] at h
      cases h
      subst e
      rw [List.zip_cons_cons, List.map_cons, map_same (fun i hi z => hn.1 (by rw [← z]; exact hi)), if_pos rfl, List.set_cons_zero, List.zip_cons_cons]
    · rw [if_neg (by simpa using e)] at h
      cases q : ks.findIdx? (fun j => decide (j = k)) with
      | none => rw [q] at h; cases h
      | some m =>
        rw [q] at h
        cases h
        rw [List.zip_cons_cons, List.map_cons, map_put hn.2 q, if_neg e, List.set_cons_succ, List.zip_cons_cons]
theorem putK_zip {k : Key} {v : V} {ks : List Key} {vs : List V} (hn : ks.Nodup) (hl : ks.length = vs.length) : putK (ks.zip vs) k v = match kAt ks k with
    | some i => ks.zip (vs.set i v)
    | none => (ks ++ [k]).zip (vs ++ [v]) := by
  cases q : kAt ks k with
  | none =>
    have : valV (ks.zip vs) k = none := by rw [valV_zip hl, q]; rfl
    rw [putK_new v this]
    show _ = (ks ++ [k]).zip (vs ++ [v])
    rw [List.zip_append hl]
    rfl
  | some i =>
    have hi : i < vs.length := by
      unfold kAt at q
      obtain ⟨h, _⟩ := List.findIdx?_eq_some_iff_getElem.mp q
      rw [← hl]; exact h
    have : (valV (ks.zip vs) k).isSome = true := by rw [valV_zip hl, q]; simp [hi]
    unfold putK
    rw [valV_any, if_pos this]
    exact map_put hn q
section
variable {X : Cx} {c : List Ow} {e d : Expr} {te td : TEm} {pos p2 : Pos} {md : Md} {f : Fx}
theorem em_dnew : PEm X c .fr (.Dict [] [] pos) (mC (.dic [] [])) := ⟨pe_dnewK.weak fun σ H Q h p n => by
  obtain ⟨G, A, W, env, P, R, h, k⟩ := h
  exact k (.dic [] []) (.ref p) _ (Grow.new R.src n) ⟨p, rfl, n, ⟨[], upd_same, rfl, Rps.nil⟩⟩ h⟩
/-- d[y] -/
def oDGet : PO2 := fun d y P => ∃ ks vs k i v, d = .dic ks vs ∧ pkey y = some k ∧ kAt ks k = some i ∧ vs[i]? = some v ∧ P v
theorem em_dget (hu : X.A.units + 1 < cLine) (hd : PEm X c .ow d td) (he : PEm X c .ow e te) (hs : NoSl e) : PEm X c .cl (.Subscript d e pos) (mOp oDGet td te) := ⟨(pe_dget hu hd.run he.run hs).weak fun σ H Q h => by
  obtain ⟨G, A, W, env, P, R, h, k⟩ := h
  refine ⟨G, A, W, env, _, R, h, fun px vx H1 g1 rx h1 => ⟨G, A, W, env, _, R.grow g1, h1, fun py vy H2 g2 ry h2 => ?_⟩⟩
  obtain ⟨ks, vs, key, i, v, rfl, hk, hi, hv, hp⟩ := h2
  have rx2 := RpO.grow R.sz g2 rx.o
  obtain ⟨a, ws, rfl, hw, hH, hl, r⟩ := rx2
  obtain ⟨w, h3, rw3⟩ := r.get hv
  refine ⟨a, w, rfl, ?_, k v w H2 (g1.trans g2) (VK1.ofRp rw3) hp⟩
  rw [pkey_v hk ry.o]
  have : valV (ks.zip ws) key = some w := by rw [valV_zip hl, hi]; exact h3
  rw [← this]
  exact DGet.k hH⟩
/-- d[k] = e for a dict of one's own -/
def sDPutm (i : Nat) (ti te : TEm) : TSm := fun M env => te env fun p => ∃ ks ps, env[i]? = some (some (.dic ks ps)) ∧ ti env fun q => ∃ k, pkey q = some k ∧ ks.Nodup ∧ ks.length < sizeLine ∧ M.nx (env.set i (some (kPut ks ps k p)))
theorem sm_dput (i : Nat) {x : Str} {p1 p3 : Pos} {ei : Expr} {ti : TEm} (hu : X.A.units + 1 < cLine) (he : PEm X c .cl e te) (hk : PEm X c .ow ei ti) (hN : X.N[i]? = some x := by rfl) (hc : cO c i = .ow := by rfl) (hv : Vis X.env.scope x := by first | exact Or.inl rfl | exact Or.inr (Or.inl rfl) | exact Or.inr (Or.inr rfl)) (hd : (x == ("__debug__" : Str)) = false := by decide)
    (hcd : (x == ("__classdict__" : Str)) = false := by decide) (hs : swapsWith e (some (.Subscript (.Name x p1) ei p3)) pos.line X.env = pure false := by rfl) :
    PSm X f c c (.Assign [.Subscript (.Name x p1) ei p3] e pos) (sDPutm i ti te) := ⟨(ps_dput hu (pe_var hN hv hd hcd) hk.run he.run hs).weak fun D σ H h => by
  obtain ⟨G, A, W, env, M, hg, R, h, k⟩ := h
  refine ⟨G, A, W, env, _, R, h, fun p v H1 g rv ⟨ks, ps, e0, h1⟩ => ?_⟩
  have R1 := R.grow g
  obtain ⟨a, hA⟩ := R1.Aset i _ (by rw [hc]; decide) e0
  obtain ⟨v0, hσ, hh⟩ := R1.slots i _ e0
  rw [hA] at hh
  obtain ⟨rfl, _⟩ := hh
  refine ⟨.ref a, hσ, G, A, W, env, _, R1, h1, fun q w H2 g2 rq ⟨key, hkq, hnd, hsz, h2⟩ => ?_⟩
  have R2 := R1.grow g2
  obtain ⟨v2, _, hh2⟩ := R2.slots i _ e0
  rw [hA] at hh2
  obtain ⟨_, ws, hH2, hl, r2⟩ := hh2
  have rv2 : Rp X.K ⟨Zt G A W, W, H2⟩ p v := Rp.ext (g2.ext R.sz) rv.c
  have hzl : (ks.zip ws).length < sizeLine := by rw [List.length_zip, ← hl, Nat.min_self]; exact hsz
  refine ⟨a, upd H2 a (.dK (putK (ks.zip ws) key v)), rfl, ?_, ?_⟩
  · rw [pkey_v hkq rq.o]
    exact DPut.k hH2 hzl
  · refine k.nx A W _ σ _ (R2.mut e0 hA hc ?_) h2
    have za : Zt G A W a := .inr (.inr ⟨i, hA⟩)
    have x : ∀ o, Ext ⟨Zt G A W, W, H2⟩ ⟨Zt G A W, W, upd H2 a o⟩ := fun o => ⟨fun b w hz e => ⟨hz, by show upd H2 a o b = some w; rw [upd_ne (fun z => hz (by rw [z]; exact za))]; exact e⟩, fun _ h => h⟩
    rw [putK_zip hnd hl]
    unfold kPut
    cases hq : kAt ks key with
    | none => exact ⟨ws ++ [v], upd_same, by rw [List.length_append, List.length_append, hl]; rfl, Rps.ext (x _) (r2.append (Rps.cons rv2 Rps.nil))⟩
    | some j => exact ⟨ws.set j v, upd_same, by rw [List.length_set, hl], Rps.ext (x _) (Rps.set rv2 j r2)⟩⟩
/-- y in d -/
def oDIn (neg : Bool) : PO2 := fun y d P => ∃ ks vs k, d = .dic ks vs ∧ pkey y = some k ∧ P (.bl (xor neg (kAt ks k).isSome))
def rDIn (neg : Bool) : R2 := fun y x H Q => ∃ a o, x = .ref a ∧ DGet H a y o ∧ Q (.bl (xor neg o.isSome)) H
theorem op_din (hu : X.A.units + 1 < cLine) : OpR X (compareOp .In) (rDIn false) := fun pins s σ H x y v u Q I rx ry ⟨a, o, e, g, q⟩ => by
  subst e
  obtain rfl : u = Value.ref a := ry
  refine d_in hu I g rx fun s3 I3 => ⟨_, H, I3, ?_, q⟩
  rw [Bool.false_xor]; rfl
theorem op_dnin (hu : X.A.units + 1 < cLine) : OpR X (compareOp .NotIn) (rDIn true) := fun pins s σ H x y v u Q I rx ry ⟨a, o, e, g, q⟩ => by
  subst e
  obtain rfl : u = Value.ref a := ry
  refine d_notIn hu I g rx fun s3 I3 => ⟨_, H, I3, ?_, q⟩
  rw [Bool.true_xor]; rfl
theorem lift_din {K : PySem.W.Frag} {neg : Bool} : Lift2 K (rDIn neg) (oDIn neg) .cl := by
  rintro Z W H px py vx vy P Q S rx ry ⟨ks, vs, k, rfl, hk, hp⟩ kk
  obtain ⟨a, ws, rfl, hw, hH, hl, r⟩ := ry
  refine ⟨a, valV (ks.zip ws) k, rfl, by rw [pkey_v hk rx]; exact DGet.k hH, ?_⟩
  have : (valV (ks.zip ws) k).isSome = (kAt ks k).isSome := by
    rw [valV_zip hl]
    cases q : kAt ks k with
    | none => rfl
    | some i =>
      have hi : i < ws.length := by
        unfold kAt at q
        obtain ⟨h, _⟩ := List.findIdx?_eq_some_iff_getElem.mp q
        rw [← hl]; exact h
      simp [hi]
  rw [this]
  exact kk _ _ H (Grow.refl S.src) (VK1.ofRp Rp.bl') hp
end

/-! ### a chain of two comparisons -/
def mChain (o o' : PO2) (ta tb tc : TEm) : TEm := fun env P => ta env fun x => tb env fun y => o x y fun z => ∃ k, z = .bl k ∧ if k = true then tc env fun w => o' y w P else P (.bl false)
section
variable {X : Cx} {c : List Ow} {a b d : Expr} {ta tb td : TEm} {pos : Pos} {op op' : CmpOp} {r r' : R2} {o o' : PO2}
theorem tmChain {K : PySem.W.Frag} (L : Lift2 K r o .cl) (L' : Lift2 K r' o' .cl) (σ : St) (H : Hp) (Q : VK) (h : tmE K c .cl (mChain o o' ta tb td) σ H Q) : tChain r r' (tmE K c .ow ta) (tmE K c .ow tb) (tmE K c .ow td) σ H Q := by
  obtain ⟨G, A, W, env, P, R, h, k⟩ := h
  refine ⟨G, A, W, env, _, R, h, fun px vx H1 g1 rx h1 => ⟨G, A, W, env, _, R.grow g1, h1, fun py vy H2 g2 ry h2 => ?_⟩⟩
  have R2 := (R.grow g1).grow g2
  refine L _ W H2 px py vx vy _ _ R2.sit (RpO.grow R.sz g2 rx.o) ry.o h2 fun pz vz H3 g3 rz ⟨j, e, h3⟩ => ⟨j, by subst e; exact VK1.bl rz, ?_⟩
  have R3 := R2.grow g3
  cases j with
  | false => rw [if_neg Bool.false_ne_true] at h3 ⊢; exact k _ _ H3 ((g1.trans g2).trans g3) (VK1.ofRp Rp.bl') h3
  | true =>
    rw [if_pos rfl] at h3 ⊢
    refine ⟨G, A, W, env, _, R3, h3, fun pw vw H4 g4 rw4 h4 => ?_⟩
    exact L' _ W H4 py pw vy vw P Q (R3.grow g4).sit (RpO.grow R.sz (g3.trans g4) ry.o) rw4.o h4 fun p v H5 g5 r5 hp => k p v H5 ((((g1.trans g2).trans g3).trans g4).trans g5) (r5.back (((g1.trans g2).trans g3).trans g4)) hp
theorem em_chain (ho : OpR X (compareOp op) r) (L : Lift2 X.K r o .cl) (ho' : OpR X (compareOp op') r') (L' : Lift2 X.K r' o' .cl) (ha : PEm X c .ow a ta) (hb : PEm X c .ow b tb) (hd : PEm X c .ow d td) (hm : lastMarks [op, op'] [b, d] = false := by with_unfolding_all rfl) :
    PEm X c .cl (.Compare a [op, op'] [b, d] pos) (mChain o o' ta tb td) := ⟨(pe_chain ho ho' ha.run hb.run hd.run hm).weak fun σ H Q h => tmChain L L' σ H Q h⟩
theorem tm_chain (ho : OpR X (compareOp op) r) (L : Lift2 X.K r o .cl) (ho' : OpR X (compareOp op') r') (L' : Lift2 X.K r' o' .cl) (ha : PEm X c .ow a ta) (hb : PEm X c .ow b tb) (hd : PEm X c .ow d td) (hm : lastMarks [op, op'] [b, d] = false := by with_unfolding_all rfl) :
    PTm X c (.Compare a [op, op'] [b, d] pos) (mTB (mChain o o' ta tb td)) := ⟨(pt_chain ho ho' ha.run hb.run hd.run hm).weak fun σ H Q h => by
  obtain ⟨G, A, W, env, P, R, h, k⟩ := h
  refine tmChain L L' σ H _ ⟨G, A, W, env, _, R, h, fun p v H1 g1 r ⟨j, e, h1⟩ => ⟨j, ?_, k j H1 g1 h1⟩⟩
  subst e
  exact VK1.bl r⟩
end
end PM

set_option maxHeartbeats 1000000
/-! PM: great products, the script's parts, x.append(y.pop(e)), sources, the law's def. -/
namespace PM
open PySem L2
section
variable {K : PySem.W.Frag}
def oMulW : PO2 := fun x y P => ∃ i j, x = .int i ∧ y = .int j ∧ CMulW i j ∧ P (.int (i * j))
theorem lift_mulW : Lift2 K (rI CMulW fun i j => .int (i * j)) oMulW .cl := by
  rintro Z W H px py vx vy P Q S rx ry ⟨i, j, rfl, rfl, hc, hp⟩ k
  exact ⟨i, j, rx.int, ry.int, hc, S.fin k Rp.int' hp⟩
end
section
variable {K : PySem.W.Frag}
def oAddI : PO2 := fun x y P => ∃ i j, x = .int i ∧ y = .int j ∧ P (.int (i + j))
theorem lift_addI : Lift2 K (rI0 fun i j => .int (i + j)) oAddI .cl := by
  rintro Z W H px py vx vy P Q S rx ry ⟨i, j, rfl, rfl, hp⟩ k
  exact ⟨i, j, rx.int, ry.int, S.fin k Rp.int' hp⟩
end
def oSlS : PV → Option Int → Option Int → (PV → Prop) → Prop := fun x l u P => ∃ ns : List Int, x = .scr ns ∧ P (.lst (cutP (ns.map .int) l u))
section
variable {X : Cx} {c : List Ow} {e : Expr} {lo hi : Option Expr} {te : TEm} {tl th : Env → (Option Int → Prop) → Prop} {pos p2 : Pos}
theorem em_slS (he : PEm X c .ow e te) (hl : POm X c lo tl) (hu : POm X c hi th) : PEm X c .fr (.Subscript e (.Slice lo hi none p2) pos) (mSl oSlS te tl th) := ⟨(pe_slice sl_list he.run hl.run hu.run).weak fun σ H Q h => by
  obtain ⟨G, A, W, env, P, R, h, k⟩ := h
  refine ⟨G, A, W, env, _, R, h, fun px vx H1 g1 rx h1 => ⟨G, A, W, env, _, R.grow g1, h1, fun l H2 g2 h2 => ⟨G, A, W, env, _, (R.grow g1).grow g2, h2, fun u H3 g3 h3 => ?_⟩⟩⟩
  have R3 := ((R.grow g1).grow g2).grow g3
  obtain ⟨ns, rfl, hp⟩ := h3
  have rx3 := RpO.grow R.sz (g2.trans g3) rx.o
  unfold RpO Rp at rx3
  obtain ⟨a, rfl, e⟩ := rx3
  have e' : SqL X.K H3 a (ns.map V.int) := e.elim (fun z => let ⟨o, w⟩ := z.2; .inl (.inr ⟨o, w⟩)) .inr
  have r : Rps X.K ⟨Zt G A W, W, H3⟩ (ns.map PV.int) (ns.map V.int) := Rps.ints.mpr rfl
  exact ⟨a, _, rfl, e', fun p n => k _ _ _ (((g1.trans g2).trans g3).trans (Grow.new R3.src n)) ⟨p, rfl, ((g1.trans g2).trans g3).free n, OwnAt.newLst n (r.cut l u)⟩ hp⟩⟩
end
/-! ### x.append(y.pop(e)) -/
def sAppPop (i j : Nat) (te : TEm) : TSm := fun M env => ∃ ps qs, env[i]? = some (some (.lst ps)) ∧ env[j]? = some (some (.lst qs)) ∧ te env fun q => ∃ (m : Int) (n : Nat) (p : PV), q = .int m ∧ (-(2 ^ 63) ≤ m ∧ m < 2 ^ 63) ∧ ixN qs.length m = some n ∧ qs[n]? = some p ∧ ps.length < sizeLine ∧
  M.nx ((env.set j (some (.lst (qs.eraseIdx n)))).set i (some (.lst (ps ++ [p]))))
section
variable {X : Cx} {f : Fx} {c : List Ow} {e : Expr} {te : TEm} {pos : Pos}
theorem sm_appPop (i j : Nat) {x y : Str} {p1 p2 cpos p3 p4 cpos2 : Pos} (hij : i ≠ j := by decide) (he : PEm X c .ow e te) (hN : X.N[i]? = some x := by rfl) (hM : X.N[j]? = some y := by rfl) (hc : cO c i = .ow := by rfl) (hc2 : cO c j = .ow := by rfl)
    (hv : Vis X.env.scope x := by first | exact Or.inl rfl | exact Or.inr (Or.inl rfl) | exact Or.inr (Or.inr rfl)) (hd : (x == ("__debug__" : Str)) = false := by decide) (hcd : (x == ("__classdict__" : Str)) = false := by decide)
    (hv2 : Vis X.env.scope y := by first | exact Or.inl rfl | exact Or.inr (Or.inl rfl) | exact Or.inr (Or.inr rfl)) (hd2 : (y == ("__debug__" : Str)) = false := by decide) (hcd2 : (y == ("__classdict__" : Str)) = false := by decide)
    (hbase : attributeBase (.Name x p1) "append" X.env (eval (.Name x p1) X.env) = eval (.Name x p1) X.env := by rfl)
    (hbase2 : attributeBase (.Name y p3) "pop" X.env (eval (.Name y p3) X.env) = eval (.Name y p3) X.env := by rfl)
    (hfew : ((backTo cpos (starEach [.Call (.Attribute (.Name y p3) "pop" p4) [e] [] cpos2] X.env)).all (fun x => !x.1) && (backToKw cpos (keywordEach [] X.env)).all (fun x => x.1.isSome)
      && decide (([.Call (.Attribute (.Name y p3) "pop" p4) [e] [] cpos2] : List Expr).length + ([] : List Keyword).length + (if ([] : List Keyword).isEmpty then 0 else 1) < 30)) = true := by rfl)
    (hfew2 : ((backTo cpos2 (starEach [e] X.env)).all (fun x => !x.1) && (backToKw cpos2 (keywordEach [] X.env)).all (fun x => x.1.isSome)
      && decide (([e] : List Expr).length + ([] : List Keyword).length + (if ([] : List Keyword).isEmpty then 0 else 1) < 30)) = true := by rfl)
    (hline : (p2.endLine == cpos.line) = true := by rfl) (hline2 : (p4.endLine == cpos2.line) = true := by rfl)
    (hs : starEach [.Call (.Attribute (.Name y p3) "pop" p4) [e] [] cpos2] X.env = (false, eval (.Call (.Attribute (.Name y p3) "pop" p4) [e] [] cpos2) X.env) :: starEach [] X.env := by rfl) (hplain : (backTo cpos (starEach [] X.env)).any (·.1) = false := by rfl)
    (hs2 : starEach [e] X.env = (false, eval e X.env) :: starEach [] X.env := by rfl) (hplain2 : (backTo cpos2 (starEach [] X.env)).any (·.1) = false := by rfl)
    (hsw : swapsWith (.Call (.Attribute (.Name x p1) "append" p2) [.Call (.Attribute (.Name y p3) "pop" p4) [e] [] cpos2] [] cpos) none pos.line X.env = pure false := by rfl) :
    PSm X f c c (.Expr (.Call (.Attribute (.Name x p1) "append" p2) [.Call (.Attribute (.Name y p3) "pop" p4) [e] [] cpos2] [] cpos) pos) (sAppPop i j te) :=
  ⟨(ps_expr (pe_bm PySem.F.plainAttrs_list PySem.F.slot_list_append PySem.F.type_list_append mt_append (pe_var hN hv hd hcd)
      (pa_cons (pe_bm PySem.F.plainAttrs_list PySem.F.slot_list_pop PySem.F.type_list_pop mt_popAt (pe_var hM hv2 hd2 hcd2) (pa_cons he.run pa_nil hs2) hbase2 hfew2 hline2 hs2 hplain2) pa_nil hs) hbase hfew hline hs hplain) hsw).weak fun D σ H h => by
  obtain ⟨G, A, W, env, M, hg, R, ⟨ps, qs, e0, e1, h⟩, k⟩ := h
  obtain ⟨a, hA, hσ, vs, hH, r⟩ := R.mine hc e0
  obtain ⟨b, hB, hτ, ws, hHb, rb⟩ := R.mine hc2 e1
  refine ⟨.ref a, hσ, .inl ⟨rfl, vs, .inl (.inl hH)⟩, .ref b, hτ, .inl ⟨rfl, ws, .inl (.inl hHb)⟩, G, A, W, env, _, R, h, fun q w H1 g rq ⟨m, n, p, eq, ⟨hm1, hm2⟩, hix, hp, hl, h1⟩ => ?_⟩
  subst eq
  have R1 := R.grow g
  obtain ⟨b', hB', _, ws1, hH1, r1⟩ := R1.mine hc2 e1
  rw [hB] at hB'; cases hB'
  obtain ⟨v, ev, rv⟩ := r1.get hp
  rw [r1.len] at hix
  refine ⟨b, ws1, m, n, v, rfl, by rw [rq.o.int], hH1, hm1, hm2, (ixN_seq hix).1, ev, ?_⟩
  have zb : Zt G A W b := .inr (.inr ⟨j, hB⟩)
  have R2 := R1.mut e1 hB hc2 (OwnAt.mutL zb (r1.eraseIdx n))
  have xx : Ext ⟨Zt G A W, W, H1⟩ ⟨Zt G A W, W, upd H1 b (.lst (ws1.eraseIdx n))⟩ := ⟨fun u o hz e => ⟨hz, by show upd H1 b _ u = some o; rw [upd_ne (fun z => hz (by rw [z]; exact zb))]; exact e⟩, fun _ h => h⟩
  have e0' : (env.set j (some (.lst (qs.eraseIdx n))))[i]? = some (some (.lst ps)) := by rw [List.getElem?_set_ne (Ne.symm hij)]; exact e0
  obtain ⟨a', hA', _, us, hH2, r2⟩ := R2.mine hc e0'
  rw [hA] at hA'; cases hA'
  refine ⟨a, us, v, rfl, rfl, hH2, by rw [← r2.len]; exact hl, ?_⟩
  exact k.nx A W _ σ _ (R2.mut e0' hA hc (OwnAt.mutL (.inr (.inr ⟨i, hA⟩)) (r2.append (Rps.cons (Rp.ext xx rv) Rps.nil)))) h1⟩
end

/-! ### sources of draws -/
/-- what the maker of a source promises -/
def spSrc (K : PySem.W.Frag) (ok : List PV → Prop) : Sp := fun vs H Q _ => ∃ (Z : Addr → Prop) (W : Ws) (ps : List PV), (∀ b, Z b → ∃ o, H b = some o) ∧ (∀ q ∈ W, SA H q) ∧ (∀ b, inW W b → Z b) ∧ Rps K ⟨Z, W, H⟩ ps vs ∧ ok ps ∧ ∀ H' q, GrowA H H' → H q.1 = none → H q.2 = none → SA H' q → Q (.ref q.1) H'
section
variable {K : PySem.W.Frag} {G : Gh} {c : List Ow} {A : Nat → Option Addr} {W : Ws} {env : Env} {σ : St} {H H' : Hp}
theorem SR.addW {q : Addr × Addr} (R : SR K G c A W env σ H) (hg : G.gw = true) (g : GrowA H H') (n1 : H q.1 = none) (n2 : H q.2 = none) (s : SA H' q) : SR K G c A (q :: W) env σ H' := by
  have R1 := R.grow (g.grow R.src)
  have nt : ∀ b o, H b = some o → ¬ (b = q.1 ∨ b = q.2) := fun b o e z => by
    rcases z with z | z
    · rw [z, n1] at e; cases e
    · rw [z, n2] at e; cases e
  have iw : ∀ b, inW (q :: W) b → inW W b ∨ (b = q.1 ∨ b = q.2) := fun b ⟨p, hp, e⟩ => by
    rcases List.mem_cons.mp hp with z | z
    · rw [z] at e; exact .inr e
    · exact .inl ⟨p, z, e⟩
  have zt : ∀ b, Zt G A (q :: W) b → Zt G A W b ∨ (b = q.1 ∨ b = q.2) := fun b z => by
    rcases z with z | z | z
    · exact .inl (.inl z)
    · exact (iw b z).imp (fun z => .inr (.inl z)) id
    · exact .inl (.inr (.inr z))
  have x : Ext ⟨Zt G A W, W, H⟩ ⟨Zt G A (q :: W), q :: W, H'⟩ := ⟨fun b o hz e => ⟨fun z => (zt b z).elim hz (nt b o e), g b o e⟩, fun p hp => List.mem_cons_of_mem _ hp⟩
  refine ⟨R.len, fun p hp => List.mem_cons_of_mem _ (R.W0in p hp), fun p hp => List.mem_cons_of_mem _ (R.Wmin p hp), fun p hp => ?_, (fun z => by rw [hg] at z; cases z), fun p hp => ?_, R1.keep, R1.zbt, fun i a e => ?_, R.Ainj, R.Aset, fun i p e => ?_, fun u hu => ?_, fun b o e => ?_⟩
  · rcases List.mem_cons.mp hp with z | z
    · rw [z]; exact .inr ⟨R.h0 n1, R.h0 n2⟩
    · exact R.Wnew p z
  · rcases List.mem_cons.mp hp with z | z
    · rw [z]; exact s
    · exact R1.src p z
  · obtain ⟨h1, h2, h3, h4, h5⟩ := R1.Asep i a e
    obtain ⟨o, e5⟩ := (R.Asep i a e).2.2.2.2
    exact ⟨h1, fun z => (iw a z).elim h2 (nt a o e5), h3, h4, h5⟩
  · obtain ⟨v, h1, h2⟩ := R.slots i p e
    refine ⟨v, h1, ?_⟩
    cases hA : A i with
    | none => rw [hA] at h2; exact Rp.ext x h2
    | some a =>
      rw [hA] at h2
      obtain ⟨_, _, _, _, o, e5⟩ := R.Asep i a hA
      exact ⟨h2.1, h2.2.ext x (by show H' a = H a; rw [e5, g a o e5])⟩
  · obtain ⟨h1, h2, h3, h4⟩ := R1.pins u hu
    obtain ⟨h1', _, _, _⟩ := R.pins u hu
    exact ⟨h1, fun z => (iw _ z).elim h2 (nt _ _ h1'), h3, h4⟩
  · obtain ⟨h1, h2⟩ := R.fz b o e
    exact ⟨g b o h1, fun z => (zt b z).elim h2 (nt b o h1)⟩
end
def sSrc (i : Nat) (ok : List PV → Prop) (t : TAm) : TSm := fun M env => t env fun ps => ok ps ∧ M.nx (env.set i (some .src))
section
variable {X : Cx} {f : Fx} {c : List Ow} {k : Nat} {fa : Addr} {fd : FuncData} {pns : List Str} {ok : List PV → Prop} {x y : Str} {p pos pos' cpos : Pos} {e : Expr} {es : List Expr} {t : TAm}
/-- x = maker(..) -/
theorem sm_src (i : Nat) (F : FnOk X.prog X.w X.K X.mg X.base CX0 k fa fd pns (spSrc X.K ok)) (hr : Room k X.A) (hm : X.mg x = some (.ref fa)) (hk : PySem.W.keepIn X.K (.ref fa) = true) (hb : Binds X.K fd pns []) (hgw : f.gw = true) (hN : X.N.Nodup)
    (ha : PAm X c .cl (e :: es) t) (hi : X.N[i]? = some y := by rfl) (hx : Loc X.env.scope y := by first | exact Or.inl rfl | exact Or.inr rfl) (hl : cO c i ≠ .lk := by decide) (hg : Gl X x := by rfl) (hdb : (x == ("__debug__" : Str)) = false := by decide) (he : starEach (e :: es) X.env = (false, eval e X.env) :: starEach es X.env := by rfl) (hpl : (backTo cpos (starEach es X.env)).any (·.1) = false := by rfl)
    (hs : swapsWith (.Call (.Name x p) (e :: es) [] cpos) (some (.Name y pos')) pos.line X.env = pure false := by rfl) (hf : X.fn y = true ∨ X.env.scope.names.lookup y = some .local := by first | exact .inl rfl | exact .inr rfl | assumption) :
    PSm X f c (c.set i .sh) (.Assign [.Name y pos'] (.Call (.Name x p) (e :: es) [] cpos) pos) (sSrc i ok t) := ⟨(ps_set hN hi hx (pe_call F hr hg hm hk hb .nil pass0 ha.run hdb he hpl) hs hf).weak fun D σ H h => by
  obtain ⟨G, A, W, env, M, hg, R, h, kk⟩ := h
  refine ⟨G, A, W, env, _, R, h, fun ps vs H1 g1 rs ⟨hok, h1⟩ => ?_⟩
  have R1 := R.grow g1
  refine ⟨Zt G A W, W, ps, R1.dz, R1.src, R1.sz, by rw [List.append_nil]; exact rs.rps, hok, fun H2 q g n1 n2 s => ?_⟩
  have R2 := R1.addW (hg.trans hgw) g n1 n2 s
  refine kk.nx _ _ _ _ _ (R2.set_sh hl ?_) h1
  unfold Rp
  exact ⟨q, List.mem_cons_self .., rfl⟩⟩
end

theorem rp_flV {K : PySem.W.Frag} {S : Wd} {p : PV} (f : flatP p = true) : Rp K S p (flV p) := by
  cases p with
  | non => unfold Rp; rfl
  | bl _ => unfold Rp; rfl
  | int _ => unfold Rp; rfl
  | str _ => unfold Rp; rfl
  | _ => exact absurd f (by simp [flatP])
theorem cst_ok {K : PySem.W.Frag} : ∀ (ds : List PV), ds.all flatP = true → Cst K ds (ds.map flV)
  | [], _ => fun _ => Rps.nil
  | d :: ds, h => fun S => by
    rw [List.all_cons, Bool.and_eq_true] at h
    exact Rps.cons (rp_flV h.1) (cst_ok ds h.2 S)
theorem binds0 {K : PySem.W.Frag} {x qual : Str} {params : Arguments} {body : List Stmt} {scope : Scope} {f : Addr} {fd : FuncData} {ps : List Str} (F : FunD K x qual params body scope [] [] f fd)
    (h : ∀ (kV doc pm : Value) (an : Option Addr) (cdv ct : Value) (us : List Value), us.length = ps.length → bindArgs (PySem.W.fnOf x qual params body scope .none kV doc pm an cdv ct) ⟨us, []⟩ = pure (ps.zip us)) : Binds K fd ps [] := fun s us _ hl => by
  rw [List.append_nil] at hl ⊢
  exact F.bindsA h s us hl
theorem fn_none {P : Program} {w : World} {K : PySem.W.Frag} {mg : Str → Option Value} {base : Heap} {k : Nat} {f : Addr} {fd : FuncData} {ps : List Str} {rm : Md} {spec : Spec} (h : ∀ ps Q, spec ps Q → False) : FnOk P w K mg base CX0 k f fd ps (spM K rm spec) :=
  ⟨fun vs H Q E z => by obtain ⟨_, _, _, _, _, _, _, z, _⟩ := z; exact (h _ _ z).elim, fun A outer s H args us vs Q E _ _ _ _ z => by obtain ⟨_, _, _, _, _, _, _, z, _⟩ := z; exact (h _ _ z).elim⟩
/-! ### the law's def -/
def spLawM (K : PySem.W.Frag) : Sp := fun vs H Q _ => ∃ (a : Addr) (ns : List Int), vs = [.ref a] ∧ Only H ∧ SqL K H a (ns.map V.int) ∧ ns.length ≤ 63 ∧ ∀ H', Q (.bl true) H'
theorem law_m {P : Program} {w : World} {K : PySem.W.Frag} {mg : Str → Option Value} {base : Heap} {x qual : Str} {st : Stmt} {f : Addr} {fd : FuncData} {N pns : List Str} {k : Nat} {t : TSm} {dvs : List V} (F : FunD K x qual (defArgs st) (defBody st) (defScope st) dvs [] f fd) (S : FnScope N pns (defScope st)) (h1 : pns.length = 1)
    (hbody : ∀ (cdv : Value) (A : Around) (outer : List PySem.Env) (s : Shared) (H : Hp) (E : XK), Room k (A.deeper (PyProof.Rows.envOfC qual (defScope st) s.heap.objs.size f cdv)) → ∃ c', PSsm (bodyX P w K mg base N qual st f cdv A outer s H E) ⟨.cl, true, []⟩ (shs N.length) c' (defBody st) t)
    (hok : ∀ ns : List Int, ns.length ≤ 63 → t { nx := fun _ => False, rt := fun p => p = .bl true } (startE N.length [.scr ns])) : FnOk P w K mg base CX0 (k + 1) f fd pns (spLawM K) := by
  refine F.ok S (fun vs H Q E h => ?_) (fun cdv A outer s H vs Q E hr h => ?_)
  · obtain ⟨a, ns, rfl, _⟩ := h
    exact h1.symm
  · obtain ⟨a, ns, rfl, hO, hS, hl, q⟩ := h
    have r : Rps K ⟨fun b => (fun _ => False) b ∨ inW [] b, [], H⟩ [.scr ns] [.ref a] := by
      refine Rps.cons ?_ Rps.nil
      unfold Rp
      refine ⟨a, rfl, ?_⟩
      rcases hS with hS | hS
      · refine .inl ⟨fun z => z.elim id fun ⟨p, hp, _⟩ => (by cases hp), ?_⟩
        rcases hS with hS | hS
        · rcases hO a with z | ⟨o, xs, z⟩
          · rw [hS] at z; cases z
          · rw [hS] at z; cases z
        · exact hS
      · exact .inr hS
    have hsr : SR K ⟨true, fun _ => False, [], H, fun _ => none, [], []⟩ (shs N.length) (fun _ => none) [] (startE N.length [.scr ns]) (L2.start N [.ref a]) H := SR.start (fun _ z => z.elim) (fun _ z => by cases z) r
    obtain ⟨c', hb⟩ := hbody cdv A outer s H E hr
    refine ⟨_, hb.run.nox, ⟨true, fun _ => False, [], H, fun _ => none, [], []⟩, fun _ => none, [], startE N.length [.scr ns], _, rfl, hsr, hok ns hl, ⟨fun _ _ _ _ _ _ z => z.elim, fun p v H' hr hp => ?_, fun _ _ _ _ _ _ z => z.elim, fun _ _ _ _ _ _ z => z.elim⟩⟩
    subst hp
    obtain ⟨W', _, _, _, _, h5⟩ := hr
    rw [VK1.bl h5]
    exact q H'
end PM

set_option maxHeartbeats 1000000
/-! PM: the plain side: what the transformers say, in rows for simp; loops and comprehensions by what they do. -/
namespace PM
open PySem L2
section
variable {env : Env} {P : PV → Prop} {i j : Nat} {M : Em} {t u : TSm} {te ta tb tc : TEm} {ts : TAm} {tt : TTm}
@[simp] theorem s_mVar0 {o : PV} : mVar 0 (some o :: env) P ↔ P o := ⟨fun ⟨v, e, h⟩ => by cases e; exact h, fun h => ⟨o, rfl, h⟩⟩
@[simp] theorem s_mVarS {o : Option PV} : mVar (i + 1) (o :: env) P ↔ mVar i env P := by
  unfold mVar; rw [List.getElem?_cons_succ]
def isObj : PV → Bool
  | .obj _ _ _ => true
  | _ => false
@[simp] theorem s_mVarO0 {o : PV} : mVarO 0 (some o :: env) P ↔ isObj o = false ∧ P o := by
  constructor
  · rintro ⟨v, e, n, h⟩
    cases e
    refine ⟨?_, h⟩
    cases o with
    | obj C ns ps => exact absurd rfl (n C ns ps)
    | _ => rfl
  · rintro ⟨n, h⟩
    exact ⟨o, rfl, (fun C ns ps z => by rw [z] at n; cases n), h⟩
@[simp] theorem s_mVarOS {o : Option PV} : mVarO (i + 1) (o :: env) P ↔ mVarO i env P := by
  unfold mVarO; rw [List.getElem?_cons_succ]
@[simp] theorem s_isObj_lst {ps : List PV} : isObj (.lst ps) = false := rfl
@[simp] theorem s_isObj_dic {ks : List Key} {ps : List PV} : isObj (.dic ks ps) = false := rfl
@[simp] theorem s_mC {p : PV} : mC p env P ↔ P p := .rfl
@[simp] theorem s_mOp {o : PO2} : mOp o ta tb env P ↔ ta env fun x => tb env fun y => o x y P := .rfl
@[simp] theorem s_mOp1 {o : PO1} : mOp1 o ta env P ↔ ta env fun x => o x P := .rfl
@[simp] theorem s_mB {o : POn} : mB o ts env P ↔ ts env fun xs => o xs P := .rfl
@[simp] theorem s_mNil {Q : List PV → Prop} : mNil env Q ↔ Q [] := .rfl
@[simp] theorem s_mCons {Q : List PV → Prop} : mCons te ts env Q ↔ te env fun x => ts env fun xs => Q (x :: xs) := .rfl
@[simp] theorem s_mTup : mTup ts env P ↔ ts env fun xs => xs.length ≤ sizeLine ∧ P (.tup xs) := .rfl
@[simp] theorem s_mLst : mLst ts env P ↔ ts env fun xs => xs.length ≤ sizeLine ∧ P (.lst xs) := .rfl
@[simp] theorem s_mCall {sp : Spec} {ds : List PV} : mCall sp ds ts env P ↔ ts env fun ps => sp (ps ++ ds) P := .rfl
@[simp] theorem s_mTB {Q : Bool → Prop} : mTB te env Q ↔ te env fun x => ∃ k, x = .bl k ∧ Q k := .rfl
@[simp] theorem s_mNot {Q : Bool → Prop} : mNot tt env Q ↔ tt env fun b => Q (!b) := .rfl
@[simp] theorem s_mAnd {tu : TTm} {Q : Bool → Prop} : mAnd tt tu env Q ↔ tt env fun b => if b = true then tu env Q else Q false := .rfl
@[simp] theorem s_mOr {tu : TTm} {Q : Bool → Prop} : mOr tt tu env Q ↔ tt env fun b => if b = true then Q true else tu env Q := .rfl
@[simp] theorem s_mAndV : mAndV ta tb env P ↔ ta env fun x => ∃ k, x = .bl k ∧ if k = true then tb env P else P (.bl false) := .rfl
@[simp] theorem s_mOrV : mOrV ta tb env P ↔ ta env fun x => ∃ k, x = .bl k ∧ if k = true then P (.bl true) else tb env P := .rfl
@[simp] theorem s_mIf : mIf tt ta tb env P ↔ tt env fun b => if b = true then ta env P else tb env P := .rfl
@[simp] theorem s_mYes {Q : Bool → Prop} : mYes env Q ↔ Q true := .rfl
@[simp] theorem s_mSl {o : PV → Option Int → Option Int → (PV → Prop) → Prop} {tl th : Env → (Option Int → Prop) → Prop} : mSl o te tl th env P ↔ te env fun x => tl env fun l => th env fun u => o x l u P := .rfl
@[simp] theorem s_mNo {Q : Option Int → Prop} : mNo env Q ↔ Q none := .rfl
@[simp] theorem s_mPart {Q : Option Int → Prop} : mPart te env Q ↔ te env fun x => ∃ i, x = .int i ∧ Q (some i) := .rfl
@[simp] theorem s_mLc {wi : TIm} {vs : List Nat} {g : TGm} : mLc wi vs g tt te env P ↔ wi env fun items => mCompGo g tt te (wipeE env vs) P items [] := .rfl
@[simp] theorem s_mItems {Q : List PV → Prop} : mItems te env Q ↔ te env fun p => ∃ ps, seqP p = some ps ∧ Q ps := .rfl
@[simp] theorem s_mRng1 {Q : List PV → Prop} : mRng1 te env Q ↔ te env fun x => ∃ n, x = .int n ∧ (-(2 ^ 62) ≤ n ∧ n < 2 ^ 62) ∧ Q (rngP 0 n.toNat) := .rfl
@[simp] theorem s_mRng2 {Q : List PV → Prop} : mRng2 ta tb env Q ↔ ta env fun x => tb env fun y => ∃ a b, x = .int a ∧ y = .int b ∧ (-(2 ^ 62) ≤ a ∧ a < 2 ^ 62 ∧ -(2 ^ 62) ≤ b ∧ b < 2 ^ 62) ∧ Q (rngP a (b - a).toNat) := .rfl
@[simp] theorem s_mEnum {Q : List PV → Prop} : mEnum te env Q ↔ te env fun p => ∃ ps, seqP p = some ps ∧ Q (enumP ps) := .rfl
@[simp] theorem s_mChain {o o' : PO2} : mChain o o' ta tb tc env P ↔ ta env fun x => tb env fun y => o x y fun z => ∃ k, z = .bl k ∧ if k = true then tc env fun w => o' y w P else P (.bl false) := .rfl
@[simp] theorem s_seqT {ps : List PV} : seqP (.tup ps) = some ps := rfl
@[simp] theorem s_seqL {ps : List PV} : seqP (.lst ps) = some ps := rfl
-- statements
@[simp] theorem s_sNext : sNext M env ↔ M.nx env := .rfl
@[simp] theorem s_sSeq : sSeq t u M env ↔ t { M with nx := u M } env := .rfl
@[simp] theorem s_sIf : sIf tt t u M env ↔ tt env fun b => if b = true then t M env else u M env := .rfl
@[simp] theorem s_sSet : sSet i te M env ↔ te env fun p => M.nx (env.set i (some p)) := .rfl
@[simp] theorem s_sRet : sRet te M env ↔ te env M.rt := .rfl
@[simp] theorem s_sRetN : sRetN M env ↔ M.rt .non := .rfl
@[simp] theorem s_sBreak : sBreak M env ↔ M.bk env := .rfl
@[simp] theorem s_sCont : sCont M env ↔ M.ct env := .rfl
@[simp] theorem s_sDrop : sDrop te M env ↔ te env fun _ => M.nx env := .rfl
@[simp] theorem s_sPar {is : List Nat} : sPar is ts M env ↔ ts env fun ps => M.nx (setN env is ps) := .rfl
@[simp] theorem s_setN0 {ps : List PV} : setN env [] ps = env := by cases ps <;> rfl
@[simp] theorem s_setNS {is : List Nat} {p : PV} {ps : List PV} : setN env (i :: is) (p :: ps) = setN (env.set i (some p)) is ps := rfl
@[simp] theorem s_sAsg {g : TGm} : sAsg te g M env ↔ te env fun p => g p env M.nx := .rfl
@[simp] theorem s_sApp : sApp i te M env ↔ ∃ ps, env[i]? = some (some (.lst ps)) ∧ te env fun p => ps.length < sizeLine ∧ M.nx (env.set i (some (.lst (ps ++ [p])))) := .rfl
@[simp] theorem s_sAug {o : PO2} : sAug i o te M env ↔ ∃ x, env[i]? = some (some x) ∧ te env fun y => o x y fun z => M.nx (env.set i (some z)) := .rfl
@[simp] theorem s_sFor {wi : TIm} {g : TGm} : sFor wi g t M env ↔ wi env fun items => mForGo g t M items env := .rfl
@[simp] theorem s_sSrc {ok : List PV → Prop} : sSrc i ok ts M env ↔ ts env fun ps => ok ps ∧ M.nx (env.set i (some .src)) := .rfl
-- targets
@[simp] theorem s_gmN {p : PV} {k : Env → Prop} : gmN i p env k ↔ k (env.set i (some p)) := .rfl
@[simp] theorem s_gmT {n : Nat} {r : TGsm} {ps : List PV} {k : Env → Prop} : gmT n r (.tup ps) env k ↔ ps.length = n ∧ r ps env k := ⟨fun ⟨qs, e, h⟩ => by cases e; exact h, fun h => ⟨ps, rfl, h⟩⟩
@[simp] theorem s_gmCons {g : TGm} {r : TGsm} {p : PV} {ps : List PV} {k : Env → Prop} : gmCons g r (p :: ps) env k ↔ g p env fun env' => r ps env' k := ⟨fun ⟨q, qs, e, h⟩ => by cases e; exact h, fun h => ⟨p, ps, rfl, h⟩⟩
@[simp] theorem s_gmNil {k : Env → Prop} : gmNil [] env k ↔ k env := ⟨fun h => h.2, fun h => ⟨rfl, h⟩⟩
@[simp] theorem s_wipe0 : wipeE env [] = env := rfl
@[simp] theorem s_wipeS {vs : List Nat} : wipeE env (i :: vs) = (wipeE env vs).set i none := rfl
-- operations
variable {a b : Int} {x y : PV}
@[simp] theorem s_oSub : oSub (.int a) (.int b) P ↔ P (.int (a - b)) := ⟨fun ⟨_, _, e, f, h⟩ => by cases e; cases f; exact h, fun h => ⟨a, b, rfl, rfl, h⟩⟩
@[simp] theorem s_oAddI : oAddI (.int a) (.int b) P ↔ P (.int (a + b)) := ⟨fun ⟨_, _, e, f, h⟩ => by cases e; cases f; exact h, fun h => ⟨a, b, rfl, rfl, h⟩⟩
@[simp] theorem s_oAdd : oAdd (.int a) (.int b) P ↔ P (.int (a + b)) := .rfl
@[simp] theorem s_oLt : oLt (.int a) (.int b) P ↔ P (.bl (decide (a < b))) := ⟨fun ⟨_, _, e, f, h⟩ => by cases e; cases f; exact h, fun h => ⟨a, b, rfl, rfl, h⟩⟩
@[simp] theorem s_oLe : oLe (.int a) (.int b) P ↔ P (.bl (decide (a ≤ b))) := ⟨fun ⟨_, _, e, f, h⟩ => by cases e; cases f; exact h, fun h => ⟨a, b, rfl, rfl, h⟩⟩
@[simp] theorem s_oGt : oGt (.int a) (.int b) P ↔ P (.bl (decide (b < a))) := ⟨fun ⟨_, _, e, f, h⟩ => by cases e; cases f; exact h, fun h => ⟨a, b, rfl, rfl, h⟩⟩
@[simp] theorem s_oGe : oGe (.int a) (.int b) P ↔ P (.bl (decide (b ≤ a))) := ⟨fun ⟨_, _, e, f, h⟩ => by cases e; cases f; exact h, fun h => ⟨a, b, rfl, rfl, h⟩⟩
@[simp] theorem s_oNeg : oNeg (.int a) P ↔ P (.int (-a)) := ⟨fun ⟨_, e, h⟩ => by cases e; exact h, fun h => ⟨a, rfl, h⟩⟩
@[simp] theorem s_oNot {k : Bool} : oNot (.bl k) P ↔ P (.bl (!k)) := ⟨fun ⟨_, e, h⟩ => by cases e; exact h, fun h => ⟨k, rfl, h⟩⟩
@[simp] theorem s_oMul : oMul (.int a) (.int b) P ↔ CMul a b ∧ P (.int (a * b)) := ⟨fun ⟨_, _, e, f, h⟩ => by cases e; cases f; exact h, fun h => ⟨a, b, rfl, rfl, h⟩⟩
@[simp] theorem s_oMulW : oMulW (.int a) (.int b) P ↔ CMulW a b ∧ P (.int (a * b)) := ⟨fun ⟨_, _, e, f, h⟩ => by cases e; cases f; exact h, fun h => ⟨a, b, rfl, rfl, h⟩⟩
@[simp] theorem s_oMod : oMod (.int a) (.int b) P ↔ 0 < b ∧ P (.int (a % b)) := ⟨fun ⟨_, _, e, f, h⟩ => by cases e; cases f; exact h, fun h => ⟨a, b, rfl, rfl, h⟩⟩
@[simp] theorem s_oFdiv : oFdiv (.int a) (.int b) P ↔ (0 < b ∧ b < 1073741824) ∧ P (.int (a / b)) := ⟨fun ⟨_, _, e, f, h⟩ => by cases e; cases f; exact h, fun h => ⟨a, b, rfl, rfl, h⟩⟩
@[simp] theorem s_oPow : oPow (.int a) (.int b) P ↔ (0 ≤ b ∧ b ≤ 1000000 ∧ a.natAbs < 2 ^ 64) ∧ P (.int (a ^ b.toNat)) := ⟨fun ⟨_, _, e, f, h⟩ => by cases e; cases f; exact h, fun h => ⟨a, b, rfl, rfl, h⟩⟩
@[simp] theorem s_oIsN : oIsN x .non P ↔ P (.bl (isNon x)) := ⟨fun h => h.2, fun h => ⟨rfl, h⟩⟩
@[simp] theorem s_oNotN : oNotN x .non P ↔ P (.bl (!isNon x)) := ⟨fun h => h.2, fun h => ⟨rfl, h⟩⟩
@[simp] theorem s_oIsB {k l : Bool} : oIsB (.bl k) (.bl l) P ↔ P (.bl (decide (k = l))) := ⟨fun ⟨_, _, e, f, h⟩ => by cases e; cases f; exact h, fun h => ⟨k, l, rfl, rfl, h⟩⟩
@[simp] theorem s_oNotB {k l : Bool} : oNotB (.bl k) (.bl l) P ↔ P (.bl (!decide (k = l))) := ⟨fun ⟨_, _, e, f, h⟩ => by cases e; cases f; exact h, fun h => ⟨k, l, rfl, rfl, h⟩⟩
@[simp] theorem s_isNon_int : isNon (.int a) = false := rfl
@[simp] theorem s_isNon_non : isNon .non = true := rfl
@[simp] theorem s_isNon_bl {k : Bool} : isNon (.bl k) = false := rfl
@[simp] theorem s_isNon_str {k : Str} : isNon (.str k) = false := rfl
@[simp] theorem s_isNon_tup {k : List PV} : isNon (.tup k) = false := rfl
@[simp] theorem s_isNon_lst {k : List PV} : isNon (.lst k) = false := rfl
@[simp] theorem s_isNon_dic {k : List Key} {l : List PV} : isNon (.dic k l) = false := rfl
@[simp] theorem s_oEqI : oEq (.int a) (.int b) P ↔ P (.bl (decide (a = b))) := by
  have e : PyData.eqv (.int a) (.int b) = decide (a = b) := rfl
  constructor
  · rintro ⟨_, _, f, g, _, _, h⟩
    cases f; cases g
    rw [e] at h; exact h
  · intro h
    exact ⟨_, _, rfl, rfl, rfl, rfl, by rw [e]; exact h⟩
@[simp] theorem s_oNeI : oNe (.int a) (.int b) P ↔ P (.bl (!decide (a = b))) := by
  have e : PyData.eqv (.int a) (.int b) = decide (a = b) := rfl
  constructor
  · rintro ⟨_, _, f, g, _, _, h⟩
    cases f; cases g
    rw [e] at h; exact h
  · intro h
    exact ⟨_, _, rfl, rfl, rfl, rfl, by rw [e]; exact h⟩
@[simp] theorem s_oIxT {ps : List PV} : oIx (.tup ps) (.int a) P ↔ ∃ p, atI ps a = some p ∧ P p := .rfl
@[simp] theorem s_oIxL {ps : List PV} : oIx (.lst ps) (.int a) P ↔ ∃ p, atI ps a = some p ∧ P p := .rfl
@[simp] theorem s_oSlT {ps : List PV} {l u : Option Int} : oSl (.tup ps) l u P ↔ P (.tup (cutP ps l u)) := .rfl
@[simp] theorem s_oSlL {ps : List PV} {l u : Option Int} : oSl (.lst ps) l u P ↔ P (.lst (cutP ps l u)) := .rfl
@[simp] theorem s_oRevT {ps : List PV} : oRev (.tup ps) P ↔ P (.tup ps.reverse) := .rfl
@[simp] theorem s_oRevL {ps : List PV} : oRev (.lst ps) P ↔ P (.lst ps.reverse) := .rfl
@[simp] theorem s_oInt : oInt [.int a] P ↔ P (.int a) := .rfl
@[simp] theorem s_oIntB {k : Bool} : oInt [.bl k] P ↔ P (.int (if k then 1 else 0)) := .rfl
@[simp] theorem s_oAbs : oAbs [.int a] P ↔ P (.int (if a < 0 then -a else a)) := ⟨fun ⟨_, e, h⟩ => by cases e; exact h, fun h => ⟨a, rfl, h⟩⟩
@[simp] theorem s_oMax2 : oMax2 [.int a, .int b] P ↔ P (.int (if b > a then b else a)) := ⟨fun ⟨_, _, e, h⟩ => by cases e; exact h, fun h => ⟨a, b, rfl, h⟩⟩
@[simp] theorem s_oMin2 : oMin2 [.int a, .int b] P ↔ P (.int (if b < a then b else a)) := ⟨fun ⟨_, _, e, h⟩ => by cases e; exact h, fun h => ⟨a, b, rfl, h⟩⟩
@[simp] theorem s_oLen : oLen [x] P ↔ ∃ n, plen x = some n ∧ P (.int (n : Int)) := ⟨fun ⟨_, n, e, f, h⟩ => by cases e; exact ⟨n, f, h⟩, fun ⟨n, f, h⟩ => ⟨x, n, rfl, f, h⟩⟩
@[simp] theorem s_plenT {ps : List PV} : plen (.tup ps) = some ps.length := rfl
@[simp] theorem s_plenL {ps : List PV} : plen (.lst ps) = some ps.length := rfl
@[simp] theorem s_plenD {ks : List Key} {ps : List PV} : plen (.dic ks ps) = some ks.length := rfl
@[simp] theorem s_plenS {ns : List Int} : plen (.scr ns) = some ns.length := rfl
@[simp] theorem s_oTupleL {ps : List PV} : oTuple [.lst ps] P ↔ P (.tup ps) := ⟨fun ⟨_, _, e, f, h⟩ => by cases e; cases f; exact h, fun h => ⟨_, ps, rfl, rfl, h⟩⟩
@[simp] theorem s_oTupleT {ps : List PV} : oTuple [.tup ps] P ↔ P (.tup ps) := ⟨fun ⟨_, _, e, f, h⟩ => by cases e; cases f; exact h, fun h => ⟨_, ps, rfl, rfl, h⟩⟩
@[simp] theorem s_oListL {ps : List PV} : oList [.lst ps] P ↔ P (.lst ps) := ⟨fun ⟨_, _, e, f, h⟩ => by cases e; cases f; exact h, fun h => ⟨_, ps, rfl, rfl, h⟩⟩
@[simp] theorem s_oListT {ps : List PV} : oList [.tup ps] P ↔ P (.lst ps) := ⟨fun ⟨_, _, e, f, h⟩ => by cases e; cases f; exact h, fun h => ⟨_, ps, rfl, rfl, h⟩⟩
end
theorem x_bl {b : Bool} {p : Bool → Prop} : (∃ k, PV.bl b = PV.bl k ∧ p k) ↔ p b := ⟨fun ⟨_, e, h⟩ => by cases e; exact h, fun h => ⟨b, rfl, h⟩⟩
theorem x_int {b : Int} {p : Int → Prop} : (∃ k, PV.int b = PV.int k ∧ p k) ↔ p b := ⟨fun ⟨_, e, h⟩ => by cases e; exact h, fun h => ⟨b, rfl, h⟩⟩
theorem x_some {α : Type} {b : α} {p : α → Prop} : (∃ k, some b = some k ∧ p k) ↔ p b := ⟨fun ⟨_, e, h⟩ => by cases e; exact h, fun h => ⟨b, rfl, h⟩⟩
theorem x_addT {a b : List PV} {P : PV → Prop} : oAdd (.tup a) (.tup b) P ↔ a.length + b.length ≤ sizeLine ∧ P (.tup (a ++ b)) := .rfl
theorem x_addL {a b : List PV} {P : PV → Prop} : oAdd (.lst a) (.lst b) P ↔ a.length + b.length ≤ sizeLine ∧ P (.lst (a ++ b)) := .rfl
theorem x_true {p q : Prop} : (if true = true then p else q) ↔ p := by rw [if_pos rfl]
theorem x_false {p q : Prop} : (if false = true then p else q) ↔ q := by rw [if_neg Bool.false_ne_true]
/-! ### of a type -/
def isiB (T : String) (p : PV) : Bool := match pty p with
  | some U => (kitB U T).getD false
  | none => false
theorem oIsi_of {T : String} {p : PV} {P : PV → Prop} {U : String} {b : Bool} (h : pty p = some U) (hb : kitB U T = some b) (hp : P (.bl b)) : oIsi T p P := ⟨U, b, h, hb, hp⟩
abbrev Known (T : String) : Prop := ∀ U ∈ ["NoneType", "bool", "int", "str", "tuple", "list", "dict"], (kitB U T).isSome = true
theorem pty_mem {p : PV} {U : String} (h : pty p = some U) : U ∈ ["NoneType", "bool", "int", "str", "tuple", "list", "dict"] := by
  cases p <;> cases h <;> decide
theorem oIsi_b {T : String} {p : PV} {P : PV → Prop} (k : Known T) (h : (pty p).isSome = true) (hp : P (.bl (isiB T p))) : oIsi T p P := by
  obtain ⟨U, hU⟩ := Option.isSome_iff_exists.mp h
  obtain ⟨b, hb⟩ := Option.isSome_iff_exists.mp (k U (pty_mem hU))
  refine ⟨U, b, hU, hb, ?_⟩
  unfold isiB at hp
  rw [hU] at hp
  have e : (kitB U T).getD false = b := by rw [hb]; rfl
  rw [← e]; exact hp
theorem known_int : Known "int" := by decide
theorem known_bool : Known "bool" := by decide
theorem known_str : Known "str" := by decide
theorem known_tuple : Known "tuple" := by decide
theorem known_list : Known "list" := by decide
theorem known_dict : Known "dict" := by decide
/-! ### loops and comprehensions -/
section
variable {g : TGm} {tt : TTm} {te : TEm} {tb : TSm} {env : Env} {P : PV → Prop} {M : Em}
/-- a loop by what stands ahead of each turn -/
theorem for_inv {α : Type} {emb : α → PV} {xs : List α} (I : Nat → Env → Prop) (h0 : I 0 env) (hs : ∀ (i : Nat) (x : α) (e : Env) (N : Env → Prop), xs[i]? = some x → I i e → (∀ e', I (i + 1) e' → N e') → g (emb x) e fun e1 => tb { M with nx := N, ct := N, bk := M.nx } e1)
    (hn : ∀ e, I xs.length e → M.nx e) : mForGo g tb M (xs.map emb) env := by
  have go : ∀ (ys : List α) (i : Nat) (e : Env), xs.drop i = ys → I i e → i ≤ xs.length → mForGo g tb M (ys.map emb) e := by
    intro ys
    induction ys with
    | nil =>
      intro i e hd hi hl
      have : i = xs.length := by
        have := List.drop_eq_nil_iff.mp hd
        omega
      subst this
      exact hn e hi
    | cons y ys ih =>
      intro i e hd hi hl
      have hx : xs[i]? = some y := by
        have : (xs.drop i)[0]? = some y := by rw [hd]; rfl
        rw [List.getElem?_drop] at this
        exact this
      have hlt : i < xs.length := (List.getElem?_eq_some_iff.mp hx).1
      have hd2 : xs.drop (i + 1) = ys := by
        rw [← List.drop_drop, hd]; rfl
      exact hs i y e _ hx hi fun e' he' => ih (i + 1) e' hd2 he' hlt
  exact go xs 0 env rfl h0 (Nat.zero_le _)
theorem foldl_take {α S : Type} {xs : List α} {f : S → α → S} {s : S} {i : Nat} {x : α} (h : xs[i]? = some x) : (xs.take (i + 1)).foldl f s = f ((xs.take i).foldl f s) x := by
  rw [List.take_add_one, h, List.foldl_append]
  rfl
/-- a loop as a fold -/
theorem for_fold {α S : Type} {emb : α → PV} {xs : List α} (step : S → α → S) (E : S → Env → Prop) (s0 : S) (h0 : E s0 env) (hs : ∀ (x : α) (s : S) (e : Env) (N : Env → Prop), x ∈ xs → E s e → (∀ e', E (step s x) e' → N e') → g (emb x) e fun e1 => tb { M with nx := N, ct := N, bk := M.nx } e1)
    (hn : ∀ e, E (xs.foldl step s0) e → M.nx e) : mForGo g tb M (xs.map emb) env := by
  refine for_inv (fun i e => E ((xs.take i).foldl step s0) e) h0 (fun i x e N hx hE hN => hs x _ e N (List.mem_of_getElem? hx) hE fun e' he' => hN e' ?_) (fun e he => hn e ?_)
  · rw [List.take_add_one, hx, List.foldl_append]
    exact he'
  · rw [List.take_length] at he
    exact he
/-- a comprehension that has one answer at each item -/
theorem comp_emb {α : Type} {emb : α → PV} {tst : α → Bool} {f : α → PV} : ∀ {xs : List α} {acc : List PV}, (∀ x ∈ xs, ∃ e1, (∀ k : Env → Prop, k e1 → g (emb x) env k) ∧ (∀ Q : Bool → Prop, Q (tst x) → tt e1 Q) ∧ (tst x = true → ∀ Q : PV → Prop, Q (f x) → te e1 Q)) →
    acc.length + xs.length ≤ sizeLine → P (.lst (acc ++ (xs.filter tst).map f)) → mCompGo g tt te env P (xs.map emb) acc
  | [], acc, _, _, hp => by
    rw [List.filter_nil, List.map_nil, List.append_nil] at hp
    exact hp
  | x :: xs, acc, h, hl, hp => by
    obtain ⟨e1, h1, h2, h3⟩ := h x (List.mem_cons_self ..)
    rw [List.length_cons] at hl
    rw [List.map_cons]
    unfold mCompGo
    refine h1 _ (h2 _ ?_)
    cases ht : tst x with
    | true =>
      rw [if_pos rfl]
      refine h3 ht _ ⟨by omega, comp_emb (fun y hy => h y (List.mem_cons_of_mem _ hy)) (by rw [List.length_append, List.length_singleton]; omega) ?_⟩
      rw [List.filter_cons, ht, if_pos rfl, List.map_cons] at hp
      rw [List.append_assoc]
      exact hp
    | false =>
      rw [if_neg Bool.false_ne_true]
      refine comp_emb (fun y hy => h y (List.mem_cons_of_mem _ hy)) (by omega) ?_
      rw [List.filter_cons, ht, if_neg Bool.false_ne_true] at hp
      exact hp
/-- a comprehension without test -/
theorem comp_map {α : Type} {emb : α → PV} {f : α → PV} {xs : List α} (h : ∀ x ∈ xs, ∃ e1, (∀ k : Env → Prop, k e1 → g (emb x) env k) ∧ (∀ Q : Bool → Prop, Q true → tt e1 Q) ∧ (∀ Q : PV → Prop, Q (f x) → te e1 Q))
    (hl : xs.length ≤ sizeLine) (hp : P (.lst (xs.map f))) : mCompGo g tt te env P (xs.map emb) [] := by
  refine comp_emb (tst := fun _ => true) (f := f) (fun x hx => ?_) (by rw [List.length_nil, Nat.zero_add]; exact hl) ?_
  · obtain ⟨e1, h1, h2, h3⟩ := h x hx
    exact ⟨e1, h1, h2, fun _ => h3⟩
  · rw [List.filter_eq_self.mpr (fun _ _ => rfl)]
    exact hp
/-- .. whose answers are one of several -/
theorem comp_rel {α : Type} {emb : α → PV} {R : α → PV → Prop} : ∀ {xs : List α} {acc : List PV}, (∀ x ∈ xs, ∃ e1, (∀ k : Env → Prop, k e1 → g (emb x) env k) ∧ (∀ Q : Bool → Prop, Q true → tt e1 Q) ∧ (∀ Q : PV → Prop, (∀ y, R x y → Q y) → te e1 Q)) →
    acc.length + xs.length ≤ sizeLine → (∀ ys, Paired R xs ys → P (.lst (acc ++ ys))) → mCompGo g tt te env P (xs.map emb) acc
  | [], acc, _, _, hp => by
    have := hp [] .nil
    rw [List.append_nil] at this
    exact this
  | x :: xs, acc, h, hl, hp => by
    obtain ⟨e1, h1, h2, h3⟩ := h x (List.mem_cons_self ..)
    rw [List.length_cons] at hl
    rw [List.map_cons]
    unfold mCompGo
    refine h1 _ (h2 _ ?_)
    rw [if_pos rfl]
    refine h3 _ fun y hy => ⟨by omega, comp_rel (fun z hz => h z (List.mem_cons_of_mem _ hz)) (by rw [List.length_append, List.length_singleton]; omega) fun ys hys => ?_⟩
    have := hp (y :: ys) (.cons hy hys)
    rw [List.append_assoc]
    exact this
end
/-! ### data in rows -/
theorem small_line {n : Nat} (h : n ≤ 1000000) : n < sizeLine := Nat.lt_of_le_of_lt h (by decide)
abbrev lI (ns : List Int) : PV := .lst (ns.map .int)
abbrev tI (ns : List Int) : PV := .tup (ns.map .int)
theorem inP_ints {x : Int} : ∀ {ns : List Int}, inP (.int x) (ns.map .int) = decide (x ∈ ns)
  | [] => rfl
  | n :: ns => by
    have ih := inP_ints (x := x) (ns := ns)
    unfold inP at ih ⊢
    rw [List.map_cons, List.any_cons, ih]
    show (n == x || decide (x ∈ ns)) = decide (x ∈ n :: ns)
    by_cases e : n = x
    · subst e; simp
    · have e' : ¬ x = n := fun z => e z.symm
      simp [e, e']
theorem oIn_ints {neg : Bool} {x : Int} {ns : List Int} {P : PV → Prop} (h : P (.bl (if neg then !decide (x ∈ ns) else decide (x ∈ ns)))) : oIn neg (.int x) (lI ns) P := by
  refine ⟨_, .inl rfl, rfl, ?_, ?_⟩
  · rw [List.all_eq_true]
    intro y hy
    obtain ⟨z, _, rfl⟩ := List.mem_map.mp hy
    rfl
  · rw [inP_ints]; exact h
theorem toDs_map {α : Type} {emb : α → PV} {f : α → PyData} (h : ∀ x, toD (emb x) = some (f x)) : ∀ xs : List α, toDs (xs.map emb) = some (xs.map f)
  | [] => by unfold toDs; rfl
  | x :: xs => by
    rw [List.map_cons, List.map_cons]
    unfold toDs
    rw [h x, toDs_map h xs]
    rfl
theorem lay_map {α : Type} {f : α → PyData} {n : Nat} (h : ∀ x, PyData.canLay0 (f x) = true ∧ PyData.depth (f x) ≤ n) : ∀ xs : List α, PyData.canLayAll0 (xs.map f) = true ∧ PyData.depthAll (xs.map f) ≤ n
  | [] => ⟨rfl, Nat.zero_le _⟩
  | x :: xs => by
    obtain ⟨h1, h2⟩ := lay_map h xs
    obtain ⟨g1, g2⟩ := h x
    constructor
    · show (PyData.canLay0 (f x) && PyData.canLayAll0 _) = true
      rw [h1, g1]; rfl
    · show max (PyData.depth (f x)) (PyData.depthAll _) ≤ n
      exact Nat.max_le.mpr ⟨g2, h2⟩
theorem shaped_map {α : Type} {f : α → PyData} {n : Nat} (h : ∀ x, PyData.canLay0 (f x) = true ∧ PyData.depth (f x) ≤ n) (hn : n < 64) (xs : List α) : SeqAt.shaped (.list (xs.map f)) = true := by
  obtain ⟨h1, h2⟩ := lay_map h xs
  unfold SeqAt.shaped
  rw [show PyData.canLay0 (.list (xs.map f)) = true from h1]
  have : PyData.depth (.list (xs.map f)) ≤ 64 := by
    show PyData.depthAll (xs.map f) + 1 ≤ 64
    omega
  rw [decide_eq_true this]; rfl
theorem eqv_nil (ds : List PyData) : PyData.eqv (.list ds) (.list []) = ds.isEmpty := by cases ds <;> rfl
theorem oEq_nil {α : Type} {emb : α → PV} {f : α → PyData} {n : Nat} {xs : List α} {P : PV → Prop} (h : ∀ x, toD (emb x) = some (f x)) (hs : ∀ x, PyData.canLay0 (f x) = true ∧ PyData.depth (f x) ≤ n) (hn : n < 64) (hp : P (.bl xs.isEmpty)) : oEq (.lst (xs.map emb)) (.lst []) P := by
  refine ⟨.list (xs.map f), .list [], ?_, by unfold toD toDs; rfl, shaped_map hs hn xs, rfl, ?_⟩
  · unfold toD; rw [toDs_map h]; rfl
  · rw [eqv_nil, List.isEmpty_map]; exact hp
theorem oNe_nil {α : Type} {emb : α → PV} {f : α → PyData} {n : Nat} {xs : List α} {P : PV → Prop} (h : ∀ x, toD (emb x) = some (f x)) (hs : ∀ x, PyData.canLay0 (f x) = true ∧ PyData.depth (f x) ≤ n) (hn : n < 64) (hp : P (.bl (!xs.isEmpty))) : oNe (.lst (xs.map emb)) (.lst []) P := by
  refine ⟨.list (xs.map f), .list [], ?_, by unfold toD toDs; rfl, shaped_map hs hn xs, rfl, ?_⟩
  · unfold toD; rw [toDs_map h]; rfl
  · rw [eqv_nil, List.isEmpty_map]; exact hp
theorem oEqI_nil {ns : List Int} {P : PV → Prop} (hp : P (.bl ns.isEmpty)) : oEq (lI ns) (.lst []) P := oEq_nil (f := .int) (n := 0) (fun _ => rfl) (fun _ => ⟨rfl, Nat.le_refl _⟩) (by decide) hp
theorem oNeI_nil {ns : List Int} {P : PV → Prop} (hp : P (.bl (!ns.isEmpty))) : oNe (lI ns) (.lst []) P := oNe_nil (f := .int) (n := 0) (fun _ => rfl) (fun _ => ⟨rfl, Nat.le_refl _⟩) (by decide) hp
theorem oAll_map {α : Type} {xs : List α} {b : α → Bool} {P : PV → Prop} (h : P (.bl (xs.all b))) : oAll [.lst (xs.map fun x => .bl (b x))] P := by
  refine ⟨xs.map b, by rw [List.map_map]; rfl, ?_⟩
  rw [List.all_map]
  exact h
theorem oAny_map {α : Type} {xs : List α} {b : α → Bool} {P : PV → Prop} (h : P (.bl (xs.any b))) : oAny [.lst (xs.map fun x => .bl (b x))] P := by
  refine ⟨xs.map b, by rw [List.map_map]; rfl, ?_⟩
  rw [List.any_map]
  exact h
theorem oSum_map {α : Type} {xs : List α} {b : α → Int} {P : PV → Prop} (h : P (.int (xs.map b).sum)) : oSum [.lst (xs.map fun x => .int (b x))] P := ⟨xs.map b, by rw [List.map_map]; rfl, h⟩
theorem rngP_map {a : Int} {n : Nat} : rngP a n = (List.range n).map fun (i : Nat) => PV.int (a + (i : Int)) := rfl
theorem enumP_map {α : Type} {xs : List α} {emb : α → PV} : enumP (xs.map emb) = (List.range xs.length).map fun i => .tup [.int (i : Nat), (xs.map emb).getD i .non] := by
  unfold enumP; rw [List.length_map]
theorem zipP_map {α β : Type} {xs : List α} {ys : List β} {ea : α → PV} {eb : β → PV} : zipP (xs.map ea) (ys.map eb) = (xs.zip ys).map fun p => .tup [ea p.1, eb p.2] := by
  unfold zipP
  rw [List.zipWith_map, List.zip, List.map_zipWith]
theorem atI_map {α : Type} {xs : List α} {emb : α → PV} {i : Int} : atI (xs.map emb) i = (atI xs i).map emb := by
  unfold atI
  rw [List.length_map]
  cases ixN xs.length i with
  | none => rfl
  | some j => exact List.getElem?_map ..
theorem atI_pos {α : Type} {xs : List α} {i : Nat} (h : i < xs.length) : atI xs (i : Int) = xs[i]? := by
  unfold atI ixN
  rw [if_pos (by omega), if_pos (by omega), Int.toNat_natCast]
  rfl
theorem atI_nn {α : Type} {xs : List α} {i : Int} (h0 : 0 ≤ i) (h : i < xs.length) : atI xs i = xs[i.toNat]? := by
  have e : i = (i.toNat : Int) := by omega
  have l : i.toNat < xs.length := by omega
  have := atI_pos l
  rw [← e] at this
  exact this
theorem atI_last1 {α : Type} {xs : List α} (h : 0 < xs.length) : atI xs (-1) = xs[xs.length - 1]? := by
  unfold atI ixN
  rw [if_neg (by omega), if_pos (by omega)]
  show xs[((-1 : Int) + (xs.length : Int)).toNat]? = _
  rw [show ((-1 : Int) + (xs.length : Int)).toNat = xs.length - 1 by omega]
theorem cutP_map {α : Type} {xs : List α} {emb : α → PV} {a b : Option Int} : cutP (xs.map emb) a b = ((xs.drop (HT.sIx xs.length 0 a)).take (HT.sIx xs.length xs.length b - HT.sIx xs.length 0 a)).map emb := by
  unfold cutP
  rw [List.length_map, List.map_take, List.map_drop]
end PM

set_option maxHeartbeats 1000000
namespace K44
open PySem PySem.Spec PyProof.Rows L2 PM
/-! ### the text -/
def topS (i : Nat) : Stmt := PySem.Challenge.pw_keysapart_k44_whole_schedules_and_stairs.main.body.getD i (.Pass ⟨0, 0, 0, 0⟩)
abbrev s_is_integer : Stmt := topS 1
abbrev n_is_integer : List Str := ["value"]
abbrev p_is_integer : List Str := ["value"]
theorem S_is_integer : FnScope n_is_integer p_is_integer (defScope s_is_integer) := ⟨rfl, rfl, rfl, by decide +kernel, rfl, by decide +kernel, by decide +kernel⟩
abbrev s_is_number : Stmt := topS 2
abbrev n_is_number : List Str := ["value", "most"]
abbrev p_is_number : List Str := ["value", "most"]
theorem S_is_number : FnScope n_is_number p_is_number (defScope s_is_number) := ⟨rfl, rfl, rfl, by decide +kernel, rfl, by decide +kernel, by decide +kernel⟩
abbrev s_is_ascending : Stmt := topS 3
abbrev n_is_ascending : List Str := ["row", "at"]
abbrev p_is_ascending : List Str := ["row"]
theorem S_is_ascending : FnScope n_is_ascending p_is_ascending (defScope s_is_ascending) := ⟨rfl, rfl, rfl, by decide +kernel, rfl, by decide +kernel, by decide +kernel⟩
abbrev s_union_of : Stmt := topS 5
abbrev n_union_of : List Str := ["course", "first", "last", "found", "lot", "house"]
abbrev p_union_of : List Str := ["course", "first", "last"]
theorem S_union_of : FnScope n_union_of p_union_of (defScope s_union_of) := ⟨rfl, rfl, rfl, by decide +kernel, rfl, by decide +kernel, by decide +kernel⟩
abbrev s_is_schedule : Stmt := topS 7
abbrev n_is_schedule : List Str := ["maps", "value", "one"]
abbrev p_is_schedule : List Str := ["maps", "value"]
theorem S_is_schedule : FnScope n_is_schedule p_is_schedule (defScope s_is_schedule) := ⟨rfl, rfl, rfl, by decide +kernel, rfl, by decide +kernel, by decide +kernel⟩
abbrev s_epochs_by : Stmt := topS 8
abbrev n_epochs_by : List Str := ["maps", "schedule", "firsts", "one", "first", "last"]
abbrev p_epochs_by : List Str := ["maps", "schedule"]
theorem S_epochs_by : FnScope n_epochs_by p_epochs_by (defScope s_epochs_by) := ⟨rfl, rfl, rfl, by decide +kernel, rfl, by decide +kernel, by decide +kernel⟩
abbrev s_is_secret_by : Stmt := topS 9
abbrev n_is_secret_by : List Str := ["counted", "t", "schedule", "first", "last"]
abbrev p_is_secret_by : List Str := ["counted", "t", "schedule"]
theorem S_is_secret_by : FnScope n_is_secret_by p_is_secret_by (defScope s_is_secret_by) := ⟨rfl, rfl, rfl, by decide +kernel, rfl, by decide +kernel, by decide +kernel⟩
abbrev s_earliest_firsts : Stmt := topS 10
abbrev n_earliest_firsts : List Str := ["counted", "t", "last", "found", "first"]
abbrev p_earliest_firsts : List Str := ["counted", "t"]
theorem S_earliest_firsts : FnScope n_earliest_firsts p_earliest_firsts (defScope s_earliest_firsts) := ⟨rfl, rfl, rfl, by decide +kernel, rfl, by decide +kernel, by decide +kernel⟩
abbrev s_price_by : Stmt := topS 11
abbrev n_price_by : List Str := ["costs", "schedule", "one"]
abbrev p_price_by : List Str := ["costs", "schedule"]
theorem S_price_by : FnScope n_price_by p_price_by (defScope s_price_by) := ⟨rfl, rfl, rfl, by decide +kernel, rfl, by decide +kernel, by decide +kernel⟩
abbrev s_fewest_schedule : Stmt := topS 12
abbrev n_fewest_schedule : List Str := ["counted", "t", "last", "firsts", "schedule", "first"]
abbrev p_fewest_schedule : List Str := ["counted", "t"]
theorem S_fewest_schedule : FnScope n_fewest_schedule p_fewest_schedule (defScope s_fewest_schedule) := ⟨rfl, rfl, rfl, by decide +kernel, rfl, by decide +kernel, by decide +kernel⟩
abbrev s_stairs : Stmt := topS 14
abbrev n_stairs : List Str := ["counted", "t", "found", "most", "many", "lot"]
abbrev p_stairs : List Str := ["counted"]
theorem S_stairs : FnScope n_stairs p_stairs (defScope s_stairs) := ⟨rfl, rfl, rfl, by decide +kernel, rfl, by decide +kernel, by decide +kernel⟩
abbrev s_l_heap : Stmt := topS 16
abbrev n_l_heap : List Str := ["script", "great", "cell", "cells", "stir"]
abbrev p_l_heap : List Str := ["script"]
theorem S_l_heap : FnScope n_l_heap p_l_heap (defScope s_l_heap) := ⟨rfl, rfl, rfl, by decide +kernel, rfl, by decide +kernel, by decide +kernel⟩
abbrev s_l_draw : Stmt := topS 17
abbrev n_l_draw : List Str := ["heap", "many", "rest"]
abbrev p_l_draw : List Str := ["heap", "many"]
theorem S_l_draw : FnScope n_l_draw p_l_draw (defScope s_l_draw) := ⟨rfl, rfl, rfl, by decide +kernel, rfl, by decide +kernel, by decide +kernel⟩
abbrev s_l_pick : Stmt := topS 18
abbrev n_l_pick : List Str := ["heap", "some"]
abbrev p_l_pick : List Str := ["heap", "some"]
theorem S_l_pick : FnScope n_l_pick p_l_pick (defScope s_l_pick) := ⟨rfl, rfl, rfl, by decide +kernel, rfl, by decide +kernel, by decide +kernel⟩
abbrev s_l_like : Stmt := topS 19
abbrev n_l_like : List Str := ["told", "due", "one", "other"]
abbrev p_l_like : List Str := ["told", "due"]
theorem S_l_like : FnScope n_l_like p_l_like (defScope s_l_like) := ⟨rfl, rfl, rfl, by decide +kernel, rfl, by decide +kernel, by decide +kernel⟩
abbrev s_l_some : Stmt := topS 20
abbrev n_l_some : List Str := ["heap", "pool", "many", "turn", "left", "found", "place"]
abbrev p_l_some : List Str := ["heap", "pool", "many"]
theorem S_l_some : FnScope n_l_some p_l_some (defScope s_l_some) := ⟨rfl, rfl, rfl, by decide +kernel, rfl, by decide +kernel, by decide +kernel⟩
abbrev s_l_counted : Stmt := topS 21
abbrev n_l_counted : List Str := ["heap", "maps", "many", "pool", "lots", "lot", "turn", "house"]
abbrev p_l_counted : List Str := ["heap", "maps"]
theorem S_l_counted : FnScope n_l_counted p_l_counted (defScope s_l_counted) := ⟨rfl, rfl, rfl, by decide +kernel, rfl, by decide +kernel, by decide +kernel⟩
abbrev s_l_epochs : Stmt := topS 22
abbrev n_l_epochs : List Str := ["maps", "schedule", "last", "found", "first"]
abbrev p_l_epochs : List Str := ["maps", "schedule"]
theorem S_l_epochs : FnScope n_l_epochs p_l_epochs (defScope s_l_epochs) := ⟨rfl, rfl, rfl, by decide +kernel, rfl, by decide +kernel, by decide +kernel⟩
abbrev s_l_is_secret : Stmt := topS 23
abbrev n_l_is_secret : List Str := ["counted", "t", "epochs", "first", "last", "seen", "lot", "house"]
abbrev p_l_is_secret : List Str := ["counted", "t", "epochs"]
theorem S_l_is_secret : FnScope n_l_is_secret p_l_is_secret (defScope s_l_is_secret) := ⟨rfl, rfl, rfl, by decide +kernel, rfl, by decide +kernel, by decide +kernel⟩
abbrev s_l_fewest : Stmt := topS 24
abbrev n_l_fewest : List Str := ["counted", "t", "found", "seen", "last", "lot", "fresh", "house"]
abbrev p_l_fewest : List Str := ["counted", "t"]
theorem S_l_fewest : FnScope n_l_fewest p_l_fewest (defScope s_l_fewest) := ⟨rfl, rfl, rfl, by decide +kernel, rfl, by decide +kernel, by decide +kernel⟩
abbrev s_l_stairs : Stmt := topS 25
abbrev n_l_stairs : List Str := ["counted", "turn", "found", "t", "many", "lot"]
abbrev p_l_stairs : List Str := ["counted"]
theorem S_l_stairs : FnScope n_l_stairs p_l_stairs (defScope s_l_stairs) := ⟨rfl, rfl, rfl, by decide +kernel, rfl, by decide +kernel, by decide +kernel⟩
abbrev s_l_bent : Stmt := topS 26
abbrev n_l_bent : List Str := ["heap", "schedule", "maps", "row", "which", "at"]
abbrev p_l_bent : List Str := ["heap", "schedule", "maps"]
theorem S_l_bent : FnScope n_l_bent p_l_bent (defScope s_l_bent) := ⟨rfl, rfl, rfl, by decide +kernel, rfl, by decide +kernel, by decide +kernel⟩
abbrev s_law : Stmt := topS 27
abbrev n_law : List Str := ["script", "heap", "maps", "counted", "great", "costs", "turn", "schedule", "epochs", "t", "value", "due", "lot", "one"]
abbrev p_law : List Str := ["script"]
theorem S_law : FnScope n_law p_law (defScope s_law) := ⟨rfl, rfl, rfl, by decide +kernel, rfl, by decide +kernel, by decide +kernel⟩
/-- what the top has written -/
structure Tx (K : PySem.W.Frag) (mg : Str → Option Value) : Type where
  a_is_integer : Addr
  d_is_integer : FuncData
  f_is_integer : FunD K "is_integer" "is_integer" (defArgs s_is_integer) (defBody s_is_integer) (defScope s_is_integer) [] [] a_is_integer d_is_integer
  m_is_integer : mg "is_integer" = some (.ref a_is_integer)
  b_is_integer : Binds K d_is_integer p_is_integer []
  a_is_number : Addr
  d_is_number : FuncData
  f_is_number : FunD K "is_number" "is_number" (defArgs s_is_number) (defBody s_is_number) (defScope s_is_number) [V.non] [] a_is_number d_is_number
  m_is_number : mg "is_number" = some (.ref a_is_number)
  u_is_number1 : List Value
  b_is_number1 : Binds K d_is_number p_is_number u_is_number1
  v_is_number1 : Vals [V.non] u_is_number1
  a_is_ascending : Addr
  d_is_ascending : FuncData
  f_is_ascending : FunD K "is_ascending" "is_ascending" (defArgs s_is_ascending) (defBody s_is_ascending) (defScope s_is_ascending) [] [] a_is_ascending d_is_ascending
  m_is_ascending : mg "is_ascending" = some (.ref a_is_ascending)
  b_is_ascending : Binds K d_is_ascending p_is_ascending []
  a_union_of : Addr
  d_union_of : FuncData
  f_union_of : FunD K "union_of" "union_of" (defArgs s_union_of) (defBody s_union_of) (defScope s_union_of) [] [] a_union_of d_union_of
  m_union_of : mg "union_of" = some (.ref a_union_of)
  b_union_of : Binds K d_union_of p_union_of []
  a_is_schedule : Addr
  d_is_schedule : FuncData
  f_is_schedule : FunD K "is_schedule" "is_schedule" (defArgs s_is_schedule) (defBody s_is_schedule) (defScope s_is_schedule) [] [] a_is_schedule d_is_schedule
  m_is_schedule : mg "is_schedule" = some (.ref a_is_schedule)
  b_is_schedule : Binds K d_is_schedule p_is_schedule []
  a_epochs_by : Addr
  d_epochs_by : FuncData
  f_epochs_by : FunD K "epochs_by" "epochs_by" (defArgs s_epochs_by) (defBody s_epochs_by) (defScope s_epochs_by) [] [] a_epochs_by d_epochs_by
  m_epochs_by : mg "epochs_by" = some (.ref a_epochs_by)
  b_epochs_by : Binds K d_epochs_by p_epochs_by []
  a_is_secret_by : Addr
  d_is_secret_by : FuncData
  f_is_secret_by : FunD K "is_secret_by" "is_secret_by" (defArgs s_is_secret_by) (defBody s_is_secret_by) (defScope s_is_secret_by) [] [] a_is_secret_by d_is_secret_by
  m_is_secret_by : mg "is_secret_by" = some (.ref a_is_secret_by)
  b_is_secret_by : Binds K d_is_secret_by p_is_secret_by []
  a_earliest_firsts : Addr
  d_earliest_firsts : FuncData
  f_earliest_firsts : FunD K "earliest_firsts" "earliest_firsts" (defArgs s_earliest_firsts) (defBody s_earliest_firsts) (defScope s_earliest_firsts) [] [] a_earliest_firsts d_earliest_firsts
  m_earliest_firsts : mg "earliest_firsts" = some (.ref a_earliest_firsts)
  b_earliest_firsts : Binds K d_earliest_firsts p_earliest_firsts []
  a_price_by : Addr
  d_price_by : FuncData
  f_price_by : FunD K "price_by" "price_by" (defArgs s_price_by) (defBody s_price_by) (defScope s_price_by) [] [] a_price_by d_price_by
  m_price_by : mg "price_by" = some (.ref a_price_by)
  b_price_by : Binds K d_price_by p_price_by []
  a_fewest_schedule : Addr
  d_fewest_schedule : FuncData
  f_fewest_schedule : FunD K "fewest_schedule" "fewest_schedule" (defArgs s_fewest_schedule) (defBody s_fewest_schedule) (defScope s_fewest_schedule) [] [] a_fewest_schedule d_fewest_schedule
  m_fewest_schedule : mg "fewest_schedule" = some (.ref a_fewest_schedule)
  b_fewest_schedule : Binds K d_fewest_schedule p_fewest_schedule []
  a_stairs : Addr
  d_stairs : FuncData
  f_stairs : FunD K "stairs" "stairs" (defArgs s_stairs) (defBody s_stairs) (defScope s_stairs) [] [] a_stairs d_stairs
  m_stairs : mg "stairs" = some (.ref a_stairs)
  b_stairs : Binds K d_stairs p_stairs []
  a_l_heap : Addr
  d_l_heap : FuncData
  f_l_heap : FunD K "_law_heap" "_law_heap" (defArgs s_l_heap) (defBody s_l_heap) (defScope s_l_heap) [] [] a_l_heap d_l_heap
  m_l_heap : mg "_law_heap" = some (.ref a_l_heap)
  b_l_heap : Binds K d_l_heap p_l_heap []
  a_l_draw : Addr
  d_l_draw : FuncData
  f_l_draw : FunD K "_law_draw" "_law_draw" (defArgs s_l_draw) (defBody s_l_draw) (defScope s_l_draw) [] [] a_l_draw d_l_draw
  m_l_draw : mg "_law_draw" = some (.ref a_l_draw)
  b_l_draw : Binds K d_l_draw p_l_draw []
  a_l_pick : Addr
  d_l_pick : FuncData
  f_l_pick : FunD K "_law_pick" "_law_pick" (defArgs s_l_pick) (defBody s_l_pick) (defScope s_l_pick) [] [] a_l_pick d_l_pick
  m_l_pick : mg "_law_pick" = some (.ref a_l_pick)
  b_l_pick : Binds K d_l_pick p_l_pick []
  a_l_like : Addr
  d_l_like : FuncData
  f_l_like : FunD K "_law_like" "_law_like" (defArgs s_l_like) (defBody s_l_like) (defScope s_l_like) [] [] a_l_like d_l_like
  m_l_like : mg "_law_like" = some (.ref a_l_like)
  b_l_like : Binds K d_l_like p_l_like []
  a_l_some : Addr
  d_l_some : FuncData
  f_l_some : FunD K "_law_some" "_law_some" (defArgs s_l_some) (defBody s_l_some) (defScope s_l_some) [] [] a_l_some d_l_some
  m_l_some : mg "_law_some" = some (.ref a_l_some)
  b_l_some : Binds K d_l_some p_l_some []
  a_l_counted : Addr
  d_l_counted : FuncData
  f_l_counted : FunD K "_law_counted" "_law_counted" (defArgs s_l_counted) (defBody s_l_counted) (defScope s_l_counted) [] [] a_l_counted d_l_counted
  m_l_counted : mg "_law_counted" = some (.ref a_l_counted)
  b_l_counted : Binds K d_l_counted p_l_counted []
  a_l_epochs : Addr
  d_l_epochs : FuncData
  f_l_epochs : FunD K "_law_epochs" "_law_epochs" (defArgs s_l_epochs) (defBody s_l_epochs) (defScope s_l_epochs) [] [] a_l_epochs d_l_epochs
  m_l_epochs : mg "_law_epochs" = some (.ref a_l_epochs)
  b_l_epochs : Binds K d_l_epochs p_l_epochs []
  a_l_is_secret : Addr
  d_l_is_secret : FuncData
  f_l_is_secret : FunD K "_law_is_secret" "_law_is_secret" (defArgs s_l_is_secret) (defBody s_l_is_secret) (defScope s_l_is_secret) [] [] a_l_is_secret d_l_is_secret
  m_l_is_secret : mg "_law_is_secret" = some (.ref a_l_is_secret)
  b_l_is_secret : Binds K d_l_is_secret p_l_is_secret []
  a_l_fewest : Addr
  d_l_fewest : FuncData
  f_l_fewest : FunD K "_law_fewest" "_law_fewest" (defArgs s_l_fewest) (defBody s_l_fewest) (defScope s_l_fewest) [] [] a_l_fewest d_l_fewest
  m_l_fewest : mg "_law_fewest" = some (.ref a_l_fewest)
  b_l_fewest : Binds K d_l_fewest p_l_fewest []
  a_l_stairs : Addr
  d_l_stairs : FuncData
  f_l_stairs : FunD K "_law_stairs" "_law_stairs" (defArgs s_l_stairs) (defBody s_l_stairs) (defScope s_l_stairs) [] [] a_l_stairs d_l_stairs
  m_l_stairs : mg "_law_stairs" = some (.ref a_l_stairs)
  b_l_stairs : Binds K d_l_stairs p_l_stairs []
  a_l_bent : Addr
  d_l_bent : FuncData
  f_l_bent : FunD K "_law_bent" "_law_bent" (defArgs s_l_bent) (defBody s_l_bent) (defScope s_l_bent) [] [] a_l_bent d_l_bent
  m_l_bent : mg "_law_bent" = some (.ref a_l_bent)
  b_l_bent : Binds K d_l_bent p_l_bent []
  a_law : Addr
  d_law : FuncData
  f_law : FunD K "law" "law" (defArgs s_law) (defBody s_law) (defScope s_law) [] [] a_law d_law
  m_law : mg "law" = some (.ref a_law)
  z_abs : mg "abs" = none
  z_all : mg "all" = none
  z_bool : mg "bool" = none
  z_enumerate : mg "enumerate" = none
  z_int : mg "int" = none
  z_isinstance : mg "isinstance" = none
  z_len : mg "len" = none
  z_list : mg "list" = none
  z_max : mg "max" = none
  z_min : mg "min" = none
  z_range : mg "range" = none
  z_sorted : mg "sorted" = none
  z_str : mg "str" = none
  z_sum : mg "sum" = none
  z_tuple : mg "tuple" = none
  z_zip : mg "zip" = none
section
variable {P : Program} {w : World} {K : PySem.W.Frag} {mg : Str → Option Value} {base : Heap}
def t_is_integer : TSm :=
  (sRet (mAndV (mOp1 (oIsi "int") (mVar 0)) (mOp1 oNot (mOp1 (oIsi "bool") (mVar 0)))))
theorem w_is_integer (T : Tx K mg) (cdv : Value) (A : Around) (outer : List PySem.Env) (s : Shared) (H : Hp) (E : XK)
    (hr : Room 0 (A.deeper (PyProof.Rows.envOfC "is_integer" (defScope s_is_integer) s.heap.objs.size T.a_is_integer cdv))) :
    ∃ c', PSsm (bodyX P w K mg base n_is_integer "is_integer" s_is_integer T.a_is_integer cdv A outer s H E) ⟨.cl, false, []⟩ (shs 1) c' (defBody s_is_integer) (t_is_integer) :=
  ⟨[.sh], (sm_one (sm_ret (em_and (PEm.ow (em_isi "int" (PEm.ow (em_var 0)) (by rfl) T.z_isinstance (by rfl) T.z_int PyProof.Rows.boot_int)) (em_one (em_not (PEm.ow (em_isi "bool" (PEm.ow (em_var 0)) (by rfl) T.z_isinstance (by rfl) T.z_bool PyProof.Rows.boot_bool)))))))⟩
def t_is_number (sp_is_integer : PM.Spec) : TSm :=
  (sRet (mAndV (mCall sp_is_integer [] (mCons (mVar 0) mNil)) (mAndV (mOp oGe (mVar 0) (mC (.int 0))) (mOrV (mOp oIsN (mVar 1) (mC (.non))) (mOp oLe (mVar 0) (mVar 1))))))
theorem w_is_number (T : Tx K mg) (sp_is_integer : PM.Spec)
    (F_is_integer : FnOk P w K mg base CX0 1 T.a_is_integer T.d_is_integer p_is_integer (spM K .cl sp_is_integer)) (cdv : Value) (A : Around) (outer : List PySem.Env) (s : Shared) (H : Hp) (E : XK)
    (hr : Room 1 (A.deeper (PyProof.Rows.envOfC "is_number" (defScope s_is_number) s.heap.objs.size T.a_is_number cdv))) :
    ∃ c', PSsm (bodyX P w K mg base n_is_number "is_number" s_is_number T.a_is_number cdv A outer s H E) ⟨.cl, false, []⟩ (shs 2) c' (defBody s_is_number) (t_is_number sp_is_integer) :=
  ⟨[.sh, .sh], (sm_one (sm_ret (em_and (PEm.ow (em_call F_is_integer (hr.mono (by decide)) T.m_is_integer T.f_is_integer.kp T.b_is_integer .nil (fun _ => Rps.nil) (am_consC (em_var 0) am_nil))) (em_and (PEm.ow (em_cmp op_ge lift_ge (PEm.ow (em_var 0)) (PEm.ow em_int) (nomark _))) (em_one (em_or (PEm.ow (em_cmp op_isN lift_isN (PEm.ow (em_var 1)) (PEm.ow em_non) (nomark _))) (em_one (em_cmp op_le lift_le (PEm.ow (em_var 0)) (PEm.ow (em_var 1)) (nomark _)))))))))⟩
def t_is_ascending : TSm :=
  (sRet (mB oAll (mCons (mLc (mRng2 (mC (.int 1)) (mB oLen (mCons (mVar 0) mNil))) [1] (gmN 1) mYes (mOp oLt (mOp oIx (mVar 0) (mOp oSub (mVar 1) (mC (.int 1)))) (mOp oIx (mVar 0) (mVar 1)))) mNil)))
theorem w_is_ascending (T : Tx K mg) (cdv : Value) (A : Around) (outer : List PySem.Env) (s : Shared) (H : Hp) (E : XK)
    (hr : Room 0 (A.deeper (PyProof.Rows.envOfC "is_ascending" (defScope s_is_ascending) s.heap.objs.size T.a_is_ascending cdv))) :
    ∃ c', PSsm (bodyX P w K mg base n_is_ascending "is_ascending" s_is_ascending T.a_is_ascending cdv A outer s H E) ⟨.cl, false, []⟩ (shs 2) c' (defBody s_is_ascending) (t_is_ascending) :=
  ⟨[.sh, .sh], (sm_one (sm_ret (em_callB (cr_all rfl) lift_all (by rfl) T.z_all PyProof.Rows.boot_all (am_cons (PEm.ow (em_lc (own := [("at", 1)]) rfl S_is_ascending.nd (im_rng2 T.z_range (PEm.ow em_int) (PEm.ow (em_callB call_lenA lift_len (by rfl) T.z_len PySem.boot_len (am_cons (PEm.ow (em_var 0)) am_nil)))) (blkOk_by (N := n_is_ascending) (sc := defScope s_is_ascending) (by decide +kernel)) (fun _ _ _ _ _ => (gm_name 1 S_is_ascending.nd)) (fun _ _ _ _ _ => tsm_nil) (fun _ _ _ _ _ => (em_cmp op_lt lift_lt (PEm.ow (em_ix (PEm.ow (em_var 0)) (PEm.ow (em_op op_sub lift_sub (PEm.ow (em_var 1)) (PEm.ow em_int))) (fun _ _ => rfl))) (PEm.ow (em_ix (PEm.ow (em_var 0)) (PEm.ow (em_var 1)) (fun _ _ => rfl))) (nomark _))))) am_nil))))⟩
def t_union_of : TSm :=
  (sSeq (sSet 3 (mC (.dic [] []))) (sSeq (sFor (mItems (mSl oSl (mVar 0) (mPart (mVar 1)) (mPart (mOp oAdd (mVar 2) (mC (.int 1)))))) (gmN 4) (sFor (mItems (mVar 4)) (gmN 5) (sDPutm 3 (mVar 5) (mC (.bl true))))) (sRet (mB oTuple (mCons (mB oSorted (mCons (mVarO 3) mNil)) mNil)))))
theorem w_union_of (T : Tx K mg) (cdv : Value) (A : Around) (outer : List PySem.Env) (s : Shared) (H : Hp) (E : XK)
    (hr : Room 0 (A.deeper (PyProof.Rows.envOfC "union_of" (defScope s_union_of) s.heap.objs.size T.a_union_of cdv))) :
    ∃ c', PSsm (bodyX P w K mg base n_union_of "union_of" s_union_of T.a_union_of cdv A outer s H E) ⟨.cl, false, []⟩ (shs 6) c' (defBody s_union_of) (t_union_of) :=
  ⟨[.sh, .sh, .sh, .sh, .sh, .sh], (sm_cons (sm_setF 3 S_union_of.nd em_dnew)
    (sm_cons (sm_for (c := [.sh, .sh, .sh, .ow, .sh, .sh]) .never rfl (im_seq (em_sl (PEm.ow (em_var 0)) (om_some (PEm.ow (em_var 1))) (om_some (PEm.ow (em_op op_plus lift_plus (PEm.ow (em_var 2)) (PEm.ow em_int)))))) (gm_name 4 S_union_of.nd) (sm_one (sm_for (c := [.sh, .sh, .sh, .ow, .sh, .sh]) .never rfl (im_seq (em_var 4)) (gm_name 5 S_union_of.nd) (sm_one (sm_dput 3 (hu_of hr) em_bl (PEm.ow (em_var 5)))) (fun _ e => by cases e))) (fun _ e => by cases e))
    (sm_one (sm_ret (em_callTy call_tuple_of lift_tuple (by rfl) T.z_tuple PyProof.Rows.boot_tuple (am_cons (PEm.ow (em_callB (call_sortedA rfl) lift_sorted (by rfl) T.z_sorted PyProof.Rows.boot_sorted (am_cons (em_varO 3) am_nil))) am_nil))))))⟩
def t_is_schedule (sp_is_ascending : PM.Spec) (sp_is_number : PM.Spec) : TSm :=
  (sSeq (sIf (mOr (mNot (mTB (mOp1 (oIsi "tuple") (mVar 1)))) (mNot (mTB (mB oAll (mCons (mLc (mItems (mVar 1)) [2] (gmN 2) mYes (mAndV (mCall sp_is_number [.non] (mCons (mVar 2) mNil)) (mOp oLt (mVar 2) (mOp oSub (mVar 0) (mC (.int 1)))))) mNil))))) (sRet (mC (.bl false))) sNext) (sRet (mCall sp_is_ascending [] (mCons (mVar 1) mNil))))
theorem w_is_schedule (T : Tx K mg) (sp_is_ascending : PM.Spec) (sp_is_number : PM.Spec)
    (F_is_ascending : FnOk P w K mg base CX0 1 T.a_is_ascending T.d_is_ascending p_is_ascending (spM K .cl sp_is_ascending))
    (F_is_number : FnOk P w K mg base CX0 2 T.a_is_number T.d_is_number p_is_number (spM K .cl sp_is_number)) (cdv : Value) (A : Around) (outer : List PySem.Env) (s : Shared) (H : Hp) (E : XK)
    (hr : Room 2 (A.deeper (PyProof.Rows.envOfC "is_schedule" (defScope s_is_schedule) s.heap.objs.size T.a_is_schedule cdv))) :
    ∃ c', PSsm (bodyX P w K mg base n_is_schedule "is_schedule" s_is_schedule T.a_is_schedule cdv A outer s H E) ⟨.cl, false, []⟩ (shs 3) c' (defBody s_is_schedule) (t_is_schedule sp_is_ascending sp_is_number) :=
  ⟨[.sh, .sh, .sh], (sm_cons (sm_if (c' := [.sh, .sh, .sh]) (PWm.pt (wm_or (tm_not (tm_val (PEm.ow (em_isi "tuple" (PEm.ow (em_var 1)) (by rfl) T.z_isinstance (by rfl) T.z_tuple PyProof.Rows.boot_tuple)))) (wm_or1 (tm_not (tm_val (PEm.ow (em_callB (cr_all rfl) lift_all (by rfl) T.z_all PyProof.Rows.boot_all (am_cons (PEm.ow (em_lc (own := [("one", 2)]) rfl S_is_schedule.nd (im_seq (em_var 1)) (blkOk_by (N := n_is_schedule) (sc := defScope s_is_schedule) (by decide +kernel)) (fun _ _ _ _ _ => (gm_name 2 S_is_schedule.nd)) (fun _ _ _ _ _ => tsm_nil) (fun _ _ _ _ _ => (em_and (PEm.ow (em_call F_is_number (hr.mono (by decide)) T.m_is_number T.f_is_number.kp T.b_is_number1 T.v_is_number1 (cst_ok _ rfl) (am_consC (em_var 2) am_nil))) (em_one (em_cmp op_lt lift_lt (PEm.ow (em_var 2)) (PEm.ow (em_op op_sub lift_sub (PEm.ow (em_var 0)) (PEm.ow em_int))) (nomark _))))))) am_nil)))))))) (sm_one (sm_ret em_bl)) sm_nil)
    (sm_one (sm_ret (em_call F_is_ascending (hr.mono (by decide)) T.m_is_ascending T.f_is_ascending.kp T.b_is_ascending .nil (fun _ => Rps.nil) (am_consC (em_var 1) am_nil)))))⟩
def t_epochs_by : TSm :=
  (sSeq (sSet 2 (mOp oAdd (mTup (mCons (mC (.int 0)) mNil)) (mB oTuple (mCons (mLc (mItems (mVar 1)) [3] (gmN 3) mYes (mOp oAdd (mVar 3) (mC (.int 1)))) mNil)))) (sRet (mB oTuple (mCons (mLc (mZip (mVar 2) (mOp oAdd (mVar 1) (mTup (mCons (mOp oSub (mVar 0) (mC (.int 1))) mNil)))) [4, 5] (gmT 2 (gmCons (gmN 4) (gmCons (gmN 5) gmNil))) mYes (mTup (mCons (mVar 4) (mCons (mVar 5) mNil)))) mNil))))
theorem w_epochs_by (T : Tx K mg) (cdv : Value) (A : Around) (outer : List PySem.Env) (s : Shared) (H : Hp) (E : XK)
    (hr : Room 0 (A.deeper (PyProof.Rows.envOfC "epochs_by" (defScope s_epochs_by) s.heap.objs.size T.a_epochs_by cdv))) :
    ∃ c', PSsm (bodyX P w K mg base n_epochs_by "epochs_by" s_epochs_by T.a_epochs_by cdv A outer s H E) ⟨.cl, false, []⟩ (shs 6) c' (defBody s_epochs_by) (t_epochs_by) :=
  ⟨[.sh, .sh, .sh, .sh, .sh, .sh], (sm_cons (sm_set 2 S_epochs_by.nd (em_op op_plus lift_plus (PEm.ow (em_tup (am_consC em_int am_nil))) (PEm.ow (em_callTy call_tuple_of lift_tuple (by rfl) T.z_tuple PyProof.Rows.boot_tuple (am_cons (PEm.ow (em_lc (own := [("one", 3)]) rfl S_epochs_by.nd (im_seq (em_var 1)) (blkOk_by (N := n_epochs_by) (sc := defScope s_epochs_by) (by decide +kernel)) (fun _ _ _ _ _ => (gm_name 3 S_epochs_by.nd)) (fun _ _ _ _ _ => tsm_nil) (fun _ _ _ _ _ => (em_op op_plus lift_plus (PEm.ow (em_var 3)) (PEm.ow em_int))))) am_nil)))))
    (sm_one (sm_ret (em_callTy call_tuple_of lift_tuple (by rfl) T.z_tuple PyProof.Rows.boot_tuple (am_cons (PEm.ow (em_lc (own := [("first", 4), ("last", 5)]) rfl S_epochs_by.nd (im_zip T.z_zip (em_var 2) (em_op op_plus lift_plus (PEm.ow (em_var 1)) (PEm.ow (em_tup (am_consC (em_op op_sub lift_sub (PEm.ow (em_var 0)) (PEm.ow em_int)) am_nil))))) (blkOk_by (N := n_epochs_by) (sc := defScope s_epochs_by) (by decide +kernel)) (fun _ _ _ _ _ => (gm_tup rfl (gsm_cons (gm_name 4 S_epochs_by.nd) (gsm_cons (gm_name 5 S_epochs_by.nd) gsm_nil)))) (fun _ _ _ _ _ => tsm_nil) (fun _ _ _ _ _ => (em_tup (am_consC (em_var 4) (am_consC (em_var 5) am_nil)))))) am_nil)))))⟩
def t_is_secret_by (sp_epochs_by : PM.Spec) (sp_union_of : PM.Spec) : TSm :=
  (sRet (mB oAll (mCons (mLc (mItems (mCall sp_epochs_by [] (mCons (mB oLen (mCons (mVar 0) mNil)) (mCons (mVar 2) mNil)))) [3, 4] (gmT 2 (gmCons (gmN 3) (gmCons (gmN 4) gmNil))) mYes (mOp oLe (mB oLen (mCons (mCall sp_union_of [] (mCons (mVar 0) (mCons (mVar 3) (mCons (mVar 4) mNil)))) mNil)) (mVar 1))) mNil)))
theorem w_is_secret_by (T : Tx K mg) (sp_epochs_by : PM.Spec) (sp_union_of : PM.Spec)
    (F_epochs_by : FnOk P w K mg base CX0 1 T.a_epochs_by T.d_epochs_by p_epochs_by (spM K .cl sp_epochs_by))
    (F_union_of : FnOk P w K mg base CX0 1 T.a_union_of T.d_union_of p_union_of (spM K .cl sp_union_of)) (cdv : Value) (A : Around) (outer : List PySem.Env) (s : Shared) (H : Hp) (E : XK)
    (hr : Room 1 (A.deeper (PyProof.Rows.envOfC "is_secret_by" (defScope s_is_secret_by) s.heap.objs.size T.a_is_secret_by cdv))) :
    ∃ c', PSsm (bodyX P w K mg base n_is_secret_by "is_secret_by" s_is_secret_by T.a_is_secret_by cdv A outer s H E) ⟨.cl, false, []⟩ (shs 5) c' (defBody s_is_secret_by) (t_is_secret_by sp_epochs_by sp_union_of) :=
  ⟨[.sh, .sh, .sh, .sh, .sh], (sm_one (sm_ret (em_callB (cr_all rfl) lift_all (by rfl) T.z_all PyProof.Rows.boot_all (am_cons (PEm.ow (em_lc (own := [("first", 3), ("last", 4)]) rfl S_is_secret_by.nd (im_seq (em_call F_epochs_by (hr.mono (by decide)) T.m_epochs_by T.f_epochs_by.kp T.b_epochs_by .nil (fun _ => Rps.nil) (am_consC (em_callB call_lenA lift_len (by rfl) T.z_len PySem.boot_len (am_cons (PEm.ow (em_var 0)) am_nil)) (am_consC (em_var 2) am_nil)))) (blkOk_by (N := n_is_secret_by) (sc := defScope s_is_secret_by) (by decide +kernel)) (fun _ _ _ _ _ => (gm_tup rfl (gsm_cons (gm_name 3 S_is_secret_by.nd) (gsm_cons (gm_name 4 S_is_secret_by.nd) gsm_nil)))) (fun _ _ _ _ _ => tsm_nil) (fun _ _ _ _ _ => (em_cmp op_le lift_le (PEm.ow (em_callB call_lenA lift_len (by rfl) T.z_len PySem.boot_len (am_cons (PEm.ow (em_call F_union_of (hr.mono (by decide)) T.m_union_of T.f_union_of.kp T.b_union_of .nil (fun _ => Rps.nil) (am_consC (em_var 0) (am_consC (em_var 3) (am_consC (em_var 4) am_nil))))) am_nil))) (PEm.ow (em_var 1)) (nomark _))))) am_nil))))⟩
def t_earliest_firsts (sp_union_of : PM.Spec) : TSm :=
  (sSeq (sPar [3, 4] (mCons (mLst mNil) (mCons (mC (.int 0)) mNil))) (sSeq (sFor (mRng1 (mB oLen (mCons (mVar 0) mNil))) (gmN 2) (sSeq (sWhile (mAnd (mTB (mOp oLe (mVar 4) (mVar 2))) (mTB (mOp oGt (mB oLen (mCons (mCall sp_union_of [] (mCons (mVar 0) (mCons (mVar 4) (mCons (mVar 2) mNil)))) mNil)) (mVar 1)))) (sAug 4 oAddI (mC (.int 1)))) (sApp 3 (mIf (mTB (mOp oLe (mVar 4) (mVar 2))) (mVar 4) (mC (.non)))))) (sRet (mB oTuple (mCons (mVarO 3) mNil)))))
theorem w_earliest_firsts (T : Tx K mg) (sp_union_of : PM.Spec)
    (F_union_of : FnOk P w K mg base CX0 1 T.a_union_of T.d_union_of p_union_of (spM K .cl sp_union_of)) (cdv : Value) (A : Around) (outer : List PySem.Env) (s : Shared) (H : Hp) (E : XK)
    (hr : Room 1 (A.deeper (PyProof.Rows.envOfC "earliest_firsts" (defScope s_earliest_firsts) s.heap.objs.size T.a_earliest_firsts cdv))) :
    ∃ c', PSsm (bodyX P w K mg base n_earliest_firsts "earliest_firsts" s_earliest_firsts T.a_earliest_firsts cdv A outer s H E) ⟨.cl, false, []⟩ (shs 5) c' (defBody s_earliest_firsts) (t_earliest_firsts sp_union_of) :=
  ⟨[.sh, .sh, .sh, .sh, .sh], (sm_cons (sm_par [3, 4] rfl S_earliest_firsts.nd (xm_fr (em_lst am_nil) (xm_cl em_int xm_nil)))
    (sm_cons (sm_for (c := [.sh, .sh, .sh, .ow, .sh]) .never rfl (im_rng1 T.z_range (PEm.ow (em_callB call_lenA lift_len (by rfl) T.z_len PySem.boot_len (am_cons (PEm.ow (em_var 0)) am_nil)))) (gm_name 2 S_earliest_firsts.nd) (sm_cons (sm_while (c := [.sh, .sh, .sh, .ow, .sh]) .never (PWm.pt (wm_and (tm_cmp op_le lift_le (PEm.ow (em_var 4)) (PEm.ow (em_var 2)) (nomark _)) (wm_and1 (tm_cmp op_gt lift_gt (PEm.ow (em_callB call_lenA lift_len (by rfl) T.z_len PySem.boot_len (am_cons (PEm.ow (em_call F_union_of (hr.mono (by decide)) T.m_union_of T.f_union_of.kp T.b_union_of .nil (fun _ => Rps.nil) (am_consC (em_var 0) (am_consC (em_var 4) (am_consC (em_var 2) am_nil))))) am_nil))) (PEm.ow (em_var 1)) (nomark _))))) (sm_one (sm_aug 4 iop_add lift_addI S_earliest_firsts.nd (PEm.ow em_int))))
    (sm_one (sm_app 3 (em_if (tm_cmp op_le lift_le (PEm.ow (em_var 4)) (PEm.ow (em_var 2)) (nomark _)) (em_var 4) em_non)))) (fun _ e => by cases e))
    (sm_one (sm_ret (em_callTy call_tuple_of lift_tuple (by rfl) T.z_tuple PyProof.Rows.boot_tuple (am_cons (em_varO 3) am_nil))))))⟩
def t_price_by : TSm :=
  (sRet (mB oSum (mCons (mLc (mItems (mVar 1)) [2] (gmN 2) mYes (mOp oIx (mVar 0) (mVar 2))) mNil)))
theorem w_price_by (T : Tx K mg) (cdv : Value) (A : Around) (outer : List PySem.Env) (s : Shared) (H : Hp) (E : XK)
    (hr : Room 0 (A.deeper (PyProof.Rows.envOfC "price_by" (defScope s_price_by) s.heap.objs.size T.a_price_by cdv))) :
    ∃ c', PSsm (bodyX P w K mg base n_price_by "price_by" s_price_by T.a_price_by cdv A outer s H E) ⟨.cl, false, []⟩ (shs 3) c' (defBody s_price_by) (t_price_by) :=
  ⟨[.sh, .sh, .sh], (sm_one (sm_ret (em_callB (cr_sum rfl) lift_sum (by rfl) T.z_sum PyProof.Rows.boot_sum (am_cons (PEm.ow (em_lc (own := [("one", 2)]) rfl S_price_by.nd (im_seq (em_var 1)) (blkOk_by (N := n_price_by) (sc := defScope s_price_by) (by decide +kernel)) (fun _ _ _ _ _ => (gm_name 2 S_price_by.nd)) (fun _ _ _ _ _ => tsm_nil) (fun _ _ _ _ _ => (em_ix (PEm.ow (em_var 0)) (PEm.ow (em_var 2)) (fun _ _ => rfl))))) am_nil))))⟩
def t_fewest_schedule (sp_earliest_firsts : PM.Spec) : TSm :=
  (sSeq (sPar [3, 4, 5] (mCons (mCall sp_earliest_firsts [] (mCons (mVar 0) (mCons (mVar 1) mNil))) (mCons (mLst mNil) (mCons (mC (.int 0)) mNil)))) (sSeq (sIf (mTB (mOp (oIn false) (mC (.non)) (mVar 3))) (sRet (mC (.non))) sNext) (sSeq (sFor (mRng2 (mC (.int 1)) (mB oLen (mCons (mVar 0) mNil))) (gmN 2) (sIf (mTB (mOp oGt (mOp oIx (mVar 3) (mVar 2)) (mVar 5))) (sSeq (sSet 5 (mVar 2)) (sApp 4 (mOp oSub (mVar 2) (mC (.int 1))))) sNext)) (sRet (mB oTuple (mCons (mVarO 4) mNil))))))
theorem w_fewest_schedule (T : Tx K mg) (sp_earliest_firsts : PM.Spec)
    (F_earliest_firsts : FnOk P w K mg base CX0 2 T.a_earliest_firsts T.d_earliest_firsts p_earliest_firsts (spM K .cl sp_earliest_firsts)) (cdv : Value) (A : Around) (outer : List PySem.Env) (s : Shared) (H : Hp) (E : XK)
    (hr : Room 2 (A.deeper (PyProof.Rows.envOfC "fewest_schedule" (defScope s_fewest_schedule) s.heap.objs.size T.a_fewest_schedule cdv))) :
    ∃ c', PSsm (bodyX P w K mg base n_fewest_schedule "fewest_schedule" s_fewest_schedule T.a_fewest_schedule cdv A outer s H E) ⟨.cl, false, []⟩ (shs 6) c' (defBody s_fewest_schedule) (t_fewest_schedule sp_earliest_firsts) :=
  ⟨[.sh, .sh, .sh, .sh, .sh, .sh], (sm_cons (sm_par3 [3, 4, 5] rfl S_fewest_schedule.nd (xm_cl (em_call F_earliest_firsts (hr.mono (by decide)) T.m_earliest_firsts T.f_earliest_firsts.kp T.b_earliest_firsts .nil (fun _ => Rps.nil) (am_consC (em_var 0) (am_consC (em_var 1) am_nil))) (xm_fr (em_lst am_nil) (xm_cl em_int xm_nil))))
    (sm_cons (sm_if (c' := [.sh, .sh, .sh, .sh, .ow, .sh]) (tm_cmp op_in_seq lift_in (PEm.ow em_non) (PEm.ow (em_var 3)) (by with_unfolding_all rfl)) (sm_one (sm_ret em_non)) sm_nil)
    (sm_cons (sm_for (c := [.sh, .sh, .sh, .sh, .ow, .sh]) .never rfl (im_rng2 T.z_range (PEm.ow em_int) (PEm.ow (em_callB call_lenA lift_len (by rfl) T.z_len PySem.boot_len (am_cons (PEm.ow (em_var 0)) am_nil)))) (gm_name 2 S_fewest_schedule.nd) (sm_one (sm_if (c' := [.sh, .sh, .sh, .sh, .ow, .sh]) (tm_cmp op_gt lift_gt (PEm.ow (em_ix (PEm.ow (em_var 3)) (PEm.ow (em_var 2)) (fun _ _ => rfl))) (PEm.ow (em_var 5)) (nomark _)) (sm_cons (sm_set 5 S_fewest_schedule.nd (em_var 2))
    (sm_one (sm_app 4 (em_op op_sub lift_sub (PEm.ow (em_var 2)) (PEm.ow em_int))))) sm_nil)) (fun _ e => by cases e))
    (sm_one (sm_ret (em_callTy call_tuple_of lift_tuple (by rfl) T.z_tuple PyProof.Rows.boot_tuple (am_cons (em_varO 4) am_nil)))))))⟩
def t_stairs (sp_union_of : PM.Spec) (sp_fewest_schedule : PM.Spec) : TSm :=
  (sSeq (sPar [2, 3] (mCons (mLst mNil) (mCons (mB oLen (mCons (mCall sp_union_of [] (mCons (mVar 0) (mCons (mC (.int 0)) (mCons (mOp oSub (mB oLen (mCons (mVar 0) mNil)) (mC (.int 1))) mNil)))) mNil)) mNil))) (sSeq (sFor (mRng2 (mB oMaxL (mCons (mLc (mItems (mVar 0)) [5] (gmN 5) mYes (mB oLen (mCons (mVar 5) mNil))) mNil)) (mOp oAdd (mVar 3) (mC (.int 1)))) (gmN 1) (sSeq (sSet 4 (mB oLen (mCons (mCall sp_fewest_schedule [] (mCons (mVar 0) (mCons (mVar 1) mNil))) mNil))) (sIf (mOr (mTB (mOp oEq (mVarO 2) (mLst mNil))) (mTB (mOp oLt (mVar 4) (mOp oIx (mOp oIx (mVarO 2) (mOp1 oNeg (mC (.int 1)))) (mC (.int 1)))))) (sApp 2 (mTup (mCons (mVar 1) (mCons (mVar 4) mNil)))) sNext))) (sRet (mB oTuple (mCons (mVarO 2) mNil)))))
theorem w_stairs (T : Tx K mg) (sp_union_of : PM.Spec) (sp_fewest_schedule : PM.Spec)
    (F_union_of : FnOk P w K mg base CX0 1 T.a_union_of T.d_union_of p_union_of (spM K .cl sp_union_of))
    (F_fewest_schedule : FnOk P w K mg base CX0 3 T.a_fewest_schedule T.d_fewest_schedule p_fewest_schedule (spM K .cl sp_fewest_schedule)) (cdv : Value) (A : Around) (outer : List PySem.Env) (s : Shared) (H : Hp) (E : XK)
    (hr : Room 3 (A.deeper (PyProof.Rows.envOfC "stairs" (defScope s_stairs) s.heap.objs.size T.a_stairs cdv))) :
    ∃ c', PSsm (bodyX P w K mg base n_stairs "stairs" s_stairs T.a_stairs cdv A outer s H E) ⟨.cl, false, []⟩ (shs 6) c' (defBody s_stairs) (t_stairs sp_union_of sp_fewest_schedule) :=
  ⟨[.sh, .sh, .sh, .sh, .sh, .sh], (sm_cons (sm_par [2, 3] rfl S_stairs.nd (xm_fr (em_lst am_nil) (xm_cl (em_callB call_lenA lift_len (by rfl) T.z_len PySem.boot_len (am_cons (PEm.ow (em_call F_union_of (hr.mono (by decide)) T.m_union_of T.f_union_of.kp T.b_union_of .nil (fun _ => Rps.nil) (am_consC (em_var 0) (am_consC em_int (am_consC (em_op op_sub lift_sub (PEm.ow (em_callB call_lenA lift_len (by rfl) T.z_len PySem.boot_len (am_cons (PEm.ow (em_var 0)) am_nil))) (PEm.ow em_int)) am_nil))))) am_nil)) xm_nil)))
    (sm_cons (sm_for (c := [.sh, .sh, .ow, .sh, .sh, .sh]) .never rfl (im_rng2 T.z_range (PEm.ow (em_callB (cr_max rfl) lift_maxL (by rfl) T.z_max PyProof.Rows.boot_max (am_cons (PEm.ow (em_lc (own := [("lot", 5)]) rfl S_stairs.nd (im_seq (em_var 0)) (blkOk_by (N := n_stairs) (sc := defScope s_stairs) (by decide +kernel)) (fun _ _ _ _ _ => (gm_name 5 S_stairs.nd)) (fun _ _ _ _ _ => tsm_nil) (fun _ _ _ _ _ => (em_callB call_lenA lift_len (by rfl) T.z_len PySem.boot_len (am_cons (PEm.ow (em_var 5)) am_nil))))) am_nil))) (PEm.ow (em_op op_plus lift_plus (PEm.ow (em_var 3)) (PEm.ow em_int)))) (gm_name 1 S_stairs.nd) (sm_cons (sm_set 4 S_stairs.nd (em_callB call_lenA lift_len (by rfl) T.z_len PySem.boot_len (am_cons (PEm.ow (em_call F_fewest_schedule (hr.mono (by decide)) T.m_fewest_schedule T.f_fewest_schedule.kp T.b_fewest_schedule .nil (fun _ => Rps.nil) (am_consC (em_var 0) (am_consC (em_var 1) am_nil)))) am_nil)))
    (sm_one (sm_if (c' := [.sh, .sh, .ow, .sh, .sh, .sh]) (PWm.pt (wm_or (tm_cmp (op_eqD hr.units) lift_eq (em_varO 2) (PEm.ow (em_lst am_nil)) (nomark _)) (wm_or1 (tm_cmp op_lt lift_lt (PEm.ow (em_var 4)) (PEm.ow (em_ix (PEm.ow (em_ix (em_varO 2) (PEm.ow (em_un un_neg lift_neg (PEm.ow em_int))) (fun _ _ => rfl))) (PEm.ow em_int) (fun _ _ => rfl))) (nomark _))))) (sm_one (sm_app 2 (em_tup (am_consC (em_var 1) (am_consC (em_var 4) am_nil))))) sm_nil))) (fun _ e => by cases e))
    (sm_one (sm_ret (em_callTy call_tuple_of lift_tuple (by rfl) T.z_tuple PyProof.Rows.boot_tuple (am_cons (em_varO 2) am_nil))))))⟩
def t_l_heap : TSm :=
  (sSeq (sSet 1 (mOp oMulW (mOp oMulW (mOp oPow (mC (.int 10)) (mC (.int 60))) (mOp oPow (mC (.int 10)) (mC (.int 60)))) (mOp oPow (mC (.int 10)) (mC (.int 60))))) (sSeq (sPar [3, 4] (mCons (mLc (mItems (mSl oSlS (mVar 0) mNo (mPart (mC (.int 60))))) [2] (gmN 2) mYes (mOp oMod (mB oInt (mCons (mOp oAdd (mOp oMul (mC (.int 2)) (mB oAbs (mCons (mVar 2) mNil))) (mB oInt (mCons (mOp oLt (mVar 2) (mC (.int 0))) mNil))) mNil)) (mVar 1))) (mCons (mC (.int 20043)) mNil))) (sSeq (sFor (mItems (mVar 3)) (gmN 2) (sSet 4 (mOp oMod (mB oInt (mCons (mOp oAdd (mOp oAdd (mOp oMul (mVar 4) (mC (.int 69621))) (mOp oMod (mB oInt (mCons (mVar 2) mNil)) (mC (.int 2147483563)))) (mC (.int 71))) mNil)) (mC (.int 2147483647))))) (sRet (mLst (mCons (mOp1 oRev (mLc (mItems (mVar 3)) [2] (gmN 2) (mTB (mOp oGe (mVar 2) (mOp oPow (mC (.int 10)) (mC (.int 18))))) (mVar 2))) (mCons (mVar 4) mNil)))))))
theorem w_l_heap (T : Tx K mg) (cdv : Value) (A : Around) (outer : List PySem.Env) (s : Shared) (H : Hp) (E : XK)
    (hr : Room 0 (A.deeper (PyProof.Rows.envOfC "_law_heap" (defScope s_l_heap) s.heap.objs.size T.a_l_heap cdv))) :
    ∃ c', PSsm (bodyX P w K mg base n_l_heap "_law_heap" s_l_heap T.a_l_heap cdv A outer s H E) ⟨.cl, false, []⟩ (shs 5) c' (defBody s_l_heap) (t_l_heap) :=
  ⟨[.sh, .sh, .sh, .sh, .sh], (sm_cons (sm_set 1 S_l_heap.nd (em_op op_mulW lift_mulW (PEm.ow (em_op op_mulW lift_mulW (PEm.ow (em_op op_pow lift_pow (PEm.ow em_int) (PEm.ow em_int))) (PEm.ow (em_op op_pow lift_pow (PEm.ow em_int) (PEm.ow em_int))))) (PEm.ow (em_op op_pow lift_pow (PEm.ow em_int) (PEm.ow em_int)))))
    (sm_cons (sm_par [3, 4] rfl S_l_heap.nd (xm_cl (PEm.cl (em_lc (own := [("cell", 2)]) rfl S_l_heap.nd (im_seq (PEm.cl (em_slS (PEm.ow (em_var 0)) om_none (om_some (PEm.ow em_int))))) (blkOk_by (N := n_l_heap) (sc := defScope s_l_heap) (by decide +kernel)) (fun _ _ _ _ _ => (gm_name 2 S_l_heap.nd)) (fun _ _ _ _ _ => tsm_nil) (fun _ _ _ _ _ => (em_op op_mod lift_mod (PEm.ow (em_callTy call_int1 lift_int (by rfl) T.z_int PyProof.Rows.boot_int (am_cons (PEm.ow (em_op op_plus lift_plus (PEm.ow (em_op op_mul lift_mul (PEm.ow em_int) (PEm.ow (em_callB call_abs lift_abs (by rfl) T.z_abs PyProof.Rows.boot_abs (am_cons (PEm.ow (em_var 2)) am_nil))))) (PEm.ow (em_callTy call_int1 lift_int (by rfl) T.z_int PyProof.Rows.boot_int (am_cons (PEm.ow (em_cmp op_lt lift_lt (PEm.ow (em_var 2)) (PEm.ow em_int) (nomark _))) am_nil))))) am_nil))) (PEm.ow (em_var 1)))))) (xm_cl em_int xm_nil)))
    (sm_cons (sm_for (c := [.sh, .sh, .sh, .sh, .sh]) .never rfl (im_seq (em_var 3)) (gm_name 2 S_l_heap.nd) (sm_one (sm_set 4 S_l_heap.nd (em_op op_mod lift_mod (PEm.ow (em_callTy call_int1 lift_int (by rfl) T.z_int PyProof.Rows.boot_int (am_cons (PEm.ow (em_op op_plus lift_plus (PEm.ow (em_op op_plus lift_plus (PEm.ow (em_op op_mul lift_mul (PEm.ow (em_var 4)) (PEm.ow em_int))) (PEm.ow (em_op op_mod lift_mod (PEm.ow (em_callTy call_int1 lift_int (by rfl) T.z_int PyProof.Rows.boot_int (am_cons (PEm.ow (em_var 2)) am_nil))) (PEm.ow em_int))))) (PEm.ow em_int))) am_nil))) (PEm.ow em_int)))) (fun _ e => by cases e))
    (sm_one (sm_ret (PEm.cl (em_lst (am_consC (em_rev (PEm.ow (em_lc (own := [("cell", 2)]) rfl S_l_heap.nd (im_seq (em_var 3)) (blkOk_by (N := n_l_heap) (sc := defScope s_l_heap) (by decide +kernel)) (fun _ _ _ _ _ => (gm_name 2 S_l_heap.nd)) (fun _ _ _ _ _ => (tsm_one (tm_cmp op_ge lift_ge (PEm.ow (em_var 2)) (PEm.ow (em_op op_pow lift_pow (PEm.ow em_int) (PEm.ow em_int))) (nomark _)))) (fun _ _ _ _ _ => (em_var 2))))) (am_consC (em_var 4) am_nil)))))))))⟩
def t_l_pick (sp_l_draw : PM.Spec) : TSm :=
  (sRet (mOp oIx (mVar 1) (mCall sp_l_draw [] (mCons (mVar 0) (mCons (mB oLen (mCons (mVar 1) mNil)) mNil)))))
theorem w_l_pick (T : Tx K mg) (sp_l_draw : PM.Spec)
    (F_l_draw : FnOk P w K mg base CX0 1 T.a_l_draw T.d_l_draw p_l_draw (spM K .cl sp_l_draw)) (cdv : Value) (A : Around) (outer : List PySem.Env) (s : Shared) (H : Hp) (E : XK)
    (hr : Room 1 (A.deeper (PyProof.Rows.envOfC "_law_pick" (defScope s_l_pick) s.heap.objs.size T.a_l_pick cdv))) :
    ∃ c', PSsm (bodyX P w K mg base n_l_pick "_law_pick" s_l_pick T.a_l_pick cdv A outer s H E) ⟨.cl, false, []⟩ (shs 2) c' (defBody s_l_pick) (t_l_pick sp_l_draw) :=
  ⟨[.sh, .sh], (sm_one (sm_ret (em_ix (PEm.ow (em_var 1)) (PEm.ow (em_call F_l_draw (hr.mono (by decide)) T.m_l_draw T.f_l_draw.kp T.b_l_draw .nil (fun _ => Rps.nil) (am_consC (em_var 0) (am_consC (em_callB call_lenA lift_len (by rfl) T.z_len PySem.boot_len (am_cons (PEm.ow (em_var 1)) am_nil)) am_nil)))) (fun _ _ => rfl))))⟩
def t_l_like (sp_l_like : PM.Spec) : TSm :=
  (sSeq (sIf (mTB (mOp1 (oIsi "tuple") (mVar 1))) (sRet (mAndV (mOp1 (oIsi "tuple") (mVar 0)) (mAndV (mOp oEq (mB oLen (mCons (mVar 0) mNil)) (mB oLen (mCons (mVar 1) mNil))) (mB oAll (mCons (mLc (mZip (mVar 0) (mVar 1)) [2, 3] (gmT 2 (gmCons (gmN 2) (gmCons (gmN 3) gmNil))) mYes (mCall sp_l_like [] (mCons (mVar 2) (mCons (mVar 3) mNil)))) mNil))))) sNext) (sSeq (sIf (mTB (mOp oIsN (mVar 1) (mC (.non)))) (sRet (mOp oIsN (mVar 0) (mC (.non)))) sNext) (sSeq (sIf (mTB (mOp1 (oIsi "bool") (mVar 1))) (sRet (mIf (mTB (mVar 1)) (mOp oIsB (mVar 0) (mC (.bl true))) (mOp oIsB (mVar 0) (mC (.bl false))))) sNext) (sSeq (sIf (mTB (mOp1 (oIsi "int") (mVar 1))) (sRet (mAndV (mOp1 (oIsi "int") (mVar 0)) (mAndV (mOp1 oNot (mOp1 (oIsi "bool") (mVar 0))) (mOp oEq (mVar 0) (mVar 1))))) sNext) (sRet (mAndV (mOp1 (oIsi "str") (mVar 0)) (mAndV (mOp1 (oIsi "str") (mVar 1)) (mOp oEq (mVar 0) (mVar 1)))))))))
theorem w_l_like (T : Tx K mg) {kr : Nat} (sp_l_like : PM.Spec)
    (F_l_like : FnOk P w K mg base CX0 kr T.a_l_like T.d_l_like p_l_like (spM K .cl sp_l_like)) (hk : 0 ≤ kr) (cdv : Value) (A : Around) (outer : List PySem.Env) (s : Shared) (H : Hp) (E : XK)
    (hr : Room kr (A.deeper (PyProof.Rows.envOfC "_law_like" (defScope s_l_like) s.heap.objs.size T.a_l_like cdv))) :
    ∃ c', PSsm (bodyX P w K mg base n_l_like "_law_like" s_l_like T.a_l_like cdv A outer s H E) ⟨.cl, false, []⟩ (shs 4) c' (defBody s_l_like) (t_l_like sp_l_like) :=
  ⟨[.sh, .sh, .sh, .sh], (sm_cons (sm_if (c' := [.sh, .sh, .sh, .sh]) (tm_val (PEm.ow (em_isi "tuple" (PEm.ow (em_var 1)) (by rfl) T.z_isinstance (by rfl) T.z_tuple PyProof.Rows.boot_tuple))) (sm_one (sm_ret (em_and (PEm.ow (em_isi "tuple" (PEm.ow (em_var 0)) (by rfl) T.z_isinstance (by rfl) T.z_tuple PyProof.Rows.boot_tuple)) (em_and (PEm.ow (em_cmp (op_eqD hr.units) lift_eq (PEm.ow (em_callB call_lenA lift_len (by rfl) T.z_len PySem.boot_len (am_cons (PEm.ow (em_var 0)) am_nil))) (PEm.ow (em_callB call_lenA lift_len (by rfl) T.z_len PySem.boot_len (am_cons (PEm.ow (em_var 1)) am_nil))) (nomark _))) (em_one (em_callB (cr_all rfl) lift_all (by rfl) T.z_all PyProof.Rows.boot_all (am_cons (PEm.ow (em_lc (own := [("one", 2), ("other", 3)]) rfl S_l_like.nd (im_zip T.z_zip (em_var 0) (em_var 1)) (blkOk_by (N := n_l_like) (sc := defScope s_l_like) (by decide +kernel)) (fun _ _ _ _ _ => (gm_tup rfl (gsm_cons (gm_name 2 S_l_like.nd) (gsm_cons (gm_name 3 S_l_like.nd) gsm_nil)))) (fun _ _ _ _ _ => tsm_nil) (fun _ _ _ _ _ => (em_call F_l_like hr T.m_l_like T.f_l_like.kp T.b_l_like .nil (fun _ => Rps.nil) (am_consC (em_var 2) (am_consC (em_var 3) am_nil)))))) am_nil))))))) sm_nil)
    (sm_cons (sm_if (c' := [.sh, .sh, .sh, .sh]) (tm_cmp op_isN lift_isN (PEm.ow (em_var 1)) (PEm.ow em_non) (nomark _)) (sm_one (sm_ret (em_cmp op_isN lift_isN (PEm.ow (em_var 0)) (PEm.ow em_non) (nomark _)))) sm_nil)
    (sm_cons (sm_if (c' := [.sh, .sh, .sh, .sh]) (tm_val (PEm.ow (em_isi "bool" (PEm.ow (em_var 1)) (by rfl) T.z_isinstance (by rfl) T.z_bool PyProof.Rows.boot_bool))) (sm_one (sm_ret (em_if (tm_val (PEm.ow (em_var 1))) (em_cmp op_isBl lift_isB (PEm.ow (em_var 0)) (PEm.ow em_bl) (nomark _)) (em_cmp op_isBl lift_isB (PEm.ow (em_var 0)) (PEm.ow em_bl) (nomark _))))) sm_nil)
    (sm_cons (sm_if (c' := [.sh, .sh, .sh, .sh]) (tm_val (PEm.ow (em_isi "int" (PEm.ow (em_var 1)) (by rfl) T.z_isinstance (by rfl) T.z_int PyProof.Rows.boot_int))) (sm_one (sm_ret (em_and (PEm.ow (em_isi "int" (PEm.ow (em_var 0)) (by rfl) T.z_isinstance (by rfl) T.z_int PyProof.Rows.boot_int)) (em_and (PEm.ow (em_not (PEm.ow (em_isi "bool" (PEm.ow (em_var 0)) (by rfl) T.z_isinstance (by rfl) T.z_bool PyProof.Rows.boot_bool)))) (em_one (em_cmp (op_eqD hr.units) lift_eq (PEm.ow (em_var 0)) (PEm.ow (em_var 1)) (nomark _))))))) sm_nil)
    (sm_one (sm_ret (em_and (PEm.ow (em_isi "str" (PEm.ow (em_var 0)) (by rfl) T.z_isinstance (by rfl) T.z_str PyProof.Rows.boot_str)) (em_and (PEm.ow (em_isi "str" (PEm.ow (em_var 1)) (by rfl) T.z_isinstance (by rfl) T.z_str PyProof.Rows.boot_str)) (em_one (em_cmp (op_eqD hr.units) lift_eq (PEm.ow (em_var 0)) (PEm.ow (em_var 1)) (nomark _)))))))))))⟩
def t_l_some (sp_l_draw : PM.Spec) : TSm :=
  (sSeq (sPar [4, 5] (mCons (mLc (mRng1 (mB oLen (mCons (mVar 1) mNil))) [6] (gmN 6) mYes (mVar 6)) (mCons (mLst mNil) mNil))) (sSeq (sFor (mRng1 (mVar 2)) (gmN 3) (sAppPop 5 4 (mCall sp_l_draw [] (mCons (mVar 0) (mCons (mB oLen (mCons (mVarO 4) mNil)) mNil))))) (sRet (mB oTuple (mCons (mLc (mItems (mB oSorted (mCons (mVarO 5) mNil))) [6] (gmN 6) mYes (mOp oIx (mVar 1) (mVar 6))) mNil)))))
theorem w_l_some (T : Tx K mg) (sp_l_draw : PM.Spec)
    (F_l_draw : FnOk P w K mg base CX0 1 T.a_l_draw T.d_l_draw p_l_draw (spM K .cl sp_l_draw)) (cdv : Value) (A : Around) (outer : List PySem.Env) (s : Shared) (H : Hp) (E : XK)
    (hr : Room 1 (A.deeper (PyProof.Rows.envOfC "_law_some" (defScope s_l_some) s.heap.objs.size T.a_l_some cdv))) :
    ∃ c', PSsm (bodyX P w K mg base n_l_some "_law_some" s_l_some T.a_l_some cdv A outer s H E) ⟨.cl, false, []⟩ (shs 7) c' (defBody s_l_some) (t_l_some sp_l_draw) :=
  ⟨[.sh, .sh, .sh, .sh, .sh, .sh, .sh], (sm_cons (sm_par [4, 5] rfl S_l_some.nd (xm_fr (em_lc (own := [("place", 6)]) rfl S_l_some.nd (im_rng1 T.z_range (PEm.ow (em_callB call_lenA lift_len (by rfl) T.z_len PySem.boot_len (am_cons (PEm.ow (em_var 1)) am_nil)))) (blkOk_by (N := n_l_some) (sc := defScope s_l_some) (by decide +kernel)) (fun _ _ _ _ _ => (gm_name 6 S_l_some.nd)) (fun _ _ _ _ _ => tsm_nil) (fun _ _ _ _ _ => (em_var 6))) (xm_fr (em_lst am_nil) xm_nil)))
    (sm_cons (sm_for (c := [.sh, .sh, .sh, .sh, .ow, .ow, .sh]) .never rfl (im_rng1 T.z_range (PEm.ow (em_var 2))) (gm_name 3 S_l_some.nd) (sm_one (sm_appPop 5 4 (by decide) (PEm.ow (em_call F_l_draw (hr.mono (by decide)) T.m_l_draw T.f_l_draw.kp T.b_l_draw .nil (fun _ => Rps.nil) (am_consC (em_var 0) (am_consC (em_callB call_lenA lift_len (by rfl) T.z_len PySem.boot_len (am_cons (em_varO 4) am_nil)) am_nil)))))) (fun _ e => by cases e))
    (sm_one (sm_ret (em_callTy call_tuple_of lift_tuple (by rfl) T.z_tuple PyProof.Rows.boot_tuple (am_cons (PEm.ow (em_lc (own := [("place", 6)]) rfl S_l_some.nd (im_seq (PEm.cl (em_callB (call_sortedA rfl) lift_sorted (by rfl) T.z_sorted PyProof.Rows.boot_sorted (am_cons (em_varO 5) am_nil)))) (blkOk_by (N := n_l_some) (sc := defScope s_l_some) (by decide +kernel)) (fun _ _ _ _ _ => (gm_name 6 S_l_some.nd)) (fun _ _ _ _ _ => tsm_nil) (fun _ _ _ _ _ => (em_ix (PEm.ow (em_var 1)) (PEm.ow (em_var 6)) (fun _ _ => rfl))))) am_nil))))))⟩
def t_l_counted (sp_l_pick : PM.Spec) (sp_l_some : PM.Spec) (sp_l_draw : PM.Spec) : TSm :=
  (sSeq (sSet 2 (mCall sp_l_pick [] (mCons (mVar 0) (mCons (mLst (mCons (mC (.int 2)) (mCons (mC (.int 4)) (mCons (mC (.int 6)) (mCons (mC (.int 9)) (mCons (mC (.int 24)) mNil)))))) mNil)))) (sSeq (sPar [3, 4] (mCons (mLc (mRng1 (mVar 2)) [7] (gmN 7) mYes (mVar 7)) (mCons (mLst mNil) mNil))) (sSeq (sWhile (mTB (mOp oLt (mB oLen (mCons (mVarO 4) mNil)) (mVar 1))) (sSeq (sSet 5 (mCall sp_l_some [] (mCons (mVar 0) (mCons (mVar 3) (mCons (mCall sp_l_draw [] (mCons (mVar 0) (mCons (mOp oAdd (mB oMin2 (mCons (mVar 2) (mCons (mCall sp_l_pick [] (mCons (mVar 0) (mCons (mLst (mCons (mC (.int 1)) (mCons (mC (.int 2)) (mCons (mC (.int 3)) (mCons (mC (.int 5)) mNil))))) mNil))) mNil))) (mC (.int 1))) mNil))) mNil))))) (sFor (mRng1 (mCall sp_l_pick [] (mCons (mVar 0) (mCons (mLst (mCons (mC (.int 1)) (mCons (mC (.int 1)) (mCons (mC (.int 1)) (mCons (mC (.int 2)) (mCons (mC (.int 5)) mNil)))))) mNil)))) (gmN 6) (sApp 4 (mVar 5))))) (sRet (mB oTuple (mCons (mSl oSl (mVarO 4) mNo (mPart (mVar 1))) mNil))))))
theorem w_l_counted (T : Tx K mg) (sp_l_pick : PM.Spec) (sp_l_some : PM.Spec) (sp_l_draw : PM.Spec)
    (F_l_pick : FnOk P w K mg base CX0 2 T.a_l_pick T.d_l_pick p_l_pick (spM K .cl sp_l_pick))
    (F_l_some : FnOk P w K mg base CX0 2 T.a_l_some T.d_l_some p_l_some (spM K .cl sp_l_some))
    (F_l_draw : FnOk P w K mg base CX0 1 T.a_l_draw T.d_l_draw p_l_draw (spM K .cl sp_l_draw)) (cdv : Value) (A : Around) (outer : List PySem.Env) (s : Shared) (H : Hp) (E : XK)
    (hr : Room 2 (A.deeper (PyProof.Rows.envOfC "_law_counted" (defScope s_l_counted) s.heap.objs.size T.a_l_counted cdv))) :
    ∃ c', PSsm (bodyX P w K mg base n_l_counted "_law_counted" s_l_counted T.a_l_counted cdv A outer s H E) ⟨.cl, false, []⟩ (shs 8) c' (defBody s_l_counted) (t_l_counted sp_l_pick sp_l_some sp_l_draw) :=
  ⟨[.sh, .sh, .sh, .sh, .sh, .sh, .sh, .sh], (sm_cons (sm_set 2 S_l_counted.nd (em_call F_l_pick (hr.mono (by decide)) T.m_l_pick T.f_l_pick.kp T.b_l_pick .nil (fun _ => Rps.nil) (am_consC (em_var 0) (am_consC (PEm.cl (em_lst (am_consC em_int (am_consC em_int (am_consC em_int (am_consC em_int (am_consC em_int am_nil))))))) am_nil))))
    (sm_cons (sm_par [3, 4] rfl S_l_counted.nd (xm_cl (PEm.cl (em_lc (own := [("house", 7)]) rfl S_l_counted.nd (im_rng1 T.z_range (PEm.ow (em_var 2))) (blkOk_by (N := n_l_counted) (sc := defScope s_l_counted) (by decide +kernel)) (fun _ _ _ _ _ => (gm_name 7 S_l_counted.nd)) (fun _ _ _ _ _ => tsm_nil) (fun _ _ _ _ _ => (em_var 7)))) (xm_fr (em_lst am_nil) xm_nil)))
    (sm_cons (sm_while (c := [.sh, .sh, .sh, .sh, .ow, .sh, .sh, .sh]) .never (tm_cmp op_lt lift_lt (PEm.ow (em_callB call_lenA lift_len (by rfl) T.z_len PySem.boot_len (am_cons (em_varO 4) am_nil))) (PEm.ow (em_var 1)) (nomark _)) (sm_cons (sm_set 5 S_l_counted.nd (em_call F_l_some (hr.mono (by decide)) T.m_l_some T.f_l_some.kp T.b_l_some .nil (fun _ => Rps.nil) (am_consC (em_var 0) (am_consC (em_var 3) (am_consC (em_call F_l_draw (hr.mono (by decide)) T.m_l_draw T.f_l_draw.kp T.b_l_draw .nil (fun _ => Rps.nil) (am_consC (em_var 0) (am_consC (em_op op_plus lift_plus (PEm.ow (em_callB (call_min2 rfl) lift_min2 (by rfl) T.z_min PyProof.Rows.boot_min (am_cons (PEm.ow (em_var 2)) (am_cons (PEm.ow (em_call F_l_pick (hr.mono (by decide)) T.m_l_pick T.f_l_pick.kp T.b_l_pick .nil (fun _ => Rps.nil) (am_consC (em_var 0) (am_consC (PEm.cl (em_lst (am_consC em_int (am_consC em_int (am_consC em_int (am_consC em_int am_nil)))))) am_nil)))) am_nil)))) (PEm.ow em_int)) am_nil))) am_nil)))))
    (sm_one (sm_for (c := [.sh, .sh, .sh, .sh, .ow, .sh, .sh, .sh]) .never rfl (im_rng1 T.z_range (PEm.ow (em_call F_l_pick (hr.mono (by decide)) T.m_l_pick T.f_l_pick.kp T.b_l_pick .nil (fun _ => Rps.nil) (am_consC (em_var 0) (am_consC (PEm.cl (em_lst (am_consC em_int (am_consC em_int (am_consC em_int (am_consC em_int (am_consC em_int am_nil))))))) am_nil))))) (gm_name 6 S_l_counted.nd) (sm_one (sm_app 4 (em_var 5))) (fun _ e => by cases e)))))
    (sm_one (sm_ret (em_callTy call_tuple_of lift_tuple (by rfl) T.z_tuple PyProof.Rows.boot_tuple (am_cons (PEm.ow (em_sl (em_varO 4) om_none (om_some (PEm.ow (em_var 1))))) am_nil)))))))⟩
def t_l_epochs : TSm :=
  (sSeq (sPar [3, 4] (mCons (mLst mNil) (mCons (mC (.int 0)) mNil))) (sSeq (sFor (mItems (mOp oAdd (mB oList (mCons (mVar 1) mNil)) (mLst (mCons (mOp oSub (mVar 0) (mC (.int 1))) mNil)))) (gmN 2) (sSeq (sApp 3 (mTup (mCons (mVar 4) (mCons (mVar 2) mNil)))) (sSet 4 (mOp oAdd (mVar 2) (mC (.int 1)))))) (sRet (mB oTuple (mCons (mVarO 3) mNil)))))
theorem w_l_epochs (T : Tx K mg) (cdv : Value) (A : Around) (outer : List PySem.Env) (s : Shared) (H : Hp) (E : XK)
    (hr : Room 0 (A.deeper (PyProof.Rows.envOfC "_law_epochs" (defScope s_l_epochs) s.heap.objs.size T.a_l_epochs cdv))) :
    ∃ c', PSsm (bodyX P w K mg base n_l_epochs "_law_epochs" s_l_epochs T.a_l_epochs cdv A outer s H E) ⟨.cl, false, []⟩ (shs 5) c' (defBody s_l_epochs) (t_l_epochs) :=
  ⟨[.sh, .sh, .sh, .sh, .sh], (sm_cons (sm_par [3, 4] rfl S_l_epochs.nd (xm_fr (em_lst am_nil) (xm_cl em_int xm_nil)))
    (sm_cons (sm_for (c := [.sh, .sh, .sh, .ow, .sh]) .never rfl (im_seq (em_op op_plus lift_plus (PEm.ow (em_callTy call_list_of lift_list (by rfl) T.z_list PyProof.Rows.boot_list (am_cons (PEm.ow (em_var 1)) am_nil))) (PEm.ow (em_lst (am_consC (em_op op_sub lift_sub (PEm.ow (em_var 0)) (PEm.ow em_int)) am_nil))))) (gm_name 2 S_l_epochs.nd) (sm_cons (sm_app 3 (em_tup (am_consC (em_var 4) (am_consC (em_var 2) am_nil))))
    (sm_one (sm_set 4 S_l_epochs.nd (em_op op_plus lift_plus (PEm.ow (em_var 2)) (PEm.ow em_int))))) (fun _ e => by cases e))
    (sm_one (sm_ret (em_callTy call_tuple_of lift_tuple (by rfl) T.z_tuple PyProof.Rows.boot_tuple (am_cons (em_varO 3) am_nil))))))⟩
def t_l_is_secret : TSm :=
  (sSeq (sFor (mItems (mVar 2)) (gmT 2 (gmCons (gmN 3) (gmCons (gmN 4) gmNil))) (sSeq (sSet 5 (mLst mNil)) (sSeq (sFor (mItems (mSl oSl (mVar 0) (mPart (mVar 3)) (mPart (mOp oAdd (mVar 4) (mC (.int 1)))))) (gmN 6) (sSet 5 (mOp oAdd (mVar 5) (mLc (mItems (mVar 6)) [7] (gmN 7) (mTB (mOp (oIn true) (mVar 7) (mVar 5))) (mVar 7))))) (sIf (mTB (mOp oGt (mB oLen (mCons (mVar 5) mNil)) (mVar 1))) (sRet (mC (.bl false))) sNext)))) (sRet (mC (.bl true))))
theorem w_l_is_secret (T : Tx K mg) (cdv : Value) (A : Around) (outer : List PySem.Env) (s : Shared) (H : Hp) (E : XK)
    (hr : Room 0 (A.deeper (PyProof.Rows.envOfC "_law_is_secret" (defScope s_l_is_secret) s.heap.objs.size T.a_l_is_secret cdv))) :
    ∃ c', PSsm (bodyX P w K mg base n_l_is_secret "_law_is_secret" s_l_is_secret T.a_l_is_secret cdv A outer s H E) ⟨.cl, false, []⟩ (shs 8) c' (defBody s_l_is_secret) (t_l_is_secret) :=
  ⟨[.sh, .sh, .sh, .sh, .sh, .sh, .sh, .sh], (sm_cons (sm_for (c := [.sh, .sh, .sh, .sh, .sh, .sh, .sh, .sh]) .never rfl (im_seq (em_var 2)) (gm_tup rfl (gsm_cons (gm_name 3 S_l_is_secret.nd) (gsm_cons (gm_name 4 S_l_is_secret.nd) gsm_nil))) (sm_cons (sm_set 5 S_l_is_secret.nd (PEm.cl (em_lst am_nil)))
    (sm_cons (sm_for (c := [.sh, .sh, .sh, .sh, .sh, .sh, .sh, .sh]) .never rfl (im_seq (em_sl (PEm.ow (em_var 0)) (om_some (PEm.ow (em_var 3))) (om_some (PEm.ow (em_op op_plus lift_plus (PEm.ow (em_var 4)) (PEm.ow em_int)))))) (gm_name 6 S_l_is_secret.nd) (sm_one (sm_set 5 S_l_is_secret.nd (em_op op_plus lift_plus (PEm.ow (em_var 5)) (PEm.ow (em_lc (own := [("house", 7)]) rfl S_l_is_secret.nd (im_seq (em_var 6)) (blkOk_by (N := n_l_is_secret) (sc := defScope s_l_is_secret) (by decide +kernel)) (fun _ _ _ _ _ => (gm_name 7 S_l_is_secret.nd)) (fun _ _ _ _ _ => (tsm_one (tm_cmp op_notIn_seq lift_in (PEm.ow (em_var 7)) (PEm.ow (em_var 5)) (by with_unfolding_all rfl)))) (fun _ _ _ _ _ => (em_var 7))))))) (fun _ e => by cases e))
    (sm_one (sm_if (c' := [.sh, .sh, .sh, .sh, .sh, .sh, .sh, .sh]) (tm_cmp op_gt lift_gt (PEm.ow (em_callB call_lenA lift_len (by rfl) T.z_len PySem.boot_len (am_cons (PEm.ow (em_var 5)) am_nil))) (PEm.ow (em_var 1)) (nomark _)) (sm_one (sm_ret em_bl)) sm_nil)))) (fun _ e => by cases e))
    (sm_one (sm_ret em_bl)))⟩
def t_l_fewest : TSm :=
  (sSeq (sPar [2, 3] (mCons (mLst mNil) (mCons (mLst mNil) mNil))) (sSeq (sFor (mEnum (mVar 0)) (gmT 2 (gmCons (gmN 4) (gmCons (gmN 5) gmNil))) (sSeq (sIf (mTB (mOp oGt (mB oLen (mCons (mVar 5) mNil)) (mVar 1))) (sRet (mC (.non))) sNext) (sSeq (sSet 6 (mLc (mItems (mVar 5)) [7] (gmN 7) (mTB (mOp (oIn true) (mVar 7) (mVar 3))) (mVar 7))) (sSeq (sIf (mTB (mOp oGt (mOp oAdd (mB oLen (mCons (mVar 3) mNil)) (mB oLen (mCons (mVarO 6) mNil))) (mVar 1))) (sSeq (sApp 2 (mOp oSub (mVar 4) (mC (.int 1)))) (sPar [3, 6] (mCons (mLst mNil) (mCons (mLc (mItems (mVar 5)) [7] (gmN 7) mYes (mVar 7)) mNil)))) sNext) (sSet 3 (mOp oAdd (mVar 3) (mVar 6))))))) (sRet (mB oTuple (mCons (mVarO 2) mNil)))))
theorem w_l_fewest (T : Tx K mg) (cdv : Value) (A : Around) (outer : List PySem.Env) (s : Shared) (H : Hp) (E : XK)
    (hr : Room 0 (A.deeper (PyProof.Rows.envOfC "_law_fewest" (defScope s_l_fewest) s.heap.objs.size T.a_l_fewest cdv))) :
    ∃ c', PSsm (bodyX P w K mg base n_l_fewest "_law_fewest" s_l_fewest T.a_l_fewest cdv A outer s H E) ⟨.cl, false, []⟩ (shs 8) c' (defBody s_l_fewest) (t_l_fewest) :=
  ⟨[.sh, .sh, .sh, .sh, .sh, .sh, .sh, .sh], (sm_cons (sm_parG [2, 3] rfl (pgs_n S_l_fewest.nd (pgs_n S_l_fewest.nd pgs_n0)) (xm_fr (em_lst am_nil) (xm_cl (PEm.cl (em_lst am_nil)) xm_nil)))
    (sm_cons (sm_for (c := [.sh, .sh, .ow, .sh, .sh, .sh, .sh, .sh]) .never rfl (im_enum T.z_enumerate (em_var 0)) (gm_tup rfl (gsm_cons (gm_name 4 S_l_fewest.nd) (gsm_cons (gm_name 5 S_l_fewest.nd) gsm_nil))) (sm_cons (sm_if (c' := [.sh, .sh, .ow, .sh, .sh, .sh, .sh, .sh]) (tm_cmp op_gt lift_gt (PEm.ow (em_callB call_lenA lift_len (by rfl) T.z_len PySem.boot_len (am_cons (PEm.ow (em_var 5)) am_nil))) (PEm.ow (em_var 1)) (nomark _)) (sm_one (sm_ret em_non)) sm_nil)
    (sm_cons (sm_setLc 6 (hsw := sw_true rfl rfl rfl (by decide +kernel)) (own := [("house", 7)]) rfl S_l_fewest.nd (im_seq (em_var 5)) (blkOk_by (N := n_l_fewest) (sc := defScope s_l_fewest) (by decide +kernel)) (fun _ _ _ _ _ => (gm_name 7 S_l_fewest.nd)) (fun _ _ _ _ _ => (tsm_one (tm_cmp op_notIn_seq lift_in (PEm.ow (em_var 7)) (PEm.ow (em_var 3)) (by with_unfolding_all rfl)))) (fun _ _ _ _ _ => (em_var 7)))
    (sm_cons (sm_if (c' := [.sh, .sh, .ow, .sh, .sh, .sh, .sh, .sh]) (tm_cmp op_gt lift_gt (PEm.ow (em_op op_plus lift_plus (PEm.ow (em_callB call_lenA lift_len (by rfl) T.z_len PySem.boot_len (am_cons (PEm.ow (em_var 3)) am_nil))) (PEm.ow (em_callB call_lenA lift_len (by rfl) T.z_len PySem.boot_len (am_cons (em_varO 6) am_nil))))) (PEm.ow (em_var 1)) (nomark _)) (sm_cons (sm_app 2 (em_op op_sub lift_sub (PEm.ow (em_var 4)) (PEm.ow em_int)))
    (sm_one (sm_parG [3, 6] rfl (pgs_n S_l_fewest.nd (pgs_n S_l_fewest.nd pgs_n0)) (xm_cl (PEm.cl (em_lst am_nil)) (xm_cl (PEm.cl (em_lc (own := [("house", 7)]) rfl S_l_fewest.nd (im_seq (em_var 5)) (blkOk_by (N := n_l_fewest) (sc := defScope s_l_fewest) (by decide +kernel)) (fun _ _ _ _ _ => (gm_name 7 S_l_fewest.nd)) (fun _ _ _ _ _ => tsm_nil) (fun _ _ _ _ _ => (em_var 7)))) xm_nil))))) (sm_post (by decide) sm_nil))
    (sm_one (sm_set 3 S_l_fewest.nd (em_op op_plus lift_plus (PEm.ow (em_var 3)) (PEm.ow (em_var 6)))))))) (fun _ e => by cases e))
    (sm_one (sm_ret (em_callTy call_tuple_of lift_tuple (by rfl) T.z_tuple PyProof.Rows.boot_tuple (am_cons (em_varO 2) am_nil))))))⟩
def t_l_stairs (sp_l_fewest : PM.Spec) : TSm :=
  (sSeq (sPar [2, 3] (mCons (mLst mNil) (mCons (mB oMaxL (mCons (mLc (mItems (mVar 0)) [5] (gmN 5) mYes (mB oLen (mCons (mVar 5) mNil))) mNil)) mNil))) (sSeq (sFor (mRng1 (mC (.int 30))) (gmN 1) (sSeq (sSet 4 (mB oLen (mCons (mCall sp_l_fewest [] (mCons (mVar 0) (mCons (mVar 3) mNil))) mNil))) (sSeq (sIf (mOr (mTB (mOp oEq (mVarO 2) (mLst mNil))) (mTB (mOp oLt (mVar 4) (mOp oIx (mOp oIx (mVarO 2) (mOp1 oNeg (mC (.int 1)))) (mC (.int 1)))))) (sApp 2 (mTup (mCons (mVar 3) (mCons (mVar 4) mNil)))) sNext) (sSeq (sIf (mTB (mOp oEq (mVar 4) (mC (.int 0)))) sBreak sNext) (sAug 3 oAddI (mC (.int 1))))))) (sRet (mB oTuple (mCons (mVarO 2) mNil)))))
theorem w_l_stairs (T : Tx K mg) (sp_l_fewest : PM.Spec)
    (F_l_fewest : FnOk P w K mg base CX0 1 T.a_l_fewest T.d_l_fewest p_l_fewest (spM K .cl sp_l_fewest)) (cdv : Value) (A : Around) (outer : List PySem.Env) (s : Shared) (H : Hp) (E : XK)
    (hr : Room 1 (A.deeper (PyProof.Rows.envOfC "_law_stairs" (defScope s_l_stairs) s.heap.objs.size T.a_l_stairs cdv))) :
    ∃ c', PSsm (bodyX P w K mg base n_l_stairs "_law_stairs" s_l_stairs T.a_l_stairs cdv A outer s H E) ⟨.cl, false, []⟩ (shs 6) c' (defBody s_l_stairs) (t_l_stairs sp_l_fewest) :=
  ⟨[.sh, .sh, .sh, .sh, .sh, .sh], (sm_cons (sm_par [2, 3] rfl S_l_stairs.nd (xm_fr (em_lst am_nil) (xm_cl (em_callB (cr_max rfl) lift_maxL (by rfl) T.z_max PyProof.Rows.boot_max (am_cons (PEm.ow (em_lc (own := [("lot", 5)]) rfl S_l_stairs.nd (im_seq (em_var 0)) (blkOk_by (N := n_l_stairs) (sc := defScope s_l_stairs) (by decide +kernel)) (fun _ _ _ _ _ => (gm_name 5 S_l_stairs.nd)) (fun _ _ _ _ _ => tsm_nil) (fun _ _ _ _ _ => (em_callB call_lenA lift_len (by rfl) T.z_len PySem.boot_len (am_cons (PEm.ow (em_var 5)) am_nil))))) am_nil)) xm_nil)))
    (sm_cons (sm_for (c := [.sh, .sh, .ow, .sh, .sh, .sh]) .never rfl (im_rng1 T.z_range (PEm.ow em_int)) (gm_name 1 S_l_stairs.nd) (sm_cons (sm_set 4 S_l_stairs.nd (em_callB call_lenA lift_len (by rfl) T.z_len PySem.boot_len (am_cons (PEm.ow (em_call F_l_fewest (hr.mono (by decide)) T.m_l_fewest T.f_l_fewest.kp T.b_l_fewest .nil (fun _ => Rps.nil) (am_consC (em_var 0) (am_consC (em_var 3) am_nil)))) am_nil)))
    (sm_cons (sm_if (c' := [.sh, .sh, .ow, .sh, .sh, .sh]) (PWm.pt (wm_or (tm_cmp (op_eqD hr.units) lift_eq (em_varO 2) (PEm.ow (em_lst am_nil)) (nomark _)) (wm_or1 (tm_cmp op_lt lift_lt (PEm.ow (em_var 4)) (PEm.ow (em_ix (PEm.ow (em_ix (em_varO 2) (PEm.ow (em_un un_neg lift_neg (PEm.ow em_int))) (fun _ _ => rfl))) (PEm.ow em_int) (fun _ _ => rfl))) (nomark _))))) (sm_one (sm_app 2 (em_tup (am_consC (em_var 3) (am_consC (em_var 4) am_nil))))) sm_nil)
    (sm_cons (sm_if (c' := [.sh, .sh, .ow, .sh, .sh, .sh]) (tm_cmp (op_eqD hr.units) lift_eq (PEm.ow (em_var 4)) (PEm.ow em_int) (nomark _)) (sm_one (sm_break (by decide))) sm_nil)
    (sm_one (sm_aug 3 iop_add lift_addI S_l_stairs.nd (PEm.ow em_int)))))) (fun _ e => by cases e))
    (sm_one (sm_ret (em_callTy call_tuple_of lift_tuple (by rfl) T.z_tuple PyProof.Rows.boot_tuple (am_cons (em_varO 2) am_nil))))))⟩
def t_l_bent (sp_l_pick : PM.Spec) (sp_l_draw : PM.Spec) : TSm :=
  (sSeq (sPar [3, 4] (mCons (mB oList (mCons (mVar 1) mNil)) (mCons (mCall sp_l_draw [] (mCons (mVar 0) (mCons (mC (.int 7)) mNil))) mNil))) (sSeq (sIf (mTB (mOp oEq (mVar 4) (mC (.int 0)))) (sRet (mTup (mCons (mVar 3) (mCons (mC (.bl false)) mNil)))) sNext) (sSeq (sIf (mTB (mOp oEq (mVar 4) (mC (.int 1)))) (sRet (mTup (mCons (mOp oAdd (mVar 1) (mTup (mCons (mOp oSub (mVar 2) (mC (.int 1))) mNil))) (mCons (mC (.bl false)) mNil)))) sNext) (sSeq (sIf (mTB (mOp oEq (mVar 4) (mC (.int 2)))) (sRet (mTup (mCons (mOp oAdd (mTup (mCons (mOp1 oNeg (mC (.int 1))) mNil)) (mVar 1)) (mCons (mC (.bl false)) mNil)))) sNext) (sSeq (sIf (mAnd (mTB (mOp oEq (mVar 4) (mC (.int 3)))) (mTB (mOp oNe (mVar 3) (mLst mNil)))) (sRet (mTup (mCons (mOp oAdd (mVar 1) (mSl oSl (mVar 1) (mPart (mOp1 oNeg (mC (.int 1)))) mNo)) (mCons (mC (.bl false)) mNil)))) sNext) (sSeq (sIf (mAnd (mTB (mOp oEq (mVar 4) (mC (.int 4)))) (mTB (mOp oGt (mB oLen (mCons (mVar 3) mNil)) (mC (.int 1))))) (sRet (mTup (mCons (mOp1 oRev (mVar 1)) (mCons (mC (.bl false)) mNil)))) sNext) (sSeq (sIf (mAnd (mTB (mOp oEq (mVar 4) (mC (.int 5)))) (mTB (mOp oNe (mVar 3) (mLst mNil)))) (sSeq (sSet 5 (mCall sp_l_draw [] (mCons (mVar 0) (mCons (mB oLen (mCons (mVar 3) mNil)) mNil)))) (sRet (mTup (mCons (mOp oAdd (mOp oAdd (mSl oSl (mVar 1) mNo (mPart (mVar 5))) (mTup (mCons (mCall sp_l_pick [] (mCons (mVar 0) (mCons (mLst (mCons (mC (.non)) (mCons (mC (.str (PySem.Str.ofString "one"))) (mCons (mC (.bl true)) (mCons (mTup (mCons (mOp oIx (mVar 3) (mVar 5)) mNil)) mNil))))) mNil))) mNil))) (mSl oSl (mVar 1) (mPart (mOp oAdd (mVar 5) (mC (.int 1)))) mNo)) (mCons (mC (.bl false)) mNil))))) sNext) (sRet (mCall sp_l_pick [] (mCons (mVar 0) (mCons (mLst (mCons (mTup (mCons (mC (.non)) (mCons (mC (.bl false)) mNil))) (mCons (mTup (mCons (mC (.int 0)) (mCons (mC (.bl false)) mNil))) (mCons (mTup (mCons (mC (.str (PySem.Str.ofString ""))) (mCons (mC (.bl false)) mNil))) (mCons (mTup (mCons (mTup mNil) (mCons (mC (.bl true)) mNil))) (mCons (mTup (mCons (mC (.dic [] [])) (mCons (mC (.bl false)) mNil))) mNil)))))) mNil)))))))))))
theorem w_l_bent (T : Tx K mg) (sp_l_pick : PM.Spec) (sp_l_draw : PM.Spec)
    (F_l_pick : FnOk P w K mg base CX0 2 T.a_l_pick T.d_l_pick p_l_pick (spM K .cl sp_l_pick))
    (F_l_draw : FnOk P w K mg base CX0 1 T.a_l_draw T.d_l_draw p_l_draw (spM K .cl sp_l_draw)) (cdv : Value) (A : Around) (outer : List PySem.Env) (s : Shared) (H : Hp) (E : XK)
    (hr : Room 2 (A.deeper (PyProof.Rows.envOfC "_law_bent" (defScope s_l_bent) s.heap.objs.size T.a_l_bent cdv))) :
    ∃ c', PSsm (bodyX P w K mg base n_l_bent "_law_bent" s_l_bent T.a_l_bent cdv A outer s H E) ⟨.cl, false, []⟩ (shs 6) c' (defBody s_l_bent) (t_l_bent sp_l_pick sp_l_draw) :=
  ⟨[.sh, .sh, .sh, .sh, .sh, .sh], (sm_cons (sm_par [3, 4] rfl S_l_bent.nd (xm_cl (PEm.cl (em_callTy call_list_of lift_list (by rfl) T.z_list PyProof.Rows.boot_list (am_cons (PEm.ow (em_var 1)) am_nil))) (xm_cl (em_call F_l_draw (hr.mono (by decide)) T.m_l_draw T.f_l_draw.kp T.b_l_draw .nil (fun _ => Rps.nil) (am_consC (em_var 0) (am_consC em_int am_nil))) xm_nil)))
    (sm_cons (sm_if (c' := [.sh, .sh, .sh, .sh, .sh, .sh]) (tm_cmp (op_eqD hr.units) lift_eq (PEm.ow (em_var 4)) (PEm.ow em_int) (nomark _)) (sm_one (sm_ret (em_tup (am_consC (em_var 3) (am_consC em_bl am_nil))))) sm_nil)
    (sm_cons (sm_if (c' := [.sh, .sh, .sh, .sh, .sh, .sh]) (tm_cmp (op_eqD hr.units) lift_eq (PEm.ow (em_var 4)) (PEm.ow em_int) (nomark _)) (sm_one (sm_ret (em_tup (am_consC (em_op op_plus lift_plus (PEm.ow (em_var 1)) (PEm.ow (em_tup (am_consC (em_op op_sub lift_sub (PEm.ow (em_var 2)) (PEm.ow em_int)) am_nil)))) (am_consC em_bl am_nil))))) sm_nil)
    (sm_cons (sm_if (c' := [.sh, .sh, .sh, .sh, .sh, .sh]) (tm_cmp (op_eqD hr.units) lift_eq (PEm.ow (em_var 4)) (PEm.ow em_int) (nomark _)) (sm_one (sm_ret (em_tup (am_consC (em_op op_plus lift_plus (PEm.ow (em_tup (am_consC (em_un un_neg lift_neg (PEm.ow em_int)) am_nil))) (PEm.ow (em_var 1))) (am_consC em_bl am_nil))))) sm_nil)
    (sm_cons (sm_if (c' := [.sh, .sh, .sh, .sh, .sh, .sh]) (PWm.pt (wm_and (tm_cmp (op_eqD hr.units) lift_eq (PEm.ow (em_var 4)) (PEm.ow em_int) (nomark _)) (wm_and1 (tm_cmp (op_neD hr.units) lift_ne (PEm.ow (em_var 3)) (PEm.ow (em_lst am_nil)) (nomark _))))) (sm_one (sm_ret (em_tup (am_consC (em_op op_plus lift_plus (PEm.ow (em_var 1)) (PEm.ow (em_sl (PEm.ow (em_var 1)) (om_some (PEm.ow (em_un un_neg lift_neg (PEm.ow em_int)))) om_none))) (am_consC em_bl am_nil))))) sm_nil)
    (sm_cons (sm_if (c' := [.sh, .sh, .sh, .sh, .sh, .sh]) (PWm.pt (wm_and (tm_cmp (op_eqD hr.units) lift_eq (PEm.ow (em_var 4)) (PEm.ow em_int) (nomark _)) (wm_and1 (tm_cmp op_gt lift_gt (PEm.ow (em_callB call_lenA lift_len (by rfl) T.z_len PySem.boot_len (am_cons (PEm.ow (em_var 3)) am_nil))) (PEm.ow em_int) (nomark _))))) (sm_one (sm_ret (em_tup (am_consC (em_rev (PEm.ow (em_var 1))) (am_consC em_bl am_nil))))) sm_nil)
    (sm_cons (sm_if (c' := [.sh, .sh, .sh, .sh, .sh, .sh]) (PWm.pt (wm_and (tm_cmp (op_eqD hr.units) lift_eq (PEm.ow (em_var 4)) (PEm.ow em_int) (nomark _)) (wm_and1 (tm_cmp (op_neD hr.units) lift_ne (PEm.ow (em_var 3)) (PEm.ow (em_lst am_nil)) (nomark _))))) (sm_cons (sm_set 5 S_l_bent.nd (em_call F_l_draw (hr.mono (by decide)) T.m_l_draw T.f_l_draw.kp T.b_l_draw .nil (fun _ => Rps.nil) (am_consC (em_var 0) (am_consC (em_callB call_lenA lift_len (by rfl) T.z_len PySem.boot_len (am_cons (PEm.ow (em_var 3)) am_nil)) am_nil))))
    (sm_one (sm_ret (em_tup (am_consC (em_op op_plus lift_plus (PEm.ow (em_op op_plus lift_plus (PEm.ow (em_sl (PEm.ow (em_var 1)) om_none (om_some (PEm.ow (em_var 5))))) (PEm.ow (em_tup (am_consC (em_call F_l_pick (hr.mono (by decide)) T.m_l_pick T.f_l_pick.kp T.b_l_pick .nil (fun _ => Rps.nil) (am_consC (em_var 0) (am_consC (PEm.cl (em_lst (am_consC em_non (am_consC em_str (am_consC em_bl (am_consC (em_tup (am_consC (em_ix (PEm.ow (em_var 3)) (PEm.ow (em_var 5)) (fun _ _ => rfl)) am_nil)) am_nil)))))) am_nil))) am_nil))))) (PEm.ow (em_sl (PEm.ow (em_var 1)) (om_some (PEm.ow (em_op op_plus lift_plus (PEm.ow (em_var 5)) (PEm.ow em_int)))) om_none))) (am_consC em_bl am_nil)))))) sm_nil)
    (sm_one (sm_ret (em_call F_l_pick (hr.mono (by decide)) T.m_l_pick T.f_l_pick.kp T.b_l_pick .nil (fun _ => Rps.nil) (am_consC (em_var 0) (am_consC (PEm.cl (em_lst (am_consC (em_tup (am_consC em_non (am_consC em_bl am_nil))) (am_consC (em_tup (am_consC em_int (am_consC em_bl am_nil))) (am_consC (em_tup (am_consC em_str (am_consC em_bl am_nil))) (am_consC (em_tup (am_consC (em_tup am_nil) (am_consC em_bl am_nil))) (am_consC (em_tup (am_consC (PEm.cl em_dnew) (am_consC em_bl am_nil))) am_nil))))))) am_nil))))))))))))⟩
def t_law (ok_l_heap : List PV → Prop) (sp_l_pick : PM.Spec) (sp_l_counted : PM.Spec) (sp_l_like : PM.Spec) (sp_l_some : PM.Spec) (sp_l_bent : PM.Spec) (sp_l_epochs : PM.Spec) (sp_stairs : PM.Spec) (sp_l_stairs : PM.Spec) (sp_l_draw : PM.Spec) (sp_is_schedule : PM.Spec) (sp_epochs_by : PM.Spec) (sp_price_by : PM.Spec) (sp_is_secret_by : PM.Spec) (sp_l_is_secret : PM.Spec) (sp_fewest_schedule : PM.Spec) (sp_l_fewest : PM.Spec) : TSm :=
  (sSeq (sSrc 1 ok_l_heap (mCons (mVar 0) mNil)) (sSeq (sSet 2 (mCall sp_l_pick [] (mCons (mVar 1) (mCons (mLst (mCons (mC (.int 1)) (mCons (mC (.int 2)) (mCons (mC (.int 3)) (mCons (mC (.int 4)) (mCons (mC (.int 5)) (mCons (mC (.int 7)) (mCons (mC (.int 9)) (mCons (mC (.int 14)) (mCons (mC (.int 21)) (mCons (mC (.int 30)) mNil))))))))))) mNil)))) (sSeq (sSet 3 (mCall sp_l_counted [] (mCons (mVar 1) (mCons (mVar 2) mNil)))) (sSeq (sSet 4 (mB oMaxL (mCons (mLc (mItems (mVar 3)) [12] (gmN 12) mYes (mB oLen (mCons (mVar 12) mNil))) mNil))) (sSeq (sSet 5 (mB oTuple (mCons (mLc (mRng1 (mOp oSub (mVar 2) (mC (.int 1)))) [13] (gmN 13) mYes (mCall sp_l_draw [] (mCons (mVar 1) (mCons (mCall sp_l_pick [] (mCons (mVar 1) (mCons (mLst (mCons (mC (.int 1)) (mCons (mC (.int 2)) (mCons (mC (.int 50)) (mCons (mOp oPow (mC (.int 10)) (mC (.int 6))) mNil))))) mNil))) mNil)))) mNil))) (sSeq (sFor (mRng1 (mC (.int 4))) (gmN 6) (sSeq (sSet 7 (mCall sp_l_some [] (mCons (mVar 1) (mCons (mLc (mRng1 (mOp oSub (mVar 2) (mC (.int 1)))) [13] (gmN 13) mYes (mVar 13)) (mCons (mCall sp_l_draw [] (mCons (mVar 1) (mCons (mVar 2) mNil))) mNil))))) (sSeq (sIf (mTB (mOp oNotB (mCall sp_is_schedule [] (mCons (mVar 2) (mCons (mVar 7) mNil))) (mC (.bl true)))) (sRet (mC (.bl false))) sNext) (sSeq (sAsg (mCall sp_l_bent [] (mCons (mVar 1) (mCons (mVar 7) (mCons (mVar 2) mNil)))) (gmT 2 (gmCons (gmN 10) (gmCons (gmN 11) gmNil)))) (sSeq (sIf (mNot (mTB (mCall sp_l_like [] (mCons (mCall sp_is_schedule [] (mCons (mVar 2) (mCons (mVar 10) mNil))) (mCons (mVar 11) mNil))))) (sRet (mC (.bl false))) sNext) (sSeq (sSet 8 (mCall sp_l_epochs [] (mCons (mVar 2) (mCons (mVar 7) mNil)))) (sSeq (sIf (mNot (mTB (mCall sp_l_like [] (mCons (mCall sp_epochs_by [] (mCons (mVar 2) (mCons (mVar 7) mNil))) (mCons (mVar 8) mNil))))) (sRet (mC (.bl false))) sNext) (sSeq (sIf (mNot (mTB (mCall sp_l_like [] (mCons (mCall sp_price_by [] (mCons (mVar 5) (mCons (mVar 7) mNil))) (mCons (mB oSum (mCons (mLc (mItems (mVar 7)) [13] (gmN 13) mYes (mOp oIx (mVar 5) (mVar 13))) mNil)) mNil))))) (sRet (mC (.bl false))) sNext) (sSeq (sSet 9 (mB oMax2 (mCons (mC (.int 0)) (mCons (mOp oSub (mOp oAdd (mVar 4) (mCall sp_l_draw [] (mCons (mVar 1) (mCons (mC (.int 7)) mNil)))) (mC (.int 1))) mNil)))) (sSeq (sIf (mNot (mTB (mCall sp_l_like [] (mCons (mCall sp_is_secret_by [] (mCons (mVar 3) (mCons (mVar 9) (mCons (mVar 7) mNil)))) (mCons (mCall sp_l_is_secret [] (mCons (mVar 3) (mCons (mVar 9) (mCons (mVar 8) mNil)))) mNil))))) (sRet (mC (.bl false))) sNext) (sIf (mNot (mTB (mCall sp_l_like [] (mCons (mCall sp_fewest_schedule [] (mCons (mVar 3) (mCons (mVar 9) mNil))) (mCons (mCall sp_l_fewest [] (mCons (mVar 3) (mCons (mVar 9) mNil))) mNil))))) (sRet (mC (.bl false))) sNext))))))))))) (sRet (mCall sp_l_like [] (mCons (mCall sp_stairs [] (mCons (mVar 3) mNil)) (mCons (mCall sp_l_stairs [] (mCons (mVar 3) mNil)) mNil))))))))))
theorem w_law (T : Tx K mg) (ok_l_heap : List PV → Prop) (sp_l_pick : PM.Spec) (sp_l_counted : PM.Spec) (sp_l_like : PM.Spec) (sp_l_some : PM.Spec) (sp_l_bent : PM.Spec) (sp_l_epochs : PM.Spec) (sp_stairs : PM.Spec) (sp_l_stairs : PM.Spec) (sp_l_draw : PM.Spec) (sp_is_schedule : PM.Spec) (sp_epochs_by : PM.Spec) (sp_price_by : PM.Spec) (sp_is_secret_by : PM.Spec) (sp_l_is_secret : PM.Spec) (sp_fewest_schedule : PM.Spec) (sp_l_fewest : PM.Spec)
    (F_l_heap : FnOk P w K mg base CX0 1 T.a_l_heap T.d_l_heap p_l_heap (spSrc K ok_l_heap))
    (F_l_pick : FnOk P w K mg base CX0 2 T.a_l_pick T.d_l_pick p_l_pick (spM K .cl sp_l_pick))
    (F_l_counted : FnOk P w K mg base CX0 3 T.a_l_counted T.d_l_counted p_l_counted (spM K .cl sp_l_counted))
    (F_l_like : FnOk P w K mg base CX0 3 T.a_l_like T.d_l_like p_l_like (spM K .cl sp_l_like))
    (F_l_some : FnOk P w K mg base CX0 2 T.a_l_some T.d_l_some p_l_some (spM K .cl sp_l_some))
    (F_l_bent : FnOk P w K mg base CX0 3 T.a_l_bent T.d_l_bent p_l_bent (spM K .cl sp_l_bent))
    (F_l_epochs : FnOk P w K mg base CX0 1 T.a_l_epochs T.d_l_epochs p_l_epochs (spM K .cl sp_l_epochs))
    (F_stairs : FnOk P w K mg base CX0 4 T.a_stairs T.d_stairs p_stairs (spM K .cl sp_stairs))
    (F_l_stairs : FnOk P w K mg base CX0 2 T.a_l_stairs T.d_l_stairs p_l_stairs (spM K .cl sp_l_stairs))
    (F_l_draw : FnOk P w K mg base CX0 1 T.a_l_draw T.d_l_draw p_l_draw (spM K .cl sp_l_draw))
    (F_is_schedule : FnOk P w K mg base CX0 3 T.a_is_schedule T.d_is_schedule p_is_schedule (spM K .cl sp_is_schedule))
    (F_epochs_by : FnOk P w K mg base CX0 1 T.a_epochs_by T.d_epochs_by p_epochs_by (spM K .cl sp_epochs_by))
    (F_price_by : FnOk P w K mg base CX0 1 T.a_price_by T.d_price_by p_price_by (spM K .cl sp_price_by))
    (F_is_secret_by : FnOk P w K mg base CX0 2 T.a_is_secret_by T.d_is_secret_by p_is_secret_by (spM K .cl sp_is_secret_by))
    (F_l_is_secret : FnOk P w K mg base CX0 1 T.a_l_is_secret T.d_l_is_secret p_l_is_secret (spM K .cl sp_l_is_secret))
    (F_fewest_schedule : FnOk P w K mg base CX0 3 T.a_fewest_schedule T.d_fewest_schedule p_fewest_schedule (spM K .cl sp_fewest_schedule))
    (F_l_fewest : FnOk P w K mg base CX0 1 T.a_l_fewest T.d_l_fewest p_l_fewest (spM K .cl sp_l_fewest)) (cdv : Value) (A : Around) (outer : List PySem.Env) (s : Shared) (H : Hp) (E : XK)
    (hr : Room 4 (A.deeper (PyProof.Rows.envOfC "law" (defScope s_law) s.heap.objs.size T.a_law cdv))) :
    ∃ c', PSsm (bodyX P w K mg base n_law "law" s_law T.a_law cdv A outer s H E) ⟨.cl, true, []⟩ (shs 14) c' (defBody s_law) (t_law ok_l_heap sp_l_pick sp_l_counted sp_l_like sp_l_some sp_l_bent sp_l_epochs sp_stairs sp_l_stairs sp_l_draw sp_is_schedule sp_epochs_by sp_price_by sp_is_secret_by sp_l_is_secret sp_fewest_schedule sp_l_fewest) :=
  ⟨[.sh, .sh, .sh, .sh, .sh, .sh, .sh, .sh, .sh, .sh, .sh, .sh, .sh, .sh], (sm_cons (sm_src 1 F_l_heap (hr.mono (by decide)) T.m_l_heap T.f_l_heap.kp T.b_l_heap rfl S_law.nd (am_consC (em_var 0) am_nil))
    (sm_cons (sm_set 2 S_law.nd (em_call F_l_pick (hr.mono (by decide)) T.m_l_pick T.f_l_pick.kp T.b_l_pick .nil (fun _ => Rps.nil) (am_consC (em_var 1) (am_consC (PEm.cl (em_lst (am_consC em_int (am_consC em_int (am_consC em_int (am_consC em_int (am_consC em_int (am_consC em_int (am_consC em_int (am_consC em_int (am_consC em_int (am_consC em_int am_nil)))))))))))) am_nil))))
    (sm_cons (sm_set 3 S_law.nd (em_call F_l_counted (hr.mono (by decide)) T.m_l_counted T.f_l_counted.kp T.b_l_counted .nil (fun _ => Rps.nil) (am_consC (em_var 1) (am_consC (em_var 2) am_nil))))
    (sm_cons (sm_set 4 S_law.nd (em_callB (cr_max rfl) lift_maxL (by rfl) T.z_max PyProof.Rows.boot_max (am_cons (PEm.ow (em_lc (own := [("lot", 12)]) rfl S_law.nd (im_seq (em_var 3)) (blkOk_by (N := n_law) (sc := defScope s_law) (by decide +kernel)) (fun _ _ _ _ _ => (gm_name 12 S_law.nd)) (fun _ _ _ _ _ => tsm_nil) (fun _ _ _ _ _ => (em_callB call_lenA lift_len (by rfl) T.z_len PySem.boot_len (am_cons (PEm.ow (em_var 12)) am_nil))))) am_nil)))
    (sm_cons (sm_set 5 S_law.nd (em_callTy call_tuple_of lift_tuple (by rfl) T.z_tuple PyProof.Rows.boot_tuple (am_cons (PEm.ow (em_lc (own := [("one", 13)]) rfl S_law.nd (im_rng1 T.z_range (PEm.ow (em_op op_sub lift_sub (PEm.ow (em_var 2)) (PEm.ow em_int)))) (blkOk_by (N := n_law) (sc := defScope s_law) (by decide +kernel)) (fun _ _ _ _ _ => (gm_name 13 S_law.nd)) (fun _ _ _ _ _ => tsm_nil) (fun _ _ _ _ _ => (em_call F_l_draw (hr.mono (by decide)) T.m_l_draw T.f_l_draw.kp T.b_l_draw .nil (fun _ => Rps.nil) (am_consC (em_var 1) (am_consC (em_call F_l_pick (hr.mono (by decide)) T.m_l_pick T.f_l_pick.kp T.b_l_pick .nil (fun _ => Rps.nil) (am_consC (em_var 1) (am_consC (PEm.cl (em_lst (am_consC em_int (am_consC em_int (am_consC em_int (am_consC (em_op op_pow lift_pow (PEm.ow em_int) (PEm.ow em_int)) am_nil)))))) am_nil))) am_nil)))))) am_nil)))
    (sm_cons (sm_for (c := [.sh, .sh, .sh, .sh, .sh, .sh, .sh, .sh, .sh, .sh, .sh, .sh, .sh, .sh]) .never rfl (im_rng1 T.z_range (PEm.ow em_int)) (gm_name 6 S_law.nd) (sm_cons (sm_set 7 S_law.nd (em_call F_l_some (hr.mono (by decide)) T.m_l_some T.f_l_some.kp T.b_l_some .nil (fun _ => Rps.nil) (am_consC (em_var 1) (am_consC (PEm.cl (em_lc (own := [("one", 13)]) rfl S_law.nd (im_rng1 T.z_range (PEm.ow (em_op op_sub lift_sub (PEm.ow (em_var 2)) (PEm.ow em_int)))) (blkOk_by (N := n_law) (sc := defScope s_law) (by decide +kernel)) (fun _ _ _ _ _ => (gm_name 13 S_law.nd)) (fun _ _ _ _ _ => tsm_nil) (fun _ _ _ _ _ => (em_var 13)))) (am_consC (em_call F_l_draw (hr.mono (by decide)) T.m_l_draw T.f_l_draw.kp T.b_l_draw .nil (fun _ => Rps.nil) (am_consC (em_var 1) (am_consC (em_var 2) am_nil))) am_nil)))))
    (sm_cons (sm_if (c' := [.sh, .sh, .sh, .sh, .sh, .sh, .sh, .sh, .sh, .sh, .sh, .sh, .sh, .sh]) (tm_cmp op_notBl lift_notB (PEm.ow (em_call F_is_schedule (hr.mono (by decide)) T.m_is_schedule T.f_is_schedule.kp T.b_is_schedule .nil (fun _ => Rps.nil) (am_consC (em_var 2) (am_consC (em_var 7) am_nil)))) (PEm.ow em_bl) (nomark _)) (sm_one (sm_ret em_bl)) sm_nil)
    (sm_cons (sm_asg (em_call F_l_bent (hr.mono (by decide)) T.m_l_bent T.f_l_bent.kp T.b_l_bent .nil (fun _ => Rps.nil) (am_consC (em_var 1) (am_consC (em_var 7) (am_consC (em_var 2) am_nil)))) (gm_tup rfl (gsm_cons (gm_name 10 S_law.nd) (gsm_cons (gm_name 11 S_law.nd) gsm_nil))))
    (sm_cons (sm_if (c' := [.sh, .sh, .sh, .sh, .sh, .sh, .sh, .sh, .sh, .sh, .sh, .sh, .sh, .sh]) (tm_not (tm_val (PEm.ow (em_call F_l_like (hr.mono (by decide)) T.m_l_like T.f_l_like.kp T.b_l_like .nil (fun _ => Rps.nil) (am_consC (em_call F_is_schedule (hr.mono (by decide)) T.m_is_schedule T.f_is_schedule.kp T.b_is_schedule .nil (fun _ => Rps.nil) (am_consC (em_var 2) (am_consC (em_var 10) am_nil))) (am_consC (em_var 11) am_nil)))))) (sm_one (sm_ret em_bl)) sm_nil)
    (sm_cons (sm_set 8 S_law.nd (em_call F_l_epochs (hr.mono (by decide)) T.m_l_epochs T.f_l_epochs.kp T.b_l_epochs .nil (fun _ => Rps.nil) (am_consC (em_var 2) (am_consC (em_var 7) am_nil))))
    (sm_cons (sm_if (c' := [.sh, .sh, .sh, .sh, .sh, .sh, .sh, .sh, .sh, .sh, .sh, .sh, .sh, .sh]) (tm_not (tm_val (PEm.ow (em_call F_l_like (hr.mono (by decide)) T.m_l_like T.f_l_like.kp T.b_l_like .nil (fun _ => Rps.nil) (am_consC (em_call F_epochs_by (hr.mono (by decide)) T.m_epochs_by T.f_epochs_by.kp T.b_epochs_by .nil (fun _ => Rps.nil) (am_consC (em_var 2) (am_consC (em_var 7) am_nil))) (am_consC (em_var 8) am_nil)))))) (sm_one (sm_ret em_bl)) sm_nil)
    (sm_cons (sm_if (c' := [.sh, .sh, .sh, .sh, .sh, .sh, .sh, .sh, .sh, .sh, .sh, .sh, .sh, .sh]) (tm_not (tm_val (PEm.ow (em_call F_l_like (hr.mono (by decide)) T.m_l_like T.f_l_like.kp T.b_l_like .nil (fun _ => Rps.nil) (am_consC (em_call F_price_by (hr.mono (by decide)) T.m_price_by T.f_price_by.kp T.b_price_by .nil (fun _ => Rps.nil) (am_consC (em_var 5) (am_consC (em_var 7) am_nil))) (am_consC (em_callB (cr_sum rfl) lift_sum (by rfl) T.z_sum PyProof.Rows.boot_sum (am_cons (PEm.ow (em_lc (own := [("one", 13)]) rfl S_law.nd (im_seq (em_var 7)) (blkOk_by (N := n_law) (sc := defScope s_law) (by decide +kernel)) (fun _ _ _ _ _ => (gm_name 13 S_law.nd)) (fun _ _ _ _ _ => tsm_nil) (fun _ _ _ _ _ => (em_ix (PEm.ow (em_var 5)) (PEm.ow (em_var 13)) (fun _ _ => rfl))))) am_nil)) am_nil)))))) (sm_one (sm_ret em_bl)) sm_nil)
    (sm_cons (sm_set 9 S_law.nd (em_callB (call_max2 rfl) lift_max2 (by rfl) T.z_max PyProof.Rows.boot_max (am_cons (PEm.ow em_int) (am_cons (PEm.ow (em_op op_sub lift_sub (PEm.ow (em_op op_plus lift_plus (PEm.ow (em_var 4)) (PEm.ow (em_call F_l_draw (hr.mono (by decide)) T.m_l_draw T.f_l_draw.kp T.b_l_draw .nil (fun _ => Rps.nil) (am_consC (em_var 1) (am_consC em_int am_nil)))))) (PEm.ow em_int))) am_nil))))
    (sm_cons (sm_if (c' := [.sh, .sh, .sh, .sh, .sh, .sh, .sh, .sh, .sh, .sh, .sh, .sh, .sh, .sh]) (tm_not (tm_val (PEm.ow (em_call F_l_like (hr.mono (by decide)) T.m_l_like T.f_l_like.kp T.b_l_like .nil (fun _ => Rps.nil) (am_consC (em_call F_is_secret_by (hr.mono (by decide)) T.m_is_secret_by T.f_is_secret_by.kp T.b_is_secret_by .nil (fun _ => Rps.nil) (am_consC (em_var 3) (am_consC (em_var 9) (am_consC (em_var 7) am_nil)))) (am_consC (em_call F_l_is_secret (hr.mono (by decide)) T.m_l_is_secret T.f_l_is_secret.kp T.b_l_is_secret .nil (fun _ => Rps.nil) (am_consC (em_var 3) (am_consC (em_var 9) (am_consC (em_var 8) am_nil)))) am_nil)))))) (sm_one (sm_ret em_bl)) sm_nil)
    (sm_one (sm_if (c' := [.sh, .sh, .sh, .sh, .sh, .sh, .sh, .sh, .sh, .sh, .sh, .sh, .sh, .sh]) (tm_not (tm_val (PEm.ow (em_call F_l_like (hr.mono (by decide)) T.m_l_like T.f_l_like.kp T.b_l_like .nil (fun _ => Rps.nil) (am_consC (em_call F_fewest_schedule (hr.mono (by decide)) T.m_fewest_schedule T.f_fewest_schedule.kp T.b_fewest_schedule .nil (fun _ => Rps.nil) (am_consC (em_var 3) (am_consC (em_var 9) am_nil))) (am_consC (em_call F_l_fewest (hr.mono (by decide)) T.m_l_fewest T.f_l_fewest.kp T.b_l_fewest .nil (fun _ => Rps.nil) (am_consC (em_var 3) (am_consC (em_var 9) am_nil))) am_nil)))))) (sm_one (sm_ret em_bl)) sm_nil))))))))))) (fun _ e => by cases e))
    (sm_one (sm_ret (em_call F_l_like (hr.mono (by decide)) T.m_l_like T.f_l_like.kp T.b_l_like .nil (fun _ => Rps.nil) (am_consC (em_call F_stairs (hr.mono (by decide)) T.m_stairs T.f_stairs.kp T.b_stairs .nil (fun _ => Rps.nil) (am_consC (em_var 3) am_nil)) (am_consC (em_call F_l_stairs (hr.mono (by decide)) T.m_l_stairs T.f_l_stairs.kp T.b_l_stairs .nil (fun _ => Rps.nil) (am_consC (em_var 3) am_nil)) am_nil)))))))))))⟩
end
end K44

set_option maxHeartbeats 1000000
namespace K44
open PySem L2 PM
def isInt : PV → Bool
  | .int _ => true
  | _ => false
def isNat : PV → Bool
  | .int i => decide (0 ≤ i)
  | _ => false
def sp_is_integer : PM.Spec := fun ps P => ∃ v, ps = [v] ∧ (pty v).isSome = true ∧ P (.bl (isInt v))
theorem h_is_integer (ps : List PV) (Q : PV → Prop) (h : sp_is_integer ps Q) : t_is_integer { nx := fun _ => nxOf .cl Q, rt := Q } (startE n_is_integer.length ps) := by
  obtain ⟨v, rfl, hv, h⟩ := h
  show t_is_integer _ [some v]
  unfold t_is_integer
  simp only [s_sRet, s_mAndV, s_mOp1, s_mVar0]
  refine oIsi_b known_int hv ⟨_, rfl, ?_⟩
  cases v with
  | int i => exact oIsi_of (P := fun x => oNot x Q) rfl rfl (s_oNot.mpr h)
  | bl b => exact oIsi_of (P := fun x => oNot x Q) rfl rfl (s_oNot.mpr h)
  | non => exact h
  | str _ => exact h
  | tup _ => exact h
  | lst _ => exact h
  | dic _ _ => exact h
  | _ => cases hv
def sp_is_number : PM.Spec := fun ps P => ∃ v, ps = [v, .non] ∧ (pty v).isSome = true ∧ P (.bl (isNat v))
theorem h_is_number (ps : List PV) (Q : PV → Prop) (h : sp_is_number ps Q) : t_is_number sp_is_integer { nx := fun _ => nxOf .cl Q, rt := Q } (startE n_is_number.length ps) := by
  obtain ⟨v, rfl, hv, h⟩ := h
  show t_is_number _ _ [some v, some .non]
  unfold t_is_number
  simp only [s_sRet, s_mAndV, s_mOrV, s_mOp, s_mVar0, s_mVarS, s_mCall, s_mCons, s_mNil, s_mC, List.append_nil]
  refine ⟨v, rfl, hv, _, rfl, ?_⟩
  cases v with
  | int i => 
    show (if true = true then _ else _)
    rw [if_pos rfl]
    simp only [s_oGe, s_oIsN, s_isNon_non]
    refine ⟨_, rfl, ?_⟩
    have e : isNat (.int i) = decide (0 ≤ i) := rfl
    rw [e] at h
    by_cases h0 : 0 ≤ i
    · rw [decide_eq_true h0] at h ⊢
      exact ⟨true, rfl, h⟩
    · rw [decide_eq_false h0] at h ⊢
      exact h
  | _ => exact h
def asc (ns : List Int) : Bool := (List.range (ns.length - 1)).all fun i => decide (ns.getD i 0 < ns.getD (i + 1) 0)
def sp_is_ascending : PM.Spec := fun ps P => ∃ ns : List Int, ps = [tI ns] ∧ ns.length ≤ 1000 ∧ P (.bl (asc ns))
theorem h_is_ascending (ps : List PV) (Q : PV → Prop) (h : sp_is_ascending ps Q) : t_is_ascending { nx := fun _ => nxOf .cl Q, rt := Q } (startE n_is_ascending.length ps) := by
  obtain ⟨ns, rfl, hl, h⟩ := h
  show t_is_ascending _ [some (tI ns), none]
  unfold t_is_ascending
  simp only [s_sRet, s_mOp, s_mVar0, s_mVarS, s_mCall, s_mCons, s_mNil, s_mC, s_mB, s_mLc, s_mRng2, s_oLen, s_plenT]
  refine ⟨_, rfl, 1, _, rfl, rfl, ?_, ?_⟩
  · rw [List.length_map]; omega
  rw [rngP_map, List.length_map]
  refine comp_map (f := fun i => .bl (decide (ns.getD i 0 < ns.getD (i + 1) 0))) (fun i hi => ⟨_, fun k hk => s_gmN.mpr hk, fun Q hQ => hQ, fun Q hQ => ?_⟩) ?_ (oAll_map ?_)
  · rw [List.mem_range] at hi
    have h1 : i < ns.length := by omega
    have h2 : i + 1 < ns.length := by omega
    show mOp _ _ _ [some (tI ns), some (.int (1 + (i : Int)))] Q
    simp only [s_mOp, s_mVar0, s_mVarS, s_mC, s_oSub, s_oIxT]
    refine ⟨.int (ns.getD i 0), ?_, .int (ns.getD (i + 1) 0), ?_, ?_⟩
    · rw [show (1 + (i : Int) - 1) = ((i : Nat) : Int) by omega, atI_map, atI_pos h1, List.getElem?_eq_getElem h1, List.getD_eq_getElem?_getD, List.getElem?_eq_getElem h1]; rfl
    · rw [show (1 + (i : Int)) = ((i + 1 : Nat) : Int) by omega, atI_map, atI_pos h2, List.getElem?_eq_getElem h2, List.getD_eq_getElem?_getD, List.getElem?_eq_getElem h2]; rfl
    · rw [s_oLt]; exact hQ
  · rw [List.length_range]; exact Nat.le_of_lt (small_line (by omega))
  · have e : (((ns.length : Int) - 1).toNat) = ns.length - 1 := by omega
    rw [e]; exact h
def okIn (maps : Int) : PV → Bool
  | .int i => decide (0 ≤ i) && decide (i < maps - 1)
  | _ => false
def intOf : PV → Int
  | .int i => i
  | _ => 0
def schB (maps : Int) : PV → Bool
  | .tup xs => xs.all (okIn maps) && asc (xs.map intOf)
  | _ => false
def sp_is_schedule : PM.Spec := fun ps P => ∃ (maps : Int) (v : PV), ps = [.int maps, v] ∧ (pty v).isSome = true ∧ (∀ xs, v = .tup xs → xs.length ≤ 1000 ∧ ∀ x ∈ xs, (pty x).isSome = true) ∧ P (.bl (schB maps v))
theorem h_is_schedule (ps : List PV) (Q : PV → Prop) (h : sp_is_schedule ps Q) : t_is_schedule sp_is_ascending sp_is_number { nx := fun _ => nxOf .cl Q, rt := Q } (startE n_is_schedule.length ps) := by
  obtain ⟨maps, v, rfl, hv, hx, h⟩ := h
  show t_is_schedule _ _ _ [some (.int maps), some v, none]
  unfold t_is_schedule
  simp only [s_sSeq, s_sIf, s_mOr, s_mNot, s_mTB, s_mOp1, s_mVar0, s_mVarS, s_sRet, s_mC, s_sNext, s_mCall, s_mCons, s_mNil, s_mB, List.append_nil]
  refine oIsi_b known_tuple hv ⟨_, rfl, ?_⟩
  cases v with
  | tup xs =>
    obtain ⟨hl, hd⟩ := hx xs rfl
    show (if (!true) = true then _ else _)
    rw [if_neg (by decide)]
    rw [s_mLc, s_mItems]
    simp only [s_mVar0, s_mVarS]
    refine ⟨xs, rfl, ?_⟩
    have e : xs = xs.map id := (List.map_id xs).symm
    rw [show mCompGo (gmN 2) mYes (mAndV (mCall sp_is_number [.non] (mCons (mVar 2) mNil)) (mOp oLt (mVar 2) (mOp oSub (mVar 0) (mC (.int 1))))) _ _ xs [] = mCompGo (gmN 2) mYes (mAndV (mCall sp_is_number [.non] (mCons (mVar 2) mNil)) (mOp oLt (mVar 2) (mOp oSub (mVar 0) (mC (.int 1))))) _ _ (xs.map id) [] from by rw [List.map_id]]
    refine comp_map (f := fun x => .bl (okIn maps x)) (fun x hx => ⟨_, fun k hk => s_gmN.mpr hk, fun Q hQ => hQ, fun Q hQ => ?_⟩) (Nat.le_of_lt (small_line (by omega))) (oAll_map ?_)
    · show mAndV _ _ [some (.int maps), some (.tup xs), some x] Q
      simp only [s_mAndV, s_mCall, s_mOp, s_mVar0, s_mVarS, s_mC, s_oSub, s_mCons, s_mNil]
      refine ⟨x, rfl, hd x hx, _, rfl, ?_⟩
      cases x with
      | int i =>
        show (if decide (0 ≤ i) = true then _ else _)
        have e : okIn maps (.int i) = (decide (0 ≤ i) && decide (i < maps - 1)) := rfl
        rw [e] at hQ
        by_cases h0 : 0 ≤ i
        · rw [decide_eq_true h0] at hQ ⊢
          rw [if_pos rfl, s_oLt]
          exact hQ
        · rw [decide_eq_false h0] at hQ ⊢
          exact hQ
      | _ => exact hQ
    · refine ⟨_, rfl, ?_⟩
      have e : schB maps (.tup xs) = (xs.all (okIn maps) && asc (xs.map intOf)) := rfl
      rw [e] at h
      cases ha : xs.all (okIn maps) with
      | false =>
        rw [ha] at h
        exact h
      | true =>
        rw [ha] at h
        show sp_is_ascending [.tup xs] Q
        have ex : xs = (xs.map intOf).map PV.int := by
          rw [List.map_map]
          conv => lhs; rw [← List.map_id xs]
          refine List.map_congr_left fun x hx => ?_
          have := List.all_eq_true.mp ha x hx
          cases x with
          | int i => rfl
          | _ => cases this
        refine ⟨xs.map intOf, congrArg (fun z => [PV.tup z]) ex, by rw [List.length_map]; exact hl, h⟩
  | _ => first | exact h | cases hv
end K44

set_option maxHeartbeats 1000000
namespace K44
open PySem L2 PM
/-! ### what is there, once each -/
def put (acc : List Int) (x : Int) : List Int := if x ∈ acc then acc else acc ++ [x]
def puts (acc lot : List Int) : List Int := lot.foldl put acc
def keys (lots : List (List Int)) : List Int := lots.foldl puts []
def seg {α : Type} (lots : List α) (a b : Nat) : List α := (lots.take (b + 1)).drop a
theorem nodup_put {acc : List Int} {x : Int} (h : acc.Nodup) : (put acc x).Nodup := by
  unfold put
  by_cases m : x ∈ acc
  · rw [if_pos m]; exact h
  · rw [if_neg m]
    rw [List.nodup_append]
    exact ⟨h, by simp, fun a ha b hb => by rw [List.mem_singleton] at hb; rw [hb]; exact fun z => m (z ▸ ha)⟩
theorem mem_put {acc : List Int} {x y : Int} : y ∈ put acc x ↔ y ∈ acc ∨ y = x := by
  unfold put
  by_cases m : x ∈ acc
  · rw [if_pos m]
    exact ⟨.inl, fun z => z.elim id fun e => e ▸ m⟩
  · rw [if_neg m, List.mem_append, List.mem_singleton]
theorem nodup_puts : ∀ {lot acc : List Int}, acc.Nodup → (puts acc lot).Nodup
  | [], _, h => h
  | x :: lot, acc, h => nodup_puts (lot := lot) (nodup_put (x := x) h)
theorem mem_puts {y : Int} : ∀ {lot acc : List Int}, y ∈ puts acc lot ↔ y ∈ acc ∨ y ∈ lot
  | [], acc => by show y ∈ acc ↔ _; simp
  | x :: lot, acc => by
    show y ∈ puts (put acc x) lot ↔ _
    rw [mem_puts, mem_put, List.mem_cons, or_assoc]
theorem nodup_fold : ∀ {lots : List (List Int)} {acc : List Int}, acc.Nodup → (lots.foldl puts acc).Nodup
  | [], _, h => h
  | l :: lots, acc, h => nodup_fold (lots := lots) (nodup_puts (lot := l) h)
theorem mem_fold {y : Int} : ∀ {lots : List (List Int)} {acc : List Int}, y ∈ lots.foldl puts acc ↔ y ∈ acc ∨ ∃ l ∈ lots, y ∈ l
  | [], _ => by simp
  | l :: lots, acc => by
    show y ∈ lots.foldl puts (puts acc l) ↔ _
    rw [mem_fold, mem_puts]
    constructor
    · rintro ((h | h) | ⟨m, hm, h⟩)
      · exact .inl h
      · exact .inr ⟨l, List.mem_cons_self .., h⟩
      · exact .inr ⟨m, List.mem_cons_of_mem _ hm, h⟩
    · rintro (h | ⟨m, hm, h⟩)
      · exact .inl (.inl h)
      · rcases List.mem_cons.mp hm with e | e
        · subst e; exact .inl (.inr h)
        · exact .inr ⟨m, e, h⟩
theorem nodup_keys (lots : List (List Int)) : (keys lots).Nodup := nodup_fold List.nodup_nil
theorem mem_keys {lots : List (List Int)} {y : Int} : y ∈ keys lots ↔ ∃ l ∈ lots, y ∈ l := by
  unfold keys
  rw [mem_fold]
  simp
theorem len_le : ∀ {a b : List Int}, a.Nodup → (∀ x ∈ a, x ∈ b) → a.length ≤ b.length
  | [], _, _, _ => Nat.zero_le _
  | x :: a, b, h, hs => by
    rw [List.nodup_cons] at h
    have hx := hs x (List.mem_cons_self ..)
    have := len_le (b := b.erase x) h.2 fun y hy => by
      have ne : y ≠ x := fun z => h.1 (z ▸ hy)
      exact (List.mem_erase_of_ne ne).mpr (hs y (List.mem_cons_of_mem _ hy))
    rw [List.length_erase_of_mem hx] at this
    have : 0 < b.length := List.length_pos_of_mem hx
    rw [List.length_cons]
    omega
theorem len_bound {a : List Int} {n : Nat} (h : a.Nodup) (hb : ∀ x ∈ a, 0 ≤ x ∧ x < (n : Int)) : a.length ≤ n := by
  have := len_le (b := (List.range n).map fun (i : Nat) => (i : Int)) h fun x hx => by
    obtain ⟨h0, h1⟩ := hb x hx
    exact List.mem_map.mpr ⟨x.toNat, List.mem_range.mpr (by omega), by omega⟩
  rw [List.length_map, List.length_range] at this
  exact this
/-! ### union_of -/
abbrev crs (lots : List (List Int)) : PV := .tup (lots.map tI)
structure Good (lots : List (List Int)) : Prop where
  small : lots.length ≤ 100
  lot : ∀ l ∈ lots, l.Nodup ∧ ∀ x ∈ l, 0 ≤ x ∧ x < 24
theorem intKey_inj {a b : Int} : intKey a = intKey b → a = b := fun h => Sum.inl.inj h
theorem nodup_ikeys : ∀ {ks : List Int}, ks.Nodup → (ks.map intKey).Nodup
  | [], _ => List.nodup_nil
  | x :: ks, h => by
    rw [List.nodup_cons] at h
    rw [List.map_cons, List.nodup_cons]
    exact ⟨fun z => by obtain ⟨y, hy, e⟩ := List.mem_map.mp z; exact h.1 (intKey_inj e ▸ hy), nodup_ikeys h.2⟩
theorem kPut_ints {ks : List Int} {x : Int} : kPut (ks.map intKey) (List.replicate ks.length (.bl true)) (.inl x) (.bl true) = .dic ((put ks x).map intKey) (List.replicate (put ks x).length (.bl true)) := by
  unfold kPut put
  by_cases m : x ∈ ks
  · rw [if_pos m]
    cases hk : kAt (ks.map intKey) (.inl x) with
    | none => exact absurd rfl (kAt_none hk (.inl x) (List.mem_map.mpr ⟨x, m, rfl⟩))
    | some i => show PV.dic _ _ = _; rw [List.set_replicate_self]
  · rw [if_neg m]
    cases hk : kAt (ks.map intKey) (.inl x) with
    | none =>
      show PV.dic _ _ = _
      rw [List.map_append, List.length_append, List.length_singleton, ← List.replicate_append_replicate]
      rfl
    | some i =>
      unfold kAt at hk
      obtain ⟨hi, he, _⟩ := List.findIdx?_eq_some_iff_getElem.mp hk
      rw [List.getElem_map] at he
      have e := of_decide_eq_true he
      exact absurd (intKey_inj e ▸ List.getElem_mem _) m
def DEnv (lots : List (List Int)) (a b : Nat) (ks : List Int) (e : PM.Env) : Prop := ks.Nodup ∧ (∀ x ∈ ks, 0 ≤ x ∧ x < 24) ∧ ∃ y4 y5, e = [some (crs lots), some (.int a), some (.int b), some (.dic (ks.map intKey) (List.replicate ks.length (.bl true))), y4, y5]
theorem cut_seg {α : Type} {lots : List α} {a b : Nat} : (lots.drop (HT.sIx lots.length 0 (some (a : Int)))).take (HT.sIx lots.length lots.length (some ((b : Int) + 1)) - HT.sIx lots.length 0 (some (a : Int))) = seg lots a b := by
  rw [HT.sIx_nat, show ((b : Int) + 1) = ((b + 1 : Nat) : Int) by omega, HT.sIx_nat]
  unfold seg
  apply List.ext_getElem?
  intro i
  rw [List.getElem?_take, List.getElem?_drop, List.getElem?_drop, List.getElem?_take]
  by_cases h1 : i < min (b + 1) lots.length - min a lots.length
  · rw [if_pos h1, if_pos (by omega), show min a lots.length = a by omega]
  · rw [if_neg h1]
    by_cases h2 : a + i < b + 1
    · rw [if_pos h2, List.getElem?_eq_none (by omega)]
    · rw [if_neg h2]
def sp_union_of : PM.Spec := fun ps P => ∃ (lots : List (List Int)) (a b : Nat), ps = [crs lots, .int a, .int b] ∧ Good lots ∧ P (tI (isort (keys (seg lots a b))))
theorem seg_mem {α : Type} {lots : List α} {a b : Nat} {l : α} (h : l ∈ seg lots a b) : l ∈ lots := List.mem_of_mem_take (List.mem_of_mem_drop h)
theorem h_union_of (ps : List PV) (Q : PV → Prop) (h : sp_union_of ps Q) : t_union_of { nx := fun _ => nxOf .cl Q, rt := Q } (startE n_union_of.length ps) := by
  obtain ⟨lots, a, b, rfl, hg, h⟩ := h
  show t_union_of _ [some (crs lots), some (.int a), some (.int b), none, none, none]
  unfold t_union_of
  simp only [s_sSeq, s_sSet, s_mC, s_sFor, s_mItems, s_mSl, s_mPart, s_mOp, List.set_cons_succ, List.set_cons_zero, s_mVar0, s_mVarS, s_oAdd, s_oSlT]
  refine ⟨_, rfl, _, rfl, _, rfl, ?_⟩
  rw [cutP_map, cut_seg]
  refine for_fold puts (DEnv lots a b) [] ⟨List.nodup_nil, (fun _ h => by cases h), _, _, rfl⟩ (fun l ks e N hl hE hN => ?_) (fun e hE => ?_)
  · obtain ⟨hn, hr, y4, y5, rfl⟩ := hE
    have hlg := hg.lot l (seg_mem hl)
    rw [s_gmN]
    simp only [List.set_cons_succ, List.set_cons_zero, s_sFor, s_mItems, s_mVar0, s_mVarS]
    refine ⟨_, rfl, ?_⟩
    refine for_fold put (DEnv lots a b) ks ⟨hn, hr, _, _, rfl⟩ (fun x ks e N hx hE hN => ?_) hN
    obtain ⟨hn, hr, y4, y5, rfl⟩ := hE
    rw [s_gmN]
    simp only [List.set_cons_succ, List.set_cons_zero]
    refine ⟨_, _, rfl, ?_⟩
    simp only [s_mVar0, s_mVarS]
    have hl24 := len_bound (n := 24) hn hr
    refine ⟨.inl x, rfl, nodup_ikeys hn, ?_, hN _ ⟨nodup_put hn, fun y hy => ?_, y4, some (.int x), ?_⟩⟩
    · rw [List.length_map]; exact small_line (by omega)
    · rcases mem_put.mp hy with z | z
      · exact hr y z
      · rw [z]; exact hlg.2 x hx
    · rw [kPut_ints]; rfl
  · obtain ⟨hn, hr, y4, y5, rfl⟩ := hE
    have hl24 := len_bound (n := 24) hn hr
    simp only [s_sRet, s_mB, s_mCons, s_mNil, s_mVarO0, s_mVarOS]
    refine ⟨rfl, _, .inr ⟨⟨_, rfl⟩, by omega⟩, ?_⟩
    exact s_oTupleL.mpr h
/-! ### epochs -/
def eps (maps : Int) (ns : List Int) : List (Int × Int) := (0 :: ns.map (· + 1)).zip (ns ++ [maps - 1])
abbrev eE (p : Int × Int) : PV := .tup [.int p.1, .int p.2]
def sp_epochs_by : PM.Spec := fun ps P => ∃ (maps : Int) (ns : List Int), ps = [.int maps, tI ns] ∧ ns.length ≤ 1000 ∧ P (.tup ((eps maps ns).map eE))
theorem h_epochs_by (ps : List PV) (Q : PV → Prop) (h : sp_epochs_by ps Q) : t_epochs_by { nx := fun _ => nxOf .cl Q, rt := Q } (startE n_epochs_by.length ps) := by
  obtain ⟨maps, ns, rfl, hl, h⟩ := h
  show t_epochs_by _ [some (.int maps), some (tI ns), none, none, none, none]
  unfold t_epochs_by
  simp only [s_sSeq, s_sSet, s_mC, s_sRet, s_mOp, s_mB, s_mCons, s_mNil, s_mTup, s_mLc, s_mItems, s_mVar0, s_mVarS]
  refine ⟨by decide, _, rfl, ?_⟩
  refine comp_map (f := fun i => .int (i + 1)) (fun x hx => ⟨_, fun k hk => s_gmN.mpr hk, fun Q hQ => hQ, fun Q hQ => ?_⟩) (Nat.le_of_lt (small_line (by omega))) ?_
  · show mOp _ _ _ [some (.int maps), some (tI ns), none, some (.int x), none, none] Q
    simp only [s_mOp, s_mVar0, s_mVarS, s_mC, s_oAdd]
    exact hQ
  rw [s_oTupleL]
  have e1 : (ns.map fun i => PV.int (i + 1)) = (ns.map (· + 1)).map PV.int := by rw [List.map_map]; rfl
  refine ⟨by rw [e1]; simp; exact Nat.le_of_lt (small_line (by omega)), ?_⟩
  simp only [List.set_cons_succ, List.set_cons_zero]
  show mZip _ _ _ _
  unfold mZip
  simp only [s_mOp, s_mVar0, s_mVarS, s_mC, s_mTup, s_mCons, s_mNil, s_oSub]
  refine ⟨Nat.le_of_lt (small_line (by simp)), by simp; exact Nat.le_of_lt (small_line (by omega)), ?_⟩
  have e2 : [PV.int 0] ++ (ns.map fun i => PV.int (i + 1)) = (0 :: ns.map (· + 1)).map PV.int := by rw [e1]; rfl
  have e3 : (ns.map PV.int) ++ [PV.int (maps - 1)] = (ns ++ [maps - 1]).map PV.int := by rw [List.map_append]; rfl
  show mCompGo _ _ _ _ _ (zipP ([PV.int 0] ++ (ns.map fun i => PV.int (i + 1))) ((ns.map PV.int) ++ [PV.int (maps - 1)])) []
  rw [e2, e3, zipP_map]
  refine comp_map (f := eE) (fun x hx => ⟨[some (.int maps), some (tI ns), some (.tup ((0 :: ns.map (· + 1)).map PV.int)), none, some (.int x.1), some (.int x.2)], fun k hk => ?_, fun Q hQ => hQ, fun Q hQ => ?_⟩) ?_ ?_
  · rw [s_gmT]
    refine ⟨rfl, ?_⟩
    simp only [s_gmCons, s_gmN, s_gmNil]
    exact hk
  · simp only [s_mTup, s_mCons, s_mNil, s_mVar0, s_mVarS]
    exact ⟨Nat.le_of_lt (small_line (by simp)), hQ⟩
  · rw [List.length_zip]; simp; exact Nat.le_of_lt (small_line (by omega))
  · rw [s_oTupleL]; exact h
end K44

set_option maxHeartbeats 1000000
namespace K44
open PySem L2 PM
theorem line {n : Nat} (h : n ≤ 1000000) : n ≤ sizeLine := Nat.le_of_lt (small_line h)
theorem isort_len (ns : List Int) : (isort ns).length = ns.length := (isort_perm ns).length_eq
def cnt (lots : List (List Int)) (a b : Nat) : Nat := (keys (seg lots a b)).length
/-- an epoch within -/
def Ep (n : Nat) (p : Int × Int) : Prop := 0 ≤ p.1 ∧ 0 ≤ p.2
def secB (lots : List (List Int)) (t : Int) (p : Int × Int) : Bool := decide ((cnt lots p.1.toNat p.2.toNat : Int) ≤ t)
def sp_is_secret_by : PM.Spec := fun ps P => ∃ (lots : List (List Int)) (t : Int) (ns : List Int), ps = [crs lots, .int t, tI ns] ∧ Good lots ∧ ns.length ≤ 1000 ∧ (∀ p ∈ eps lots.length ns, Ep lots.length p) ∧ P (.bl ((eps lots.length ns).all (secB lots t)))
theorem h_is_secret_by (ps : List PV) (Q : PV → Prop) (h : sp_is_secret_by ps Q) : t_is_secret_by sp_epochs_by sp_union_of { nx := fun _ => nxOf .cl Q, rt := Q } (startE n_is_secret_by.length ps) := by
  obtain ⟨lots, t, ns, rfl, hg, hl, hep, h⟩ := h
  show t_is_secret_by _ _ _ [some (crs lots), some (.int t), some (tI ns), none, none]
  unfold t_is_secret_by
  simp only [s_sRet, s_mB, s_mCons, s_mNil, s_mLc, s_mItems, s_mCall, s_mVar0, s_mVarS, s_oLen, s_plenT]
  refine ⟨_, rfl, lots.length, ns, by rw [List.length_map]; rfl, hl, _, rfl, ?_⟩
  refine comp_map (f := fun p => .bl (secB lots t p)) (fun p hp => ⟨[some (crs lots), some (.int t), some (tI ns), some (.int p.1), some (.int p.2)], fun k hk => ?_, fun Q hQ => hQ, fun Q hQ => ?_⟩) ?_ (oAll_map h)
  · exact s_gmT.mpr ⟨rfl, s_gmCons.mpr (s_gmN.mpr (s_gmCons.mpr (s_gmN.mpr (s_gmNil.mpr hk))))⟩
  · simp only [s_mOp, s_mB, s_mCall, s_mCons, s_mNil, s_mVar0, s_mVarS]
    obtain ⟨h0, h1⟩ := hep p hp
    refine ⟨lots, p.1.toNat, p.2.toNat, by rw [Int.toNat_of_nonneg h0, Int.toNat_of_nonneg h1]; rfl, hg, ?_⟩
    refine s_oLen.mpr ⟨_, rfl, s_oLe.mpr ?_⟩
    rw [List.length_map, isort_len]
    exact hQ
  · unfold eps
    rw [List.length_zip]
    refine line ?_
    simp
    omega
def sp_price_by : PM.Spec := fun ps P => ∃ (costs : List Int) (ns : List Int), ps = [tI costs, tI ns] ∧ ns.length ≤ 1000 ∧ (∀ i ∈ ns, 0 ≤ i ∧ i < costs.length) ∧ P (.int (ns.map fun i => costs.getD i.toNat 0).sum)
theorem h_price_by (ps : List PV) (Q : PV → Prop) (h : sp_price_by ps Q) : t_price_by { nx := fun _ => nxOf .cl Q, rt := Q } (startE n_price_by.length ps) := by
  obtain ⟨costs, ns, rfl, hl, hb, h⟩ := h
  show t_price_by _ [some (tI costs), some (tI ns), none]
  unfold t_price_by
  simp only [s_sRet, s_mB, s_mCons, s_mNil, s_mLc, s_mItems, s_mVar0, s_mVarS]
  refine ⟨_, rfl, ?_⟩
  refine comp_map (f := fun i => .int (costs.getD i.toNat 0)) (fun i hi => ⟨_, fun k hk => s_gmN.mpr hk, fun Q hQ => hQ, fun Q hQ => ?_⟩) (line (by omega)) (oSum_map h)
  show mOp _ _ _ [some (tI costs), some (tI ns), some (.int i)] Q
  obtain ⟨h0, h1⟩ := hb i hi
  simp only [s_mOp, s_mVar0, s_mVarS, s_oIxT]
  refine ⟨_, ?_, hQ⟩
  have l : i.toNat < costs.length := by omega
  rw [atI_map, atI_nn h0 h1, List.getElem?_eq_getElem l, List.getD_eq_getElem?_getD, List.getElem?_eq_getElem l]
  rfl
def sp_pick : PM.Spec := fun ps P => ∃ xs : List PV, ps = [.src, .lst xs] ∧ 0 < xs.length ∧ xs.length ≤ 1000 ∧ ∀ x ∈ xs, P x
/-- as in DrawA -/
def sp_drw : PM.Spec := fun ps P => ∃ many : Int, ps = [.src, .int many] ∧ 0 < many ∧ many < 1073741824 ∧ ∀ r, 0 ≤ r → r < many → P (.int r)
theorem h_l_pick (ps : List PV) (Q : PV → Prop) (h : sp_pick ps Q) : t_l_pick sp_drw { nx := fun _ => nxOf .cl Q, rt := Q } (startE n_l_pick.length ps) := by
  obtain ⟨xs, rfl, h0, hl, h⟩ := h
  show t_l_pick _ _ [some .src, some (.lst xs)]
  unfold t_l_pick
  simp only [s_sRet, s_mOp, s_mB, s_mCall, s_mCons, s_mNil, s_mVar0, s_mVarS, s_oLen, s_plenL]
  refine ⟨_, rfl, _, rfl, by omega, by omega, fun r hr hr2 => ?_⟩
  refine s_oIxL.mpr ?_
  have l : r.toNat < xs.length := by omega
  exact ⟨xs[r.toNat], by rw [atI_nn hr hr2, List.getElem?_eq_getElem l], h _ (List.getElem_mem l)⟩
def sp_l_epochs : PM.Spec := fun ps P => ∃ (maps : Int) (ns : List Int), ps = [.int maps, tI ns] ∧ ns.length ≤ 1000 ∧ P (.tup ((eps maps ns).map eE))
/-- the epochs one behind another -/
def epGo (s : List (Int × Int) × Int) (l : Int) : List (Int × Int) × Int := (s.1 ++ [(s.2, l)], l + 1)
theorem epGo_len : ∀ {ls : List Int} {s : List (Int × Int) × Int}, (ls.foldl epGo s).1.length = s.1.length + ls.length
  | [], _ => rfl
  | l :: ls, s => by
    show (ls.foldl epGo (epGo s l)).1.length = _
    rw [epGo_len]
    show (s.1 ++ [(s.2, l)]).length + ls.length = _
    rw [List.length_append, List.length_singleton, List.length_cons]; omega
theorem epGo_eps {maps : Int} : ∀ {ns : List Int} {acc : List (Int × Int)} {f : Int}, ((ns ++ [maps - 1]).foldl epGo (acc, f)).1 = acc ++ (f :: ns.map (· + 1)).zip (ns ++ [maps - 1])
  | [], _, _ => rfl
  | n :: ns, acc, f => by
    show ((ns ++ [maps - 1]).foldl epGo (acc ++ [(f, n)], n + 1)).1 = _
    rw [epGo_eps, List.append_assoc]
    rfl
theorem h_l_epochs (ps : List PV) (Q : PV → Prop) (h : sp_l_epochs ps Q) : t_l_epochs { nx := fun _ => nxOf .cl Q, rt := Q } (startE n_l_epochs.length ps) := by
  obtain ⟨maps, ns, rfl, hl, h⟩ := h
  show t_l_epochs _ [some (.int maps), some (tI ns), none, none, none]
  unfold t_l_epochs
  simp only [s_sSeq, s_sPar, s_mCons, s_mNil, s_mLst, s_mC, s_sFor, s_mItems, s_mOp, s_mB]
  refine ⟨Nat.zero_le _, ?_⟩
  simp only [s_setNS, s_setN0, List.set_cons_succ, List.set_cons_zero, s_mVar0, s_mVarS]
  simp only [s_oListT, s_oSub]
  refine ⟨line (by simp), ?_⟩
  show oAdd (.lst (ns.map .int)) (.lst [.int (maps - 1)]) _
  refine ⟨by simp; exact line (by omega), _, rfl, ?_⟩
  have e3 : (ns.map PV.int) ++ [PV.int (maps - 1)] = (ns ++ [maps - 1]).map PV.int := by rw [List.map_append]; rfl
  rw [e3]
  refine for_inv (fun i e => i ≤ ns.length + 1 ∧ ∃ y2, e = [some (.int maps), some (tI ns), y2, some (.lst ((((ns ++ [maps - 1]).take i).foldl epGo ([], 0)).1.map eE)), some (.int (((ns ++ [maps - 1]).take i).foldl epGo ([], 0)).2)]) ⟨Nat.zero_le _, none, rfl⟩ (fun i x e N hx hE hN => ?_) (fun e hE => ?_)
  · obtain ⟨hi, y2, rfl⟩ := hE
    have hlt : i < ns.length + 1 := by have := (List.getElem?_eq_some_iff.mp hx).1; simpa using this
    rw [s_gmN]
    simp only [List.set_cons_succ, List.set_cons_zero, s_sApp, s_mTup, s_mCons, s_mNil, s_mVar0, s_mVarS, s_sSet, s_mOp, s_mC]
    refine ⟨_, rfl, ?_⟩
    simp only [s_mVar0, s_mVarS, s_mVarO0, s_mVarOS, s_isObj_lst, s_isObj_dic, s_mC, s_mOp, s_mOp1, s_mB, s_mNil, s_mCons, s_mTup, s_mLst, s_mCall, s_mTB, s_mNot, s_mAnd, s_mOr, s_mAndV, s_mOrV, s_mIf, s_mYes, s_mSl, s_mNo, s_mPart, s_mLc, s_mItems, s_mRng1, s_mRng2, s_mEnum, s_mChain, s_seqT, s_seqL, s_sNext, s_sSeq, s_sIf, s_sSet, s_sRet, s_sRetN, s_sBreak, s_sCont, s_sDrop, s_sPar, s_setN0, s_setNS, s_sAsg, s_sApp, s_sAug, s_sFor, s_sSrc, s_gmN, s_gmT, s_gmCons, s_gmNil, s_wipe0, s_wipeS, s_oSub, s_oAddI, s_oAdd, s_oLt, s_oLe, s_oGt, s_oGe, s_oNeg, s_oNot, s_oMul, s_oMulW, s_oMod, s_oFdiv, s_oPow, s_oIsN, s_oNotN, s_oIsB, s_oNotB, s_isNon_int, s_isNon_non, s_isNon_bl, s_isNon_str, s_isNon_tup, s_isNon_lst, s_isNon_dic, s_oEqI, s_oNeI, s_oIxT, s_oIxL, s_oSlT, s_oSlL, s_oRevT, s_oRevL, s_oInt, s_oIntB, s_oAbs, s_oMax2, s_oMin2, s_oLen, s_plenT, s_plenL, s_plenD, s_plenS, s_oTupleL, s_oTupleT, s_oListL, s_oListT, List.set_cons_succ, List.set_cons_zero, List.append_nil, true_and]
    refine ⟨line (by simp), ?_, ?_⟩
    · rw [List.length_map, epGo_len, List.length_take]; exact small_line (by simp; omega)
    · refine hN _ ⟨by omega, some (.int x), ?_⟩
      rw [foldl_take hx]
      simp [epGo]
  · obtain ⟨_, y2, rfl⟩ := hE
    rw [List.take_length, epGo_eps]
    simp only [s_sRet, s_mB, s_mCons, s_mNil, s_mVarO0, s_mVarOS]
    exact ⟨rfl, s_oTupleL.mpr h⟩
end K44

set_option maxHeartbeats 1000000
namespace K44
open PySem L2 PM
theorem puts_filter : ∀ {lot acc : List Int}, lot.Nodup → puts acc lot = acc ++ lot.filter fun x => !decide (x ∈ acc)
  | [], acc, _ => by simp [puts]
  | x :: lot, acc, h => by
    rw [List.nodup_cons] at h
    show puts (put acc x) lot = _
    rw [puts_filter h.2, List.filter_cons]
    unfold put
    by_cases m : x ∈ acc
    · rw [if_pos m, decide_eq_true m]; rfl
    · rw [if_neg m, decide_eq_false m]
      show _ = acc ++ x :: _
      rw [List.append_assoc]
      show acc ++ x :: _ = _
      congr 2
      refine List.filter_congr fun y hy => ?_
      have ne : y ≠ x := fun z => h.1 (z ▸ hy)
      simp [ne]
def sp_l_is_secret : PM.Spec := fun ps P => ∃ (lots : List (List Int)) (t : Int) (es : List (Int × Int)), ps = [crs lots, .int t, .tup (es.map eE)] ∧ Good lots ∧ (∀ p ∈ es, Ep lots.length p) ∧ P (.bl (es.all (secB lots t)))
theorem h_l_is_secret (ps : List PV) (Q : PV → Prop) (h : sp_l_is_secret ps Q) : t_l_is_secret { nx := fun _ => nxOf .cl Q, rt := Q } (startE n_l_is_secret.length ps) := by
  obtain ⟨lots, t, es, rfl, hg, hep, h⟩ := h
  show t_l_is_secret _ [some (crs lots), some (.int t), some (.tup (es.map eE)), none, none, none, none, none]
  unfold t_l_is_secret
  simp only [s_mVar0, s_mVarS, s_mVarO0, s_mVarOS, s_isObj_lst, s_isObj_dic, s_mC, s_mOp, s_mOp1, s_mB, s_mNil, s_mCons, s_mTup, s_mLst, s_mCall, s_mTB, s_mNot, s_mAnd, s_mOr, s_mAndV, s_mOrV, s_mIf, s_mYes, s_mSl, s_mNo, s_mPart, s_mLc, s_mItems, s_mRng1, s_mRng2, s_mEnum, s_mChain, s_seqT, s_seqL, s_sNext, s_sSeq, s_sIf, s_sSet, s_sRet, s_sRetN, s_sBreak, s_sCont, s_sDrop, s_sPar, s_setN0, s_setNS, s_sAsg, s_sApp, s_sAug, s_sFor, s_sSrc, s_gmN, s_gmT, s_gmCons, s_gmNil, s_wipe0, s_wipeS, s_oSub, s_oAddI, s_oAdd, s_oLt, s_oLe, s_oGt, s_oGe, s_oNeg, s_oNot, s_oMul, s_oMulW, s_oMod, s_oFdiv, s_oPow, s_oIsN, s_oNotN, s_oIsB, s_oNotB, s_isNon_int, s_isNon_non, s_isNon_bl, s_isNon_str, s_isNon_tup, s_isNon_lst, s_isNon_dic, s_oEqI, s_oNeI, s_oIxT, s_oIxL, s_oSlT, s_oSlL, s_oRevT, s_oRevL, s_oInt, s_oIntB, s_oAbs, s_oMax2, s_oMin2, s_oLen, s_plenT, s_plenL, s_plenD, s_plenS, s_oTupleL, s_oTupleT, s_oListL, s_oListT, List.set_cons_succ, List.set_cons_zero, List.append_nil, true_and]
  refine ⟨_, rfl, ?_⟩
  refine for_inv (fun i e => (es.take i).all (secB lots t) = true ∧ ∃ y3 y4 y5 y6 y7, e = [some (crs lots), some (.int t), some (.tup (es.map eE)), y3, y4, y5, y6, y7]) ⟨rfl, _, _, _, _, _, rfl⟩ (fun i p e N hx hE hN => ?_) (fun e hE => ?_)
  · obtain ⟨hall, y3, y4, y5, y6, y7, rfl⟩ := hE
    obtain ⟨h0, h1⟩ := hep p (List.mem_of_getElem? hx)
    refine s_gmT.mpr ⟨rfl, ?_⟩
    simp only [s_mVar0, s_mVarS, s_mVarO0, s_mVarOS, s_isObj_lst, s_isObj_dic, s_mC, s_mOp, s_mOp1, s_mB, s_mNil, s_mCons, s_mTup, s_mLst, s_mCall, s_mTB, s_mNot, s_mAnd, s_mOr, s_mAndV, s_mOrV, s_mIf, s_mYes, s_mSl, s_mNo, s_mPart, s_mLc, s_mItems, s_mRng1, s_mRng2, s_mEnum, s_mChain, s_seqT, s_seqL, s_sNext, s_sSeq, s_sIf, s_sSet, s_sRet, s_sRetN, s_sBreak, s_sCont, s_sDrop, s_sPar, s_setN0, s_setNS, s_sAsg, s_sApp, s_sAug, s_sFor, s_sSrc, s_gmN, s_gmT, s_gmCons, s_gmNil, s_wipe0, s_wipeS, s_oSub, s_oAddI, s_oAdd, s_oLt, s_oLe, s_oGt, s_oGe, s_oNeg, s_oNot, s_oMul, s_oMulW, s_oMod, s_oFdiv, s_oPow, s_oIsN, s_oNotN, s_oIsB, s_oNotB, s_isNon_int, s_isNon_non, s_isNon_bl, s_isNon_str, s_isNon_tup, s_isNon_lst, s_isNon_dic, s_oEqI, s_oNeI, s_oIxT, s_oIxL, s_oSlT, s_oSlL, s_oRevT, s_oRevL, s_oInt, s_oIntB, s_oAbs, s_oMax2, s_oMin2, s_oLen, s_plenT, s_plenL, s_plenD, s_plenS, s_oTupleL, s_oTupleT, s_oListL, s_oListT, List.set_cons_succ, List.set_cons_zero, List.append_nil, true_and]
    refine ⟨Nat.zero_le _, _, rfl, _, rfl, _, rfl, ?_⟩
    have e0 : p.1 = (p.1.toNat : Int) := by omega
    have e1 : p.2 = (p.2.toNat : Int) := by omega
    have ec : cutP (lots.map tI) (some p.1) (some (p.2 + 1)) = (seg lots p.1.toNat p.2.toNat).map tI := by
      rw [cutP_map]
      conv => lhs; rw [e0, e1]
      rw [cut_seg]
    rw [ec]
    refine for_fold puts (fun ks e => ks.Nodup ∧ (∀ x ∈ ks, 0 ≤ x ∧ x < 24) ∧ ∃ y6 y7, e = [some (crs lots), some (.int t), some (.tup (es.map eE)), some (.int p.1), some (.int p.2), some (lI ks), y6, y7]) [] ⟨List.nodup_nil, (fun _ h => by cases h), _, _, rfl⟩ (fun l ks e N' hl hE hN' => ?_) (fun e hE => ?_)
    · obtain ⟨hn, hr, y6, y7, rfl⟩ := hE
      have hlg := hg.lot l (seg_mem hl)
      have ll := len_bound (n := 24) hlg.1 hlg.2
      have lk := len_bound (n := 24) hn hr
      rw [s_gmN]
      simp only [s_mVar0, s_mVarS, s_mVarO0, s_mVarOS, s_isObj_lst, s_isObj_dic, s_mC, s_mOp, s_mOp1, s_mB, s_mNil, s_mCons, s_mTup, s_mLst, s_mCall, s_mTB, s_mNot, s_mAnd, s_mOr, s_mAndV, s_mOrV, s_mIf, s_mYes, s_mSl, s_mNo, s_mPart, s_mLc, s_mItems, s_mRng1, s_mRng2, s_mEnum, s_mChain, s_seqT, s_seqL, s_sNext, s_sSeq, s_sIf, s_sSet, s_sRet, s_sRetN, s_sBreak, s_sCont, s_sDrop, s_sPar, s_setN0, s_setNS, s_sAsg, s_sApp, s_sAug, s_sFor, s_sSrc, s_gmN, s_gmT, s_gmCons, s_gmNil, s_wipe0, s_wipeS, s_oSub, s_oAddI, s_oAdd, s_oLt, s_oLe, s_oGt, s_oGe, s_oNeg, s_oNot, s_oMul, s_oMulW, s_oMod, s_oFdiv, s_oPow, s_oIsN, s_oNotN, s_oIsB, s_oNotB, s_isNon_int, s_isNon_non, s_isNon_bl, s_isNon_str, s_isNon_tup, s_isNon_lst, s_isNon_dic, s_oEqI, s_oNeI, s_oIxT, s_oIxL, s_oSlT, s_oSlL, s_oRevT, s_oRevL, s_oInt, s_oIntB, s_oAbs, s_oMax2, s_oMin2, s_oLen, s_plenT, s_plenL, s_plenD, s_plenS, s_oTupleL, s_oTupleT, s_oListL, s_oListT, List.set_cons_succ, List.set_cons_zero, List.append_nil, true_and]
      refine ⟨_, rfl, ?_⟩
      refine comp_emb (tst := fun x => !decide (x ∈ ks)) (f := .int) (fun x hx => ⟨_, fun k hk => s_gmN.mpr hk, fun Q hQ => ?_, fun _ Q hQ => ?_⟩) (by rw [List.length_nil, Nat.zero_add]; exact line (by omega)) ?_
      · show mTB (mOp (oIn true) (mVar 7) (mVar 5)) [some (crs lots), some (.int t), some (.tup (es.map eE)), some (.int p.1), some (.int p.2), some (lI ks), some (tI l), some (.int x)] Q
        simp only [s_mVar0, s_mVarS, s_mVarO0, s_mVarOS, s_isObj_lst, s_isObj_dic, s_mC, s_mOp, s_mOp1, s_mB, s_mNil, s_mCons, s_mTup, s_mLst, s_mCall, s_mTB, s_mNot, s_mAnd, s_mOr, s_mAndV, s_mOrV, s_mIf, s_mYes, s_mSl, s_mNo, s_mPart, s_mLc, s_mItems, s_mRng1, s_mRng2, s_mEnum, s_mChain, s_seqT, s_seqL, s_sNext, s_sSeq, s_sIf, s_sSet, s_sRet, s_sRetN, s_sBreak, s_sCont, s_sDrop, s_sPar, s_setN0, s_setNS, s_sAsg, s_sApp, s_sAug, s_sFor, s_sSrc, s_gmN, s_gmT, s_gmCons, s_gmNil, s_wipe0, s_wipeS, s_oSub, s_oAddI, s_oAdd, s_oLt, s_oLe, s_oGt, s_oGe, s_oNeg, s_oNot, s_oMul, s_oMulW, s_oMod, s_oFdiv, s_oPow, s_oIsN, s_oNotN, s_oIsB, s_oNotB, s_isNon_int, s_isNon_non, s_isNon_bl, s_isNon_str, s_isNon_tup, s_isNon_lst, s_isNon_dic, s_oEqI, s_oNeI, s_oIxT, s_oIxL, s_oSlT, s_oSlL, s_oRevT, s_oRevL, s_oInt, s_oIntB, s_oAbs, s_oMax2, s_oMin2, s_oLen, s_plenT, s_plenL, s_plenD, s_plenS, s_oTupleL, s_oTupleT, s_oListL, s_oListT, List.set_cons_succ, List.set_cons_zero, List.append_nil, true_and]
        exact oIn_ints ⟨_, rfl, hQ⟩
      · show mVar 7 [some (crs lots), some (.int t), some (.tup (es.map eE)), some (.int p.1), some (.int p.2), some (lI ks), some (tI l), some (.int x)] Q
        simp only [s_mVar0, s_mVarS, s_mVarO0, s_mVarOS, s_isObj_lst, s_isObj_dic, s_mC, s_mOp, s_mOp1, s_mB, s_mNil, s_mCons, s_mTup, s_mLst, s_mCall, s_mTB, s_mNot, s_mAnd, s_mOr, s_mAndV, s_mOrV, s_mIf, s_mYes, s_mSl, s_mNo, s_mPart, s_mLc, s_mItems, s_mRng1, s_mRng2, s_mEnum, s_mChain, s_seqT, s_seqL, s_sNext, s_sSeq, s_sIf, s_sSet, s_sRet, s_sRetN, s_sBreak, s_sCont, s_sDrop, s_sPar, s_setN0, s_setNS, s_sAsg, s_sApp, s_sAug, s_sFor, s_sSrc, s_gmN, s_gmT, s_gmCons, s_gmNil, s_wipe0, s_wipeS, s_oSub, s_oAddI, s_oAdd, s_oLt, s_oLe, s_oGt, s_oGe, s_oNeg, s_oNot, s_oMul, s_oMulW, s_oMod, s_oFdiv, s_oPow, s_oIsN, s_oNotN, s_oIsB, s_oNotB, s_isNon_int, s_isNon_non, s_isNon_bl, s_isNon_str, s_isNon_tup, s_isNon_lst, s_isNon_dic, s_oEqI, s_oNeI, s_oIxT, s_oIxL, s_oSlT, s_oSlL, s_oRevT, s_oRevL, s_oInt, s_oIntB, s_oAbs, s_oMax2, s_oMin2, s_oLen, s_plenT, s_plenL, s_plenD, s_plenS, s_oTupleL, s_oTupleT, s_oListL, s_oListT, List.set_cons_succ, List.set_cons_zero, List.append_nil, true_and]
        exact hQ
      · have e3 : puts ks l = ks ++ l.filter fun x => !decide (x ∈ ks) := puts_filter hlg.1
        have hn' := nodup_puts (lot := l) hn
        have hr' : ∀ x ∈ puts ks l, 0 ≤ x ∧ x < 24 := fun x hx => (mem_puts.mp hx).elim (hr x) (hlg.2 x)
        have l3 := len_bound (n := 24) hn' hr'
        rw [e3] at l3
        refine ⟨by rw [List.nil_append, List.length_map, List.length_map]; rw [List.length_append] at l3; exact line (by omega), ?_⟩
        refine hN' _ ⟨hn', hr', some (tI l), y7, ?_⟩
        rw [e3, List.nil_append, ← List.map_append]
    · obtain ⟨hn, hr, y6, y7, rfl⟩ := hE
      simp only [s_mVar0, s_mVarS, s_mVarO0, s_mVarOS, s_isObj_lst, s_isObj_dic, s_mC, s_mOp, s_mOp1, s_mB, s_mNil, s_mCons, s_mTup, s_mLst, s_mCall, s_mTB, s_mNot, s_mAnd, s_mOr, s_mAndV, s_mOrV, s_mIf, s_mYes, s_mSl, s_mNo, s_mPart, s_mLc, s_mItems, s_mRng1, s_mRng2, s_mEnum, s_mChain, s_seqT, s_seqL, s_sNext, s_sSeq, s_sIf, s_sSet, s_sRet, s_sRetN, s_sBreak, s_sCont, s_sDrop, s_sPar, s_setN0, s_setNS, s_sAsg, s_sApp, s_sAug, s_sFor, s_sSrc, s_gmN, s_gmT, s_gmCons, s_gmNil, s_wipe0, s_wipeS, s_oSub, s_oAddI, s_oAdd, s_oLt, s_oLe, s_oGt, s_oGe, s_oNeg, s_oNot, s_oMul, s_oMulW, s_oMod, s_oFdiv, s_oPow, s_oIsN, s_oNotN, s_oIsB, s_oNotB, s_isNon_int, s_isNon_non, s_isNon_bl, s_isNon_str, s_isNon_tup, s_isNon_lst, s_isNon_dic, s_oEqI, s_oNeI, s_oIxT, s_oIxL, s_oSlT, s_oSlL, s_oRevT, s_oRevL, s_oInt, s_oIntB, s_oAbs, s_oMax2, s_oMin2, s_oLen, s_plenT, s_plenL, s_plenD, s_plenS, s_oTupleL, s_oTupleT, s_oListL, s_oListT, List.set_cons_succ, List.set_cons_zero, List.append_nil, true_and]
      refine ⟨_, rfl, _, rfl, ?_⟩
      rw [List.length_map]
      have es1 : secB lots t p = decide (((List.foldl puts [] (seg lots p.1.toNat p.2.toNat)).length : Int) ≤ t) := rfl
      by_cases hc : t < ((List.foldl puts [] (seg lots p.1.toNat p.2.toNat)).length : Int)
      · rw [decide_eq_true hc, if_pos rfl]
        have : es.all (secB lots t) = false := by
          rw [List.all_eq_false]
          exact ⟨p, List.mem_of_getElem? hx, by rw [es1, decide_eq_false (by omega)]; decide⟩
        rw [this] at h
        exact h
      · rw [decide_eq_false hc, if_neg Bool.false_ne_true]
        refine hN _ ⟨?_, _, _, _, _, _, rfl⟩
        rw [List.take_add_one, hx, List.all_append, hall]
        show (true && (secB lots t p && true)) = true
        rw [es1, decide_eq_true (by omega)]
        rfl
  · obtain ⟨hall, y3, y4, y5, y6, y7, rfl⟩ := hE
    rw [List.take_length] at hall
    rw [hall] at h
    simp only [s_mVar0, s_mVarS, s_mVarO0, s_mVarOS, s_isObj_lst, s_isObj_dic, s_mC, s_mOp, s_mOp1, s_mB, s_mNil, s_mCons, s_mTup, s_mLst, s_mCall, s_mTB, s_mNot, s_mAnd, s_mOr, s_mAndV, s_mOrV, s_mIf, s_mYes, s_mSl, s_mNo, s_mPart, s_mLc, s_mItems, s_mRng1, s_mRng2, s_mEnum, s_mChain, s_seqT, s_seqL, s_sNext, s_sSeq, s_sIf, s_sSet, s_sRet, s_sRetN, s_sBreak, s_sCont, s_sDrop, s_sPar, s_setN0, s_setNS, s_sAsg, s_sApp, s_sAug, s_sFor, s_sSrc, s_gmN, s_gmT, s_gmCons, s_gmNil, s_wipe0, s_wipeS, s_oSub, s_oAddI, s_oAdd, s_oLt, s_oLe, s_oGt, s_oGe, s_oNeg, s_oNot, s_oMul, s_oMulW, s_oMod, s_oFdiv, s_oPow, s_oIsN, s_oNotN, s_oIsB, s_oNotB, s_isNon_int, s_isNon_non, s_isNon_bl, s_isNon_str, s_isNon_tup, s_isNon_lst, s_isNon_dic, s_oEqI, s_oNeI, s_oIxT, s_oIxL, s_oSlT, s_oSlL, s_oRevT, s_oRevL, s_oInt, s_oIntB, s_oAbs, s_oMax2, s_oMin2, s_oLen, s_plenT, s_plenL, s_plenD, s_plenS, s_oTupleL, s_oTupleT, s_oListL, s_oListT, List.set_cons_succ, List.set_cons_zero, List.append_nil, true_and]
    exact h
/-! ### like -/
def Lk : Nat → PV → Prop
  | _, .non => True
  | _, .bl _ => True
  | _, .int _ => True
  | n + 1, .tup xs => xs.length ≤ 1000 ∧ ∀ x ∈ xs, Lk n x
  | _, _ => False
def spk : Nat → PM.Spec
  | 0 => fun _ _ => False
  | n + 1 => fun ps P => ∃ v, ps = [v, v] ∧ Lk n v ∧ P (.bl true)
theorem h_l_like (n : Nat) (ps : List PV) (Q : PV → Prop) (h : spk (n + 1) ps Q) : t_l_like (spk n) { nx := fun _ => nxOf .cl Q, rt := Q } (startE n_l_like.length ps) := by
  obtain ⟨v, rfl, hv, h⟩ := h
  show t_l_like _ _ [some v, some v, none, none]
  unfold t_l_like
  simp only [s_mVar0, s_mVarS, s_mVarO0, s_mVarOS, s_isObj_lst, s_isObj_dic, s_mC, s_mOp, s_mOp1, s_mB, s_mNil, s_mCons, s_mTup, s_mLst, s_mCall, s_mTB, s_mNot, s_mAnd, s_mOr, s_mAndV, s_mOrV, s_mIf, s_mYes, s_mSl, s_mNo, s_mPart, s_mLc, s_mItems, s_mRng1, s_mRng2, s_mEnum, s_mChain, s_seqT, s_seqL, s_sNext, s_sSeq, s_sIf, s_sSet, s_sRet, s_sRetN, s_sBreak, s_sCont, s_sDrop, s_sPar, s_setN0, s_setNS, s_sAsg, s_sApp, s_sAug, s_sFor, s_sSrc, s_gmN, s_gmT, s_gmCons, s_gmNil, s_wipe0, s_wipeS, s_oSub, s_oAddI, s_oAdd, s_oLt, s_oLe, s_oGt, s_oGe, s_oNeg, s_oNot, s_oMul, s_oMulW, s_oMod, s_oFdiv, s_oPow, s_oIsN, s_oNotN, s_oIsB, s_oNotB, s_isNon_int, s_isNon_non, s_isNon_bl, s_isNon_str, s_isNon_tup, s_isNon_lst, s_isNon_dic, s_oEqI, s_oNeI, s_oIxT, s_oIxL, s_oSlT, s_oSlL, s_oRevT, s_oRevL, s_oInt, s_oIntB, s_oAbs, s_oMax2, s_oMin2, s_oLen, s_plenT, s_plenL, s_plenD, s_plenS, s_oTupleL, s_oTupleT, s_oListL, s_oListT, List.set_cons_succ, List.set_cons_zero, List.append_nil, true_and]
  cases v with
  | tup xs =>
    cases n with
    | zero => exact hv.elim
    | succ n =>
      obtain ⟨hl, hx⟩ := hv
      refine oIsi_of (b := true) rfl rfl ⟨_, rfl, ?_⟩
      rw [if_pos rfl]
      refine oIsi_of (b := true) rfl rfl ⟨_, rfl, ?_⟩
      rw [if_pos rfl]
      simp only [s_mVar0, s_mVarS, s_mVarO0, s_mVarOS, s_isObj_lst, s_isObj_dic, s_mC, s_mOp, s_mOp1, s_mB, s_mNil, s_mCons, s_mTup, s_mLst, s_mCall, s_mTB, s_mNot, s_mAnd, s_mOr, s_mAndV, s_mOrV, s_mIf, s_mYes, s_mSl, s_mNo, s_mPart, s_mLc, s_mItems, s_mRng1, s_mRng2, s_mEnum, s_mChain, s_seqT, s_seqL, s_sNext, s_sSeq, s_sIf, s_sSet, s_sRet, s_sRetN, s_sBreak, s_sCont, s_sDrop, s_sPar, s_setN0, s_setNS, s_sAsg, s_sApp, s_sAug, s_sFor, s_sSrc, s_gmN, s_gmT, s_gmCons, s_gmNil, s_wipe0, s_wipeS, s_oSub, s_oAddI, s_oAdd, s_oLt, s_oLe, s_oGt, s_oGe, s_oNeg, s_oNot, s_oMul, s_oMulW, s_oMod, s_oFdiv, s_oPow, s_oIsN, s_oNotN, s_oIsB, s_oNotB, s_isNon_int, s_isNon_non, s_isNon_bl, s_isNon_str, s_isNon_tup, s_isNon_lst, s_isNon_dic, s_oEqI, s_oNeI, s_oIxT, s_oIxL, s_oSlT, s_oSlL, s_oRevT, s_oRevL, s_oInt, s_oIntB, s_oAbs, s_oMax2, s_oMin2, s_oLen, s_plenT, s_plenL, s_plenD, s_plenS, s_oTupleL, s_oTupleT, s_oListL, s_oListT, List.set_cons_succ, List.set_cons_zero, List.append_nil, true_and]
      refine ⟨_, rfl, _, rfl, _, rfl, ?_⟩
      rw [decide_eq_true rfl, if_pos rfl]
      unfold mZip
      simp only [s_mVar0, s_mVarS, s_mVarO0, s_mVarOS, s_isObj_lst, s_isObj_dic, s_mC, s_mOp, s_mOp1, s_mB, s_mNil, s_mCons, s_mTup, s_mLst, s_mCall, s_mTB, s_mNot, s_mAnd, s_mOr, s_mAndV, s_mOrV, s_mIf, s_mYes, s_mSl, s_mNo, s_mPart, s_mLc, s_mItems, s_mRng1, s_mRng2, s_mEnum, s_mChain, s_seqT, s_seqL, s_sNext, s_sSeq, s_sIf, s_sSet, s_sRet, s_sRetN, s_sBreak, s_sCont, s_sDrop, s_sPar, s_setN0, s_setNS, s_sAsg, s_sApp, s_sAug, s_sFor, s_sSrc, s_gmN, s_gmT, s_gmCons, s_gmNil, s_wipe0, s_wipeS, s_oSub, s_oAddI, s_oAdd, s_oLt, s_oLe, s_oGt, s_oGe, s_oNeg, s_oNot, s_oMul, s_oMulW, s_oMod, s_oFdiv, s_oPow, s_oIsN, s_oNotN, s_oIsB, s_oNotB, s_isNon_int, s_isNon_non, s_isNon_bl, s_isNon_str, s_isNon_tup, s_isNon_lst, s_isNon_dic, s_oEqI, s_oNeI, s_oIxT, s_oIxL, s_oSlT, s_oSlL, s_oRevT, s_oRevL, s_oInt, s_oIntB, s_oAbs, s_oMax2, s_oMin2, s_oLen, s_plenT, s_plenL, s_plenD, s_plenS, s_oTupleL, s_oTupleT, s_oListL, s_oListT, List.set_cons_succ, List.set_cons_zero, List.append_nil, true_and]
      have e : xs = xs.map id := (List.map_id xs).symm
      show mCompGo _ _ _ _ _ (zipP xs xs) []
      rw [show zipP xs xs = (xs.zip xs).map (fun p => .tup [p.1, p.2]) from by
        conv => lhs; rw [e]
        rw [zipP_map]; rfl]
      refine comp_map (f := fun _ => .bl true) (fun p hp => ⟨[some (.tup xs), some (.tup xs), some p.1, some p.2], fun k hk => ?_, fun Q hQ => hQ, fun Q hQ => ?_⟩) ?_ (oAll_map ?_)
      · exact s_gmT.mpr ⟨rfl, s_gmCons.mpr (s_gmN.mpr (s_gmCons.mpr (s_gmN.mpr (s_gmNil.mpr hk))))⟩
      · simp only [s_mVar0, s_mVarS, s_mVarO0, s_mVarOS, s_isObj_lst, s_isObj_dic, s_mC, s_mOp, s_mOp1, s_mB, s_mNil, s_mCons, s_mTup, s_mLst, s_mCall, s_mTB, s_mNot, s_mAnd, s_mOr, s_mAndV, s_mOrV, s_mIf, s_mYes, s_mSl, s_mNo, s_mPart, s_mLc, s_mItems, s_mRng1, s_mRng2, s_mEnum, s_mChain, s_seqT, s_seqL, s_sNext, s_sSeq, s_sIf, s_sSet, s_sRet, s_sRetN, s_sBreak, s_sCont, s_sDrop, s_sPar, s_setN0, s_setNS, s_sAsg, s_sApp, s_sAug, s_sFor, s_sSrc, s_gmN, s_gmT, s_gmCons, s_gmNil, s_wipe0, s_wipeS, s_oSub, s_oAddI, s_oAdd, s_oLt, s_oLe, s_oGt, s_oGe, s_oNeg, s_oNot, s_oMul, s_oMulW, s_oMod, s_oFdiv, s_oPow, s_oIsN, s_oNotN, s_oIsB, s_oNotB, s_isNon_int, s_isNon_non, s_isNon_bl, s_isNon_str, s_isNon_tup, s_isNon_lst, s_isNon_dic, s_oEqI, s_oNeI, s_oIxT, s_oIxL, s_oSlT, s_oSlL, s_oRevT, s_oRevL, s_oInt, s_oIntB, s_oAbs, s_oMax2, s_oMin2, s_oLen, s_plenT, s_plenL, s_plenD, s_plenS, s_oTupleL, s_oTupleT, s_oListL, s_oListT, List.set_cons_succ, List.set_cons_zero, List.append_nil, true_and]
        obtain ⟨i, hi, rfl⟩ := List.mem_iff_getElem.mp hp
        rw [List.getElem_zip]
        refine ⟨_, rfl, hx _ (List.getElem_mem _), hQ⟩
      · rw [List.length_zip]; exact line (by omega)
      · rw [List.all_eq_true.mpr fun _ _ => rfl]; exact h
  | non =>
    refine oIsi_of (b := false) rfl rfl ⟨_, rfl, ?_⟩
    rw [if_neg Bool.false_ne_true]
    simp only [s_mVar0, s_mVarS, s_mVarO0, s_mVarOS, s_isObj_lst, s_isObj_dic, s_mC, s_mOp, s_mOp1, s_mB, s_mNil, s_mCons, s_mTup, s_mLst, s_mCall, s_mTB, s_mNot, s_mAnd, s_mOr, s_mAndV, s_mOrV, s_mIf, s_mYes, s_mSl, s_mNo, s_mPart, s_mLc, s_mItems, s_mRng1, s_mRng2, s_mEnum, s_mChain, s_seqT, s_seqL, s_sNext, s_sSeq, s_sIf, s_sSet, s_sRet, s_sRetN, s_sBreak, s_sCont, s_sDrop, s_sPar, s_setN0, s_setNS, s_sAsg, s_sApp, s_sAug, s_sFor, s_sSrc, s_gmN, s_gmT, s_gmCons, s_gmNil, s_wipe0, s_wipeS, s_oSub, s_oAddI, s_oAdd, s_oLt, s_oLe, s_oGt, s_oGe, s_oNeg, s_oNot, s_oMul, s_oMulW, s_oMod, s_oFdiv, s_oPow, s_oIsN, s_oNotN, s_oIsB, s_oNotB, s_isNon_int, s_isNon_non, s_isNon_bl, s_isNon_str, s_isNon_tup, s_isNon_lst, s_isNon_dic, s_oEqI, s_oNeI, s_oIxT, s_oIxL, s_oSlT, s_oSlL, s_oRevT, s_oRevL, s_oInt, s_oIntB, s_oAbs, s_oMax2, s_oMin2, s_oLen, s_plenT, s_plenL, s_plenD, s_plenS, s_oTupleL, s_oTupleT, s_oListL, s_oListT, List.set_cons_succ, List.set_cons_zero, List.append_nil, true_and]
    exact ⟨_, rfl, h⟩
  | bl b =>
    refine oIsi_of (b := false) rfl rfl ⟨_, rfl, ?_⟩
    rw [if_neg Bool.false_ne_true]
    simp only [s_mVar0, s_mVarS, s_mVarO0, s_mVarOS, s_isObj_lst, s_isObj_dic, s_mC, s_mOp, s_mOp1, s_mB, s_mNil, s_mCons, s_mTup, s_mLst, s_mCall, s_mTB, s_mNot, s_mAnd, s_mOr, s_mAndV, s_mOrV, s_mIf, s_mYes, s_mSl, s_mNo, s_mPart, s_mLc, s_mItems, s_mRng1, s_mRng2, s_mEnum, s_mChain, s_seqT, s_seqL, s_sNext, s_sSeq, s_sIf, s_sSet, s_sRet, s_sRetN, s_sBreak, s_sCont, s_sDrop, s_sPar, s_setN0, s_setNS, s_sAsg, s_sApp, s_sAug, s_sFor, s_sSrc, s_gmN, s_gmT, s_gmCons, s_gmNil, s_wipe0, s_wipeS, s_oSub, s_oAddI, s_oAdd, s_oLt, s_oLe, s_oGt, s_oGe, s_oNeg, s_oNot, s_oMul, s_oMulW, s_oMod, s_oFdiv, s_oPow, s_oIsN, s_oNotN, s_oIsB, s_oNotB, s_isNon_int, s_isNon_non, s_isNon_bl, s_isNon_str, s_isNon_tup, s_isNon_lst, s_isNon_dic, s_oEqI, s_oNeI, s_oIxT, s_oIxL, s_oSlT, s_oSlL, s_oRevT, s_oRevL, s_oInt, s_oIntB, s_oAbs, s_oMax2, s_oMin2, s_oLen, s_plenT, s_plenL, s_plenD, s_plenS, s_oTupleL, s_oTupleT, s_oListL, s_oListT, List.set_cons_succ, List.set_cons_zero, List.append_nil, true_and]
    refine ⟨_, rfl, ?_⟩
    rw [if_neg Bool.false_ne_true]
    refine oIsi_of (b := true) rfl rfl ⟨_, rfl, ?_⟩
    rw [if_pos rfl]
    refine ⟨b, rfl, ?_⟩
    cases b
    · exact h
    · exact h
  | int i =>
    refine oIsi_of (b := false) rfl rfl ⟨_, rfl, ?_⟩
    rw [if_neg Bool.false_ne_true]
    simp only [s_mVar0, s_mVarS, s_mVarO0, s_mVarOS, s_isObj_lst, s_isObj_dic, s_mC, s_mOp, s_mOp1, s_mB, s_mNil, s_mCons, s_mTup, s_mLst, s_mCall, s_mTB, s_mNot, s_mAnd, s_mOr, s_mAndV, s_mOrV, s_mIf, s_mYes, s_mSl, s_mNo, s_mPart, s_mLc, s_mItems, s_mRng1, s_mRng2, s_mEnum, s_mChain, s_seqT, s_seqL, s_sNext, s_sSeq, s_sIf, s_sSet, s_sRet, s_sRetN, s_sBreak, s_sCont, s_sDrop, s_sPar, s_setN0, s_setNS, s_sAsg, s_sApp, s_sAug, s_sFor, s_sSrc, s_gmN, s_gmT, s_gmCons, s_gmNil, s_wipe0, s_wipeS, s_oSub, s_oAddI, s_oAdd, s_oLt, s_oLe, s_oGt, s_oGe, s_oNeg, s_oNot, s_oMul, s_oMulW, s_oMod, s_oFdiv, s_oPow, s_oIsN, s_oNotN, s_oIsB, s_oNotB, s_isNon_int, s_isNon_non, s_isNon_bl, s_isNon_str, s_isNon_tup, s_isNon_lst, s_isNon_dic, s_oEqI, s_oNeI, s_oIxT, s_oIxL, s_oSlT, s_oSlL, s_oRevT, s_oRevL, s_oInt, s_oIntB, s_oAbs, s_oMax2, s_oMin2, s_oLen, s_plenT, s_plenL, s_plenD, s_plenS, s_oTupleL, s_oTupleT, s_oListL, s_oListT, List.set_cons_succ, List.set_cons_zero, List.append_nil, true_and]
    refine ⟨_, rfl, ?_⟩
    rw [if_neg Bool.false_ne_true]
    refine oIsi_of (b := false) rfl rfl ⟨_, rfl, ?_⟩
    rw [if_neg Bool.false_ne_true]
    refine oIsi_of (b := true) rfl rfl ⟨_, rfl, ?_⟩
    rw [if_pos rfl]
    refine oIsi_of (b := true) rfl rfl ⟨_, rfl, ?_⟩
    rw [if_pos rfl]
    refine oIsi_of (b := false) (P := fun x => oNot x _) rfl rfl (s_oNot.mpr ⟨_, rfl, ?_⟩)
    simpa using h
  | _ => cases n <;> exact hv.elim
end K44

set_option maxHeartbeats 1000000
namespace K44
open PySem L2 PM
def rng (k : Nat) : List Int := (List.range k).map fun (i : Nat) => (i : Int)
theorem rng_len {k : Nat} : (rng k).length = k := by unfold rng; rw [List.length_map, List.length_range]
theorem mem_rng {k : Nat} {x : Int} : x ∈ rng k ↔ 0 ≤ x ∧ x < k := by
  unfold rng
  rw [List.mem_map]
  constructor
  · rintro ⟨i, hi, rfl⟩
    rw [List.mem_range] at hi
    omega
  · rintro ⟨h0, h1⟩
    exact ⟨x.toNat, List.mem_range.mpr (by omega), by omega⟩
theorem rng_nodup {k : Nat} : (rng k).Nodup := by
  unfold rng
  have : (List.range k).Nodup := List.nodup_range
  rw [List.Nodup, List.pairwise_map]
  exact this.imp fun h z => h (by omega)
theorem rng_get {k i : Nat} (h : i < k) : (rng k)[i]? = some (i : Int) := by
  unfold rng
  rw [List.getElem?_map, List.getElem?_range h]; rfl
theorem rngP_rng {k : Nat} : rngP 0 k = (rng k).map PV.int := by
  unfold rng
  rw [rngP_map, List.map_map]
  exact List.map_congr_left fun i _ => by show PV.int (0 + (i : Int)) = PV.int (i : Int); rw [Int.zero_add]
theorem perm_pop {α : Type} {l m : List α} {n : Nat} (h : n < l.length) : (l.eraseIdx n ++ (m ++ [l[n]])).Perm (l ++ m) := by
  have e : l = l.take n ++ l[n] :: l.drop (n + 1) := by
    rw [← List.drop_eq_getElem_cons h, List.take_append_drop]
  have e2 : l.eraseIdx n = l.take n ++ l.drop (n + 1) := List.eraseIdx_eq_take_drop_succ ..
  rw [e2]
  generalize l[n] = x at e ⊢
  have p1 : (l.take n ++ l.drop (n + 1) ++ (m ++ [x])).Perm (l.take n ++ l.drop (n + 1) ++ (x :: m)) := List.Perm.append_left _ (List.perm_append_singleton x m)
  refine p1.trans ?_
  conv => rhs; rw [e]
  rw [List.append_assoc, List.append_assoc]
  refine List.Perm.append_left _ ?_
  exact List.perm_middle
theorem erase_map {α β : Type} {f : α → β} {l : List α} {n : Nat} : (l.map f).eraseIdx n = (l.eraseIdx n).map f := by
  rw [List.eraseIdx_eq_take_drop_succ, List.eraseIdx_eq_take_drop_succ, List.map_append, List.map_take, List.map_drop]
theorem strict_of {xs : List Int} (h : xs.Pairwise (· ≤ ·)) (n : xs.Nodup) : xs.Pairwise (· < ·) :=
  (h.and n).imp fun ⟨a, b⟩ => by omega
def sp_some : PM.Spec := fun ps P => ∃ (k m : Nat), ps = [.src, lI (rng k), .int m] ∧ m ≤ k ∧ k ≤ 1000 ∧ ∀ ns : List Int, ns.length = m → ns.Pairwise (· < ·) → (∀ x ∈ ns, 0 ≤ x ∧ x < k) → P (tI ns)
theorem h_l_some (ps : List PV) (Q : PV → Prop) (h : sp_some ps Q) : t_l_some sp_drw { nx := fun _ => nxOf .cl Q, rt := Q } (startE n_l_some.length ps) := by
  obtain ⟨k, m, rfl, hm, hk, h⟩ := h
  show t_l_some _ _ [some .src, some (lI (rng k)), some (.int m), none, none, none, none]
  unfold t_l_some
  try simp only [s_mVar0, s_mVarS, s_mVarO0, s_mVarOS, s_isObj_lst, s_isObj_dic, s_mC, s_mOp, s_mOp1, s_mB, s_mNil, s_mCons, s_mTup, s_mLst, s_mCall, s_mTB, s_mNot, s_mAnd, s_mOr, s_mAndV, s_mOrV, s_mIf, s_mYes, s_mSl, s_mNo, s_mPart, s_mLc, s_mItems, s_mRng1, s_mRng2, s_mEnum, s_mChain, s_seqT, s_seqL, s_sNext, s_sSeq, s_sIf, s_sSet, s_sRet, s_sRetN, s_sBreak, s_sCont, s_sDrop, s_sPar, s_setN0, s_setNS, s_sAsg, s_sApp, s_sAug, s_sFor, s_sSrc, s_gmN, s_gmT, s_gmCons, s_gmNil, s_wipe0, s_wipeS, s_oSub, s_oAddI, s_oAdd, s_oLt, s_oLe, s_oGt, s_oGe, s_oNeg, s_oNot, s_oMul, s_oMulW, s_oMod, s_oFdiv, s_oPow, s_oIsN, s_oNotN, s_oIsB, s_oNotB, s_isNon_int, s_isNon_non, s_isNon_bl, s_isNon_str, s_isNon_tup, s_isNon_lst, s_isNon_dic, s_oEqI, s_oNeI, s_oIxT, s_oIxL, s_oSlT, s_oSlL, s_oRevT, s_oRevL, s_oInt, s_oIntB, s_oAbs, s_oMax2, s_oMin2, s_oLen, s_plenT, s_plenL, s_plenD, s_plenS, s_oTupleL, s_oTupleT, s_oListL, s_oListT, List.set_cons_succ, List.set_cons_zero, List.append_nil, true_and]
  refine ⟨_, rfl, _, rfl, ?_, ?_⟩
  · rw [List.length_map, rng_len]; omega
  rw [List.length_map, rng_len, Int.toNat_natCast, rngP_rng]
  refine comp_map (f := .int) (fun x hx => ⟨_, fun k hk => s_gmN.mpr hk, fun Q hQ => hQ, fun Q hQ => ?_⟩) (by rw [rng_len]; exact line (by omega)) ?_
  · show mVar 6 [some .src, some (lI (rng k)), some (.int m), none, none, none, some (.int x)] Q
    try simp only [s_mVar0, s_mVarS, s_mVarO0, s_mVarOS, s_isObj_lst, s_isObj_dic, s_mC, s_mOp, s_mOp1, s_mB, s_mNil, s_mCons, s_mTup, s_mLst, s_mCall, s_mTB, s_mNot, s_mAnd, s_mOr, s_mAndV, s_mOrV, s_mIf, s_mYes, s_mSl, s_mNo, s_mPart, s_mLc, s_mItems, s_mRng1, s_mRng2, s_mEnum, s_mChain, s_seqT, s_seqL, s_sNext, s_sSeq, s_sIf, s_sSet, s_sRet, s_sRetN, s_sBreak, s_sCont, s_sDrop, s_sPar, s_setN0, s_setNS, s_sAsg, s_sApp, s_sAug, s_sFor, s_sSrc, s_gmN, s_gmT, s_gmCons, s_gmNil, s_wipe0, s_wipeS, s_oSub, s_oAddI, s_oAdd, s_oLt, s_oLe, s_oGt, s_oGe, s_oNeg, s_oNot, s_oMul, s_oMulW, s_oMod, s_oFdiv, s_oPow, s_oIsN, s_oNotN, s_oIsB, s_oNotB, s_isNon_int, s_isNon_non, s_isNon_bl, s_isNon_str, s_isNon_tup, s_isNon_lst, s_isNon_dic, s_oEqI, s_oNeI, s_oIxT, s_oIxL, s_oSlT, s_oSlL, s_oRevT, s_oRevL, s_oInt, s_oIntB, s_oAbs, s_oMax2, s_oMin2, s_oLen, s_plenT, s_plenL, s_plenD, s_plenS, s_oTupleL, s_oTupleT, s_oListL, s_oListT, List.set_cons_succ, List.set_cons_zero, List.append_nil, true_and]; exact hQ
  refine ⟨Nat.zero_le _, _, rfl, by omega, ?_⟩
  rw [Int.toNat_natCast, rngP_rng]
  refine for_inv (fun i e => i ≤ m ∧ ∃ (left found : List Int) (y3 y6 : Option PV), (left ++ found).Perm (rng k) ∧ found.length = i ∧ e = [some .src, some (lI (rng k)), some (.int m), y3, some (lI left), some (lI found), y6]) ⟨Nat.zero_le _, rng k, [], none, none, by rw [List.append_nil], rfl, rfl⟩ (fun i x e N hx hE hN => ?_) (fun e hE => ?_)
  · obtain ⟨hi, left, found, y3, y6, hp, hf, rfl⟩ := hE
    have him : i < m := by have := (List.getElem?_eq_some_iff.mp hx).1; rw [rng_len] at this; exact this
    have hlen : left.length + found.length = k := by rw [← List.length_append, hp.length_eq, rng_len]
    rw [s_gmN]
    refine ⟨_, _, rfl, rfl, ?_⟩
    try simp only [s_mVar0, s_mVarS, s_mVarO0, s_mVarOS, s_isObj_lst, s_isObj_dic, s_mC, s_mOp, s_mOp1, s_mB, s_mNil, s_mCons, s_mTup, s_mLst, s_mCall, s_mTB, s_mNot, s_mAnd, s_mOr, s_mAndV, s_mOrV, s_mIf, s_mYes, s_mSl, s_mNo, s_mPart, s_mLc, s_mItems, s_mRng1, s_mRng2, s_mEnum, s_mChain, s_seqT, s_seqL, s_sNext, s_sSeq, s_sIf, s_sSet, s_sRet, s_sRetN, s_sBreak, s_sCont, s_sDrop, s_sPar, s_setN0, s_setNS, s_sAsg, s_sApp, s_sAug, s_sFor, s_sSrc, s_gmN, s_gmT, s_gmCons, s_gmNil, s_wipe0, s_wipeS, s_oSub, s_oAddI, s_oAdd, s_oLt, s_oLe, s_oGt, s_oGe, s_oNeg, s_oNot, s_oMul, s_oMulW, s_oMod, s_oFdiv, s_oPow, s_oIsN, s_oNotN, s_oIsB, s_oNotB, s_isNon_int, s_isNon_non, s_isNon_bl, s_isNon_str, s_isNon_tup, s_isNon_lst, s_isNon_dic, s_oEqI, s_oNeI, s_oIxT, s_oIxL, s_oSlT, s_oSlL, s_oRevT, s_oRevL, s_oInt, s_oIntB, s_oAbs, s_oMax2, s_oMin2, s_oLen, s_plenT, s_plenL, s_plenD, s_plenS, s_oTupleL, s_oTupleT, s_oListL, s_oListT, List.set_cons_succ, List.set_cons_zero, List.append_nil, true_and]
    refine ⟨_, rfl, _, rfl, ?_, ?_, fun r hr hr2 => ?_⟩
    · rw [List.length_map]; omega
    · rw [List.length_map]; omega
    rw [List.length_map] at hr2
    have hn : r.toNat < left.length := by omega
    refine ⟨r, r.toNat, .int left[r.toNat], rfl, by omega, ?_, ?_, ?_, ?_⟩
    · rw [List.length_map]; unfold ixN; rw [if_pos hr, if_pos hr2]
    · rw [List.getElem?_map, List.getElem?_eq_getElem hn]; rfl
    · rw [List.length_map]; exact small_line (by omega)
    · refine hN _ ⟨him, left.eraseIdx r.toNat, found ++ [left[r.toNat]], some (.int x), y6, (perm_pop hn).trans hp, by rw [List.length_append, hf]; rfl, ?_⟩
      try simp only [List.set_cons_succ, List.set_cons_zero]
      rw [erase_map, show List.map PV.int found ++ [PV.int left[r.toNat]] = List.map PV.int (found ++ [left[r.toNat]]) from by rw [List.map_append]; rfl]
  · obtain ⟨hi, left, found, y3, y6, hp, hf, rfl⟩ := hE
    rw [rng_len] at hf
    try simp only [s_mVar0, s_mVarS, s_mVarO0, s_mVarOS, s_isObj_lst, s_isObj_dic, s_mC, s_mOp, s_mOp1, s_mB, s_mNil, s_mCons, s_mTup, s_mLst, s_mCall, s_mTB, s_mNot, s_mAnd, s_mOr, s_mAndV, s_mOrV, s_mIf, s_mYes, s_mSl, s_mNo, s_mPart, s_mLc, s_mItems, s_mRng1, s_mRng2, s_mEnum, s_mChain, s_seqT, s_seqL, s_sNext, s_sSeq, s_sIf, s_sSet, s_sRet, s_sRetN, s_sBreak, s_sCont, s_sDrop, s_sPar, s_setN0, s_setNS, s_sAsg, s_sApp, s_sAug, s_sFor, s_sSrc, s_gmN, s_gmT, s_gmCons, s_gmNil, s_wipe0, s_wipeS, s_oSub, s_oAddI, s_oAdd, s_oLt, s_oLe, s_oGt, s_oGe, s_oNeg, s_oNot, s_oMul, s_oMulW, s_oMod, s_oFdiv, s_oPow, s_oIsN, s_oNotN, s_oIsB, s_oNotB, s_isNon_int, s_isNon_non, s_isNon_bl, s_isNon_str, s_isNon_tup, s_isNon_lst, s_isNon_dic, s_oEqI, s_oNeI, s_oIxT, s_oIxL, s_oSlT, s_oSlL, s_oRevT, s_oRevL, s_oInt, s_oIntB, s_oAbs, s_oMax2, s_oMin2, s_oLen, s_plenT, s_plenL, s_plenD, s_plenS, s_oTupleL, s_oTupleT, s_oListL, s_oListT, List.set_cons_succ, List.set_cons_zero, List.append_nil, true_and]
    have hnd : (left ++ found).Nodup := hp.nodup_iff.mpr rng_nodup
    have hfn : found.Nodup := (List.nodup_append.mp hnd).2.1
    have hsn : (isort found).Nodup := (isort_perm found).nodup_iff.mpr hfn
    have hmem : ∀ x ∈ isort found, 0 ≤ x ∧ x < k := fun x hx => mem_rng.mp (hp.mem_iff.mp (List.mem_append_right _ ((isort_perm found).mem_iff.mp hx)))
    refine ⟨found, .inl rfl, _, rfl, ?_⟩
    refine comp_map (f := .int) (fun x hx => ⟨_, fun k hk => s_gmN.mpr hk, fun Q hQ => hQ, fun Q hQ => ?_⟩) (by rw [isort_len, hf]; exact line (by omega)) ?_
    · obtain ⟨h0, h1⟩ := hmem x hx
      show mOp oIx (mVar 1) (mVar 6) [some .src, some (lI (rng k)), some (.int m), y3, some (lI left), some (lI found), some (.int x)] Q
      try simp only [s_mVar0, s_mVarS, s_mVarO0, s_mVarOS, s_isObj_lst, s_isObj_dic, s_mC, s_mOp, s_mOp1, s_mB, s_mNil, s_mCons, s_mTup, s_mLst, s_mCall, s_mTB, s_mNot, s_mAnd, s_mOr, s_mAndV, s_mOrV, s_mIf, s_mYes, s_mSl, s_mNo, s_mPart, s_mLc, s_mItems, s_mRng1, s_mRng2, s_mEnum, s_mChain, s_seqT, s_seqL, s_sNext, s_sSeq, s_sIf, s_sSet, s_sRet, s_sRetN, s_sBreak, s_sCont, s_sDrop, s_sPar, s_setN0, s_setNS, s_sAsg, s_sApp, s_sAug, s_sFor, s_sSrc, s_gmN, s_gmT, s_gmCons, s_gmNil, s_wipe0, s_wipeS, s_oSub, s_oAddI, s_oAdd, s_oLt, s_oLe, s_oGt, s_oGe, s_oNeg, s_oNot, s_oMul, s_oMulW, s_oMod, s_oFdiv, s_oPow, s_oIsN, s_oNotN, s_oIsB, s_oNotB, s_isNon_int, s_isNon_non, s_isNon_bl, s_isNon_str, s_isNon_tup, s_isNon_lst, s_isNon_dic, s_oEqI, s_oNeI, s_oIxT, s_oIxL, s_oSlT, s_oSlL, s_oRevT, s_oRevL, s_oInt, s_oIntB, s_oAbs, s_oMax2, s_oMin2, s_oLen, s_plenT, s_plenL, s_plenD, s_plenS, s_oTupleL, s_oTupleT, s_oListL, s_oListT, List.set_cons_succ, List.set_cons_zero, List.append_nil, true_and]
      refine ⟨.int x, ?_, hQ⟩
      rw [atI_map, atI_nn h0 (by rw [rng_len]; exact h1), rng_get (by omega)]
      show some (PV.int (x.toNat : Int)) = _
      rw [Int.toNat_of_nonneg h0]
    · refine s_oTupleL.mpr (h _ (by rw [isort_len, hf]) (strict_of (isort_sorted found) hsn) hmem)
/-! ### counted -/
def sp_l_counted : PM.Spec := fun ps P => ∃ (n : Nat), ps = [.src, .int n] ∧ n ≤ 100 ∧ ∀ lots, Good lots → lots.length = n → P (crs lots)
theorem h_l_counted (ps : List PV) (Q : PV → Prop) (h : sp_l_counted ps Q) : t_l_counted sp_pick sp_some sp_drw { nx := fun _ => nxOf .cl Q, rt := Q } (startE n_l_counted.length ps) := by
  obtain ⟨n, rfl, hn, h⟩ := h
  show t_l_counted _ _ _ _ [some .src, some (.int n), none, none, none, none, none, none]
  unfold t_l_counted
  try simp only [s_mVar0, s_mVarS, s_mVarO0, s_mVarOS, s_isObj_lst, s_isObj_dic, s_mC, s_mOp, s_mOp1, s_mB, s_mNil, s_mCons, s_mTup, s_mLst, s_mCall, s_mTB, s_mNot, s_mAnd, s_mOr, s_mAndV, s_mOrV, s_mIf, s_mYes, s_mSl, s_mNo, s_mPart, s_mLc, s_mItems, s_mRng1, s_mRng2, s_mEnum, s_mChain, s_seqT, s_seqL, s_sNext, s_sSeq, s_sIf, s_sSet, s_sRet, s_sRetN, s_sBreak, s_sCont, s_sDrop, s_sPar, s_setN0, s_setNS, s_sAsg, s_sApp, s_sAug, s_sFor, s_sSrc, s_gmN, s_gmT, s_gmCons, s_gmNil, s_wipe0, s_wipeS, s_oSub, s_oAddI, s_oAdd, s_oLt, s_oLe, s_oGt, s_oGe, s_oNeg, s_oNot, s_oMul, s_oMulW, s_oMod, s_oFdiv, s_oPow, s_oIsN, s_oNotN, s_oIsB, s_oNotB, s_isNon_int, s_isNon_non, s_isNon_bl, s_isNon_str, s_isNon_tup, s_isNon_lst, s_isNon_dic, s_oEqI, s_oNeI, s_oIxT, s_oIxL, s_oSlT, s_oSlL, s_oRevT, s_oRevL, s_oInt, s_oIntB, s_oAbs, s_oMax2, s_oMin2, s_oLen, s_plenT, s_plenL, s_plenD, s_plenS, s_oTupleL, s_oTupleT, s_oListL, s_oListT, List.set_cons_succ, List.set_cons_zero, List.append_nil, true_and]
  refine ⟨line (by simp), _, rfl, by simp, by simp, ?_⟩
  intro x hx
  obtain ⟨many, rfl, m0, m24⟩ : ∃ k : Nat, x = .int k ∧ 0 < k ∧ k ≤ 24 := by
    simp at hx
    rcases hx with rfl | rfl | rfl | rfl | rfl
    · exact ⟨2, rfl, by decide, by decide⟩
    · exact ⟨4, rfl, by decide, by decide⟩
    · exact ⟨6, rfl, by decide, by decide⟩
    · exact ⟨9, rfl, by decide, by decide⟩
    · exact ⟨24, rfl, by decide, by decide⟩
  refine ⟨_, rfl, by omega, ?_⟩
  rw [Int.toNat_natCast, rngP_rng]
  refine comp_map (f := .int) (fun x hx => ⟨_, fun k hk => s_gmN.mpr hk, fun Q hQ => hQ, fun Q hQ => ?_⟩) (by rw [rng_len]; exact line (by omega)) ?_
  · show mVar 7 [some .src, some (.int n), some (.int many), none, none, none, none, some (.int x)] Q
    try simp only [s_mVar0, s_mVarS, s_mVarO0, s_mVarOS, s_isObj_lst, s_isObj_dic, s_mC, s_mOp, s_mOp1, s_mB, s_mNil, s_mCons, s_mTup, s_mLst, s_mCall, s_mTB, s_mNot, s_mAnd, s_mOr, s_mAndV, s_mOrV, s_mIf, s_mYes, s_mSl, s_mNo, s_mPart, s_mLc, s_mItems, s_mRng1, s_mRng2, s_mEnum, s_mChain, s_seqT, s_seqL, s_sNext, s_sSeq, s_sIf, s_sSet, s_sRet, s_sRetN, s_sBreak, s_sCont, s_sDrop, s_sPar, s_setN0, s_setNS, s_sAsg, s_sApp, s_sAug, s_sFor, s_sSrc, s_gmN, s_gmT, s_gmCons, s_gmNil, s_wipe0, s_wipeS, s_oSub, s_oAddI, s_oAdd, s_oLt, s_oLe, s_oGt, s_oGe, s_oNeg, s_oNot, s_oMul, s_oMulW, s_oMod, s_oFdiv, s_oPow, s_oIsN, s_oNotN, s_oIsB, s_oNotB, s_isNon_int, s_isNon_non, s_isNon_bl, s_isNon_str, s_isNon_tup, s_isNon_lst, s_isNon_dic, s_oEqI, s_oNeI, s_oIxT, s_oIxL, s_oSlT, s_oSlL, s_oRevT, s_oRevL, s_oInt, s_oIntB, s_oAbs, s_oMax2, s_oMin2, s_oLen, s_plenT, s_plenL, s_plenD, s_plenS, s_oTupleL, s_oTupleT, s_oListL, s_oListT, List.set_cons_succ, List.set_cons_zero, List.append_nil, true_and]; exact hQ
  refine ⟨Nat.zero_le _, ?_⟩
  refine ⟨fun k e => ∃ (ls : List (List Int)) (y5 y6 y7 : Option PV), (∀ l ∈ ls, l.Nodup ∧ ∀ x ∈ l, 0 ≤ x ∧ x < 24) ∧ ls.length ≤ n + 5 ∧ k = n - ls.length ∧ e = [some .src, some (.int n), some (.int many), some (lI (rng many)), some (.lst (ls.map tI)), y5, y6, y7], ⟨n, [], none, none, none, (fun _ h => by cases h), by simp, by simp, rfl⟩, ?_⟩
  rintro k e ⟨ls, y5, y6, y7, hls, hlen, rfl, rfl⟩
  try simp only [s_mVar0, s_mVarS, s_mVarO0, s_mVarOS, s_isObj_lst, s_isObj_dic, s_mC, s_mOp, s_mOp1, s_mB, s_mNil, s_mCons, s_mTup, s_mLst, s_mCall, s_mTB, s_mNot, s_mAnd, s_mOr, s_mAndV, s_mOrV, s_mIf, s_mYes, s_mSl, s_mNo, s_mPart, s_mLc, s_mItems, s_mRng1, s_mRng2, s_mEnum, s_mChain, s_seqT, s_seqL, s_sNext, s_sSeq, s_sIf, s_sSet, s_sRet, s_sRetN, s_sBreak, s_sCont, s_sDrop, s_sPar, s_setN0, s_setNS, s_sAsg, s_sApp, s_sAug, s_sFor, s_sSrc, s_gmN, s_gmT, s_gmCons, s_gmNil, s_wipe0, s_wipeS, s_oSub, s_oAddI, s_oAdd, s_oLt, s_oLe, s_oGt, s_oGe, s_oNeg, s_oNot, s_oMul, s_oMulW, s_oMod, s_oFdiv, s_oPow, s_oIsN, s_oNotN, s_oIsB, s_oNotB, s_isNon_int, s_isNon_non, s_isNon_bl, s_isNon_str, s_isNon_tup, s_isNon_lst, s_isNon_dic, s_oEqI, s_oNeI, s_oIxT, s_oIxL, s_oSlT, s_oSlL, s_oRevT, s_oRevL, s_oInt, s_oIntB, s_oAbs, s_oMax2, s_oMin2, s_oLen, s_plenT, s_plenL, s_plenD, s_plenS, s_oTupleL, s_oTupleT, s_oListL, s_oListT, List.set_cons_succ, List.set_cons_zero, List.append_nil, true_and]
  refine ⟨_, rfl, _, rfl, ?_⟩
  rw [List.length_map]
  by_cases hc : (ls.length : Int) < n
  · rw [decide_eq_true hc, if_pos rfl]
    try simp only [s_mVar0, s_mVarS, s_mVarO0, s_mVarOS, s_isObj_lst, s_isObj_dic, s_mC, s_mOp, s_mOp1, s_mB, s_mNil, s_mCons, s_mTup, s_mLst, s_mCall, s_mTB, s_mNot, s_mAnd, s_mOr, s_mAndV, s_mOrV, s_mIf, s_mYes, s_mSl, s_mNo, s_mPart, s_mLc, s_mItems, s_mRng1, s_mRng2, s_mEnum, s_mChain, s_seqT, s_seqL, s_sNext, s_sSeq, s_sIf, s_sSet, s_sRet, s_sRetN, s_sBreak, s_sCont, s_sDrop, s_sPar, s_setN0, s_setNS, s_sAsg, s_sApp, s_sAug, s_sFor, s_sSrc, s_gmN, s_gmT, s_gmCons, s_gmNil, s_wipe0, s_wipeS, s_oSub, s_oAddI, s_oAdd, s_oLt, s_oLe, s_oGt, s_oGe, s_oNeg, s_oNot, s_oMul, s_oMulW, s_oMod, s_oFdiv, s_oPow, s_oIsN, s_oNotN, s_oIsB, s_oNotB, s_isNon_int, s_isNon_non, s_isNon_bl, s_isNon_str, s_isNon_tup, s_isNon_lst, s_isNon_dic, s_oEqI, s_oNeI, s_oIxT, s_oIxL, s_oSlT, s_oSlL, s_oRevT, s_oRevL, s_oInt, s_oIntB, s_oAbs, s_oMax2, s_oMin2, s_oLen, s_plenT, s_plenL, s_plenD, s_plenS, s_oTupleL, s_oTupleT, s_oListL, s_oListT, List.set_cons_succ, List.set_cons_zero, List.append_nil, true_and]
    refine ⟨line (by simp), _, rfl, by simp, by simp, fun x hx => ?_⟩
    obtain ⟨pk, rfl, p1⟩ : ∃ pk : Nat, x = .int pk ∧ 0 < pk := by
      simp at hx
      rcases hx with rfl | rfl | rfl | rfl
      · exact ⟨1, rfl, by decide⟩
      · exact ⟨2, rfl, by decide⟩
      · exact ⟨3, rfl, by decide⟩
      · exact ⟨5, rfl, by decide⟩
    refine s_oMin2.mpr (s_oAdd.mpr ?_)
    obtain ⟨q, eq, q0, qm⟩ : ∃ q : Nat, (if (pk : Int) < many then (pk : Int) else many) = q ∧ 0 < q ∧ q ≤ many := by
      by_cases z : (pk : Int) < many
      · exact ⟨pk, if_pos z, p1, by omega⟩
      · exact ⟨many, if_neg z, m0, Nat.le_refl _⟩
    rw [eq]
    refine ⟨_, rfl, by omega, by omega, fun r hr hr2 => ⟨many, r.toNat, by rw [Int.toNat_of_nonneg hr], by omega, by omega, fun lot hll hp hb => ?_⟩⟩
    have hlot : lot.Nodup ∧ ∀ x ∈ lot, 0 ≤ x ∧ x < 24 := ⟨hp.imp fun h z => by omega, fun x hx => by obtain ⟨a, b⟩ := hb x hx; omega⟩
    refine ⟨line (by simp), _, rfl, by simp, by simp, fun x hx => ?_⟩
    obtain ⟨c, rfl, c1, c5⟩ : ∃ c : Nat, x = .int c ∧ 1 ≤ c ∧ c ≤ 5 := by
      simp at hx
      rcases hx with rfl | rfl | rfl
      · exact ⟨1, rfl, by decide, by decide⟩
      · exact ⟨2, rfl, by decide, by decide⟩
      · exact ⟨5, rfl, by decide, by decide⟩
    refine ⟨_, rfl, by omega, ?_⟩
    rw [Int.toNat_natCast, rngP_rng]
    have hrep : ∀ i, ∀ l ∈ ls ++ List.replicate i lot, l.Nodup ∧ ∀ x ∈ l, 0 ≤ x ∧ x < 24 := fun i l hl => by
      rcases List.mem_append.mp hl with z | z
      · exact hls l z
      · rw [(List.mem_replicate.mp z).2]; exact hlot
    refine for_inv (fun i e => i ≤ c ∧ ∃ y6, e = [some .src, some (.int n), some (.int many), some (lI (rng many)), some (.lst ((ls ++ List.replicate i lot).map tI)), some (tI lot), y6, y7]) ⟨Nat.zero_le _, y6, by rw [List.replicate_zero, List.append_nil]⟩ (fun i x e N hx hE hN => ?_) (fun e hE => ?_)
    · obtain ⟨hi, y6, rfl⟩ := hE
      have hic : i < c := by have := (List.getElem?_eq_some_iff.mp hx).1; rw [rng_len] at this; exact this
      rw [s_gmN]
      try simp only [s_mVar0, s_mVarS, s_mVarO0, s_mVarOS, s_isObj_lst, s_isObj_dic, s_mC, s_mOp, s_mOp1, s_mB, s_mNil, s_mCons, s_mTup, s_mLst, s_mCall, s_mTB, s_mNot, s_mAnd, s_mOr, s_mAndV, s_mOrV, s_mIf, s_mYes, s_mSl, s_mNo, s_mPart, s_mLc, s_mItems, s_mRng1, s_mRng2, s_mEnum, s_mChain, s_seqT, s_seqL, s_sNext, s_sSeq, s_sIf, s_sSet, s_sRet, s_sRetN, s_sBreak, s_sCont, s_sDrop, s_sPar, s_setN0, s_setNS, s_sAsg, s_sApp, s_sAug, s_sFor, s_sSrc, s_gmN, s_gmT, s_gmCons, s_gmNil, s_wipe0, s_wipeS, s_oSub, s_oAddI, s_oAdd, s_oLt, s_oLe, s_oGt, s_oGe, s_oNeg, s_oNot, s_oMul, s_oMulW, s_oMod, s_oFdiv, s_oPow, s_oIsN, s_oNotN, s_oIsB, s_oNotB, s_isNon_int, s_isNon_non, s_isNon_bl, s_isNon_str, s_isNon_tup, s_isNon_lst, s_isNon_dic, s_oEqI, s_oNeI, s_oIxT, s_oIxL, s_oSlT, s_oSlL, s_oRevT, s_oRevL, s_oInt, s_oIntB, s_oAbs, s_oMax2, s_oMin2, s_oLen, s_plenT, s_plenL, s_plenD, s_plenS, s_oTupleL, s_oTupleT, s_oListL, s_oListT, List.set_cons_succ, List.set_cons_zero, List.append_nil, true_and]
      refine ⟨_, rfl, ?_⟩
      try simp only [s_mVar0, s_mVarS, s_mVarO0, s_mVarOS, s_isObj_lst, s_isObj_dic, s_mC, s_mOp, s_mOp1, s_mB, s_mNil, s_mCons, s_mTup, s_mLst, s_mCall, s_mTB, s_mNot, s_mAnd, s_mOr, s_mAndV, s_mOrV, s_mIf, s_mYes, s_mSl, s_mNo, s_mPart, s_mLc, s_mItems, s_mRng1, s_mRng2, s_mEnum, s_mChain, s_seqT, s_seqL, s_sNext, s_sSeq, s_sIf, s_sSet, s_sRet, s_sRetN, s_sBreak, s_sCont, s_sDrop, s_sPar, s_setN0, s_setNS, s_sAsg, s_sApp, s_sAug, s_sFor, s_sSrc, s_gmN, s_gmT, s_gmCons, s_gmNil, s_wipe0, s_wipeS, s_oSub, s_oAddI, s_oAdd, s_oLt, s_oLe, s_oGt, s_oGe, s_oNeg, s_oNot, s_oMul, s_oMulW, s_oMod, s_oFdiv, s_oPow, s_oIsN, s_oNotN, s_oIsB, s_oNotB, s_isNon_int, s_isNon_non, s_isNon_bl, s_isNon_str, s_isNon_tup, s_isNon_lst, s_isNon_dic, s_oEqI, s_oNeI, s_oIxT, s_oIxL, s_oSlT, s_oSlL, s_oRevT, s_oRevL, s_oInt, s_oIntB, s_oAbs, s_oMax2, s_oMin2, s_oLen, s_plenT, s_plenL, s_plenD, s_plenS, s_oTupleL, s_oTupleT, s_oListL, s_oListT, List.set_cons_succ, List.set_cons_zero, List.append_nil, true_and]
      refine ⟨?_, hN _ ⟨hic, some (.int x), ?_⟩⟩
      · rw [List.length_map, List.length_append, List.length_replicate]; exact small_line (by omega)
      · rw [List.replicate_succ', ← List.append_assoc, List.map_append (l₂ := [lot])]
        rfl
    · obtain ⟨hi, y6, rfl⟩ := hE
      rw [rng_len]
      refine ⟨n - (ls ++ List.replicate c lot).length, ?_, ls ++ List.replicate c lot, _, _, _, hrep c, ?_, rfl, rfl⟩
      · rw [List.length_append, List.length_replicate]; omega
      · rw [List.length_append, List.length_replicate]; omega
  · rw [decide_eq_false hc, if_neg Bool.false_ne_true]
    try simp only [s_mVar0, s_mVarS, s_mVarO0, s_mVarOS, s_isObj_lst, s_isObj_dic, s_mC, s_mOp, s_mOp1, s_mB, s_mNil, s_mCons, s_mTup, s_mLst, s_mCall, s_mTB, s_mNot, s_mAnd, s_mOr, s_mAndV, s_mOrV, s_mIf, s_mYes, s_mSl, s_mNo, s_mPart, s_mLc, s_mItems, s_mRng1, s_mRng2, s_mEnum, s_mChain, s_seqT, s_seqL, s_sNext, s_sSeq, s_sIf, s_sSet, s_sRet, s_sRetN, s_sBreak, s_sCont, s_sDrop, s_sPar, s_setN0, s_setNS, s_sAsg, s_sApp, s_sAug, s_sFor, s_sSrc, s_gmN, s_gmT, s_gmCons, s_gmNil, s_wipe0, s_wipeS, s_oSub, s_oAddI, s_oAdd, s_oLt, s_oLe, s_oGt, s_oGe, s_oNeg, s_oNot, s_oMul, s_oMulW, s_oMod, s_oFdiv, s_oPow, s_oIsN, s_oNotN, s_oIsB, s_oNotB, s_isNon_int, s_isNon_non, s_isNon_bl, s_isNon_str, s_isNon_tup, s_isNon_lst, s_isNon_dic, s_oEqI, s_oNeI, s_oIxT, s_oIxL, s_oSlT, s_oSlL, s_oRevT, s_oRevL, s_oInt, s_oIntB, s_oAbs, s_oMax2, s_oMin2, s_oLen, s_plenT, s_plenL, s_plenD, s_plenS, s_oTupleL, s_oTupleT, s_oListL, s_oListT, List.set_cons_succ, List.set_cons_zero, List.append_nil, true_and]
    refine ⟨_, rfl, ?_⟩
    rw [cutP_map]
    have e : (ls.drop (HT.sIx ls.length 0 none)).take (HT.sIx ls.length ls.length (some (n : Int)) - HT.sIx ls.length 0 none) = ls.take n := by
      rw [HT.sIx_none, HT.sIx_nat]
      show (ls.drop 0).take (min n ls.length - 0) = _
      rw [List.drop_zero, Nat.sub_zero, show min n ls.length = n by omega]
    rw [e]
    refine h _ ⟨by rw [List.length_take]; omega, fun l hl => hls l (List.mem_of_mem_take hl)⟩ (by rw [List.length_take]; omega)
end K44

set_option maxHeartbeats 1000000
namespace K44
open PySem L2 PM
def BentOk (maps : Int) (v : PV) (d : Bool) : Prop := (pty v).isSome = true ∧ (∀ xs, v = .tup xs → xs.length ≤ 1000 ∧ ∀ x ∈ xs, (pty x).isSome = true) ∧ schB maps v = d
def Sch (maps : Int) (ns : List Int) : Prop := ns.length ≤ 100 ∧ ns.Pairwise (· < ·) ∧ ∀ x ∈ ns, 0 ≤ x ∧ x < maps - 1
def sp_l_bent : PM.Spec := fun ps P => ∃ (maps : Int) (ns : List Int), ps = [.src, tI ns, .int maps] ∧ Sch maps ns ∧ ∀ v d, BentOk maps v d → P (.tup [v, .bl d])
theorem asc_true {ns : List Int} (h : ns.Pairwise (· < ·)) : asc ns = true := by
  unfold asc
  rw [List.all_eq_true]
  intro i hi
  rw [List.mem_range] at hi
  have h1 : i < ns.length := by omega
  have h2 : i + 1 < ns.length := by omega
  rw [List.getD_eq_getElem?_getD, List.getD_eq_getElem?_getD, List.getElem?_eq_getElem h1, List.getElem?_eq_getElem h2]
  exact decide_eq_true (List.pairwise_iff_getElem.mp h i (i + 1) h1 h2 (by omega))
theorem asc_false {ns : List Int} {i : Nat} {a b : Int} (h1 : ns[i]? = some a) (h2 : ns[i + 1]? = some b) (h : ¬ a < b) : asc ns = false := by
  unfold asc
  rw [List.all_eq_false]
  have := (List.getElem?_eq_some_iff.mp h2).1
  refine ⟨i, List.mem_range.mpr (by omega), ?_⟩
  rw [List.getD_eq_getElem?_getD, List.getD_eq_getElem?_getD, h1, h2]
  simpa using h
theorem sch_bad {maps : Int} {xs : List PV} {x : PV} (hx : x ∈ xs) (h : okIn maps x = false) : schB maps (.tup xs) = false := by
  show (xs.all (okIn maps) && asc (xs.map intOf)) = false
  rw [List.all_eq_false.mpr ⟨x, hx, by rw [h]; decide⟩]
  rfl
theorem int_of_map {ns : List Int} : (ns.map PV.int).map intOf = ns := by
  rw [List.map_map]
  conv => rhs; rw [← List.map_id ns]
  exact List.map_congr_left fun _ _ => rfl
theorem sch_asc {maps : Int} {ns : List Int} (h : asc ns = false) : schB maps (tI ns) = false := by
  show ((ns.map PV.int).all (okIn maps) && asc ((ns.map PV.int).map intOf)) = false
  rw [int_of_map, h, Bool.and_false]
theorem sch_good {maps : Int} {ns : List Int} (h : Sch maps ns) : schB maps (tI ns) = true := by
  show ((ns.map PV.int).all (okIn maps) && asc ((ns.map PV.int).map intOf)) = true
  rw [int_of_map, asc_true h.2.1, Bool.and_true, List.all_eq_true]
  intro x hx
  obtain ⟨n, hn, rfl⟩ := List.mem_map.mp hx
  obtain ⟨h0, h1⟩ := h.2.2 n hn
  show (decide (0 ≤ n) && decide (n < maps - 1)) = true
  rw [decide_eq_true h0, decide_eq_true h1]; rfl
theorem tup_ok {xs ys : List PV} (hl : ys.length ≤ 1000) (h : ∀ x ∈ ys, (pty x).isSome = true) (e : PV.tup ys = .tup xs) : xs.length ≤ 1000 ∧ ∀ x ∈ xs, (pty x).isSome = true := by
  cases e; exact ⟨hl, h⟩
theorem ints_ok {ns : List Int} : ∀ x ∈ ns.map PV.int, (pty x).isSome = true := fun x hx => by
  obtain ⟨n, _, rfl⟩ := List.mem_map.mp hx
  rfl
theorem h_l_bent (ps : List PV) (Q : PV → Prop) (h : sp_l_bent ps Q) : t_l_bent sp_pick sp_drw { nx := fun _ => nxOf .cl Q, rt := Q } (startE n_l_bent.length ps) := by
  obtain ⟨maps, ns, rfl, hs, h⟩ := h
  have hl := hs.1
  show t_l_bent _ _ _ [some .src, some (tI ns), some (.int maps), none, none, none]
  unfold t_l_bent
  try simp only [s_mVar0, s_mVarS, s_mVarO0, s_mVarOS, s_isObj_lst, s_isObj_dic, s_mC, s_mOp, s_mOp1, s_mB, s_mNil, s_mCons, s_mTup, s_mLst, s_mCall, s_mTB, s_mNot, s_mAnd, s_mOr, s_mAndV, s_mOrV, s_mIf, s_mYes, s_mSl, s_mNo, s_mPart, s_mLc, s_mItems, s_mRng1, s_mRng2, s_mEnum, s_mChain, s_seqT, s_seqL, s_sNext, s_sSeq, s_sIf, s_sSet, s_sRet, s_sRetN, s_sBreak, s_sCont, s_sDrop, s_sPar, s_setN0, s_setNS, s_sAsg, s_sApp, s_sAug, s_sFor, s_sSrc, s_gmN, s_gmT, s_gmCons, s_gmNil, s_wipe0, s_wipeS, s_oSub, s_oAddI, s_oAdd, s_oLt, s_oLe, s_oGt, s_oGe, s_oNeg, s_oNot, s_oMul, s_oMulW, s_oMod, s_oFdiv, s_oPow, s_oIsN, s_oNotN, s_oIsB, s_oNotB, s_isNon_int, s_isNon_non, s_isNon_bl, s_isNon_str, s_isNon_tup, s_isNon_lst, s_isNon_dic, s_oEqI, s_oNeI, s_oIxT, s_oIxL, s_oSlT, s_oSlL, s_oRevT, s_oRevL, s_oInt, s_oIntB, s_oAbs, s_oMax2, s_oMin2, s_oLen, s_plenT, s_plenL, s_plenD, s_plenS, s_oTupleL, s_oTupleT, s_oListL, s_oListT, List.set_cons_succ, List.set_cons_zero, List.append_nil, true_and]
  refine ⟨_, rfl, by decide, by decide, fun w w0 w7 => ?_⟩
  have out : ∀ v d, BentOk maps v d → [v, PV.bl d].length ≤ sizeLine ∧ Q (.tup [v, .bl d]) := fun v d hb => ⟨line (by simp), h v d hb⟩
  have nil : ([] : List PV).length ≤ sizeLine := Nat.zero_le _
  try simp only [s_mVar0, s_mVarS, s_mVarO0, s_mVarOS, s_isObj_lst, s_isObj_dic, s_mC, s_mOp, s_mOp1, s_mB, s_mNil, s_mCons, s_mTup, s_mLst, s_mCall, s_mTB, s_mNot, s_mAnd, s_mOr, s_mAndV, s_mOrV, s_mIf, s_mYes, s_mSl, s_mNo, s_mPart, s_mLc, s_mItems, s_mRng1, s_mRng2, s_mEnum, s_mChain, s_seqT, s_seqL, s_sNext, s_sSeq, s_sIf, s_sSet, s_sRet, s_sRetN, s_sBreak, s_sCont, s_sDrop, s_sPar, s_setN0, s_setNS, s_sAsg, s_sApp, s_sAug, s_sFor, s_sSrc, s_gmN, s_gmT, s_gmCons, s_gmNil, s_wipe0, s_wipeS, s_oSub, s_oAddI, s_oAdd, s_oLt, s_oLe, s_oGt, s_oGe, s_oNeg, s_oNot, s_oMul, s_oMulW, s_oMod, s_oFdiv, s_oPow, s_oIsN, s_oNotN, s_oIsB, s_oNotB, s_isNon_int, s_isNon_non, s_isNon_bl, s_isNon_str, s_isNon_tup, s_isNon_lst, s_isNon_dic, s_oEqI, s_oNeI, s_oIxT, s_oIxL, s_oSlT, s_oSlL, s_oRevT, s_oRevL, s_oInt, s_oIntB, s_oAbs, s_oMax2, s_oMin2, s_oLen, s_plenT, s_plenL, s_plenD, s_plenS, s_oTupleL, s_oTupleT, s_oListL, s_oListT, List.set_cons_succ, List.set_cons_zero, List.append_nil, true_and, x_bl, x_int, x_some, x_addT, x_addL, x_true, x_false]
  by_cases e0 : w = 0
  · rw [decide_eq_true e0, if_pos rfl]
    exact out _ _ ⟨rfl, (fun _ z => by cases z), rfl⟩
  rw [decide_eq_false e0, if_neg Bool.false_ne_true]
  by_cases e1 : w = 1
  · rw [decide_eq_true e1, if_pos rfl]
    refine ⟨line (by simp), line (by simp; omega), out _ _ ⟨rfl, fun xs z => tup_ok (by simp; omega) (fun x hx => ?_) z, sch_bad (List.mem_append_right _ (List.mem_singleton.mpr rfl)) ?_⟩⟩
    · rcases List.mem_append.mp hx with z | z
      · exact ints_ok x z
      · rw [List.mem_singleton.mp z]; rfl
    · show (decide (0 ≤ maps - 1) && decide (maps - 1 < maps - 1)) = false
      rw [decide_eq_false (by omega : ¬ maps - 1 < maps - 1), Bool.and_false]
  rw [decide_eq_false e1, if_neg Bool.false_ne_true]
  by_cases e2 : w = 2
  · rw [decide_eq_true e2, if_pos rfl]
    refine ⟨line (by simp), line (by simp; omega), out _ _ ⟨rfl, fun xs z => tup_ok (by simp; omega) (fun x hx => ?_) z, sch_bad (List.mem_append_left _ (List.mem_singleton.mpr rfl)) ?_⟩⟩
    · rcases List.mem_append.mp hx with z | z
      · rw [List.mem_singleton.mp z]; rfl
      · exact ints_ok x z
    · rfl
  rw [decide_eq_false e2, if_neg Bool.false_ne_true]
  -- what is left, whatever the row
  have pick : sp_pick [.src, .lst [.tup [.non, .bl false], .tup [.int 0, .bl false], .tup [.str (PySem.Str.ofString ""), .bl false], .tup [.tup [], .bl true], .tup [.dic [] [], .bl false]]] Q := by
    refine ⟨_, rfl, by simp, by simp, fun x hx => ?_⟩
    simp at hx
    rcases hx with rfl | rfl | rfl | rfl | rfl
    · exact h _ _ ⟨rfl, (fun _ z => by cases z), rfl⟩
    · exact h _ _ ⟨rfl, (fun _ z => by cases z), rfl⟩
    · exact h _ _ ⟨rfl, (fun _ z => by cases z), rfl⟩
    · exact h _ _ ⟨rfl, fun xs z => tup_ok (by simp) (fun x hx => by cases hx) z, rfl⟩
    · exact h _ _ ⟨rfl, (fun _ z => by cases z), rfl⟩
  have two : ∀ v b, [v, PV.bl b].length ≤ sizeLine := fun v b => line (by simp)
  have fin : [PV.non, PV.bl false].length ≤ sizeLine ∧ [PV.int 0, PV.bl false].length ≤ sizeLine ∧ [PV.str (PySem.Str.ofString ""), PV.bl false].length ≤ sizeLine ∧ ([] : List PV).length ≤ sizeLine ∧ [PV.tup [], PV.bl true].length ≤ sizeLine ∧ [PV.dic [] [], PV.bl false].length ≤ sizeLine ∧
      [PV.tup [PV.non, PV.bl false], PV.tup [PV.int 0, PV.bl false], PV.tup [PV.str (PySem.Str.ofString ""), PV.bl false], PV.tup [PV.tup [], PV.bl true], PV.tup [PV.dic [] [], PV.bl false]].length ≤ sizeLine ∧
      sp_pick [.src, .lst [.tup [.non, .bl false], .tup [.int 0, .bl false], .tup [.str (PySem.Str.ofString ""), .bl false], .tup [.tup [], .bl true], .tup [.dic [] [], .bl false]]] Q :=
    ⟨two _ _, two _ _, two _ _, nil, two _ _, two _ _, line (by simp), pick⟩
  by_cases e3 : w = 3
  · have d4 : decide (w = 4) = false := decide_eq_false (by omega)
    have d5 : decide (w = 5) = false := decide_eq_false (by omega)
    rw [decide_eq_true e3, if_pos rfl, d4, d5]
    refine ⟨nil, oNeI_nil ⟨_, rfl, ?_⟩⟩
    by_cases hr : ns = []
    · subst hr
      exact fin
    · obtain ⟨r, c, rfl⟩ : ∃ r c, ns = r ++ [c] := ⟨ns.dropLast, ns.getLast hr, (List.dropLast_concat_getLast hr).symm⟩
      have hb : (!(r ++ [c]).isEmpty) = true := by simp
      rw [hb, if_pos rfl]
      have ec : cutP ((r ++ [c]).map PV.int) (some (-1)) none = [PV.int c] := by
        rw [cutP_map, HT.sIx_none]
        have e : HT.sIx (r ++ [c]).length 0 (some (-1)) = r.length := by
          show ((-1 : Int) + (((r ++ [c]).length : Nat) : Int)).toNat = _
          rw [List.length_append, List.length_singleton]; omega
        rw [e, List.drop_left, List.length_append, List.length_singleton, show r.length + 1 - r.length = 1 by omega]
        rfl
      rw [ec]
      have e1 : (r ++ [c]).map PV.int ++ [PV.int c] = ((r ++ [c]) ++ [c]).map PV.int := by rw [List.map_append (l₁ := r ++ [c])]; rfl
      refine ⟨line (by simp at hl ⊢; omega), out _ _ ?_⟩
      rw [e1]
      refine ⟨rfl, fun xs z => tup_ok (by simp at hl ⊢; omega) ints_ok z, sch_asc (asc_false (i := r.length) (a := c) (b := c) ?_ ?_ (by omega))⟩
      · rw [List.append_assoc, List.getElem?_append_right (Nat.le_refl _), Nat.sub_self]; rfl
      · rw [List.append_assoc, List.getElem?_append_right (Nat.le_succ _), show r.length + 1 - r.length = 1 by omega]; rfl
  rw [decide_eq_false e3, if_neg Bool.false_ne_true]
  by_cases e4 : w = 4
  · have d5 : decide (w = 5) = false := decide_eq_false (by omega)
    rw [decide_eq_true e4, if_pos rfl, d5]
    by_cases hr : (1 : Int) < ((ns.map PV.int).length : Int)
    · rw [decide_eq_true hr, if_pos rfl]
      rw [List.length_map] at hr
      refine out _ _ ?_
      rw [← List.map_reverse]
      have h1 : ns.length - 1 < ns.length := by omega
      have h2 : ns.length - 2 < ns.length := by omega
      refine ⟨rfl, fun xs z => tup_ok (by simp; omega) ints_ok z, sch_asc (asc_false (i := 0) (a := ns[ns.length - 1]) (b := ns[ns.length - 2]) ?_ ?_ ?_)⟩
      · rw [List.getElem?_reverse (by omega), List.getElem?_eq_getElem (by omega)]; rfl
      · rw [List.getElem?_reverse (by omega), List.getElem?_eq_getElem (by omega)]; rfl
      · have := List.pairwise_iff_getElem.mp hs.2.1 (ns.length - 2) (ns.length - 1) h2 h1 (by omega)
        omega
    · rw [decide_eq_false hr, if_neg Bool.false_ne_true]
      exact fin
  rw [decide_eq_false e4, if_neg Bool.false_ne_true]
  by_cases e5 : w = 5
  · rw [decide_eq_true e5, if_pos rfl]
    refine ⟨nil, oNeI_nil ⟨_, rfl, ?_⟩⟩
    by_cases hr : ns = []
    · subst hr
      exact fin
    · have hb : (!ns.isEmpty) = true := by cases ns with
        | nil => exact absurd rfl hr
        | cons _ _ => rfl
      rw [hb, if_pos rfl]
      have hpos : 0 < ns.length := List.length_pos_iff.mpr hr
      refine ⟨_, rfl, by rw [List.length_map]; omega, by rw [List.length_map]; omega, fun q q0 q1 => ?_⟩
      rw [List.length_map] at q1
      try simp only [s_mVar0, s_mVarS, s_mVarO0, s_mVarOS, s_isObj_lst, s_isObj_dic, s_mC, s_mOp, s_mOp1, s_mB, s_mNil, s_mCons, s_mTup, s_mLst, s_mCall, s_mTB, s_mNot, s_mAnd, s_mOr, s_mAndV, s_mOrV, s_mIf, s_mYes, s_mSl, s_mNo, s_mPart, s_mLc, s_mItems, s_mRng1, s_mRng2, s_mEnum, s_mChain, s_seqT, s_seqL, s_sNext, s_sSeq, s_sIf, s_sSet, s_sRet, s_sRetN, s_sBreak, s_sCont, s_sDrop, s_sPar, s_setN0, s_setNS, s_sAsg, s_sApp, s_sAug, s_sFor, s_sSrc, s_gmN, s_gmT, s_gmCons, s_gmNil, s_wipe0, s_wipeS, s_oSub, s_oAddI, s_oAdd, s_oLt, s_oLe, s_oGt, s_oGe, s_oNeg, s_oNot, s_oMul, s_oMulW, s_oMod, s_oFdiv, s_oPow, s_oIsN, s_oNotN, s_oIsB, s_oNotB, s_isNon_int, s_isNon_non, s_isNon_bl, s_isNon_str, s_isNon_tup, s_isNon_lst, s_isNon_dic, s_oEqI, s_oNeI, s_oIxT, s_oIxL, s_oSlT, s_oSlL, s_oRevT, s_oRevL, s_oInt, s_oIntB, s_oAbs, s_oMax2, s_oMin2, s_oLen, s_plenT, s_plenL, s_plenD, s_plenS, s_oTupleL, s_oTupleT, s_oListL, s_oListT, List.set_cons_succ, List.set_cons_zero, List.append_nil, true_and, x_bl, x_int, x_some, x_addT, x_addL, x_true, x_false]
      refine ⟨.int (ns[q.toNat]'(by omega)), by rw [atI_map, atI_nn q0 q1, List.getElem?_eq_getElem (by omega)]; rfl, line (by simp), line (by simp), _, rfl, by simp, by simp, fun x hx => ?_⟩
      have hbad : okIn maps x = false ∧ (pty x).isSome = true := by
        simp at hx
        rcases hx with rfl | rfl | rfl | rfl <;> exact ⟨rfl, rfl⟩
      have l1 : ∀ a b, (cutP (ns.map PV.int) a b).length ≤ ns.length := fun a b => by
        rw [cutP_map, List.length_map, List.length_take, List.length_drop]; omega
      have o1 : ∀ a b, ∀ y ∈ cutP (ns.map PV.int) a b, (pty y).isSome = true := fun a b => by rw [cutP_map]; exact ints_ok
      have a1 := l1 none (some q)
      have a2 := l1 (some (q + 1)) none
      refine ⟨line (by simp), line (by simp; omega), line (by simp; omega), out _ _ ⟨rfl, fun xs z => tup_ok (by simp; omega) (fun y hy => ?_) z, sch_bad (x := x) (by simp) hbad.1⟩⟩
      rcases List.mem_append.mp hy with z | z
      · rcases List.mem_append.mp z with z | z
        · exact o1 _ _ y z
        · rw [List.mem_singleton.mp z]; exact hbad.2
      · exact o1 _ _ y z
  rw [decide_eq_false e5, if_neg Bool.false_ne_true]
  exact fin
end K44

set_option maxHeartbeats 1000000
namespace K44
open PySem L2 PM
theorem mem_seg {α : Type} {lots : List α} {a b : Nat} {l : α} : l ∈ seg lots a b ↔ ∃ i, a ≤ i ∧ i ≤ b ∧ lots[i]? = some l := by
  unfold seg
  rw [List.mem_iff_getElem?]
  constructor
  · rintro ⟨i, h⟩
    rw [List.getElem?_drop, List.getElem?_take] at h
    by_cases z : a + i < b + 1
    · rw [if_pos z] at h
      exact ⟨a + i, by omega, by omega, h⟩
    · rw [if_neg z] at h; cases h
  · rintro ⟨i, h1, h2, h⟩
    refine ⟨i - a, ?_⟩
    rw [List.getElem?_drop, List.getElem?_take, show a + (i - a) = i by omega, if_pos (by omega)]
    exact h
theorem cnt_mono {lots : List (List Int)} {a b a' b' : Nat} (h1 : a' ≤ a) (h2 : b ≤ b') : cnt lots a b ≤ cnt lots a' b' := by
  refine len_le (nodup_keys _) fun x hx => ?_
  obtain ⟨l, hl, hx⟩ := mem_keys.mp hx
  obtain ⟨i, i1, i2, hi⟩ := mem_seg.mp hl
  exact mem_keys.mpr ⟨l, mem_seg.mpr ⟨i, by omega, by omega, hi⟩, hx⟩
theorem puts_nil {l : List Int} (h : l.Nodup) : puts [] l = l := by
  rw [puts_filter h]
  show l.filter _ = l
  rw [List.filter_eq_self]
  intro x _
  simp
theorem seg_one {α : Type} {lots : List α} {i : Nat} {l : α} (h : lots[i]? = some l) : seg lots i i = [l] := by
  unfold seg
  have := (List.getElem?_eq_some_iff.mp h).1
  rw [List.take_add_one, h, List.drop_append]
  have e : (lots.take i).length = i := by rw [List.length_take]; omega
  rw [e, List.drop_of_length_le (by omega), Nat.sub_self]
  rfl
theorem seg_succ {α : Type} {lots : List α} {a i : Nat} {l : α} (h : lots[i + 1]? = some l) (ha : a ≤ i + 1) : seg lots a (i + 1) = seg lots a i ++ [l] := by
  unfold seg
  have := (List.getElem?_eq_some_iff.mp h).1
  rw [List.take_add_one, h, List.drop_append]
  have e : (lots.take (i + 1)).length = i + 1 := by rw [List.length_take]; omega
  rw [e, show a - (i + 1) = 0 by omega]
  rfl
theorem keys_succ {lots : List (List Int)} {a i : Nat} {l : List Int} (h : lots[i + 1]? = some l) (ha : a ≤ i + 1) : keys (seg lots a (i + 1)) = puts (keys (seg lots a i)) l := by
  rw [seg_succ h ha]
  unfold keys
  rw [List.foldl_append]
  rfl
theorem keys_one {lots : List (List Int)} {i : Nat} {l : List Int} (h : lots[i]? = some l) (hn : l.Nodup) : keys (seg lots i i) = l := by
  rw [seg_one h]
  exact puts_nil hn
/-! ### the earliest firsts -/
structure First (lots : List (List Int)) (t : Int) (l f : Nat) : Prop where
  le : f ≤ l + 1
  low : ∀ g, g < f → t < cnt lots g l
  ok : f ≤ l → (cnt lots f l : Int) ≤ t
def fE (l f : Nat) : PV := if f ≤ l then .int f else .non
def firstsP (fs : List Nat) : List PV := fs.zipIdx.map fun p => fE p.2 p.1
theorem firstsP_snoc {fs : List Nat} {f : Nat} : firstsP (fs ++ [f]) = firstsP fs ++ [fE fs.length f] := by
  unfold firstsP
  rw [List.zipIdx_append, List.map_append]
  simp
theorem firstsP_len {fs : List Nat} : (firstsP fs).length = fs.length := by unfold firstsP; simp
theorem firstsP_get {fs : List Nat} {i f : Nat} (h : fs[i]? = some f) : (firstsP fs)[i]? = some (fE i f) := by
  unfold firstsP
  rw [List.getElem?_map, List.getElem?_zipIdx, h]
  simp
def sp_earliest : PM.Spec := fun ps P => ∃ (lots : List (List Int)) (t : Int), ps = [crs lots, .int t] ∧ Good lots ∧ ∀ fs : List Nat, fs.length = lots.length → (∀ l f, fs[l]? = some f → First lots t l f) → P (.tup (firstsP fs))
theorem h_earliest_firsts (ps : List PV) (Q : PV → Prop) (h : sp_earliest ps Q) : t_earliest_firsts sp_union_of { nx := fun _ => nxOf .cl Q, rt := Q } (startE n_earliest_firsts.length ps) := by
  obtain ⟨lots, t, rfl, hg, h⟩ := h
  have hs := hg.small
  show t_earliest_firsts _ _ [some (crs lots), some (.int t), none, none, none]
  unfold t_earliest_firsts
  try simp only [s_mVar0, s_mVarS, s_mVarO0, s_mVarOS, s_isObj_lst, s_isObj_dic, s_mC, s_mOp, s_mOp1, s_mB, s_mNil, s_mCons, s_mTup, s_mLst, s_mCall, s_mTB, s_mNot, s_mAnd, s_mOr, s_mAndV, s_mOrV, s_mIf, s_mYes, s_mSl, s_mNo, s_mPart, s_mLc, s_mItems, s_mRng1, s_mRng2, s_mEnum, s_mChain, s_seqT, s_seqL, s_sNext, s_sSeq, s_sIf, s_sSet, s_sRet, s_sRetN, s_sBreak, s_sCont, s_sDrop, s_sPar, s_setN0, s_setNS, s_sAsg, s_sApp, s_sAug, s_sFor, s_sSrc, s_gmN, s_gmT, s_gmCons, s_gmNil, s_wipe0, s_wipeS, s_oSub, s_oAddI, s_oAdd, s_oLt, s_oLe, s_oGt, s_oGe, s_oNeg, s_oNot, s_oMul, s_oMulW, s_oMod, s_oFdiv, s_oPow, s_oIsN, s_oNotN, s_oIsB, s_oNotB, s_isNon_int, s_isNon_non, s_isNon_bl, s_isNon_str, s_isNon_tup, s_isNon_lst, s_isNon_dic, s_oEqI, s_oNeI, s_oIxT, s_oIxL, s_oSlT, s_oSlL, s_oRevT, s_oRevL, s_oInt, s_oIntB, s_oAbs, s_oMax2, s_oMin2, s_oLen, s_plenT, s_plenL, s_plenD, s_plenS, s_oTupleL, s_oTupleT, s_oListL, s_oListT, List.set_cons_succ, List.set_cons_zero, List.append_nil, true_and, x_bl, x_int, x_some, x_addT, x_addL, x_true, x_false]
  refine ⟨Nat.zero_le _, by rw [List.length_map]; omega, ?_⟩
  rw [List.length_map, Int.toNat_natCast, rngP_rng]
  refine for_inv (fun i e => i ≤ lots.length ∧ ∃ (fs : List Nat) (first : Nat) (y2 : Option PV), fs.length = i ∧ (∀ l f, fs[l]? = some f → First lots t l f) ∧ first ≤ i ∧ (∀ g, g < first → 0 < i ∧ t < cnt lots g (i - 1)) ∧ e = [some (crs lots), some (.int t), y2, some (.lst (firstsP fs)), some (.int first)])
    ⟨Nat.zero_le _, [], 0, none, rfl, (fun l f z => by simp at z), Nat.le_refl _, (fun g z => absurd z (Nat.not_lt_zero _)), rfl⟩ (fun i x e N hx hE hN => ?_) (fun e hE => ?_)
  · obtain ⟨hi, fs, first, y2, hl, hF, hle, hlow, rfl⟩ := hE
    have hlt : i < lots.length := by have := (List.getElem?_eq_some_iff.mp hx).1; rw [rng_len] at this; exact this
    have ex : x = (i : Int) := by rw [rng_get hlt] at hx; exact (Option.some.inj hx).symm
    subst ex
    rw [s_gmN]
    try simp only [s_mVar0, s_mVarS, s_mVarO0, s_mVarOS, s_isObj_lst, s_isObj_dic, s_mC, s_mOp, s_mOp1, s_mB, s_mNil, s_mCons, s_mTup, s_mLst, s_mCall, s_mTB, s_mNot, s_mAnd, s_mOr, s_mAndV, s_mOrV, s_mIf, s_mYes, s_mSl, s_mNo, s_mPart, s_mLc, s_mItems, s_mRng1, s_mRng2, s_mEnum, s_mChain, s_seqT, s_seqL, s_sNext, s_sSeq, s_sIf, s_sSet, s_sRet, s_sRetN, s_sBreak, s_sCont, s_sDrop, s_sPar, s_setN0, s_setNS, s_sAsg, s_sApp, s_sAug, s_sFor, s_sSrc, s_gmN, s_gmT, s_gmCons, s_gmNil, s_wipe0, s_wipeS, s_oSub, s_oAddI, s_oAdd, s_oLt, s_oLe, s_oGt, s_oGe, s_oNeg, s_oNot, s_oMul, s_oMulW, s_oMod, s_oFdiv, s_oPow, s_oIsN, s_oNotN, s_oIsB, s_oNotB, s_isNon_int, s_isNon_non, s_isNon_bl, s_isNon_str, s_isNon_tup, s_isNon_lst, s_isNon_dic, s_oEqI, s_oNeI, s_oIxT, s_oIxL, s_oSlT, s_oSlL, s_oRevT, s_oRevL, s_oInt, s_oIntB, s_oAbs, s_oMax2, s_oMin2, s_oLen, s_plenT, s_plenL, s_plenD, s_plenS, s_oTupleL, s_oTupleT, s_oListL, s_oListT, List.set_cons_succ, List.set_cons_zero, List.append_nil, true_and, x_bl, x_int, x_some, x_addT, x_addL, x_true, x_false]
    refine ⟨fun m e => ∃ first : Nat, m = i + 1 - first ∧ first ≤ i + 1 ∧ (∀ g, g < first → t < cnt lots g i) ∧ e = [some (crs lots), some (.int t), some (.int i), some (.lst (firstsP fs)), some (.int first)], ⟨_, first, rfl, by omega, fun g hg' => ?_, rfl⟩, ?_⟩
    · obtain ⟨h0, h1⟩ := hlow g hg'
      have := cnt_mono (lots := lots) (a := g) (a' := g) (b := i - 1) (b' := i) (Nat.le_refl _) (by omega)
      omega
    rintro m e ⟨first, rfl, hle, hlow, rfl⟩
    try simp only [s_mVar0, s_mVarS, s_mVarO0, s_mVarOS, s_isObj_lst, s_isObj_dic, s_mC, s_mOp, s_mOp1, s_mB, s_mNil, s_mCons, s_mTup, s_mLst, s_mCall, s_mTB, s_mNot, s_mAnd, s_mOr, s_mAndV, s_mOrV, s_mIf, s_mYes, s_mSl, s_mNo, s_mPart, s_mLc, s_mItems, s_mRng1, s_mRng2, s_mEnum, s_mChain, s_seqT, s_seqL, s_sNext, s_sSeq, s_sIf, s_sSet, s_sRet, s_sRetN, s_sBreak, s_sCont, s_sDrop, s_sPar, s_setN0, s_setNS, s_sAsg, s_sApp, s_sAug, s_sFor, s_sSrc, s_gmN, s_gmT, s_gmCons, s_gmNil, s_wipe0, s_wipeS, s_oSub, s_oAddI, s_oAdd, s_oLt, s_oLe, s_oGt, s_oGe, s_oNeg, s_oNot, s_oMul, s_oMulW, s_oMod, s_oFdiv, s_oPow, s_oIsN, s_oNotN, s_oIsB, s_oNotB, s_isNon_int, s_isNon_non, s_isNon_bl, s_isNon_str, s_isNon_tup, s_isNon_lst, s_isNon_dic, s_oEqI, s_oNeI, s_oIxT, s_oIxL, s_oSlT, s_oSlL, s_oRevT, s_oRevL, s_oInt, s_oIntB, s_oAbs, s_oMax2, s_oMin2, s_oLen, s_plenT, s_plenL, s_plenD, s_plenS, s_oTupleL, s_oTupleT, s_oListL, s_oListT, List.set_cons_succ, List.set_cons_zero, List.append_nil, true_and, x_bl, x_int, x_some, x_addT, x_addL, x_true, x_false]
    have nx : (first ≤ i → (cnt lots first i : Int) ≤ t) → N [some (crs lots), some (.int t), some (.int i), some (.lst (firstsP fs ++ [fE i first])), some (.int first)] := fun hok => by
      refine hN _ ⟨hlt, fs ++ [first], first, some (.int i), by rw [List.length_append, hl]; rfl, fun l f hf => ?_, hle, fun g hg' => ⟨Nat.succ_pos _, hlow g hg'⟩, ?_⟩
      · rcases Nat.lt_or_ge l fs.length with z | z
        · rw [List.getElem?_append_left z] at hf; exact hF l f hf
        · rw [List.getElem?_append_right z] at hf
          have e0 : l - fs.length = 0 := by
            have := (List.getElem?_eq_some_iff.mp hf).1
            simp at this; omega
          rw [e0] at hf
          have ef : f = first := (Option.some.inj hf).symm
          have el : l = i := by omega
          rw [ef, el]
          exact ⟨hle, hlow, hok⟩
      · rw [firstsP_snoc, hl]
    have fin : fs.length < sizeLine := small_line (by omega)
    by_cases hc : first ≤ i
    · rw [decide_eq_true (by omega : (first : Int) ≤ i), if_pos rfl]
      refine ⟨lots, first, i, rfl, hg, ?_⟩
      try simp only [s_mVar0, s_mVarS, s_mVarO0, s_mVarOS, s_isObj_lst, s_isObj_dic, s_mC, s_mOp, s_mOp1, s_mB, s_mNil, s_mCons, s_mTup, s_mLst, s_mCall, s_mTB, s_mNot, s_mAnd, s_mOr, s_mAndV, s_mOrV, s_mIf, s_mYes, s_mSl, s_mNo, s_mPart, s_mLc, s_mItems, s_mRng1, s_mRng2, s_mEnum, s_mChain, s_seqT, s_seqL, s_sNext, s_sSeq, s_sIf, s_sSet, s_sRet, s_sRetN, s_sBreak, s_sCont, s_sDrop, s_sPar, s_setN0, s_setNS, s_sAsg, s_sApp, s_sAug, s_sFor, s_sSrc, s_gmN, s_gmT, s_gmCons, s_gmNil, s_wipe0, s_wipeS, s_oSub, s_oAddI, s_oAdd, s_oLt, s_oLe, s_oGt, s_oGe, s_oNeg, s_oNot, s_oMul, s_oMulW, s_oMod, s_oFdiv, s_oPow, s_oIsN, s_oNotN, s_oIsB, s_oNotB, s_isNon_int, s_isNon_non, s_isNon_bl, s_isNon_str, s_isNon_tup, s_isNon_lst, s_isNon_dic, s_oEqI, s_oNeI, s_oIxT, s_oIxL, s_oSlT, s_oSlL, s_oRevT, s_oRevL, s_oInt, s_oIntB, s_oAbs, s_oMax2, s_oMin2, s_oLen, s_plenT, s_plenL, s_plenD, s_plenS, s_oTupleL, s_oTupleT, s_oListL, s_oListT, List.set_cons_succ, List.set_cons_zero, List.append_nil, true_and, x_bl, x_int, x_some, x_addT, x_addL, x_true, x_false]
      rw [List.length_map, isort_len]
      have ecnt : (keys (seg lots first i)).length = cnt lots first i := rfl
      rw [ecnt]
      by_cases hc2 : t < (cnt lots first i : Int)
      · rw [decide_eq_true hc2, if_pos rfl]
        refine ⟨_, rfl, ?_⟩
        try simp only [s_mVar0, s_mVarS, s_mVarO0, s_mVarOS, s_isObj_lst, s_isObj_dic, s_mC, s_mOp, s_mOp1, s_mB, s_mNil, s_mCons, s_mTup, s_mLst, s_mCall, s_mTB, s_mNot, s_mAnd, s_mOr, s_mAndV, s_mOrV, s_mIf, s_mYes, s_mSl, s_mNo, s_mPart, s_mLc, s_mItems, s_mRng1, s_mRng2, s_mEnum, s_mChain, s_seqT, s_seqL, s_sNext, s_sSeq, s_sIf, s_sSet, s_sRet, s_sRetN, s_sBreak, s_sCont, s_sDrop, s_sPar, s_setN0, s_setNS, s_sAsg, s_sApp, s_sAug, s_sFor, s_sSrc, s_gmN, s_gmT, s_gmCons, s_gmNil, s_wipe0, s_wipeS, s_oSub, s_oAddI, s_oAdd, s_oLt, s_oLe, s_oGt, s_oGe, s_oNeg, s_oNot, s_oMul, s_oMulW, s_oMod, s_oFdiv, s_oPow, s_oIsN, s_oNotN, s_oIsB, s_oNotB, s_isNon_int, s_isNon_non, s_isNon_bl, s_isNon_str, s_isNon_tup, s_isNon_lst, s_isNon_dic, s_oEqI, s_oNeI, s_oIxT, s_oIxL, s_oSlT, s_oSlL, s_oRevT, s_oRevL, s_oInt, s_oIntB, s_oAbs, s_oMax2, s_oMin2, s_oLen, s_plenT, s_plenL, s_plenD, s_plenS, s_oTupleL, s_oTupleT, s_oListL, s_oListT, List.set_cons_succ, List.set_cons_zero, List.append_nil, true_and, x_bl, x_int, x_some, x_addT, x_addL, x_true, x_false]
        refine ⟨i + 1 - (first + 1), by omega, first + 1, rfl, by omega, fun g hg' => ?_, rfl⟩
        rcases Nat.lt_succ_iff_lt_or_eq.mp hg' with z | z
        · exact hlow g z
        · rw [z]; exact hc2
      · rw [decide_eq_false hc2, if_neg Bool.false_ne_true]
        refine ⟨_, rfl, ?_⟩
        try simp only [s_mVar0, s_mVarS, s_mVarO0, s_mVarOS, s_isObj_lst, s_isObj_dic, s_mC, s_mOp, s_mOp1, s_mB, s_mNil, s_mCons, s_mTup, s_mLst, s_mCall, s_mTB, s_mNot, s_mAnd, s_mOr, s_mAndV, s_mOrV, s_mIf, s_mYes, s_mSl, s_mNo, s_mPart, s_mLc, s_mItems, s_mRng1, s_mRng2, s_mEnum, s_mChain, s_seqT, s_seqL, s_sNext, s_sSeq, s_sIf, s_sSet, s_sRet, s_sRetN, s_sBreak, s_sCont, s_sDrop, s_sPar, s_setN0, s_setNS, s_sAsg, s_sApp, s_sAug, s_sFor, s_sSrc, s_gmN, s_gmT, s_gmCons, s_gmNil, s_wipe0, s_wipeS, s_oSub, s_oAddI, s_oAdd, s_oLt, s_oLe, s_oGt, s_oGe, s_oNeg, s_oNot, s_oMul, s_oMulW, s_oMod, s_oFdiv, s_oPow, s_oIsN, s_oNotN, s_oIsB, s_oNotB, s_isNon_int, s_isNon_non, s_isNon_bl, s_isNon_str, s_isNon_tup, s_isNon_lst, s_isNon_dic, s_oEqI, s_oNeI, s_oIxT, s_oIxL, s_oSlT, s_oSlL, s_oRevT, s_oRevL, s_oInt, s_oIntB, s_oAbs, s_oMax2, s_oMin2, s_oLen, s_plenT, s_plenL, s_plenD, s_plenS, s_oTupleL, s_oTupleT, s_oListL, s_oListT, List.set_cons_succ, List.set_cons_zero, List.append_nil, true_and, x_bl, x_int, x_some, x_addT, x_addL, x_true, x_false]
        rw [if_pos trivial]
        refine ⟨by rw [firstsP_len]; exact fin, ?_⟩
        have := nx fun _ => by omega
        unfold fE at this
        rw [if_pos hc] at this
        exact this
    · rw [decide_eq_false (by omega : ¬ (first : Int) ≤ i), if_neg Bool.false_ne_true]
      try simp only [s_mVar0, s_mVarS, s_mVarO0, s_mVarOS, s_isObj_lst, s_isObj_dic, s_mC, s_mOp, s_mOp1, s_mB, s_mNil, s_mCons, s_mTup, s_mLst, s_mCall, s_mTB, s_mNot, s_mAnd, s_mOr, s_mAndV, s_mOrV, s_mIf, s_mYes, s_mSl, s_mNo, s_mPart, s_mLc, s_mItems, s_mRng1, s_mRng2, s_mEnum, s_mChain, s_seqT, s_seqL, s_sNext, s_sSeq, s_sIf, s_sSet, s_sRet, s_sRetN, s_sBreak, s_sCont, s_sDrop, s_sPar, s_setN0, s_setNS, s_sAsg, s_sApp, s_sAug, s_sFor, s_sSrc, s_gmN, s_gmT, s_gmCons, s_gmNil, s_wipe0, s_wipeS, s_oSub, s_oAddI, s_oAdd, s_oLt, s_oLe, s_oGt, s_oGe, s_oNeg, s_oNot, s_oMul, s_oMulW, s_oMod, s_oFdiv, s_oPow, s_oIsN, s_oNotN, s_oIsB, s_oNotB, s_isNon_int, s_isNon_non, s_isNon_bl, s_isNon_str, s_isNon_tup, s_isNon_lst, s_isNon_dic, s_oEqI, s_oNeI, s_oIxT, s_oIxL, s_oSlT, s_oSlL, s_oRevT, s_oRevL, s_oInt, s_oIntB, s_oAbs, s_oMax2, s_oMin2, s_oLen, s_plenT, s_plenL, s_plenD, s_plenS, s_oTupleL, s_oTupleT, s_oListL, s_oListT, List.set_cons_succ, List.set_cons_zero, List.append_nil, true_and, x_bl, x_int, x_some, x_addT, x_addL, x_true, x_false]
      refine ⟨_, rfl, ?_⟩
      try simp only [s_mVar0, s_mVarS, s_mVarO0, s_mVarOS, s_isObj_lst, s_isObj_dic, s_mC, s_mOp, s_mOp1, s_mB, s_mNil, s_mCons, s_mTup, s_mLst, s_mCall, s_mTB, s_mNot, s_mAnd, s_mOr, s_mAndV, s_mOrV, s_mIf, s_mYes, s_mSl, s_mNo, s_mPart, s_mLc, s_mItems, s_mRng1, s_mRng2, s_mEnum, s_mChain, s_seqT, s_seqL, s_sNext, s_sSeq, s_sIf, s_sSet, s_sRet, s_sRetN, s_sBreak, s_sCont, s_sDrop, s_sPar, s_setN0, s_setNS, s_sAsg, s_sApp, s_sAug, s_sFor, s_sSrc, s_gmN, s_gmT, s_gmCons, s_gmNil, s_wipe0, s_wipeS, s_oSub, s_oAddI, s_oAdd, s_oLt, s_oLe, s_oGt, s_oGe, s_oNeg, s_oNot, s_oMul, s_oMulW, s_oMod, s_oFdiv, s_oPow, s_oIsN, s_oNotN, s_oIsB, s_oNotB, s_isNon_int, s_isNon_non, s_isNon_bl, s_isNon_str, s_isNon_tup, s_isNon_lst, s_isNon_dic, s_oEqI, s_oNeI, s_oIxT, s_oIxL, s_oSlT, s_oSlL, s_oRevT, s_oRevL, s_oInt, s_oIntB, s_oAbs, s_oMax2, s_oMin2, s_oLen, s_plenT, s_plenL, s_plenD, s_plenS, s_oTupleL, s_oTupleT, s_oListL, s_oListT, List.set_cons_succ, List.set_cons_zero, List.append_nil, true_and, x_bl, x_int, x_some, x_addT, x_addL, x_true, x_false]
      refine ⟨by rw [firstsP_len]; exact fin, ?_⟩
      have := nx fun z => absurd z hc
      unfold fE at this
      rw [if_neg hc] at this
      exact this
  · obtain ⟨hi, fs, first, y2, hl, hF, hle, hlow, rfl⟩ := hE
    rw [rng_len] at hl
    try simp only [s_mVar0, s_mVarS, s_mVarO0, s_mVarOS, s_isObj_lst, s_isObj_dic, s_mC, s_mOp, s_mOp1, s_mB, s_mNil, s_mCons, s_mTup, s_mLst, s_mCall, s_mTB, s_mNot, s_mAnd, s_mOr, s_mAndV, s_mOrV, s_mIf, s_mYes, s_mSl, s_mNo, s_mPart, s_mLc, s_mItems, s_mRng1, s_mRng2, s_mEnum, s_mChain, s_seqT, s_seqL, s_sNext, s_sSeq, s_sIf, s_sSet, s_sRet, s_sRetN, s_sBreak, s_sCont, s_sDrop, s_sPar, s_setN0, s_setNS, s_sAsg, s_sApp, s_sAug, s_sFor, s_sSrc, s_gmN, s_gmT, s_gmCons, s_gmNil, s_wipe0, s_wipeS, s_oSub, s_oAddI, s_oAdd, s_oLt, s_oLe, s_oGt, s_oGe, s_oNeg, s_oNot, s_oMul, s_oMulW, s_oMod, s_oFdiv, s_oPow, s_oIsN, s_oNotN, s_oIsB, s_oNotB, s_isNon_int, s_isNon_non, s_isNon_bl, s_isNon_str, s_isNon_tup, s_isNon_lst, s_isNon_dic, s_oEqI, s_oNeI, s_oIxT, s_oIxL, s_oSlT, s_oSlL, s_oRevT, s_oRevL, s_oInt, s_oIntB, s_oAbs, s_oMax2, s_oMin2, s_oLen, s_plenT, s_plenL, s_plenD, s_plenS, s_oTupleL, s_oTupleT, s_oListL, s_oListT, List.set_cons_succ, List.set_cons_zero, List.append_nil, true_and, x_bl, x_int, x_some, x_addT, x_addL, x_true, x_false]
    exact h fs hl hF
/-! ### the fewest schedule -/
def fewGo (t : Int) : List Int → Int → List (List Int) → Option (List Int)
  | _, _, [] => some []
  | seen, i, l :: r => if t < (l.length : Int) then none else
    if t < ((seen.length + (l.filter fun x => !decide (x ∈ seen)).length : Nat) : Int) then (fewGo t l (i + 1) r).map fun s => (i - 1) :: s
    else fewGo t (seen ++ l.filter fun x => !decide (x ∈ seen)) (i + 1) r
def few (lots : List (List Int)) (t : Int) : Option (List Int) := fewGo t [] 0 lots
def fewP (o : Option (List Int)) : PV := match o with
  | some s => tI s
  | none => .non
theorem few_none {t : Int} : ∀ {lots : List (List Int)} {seen : List Int} {i : Int} {l : List Int}, l ∈ lots → t < (l.length : Int) → fewGo t seen i lots = none
  | m :: lots, seen, i, l, hl, ht => by
    unfold fewGo
    by_cases h1 : t < (m.length : Int)
    · rw [if_pos h1]
    · rw [if_neg h1]
      have hl' : l ∈ lots := by
        rcases List.mem_cons.mp hl with z | z
        · rw [z] at ht; exact absurd ht h1
        · exact z
      rw [few_none hl' ht, few_none hl' ht]
      split <;> rfl
theorem few_step {lots : List (List Int)} {t : Int} {seen found : List Int} {i : Nat} {l : List Int} (hx : lots[i]? = some l) (h : few lots t = (fewGo t seen i (lots.drop i)).map (found ++ ·)) (hl : ¬ t < (l.length : Int)) :
    (t < ((seen.length + (l.filter fun x => !decide (x ∈ seen)).length : Nat) : Int) → few lots t = (fewGo t l ((i + 1 : Nat) : Int) (lots.drop (i + 1))).map ((found ++ [(i : Int) - 1]) ++ ·)) ∧
    (¬ t < ((seen.length + (l.filter fun x => !decide (x ∈ seen)).length : Nat) : Int) → few lots t = (fewGo t (seen ++ l.filter fun x => !decide (x ∈ seen)) ((i + 1 : Nat) : Int) (lots.drop (i + 1))).map (found ++ ·)) := by
  have hlt := (List.getElem?_eq_some_iff.mp hx).1
  have hd : lots.drop i = l :: lots.drop (i + 1) := by
    rw [List.drop_eq_getElem_cons hlt]
    congr 1
    rw [List.getElem?_eq_getElem hlt] at hx
    exact Option.some.inj hx
  rw [hd] at h
  unfold fewGo at h
  rw [if_neg hl] at h
  constructor
  · intro hc
    rw [if_pos hc] at h
    rw [h, Option.map_map]
    show Option.map _ (fewGo t l ((i : Int) + 1) _) = _
    rw [show ((i : Int) + 1) = ((i + 1 : Nat) : Int) by omega]
    congr 1
    funext s
    show found ++ ((i : Int) - 1) :: s = found ++ [(i : Int) - 1] ++ s
    rw [List.append_assoc]; rfl
  · intro hc
    rw [if_neg hc] at h
    rw [h, show ((i : Int) + 1) = ((i + 1 : Nat) : Int) by omega]
theorem few_end {lots : List (List Int)} {t : Int} {seen found : List Int} {i : Nat} (hi : lots.length ≤ i) (h : few lots t = (fewGo t seen i (lots.drop i)).map (found ++ ·)) : few lots t = some found := by
  rw [List.drop_of_length_le hi] at h
  rw [h]
  show some (found ++ []) = _
  rw [List.append_nil]
def sp_fewest : PM.Spec := fun ps P => ∃ (lots : List (List Int)) (t : Int), ps = [crs lots, .int t] ∧ Good lots ∧ P (fewP (few lots t))
theorem h_l_fewest (ps : List PV) (Q : PV → Prop) (h : sp_fewest ps Q) : t_l_fewest { nx := fun _ => nxOf .cl Q, rt := Q } (startE n_l_fewest.length ps) := by
  obtain ⟨lots, t, rfl, hg, h⟩ := h
  have hs := hg.small
  show t_l_fewest _ [some (crs lots), some (.int t), none, none, none, none, none, none]
  unfold t_l_fewest
  try simp only [s_mVar0, s_mVarS, s_mVarO0, s_mVarOS, s_isObj_lst, s_isObj_dic, s_mC, s_mOp, s_mOp1, s_mB, s_mNil, s_mCons, s_mTup, s_mLst, s_mCall, s_mTB, s_mNot, s_mAnd, s_mOr, s_mAndV, s_mOrV, s_mIf, s_mYes, s_mSl, s_mNo, s_mPart, s_mLc, s_mItems, s_mRng1, s_mRng2, s_mEnum, s_mChain, s_seqT, s_seqL, s_sNext, s_sSeq, s_sIf, s_sSet, s_sRet, s_sRetN, s_sBreak, s_sCont, s_sDrop, s_sPar, s_setN0, s_setNS, s_sAsg, s_sApp, s_sAug, s_sFor, s_sSrc, s_gmN, s_gmT, s_gmCons, s_gmNil, s_wipe0, s_wipeS, s_oSub, s_oAddI, s_oAdd, s_oLt, s_oLe, s_oGt, s_oGe, s_oNeg, s_oNot, s_oMul, s_oMulW, s_oMod, s_oFdiv, s_oPow, s_oIsN, s_oNotN, s_oIsB, s_oNotB, s_isNon_int, s_isNon_non, s_isNon_bl, s_isNon_str, s_isNon_tup, s_isNon_lst, s_isNon_dic, s_oEqI, s_oNeI, s_oIxT, s_oIxL, s_oSlT, s_oSlL, s_oRevT, s_oRevL, s_oInt, s_oIntB, s_oAbs, s_oMax2, s_oMin2, s_oLen, s_plenT, s_plenL, s_plenD, s_plenS, s_oTupleL, s_oTupleT, s_oListL, s_oListT, List.set_cons_succ, List.set_cons_zero, List.append_nil, true_and, x_bl, x_int, x_some, x_addT, x_addL, x_true, x_false]
  refine ⟨Nat.zero_le _, Nat.zero_le _, ?_⟩
  rw [enumP_map]
  refine for_inv (fun i e => ∃ (found seen : List Int) (y4 y5 y6 y7 : Option PV), found.length ≤ i ∧ seen.Nodup ∧ (∀ x ∈ seen, 0 ≤ x ∧ x < 24) ∧ few lots t = (fewGo t seen i (lots.drop i)).map (found ++ ·) ∧ e = [some (crs lots), some (.int t), some (lI found), some (lI seen), y4, y5, y6, y7])
    ⟨[], [], none, none, none, none, Nat.le_refl _, List.nodup_nil, (fun _ z => by cases z), by
      show _ = (fewGo t [] 0 lots).map _
      have : (fun x : List Int => [] ++ x) = id := rfl
      rw [this, Option.map_id]; rfl, rfl⟩ (fun i x e N hx hE hN => ?_) (fun e hE => ?_)
  · obtain ⟨found, seen, y4, y5, y6, y7, hfl, hn, hr, hf, rfl⟩ := hE
    have hlt : i < lots.length := by have := (List.getElem?_eq_some_iff.mp hx).1; rw [List.length_range] at this; exact this
    have ex : x = i := by rw [List.getElem?_range hlt] at hx; exact (Option.some.inj hx).symm
    subst ex
    have hli : lots[x]? = some lots[x] := List.getElem?_eq_getElem hlt
    generalize lots[x] = l at hli
    have hlg := hg.lot l (List.mem_of_getElem? hli)
    have ll := len_bound (n := 24) hlg.1 hlg.2
    have lk := len_bound (n := 24) hn hr
    have eg : (lots.map tI).getD x .non = tI l := by rw [List.getD_eq_getElem?_getD, List.getElem?_map, hli]; rfl
    rw [eg]
    try simp only [s_mVar0, s_mVarS, s_mVarO0, s_mVarOS, s_isObj_lst, s_isObj_dic, s_mC, s_mOp, s_mOp1, s_mB, s_mNil, s_mCons, s_mTup, s_mLst, s_mCall, s_mTB, s_mNot, s_mAnd, s_mOr, s_mAndV, s_mOrV, s_mIf, s_mYes, s_mSl, s_mNo, s_mPart, s_mLc, s_mItems, s_mRng1, s_mRng2, s_mEnum, s_mChain, s_seqT, s_seqL, s_sNext, s_sSeq, s_sIf, s_sSet, s_sRet, s_sRetN, s_sBreak, s_sCont, s_sDrop, s_sPar, s_setN0, s_setNS, s_sAsg, s_sApp, s_sAug, s_sFor, s_sSrc, s_gmN, s_gmT, s_gmCons, s_gmNil, s_wipe0, s_wipeS, s_oSub, s_oAddI, s_oAdd, s_oLt, s_oLe, s_oGt, s_oGe, s_oNeg, s_oNot, s_oMul, s_oMulW, s_oMod, s_oFdiv, s_oPow, s_oIsN, s_oNotN, s_oIsB, s_oNotB, s_isNon_int, s_isNon_non, s_isNon_bl, s_isNon_str, s_isNon_tup, s_isNon_lst, s_isNon_dic, s_oEqI, s_oNeI, s_oIxT, s_oIxL, s_oSlT, s_oSlL, s_oRevT, s_oRevL, s_oInt, s_oIntB, s_oAbs, s_oMax2, s_oMin2, s_oLen, s_plenT, s_plenL, s_plenD, s_plenS, s_oTupleL, s_oTupleT, s_oListL, s_oListT, List.set_cons_succ, List.set_cons_zero, List.append_nil, true_and, x_bl, x_int, x_some, x_addT, x_addL, x_true, x_false]
    rw [List.length_map]
    by_cases h1 : t < (l.length : Int)
    · rw [decide_eq_true h1, if_pos rfl]
      have : few lots t = none := few_none (List.mem_of_getElem? hli) h1
      rw [this] at h
      exact ⟨rfl, h⟩
    · rw [decide_eq_false h1, if_neg Bool.false_ne_true]
      obtain ⟨f1, f2⟩ := few_step hli hf h1
      refine ⟨rfl, comp_emb (tst := fun y => !decide (y ∈ seen)) (f := .int) (fun y hy => ⟨_, fun k hk => s_gmN.mpr hk, fun Q hQ => ?_, fun _ Q hQ => ?_⟩) (by rw [List.length_nil, Nat.zero_add]; exact line (by omega)) ?_⟩
      · show mTB (mOp (oIn true) (mVar 7) (mVar 3)) [some (crs lots), some (.int t), some (lI found), some (lI seen), some (.int x), some (tI l), y6, some (.int y)] Q
        try simp only [s_mVar0, s_mVarS, s_mVarO0, s_mVarOS, s_isObj_lst, s_isObj_dic, s_mC, s_mOp, s_mOp1, s_mB, s_mNil, s_mCons, s_mTup, s_mLst, s_mCall, s_mTB, s_mNot, s_mAnd, s_mOr, s_mAndV, s_mOrV, s_mIf, s_mYes, s_mSl, s_mNo, s_mPart, s_mLc, s_mItems, s_mRng1, s_mRng2, s_mEnum, s_mChain, s_seqT, s_seqL, s_sNext, s_sSeq, s_sIf, s_sSet, s_sRet, s_sRetN, s_sBreak, s_sCont, s_sDrop, s_sPar, s_setN0, s_setNS, s_sAsg, s_sApp, s_sAug, s_sFor, s_sSrc, s_gmN, s_gmT, s_gmCons, s_gmNil, s_wipe0, s_wipeS, s_oSub, s_oAddI, s_oAdd, s_oLt, s_oLe, s_oGt, s_oGe, s_oNeg, s_oNot, s_oMul, s_oMulW, s_oMod, s_oFdiv, s_oPow, s_oIsN, s_oNotN, s_oIsB, s_oNotB, s_isNon_int, s_isNon_non, s_isNon_bl, s_isNon_str, s_isNon_tup, s_isNon_lst, s_isNon_dic, s_oEqI, s_oNeI, s_oIxT, s_oIxL, s_oSlT, s_oSlL, s_oRevT, s_oRevL, s_oInt, s_oIntB, s_oAbs, s_oMax2, s_oMin2, s_oLen, s_plenT, s_plenL, s_plenD, s_plenS, s_oTupleL, s_oTupleT, s_oListL, s_oListT, List.set_cons_succ, List.set_cons_zero, List.append_nil, true_and, x_bl, x_int, x_some, x_addT, x_addL, x_true, x_false]
        exact oIn_ints ⟨_, rfl, hQ⟩
      · show mVar 7 [some (crs lots), some (.int t), some (lI found), some (lI seen), some (.int x), some (tI l), y6, some (.int y)] Q
        try simp only [s_mVar0, s_mVarS, s_mVarO0, s_mVarOS, s_isObj_lst, s_isObj_dic, s_mC, s_mOp, s_mOp1, s_mB, s_mNil, s_mCons, s_mTup, s_mLst, s_mCall, s_mTB, s_mNot, s_mAnd, s_mOr, s_mAndV, s_mOrV, s_mIf, s_mYes, s_mSl, s_mNo, s_mPart, s_mLc, s_mItems, s_mRng1, s_mRng2, s_mEnum, s_mChain, s_seqT, s_seqL, s_sNext, s_sSeq, s_sIf, s_sSet, s_sRet, s_sRetN, s_sBreak, s_sCont, s_sDrop, s_sPar, s_setN0, s_setNS, s_sAsg, s_sApp, s_sAug, s_sFor, s_sSrc, s_gmN, s_gmT, s_gmCons, s_gmNil, s_wipe0, s_wipeS, s_oSub, s_oAddI, s_oAdd, s_oLt, s_oLe, s_oGt, s_oGe, s_oNeg, s_oNot, s_oMul, s_oMulW, s_oMod, s_oFdiv, s_oPow, s_oIsN, s_oNotN, s_oIsB, s_oNotB, s_isNon_int, s_isNon_non, s_isNon_bl, s_isNon_str, s_isNon_tup, s_isNon_lst, s_isNon_dic, s_oEqI, s_oNeI, s_oIxT, s_oIxL, s_oSlT, s_oSlL, s_oRevT, s_oRevL, s_oInt, s_oIntB, s_oAbs, s_oMax2, s_oMin2, s_oLen, s_plenT, s_plenL, s_plenD, s_plenS, s_oTupleL, s_oTupleT, s_oListL, s_oListT, List.set_cons_succ, List.set_cons_zero, List.append_nil, true_and, x_bl, x_int, x_some, x_addT, x_addL, x_true, x_false]
        exact hQ
      rw [List.nil_append]
      generalize hfr : (l.filter fun y => !decide (y ∈ seen)) = fresh at f1 f2 ⊢
      have hfl24 : fresh.length ≤ 24 := by rw [← hfr]; exact Nat.le_trans (List.length_filter_le _ _) ll
      have ecat : seen ++ fresh = puts seen l := by rw [puts_filter hlg.1, hfr]
      try simp only [s_mVar0, s_mVarS, s_mVarO0, s_mVarOS, s_isObj_lst, s_isObj_dic, s_mC, s_mOp, s_mOp1, s_mB, s_mNil, s_mCons, s_mTup, s_mLst, s_mCall, s_mTB, s_mNot, s_mAnd, s_mOr, s_mAndV, s_mOrV, s_mIf, s_mYes, s_mSl, s_mNo, s_mPart, s_mLc, s_mItems, s_mRng1, s_mRng2, s_mEnum, s_mChain, s_seqT, s_seqL, s_sNext, s_sSeq, s_sIf, s_sSet, s_sRet, s_sRetN, s_sBreak, s_sCont, s_sDrop, s_sPar, s_setN0, s_setNS, s_sAsg, s_sApp, s_sAug, s_sFor, s_sSrc, s_gmN, s_gmT, s_gmCons, s_gmNil, s_wipe0, s_wipeS, s_oSub, s_oAddI, s_oAdd, s_oLt, s_oLe, s_oGt, s_oGe, s_oNeg, s_oNot, s_oMul, s_oMulW, s_oMod, s_oFdiv, s_oPow, s_oIsN, s_oNotN, s_oIsB, s_oNotB, s_isNon_int, s_isNon_non, s_isNon_bl, s_isNon_str, s_isNon_tup, s_isNon_lst, s_isNon_dic, s_oEqI, s_oNeI, s_oIxT, s_oIxL, s_oSlT, s_oSlL, s_oRevT, s_oRevL, s_oInt, s_oIntB, s_oAbs, s_oMax2, s_oMin2, s_oLen, s_plenT, s_plenL, s_plenD, s_plenS, s_oTupleL, s_oTupleT, s_oListL, s_oListT, List.set_cons_succ, List.set_cons_zero, List.append_nil, true_and, x_bl, x_int, x_some, x_addT, x_addL, x_true, x_false]
      rw [List.length_map, List.length_map]
      by_cases hc : t < ((seen.length : Int) + (fresh.length : Int))
      · rw [decide_eq_true hc, if_pos rfl]
        refine ⟨_, rfl, by rw [List.length_map]; exact small_line (by omega), Nat.zero_le _, ?_⟩
        refine comp_map (f := .int) (fun y hy => ⟨_, fun k hk => s_gmN.mpr hk, fun Q hQ => hQ, fun Q hQ => ?_⟩) (line (by omega)) ?_
        · show mVar 7 [some (crs lots), some (.int t), some (.lst (found.map PV.int ++ [.int ((x : Int) - 1)])), some (lI seen), some (.int x), some (tI l), some (lI fresh), some (.int y)] Q
          try simp only [s_mVar0, s_mVarS, s_mVarO0, s_mVarOS, s_isObj_lst, s_isObj_dic, s_mC, s_mOp, s_mOp1, s_mB, s_mNil, s_mCons, s_mTup, s_mLst, s_mCall, s_mTB, s_mNot, s_mAnd, s_mOr, s_mAndV, s_mOrV, s_mIf, s_mYes, s_mSl, s_mNo, s_mPart, s_mLc, s_mItems, s_mRng1, s_mRng2, s_mEnum, s_mChain, s_seqT, s_seqL, s_sNext, s_sSeq, s_sIf, s_sSet, s_sRet, s_sRetN, s_sBreak, s_sCont, s_sDrop, s_sPar, s_setN0, s_setNS, s_sAsg, s_sApp, s_sAug, s_sFor, s_sSrc, s_gmN, s_gmT, s_gmCons, s_gmNil, s_wipe0, s_wipeS, s_oSub, s_oAddI, s_oAdd, s_oLt, s_oLe, s_oGt, s_oGe, s_oNeg, s_oNot, s_oMul, s_oMulW, s_oMod, s_oFdiv, s_oPow, s_oIsN, s_oNotN, s_oIsB, s_oNotB, s_isNon_int, s_isNon_non, s_isNon_bl, s_isNon_str, s_isNon_tup, s_isNon_lst, s_isNon_dic, s_oEqI, s_oNeI, s_oIxT, s_oIxL, s_oSlT, s_oSlL, s_oRevT, s_oRevL, s_oInt, s_oIntB, s_oAbs, s_oMax2, s_oMin2, s_oLen, s_plenT, s_plenL, s_plenD, s_plenS, s_oTupleL, s_oTupleT, s_oListL, s_oListT, List.set_cons_succ, List.set_cons_zero, List.append_nil, true_and, x_bl, x_int, x_some, x_addT, x_addL, x_true, x_false]
          exact hQ
        try simp only [s_mVar0, s_mVarS, s_mVarO0, s_mVarOS, s_isObj_lst, s_isObj_dic, s_mC, s_mOp, s_mOp1, s_mB, s_mNil, s_mCons, s_mTup, s_mLst, s_mCall, s_mTB, s_mNot, s_mAnd, s_mOr, s_mAndV, s_mOrV, s_mIf, s_mYes, s_mSl, s_mNo, s_mPart, s_mLc, s_mItems, s_mRng1, s_mRng2, s_mEnum, s_mChain, s_seqT, s_seqL, s_sNext, s_sSeq, s_sIf, s_sSet, s_sRet, s_sRetN, s_sBreak, s_sCont, s_sDrop, s_sPar, s_setN0, s_setNS, s_sAsg, s_sApp, s_sAug, s_sFor, s_sSrc, s_gmN, s_gmT, s_gmCons, s_gmNil, s_wipe0, s_wipeS, s_oSub, s_oAddI, s_oAdd, s_oLt, s_oLe, s_oGt, s_oGe, s_oNeg, s_oNot, s_oMul, s_oMulW, s_oMod, s_oFdiv, s_oPow, s_oIsN, s_oNotN, s_oIsB, s_oNotB, s_isNon_int, s_isNon_non, s_isNon_bl, s_isNon_str, s_isNon_tup, s_isNon_lst, s_isNon_dic, s_oEqI, s_oNeI, s_oIxT, s_oIxL, s_oSlT, s_oSlL, s_oRevT, s_oRevL, s_oInt, s_oIntB, s_oAbs, s_oMax2, s_oMin2, s_oLen, s_plenT, s_plenL, s_plenD, s_plenS, s_oTupleL, s_oTupleT, s_oListL, s_oListT, List.set_cons_succ, List.set_cons_zero, List.append_nil, true_and, x_bl, x_int, x_some, x_addT, x_addL, x_true, x_false]
        refine ⟨by rw [List.length_nil, Nat.zero_add, List.length_map]; exact line (by omega), hN _ ⟨found ++ [(x : Int) - 1], l, some (.int x), some (tI l), some (lI l), y7, by rw [List.length_append, List.length_singleton]; omega, hlg.1, hlg.2, f1 (by omega), ?_⟩⟩
        rw [List.nil_append, show found.map PV.int ++ [PV.int ((x : Int) - 1)] = (found ++ [(x : Int) - 1]).map PV.int from by rw [List.map_append]; rfl]
      · rw [decide_eq_false hc, if_neg Bool.false_ne_true]
        refine ⟨line (by omega), hN _ ⟨found, seen ++ fresh, some (.int x), some (tI l), some (lI fresh), y7, by omega, ?_, fun y hy => ?_, f2 (by omega), ?_⟩⟩
        · rw [ecat]; exact nodup_puts hn
        · rw [ecat] at hy
          exact (mem_puts.mp hy).elim (hr y) (hlg.2 y)
        · rw [← List.map_append]
  · obtain ⟨found, seen, y4, y5, y6, y7, hfl, hn, hr, hf, rfl⟩ := hE
    rw [List.length_range] at hf
    try simp only [s_mVar0, s_mVarS, s_mVarO0, s_mVarOS, s_isObj_lst, s_isObj_dic, s_mC, s_mOp, s_mOp1, s_mB, s_mNil, s_mCons, s_mTup, s_mLst, s_mCall, s_mTB, s_mNot, s_mAnd, s_mOr, s_mAndV, s_mOrV, s_mIf, s_mYes, s_mSl, s_mNo, s_mPart, s_mLc, s_mItems, s_mRng1, s_mRng2, s_mEnum, s_mChain, s_seqT, s_seqL, s_sNext, s_sSeq, s_sIf, s_sSet, s_sRet, s_sRetN, s_sBreak, s_sCont, s_sDrop, s_sPar, s_setN0, s_setNS, s_sAsg, s_sApp, s_sAug, s_sFor, s_sSrc, s_gmN, s_gmT, s_gmCons, s_gmNil, s_wipe0, s_wipeS, s_oSub, s_oAddI, s_oAdd, s_oLt, s_oLe, s_oGt, s_oGe, s_oNeg, s_oNot, s_oMul, s_oMulW, s_oMod, s_oFdiv, s_oPow, s_oIsN, s_oNotN, s_oIsB, s_oNotB, s_isNon_int, s_isNon_non, s_isNon_bl, s_isNon_str, s_isNon_tup, s_isNon_lst, s_isNon_dic, s_oEqI, s_oNeI, s_oIxT, s_oIxL, s_oSlT, s_oSlL, s_oRevT, s_oRevL, s_oInt, s_oIntB, s_oAbs, s_oMax2, s_oMin2, s_oLen, s_plenT, s_plenL, s_plenD, s_plenS, s_oTupleL, s_oTupleT, s_oListL, s_oListT, List.set_cons_succ, List.set_cons_zero, List.append_nil, true_and, x_bl, x_int, x_some, x_addT, x_addL, x_true, x_false]
    rw [few_end (Nat.le_refl _) hf] at h
    exact h
theorem inP_non {ps : List PV} : inP .non ps = ps.any isNon := by
  unfold inP
  congr 1
  funext y
  cases y <;> rfl
theorem firstsP_flat {fs : List Nat} : (firstsP fs).all flatP = true := by
  rw [List.all_eq_true]
  intro y hy
  obtain ⟨p, _, rfl⟩ := List.mem_map.mp hy
  unfold fE
  split <;> rfl
theorem h_fewest_schedule (ps : List PV) (Q : PV → Prop) (h : sp_fewest ps Q) : t_fewest_schedule sp_earliest { nx := fun _ => nxOf .cl Q, rt := Q } (startE n_fewest_schedule.length ps) := by
  obtain ⟨lots, t, rfl, hg, h⟩ := h
  have hs := hg.small
  show t_fewest_schedule _ _ [some (crs lots), some (.int t), none, none, none, none]
  unfold t_fewest_schedule
  try simp only [s_mVar0, s_mVarS, s_mVarO0, s_mVarOS, s_isObj_lst, s_isObj_dic, s_mC, s_mOp, s_mOp1, s_mB, s_mNil, s_mCons, s_mTup, s_mLst, s_mCall, s_mTB, s_mNot, s_mAnd, s_mOr, s_mAndV, s_mOrV, s_mIf, s_mYes, s_mSl, s_mNo, s_mPart, s_mLc, s_mItems, s_mRng1, s_mRng2, s_mEnum, s_mChain, s_seqT, s_seqL, s_sNext, s_sSeq, s_sIf, s_sSet, s_sRet, s_sRetN, s_sBreak, s_sCont, s_sDrop, s_sPar, s_setN0, s_setNS, s_sAsg, s_sApp, s_sAug, s_sFor, s_sSrc, s_gmN, s_gmT, s_gmCons, s_gmNil, s_wipe0, s_wipeS, s_oSub, s_oAddI, s_oAdd, s_oLt, s_oLe, s_oGt, s_oGe, s_oNeg, s_oNot, s_oMul, s_oMulW, s_oMod, s_oFdiv, s_oPow, s_oIsN, s_oNotN, s_oIsB, s_oNotB, s_isNon_int, s_isNon_non, s_isNon_bl, s_isNon_str, s_isNon_tup, s_isNon_lst, s_isNon_dic, s_oEqI, s_oNeI, s_oIxT, s_oIxL, s_oSlT, s_oSlL, s_oRevT, s_oRevL, s_oInt, s_oIntB, s_oAbs, s_oMax2, s_oMin2, s_oLen, s_plenT, s_plenL, s_plenD, s_plenS, s_oTupleL, s_oTupleT, s_oListL, s_oListT, List.set_cons_succ, List.set_cons_zero, List.append_nil, true_and, x_bl, x_int, x_some, x_addT, x_addL, x_true, x_false]
  refine ⟨lots, t, rfl, hg, fun fs hfs hF => ?_⟩
  refine ⟨Nat.zero_le _, ?_⟩
  try simp only [s_mVar0, s_mVarS, s_mVarO0, s_mVarOS, s_isObj_lst, s_isObj_dic, s_mC, s_mOp, s_mOp1, s_mB, s_mNil, s_mCons, s_mTup, s_mLst, s_mCall, s_mTB, s_mNot, s_mAnd, s_mOr, s_mAndV, s_mOrV, s_mIf, s_mYes, s_mSl, s_mNo, s_mPart, s_mLc, s_mItems, s_mRng1, s_mRng2, s_mEnum, s_mChain, s_seqT, s_seqL, s_sNext, s_sSeq, s_sIf, s_sSet, s_sRet, s_sRetN, s_sBreak, s_sCont, s_sDrop, s_sPar, s_setN0, s_setNS, s_sAsg, s_sApp, s_sAug, s_sFor, s_sSrc, s_gmN, s_gmT, s_gmCons, s_gmNil, s_wipe0, s_wipeS, s_oSub, s_oAddI, s_oAdd, s_oLt, s_oLe, s_oGt, s_oGe, s_oNeg, s_oNot, s_oMul, s_oMulW, s_oMod, s_oFdiv, s_oPow, s_oIsN, s_oNotN, s_oIsB, s_oNotB, s_isNon_int, s_isNon_non, s_isNon_bl, s_isNon_str, s_isNon_tup, s_isNon_lst, s_isNon_dic, s_oEqI, s_oNeI, s_oIxT, s_oIxL, s_oSlT, s_oSlL, s_oRevT, s_oRevL, s_oInt, s_oIntB, s_oAbs, s_oMax2, s_oMin2, s_oLen, s_plenT, s_plenL, s_plenD, s_plenS, s_oTupleL, s_oTupleT, s_oListL, s_oListT, List.set_cons_succ, List.set_cons_zero, List.append_nil, true_and, x_bl, x_int, x_some, x_addT, x_addL, x_true, x_false]
  refine ⟨firstsP fs, .inr rfl, rfl, firstsP_flat, _, rfl, ?_⟩
  rw [if_neg Bool.false_ne_true, inP_non]
  by_cases hn : (firstsP fs).any isNon = true
  · rw [if_pos hn]
    obtain ⟨y, hy, hy2⟩ := List.any_eq_true.mp hn
    obtain ⟨i, hi⟩ := List.mem_iff_getElem?.mp hy
    have hil : i < fs.length := by have := (List.getElem?_eq_some_iff.mp hi).1; rw [firstsP_len] at this; exact this
    have hif : fs[i]? = some fs[i] := List.getElem?_eq_getElem hil
    rw [firstsP_get hif] at hi
    have F := hF i _ hif
    have hgt : ¬ fs[i] ≤ i := fun z => by
      unfold fE at hi
      rw [if_pos z] at hi
      rw [← Option.some.inj hi] at hy2
      cases hy2
    have hli : lots[i]? = some (lots[i]'(by omega)) := List.getElem?_eq_getElem (by omega)
    have hl := F.low i (by omega)
    have hlg := hg.lot _ (List.mem_of_getElem? hli)
    have e : few lots t = none := few_none (List.mem_of_getElem? hli) (by
      unfold cnt at hl
      rw [keys_one hli hlg.1] at hl
      exact hl)
    rw [e] at h
    exact h
  · rw [if_neg hn]
    have hle : ∀ i f, fs[i]? = some f → f ≤ i := fun i f hf => by
      rcases Nat.lt_or_ge i f with z | z
      · exfalso
        refine hn (List.any_eq_true.mpr ⟨_, List.mem_of_getElem? (firstsP_get hf), ?_⟩)
        unfold fE
        rw [if_neg (by omega)]; rfl
      · exact z
    refine ⟨_, _, rfl, rfl, by rw [List.length_map]; omega, ?_⟩
    rw [List.length_map, rngP_map]
    have small : ∀ (i : Nat) (l : List Int), lots[i]? = some l → ¬ t < (l.length : Int) := fun i l hl => by
      have hil := (List.getElem?_eq_some_iff.mp hl).1
      have hif : fs[i]? = some (fs[i]'(by omega)) := List.getElem?_eq_getElem (by omega)
      have F := hF i _ hif
      have hle' := hle i _ hif
      have h1 := F.ok hle'
      have h2 := cnt_mono (lots := lots) (a := i) (b := i) hle' (Nat.le_refl _)
      have h3 : cnt lots i i = l.length := by
        unfold cnt
        rw [keys_one hl (hg.lot l (List.mem_of_getElem? hl)).1]
      omega
    have start : few lots t = (fewGo t (keys (seg lots 0 0)) ((0 + 1 : Nat) : Int) (lots.drop (0 + 1))).map ([] ++ ·) := by
      have idm : (fun x : List Int => [] ++ x) = id := rfl
      cases hL : lots with
      | nil => rfl
      | cons l0 r =>
        have hx : lots[0]? = some l0 := by rw [hL]; rfl
        have hlg := hg.lot l0 (List.mem_of_getElem? hx)
        have st := (few_step (seen := []) (found := []) hx (by rw [idm, Option.map_id]; rfl) (small 0 l0 hx)).2 (by
          have := small 0 l0 hx
          have h2 : (l0.filter fun x => !decide (x ∈ ([] : List Int))).length ≤ l0.length := List.length_filter_le _ _
          rw [List.length_nil]
          omega)
        rw [show ([] : List Int) ++ (l0.filter fun x => !decide (x ∈ ([] : List Int))) = puts [] l0 from (puts_filter hlg.1).symm, puts_nil hlg.1] at st
        rw [← hL, keys_one hx hlg.1]
        exact st
    refine for_inv (emb := fun i : Nat => PV.int (1 + (i : Int))) (fun j e => ∃ (s : Nat) (found : List Int) (y2 : Option PV), s ≤ j ∧ found.length ≤ j ∧ few lots t = (fewGo t (keys (seg lots s j)) ((j + 1 : Nat) : Int) (lots.drop (j + 1))).map (found ++ ·) ∧ e = [some (crs lots), some (.int t), y2, some (.tup (firstsP fs)), some (lI found), some (.int s)])
      ⟨0, [], none, Nat.le_refl _, Nat.le_refl _, start, rfl⟩ (fun j x e N hx hE hN => ?_) (fun e hE => ?_)
    · obtain ⟨s, found, y2, hsj, hfl, hf, rfl⟩ := hE
      have hj : j < ((lots.length : Int) - 1).toNat := by have := (List.getElem?_eq_some_iff.mp hx).1; rw [List.length_range] at this; exact this
      have ex : x = j := by rw [List.getElem?_range hj] at hx; exact (Option.some.inj hx).symm
      subst ex
      have hlt : x + 1 < lots.length := by omega
      have hli : lots[x + 1]? = some lots[x + 1] := List.getElem?_eq_getElem hlt
      generalize lots[x + 1] = l at hli
      have hlg := hg.lot l (List.mem_of_getElem? hli)
      have hif : fs[x + 1]? = some (fs[x + 1]'(by omega)) := List.getElem?_eq_getElem (by omega)
      generalize fs[x + 1]'(by omega) = f at hif
      have F := hF _ _ hif
      have hle' := hle _ _ hif
      obtain ⟨f1, f2⟩ := few_step hli hf (small _ _ hli)
      have ekeys : keys (seg lots s (x + 1)) = keys (seg lots s x) ++ l.filter fun y => !decide (y ∈ keys (seg lots s x)) := by
        rw [keys_succ hli (by omega), puts_filter hlg.1]
      have ecnt : (cnt lots s (x + 1) : Int) = (((keys (seg lots s x)).length + (l.filter fun y => !decide (y ∈ keys (seg lots s x))).length : Nat) : Int) := by
        unfold cnt
        rw [ekeys, List.length_append]
      rw [s_gmN]
      try simp only [s_mVar0, s_mVarS, s_mVarO0, s_mVarOS, s_isObj_lst, s_isObj_dic, s_mC, s_mOp, s_mOp1, s_mB, s_mNil, s_mCons, s_mTup, s_mLst, s_mCall, s_mTB, s_mNot, s_mAnd, s_mOr, s_mAndV, s_mOrV, s_mIf, s_mYes, s_mSl, s_mNo, s_mPart, s_mLc, s_mItems, s_mRng1, s_mRng2, s_mEnum, s_mChain, s_seqT, s_seqL, s_sNext, s_sSeq, s_sIf, s_sSet, s_sRet, s_sRetN, s_sBreak, s_sCont, s_sDrop, s_sPar, s_setN0, s_setNS, s_sAsg, s_sApp, s_sAug, s_sFor, s_sSrc, s_gmN, s_gmT, s_gmCons, s_gmNil, s_wipe0, s_wipeS, s_oSub, s_oAddI, s_oAdd, s_oLt, s_oLe, s_oGt, s_oGe, s_oNeg, s_oNot, s_oMul, s_oMulW, s_oMod, s_oFdiv, s_oPow, s_oIsN, s_oNotN, s_oIsB, s_oNotB, s_isNon_int, s_isNon_non, s_isNon_bl, s_isNon_str, s_isNon_tup, s_isNon_lst, s_isNon_dic, s_oEqI, s_oNeI, s_oIxT, s_oIxL, s_oSlT, s_oSlL, s_oRevT, s_oRevL, s_oInt, s_oIntB, s_oAbs, s_oMax2, s_oMin2, s_oLen, s_plenT, s_plenL, s_plenD, s_plenS, s_oTupleL, s_oTupleT, s_oListL, s_oListT, List.set_cons_succ, List.set_cons_zero, List.append_nil, true_and, x_bl, x_int, x_some, x_addT, x_addL, x_true, x_false]
      refine ⟨fE (x + 1) f, ?_, ?_⟩
      · rw [show (1 + (x : Int)) = ((x + 1 : Nat) : Int) by omega, atI_pos (by rw [firstsP_len]; omega), firstsP_get hif]
      unfold fE
      rw [if_pos hle']
      try simp only [s_mVar0, s_mVarS, s_mVarO0, s_mVarOS, s_isObj_lst, s_isObj_dic, s_mC, s_mOp, s_mOp1, s_mB, s_mNil, s_mCons, s_mTup, s_mLst, s_mCall, s_mTB, s_mNot, s_mAnd, s_mOr, s_mAndV, s_mOrV, s_mIf, s_mYes, s_mSl, s_mNo, s_mPart, s_mLc, s_mItems, s_mRng1, s_mRng2, s_mEnum, s_mChain, s_seqT, s_seqL, s_sNext, s_sSeq, s_sIf, s_sSet, s_sRet, s_sRetN, s_sBreak, s_sCont, s_sDrop, s_sPar, s_setN0, s_setNS, s_sAsg, s_sApp, s_sAug, s_sFor, s_sSrc, s_gmN, s_gmT, s_gmCons, s_gmNil, s_wipe0, s_wipeS, s_oSub, s_oAddI, s_oAdd, s_oLt, s_oLe, s_oGt, s_oGe, s_oNeg, s_oNot, s_oMul, s_oMulW, s_oMod, s_oFdiv, s_oPow, s_oIsN, s_oNotN, s_oIsB, s_oNotB, s_isNon_int, s_isNon_non, s_isNon_bl, s_isNon_str, s_isNon_tup, s_isNon_lst, s_isNon_dic, s_oEqI, s_oNeI, s_oIxT, s_oIxL, s_oSlT, s_oSlL, s_oRevT, s_oRevL, s_oInt, s_oIntB, s_oAbs, s_oMax2, s_oMin2, s_oLen, s_plenT, s_plenL, s_plenD, s_plenS, s_oTupleL, s_oTupleT, s_oListL, s_oListT, List.set_cons_succ, List.set_cons_zero, List.append_nil, true_and, x_bl, x_int, x_some, x_addT, x_addL, x_true, x_false]
      by_cases hc : s < f
      · rw [decide_eq_true (by omega : (s : Int) < f), if_pos rfl]
        refine ⟨_, rfl, by rw [List.length_map]; exact small_line (by omega), ?_⟩
        have low := F.low s hc
        have f1' := f1 (by rw [← ecnt]; exact low)
        refine hN _ ⟨x + 1, found ++ [(x : Int)], some (.int (1 + (x : Int))), Nat.le_refl _, by rw [List.length_append, List.length_singleton]; omega, ?_, ?_⟩
        · rw [keys_one hli hlg.1]
          rw [show (((x + 1 : Nat) : Int) - 1) = (x : Int) by omega] at f1'
          exact f1'
        · rw [show (1 + (x : Int)) = ((x + 1 : Nat) : Int) by omega, show (((x + 1 : Nat) : Int) - 1) = (x : Int) by omega, show lI (found ++ [(x : Int)]) = .lst (found.map PV.int ++ [PV.int (x : Int)]) from by unfold lI; rw [List.map_append]; rfl]
      · rw [decide_eq_false (by omega : ¬ (s : Int) < f), if_neg Bool.false_ne_true]
        have h1 := F.ok hle'
        have h2 := cnt_mono (lots := lots) (a := s) (a' := f) (b := x + 1) (b' := x + 1) (by omega) (Nat.le_refl _)
        have f2' := f2 (by rw [← ecnt]; omega)
        rw [← ekeys] at f2'
        exact hN _ ⟨s, found, some (.int (1 + (x : Int))), by omega, by omega, f2', rfl⟩
    · obtain ⟨s, found, y2, hsj, hfl, hf, rfl⟩ := hE
      rw [List.length_range] at hf
      try simp only [s_mVar0, s_mVarS, s_mVarO0, s_mVarOS, s_isObj_lst, s_isObj_dic, s_mC, s_mOp, s_mOp1, s_mB, s_mNil, s_mCons, s_mTup, s_mLst, s_mCall, s_mTB, s_mNot, s_mAnd, s_mOr, s_mAndV, s_mOrV, s_mIf, s_mYes, s_mSl, s_mNo, s_mPart, s_mLc, s_mItems, s_mRng1, s_mRng2, s_mEnum, s_mChain, s_seqT, s_seqL, s_sNext, s_sSeq, s_sIf, s_sSet, s_sRet, s_sRetN, s_sBreak, s_sCont, s_sDrop, s_sPar, s_setN0, s_setNS, s_sAsg, s_sApp, s_sAug, s_sFor, s_sSrc, s_gmN, s_gmT, s_gmCons, s_gmNil, s_wipe0, s_wipeS, s_oSub, s_oAddI, s_oAdd, s_oLt, s_oLe, s_oGt, s_oGe, s_oNeg, s_oNot, s_oMul, s_oMulW, s_oMod, s_oFdiv, s_oPow, s_oIsN, s_oNotN, s_oIsB, s_oNotB, s_isNon_int, s_isNon_non, s_isNon_bl, s_isNon_str, s_isNon_tup, s_isNon_lst, s_isNon_dic, s_oEqI, s_oNeI, s_oIxT, s_oIxL, s_oSlT, s_oSlL, s_oRevT, s_oRevL, s_oInt, s_oIntB, s_oAbs, s_oMax2, s_oMin2, s_oLen, s_plenT, s_plenL, s_plenD, s_plenS, s_oTupleL, s_oTupleT, s_oListL, s_oListT, List.set_cons_succ, List.set_cons_zero, List.append_nil, true_and, x_bl, x_int, x_some, x_addT, x_addL, x_true, x_false]
      rw [few_end (by omega) hf] at h
      exact h
end K44

set_option maxHeartbeats 1000000
namespace K44
open PySem L2 PM
def gr (lots : List (List Int)) : Nat := (lots.map List.length).foldr max 0
theorem le_gr : ∀ {lots : List (List Int)} {l : List Int}, l ∈ lots → l.length ≤ gr lots
  | m :: lots, l, h => by
    show l.length ≤ max m.length (gr lots)
    rcases List.mem_cons.mp h with z | z
    · rw [z]; exact Nat.le_max_left _ _
    · exact Nat.le_trans (le_gr z) (Nat.le_max_right _ _)
theorem gr_mem : ∀ {lots : List (List Int)}, lots ≠ [] → ∃ l ∈ lots, gr lots = l.length
  | [], h => absurd rfl h
  | [m], _ => ⟨m, List.mem_cons_self .., by show max m.length 0 = _; exact Nat.max_eq_left (Nat.zero_le _)⟩
  | m :: n :: lots, _ => by
    obtain ⟨l, hl, e⟩ := gr_mem (lots := n :: lots) (by simp)
    show ∃ l' ∈ m :: n :: lots, max m.length (gr (n :: lots)) = l'.length
    rcases Nat.le_total m.length (gr (n :: lots)) with z | z
    · exact ⟨l, List.mem_cons_of_mem _ hl, by rw [Nat.max_eq_right z]; exact e⟩
    · exact ⟨m, List.mem_cons_self .., Nat.max_eq_left z⟩
/-- the greatest of the lots, asked for by max -/
theorem oMax_lens {lots : List (List Int)} {P : PV → Prop} (h0 : lots ≠ []) (h : P (.int (gr lots : Int))) : oMaxL [.lst (lots.map fun l => .int (l.length : Int))] P := by
  refine ⟨lots.map fun l => (l.length : Int), by rw [List.map_map]; rfl, by rw [List.length_map]; exact List.length_pos_iff.mpr h0, fun m hm hmx => ?_⟩
  obtain ⟨l, hl, rfl⟩ := List.mem_map.mp hm
  obtain ⟨l', hl', e⟩ := gr_mem h0
  have h1 := le_gr hl
  have h2 := hmx _ (List.mem_map.mpr ⟨l', hl', rfl⟩)
  have : (l.length : Int) = gr lots := by omega
  rw [this]; exact h
def most (lots : List (List Int)) : Nat := (keys lots).length
theorem gr_most {lots : List (List Int)} (hg : Good lots) (h0 : lots ≠ []) : gr lots ≤ most lots := by
  obtain ⟨l, hl, e⟩ := gr_mem h0
  rw [e]
  exact len_le (hg.lot l hl).1 fun x hx => mem_keys.mpr ⟨l, hl, hx⟩
theorem most_small {lots : List (List Int)} (hg : Good lots) : most lots ≤ 24 :=
  len_bound (nodup_keys _) fun x hx => by
    obtain ⟨l, hl, h⟩ := mem_keys.mp hx
    exact (hg.lot l hl).2 x h
def fewLen (lots : List (List Int)) (t : Int) : Nat := match few lots t with
  | some s => s.length
  | none => 0
theorem few_some {t : Int} : ∀ {lots : List (List Int)} {seen : List Int} {i : Int}, (∀ l ∈ lots, ¬ t < (l.length : Int)) → ∃ s, fewGo t seen i lots = some s
  | [], _, _, _ => ⟨[], rfl⟩
  | l :: lots, seen, i, h => by
    unfold fewGo
    rw [if_neg (h l (List.mem_cons_self ..))]
    have h' : ∀ m ∈ lots, ¬ t < (m.length : Int) := fun m hm => h m (List.mem_cons_of_mem _ hm)
    split
    · obtain ⟨s, e⟩ := few_some (seen := l) (i := i + 1) h'
      exact ⟨_, by rw [e]; rfl⟩
    · exact few_some h'
theorem fold_ge {lots : List (List Int)} {acc : List Int} (h : acc.Nodup) : acc.length ≤ (lots.foldl puts acc).length := len_le h fun x hx => mem_fold.mpr (.inl hx)
theorem few_zero {t : Int} : ∀ {lots : List (List Int)} {seen : List Int} {i : Int} {s : List Int}, (∀ l ∈ lots, l.Nodup) → seen.Nodup → ¬ t < (seen.length : Int) → fewGo t seen i lots = some s → (s = [] ↔ ((lots.foldl puts seen).length : Int) ≤ t)
  | [], seen, i, s, _, _, hs, e => by
    have e' : s = [] := (Option.some.inj e).symm
    rw [e']
    show [] = [] ↔ (seen.length : Int) ≤ t
    constructor
    · intro _; omega
    · intro _; rfl
  | l :: lots, seen, i, s, hn, hsn, hs, e => by
    unfold fewGo at e
    by_cases h1 : t < (l.length : Int)
    · rw [if_pos h1] at e; cases e
    rw [if_neg h1] at e
    have hl := hn l (List.mem_cons_self ..)
    have hn' : ∀ m ∈ lots, m.Nodup := fun m hm => hn m (List.mem_cons_of_mem _ hm)
    have ep : seen ++ (l.filter fun x => !decide (x ∈ seen)) = puts seen l := (puts_filter hl).symm
    have el : (puts seen l).length = seen.length + (l.filter fun x => !decide (x ∈ seen)).length := by rw [← ep, List.length_append]
    show s = [] ↔ ((lots.foldl puts (puts seen l)).length : Int) ≤ t
    by_cases h2 : t < ((seen.length + (l.filter fun x => !decide (x ∈ seen)).length : Nat) : Int)
    · rw [if_pos h2] at e
      have := fold_ge (lots := lots) (nodup_puts (lot := l) hsn)
      constructor
      · intro z
        rw [z] at e
        cases q : fewGo t l (i + 1) lots with
        | none => rw [q] at e; cases e
        | some r => rw [q] at e; cases e
      · intro z
        omega
    · rw [if_neg h2, ep] at e
      exact few_zero hn' (nodup_puts hsn) (by omega) e
theorem fewLen_zero {lots : List (List Int)} {t : Int} (hg : Good lots) (ht : (gr lots : Int) ≤ t) : fewLen lots t = 0 ↔ (most lots : Int) ≤ t := by
  have hsm : ∀ l ∈ lots, ¬ t < (l.length : Int) := fun l hl => by have := le_gr hl; omega
  obtain ⟨s, e⟩ := few_some (seen := []) (i := 0) hsm
  have hz := few_zero (fun l hl => (hg.lot l hl).1) List.nodup_nil (by rw [List.length_nil]; omega) e
  unfold fewLen
  rw [show few lots t = some s from e]
  show s.length = 0 ↔ _
  rw [List.length_eq_zero_iff, hz]
  exact Iff.rfl
theorem fewP_some {lots : List (List Int)} {t : Int} (ht : (gr lots : Int) ≤ t) : ∃ s, fewP (few lots t) = tI s ∧ s.length = fewLen lots t := by
  have hsm : ∀ l ∈ lots, ¬ t < (l.length : Int) := fun l hl => by have := le_gr hl; omega
  obtain ⟨s, e⟩ := few_some (seen := []) (i := 0) hsm
  unfold fewLen
  rw [show few lots t = some s from e]
  exact ⟨s, rfl, rfl⟩
/-- one stair -/
def stB (acc : List (Int × Int)) (m : Int) : Bool := match acc.getLast? with
  | none => true
  | some p => decide (m < p.2)
def stS (lots : List (List Int)) (acc : List (Int × Int)) (i : Nat) : List (Int × Int) :=
  if stB acc (fewLen lots ((gr lots : Int) + i)) = true then acc ++ [((gr lots : Int) + i, (fewLen lots ((gr lots : Int) + i) : Int))] else acc
def stL (lots : List (List Int)) : List (Int × Int) := (List.range (most lots + 1 - gr lots)).foldl (stS lots) []
def sp_stairs : PM.Spec := fun ps P => ∃ lots : List (List Int), ps = [crs lots] ∧ Good lots ∧ lots ≠ [] ∧ P (.tup ((stL lots).map eE))
/-- found == [] or many < found[-1][1], as a test at any place -/
theorem st_test {acc : List (Int × Int)} {m : Int} {env : PM.Env} {i j : Nat} {Q : Bool → Prop} (hi : ∀ P : PV → Prop, P (.lst (acc.map eE)) → mVarO i env P) (hj : ∀ P : PV → Prop, P (.int m) → mVar j env P) (h : Q (stB acc m)) :
    mOr (mTB (mOp oEq (mVarO i) (mLst mNil))) (mTB (mOp oLt (mVar j) (mOp oIx (mOp oIx (mVarO i) (mOp1 oNeg (mC (.int 1)))) (mC (.int 1))))) env Q := by
  try simp only [s_mVar0, s_mVarS, s_mVarO0, s_mVarOS, s_isObj_lst, s_isObj_dic, s_mC, s_mOp, s_mOp1, s_mB, s_mNil, s_mCons, s_mTup, s_mLst, s_mCall, s_mTB, s_mNot, s_mAnd, s_mOr, s_mAndV, s_mOrV, s_mIf, s_mYes, s_mSl, s_mNo, s_mPart, s_mLc, s_mItems, s_mRng1, s_mRng2, s_mEnum, s_mChain, s_seqT, s_seqL, s_sNext, s_sSeq, s_sIf, s_sSet, s_sRet, s_sRetN, s_sBreak, s_sCont, s_sDrop, s_sPar, s_setN0, s_setNS, s_sAsg, s_sApp, s_sAug, s_sFor, s_sSrc, s_gmN, s_gmT, s_gmCons, s_gmNil, s_wipe0, s_wipeS, s_oSub, s_oAddI, s_oAdd, s_oLt, s_oLe, s_oGt, s_oGe, s_oNeg, s_oNot, s_oMul, s_oMulW, s_oMod, s_oFdiv, s_oPow, s_oIsN, s_oNotN, s_oIsB, s_oNotB, s_isNon_int, s_isNon_non, s_isNon_bl, s_isNon_str, s_isNon_tup, s_isNon_lst, s_isNon_dic, s_oEqI, s_oNeI, s_oIxT, s_oIxL, s_oSlT, s_oSlL, s_oRevT, s_oRevL, s_oInt, s_oIntB, s_oAbs, s_oMax2, s_oMin2, s_oLen, s_plenT, s_plenL, s_plenD, s_plenS, s_oTupleL, s_oTupleT, s_oListL, s_oListT, List.set_cons_succ, List.set_cons_zero, List.append_nil, true_and, x_bl, x_int, x_some, x_addT, x_addL, x_true, x_false]
  refine hi _ ⟨Nat.zero_le _, oEq_nil (f := fun p : Int × Int => .tuple [.int p.1, .int p.2]) (n := 1) (fun _ => rfl) (fun _ => ⟨rfl, Nat.le_refl _⟩) (by decide) ⟨_, rfl, ?_⟩⟩
  by_cases he : acc = []
  · subst he; exact h
  · obtain ⟨r, p, rfl⟩ : ∃ r p, acc = r ++ [p] := ⟨acc.dropLast, acc.getLast he, (List.dropLast_concat_getLast he).symm⟩
    have hb : (r ++ [p]).isEmpty = false := by cases r <;> rfl
    rw [hb, if_neg Bool.false_ne_true]
    refine hj _ (hi _ (s_oIxL.mpr ⟨eE p, ?_, s_oIxT.mpr ⟨.int p.2, rfl, s_oLt.mpr ⟨_, rfl, ?_⟩⟩⟩))
    · rw [atI_map, atI_last1 (by simp)]; simp
    · unfold stB at h
      rw [List.getLast?_append] at h
      exact h
theorem keys_all {lots : List (List Int)} (h : lots ≠ []) : keys (seg lots 0 (lots.length - 1)) = keys lots := by
  have := List.length_pos_iff.mpr h
  unfold seg
  rw [List.drop_zero, show lots.length - 1 + 1 = lots.length by omega, List.take_length]
theorem stS_len {lots : List (List Int)} {acc : List (Int × Int)} {i : Nat} : (stS lots acc i).length ≤ acc.length + 1 := by
  unfold stS
  split
  · rw [List.length_append, List.length_singleton]; exact Nat.le_refl _
  · omega
theorem stL_len {lots : List (List Int)} {n : Nat} : ((List.range n).foldl (stS lots) []).length ≤ n := by
  induction n with
  | zero => exact Nat.le_refl _
  | succ n ih =>
    rw [List.range_succ, List.foldl_append]
    exact Nat.le_trans stS_len (Nat.succ_le_succ ih)
theorem h_stairs (ps : List PV) (Q : PV → Prop) (h : sp_stairs ps Q) : t_stairs sp_union_of sp_fewest { nx := fun _ => nxOf .cl Q, rt := Q } (startE n_stairs.length ps) := by
  obtain ⟨lots, rfl, hg, h0, h⟩ := h
  have hs := hg.small
  have hpos := List.length_pos_iff.mpr h0
  have hm := most_small hg
  have hgm := gr_most hg h0
  show t_stairs _ _ _ [some (crs lots), none, none, none, none, none]
  unfold t_stairs
  try simp only [s_mVar0, s_mVarS, s_mVarO0, s_mVarOS, s_isObj_lst, s_isObj_dic, s_mC, s_mOp, s_mOp1, s_mB, s_mNil, s_mCons, s_mTup, s_mLst, s_mCall, s_mTB, s_mNot, s_mAnd, s_mOr, s_mAndV, s_mOrV, s_mIf, s_mYes, s_mSl, s_mNo, s_mPart, s_mLc, s_mItems, s_mRng1, s_mRng2, s_mEnum, s_mChain, s_seqT, s_seqL, s_sNext, s_sSeq, s_sIf, s_sSet, s_sRet, s_sRetN, s_sBreak, s_sCont, s_sDrop, s_sPar, s_setN0, s_setNS, s_sAsg, s_sApp, s_sAug, s_sFor, s_sSrc, s_gmN, s_gmT, s_gmCons, s_gmNil, s_wipe0, s_wipeS, s_oSub, s_oAddI, s_oAdd, s_oLt, s_oLe, s_oGt, s_oGe, s_oNeg, s_oNot, s_oMul, s_oMulW, s_oMod, s_oFdiv, s_oPow, s_oIsN, s_oNotN, s_oIsB, s_oNotB, s_isNon_int, s_isNon_non, s_isNon_bl, s_isNon_str, s_isNon_tup, s_isNon_lst, s_isNon_dic, s_oEqI, s_oNeI, s_oIxT, s_oIxL, s_oSlT, s_oSlL, s_oRevT, s_oRevL, s_oInt, s_oIntB, s_oAbs, s_oMax2, s_oMin2, s_oLen, s_plenT, s_plenL, s_plenD, s_plenS, s_oTupleL, s_oTupleT, s_oListL, s_oListT, List.set_cons_succ, List.set_cons_zero, List.append_nil, true_and, x_bl, x_int, x_some, x_addT, x_addL, x_true, x_false]
  refine ⟨Nat.zero_le _, lots, 0, lots.length - 1, by rw [List.length_map, show ((lots.length - 1 : Nat) : Int) = (lots.length : Int) - 1 by omega]; rfl, hg, ?_⟩
  try simp only [s_mVar0, s_mVarS, s_mVarO0, s_mVarOS, s_isObj_lst, s_isObj_dic, s_mC, s_mOp, s_mOp1, s_mB, s_mNil, s_mCons, s_mTup, s_mLst, s_mCall, s_mTB, s_mNot, s_mAnd, s_mOr, s_mAndV, s_mOrV, s_mIf, s_mYes, s_mSl, s_mNo, s_mPart, s_mLc, s_mItems, s_mRng1, s_mRng2, s_mEnum, s_mChain, s_seqT, s_seqL, s_sNext, s_sSeq, s_sIf, s_sSet, s_sRet, s_sRetN, s_sBreak, s_sCont, s_sDrop, s_sPar, s_setN0, s_setNS, s_sAsg, s_sApp, s_sAug, s_sFor, s_sSrc, s_gmN, s_gmT, s_gmCons, s_gmNil, s_wipe0, s_wipeS, s_oSub, s_oAddI, s_oAdd, s_oLt, s_oLe, s_oGt, s_oGe, s_oNeg, s_oNot, s_oMul, s_oMulW, s_oMod, s_oFdiv, s_oPow, s_oIsN, s_oNotN, s_oIsB, s_oNotB, s_isNon_int, s_isNon_non, s_isNon_bl, s_isNon_str, s_isNon_tup, s_isNon_lst, s_isNon_dic, s_oEqI, s_oNeI, s_oIxT, s_oIxL, s_oSlT, s_oSlL, s_oRevT, s_oRevL, s_oInt, s_oIntB, s_oAbs, s_oMax2, s_oMin2, s_oLen, s_plenT, s_plenL, s_plenD, s_plenS, s_oTupleL, s_oTupleT, s_oListL, s_oListT, List.set_cons_succ, List.set_cons_zero, List.append_nil, true_and, x_bl, x_int, x_some, x_addT, x_addL, x_true, x_false]
  rw [List.length_map, isort_len, keys_all h0]
  refine comp_map (f := fun l => .int (l.length : Int)) (fun l hl => ⟨_, fun k hk => s_gmN.mpr hk, fun Q hQ => hQ, fun Q hQ => ?_⟩) (line (by omega)) (oMax_lens h0 ?_)
  · show mB oLen _ [some (crs lots), none, some (.lst []), some (.int ((keys lots).length : Int)), none, some (tI l)] Q
    try simp only [s_mVar0, s_mVarS, s_mVarO0, s_mVarOS, s_isObj_lst, s_isObj_dic, s_mC, s_mOp, s_mOp1, s_mB, s_mNil, s_mCons, s_mTup, s_mLst, s_mCall, s_mTB, s_mNot, s_mAnd, s_mOr, s_mAndV, s_mOrV, s_mIf, s_mYes, s_mSl, s_mNo, s_mPart, s_mLc, s_mItems, s_mRng1, s_mRng2, s_mEnum, s_mChain, s_seqT, s_seqL, s_sNext, s_sSeq, s_sIf, s_sSet, s_sRet, s_sRetN, s_sBreak, s_sCont, s_sDrop, s_sPar, s_setN0, s_setNS, s_sAsg, s_sApp, s_sAug, s_sFor, s_sSrc, s_gmN, s_gmT, s_gmCons, s_gmNil, s_wipe0, s_wipeS, s_oSub, s_oAddI, s_oAdd, s_oLt, s_oLe, s_oGt, s_oGe, s_oNeg, s_oNot, s_oMul, s_oMulW, s_oMod, s_oFdiv, s_oPow, s_oIsN, s_oNotN, s_oIsB, s_oNotB, s_isNon_int, s_isNon_non, s_isNon_bl, s_isNon_str, s_isNon_tup, s_isNon_lst, s_isNon_dic, s_oEqI, s_oNeI, s_oIxT, s_oIxL, s_oSlT, s_oSlL, s_oRevT, s_oRevL, s_oInt, s_oIntB, s_oAbs, s_oMax2, s_oMin2, s_oLen, s_plenT, s_plenL, s_plenD, s_plenS, s_oTupleL, s_oTupleT, s_oListL, s_oListT, List.set_cons_succ, List.set_cons_zero, List.append_nil, true_and, x_bl, x_int, x_some, x_addT, x_addL, x_true, x_false]
    rw [List.length_map]
    exact hQ
  have emost : (keys lots).length = most lots := rfl
  rw [emost]
  refine ⟨_, _, rfl, rfl, by omega, ?_⟩
  rw [rngP_map, show ((most lots : Int) + 1 - (gr lots : Int)).toNat = most lots + 1 - gr lots by omega]
  refine for_inv (emb := fun i : Nat => PV.int ((gr lots : Int) + (i : Int))) (fun i e => ∃ y1 y4 y5, e = [some (crs lots), y1, some (.lst (((List.range i).foldl (stS lots) []).map eE)), some (.int (most lots)), y4, y5]) ⟨none, none, none, rfl⟩ (fun i x e N hx hE hN => ?_) (fun e hE => ?_)
  · obtain ⟨y1, y4, y5, rfl⟩ := hE
    have hi : i < most lots + 1 - gr lots := by have := (List.getElem?_eq_some_iff.mp hx).1; rw [List.length_range] at this; exact this
    have ex : x = i := by rw [List.getElem?_range hi] at hx; exact (Option.some.inj hx).symm
    subst ex
    rw [s_gmN]
    try simp only [s_mVar0, s_mVarS, s_mVarO0, s_mVarOS, s_isObj_lst, s_isObj_dic, s_mC, s_mOp, s_mOp1, s_mB, s_mNil, s_mCons, s_mTup, s_mLst, s_mCall, s_mTB, s_mNot, s_mAnd, s_mOr, s_mAndV, s_mOrV, s_mIf, s_mYes, s_mSl, s_mNo, s_mPart, s_mLc, s_mItems, s_mRng1, s_mRng2, s_mEnum, s_mChain, s_seqT, s_seqL, s_sNext, s_sSeq, s_sIf, s_sSet, s_sRet, s_sRetN, s_sBreak, s_sCont, s_sDrop, s_sPar, s_setN0, s_setNS, s_sAsg, s_sApp, s_sAug, s_sFor, s_sSrc, s_gmN, s_gmT, s_gmCons, s_gmNil, s_wipe0, s_wipeS, s_oSub, s_oAddI, s_oAdd, s_oLt, s_oLe, s_oGt, s_oGe, s_oNeg, s_oNot, s_oMul, s_oMulW, s_oMod, s_oFdiv, s_oPow, s_oIsN, s_oNotN, s_oIsB, s_oNotB, s_isNon_int, s_isNon_non, s_isNon_bl, s_isNon_str, s_isNon_tup, s_isNon_lst, s_isNon_dic, s_oEqI, s_oNeI, s_oIxT, s_oIxL, s_oSlT, s_oSlL, s_oRevT, s_oRevL, s_oInt, s_oIntB, s_oAbs, s_oMax2, s_oMin2, s_oLen, s_plenT, s_plenL, s_plenD, s_plenS, s_oTupleL, s_oTupleT, s_oListL, s_oListT, List.set_cons_succ, List.set_cons_zero, List.append_nil, true_and, x_bl, x_int, x_some, x_addT, x_addL, x_true, x_false]
    refine ⟨lots, _, rfl, hg, ?_⟩
    obtain ⟨s, es, el⟩ := fewP_some (lots := lots) (t := (gr lots : Int) + x) (by omega)
    rw [es]
    try simp only [s_mVar0, s_mVarS, s_mVarO0, s_mVarOS, s_isObj_lst, s_isObj_dic, s_mC, s_mOp, s_mOp1, s_mB, s_mNil, s_mCons, s_mTup, s_mLst, s_mCall, s_mTB, s_mNot, s_mAnd, s_mOr, s_mAndV, s_mOrV, s_mIf, s_mYes, s_mSl, s_mNo, s_mPart, s_mLc, s_mItems, s_mRng1, s_mRng2, s_mEnum, s_mChain, s_seqT, s_seqL, s_sNext, s_sSeq, s_sIf, s_sSet, s_sRet, s_sRetN, s_sBreak, s_sCont, s_sDrop, s_sPar, s_setN0, s_setNS, s_sAsg, s_sApp, s_sAug, s_sFor, s_sSrc, s_gmN, s_gmT, s_gmCons, s_gmNil, s_wipe0, s_wipeS, s_oSub, s_oAddI, s_oAdd, s_oLt, s_oLe, s_oGt, s_oGe, s_oNeg, s_oNot, s_oMul, s_oMulW, s_oMod, s_oFdiv, s_oPow, s_oIsN, s_oNotN, s_oIsB, s_oNotB, s_isNon_int, s_isNon_non, s_isNon_bl, s_isNon_str, s_isNon_tup, s_isNon_lst, s_isNon_dic, s_oEqI, s_oNeI, s_oIxT, s_oIxL, s_oSlT, s_oSlL, s_oRevT, s_oRevL, s_oInt, s_oIntB, s_oAbs, s_oMax2, s_oMin2, s_oLen, s_plenT, s_plenL, s_plenD, s_plenS, s_oTupleL, s_oTupleT, s_oListL, s_oListT, List.set_cons_succ, List.set_cons_zero, List.append_nil, true_and, x_bl, x_int, x_some, x_addT, x_addL, x_true, x_false]
    rw [List.length_map, el]
    have estep : (List.range (x + 1)).foldl (stS lots) [] = stS lots ((List.range x).foldl (stS lots) []) x := by rw [List.range_succ, List.foldl_append]; rfl
    have hlen := stL_len (lots := lots) (n := x)
    generalize (List.range x).foldl (stS lots) [] = acc at estep hlen ⊢
    have T := st_test (acc := acc) (m := (fewLen lots ((gr lots : Int) + x) : Int)) (env := [some (crs lots), some (.int ((gr lots : Int) + x)), some (.lst (acc.map eE)), some (.int (most lots)), some (.int (fewLen lots ((gr lots : Int) + x) : Int)), y5]) (i := 2) (j := 4)
      (Q := fun b => if b = true then sApp 2 (mTup (mCons (mVar 1) (mCons (mVar 4) mNil))) { nx := N, rt := Q, bk := sRet (mB oTuple (mCons (mVarO 2) mNil)) { nx := fun x => nxOf .cl Q, rt := Q }, ct := N } [some (crs lots), some (.int ((gr lots : Int) + x)), some (.lst (acc.map eE)), some (.int (most lots)), some (.int (fewLen lots ((gr lots : Int) + x) : Int)), y5]
        else N [some (crs lots), some (.int ((gr lots : Int) + x)), some (.lst (acc.map eE)), some (.int (most lots)), some (.int (fewLen lots ((gr lots : Int) + x) : Int)), y5])
      (fun P hP => by try simp only [s_mVar0, s_mVarS, s_mVarO0, s_mVarOS, s_isObj_lst, s_isObj_dic, s_mC, s_mOp, s_mOp1, s_mB, s_mNil, s_mCons, s_mTup, s_mLst, s_mCall, s_mTB, s_mNot, s_mAnd, s_mOr, s_mAndV, s_mOrV, s_mIf, s_mYes, s_mSl, s_mNo, s_mPart, s_mLc, s_mItems, s_mRng1, s_mRng2, s_mEnum, s_mChain, s_seqT, s_seqL, s_sNext, s_sSeq, s_sIf, s_sSet, s_sRet, s_sRetN, s_sBreak, s_sCont, s_sDrop, s_sPar, s_setN0, s_setNS, s_sAsg, s_sApp, s_sAug, s_sFor, s_sSrc, s_gmN, s_gmT, s_gmCons, s_gmNil, s_wipe0, s_wipeS, s_oSub, s_oAddI, s_oAdd, s_oLt, s_oLe, s_oGt, s_oGe, s_oNeg, s_oNot, s_oMul, s_oMulW, s_oMod, s_oFdiv, s_oPow, s_oIsN, s_oNotN, s_oIsB, s_oNotB, s_isNon_int, s_isNon_non, s_isNon_bl, s_isNon_str, s_isNon_tup, s_isNon_lst, s_isNon_dic, s_oEqI, s_oNeI, s_oIxT, s_oIxL, s_oSlT, s_oSlL, s_oRevT, s_oRevL, s_oInt, s_oIntB, s_oAbs, s_oMax2, s_oMin2, s_oLen, s_plenT, s_plenL, s_plenD, s_plenS, s_oTupleL, s_oTupleT, s_oListL, s_oListT, List.set_cons_succ, List.set_cons_zero, List.append_nil, true_and, x_bl, x_int, x_some, x_addT, x_addL, x_true, x_false]; exact hP) (fun P hP => by try simp only [s_mVar0, s_mVarS, s_mVarO0, s_mVarOS, s_isObj_lst, s_isObj_dic, s_mC, s_mOp, s_mOp1, s_mB, s_mNil, s_mCons, s_mTup, s_mLst, s_mCall, s_mTB, s_mNot, s_mAnd, s_mOr, s_mAndV, s_mOrV, s_mIf, s_mYes, s_mSl, s_mNo, s_mPart, s_mLc, s_mItems, s_mRng1, s_mRng2, s_mEnum, s_mChain, s_seqT, s_seqL, s_sNext, s_sSeq, s_sIf, s_sSet, s_sRet, s_sRetN, s_sBreak, s_sCont, s_sDrop, s_sPar, s_setN0, s_setNS, s_sAsg, s_sApp, s_sAug, s_sFor, s_sSrc, s_gmN, s_gmT, s_gmCons, s_gmNil, s_wipe0, s_wipeS, s_oSub, s_oAddI, s_oAdd, s_oLt, s_oLe, s_oGt, s_oGe, s_oNeg, s_oNot, s_oMul, s_oMulW, s_oMod, s_oFdiv, s_oPow, s_oIsN, s_oNotN, s_oIsB, s_oNotB, s_isNon_int, s_isNon_non, s_isNon_bl, s_isNon_str, s_isNon_tup, s_isNon_lst, s_isNon_dic, s_oEqI, s_oNeI, s_oIxT, s_oIxL, s_oSlT, s_oSlL, s_oRevT, s_oRevL, s_oInt, s_oIntB, s_oAbs, s_oMax2, s_oMin2, s_oLen, s_plenT, s_plenL, s_plenD, s_plenS, s_oTupleL, s_oTupleT, s_oListL, s_oListT, List.set_cons_succ, List.set_cons_zero, List.append_nil, true_and, x_bl, x_int, x_some, x_addT, x_addL, x_true, x_false]; exact hP) ?_
    · simp only [s_mVar0, s_mVarS, s_mVarO0, s_mVarOS, s_isObj_lst, s_isObj_dic, s_mC, s_mOp, s_mOp1, s_mB, s_mNil, s_mCons, s_mTup, s_mLst, s_mCall, s_mTB, s_mNot, s_mAnd, s_mOr, s_mAndV, s_mOrV, s_mIf, s_mYes, s_mSl, s_mNo, s_mPart, s_mLc, s_mItems, s_mRng1, s_mRng2, s_mEnum, s_mChain, s_seqT, s_seqL, s_sNext, s_sSeq, s_sIf, s_sSet, s_sRet, s_sRetN, s_sBreak, s_sCont, s_sDrop, s_sPar, s_setN0, s_setNS, s_sAsg, s_sApp, s_sAug, s_sFor, s_sSrc, s_gmN, s_gmT, s_gmCons, s_gmNil, s_wipe0, s_wipeS, s_oSub, s_oAddI, s_oAdd, s_oLt, s_oLe, s_oGt, s_oGe, s_oNeg, s_oNot, s_oMul, s_oMulW, s_oMod, s_oFdiv, s_oPow, s_oIsN, s_oNotN, s_oIsB, s_oNotB, s_isNon_int, s_isNon_non, s_isNon_bl, s_isNon_str, s_isNon_tup, s_isNon_lst, s_isNon_dic, s_oEqI, s_oNeI, s_oIxT, s_oIxL, s_oSlT, s_oSlL, s_oRevT, s_oRevL, s_oInt, s_oIntB, s_oAbs, s_oMax2, s_oMin2, s_oLen, s_plenT, s_plenL, s_plenD, s_plenS, s_oTupleL, s_oTupleT, s_oListL, s_oListT, List.set_cons_succ, List.set_cons_zero, List.append_nil, true_and, x_bl, x_int, x_some, x_addT, x_addL, x_true, x_false] at T ⊢
      exact T
    · by_cases hb : stB acc (fewLen lots ((gr lots : Int) + x)) = true
      · rw [if_pos hb]
        try simp only [s_mVar0, s_mVarS, s_mVarO0, s_mVarOS, s_isObj_lst, s_isObj_dic, s_mC, s_mOp, s_mOp1, s_mB, s_mNil, s_mCons, s_mTup, s_mLst, s_mCall, s_mTB, s_mNot, s_mAnd, s_mOr, s_mAndV, s_mOrV, s_mIf, s_mYes, s_mSl, s_mNo, s_mPart, s_mLc, s_mItems, s_mRng1, s_mRng2, s_mEnum, s_mChain, s_seqT, s_seqL, s_sNext, s_sSeq, s_sIf, s_sSet, s_sRet, s_sRetN, s_sBreak, s_sCont, s_sDrop, s_sPar, s_setN0, s_setNS, s_sAsg, s_sApp, s_sAug, s_sFor, s_sSrc, s_gmN, s_gmT, s_gmCons, s_gmNil, s_wipe0, s_wipeS, s_oSub, s_oAddI, s_oAdd, s_oLt, s_oLe, s_oGt, s_oGe, s_oNeg, s_oNot, s_oMul, s_oMulW, s_oMod, s_oFdiv, s_oPow, s_oIsN, s_oNotN, s_oIsB, s_oNotB, s_isNon_int, s_isNon_non, s_isNon_bl, s_isNon_str, s_isNon_tup, s_isNon_lst, s_isNon_dic, s_oEqI, s_oNeI, s_oIxT, s_oIxL, s_oSlT, s_oSlL, s_oRevT, s_oRevL, s_oInt, s_oIntB, s_oAbs, s_oMax2, s_oMin2, s_oLen, s_plenT, s_plenL, s_plenD, s_plenS, s_oTupleL, s_oTupleT, s_oListL, s_oListT, List.set_cons_succ, List.set_cons_zero, List.append_nil, true_and, x_bl, x_int, x_some, x_addT, x_addL, x_true, x_false]
        refine ⟨_, rfl, ?_⟩
        try simp only [s_mVar0, s_mVarS, s_mVarO0, s_mVarOS, s_isObj_lst, s_isObj_dic, s_mC, s_mOp, s_mOp1, s_mB, s_mNil, s_mCons, s_mTup, s_mLst, s_mCall, s_mTB, s_mNot, s_mAnd, s_mOr, s_mAndV, s_mOrV, s_mIf, s_mYes, s_mSl, s_mNo, s_mPart, s_mLc, s_mItems, s_mRng1, s_mRng2, s_mEnum, s_mChain, s_seqT, s_seqL, s_sNext, s_sSeq, s_sIf, s_sSet, s_sRet, s_sRetN, s_sBreak, s_sCont, s_sDrop, s_sPar, s_setN0, s_setNS, s_sAsg, s_sApp, s_sAug, s_sFor, s_sSrc, s_gmN, s_gmT, s_gmCons, s_gmNil, s_wipe0, s_wipeS, s_oSub, s_oAddI, s_oAdd, s_oLt, s_oLe, s_oGt, s_oGe, s_oNeg, s_oNot, s_oMul, s_oMulW, s_oMod, s_oFdiv, s_oPow, s_oIsN, s_oNotN, s_oIsB, s_oNotB, s_isNon_int, s_isNon_non, s_isNon_bl, s_isNon_str, s_isNon_tup, s_isNon_lst, s_isNon_dic, s_oEqI, s_oNeI, s_oIxT, s_oIxL, s_oSlT, s_oSlL, s_oRevT, s_oRevL, s_oInt, s_oIntB, s_oAbs, s_oMax2, s_oMin2, s_oLen, s_plenT, s_plenL, s_plenD, s_plenS, s_oTupleL, s_oTupleT, s_oListL, s_oListT, List.set_cons_succ, List.set_cons_zero, List.append_nil, true_and, x_bl, x_int, x_some, x_addT, x_addL, x_true, x_false]
        refine ⟨line (by simp), by rw [List.length_map]; exact small_line (by omega), hN _ ⟨some (.int ((gr lots : Int) + x)), some (.int (fewLen lots ((gr lots : Int) + x) : Int)), y5, ?_⟩⟩
        rw [estep]
        unfold stS
        rw [if_pos hb, List.map_append]
        rfl
      · rw [if_neg hb]
        refine hN _ ⟨some (.int ((gr lots : Int) + x)), some (.int (fewLen lots ((gr lots : Int) + x) : Int)), y5, ?_⟩
        rw [estep]
        unfold stS
        rw [if_neg hb]
  · obtain ⟨y1, y4, y5, rfl⟩ := hE
    rw [List.length_range]
    try simp only [s_mVar0, s_mVarS, s_mVarO0, s_mVarOS, s_isObj_lst, s_isObj_dic, s_mC, s_mOp, s_mOp1, s_mB, s_mNil, s_mCons, s_mTup, s_mLst, s_mCall, s_mTB, s_mNot, s_mAnd, s_mOr, s_mAndV, s_mOrV, s_mIf, s_mYes, s_mSl, s_mNo, s_mPart, s_mLc, s_mItems, s_mRng1, s_mRng2, s_mEnum, s_mChain, s_seqT, s_seqL, s_sNext, s_sSeq, s_sIf, s_sSet, s_sRet, s_sRetN, s_sBreak, s_sCont, s_sDrop, s_sPar, s_setN0, s_setNS, s_sAsg, s_sApp, s_sAug, s_sFor, s_sSrc, s_gmN, s_gmT, s_gmCons, s_gmNil, s_wipe0, s_wipeS, s_oSub, s_oAddI, s_oAdd, s_oLt, s_oLe, s_oGt, s_oGe, s_oNeg, s_oNot, s_oMul, s_oMulW, s_oMod, s_oFdiv, s_oPow, s_oIsN, s_oNotN, s_oIsB, s_oNotB, s_isNon_int, s_isNon_non, s_isNon_bl, s_isNon_str, s_isNon_tup, s_isNon_lst, s_isNon_dic, s_oEqI, s_oNeI, s_oIxT, s_oIxL, s_oSlT, s_oSlL, s_oRevT, s_oRevL, s_oInt, s_oIntB, s_oAbs, s_oMax2, s_oMin2, s_oLen, s_plenT, s_plenL, s_plenD, s_plenS, s_oTupleL, s_oTupleT, s_oListL, s_oListT, List.set_cons_succ, List.set_cons_zero, List.append_nil, true_and, x_bl, x_int, x_some, x_addT, x_addL, x_true, x_false]
    exact h
theorem h_l_stairs (ps : List PV) (Q : PV → Prop) (h : sp_stairs ps Q) : t_l_stairs sp_fewest { nx := fun _ => nxOf .cl Q, rt := Q } (startE n_l_stairs.length ps) := by
  obtain ⟨lots, rfl, hg, h0, h⟩ := h
  have hs := hg.small
  have hpos := List.length_pos_iff.mpr h0
  have hm := most_small hg
  have hgm := gr_most hg h0
  show t_l_stairs _ _ [some (crs lots), none, none, none, none, none]
  unfold t_l_stairs
  try simp only [s_mVar0, s_mVarS, s_mVarO0, s_mVarOS, s_isObj_lst, s_isObj_dic, s_mC, s_mOp, s_mOp1, s_mB, s_mNil, s_mCons, s_mTup, s_mLst, s_mCall, s_mTB, s_mNot, s_mAnd, s_mOr, s_mAndV, s_mOrV, s_mIf, s_mYes, s_mSl, s_mNo, s_mPart, s_mLc, s_mItems, s_mRng1, s_mRng2, s_mEnum, s_mChain, s_seqT, s_seqL, s_sNext, s_sSeq, s_sIf, s_sSet, s_sRet, s_sRetN, s_sBreak, s_sCont, s_sDrop, s_sPar, s_setN0, s_setNS, s_sAsg, s_sApp, s_sAug, s_sFor, s_sSrc, s_gmN, s_gmT, s_gmCons, s_gmNil, s_wipe0, s_wipeS, s_oSub, s_oAddI, s_oAdd, s_oLt, s_oLe, s_oGt, s_oGe, s_oNeg, s_oNot, s_oMul, s_oMulW, s_oMod, s_oFdiv, s_oPow, s_oIsN, s_oNotN, s_oIsB, s_oNotB, s_isNon_int, s_isNon_non, s_isNon_bl, s_isNon_str, s_isNon_tup, s_isNon_lst, s_isNon_dic, s_oEqI, s_oNeI, s_oIxT, s_oIxL, s_oSlT, s_oSlL, s_oRevT, s_oRevL, s_oInt, s_oIntB, s_oAbs, s_oMax2, s_oMin2, s_oLen, s_plenT, s_plenL, s_plenD, s_plenS, s_oTupleL, s_oTupleT, s_oListL, s_oListT, List.set_cons_succ, List.set_cons_zero, List.append_nil, true_and, x_bl, x_int, x_some, x_addT, x_addL, x_true, x_false]
  refine ⟨Nat.zero_le _, ?_⟩
  refine comp_map (f := fun l => .int (l.length : Int)) (fun l hl => ⟨_, fun k hk => s_gmN.mpr hk, fun Q hQ => hQ, fun Q hQ => ?_⟩) (line (by omega)) (oMax_lens h0 ?_)
  · show mB oLen _ [some (crs lots), none, none, none, none, some (tI l)] Q
    try simp only [s_mVar0, s_mVarS, s_mVarO0, s_mVarOS, s_isObj_lst, s_isObj_dic, s_mC, s_mOp, s_mOp1, s_mB, s_mNil, s_mCons, s_mTup, s_mLst, s_mCall, s_mTB, s_mNot, s_mAnd, s_mOr, s_mAndV, s_mOrV, s_mIf, s_mYes, s_mSl, s_mNo, s_mPart, s_mLc, s_mItems, s_mRng1, s_mRng2, s_mEnum, s_mChain, s_seqT, s_seqL, s_sNext, s_sSeq, s_sIf, s_sSet, s_sRet, s_sRetN, s_sBreak, s_sCont, s_sDrop, s_sPar, s_setN0, s_setNS, s_sAsg, s_sApp, s_sAug, s_sFor, s_sSrc, s_gmN, s_gmT, s_gmCons, s_gmNil, s_wipe0, s_wipeS, s_oSub, s_oAddI, s_oAdd, s_oLt, s_oLe, s_oGt, s_oGe, s_oNeg, s_oNot, s_oMul, s_oMulW, s_oMod, s_oFdiv, s_oPow, s_oIsN, s_oNotN, s_oIsB, s_oNotB, s_isNon_int, s_isNon_non, s_isNon_bl, s_isNon_str, s_isNon_tup, s_isNon_lst, s_isNon_dic, s_oEqI, s_oNeI, s_oIxT, s_oIxL, s_oSlT, s_oSlL, s_oRevT, s_oRevL, s_oInt, s_oIntB, s_oAbs, s_oMax2, s_oMin2, s_oLen, s_plenT, s_plenL, s_plenD, s_plenS, s_oTupleL, s_oTupleT, s_oListL, s_oListT, List.set_cons_succ, List.set_cons_zero, List.append_nil, true_and, x_bl, x_int, x_some, x_addT, x_addL, x_true, x_false]
    rw [List.length_map]
    exact hQ
  refine ⟨by decide, ?_⟩
  show mForGo _ _ _ (rngP 0 30) _
  rw [rngP_map]
  refine for_inv (emb := fun i : Nat => PV.int (0 + (i : Int))) (fun i e => i ≤ most lots - gr lots ∧ ∃ y1 y4 y5, e = [some (crs lots), y1, some (.lst (((List.range i).foldl (stS lots) []).map eE)), some (.int ((gr lots : Int) + i)), y4, y5]) ⟨Nat.zero_le _, none, none, none, by
      show _ = [_, _, _, some (PV.int ((gr lots : Int) + 0)), _, _]
      rw [Int.add_zero]; rfl⟩ (fun i x e N hx hE hN => ?_) (fun e hE => ?_)
  · obtain ⟨hi, y1, y4, y5, rfl⟩ := hE
    have hi30 : i < 30 := by have := (List.getElem?_eq_some_iff.mp hx).1; rw [List.length_range] at this; exact this
    have ex : x = i := by rw [List.getElem?_range hi30] at hx; exact (Option.some.inj hx).symm
    subst ex
    rw [s_gmN]
    try simp only [s_mVar0, s_mVarS, s_mVarO0, s_mVarOS, s_isObj_lst, s_isObj_dic, s_mC, s_mOp, s_mOp1, s_mB, s_mNil, s_mCons, s_mTup, s_mLst, s_mCall, s_mTB, s_mNot, s_mAnd, s_mOr, s_mAndV, s_mOrV, s_mIf, s_mYes, s_mSl, s_mNo, s_mPart, s_mLc, s_mItems, s_mRng1, s_mRng2, s_mEnum, s_mChain, s_seqT, s_seqL, s_sNext, s_sSeq, s_sIf, s_sSet, s_sRet, s_sRetN, s_sBreak, s_sCont, s_sDrop, s_sPar, s_setN0, s_setNS, s_sAsg, s_sApp, s_sAug, s_sFor, s_sSrc, s_gmN, s_gmT, s_gmCons, s_gmNil, s_wipe0, s_wipeS, s_oSub, s_oAddI, s_oAdd, s_oLt, s_oLe, s_oGt, s_oGe, s_oNeg, s_oNot, s_oMul, s_oMulW, s_oMod, s_oFdiv, s_oPow, s_oIsN, s_oNotN, s_oIsB, s_oNotB, s_isNon_int, s_isNon_non, s_isNon_bl, s_isNon_str, s_isNon_tup, s_isNon_lst, s_isNon_dic, s_oEqI, s_oNeI, s_oIxT, s_oIxL, s_oSlT, s_oSlL, s_oRevT, s_oRevL, s_oInt, s_oIntB, s_oAbs, s_oMax2, s_oMin2, s_oLen, s_plenT, s_plenL, s_plenD, s_plenS, s_oTupleL, s_oTupleT, s_oListL, s_oListT, List.set_cons_succ, List.set_cons_zero, List.append_nil, true_and, x_bl, x_int, x_some, x_addT, x_addL, x_true, x_false]
    refine ⟨lots, _, rfl, hg, ?_⟩
    obtain ⟨s, es, el⟩ := fewP_some (lots := lots) (t := (gr lots : Int) + x) (by omega)
    have hz := fewLen_zero (lots := lots) (t := (gr lots : Int) + x) hg (by omega)
    rw [es]
    try simp only [s_mVar0, s_mVarS, s_mVarO0, s_mVarOS, s_isObj_lst, s_isObj_dic, s_mC, s_mOp, s_mOp1, s_mB, s_mNil, s_mCons, s_mTup, s_mLst, s_mCall, s_mTB, s_mNot, s_mAnd, s_mOr, s_mAndV, s_mOrV, s_mIf, s_mYes, s_mSl, s_mNo, s_mPart, s_mLc, s_mItems, s_mRng1, s_mRng2, s_mEnum, s_mChain, s_seqT, s_seqL, s_sNext, s_sSeq, s_sIf, s_sSet, s_sRet, s_sRetN, s_sBreak, s_sCont, s_sDrop, s_sPar, s_setN0, s_setNS, s_sAsg, s_sApp, s_sAug, s_sFor, s_sSrc, s_gmN, s_gmT, s_gmCons, s_gmNil, s_wipe0, s_wipeS, s_oSub, s_oAddI, s_oAdd, s_oLt, s_oLe, s_oGt, s_oGe, s_oNeg, s_oNot, s_oMul, s_oMulW, s_oMod, s_oFdiv, s_oPow, s_oIsN, s_oNotN, s_oIsB, s_oNotB, s_isNon_int, s_isNon_non, s_isNon_bl, s_isNon_str, s_isNon_tup, s_isNon_lst, s_isNon_dic, s_oEqI, s_oNeI, s_oIxT, s_oIxL, s_oSlT, s_oSlL, s_oRevT, s_oRevL, s_oInt, s_oIntB, s_oAbs, s_oMax2, s_oMin2, s_oLen, s_plenT, s_plenL, s_plenD, s_plenS, s_oTupleL, s_oTupleT, s_oListL, s_oListT, List.set_cons_succ, List.set_cons_zero, List.append_nil, true_and, x_bl, x_int, x_some, x_addT, x_addL, x_true, x_false]
    rw [List.length_map, el]
    have estep : (List.range (x + 1)).foldl (stS lots) [] = stS lots ((List.range x).foldl (stS lots) []) x := by rw [List.range_succ, List.foldl_append]; rfl
    have hlen := stL_len (lots := lots) (n := x)
    generalize (List.range x).foldl (stS lots) [] = acc at estep hlen ⊢
    have hst : stS lots acc x = if stB acc (fewLen lots ((gr lots : Int) + x)) = true then acc ++ [((gr lots : Int) + x, (fewLen lots ((gr lots : Int) + x) : Int))] else acc := rfl
    have T := st_test (acc := acc) (m := (fewLen lots ((gr lots : Int) + x) : Int)) (env := [some (crs lots), some (.int (0 + (x : Int))), some (.lst (acc.map eE)), some (.int ((gr lots : Int) + x)), some (.int (fewLen lots ((gr lots : Int) + x) : Int)), y5]) (i := 2) (j := 4)
      (Q := fun b => if b = true then sSeq (sApp 2 (mTup (mCons (mVar 3) (mCons (mVar 4) mNil)))) (sSeq (sIf (mTB (mOp oEq (mVar 4) (mC (.int 0)))) sBreak sNext) (sAug 3 oAddI (mC (.int 1)))) { nx := N, rt := Q, bk := sRet (mB oTuple (mCons (mVarO 2) mNil)) { nx := fun x => nxOf .cl Q, rt := Q }, ct := N } [some (crs lots), some (.int (0 + (x : Int))), some (.lst (acc.map eE)), some (.int ((gr lots : Int) + x)), some (.int (fewLen lots ((gr lots : Int) + x) : Int)), y5]
        else sSeq (sIf (mTB (mOp oEq (mVar 4) (mC (.int 0)))) sBreak sNext) (sAug 3 oAddI (mC (.int 1))) { nx := N, rt := Q, bk := sRet (mB oTuple (mCons (mVarO 2) mNil)) { nx := fun x => nxOf .cl Q, rt := Q }, ct := N } [some (crs lots), some (.int (0 + (x : Int))), some (.lst (acc.map eE)), some (.int ((gr lots : Int) + x)), some (.int (fewLen lots ((gr lots : Int) + x) : Int)), y5])
      (fun P hP => by try simp only [s_mVar0, s_mVarS, s_mVarO0, s_mVarOS, s_isObj_lst, s_isObj_dic, s_mC, s_mOp, s_mOp1, s_mB, s_mNil, s_mCons, s_mTup, s_mLst, s_mCall, s_mTB, s_mNot, s_mAnd, s_mOr, s_mAndV, s_mOrV, s_mIf, s_mYes, s_mSl, s_mNo, s_mPart, s_mLc, s_mItems, s_mRng1, s_mRng2, s_mEnum, s_mChain, s_seqT, s_seqL, s_sNext, s_sSeq, s_sIf, s_sSet, s_sRet, s_sRetN, s_sBreak, s_sCont, s_sDrop, s_sPar, s_setN0, s_setNS, s_sAsg, s_sApp, s_sAug, s_sFor, s_sSrc, s_gmN, s_gmT, s_gmCons, s_gmNil, s_wipe0, s_wipeS, s_oSub, s_oAddI, s_oAdd, s_oLt, s_oLe, s_oGt, s_oGe, s_oNeg, s_oNot, s_oMul, s_oMulW, s_oMod, s_oFdiv, s_oPow, s_oIsN, s_oNotN, s_oIsB, s_oNotB, s_isNon_int, s_isNon_non, s_isNon_bl, s_isNon_str, s_isNon_tup, s_isNon_lst, s_isNon_dic, s_oEqI, s_oNeI, s_oIxT, s_oIxL, s_oSlT, s_oSlL, s_oRevT, s_oRevL, s_oInt, s_oIntB, s_oAbs, s_oMax2, s_oMin2, s_oLen, s_plenT, s_plenL, s_plenD, s_plenS, s_oTupleL, s_oTupleT, s_oListL, s_oListT, List.set_cons_succ, List.set_cons_zero, List.append_nil, true_and, x_bl, x_int, x_some, x_addT, x_addL, x_true, x_false]; exact hP) (fun P hP => by try simp only [s_mVar0, s_mVarS, s_mVarO0, s_mVarOS, s_isObj_lst, s_isObj_dic, s_mC, s_mOp, s_mOp1, s_mB, s_mNil, s_mCons, s_mTup, s_mLst, s_mCall, s_mTB, s_mNot, s_mAnd, s_mOr, s_mAndV, s_mOrV, s_mIf, s_mYes, s_mSl, s_mNo, s_mPart, s_mLc, s_mItems, s_mRng1, s_mRng2, s_mEnum, s_mChain, s_seqT, s_seqL, s_sNext, s_sSeq, s_sIf, s_sSet, s_sRet, s_sRetN, s_sBreak, s_sCont, s_sDrop, s_sPar, s_setN0, s_setNS, s_sAsg, s_sApp, s_sAug, s_sFor, s_sSrc, s_gmN, s_gmT, s_gmCons, s_gmNil, s_wipe0, s_wipeS, s_oSub, s_oAddI, s_oAdd, s_oLt, s_oLe, s_oGt, s_oGe, s_oNeg, s_oNot, s_oMul, s_oMulW, s_oMod, s_oFdiv, s_oPow, s_oIsN, s_oNotN, s_oIsB, s_oNotB, s_isNon_int, s_isNon_non, s_isNon_bl, s_isNon_str, s_isNon_tup, s_isNon_lst, s_isNon_dic, s_oEqI, s_oNeI, s_oIxT, s_oIxL, s_oSlT, s_oSlL, s_oRevT, s_oRevL, s_oInt, s_oIntB, s_oAbs, s_oMax2, s_oMin2, s_oLen, s_plenT, s_plenL, s_plenD, s_plenS, s_oTupleL, s_oTupleT, s_oListL, s_oListT, List.set_cons_succ, List.set_cons_zero, List.append_nil, true_and, x_bl, x_int, x_some, x_addT, x_addL, x_true, x_false]; exact hP) ?_
    · simp only [s_mVar0, s_mVarS, s_mVarO0, s_mVarOS, s_isObj_lst, s_isObj_dic, s_mC, s_mOp, s_mOp1, s_mB, s_mNil, s_mCons, s_mTup, s_mLst, s_mCall, s_mTB, s_mNot, s_mAnd, s_mOr, s_mAndV, s_mOrV, s_mIf, s_mYes, s_mSl, s_mNo, s_mPart, s_mLc, s_mItems, s_mRng1, s_mRng2, s_mEnum, s_mChain, s_seqT, s_seqL, s_sNext, s_sSeq, s_sIf, s_sSet, s_sRet, s_sRetN, s_sBreak, s_sCont, s_sDrop, s_sPar, s_setN0, s_setNS, s_sAsg, s_sApp, s_sAug, s_sFor, s_sSrc, s_gmN, s_gmT, s_gmCons, s_gmNil, s_wipe0, s_wipeS, s_oSub, s_oAddI, s_oAdd, s_oLt, s_oLe, s_oGt, s_oGe, s_oNeg, s_oNot, s_oMul, s_oMulW, s_oMod, s_oFdiv, s_oPow, s_oIsN, s_oNotN, s_oIsB, s_oNotB, s_isNon_int, s_isNon_non, s_isNon_bl, s_isNon_str, s_isNon_tup, s_isNon_lst, s_isNon_dic, s_oEqI, s_oNeI, s_oIxT, s_oIxL, s_oSlT, s_oSlL, s_oRevT, s_oRevL, s_oInt, s_oIntB, s_oAbs, s_oMax2, s_oMin2, s_oLen, s_plenT, s_plenL, s_plenD, s_plenS, s_oTupleL, s_oTupleT, s_oListL, s_oListT, List.set_cons_succ, List.set_cons_zero, List.append_nil, true_and, x_bl, x_int, x_some, x_addT, x_addL, x_true, x_false] at T ⊢
      exact T
    · have fin : ∀ acc', acc' = stS lots acc x → fewLen lots ((gr lots : Int) + x) = 0 → Q (.tup (acc'.map eE)) := fun acc' e z => by
        have hx2 := hz.mp z
        have : x = most lots - gr lots := by omega
        rw [e, ← estep, this, show most lots - gr lots + 1 = most lots + 1 - gr lots by omega]
        exact h
      have on : ∀ acc', acc' = stS lots acc x → ¬ fewLen lots ((gr lots : Int) + x) = 0 → ∀ y1 y4 y5, N [some (crs lots), y1, some (.lst (acc'.map eE)), some (.int ((gr lots : Int) + x + 1)), y4, y5] := fun acc' e z y1 y4 y5 => by
        refine hN _ ⟨?_, y1, y4, y5, ?_⟩
        · rcases Nat.lt_or_ge x (most lots - gr lots) with q | q
          · exact q
          · exact absurd (hz.mpr (by omega)) z
        · rw [estep, e, show ((gr lots : Int) + x + 1) = (gr lots : Int) + ((x + 1 : Nat) : Int) by omega]
      by_cases hb : stB acc (fewLen lots ((gr lots : Int) + x)) = true
      · rw [if_pos hb] at hst ⊢
        have e3 : acc.map eE ++ [.tup [.int ((gr lots : Int) + x), .int (fewLen lots ((gr lots : Int) + x) : Int)]] = (acc ++ [((gr lots : Int) + x, (fewLen lots ((gr lots : Int) + x) : Int))]).map eE := by rw [List.map_append]; rfl
        try simp only [s_mVar0, s_mVarS, s_mVarO0, s_mVarOS, s_isObj_lst, s_isObj_dic, s_mC, s_mOp, s_mOp1, s_mB, s_mNil, s_mCons, s_mTup, s_mLst, s_mCall, s_mTB, s_mNot, s_mAnd, s_mOr, s_mAndV, s_mOrV, s_mIf, s_mYes, s_mSl, s_mNo, s_mPart, s_mLc, s_mItems, s_mRng1, s_mRng2, s_mEnum, s_mChain, s_seqT, s_seqL, s_sNext, s_sSeq, s_sIf, s_sSet, s_sRet, s_sRetN, s_sBreak, s_sCont, s_sDrop, s_sPar, s_setN0, s_setNS, s_sAsg, s_sApp, s_sAug, s_sFor, s_sSrc, s_gmN, s_gmT, s_gmCons, s_gmNil, s_wipe0, s_wipeS, s_oSub, s_oAddI, s_oAdd, s_oLt, s_oLe, s_oGt, s_oGe, s_oNeg, s_oNot, s_oMul, s_oMulW, s_oMod, s_oFdiv, s_oPow, s_oIsN, s_oNotN, s_oIsB, s_oNotB, s_isNon_int, s_isNon_non, s_isNon_bl, s_isNon_str, s_isNon_tup, s_isNon_lst, s_isNon_dic, s_oEqI, s_oNeI, s_oIxT, s_oIxL, s_oSlT, s_oSlL, s_oRevT, s_oRevL, s_oInt, s_oIntB, s_oAbs, s_oMax2, s_oMin2, s_oLen, s_plenT, s_plenL, s_plenD, s_plenS, s_oTupleL, s_oTupleT, s_oListL, s_oListT, List.set_cons_succ, List.set_cons_zero, List.append_nil, true_and, x_bl, x_int, x_some, x_addT, x_addL, x_true, x_false]
        refine ⟨_, rfl, ?_⟩
        try simp only [s_mVar0, s_mVarS, s_mVarO0, s_mVarOS, s_isObj_lst, s_isObj_dic, s_mC, s_mOp, s_mOp1, s_mB, s_mNil, s_mCons, s_mTup, s_mLst, s_mCall, s_mTB, s_mNot, s_mAnd, s_mOr, s_mAndV, s_mOrV, s_mIf, s_mYes, s_mSl, s_mNo, s_mPart, s_mLc, s_mItems, s_mRng1, s_mRng2, s_mEnum, s_mChain, s_seqT, s_seqL, s_sNext, s_sSeq, s_sIf, s_sSet, s_sRet, s_sRetN, s_sBreak, s_sCont, s_sDrop, s_sPar, s_setN0, s_setNS, s_sAsg, s_sApp, s_sAug, s_sFor, s_sSrc, s_gmN, s_gmT, s_gmCons, s_gmNil, s_wipe0, s_wipeS, s_oSub, s_oAddI, s_oAdd, s_oLt, s_oLe, s_oGt, s_oGe, s_oNeg, s_oNot, s_oMul, s_oMulW, s_oMod, s_oFdiv, s_oPow, s_oIsN, s_oNotN, s_oIsB, s_oNotB, s_isNon_int, s_isNon_non, s_isNon_bl, s_isNon_str, s_isNon_tup, s_isNon_lst, s_isNon_dic, s_oEqI, s_oNeI, s_oIxT, s_oIxL, s_oSlT, s_oSlL, s_oRevT, s_oRevL, s_oInt, s_oIntB, s_oAbs, s_oMax2, s_oMin2, s_oLen, s_plenT, s_plenL, s_plenD, s_plenS, s_oTupleL, s_oTupleT, s_oListL, s_oListT, List.set_cons_succ, List.set_cons_zero, List.append_nil, true_and, x_bl, x_int, x_some, x_addT, x_addL, x_true, x_false]
        refine ⟨line (by simp), by rw [List.length_map]; exact small_line (by omega), ?_⟩
        rw [e3]
        by_cases z : fewLen lots ((gr lots : Int) + x) = 0
        · rw [decide_eq_true (by omega : (fewLen lots ((gr lots : Int) + x) : Int) = 0), if_pos rfl]
          exact fin _ hst.symm z
        · rw [decide_eq_false (by omega : ¬ (fewLen lots ((gr lots : Int) + x) : Int) = 0), if_neg Bool.false_ne_true]
          refine ⟨_, rfl, ?_⟩
          try simp only [s_mVar0, s_mVarS, s_mVarO0, s_mVarOS, s_isObj_lst, s_isObj_dic, s_mC, s_mOp, s_mOp1, s_mB, s_mNil, s_mCons, s_mTup, s_mLst, s_mCall, s_mTB, s_mNot, s_mAnd, s_mOr, s_mAndV, s_mOrV, s_mIf, s_mYes, s_mSl, s_mNo, s_mPart, s_mLc, s_mItems, s_mRng1, s_mRng2, s_mEnum, s_mChain, s_seqT, s_seqL, s_sNext, s_sSeq, s_sIf, s_sSet, s_sRet, s_sRetN, s_sBreak, s_sCont, s_sDrop, s_sPar, s_setN0, s_setNS, s_sAsg, s_sApp, s_sAug, s_sFor, s_sSrc, s_gmN, s_gmT, s_gmCons, s_gmNil, s_wipe0, s_wipeS, s_oSub, s_oAddI, s_oAdd, s_oLt, s_oLe, s_oGt, s_oGe, s_oNeg, s_oNot, s_oMul, s_oMulW, s_oMod, s_oFdiv, s_oPow, s_oIsN, s_oNotN, s_oIsB, s_oNotB, s_isNon_int, s_isNon_non, s_isNon_bl, s_isNon_str, s_isNon_tup, s_isNon_lst, s_isNon_dic, s_oEqI, s_oNeI, s_oIxT, s_oIxL, s_oSlT, s_oSlL, s_oRevT, s_oRevL, s_oInt, s_oIntB, s_oAbs, s_oMax2, s_oMin2, s_oLen, s_plenT, s_plenL, s_plenD, s_plenS, s_oTupleL, s_oTupleT, s_oListL, s_oListT, List.set_cons_succ, List.set_cons_zero, List.append_nil, true_and, x_bl, x_int, x_some, x_addT, x_addL, x_true, x_false]
          exact on _ hst.symm z _ _ _
      · rw [if_neg hb] at hst ⊢
        try simp only [s_mVar0, s_mVarS, s_mVarO0, s_mVarOS, s_isObj_lst, s_isObj_dic, s_mC, s_mOp, s_mOp1, s_mB, s_mNil, s_mCons, s_mTup, s_mLst, s_mCall, s_mTB, s_mNot, s_mAnd, s_mOr, s_mAndV, s_mOrV, s_mIf, s_mYes, s_mSl, s_mNo, s_mPart, s_mLc, s_mItems, s_mRng1, s_mRng2, s_mEnum, s_mChain, s_seqT, s_seqL, s_sNext, s_sSeq, s_sIf, s_sSet, s_sRet, s_sRetN, s_sBreak, s_sCont, s_sDrop, s_sPar, s_setN0, s_setNS, s_sAsg, s_sApp, s_sAug, s_sFor, s_sSrc, s_gmN, s_gmT, s_gmCons, s_gmNil, s_wipe0, s_wipeS, s_oSub, s_oAddI, s_oAdd, s_oLt, s_oLe, s_oGt, s_oGe, s_oNeg, s_oNot, s_oMul, s_oMulW, s_oMod, s_oFdiv, s_oPow, s_oIsN, s_oNotN, s_oIsB, s_oNotB, s_isNon_int, s_isNon_non, s_isNon_bl, s_isNon_str, s_isNon_tup, s_isNon_lst, s_isNon_dic, s_oEqI, s_oNeI, s_oIxT, s_oIxL, s_oSlT, s_oSlL, s_oRevT, s_oRevL, s_oInt, s_oIntB, s_oAbs, s_oMax2, s_oMin2, s_oLen, s_plenT, s_plenL, s_plenD, s_plenS, s_oTupleL, s_oTupleT, s_oListL, s_oListT, List.set_cons_succ, List.set_cons_zero, List.append_nil, true_and, x_bl, x_int, x_some, x_addT, x_addL, x_true, x_false]
        by_cases z : fewLen lots ((gr lots : Int) + x) = 0
        · rw [decide_eq_true (by omega : (fewLen lots ((gr lots : Int) + x) : Int) = 0), if_pos rfl]
          exact fin _ hst.symm z
        · rw [decide_eq_false (by omega : ¬ (fewLen lots ((gr lots : Int) + x) : Int) = 0), if_neg Bool.false_ne_true]
          refine ⟨_, rfl, ?_⟩
          try simp only [s_mVar0, s_mVarS, s_mVarO0, s_mVarOS, s_isObj_lst, s_isObj_dic, s_mC, s_mOp, s_mOp1, s_mB, s_mNil, s_mCons, s_mTup, s_mLst, s_mCall, s_mTB, s_mNot, s_mAnd, s_mOr, s_mAndV, s_mOrV, s_mIf, s_mYes, s_mSl, s_mNo, s_mPart, s_mLc, s_mItems, s_mRng1, s_mRng2, s_mEnum, s_mChain, s_seqT, s_seqL, s_sNext, s_sSeq, s_sIf, s_sSet, s_sRet, s_sRetN, s_sBreak, s_sCont, s_sDrop, s_sPar, s_setN0, s_setNS, s_sAsg, s_sApp, s_sAug, s_sFor, s_sSrc, s_gmN, s_gmT, s_gmCons, s_gmNil, s_wipe0, s_wipeS, s_oSub, s_oAddI, s_oAdd, s_oLt, s_oLe, s_oGt, s_oGe, s_oNeg, s_oNot, s_oMul, s_oMulW, s_oMod, s_oFdiv, s_oPow, s_oIsN, s_oNotN, s_oIsB, s_oNotB, s_isNon_int, s_isNon_non, s_isNon_bl, s_isNon_str, s_isNon_tup, s_isNon_lst, s_isNon_dic, s_oEqI, s_oNeI, s_oIxT, s_oIxL, s_oSlT, s_oSlL, s_oRevT, s_oRevL, s_oInt, s_oIntB, s_oAbs, s_oMax2, s_oMin2, s_oLen, s_plenT, s_plenL, s_plenD, s_plenS, s_oTupleL, s_oTupleT, s_oListL, s_oListT, List.set_cons_succ, List.set_cons_zero, List.append_nil, true_and, x_bl, x_int, x_some, x_addT, x_addL, x_true, x_false]
          exact on _ hst.symm z _ _ _
  · obtain ⟨hi, _⟩ := hE
    rw [List.length_range] at hi
    omega
end K44

set_option maxHeartbeats 4000000
namespace K44
open PySem L2 PM
theorem few_len {t : Int} : ∀ {lots : List (List Int)} {seen : List Int} {i : Int} {s : List Int}, fewGo t seen i lots = some s → s.length ≤ lots.length
  | [], _, _, s, e => by cases e; exact Nat.le_refl _
  | l :: lots, seen, i, s, e => by
    unfold fewGo at e
    by_cases h1 : t < (l.length : Int)
    · rw [if_pos h1] at e; cases e
    rw [if_neg h1] at e
    by_cases h2 : t < ((seen.length + (l.filter fun x => !decide (x ∈ seen)).length : Nat) : Int)
    · rw [if_pos h2] at e
      cases q : fewGo t l (i + 1) lots with
      | none => rw [q] at e; cases e
      | some r =>
        rw [q] at e
        cases e
        have := few_len q
        simp
        exact this
    · rw [if_neg h2] at e
      have := few_len e
      rw [List.length_cons]; omega
theorem lk_ints {n : Nat} {ns : List Int} (h : ns.length ≤ 1000) : Lk (n + 1) (tI ns) := ⟨by rw [List.length_map]; exact h, fun x hx => by
  obtain ⟨i, _, rfl⟩ := List.mem_map.mp hx
  cases n <;> trivial⟩
theorem lk_pairs {es : List (Int × Int)} (h : es.length ≤ 1000) : Lk 2 (.tup (es.map eE)) := ⟨by rw [List.length_map]; exact h, fun x hx => by
  obtain ⟨p, _, rfl⟩ := List.mem_map.mp hx
  exact lk_ints (n := 0) (ns := [p.1, p.2]) (by simp)⟩
theorem lk_few {lots : List (List Int)} {t : Int} (h : lots.length ≤ 1000) : Lk 2 (fewP (few lots t)) := by
  cases q : few lots t with
  | none => trivial
  | some s => exact lk_ints (n := 1) (Nat.le_trans (few_len q) h)
theorem eps_ep {n : Nat} {maps : Int} {ns : List Int} (h1 : 1 ≤ maps) (h : ∀ x ∈ ns, 0 ≤ x) : ∀ p ∈ eps maps ns, Ep n p := fun p hp => by
  obtain ⟨i, hi, rfl⟩ := List.mem_iff_getElem.mp hp
  unfold eps at hi ⊢
  rw [List.getElem_zip]
  constructor
  · have : (0 :: ns.map (· + 1))[i]'(by rw [List.length_zip] at hi; omega) ∈ 0 :: ns.map (· + 1) := List.getElem_mem _
    generalize (0 :: ns.map (· + 1))[i]'_ = z at this
    rcases List.mem_cons.mp this with e | e
    · rw [e]; exact Int.le_refl _
    · obtain ⟨y, hy, rfl⟩ := List.mem_map.mp e
      have := h y hy
      show 0 ≤ y + 1
      omega
  · have : (ns ++ [maps - 1])[i]'(by rw [List.length_zip] at hi; omega) ∈ ns ++ [maps - 1] := List.getElem_mem _
    generalize (ns ++ [maps - 1])[i]'_ = z at this
    rcases List.mem_append.mp this with e | e
    · exact h z e
    · rw [List.mem_singleton.mp e]
      show 0 ≤ maps - 1
      omega
theorem ints_of {α : Type} : ∀ {xs : List α} {ys : List PV}, Paired (fun _ y => ∃ c : Int, y = .int c) xs ys → ∃ cs : List Int, ys = cs.map .int ∧ cs.length = xs.length
  | _, _, .nil => ⟨[], rfl, rfl⟩
  | _, _, .cons ⟨c, e⟩ t => by
    obtain ⟨cs, e2, l⟩ := ints_of t
    exact ⟨c :: cs, by rw [e, e2]; rfl, by rw [List.length_cons, List.length_cons, l]⟩
def ok_heap : List PV → Prop := fun ps => ∃ ns : List Int, ps = [.scr ns] ∧ ns.length ≤ 63
theorem h_law (ns : List Int) (hl : ns.length ≤ 63) : t_law ok_heap sp_pick sp_l_counted (spk 3) sp_some sp_l_bent sp_l_epochs sp_stairs sp_stairs sp_drw sp_is_schedule sp_epochs_by sp_price_by sp_is_secret_by sp_l_is_secret sp_fewest sp_fewest { nx := fun _ => False, rt := fun p => p = .bl true } (startE n_law.length [.scr ns]) := by
  show t_law _ _ _ _ _ _ _ _ _ _ _ _ _ _ _ _ _ _ [some (.scr ns), none, none, none, none, none, none, none, none, none, none, none, none, none]
  unfold t_law
  try simp only [s_mVar0, s_mVarS, s_mVarO0, s_mVarOS, s_isObj_lst, s_isObj_dic, s_mC, s_mOp, s_mOp1, s_mB, s_mNil, s_mCons, s_mTup, s_mLst, s_mCall, s_mTB, s_mNot, s_mAnd, s_mOr, s_mAndV, s_mOrV, s_mIf, s_mYes, s_mSl, s_mNo, s_mPart, s_mLc, s_mItems, s_mRng1, s_mRng2, s_mEnum, s_mChain, s_seqT, s_seqL, s_sNext, s_sSeq, s_sIf, s_sSet, s_sRet, s_sRetN, s_sBreak, s_sCont, s_sDrop, s_sPar, s_setN0, s_setNS, s_sAsg, s_sApp, s_sAug, s_sFor, s_sSrc, s_gmN, s_gmT, s_gmCons, s_gmNil, s_wipe0, s_wipeS, s_oSub, s_oAddI, s_oAdd, s_oLt, s_oLe, s_oGt, s_oGe, s_oNeg, s_oNot, s_oMul, s_oMulW, s_oMod, s_oFdiv, s_oPow, s_oIsN, s_oNotN, s_oIsB, s_oNotB, s_isNon_int, s_isNon_non, s_isNon_bl, s_isNon_str, s_isNon_tup, s_isNon_lst, s_isNon_dic, s_oEqI, s_oNeI, s_oIxT, s_oIxL, s_oSlT, s_oSlL, s_oRevT, s_oRevL, s_oInt, s_oIntB, s_oAbs, s_oMax2, s_oMin2, s_oLen, s_plenT, s_plenL, s_plenD, s_plenS, s_oTupleL, s_oTupleT, s_oListL, s_oListT, List.set_cons_succ, List.set_cons_zero, List.append_nil, true_and, x_bl, x_int, x_some, x_addT, x_addL, x_true, x_false]
  refine ⟨⟨ns, rfl, hl⟩, line (by simp), _, rfl, by simp, by simp, fun x hx => ?_⟩
  obtain ⟨n, rfl, n1, n30⟩ : ∃ n : Nat, x = .int n ∧ 1 ≤ n ∧ n ≤ 30 := by
    simp at hx
    rcases hx with rfl | rfl | rfl | rfl | rfl | rfl | rfl | rfl | rfl | rfl
    · exact ⟨1, rfl, by decide, by decide⟩
    · exact ⟨2, rfl, by decide, by decide⟩
    · exact ⟨3, rfl, by decide, by decide⟩
    · exact ⟨4, rfl, by decide, by decide⟩
    · exact ⟨5, rfl, by decide, by decide⟩
    · exact ⟨7, rfl, by decide, by decide⟩
    · exact ⟨9, rfl, by decide, by decide⟩
    · exact ⟨14, rfl, by decide, by decide⟩
    · exact ⟨21, rfl, by decide, by decide⟩
    · exact ⟨30, rfl, by decide, by decide⟩
  refine ⟨n, rfl, by omega, fun lots hg hlen => ⟨_, rfl, ?_⟩⟩
  have h0 : lots ≠ [] := fun z => by rw [z] at hlen; simp at hlen; omega
  refine comp_map (f := fun l => .int (l.length : Int)) (fun l hl => ⟨_, fun k hk => s_gmN.mpr hk, fun Q hQ => hQ, fun Q hQ => ?_⟩) (line (by omega)) (oMax_lens h0 ?_)
  · show mB oLen _ [some (.scr ns), some .src, some (.int n), some (crs lots), none, none, none, none, none, none, none, none, some (tI l), none] Q
    try simp only [s_mVar0, s_mVarS, s_mVarO0, s_mVarOS, s_isObj_lst, s_isObj_dic, s_mC, s_mOp, s_mOp1, s_mB, s_mNil, s_mCons, s_mTup, s_mLst, s_mCall, s_mTB, s_mNot, s_mAnd, s_mOr, s_mAndV, s_mOrV, s_mIf, s_mYes, s_mSl, s_mNo, s_mPart, s_mLc, s_mItems, s_mRng1, s_mRng2, s_mEnum, s_mChain, s_seqT, s_seqL, s_sNext, s_sSeq, s_sIf, s_sSet, s_sRet, s_sRetN, s_sBreak, s_sCont, s_sDrop, s_sPar, s_setN0, s_setNS, s_sAsg, s_sApp, s_sAug, s_sFor, s_sSrc, s_gmN, s_gmT, s_gmCons, s_gmNil, s_wipe0, s_wipeS, s_oSub, s_oAddI, s_oAdd, s_oLt, s_oLe, s_oGt, s_oGe, s_oNeg, s_oNot, s_oMul, s_oMulW, s_oMod, s_oFdiv, s_oPow, s_oIsN, s_oNotN, s_oIsB, s_oNotB, s_isNon_int, s_isNon_non, s_isNon_bl, s_isNon_str, s_isNon_tup, s_isNon_lst, s_isNon_dic, s_oEqI, s_oNeI, s_oIxT, s_oIxL, s_oSlT, s_oSlL, s_oRevT, s_oRevL, s_oInt, s_oIntB, s_oAbs, s_oMax2, s_oMin2, s_oLen, s_plenT, s_plenL, s_plenD, s_plenS, s_oTupleL, s_oTupleT, s_oListL, s_oListT, List.set_cons_succ, List.set_cons_zero, List.append_nil, true_and, x_bl, x_int, x_some, x_addT, x_addL, x_true, x_false]
    rw [List.length_map]
    exact hQ
  try simp only [s_mVar0, s_mVarS, s_mVarO0, s_mVarOS, s_isObj_lst, s_isObj_dic, s_mC, s_mOp, s_mOp1, s_mB, s_mNil, s_mCons, s_mTup, s_mLst, s_mCall, s_mTB, s_mNot, s_mAnd, s_mOr, s_mAndV, s_mOrV, s_mIf, s_mYes, s_mSl, s_mNo, s_mPart, s_mLc, s_mItems, s_mRng1, s_mRng2, s_mEnum, s_mChain, s_seqT, s_seqL, s_sNext, s_sSeq, s_sIf, s_sSet, s_sRet, s_sRetN, s_sBreak, s_sCont, s_sDrop, s_sPar, s_setN0, s_setNS, s_sAsg, s_sApp, s_sAug, s_sFor, s_sSrc, s_gmN, s_gmT, s_gmCons, s_gmNil, s_wipe0, s_wipeS, s_oSub, s_oAddI, s_oAdd, s_oLt, s_oLe, s_oGt, s_oGe, s_oNeg, s_oNot, s_oMul, s_oMulW, s_oMod, s_oFdiv, s_oPow, s_oIsN, s_oNotN, s_oIsB, s_oNotB, s_isNon_int, s_isNon_non, s_isNon_bl, s_isNon_str, s_isNon_tup, s_isNon_lst, s_isNon_dic, s_oEqI, s_oNeI, s_oIxT, s_oIxL, s_oSlT, s_oSlL, s_oRevT, s_oRevL, s_oInt, s_oIntB, s_oAbs, s_oMax2, s_oMin2, s_oLen, s_plenT, s_plenL, s_plenD, s_plenS, s_oTupleL, s_oTupleT, s_oListL, s_oListT, List.set_cons_succ, List.set_cons_zero, List.append_nil, true_and, x_bl, x_int, x_some, x_addT, x_addL, x_true, x_false]
  have e1 : ((n : Int) - 1).toNat = n - 1 := by omega
  refine ⟨by omega, ?_⟩
  rw [e1, rngP_rng (k := n - 1)]
  refine comp_rel (emb := PV.int) (xs := rng (n - 1)) (R := fun _ y => ∃ c : Int, y = .int c) (fun x hx => ⟨_, fun k hk => s_gmN.mpr hk, fun Q hQ => hQ, fun Q hQ => ?_⟩) (by rw [List.length_nil, rng_len]; exact line (by omega)) (fun ys hys => ?_)
  · show mCall sp_drw [] _ [some (.scr ns), some .src, some (.int n), some (crs lots), some (.int (gr lots)), none, none, none, none, none, none, none, none, some (.int x)] Q
    try simp only [s_mVar0, s_mVarS, s_mVarO0, s_mVarOS, s_isObj_lst, s_isObj_dic, s_mC, s_mOp, s_mOp1, s_mB, s_mNil, s_mCons, s_mTup, s_mLst, s_mCall, s_mTB, s_mNot, s_mAnd, s_mOr, s_mAndV, s_mOrV, s_mIf, s_mYes, s_mSl, s_mNo, s_mPart, s_mLc, s_mItems, s_mRng1, s_mRng2, s_mEnum, s_mChain, s_seqT, s_seqL, s_sNext, s_sSeq, s_sIf, s_sSet, s_sRet, s_sRetN, s_sBreak, s_sCont, s_sDrop, s_sPar, s_setN0, s_setNS, s_sAsg, s_sApp, s_sAug, s_sFor, s_sSrc, s_gmN, s_gmT, s_gmCons, s_gmNil, s_wipe0, s_wipeS, s_oSub, s_oAddI, s_oAdd, s_oLt, s_oLe, s_oGt, s_oGe, s_oNeg, s_oNot, s_oMul, s_oMulW, s_oMod, s_oFdiv, s_oPow, s_oIsN, s_oNotN, s_oIsB, s_oNotB, s_isNon_int, s_isNon_non, s_isNon_bl, s_isNon_str, s_isNon_tup, s_isNon_lst, s_isNon_dic, s_oEqI, s_oNeI, s_oIxT, s_oIxL, s_oSlT, s_oSlL, s_oRevT, s_oRevL, s_oInt, s_oIntB, s_oAbs, s_oMax2, s_oMin2, s_oLen, s_plenT, s_plenL, s_plenD, s_plenS, s_oTupleL, s_oTupleT, s_oListL, s_oListT, List.set_cons_succ, List.set_cons_zero, List.append_nil, true_and, x_bl, x_int, x_some, x_addT, x_addL, x_true, x_false]
    refine ⟨⟨by decide, by decide, by decide⟩, line (by simp), _, rfl, by simp, by simp, fun y hy => ?_⟩
    obtain ⟨m, rfl, m0, m1⟩ : ∃ m : Int, y = .int m ∧ 0 < m ∧ m < 1073741824 := by
      simp at hy
      rcases hy with rfl | rfl | rfl | rfl
      · exact ⟨_, rfl, by decide, by decide⟩
      · exact ⟨_, rfl, by decide, by decide⟩
      · exact ⟨_, rfl, by decide, by decide⟩
      · exact ⟨_, rfl, by decide, by decide⟩
    exact ⟨m, rfl, m0, m1, fun r _ _ => hQ _ ⟨r, rfl⟩⟩
  obtain ⟨costs, rfl, hcl⟩ := ints_of hys
  rw [rng_len] at hcl
  try simp only [s_mVar0, s_mVarS, s_mVarO0, s_mVarOS, s_isObj_lst, s_isObj_dic, s_mC, s_mOp, s_mOp1, s_mB, s_mNil, s_mCons, s_mTup, s_mLst, s_mCall, s_mTB, s_mNot, s_mAnd, s_mOr, s_mAndV, s_mOrV, s_mIf, s_mYes, s_mSl, s_mNo, s_mPart, s_mLc, s_mItems, s_mRng1, s_mRng2, s_mEnum, s_mChain, s_seqT, s_seqL, s_sNext, s_sSeq, s_sIf, s_sSet, s_sRet, s_sRetN, s_sBreak, s_sCont, s_sDrop, s_sPar, s_setN0, s_setNS, s_sAsg, s_sApp, s_sAug, s_sFor, s_sSrc, s_gmN, s_gmT, s_gmCons, s_gmNil, s_wipe0, s_wipeS, s_oSub, s_oAddI, s_oAdd, s_oLt, s_oLe, s_oGt, s_oGe, s_oNeg, s_oNot, s_oMul, s_oMulW, s_oMod, s_oFdiv, s_oPow, s_oIsN, s_oNotN, s_oIsB, s_oNotB, s_isNon_int, s_isNon_non, s_isNon_bl, s_isNon_str, s_isNon_tup, s_isNon_lst, s_isNon_dic, s_oEqI, s_oNeI, s_oIxT, s_oIxL, s_oSlT, s_oSlL, s_oRevT, s_oRevL, s_oInt, s_oIntB, s_oAbs, s_oMax2, s_oMin2, s_oLen, s_plenT, s_plenL, s_plenD, s_plenS, s_oTupleL, s_oTupleT, s_oListL, s_oListT, List.set_cons_succ, List.set_cons_zero, List.append_nil, true_and, x_bl, x_int, x_some, x_addT, x_addL, x_true, x_false]
  refine ⟨by decide, ?_⟩
  show mForGo _ _ _ (rngP 0 4) _
  rw [rngP_map]
  refine for_inv (emb := fun i : Nat => PV.int (0 + (i : Int))) (fun i e => ∃ y6 y7 y8 y9 y10 y11 y12 y13, e = [some (.scr ns), some .src, some (.int n), some (crs lots), some (.int (gr lots)), some (tI costs), y6, y7, y8, y9, y10, y11, y12, y13]) ⟨_, _, _, _, _, _, _, _, rfl⟩ (fun i x e N hx hE hN => ?_) (fun e hE => ?_)
  · obtain ⟨y6, y7, y8, y9, y10, y11, y12, y13, rfl⟩ := hE
    rw [s_gmN]
    try simp only [s_mVar0, s_mVarS, s_mVarO0, s_mVarOS, s_isObj_lst, s_isObj_dic, s_mC, s_mOp, s_mOp1, s_mB, s_mNil, s_mCons, s_mTup, s_mLst, s_mCall, s_mTB, s_mNot, s_mAnd, s_mOr, s_mAndV, s_mOrV, s_mIf, s_mYes, s_mSl, s_mNo, s_mPart, s_mLc, s_mItems, s_mRng1, s_mRng2, s_mEnum, s_mChain, s_seqT, s_seqL, s_sNext, s_sSeq, s_sIf, s_sSet, s_sRet, s_sRetN, s_sBreak, s_sCont, s_sDrop, s_sPar, s_setN0, s_setNS, s_sAsg, s_sApp, s_sAug, s_sFor, s_sSrc, s_gmN, s_gmT, s_gmCons, s_gmNil, s_wipe0, s_wipeS, s_oSub, s_oAddI, s_oAdd, s_oLt, s_oLe, s_oGt, s_oGe, s_oNeg, s_oNot, s_oMul, s_oMulW, s_oMod, s_oFdiv, s_oPow, s_oIsN, s_oNotN, s_oIsB, s_oNotB, s_isNon_int, s_isNon_non, s_isNon_bl, s_isNon_str, s_isNon_tup, s_isNon_lst, s_isNon_dic, s_oEqI, s_oNeI, s_oIxT, s_oIxL, s_oSlT, s_oSlL, s_oRevT, s_oRevL, s_oInt, s_oIntB, s_oAbs, s_oMax2, s_oMin2, s_oLen, s_plenT, s_plenL, s_plenD, s_plenS, s_oTupleL, s_oTupleT, s_oListL, s_oListT, List.set_cons_succ, List.set_cons_zero, List.append_nil, true_and, x_bl, x_int, x_some, x_addT, x_addL, x_true, x_false]
    refine ⟨by omega, ?_⟩
    rw [e1, rngP_rng (k := n - 1)]
    refine comp_map (emb := PV.int) (xs := rng (n - 1)) (f := .int) (fun x hx => ⟨_, fun k hk => s_gmN.mpr hk, fun Q hQ => hQ, fun Q hQ => ?_⟩) (by rw [rng_len]; exact line (by omega)) ?_
    · show mVar 13 [some (.scr ns), some .src, some (.int n), some (crs lots), some (.int (gr lots)), some (tI costs), some (.int (0 + (i : Int))), y7, y8, y9, y10, y11, y12, some (.int x)] Q
      try simp only [s_mVar0, s_mVarS, s_mVarO0, s_mVarOS, s_isObj_lst, s_isObj_dic, s_mC, s_mOp, s_mOp1, s_mB, s_mNil, s_mCons, s_mTup, s_mLst, s_mCall, s_mTB, s_mNot, s_mAnd, s_mOr, s_mAndV, s_mOrV, s_mIf, s_mYes, s_mSl, s_mNo, s_mPart, s_mLc, s_mItems, s_mRng1, s_mRng2, s_mEnum, s_mChain, s_seqT, s_seqL, s_sNext, s_sSeq, s_sIf, s_sSet, s_sRet, s_sRetN, s_sBreak, s_sCont, s_sDrop, s_sPar, s_setN0, s_setNS, s_sAsg, s_sApp, s_sAug, s_sFor, s_sSrc, s_gmN, s_gmT, s_gmCons, s_gmNil, s_wipe0, s_wipeS, s_oSub, s_oAddI, s_oAdd, s_oLt, s_oLe, s_oGt, s_oGe, s_oNeg, s_oNot, s_oMul, s_oMulW, s_oMod, s_oFdiv, s_oPow, s_oIsN, s_oNotN, s_oIsB, s_oNotB, s_isNon_int, s_isNon_non, s_isNon_bl, s_isNon_str, s_isNon_tup, s_isNon_lst, s_isNon_dic, s_oEqI, s_oNeI, s_oIxT, s_oIxL, s_oSlT, s_oSlL, s_oRevT, s_oRevL, s_oInt, s_oIntB, s_oAbs, s_oMax2, s_oMin2, s_oLen, s_plenT, s_plenL, s_plenD, s_plenS, s_oTupleL, s_oTupleT, s_oListL, s_oListT, List.set_cons_succ, List.set_cons_zero, List.append_nil, true_and, x_bl, x_int, x_some, x_addT, x_addL, x_true, x_false]
      exact hQ
    refine ⟨_, rfl, by omega, by omega, fun r r0 r1 => ⟨n - 1, r.toNat, by rw [Int.toNat_of_nonneg r0], by omega, by omega, fun sch hsl hsp hsb => ?_⟩⟩
    have hS : Sch n sch := ⟨by omega, hsp, fun x hx => by obtain ⟨a, b⟩ := hsb x hx; omega⟩
    try simp only [s_mVar0, s_mVarS, s_mVarO0, s_mVarOS, s_isObj_lst, s_isObj_dic, s_mC, s_mOp, s_mOp1, s_mB, s_mNil, s_mCons, s_mTup, s_mLst, s_mCall, s_mTB, s_mNot, s_mAnd, s_mOr, s_mAndV, s_mOrV, s_mIf, s_mYes, s_mSl, s_mNo, s_mPart, s_mLc, s_mItems, s_mRng1, s_mRng2, s_mEnum, s_mChain, s_seqT, s_seqL, s_sNext, s_sSeq, s_sIf, s_sSet, s_sRet, s_sRetN, s_sBreak, s_sCont, s_sDrop, s_sPar, s_setN0, s_setNS, s_sAsg, s_sApp, s_sAug, s_sFor, s_sSrc, s_gmN, s_gmT, s_gmCons, s_gmNil, s_wipe0, s_wipeS, s_oSub, s_oAddI, s_oAdd, s_oLt, s_oLe, s_oGt, s_oGe, s_oNeg, s_oNot, s_oMul, s_oMulW, s_oMod, s_oFdiv, s_oPow, s_oIsN, s_oNotN, s_oIsB, s_oNotB, s_isNon_int, s_isNon_non, s_isNon_bl, s_isNon_str, s_isNon_tup, s_isNon_lst, s_isNon_dic, s_oEqI, s_oNeI, s_oIxT, s_oIxL, s_oSlT, s_oSlL, s_oRevT, s_oRevL, s_oInt, s_oIntB, s_oAbs, s_oMax2, s_oMin2, s_oLen, s_plenT, s_plenL, s_plenD, s_plenS, s_oTupleL, s_oTupleT, s_oListL, s_oListT, List.set_cons_succ, List.set_cons_zero, List.append_nil, true_and, x_bl, x_int, x_some, x_addT, x_addL, x_true, x_false]
    refine ⟨n, tI sch, rfl, rfl, (fun xs z => tup_ok (by rw [List.length_map]; omega) ints_ok z), ?_⟩
    rw [sch_good hS]
    refine s_oNotB.mpr ⟨_, rfl, ?_⟩
    rw [if_neg (by decide)]
    refine ⟨n, sch, rfl, hS, fun v d ⟨hv, hvx, hd⟩ => ?_⟩
    try simp only [s_mVar0, s_mVarS, s_mVarO0, s_mVarOS, s_isObj_lst, s_isObj_dic, s_mC, s_mOp, s_mOp1, s_mB, s_mNil, s_mCons, s_mTup, s_mLst, s_mCall, s_mTB, s_mNot, s_mAnd, s_mOr, s_mAndV, s_mOrV, s_mIf, s_mYes, s_mSl, s_mNo, s_mPart, s_mLc, s_mItems, s_mRng1, s_mRng2, s_mEnum, s_mChain, s_seqT, s_seqL, s_sNext, s_sSeq, s_sIf, s_sSet, s_sRet, s_sRetN, s_sBreak, s_sCont, s_sDrop, s_sPar, s_setN0, s_setNS, s_sAsg, s_sApp, s_sAug, s_sFor, s_sSrc, s_gmN, s_gmT, s_gmCons, s_gmNil, s_wipe0, s_wipeS, s_oSub, s_oAddI, s_oAdd, s_oLt, s_oLe, s_oGt, s_oGe, s_oNeg, s_oNot, s_oMul, s_oMulW, s_oMod, s_oFdiv, s_oPow, s_oIsN, s_oNotN, s_oIsB, s_oNotB, s_isNon_int, s_isNon_non, s_isNon_bl, s_isNon_str, s_isNon_tup, s_isNon_lst, s_isNon_dic, s_oEqI, s_oNeI, s_oIxT, s_oIxL, s_oSlT, s_oSlL, s_oRevT, s_oRevL, s_oInt, s_oIntB, s_oAbs, s_oMax2, s_oMin2, s_oLen, s_plenT, s_plenL, s_plenD, s_plenS, s_oTupleL, s_oTupleT, s_oListL, s_oListT, List.set_cons_succ, List.set_cons_zero, List.append_nil, true_and, x_bl, x_int, x_some, x_addT, x_addL, x_true, x_false]
    refine ⟨rfl, n, v, rfl, hv, hvx, ?_⟩
    rw [hd]
    refine ⟨.bl d, rfl, trivial, true, rfl, ?_⟩
    rw [if_neg (by decide)]
    refine ⟨n, sch, rfl, by omega, ?_⟩
    try simp only [s_mVar0, s_mVarS, s_mVarO0, s_mVarOS, s_isObj_lst, s_isObj_dic, s_mC, s_mOp, s_mOp1, s_mB, s_mNil, s_mCons, s_mTup, s_mLst, s_mCall, s_mTB, s_mNot, s_mAnd, s_mOr, s_mAndV, s_mOrV, s_mIf, s_mYes, s_mSl, s_mNo, s_mPart, s_mLc, s_mItems, s_mRng1, s_mRng2, s_mEnum, s_mChain, s_seqT, s_seqL, s_sNext, s_sSeq, s_sIf, s_sSet, s_sRet, s_sRetN, s_sBreak, s_sCont, s_sDrop, s_sPar, s_setN0, s_setNS, s_sAsg, s_sApp, s_sAug, s_sFor, s_sSrc, s_gmN, s_gmT, s_gmCons, s_gmNil, s_wipe0, s_wipeS, s_oSub, s_oAddI, s_oAdd, s_oLt, s_oLe, s_oGt, s_oGe, s_oNeg, s_oNot, s_oMul, s_oMulW, s_oMod, s_oFdiv, s_oPow, s_oIsN, s_oNotN, s_oIsB, s_oNotB, s_isNon_int, s_isNon_non, s_isNon_bl, s_isNon_str, s_isNon_tup, s_isNon_lst, s_isNon_dic, s_oEqI, s_oNeI, s_oIxT, s_oIxL, s_oSlT, s_oSlL, s_oRevT, s_oRevL, s_oInt, s_oIntB, s_oAbs, s_oMax2, s_oMin2, s_oLen, s_plenT, s_plenL, s_plenD, s_plenS, s_oTupleL, s_oTupleT, s_oListL, s_oListT, List.set_cons_succ, List.set_cons_zero, List.append_nil, true_and, x_bl, x_int, x_some, x_addT, x_addL, x_true, x_false]
    refine ⟨n, sch, rfl, by omega, .tup ((eps n sch).map eE), rfl, lk_pairs ?_, true, rfl, ?_⟩
    · unfold eps; rw [List.length_zip]; simp; omega
    rw [if_neg (by decide)]
    refine ⟨costs, sch, rfl, by omega, fun y hy => by obtain ⟨a, b⟩ := hsb y hy; omega, ?_⟩
    try simp only [s_mVar0, s_mVarS, s_mVarO0, s_mVarOS, s_isObj_lst, s_isObj_dic, s_mC, s_mOp, s_mOp1, s_mB, s_mNil, s_mCons, s_mTup, s_mLst, s_mCall, s_mTB, s_mNot, s_mAnd, s_mOr, s_mAndV, s_mOrV, s_mIf, s_mYes, s_mSl, s_mNo, s_mPart, s_mLc, s_mItems, s_mRng1, s_mRng2, s_mEnum, s_mChain, s_seqT, s_seqL, s_sNext, s_sSeq, s_sIf, s_sSet, s_sRet, s_sRetN, s_sBreak, s_sCont, s_sDrop, s_sPar, s_setN0, s_setNS, s_sAsg, s_sApp, s_sAug, s_sFor, s_sSrc, s_gmN, s_gmT, s_gmCons, s_gmNil, s_wipe0, s_wipeS, s_oSub, s_oAddI, s_oAdd, s_oLt, s_oLe, s_oGt, s_oGe, s_oNeg, s_oNot, s_oMul, s_oMulW, s_oMod, s_oFdiv, s_oPow, s_oIsN, s_oNotN, s_oIsB, s_oNotB, s_isNon_int, s_isNon_non, s_isNon_bl, s_isNon_str, s_isNon_tup, s_isNon_lst, s_isNon_dic, s_oEqI, s_oNeI, s_oIxT, s_oIxL, s_oSlT, s_oSlL, s_oRevT, s_oRevL, s_oInt, s_oIntB, s_oAbs, s_oMax2, s_oMin2, s_oLen, s_plenT, s_plenL, s_plenD, s_plenS, s_oTupleL, s_oTupleT, s_oListL, s_oListT, List.set_cons_succ, List.set_cons_zero, List.append_nil, true_and, x_bl, x_int, x_some, x_addT, x_addL, x_true, x_false]
    refine comp_map (emb := PV.int) (xs := sch) (f := fun y => .int (costs.getD y.toNat 0)) (fun y hy => ⟨_, fun k hk => s_gmN.mpr hk, fun Q hQ => hQ, fun Q hQ => ?_⟩) (line (by omega)) (oSum_map ?_)
    · obtain ⟨a, b⟩ := hsb y hy
      show mOp oIx (mVar 5) (mVar 13) [some (.scr ns), some .src, some (.int n), some (crs lots), some (.int (gr lots)), some (tI costs), some (.int (0 + (x : Int))), some (tI sch), some (.tup ((eps n sch).map eE)), y9, some v, some (.bl d), y12, some (.int y)] Q
      try simp only [s_mVar0, s_mVarS, s_mVarO0, s_mVarOS, s_isObj_lst, s_isObj_dic, s_mC, s_mOp, s_mOp1, s_mB, s_mNil, s_mCons, s_mTup, s_mLst, s_mCall, s_mTB, s_mNot, s_mAnd, s_mOr, s_mAndV, s_mOrV, s_mIf, s_mYes, s_mSl, s_mNo, s_mPart, s_mLc, s_mItems, s_mRng1, s_mRng2, s_mEnum, s_mChain, s_seqT, s_seqL, s_sNext, s_sSeq, s_sIf, s_sSet, s_sRet, s_sRetN, s_sBreak, s_sCont, s_sDrop, s_sPar, s_setN0, s_setNS, s_sAsg, s_sApp, s_sAug, s_sFor, s_sSrc, s_gmN, s_gmT, s_gmCons, s_gmNil, s_wipe0, s_wipeS, s_oSub, s_oAddI, s_oAdd, s_oLt, s_oLe, s_oGt, s_oGe, s_oNeg, s_oNot, s_oMul, s_oMulW, s_oMod, s_oFdiv, s_oPow, s_oIsN, s_oNotN, s_oIsB, s_oNotB, s_isNon_int, s_isNon_non, s_isNon_bl, s_isNon_str, s_isNon_tup, s_isNon_lst, s_isNon_dic, s_oEqI, s_oNeI, s_oIxT, s_oIxL, s_oSlT, s_oSlL, s_oRevT, s_oRevL, s_oInt, s_oIntB, s_oAbs, s_oMax2, s_oMin2, s_oLen, s_plenT, s_plenL, s_plenD, s_plenS, s_oTupleL, s_oTupleT, s_oListL, s_oListT, List.set_cons_succ, List.set_cons_zero, List.append_nil, true_and, x_bl, x_int, x_some, x_addT, x_addL, x_true, x_false]
      refine ⟨_, ?_, hQ⟩
      have l : y.toNat < costs.length := by omega
      rw [atI_map, atI_nn a (by omega), List.getElem?_eq_getElem l, List.getD_eq_getElem?_getD, List.getElem?_eq_getElem l]
      rfl
    refine ⟨_, rfl, trivial, true, rfl, ?_⟩
    rw [if_neg (by decide)]
    refine ⟨7, rfl, by decide, by decide, fun q q0 q7 => ?_⟩
    try simp only [s_mVar0, s_mVarS, s_mVarO0, s_mVarOS, s_isObj_lst, s_isObj_dic, s_mC, s_mOp, s_mOp1, s_mB, s_mNil, s_mCons, s_mTup, s_mLst, s_mCall, s_mTB, s_mNot, s_mAnd, s_mOr, s_mAndV, s_mOrV, s_mIf, s_mYes, s_mSl, s_mNo, s_mPart, s_mLc, s_mItems, s_mRng1, s_mRng2, s_mEnum, s_mChain, s_seqT, s_seqL, s_sNext, s_sSeq, s_sIf, s_sSet, s_sRet, s_sRetN, s_sBreak, s_sCont, s_sDrop, s_sPar, s_setN0, s_setNS, s_sAsg, s_sApp, s_sAug, s_sFor, s_sSrc, s_gmN, s_gmT, s_gmCons, s_gmNil, s_wipe0, s_wipeS, s_oSub, s_oAddI, s_oAdd, s_oLt, s_oLe, s_oGt, s_oGe, s_oNeg, s_oNot, s_oMul, s_oMulW, s_oMod, s_oFdiv, s_oPow, s_oIsN, s_oNotN, s_oIsB, s_oNotB, s_isNon_int, s_isNon_non, s_isNon_bl, s_isNon_str, s_isNon_tup, s_isNon_lst, s_isNon_dic, s_oEqI, s_oNeI, s_oIxT, s_oIxL, s_oSlT, s_oSlL, s_oRevT, s_oRevL, s_oInt, s_oIntB, s_oAbs, s_oMax2, s_oMin2, s_oLen, s_plenT, s_plenL, s_plenD, s_plenS, s_oTupleL, s_oTupleT, s_oListL, s_oListT, List.set_cons_succ, List.set_cons_zero, List.append_nil, true_and, x_bl, x_int, x_some, x_addT, x_addL, x_true, x_false]
    generalize (if (gr lots : Int) + q - 1 > 0 then (gr lots : Int) + q - 1 else 0) = t
    have hep : ∀ p ∈ eps n sch, Ep lots.length p := eps_ep (by omega) fun y hy => (hsb y hy).1
    refine ⟨lots, t, sch, rfl, hg, by omega, by rw [hlen]; exact hep, lots, t, eps n sch, rfl, hg, hep, .bl ((eps n sch).all (secB lots t)), by rw [hlen], trivial, true, rfl, ?_⟩
    rw [if_neg (by decide)]
    refine ⟨lots, t, rfl, hg, lots, t, rfl, hg, _, rfl, lk_few (by omega), true, rfl, ?_⟩
    rw [if_neg (by decide)]
    exact hN _ ⟨_, _, _, _, _, _, _, _, rfl⟩
  · obtain ⟨y6, y7, y8, y9, y10, y11, y12, y13, rfl⟩ := hE
    try simp only [s_mVar0, s_mVarS, s_mVarO0, s_mVarOS, s_isObj_lst, s_isObj_dic, s_mC, s_mOp, s_mOp1, s_mB, s_mNil, s_mCons, s_mTup, s_mLst, s_mCall, s_mTB, s_mNot, s_mAnd, s_mOr, s_mAndV, s_mOrV, s_mIf, s_mYes, s_mSl, s_mNo, s_mPart, s_mLc, s_mItems, s_mRng1, s_mRng2, s_mEnum, s_mChain, s_seqT, s_seqL, s_sNext, s_sSeq, s_sIf, s_sSet, s_sRet, s_sRetN, s_sBreak, s_sCont, s_sDrop, s_sPar, s_setN0, s_setNS, s_sAsg, s_sApp, s_sAug, s_sFor, s_sSrc, s_gmN, s_gmT, s_gmCons, s_gmNil, s_wipe0, s_wipeS, s_oSub, s_oAddI, s_oAdd, s_oLt, s_oLe, s_oGt, s_oGe, s_oNeg, s_oNot, s_oMul, s_oMulW, s_oMod, s_oFdiv, s_oPow, s_oIsN, s_oNotN, s_oIsB, s_oNotB, s_isNon_int, s_isNon_non, s_isNon_bl, s_isNon_str, s_isNon_tup, s_isNon_lst, s_isNon_dic, s_oEqI, s_oNeI, s_oIxT, s_oIxL, s_oSlT, s_oSlL, s_oRevT, s_oRevL, s_oInt, s_oIntB, s_oAbs, s_oMax2, s_oMin2, s_oLen, s_plenT, s_plenL, s_plenD, s_plenS, s_oTupleL, s_oTupleT, s_oListL, s_oListT, List.set_cons_succ, List.set_cons_zero, List.append_nil, true_and, x_bl, x_int, x_some, x_addT, x_addL, x_true, x_false]
    refine ⟨lots, rfl, hg, h0, lots, rfl, hg, h0, _, rfl, lk_pairs ?_, rfl⟩
    have := stL_len (lots := lots) (n := most lots + 1 - gr lots)
    have := most_small hg
    unfold stL
    omega
end K44

set_option maxHeartbeats 4000000
namespace K44
open PySem L2 PM
/-! ### the maker of a heap -/
section
variable {P : Program} {w : World} {K : PySem.W.Frag} {mg : Str → Option Value} {base : Heap}
theorem src_m {x qual : Str} {st : Stmt} {f : Addr} {fd : FuncData} {N pns : List Str} {k : Nat} {t : TSm} {dvs : List V} (F : FunD K x qual (defArgs st) (defBody st) (defScope st) dvs [] f fd) (S : FnScope N pns (defScope st)) (h1 : pns.length = 1)
    (hbody : ∀ (cdv : Value) (A : Around) (outer : List PySem.Env) (s : Shared) (H : Hp) (E : XK), Room k (A.deeper (PyProof.Rows.envOfC qual (defScope st) s.heap.objs.size f cdv)) → ∃ c', PSsm (bodyX P w K mg base N qual st f cdv A outer s H E) ⟨.cl, false, []⟩ (shs N.length) c' (defBody st) t)
    (hok : ∀ ns : List Int, ns.length ≤ 63 → t { nx := fun _ => False, rt := fun p => ∃ (cs : List Nat) (s : Nat), p = .lst [.lst (cs.map fun (c : Nat) => PV.int (c : Int)), .int (s : Int)] ∧ cs.length ≤ 63 ∧ s < 2147483647 } (startE N.length [.scr ns])) : FnOk P w K mg base CX0 (k + 1) f fd pns (spSrc K ok_heap) := by
  refine F.ok S (fun vs H Q E h => ?_) (fun cdv A outer s H vs Q E hr h => ?_)
  · obtain ⟨Z, W, ps, _, _, _, r, ⟨ns, e, _⟩, _⟩ := h
    rw [← r.len, e]; exact h1.symm
  · obtain ⟨Z, W, ps, hz, hs, hwz, r, ⟨ns, e, hl⟩, q⟩ := h
    subst e
    obtain ⟨a, rfl, ha⟩ : ∃ a, vs = [.ref a] ∧ ((¬ Z a ∧ ∃ o, H a = some (.frz o (.lst (ns.map V.int)))) ∨ KLst K a (ns.map V.int)) := by
      unfold Rps at r
      obtain ⟨v, r', rfl, h1, h2⟩ := r
      unfold Rps at h2
      subst h2
      unfold Rp at h1
      obtain ⟨a, rfl, h⟩ := h1
      exact ⟨a, rfl, h⟩
    have r2 : Rps K ⟨fun b => (fun b => ∃ o, H b = some o ∧ ∀ o' u, o ≠ .frz o' u) b ∨ inW [] b, [], H⟩ [.scr ns] [.ref a] := by
      refine Rps.cons ?_ Rps.nil
      unfold Rp
      refine ⟨a, rfl, ?_⟩
      rcases ha with ⟨_, o, ho⟩ | hk
      · exact .inl ⟨fun z => z.elim (fun ⟨o', h1, h2⟩ => by rw [ho] at h1; cases h1; exact h2 _ _ rfl) (fun ⟨p, hp, _⟩ => by cases hp), o, ho⟩
      · exact .inr hk
    have hsr : SR K ⟨false, fun b => ∃ o, H b = some o ∧ ∀ o' u, o ≠ .frz o' u, [], H, fun _ => none, [], []⟩ (shs N.length) (fun _ => none) [] (startE N.length [.scr ns]) (L2.start N [.ref a]) H := SR.start (fun _ ⟨o, h1, _⟩ => ⟨o, h1⟩) (fun _ z => by cases z) r2
    obtain ⟨c', hb⟩ := hbody cdv A outer s H E hr
    refine ⟨_, hb.run.nox, ⟨false, fun b => ∃ o, H b = some o ∧ ∀ o' u, o ≠ .frz o' u, [], H, fun _ => none, [], []⟩, fun _ => none, [], startE N.length [.scr ns], _, rfl, hsr, hok ns hl, ⟨fun _ _ _ _ _ _ z => z.elim, fun p v H' hr hp => ?_, fun _ _ _ _ _ _ z => z.elim, fun _ _ _ _ _ _ z => z.elim⟩⟩
    obtain ⟨cs, s', rfl, hc, hs'⟩ := hp
    obtain ⟨W', _, hW, _, keep, rv⟩ := hr
    have eW : W' = [] := hW rfl
    subst eW
    have rv' := rv.c
    unfold Rp at rv'
    obtain ⟨a1, vs, rfl, l1, rs⟩ := rv'
    unfold Rps at rs
    obtain ⟨v1, r1, rfl, h2, rs⟩ := rs
    unfold Rps at rs
    obtain ⟨v2, r2, rfl, h3, rs⟩ := rs
    unfold Rps at rs
    subst rs
    unfold Rp at h2 h3
    obtain ⟨b1, ws, rfl, l2, rs⟩ := h2
    subst h3
    have ew : ws = cs.map fun (c : Nat) => V.int (c : Int) := by
      have e : (cs.map fun (c : Nat) => PV.int (c : Int)) = (cs.map fun (c : Nat) => (c : Int)).map PV.int := by rw [List.map_map]; rfl
      rw [e] at rs
      rw [Rps.ints.mp rs, List.map_map]; rfl
    have gr : ∀ b o, H b = some o → H' b = some o := fun b o e => keep b o (fun ⟨p, hp, _⟩ => by cases hp) e
    have fresh : ∀ b xs, ¬ ((fun b => ∃ o, H b = some o ∧ ∀ o' u, o ≠ .frz o' u) b ∨ inW [] b) → H' b = some (.lst xs) → H b = none := fun b xs nz hb => by
      cases e : H b with
      | none => rfl
      | some o =>
        refine absurd (.inl ⟨o, e, fun o' u z => ?_⟩) nz
        rw [gr _ _ e, z] at hb
        cases hb
    have n1 := fresh a1 _ l1.1 l1.2
    have n2 := fresh b1 _ l2.1 l2.2
    refine q H' (a1, b1) gr n1 n2 ⟨fun z => ?_, cs, s', hc, hs', l1.2, by rw [← ew]; exact l2.2⟩
    have e1 : H' a1 = some (.lst [.ref b1, .int (s' : Int)]) := l1.2
    have e2 : H' b1 = some (.lst ws) := l2.2
    have z' : a1 = b1 := z
    rw [z', e2, ew] at e1
    cases cs with
    | nil => cases e1
    | cons c cs => cases e1
theorem h_l_heap (ns : List Int) (hl : ns.length ≤ 63) : t_l_heap { nx := fun _ => False, rt := fun p => ∃ (cs : List Nat) (s : Nat), p = .lst [.lst (cs.map fun (c : Nat) => PV.int (c : Int)), .int (s : Int)] ∧ cs.length ≤ 63 ∧ s < 2147483647 } (startE n_l_heap.length [.scr ns]) := by
  show t_l_heap _ [some (.scr ns), none, none, none, none]
  unfold t_l_heap
  try simp only [s_mVar0, s_mVarS, s_mVarO0, s_mVarOS, s_isObj_lst, s_isObj_dic, s_mC, s_mOp, s_mOp1, s_mB, s_mNil, s_mCons, s_mTup, s_mLst, s_mCall, s_mTB, s_mNot, s_mAnd, s_mOr, s_mAndV, s_mOrV, s_mIf, s_mYes, s_mSl, s_mNo, s_mPart, s_mLc, s_mItems, s_mRng1, s_mRng2, s_mEnum, s_mChain, s_seqT, s_seqL, s_sNext, s_sSeq, s_sIf, s_sSet, s_sRet, s_sRetN, s_sBreak, s_sCont, s_sDrop, s_sPar, s_setN0, s_setNS, s_sAsg, s_sApp, s_sAug, s_sFor, s_sSrc, s_gmN, s_gmT, s_gmCons, s_gmNil, s_wipe0, s_wipeS, s_oSub, s_oAddI, s_oAdd, s_oLt, s_oLe, s_oGt, s_oGe, s_oNeg, s_oNot, s_oMul, s_oMulW, s_oMod, s_oFdiv, s_oPow, s_oIsN, s_oNotN, s_oIsB, s_oNotB, s_isNon_int, s_isNon_non, s_isNon_bl, s_isNon_str, s_isNon_tup, s_isNon_lst, s_isNon_dic, s_oEqI, s_oNeI, s_oIxT, s_oIxL, s_oSlT, s_oSlL, s_oRevT, s_oRevL, s_oInt, s_oIntB, s_oAbs, s_oMax2, s_oMin2, s_oLen, s_plenT, s_plenL, s_plenD, s_plenS, s_oTupleL, s_oTupleT, s_oListL, s_oListT, List.set_cons_succ, List.set_cons_zero, List.append_nil, true_and, x_bl, x_int, x_some, x_addT, x_addL, x_true, x_false]
  refine ⟨⟨by decide, by decide, by decide⟩, ⟨by decide, by decide, by decide⟩, by unfold CMulW; decide +kernel, ⟨by decide, by decide, by decide⟩, by unfold CMulW; decide +kernel, ?_⟩
  generalize hgt : ((10 : Int) ^ (60 : Int).toNat * 10 ^ (60 : Int).toNat * 10 ^ (60 : Int).toNat) = great
  have hg0 : 0 < great := by rw [← hgt]; decide +kernel
  refine ⟨ns, rfl, ?_⟩
  refine ⟨_, rfl, ?_⟩
  rw [cutP_map]
  obtain ⟨xs, hxs, hxl⟩ : ∃ xs : List Int, (ns.drop (HT.sIx ns.length 0 none)).take (HT.sIx ns.length ns.length (some 60) - HT.sIx ns.length 0 none) = xs ∧ xs.length ≤ 63 := ⟨_, rfl, by rw [List.length_take, List.length_drop]; omega⟩
  rw [hxs]
  obtain ⟨fc, hfc⟩ : ∃ fc : Int → Int, fc = fun x => (2 * (if x < 0 then -x else x) + (if decide (x < 0) = true then 1 else 0)) % great := ⟨_, rfl⟩
  have fc0 : ∀ x, 0 ≤ fc x := fun x => by rw [hfc]; exact Int.emod_nonneg _ (by omega)
  refine comp_map (emb := PV.int) (xs := xs) (f := fun x => .int (fc x)) (fun x hx => ⟨_, fun k hk => s_gmN.mpr hk, fun Q hQ => hQ, fun Q hQ => ?_⟩) (line (by omega)) ?_
  · show mOp oMod _ (mVar 1) [some (.scr ns), some (.int great), some (.int x), none, none] Q
    try simp only [s_mVar0, s_mVarS, s_mVarO0, s_mVarOS, s_isObj_lst, s_isObj_dic, s_mC, s_mOp, s_mOp1, s_mB, s_mNil, s_mCons, s_mTup, s_mLst, s_mCall, s_mTB, s_mNot, s_mAnd, s_mOr, s_mAndV, s_mOrV, s_mIf, s_mYes, s_mSl, s_mNo, s_mPart, s_mLc, s_mItems, s_mRng1, s_mRng2, s_mEnum, s_mChain, s_seqT, s_seqL, s_sNext, s_sSeq, s_sIf, s_sSet, s_sRet, s_sRetN, s_sBreak, s_sCont, s_sDrop, s_sPar, s_setN0, s_setNS, s_sAsg, s_sApp, s_sAug, s_sFor, s_sSrc, s_gmN, s_gmT, s_gmCons, s_gmNil, s_wipe0, s_wipeS, s_oSub, s_oAddI, s_oAdd, s_oLt, s_oLe, s_oGt, s_oGe, s_oNeg, s_oNot, s_oMul, s_oMulW, s_oMod, s_oFdiv, s_oPow, s_oIsN, s_oNotN, s_oIsB, s_oNotB, s_isNon_int, s_isNon_non, s_isNon_bl, s_isNon_str, s_isNon_tup, s_isNon_lst, s_isNon_dic, s_oEqI, s_oNeI, s_oIxT, s_oIxL, s_oSlT, s_oSlL, s_oRevT, s_oRevL, s_oInt, s_oIntB, s_oAbs, s_oMax2, s_oMin2, s_oLen, s_plenT, s_plenL, s_plenD, s_plenS, s_oTupleL, s_oTupleT, s_oListL, s_oListT, List.set_cons_succ, List.set_cons_zero, List.append_nil, true_and, x_bl, x_int, x_some, x_addT, x_addL, x_true, x_false]
    refine ⟨.inl ⟨by decide, by decide⟩, hg0, ?_⟩
    rw [hfc] at hQ
    exact hQ
  refine ⟨_, rfl, ?_⟩
  refine for_inv (emb := fun x => PV.int (fc x)) (fun i e => ∃ (s : Int) (y2 : Option PV), 0 ≤ s ∧ s < 2147483647 ∧ e = [some (.scr ns), some (.int great), y2, some (.lst (xs.map fun x => .int (fc x))), some (.int s)]) ⟨20043, none, by decide, by decide, rfl⟩ (fun i x e N hx hE hN => ?_) (fun e hE => ?_)
  · obtain ⟨s, y2, s0, s1, rfl⟩ := hE
    rw [s_gmN]
    try simp only [s_mVar0, s_mVarS, s_mVarO0, s_mVarOS, s_isObj_lst, s_isObj_dic, s_mC, s_mOp, s_mOp1, s_mB, s_mNil, s_mCons, s_mTup, s_mLst, s_mCall, s_mTB, s_mNot, s_mAnd, s_mOr, s_mAndV, s_mOrV, s_mIf, s_mYes, s_mSl, s_mNo, s_mPart, s_mLc, s_mItems, s_mRng1, s_mRng2, s_mEnum, s_mChain, s_seqT, s_seqL, s_sNext, s_sSeq, s_sIf, s_sSet, s_sRet, s_sRetN, s_sBreak, s_sCont, s_sDrop, s_sPar, s_setN0, s_setNS, s_sAsg, s_sApp, s_sAug, s_sFor, s_sSrc, s_gmN, s_gmT, s_gmCons, s_gmNil, s_wipe0, s_wipeS, s_oSub, s_oAddI, s_oAdd, s_oLt, s_oLe, s_oGt, s_oGe, s_oNeg, s_oNot, s_oMul, s_oMulW, s_oMod, s_oFdiv, s_oPow, s_oIsN, s_oNotN, s_oIsB, s_oNotB, s_isNon_int, s_isNon_non, s_isNon_bl, s_isNon_str, s_isNon_tup, s_isNon_lst, s_isNon_dic, s_oEqI, s_oNeI, s_oIxT, s_oIxL, s_oSlT, s_oSlL, s_oRevT, s_oRevL, s_oInt, s_oIntB, s_oAbs, s_oMax2, s_oMin2, s_oLen, s_plenT, s_plenL, s_plenD, s_plenS, s_oTupleL, s_oTupleT, s_oListL, s_oListT, List.set_cons_succ, List.set_cons_zero, List.append_nil, true_and, x_bl, x_int, x_some, x_addT, x_addL, x_true, x_false]
    refine ⟨.inr ⟨by decide, by decide⟩, by decide, by decide, hN _ ⟨_, _, ?_, ?_, rfl⟩⟩
    · exact Int.emod_nonneg _ (by decide)
    · exact Int.emod_lt_of_pos _ (by decide)
  · obtain ⟨s, y2, s0, s1, rfl⟩ := hE
    try simp only [s_mVar0, s_mVarS, s_mVarO0, s_mVarOS, s_isObj_lst, s_isObj_dic, s_mC, s_mOp, s_mOp1, s_mB, s_mNil, s_mCons, s_mTup, s_mLst, s_mCall, s_mTB, s_mNot, s_mAnd, s_mOr, s_mAndV, s_mOrV, s_mIf, s_mYes, s_mSl, s_mNo, s_mPart, s_mLc, s_mItems, s_mRng1, s_mRng2, s_mEnum, s_mChain, s_seqT, s_seqL, s_sNext, s_sSeq, s_sIf, s_sSet, s_sRet, s_sRetN, s_sBreak, s_sCont, s_sDrop, s_sPar, s_setN0, s_setNS, s_sAsg, s_sApp, s_sAug, s_sFor, s_sSrc, s_gmN, s_gmT, s_gmCons, s_gmNil, s_wipe0, s_wipeS, s_oSub, s_oAddI, s_oAdd, s_oLt, s_oLe, s_oGt, s_oGe, s_oNeg, s_oNot, s_oMul, s_oMulW, s_oMod, s_oFdiv, s_oPow, s_oIsN, s_oNotN, s_oIsB, s_oNotB, s_isNon_int, s_isNon_non, s_isNon_bl, s_isNon_str, s_isNon_tup, s_isNon_lst, s_isNon_dic, s_oEqI, s_oNeI, s_oIxT, s_oIxL, s_oSlT, s_oSlL, s_oRevT, s_oRevL, s_oInt, s_oIntB, s_oAbs, s_oMax2, s_oMin2, s_oLen, s_plenT, s_plenL, s_plenD, s_plenS, s_oTupleL, s_oTupleT, s_oListL, s_oListT, List.set_cons_succ, List.set_cons_zero, List.append_nil, true_and, x_bl, x_int, x_some, x_addT, x_addL, x_true, x_false]
    refine comp_emb (emb := fun x => PV.int (fc x)) (xs := xs) (tst := fun x => decide ((10 : Int) ^ 18 ≤ fc x)) (f := fun x => .int (fc x)) (fun x hx => ⟨_, fun k hk => s_gmN.mpr hk, fun Q hQ => ?_, fun _ Q hQ => ?_⟩) (by rw [List.length_nil, Nat.zero_add]; exact line (by omega)) ?_
    · show mTB _ [some (.scr ns), some (.int great), some (.int (fc x)), some (.lst (xs.map fun x => .int (fc x))), some (.int s)] Q
      try simp only [s_mVar0, s_mVarS, s_mVarO0, s_mVarOS, s_isObj_lst, s_isObj_dic, s_mC, s_mOp, s_mOp1, s_mB, s_mNil, s_mCons, s_mTup, s_mLst, s_mCall, s_mTB, s_mNot, s_mAnd, s_mOr, s_mAndV, s_mOrV, s_mIf, s_mYes, s_mSl, s_mNo, s_mPart, s_mLc, s_mItems, s_mRng1, s_mRng2, s_mEnum, s_mChain, s_seqT, s_seqL, s_sNext, s_sSeq, s_sIf, s_sSet, s_sRet, s_sRetN, s_sBreak, s_sCont, s_sDrop, s_sPar, s_setN0, s_setNS, s_sAsg, s_sApp, s_sAug, s_sFor, s_sSrc, s_gmN, s_gmT, s_gmCons, s_gmNil, s_wipe0, s_wipeS, s_oSub, s_oAddI, s_oAdd, s_oLt, s_oLe, s_oGt, s_oGe, s_oNeg, s_oNot, s_oMul, s_oMulW, s_oMod, s_oFdiv, s_oPow, s_oIsN, s_oNotN, s_oIsB, s_oNotB, s_isNon_int, s_isNon_non, s_isNon_bl, s_isNon_str, s_isNon_tup, s_isNon_lst, s_isNon_dic, s_oEqI, s_oNeI, s_oIxT, s_oIxL, s_oSlT, s_oSlL, s_oRevT, s_oRevL, s_oInt, s_oIntB, s_oAbs, s_oMax2, s_oMin2, s_oLen, s_plenT, s_plenL, s_plenD, s_plenS, s_oTupleL, s_oTupleT, s_oListL, s_oListT, List.set_cons_succ, List.set_cons_zero, List.append_nil, true_and, x_bl, x_int, x_some, x_addT, x_addL, x_true, x_false]
      exact ⟨⟨by decide, by decide, by decide⟩, hQ⟩
    · show mVar 2 [some (.scr ns), some (.int great), some (.int (fc x)), some (.lst (xs.map fun x => .int (fc x))), some (.int s)] Q
      try simp only [s_mVar0, s_mVarS, s_mVarO0, s_mVarOS, s_isObj_lst, s_isObj_dic, s_mC, s_mOp, s_mOp1, s_mB, s_mNil, s_mCons, s_mTup, s_mLst, s_mCall, s_mTB, s_mNot, s_mAnd, s_mOr, s_mAndV, s_mOrV, s_mIf, s_mYes, s_mSl, s_mNo, s_mPart, s_mLc, s_mItems, s_mRng1, s_mRng2, s_mEnum, s_mChain, s_seqT, s_seqL, s_sNext, s_sSeq, s_sIf, s_sSet, s_sRet, s_sRetN, s_sBreak, s_sCont, s_sDrop, s_sPar, s_setN0, s_setNS, s_sAsg, s_sApp, s_sAug, s_sFor, s_sSrc, s_gmN, s_gmT, s_gmCons, s_gmNil, s_wipe0, s_wipeS, s_oSub, s_oAddI, s_oAdd, s_oLt, s_oLe, s_oGt, s_oGe, s_oNeg, s_oNot, s_oMul, s_oMulW, s_oMod, s_oFdiv, s_oPow, s_oIsN, s_oNotN, s_oIsB, s_oNotB, s_isNon_int, s_isNon_non, s_isNon_bl, s_isNon_str, s_isNon_tup, s_isNon_lst, s_isNon_dic, s_oEqI, s_oNeI, s_oIxT, s_oIxL, s_oSlT, s_oSlL, s_oRevT, s_oRevL, s_oInt, s_oIntB, s_oAbs, s_oMax2, s_oMin2, s_oLen, s_plenT, s_plenL, s_plenD, s_plenS, s_oTupleL, s_oTupleT, s_oListL, s_oListT, List.set_cons_succ, List.set_cons_zero, List.append_nil, true_and, x_bl, x_int, x_some, x_addT, x_addL, x_true, x_false]
      exact hQ
    rw [List.nil_append]
    refine s_oRevL.mpr ⟨line (by simp), ((xs.filter fun x => decide ((10 : Int) ^ 18 ≤ fc x)).reverse.map fun x => (fc x).toNat), s.toNat, ?_, ?_, by omega⟩
    · rw [List.map_map, ← List.map_reverse, Int.toNat_of_nonneg s0]
      congr 3
      exact List.map_congr_left fun x _ => by show PV.int (fc x) = PV.int ((fc x).toNat : Int); rw [Int.toNat_of_nonneg (fc0 x)]
    · rw [List.length_map, List.length_reverse]
      exact Nat.le_trans (List.length_filter_le _ _) hxl
end
end K44

set_option maxHeartbeats 1000000
/-! The draw of a heap [cells, stir], by hand. -/
namespace PM
open PySem L2
theorem SA.cells {W : Ws} {H : Hp} {p : Addr × Addr} (hs : ∀ q ∈ W, SA H q) (hp : p ∈ W) {cs : List Nat} (l : cs.length ≤ 63) : ∀ q ∈ W, SA (upd H p.2 (.lst (cs.map fun (c : Nat) => V.int (c : Int)))) q := fun q hq => by
  obtain ⟨np, csp, sp, lp, bp, ap, cp⟩ := hs p hp
  obtain ⟨n, c0, s0, l0, b0, a, b⟩ := hs q hq
  have h1 : q.1 ≠ p.2 := fun z => by
    rw [z, cp] at a
    cases csp with
    | nil => cases a
    | cons x xs => cases a
  by_cases h2 : q.2 = p.2
  · exact ⟨n, cs, s0, l, b0, by rw [upd_ne h1]; exact a, by rw [h2, upd_same]⟩
  · exact ⟨n, c0, s0, l0, b0, by rw [upd_ne h1]; exact a, by rw [upd_ne h2]; exact b⟩
theorem SA.stir {W : Ws} {H : Hp} {p : Addr × Addr} (hs : ∀ q ∈ W, SA H q) (hp : p ∈ W) {s : Nat} (l : s < 2147483647) : ∀ q ∈ W, SA (upd H p.1 (.lst [.ref p.2, .int (s : Int)])) q := fun q hq => by
  obtain ⟨np, csp, sp, lp, bp, ap, cp⟩ := hs p hp
  obtain ⟨n, c0, s0, l0, b0, a, b⟩ := hs q hq
  have h1 : q.2 ≠ p.1 := fun z => by
    rw [z, ap] at b
    cases c0 with
    | nil => cases b
    | cons x xs => cases b
  by_cases h2 : q.1 = p.1
  · have e : q.2 = p.2 := by rw [h2, ap] at a; simp at a; exact a.1.symm
    exact ⟨n, c0, s, l0, l, by rw [h2, upd_same, e], by rw [upd_ne h1]; exact b⟩
  · exact ⟨n, c0, s0, l0, b0, by rw [upd_ne h2]; exact a, by rw [upd_ne h1]; exact b⟩
theorem Grow.cells {W : Ws} {H H' : Hp} (g : Grow W H H') {p : Addr × Addr} (hp : p ∈ W) {cs : List Nat} (l : cs.length ≤ 63) : Grow W H (upd H' p.2 (.lst (cs.map fun (c : Nat) => V.int (c : Int)))) :=
  ⟨fun b o n e => by rw [upd_ne (fun z => n ⟨p, hp, .inr z⟩)]; exact g.keep b o n e, SA.cells g.src hp l⟩
theorem Grow.stir {W : Ws} {H H' : Hp} (g : Grow W H H') {p : Addr × Addr} (hp : p ∈ W) {s : Nat} (l : s < 2147483647) : Grow W H (upd H' p.1 (.lst [.ref p.2, .int (s : Int)])) :=
  ⟨fun b o n e => by rw [upd_ne (fun z => n ⟨p, hp, .inl z⟩)]; exact g.keep b o n e, SA.stir g.src hp l⟩
theorem dp_ints {K : PySem.W.Frag} {H : Hp} : ∀ cs : List Nat, DpAll K H (cs.map fun (c : Nat) => V.int (c : Int)) (cs.map fun (c : Nat) => PyData.int (c : Int))
  | [] => .nil
  | c :: cs => .cons (.int _) (dp_ints cs)
theorem lay_ints : ∀ cs : List Nat, PyData.canLayAll0 (cs.map fun (c : Nat) => PyData.int (c : Int)) = true ∧ PyData.depthAll (cs.map fun (c : Nat) => PyData.int (c : Int)) = 0
  | [] => ⟨rfl, rfl⟩
  | c :: cs => by
    obtain ⟨h1, h2⟩ := lay_ints cs
    constructor
    · show (PyData.canLay0 (.int (c : Int)) && PyData.canLayAll0 _) = true
      rw [h1]; rfl
    · show max (PyData.depth (.int (c : Int))) (PyData.depthAll _) = 0
      rw [h2]; rfl
theorem shaped_ints (cs : List Nat) : SeqAt.shaped (.list (cs.map fun (c : Nat) => PyData.int (c : Int))) = true := by
  unfold SeqAt.shaped
  rw [show PyData.canLay0 (.list (cs.map fun (c : Nat) => PyData.int (c : Int))) = true from (lay_ints cs).1]
  rw [show PyData.depth (.list (cs.map fun (c : Nat) => PyData.int (c : Int))) = PyData.depthAll (cs.map fun (c : Nat) => PyData.int (c : Int)) + 1 from rfl, (lay_ints cs).2]
  rfl
theorem eqv_ints_nil (cs : List Nat) : PyData.eqv (.list (cs.map fun (c : Nat) => PyData.int (c : Int))) (.list []) = cs.isEmpty := by
  cases cs with
  | nil => rfl
  | cons c cs => rfl
def sp_draw : PM.Spec := fun ps P => ∃ many : Int, ps = [.src, .int many] ∧ 0 < many ∧ many < 1073741824 ∧ ∀ r, 0 ≤ r → r < many → P (.int r)
/-- heap[0] != [] -/
theorem draw_ne {K : PySem.W.Frag} {W : Ws} {H H' : Hp} {p : Addr × Addr} {m : Int} {y : Option V} (g : Grow W H H') (hp : p ∈ W) {Q : VK}
    (h : ∀ (cs : List Nat) (s : Nat) H2, H' p.2 = some (.lst (cs.map fun (c : Nat) => V.int (c : Int))) → Grow W H H2 → cs.length ≤ 63 → s < 2147483647 → H2 p.1 = some (.lst [.ref p.2, .int (s : Int)]) → H2 p.2 = some (.lst (cs.map fun (c : Nat) => V.int (c : Int))) → Q (.bl (!cs.isEmpty)) H2) :
    tOp (rNeD K) (tOp (rIx K) (tVar 0) (tC (.int 0))) (tLst tNil) [some (.ref p.1), some (.int m), y] H' Q := by
  obtain ⟨n, cs, s, l, b, e1, e2⟩ := g.src p hp
  refine ⟨.ref p.1, rfl, .inl ⟨p.1, _, 0, .ref p.2, rfl, rfl, .inl (.inl e1), rfl, Nat.zero_le _, fun c nc => ?_⟩⟩
  have g2 := g.trans (Grow.new (o := .lst []) g.src nc)
  have f1 : upd H' c (.lst []) p.1 = some (.lst [.ref p.2, .int (s : Int)]) := by rw [upd_ne (ne_of_none e1 nc)]; exact e1
  have f2 : upd H' c (.lst []) p.2 = some (.lst (cs.map fun (c : Nat) => V.int (c : Int))) := by rw [upd_ne (ne_of_none e2 nc)]; exact e2
  refine ⟨.list (cs.map fun (c : Nat) => PyData.int (c : Int)), .list [], .lst (.inl (.inl f2)) (dp_ints cs), .lst (.inl (.inl upd_same)) .nil, shaped_ints cs, rfl, ?_⟩
  rw [eqv_ints_nil]
  exact h cs s _ e2 g2 l b f1 f2
theorem map_int_inj : ∀ {xs ys : List Nat}, (xs.map fun (c : Nat) => V.int (c : Int)) = (ys.map fun (c : Nat) => V.int (c : Int)) → xs = ys
  | [], [], _ => rfl
  | [], _ :: _, h => by cases h
  | _ :: _, [], h => by cases h
  | x :: xs, y :: ys, h => by
    rw [List.map_cons, List.map_cons] at h
    injection h with h1 h2
    have e : x = y := by
      have e : (x : Int) = (y : Int) := V.int.inj h1
      omega
    rw [e, map_int_inj h2]
theorem rev_end {cs : List Nat} (h : cs ≠ []) : ∃ r c, cs = r ++ [c] := ⟨cs.dropLast, cs.getLast h, (List.dropLast_concat_getLast h).symm⟩
theorem at_end (r : List Nat) (c : Nat) : atI ((r ++ [c]).map fun (c : Nat) => V.int (c : Int)) (-1) = some (.int (c : Int)) := by
  unfold atI ixN
  rw [List.length_map, List.length_append, List.length_singleton, if_neg (by decide), if_pos (by omega)]
  show ((r ++ [c]).map fun (c : Nat) => V.int (c : Int))[((-1 : Int) + ((r.length + 1 : Nat) : Int)).toNat]? = _
  rw [show ((-1 : Int) + ((r.length + 1 : Nat) : Int)).toNat = r.length by omega, List.map_append, List.getElem?_append_right (by rw [List.length_map]; exact Nat.le_refl _), List.length_map, Nat.sub_self]
  rfl
theorem draw_loop {K : PySem.W.Frag} {W : Ws} {H : Hp} {p : Addr × Addr} {m : Int} {D : Ends} (hs : ∀ q ∈ W, SA H q) (hp : p ∈ W) (hnx : ∀ H2, Grow W H H2 → D.nx [some (.ref p.1), some (.int m), none] H2) :
    tWhile (tAnd (tTest (tOp (rNeD K) (tOp (rIx K) (tVar 0) (tC (.int 0))) (tLst tNil))) (tTest (tOp (rEqD K) (tOp (rIx K) (tOp (rIx K) (tVar 0) (tC (.int 0))) (tUn (rU fun i => V.int (-i)) (tC (V.int 1)))) (tC (V.int 0)))))
      (tDrop (tBM0 K "list" rPop (tOp (rIx K) (tVar 0) (tC (.int 0))))) D [some (.ref p.1), some (.int m), none] H := by
  refine ⟨fun i σ H1 => σ = [some (.ref p.1), some (.int m), none] ∧ Grow W H H1 ∧ ∃ cs : List Nat, cs.length = i ∧ H1 p.2 = some (.lst (cs.map fun (c : Nat) => V.int (c : Int))), ?_, fun i σ H1 hW => ?_⟩
  · obtain ⟨n, cs, s, l, b, e1, e2⟩ := hs p hp
    exact ⟨cs.length, rfl, Grow.refl hs, cs, rfl, e2⟩
  · obtain ⟨rfl, g1, cs0, hl0, e0⟩ := hW
    refine draw_ne g1 hp fun cs s H2 e3 g2 l b e1 e2 => ⟨_, rfl, ?_⟩
    have ec : cs = cs0 := map_int_inj (by rw [e0] at e3; simpa using e3.symm)
    subst ec
    by_cases hc : cs = []
    · subst hc
      exact hnx H2 g2
    · obtain ⟨r, c, rfl⟩ := rev_end hc
      have hb : (!(r ++ [c]).isEmpty) = true := by simp
      rw [hb]
      refine iteT ⟨.ref p.1, rfl, .inl ⟨p.1, _, 0, .ref p.2, rfl, rfl, .inl (.inl e1), rfl, 1, rfl, .inl ⟨p.2, _, -1, .int (c : Int), rfl, rfl, .inl (.inl e2), at_end r c, ?_⟩⟩⟩
      refine ⟨.int (c : Int), .int 0, .int _, .int _, rfl, rfl, _, rfl, ?_⟩
      cases PyData.eqv (.int (c : Int)) (.int 0) with
      | true =>
        refine iteT ⟨fun σ' H' => σ' = [some (.ref p.1), some (.int m), none] ∧ Grow W H H' ∧ H' p.2 = some (.lst (r.map fun (c : Nat) => V.int (c : Int))), fun σ' H' ⟨h1, h2, h3⟩ => ⟨r.length, by rw [← hl0, List.length_append]; exact Nat.lt_succ_self _, h1, h2, r, rfl, h3⟩, ?_⟩
        refine ⟨.ref p.1, rfl, .inl ⟨p.1, _, 0, .ref p.2, rfl, rfl, .inl (.inl e1), rfl, .inl ⟨rfl, _, .inl (.inl e2)⟩, p.2, _, .int (c : Int), rfl, rfl, e2, ?_, rfl, ?_⟩⟩
        · rw [List.length_map, List.length_append, List.length_singleton, Nat.add_sub_cancel, List.map_append, List.getElem?_append_right (by rw [List.length_map]; exact Nat.le_refl _), List.length_map, Nat.sub_self]
          rfl
        · have e5 : ((r ++ [c]).map fun (c : Nat) => V.int (c : Int)).dropLast = r.map fun (c : Nat) => V.int (c : Int) := by
            rw [List.map_append]; exact List.dropLast_concat
          rw [e5]
          refine ⟨g2.cells hp ?_, upd_same⟩
          rw [List.length_append] at l
          exact Nat.le_trans (Nat.le_add_right _ _) l
      | false => exact iteF (hnx H2 g2)
end PM
namespace K44
open PySem PySem.Spec PyProof.Rows L2 PM
section
variable {P : Program} {w : World} {K : PySem.W.Frag} {mg : Str → Option Value} {base : Heap}
theorem ok_l_draw (T : Tx K mg) : FnOk P w K mg base CX0 1 T.a_l_draw T.d_l_draw p_l_draw (spM K .cl sp_draw) := by
  have zi : mg "int" = none := T.z_int
  refine T.f_l_draw.ok S_l_draw (fun vs H Q E h => ?_) (fun cdv A outer s H vs Q E hr h => ?_)
  · obtain ⟨zb, W, ps, P', _, _, r, ⟨m, e, _⟩, _⟩ := h
    rw [← r.len, e]; rfl
  · obtain ⟨zb, W, ps, P', hz, hs, r, ⟨m, e, m0, m1, hp⟩, k⟩ := h
    subst e
    obtain ⟨p, hpw, rfl⟩ : ∃ p ∈ W, vs = [.ref p.1, .int m] := by
      unfold Rps at r
      obtain ⟨v, r', rfl, h1, h2⟩ := r
      unfold Rps at h2
      obtain ⟨v2, r2, rfl, h3, h4⟩ := h2
      unfold Rps at h4
      unfold Rp at h1 h3
      obtain ⟨p, hp, rfl⟩ := h1
      exact ⟨p, hp, by rw [h3, h4]⟩
    have fin : ∀ r H', Grow W H H' → 0 ≤ r → r < m → Q (.int r) H' := fun r H' g h1 h2 => k (.int r) (.int r) H' g (VK1.ofRp Rp.int') (hp r h1 h2)
    refine ⟨_, PSs.nox (pss_cons (ps_while .never (pw_and (pt_cmpR (op_neD hr.units) (pe_ix ix_seq (pv 0) pe_int (fun _ _ => rfl)) (pe_lst pa_nil) (nomark _)) (pw_and1 (pt_cmpR (op_eqD hr.units) (pe_ix ix_seq (pe_ix ix_seq (pv 0) pe_int (fun _ _ => rfl)) (pe_un un_neg pe_int) (fun _ _ => rfl)) pe_int (nomark _)))).pt
        (pss_one (ps_expr (pe_bm0 PySem.F.plainAttrs_list PySem.F.slot_list_pop PySem.F.type_list_pop mt_pop (pe_ix ix_seq (pv 0) pe_int (fun _ _ => rfl))))))
      (pss_cons (ps_if (pt_cmpR (op_neD hr.units) (pe_ix ix_seq (pv 0) pe_int (fun _ _ => rfl)) (pe_lst pa_nil) (nomark _))
        (pss_cons (ps_set (i := 2) S_l_draw.nd rfl (.inl rfl) (pe_bm0 PySem.F.plainAttrs_list PySem.F.slot_list_pop PySem.F.type_list_pop mt_pop (pe_ix ix_seq (pv 0) pe_int (fun _ _ => rfl))))
        (pss_cons (ps_expr (pe_bm PySem.F.plainAttrs_list PySem.F.slot_list_append PySem.F.type_list_append mt_append (pe_ix ix_seq (pv 0) pe_int (fun _ _ => rfl)) (pa_cons (pe_op op_fdiv (pv 2) (pv 1)) pa_nil)))
        (pss_one (ps_ret (pe_op op_mod (pe_callTy call_int1 (by rfl) zi PyProof.Rows.boot_int (pa_cons (pv 2) pa_nil)) (pv 1))))))
        pss_nil)
      (pss_cons (ps_asg (pe_op op_mod (pe_callTy call_int1 (by rfl) zi PyProof.Rows.boot_int (pa_cons (pe_op op_add (pe_op op_mul (pe_ix ix_seq (pv 0) pe_int (fun _ _ => rfl)) pe_int) pe_int) pa_nil)) pe_int) (pg_sub (pv 0) pe_int set_list (by intro _; rfl)))
      (pss_one (ps_ret (pe_op op_mod (pe_callTy call_int1 (by rfl) zi PyProof.Rows.boot_int (pa_cons (pe_op op_fdiv (pe_ix ix_seq (pv 0) pe_int (fun _ _ => rfl)) pe_int) pa_nil)) (pv 1))))))), ?_⟩
    refine draw_loop hs hpw fun H2 g2 => ?_
    refine draw_ne g2 hpw fun cs s H3 _ g3 l b e1 e2 => ⟨_, rfl, ?_⟩
    by_cases hc : cs = []
    · subst hc
      refine iteF ⟨.ref p.1, rfl, .inl ⟨p.1, _, 1, .int (s : Int), rfl, rfl, .inl (.inl e1), rfl, s, 48271, rfl, rfl, .inl ⟨by omega, by omega⟩, _, 83, rfl, rfl, .inl ⟨_, rfl, _, 2147483647, rfl, rfl, (by decide : (0 : Int) < 2147483647), .ref p.1, rfl, ?_⟩⟩⟩
      obtain ⟨s', hs', e'⟩ : ∃ s' : Nat, s' < 2147483647 ∧ ((s : Int) * 48271 + 83) % 2147483647 = (s' : Int) := ⟨(((s : Int) * 48271 + 83) % 2147483647).toNat, by omega, by omega⟩
      have g4 := g3.stir hpw hs'
      rw [← e'] at g4
      refine ⟨p.1, _, 1, 1, rfl, rfl, e1, rfl, ?_⟩
      refine ⟨.ref p.1, rfl, .inl ⟨p.1, _, 1, _, rfl, rfl, .inl (.inl upd_same), rfl, _, 32, rfl, rfl, ⟨by decide, by decide⟩, .inl ⟨_, rfl, .int m, rfl, _, m, rfl, rfl, m0, ?_⟩⟩⟩
      exact fin _ _ g4 (Int.emod_nonneg _ (by omega)) (Int.emod_lt_of_pos _ m0)
    · obtain ⟨r, c, rfl⟩ := rev_end hc
      have hb : (!(r ++ [c]).isEmpty) = true := by simp
      rw [hb]
      refine iteT ⟨.ref p.1, rfl, .inl ⟨p.1, _, 0, .ref p.2, rfl, rfl, .inl (.inl e1), rfl, .inl ⟨rfl, _, .inl (.inl e2)⟩, p.2, _, .int (c : Int), rfl, rfl, e2, ?_, ?_⟩⟩
      · rw [List.length_map, List.length_append, List.length_singleton, Nat.add_sub_cancel, List.map_append, List.getElem?_append_right (by rw [List.length_map]; exact Nat.le_refl _), List.length_map, Nat.sub_self]
        rfl
      have e5 : ((r ++ [c]).map fun (c : Nat) => V.int (c : Int)).dropLast = r.map fun (c : Nat) => V.int (c : Int) := by
        rw [List.map_append]; exact List.dropLast_concat
      rw [e5]
      have lr : r.length + 1 ≤ 63 := by rw [List.length_append, List.length_singleton] at l; exact l
      have g4 := g3.cells hpw (cs := r) (by omega)
      obtain ⟨q, hq⟩ : ∃ q : Nat, (c : Int) / m = (q : Int) := ⟨((c : Int) / m).toNat, by have := Int.ediv_nonneg (a := (c : Int)) (b := m) (by omega) (by omega); omega⟩
      have n12 : p.1 ≠ p.2 := (hs p hpw).1
      have f1 : upd H3 p.2 (.lst (r.map fun (c : Nat) => V.int (c : Int))) p.1 = some (.lst [.ref p.2, .int (s : Int)]) := by rw [upd_ne n12]; exact e1
      refine ⟨.ref p.1, rfl, .inl ⟨p.1, _, 0, .ref p.2, rfl, rfl, .inl (.inl f1), rfl, .inl ⟨rfl, _, .inl (.inl upd_same)⟩, .int (c : Int), rfl, .int m, rfl, c, m, rfl, rfl, ⟨m0, m1⟩, p.2, _, _, rfl, rfl, upd_same, ?_, ?_⟩⟩
      · rw [List.length_map]
        exact Nat.lt_of_lt_of_le (by omega : r.length < 64) (by decide)
      have e6 : (r.map fun (c : Nat) => V.int (c : Int)) ++ [V.int (q : Int)] = (r ++ [q]).map fun (c : Nat) => V.int (c : Int) := by rw [List.map_append]; rfl
      have g5 := g4.cells hpw (cs := r ++ [q]) (by rw [List.length_append, List.length_singleton]; exact lr)
      rw [← e6, ← hq] at g5
      refine ⟨.int (c : Int), rfl, .inl ⟨_, rfl, .int m, rfl, c, m, rfl, rfl, m0, ?_⟩⟩
      exact fin _ _ g5 (Int.emod_nonneg _ (by omega)) (Int.emod_lt_of_pos _ m0)
end
end K44

set_option maxHeartbeats 1000000
namespace K44
open PySem PySem.Spec PyProof.Rows L2 PM
section
variable {P : Program} {w : World} {K : PySem.W.Frag} {mg : Str → Option Value} {base : Heap}
theorem ok_is_integer (T : Tx K mg) : FnOk P w K mg base CX0 1 T.a_is_integer T.d_is_integer p_is_integer (spM K .cl sp_is_integer) := fn_m T.f_is_integer S_is_integer (by intro ps Q h; repeat (first | (have e := h.1; subst e; rfl) | (obtain ⟨_, h⟩ := h))) (fun cdv A outer s H E hr => w_is_integer T   cdv A outer s H E hr) h_is_integer
theorem ok_is_number (T : Tx K mg) : FnOk P w K mg base CX0 2 T.a_is_number T.d_is_number p_is_number (spM K .cl sp_is_number) := fn_m T.f_is_number S_is_number (by intro ps Q h; repeat (first | (have e := h.1; subst e; rfl) | (obtain ⟨_, h⟩ := h))) (fun cdv A outer s H E hr => w_is_number T sp_is_integer (ok_is_integer T) cdv A outer s H E hr) h_is_number
theorem ok_is_ascending (T : Tx K mg) : FnOk P w K mg base CX0 1 T.a_is_ascending T.d_is_ascending p_is_ascending (spM K .cl sp_is_ascending) := fn_m T.f_is_ascending S_is_ascending (by intro ps Q h; repeat (first | (have e := h.1; subst e; rfl) | (obtain ⟨_, h⟩ := h))) (fun cdv A outer s H E hr => w_is_ascending T   cdv A outer s H E hr) h_is_ascending
theorem ok_union_of (T : Tx K mg) : FnOk P w K mg base CX0 1 T.a_union_of T.d_union_of p_union_of (spM K .cl sp_union_of) := fn_m T.f_union_of S_union_of (by intro ps Q h; repeat (first | (have e := h.1; subst e; rfl) | (obtain ⟨_, h⟩ := h))) (fun cdv A outer s H E hr => w_union_of T   cdv A outer s H E hr) h_union_of
theorem ok_is_schedule (T : Tx K mg) : FnOk P w K mg base CX0 3 T.a_is_schedule T.d_is_schedule p_is_schedule (spM K .cl sp_is_schedule) := fn_m T.f_is_schedule S_is_schedule (by intro ps Q h; repeat (first | (have e := h.1; subst e; rfl) | (obtain ⟨_, h⟩ := h))) (fun cdv A outer s H E hr => w_is_schedule T sp_is_ascending sp_is_number (ok_is_ascending T) (ok_is_number T) cdv A outer s H E hr) h_is_schedule
theorem ok_epochs_by (T : Tx K mg) : FnOk P w K mg base CX0 1 T.a_epochs_by T.d_epochs_by p_epochs_by (spM K .cl sp_epochs_by) := fn_m T.f_epochs_by S_epochs_by (by intro ps Q h; repeat (first | (have e := h.1; subst e; rfl) | (obtain ⟨_, h⟩ := h))) (fun cdv A outer s H E hr => w_epochs_by T   cdv A outer s H E hr) h_epochs_by
theorem ok_is_secret_by (T : Tx K mg) : FnOk P w K mg base CX0 2 T.a_is_secret_by T.d_is_secret_by p_is_secret_by (spM K .cl sp_is_secret_by) := fn_m T.f_is_secret_by S_is_secret_by (by intro ps Q h; repeat (first | (have e := h.1; subst e; rfl) | (obtain ⟨_, h⟩ := h))) (fun cdv A outer s H E hr => w_is_secret_by T sp_epochs_by sp_union_of (ok_epochs_by T) (ok_union_of T) cdv A outer s H E hr) h_is_secret_by
theorem ok_earliest_firsts (T : Tx K mg) : FnOk P w K mg base CX0 2 T.a_earliest_firsts T.d_earliest_firsts p_earliest_firsts (spM K .cl sp_earliest) := fn_m T.f_earliest_firsts S_earliest_firsts (by intro ps Q h; repeat (first | (have e := h.1; subst e; rfl) | (obtain ⟨_, h⟩ := h))) (fun cdv A outer s H E hr => w_earliest_firsts T sp_union_of (ok_union_of T) cdv A outer s H E hr) h_earliest_firsts
theorem ok_price_by (T : Tx K mg) : FnOk P w K mg base CX0 1 T.a_price_by T.d_price_by p_price_by (spM K .cl sp_price_by) := fn_m T.f_price_by S_price_by (by intro ps Q h; repeat (first | (have e := h.1; subst e; rfl) | (obtain ⟨_, h⟩ := h))) (fun cdv A outer s H E hr => w_price_by T   cdv A outer s H E hr) h_price_by
theorem ok_fewest_schedule (T : Tx K mg) : FnOk P w K mg base CX0 3 T.a_fewest_schedule T.d_fewest_schedule p_fewest_schedule (spM K .cl sp_fewest) := fn_m T.f_fewest_schedule S_fewest_schedule (by intro ps Q h; repeat (first | (have e := h.1; subst e; rfl) | (obtain ⟨_, h⟩ := h))) (fun cdv A outer s H E hr => w_fewest_schedule T sp_earliest (ok_earliest_firsts T) cdv A outer s H E hr) h_fewest_schedule
theorem ok_stairs (T : Tx K mg) : FnOk P w K mg base CX0 4 T.a_stairs T.d_stairs p_stairs (spM K .cl sp_stairs) := fn_m T.f_stairs S_stairs (by intro ps Q h; repeat (first | (have e := h.1; subst e; rfl) | (obtain ⟨_, h⟩ := h))) (fun cdv A outer s H E hr => w_stairs T sp_union_of sp_fewest (ok_union_of T) (ok_fewest_schedule T) cdv A outer s H E hr) h_stairs
theorem ok_l_heap (T : Tx K mg) : FnOk P w K mg base CX0 1 T.a_l_heap T.d_l_heap p_l_heap (spSrc K ok_heap) := src_m T.f_l_heap S_l_heap rfl (fun cdv A outer s H E hr => w_l_heap T   cdv A outer s H E hr) h_l_heap
theorem ok_l_pick (T : Tx K mg) : FnOk P w K mg base CX0 2 T.a_l_pick T.d_l_pick p_l_pick (spM K .cl sp_pick) := fn_m T.f_l_pick S_l_pick (by intro ps Q h; repeat (first | (have e := h.1; subst e; rfl) | (obtain ⟨_, h⟩ := h))) (fun cdv A outer s H E hr => w_l_pick T sp_drw (ok_l_draw T) cdv A outer s H E hr) h_l_pick
theorem okn_l_like (T : Tx K mg) : ∀ n, FnOk P w K mg base CX0 n T.a_l_like T.d_l_like p_l_like (spM K .cl (spk n))
  | 0 => fn_none fun _ _ h => h
  | n + 1 => fn_m T.f_l_like S_l_like (by intro ps Q h; repeat (first | (have e := h.1; subst e; rfl) | (obtain ⟨_, h⟩ := h))) (fun cdv A outer s H E hr => w_l_like T (spk n) (okn_l_like T n) (Nat.zero_le _) cdv A outer s H E hr) (h_l_like n)
theorem ok_l_like (T : Tx K mg) : FnOk P w K mg base CX0 3 T.a_l_like T.d_l_like p_l_like (spM K .cl (spk 3)) := okn_l_like T 3
theorem ok_l_some (T : Tx K mg) : FnOk P w K mg base CX0 2 T.a_l_some T.d_l_some p_l_some (spM K .cl sp_some) := fn_m T.f_l_some S_l_some (by intro ps Q h; repeat (first | (have e := h.1; subst e; rfl) | (obtain ⟨_, h⟩ := h))) (fun cdv A outer s H E hr => w_l_some T sp_drw (ok_l_draw T) cdv A outer s H E hr) h_l_some
theorem ok_l_counted (T : Tx K mg) : FnOk P w K mg base CX0 3 T.a_l_counted T.d_l_counted p_l_counted (spM K .cl sp_l_counted) := fn_m T.f_l_counted S_l_counted (by intro ps Q h; repeat (first | (have e := h.1; subst e; rfl) | (obtain ⟨_, h⟩ := h))) (fun cdv A outer s H E hr => w_l_counted T sp_pick sp_some sp_drw (ok_l_pick T) (ok_l_some T) (ok_l_draw T) cdv A outer s H E hr) h_l_counted
theorem ok_l_epochs (T : Tx K mg) : FnOk P w K mg base CX0 1 T.a_l_epochs T.d_l_epochs p_l_epochs (spM K .cl sp_l_epochs) := fn_m T.f_l_epochs S_l_epochs (by intro ps Q h; repeat (first | (have e := h.1; subst e; rfl) | (obtain ⟨_, h⟩ := h))) (fun cdv A outer s H E hr => w_l_epochs T   cdv A outer s H E hr) h_l_epochs
theorem ok_l_is_secret (T : Tx K mg) : FnOk P w K mg base CX0 1 T.a_l_is_secret T.d_l_is_secret p_l_is_secret (spM K .cl sp_l_is_secret) := fn_m T.f_l_is_secret S_l_is_secret (by intro ps Q h; repeat (first | (have e := h.1; subst e; rfl) | (obtain ⟨_, h⟩ := h))) (fun cdv A outer s H E hr => w_l_is_secret T   cdv A outer s H E hr) h_l_is_secret
theorem ok_l_fewest (T : Tx K mg) : FnOk P w K mg base CX0 1 T.a_l_fewest T.d_l_fewest p_l_fewest (spM K .cl sp_fewest) := fn_m T.f_l_fewest S_l_fewest (by intro ps Q h; repeat (first | (have e := h.1; subst e; rfl) | (obtain ⟨_, h⟩ := h))) (fun cdv A outer s H E hr => w_l_fewest T   cdv A outer s H E hr) h_l_fewest
theorem ok_l_stairs (T : Tx K mg) : FnOk P w K mg base CX0 2 T.a_l_stairs T.d_l_stairs p_l_stairs (spM K .cl sp_stairs) := fn_m T.f_l_stairs S_l_stairs (by intro ps Q h; repeat (first | (have e := h.1; subst e; rfl) | (obtain ⟨_, h⟩ := h))) (fun cdv A outer s H E hr => w_l_stairs T sp_fewest (ok_l_fewest T) cdv A outer s H E hr) h_l_stairs
theorem ok_l_bent (T : Tx K mg) : FnOk P w K mg base CX0 3 T.a_l_bent T.d_l_bent p_l_bent (spM K .cl sp_l_bent) := fn_m T.f_l_bent S_l_bent (by intro ps Q h; repeat (first | (have e := h.1; subst e; rfl) | (obtain ⟨_, h⟩ := h))) (fun cdv A outer s H E hr => w_l_bent T sp_pick sp_drw (ok_l_pick T) (ok_l_draw T) cdv A outer s H E hr) h_l_bent
theorem ok_law (T : Tx K mg) : FnOk P w K mg base CX0 5 T.a_law T.d_law p_law (spLawM K) := law_m T.f_law S_law rfl (fun cdv A outer s H E hr => w_law T ok_heap sp_pick sp_l_counted (spk 3) sp_some sp_l_bent sp_l_epochs sp_stairs sp_stairs sp_drw sp_is_schedule sp_epochs_by sp_price_by sp_is_secret_by sp_l_is_secret sp_fewest sp_fewest (ok_l_heap T) (ok_l_pick T) (ok_l_counted T) (ok_l_like T) (ok_l_some T) (ok_l_bent T) (ok_l_epochs T) (ok_stairs T) (ok_l_stairs T) (ok_l_draw T) (ok_is_schedule T) (ok_epochs_by T) (ok_price_by T) (ok_is_secret_by T) (ok_l_is_secret T) (ok_fewest_schedule T) (ok_l_fewest T) cdv A outer s H E hr) h_law
end
theorem all_mk {l : PySem.W.OpenLaw} {w : World} {K : PySem.W.Frag} {h : Heap} {mg : Str → Option Value} {fa f1 f2 f3 f4 f5 f6 f7 f8 f9 f10 f11 f12 f13 f14 f15 f16 f17 f18 f19 f20 f21 f22 f23 : Addr} (X : K.In h) (G : h.Ns mainGlobals mg) (hfa : mg "law" = some (.ref fa))
    {od1 an1 : Option Addr} {sl1 : Array (Option Value)} {oc1 kV1 dc1 pm1 cd1 ct1 : Value}
    {od2 an2 : Option Addr} {sl2 : Array (Option Value)} {oc2 kV2 dc2 pm2 cd2 ct2 : Value}
    {od3 an3 : Option Addr} {sl3 : Array (Option Value)} {oc3 kV3 dc3 pm3 cd3 ct3 : Value}
    {od4 an4 : Option Addr} {sl4 : Array (Option Value)} {oc4 kV4 dc4 pm4 cd4 ct4 : Value}
    {od5 an5 : Option Addr} {sl5 : Array (Option Value)} {oc5 kV5 dc5 pm5 cd5 ct5 : Value}
    {od6 an6 : Option Addr} {sl6 : Array (Option Value)} {oc6 kV6 dc6 pm6 cd6 ct6 : Value}
    {od7 an7 : Option Addr} {sl7 : Array (Option Value)} {oc7 kV7 dc7 pm7 cd7 ct7 : Value}
    {od8 an8 : Option Addr} {sl8 : Array (Option Value)} {oc8 kV8 dc8 pm8 cd8 ct8 : Value}
    {od9 an9 : Option Addr} {sl9 : Array (Option Value)} {oc9 kV9 dc9 pm9 cd9 ct9 : Value}
    {od10 an10 : Option Addr} {sl10 : Array (Option Value)} {oc10 kV10 dc10 pm10 cd10 ct10 : Value}
    {od11 an11 : Option Addr} {sl11 : Array (Option Value)} {oc11 kV11 dc11 pm11 cd11 ct11 : Value}
    {od12 an12 : Option Addr} {sl12 : Array (Option Value)} {oc12 kV12 dc12 pm12 cd12 ct12 : Value}
    {od13 an13 : Option Addr} {sl13 : Array (Option Value)} {oc13 kV13 dc13 pm13 cd13 ct13 : Value}
    {od14 an14 : Option Addr} {sl14 : Array (Option Value)} {oc14 kV14 dc14 pm14 cd14 ct14 : Value}
    {od15 an15 : Option Addr} {sl15 : Array (Option Value)} {oc15 kV15 dc15 pm15 cd15 ct15 : Value}
    {od16 an16 : Option Addr} {sl16 : Array (Option Value)} {oc16 kV16 dc16 pm16 cd16 ct16 : Value}
    {od17 an17 : Option Addr} {sl17 : Array (Option Value)} {oc17 kV17 dc17 pm17 cd17 ct17 : Value}
    {od18 an18 : Option Addr} {sl18 : Array (Option Value)} {oc18 kV18 dc18 pm18 cd18 ct18 : Value}
    {od19 an19 : Option Addr} {sl19 : Array (Option Value)} {oc19 kV19 dc19 pm19 cd19 ct19 : Value}
    {od20 an20 : Option Addr} {sl20 : Array (Option Value)} {oc20 kV20 dc20 pm20 cd20 ct20 : Value}
    {od21 an21 : Option Addr} {sl21 : Array (Option Value)} {oc21 kV21 dc21 pm21 cd21 ct21 : Value}
    {od22 an22 : Option Addr} {sl22 : Array (Option Value)} {oc22 kV22 dc22 pm22 cd22 ct22 : Value}
    {od23 an23 : Option Addr} {sl23 : Array (Option Value)} {oc23 kV23 dc23 pm23 cd23 ct23 : Value}
    {T2 : Addr} {tc2 : Value} {td2 : Option Addr} {tn2 : Nat} {ts2 : Array (Option Value)}
    (a1 : PySem.W.nsIn K mainGlobals "is_integer" = some (some (.ref f1))) (l1 : K.lookup f1 = some ⟨oc1, od1, .func (PySem.W.fnOf "is_integer" "is_integer" (defArgs s_is_integer) (defBody s_is_integer) (defScope s_is_integer) .none kV1 dc1 pm1 an1 cd1 ct1), sl1⟩) (c1 : PySem.W.codeIn K cd1 "is_integer" = true) (k1 : PySem.W.keepIn K (.ref f1) = true)
    (a2 : PySem.W.nsIn K mainGlobals "is_number" = some (some (.ref f2))) (l2 : K.lookup f2 = some ⟨oc2, od2, .func (PySem.W.fnOf "is_number" "is_number" (defArgs s_is_number) (defBody s_is_number) (defScope s_is_number) (.ref T2) kV2 dc2 pm2 an2 cd2 ct2), sl2⟩) (c2 : PySem.W.codeIn K cd2 "is_number" = true) (k2 : PySem.W.keepIn K (.ref f2) = true)
    (t2 : K.lookup T2 = some ⟨tc2, td2, .seq [Value.none].toArray tn2, ts2⟩)
    (a3 : PySem.W.nsIn K mainGlobals "is_ascending" = some (some (.ref f3))) (l3 : K.lookup f3 = some ⟨oc3, od3, .func (PySem.W.fnOf "is_ascending" "is_ascending" (defArgs s_is_ascending) (defBody s_is_ascending) (defScope s_is_ascending) .none kV3 dc3 pm3 an3 cd3 ct3), sl3⟩) (c3 : PySem.W.codeIn K cd3 "is_ascending" = true) (k3 : PySem.W.keepIn K (.ref f3) = true)
    (a4 : PySem.W.nsIn K mainGlobals "union_of" = some (some (.ref f4))) (l4 : K.lookup f4 = some ⟨oc4, od4, .func (PySem.W.fnOf "union_of" "union_of" (defArgs s_union_of) (defBody s_union_of) (defScope s_union_of) .none kV4 dc4 pm4 an4 cd4 ct4), sl4⟩) (c4 : PySem.W.codeIn K cd4 "union_of" = true) (k4 : PySem.W.keepIn K (.ref f4) = true)
    (a5 : PySem.W.nsIn K mainGlobals "is_schedule" = some (some (.ref f5))) (l5 : K.lookup f5 = some ⟨oc5, od5, .func (PySem.W.fnOf "is_schedule" "is_schedule" (defArgs s_is_schedule) (defBody s_is_schedule) (defScope s_is_schedule) .none kV5 dc5 pm5 an5 cd5 ct5), sl5⟩) (c5 : PySem.W.codeIn K cd5 "is_schedule" = true) (k5 : PySem.W.keepIn K (.ref f5) = true)
    (a6 : PySem.W.nsIn K mainGlobals "epochs_by" = some (some (.ref f6))) (l6 : K.lookup f6 = some ⟨oc6, od6, .func (PySem.W.fnOf "epochs_by" "epochs_by" (defArgs s_epochs_by) (defBody s_epochs_by) (defScope s_epochs_by) .none kV6 dc6 pm6 an6 cd6 ct6), sl6⟩) (c6 : PySem.W.codeIn K cd6 "epochs_by" = true) (k6 : PySem.W.keepIn K (.ref f6) = true)
    (a7 : PySem.W.nsIn K mainGlobals "is_secret_by" = some (some (.ref f7))) (l7 : K.lookup f7 = some ⟨oc7, od7, .func (PySem.W.fnOf "is_secret_by" "is_secret_by" (defArgs s_is_secret_by) (defBody s_is_secret_by) (defScope s_is_secret_by) .none kV7 dc7 pm7 an7 cd7 ct7), sl7⟩) (c7 : PySem.W.codeIn K cd7 "is_secret_by" = true) (k7 : PySem.W.keepIn K (.ref f7) = true)
    (a8 : PySem.W.nsIn K mainGlobals "earliest_firsts" = some (some (.ref f8))) (l8 : K.lookup f8 = some ⟨oc8, od8, .func (PySem.W.fnOf "earliest_firsts" "earliest_firsts" (defArgs s_earliest_firsts) (defBody s_earliest_firsts) (defScope s_earliest_firsts) .none kV8 dc8 pm8 an8 cd8 ct8), sl8⟩) (c8 : PySem.W.codeIn K cd8 "earliest_firsts" = true) (k8 : PySem.W.keepIn K (.ref f8) = true)
    (a9 : PySem.W.nsIn K mainGlobals "price_by" = some (some (.ref f9))) (l9 : K.lookup f9 = some ⟨oc9, od9, .func (PySem.W.fnOf "price_by" "price_by" (defArgs s_price_by) (defBody s_price_by) (defScope s_price_by) .none kV9 dc9 pm9 an9 cd9 ct9), sl9⟩) (c9 : PySem.W.codeIn K cd9 "price_by" = true) (k9 : PySem.W.keepIn K (.ref f9) = true)
    (a10 : PySem.W.nsIn K mainGlobals "fewest_schedule" = some (some (.ref f10))) (l10 : K.lookup f10 = some ⟨oc10, od10, .func (PySem.W.fnOf "fewest_schedule" "fewest_schedule" (defArgs s_fewest_schedule) (defBody s_fewest_schedule) (defScope s_fewest_schedule) .none kV10 dc10 pm10 an10 cd10 ct10), sl10⟩) (c10 : PySem.W.codeIn K cd10 "fewest_schedule" = true) (k10 : PySem.W.keepIn K (.ref f10) = true)
    (a11 : PySem.W.nsIn K mainGlobals "stairs" = some (some (.ref f11))) (l11 : K.lookup f11 = some ⟨oc11, od11, .func (PySem.W.fnOf "stairs" "stairs" (defArgs s_stairs) (defBody s_stairs) (defScope s_stairs) .none kV11 dc11 pm11 an11 cd11 ct11), sl11⟩) (c11 : PySem.W.codeIn K cd11 "stairs" = true) (k11 : PySem.W.keepIn K (.ref f11) = true)
    (a12 : PySem.W.nsIn K mainGlobals "_law_heap" = some (some (.ref f12))) (l12 : K.lookup f12 = some ⟨oc12, od12, .func (PySem.W.fnOf "_law_heap" "_law_heap" (defArgs s_l_heap) (defBody s_l_heap) (defScope s_l_heap) .none kV12 dc12 pm12 an12 cd12 ct12), sl12⟩) (c12 : PySem.W.codeIn K cd12 "_law_heap" = true) (k12 : PySem.W.keepIn K (.ref f12) = true)
    (a13 : PySem.W.nsIn K mainGlobals "_law_draw" = some (some (.ref f13))) (l13 : K.lookup f13 = some ⟨oc13, od13, .func (PySem.W.fnOf "_law_draw" "_law_draw" (defArgs s_l_draw) (defBody s_l_draw) (defScope s_l_draw) .none kV13 dc13 pm13 an13 cd13 ct13), sl13⟩) (c13 : PySem.W.codeIn K cd13 "_law_draw" = true) (k13 : PySem.W.keepIn K (.ref f13) = true)
    (a14 : PySem.W.nsIn K mainGlobals "_law_pick" = some (some (.ref f14))) (l14 : K.lookup f14 = some ⟨oc14, od14, .func (PySem.W.fnOf "_law_pick" "_law_pick" (defArgs s_l_pick) (defBody s_l_pick) (defScope s_l_pick) .none kV14 dc14 pm14 an14 cd14 ct14), sl14⟩) (c14 : PySem.W.codeIn K cd14 "_law_pick" = true) (k14 : PySem.W.keepIn K (.ref f14) = true)
    (a15 : PySem.W.nsIn K mainGlobals "_law_like" = some (some (.ref f15))) (l15 : K.lookup f15 = some ⟨oc15, od15, .func (PySem.W.fnOf "_law_like" "_law_like" (defArgs s_l_like) (defBody s_l_like) (defScope s_l_like) .none kV15 dc15 pm15 an15 cd15 ct15), sl15⟩) (c15 : PySem.W.codeIn K cd15 "_law_like" = true) (k15 : PySem.W.keepIn K (.ref f15) = true)
    (a16 : PySem.W.nsIn K mainGlobals "_law_some" = some (some (.ref f16))) (l16 : K.lookup f16 = some ⟨oc16, od16, .func (PySem.W.fnOf "_law_some" "_law_some" (defArgs s_l_some) (defBody s_l_some) (defScope s_l_some) .none kV16 dc16 pm16 an16 cd16 ct16), sl16⟩) (c16 : PySem.W.codeIn K cd16 "_law_some" = true) (k16 : PySem.W.keepIn K (.ref f16) = true)
    (a17 : PySem.W.nsIn K mainGlobals "_law_counted" = some (some (.ref f17))) (l17 : K.lookup f17 = some ⟨oc17, od17, .func (PySem.W.fnOf "_law_counted" "_law_counted" (defArgs s_l_counted) (defBody s_l_counted) (defScope s_l_counted) .none kV17 dc17 pm17 an17 cd17 ct17), sl17⟩) (c17 : PySem.W.codeIn K cd17 "_law_counted" = true) (k17 : PySem.W.keepIn K (.ref f17) = true)
    (a18 : PySem.W.nsIn K mainGlobals "_law_epochs" = some (some (.ref f18))) (l18 : K.lookup f18 = some ⟨oc18, od18, .func (PySem.W.fnOf "_law_epochs" "_law_epochs" (defArgs s_l_epochs) (defBody s_l_epochs) (defScope s_l_epochs) .none kV18 dc18 pm18 an18 cd18 ct18), sl18⟩) (c18 : PySem.W.codeIn K cd18 "_law_epochs" = true) (k18 : PySem.W.keepIn K (.ref f18) = true)
    (a19 : PySem.W.nsIn K mainGlobals "_law_is_secret" = some (some (.ref f19))) (l19 : K.lookup f19 = some ⟨oc19, od19, .func (PySem.W.fnOf "_law_is_secret" "_law_is_secret" (defArgs s_l_is_secret) (defBody s_l_is_secret) (defScope s_l_is_secret) .none kV19 dc19 pm19 an19 cd19 ct19), sl19⟩) (c19 : PySem.W.codeIn K cd19 "_law_is_secret" = true) (k19 : PySem.W.keepIn K (.ref f19) = true)
    (a20 : PySem.W.nsIn K mainGlobals "_law_fewest" = some (some (.ref f20))) (l20 : K.lookup f20 = some ⟨oc20, od20, .func (PySem.W.fnOf "_law_fewest" "_law_fewest" (defArgs s_l_fewest) (defBody s_l_fewest) (defScope s_l_fewest) .none kV20 dc20 pm20 an20 cd20 ct20), sl20⟩) (c20 : PySem.W.codeIn K cd20 "_law_fewest" = true) (k20 : PySem.W.keepIn K (.ref f20) = true)
    (a21 : PySem.W.nsIn K mainGlobals "_law_stairs" = some (some (.ref f21))) (l21 : K.lookup f21 = some ⟨oc21, od21, .func (PySem.W.fnOf "_law_stairs" "_law_stairs" (defArgs s_l_stairs) (defBody s_l_stairs) (defScope s_l_stairs) .none kV21 dc21 pm21 an21 cd21 ct21), sl21⟩) (c21 : PySem.W.codeIn K cd21 "_law_stairs" = true) (k21 : PySem.W.keepIn K (.ref f21) = true)
    (a22 : PySem.W.nsIn K mainGlobals "_law_bent" = some (some (.ref f22))) (l22 : K.lookup f22 = some ⟨oc22, od22, .func (PySem.W.fnOf "_law_bent" "_law_bent" (defArgs s_l_bent) (defBody s_l_bent) (defScope s_l_bent) .none kV22 dc22 pm22 an22 cd22 ct22), sl22⟩) (c22 : PySem.W.codeIn K cd22 "_law_bent" = true) (k22 : PySem.W.keepIn K (.ref f22) = true)
    (a23 : PySem.W.nsIn K mainGlobals "law" = some (some (.ref f23))) (l23 : K.lookup f23 = some ⟨oc23, od23, .func (PySem.W.fnOf "law" "law" (defArgs s_law) (defBody s_law) (defScope s_law) .none kV23 dc23 pm23 an23 cd23 ct23), sl23⟩) (c23 : PySem.W.codeIn K cd23 "law" = true) (k23 : PySem.W.keepIn K (.ref f23) = true)
    (z0 : PySem.W.nsIn K mainGlobals "abs" = some none)
    (z1 : PySem.W.nsIn K mainGlobals "all" = some none)
    (z2 : PySem.W.nsIn K mainGlobals "bool" = some none)
    (z3 : PySem.W.nsIn K mainGlobals "enumerate" = some none)
    (z4 : PySem.W.nsIn K mainGlobals "int" = some none)
    (z5 : PySem.W.nsIn K mainGlobals "isinstance" = some none)
    (z6 : PySem.W.nsIn K mainGlobals "len" = some none)
    (z7 : PySem.W.nsIn K mainGlobals "list" = some none)
    (z8 : PySem.W.nsIn K mainGlobals "max" = some none)
    (z9 : PySem.W.nsIn K mainGlobals "min" = some none)
    (z10 : PySem.W.nsIn K mainGlobals "range" = some none)
    (z11 : PySem.W.nsIn K mainGlobals "sorted" = some none)
    (z12 : PySem.W.nsIn K mainGlobals "str" = some none)
    (z13 : PySem.W.nsIn K mainGlobals "sum" = some none)
    (z14 : PySem.W.nsIn K mainGlobals "tuple" = some none)
    (z15 : PySem.W.nsIn K mainGlobals "zip" = some none) :
    ∃ fd : FuncData, (∀ (s : Shared) (v : Value), BindsTo s fd ⟨[v], []⟩ [("script", v)]) ∧ ∀ base : Heap, K.In base → base.Ns mainGlobals mg → FnOk l.prog w K mg base CX0 5 fa fd ["script"] (spLawM K) := by
  have e := hfa.symm.trans (PySem.W.mg_of X G a23)
  cases e
  have F1 : FunD K "is_integer" "is_integer" (defArgs s_is_integer) (defBody s_is_integer) (defScope s_is_integer) [] [] f1 _ := ⟨⟨oc1, od1, .none, kV1, dc1, pm1, an1, cd1, ct1, sl1, rfl, l1, c1, .inl ⟨rfl, rfl⟩, .inl rfl⟩, k1⟩
  have B1 := binds0 (ps := p_is_integer) F1 fun _ _ _ _ _ _ us hl => match us, hl with | [_], _ => rfl
  have F2 : FunD K "is_number" "is_number" (defArgs s_is_number) (defBody s_is_number) (defScope s_is_number) [V.non] [] f2 _ := ⟨⟨oc2, od2, (.ref T2), kV2, dc2, pm2, an2, cd2, ct2, sl2, rfl, l2, c2, .inr ⟨by simp, T2, _, [Value.none], tn2, rfl, t2, rfl, .cons rfl (.nil)⟩, .inl rfl⟩, k2⟩
  obtain ⟨u2_1, v2_1, B2_1⟩ := FunD.binds1 (ps := p_is_number) F2 1 0 (by simp) rfl fun T kV doc pm an cdv ct us its hu hi => match us, its, hu, hi with | [_], [_], _, _ => ⟨_, rfl, rfl⟩
  have F3 : FunD K "is_ascending" "is_ascending" (defArgs s_is_ascending) (defBody s_is_ascending) (defScope s_is_ascending) [] [] f3 _ := ⟨⟨oc3, od3, .none, kV3, dc3, pm3, an3, cd3, ct3, sl3, rfl, l3, c3, .inl ⟨rfl, rfl⟩, .inl rfl⟩, k3⟩
  have B3 := binds0 (ps := p_is_ascending) F3 fun _ _ _ _ _ _ us hl => match us, hl with | [_], _ => rfl
  have F4 : FunD K "union_of" "union_of" (defArgs s_union_of) (defBody s_union_of) (defScope s_union_of) [] [] f4 _ := ⟨⟨oc4, od4, .none, kV4, dc4, pm4, an4, cd4, ct4, sl4, rfl, l4, c4, .inl ⟨rfl, rfl⟩, .inl rfl⟩, k4⟩
  have B4 := binds0 (ps := p_union_of) F4 fun _ _ _ _ _ _ us hl => match us, hl with | [_, _, _], _ => rfl
  have F5 : FunD K "is_schedule" "is_schedule" (defArgs s_is_schedule) (defBody s_is_schedule) (defScope s_is_schedule) [] [] f5 _ := ⟨⟨oc5, od5, .none, kV5, dc5, pm5, an5, cd5, ct5, sl5, rfl, l5, c5, .inl ⟨rfl, rfl⟩, .inl rfl⟩, k5⟩
  have B5 := binds0 (ps := p_is_schedule) F5 fun _ _ _ _ _ _ us hl => match us, hl with | [_, _], _ => rfl
  have F6 : FunD K "epochs_by" "epochs_by" (defArgs s_epochs_by) (defBody s_epochs_by) (defScope s_epochs_by) [] [] f6 _ := ⟨⟨oc6, od6, .none, kV6, dc6, pm6, an6, cd6, ct6, sl6, rfl, l6, c6, .inl ⟨rfl, rfl⟩, .inl rfl⟩, k6⟩
  have B6 := binds0 (ps := p_epochs_by) F6 fun _ _ _ _ _ _ us hl => match us, hl with | [_, _], _ => rfl
  have F7 : FunD K "is_secret_by" "is_secret_by" (defArgs s_is_secret_by) (defBody s_is_secret_by) (defScope s_is_secret_by) [] [] f7 _ := ⟨⟨oc7, od7, .none, kV7, dc7, pm7, an7, cd7, ct7, sl7, rfl, l7, c7, .inl ⟨rfl, rfl⟩, .inl rfl⟩, k7⟩
  have B7 := binds0 (ps := p_is_secret_by) F7 fun _ _ _ _ _ _ us hl => match us, hl with | [_, _, _], _ => rfl
  have F8 : FunD K "earliest_firsts" "earliest_firsts" (defArgs s_earliest_firsts) (defBody s_earliest_firsts) (defScope s_earliest_firsts) [] [] f8 _ := ⟨⟨oc8, od8, .none, kV8, dc8, pm8, an8, cd8, ct8, sl8, rfl, l8, c8, .inl ⟨rfl, rfl⟩, .inl rfl⟩, k8⟩
  have B8 := binds0 (ps := p_earliest_firsts) F8 fun _ _ _ _ _ _ us hl => match us, hl with | [_, _], _ => rfl
  have F9 : FunD K "price_by" "price_by" (defArgs s_price_by) (defBody s_price_by) (defScope s_price_by) [] [] f9 _ := ⟨⟨oc9, od9, .none, kV9, dc9, pm9, an9, cd9, ct9, sl9, rfl, l9, c9, .inl ⟨rfl, rfl⟩, .inl rfl⟩, k9⟩
  have B9 := binds0 (ps := p_price_by) F9 fun _ _ _ _ _ _ us hl => match us, hl with | [_, _], _ => rfl
  have F10 : FunD K "fewest_schedule" "fewest_schedule" (defArgs s_fewest_schedule) (defBody s_fewest_schedule) (defScope s_fewest_schedule) [] [] f10 _ := ⟨⟨oc10, od10, .none, kV10, dc10, pm10, an10, cd10, ct10, sl10, rfl, l10, c10, .inl ⟨rfl, rfl⟩, .inl rfl⟩, k10⟩
  have B10 := binds0 (ps := p_fewest_schedule) F10 fun _ _ _ _ _ _ us hl => match us, hl with | [_, _], _ => rfl
  have F11 : FunD K "stairs" "stairs" (defArgs s_stairs) (defBody s_stairs) (defScope s_stairs) [] [] f11 _ := ⟨⟨oc11, od11, .none, kV11, dc11, pm11, an11, cd11, ct11, sl11, rfl, l11, c11, .inl ⟨rfl, rfl⟩, .inl rfl⟩, k11⟩
  have B11 := binds0 (ps := p_stairs) F11 fun _ _ _ _ _ _ us hl => match us, hl with | [_], _ => rfl
  have F12 : FunD K "_law_heap" "_law_heap" (defArgs s_l_heap) (defBody s_l_heap) (defScope s_l_heap) [] [] f12 _ := ⟨⟨oc12, od12, .none, kV12, dc12, pm12, an12, cd12, ct12, sl12, rfl, l12, c12, .inl ⟨rfl, rfl⟩, .inl rfl⟩, k12⟩
  have B12 := binds0 (ps := p_l_heap) F12 fun _ _ _ _ _ _ us hl => match us, hl with | [_], _ => rfl
  have F13 : FunD K "_law_draw" "_law_draw" (defArgs s_l_draw) (defBody s_l_draw) (defScope s_l_draw) [] [] f13 _ := ⟨⟨oc13, od13, .none, kV13, dc13, pm13, an13, cd13, ct13, sl13, rfl, l13, c13, .inl ⟨rfl, rfl⟩, .inl rfl⟩, k13⟩
  have B13 := binds0 (ps := p_l_draw) F13 fun _ _ _ _ _ _ us hl => match us, hl with | [_, _], _ => rfl
  have F14 : FunD K "_law_pick" "_law_pick" (defArgs s_l_pick) (defBody s_l_pick) (defScope s_l_pick) [] [] f14 _ := ⟨⟨oc14, od14, .none, kV14, dc14, pm14, an14, cd14, ct14, sl14, rfl, l14, c14, .inl ⟨rfl, rfl⟩, .inl rfl⟩, k14⟩
  have B14 := binds0 (ps := p_l_pick) F14 fun _ _ _ _ _ _ us hl => match us, hl with | [_, _], _ => rfl
  have F15 : FunD K "_law_like" "_law_like" (defArgs s_l_like) (defBody s_l_like) (defScope s_l_like) [] [] f15 _ := ⟨⟨oc15, od15, .none, kV15, dc15, pm15, an15, cd15, ct15, sl15, rfl, l15, c15, .inl ⟨rfl, rfl⟩, .inl rfl⟩, k15⟩
  have B15 := binds0 (ps := p_l_like) F15 fun _ _ _ _ _ _ us hl => match us, hl with | [_, _], _ => rfl
  have F16 : FunD K "_law_some" "_law_some" (defArgs s_l_some) (defBody s_l_some) (defScope s_l_some) [] [] f16 _ := ⟨⟨oc16, od16, .none, kV16, dc16, pm16, an16, cd16, ct16, sl16, rfl, l16, c16, .inl ⟨rfl, rfl⟩, .inl rfl⟩, k16⟩
  have B16 := binds0 (ps := p_l_some) F16 fun _ _ _ _ _ _ us hl => match us, hl with | [_, _, _], _ => rfl
  have F17 : FunD K "_law_counted" "_law_counted" (defArgs s_l_counted) (defBody s_l_counted) (defScope s_l_counted) [] [] f17 _ := ⟨⟨oc17, od17, .none, kV17, dc17, pm17, an17, cd17, ct17, sl17, rfl, l17, c17, .inl ⟨rfl, rfl⟩, .inl rfl⟩, k17⟩
  have B17 := binds0 (ps := p_l_counted) F17 fun _ _ _ _ _ _ us hl => match us, hl with | [_, _], _ => rfl
  have F18 : FunD K "_law_epochs" "_law_epochs" (defArgs s_l_epochs) (defBody s_l_epochs) (defScope s_l_epochs) [] [] f18 _ := ⟨⟨oc18, od18, .none, kV18, dc18, pm18, an18, cd18, ct18, sl18, rfl, l18, c18, .inl ⟨rfl, rfl⟩, .inl rfl⟩, k18⟩
  have B18 := binds0 (ps := p_l_epochs) F18 fun _ _ _ _ _ _ us hl => match us, hl with | [_, _], _ => rfl
  have F19 : FunD K "_law_is_secret" "_law_is_secret" (defArgs s_l_is_secret) (defBody s_l_is_secret) (defScope s_l_is_secret) [] [] f19 _ := ⟨⟨oc19, od19, .none, kV19, dc19, pm19, an19, cd19, ct19, sl19, rfl, l19, c19, .inl ⟨rfl, rfl⟩, .inl rfl⟩, k19⟩
  have B19 := binds0 (ps := p_l_is_secret) F19 fun _ _ _ _ _ _ us hl => match us, hl with | [_, _, _], _ => rfl
  have F20 : FunD K "_law_fewest" "_law_fewest" (defArgs s_l_fewest) (defBody s_l_fewest) (defScope s_l_fewest) [] [] f20 _ := ⟨⟨oc20, od20, .none, kV20, dc20, pm20, an20, cd20, ct20, sl20, rfl, l20, c20, .inl ⟨rfl, rfl⟩, .inl rfl⟩, k20⟩
  have B20 := binds0 (ps := p_l_fewest) F20 fun _ _ _ _ _ _ us hl => match us, hl with | [_, _], _ => rfl
  have F21 : FunD K "_law_stairs" "_law_stairs" (defArgs s_l_stairs) (defBody s_l_stairs) (defScope s_l_stairs) [] [] f21 _ := ⟨⟨oc21, od21, .none, kV21, dc21, pm21, an21, cd21, ct21, sl21, rfl, l21, c21, .inl ⟨rfl, rfl⟩, .inl rfl⟩, k21⟩
  have B21 := binds0 (ps := p_l_stairs) F21 fun _ _ _ _ _ _ us hl => match us, hl with | [_], _ => rfl
  have F22 : FunD K "_law_bent" "_law_bent" (defArgs s_l_bent) (defBody s_l_bent) (defScope s_l_bent) [] [] f22 _ := ⟨⟨oc22, od22, .none, kV22, dc22, pm22, an22, cd22, ct22, sl22, rfl, l22, c22, .inl ⟨rfl, rfl⟩, .inl rfl⟩, k22⟩
  have B22 := binds0 (ps := p_l_bent) F22 fun _ _ _ _ _ _ us hl => match us, hl with | [_, _, _], _ => rfl
  have F23 : FunD K "law" "law" (defArgs s_law) (defBody s_law) (defScope s_law) [] [] _ _ := ⟨⟨oc23, od23, .none, kV23, dc23, pm23, an23, cd23, ct23, sl23, rfl, l23, c23, .inl ⟨rfl, rfl⟩, .inl rfl⟩, k23⟩
  exact ⟨_, fun s v => .of_eq rfl, fun base _ _ => ok_law ⟨f1, _, F1, (PySem.W.mg_of X G a1), B1, f2, _, F2, (PySem.W.mg_of X G a2), u2_1, B2_1, v2_1, f3, _, F3, (PySem.W.mg_of X G a3), B3, f4, _, F4, (PySem.W.mg_of X G a4), B4, f5, _, F5, (PySem.W.mg_of X G a5), B5, f6, _, F6, (PySem.W.mg_of X G a6), B6, f7, _, F7, (PySem.W.mg_of X G a7), B7, f8, _, F8, (PySem.W.mg_of X G a8), B8, f9, _, F9, (PySem.W.mg_of X G a9), B9, f10, _, F10, (PySem.W.mg_of X G a10), B10, f11, _, F11, (PySem.W.mg_of X G a11), B11, f12, _, F12, (PySem.W.mg_of X G a12), B12, f13, _, F13, (PySem.W.mg_of X G a13), B13, f14, _, F14, (PySem.W.mg_of X G a14), B14, f15, _, F15, (PySem.W.mg_of X G a15), B15, f16, _, F16, (PySem.W.mg_of X G a16), B16, f17, _, F17, (PySem.W.mg_of X G a17), B17, f18, _, F18, (PySem.W.mg_of X G a18), B18, f19, _, F19, (PySem.W.mg_of X G a19), B19, f20, _, F20, (PySem.W.mg_of X G a20), B20, f21, _, F21, (PySem.W.mg_of X G a21), B21, f22, _, F22, (PySem.W.mg_of X G a22), B22, _, _, F23, (PySem.W.mg_of X G a23), (PySem.W.mg_none_of X G z0), (PySem.W.mg_none_of X G z1), (PySem.W.mg_none_of X G z2), (PySem.W.mg_none_of X G z3), (PySem.W.mg_none_of X G z4), (PySem.W.mg_none_of X G z5), (PySem.W.mg_none_of X G z6), (PySem.W.mg_none_of X G z7), (PySem.W.mg_none_of X G z8), (PySem.W.mg_none_of X G z9), (PySem.W.mg_none_of X G z10), (PySem.W.mg_none_of X G z11), (PySem.W.mg_none_of X G z12), (PySem.W.mg_none_of X G z13), (PySem.W.mg_none_of X G z14), (PySem.W.mg_none_of X G z15)⟩⟩
end K44
open PySem PySem.W PyProof.Rows
set_option maxHeartbeats 0 in
theorem PySem.Challenge.cw_keysapart_k44_whole_schedules_and_stairs_holds : PySem.Challenge.rw_keysapart_k44_whole_schedules_and_stairs.Holds := by
  w_on; o_law; k_head; (case hw => w_witness2)
  k_fill
  refine L2.walk_of (l := PySem.Challenge.rw_keysapart_k44_whole_schedules_and_stairs) (n := 63) (k := 5) (x := "script") (CX := fun _ => L2.CX0) (sp := fun w => PM.spLawM _) rfl (by decide) rfl ⟨rfl, by decide, by decide⟩ (fun w h Y => PySem.W.kIn_of Y) ?F (fun _ _ a ns hl hO hS => ⟨a, ns, rfl, hO, hS, hl, fun _ => rfl⟩) (fun _ _ _ _ _ h => h)
  case F =>
    intro w mg fa h KX G hmg
    refine' K44.all_mk KX G hmg ?a1 ?l1 ?c1 ?k1 ?a2 ?l2 ?c2 ?k2 ?t2 ?a3 ?l3 ?c3 ?k3 ?a4 ?l4 ?c4 ?k4 ?a5 ?l5 ?c5 ?k5 ?a6 ?l6 ?c6 ?k6 ?a7 ?l7 ?c7 ?k7 ?a8 ?l8 ?c8 ?k8 ?a9 ?l9 ?c9 ?k9 ?a10 ?l10 ?c10 ?k10 ?a11 ?l11 ?c11 ?k11 ?a12 ?l12 ?c12 ?k12 ?a13 ?l13 ?c13 ?k13 ?a14 ?l14 ?c14 ?k14 ?a15 ?l15 ?c15 ?k15 ?a16 ?l16 ?c16 ?k16 ?a17 ?l17 ?c17 ?k17 ?a18 ?l18 ?c18 ?k18 ?a19 ?l19 ?c19 ?k19 ?a20 ?l20 ?c20 ?k20 ?a21 ?l21 ?c21 ?k21 ?a22 ?l22 ?c22 ?k22 ?a23 ?l23 ?c23 ?k23 ?z0 ?z1 ?z2 ?z3 ?z4 ?z5 ?z6 ?z7 ?z8 ?z9 ?z10 ?z11 ?z12 ?z13 ?z14 ?z15
    (case a1 => k_is); (case l1 => k_is); (case c1 => k_is); (case k1 => k_is); (case a2 => k_is); (case l2 => k_is); (case c2 => k_is); (case k2 => k_is); (case t2 => k_is); (case a3 => k_is); (case l3 => k_is); (case c3 => k_is); (case k3 => k_is); (case a4 => k_is); (case l4 => k_is); (case c4 => k_is); (case k4 => k_is); (case a5 => k_is); (case l5 => k_is); (case c5 => k_is); (case k5 => k_is); (case a6 => k_is); (case l6 => k_is); (case c6 => k_is); (case k6 => k_is); (case a7 => k_is); (case l7 => k_is); (case c7 => k_is); (case k7 => k_is); (case a8 => k_is); (case l8 => k_is); (case c8 => k_is); (case k8 => k_is); (case a9 => k_is); (case l9 => k_is); (case c9 => k_is); (case k9 => k_is); (case a10 => k_is); (case l10 => k_is); (case c10 => k_is); (case k10 => k_is); (case a11 => k_is); (case l11 => k_is); (case c11 => k_is); (case k11 => k_is); (case a12 => k_is); (case l12 => k_is); (case c12 => k_is); (case k12 => k_is); (case a13 => k_is); (case l13 => k_is); (case c13 => k_is); (case k13 => k_is); (case a14 => k_is); (case l14 => k_is); (case c14 => k_is); (case k14 => k_is); (case a15 => k_is); (case l15 => k_is); (case c15 => k_is); (case k15 => k_is); (case a16 => k_is); (case l16 => k_is); (case c16 => k_is); (case k16 => k_is); (case a17 => k_is); (case l17 => k_is); (case c17 => k_is); (case k17 => k_is); (case a18 => k_is); (case l18 => k_is); (case c18 => k_is); (case k18 => k_is); (case a19 => k_is); (case l19 => k_is); (case c19 => k_is); (case k19 => k_is); (case a20 => k_is); (case l20 => k_is); (case c20 => k_is); (case k20 => k_is); (case a21 => k_is); (case l21 => k_is); (case c21 => k_is); (case k21 => k_is); (case a22 => k_is); (case l22 => k_is); (case c22 => k_is); (case k22 => k_is); (case a23 => k_is); (case l23 => k_is); (case c23 => k_is); (case k23 => k_is); (case z0 => k_is); (case z1 => k_is); (case z2 => k_is); (case z3 => k_is); (case z4 => k_is); (case z5 => k_is); (case z6 => k_is); (case z7 => k_is); (case z8 => k_is); (case z9 => k_is); (case z10 => k_is); (case z11 => k_is); (case z12 => k_is); (case z13 => k_is); (case z14 => k_is); (case z15 => k_is)

