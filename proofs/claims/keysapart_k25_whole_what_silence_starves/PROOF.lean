import PyProof.Rows.All
import Wide.All
import OpenK.AllK
import Wide.FinOn
import HandS.ForMost
import HandS.Walk
import HandS.SetKeys
import HandS.SetBool
import HandS.SortInts
import HandS.TupAny
import HandS.Style
import HandS.IsInst
import HandS.WordsDict
import HandS.More
import HandS.ListItems
import HandS.Zip
import HandS.Defaults
import HandS.Deep
import HandS.Wide
import PyProof.Draws
import KE.GoesMore
import KE.GoesEnum
import KE.DataMinMax
import HandS.Conv
import PySem.Challenge.RW_keysapart_k25_whole_what_silence_starves
set_option Elab.async false
set_option linter.all false
set_option maxRecDepth 100000
set_option maxHeartbeats 1000000
/-! PM: values as trees; what stands for them in the heap. -/
namespace PM
open PySem L2

inductive PV where
  | non | bl (b : Bool) | int (i : Int) | str (x : Str)
  | tup (xs : List PV) | lst (xs : List PV) | dic (ks : List Key) (vs : List PV)
  | obj (C : Addr) (ns : List Str) (vs : List PV)
  | ref (a : Addr) | src | scr (ns : List Int) | iset (ks : List Int)

/-- a set of whole numbers at a -/
def SetI (a : Addr) (S : Int → Bool) (n : Nat) : HO := .ext fun h => ∃ (P : Program) (w : World), h.SetOf (PySem.intKind P w) a S n

/-- sources of draws, in pairs of places -/
abbrev Ws := List (Addr × Addr)
def inW (W : Ws) (b : Addr) : Prop := ∃ p ∈ W, b = p.1 ∨ b = p.2
-- SOURCE FORM
/-- what stands at a source -/
def SA (H : Hp) (p : Addr × Addr) : Prop :=
  p.1 ≠ p.2 ∧ ∃ (cs : List Nat) (s : Nat), cs.length ≤ 63 ∧ s < 2147483647 ∧ H p.1 = some (.lst [.ref p.2, .int (s : Int)]) ∧ H p.2 = some (.lst (cs.map fun (c : Nat) => V.int (c : Int)))
theorem SA.at {H H' : Hp} {p : Addr × Addr} (h1 : H' p.1 = H p.1) (h2 : H' p.2 = H p.2) (h : SA H p) : SA H' p := by
  obtain ⟨n, cs, s, hl, hs, a, b⟩ := h
  exact ⟨n, cs, s, hl, hs, by rw [h1]; exact a, by rw [h2]; exact b⟩
theorem SA.some {H : Hp} {p : Addr × Addr} (h : SA H p) : (∃ o, H p.1 = some o) ∧ ∃ o, H p.2 = some o := by
  obtain ⟨n, cs, s, hl, hs, a, b⟩ := h
  exact ⟨⟨_, a⟩, _, b⟩
-- SOURCE FORM ENDS
theorem inW_some {H : Hp} {W : Ws} (h : ∀ p ∈ W, SA H p) {b : Addr} (hb : inW W b) : ∃ o, H b = some o := by
  obtain ⟨p, hp, e | e⟩ := hb
  · rw [e]; exact (h p hp).some.1
  · rw [e]; exact (h p hp).some.2

/-- a heap with what is to be avoided -/
structure Wd where
  Z : Addr → Prop
  W : Ws
  H : Hp
def KTup (K : PySem.W.Frag) (a : Addr) (xs : List V) : Prop := ∃ (o : Obj) (its : Array Value) (n : Nat), K.lookup a = some o ∧ o.cls = .type "tuple" ∧ o.data = .seq its n ∧ its.size ≤ sizeLine ∧ Vals xs its.toList
def KLst (K : PySem.W.Frag) (a : Addr) (xs : List V) : Prop := ∃ (o : Obj) (its : Array Value) (n : Nat), K.lookup a = some o ∧ o.cls = .type "list" ∧ o.dict = none ∧ o.data = .seq its n ∧ its.size ≤ sizeLine ∧ Vals xs its.toList
def TupAt (K : PySem.W.Frag) (S : Wd) (a : Addr) (xs : List V) : Prop := (¬ S.Z a ∧ S.H a = some (.tup xs)) ∨ KTup K a xs
def LstAt (S : Wd) (a : Addr) (xs : List V) : Prop := ¬ S.Z a ∧ S.H a = some (.lst xs)
theorem TupAt.sq {K : PySem.W.Frag} {S : Wd} {a : Addr} {xs : List V} (h : TupAt K S a xs) : SqT K S.H a xs := h.elim (fun x => .inl (.inl x.2)) .inr
theorem LstAt.sq {K : PySem.W.Frag} {S : Wd} {a : Addr} {xs : List V} (h : LstAt S a xs) : SqL K S.H a xs := .inl (.inl h.2)

mutual
def Rp (K : PySem.W.Frag) (S : Wd) : PV → V → Prop
  | .non, v => v = .non
  | .bl b, v => v = .bl b
  | .int i, v => v = .int i
  | .str x, v => v = .str x
  | .ref a, v => v = .ref a
  | .src, v => ∃ p ∈ S.W, v = .ref p.1
  | .iset ks, v => ∃ a n, v = .ref a ∧ ¬ S.Z a ∧ S.H a = some (SetI a (fun k => decide (k ∈ ks)) n)
  | .scr ns, v => ∃ a, v = .ref a ∧ ((¬ S.Z a ∧ ∃ o, S.H a = some (.frz o (.lst (ns.map V.int)))) ∨ KLst K a (ns.map V.int))
  | .tup ps, v => ∃ a vs, v = .ref a ∧ TupAt K S a vs ∧ Rps K S ps vs
  | .lst ps, v => ∃ a vs, v = .ref a ∧ LstAt S a vs ∧ Rps K S ps vs
  | .dic ks ps, v => ∃ a vs, v = .ref a ∧ ¬ S.Z a ∧ S.H a = some (.dK (ks.zip vs)) ∧ ks.length = vs.length ∧ Rps K S ps vs
  | .obj C ns ps, v => ∃ a dx vs, v = .ref a ∧ ¬ S.Z a ∧ S.H a = some (.ins C dx (ns.zip vs)) ∧ ns.length = vs.length ∧ Rps K S ps vs
def Rps (K : PySem.W.Frag) (S : Wd) : List PV → List V → Prop
  | [], vs => vs = []
  | p :: ps, vs => ∃ v r, vs = v :: r ∧ Rp K S p v ∧ Rps K S ps r
end

structure Ext (S S' : Wd) : Prop where
  keep : ∀ b o, ¬ S.Z b → S.H b = some o → ¬ S'.Z b ∧ S'.H b = some o
  srcs : ∀ p ∈ S.W, p ∈ S'.W
theorem Ext.trans {S S' S'' : Wd} (x : Ext S S') (y : Ext S' S'') : Ext S S'' :=
  ⟨fun b o h e => let ⟨h1, e1⟩ := x.keep b o h e; y.keep b o h1 e1, fun p hp => y.srcs p (x.srcs p hp)⟩
section
variable {K : PySem.W.Frag} {S S' : Wd}
theorem TupAt.ext (x : Ext S S') {a : Addr} {xs : List V} (h : TupAt K S a xs) : TupAt K S' a xs := h.elim (fun y => .inl (x.keep a _ y.1 y.2)) .inr
theorem LstAt.ext (x : Ext S S') {a : Addr} {xs : List V} (h : LstAt S a xs) : LstAt S' a xs := x.keep a _ h.1 h.2
mutual
theorem Rp.ext (x : Ext S S') : ∀ {p : PV} {v : V}, Rp K S p v → Rp K S' p v
  | .non, _, h => h
  | .bl _, _, h => h
  | .int _, _, h => h
  | .str _, _, h => h
  | .ref _, _, h => h
  | .src, _, h => by
    unfold Rp at h ⊢
    obtain ⟨p, hp, e⟩ := h
    exact ⟨p, x.srcs p hp, e⟩
  | .scr ns, _, h => by
    unfold Rp at h ⊢
    obtain ⟨a, e, h⟩ := h
    rcases h with ⟨h1, o, h2⟩ | h
    · exact ⟨a, e, .inl ⟨(x.keep a _ h1 h2).1, o, (x.keep a _ h1 h2).2⟩⟩
    · exact ⟨a, e, .inr h⟩
  | .iset ks, _, h => by
    unfold Rp at h ⊢
    obtain ⟨a, n, e, h1, h2⟩ := h
    exact ⟨a, n, e, (x.keep a _ h1 h2).1, (x.keep a _ h1 h2).2⟩
  | .tup ps, _, h => by
    unfold Rp at h ⊢
    obtain ⟨a, vs, e, h1, h2⟩ := h
    exact ⟨a, vs, e, h1.ext x, Rps.ext x h2⟩
  | .lst ps, _, h => by
    unfold Rp at h ⊢
    obtain ⟨a, vs, e, h1, h2⟩ := h
    exact ⟨a, vs, e, h1.ext x, Rps.ext x h2⟩
  | .dic ks ps, _, h => by
    unfold Rp at h ⊢
    obtain ⟨a, vs, e, h0, h1, hl, h2⟩ := h
    exact ⟨a, vs, e, (x.keep a _ h0 h1).1, (x.keep a _ h0 h1).2, hl, Rps.ext x h2⟩
  | .obj C ns ps, _, h => by
    unfold Rp at h ⊢
    obtain ⟨a, dx, vs, e, h0, h1, hl, h2⟩ := h
    exact ⟨a, dx, vs, e, (x.keep a _ h0 h1).1, (x.keep a _ h0 h1).2, hl, Rps.ext x h2⟩
theorem Rps.ext (x : Ext S S') : ∀ {ps : List PV} {vs : List V}, Rps K S ps vs → Rps K S' ps vs
  | [], _, h => h
  | p :: ps, _, h => by
    unfold Rps at h ⊢
    obtain ⟨v, r, e, h1, h2⟩ := h
    exact ⟨v, r, e, Rp.ext x h1, Rps.ext x h2⟩
end
theorem Rps.len : ∀ {ps : List PV} {vs : List V}, Rps K S ps vs → ps.length = vs.length
  | [], _, h => by unfold Rps at h; rw [h]; rfl
  | p :: ps, _, h => by
    unfold Rps at h
    obtain ⟨v, r, e, h1, h2⟩ := h
    rw [e, List.length_cons, List.length_cons, Rps.len h2]
theorem Rps.nil : Rps K S [] [] := by unfold Rps; rfl
theorem Rps.cons {p : PV} {ps : List PV} {v : V} {vs : List V} (h : Rp K S p v) (t : Rps K S ps vs) : Rps K S (p :: ps) (v :: vs) := by unfold Rps; exact ⟨v, vs, rfl, h, t⟩
theorem Rps.cons_inv {p : PV} {ps : List PV} {v : V} {vs : List V} (h : Rps K S (p :: ps) (v :: vs)) : Rp K S p v ∧ Rps K S ps vs := by
  unfold Rps at h
  obtain ⟨_, _, e, h1, h2⟩ := h
  cases e
  exact ⟨h1, h2⟩
theorem Rps.get : ∀ {ps : List PV} {vs : List V} {i : Nat} {p : PV}, Rps K S ps vs → ps[i]? = some p → ∃ v, vs[i]? = some v ∧ Rp K S p v
  | [], _, _, _, _, e => by simp at e
  | q :: ps, _, 0, p, h, e => by
    unfold Rps at h
    obtain ⟨v, r, e1, h1, h2⟩ := h
    subst e1
    simp at e
    subst e
    exact ⟨v, by simp, h1⟩
  | q :: ps, _, i + 1, p, h, e => by
    unfold Rps at h
    obtain ⟨v, r, e1, h1, h2⟩ := h
    subst e1
    obtain ⟨w, e2, h3⟩ := Rps.get (i := i) (p := p) h2 (by simpa using e)
    exact ⟨w, by simpa using e2, h3⟩
theorem Rps.append : ∀ {ps qs : List PV} {vs ws : List V}, Rps K S ps vs → Rps K S qs ws → Rps K S (ps ++ qs) (vs ++ ws)
  | [], _, _, _, h, h' => by unfold Rps at h; subst h; exact h'
  | p :: ps, _, _, _, h, h' => by
    unfold Rps at h
    obtain ⟨v, r, e, h1, h2⟩ := h
    subst e
    exact Rps.cons h1 (Rps.append h2 h')
theorem Rps.take : ∀ {ps : List PV} {vs : List V} (n : Nat), Rps K S ps vs → Rps K S (ps.take n) (vs.take n)
  | [], _, _, h => by unfold Rps at h; subst h; simp; exact Rps.nil
  | p :: ps, _, 0, h => by simp; exact Rps.nil
  | p :: ps, _, n + 1, h => by
    unfold Rps at h
    obtain ⟨v, r, e, h1, h2⟩ := h
    subst e
    exact Rps.cons h1 (Rps.take n h2)
theorem Rps.drop : ∀ {ps : List PV} {vs : List V} (n : Nat), Rps K S ps vs → Rps K S (ps.drop n) (vs.drop n)
  | [], _, _, h => by unfold Rps at h; subst h; simp; exact Rps.nil
  | p :: ps, _, 0, h => h
  | p :: ps, _, n + 1, h => by
    unfold Rps at h
    obtain ⟨v, r, e, h1, h2⟩ := h
    subst e
    exact Rps.drop n h2
theorem Rps.set {p : PV} {v : V} (hp : Rp K S p v) : ∀ {ps : List PV} {vs : List V} (n : Nat), Rps K S ps vs → Rps K S (ps.set n p) (vs.set n v)
  | [], _, _, h => by unfold Rps at h; subst h; exact Rps.nil
  | q :: ps, _, 0, h => by
    unfold Rps at h
    obtain ⟨w, r, e, h1, h2⟩ := h
    subst e
    exact Rps.cons hp h2
  | q :: ps, _, n + 1, h => by
    unfold Rps at h
    obtain ⟨w, r, e, h1, h2⟩ := h
    subst e
    exact Rps.cons h1 (Rps.set hp n h2)
theorem Rps.reverse : ∀ {ps : List PV} {vs : List V}, Rps K S ps vs → Rps K S ps.reverse vs.reverse
  | [], _, h => by unfold Rps at h; subst h; exact Rps.nil
  | p :: ps, _, h => by
    unfold Rps at h
    obtain ⟨v, r, e, h1, h2⟩ := h
    subst e
    rw [List.reverse_cons, List.reverse_cons]
    exact Rps.append (Rps.reverse h2) (Rps.cons h1 Rps.nil)
theorem Rps.eraseIdx : ∀ {ps : List PV} {vs : List V} (n : Nat), Rps K S ps vs → Rps K S (ps.eraseIdx n) (vs.eraseIdx n)
  | [], _, _, h => by unfold Rps at h; subst h; exact Rps.nil
  | q :: ps, _, 0, h => by
    unfold Rps at h
    obtain ⟨w, r, e, h1, h2⟩ := h
    subst e
    exact h2
  | q :: ps, _, n + 1, h => by
    unfold Rps at h
    obtain ⟨w, r, e, h1, h2⟩ := h
    subst e
    exact Rps.cons h1 (Rps.eraseIdx n h2)
theorem Rps.ints : ∀ {ns : List Int} {vs : List V}, Rps K S (ns.map PV.int) vs ↔ vs = ns.map V.int
  | [], _ => by unfold Rps; rfl
  | n :: ns, vs => by
    constructor
    · intro h
      rw [List.map_cons] at h
      unfold Rps at h
      obtain ⟨v, r, e, h1, h2⟩ := h
      unfold Rp at h1
      rw [e, h1, Rps.ints.mp h2]
      rfl
    · intro h
      rw [h, List.map_cons, List.map_cons]
      exact Rps.cons (by unfold Rp; rfl) (Rps.ints.mpr rfl)
theorem Rps.strs : ∀ {ns : List Str} {vs : List V}, Rps K S (ns.map PV.str) vs ↔ vs = ns.map V.str
  | [], _ => by unfold Rps; rfl
  | n :: ns, vs => by
    constructor
    · intro h
      rw [List.map_cons] at h
      unfold Rps at h
      obtain ⟨v, r, e, h1, h2⟩ := h
      unfold Rp at h1
      rw [e, h1, Rps.strs.mp h2]
      rfl
    · intro h
      rw [h, List.map_cons, List.map_cons]
      exact Rps.cons (by unfold Rp; rfl) (Rps.strs.mpr rfl)
theorem Rps.bls : ∀ {ns : List Bool} {vs : List V}, Rps K S (ns.map PV.bl) vs ↔ vs = ns.map V.bl
  | [], _ => by unfold Rps; rfl
  | n :: ns, vs => by
    constructor
    · intro h
      rw [List.map_cons] at h
      unfold Rps at h
      obtain ⟨v, r, e, h1, h2⟩ := h
      unfold Rp at h1
      rw [e, h1, Rps.bls.mp h2]
      rfl
    · intro h
      rw [h, List.map_cons, List.map_cons]
      exact Rps.cons (by unfold Rp; rfl) (Rps.bls.mpr rfl)
end

/-- as Rp, but the list at the root may be one's own -/
def RpO (K : PySem.W.Frag) (S : Wd) : PV → V → Prop
  | .lst ps, v => ∃ a vs, v = .ref a ∧ (¬ inW S.W a ∧ S.H a = some (.lst vs)) ∧ Rps K S ps vs
  | .dic ks ps, v => ∃ a vs, v = .ref a ∧ ¬ inW S.W a ∧ S.H a = some (.dK (ks.zip vs)) ∧ ks.length = vs.length ∧ Rps K S ps vs
  | p, v => Rp K S p v
/-- what stands at a, its parts clean -/
def OwnAt (K : PySem.W.Frag) (S : Wd) (a : Addr) : PV → Prop
  | .lst ps => ∃ vs, S.H a = some (.lst vs) ∧ Rps K S ps vs
  | .dic ks ps => ∃ vs, S.H a = some (.dK (ks.zip vs)) ∧ ks.length = vs.length ∧ Rps K S ps vs
  | .obj C ns ps => ∃ dx vs, S.H a = some (.ins C dx (ns.zip vs)) ∧ ns.length = vs.length ∧ Rps K S ps vs
  | _ => False

/-! ### what an expression's value is: clean, its root perhaps one's own, newly made -/
inductive Md where | cl | ow | fr deriving DecidableEq
/-- all that was tracked stays, but the sources; these keep their form -/
structure Grow (W : Ws) (H H' : Hp) : Prop where
  keep : ∀ b o, ¬ inW W b → H b = some o → H' b = some o
  src : ∀ p ∈ W, SA H' p
theorem Grow.trans {W : Ws} {H H1 H2 : Hp} (a : Grow W H H1) (b : Grow W H1 H2) : Grow W H H2 := ⟨fun c o n e => b.keep c o n (a.keep c o n e), b.src⟩
theorem Grow.refl {W : Ws} {H : Hp} (h : ∀ p ∈ W, SA H p) : Grow W H H := ⟨fun _ _ _ e => e, h⟩
theorem Grow.free {W : Ws} {H H1 : Hp} (g : Grow W H H1) {a : Addr} (h : H1 a = none) : H a = none := by
  cases e : H a with
  | none => rfl
  | some o =>
    by_cases w : inW W a
    · obtain ⟨u, e1⟩ := inW_some g.src w
      rw [h] at e1; cases e1
    · rw [g.keep a o w e] at h; cases h
theorem Grow.ext {Z : Addr → Prop} {W : Ws} {H H' : Hp} (g : Grow W H H') (hz : ∀ b, inW W b → Z b) : Ext ⟨Z, W, H⟩ ⟨Z, W, H'⟩ := ⟨fun b o h e => ⟨h, g.keep b o (fun w => h (hz b w)) e⟩, fun _ h => h⟩
/-- a new object -/
theorem Grow.new {W : Ws} {H : Hp} (h : ∀ p ∈ W, SA H p) {a : Addr} {o : HO} (n : H a = none) : Grow W H (upd H a o) := by
  have k : ∀ b u, H b = some u → upd H a o b = some u := fun b u e => by rw [upd_ne (ne_of_none e n)]; exact e
  refine ⟨fun b u _ e => k b u e, fun p hp => ?_⟩
  obtain ⟨⟨_, e1⟩, _, e2⟩ := (h p hp).some
  exact SA.at (by rw [k _ _ e1, e1]) (by rw [k _ _ e2, e2]) (h p hp)
def VK1 (K : PySem.W.Frag) (md : Md) (Z : Addr → Prop) (W : Ws) (H H' : Hp) (p : PV) (v : V) : Prop :=
  match md with
  | .cl => Rp K ⟨Z, W, H'⟩ p v
  | .ow => RpO K ⟨Z, W, H'⟩ p v
  | .fr => ∃ a, v = .ref a ∧ H a = none ∧ OwnAt K ⟨fun b => Z b ∨ b = a, W, H'⟩ a p
section
variable {K : PySem.W.Frag} {Z Z' : Addr → Prop} {W : Ws} {H H1 H' : Hp} {p : PV} {v : V}
theorem Rp.ow (hz : ∀ b, inW W b → Z b) (h : Rp K ⟨Z, W, H⟩ p v) : RpO K ⟨Z, W, H⟩ p v := by
  cases p with
  | lst ps =>
    unfold Rp at h
    obtain ⟨a, vs, e, h1, h2⟩ := h
    exact ⟨a, vs, e, ⟨fun w => h1.1 (hz a w), h1.2⟩, h2⟩
  | dic ks ps =>
    unfold Rp at h
    obtain ⟨a, vs, e, h0, h1⟩ := h
    exact ⟨a, vs, e, fun w => h0 (hz a w), h1⟩
  | _ => exact h
theorem ext_less (h : ∀ b, Z' b → Z b) : Ext ⟨Z, W, H⟩ ⟨Z', W, H⟩ := ⟨fun b o n e => ⟨fun z => n (h b z), e⟩, fun _ h => h⟩
/-- newly made is clean -/
theorem OwnAt.cl {a : Addr} (hz : ¬ Z a) (h : OwnAt K ⟨fun b => Z b ∨ b = a, W, H⟩ a p) : Rp K ⟨Z, W, H⟩ p (.ref a) := by
  have x : Ext ⟨fun b => Z b ∨ b = a, W, H⟩ ⟨Z, W, H⟩ := ext_less fun b => .inl
  cases p with
  | lst ps =>
    obtain ⟨vs, e, r⟩ := h
    unfold Rp
    exact ⟨a, vs, rfl, ⟨hz, e⟩, Rps.ext x r⟩
  | dic ks ps =>
    obtain ⟨vs, e, l, r⟩ := h
    unfold Rp
    exact ⟨a, vs, rfl, hz, e, l, Rps.ext x r⟩
  | obj C ns ps =>
    obtain ⟨dx, vs, e, l, r⟩ := h
    unfold Rp
    exact ⟨a, dx, vs, rfl, hz, e, l, Rps.ext x r⟩
  | _ => exact h.elim
theorem VK1.cl (hd : ∀ b, Z b → ∃ o, H b = some o) (h : VK1 K .fr Z W H H' p v) : VK1 K .cl Z W H H' p v := by
  obtain ⟨a, rfl, n, o⟩ := h
  exact o.cl fun z => by
    obtain ⟨u, e⟩ := hd a z
    rw [n] at e; cases e
theorem RpO.grow (hz : ∀ b, inW W b → Z b) (g : Grow W H H') (h : RpO K ⟨Z, W, H⟩ p v) : RpO K ⟨Z, W, H'⟩ p v := by
  cases p with
  | lst ps =>
    obtain ⟨a, vs, e, h1, h2⟩ := h
    exact ⟨a, vs, e, ⟨h1.1, g.keep a _ h1.1 h1.2⟩, Rps.ext (g.ext hz) h2⟩
  | dic ks ps =>
    obtain ⟨a, vs, e, h0, h1, l, h2⟩ := h
    exact ⟨a, vs, e, h0, g.keep a _ h0 h1, l, Rps.ext (g.ext hz) h2⟩
  | non => exact Rp.ext (g.ext hz) h
  | bl _ => exact Rp.ext (g.ext hz) h
  | int _ => exact Rp.ext (g.ext hz) h
  | str _ => exact Rp.ext (g.ext hz) h
  | ref _ => exact Rp.ext (g.ext hz) h
  | src => exact Rp.ext (g.ext hz) h
  | scr _ => exact Rp.ext (g.ext hz) h
  | iset _ => exact Rp.ext (g.ext hz) h
  | tup _ => exact Rp.ext (g.ext hz) h
  | obj _ _ _ => exact Rp.ext (g.ext hz) h
end

/-! ### a def's state -/
/-- how a name holds its list: shared, its own, its own and locked -/
inductive Ow where | sh | ow | lk deriving DecidableEq
abbrev Env := List (Option PV)
/-- what is fixed while a def runs -/
structure Gh where
  gw : Bool
  zb : Addr → Prop
  W0 : Ws
  H0 : Hp
  fz : Hp
  Wm : Ws
  pins : List (Nat × Addr × HO)
def cO (c : List Ow) (i : Nat) : Ow := c.getD i .sh
def Zt (G : Gh) (A : Nat → Option Addr) (W : Ws) : Addr → Prop := fun b => G.zb b ∨ inW W b ∨ ∃ i, A i = some b
structure SR (K : PySem.W.Frag) (G : Gh) (c : List Ow) (A : Nat → Option Addr) (W : Ws) (env : Env) (σ : St) (H : Hp) : Prop where
  len : env.length = σ.length
  W0in : ∀ p ∈ G.W0, p ∈ W
  Wmin : ∀ p ∈ G.Wm, p ∈ W
  Wnew : ∀ p ∈ W, p ∈ G.W0 ∨ (G.H0 p.1 = none ∧ G.H0 p.2 = none)
  Wfix : G.gw = false → W = G.W0
  src : ∀ p ∈ W, SA H p
  keep : ∀ b o, ¬ inW G.W0 b → G.H0 b = some o → H b = some o
  zbt : ∀ b, G.zb b → ∃ o, H b = some o
  Asep : ∀ i a, A i = some a → G.H0 a = none ∧ ¬ inW W a ∧ ¬ G.zb a ∧ cO c i ≠ .sh ∧ ∃ o, H a = some o
  Ainj : ∀ i j a, A i = some a → A j = some a → i = j
  Aset : ∀ i p, cO c i ≠ .sh → env[i]? = some (some p) → ∃ a, A i = some a
  slots : ∀ i p, env[i]? = some (some p) → ∃ v, σ[i]? = some (some v) ∧
    match A i with
    | none => Rp K ⟨Zt G A W, W, H⟩ p v
    | some a => v = .ref a ∧ OwnAt K ⟨Zt G A W, W, H⟩ a p
  pins : ∀ q ∈ G.pins, H q.2.1 = some q.2.2 ∧ ¬ inW W q.2.1 ∧ A q.1 = some q.2.1 ∧ cO c q.1 = .lk
  fz : ∀ b o, G.fz b = some o → H b = some o ∧ ¬ Zt G A W b
section
variable {K : PySem.W.Frag} {G : Gh} {c : List Ow} {A : Nat → Option Addr} {W : Ws} {env : Env} {σ : St} {H H' : Hp}
theorem Zt.w {b : Addr} (h : inW W b) : Zt G A W b := .inr (.inl h)
theorem SR.zt (R : SR K G c A W env σ H) {b : Addr} (h : Zt G A W b) : ∃ o, H b = some o := by
  rcases h with h | h | ⟨i, h⟩
  · exact R.zbt b h
  · exact inW_some R.src h
  · exact (R.Asep i b h).2.2.2.2
theorem OwnAt.ext {S S' : Wd} (x : Ext S S') {a : Addr} (e : S'.H a = S.H a) {p : PV} (h : OwnAt K S a p) : OwnAt K S' a p := by
  cases p with
  | lst ps => obtain ⟨vs, h1, h2⟩ := h; exact ⟨vs, by rw [e]; exact h1, Rps.ext x h2⟩
  | dic ks ps => obtain ⟨vs, h1, l, h2⟩ := h; exact ⟨vs, by rw [e]; exact h1, l, Rps.ext x h2⟩
  | obj C ns ps => obtain ⟨dx, vs, h1, l, h2⟩ := h; exact ⟨dx, vs, by rw [e]; exact h1, l, Rps.ext x h2⟩
  | _ => exact h.elim
theorem SR.grow (R : SR K G c A W env σ H) (g : Grow W H H') : SR K G c A W env σ H' := by
  have x : Ext ⟨Zt G A W, W, H⟩ ⟨Zt G A W, W, H'⟩ := g.ext fun b => Zt.w
  have kA : ∀ i a, A i = some a → H' a = H a := fun i a e => by
    obtain ⟨_, n, _, _, o, ho⟩ := R.Asep i a e
    rw [ho, g.keep a o n ho]
  refine ⟨R.len, R.W0in, R.Wmin, R.Wnew, R.Wfix, g.src, fun b o n e => ?_, fun b hb => ?_, fun i a e => ?_, R.Ainj, R.Aset, fun i p e => ?_, fun q hq => ?_, fun b o e => ?_⟩
  · refine g.keep b o (fun w => ?_) (R.keep b o n e)
    obtain ⟨p, hp, hb⟩ := w
    rcases R.Wnew p hp with z | ⟨z1, z2⟩
    · exact n ⟨p, z, hb⟩
    · rcases hb with hb | hb
      · rw [hb, z1] at e; cases e
      · rw [hb, z2] at e; cases e
  · obtain ⟨o, e⟩ := R.zbt b hb
    by_cases w : inW W b
    · exact inW_some g.src w
    · exact ⟨o, g.keep b o w e⟩
  · obtain ⟨h1, h2, h3, h4, o, h5⟩ := R.Asep i a e
    exact ⟨h1, h2, h3, h4, o, g.keep a o h2 h5⟩
  · obtain ⟨v, h1, h2⟩ := R.slots i p e
    refine ⟨v, h1, ?_⟩
    cases hA : A i with
    | none => rw [hA] at h2; exact Rp.ext x h2
    | some a => rw [hA] at h2; exact ⟨h2.1, h2.2.ext x (kA i a hA)⟩
  · obtain ⟨h1, h2, h3⟩ := R.pins q hq
    exact ⟨g.keep _ _ h2 h1, h2, h3⟩
  · obtain ⟨h1, h2⟩ := R.fz b o e
    exact ⟨g.keep b o (fun w => h2 (Zt.w w)) h1, h2⟩
end
end PM

set_option maxHeartbeats 1000000
/-! PM: expressions. -/
namespace PM
open PySem L2

abbrev TEm := Env → (PV → Prop) → Prop
abbrev TAm := Env → (List PV → Prop) → Prop
abbrev TTm := Env → (Bool → Prop) → Prop
def tmE (K : PySem.W.Frag) (c : List Ow) (md : Md) (t : TEm) : TE := fun σ H Q => ∃ G A W env P, SR K G c A W env σ H ∧ t env P ∧ ∀ p v H', Grow W H H' → VK1 K md (Zt G A W) W H H' p v → P p → Q v H'
def tmT (K : PySem.W.Frag) (c : List Ow) (t : TTm) : TT := fun σ H Q => ∃ G A W env P, SR K G c A W env σ H ∧ t env P ∧ ∀ b H', Grow W H H' → P b → Q b H'
def VKs (K : PySem.W.Frag) (md : Md) (Z : Addr → Prop) (W : Ws) (H : Hp) : List PV → List V → Prop := Paired (match md with
  | .ow => RpO K ⟨Z, W, H⟩
  | _ => Rp K ⟨Z, W, H⟩)
def tmA (K : PySem.W.Frag) (c : List Ow) (md : Md) (t : TAm) : TA := fun σ H Q => ∃ G A W env P, SR K G c A W env σ H ∧ t env P ∧ ∀ ps vs H', Grow W H H' → VKs K md (Zt G A W) W H' ps vs → P ps → Q vs H'
structure PEm (X : Cx) (c : List Ow) (md : Md) (e : Expr) (t : TEm) : Prop where
  run : PE X e (tmE X.K c md t)
structure PTm (X : Cx) (c : List Ow) (e : Expr) (t : TTm) : Prop where
  run : PT X e (tmT X.K c t)
structure PWm (X : Cx) (c : List Ow) (e : Expr) (t : TTm) : Prop where
  run : PW X e (tmT X.K c t)
structure PAm (X : Cx) (c : List Ow) (md : Md) (es : List Expr) (t : TAm) : Prop where
  run : PA X es (tmA X.K c md t)
theorem _root_.L2.PE.weak {X : Cx} {e : Expr} {t t' : TE} (h : PE X e t) (k : ∀ σ H Q, t' σ H Q → t σ H Q) : PE X e t' := ⟨fun pins s σ H Q I x => h.run pins s σ H Q I (k σ H Q x)⟩
theorem _root_.L2.PT.weak {X : Cx} {e : Expr} {t t' : TT} (h : PT X e t) (k : ∀ σ H Q, t' σ H Q → t σ H Q) : PT X e t' := ⟨fun pins s σ H Q I x => h.run pins s σ H Q I (k σ H Q x)⟩
theorem _root_.L2.PW.weak {X : Cx} {e : Expr} {t t' : TT} (h : PW X e t) (k : ∀ σ H Q, t' σ H Q → t σ H Q) : PW X e t' := ⟨fun wh pins s σ H Q I x => h.run wh pins s σ H Q I (k σ H Q x)⟩
theorem _root_.L2.PA.weak {X : Cx} {e : List Expr} {t t' : TA} (h : PA X e t) (k : ∀ σ H Q, t' σ H Q → t σ H Q) : PA X e t' := ⟨fun pos pins s σ H Q I x => h.run pos pins s σ H Q I (k σ H Q x)⟩

section
variable {K : PySem.W.Frag} {Z Z' : Addr → Prop} {W : Ws} {H H1 H' : Hp} {p : PV} {v : V} {md : Md}
/-- any value may be taken as one whose root is perhaps one's own -/
theorem VK1.ow (hz : ∀ b, inW W b → Z b) (hd : ∀ b, Z b → ∃ o, H b = some o) (h : VK1 K md Z W H H' p v) : RpO K ⟨Z, W, H'⟩ p v := by
  cases md with
  | cl => exact Rp.ow hz h
  | ow => exact h
  | fr => exact Rp.ow hz (VK1.cl hd h)
theorem VK1.back {H0 : Hp} (g : Grow W H0 H) (h : VK1 K md Z W H H' p v) : VK1 K md Z W H0 H' p v := by
  cases md with
  | cl => exact h
  | ow => exact h
  | fr =>
    obtain ⟨a, e, n, o⟩ := h
    exact ⟨a, e, g.free n, o⟩
/-- what has no list is clean -/
theorem RpO.cl (hp : ∀ ps, p ≠ .lst ps) (hq : ∀ ks ps, p ≠ .dic ks ps) (h : RpO K ⟨Z, W, H⟩ p v) : Rp K ⟨Z, W, H⟩ p v := by
  cases p with
  | lst ps => exact absurd rfl (hp ps)
  | dic ks ps => exact absurd rfl (hq ks ps)
  | _ => exact h
theorem RpO.int {i : Int} (h : RpO K ⟨Z, W, H⟩ (.int i) v) : v = .int i := by unfold RpO Rp at h; exact h
theorem RpO.bl {i : Bool} (h : RpO K ⟨Z, W, H⟩ (.bl i) v) : v = .bl i := by unfold RpO Rp at h; exact h
theorem RpO.str {i : Str} (h : RpO K ⟨Z, W, H⟩ (.str i) v) : v = .str i := by unfold RpO Rp at h; exact h
theorem RpO.non (h : RpO K ⟨Z, W, H⟩ .non v) : v = .non := by unfold RpO Rp at h; exact h
theorem RpO.tup {ps : List PV} (h : RpO K ⟨Z, W, H⟩ (.tup ps) v) : ∃ a vs, v = .ref a ∧ TupAt K ⟨Z, W, H⟩ a vs ∧ Rps K ⟨Z, W, H⟩ ps vs := by unfold RpO Rp at h; exact h
theorem RpO.lst {ps : List PV} (h : RpO K ⟨Z, W, H⟩ (.lst ps) v) : ∃ a vs, v = .ref a ∧ (¬ inW W a ∧ H a = some (.lst vs)) ∧ Rps K ⟨Z, W, H⟩ ps vs := by unfold RpO at h; exact h
theorem Rp.int' {i : Int} : Rp K ⟨Z, W, H⟩ (.int i) (.int i) := by unfold Rp; rfl
theorem Rp.bl' {i : Bool} : Rp K ⟨Z, W, H⟩ (.bl i) (.bl i) := by unfold Rp; rfl
theorem Rp.str' {i : Str} : Rp K ⟨Z, W, H⟩ (.str i) (.str i) := by unfold Rp; rfl
theorem Rp.non' : Rp K ⟨Z, W, H⟩ .non .non := by unfold Rp; rfl
/-- a new tuple -/
theorem Rp.newTup {ps : List PV} {vs : List V} {a : Addr} (hz : ¬ Z a) (n : H a = none) (hs : ∀ p ∈ W, SA H p) (hw : ∀ b, inW W b → Z b) (h : Rps K ⟨Z, W, H⟩ ps vs) : Rp K ⟨Z, W, upd H a (.tup vs)⟩ (.tup ps) (.ref a) := by
  unfold Rp
  exact ⟨a, vs, rfl, .inl ⟨hz, upd_same⟩, Rps.ext ((Grow.new hs n).ext hw) h⟩
/-- a new list -/
theorem OwnAt.newLst {ps : List PV} {vs : List V} {a : Addr} (n : H a = none) (h : Rps K ⟨Z, W, H⟩ ps vs) : OwnAt K ⟨fun b => Z b ∨ b = a, W, upd H a (.lst vs)⟩ a (.lst ps) :=
by
  have x : Ext ⟨Z, W, H⟩ ⟨fun b => Z b ∨ b = a, W, upd H a (.lst vs)⟩ := by
    refine ⟨fun b o z e => ⟨fun y => ?_, ?_⟩, fun _ h => h⟩
    · have e' : H b = some o := e
      rcases y with y | y
      · exact z y
      · rw [y, n] at e'; cases e'
    · have e' : H b = some o := e
      show upd H a (.lst vs) b = some o
      rw [upd_ne (ne_of_none e' n)]; exact e'
  exact ⟨vs, upd_same, Rps.ext x h⟩
theorem VK1.ofRp (h : Rp K ⟨Z, W, H'⟩ p v) : VK1 K .cl Z W H H' p v := h
theorem VK1.o (h : VK1 K .ow Z W H H' p v) : RpO K ⟨Z, W, H'⟩ p v := h
theorem VK1.c (h : VK1 K .cl Z W H H' p v) : Rp K ⟨Z, W, H'⟩ p v := h
theorem VK1.bl {b : Bool} (h : VK1 K md Z W H H' (.bl b) v) : v = .bl b := by
  cases md with
  | cl => unfold VK1 Rp at h; exact h
  | ow => unfold VK1 RpO Rp at h; exact h
  | fr => obtain ⟨a, _, _, h⟩ := h; exact h.elim
end
theorem SR.dz {K : PySem.W.Frag} {G : Gh} {c : List Ow} {A : Nat → Option Addr} {W : Ws} {env : Env} {σ : St} {H : Hp} (R : SR K G c A W env σ H) : ∀ b, Zt G A W b → ∃ o, H b = some o := fun _ h => R.zt h
theorem SR.nz {K : PySem.W.Frag} {G : Gh} {c : List Ow} {A : Nat → Option Addr} {W : Ws} {env : Env} {σ : St} {H : Hp} (R : SR K G c A W env σ H) {a : Addr} (n : H a = none) : ¬ Zt G A W a := fun z => by
  obtain ⟨o, e⟩ := R.zt z
  rw [n] at e; cases e
theorem SR.sz {K : PySem.W.Frag} {G : Gh} {c : List Ow} {A : Nat → Option Addr} {W : Ws} {env : Env} {σ : St} {H : Hp} (_ : SR K G c A W env σ H) : ∀ b, inW W b → Zt G A W b := fun _ => Zt.w

/-! ### coercions -/
section
variable {X : Cx} {c : List Ow} {e : Expr} {t : TEm} {md : Md}
theorem PEm.ow (h : PEm X c md e t) : PEm X c .ow e t := ⟨h.run.weak fun σ H Q ⟨G, A, W, env, P, R, ht, k⟩ => ⟨G, A, W, env, P, R, ht, fun p v H' g r hp => k p v H' g (r.ow R.sz R.dz) hp⟩⟩
theorem PEm.cl (h : PEm X c .fr e t) : PEm X c .cl e t := ⟨h.run.weak fun σ H Q ⟨G, A, W, env, P, R, ht, k⟩ => ⟨G, A, W, env, P, R, ht, fun p v H' g r hp => k p v H' g (VK1.cl R.dz r) hp⟩⟩
end

/-! ### names, constants -/
section
variable {X : Cx} {c : List Ow} {pos : Pos}
def mVar (i : Nat) : TEm := fun env P => ∃ v, env[i]? = some (some v) ∧ P v
def mC (p : PV) : TEm := fun _ P => P p
/-- a shared name -/
theorem em_var (i : Nat) {x : Str} (hN : X.N[i]? = some x := by rfl) (hc : cO c i = .sh := by rfl) (hv : Vis X.env.scope x := by first | exact Or.inl rfl | exact Or.inr (Or.inl rfl) | exact Or.inr (Or.inr rfl)) (hd : (x == ("__debug__" : Str)) = false := by decide)
    (hcd : (x == ("__classdict__" : Str)) = false := by decide) : PEm X c .cl (.Name x pos) (mVar i) := ⟨(pe_var hN hv hd hcd).weak fun σ H Q h => by
  obtain ⟨G, A, W, env, P, R, ⟨p, e, hp⟩, k⟩ := h
  obtain ⟨v, e1, h1⟩ := R.slots i p e
  cases hA : A i with
  | none =>
    rw [hA] at h1
    exact ⟨v, e1, k p v H (Grow.refl R.src) h1 hp⟩
  | some a => exact absurd hc (R.Asep i a hA).2.2.2.1⟩
def mVarO (i : Nat) : TEm := fun env P => ∃ v, env[i]? = some (some v) ∧ (∀ C ns ps, v ≠ .obj C ns ps) ∧ P v
/-- any name -/
theorem em_varO (i : Nat) {x : Str} (hN : X.N[i]? = some x := by rfl) (hv : Vis X.env.scope x := by first | exact Or.inl rfl | exact Or.inr (Or.inl rfl) | exact Or.inr (Or.inr rfl)) (hd : (x == ("__debug__" : Str)) = false := by decide)
    (hcd : (x == ("__classdict__" : Str)) = false := by decide) : PEm X c .ow (.Name x pos) (mVarO i) := ⟨(pe_var hN hv hd hcd).weak fun σ H Q h => by
  obtain ⟨G, A, W, env, P, R, ⟨p, e, no, hp⟩, k⟩ := h
  obtain ⟨v, e1, h1⟩ := R.slots i p e
  refine ⟨v, e1, k p v H (Grow.refl R.src) ?_ hp⟩
  cases hA : A i with
  | none =>
    rw [hA] at h1
    exact Rp.ow R.sz h1
  | some a =>
    rw [hA] at h1
    obtain ⟨rfl, h1⟩ := h1
    have nw := (R.Asep i a hA).2.1
    cases p with
    | lst ps => obtain ⟨vs, e2, r⟩ := h1; exact ⟨a, vs, rfl, ⟨nw, e2⟩, r⟩
    | dic ks ps => obtain ⟨vs, e2, l, r⟩ := h1; exact ⟨a, vs, rfl, nw, e2, l, r⟩
    | obj C ns ps => exact absurd rfl (no C ns ps)
    | _ => exact h1.elim⟩
theorem em_const {md : Md} {e : Expr} {p : PV} {v : V} (h : PE X e (tC v)) (r : ∀ Z W H, Rp X.K ⟨Z, W, H⟩ p v) : PEm X c .cl e (mC p) := ⟨h.weak fun σ H Q h => by
  obtain ⟨G, A, W, env, P, R, hp, k⟩ := h
  exact k p v H (Grow.refl R.src) (r _ _ _) hp⟩
theorem em_int {i : Int} {j : Nat} : PEm X c .cl (.Constant (.int i) j pos) (mC (.int i)) := em_const (md := .cl) pe_int fun _ _ _ => Rp.int'
theorem em_bl {b : Bool} {j : Nat} : PEm X c .cl (.Constant (.bool b) j pos) (mC (.bl b)) := em_const (md := .cl) pe_bl fun _ _ _ => Rp.bl'
theorem em_non {j : Nat} : PEm X c .cl (.Constant .none j pos) (mC .non) := em_const (md := .cl) pe_non fun _ _ _ => Rp.non'
theorem em_str {x : Str} {j : Nat} : PEm X c .cl (.Constant (.str x) j pos) (mC (.str x)) := em_const (md := .cl) pe_str fun _ _ _ => Rp.str'
end

/-! ### operations by values -/
abbrev PO2 := PV → PV → (PV → Prop) → Prop
abbrev PO1 := PV → (PV → Prop) → Prop
abbrev POn := List PV → (PV → Prop) → Prop
/-- what stands around an operation -/
structure Sit (Z : Addr → Prop) (W : Ws) (H : Hp) : Prop where
  wz : ∀ b, inW W b → Z b
  src : ∀ p ∈ W, SA H p
  zd : ∀ b, Z b → ∃ o, H b = some o
theorem SR.sit {K : PySem.W.Frag} {G : Gh} {c : List Ow} {A : Nat → Option Addr} {W : Ws} {env : Env} {σ : St} {H : Hp} (R : SR K G c A W env σ H) : Sit (Zt G A W) W H := ⟨R.sz, R.src, R.dz⟩
theorem Sit.nz {Z : Addr → Prop} {W : Ws} {H : Hp} (s : Sit Z W H) {a : Addr} (n : H a = none) : ¬ Z a := fun z => by
  obtain ⟨o, e⟩ := s.zd a z
  rw [n] at e; cases e
def Lift1 (K : PySem.W.Frag) (r : V → Hp → VK → Prop) (o : PO1) (md : Md) : Prop :=
  ∀ Z W H px vx P Q, Sit Z W H → RpO K ⟨Z, W, H⟩ px vx → o px P → (∀ p v H', Grow W H H' → VK1 K md Z W H H' p v → P p → Q v H') → r vx H Q
def Lift2 (K : PySem.W.Frag) (r : R2) (o : PO2) (md : Md) : Prop :=
  ∀ Z W H px py vx vy P Q, Sit Z W H → RpO K ⟨Z, W, H⟩ px vx → RpO K ⟨Z, W, H⟩ py vy → o px py P → (∀ p v H', Grow W H H' → VK1 K md Z W H H' p v → P p → Q v H') → r vx vy H Q
def LiftN (K : PySem.W.Frag) (r : List V → Hp → VK → Prop) (o : POn) (md : Md) : Prop :=
  ∀ Z W H ps vs P Q, Sit Z W H → VKs K .ow Z W H ps vs → o ps P → (∀ p v H', Grow W H H' → VK1 K md Z W H H' p v → P p → Q v H') → r vs H Q
def mOp1 (o : PO1) (ta : TEm) : TEm := fun env P => ta env fun x => o x P
def mOp (o : PO2) (ta tb : TEm) : TEm := fun env P => ta env fun x => tb env fun y => o x y P
def mB (o : POn) (t : TAm) : TEm := fun env P => t env fun xs => o xs P
section
variable {X : Cx} {c : List Ow} {a b : Expr} {ta tb : TEm} {md : Md} {pos : Pos} {r : R2} {o : PO2}
theorem tm1 {K : PySem.W.Frag} {r : V → Hp → VK → Prop} {o : PO1} (L : Lift1 K r o md) (σ : St) (H : Hp) (Q : VK) (h : tmE K c md (mOp1 o ta) σ H Q) : tmE K c .ow ta σ H fun x H1 => r x H1 Q := by
  obtain ⟨G, A, W, env, P, R, h, k⟩ := h
  exact ⟨G, A, W, env, _, R, h, fun px vx H1 g1 rx h1 => L _ W H1 px vx P Q (R.grow g1).sit rx h1 fun p v H' g r hp => k p v H' (g1.trans g) (r.back g1) hp⟩
theorem tm2 {K : PySem.W.Frag} (L : Lift2 K r o md) (σ : St) (H : Hp) (Q : VK) (h : tmE K c md (mOp o ta tb) σ H Q) : tOp r (tmE K c .ow ta) (tmE K c .ow tb) σ H Q := by
  obtain ⟨G, A, W, env, P, R, h, k⟩ := h
  refine ⟨G, A, W, env, _, R, h, fun px vx H1 g1 rx h1 => ⟨G, A, W, env, _, R.grow g1, h1, fun py vy H2 g2 ry h2 => ?_⟩⟩
  exact L _ W H2 px py vx vy P Q ((R.grow g1).grow g2).sit (RpO.grow R.sz g2 rx) ry h2 fun p v H' g r hp => k p v H' ((g1.trans g2).trans g) (r.back (g1.trans g2)) hp
theorem em_op {op : Operator} (ho : OpR X (binaryOp op) r) (L : Lift2 X.K r o md) (ha : PEm X c .ow a ta) (hb : PEm X c .ow b tb) : PEm X c md (.BinOp a op b pos) (mOp o ta tb) := ⟨(pe_op ho ha.run hb.run).weak (tm2 L)⟩
theorem em_cmp {op : CmpOp} (ho : OpR X (compareOp op) r) (L : Lift2 X.K r o md) (ha : PEm X c .ow a ta) (hb : PEm X c .ow b tb) (hm : behindInMarks op b = false) : PEm X c md (.Compare a [op] [b] pos) (mOp o ta tb) := ⟨(pe_cmpR ho ha.run hb.run hm).weak (tm2 L)⟩
theorem em_un {op : UnaryOp} {r : V → Hp → VK → Prop} {o : PO1} (ho : UnR X (unaryOp op) r) (L : Lift1 X.K r o md) (ha : PEm X c .ow a ta) : PEm X c md (.UnaryOp op a pos) (mOp1 o ta) := ⟨(pe_un ho ha.run).weak (tm1 L)⟩
/-- arguments -/
def mNil : TAm := fun _ P => P []
def mCons (t : TEm) (ts : TAm) : TAm := fun env P => t env fun x => ts env fun xs => P (x :: xs)
variable {e : Expr} {es : List Expr} {te : TEm} {t : TAm}
theorem am_nil : PAm X c md [] mNil := ⟨pa_nil.weak fun σ H Q h => by
  obtain ⟨G, A, W, env, P, R, h, k⟩ := h
  exact k [] [] H (Grow.refl R.src) .nil h⟩
theorem VKs.grow {K : PySem.W.Frag} {Z : Addr → Prop} {W : Ws} {H H' : Hp} (hz : ∀ b, inW W b → Z b) (g : Grow W H H') : ∀ {ps : List PV} {vs : List V}, VKs K md Z W H ps vs → VKs K md Z W H' ps vs
  | _, _, .nil => .nil
  | _, _, .cons h t => .cons (by cases md with
    | cl => exact Rp.ext (g.ext hz) h
    | fr => exact Rp.ext (g.ext hz) h
    | ow => exact RpO.grow hz g h) (VKs.grow hz g t)
theorem am_cons (ha : PEm X c .ow e te) (hr : PAm X c .ow es t) (hs : starEach (e :: es) X.env = (false, eval e X.env) :: starEach es X.env := by rfl) : PAm X c .ow (e :: es) (mCons te t) := ⟨(pa_cons ha.run hr.run hs).weak fun σ H Q h => by
  obtain ⟨G, A, W, env, P, R, h, k⟩ := h
  refine ⟨G, A, W, env, _, R, h, fun px vx H1 g1 rx h1 => ⟨G, A, W, env, _, R.grow g1, h1, fun ps vs H2 g2 rs h2 => ?_⟩⟩
  exact k (px :: ps) (vx :: vs) H2 (g1.trans g2) (.cons (RpO.grow R.sz g2 rx) rs) h2⟩
theorem am_consC (ha : PEm X c .cl e te) (hr : PAm X c .cl es t) (hs : starEach (e :: es) X.env = (false, eval e X.env) :: starEach es X.env := by rfl) : PAm X c .cl (e :: es) (mCons te t) := ⟨(pa_cons ha.run hr.run hs).weak fun σ H Q h => by
  obtain ⟨G, A, W, env, P, R, h, k⟩ := h
  refine ⟨G, A, W, env, _, R, h, fun px vx H1 g1 rx h1 => ⟨G, A, W, env, _, R.grow g1, h1, fun ps vs H2 g2 rs h2 => ?_⟩⟩
  exact k (px :: ps) (vx :: vs) H2 (g1.trans g2) (.cons (Rp.ext (g2.ext R.sz) rx) rs) h2⟩
theorem VKs.rps {K : PySem.W.Frag} {Z : Addr → Prop} {W : Ws} {H : Hp} : ∀ {ps : List PV} {vs : List V}, VKs K .cl Z W H ps vs → Rps K ⟨Z, W, H⟩ ps vs
  | _, _, .nil => Rps.nil
  | _, _, .cons h t => Rps.cons h (VKs.rps t)
theorem tmN {K : PySem.W.Frag} {r : List V → Hp → VK → Prop} {o : POn} (L : LiftN K r o md) (σ : St) (H : Hp) (Q : VK) (h : tmE K c md (mB o t) σ H Q) : tCB r (tmA K c .ow t) σ H Q := by
  obtain ⟨G, A, W, env, P, R, h, k⟩ := h
  exact ⟨G, A, W, env, _, R, h, fun ps vs H1 g1 rs h1 => L _ W H1 ps vs P Q (R.grow g1).sit rs h1 fun p v H' g r hp => k p v H' (g1.trans g) (r.back g1) hp⟩
/-- a built-in function, a built-in class, called -/
theorem em_callB {id : String} {x : Str} {p : Pos} {r : List V → Hp → VK → Prop} {o : POn} (hc : CallR X (.builtin id) r) (L : LiftN X.K r o md) (hg : Gl X x) (hm : X.mg x = none) (hv : bootBuiltins x = some (.builtin id)) (ha : PAm X c .ow (e :: es) t) (hn : x ≠ "__name__" := by decide) (hdb : (x == ("__debug__" : Str)) = false := by decide)
    (he : starEach (e :: es) X.env = (false, eval e X.env) :: starEach es X.env := by rfl) (hpl : (backTo pos (starEach es X.env)).any (·.1) = false := by rfl) : PEm X c md (.Call (.Name x p) (e :: es) [] pos) (mB o t) :=
  ⟨(pe_callB hc hg hm hv ha.run hn hdb he hpl).weak (tmN L)⟩
theorem em_callTy {T : String} {x : Str} {p : Pos} {r : List V → Hp → VK → Prop} {o : POn} (hc : CallR X (.type T) r) (L : LiftN X.K r o md) (hg : Gl X x) (hm : X.mg x = none) (hv : bootBuiltins x = some (.type T)) (ha : PAm X c .ow (e :: es) t) (hn : x ≠ "__name__" := by decide) (hdb : (x == ("__debug__" : Str)) = false := by decide)
    (he : starEach (e :: es) X.env = (false, eval e X.env) :: starEach es X.env := by rfl) (hpl : (backTo pos (starEach es X.env)).any (·.1) = false := by rfl) : PEm X c md (.Call (.Name x p) (e :: es) [] pos) (mB o t) :=
  ⟨(pe_callTy hc hg hm hv ha.run hn hdb he hpl).weak (tmN L)⟩
/-- displays -/
def mTup (t : TAm) : TEm := fun env P => t env fun xs => xs.length ≤ sizeLine ∧ P (.tup xs)
def mLst (t : TAm) : TEm := fun env P => t env fun xs => xs.length ≤ sizeLine ∧ P (.lst xs)
theorem Paired.len {α β : Type} {R : α → β → Prop} : ∀ {xs : List α} {ys : List β}, Paired R xs ys → xs.length = ys.length
  | _, _, .nil => rfl
  | _, _, .cons _ t => by rw [List.length_cons, List.length_cons, Paired.len t]
theorem em_tup {x1 : Nat} (h : PAm X c .cl es t) : PEm X c .cl (.Tuple es x1 pos) (mTup t) := ⟨(pe_tup h.run).weak fun σ H Q h => by
  obtain ⟨G, A, W, env, P, R, h, k⟩ := h
  refine ⟨G, A, W, env, _, R, h, fun ps vs H1 g1 rs ⟨hl, h1⟩ => ⟨by rw [← Paired.len rs]; exact hl, fun a n => ?_⟩⟩
  have R1 := R.grow g1
  exact k (.tup ps) (.ref a) _ (g1.trans (Grow.new R1.src n)) (Rp.newTup (R1.nz n) n R1.src R.sz rs.rps) h1⟩
theorem em_lst (h : PAm X c .cl es t) : PEm X c .fr (.List es pos) (mLst t) := ⟨(pe_lst h.run).weak fun σ H Q h => by
  obtain ⟨G, A, W, env, P, R, h, k⟩ := h
  refine ⟨G, A, W, env, _, R, h, fun ps vs H1 g1 rs ⟨hl, h1⟩ => ⟨by rw [← Paired.len rs]; exact hl, fun a n => ?_⟩⟩
  have R1 := R.grow g1
  exact k (.lst ps) (.ref a) _ (g1.trans (Grow.new R1.src n)) ⟨a, rfl, g1.free n, OwnAt.newLst n rs.rps⟩ h1⟩
end

/-! ### tests -/
section
variable {X : Cx} {c : List Ow} {a b : Expr} {ta tb : TEm} {tA tB : TTm} {pos : Pos} {rest : List Expr} {md : Md}
/-- a value that is True or False, as a test -/
def mTB (t : TEm) : TTm := fun env P => t env fun x => ∃ k, x = .bl k ∧ P k
theorem tm_val (h : PEm X c .ow a ta) (he : ∀ whole, isTrue a X.env whole = (do let v ← whole; standAt a.pos; holding [v] (truthy v)) := by intro _; rfl) : PTm X c a (mTB ta) := ⟨(pt_val h.run he).weak fun σ H Q h => by
  obtain ⟨G, A, W, env, P, R, h, k⟩ := h
  exact ⟨G, A, W, env, _, R, h, fun p v H1 g1 r ⟨j, e, h1⟩ => ⟨j, by subst e; exact VK1.bl r, k j H1 g1 h1⟩⟩⟩
theorem tm_cmp {op : CmpOp} {r : R2} {o : PO2} (ho : OpR X (compareOp op) r) (L : Lift2 X.K r o .cl) (ha : PEm X c .ow a ta) (hb : PEm X c .ow b tb) (hm : behindInMarks op b = false) : PTm X c (.Compare a [op] [b] pos) (mTB (mOp o ta tb)) := ⟨(pt_cmpR ho ha.run hb.run hm).weak fun σ H Q h => by
  obtain ⟨G, A, W, env, P, R, h, k⟩ := h
  refine tm2 L σ H _ ⟨G, A, W, env, _, R, h, fun p v H1 g1 r ⟨j, e, h1⟩ => ⟨j, ?_, k j H1 g1 h1⟩⟩
  subst e
  exact VK1.bl r⟩
def mAnd (t u : TTm) : TTm := fun env P => t env fun b => if b = true then u env P else P false
def mOr (t u : TTm) : TTm := fun env P => t env fun b => if b = true then P true else u env P
def mNot (t : TTm) : TTm := fun env P => t env fun b => P (!b)
theorem tm_not (h : PTm X c a tA) : PTm X c (.UnaryOp .Not a pos) (mNot tA) := ⟨(pt_not h.run).weak fun σ H Q h => by
  obtain ⟨G, A, W, env, P, R, h, k⟩ := h
  exact ⟨G, A, W, env, _, R, h, fun b H1 g1 h1 => k _ H1 g1 h1⟩⟩
theorem wm_and1 (h : PTm X c a tA) : PWm X c (.BoolOp .And [a] pos) tA := ⟨pw_and1 h.run⟩
theorem wm_or1 (h : PTm X c a tA) : PWm X c (.BoolOp .Or [a] pos) tA := ⟨pw_or1 h.run⟩
theorem wm_and (ha : PTm X c a tA) (hb : PWm X c (.BoolOp .And (b :: rest) pos) tB) : PWm X c (.BoolOp .And (a :: b :: rest) pos) (mAnd tA tB) := ⟨(pw_and ha.run hb.run).weak fun σ H Q h => by
  obtain ⟨G, A, W, env, P, R, h, k⟩ := h
  refine ⟨G, A, W, env, _, R, h, fun b H1 g1 h1 => ?_⟩
  cases b with
  | true => rw [if_pos rfl] at h1 ⊢; exact ⟨G, A, W, env, _, R.grow g1, h1, fun b H2 g2 h2 => k b H2 (g1.trans g2) h2⟩
  | false => rw [if_neg Bool.false_ne_true] at h1 ⊢; exact k _ H1 g1 h1⟩
theorem wm_or (ha : PTm X c a tA) (hb : PWm X c (.BoolOp .Or (b :: rest) pos) tB) : PWm X c (.BoolOp .Or (a :: b :: rest) pos) (mOr tA tB) := ⟨(pw_or ha.run hb.run).weak fun σ H Q h => by
  obtain ⟨G, A, W, env, P, R, h, k⟩ := h
  refine ⟨G, A, W, env, _, R, h, fun b H1 g1 h1 => ?_⟩
  cases b with
  | false => rw [if_neg Bool.false_ne_true] at h1 ⊢; exact ⟨G, A, W, env, _, R.grow g1, h1, fun b H2 g2 h2 => k b H2 (g1.trans g2) h2⟩
  | true => rw [if_pos rfl] at h1 ⊢; exact k _ H1 g1 h1⟩
theorem PWm.pt (h : PWm X c a tA) : PTm X c a tA := ⟨h.run.pt⟩
/-- and, or, not as values that are True or False -/
def mAndV (t u : TEm) : TEm := fun env P => t env fun x => ∃ k, x = .bl k ∧ if k = true then u env P else P (.bl false)
def mOrV (t u : TEm) : TEm := fun env P => t env fun x => ∃ k, x = .bl k ∧ if k = true then P (.bl true) else u env P
def oNot : PO1 := fun x P => ∃ k, x = .bl k ∧ P (.bl (!k))
theorem em_one {op : BoolOp} (h : PEm X c md a ta) : PEm X c md (.BoolOp op [a] pos) ta := ⟨pe_one h.run⟩
theorem em_and (ha : PEm X c .ow a ta) (hb : PEm X c .cl (.BoolOp .And (b :: rest) pos) tb) : PEm X c .cl (.BoolOp .And (a :: b :: rest) pos) (mAndV ta tb) := ⟨(pe_and ha.run hb.run).weak fun σ H Q h => by
  obtain ⟨G, A, W, env, P, R, h, k⟩ := h
  refine ⟨G, A, W, env, _, R, h, fun p v H1 g1 r ⟨j, e, h1⟩ => ⟨j, by subst e; exact VK1.bl r, ?_⟩⟩
  cases j with
  | true => rw [if_pos rfl] at h1 ⊢; exact ⟨G, A, W, env, _, R.grow g1, h1, fun p v H2 g2 r2 h2 => k p v H2 (g1.trans g2) r2 h2⟩
  | false => rw [if_neg Bool.false_ne_true] at h1 ⊢; exact k _ _ H1 g1 (VK1.ofRp Rp.bl') h1⟩
theorem em_or (ha : PEm X c .ow a ta) (hb : PEm X c .cl (.BoolOp .Or (b :: rest) pos) tb) : PEm X c .cl (.BoolOp .Or (a :: b :: rest) pos) (mOrV ta tb) := ⟨(pe_or ha.run hb.run).weak fun σ H Q h => by
  obtain ⟨G, A, W, env, P, R, h, k⟩ := h
  refine ⟨G, A, W, env, _, R, h, fun p v H1 g1 r ⟨j, e, h1⟩ => ⟨j, by subst e; exact VK1.bl r, ?_⟩⟩
  cases j with
  | false => rw [if_neg Bool.false_ne_true] at h1 ⊢; exact ⟨G, A, W, env, _, R.grow g1, h1, fun p v H2 g2 r2 h2 => k p v H2 (g1.trans g2) r2 h2⟩
  | true => rw [if_pos rfl] at h1 ⊢; exact k _ _ H1 g1 (VK1.ofRp Rp.bl') h1⟩
theorem em_not (ha : PEm X c .ow a ta) : PEm X c .cl (.UnaryOp .Not a pos) (mOp1 oNot ta) := ⟨(pe_not ha.run).weak fun σ H Q h => by
  obtain ⟨G, A, W, env, P, R, h, k⟩ := h
  exact ⟨G, A, W, env, _, R, h, fun p v H1 g1 r ⟨j, e, h1⟩ => ⟨j, by subst e; exact VK1.bl r, k _ _ H1 g1 (VK1.ofRp Rp.bl') h1⟩⟩⟩
def mIf (t : TTm) (ta tb : TEm) : TEm := fun env P => t env fun b => if b = true then ta env P else tb env P
theorem em_if {cnd : Expr} (hc : PTm X c cnd tA) (ha : PEm X c md a ta) (hb : PEm X c md b tb) : PEm X c md (.IfExp cnd a b pos) (mIf tA ta tb) := ⟨(pe_ifExp hc.run ha.run hb.run).weak fun σ H Q h => by
  obtain ⟨G, A, W, env, P, R, h, k⟩ := h
  refine ⟨G, A, W, env, _, R, h, fun b H1 g1 h1 => ?_⟩
  cases b with
  | true => rw [if_pos rfl] at h1 ⊢; exact ⟨G, A, W, env, _, R.grow g1, h1, fun p v H2 g2 r2 h2 => k p v H2 (g1.trans g2) (r2.back g1) h2⟩
  | false => rw [if_neg Bool.false_ne_true] at h1 ⊢; exact ⟨G, A, W, env, _, R.grow g1, h1, fun p v H2 g2 r2 h2 => k p v H2 (g1.trans g2) (r2.back g1) h2⟩⟩
end
end PM

set_option maxHeartbeats 1000000
/-! PM: operations by values. -/
namespace PM
open PySem L2

theorem OpR.or {X : Cx} {f : Value → Value → Sem Value} {r r' : R2} (h : OpR X f r) (h' : OpR X f r') : OpR X f (fun x y H Q => r x y H Q ∨ r' x y H Q) := by
  intro pins s σ H x y v u Q I rx ry q
  rcases q with q | q
  · exact h pins s σ H x y v u Q I rx ry q
  · exact h' pins s σ H x y v u Q I rx ry q
theorem CallR.or {X : Cx} {f : Value} {r r' : List V → Hp → VK → Prop} (h : CallR X f r) (h' : CallR X f r') : CallR X f (fun x H Q => r x H Q ∨ r' x H Q) := by
  intro pins s σ H x us Q I rx q
  rcases q with q | q
  · exact h pins s σ H x us Q I rx q
  · exact h' pins s σ H x us Q I rx q
section
variable {K : PySem.W.Frag}
theorem Sit.fin {Z : Addr → Prop} {W : Ws} {H : Hp} {P : PV → Prop} {Q : VK} {p : PV} {v : V} (S : Sit Z W H) (k : ∀ p v H', Grow W H H' → VK1 K .cl Z W H H' p v → P p → Q v H') (r : Rp K ⟨Z, W, H⟩ p v) (hp : P p) : Q v H := k p v H (Grow.refl S.src) (VK1.ofRp r) hp
/-! ### whole numbers -/
/-- two ints under a condition -/
def oI (C : Int → Int → Prop) (g : Int → Int → PV) : PO2 := fun x y P => ∃ i j, x = .int i ∧ y = .int j ∧ C i j ∧ P (g i j)
theorem lift_I {C C' : Int → Int → Prop} {g : Int → Int → PV} {g' : Int → Int → V} (hc : ∀ i j, C i j → C' i j) (hg : ∀ i j, C i j → ∀ Z W H, Rp K ⟨Z, W, H⟩ (g i j) (g' i j)) : Lift2 K (rI C' g') (oI C g) .cl := by
  rintro Z W H px py vx vy P Q S rx ry ⟨i, j, rfl, rfl, c, hp⟩ k
  exact ⟨i, j, rx.int, ry.int, hc i j c, S.fin k (hg i j c _ _ _) hp⟩
theorem lift_I0 {g : Int → Int → PV} {g' : Int → Int → V} (hg : ∀ i j Z W H, Rp K ⟨Z, W, H⟩ (g i j) (g' i j)) : Lift2 K (rI0 g') (oI (fun _ _ => True) g) .cl := by
  rintro Z W H px py vx vy P Q S rx ry ⟨i, j, rfl, rfl, c, hp⟩ k
  exact ⟨i, j, rx.int, ry.int, S.fin k (hg i j _ _ _) hp⟩
def oSub : PO2 := fun x y P => ∃ i j, x = .int i ∧ y = .int j ∧ P (.int (i - j))
theorem lift_sub : Lift2 K (rI0 fun i j => .int (i - j)) oSub .cl := by
  rintro Z W H px py vx vy P Q S rx ry ⟨i, j, rfl, rfl, hp⟩ k
  exact ⟨i, j, rx.int, ry.int, S.fin k Rp.int' hp⟩
def oFdiv : PO2 := fun x y P => ∃ i j, x = .int i ∧ y = .int j ∧ (0 < j ∧ j < 1073741824) ∧ P (.int (i / j))
theorem lift_fdiv : Lift2 K (rI CDiv fun i j => .int (i / j)) oFdiv .cl := by
  rintro Z W H px py vx vy P Q S rx ry ⟨i, j, rfl, rfl, c, hp⟩ k
  exact ⟨i, j, rx.int, ry.int, c, S.fin k Rp.int' hp⟩
def oMod : PO2 := fun x y P => ∃ i j, x = .int i ∧ y = .int j ∧ 0 < j ∧ P (.int (i % j))
theorem lift_mod : Lift2 K (rI (fun _ j => 0 < j) fun i j => .int (i % j)) oMod .cl := by
  rintro Z W H px py vx vy P Q S rx ry ⟨i, j, rfl, rfl, c, hp⟩ k
  exact ⟨i, j, rx.int, ry.int, c, S.fin k Rp.int' hp⟩
def oPow : PO2 := fun x y P => ∃ i j, x = .int i ∧ y = .int j ∧ (0 ≤ j ∧ j ≤ 1000000 ∧ i.natAbs < 2 ^ 64) ∧ P (.int (i ^ j.toNat))
theorem lift_pow : Lift2 K (rI CPow fun i j => .int (i ^ j.toNat)) oPow .cl := by
  rintro Z W H px py vx vy P Q S rx ry ⟨i, j, rfl, rfl, c, hp⟩ k
  exact ⟨i, j, rx.int, ry.int, c, S.fin k Rp.int' hp⟩
def oNeg : PO1 := fun x P => ∃ i, x = .int i ∧ P (.int (-i))
theorem lift_neg : Lift1 K (rU fun i => .int (-i)) oNeg .cl := by
  rintro Z W H px vx P Q S rx ⟨i, rfl, hp⟩ k
  exact ⟨i, rx.int, S.fin k Rp.int' hp⟩
def oLt : PO2 := fun x y P => ∃ i j, x = .int i ∧ y = .int j ∧ P (.bl (decide (i < j)))
def oLe : PO2 := fun x y P => ∃ i j, x = .int i ∧ y = .int j ∧ P (.bl (decide (i ≤ j)))
def oGt : PO2 := fun x y P => ∃ i j, x = .int i ∧ y = .int j ∧ P (.bl (decide (j < i)))
def oGe : PO2 := fun x y P => ∃ i j, x = .int i ∧ y = .int j ∧ P (.bl (decide (j ≤ i)))
theorem lift_lt : Lift2 K (rI0 fun i j => .bl (decide (i < j))) oLt .cl := by
  rintro Z W H px py vx vy P Q S rx ry ⟨i, j, rfl, rfl, hp⟩ k
  exact ⟨i, j, rx.int, ry.int, S.fin k Rp.bl' hp⟩
theorem lift_le : Lift2 K (rI0 fun i j => .bl (decide (i ≤ j))) oLe .cl := by
  rintro Z W H px py vx vy P Q S rx ry ⟨i, j, rfl, rfl, hp⟩ k
  exact ⟨i, j, rx.int, ry.int, S.fin k Rp.bl' hp⟩
theorem lift_gt : Lift2 K (rI0 fun i j => .bl (decide (j < i))) oGt .cl := by
  rintro Z W H px py vx vy P Q S rx ry ⟨i, j, rfl, rfl, hp⟩ k
  exact ⟨i, j, rx.int, ry.int, S.fin k Rp.bl' hp⟩
theorem lift_ge : Lift2 K (rI0 fun i j => .bl (decide (j ≤ i))) oGe .cl := by
  rintro Z W H px py vx vy P Q S rx ry ⟨i, j, rfl, rfl, hp⟩ k
  exact ⟨i, j, rx.int, ry.int, S.fin k Rp.bl' hp⟩

/-! ### +, * -/
def oAdd : PO2 := fun x y P => match x, y with
  | .int i, .int j => P (.int (i + j))
  | .tup a, .tup b => a.length + b.length ≤ sizeLine ∧ P (.tup (a ++ b))
  | .str a, .str b => a.length + b.length ≤ sizeLine ∧ P (.str (a ++ b))
  | .lst a, .lst b => a.length + b.length ≤ sizeLine ∧ P (.lst (a ++ b))
  | _, _ => False
def rStr : R2 := fun x y H Q => ∃ i j, x = .str i ∧ y = .str j ∧ i.length + j.length ≤ sizeLine ∧ Q (.str (i ++ j)) H
abbrev rPlus (K : PySem.W.Frag) : R2 := fun x y H Q => (rI0 (fun i j => .int (i + j)) x y H Q ∨ rCatA K x y H Q) ∨ (rStr x y H Q ∨ rCat x y H Q)
theorem op_plus {X : Cx} : OpR X (binaryOp .Add) (rPlus X.K) := OpR.or (OpR.or op_add op_catA) (OpR.or op_add_str op_cat)
theorem Rps.isNil {S : Wd} {ps : List PV} {vs : List V} (h : Rps K S ps vs) : ps = [] ↔ vs = [] := by
  have l := h.len
  constructor
  · intro e; rw [e] at l; exact List.eq_nil_of_length_eq_zero l.symm
  · intro e; rw [e] at l; exact List.eq_nil_of_length_eq_zero l
theorem lift_cat {P : PV → Prop} {Q : VK} {Z : Addr → Prop} {W : Ws} {H : Hp} {a b : List PV} {vx vy : V} (S : Sit Z W H) (rx : RpO K ⟨Z, W, H⟩ (.lst a) vx) (ry : RpO K ⟨Z, W, H⟩ (.lst b) vy) (hl : a.length + b.length ≤ sizeLine) (hp : P (.lst (a ++ b)))
    (k : ∀ p v H', Grow W H H' → VK1 K .fr Z W H H' p v → P p → Q v H') : rCat vx vy H Q := by
  obtain ⟨l1, vs, rfl, ⟨_, e1⟩, r1⟩ := rx.lst
  obtain ⟨l2, ws, rfl, ⟨_, e2⟩, r2⟩ := ry.lst
  refine ⟨l1, l2, vs, ws, rfl, rfl, e1, e2, by rw [← r1.len, ← r2.len]; exact hl, fun p n => ?_⟩
  exact k _ _ _ (Grow.new S.src n) ⟨p, rfl, n, OwnAt.newLst n (r1.append r2)⟩ hp
theorem lift_plus : Lift2 K (rPlus K) oAdd .cl := by
  intro Z W H px py vx vy P Q S rx ry h k
  cases px with
  | int i =>
    cases py with
    | int j => exact .inl (.inl ⟨i, j, rx.int, ry.int, S.fin k Rp.int' h⟩)
    | _ => exact h.elim
  | str i =>
    cases py with
    | str j => exact .inr (.inl ⟨i, j, rx.str, ry.str, h.1, S.fin k Rp.str' h.2⟩)
    | _ => exact h.elim
  | tup a =>
    cases py with
    | tup b =>
      obtain ⟨hl, hp⟩ := h
      have rx' : Rp K ⟨Z, W, H⟩ (.tup a) vx := rx
      have ry' : Rp K ⟨Z, W, H⟩ (.tup b) vy := ry
      obtain ⟨l1, vs, rfl, e1, r1⟩ := rx.tup
      obtain ⟨l2, ws, rfl, e2, r2⟩ := ry.tup
      refine .inl (.inr ⟨l1, l2, vs, ws, rfl, rfl, e1.sq, e2.sq, by rw [← r1.len, ← r2.len]; exact hl, fun z => ?_, fun _ z => ?_, fun _ _ p n => ?_⟩)
      · rw [r1.isNil.mpr z, List.nil_append] at hp
        exact S.fin k ry' hp
      · rw [r2.isNil.mpr z, List.append_nil] at hp
        exact S.fin k rx' hp
      · exact k _ _ _ (Grow.new S.src n) (VK1.ofRp (Rp.newTup (S.nz n) n S.src S.wz (r1.append r2))) hp
    | _ => exact h.elim
  | lst a =>
    cases py with
    | lst b => exact .inr (.inr (lift_cat S rx ry h.1 h.2 fun p v H' g r hp => k p v H' g (VK1.cl S.zd r) hp))
    | _ => exact h.elim
  | _ => exact h.elim
/-- lists, the sum a new one -/
def oCat : PO2 := fun x y P => ∃ a b, x = .lst a ∧ y = .lst b ∧ a.length + b.length ≤ sizeLine ∧ P (.lst (a ++ b))
theorem lift_catF : Lift2 K rCat oCat .fr := by
  rintro Z W H px py vx vy P Q S rx ry ⟨a, b, rfl, rfl, hl, hp⟩ k
  exact lift_cat S rx ry hl hp k
def oMul : PO2 := fun x y P => ∃ i j, x = .int i ∧ y = .int j ∧ CMul i j ∧ P (.int (i * j))
theorem lift_mul : Lift2 K (rI CMul fun i j => .int (i * j)) oMul .cl := by
  rintro Z W H px py vx vy P Q S rx ry ⟨i, j, rfl, rfl, c, hp⟩ k
  exact ⟨i, j, rx.int, ry.int, c, S.fin k Rp.int' hp⟩
theorem Rps.rep {S : Wd} {ps : List PV} {vs : List V} (h : Rps K S ps vs) : ∀ n : Nat, Rps K S (List.replicate n ps).flatten (List.replicate n vs).flatten
  | 0 => Rps.nil
  | n + 1 => by
    rw [List.replicate_succ, List.replicate_succ, List.flatten_cons, List.flatten_cons]
    exact h.append (Rps.rep h n)
def oRep : PO2 := fun x y P => ∃ a k, x = .lst a ∧ y = .int k ∧ (-(2 ^ 63) ≤ k ∧ k < 2 ^ 63) ∧ a.length * k.toNat ≤ sizeLine ∧ P (.lst (List.replicate k.toNat a).flatten)
theorem lift_rep : Lift2 K rRep oRep .fr := by
  rintro Z W H px py vx vy P Q S rx ry ⟨a, i, rfl, rfl, ⟨h1, h2⟩, hl, hp⟩ k
  obtain ⟨l1, vs, rfl, ⟨_, e1⟩, r1⟩ := rx.lst
  refine ⟨l1, i, vs, rfl, ry.int, e1, h1, h2, by rw [← r1.len]; exact hl, fun p n => ?_⟩
  exact k _ _ _ (Grow.new S.src n) ⟨p, rfl, n, OwnAt.newLst n (r1.rep _)⟩ hp

/-! ### == of data -/
mutual
def toD : PV → Option PyData
  | .non => some .none
  | .bl b => some (.bool b)
  | .int i => some (.int i)
  | .str x => some (.str x)
  | .tup ps => (toDs ps).map .tuple
  | .lst ps => (toDs ps).map .list
  | _ => none
def toDs : List PV → Option (List PyData)
  | [] => some []
  | p :: ps => (toD p).bind fun d => (toDs ps).map fun ds => d :: ds
end
mutual
theorem toD_dp {S : Wd} : ∀ {p : PV} {v : V} {d : PyData}, Rp K S p v → toD p = some d → Dp K S.H v d
  | .non, _, _, h, e => by unfold Rp at h; subst h; unfold toD at e; cases e; exact .non
  | .bl b, _, _, h, e => by unfold Rp at h; subst h; unfold toD at e; cases e; exact .bl b
  | .int b, _, _, h, e => by unfold Rp at h; subst h; unfold toD at e; cases e; exact .int b
  | .str b, _, _, h, e => by unfold Rp at h; subst h; unfold toD at e; cases e; exact .str b
  | .tup ps, _, _, h, e => by
    unfold Rp at h
    obtain ⟨a, vs, rfl, h1, h2⟩ := h
    unfold toD at e
    cases q : toDs ps with
    | none => rw [q] at e; cases e
    | some ds => rw [q] at e; cases e; exact .tup h1.sq (toDs_dp h2 q)
  | .lst ps, _, _, h, e => by
    unfold Rp at h
    obtain ⟨a, vs, rfl, h1, h2⟩ := h
    unfold toD at e
    cases q : toDs ps with
    | none => rw [q] at e; cases e
    | some ds => rw [q] at e; cases e; exact .lst h1.sq (toDs_dp h2 q)
  | .dic _ _, _, _, _, e => by unfold toD at e; cases e
  | .obj _ _ _, _, _, _, e => by unfold toD at e; cases e
  | .ref _, _, _, _, e => by unfold toD at e; cases e
  | .src, _, _, _, e => by unfold toD at e; cases e
  | .scr _, _, _, _, e => by unfold toD at e; cases e
theorem toDs_dp {S : Wd} : ∀ {ps : List PV} {vs : List V} {ds : List PyData}, Rps K S ps vs → toDs ps = some ds → DpAll K S.H vs ds
  | [], _, _, h, e => by unfold Rps at h; subst h; unfold toDs at e; cases e; exact .nil
  | p :: ps, _, _, h, e => by
    unfold Rps at h
    obtain ⟨v, r, rfl, h1, h2⟩ := h
    unfold toDs at e
    cases q : toD p with
    | none => rw [q] at e; cases e
    | some d =>
      rw [q] at e
      cases q2 : toDs ps with
      | none => rw [q2] at e; cases e
      | some ds => rw [q2] at e; cases e; exact .cons (toD_dp h1 q) (toDs_dp h2 q2)
end
theorem toD_dpO {Z : Addr → Prop} {W : Ws} {H : Hp} {p : PV} {v : V} {d : PyData} (h : RpO K ⟨Z, W, H⟩ p v) (e : toD p = some d) : Dp K H v d := by
  cases p with
  | lst ps =>
    obtain ⟨a, vs, rfl, h1, h2⟩ := h.lst
    unfold toD at e
    cases q : toDs ps with
    | none => rw [q] at e; cases e
    | some ds => rw [q] at e; cases e; exact .lst (.inl (.inl h1.2)) (toDs_dp h2 q)
  | dic _ _ => unfold toD at e; cases e
  | non => exact toD_dp (S := ⟨Z, W, H⟩) h e
  | bl _ => exact toD_dp (S := ⟨Z, W, H⟩) h e
  | int _ => exact toD_dp (S := ⟨Z, W, H⟩) h e
  | str _ => exact toD_dp (S := ⟨Z, W, H⟩) h e
  | tup _ => exact toD_dp (S := ⟨Z, W, H⟩) h e
  | obj _ _ _ => unfold toD at e; cases e
  | ref _ => unfold toD at e; cases e
  | src => unfold toD at e; cases e
  | scr _ => unfold toD at e; cases e
  | iset _ => unfold toD at e; cases e
def oEq : PO2 := fun x y P => ∃ d e, toD x = some d ∧ toD y = some e ∧ SeqAt.shaped d = true ∧ SeqAt.shaped e = true ∧ P (.bl (PyData.eqv d e))
def oNe : PO2 := fun x y P => ∃ d e, toD x = some d ∧ toD y = some e ∧ SeqAt.shaped d = true ∧ SeqAt.shaped e = true ∧ P (.bl (!PyData.eqv d e))
theorem lift_eq : Lift2 K (rEqD K) oEq .cl := by
  rintro Z W H px py vx vy P Q S rx ry ⟨d, e, h1, h2, s1, s2, hp⟩ k
  exact ⟨d, e, toD_dpO rx h1, toD_dpO ry h2, s1, s2, S.fin k Rp.bl' hp⟩
theorem lift_ne : Lift2 K (rNeD K) oNe .cl := by
  rintro Z W H px py vx vy P Q S rx ry ⟨d, e, h1, h2, s1, s2, hp⟩ k
  exact ⟨d, e, toD_dpO rx h1, toD_dpO ry h2, s1, s2, S.fin k Rp.bl' hp⟩
/-- == of scalars, short -/
def oEqS : PO2 := fun x y P => match x, y with
  | .int i, .int j => P (.bl (decide (i = j)))
  | .str i, .str j => P (.bl (decide (i = j)))
  | .bl i, .bl j => P (.bl (decide (i = j)))
  | _, _ => False
def oNeS : PO2 := fun x y P => match x, y with
  | .int i, .int j => P (.bl (!decide (i = j)))
  | .str i, .str j => P (.bl (!decide (i = j)))
  | .bl i, .bl j => P (.bl (!decide (i = j)))
  | _, _ => False

/-! ### is -/
def isNon : PV → Bool
  | .non => true
  | _ => false
theorem RpO.isNon {Z : Addr → Prop} {W : Ws} {H : Hp} {p : PV} {v : V} (h : RpO K ⟨Z, W, H⟩ p v) : decide (v = .non) = isNon p := by
  cases p with
  | non => rw [h.non]; rfl
  | bl b => rw [h.bl]; rfl
  | int b => rw [h.int]; rfl
  | str b => rw [h.str]; rfl
  | tup b => obtain ⟨a, vs, rfl, _⟩ := h.tup; rfl
  | lst b => obtain ⟨a, vs, rfl, _⟩ := h.lst; rfl
  | dic _ _ => obtain ⟨a, vs, rfl, _⟩ := h; rfl
  | obj _ _ _ => unfold RpO Rp at h; obtain ⟨a, dx, vs, rfl, _⟩ := h; rfl
  | ref _ => unfold RpO Rp at h; subst h; rfl
  | src => unfold RpO Rp at h; obtain ⟨p, _, rfl⟩ := h; rfl
  | scr _ => unfold RpO Rp at h; obtain ⟨p, rfl, _⟩ := h; rfl
  | iset _ => unfold RpO Rp at h; obtain ⟨p, n, rfl, _⟩ := h; rfl
def oIsN : PO2 := fun x y P => y = .non ∧ P (.bl (isNon x))
def oNotN : PO2 := fun x y P => y = .non ∧ P (.bl (!isNon x))
theorem lift_isN : Lift2 K (fun x y H Q => y = .non ∧ Q (.bl (decide (x = .non))) H) oIsN .cl := by
  rintro Z W H px py vx vy P Q S rx ry ⟨rfl, hp⟩ k
  refine ⟨ry.non, ?_⟩
  rw [rx.isNon]
  exact S.fin k Rp.bl' hp
theorem lift_notN : Lift2 K (fun x y H Q => y = .non ∧ Q (.bl (!decide (x = .non))) H) oNotN .cl := by
  rintro Z W H px py vx vy P Q S rx ry ⟨rfl, hp⟩ k
  refine ⟨ry.non, ?_⟩
  rw [rx.isNon]
  exact S.fin k Rp.bl' hp
def oIsB : PO2 := fun x y P => ∃ a b, x = .bl a ∧ y = .bl b ∧ P (.bl (decide (a = b)))
def oNotB : PO2 := fun x y P => ∃ a b, x = .bl a ∧ y = .bl b ∧ P (.bl (!decide (a = b)))
theorem lift_isB : Lift2 K rIsB oIsB .cl := by
  rintro Z W H px py vx vy P Q S rx ry ⟨a, b, rfl, rfl, hp⟩ k
  exact ⟨a, b, rx.bl, ry.bl, S.fin k Rp.bl' hp⟩
theorem lift_notB : Lift2 K rNotB oNotB .cl := by
  rintro Z W H px py vx vy P Q S rx ry ⟨a, b, rfl, rfl, hp⟩ k
  exact ⟨a, b, rx.bl, ry.bl, S.fin k Rp.bl' hp⟩

/-! ### in, of flat things -/
def flatP : PV → Bool
  | .non => true
  | .bl _ => true
  | .int _ => true
  | .str _ => true
  | _ => false
def eqP : PV → PV → Bool
  | .non, .non => true
  | .bl a, .bl b => a == b
  | .bl a, .int b => (if a then 1 else 0) == b
  | .int a, .bl b => a == (if b then 1 else 0)
  | .int a, .int b => a == b
  | .str a, .str b => a == b
  | _, _ => false
def flV : PV → V
  | .bl b => .bl b
  | .int i => .int i
  | .str x => .str x
  | _ => .non
theorem RpO.flat {Z : Addr → Prop} {W : Ws} {H : Hp} {p : PV} {v : V} (h : RpO K ⟨Z, W, H⟩ p v) (f : flatP p = true) : v = flV p := by
  cases p with
  | non => exact h.non
  | bl b => exact h.bl
  | int b => exact h.int
  | str b => exact h.str
  | _ => exact absurd f (by simp [flatP])
theorem flV_flat {p : PV} (f : flatP p = true) : flatV (flV p) = true := by cases p <;> first | rfl | exact absurd f (by simp [flatP])
theorem flV_eq {p q : PV} (f : flatP p = true) (g : flatP q = true) : eqV (flV p) (flV q) = eqP p q := by
  cases p <;> cases q <;> first | rfl | (simp [flatP] at f; done) | (simp [flatP] at g; done)
theorem Rps.flat {S : Wd} : ∀ {ps : List PV} {vs : List V}, Rps K S ps vs → ps.all flatP = true → vs = ps.map flV
  | [], _, h, _ => by unfold Rps at h; exact h
  | p :: ps, _, h, f => by
    unfold Rps at h
    obtain ⟨v, r, rfl, h1, h2⟩ := h
    rw [List.all_cons, Bool.and_eq_true] at f
    rw [List.map_cons, Rps.flat h2 f.2]
    obtain ⟨Z, W, H⟩ := S
    have e : v = flV p := by
      cases p with
      | non => unfold Rp at h1; exact h1
      | bl b => unfold Rp at h1; exact h1
      | int b => unfold Rp at h1; exact h1
      | str b => unfold Rp at h1; exact h1
      | _ => exact absurd f.1 (by simp [flatP])
    rw [e]
def inP (x : PV) (ps : List PV) : Bool := ps.any fun y => eqP y x
theorem inV_flat {x : PV} (f : flatP x = true) : ∀ {ps : List PV}, ps.all flatP = true → inV (flV x) (ps.map flV) = inP x ps
  | [], _ => rfl
  | p :: ps, h => by
    rw [List.all_cons, Bool.and_eq_true] at h
    have e := inV_flat f h.2
    unfold inV inP at e ⊢
    rw [List.map_cons, List.any_cons, List.any_cons, flV_eq h.1 f, e]
def oIn (neg : Bool) : PO2 := fun x y P => ∃ ps, (y = .lst ps ∨ y = .tup ps) ∧ flatP x = true ∧ ps.all flatP = true ∧ P (.bl (if neg then !inP x ps else inP x ps))
theorem lift_in {neg : Bool} : Lift2 K (rIn K neg) (oIn neg) .cl := by
  rintro Z W H px py vx vy P Q S rx ry ⟨ps, hy, fx, fs, hp⟩ k
  have ex := rx.flat fx
  subst ex
  rcases hy with rfl | rfl
  · obtain ⟨a, vs, rfl, e, r⟩ := ry.lst
    have ev := r.flat fs
    subst ev
    refine ⟨a, _, rfl, .inl (.inl (.inl e.2)), flV_flat fx, ?_, ?_⟩
    · rw [List.all_eq_true] at fs ⊢
      intro v hv
      obtain ⟨p, hp, rfl⟩ := List.mem_map.mp hv
      exact flV_flat (fs p hp)
    · rw [inV_flat fx fs]
      exact S.fin k Rp.bl' hp
  · obtain ⟨a, vs, rfl, e, r⟩ := ry.tup
    have ev := r.flat fs
    subst ev
    refine ⟨a, _, rfl, .inr e.sq, flV_flat fx, ?_, ?_⟩
    · rw [List.all_eq_true] at fs ⊢
      intro v hv
      obtain ⟨p, hp, rfl⟩ := List.mem_map.mp hv
      exact flV_flat (fs p hp)
    · rw [inV_flat fx fs]
      exact S.fin k Rp.bl' hp

/-! ### subscripts -/
def oIx : PO2 := fun x y P => match x, y with
  | .lst ps, .int i => ∃ p, atI ps i = some p ∧ P p
  | .tup ps, .int i => ∃ p, atI ps i = some p ∧ P p
  | .str z, .int i => z.length ≤ sizeLine ∧ ∃ c, atI z.cps.toList i = some c ∧ P (.str ⟨#[c]⟩)
  | _, _ => False
theorem Rps.atI {S : Wd} {ps : List PV} {vs : List V} {i : Int} {p : PV} (h : Rps K S ps vs) (e : L2.atI ps i = some p) : ∃ v, L2.atI vs i = some v ∧ Rp K S p v := by
  unfold L2.atI at e ⊢
  rw [← h.len]
  cases q : ixN ps.length i with
  | none => rw [q] at e; cases e
  | some j =>
    rw [q] at e
    exact h.get (i := j) e
theorem lift_ix : Lift2 K (rIx K) oIx .cl := by
  intro Z W H px py vx vy P Q S rx ry h k
  cases px with
  | lst ps =>
    cases py with
    | int i =>
      obtain ⟨p, e, hp⟩ := h
      obtain ⟨a, vs, rfl, e1, r⟩ := rx.lst
      obtain ⟨v, e2, r2⟩ := r.atI e
      exact .inl ⟨a, vs, i, v, rfl, ry.int, .inl (.inl e1.2), e2, S.fin k r2 hp⟩
    | _ => exact h.elim
  | tup ps =>
    cases py with
    | int i =>
      obtain ⟨p, e, hp⟩ := h
      obtain ⟨a, vs, rfl, e1, r⟩ := rx.tup
      obtain ⟨v, e2, r2⟩ := r.atI e
      exact .inr (.inl ⟨a, vs, i, v, rfl, ry.int, e1.sq, e2, S.fin k r2 hp⟩)
    | _ => exact h.elim
  | str z =>
    cases py with
    | int i =>
      obtain ⟨hl, c, e, hp⟩ := h
      exact .inr (.inr ⟨z, i, c, rx.str, ry.int, hl, e, S.fin k Rp.str' hp⟩)
    | _ => exact h.elim
  | _ => exact h.elim
theorem em_ix {X : Cx} {c : List Ow} {a b : Expr} {ta tb : TEm} {pos : Pos} (ha : PEm X c .ow a ta) (hb : PEm X c .ow b tb) (hs : PlainIx b) : PEm X c .cl (.Subscript a b pos) (mOp oIx ta tb) := ⟨(pe_ix ix_seq ha.run hb.run hs).weak (tm2 lift_ix)⟩
end
end PM

set_option maxHeartbeats 1000000
/-! PM: slices, built-ins. -/
namespace PM
open PySem L2
/-! ### sorting -/
def ins (x : Int) : List Int → List Int
  | [] => [x]
  | y :: ys => if x ≤ y then x :: y :: ys else y :: ins x ys
def isort : List Int → List Int
  | [] => []
  | x :: xs => ins x (isort xs)
theorem ins_perm (x : Int) : ∀ ys, (ins x ys).Perm (x :: ys)
  | [] => List.Perm.refl _
  | y :: ys => by
    unfold ins
    split
    · exact List.Perm.refl _
    · exact ((ins_perm x ys).cons y).trans (List.Perm.swap x y ys)
theorem isort_perm : ∀ xs, (isort xs).Perm xs
  | [] => List.Perm.refl _
  | x :: xs => (ins_perm x (isort xs)).trans ((isort_perm xs).cons x)
theorem ins_sorted (x : Int) : ∀ ys : List Int, ys.Pairwise (· ≤ ·) → (ins x ys).Pairwise (· ≤ ·)
  | [], _ => by unfold ins; exact List.pairwise_singleton _ _
  | y :: ys, h => by
    unfold ins
    rw [List.pairwise_cons] at h
    split
    · rename_i hxy
      refine List.pairwise_cons.mpr ⟨fun z hz => ?_, List.pairwise_cons.mpr h⟩
      rcases List.mem_cons.mp hz with rfl | hz
      · exact hxy
      · exact Int.le_trans hxy (h.1 z hz)
    · rename_i hxy
      refine List.pairwise_cons.mpr ⟨fun z hz => ?_, ins_sorted x ys h.2⟩
      rcases List.mem_cons.mp ((ins_perm x ys).mem_iff.mp hz) with rfl | hz
      · omega
      · exact h.1 z hz
theorem isort_sorted : ∀ xs, (isort xs).Pairwise (· ≤ ·)
  | [] => List.Pairwise.nil
  | x :: xs => ins_sorted x _ (isort_sorted xs)
theorem sorted_unique {xs ys : List Int} (p : xs.Perm ys) (hx : xs.Pairwise (· ≤ ·)) (hy : ys.Pairwise (· ≤ ·)) : xs = ys :=
  p.eq_of_pairwise (fun a b _ _ h1 h2 => Int.le_antisymm h1 h2) hx hy
theorem isort_eq {xs ys : List Int} (p : ys.Perm xs) (h : ys.Pairwise (· ≤ ·)) : ys = isort xs := sorted_unique (p.trans (isort_perm xs).symm) h (isort_sorted xs)

section
variable {K : PySem.W.Frag}
theorem VKs.nil_inv {Z : Addr → Prop} {W : Ws} {H : Hp} {vs : List V} (h : VKs K .ow Z W H [] vs) : vs = [] := by cases h; rfl
theorem VKs.one {Z : Addr → Prop} {W : Ws} {H : Hp} {p : PV} {vs : List V} (h : VKs K .ow Z W H [p] vs) : ∃ v, vs = [v] ∧ RpO K ⟨Z, W, H⟩ p v := by
  cases h with
  | cons h t => cases t; exact ⟨_, rfl, h⟩
theorem VKs.two {Z : Addr → Prop} {W : Ws} {H : Hp} {p q : PV} {vs : List V} (h : VKs K .ow Z W H [p, q] vs) : ∃ v w, vs = [v, w] ∧ RpO K ⟨Z, W, H⟩ p v ∧ RpO K ⟨Z, W, H⟩ q w := by
  cases h with
  | cons h t => cases t with
    | cons h' t' => cases t'; exact ⟨_, _, rfl, h, h'⟩
/-! ### numbers -/
def oAbs : POn := fun xs P => ∃ i, xs = [.int i] ∧ P (.int (if i < 0 then -i else i))
theorem lift_abs : LiftN K (fun xs H Q => ∃ i, xs = [.int i] ∧ Q (.int (if i < 0 then -i else i)) H) oAbs .cl := by
  rintro Z W H ps vs P Q S r ⟨i, rfl, hp⟩ k
  obtain ⟨v, rfl, rv⟩ := r.one
  exact ⟨i, by rw [rv.int], S.fin k Rp.int' hp⟩
def oMax2 : POn := fun xs P => ∃ i j, xs = [.int i, .int j] ∧ P (.int (if j > i then j else i))
def oMin2 : POn := fun xs P => ∃ i j, xs = [.int i, .int j] ∧ P (.int (if j < i then j else i))
theorem lift_max2 : LiftN K (fun xs H Q => ∃ i j, xs = [.int i, .int j] ∧ Q (.int (if j > i then j else i)) H) oMax2 .cl := by
  rintro Z W H ps vs P Q S r ⟨i, j, rfl, hp⟩ k
  obtain ⟨v, w, rfl, rv, rw'⟩ := r.two
  exact ⟨i, j, by rw [rv.int, rw'.int], S.fin k Rp.int' hp⟩
theorem lift_min2 : LiftN K (fun xs H Q => ∃ i j, xs = [.int i, .int j] ∧ Q (.int (if j < i then j else i)) H) oMin2 .cl := by
  rintro Z W H ps vs P Q S r ⟨i, j, rfl, hp⟩ k
  obtain ⟨v, w, rfl, rv, rw'⟩ := r.two
  exact ⟨i, j, by rw [rv.int, rw'.int], S.fin k Rp.int' hp⟩
def oInt : POn := fun xs P => match xs with
  | [.int i] => P (.int i)
  | [.bl b] => P (.int (if b then 1 else 0))
  | _ => False
theorem lift_int : LiftN K (fun xs H Q => (∃ i, xs = [.int i] ∧ Q (.int i) H) ∨ ∃ k, xs = [.bl k] ∧ Q (.int (if k then 1 else 0)) H) oInt .cl := by
  intro Z W H ps vs P Q S r h k
  match ps, h with
  | [.int i], h =>
    obtain ⟨v, rfl, rv⟩ := r.one
    exact .inl ⟨i, by rw [rv.int], S.fin k Rp.int' h⟩
  | [.bl i], h =>
    obtain ⟨v, rfl, rv⟩ := r.one
    exact .inr ⟨i, by rw [rv.bl], S.fin k Rp.int' h⟩
/-! ### len, list, tuple, sorted, sum .. -/
def plen : PV → Option Nat
  | .lst ps => some ps.length
  | .tup ps => some ps.length
  | .dic ks _ => some ks.length
  | .str x => if x.length ≤ sizeLine then some x.length else none
  | .scr ns => some ns.length
  | _ => none
def oLen : POn := fun xs P => ∃ x n, xs = [x] ∧ plen x = some n ∧ P (.int (n : Int))
abbrev rLen (K : PySem.W.Frag) : List V → Hp → VK → Prop := fun xs H Q => (∃ x n, xs = [x] ∧ LenV K x H n ∧ Q (.int n) H) ∨ (∃ a kvs, xs = [V.ref a] ∧ H a = some (.dK kvs) ∧ Q (.int kvs.length) H)
theorem call_lenA {X : Cx} : CallR X (.builtin "len") (rLen X.K) := CallR.or call_len call_lenD
theorem lift_len : LiftN K (rLen K) oLen .cl := by
  rintro Z W H ps vs P Q S r ⟨x, n, rfl, hn, hp⟩ k
  obtain ⟨v, rfl, rv⟩ := r.one
  cases x with
  | lst ps =>
    obtain ⟨a, ws, rfl, e, r1⟩ := rv.lst
    obtain rfl : ps.length = n := Option.some.inj hn
    exact .inl ⟨_, ps.length, rfl, .inl ⟨ws, .inl (.inl e.2), r1.len⟩, S.fin k Rp.int' hp⟩
  | tup ps =>
    obtain ⟨a, ws, rfl, e, r1⟩ := rv.tup
    obtain rfl : ps.length = n := Option.some.inj hn
    exact .inl ⟨_, ps.length, rfl, .inr ⟨ws, e.sq, r1.len⟩, S.fin k Rp.int' hp⟩
  | dic ks ps =>
    obtain ⟨a, ws, rfl, _, e, l, r1⟩ := rv
    obtain rfl : ks.length = n := Option.some.inj hn
    have el : (ks.zip ws).length = ks.length := by rw [List.length_zip, ← l, Nat.min_self]
    refine .inr ⟨a, _, rfl, e, ?_⟩
    rw [el]
    exact S.fin k Rp.int' hp
  | str x =>
    rw [rv.str]
    have hn' : (if x.length ≤ sizeLine then some x.length else none) = some n := hn
    by_cases hl : x.length ≤ sizeLine
    · rw [if_pos hl] at hn'
      obtain rfl : x.length = n := Option.some.inj hn'
      exact .inl ⟨_, x.length, rfl, ⟨hl, rfl⟩, S.fin k Rp.int' hp⟩
    · rw [if_neg hl] at hn'; cases hn'
  | scr ns =>
    unfold RpO Rp at rv
    obtain ⟨a, rfl, e⟩ := rv
    obtain rfl : ns.length = n := Option.some.inj hn
    have e' : SqL K H a (ns.map V.int) := e.elim (fun z => let ⟨o, w⟩ := z.2; .inl (.inr ⟨o, w⟩)) .inr
    exact .inl ⟨_, ns.length, rfl, .inl ⟨ns.map V.int, e', by rw [List.length_map]⟩, S.fin k Rp.int' hp⟩
  | _ => cases hn
/-- the items of a list or tuple -/
def seqP : PV → Option (List PV)
  | .lst ps => some ps
  | .tup ps => some ps
  | _ => none
theorem RpO.seq {Z : Addr → Prop} {W : Ws} {H : Hp} {p : PV} {ps : List PV} {v : V} (h : RpO K ⟨Z, W, H⟩ p v) (e : seqP p = some ps) : ∃ a vs, v = .ref a ∧ (SqL K H a vs ∨ SqT K H a vs) ∧ Rps K ⟨Z, W, H⟩ ps vs := by
  cases p with
  | lst qs =>
    obtain rfl : qs = ps := Option.some.inj e
    obtain ⟨a, ws, rfl, e, r1⟩ := h.lst
    exact ⟨a, ws, rfl, .inl (.inl (.inl e.2)), r1⟩
  | tup qs =>
    obtain rfl : qs = ps := Option.some.inj e
    obtain ⟨a, ws, rfl, e, r1⟩ := h.tup
    exact ⟨a, ws, rfl, .inr e.sq, r1⟩
  | _ => cases e
def oList : POn := fun xs P => ∃ x ps, xs = [x] ∧ seqP x = some ps ∧ P (.lst ps)
theorem lift_list : LiftN K (fun xs H Q => ∃ p ys, xs = [.ref p] ∧ (SqL K H p ys ∨ SqT K H p ys) ∧ ∀ l, H l = none → Q (.ref l) (upd H l (.lst ys))) oList .fr := by
  rintro Z W H ps vs P Q S r ⟨x, qs, rfl, hn, hp⟩ k
  obtain ⟨v, rfl, rv⟩ := r.one
  obtain ⟨a, ws, rfl, e, r1⟩ := rv.seq hn
  exact ⟨a, ws, rfl, e, fun l n => k _ _ _ (Grow.new S.src n) ⟨l, rfl, n, OwnAt.newLst n r1⟩ hp⟩
def oTuple : POn := fun xs P => ∃ x ps, xs = [x] ∧ seqP x = some ps ∧ P (.tup ps)
theorem lift_tuple : LiftN K (fun xs H Q => ∃ p ys, xs = [.ref p] ∧ ((SqL K H p ys ∧ ∀ l, H l = none → Q (.ref l) (upd H l (.tup ys))) ∨ (SqT K H p ys ∧ Q (.ref p) H))) oTuple .cl := by
  rintro Z W H ps vs P Q S r ⟨x, qs, rfl, hn, hp⟩ k
  obtain ⟨v, rfl, rv⟩ := r.one
  cases x with
  | lst ps =>
    obtain rfl : ps = qs := Option.some.inj hn
    obtain ⟨a, ws, rfl, e, r1⟩ := rv.lst
    exact ⟨a, ws, rfl, .inl ⟨.inl (.inl e.2), fun l n => k _ _ _ (Grow.new S.src n) (VK1.ofRp (Rp.newTup (S.nz n) n S.src S.wz r1)) hp⟩⟩
  | tup ps =>
    obtain rfl : ps = qs := Option.some.inj hn
    have rv' : Rp K ⟨Z, W, H⟩ (.tup ps) v := rv
    obtain ⟨a, ws, rfl, e, r1⟩ := rv.tup
    exact ⟨a, ws, rfl, .inr ⟨e.sq, S.fin k rv' hp⟩⟩
  | _ => cases hn
def intKey (i : Int) : Key := Sum.inl i
def oSorted : POn := fun xs P => ∃ ns : List Int, (xs = [.lst (ns.map .int)] ∨ ((∃ vs, xs = [.dic (ns.map intKey) vs]) ∧ ns.length < 64)) ∧ P (.lst ((isort ns).map .int))
abbrev rSortedA (K : PySem.W.Frag) : List V → Hp → VK → Prop := fun xs H Q => rSortedI K xs H Q ∨ (∃ (a : Addr) (kvs : List (Key × V)) (ks : List Int), xs = [.ref a] ∧ Rd H a (.dK kvs) ∧ kvs.map (·.1) = ks.map Sum.inl ∧ ks.length < 64 ∧
    ∀ (ys : List Int) (p : Addr), ys.Perm ks → ys.Pairwise (· ≤ ·) → H p = none → Q (.ref p) (upd H p (.lst (ys.map V.int))))
theorem call_sortedA {X : Cx} (hc : X.calm = true) : CallR X (.builtin "sorted") (rSortedA X.K) := CallR.or cr_sortedI (call_sortedDI hc)
theorem lift_sorted : LiftN K (rSortedA K) oSorted .fr := by
  rintro Z W H ps vs P Q S r ⟨ns, h, hp⟩ k
  have fin : ∀ (ys : List Int) (p : Addr), ys.Perm ns → ys.Pairwise (· ≤ ·) → H p = none → Q (.ref p) (upd H p (.lst (ys.map V.int))) := fun ys p hy hs n => by
    rw [isort_eq hy hs]
    exact k _ _ _ (Grow.new S.src n) ⟨p, rfl, n, OwnAt.newLst n (Rps.ints.mpr rfl)⟩ hp
  rcases h with rfl | ⟨⟨vals, rfl⟩, h64⟩
  · obtain ⟨v, rfl, rv⟩ := r.one
    obtain ⟨a, ws, rfl, e, r1⟩ := rv.lst
    have ew := Rps.ints.mp r1
    subst ew
    exact .inl ⟨a, ns, rfl, .inl (.inl e.2), fin⟩
  · obtain ⟨v, rfl, rv⟩ := r.one
    obtain ⟨a, ws, rfl, _, e, l, r1⟩ := rv
    refine .inr ⟨a, _, ns, rfl, .inl e, ?_, h64, fin⟩
    exact List.map_fst_zip (Nat.le_of_eq l)
def oSum : POn := fun xs P => ∃ ns : List Int, xs = [.lst (ns.map .int)] ∧ P (.int ns.sum)
theorem lift_sum : LiftN K (rSum K) oSum .cl := by
  rintro Z W H ps vs P Q S r ⟨ns, rfl, hp⟩ k
  obtain ⟨v, rfl, rv⟩ := r.one
  obtain ⟨a, ws, rfl, e, r1⟩ := rv.lst
  have ew := Rps.ints.mp r1
  subst ew
  exact ⟨a, ns, rfl, .inl (.inl e.2), S.fin k Rp.int' hp⟩
def oMaxL : POn := fun xs P => ∃ ns : List Int, xs = [.lst (ns.map .int)] ∧ 0 < ns.length ∧ ∀ m, m ∈ ns → (∀ y, y ∈ ns → y ≤ m) → P (.int m)
def oMinL : POn := fun xs P => ∃ ns : List Int, xs = [.lst (ns.map .int)] ∧ 0 < ns.length ∧ ∀ m, m ∈ ns → (∀ y, y ∈ ns → m ≤ y) → P (.int m)
theorem lift_maxL : LiftN K (rMax K) oMaxL .cl := by
  rintro Z W H ps vs P Q S r ⟨ns, rfl, h0, hp⟩ k
  obtain ⟨v, rfl, rv⟩ := r.one
  obtain ⟨a, ws, rfl, e, r1⟩ := rv.lst
  have ew := Rps.ints.mp r1
  subst ew
  exact ⟨a, ns, rfl, .inl (.inl e.2), h0, fun m h1 h2 => S.fin k Rp.int' (hp m h1 h2)⟩
theorem lift_minL : LiftN K (rMin K) oMinL .cl := by
  rintro Z W H ps vs P Q S r ⟨ns, rfl, h0, hp⟩ k
  obtain ⟨v, rfl, rv⟩ := r.one
  obtain ⟨a, ws, rfl, e, r1⟩ := rv.lst
  have ew := Rps.ints.mp r1
  subst ew
  exact ⟨a, ns, rfl, .inl (.inl e.2), h0, fun m h1 h2 => S.fin k Rp.int' (hp m h1 h2)⟩
def oAll : POn := fun xs P => ∃ bs : List Bool, xs = [.lst (bs.map .bl)] ∧ P (.bl (bs.all id))
def oAny : POn := fun xs P => ∃ bs : List Bool, xs = [.lst (bs.map .bl)] ∧ P (.bl (bs.any id))
theorem lift_all : LiftN K (rAll K) oAll .cl := by
  rintro Z W H ps vs P Q S r ⟨ns, rfl, hp⟩ k
  obtain ⟨v, rfl, rv⟩ := r.one
  obtain ⟨a, ws, rfl, e, r1⟩ := rv.lst
  have ew := Rps.bls.mp r1
  subst ew
  exact ⟨a, ns, rfl, .inl (.inl e.2), S.fin k Rp.bl' hp⟩
theorem lift_any : LiftN K (rAny K) oAny .cl := by
  rintro Z W H ps vs P Q S r ⟨ns, rfl, hp⟩ k
  obtain ⟨v, rfl, rv⟩ := r.one
  obtain ⟨a, ws, rfl, e, r1⟩ := rv.lst
  have ew := Rps.bls.mp r1
  subst ew
  exact ⟨a, ns, rfl, .inl (.inl e.2), S.fin k Rp.bl' hp⟩

/-! ### isinstance -/
def pty : PV → Option String
  | .non => some "NoneType"
  | .bl _ => some "bool"
  | .int _ => some "int"
  | .str _ => some "str"
  | .tup _ => some "tuple"
  | .lst _ => some "list"
  | .dic _ _ => some "dict"
  | _ => none
theorem RpO.tyx {Z : Addr → Prop} {W : Ws} {H : Hp} {p : PV} {v : V} {T : String} (h : RpO K ⟨Z, W, H⟩ p v) (e : pty p = some T) : TyX K H v (.type T) := by
  cases p with
  | non => cases e; rw [h.non]; exact .base .non
  | bl _ => cases e; rw [h.bl]; exact .base (.bl _)
  | int _ => cases e; rw [h.int]; exact .base (.int _)
  | str _ => cases e; rw [h.str]; exact .base (.str _)
  | tup ps =>
    cases e
    obtain ⟨a, ws, rfl, e, r1⟩ := h.tup
    rcases e with e | ⟨o, its, n, h1, h2, _⟩
    · exact .base (.tup e.2)
    · exact .kTuple h1 h2
  | lst ps => cases e; obtain ⟨a, ws, rfl, e, r1⟩ := h.lst; exact .base (.lst e.2)
  | dic ks ps => cases e; obtain ⟨a, ws, rfl, _, e, _⟩ := h; exact .base (.dK e)
  | _ => cases e
def oIsi (T : String) : PO1 := fun x P => ∃ U b, pty x = some U ∧ kitB U T = some b ∧ P (.bl b)
theorem em_isi (T : String) {X : Cx} {c : List Ow} {a : Expr} {ta : TEm} {p p2 pos : Pos} {nm : Str} (ha : PEm X c .ow a ta) (hg : Gl X "isinstance") (hm : X.mg "isinstance" = none) (hgT : Gl X nm) (hmT : X.mg nm = none) (hT : bootBuiltins nm = some (.type T))
    (hn : nm ≠ "__name__" := by decide) (hd : (nm == ("__debug__" : Str)) = false := by decide)
    (he : starEach [a, .Name nm p2] X.env = (false, eval a X.env) :: starEach [.Name nm p2] X.env := by rfl) (he2 : starEach [.Name nm p2] X.env = (false, eval (.Name nm p2) X.env) :: starEach [] X.env := by rfl) (hpl : (backTo pos (starEach [.Name nm p2] X.env)).any (·.1) = false := by rfl) :
    PEm X c .cl (.Call (.Name "isinstance" p) [a, .Name nm p2] [] pos) (mOp1 (oIsi T) ta) := ⟨(pe_callB (r := rIsi X.K) call_isi hg hm PyProof.Rows.boot_isinstance (pa_cons ha.run (pa_cons (pe_bltn (v := .ty T) hgT hmT hT rfl hn hd) pa_nil he2) he) (by decide) (by decide) he hpl).weak fun σ H Q h => by
  obtain ⟨G, A, W, env, P, R, h, k⟩ := h
  refine ⟨G, A, W, env, _, R, h, fun px vx H1 g1 rx ⟨U, b, hU, hb, h1⟩ => ?_⟩
  exact ⟨vx, .ty T, .type U, .type T, b, rfl, .ty T, rx.tyx hU, kit_ty hb, k _ _ H1 g1 (VK1.ofRp Rp.bl') h1⟩⟩

/-! ### slices -/
structure POm (X : Cx) (c : List Ow) (e : Option Expr) (t : Env → (Option Int → Prop) → Prop) : Prop where
  run : PO X e (fun σ H Q => ∃ G A W env P, SR X.K G c A W env σ H ∧ t env P ∧ ∀ o H', Grow W H H' → P o → Q o H')
def mNo : Env → (Option Int → Prop) → Prop := fun _ P => P none
def mPart (t : TEm) : Env → (Option Int → Prop) → Prop := fun env P => t env fun x => ∃ i, x = .int i ∧ P (some i)
theorem om_none {X : Cx} {c : List Ow} : POm X c none mNo := ⟨⟨fun pins s σ H Q I h => po_none.run pins s σ H Q I (by
  obtain ⟨G, A, W, env, P, R, h, k⟩ := h
  exact k none H (Grow.refl R.src) h)⟩⟩
theorem om_some {X : Cx} {c : List Ow} {e : Expr} {t : TEm} (h : PEm X c .ow e t) : POm X c (some e) (mPart t) := ⟨⟨fun pins s σ H Q I x => (po_some h.run).run pins s σ H Q I (by
  obtain ⟨G, A, W, env, P, R, x, k⟩ := x
  refine ⟨G, A, W, env, _, R, x, fun p v H1 g1 r ⟨i, e, h1⟩ => ?_⟩
  subst e
  exact ⟨i, r.o.int, k _ H1 g1 h1⟩)⟩⟩
def cutP (xs : List PV) (lo hi : Option Int) : List PV := (xs.drop (HT.sIx xs.length 0 lo)).take (HT.sIx xs.length xs.length hi - HT.sIx xs.length 0 lo)
theorem Rps.cut {S : Wd} {ps : List PV} {vs : List V} (h : Rps K S ps vs) (lo hi : Option Int) : Rps K S (cutP ps lo hi) (cutV vs lo hi) := by
  unfold cutP cutV
  rw [h.len]
  exact Rps.take _ (Rps.drop _ h)
def mSl (o : PV → Option Int → Option Int → (PV → Prop) → Prop) (t : TEm) (tl th : Env → (Option Int → Prop) → Prop) : TEm := fun env P => t env fun x => tl env fun l => th env fun u => o x l u P
def oSlL : PV → Option Int → Option Int → (PV → Prop) → Prop := fun x l u P => ∃ ps, x = .lst ps ∧ P (.lst (cutP ps l u))
def oSlT : PV → Option Int → Option Int → (PV → Prop) → Prop := fun x l u P => ∃ ps, x = .tup ps ∧ P (.tup (cutP ps l u))
theorem cut_whole {xs : List PV} {lo hi : Option Int} (h : HT.sIx xs.length 0 lo = 0 ∧ HT.sIx xs.length xs.length hi = xs.length) : cutP xs lo hi = xs := by
  unfold cutP
  rw [h.1, h.2]
  simp
section
variable {X : Cx} {c : List Ow} {e : Expr} {lo hi : Option Expr} {te : TEm} {tl th : Env → (Option Int → Prop) → Prop} {pos p2 : Pos}
theorem em_slL (he : PEm X c .ow e te) (hl : POm X c lo tl) (hu : POm X c hi th) : PEm X c .fr (.Subscript e (.Slice lo hi none p2) pos) (mSl oSlL te tl th) := ⟨(pe_slice sl_list he.run hl.run hu.run).weak fun σ H Q h => by
  obtain ⟨G, A, W, env, P, R, h, k⟩ := h
  refine ⟨G, A, W, env, _, R, h, fun px vx H1 g1 rx h1 => ⟨G, A, W, env, _, R.grow g1, h1, fun l H2 g2 h2 => ⟨G, A, W, env, _, (R.grow g1).grow g2, h2, fun u H3 g3 h3 => ?_⟩⟩⟩
  have R3 := ((R.grow g1).grow g2).grow g3
  obtain ⟨ps, rfl, hp⟩ := h3
  obtain ⟨a, vs, rfl, e, r⟩ := RpO.lst (RpO.grow R.sz (g2.trans g3) rx.o)
  exact ⟨a, vs, rfl, .inl (.inl e.2), fun p n => k _ _ _ (((g1.trans g2).trans g3).trans (Grow.new R3.src n)) ⟨p, rfl, ((g1.trans g2).trans g3).free n, OwnAt.newLst n (r.cut l u)⟩ hp⟩⟩
theorem em_slT (he : PEm X c .ow e te) (hl : POm X c lo tl) (hu : POm X c hi th) : PEm X c .cl (.Subscript e (.Slice lo hi none p2) pos) (mSl oSlT te tl th) := ⟨(pe_slice sl_tupA he.run hl.run hu.run).weak fun σ H Q h => by
  obtain ⟨G, A, W, env, P, R, h, k⟩ := h
  refine ⟨G, A, W, env, _, R, h, fun px vx H1 g1 rx h1 => ⟨G, A, W, env, _, R.grow g1, h1, fun l H2 g2 h2 => ⟨G, A, W, env, _, (R.grow g1).grow g2, h2, fun u H3 g3 h3 => ?_⟩⟩⟩
  have R3 := ((R.grow g1).grow g2).grow g3
  obtain ⟨ps, rfl, hp⟩ := h3
  have rx3 := RpO.grow R.sz (g2.trans g3) rx.o
  have rx4 : Rp X.K ⟨Zt G A W, W, H3⟩ (.tup ps) vx := rx3
  obtain ⟨a, vs, rfl, e, r⟩ := RpO.tup rx3
  refine ⟨a, vs, rfl, e.sq, fun w => ?_, fun _ p n => ?_⟩
  · rw [← r.len] at w
    rw [cut_whole w] at hp
    exact k _ _ H3 ((g1.trans g2).trans g3) (VK1.ofRp rx4) hp
  · exact k _ _ _ (((g1.trans g2).trans g3).trans (Grow.new R3.src n)) (VK1.ofRp (Rp.newTup (R3.nz n) n R3.src R.sz (r.cut l u))) hp⟩
end
end
end PM

set_option maxHeartbeats 1000000
/-! PM: statements. -/
namespace PM
open PySem L2

theorem cO_set {c : List Ow} {i j : Nat} {o : Ow} : cO (c.set i o) j = if j = i ∧ i < c.length then o else cO c j := by
  unfold cO
  rw [List.getD_eq_getElem?_getD, List.getD_eq_getElem?_getD, List.getElem?_set]
  by_cases h : i = j
  · subst h
    by_cases h2 : i < c.length
    · rw [if_pos rfl, if_pos h2, if_pos (And.intro rfl h2)]; rfl
    · rw [if_pos rfl, if_neg h2, if_neg (fun z => h2 z.2), List.getElem?_eq_none (by omega)]
  · rw [if_neg h, if_neg (fun z => h z.1.symm)]
theorem cO_sh {c : List Ow} {i : Nat} : cO (c.set i .sh) i = .sh := by
  rw [cO_set]
  by_cases h : i < c.length
  · rw [if_pos ⟨rfl, h⟩]
  · rw [if_neg (fun z => h z.2)]
    unfold cO
    rw [List.getD_eq_getElem?_getD, List.getElem?_eq_none (by omega)]; rfl
theorem cO_ne {c : List Ow} {i j : Nat} {o : Ow} (h : j ≠ i) : cO (c.set i o) j = cO c j := by rw [cO_set, if_neg (fun z => h z.1)]
theorem env_set_get {α : Type} {env : List (Option α)} {i j : Nat} {x p : α} (e : (env.set i (some x))[j]? = some (some p)) : (j = i ∧ i < env.length ∧ p = x) ∨ (j ≠ i ∧ env[j]? = some (some p)) := by
  rw [List.getElem?_set] at e
  by_cases h : i = j
  · subst h
    rw [if_pos rfl] at e
    by_cases h2 : i < env.length
    · rw [if_pos h2] at e
      exact .inl ⟨rfl, h2, (Option.some.inj (Option.some.inj e)).symm⟩
    · rw [if_neg h2] at e; cases e
  · rw [if_neg h] at e
    exact .inr ⟨fun z => h z.symm, e⟩
section
variable {K : PySem.W.Frag} {G G' : Gh} {c c' : List Ow} {A : Nat → Option Addr} {W : Ws} {env : Env} {σ : St} {H H' : Hp}
def dropA (A : Nat → Option Addr) (i : Nat) : Nat → Option Addr := fun j => if j = i then none else A j
def putA (A : Nat → Option Addr) (i : Nat) (a : Addr) : Nat → Option Addr := fun j => if j = i then some a else A j
theorem dropA_some {i j : Nat} {a : Addr} (e : dropA A i j = some a) : j ≠ i ∧ A j = some a := by
  unfold dropA at e
  by_cases h : j = i
  · rw [if_pos h] at e; cases e
  · rw [if_neg h] at e; exact ⟨h, e⟩
theorem dropA_ne {i j : Nat} (h : j ≠ i) : dropA A i j = A j := if_neg h
theorem dropA_eq {i : Nat} : dropA A i i = none := if_pos rfl
theorem putA_ne {i j : Nat} {a : Addr} (h : j ≠ i) : putA A i a j = A j := if_neg h
theorem putA_eq {i : Nat} {a : Addr} : putA A i a i = some a := if_pos rfl
theorem zt_drop {i : Nat} {b : Addr} (h : Zt G (dropA A i) W b) : Zt G A W b := by
  rcases h with h | h | ⟨j, h⟩
  · exact .inl h
  · exact .inr (.inl h)
  · exact .inr (.inr ⟨j, (dropA_some h).2⟩)
/-- a name takes a clean value -/
theorem SR.set_sh {i : Nat} {p : PV} {v : V} (R : SR K G c A W env σ H) (hl : cO c i ≠ .lk) (r : Rp K ⟨Zt G A W, W, H⟩ p v) : SR K G (c.set i .sh) (dropA A i) W (env.set i (some p)) (σ.set i (some v)) H := by
  have x : Ext ⟨Zt G A W, W, H⟩ ⟨Zt G (dropA A i) W, W, H⟩ := ext_less fun b => zt_drop
  refine ⟨by rw [List.length_set, List.length_set]; exact R.len, R.W0in, R.Wmin, R.Wnew, R.Wfix, R.src, R.keep, R.zbt, fun j a e => ?_, fun j k a e1 e2 => ?_, fun j q hc e => ?_, fun j q e => ?_, fun q hq => ?_, fun b o e => ?_⟩
  · obtain ⟨n, e⟩ := dropA_some e
    obtain ⟨h1, h2, h3, h4, h5⟩ := R.Asep j a e
    exact ⟨h1, h2, h3, by rw [cO_ne n]; exact h4, h5⟩
  · exact R.Ainj j k a (dropA_some e1).2 (dropA_some e2).2
  · rcases env_set_get e with ⟨rfl, _, _⟩ | ⟨n, e⟩
    · exact absurd cO_sh hc
    · rw [cO_ne n] at hc
      obtain ⟨a, ha⟩ := R.Aset j q hc e
      exact ⟨a, by rw [dropA_ne n]; exact ha⟩
  · rcases env_set_get e with ⟨rfl, hi, rfl⟩ | ⟨n, e⟩
    · refine ⟨v, by rw [List.getElem?_set_self (by rw [← R.len]; exact hi)], ?_⟩
      rw [dropA_eq]
      exact Rp.ext x r
    · obtain ⟨w, h1, h2⟩ := R.slots j q e
      refine ⟨w, by rw [List.getElem?_set_ne (Ne.symm n)]; exact h1, ?_⟩
      rw [dropA_ne n]
      cases hA : A j with
      | none => rw [hA] at h2; exact Rp.ext x h2
      | some a => rw [hA] at h2; exact ⟨h2.1, h2.2.ext x rfl⟩
  · obtain ⟨h1, h2, h3, h4⟩ := R.pins q hq
    have n : q.1 ≠ i := fun z => hl (z ▸ h4)
    exact ⟨h1, h2, by rw [dropA_ne n]; exact h3, by rw [cO_ne n]; exact h4⟩
  · obtain ⟨h1, h2⟩ := R.fz b o e
    exact ⟨h1, fun z => h2 (zt_drop z)⟩
theorem SR.h0 (R : SR K G c A W env σ H) {a : Addr} (n : H a = none) : G.H0 a = none := by
  cases e : G.H0 a with
  | none => rfl
  | some o =>
    by_cases w : inW G.W0 a
    · obtain ⟨p, hp, hb⟩ := w
      obtain ⟨u, e1⟩ := inW_some R.src (b := a) ⟨p, R.W0in p hp, hb⟩
      rw [n] at e1; cases e1
    · rw [R.keep a o w e] at n; cases n
/-- a name takes a new list -/
theorem SR.set_ow {i : Nat} {p : PV} {a : Addr} (R : SR K G c A W env σ H) (hi' : i < c.length) (hl : cO c i ≠ .lk) (g : Grow W H H') (n : H a = none) (r : OwnAt K ⟨fun b => Zt G A W b ∨ b = a, W, H'⟩ a p) :
    SR K G (c.set i .ow) (putA A i a) W (env.set i (some p)) (σ.set i (some (.ref a))) H' := by
  have R' := R.grow g
  have ta : ∃ o, H' a = some o := by
    cases p with
    | lst ps => obtain ⟨vs, e, _⟩ := r; exact ⟨_, e⟩
    | dic ks ps => obtain ⟨vs, e, _⟩ := r; exact ⟨_, e⟩
    | obj C ns ps => obtain ⟨dx, vs, e, _⟩ := r; exact ⟨_, e⟩
    | _ => exact r.elim
  have nt : ∀ b o, H b = some o → b ≠ a := fun b o e z => by rw [z, n] at e; cases e
  have nw : ¬ inW W a := fun w => by obtain ⟨o, e⟩ := inW_some R.src w; rw [n] at e; cases e
  have nz : ¬ G.zb a := fun z => by obtain ⟨o, e⟩ := R.zbt a z; rw [n] at e; cases e
  have zt : ∀ b, Zt G (putA A i a) W b → Zt G A W b ∨ b = a := fun b z => by
    rcases z with z | z | ⟨j, z⟩
    · exact .inl (.inl z)
    · exact .inl (.inr (.inl z))
    · by_cases hj : j = i
      · subst hj; rw [putA_eq] at z; cases z; exact .inr rfl
      · rw [putA_ne hj] at z; exact .inl (.inr (.inr ⟨j, z⟩))
  have x : Ext ⟨Zt G A W, W, H⟩ ⟨Zt G (putA A i a) W, W, H'⟩ := ⟨fun b o hz e => ⟨fun z => (zt b z).elim hz (nt b o e), g.keep b o (fun w => hz (Zt.w w)) e⟩, fun _ h => h⟩
  have y : Ext ⟨fun b => Zt G A W b ∨ b = a, W, H'⟩ ⟨Zt G (putA A i a) W, W, H'⟩ := ext_less zt
  have own : ∀ j b, A j = some b → H' b = H b ∧ b ≠ a := fun j b e => by
    obtain ⟨_, n2, _, _, o, ho⟩ := R.Asep j b e
    exact ⟨by rw [ho, g.keep b o n2 ho], nt b o ho⟩
  refine ⟨by rw [List.length_set, List.length_set]; exact R.len, R.W0in, R.Wmin, R.Wnew, R.Wfix, R'.src, R'.keep, R'.zbt, fun j b e => ?_, fun j k b e1 e2 => ?_, fun j q hc e => ?_, fun j q e => ?_, fun q hq => ?_, fun b o e => ?_⟩
  · by_cases hj : j = i
    · subst hj
      rw [putA_eq] at e; cases e
      exact ⟨R.h0 n, nw, nz, by rw [cO_set, if_pos ⟨rfl, hi'⟩]; decide, ta⟩
    · rw [putA_ne hj] at e
      obtain ⟨h1, h2, h3, h4, h5⟩ := R'.Asep j b e
      exact ⟨h1, h2, h3, by rw [cO_ne hj]; exact h4, h5⟩
  · by_cases hj : j = i
    · by_cases hk : k = i
      · rw [hj, hk]
      · subst hj; rw [putA_eq] at e1; cases e1; rw [putA_ne hk] at e2; exact absurd rfl (own k a e2).2
    · by_cases hk : k = i
      · subst hk; rw [putA_eq] at e2; cases e2; rw [putA_ne hj] at e1; exact absurd rfl (own j a e1).2
      · rw [putA_ne hj] at e1; rw [putA_ne hk] at e2; exact R.Ainj j k b e1 e2
  · by_cases hj : j = i
    · subst hj; exact ⟨a, putA_eq⟩
    · rcases env_set_get e with ⟨z, _, _⟩ | ⟨_, e⟩
      · exact absurd z hj
      · rw [cO_ne hj] at hc
        obtain ⟨b, hb⟩ := R.Aset j q hc e
        exact ⟨b, by rw [putA_ne hj]; exact hb⟩
  · rcases env_set_get e with ⟨rfl, hi, rfl⟩ | ⟨hj, e⟩
    · refine ⟨.ref a, by rw [List.getElem?_set_self (by rw [← R.len]; exact hi)], ?_⟩
      rw [putA_eq]
      exact ⟨rfl, r.ext y rfl⟩
    · obtain ⟨w, h1, h2⟩ := R.slots j q e
      refine ⟨w, by rw [List.getElem?_set_ne (Ne.symm hj)]; exact h1, ?_⟩
      rw [putA_ne hj]
      cases hA : A j with
      | none => rw [hA] at h2; exact Rp.ext x h2
      | some b => rw [hA] at h2; exact ⟨h2.1, h2.2.ext x (own j b hA).1⟩
  · obtain ⟨h1, h2, h3, h4⟩ := R'.pins q hq
    have nj : q.1 ≠ i := fun z => hl (z ▸ h4)
    exact ⟨h1, h2, by rw [putA_ne nj]; exact h3, by rw [cO_ne nj]; exact h4⟩
  · obtain ⟨h1, h2⟩ := R.fz b o e
    obtain ⟨h3, _⟩ := R'.fz b o e
    exact ⟨h3, fun z => (zt b z).elim h2 (nt b o h1)⟩
/-- one's own list is changed -/
theorem SR.mut {j : Nat} {a : Addr} {o : HO} {p p0 : PV} (e0 : env[j]? = some (some p0)) (R : SR K G c A W env σ H) (hA : A j = some a) (hc : cO c j = .ow) (r : OwnAt K ⟨Zt G A W, W, upd H a o⟩ a p) :
    SR K G c A W (env.set j (some p)) σ (upd H a o) := by
  obtain ⟨a1, a2, a3, a4, u, a5⟩ := R.Asep j a hA
  have za : Zt G A W a := .inr (.inr ⟨j, hA⟩)
  have x : Ext ⟨Zt G A W, W, H⟩ ⟨Zt G A W, W, upd H a o⟩ := ⟨fun b w hz e => ⟨hz, by show upd H a o b = some w; rw [upd_ne (fun z => hz (by rw [z]; exact za))]; exact e⟩, fun _ h => h⟩
  have tr : ∀ b, (∃ w, H b = some w) → ∃ w, upd H a o b = some w := fun b ⟨w, e⟩ => by
    by_cases z : b = a
    · subst z; exact ⟨o, upd_same⟩
    · exact ⟨w, by rw [upd_ne z]; exact e⟩
  have ne_w : ∀ q ∈ W, q.1 ≠ a ∧ q.2 ≠ a := fun q hq => ⟨fun z => a2 ⟨q, hq, .inl z.symm⟩, fun z => a2 ⟨q, hq, .inr z.symm⟩⟩
  refine ⟨by rw [List.length_set]; exact R.len, R.W0in, R.Wmin, R.Wnew, R.Wfix, fun q hq => ?_, fun b w hw e => ?_, fun b hb => tr b (R.zbt b hb), fun k b e => ?_, R.Ainj, fun k q hk e => ?_, fun k q e => ?_, fun q hq => ?_, fun b w e => ?_⟩
  · exact SA.at (upd_ne (ne_w q hq).1) (upd_ne (ne_w q hq).2) (R.src q hq)
  · rw [upd_ne (fun z => by rw [z, a1] at e; cases e)]
    exact R.keep b w hw e
  · obtain ⟨h1, h2, h3, h4, h5⟩ := R.Asep k b e
    exact ⟨h1, h2, h3, h4, tr b h5⟩
  · rcases env_set_get e with ⟨z, _, _⟩ | ⟨_, e⟩
    · rw [z]; exact ⟨a, hA⟩
    · exact R.Aset k q hk e
  · rcases env_set_get e with ⟨z, hl, z2⟩ | ⟨n, e⟩
    · subst z z2
      obtain ⟨v, h1, h2⟩ := R.slots k p0 e0
      rw [hA] at h2
      refine ⟨v, h1, ?_⟩
      rw [hA]
      exact ⟨h2.1, r⟩
    · obtain ⟨v, h1, h2⟩ := R.slots k q e
      refine ⟨v, h1, ?_⟩
      cases hk : A k with
      | none => rw [hk] at h2; exact Rp.ext x h2
      | some b =>
        rw [hk] at h2
        refine ⟨h2.1, h2.2.ext x ?_⟩
        have : b ≠ a := fun z => n (R.Ainj k j a (z ▸ hk) hA)
        exact upd_ne this
  · obtain ⟨h1, h2, h3, h4⟩ := R.pins q hq
    have : q.2.1 ≠ a := fun z => by
      have := R.Ainj q.1 j a (z ▸ h3) hA
      rw [this, hc] at h4; cases h4
    exact ⟨by rw [upd_ne this]; exact h1, h2, h3, h4⟩
  · obtain ⟨h1, h2⟩ := R.fz b w e
    exact ⟨by rw [upd_ne (fun z => h2 (by rw [z]; exact za))]; exact h1, h2⟩
end

section
variable {K : PySem.W.Frag} {G G' : Gh} {c c' : List Ow} {A : Nat → Option Addr} {W : Ws} {env : Env} {σ : St} {H H' : Hp}
theorem OwnAt.less {Z Z' : Addr → Prop} {a : Addr} {p : PV} (r : OwnAt K ⟨Z, W, H⟩ a p) (h : ∀ b, Z' b → Z b) : OwnAt K ⟨Z', W, H⟩ a p := r.ext (ext_less h) rfl
/-- what is one's own may become shared -/
def FrzOk : List Ow → List Ow → Bool
  | [], [] => true
  | x :: xs, y :: ys => (decide (x = y) || (decide (x = .ow) && decide (y = .sh))) && FrzOk xs ys
  | _, _ => false
theorem FrzOk.at : ∀ {c c' : List Ow} (i : Nat), FrzOk c c' = true → cO c' i = cO c i ∨ (cO c i = .ow ∧ cO c' i = .sh)
  | [], [], _, _ => .inl rfl
  | x :: xs, y :: ys, 0, h => by
    unfold FrzOk at h
    rw [Bool.and_eq_true, Bool.or_eq_true, Bool.and_eq_true, decide_eq_true_eq, decide_eq_true_eq, decide_eq_true_eq] at h
    rcases h.1 with e | e
    · subst e; exact .inl rfl
    · exact .inr ⟨e.1, e.2⟩
  | x :: xs, y :: ys, i + 1, h => by
    unfold FrzOk at h
    rw [Bool.and_eq_true] at h
    exact FrzOk.at (c := xs) (c' := ys) i h.2
theorem SR.frz (R : SR K G c A W env σ H) (h : FrzOk c c' = true) : ∃ A', SR K G c' A' W env σ H := by
  have hat := fun i => FrzOk.at (c := c) (c' := c') i h
  let A' : Nat → Option Addr := fun i => if cO c' i = .sh then none else A i
  have d1 : ∀ i a, A' i = some a → A i = some a ∧ cO c' i ≠ .sh := fun i a e => by
    have e' : (if cO c' i = .sh then none else A i) = some a := e
    by_cases z : cO c' i = .sh
    · rw [if_pos z] at e'; cases e'
    · rw [if_neg z] at e'; exact ⟨e', z⟩
  have d2 : ∀ i, cO c' i ≠ .sh → A' i = A i := fun i z => if_neg z
  have d3 : ∀ i, cO c' i = .sh → A' i = none := fun i z => if_pos z
  have zt : ∀ b, Zt G A' W b → Zt G A W b := fun b z => by
    rcases z with z | z | ⟨i, z⟩
    · exact .inl z
    · exact .inr (.inl z)
    · exact .inr (.inr ⟨i, (d1 i b z).1⟩)
  have x : Ext ⟨Zt G A W, W, H⟩ ⟨Zt G A' W, W, H⟩ := ext_less zt
  refine ⟨A', R.len, R.W0in, R.Wmin, R.Wnew, R.Wfix, R.src, R.keep, R.zbt, fun i a e => ?_, fun i j a e1 e2 => R.Ainj i j a (d1 i a e1).1 (d1 j a e2).1, fun i p hc e => ?_, fun i p e => ?_, fun q hq => ?_, fun b o e => ?_⟩
  · obtain ⟨h1, h2, h3, _, h5⟩ := R.Asep i a (d1 i a e).1
    exact ⟨h1, h2, h3, (d1 i a e).2, h5⟩
  · rw [d2 i hc]
    exact R.Aset i p (fun z => by
      rcases hat i with w | w
      · exact hc (w.trans z)
      · exact hc w.2) e
  · obtain ⟨v, h1, h2⟩ := R.slots i p e
    refine ⟨v, h1, ?_⟩
    by_cases z : cO c' i = .sh
    · rw [d3 i z]
      cases hA : A i with
      | none => rw [hA] at h2; exact Rp.ext x h2
      | some a =>
        rw [hA] at h2
        obtain ⟨rfl, h2⟩ := h2
        obtain ⟨_, a2, a3, _, _⟩ := R.Asep i a hA
        refine OwnAt.cl (Z := Zt G A' W) (fun w => ?_) (h2.less (Z' := fun b => Zt G A' W b ∨ b = a) fun b w => ?_)
        · rcases w with w | w | ⟨j, w⟩
          · exact a3 w
          · exact a2 w
          · obtain ⟨w1, w2⟩ := d1 j a w
            have := R.Ainj j i a w1 hA
            exact w2 (this ▸ z)
        · rcases w with w | w
          · exact zt b w
          · rw [w]; exact .inr (.inr ⟨i, hA⟩)
    · rw [d2 i z]
      cases hA : A i with
      | none => rw [hA] at h2; exact Rp.ext x h2
      | some a => rw [hA] at h2; exact ⟨h2.1, h2.2.ext x rfl⟩
  · obtain ⟨h1, h2, h3, h4⟩ := R.pins q hq
    have e : cO c' q.1 = .lk := by
      rcases hat q.1 with w | w
      · rw [w]; exact h4
      · rw [h4] at w; cases w.1
    exact ⟨h1, h2, by rw [d2 q.1 (by rw [e]; decide)]; exact h3, e⟩
  · obtain ⟨h1, h2⟩ := R.fz b o e
    exact ⟨h1, fun z => h2 (zt b z)⟩

/-! ### statements -/
structure Em where
  nx : Env → Prop
  rt : PV → Prop
  bk : Env → Prop := fun _ => False
  ct : Env → Prop := fun _ => False
abbrev TSm := Em → Env → Prop
/-- what a def gives back -/
def RetOk (K : PySem.W.Frag) (rm : Md) (G : Gh) (p : PV) (v : V) (H : Hp) : Prop :=
  ∃ W, (∀ q ∈ G.W0, q ∈ W) ∧ (G.gw = false → W = G.W0) ∧ (∀ q ∈ W, SA H q) ∧ (∀ b o, ¬ inW G.W0 b → G.H0 b = some o → H b = some o) ∧ VK1 K rm (fun b => G.zb b ∨ inW W b) W G.H0 H p v
structure Kont (K : PySem.W.Frag) (rm : Md) (cL c' : List Ow) (G : Gh) (M : Em) (D : Ends) : Prop where
  nx : ∀ A W env σ H, SR K G c' A W env σ H → M.nx env → D.nx σ H
  rt : ∀ p v H, RetOk K rm G p v H → M.rt p → D.rt v H
  bk : ∀ A W env σ H, SR K G cL A W env σ H → M.bk env → D.bk σ H
  ct : ∀ A W env σ H, SR K G cL A W env σ H → M.ct env → D.ct σ H
structure Fx where
  rm : Md
  gw : Bool
  cL : List Ow
def tmS (K : PySem.W.Frag) (f : Fx) (c c' : List Ow) (t : TSm) : TS := fun D σ H => ∃ G A W env M, G.gw = f.gw ∧ SR K G c A W env σ H ∧ t M env ∧ Kont K f.rm f.cL c' G M D
structure PSm (X : Cx) (f : Fx) (c c' : List Ow) (st : Stmt) (t : TSm) : Prop where
  run : PS X st (tmS X.K f c c' t)
structure PSsm (X : Cx) (f : Fx) (c c' : List Ow) (st : List Stmt) (t : TSm) : Prop where
  run : PSs X st (tmS X.K f c c' t)
theorem _root_.L2.PS.weak {X : Cx} {e : Stmt} {t t' : TS} (h : PS X e t) (k : ∀ D σ H, t' D σ H → t D σ H) : PS X e t' := ⟨fun pins s σ H D I x => h.run pins s σ H D I (k D σ H x)⟩
theorem _root_.L2.PSs.weak {X : Cx} {e : List Stmt} {t t' : TS} (h : PSs X e t) (k : ∀ D σ H, t' D σ H → t D σ H) : PSs X e t' := ⟨fun pins s σ H D I x => h.run pins s σ H D I (k D σ H x)⟩
end
section
variable {X : Cx} {f : Fx} {c c1 c' : List Ow} {st : Stmt} {rest : List Stmt} {t u : TSm} {e : Expr} {te : TEm} {pos : Pos}
def sNext : TSm := fun M env => M.nx env
def sSeq (t u : TSm) : TSm := fun M env => t { M with nx := u M } env
theorem sm_nil : PSsm X f c c [] sNext := ⟨pss_nil.weak fun D σ H h => by
  obtain ⟨G, A, W, env, M, hg, R, h, k⟩ := h
  exact k.nx A W env σ H R h⟩
theorem sm_cons (h1 : PSm X f c c1 st t) (h2 : PSsm X f c1 c' rest u) : PSsm X f c c' (st :: rest) (sSeq t u) := ⟨(pss_cons h1.run h2.run).weak fun D σ H h => by
  obtain ⟨G, A, W, env, M, hg, R, h, k⟩ := h
  exact ⟨G, A, W, env, _, hg, R, h, ⟨fun A W env σ H R' h' => ⟨G, A, W, env, M, hg, R', h', k⟩, k.rt, k.bk, k.ct⟩⟩⟩
theorem sm_one (h1 : PSm X f c c' st t) : PSsm X f c c' [st] t := ⟨pss_one h1.run⟩
/-- ownership may be let go ahead of a block, behind it -/
theorem sm_pre (h : FrzOk c c1 = true) (h1 : PSsm X f c1 c' rest t) : PSsm X f c c' rest t := ⟨h1.run.weak fun D σ H h' => by
  obtain ⟨G, A, W, env, M, hg, R, h', k⟩ := h'
  obtain ⟨A', R'⟩ := R.frz h
  exact ⟨G, A', W, env, M, hg, R', h', k⟩⟩
theorem sm_post (h : FrzOk c1 c' = true) (h1 : PSsm X f c c1 rest t) : PSsm X f c c' rest t := ⟨h1.run.weak fun D σ H h' => by
  obtain ⟨G, A, W, env, M, hg, R, h', k⟩ := h'
  exact ⟨G, A, W, env, M, hg, R, h', ⟨fun A W env σ H R' h2 => by
    obtain ⟨A', R2⟩ := R'.frz h
    exact k.nx A' W env σ H R2 h2, k.rt, k.bk, k.ct⟩⟩⟩
theorem sm_pre1 (h : FrzOk c c1 = true) (h1 : PSm X f c1 c' st t) : PSm X f c c' st t := ⟨h1.run.weak fun D σ H h' => by
  obtain ⟨G, A, W, env, M, hg, R, h', k⟩ := h'
  obtain ⟨A', R'⟩ := R.frz h
  exact ⟨G, A', W, env, M, hg, R', h', k⟩⟩
theorem sm_pass : PSm X f c c (.Pass pos) sNext := ⟨ps_pass.weak fun D σ H h => by
  obtain ⟨G, A, W, env, M, hg, R, h, k⟩ := h
  exact k.nx A W env σ H R h⟩
def sBreak : TSm := fun M env => M.bk env
def sCont : TSm := fun M env => M.ct env
theorem sm_break (h : FrzOk c f.cL = true) : PSm X f c c' (.Break pos) sBreak := ⟨ps_break.weak fun D σ H h' => by
  obtain ⟨G, A, W, env, M, hg, R, h', k⟩ := h'
  obtain ⟨A', R'⟩ := R.frz h
  exact k.bk A' W env σ H R' h'⟩
theorem sm_cont (h : FrzOk c f.cL = true) : PSm X f c c' (.Continue pos) sCont := ⟨ps_continue.weak fun D σ H h' => by
  obtain ⟨G, A, W, env, M, hg, R, h', k⟩ := h'
  obtain ⟨A', R'⟩ := R.frz h
  exact k.ct A' W env σ H R' h'⟩
def sDrop (te : TEm) : TSm := fun M env => te env fun _ => M.nx env
theorem sm_expr {md : Md} (he : PEm X c md e te) (hs : swapsWith e none pos.line X.env = pure false := by rfl) : PSm X f c c (.Expr e pos) (sDrop te) := ⟨(ps_expr he.run hs).weak fun D σ H h => by
  obtain ⟨G, A, W, env, M, hg, R, h, k⟩ := h
  exact ⟨G, A, W, env, _, R, h, fun p v H1 g r h1 => k.nx A W env σ H1 (R.grow g) h1⟩⟩
def sRet (te : TEm) : TSm := fun M env => te env M.rt
theorem SR.ret {K : PySem.W.Frag} {G : Gh} {A : Nat → Option Addr} {W : Ws} {env : Env} {σ : St} {H H1 : Hp} {rm : Md} {p : PV} {v : V} (R : SR K G c A W env σ H) (g : Grow W H H1) (hm : rm ≠ .ow) (r : VK1 K rm (Zt G A W) W H H1 p v) : RetOk K rm G p v H1 := by
  have R1 := R.grow g
  refine ⟨W, R.W0in, R.Wfix, R1.src, R1.keep, ?_⟩
  have less : ∀ b, (G.zb b ∨ inW W b) → Zt G A W b := fun b z => z.elim .inl fun z => .inr (.inl z)
  cases rm with
  | cl => exact VK1.ofRp (Rp.ext (ext_less less) r.c)
  | ow => exact absurd rfl hm
  | fr =>
    obtain ⟨a, e, n, o⟩ := r
    exact ⟨a, e, R.h0 n, o.less fun b z => z.elim (fun z => .inl (less b z)) .inr⟩
theorem sm_ret (he : PEm X c f.rm e te) (hm : f.rm ≠ .ow := by decide) : PSm X f c c' (.Return (some e) pos) (sRet te) := ⟨(ps_ret he.run).weak fun D σ H h => by
  obtain ⟨G, A, W, env, M, hg, R, h, k⟩ := h
  exact ⟨G, A, W, env, _, R, h, fun p v H1 g r h1 => k.rt p v H1 (R.ret g hm r) h1⟩⟩
/-- a list of one's own given back -/
theorem sm_retO (i : Nat) {x : Str} {pos' : Pos} (hN : X.N[i]? = some x := by rfl) (hc : cO c i ≠ .sh := by decide) (hm : f.rm ≠ .ow := by decide) (hv : Vis X.env.scope x := by first | exact Or.inl rfl | exact Or.inr (Or.inl rfl) | exact Or.inr (Or.inr rfl)) (hd : (x == ("__debug__" : Str)) = false := by decide)
    (hcd : (x == ("__classdict__" : Str)) = false := by decide) : PSm X f c c' (.Return (some (.Name x pos')) pos) (sRet (mVar i)) := ⟨(ps_ret (pe_var hN hv hd hcd)).weak fun D σ H h => by
  obtain ⟨G, A, W, env, M, hg, R, ⟨p, e, hp⟩, k⟩ := h
  obtain ⟨v, h1, h2⟩ := R.slots i p e
  obtain ⟨a, hA⟩ := R.Aset i p hc e
  rw [hA] at h2
  obtain ⟨rfl, h2⟩ := h2
  obtain ⟨a1, a2, a3, _, _⟩ := R.Asep i a hA
  refine ⟨.ref a, h1, k.rt p _ H ⟨W, R.W0in, R.Wfix, R.src, R.keep, ?_⟩ hp⟩
  have o : OwnAt X.K ⟨fun b => (G.zb b ∨ inW W b) ∨ b = a, W, H⟩ a p := h2.less fun b z => by
    rcases z with z | z
    · exact z.elim .inl fun z => .inr (.inl z)
    · rw [z]; exact .inr (.inr ⟨i, hA⟩)
  cases hr : f.rm with
  | ow => exact absurd hr hm
  | cl => exact VK1.ofRp (o.cl fun z => z.elim a3 a2)
  | fr => exact ⟨a, rfl, a1, o⟩⟩
def sRetN : TSm := fun M _ => M.rt .non
theorem sm_retN (hm : f.rm = .cl := by rfl) : PSm X f c c' (.Return none pos) sRetN := ⟨ps_retN.weak fun D σ H h => by
  obtain ⟨G, A, W, env, M, hg, R, h, k⟩ := h
  refine k.rt _ _ H ⟨W, R.W0in, R.Wfix, R.src, R.keep, ?_⟩ h
  rw [hm]
  exact VK1.ofRp Rp.non'⟩
def sIf (tc : TTm) (t u : TSm) : TSm := fun M env => tc env fun b => if b = true then t M env else u M env
theorem sm_if {cnd : Expr} {a b : List Stmt} {tc : TTm} (hc : PTm X c cnd tc) (ha : PSsm X f c c' a t) (hb : PSsm X f c c' b u) : PSm X f c c' (.If cnd a b pos) (sIf tc t u) := ⟨(ps_if hc.run ha.run hb.run).weak fun D σ H h => by
  obtain ⟨G, A, W, env, M, hg, R, h, k⟩ := h
  refine ⟨G, A, W, env, _, R, h, fun b H1 g h1 => ?_⟩
  cases b with
  | true => rw [if_pos rfl] at h1 ⊢; exact ⟨G, A, W, env, M, hg, R.grow g, h1, k⟩
  | false => rw [if_neg Bool.false_ne_true] at h1 ⊢; exact ⟨G, A, W, env, M, hg, R.grow g, h1, k⟩⟩
/-- x = e -/
def sSet (i : Nat) (te : TEm) : TSm := fun M env => te env fun p => M.nx (env.set i (some p))
theorem sm_set (i : Nat) {x : Str} {pos' : Pos} (hN : X.N.Nodup) (he : PEm X c .cl e te) (hi : X.N[i]? = some x := by rfl) (hx : Loc X.env.scope x := by first | exact Or.inl rfl | exact Or.inr rfl) (hl : cO c i ≠ .lk := by decide) (hs : swapsWith e (some (.Name x pos')) pos.line X.env = pure false := by rfl) (hf : X.fn x = true ∨ X.env.scope.names.lookup x = some .local := by first | exact .inl rfl | exact .inr rfl | assumption) :
    PSm X f c (c.set i .sh) (.Assign [.Name x pos'] e pos) (sSet i te) := ⟨(ps_set hN hi hx he.run hs hf).weak fun D σ H h => by
  obtain ⟨G, A, W, env, M, hg, R, h, k⟩ := h
  exact ⟨G, A, W, env, _, R, h, fun p v H1 g r h1 => k.nx _ W _ _ H1 ((R.grow g).set_sh hl r.c) h1⟩⟩
theorem sm_setF (i : Nat) {x : Str} {pos' : Pos} (hN : X.N.Nodup) (he : PEm X c .fr e te) (hi : X.N[i]? = some x := by rfl) (hx : Loc X.env.scope x := by first | exact Or.inl rfl | exact Or.inr rfl) (hlen : i < c.length := by decide) (hl : cO c i ≠ .lk := by decide) (hs : swapsWith e (some (.Name x pos')) pos.line X.env = pure false := by rfl) (hf : X.fn x = true ∨ X.env.scope.names.lookup x = some .local := by first | exact .inl rfl | exact .inr rfl | assumption) :
    PSm X f c (c.set i .ow) (.Assign [.Name x pos'] e pos) (sSet i te) := ⟨(ps_set hN hi hx he.run hs hf).weak fun D σ H h => by
  obtain ⟨G, A, W, env, M, hg, R, h, k⟩ := h
  refine ⟨G, A, W, env, _, R, h, fun p v H1 g r h1 => ?_⟩
  obtain ⟨a, rfl, n, o⟩ := r
  exact k.nx _ W _ _ H1 (R.set_ow hlen hl g n o) h1⟩
/-- x += e, whole numbers -/
def sAug (i : Nat) (o : PO2) (te : TEm) : TSm := fun M env => ∃ x, env[i]? = some (some x) ∧ te env fun y => o x y fun z => M.nx (env.set i (some z))
theorem sm_aug (i : Nat) {x : Str} {pos' : Pos} {op : Operator} {r : R2} {o : PO2} (ho : OpR X (inplaceOp op) r) (L : Lift2 X.K r o .cl) (hN : X.N.Nodup) (he : PEm X c .ow e te) (hi : X.N[i]? = some x := by rfl) (hx : Loc X.env.scope x := by first | exact Or.inl rfl | exact Or.inr rfl) (hc : cO c i = .sh := by rfl) (hf : X.fn x = true ∨ X.env.scope.names.lookup x = some .local := by first | exact .inl rfl | exact .inr rfl | assumption) :
    PSm X f c (c.set i .sh) (.AugAssign (.Name x pos') op e pos) (sAug i o te) := ⟨(ps_aug hN hi hx he.run (ti := r) (fun pins s σ H x y v u Q I rx ry h => ho pins s σ H x y v u Q I rx ry h) hf).weak fun D σ H h => by
  obtain ⟨G, A, W, env, M, hg, R, ⟨p, ep, h⟩, k⟩ := h
  obtain ⟨v, h1, h2⟩ := R.slots i p ep
  have hA : A i = none := by
    cases hA : A i with
    | none => rfl
    | some a => exact absurd hc (R.Asep i a hA).2.2.2.1
  rw [hA] at h2
  refine ⟨v, h1, G, A, W, env, _, R, h, fun q w H1 g r h3 => ?_⟩
  refine L _ W H1 p q v w _ _ (R.grow g).sit (RpO.grow R.sz g (Rp.ow R.sz h2)) r.o h3 fun z u H2 g2 r2 h4 => ?_
  exact k.nx _ W _ _ H2 (((R.grow g).grow g2).set_sh (by rw [hc]; decide) r2.c) h4⟩
end
end PM

set_option maxHeartbeats 1000000
/-! PM: lists changed, targets, loops. -/
namespace PM
open PySem L2
section
variable {X : Cx} {f : Fx} {c c1 c' : List Ow} {st : Stmt} {rest : List Stmt} {t u : TSm} {e ei : Expr} {te ti : TEm} {pos : Pos}
/-- one's own list, as it stands -/
theorem SR.mine {K : PySem.W.Frag} {G : Gh} {A : Nat → Option Addr} {W : Ws} {env : Env} {σ : St} {H : Hp} {i : Nat} {p : PV} (R : SR K G c A W env σ H) (hc : cO c i = .ow) (e : env[i]? = some (some p)) : ∃ a, A i = some a ∧ σ[i]? = some (some (.ref a)) ∧ OwnAt K ⟨Zt G A W, W, H⟩ a p := by
  obtain ⟨v, h1, h2⟩ := R.slots i p e
  obtain ⟨a, hA⟩ := R.Aset i p (by rw [hc]; decide) e
  rw [hA] at h2
  exact ⟨a, hA, by rw [h1, h2.1], h2.2⟩
theorem OwnAt.mutL {K : PySem.W.Frag} {Z : Addr → Prop} {W : Ws} {H : Hp} {a : Addr} {ps : List PV} {vs : List V} (hz : Z a) (r : Rps K ⟨Z, W, H⟩ ps vs) : OwnAt K ⟨Z, W, upd H a (.lst vs)⟩ a (.lst ps) :=
by
  have x : Ext ⟨Z, W, H⟩ ⟨Z, W, upd H a (.lst vs)⟩ := ⟨fun b w h e => ⟨h, by show upd H a (.lst vs) b = some w; rw [upd_ne (fun z => h (by rw [z]; exact hz))]; exact e⟩, fun _ h => h⟩
  exact ⟨vs, upd_same, Rps.ext x r⟩
/-- x.append(e) -/
def sApp (i : Nat) (te : TEm) : TSm := fun M env => ∃ ps, env[i]? = some (some (.lst ps)) ∧ te env fun p => ps.length < sizeLine ∧ M.nx (env.set i (some (.lst (ps ++ [p]))))
theorem sm_app (i : Nat) {x : Str} {p1 p2 cpos : Pos} (he : PEm X c .cl e te) (hN : X.N[i]? = some x := by rfl) (hc : cO c i = .ow := by rfl) (hv : Vis X.env.scope x := by first | exact Or.inl rfl | exact Or.inr (Or.inl rfl) | exact Or.inr (Or.inr rfl)) (hd : (x == ("__debug__" : Str)) = false := by decide)
    (hcd : (x == ("__classdict__" : Str)) = false := by decide)
    (hbase : attributeBase (.Name x p1) "append" X.env (eval (.Name x p1) X.env) = eval (.Name x p1) X.env := by rfl)
    (hfew : ((backTo cpos (starEach [e] X.env)).all (fun x => !x.1) && (backToKw cpos (keywordEach [] X.env)).all (fun x => x.1.isSome)
      && decide (([e] : List Expr).length + ([] : List Keyword).length + (if ([] : List Keyword).isEmpty then 0 else 1) < 30)) = true := by rfl)
    (hline : (p2.endLine == cpos.line) = true := by rfl) (hs : starEach [e] X.env = (false, eval e X.env) :: starEach [] X.env := by rfl) (hplain : (backTo cpos (starEach [] X.env)).any (·.1) = false := by rfl)
    (hsw : swapsWith (.Call (.Attribute (.Name x p1) "append" p2) [e] [] cpos) none pos.line X.env = pure false := by rfl) :
    PSm X f c c (.Expr (.Call (.Attribute (.Name x p1) "append" p2) [e] [] cpos) pos) (sApp i te) := ⟨(ps_expr (pe_bm PySem.F.plainAttrs_list PySem.F.slot_list_append PySem.F.type_list_append mt_append (pe_var hN hv hd hcd) (pa_cons he.run pa_nil hs) hbase hfew hline hs hplain) hsw).weak fun D σ H h => by
  obtain ⟨G, A, W, env, M, hg, R, ⟨ps, e0, h⟩, k⟩ := h
  obtain ⟨a, hA, hσ, vs, hH, r⟩ := R.mine hc e0
  refine ⟨.ref a, hσ, .inl ⟨rfl, vs, .inl (.inl hH)⟩, G, A, W, env, _, R, h, fun p v H1 g rv ⟨hl, h1⟩ => ?_⟩
  have R1 := R.grow g
  obtain ⟨a', hA', _, ws, hH1, r1⟩ := R1.mine hc e0
  rw [hA] at hA'; cases hA'
  refine ⟨a, ws, v, rfl, rfl, hH1, by rw [← r1.len]; exact hl, ?_⟩
  exact k.nx A W _ σ _ (R1.mut e0 hA hc (OwnAt.mutL (.inr (.inr ⟨i, hA⟩)) (r1.append (Rps.cons rv.c Rps.nil)))) h1⟩
/-- x.extend(e), e a list -/
def sExt (i : Nat) (te : TEm) : TSm := fun M env => ∃ ps, env[i]? = some (some (.lst ps)) ∧ te env fun p => ∃ qs, p = .lst qs ∧ ps.length + qs.length ≤ sizeLine ∧ M.nx (env.set i (some (.lst (ps ++ qs))))
theorem sm_ext (i : Nat) {x : Str} {p1 p2 cpos : Pos} (he : PEm X c .cl e te) (hN : X.N[i]? = some x := by rfl) (hc : cO c i = .ow := by rfl) (hv : Vis X.env.scope x := by first | exact Or.inl rfl | exact Or.inr (Or.inl rfl) | exact Or.inr (Or.inr rfl)) (hd : (x == ("__debug__" : Str)) = false := by decide)
    (hcd : (x == ("__classdict__" : Str)) = false := by decide)
    (hbase : attributeBase (.Name x p1) "extend" X.env (eval (.Name x p1) X.env) = eval (.Name x p1) X.env := by rfl)
    (hfew : ((backTo cpos (starEach [e] X.env)).all (fun x => !x.1) && (backToKw cpos (keywordEach [] X.env)).all (fun x => x.1.isSome)
      && decide (([e] : List Expr).length + ([] : List Keyword).length + (if ([] : List Keyword).isEmpty then 0 else 1) < 30)) = true := by rfl)
    (hline : (p2.endLine == cpos.line) = true := by rfl) (hs : starEach [e] X.env = (false, eval e X.env) :: starEach [] X.env := by rfl) (hplain : (backTo cpos (starEach [] X.env)).any (·.1) = false := by rfl)
    (hsw : swapsWith (.Call (.Attribute (.Name x p1) "extend" p2) [e] [] cpos) none pos.line X.env = pure false := by rfl) :
    PSm X f c c (.Expr (.Call (.Attribute (.Name x p1) "extend" p2) [e] [] cpos) pos) (sExt i te) := ⟨(ps_expr (pe_bm PySem.F.plainAttrs_list PySem.F.slot_list_extend PySem.F.type_list_extend mt_extend (pe_var hN hv hd hcd) (pa_cons he.run pa_nil hs) hbase hfew hline hs hplain) hsw).weak fun D σ H h => by
  obtain ⟨G, A, W, env, M, hg, R, ⟨ps, e0, h⟩, k⟩ := h
  obtain ⟨a, hA, hσ, vs, hH, r⟩ := R.mine hc e0
  refine ⟨.ref a, hσ, .inl ⟨rfl, vs, .inl (.inl hH)⟩, G, A, W, env, _, R, h, fun p v H1 g rv ⟨qs, eq, hl, h1⟩ => ?_⟩
  subst eq
  have R1 := R.grow g
  obtain ⟨a', hA', _, ws, hH1, r1⟩ := R1.mine hc e0
  rw [hA] at hA'; cases hA'
  obtain ⟨b, us, rfl, e2, r2⟩ := (Rp.ow R1.sz rv.c).lst
  refine ⟨a, b, ws, us, rfl, rfl, hH1, e2.2, by rw [← r1.len, ← r2.len]; exact hl, ?_⟩
  exact k.nx A W _ σ _ (R1.mut e0 hA hc (OwnAt.mutL (.inr (.inr ⟨i, hA⟩)) (r1.append r2))) h1⟩
/-- y = x.pop(), y = x.pop(e) -/
def sPop (j i : Nat) : TSm := fun M env => ∃ ps p, env[i]? = some (some (.lst ps)) ∧ ps[ps.length - 1]? = some p ∧ M.nx ((env.set i (some (.lst ps.dropLast))).set j (some p))
theorem Rps.dropLast {K : PySem.W.Frag} {S : Wd} {ps : List PV} {vs : List V} (h : Rps K S ps vs) : Rps K S ps.dropLast vs.dropLast := by
  rw [List.dropLast_eq_take, List.dropLast_eq_take, h.len]
  exact h.take _
theorem sm_pop (j i : Nat) {x y : Str} {py p1 p2 cpos : Pos} (hNd : X.N.Nodup) (hi : X.N[j]? = some y := by rfl) (hy : Loc X.env.scope y := by first | exact Or.inl rfl | exact Or.inr rfl) (hl : cO c j ≠ .lk := by decide) (hN : X.N[i]? = some x := by rfl) (hc : cO c i = .ow := by rfl) (hv : Vis X.env.scope x := by first | exact Or.inl rfl | exact Or.inr (Or.inl rfl) | exact Or.inr (Or.inr rfl)) (hd : (x == ("__debug__" : Str)) = false := by decide)
    (hcd : (x == ("__classdict__" : Str)) = false := by decide) (hbase : attributeBase (.Name x p1) "pop" X.env (eval (.Name x p1) X.env) = eval (.Name x p1) X.env := by rfl) (hline : (p2.endLine == cpos.line) = true := by rfl)
    (hsw : swapsWith (.Call (.Attribute (.Name x p1) "pop" p2) [] [] cpos) (some (.Name y py)) pos.line X.env = pure false := by rfl) (hf : X.fn y = true ∨ X.env.scope.names.lookup y = some .local := by first | exact .inl rfl | exact .inr rfl | assumption) :
    PSm X f c (c.set j .sh) (.Assign [.Name y py] (.Call (.Attribute (.Name x p1) "pop" p2) [] [] cpos) pos) (sPop j i) := ⟨(ps_set hNd hi hy (pe_bm0 PySem.F.plainAttrs_list PySem.F.slot_list_pop PySem.F.type_list_pop mt_pop (pe_var hN hv hd hcd) hbase hline) hsw hf).weak fun D σ H h => by
  obtain ⟨G, A, W, env, M, hg, R, ⟨ps, p, e0, ep, h⟩, k⟩ := h
  obtain ⟨a, hA, hσ, vs, hH, r⟩ := R.mine hc e0
  obtain ⟨v, ev, rv⟩ := r.get ep
  refine ⟨.ref a, hσ, .inl ⟨rfl, vs, .inl (.inl hH)⟩, a, vs, v, rfl, rfl, hH, by rw [← r.len]; exact ev, ?_⟩
  have za : Zt G A W a := .inr (.inr ⟨i, hA⟩)
  have R1 := R.mut e0 hA hc (OwnAt.mutL za r.dropLast)
  have x : Ext ⟨Zt G A W, W, H⟩ ⟨Zt G A W, W, upd H a (.lst vs.dropLast)⟩ := ⟨fun b w hz e => ⟨hz, by show upd H a _ b = some w; rw [upd_ne (fun z => hz (by rw [z]; exact za))]; exact e⟩, fun _ h => h⟩
  exact k.nx _ W _ _ _ (R1.set_sh hl (Rp.ext x rv)) h⟩
def sPopAt (j i : Nat) (te : TEm) : TSm := fun M env => ∃ ps, env[i]? = some (some (.lst ps)) ∧ te env fun q => ∃ (m : Int) (n : Nat) (p : PV), q = .int m ∧ (-(2 ^ 63) ≤ m ∧ m < 2 ^ 63) ∧ ixN ps.length m = some n ∧ ps[n]? = some p ∧ M.nx ((env.set i (some (.lst (ps.eraseIdx n)))).set j (some p))
theorem sm_popAt (j i : Nat) {x y : Str} {py p1 p2 cpos : Pos} (hNd : X.N.Nodup) (he : PEm X c .ow e te) (hi : X.N[j]? = some y := by rfl) (hy : Loc X.env.scope y := by first | exact Or.inl rfl | exact Or.inr rfl) (hl : cO c j ≠ .lk := by decide) (hN : X.N[i]? = some x := by rfl) (hc : cO c i = .ow := by rfl) (hv : Vis X.env.scope x := by first | exact Or.inl rfl | exact Or.inr (Or.inl rfl) | exact Or.inr (Or.inr rfl)) (hd : (x == ("__debug__" : Str)) = false := by decide)
    (hcd : (x == ("__classdict__" : Str)) = false := by decide) (hbase : attributeBase (.Name x p1) "pop" X.env (eval (.Name x p1) X.env) = eval (.Name x p1) X.env := by rfl)
    (hfew : ((backTo cpos (starEach [e] X.env)).all (fun x => !x.1) && (backToKw cpos (keywordEach [] X.env)).all (fun x => x.1.isSome)
      && decide (([e] : List Expr).length + ([] : List Keyword).length + (if ([] : List Keyword).isEmpty then 0 else 1) < 30)) = true := by rfl) (hline : (p2.endLine == cpos.line) = true := by rfl) (hs : starEach [e] X.env = (false, eval e X.env) :: starEach [] X.env := by rfl) (hplain : (backTo cpos (starEach [] X.env)).any (·.1) = false := by rfl)
    (hsw : swapsWith (.Call (.Attribute (.Name x p1) "pop" p2) [e] [] cpos) (some (.Name y py)) pos.line X.env = pure false := by rfl) (hf : X.fn y = true ∨ X.env.scope.names.lookup y = some .local := by first | exact .inl rfl | exact .inr rfl | assumption) :
    PSm X f c (c.set j .sh) (.Assign [.Name y py] (.Call (.Attribute (.Name x p1) "pop" p2) [e] [] cpos) pos) (sPopAt j i te) := ⟨(ps_set hNd hi hy (pe_bm PySem.F.plainAttrs_list PySem.F.slot_list_pop PySem.F.type_list_pop mt_popAt (pe_var hN hv hd hcd) (pa_cons he.run pa_nil hs) hbase hfew hline hs hplain) hsw hf).weak fun D σ H h => by
  obtain ⟨G, A, W, env, M, hg, R, ⟨ps, e0, h⟩, k⟩ := h
  obtain ⟨a, hA, hσ, vs, hH, r⟩ := R.mine hc e0
  refine ⟨.ref a, hσ, .inl ⟨rfl, vs, .inl (.inl hH)⟩, G, A, W, env, _, R, h, fun q w H1 g rq ⟨m, n, p, eq, ⟨hm1, hm2⟩, hix, hp, h1⟩ => ?_⟩
  subst eq
  have R1 := R.grow g
  obtain ⟨a', hA', _, ws, hH1, r1⟩ := R1.mine hc e0
  rw [hA] at hA'; cases hA'
  obtain ⟨v, ev, rv⟩ := r1.get hp
  rw [r1.len] at hix
  refine ⟨a, ws, m, n, v, rfl, by rw [rq.o.int], hH1, hm1, hm2, (ixN_seq hix).1, ev, ?_⟩
  have za : Zt G A W a := .inr (.inr ⟨i, hA⟩)
  have R2 := R1.mut e0 hA hc (OwnAt.mutL za (r1.eraseIdx n))
  have x : Ext ⟨Zt G A W, W, H1⟩ ⟨Zt G A W, W, upd H1 a (.lst (ws.eraseIdx n))⟩ := ⟨fun b w hz e => ⟨hz, by show upd H1 a _ b = some w; rw [upd_ne (fun z => hz (by rw [z]; exact za))]; exact e⟩, fun _ h => h⟩
  exact k.nx _ W _ _ _ (R2.set_sh hl (Rp.ext x rv)) h1⟩
/-- x[k] = e, x a list of one's own -/
def sPut (i : Nat) (ti te : TEm) : TSm := fun M env => te env fun p => ∃ ps, env[i]? = some (some (.lst ps)) ∧ ti env fun q => ∃ (m : Int) (n : Nat), q = .int m ∧ ixN ps.length m = some n ∧ M.nx (env.set i (some (.lst (ps.set n p))))
theorem sm_put (i : Nat) {x : Str} {p1 p2 : Pos} (he : PEm X c .cl e te) (hk : PEm X c .ow ei ti) (hN : X.N[i]? = some x := by rfl) (hc : cO c i = .ow := by rfl) (hv : Vis X.env.scope x := by first | exact Or.inl rfl | exact Or.inr (Or.inl rfl) | exact Or.inr (Or.inr rfl)) (hd : (x == ("__debug__" : Str)) = false := by decide)
    (hcd : (x == ("__classdict__" : Str)) = false := by decide)
    (ha : ∀ v, assign (.Subscript (.Name x p1) ei p2) X.env v = (do
      let ov ← holding [v] (eval (.Name x p1) X.env)
      let iv ← holding [v, ov] (eval ei X.env)
      standAt p2
      holding [v, ov, iv] (setItem ov iv v)
      release [v, ov, iv] []) := by intro _; rfl)
    (hs : swapsWithSole [.Subscript (.Name x p1) ei p2] e pos.line X.env = pure false := by rfl) (hw : swappedStores [.Subscript (.Name x p1) ei p2] e X.env = pure none := by rfl)
    (h1 : (assignEach [.Subscript (.Name x p1) ei p2] X.env).map (·.2) = [assign (.Subscript (.Name x p1) ei p2) X.env] := by rfl) :
    PSm X f c c (.Assign [.Subscript (.Name x p1) ei p2] e pos) (sPut i ti te) := ⟨(ps_asg he.run (pg_sub (pe_var hN hv hd hcd) hk.run set_list ha) hs hw h1).weak fun D σ H h => by
  obtain ⟨G, A, W, env, M, hg, R, h, k⟩ := h
  refine ⟨G, A, W, env, _, R, h, fun p v H1 g rv ⟨ps, e0, h1⟩ => ?_⟩
  have R1 := R.grow g
  obtain ⟨a, hA, hσ, vs, hH, r⟩ := R1.mine hc e0
  refine ⟨.ref a, hσ, G, A, W, env, _, R1, h1, fun q w H2 g2 rq ⟨m, n, eq, hix, h2⟩ => ?_⟩
  subst eq
  have R2 := R1.grow g2
  obtain ⟨a', hA', _, ws, hH2, r2⟩ := R2.mine hc e0
  rw [hA] at hA'; cases hA'
  rw [r2.len] at hix
  refine ⟨a, ws, m, n, rfl, rq.o.int, hH2, hix, ?_⟩
  exact k.nx A W _ σ _ (R2.mut e0 hA hc (OwnAt.mutL (.inr (.inr ⟨i, hA⟩)) (Rps.set (Rp.ext (g2.ext R.sz) rv.c) n r2))) h2⟩

/-! ### targets -/
abbrev TGm := PV → Env → (Env → Prop) → Prop
/-- only the slots vs are touched -/
def Touch (vs : List Nat) (σ σ' : St) : Prop := σ'.length = σ.length ∧ ∀ j, j ∉ vs → σ'[j]? = σ[j]?
def tgM (K : PySem.W.Frag) (c : List Ow) (vs : List Nat) (t : TGm) : TG := fun v σ H Q => ∃ G A W env p k, SR K G c A W env σ H ∧ Rp K ⟨Zt G A W, W, H⟩ p v ∧ t p env k ∧ ∀ env' σ', SR K G c A W env' σ' H → Touch vs σ σ' → k env' → Q σ' H
structure PGm (X : Cx) (c : List Ow) (vs : List Nat) (tg : Expr) (t : TGm) : Prop where
  run : PG X tg (tgM X.K c vs t)
def gmN (i : Nat) : TGm := fun p env k => k (env.set i (some p))
theorem c_same {c : List Ow} {i : Nat} (h : cO c i = .sh) : c.set i .sh = c := by
  apply List.ext_getElem?
  intro j
  rw [List.getElem?_set]
  by_cases e : i = j
  · subst e
    rw [if_pos rfl]
    by_cases h2 : i < c.length
    · rw [if_pos h2]
      unfold cO at h
      rw [List.getD_eq_getElem?_getD, List.getElem?_eq_getElem h2] at h
      rw [List.getElem?_eq_getElem h2]
      exact congrArg some h.symm
    · rw [if_neg h2, List.getElem?_eq_none (by omega)]
  · rw [if_neg e]
theorem SR.noA {K : PySem.W.Frag} {G : Gh} {A : Nat → Option Addr} {W : Ws} {env : Env} {σ : St} {H : Hp} {i : Nat} (R : SR K G c A W env σ H) (hc : cO c i = .sh) : A i = none := by
  cases hA : A i with
  | none => rfl
  | some a => exact absurd hc (R.Asep i a hA).2.2.2.1
theorem SR.set_cl {K : PySem.W.Frag} {G : Gh} {A : Nat → Option Addr} {W : Ws} {env : Env} {σ : St} {H : Hp} {i : Nat} {p : PV} {v : V} (R : SR K G c A W env σ H) (hc : cO c i = .sh) (r : Rp K ⟨Zt G A W, W, H⟩ p v) : SR K G c A W (env.set i (some p)) (σ.set i (some v)) H := by
  have h := R.set_sh (i := i) (by rw [hc]; decide) r
  rw [c_same hc] at h
  have e : dropA A i = A := by
    funext j
    by_cases z : j = i
    · rw [z, dropA_eq, R.noA hc]
    · exact dropA_ne z
  rw [e] at h
  exact h
theorem gm_name (i : Nat) {x : Str} {pos : Pos} (hN : X.N.Nodup) (hi : X.N[i]? = some x := by rfl) (hc : cO c i = .sh := by rfl) (hx : Loc X.env.scope x := by first | exact Or.inl rfl | exact Or.inr rfl) (hf : X.fn x = true ∨ X.env.scope.names.lookup x = some .local := by first | exact .inl rfl | exact .inr rfl | assumption) : PGm X c [i] (.Name x pos) (gmN i) :=
  ⟨⟨fun pins s σ H v u Q I r h => (pg_name hN hi hx hf).run pins s σ H v u Q I r (by
    obtain ⟨G, A, W, env, p, k, R, rp, h, q⟩ := h
    exact q _ _ (R.set_cl hc rp) ⟨List.length_set .., fun j hj => List.getElem?_set_ne (fun z => hj (by rw [← z]; exact List.mem_singleton.mpr rfl))⟩ h)⟩⟩
abbrev TGsm := List PV → Env → (Env → Prop) → Prop
def tgsM (K : PySem.W.Frag) (c : List Ow) (vs : List Nat) (t : TGsm) : TGs := fun ws σ H Q => ∃ G A W env ps k, SR K G c A W env σ H ∧ Rps K ⟨Zt G A W, W, H⟩ ps ws ∧ t ps env k ∧ ∀ env' σ', SR K G c A W env' σ' H → Touch vs σ σ' → k env' → Q σ' H
structure PGsm (X : Cx) (c : List Ow) (vs : List Nat) (tg : List Expr) (t : TGsm) : Prop where
  run : PGs X tg (tgsM X.K c vs t)
theorem Touch.refl {vs : List Nat} {σ : St} : Touch vs σ σ := ⟨rfl, fun _ _ => rfl⟩
theorem Touch.trans {vs ws : List Nat} {σ σ1 σ2 : St} (a : Touch vs σ σ1) (b : Touch ws σ1 σ2) : Touch (vs ++ ws) σ σ2 :=
  ⟨b.1.trans a.1, fun j hj => (b.2 j fun z => hj (List.mem_append_right _ z)).trans (a.2 j fun z => hj (List.mem_append_left _ z))⟩
def gmNil : TGsm := fun ps env k => ps = [] ∧ k env
def gmCons (g : TGm) (r : TGsm) : TGsm := fun ps env k => ∃ p qs, ps = p :: qs ∧ g p env fun env' => r qs env' k
theorem gsm_nil : PGsm X c [] [] gmNil := ⟨⟨fun pins s σ H vs us Q I r h => pgs_nil.run pins s σ H vs us Q I r (by
  obtain ⟨G, A, W, env, ps, k, R, rp, ⟨e, h⟩, q⟩ := h
  subst e
  exact ⟨by unfold Rps at rp; exact rp, q _ _ R Touch.refl h⟩)⟩⟩
theorem gsm_cons {tg : Expr} {tgs : List Expr} {g : TGm} {r : TGsm} {vs ws : List Nat} (h1 : PGm X c vs tg g) (h2 : PGsm X c ws tgs r) (hs : (assignEach (tg :: tgs) X.env).map (·.2) = assign tg X.env :: (assignEach tgs X.env).map (·.2) := by rfl) : PGsm X c (vs ++ ws) (tg :: tgs) (gmCons g r) :=
  ⟨⟨fun pins s σ H vs us Q I r' h => (pgs_cons h1.run h2.run hs).run pins s σ H vs us Q I r' (by
    obtain ⟨G, A, W, env, ps, k, R, rp, ⟨p, qs, e, h⟩, q⟩ := h
    subst e
    unfold Rps at rp
    obtain ⟨v, ws, e2, r1, r2⟩ := rp
    exact ⟨v, ws, e2, G, A, W, env, p, _, R, r1, h, fun env' σ' R' t1 h' => ⟨G, A, W, env', qs, k, R', r2, h', fun env2 σ2 R2 t2 h2 => q env2 σ2 R2 (t1.trans t2) h2⟩⟩)⟩⟩
def gmT (n : Nat) (r : TGsm) : TGm := fun p env k => ∃ ps, p = .tup ps ∧ ps.length = n ∧ r ps env k
theorem gm_tup {es : List Expr} {kk : Nat} {r : TGsm} {n : Nat} {pos : Pos} {vs : List Nat} (hc : X.calm = true) (h : PGsm X c vs es r) (hn : (assignEach es X.env).length = n := by rfl) (hst : (assignEach es X.env).findIdx? (·.1) = none := by rfl) : PGm X c vs (.Tuple es kk pos) (gmT n r) :=
  ⟨⟨fun pins s σ H v u Q I r' h' => (pg_tup hc h.run hn hst).run pins s σ H v u Q I r' (by
    obtain ⟨G, A, W, env, p, k, R, rp, ⟨ps, e, hl, h⟩, q⟩ := h'
    subst e
    unfold Rp at rp
    obtain ⟨a, vs, rfl, h1, h2⟩ := rp
    exact ⟨a, vs, rfl, h1.sq, by rw [← h2.len]; exact hl, G, A, W, env, ps, k, R, h2, h, q⟩)⟩⟩
/-- (a, b) = e -/
def sAsg (te : TEm) (g : TGm) : TSm := fun M env => te env fun p => g p env M.nx
theorem sm_asg {tg : Expr} {g : TGm} {vs : List Nat} (he : PEm X c .cl e te) (hg : PGm X c vs tg g) (hs : swapsWithSole [tg] e pos.line X.env = pure false := by rfl) (hw : swappedStores [tg] e X.env = pure none := by rfl)
    (h1 : (assignEach [tg] X.env).map (·.2) = [assign tg X.env] := by rfl) : PSm X f c c (.Assign [tg] e pos) (sAsg te g) := ⟨(ps_asg he.run hg.run hs hw h1).weak fun D σ H h => by
  obtain ⟨G, A, W, env, M, hg, R, h, k⟩ := h
  exact ⟨G, A, W, env, _, R, h, fun p v H1 g rv h1 => ⟨G, A, W, env, p, M.nx, R.grow g, rv.c, h1, fun env' σ' R' _ h' => k.nx A W env' σ' H1 R' h'⟩⟩⟩
end
end PM

set_option maxHeartbeats 1000000
/-! PM: what is walked, for, while, comprehensions. -/
namespace PM
open PySem L2
/-- all that was tracked is as it was -/
def GrowA (H H' : Hp) : Prop := ∀ b o, H b = some o → H' b = some o
theorem GrowA.grow {W : Ws} {H H' : Hp} (g : GrowA H H') (h : ∀ p ∈ W, SA H p) : Grow W H H' := ⟨fun b o _ e => g b o e, fun p hp => by
  obtain ⟨⟨_, e1⟩, _, e2⟩ := (h p hp).some
  exact SA.at (by rw [g _ _ e1, e1]) (by rw [g _ _ e2, e2]) (h p hp)⟩
theorem GrowA.refl {H : Hp} : GrowA H H := fun _ _ e => e
theorem GrowA.new {H : Hp} {a : Addr} {o : HO} (n : H a = none) : GrowA H (upd H a o) := fun b u e => by rw [upd_ne (ne_of_none e n)]; exact e
/-- the items of a walk: pl are places that must stand as they are -/
def ItOk (K : PySem.W.Frag) (Z : Addr → Prop) (W : Ws) (H : Hp) (pl : List (Addr × HO)) (J : It) (items : List PV) : Prop :=
  ∃ (Gd : Hp → Prop) (Y : Nat → Hp → V → Hp → Prop), Walk J items.length Gd Y ∧ ∀ Z2 W2 H2, Ext ⟨Z, W, H⟩ ⟨Z2, W2, H2⟩ → (∀ b, Z2 b → ∃ o, H2 b = some o) → (∀ q ∈ pl, H2 q.1 = some q.2) →
    Gd H2 ∧ ∀ i x H3 p, items[i]? = some p → Y i H2 x H3 → GrowA H2 H3 ∧ Rp K ⟨Z2, W2, H3⟩ p x
abbrev TIm := Env → (List PV → Prop) → Prop
/-- lk: the slot whose own list is walked -/
structure PIm (X : Cx) (c : List Ow) (lk : Option Nat) (tg iter : Expr) (t : TIm) : Prop where
  run : PI X tg iter (fun σ H R => ∃ G A W env P, SR X.K G c A W env σ H ∧ t env P ∧ ∀ J items H' pl, Grow W H H' → (match lk with | none => pl = [] | some j => ∃ a o, pl = [(a, o)] ∧ A j = some a ∧ H' a = some o) → ItOk X.K (Zt G A W) W H' pl J items → P items → R J H')
section
variable {X : Cx} {c : List Ow} {tg e : Expr} {te : TEm} {pos : Pos}
def iSeq (K : PySem.W.Frag) (tl : TE) : TI := fun σ H R => tl σ H fun x H1 => ∃ a, x = .ref a ∧ (((∃ xs, SqL K H1 a xs) ∧ R (Itl K a) H1) ∨ ((∃ xs, SqT K H1 a xs) ∧ R (Itt K a) H1))
theorem pi_seq {l : Expr} {tl : TE} (hl : PE X l tl) : PI X tg l (iSeq X.K tl) := by
  refine ⟨fun pins s σ H R I h => ?_⟩
  refine thn (hl.run pins s σ H _ I h) fun v s1 ⟨x, H1, I1, r1, q1⟩ => ?_
  obtain ⟨a, e, q1⟩ := q1
  subst e
  cases r1
  rcases q1 with ⟨⟨xs, hq⟩, q⟩ | ⟨⟨xs, hq⟩, q⟩
  · obtain ⟨its, rv, p, hz⟩ := I1.list hq
    refine wpAny_pyIter_list p.isList ?_
    refine ⟨s1.heap.objs.size, [s1.heap.objs.size], _, _, H1, rfl, I1.kept (t' := s1.toks) fun b o e => Heap.get?_push_of_some _ e, turn_list a _, ⟨_, Heap.get?_push_size _ rfl, rfl, rfl⟩, fun b hb => ?_, q⟩
    have e : b = s1.heap.objs.size := by simpa using hb
    subst e
    exact I1.fpOk (Nat.le_refl _) (I1.hok.fresh (Nat.le_refl _))
  · obtain ⟨its, rv, p, hz⟩ := I1.tuple hq
    refine wpAny_pyIter_tuple (show s1.heap.IsTuple a its.toArray from p) ?_
    refine ⟨s1.heap.objs.size, [s1.heap.objs.size], _, _, H1, rfl, I1.kept (t' := s1.toks) fun b o e => Heap.get?_push_of_some _ e, turn_tuple a _, ⟨_, Heap.get?_push_size _ rfl, rfl, rfl⟩, fun b hb => ?_, q⟩
    have e : b = s1.heap.objs.size := by simpa using hb
    subst e
    exact I1.fpOk (Nat.le_refl _) (I1.hok.fresh (Nat.le_refl _))
/-- a list or tuple -/
def mItems (te : TEm) : TIm := fun env P => te env fun p => ∃ ps, seqP p = some ps ∧ P ps
theorem itok_list {K : PySem.W.Frag} {Z : Addr → Prop} {W : Ws} {H : Hp} {a : Addr} {vs : List V} {ps : List PV} (h : ¬ Z a) (e : H a = some (.lst vs)) (r : Rps K ⟨Z, W, H⟩ ps vs) : ItOk K Z W H [] (Itl K a) ps := by
  refine ⟨_, _, by rw [r.len]; exact walk_list, fun Z2 W2 H2 x hz _ => ?_⟩
  have e2 := (x.keep a _ h e).2
  refine ⟨.inl (.inl e2), fun i v H3 p hp y => ?_⟩
  obtain ⟨rfl, hv⟩ := y
  obtain ⟨w, hw, rw'⟩ := r.get hp
  rw [hv] at hw; cases hw
  exact ⟨GrowA.refl, Rp.ext x rw'⟩
theorem itok_own {K : PySem.W.Frag} {Z : Addr → Prop} {W : Ws} {H : Hp} {a : Addr} {vs : List V} {ps : List PV} (e : H a = some (.lst vs)) (r : Rps K ⟨Z, W, H⟩ ps vs) : ItOk K Z W H [(a, .lst vs)] (Itl K a) ps := by
  refine ⟨_, _, by rw [r.len]; exact walk_list, fun Z2 W2 H2 x hz hpl => ?_⟩
  have e2 : H2 a = some (.lst vs) := hpl (a, .lst vs) (by simp)
  refine ⟨.inl (.inl e2), fun i v H3 p hp y => ?_⟩
  obtain ⟨rfl, hv⟩ := y
  obtain ⟨w, hw, rw'⟩ := r.get hp
  rw [hv] at hw; cases hw
  exact ⟨GrowA.refl, Rp.ext x rw'⟩
theorem itok_tup {K : PySem.W.Frag} {Z : Addr → Prop} {W : Ws} {H : Hp} {a : Addr} {vs : List V} {ps : List PV} (e : TupAt K ⟨Z, W, H⟩ a vs) (r : Rps K ⟨Z, W, H⟩ ps vs) : ItOk K Z W H [] (Itt K a) ps := by
  refine ⟨_, _, by rw [r.len]; exact walk_tup, fun Z2 W2 H2 x hz _ => ?_⟩
  refine ⟨(e.ext x).sq, fun i v H3 p hp y => ?_⟩
  obtain ⟨rfl, hv⟩ := y
  obtain ⟨w, hw, rw'⟩ := r.get hp
  rw [hv] at hw; cases hw
  exact ⟨GrowA.refl, Rp.ext x rw'⟩
theorem im_seq (he : PEm X c .cl e te) : PIm X c none tg e (mItems te) := ⟨⟨fun pins s σ H R I h => (pi_seq he.run).run pins s σ H R I (by
  obtain ⟨G, A, W, env, P, R, h, k⟩ := h
  refine ⟨G, A, W, env, _, R, h, fun p v H1 g rv ⟨ps, hp, h1⟩ => ?_⟩
  cases p with
  | lst qs =>
    obtain rfl : qs = ps := Option.some.inj hp
    have rv' := rv.c
    unfold Rp at rv'
    obtain ⟨a, vs, rfl, e, r⟩ := rv'
    exact ⟨a, rfl, .inl ⟨⟨vs, e.sq⟩, k _ qs H1 [] g rfl (itok_list e.1 e.2 r) h1⟩⟩
  | tup qs =>
    obtain rfl : qs = ps := Option.some.inj hp
    have rv' := rv.c
    unfold Rp at rv'
    obtain ⟨a, vs, rfl, e, r⟩ := rv'
    exact ⟨a, rfl, .inr ⟨⟨vs, e.sq⟩, k _ qs H1 [] g rfl (itok_tup e r) h1⟩⟩
  | _ => cases hp)⟩⟩
/-- one's own list -/
theorem im_own (j : Nat) {x : Str} (hN : X.N[j]? = some x := by rfl) (hc : cO c j ≠ .sh := by decide) (hv : Vis X.env.scope x := by first | exact Or.inl rfl | exact Or.inr (Or.inl rfl) | exact Or.inr (Or.inr rfl)) (hd : (x == ("__debug__" : Str)) = false := by decide)
    (hcd : (x == ("__classdict__" : Str)) = false := by decide) : PIm X c (some j) tg (.Name x pos) (fun env P => ∃ ps, env[j]? = some (some (.lst ps)) ∧ P ps) := ⟨⟨fun pins s σ H R I h => (pi_seq (pe_var hN hv hd hcd)).run pins s σ H R I (by
  obtain ⟨G, A, W, env, P, R, ⟨ps, e, h⟩, k⟩ := h
  obtain ⟨v, h1, h2⟩ := R.slots j _ e
  obtain ⟨a, hA⟩ := R.Aset j _ hc e
  rw [hA] at h2
  obtain ⟨rfl, vs, hH, r⟩ := h2
  exact ⟨_, h1, a, rfl, .inl ⟨⟨vs, .inl (.inl hH)⟩, k _ ps H [(a, .lst vs)] (Grow.refl R.src) ⟨a, _, rfl, hA, hH⟩ (itok_own hH r) h⟩⟩)⟩⟩
/-- ranges -/
def rngP (lo : Int) (n : Nat) : List PV := (List.range n).map fun i => PV.int (lo + (i : Nat))
theorem itok_range {K : PySem.W.Frag} {Z : Addr → Prop} {W : Ws} {H : Hp} {lo : Int} {n : Nat} : ItOk K Z W H [] (Itr lo n) (rngP lo n) := by
  refine ⟨_, _, by unfold rngP; rw [List.length_map, List.length_range]; exact walk_range, fun Z2 W2 H2 x hz _ => ⟨trivial, fun i v H3 p hp y => ?_⟩⟩
  obtain ⟨rfl, rfl⟩ := y
  unfold rngP at hp
  obtain ⟨hi, e⟩ := List.getElem?_eq_some_iff.mp hp
  rw [List.length_map, List.length_range] at hi
  rw [List.getElem_map, List.getElem_range] at e
  subst e
  exact ⟨GrowA.refl, Rp.int'⟩
def mRng1 (t : TEm) : TIm := fun env P => t env fun x => ∃ n, x = .int n ∧ (-(2 ^ 62) ≤ n ∧ n < 2 ^ 62) ∧ P (rngP 0 n.toNat)
def mRng2 (t u : TEm) : TIm := fun env P => t env fun x => u env fun y => ∃ a b, x = .int a ∧ y = .int b ∧ (-(2 ^ 62) ≤ a ∧ a < 2 ^ 62 ∧ -(2 ^ 62) ≤ b ∧ b < 2 ^ 62) ∧ P (rngP a (b - a).toNat)
variable {a b : Expr} {ta tb : TEm}
theorem im_rng1 {p : Pos} (hm : X.mg "range" = none) (ha : PEm X c .ow a ta) (hg : Gl X "range" := by rfl) (hs0 : starEach [a] X.env = (false, eval a X.env) :: starEach [] X.env := by rfl) (hs : starEach [a] X.env = [(false, eval a X.env)] := by rfl) : PIm X c none tg (.Call (.Name "range" p) [a] [] pos) (mRng1 ta) := ⟨⟨fun pins s σ H R I h => (pi_range1 hg hm (pa_cons ha.run pa_nil hs0) hs).run pins s σ H R I (by
  obtain ⟨G, A, W, env, P, R, h, k⟩ := h
  refine ⟨G, A, W, env, _, R, h, fun q v H1 g rv ⟨n, e, ⟨h1, h2⟩, h3⟩ => ?_⟩
  subst e
  exact ⟨n, by rw [rv.o.int], h1, h2, k _ _ H1 [] g rfl itok_range h3⟩)⟩⟩
theorem im_rng2 {p : Pos} (hm : X.mg "range" = none) (ha : PEm X c .ow a ta) (hb : PEm X c .ow b tb) (hg : Gl X "range" := by rfl) (hs0 : starEach [a, b] X.env = (false, eval a X.env) :: starEach [b] X.env := by rfl) (hs1 : starEach [b] X.env = (false, eval b X.env) :: starEach [] X.env := by rfl)
    (hs : starEach [a, b] X.env = [(false, eval a X.env), (false, eval b X.env)] := by rfl) (hs2 : starEach [b] X.env = [(false, eval b X.env)] := by rfl) : PIm X c none tg (.Call (.Name "range" p) [a, b] [] pos) (mRng2 ta tb) := ⟨⟨fun pins s σ H R I h => (pi_range2 hg hm (pa_cons ha.run (pa_cons hb.run pa_nil hs1) hs0) hs hs2).run pins s σ H R I (by
  obtain ⟨G, A, W, env, P, R, h, k⟩ := h
  refine ⟨G, A, W, env, _, R, h, fun q v H1 g rv h1 => ⟨G, A, W, env, _, R.grow g, h1, fun q2 v2 H2 g2 rv2 ⟨n, m, e, e2, ⟨b1, b2, b3, b4⟩, h5⟩ => ?_⟩⟩
  subst e e2
  exact ⟨n, m, by rw [rv.o.int, rv2.o.int], ⟨b1, b2, b3, b4⟩, k _ _ H2 [] (g.trans g2) rfl itok_range h5⟩)⟩⟩
end

/-! ### for -/
def mForGo (g : TGm) (tb : TSm) (M : Em) : List PV → Env → Prop
  | [], env => M.nx env
  | x :: xs, env => g x env fun env1 => tb { M with nx := mForGo g tb M xs, ct := mForGo g tb M xs, bk := M.nx } env1
def sFor (wi : TIm) (g : TGm) (tb : TSm) : TSm := fun M env => wi env fun items => mForGo g tb M items env
section
variable {K : PySem.W.Frag} {G : Gh} {c : List Ow} {A : Nat → Option Addr} {W : Ws} {env : Env} {σ : St} {H : Hp}
/-- into a loop: what is clean now stays so -/
noncomputable def inLoop (G : Gh) (Z : Addr → Prop) (W : Ws) (H : Hp) (more : List (Nat × Addr × HO)) : Gh :=
  { G with fz := fun b => open Classical in if Z b then none else H b, Wm := W, pins := more ++ G.pins }
def lkC (c : List Ow) : Option Nat → List Ow
  | none => c
  | some j => c.set j .lk
theorem cO_lk {c : List Ow} {j i : Nat} (hj : cO c j ≠ .sh) : cO (c.set j .lk) i = if i = j then .lk else cO c i := by
  rw [cO_set]
  by_cases h : i = j
  · have hl : j < c.length := by
      cases Nat.lt_or_ge j c.length with
      | inl z => exact z
      | inr z =>
        exact absurd (by unfold cO; rw [List.getD_eq_getElem?_getD, List.getElem?_eq_none z]; rfl) hj
    rw [if_pos ⟨h, hl⟩, if_pos h]
  · rw [if_neg (fun z => h z.1), if_neg h]
theorem SR.loop (R : SR K G c A W env σ H) : SR K (inLoop G (Zt G A W) W H []) c A W env σ H := by
  refine ⟨R.len, R.W0in, fun _ h => h, R.Wnew, R.Wfix, R.src, R.keep, R.zbt, R.Asep, R.Ainj, R.Aset, R.slots, R.pins, fun b o e => ?_⟩
  have e' : (open Classical in if Zt G A W b then none else H b) = some o := e
  by_cases z : Zt G A W b
  · rw [if_pos z] at e'; cases e'
  · rw [if_neg z] at e'; exact ⟨e', z⟩
theorem SR.lock {j : Nat} {a : Addr} {o : HO} (R : SR K G c A W env σ H) (hc : cO c j = .ow) (hA : A j = some a) (e : H a = some o) : SR K (inLoop G (Zt G A W) W H [(j, a, o)]) (c.set j .lk) A W env σ H := by
  have hj : cO c j ≠ .sh := by rw [hc]; decide
  have R' := R.loop
  refine ⟨R.len, R.W0in, fun _ h => h, R.Wnew, R.Wfix, R.src, R.keep, R.zbt, fun i b e => ?_, R.Ainj, fun i p hi e => ?_, R.slots, fun q hq => ?_, R'.fz⟩
  · obtain ⟨h1, h2, h3, h4, h5⟩ := R.Asep i b e
    refine ⟨h1, h2, h3, ?_, h5⟩
    rw [cO_lk hj]
    by_cases z : i = j
    · rw [if_pos z]; decide
    · rw [if_neg z]; exact h4
  · rw [cO_lk hj] at hi
    by_cases z : i = j
    · exact ⟨a, z ▸ hA⟩
    · rw [if_neg z] at hi; exact R.Aset i p hi e
  · rcases List.mem_append.mp hq with hq | hq
    · have : q = (j, a, o) := by simpa using hq
      subst this
      exact ⟨e, (R.Asep j a hA).2.1, hA, by rw [cO_lk hj, if_pos rfl]⟩
    · obtain ⟨h1, h2, h3, h4⟩ := R.pins q hq
      refine ⟨h1, h2, h3, ?_⟩
      rw [cO_lk hj]
      by_cases z : q.1 = j
      · rw [if_pos z]
      · rw [if_neg z]; exact h4
theorem SR.unloop {Z0 : Addr → Prop} {W0 : Ws} {H0 : Hp} {more : List (Nat × Addr × HO)} (R : SR K (inLoop G Z0 W0 H0 more) c A W env σ H) (hf : ∀ b o, G.fz b = some o → H0 b = some o ∧ ¬ Z0 b) (hw : ∀ p ∈ G.Wm, p ∈ W0) : SR K G c A W env σ H := by
  refine ⟨R.len, R.W0in, fun p h => R.Wmin p (hw p h), R.Wnew, R.Wfix, R.src, R.keep, R.zbt, R.Asep, R.Ainj, R.Aset, R.slots, fun q hq => R.pins q (List.mem_append_right _ hq), fun b o e => R.fz b o ?_⟩
  obtain ⟨h1, h2⟩ := hf b o e
  show (open Classical in if Z0 b then none else H0 b) = some o
  rw [if_neg h2]; exact h1
theorem SR.unlock {j : Nat} (R : SR K G (c.set j .lk) A W env σ H) (hc : cO c j = .ow) (hp : ∀ q ∈ G.pins, cO c q.1 = .lk) : SR K G c A W env σ H := by
  have hj : cO c j ≠ .sh := by rw [hc]; decide
  have eq : ∀ i, cO (c.set j .lk) i ≠ .sh ↔ cO c i ≠ .sh := fun i => by
    rw [cO_lk hj]
    by_cases z : i = j
    · rw [if_pos z, z]; exact ⟨fun _ => hj, fun _ => by decide⟩
    · rw [if_neg z]
  refine ⟨R.len, R.W0in, R.Wmin, R.Wnew, R.Wfix, R.src, R.keep, R.zbt, fun i b e => ?_, R.Ainj, fun i p hi e => R.Aset i p ((eq i).mpr hi) e, R.slots, fun q hq => ?_, R.fz⟩
  · obtain ⟨h1, h2, h3, h4, h5⟩ := R.Asep i b e
    exact ⟨h1, h2, h3, (eq i).mp h4, h5⟩
  · obtain ⟨h1, h2, h3, _⟩ := R.pins q hq
    exact ⟨h1, h2, h3, hp q hq⟩
/-- the state in a loop sees all that was clean -/
theorem SR.ext {Z0 : Addr → Prop} {W0 : Ws} {H0 : Hp} {more : List (Nat × Addr × HO)} (R : SR K (inLoop G Z0 W0 H0 more) c A W env σ H) : Ext ⟨Z0, W0, H0⟩ ⟨Zt (inLoop G Z0 W0 H0 more) A W, W, H⟩ :=
  ⟨fun b o n e => by
    obtain ⟨h1, h2⟩ := R.fz b o (by
      show (open Classical in if Z0 b then none else H0 b) = some o
      rw [if_neg n]; exact e)
    exact ⟨h2, h1⟩, fun p hp => R.Wmin p hp⟩
end
section
variable {X : Cx} {f : Fx} {c : List Ow} {tg iter : Expr} {body : List Stmt} {wi : TIm} {g : TGm} {tb : TSm} {pos : Pos}
theorem sm_for {lk : Option Nat} {vs : List Nat} (hp : PassesOwn (model X.prog X.w) X.A X.env X.xe) (hc : X.calm = true) (hi : PIm X c lk tg iter wi) (hg : PGm X (lkC c lk) vs tg g) (hb : PSsm X { f with cL := lkC c lk } (lkC c lk) (lkC c lk) body tb) (hlk : ∀ j, lk = some j → cO c j = .ow)
    (hs : ∀ x, foldedSetIterable iter X.env x = pure x := by intro _; rfl) : PSm X f c c (.For tg iter body [] pos) (sFor wi g tb) := ⟨(ps_for hp hc hi.run hg.run hb.run hs).weak fun D σ H h => by
  obtain ⟨G, A, W, env, M, hgw, R, h, k⟩ := h
  refine ⟨G, A, W, env, _, R, h, fun J items H1 pl g1 hpl ⟨Gd, Y, wk, hit⟩ h1 => ?_⟩
  have R1 := R.grow g1
  -- into the loop
  obtain ⟨more, hmore, R2, hnx⟩ : ∃ more, (∀ q ∈ pl, ∃ j, (j, q.1, q.2) ∈ more) ∧ SR X.K (inLoop G (Zt G A W) W H1 more) (lkC c lk) A W env σ H1 ∧
      ∀ A' W' env' σ' H', SR X.K (inLoop G (Zt G A W) W H1 more) (lkC c lk) A' W' env' σ' H' → SR X.K G c A' W' env' σ' H' := by
    cases lk with
    | none =>
      have hpl' : pl = [] := hpl
      subst hpl'
      exact ⟨[], (fun q hq => by cases hq), R1.loop, fun A' W' env' σ' H' R' => R'.unloop R1.fz R1.Wmin⟩
    | some j =>
      obtain ⟨a, o, rfl, hA, ho⟩ := hpl
      have hj := hlk j rfl
      refine ⟨[(j, a, o)], (fun q hq => ⟨j, by rw [List.mem_singleton] at hq; rw [hq]; exact List.mem_singleton.mpr rfl⟩), R1.lock hj hA ho, fun A' W' env' σ' H' R' => ?_⟩
      exact (R'.unloop R1.fz R1.Wmin).unlock hj fun q hq => (R1.pins q hq).2.2.2
  have K2 : Kont X.K f.rm (lkC c lk) (lkC c lk) (inLoop G (Zt G A W) W H1 more) M ⟨fun σ H => D.nx σ H, D.rt, fun _ _ => True, fun _ _ => True⟩ :=
    ⟨fun A' W' env' σ' H' R' h' => k.nx _ _ _ _ _ (hnx _ _ _ _ _ R') h', fun p v H' r h' => k.rt p v H' r h', fun _ _ _ _ _ _ _ => trivial, fun _ _ _ _ _ _ _ => trivial⟩
  refine for_it (D := D) (g := tgM X.K (lkC c lk) vs g) (tb := tmS X.K { f with cL := lkC c lk } (lkC c lk) (lkC c lk) tb) wk (fun i σ H => ∃ A' W' env', SR X.K (inLoop G (Zt G A W) W H1 more) (lkC c lk) A' W' env' σ H ∧ mForGo g tb M (items.drop i) env') ⟨A, W, env, R2, h1⟩ (fun i σ H _ hP => ?_) (fun i x σ H H' hi hP y => ?_) (fun σ H hP => ?_)
  · obtain ⟨A', W', env', R', _⟩ := hP
    exact (hit _ W' H R'.ext R'.dz fun q hq => by
      obtain ⟨j, hj⟩ := hmore q hq
      exact (R'.pins (j, q.1, q.2) (List.mem_append_left _ hj)).1).1
  · obtain ⟨A', W', env', R', h'⟩ := hP
    have hd : items.drop i = items[i] :: items.drop (i + 1) := List.drop_eq_getElem_cons hi
    rw [hd] at h'
    obtain ⟨ga, rp⟩ := (hit _ W' H R'.ext R'.dz fun q hq => by
      obtain ⟨j, hj⟩ := hmore q hq
      exact (R'.pins (j, q.1, q.2) (List.mem_append_left _ hj)).1).2 i x H' items[i] (List.getElem?_eq_getElem hi) y
    refine ⟨_, A', W', env', items[i], _, R'.grow (ga.grow R'.src), rp, h', fun env2 σ2 R2 _ h2 => ?_⟩
    refine ⟨inLoop G (Zt G A W) W H1 more, A', W', env2, _, hgw, R2, h2, ⟨fun A3 W3 env3 σ3 H3 R3 h3 => ⟨A3, W3, env3, R3, h3⟩, fun p v H3 r3 h3 => k.rt p v H3 r3 h3, fun A3 W3 env3 σ3 H3 R3 h3 => k.nx _ _ _ _ _ (hnx _ _ _ _ _ R3) h3, fun A3 W3 env3 σ3 H3 R3 h3 => ⟨A3, W3, env3, R3, h3⟩⟩⟩
  · obtain ⟨A', W', env', R', h'⟩ := hP
    rw [List.drop_length] at h'
    exact k.nx _ _ _ _ _ (hnx _ _ _ _ _ R') h'⟩
/-- while -/
def sWhile (tc : TTm) (tb : TSm) : TSm := fun M env => ∃ Wv : Nat → Env → Prop, (∃ m, Wv m env) ∧ ∀ m env, Wv m env →
  tc env fun b => if b = true then tb { M with nx := fun env' => ∃ m', m' < m ∧ Wv m' env', ct := fun env' => ∃ m', m' < m ∧ Wv m' env', bk := M.nx } env else M.nx env
theorem sm_while {cnd : Expr} {tc : TTm} (hp : PassesOwn (model X.prog X.w) X.A X.env X.xe) (hc : PTm X c cnd tc) (hb : PSsm X { f with cL := c } c c body tb) : PSm X f c c (.While cnd body [] pos) (sWhile tc tb) := ⟨(ps_while hp hc.run hb.run).weak fun D σ H h => by
  obtain ⟨G, A, W, env, M, hgw, R, ⟨Wv, ⟨m, w0⟩, turn⟩, k⟩ := h
  refine ⟨fun m σ H => ∃ A W env, SR X.K G c A W env σ H ∧ Wv m env, ⟨m, A, W, env, R, w0⟩, ?_⟩
  rintro m σ H ⟨A, W, env, R, w⟩
  refine ⟨G, A, W, env, _, R, turn m env w, fun b H1 g h1 => ?_⟩
  cases b with
  | true =>
    rw [if_pos rfl] at h1 ⊢
    refine ⟨fun σ' H' => ∃ m' A W env, m' < m ∧ SR X.K G c A W env σ' H' ∧ Wv m' env, fun σ' H' ⟨m', A, W, env, hm, R', w'⟩ => ⟨m', hm, A, W, env, R', w'⟩, ?_⟩
    exact ⟨G, A, W, env, _, hgw, R.grow g, h1, ⟨fun A W env σ H R' ⟨m', hm, w'⟩ => ⟨m', A, W, env, hm, R', w'⟩, k.rt, fun A W env σ H R' h' => k.nx A W env σ H R' h', fun A W env σ H R' ⟨m', hm, w'⟩ => ⟨m', A, W, env, hm, R', w'⟩⟩⟩
  | false =>
    rw [if_neg Bool.false_ne_true] at h1 ⊢
    exact k.nx A W env σ H1 (R.grow g) h1⟩
end
end PM

set_option maxHeartbeats 1000000
/-! PM: comprehensions. -/
namespace PM
open PySem L2
def wipeE (env : Env) : List Nat → Env
  | [] => env
  | v :: vs => (wipeE env vs).set v none
theorem wipeE_length (env : Env) : ∀ vs : List Nat, (wipeE env vs).length = env.length
  | [] => rfl
  | v :: vs => by unfold wipeE; rw [List.length_set, wipeE_length env vs]
theorem wipeE_some {env : Env} {i : Nat} {p : PV} : ∀ {vs : List Nat}, (wipeE env vs)[i]? = some (some p) → env[i]? = some (some p) ∧ i ∉ vs
  | [], h => ⟨h, by simp⟩
  | v :: vs, h => by
    unfold wipeE at h
    rw [List.getElem?_set] at h
    by_cases e : v = i
    · rw [if_pos e] at h
      split at h <;> cases h
    · rw [if_neg e] at h
      obtain ⟨h1, h2⟩ := wipeE_some h
      refine ⟨h1, fun z => ?_⟩
      rcases List.mem_cons.mp z with z | z
      · exact e z.symm
      · exact h2 z
theorem wipe_out {σ : St} {j : Nat} : ∀ {vs : List Nat}, j ∉ vs → (wipe σ vs)[j]? = σ[j]?
  | [], _ => rfl
  | v :: vs, h => by
    unfold wipe
    rw [List.getElem?_set_ne (fun z => h (by rw [z]; exact List.mem_cons_self)), wipe_out (fun z => h (List.mem_cons_of_mem _ z))]
theorem wipe_in {σ : St} {j : Nat} : ∀ {vs : List Nat}, j ∈ vs → j < σ.length → (wipe σ vs)[j]? = some none
  | [], h, _ => by cases h
  | v :: vs, h, hl => by
    unfold wipe
    by_cases e : v = j
    · subst e
      rw [List.getElem?_set_self (by rw [wipe_length]; exact hl)]
    · rw [List.getElem?_set_ne e]
      rcases List.mem_cons.mp h with z | z
      · exact absurd z.symm e
      · exact wipe_in z hl
theorem Touch.wipe {vs ws : List Nat} {σ σ' : St} (t : Touch ws σ σ') (h : ∀ j ∈ ws, j ∈ vs) : wipe σ' vs = wipe σ vs := by
  apply List.ext_getElem?
  intro j
  by_cases hj : j ∈ vs
  · by_cases hl : j < σ.length
    · rw [wipe_in hj hl, wipe_in hj (by rw [t.1]; exact hl)]
    · rw [List.getElem?_eq_none (by rw [wipe_length, t.1]; omega), List.getElem?_eq_none (by rw [wipe_length]; omega)]
  · rw [wipe_out hj, wipe_out hj]
    exact t.2 j fun z => hj (h j z)
theorem wipe_wipe {σ : St} {vs : List Nat} : wipe (wipe σ vs) vs = wipe σ vs := by
  apply List.ext_getElem?
  intro j
  by_cases hj : j ∈ vs
  · by_cases hl : j < σ.length
    · rw [wipe_in hj (by rw [wipe_length]; exact hl), wipe_in hj hl]
    · rw [List.getElem?_eq_none (by rw [wipe_length, wipe_length]; omega), List.getElem?_eq_none (by rw [wipe_length]; omega)]
  · rw [wipe_out hj]
section
variable {K : PySem.W.Frag} {G : Gh} {c : List Ow} {A : Nat → Option Addr} {W : Ws} {env : Env} {σ : St} {H : Hp}
theorem SR.wipe (vs : List Nat) (R : SR K G c A W env σ H) : SR K G c A W (wipeE env vs) (L2.wipe σ vs) H := by
  refine ⟨by rw [wipeE_length, wipe_length]; exact R.len, R.W0in, R.Wmin, R.Wnew, R.Wfix, R.src, R.keep, R.zbt, R.Asep, R.Ainj, fun i p hc e => R.Aset i p hc (wipeE_some e).1, fun i p e => ?_, R.pins, R.fz⟩
  obtain ⟨e1, n⟩ := wipeE_some e
  obtain ⟨v, h1, h2⟩ := R.slots i p e1
  exact ⟨v, by rw [wipe_out n]; exact h1, h2⟩
/-- one more place to be avoided -/
def Gh.and (G : Gh) (D : Addr) : Gh := { G with zb := fun b => G.zb b ∨ b = D }
theorem zt_and {D : Addr} {b : Addr} : Zt (G.and D) A W b ↔ (Zt G A W b ∨ b = D) := by
  constructor
  · rintro ((h | h) | h | h)
    · exact .inl (.inl h)
    · exact .inr h
    · exact .inl (.inr (.inl h))
    · exact .inl (.inr (.inr h))
  · rintro ((h | h | h) | h)
    · exact .inl (.inl h)
    · exact .inr (.inl h)
    · exact .inr (.inr h)
    · exact .inl (.inr h)
theorem SR.and {D : Addr} {o : HO} (R : SR K G c A W env σ H) (n : H D = none) : SR K (G.and D) c A W env σ (upd H D o) := by
  have g : Grow W H (upd H D o) := Grow.new R.src n
  have R' := R.grow g
  have nt : ∀ b u, H b = some u → b ≠ D := fun b u e z => by rw [z, n] at e; cases e
  have x : Ext ⟨Zt G A W, W, H⟩ ⟨Zt (G.and D) A W, W, upd H D o⟩ := ⟨fun b u hz e => ⟨fun z => (zt_and.mp z).elim hz (nt b u e), by show upd H D o b = some u; rw [upd_ne (nt b u e)]; exact e⟩, fun _ h => h⟩
  refine ⟨R'.len, R'.W0in, R'.Wmin, R'.Wnew, R'.Wfix, R'.src, R'.keep, fun b hb => ?_, fun i a e => ?_, R'.Ainj, R'.Aset, fun i p e => ?_, R'.pins, fun b u e => ?_⟩
  · rcases hb with hb | hb
    · exact R'.zbt b hb
    · rw [hb]; exact ⟨o, upd_same⟩
  · obtain ⟨h1, h2, h3, h4, h5⟩ := R'.Asep i a e
    obtain ⟨_, _, _, _, u, hu⟩ := R.Asep i a e
    exact ⟨h1, h2, fun z => z.elim h3 (nt a u hu), h4, h5⟩
  · obtain ⟨v, h1, h2⟩ := R.slots i p e
    refine ⟨v, h1, ?_⟩
    cases hA : A i with
    | none => rw [hA] at h2; exact Rp.ext x h2
    | some a =>
      rw [hA] at h2
      obtain ⟨_, _, _, _, u, hu⟩ := R.Asep i a hA
      exact ⟨h2.1, h2.2.ext x (upd_ne (nt a u hu))⟩
  · obtain ⟨h1, h2⟩ := R.fz b u e
    exact ⟨by rw [upd_ne (nt b u h1)]; exact h1, fun z => (zt_and.mp z).elim h2 (nt b u h1)⟩
theorem SR.upZ {D : Addr} {o : HO} (R : SR K G c A W env σ H) (hz : G.zb D) (h0 : G.H0 D = none) (nw : ¬ inW W D) : SR K G c A W env σ (upd H D o) := by
  have za : Zt G A W D := .inl hz
  have x : Ext ⟨Zt G A W, W, H⟩ ⟨Zt G A W, W, upd H D o⟩ := ⟨fun b w hn e => ⟨hn, by show upd H D o b = some w; rw [upd_ne (fun z => hn (by rw [z]; exact za))]; exact e⟩, fun _ h => h⟩
  have tr : ∀ b, (∃ w, H b = some w) → ∃ w, upd H D o b = some w := fun b ⟨w, e⟩ => by
    by_cases z : b = D
    · subst z; exact ⟨o, upd_same⟩
    · exact ⟨w, by rw [upd_ne z]; exact e⟩
  have neA : ∀ i a, A i = some a → a ≠ D := fun i a e z => (R.Asep i a e).2.2.1 (by rw [z]; exact hz)
  refine ⟨R.len, R.W0in, R.Wmin, R.Wnew, R.Wfix, fun q hq => ?_, fun b w hw e => ?_, fun b hb => tr b (R.zbt b hb), fun i a e => ?_, R.Ainj, R.Aset, fun i p e => ?_, fun q hq => ?_, fun b w e => ?_⟩
  · exact SA.at (upd_ne (fun z => nw ⟨q, hq, .inl z.symm⟩)) (upd_ne (fun z => nw ⟨q, hq, .inr z.symm⟩)) (R.src q hq)
  · rw [upd_ne (fun z => by rw [z, h0] at e; cases e)]; exact R.keep b w hw e
  · obtain ⟨h1, h2, h3, h4, h5⟩ := R.Asep i a e
    exact ⟨h1, h2, h3, h4, tr a h5⟩
  · obtain ⟨v, h1, h2⟩ := R.slots i p e
    refine ⟨v, h1, ?_⟩
    cases hA : A i with
    | none => rw [hA] at h2; exact Rp.ext x h2
    | some a => rw [hA] at h2; exact ⟨h2.1, h2.2.ext x (upd_ne (neA i a hA))⟩
  · obtain ⟨h1, h2, h3, h4⟩ := R.pins q hq
    exact ⟨by rw [upd_ne (neA q.1 _ h3)]; exact h1, h2, h3, h4⟩
  · obtain ⟨h1, h2⟩ := R.fz b w e
    exact ⟨by rw [upd_ne (fun z => h2 (by rw [z]; exact za))]; exact h1, h2⟩
end
structure PTsm (X : Cx) (c : List Ow) (es : List Expr) (t : TTm) : Prop where
  run : PTs X es (tmT X.K c t)
def mYes : TTm := fun _ P => P true
theorem tsm_nil {X : Cx} {c : List Ow} : PTsm X c [] mYes := ⟨⟨fun pins s σ H Q I h => pts_nil.run pins s σ H Q I (by
  obtain ⟨G, A, W, env, P, R, h, k⟩ := h
  exact k true H (Grow.refl R.src) h)⟩⟩
theorem tsm_one {X : Cx} {c : List Ow} {e : Expr} {t : TTm} (h : PTm X c e t) : PTsm X c [e] t := ⟨pts_one h.run⟩
/-- the turns of a comprehension -/
def mCompGo (g : TGm) (tt : TTm) (te : TEm) (env : Env) (P : PV → Prop) : List PV → List PV → Prop
  | [], acc => P (.lst acc)
  | x :: xs, acc => g x env fun env1 => tt env1 fun b => if b = true then te env1 fun y => acc.length < sizeLine ∧ mCompGo g tt te env P xs (acc ++ [y]) else mCompGo g tt te env P xs acc
def mLc (wi : TIm) (vs : List Nat) (g : TGm) (tt : TTm) (te : TEm) : TEm := fun env P => wi env fun items => mCompGo g tt te (wipeE env vs) P items []
def tiM (K : PySem.W.Frag) (c : List Ow) (lk : Option Nat) (t : TIm) : TI := fun σ H R => ∃ G A W env P, SR K G c A W env σ H ∧ t env P ∧ ∀ J items H' pl, Grow W H H' → (match lk with | none => pl = [] | some j => ∃ a o, pl = [(a, o)] ∧ A j = some a ∧ H' a = some o) → ItOk K (Zt G A W) W H' pl J items → P items → R J H'
theorem tm_lc {K : PySem.W.Frag} {c : List Ow} {lk : Option Nat} {wi : TIm} {vs ws : List Nat} {g : TGm} {tt : TTm} {te : TEm} (hw : ∀ j ∈ ws, j ∈ vs) (σ : St) (H : Hp) (Q : VK) (h : tmE K c .fr (mLc wi vs g tt te) σ H Q) :
    tLc (tiM K c lk wi) (tgM K c ws g) (tmT K c tt) (tmE K c .cl te) vs σ H Q := by
  obtain ⟨G, A, W, env, P, R, h, k⟩ := h
  refine ⟨G, A, W, env, _, R, h, fun J items H1 pl g1 hpl ⟨Gd, Y, wk, hit⟩ h1 D nD => ?_⟩
  have R1 := R.grow g1
  have nW : ¬ inW W D := fun w => by obtain ⟨o, e⟩ := inW_some R1.src w; rw [nD] at e; cases e
  have plD : ∀ q ∈ pl, H1 q.1 = some q.2 ∧ ¬ inW W q.1 := fun q hq => by
    cases lk with
    | none => have e : pl = [] := hpl; rw [e] at hq; cases hq
    | some j =>
      obtain ⟨a, o, e, hA, ho⟩ := hpl
      rw [e, List.mem_singleton] at hq
      rw [hq]
      exact ⟨ho, (R1.Asep j a hA).2.1⟩
  have RD : SR K (G.and D) c A W (wipeE env vs) (wipe σ vs) (upd H1 D (.lst [])) := (R1.wipe vs).and nD
  refine lc_it (g := tgM K c ws g) (tt := tmT K c tt) (te := tmE K c .cl te) wk
    (fun i H2 => ∃ acc wacc, SR K (G.and D) c A W (wipeE env vs) (wipe σ vs) H2 ∧ Grow W H1 H2 ∧ H2 D = some (.lst wacc) ∧ Rps K ⟨Zt (G.and D) A W, W, H2⟩ acc wacc ∧ mCompGo g tt te (wipeE env vs) P (items.drop i) acc)
    ⟨[], [], RD, Grow.new R1.src nD, upd_same, Rps.nil, h1⟩ (fun i H2 _ hP => ?_) (fun i x H2 H3 hi hP y => ?_) (fun H2 hP => ?_)
  · obtain ⟨acc, wacc, R2, g2, hD, ra, hq⟩ := hP
    refine (hit _ W H2 ⟨fun b o hz e => ?_, fun _ h => h⟩ R2.dz fun q hq => g2.keep _ _ (plD q hq).2 (plD q hq).1).1
    exact ⟨fun z => (zt_and.mp z).elim hz (fun z => by have e' : H1 b = some o := e; rw [z, nD] at e'; cases e'), g2.keep b o (fun w => hz (Zt.w w)) e⟩
  · obtain ⟨acc, wacc, R2, g2, hD, ra, hq⟩ := hP
    have x12 : Ext ⟨Zt G A W, W, H1⟩ ⟨Zt (G.and D) A W, W, H2⟩ := ⟨fun b o hz e => ⟨fun z => (zt_and.mp z).elim hz (fun z => by have e' : H1 b = some o := e; rw [z, nD] at e'; cases e'), g2.keep b o (fun w => hz (Zt.w w)) e⟩, fun _ h => h⟩
    have hd : items.drop i = items[i] :: items.drop (i + 1) := List.drop_eq_getElem_cons hi
    rw [hd] at hq
    obtain ⟨ga, rp⟩ := (hit _ W H2 x12 R2.dz fun q hq => g2.keep _ _ (plD q hq).2 (plD q hq).1).2 i x H3 items[i] (List.getElem?_eq_getElem hi) y
    have g23 := ga.grow R2.src
    have R3 := R2.grow g23
    refine ⟨G.and D, A, W, wipeE env vs, items[i], _, R3, rp, hq, fun env1 σ1 R4 t4 h4 => ?_⟩
    refine ⟨(t4.wipe hw).trans wipe_wipe, G.and D, A, W, env1, _, R4, h4, fun b H4 g4 h5 => ?_⟩
    cases b with
    | true =>
      rw [if_pos rfl] at h5 ⊢
      refine ⟨G.and D, A, W, env1, _, R4.grow g4, h5, fun p v H5 g5 rv ⟨hl, h6⟩ => ?_⟩
      have g25 : Grow W H2 H5 := (g23.trans g4).trans g5
      have hD5 : H5 D = some (.lst wacc) := g25.keep D _ nW hD
      have R5 := R2.grow g25
      have ra5 : Rps K ⟨Zt (G.and D) A W, W, H5⟩ acc wacc := Rps.ext (g25.ext R2.sz) ra
      have zD : Zt (G.and D) A W D := zt_and.mpr (.inr rfl)
      have xD : ∀ o, Ext ⟨Zt (G.and D) A W, W, H5⟩ ⟨Zt (G.and D) A W, W, upd H5 D o⟩ := fun o => ⟨fun b w hn e => ⟨hn, by show upd H5 D o b = some w; rw [upd_ne (fun z => hn (by rw [z]; exact zD))]; exact e⟩, fun _ h => h⟩
      refine ⟨wacc, hD5, by rw [← ra.len]; exact hl, acc ++ [p], wacc ++ [v], R5.upZ (.inr rfl) (R1.h0 nD) nW, ?_, upd_same, Rps.ext (xD _) (ra5.append (Rps.cons rv.c Rps.nil)), h6⟩
      have g15 := g2.trans g25
      exact ⟨fun b o hw e => by rw [upd_ne (fun z => by rw [z, nD] at e; cases e)]; exact g15.keep b o hw e, (R5.upZ (o := .lst (wacc ++ [v])) (.inr rfl) (R1.h0 nD) nW).src⟩
    | false =>
      rw [if_neg Bool.false_ne_true] at h5 ⊢
      have g24 : Grow W H2 H4 := g23.trans g4
      exact ⟨acc, wacc, R2.grow g24, g2.trans g24, g24.keep D _ nW hD, Rps.ext (g24.ext R2.sz) ra, h5⟩
  · obtain ⟨acc, wacc, R2, g2, hD, ra, hq⟩ := hP
    rw [List.drop_length] at hq
    exact k (.lst acc) (.ref D) H2 (g1.trans g2) ⟨D, rfl, g1.free nD, wacc, hD, Rps.ext (ext_less fun b z => zt_and.mpr z) ra⟩ hq
section
variable {X : Cx} {f : Fx} {c : List Ow} {lk : Option Nat} {elt tg iter : Expr} {ifs : List Expr} {scope : Scope} {own : List (Str × Nat)} {pos spos : Pos} {wi : TIm} {ws : List Nat} {g : TGm} {tt : TTm} {te : TEm}
theorem em_lc (hc : X.calm = true) (hN : X.N.Nodup) (hi : PIm X c lk tg iter wi) (ok : BlkOk X.N X.env.scope scope own)
    (hg : ∀ (s : Shared) (H : Hp) (C : Addr) (cl : List (Str × Addr)) (fp : List Addr), PGm (X.blk s H scope (compEnvC scope cl C X.env) fp) c ws tg g) (ht : ∀ (s : Shared) (H : Hp) (C : Addr) (cl : List (Str × Addr)) (fp : List Addr), PTsm (X.blk s H scope (compEnvC scope cl C X.env) fp) c ifs tt)
    (he : ∀ (s : Shared) (H : Hp) (C : Addr) (cl : List (Str × Addr)) (fp : List Addr), PEm (X.blk s H scope (compEnvC scope cl C X.env) fp) c .cl elt te) (hw : ∀ j ∈ ws, j ∈ own.map (·.2) := by decide) (hs : ∀ x, foldedSetIterable iter X.env x = pure x := by intro _; rfl) :
    PEm X c .fr (.ListComp elt [⟨tg, iter, ifs, 0⟩] scope pos) (mLc wi (own.map (·.2)) g tt te) :=
  ⟨(pe_lc hc hN hi.run ok (fun s H C cl fp => (hg s H C cl fp).run) (fun s H C cl fp => (ht s H C cl fp).run) (fun s H C cl fp => (he s H C cl fp).run) hs).weak fun σ H Q h => tm_lc hw σ H Q h⟩
theorem sm_setLc (i : Nat) {y : Str} {py : Pos} (hc : X.calm = true) (hN : X.N.Nodup) (hi : PIm X c lk tg iter wi) (ok : BlkOk X.N X.env.scope scope own)
    (hg : ∀ (s : Shared) (H : Hp) (C : Addr) (cl : List (Str × Addr)) (fp : List Addr), PGm (X.blk s H scope (compEnvC scope cl C X.env) fp) c ws tg g) (ht : ∀ (s : Shared) (H : Hp) (C : Addr) (cl : List (Str × Addr)) (fp : List Addr), PTsm (X.blk s H scope (compEnvC scope cl C X.env) fp) c ifs tt)
    (he : ∀ (s : Shared) (H : Hp) (C : Addr) (cl : List (Str × Addr)) (fp : List Addr), PEm (X.blk s H scope (compEnvC scope cl C X.env) fp) c .cl elt te)
    (hsw : swapsWith (.ListComp elt [⟨tg, iter, ifs, 0⟩] scope pos) (some (.Name y py)) spos.line X.env = pure true) (hy : X.N[i]? = some y := by rfl) (hyl : X.env.scope.names.lookup y = some .local := by rfl) (hlen : i < c.length := by decide) (hl : cO c i ≠ .lk := by decide) (hw : ∀ j ∈ ws, j ∈ own.map (·.2) := by decide) (hs : ∀ x, foldedSetIterable iter X.env x = pure x := by intro _; rfl) :
    PSm X f c (c.set i .ow) (.Assign [.Name y py] (.ListComp elt [⟨tg, iter, ifs, 0⟩] scope pos) spos) (sSet i (mLc wi (own.map (·.2)) g tt te)) :=
  ⟨(ps_setLc hc hN hy hyl hsw hi.run ok (fun s H C cl fp => (hg s H C cl fp).run) (fun s H C cl fp => (ht s H C cl fp).run) (fun s H C cl fp => (he s H C cl fp).run) hs).weak fun D σ H h => by
    obtain ⟨G, A, W, env, M, hgw, R, h, k⟩ := h
    refine tm_lc hw σ H _ ⟨G, A, W, env, _, R, h, fun p v H1 g r h1 => ?_⟩
    obtain ⟨a, rfl, n, o⟩ := r
    exact k.nx _ W _ _ H1 (R.set_ow hlen hl g n o) h1⟩
end
end PM

set_option maxHeartbeats 1000000
/-! PM: defs and their calls. -/
namespace PM
open PySem L2
abbrev Spec := List PV → (PV → Prop) → Prop
/-- what a def promises -/
def spM (K : PySem.W.Frag) (rm : Md) (spec : Spec) : Sp := fun vs H Q _ => ∃ (zb : Addr → Prop) (W : Ws) (ps : List PV) (P : PV → Prop), (∀ b, zb b → ∃ o, H b = some o) ∧ (∀ q ∈ W, SA H q) ∧ Rps K ⟨fun b => zb b ∨ inW W b, W, H⟩ ps vs ∧ spec ps P ∧
  ∀ p v H', Grow W H H' → VK1 K rm (fun b => zb b ∨ inW W b) W H H' p v → P p → Q v H'
def mCall (spec : Spec) (ds : List PV) (t : TAm) : TEm := fun env P => t env fun ps => spec (ps ++ ds) P
theorem VK1.less {K : PySem.W.Frag} {Z Z' : Addr → Prop} {W : Ws} {H H' : Hp} {p : PV} {v : V} {md : Md} (hm : md ≠ .ow) (h : ∀ b, Z' b → Z b) (r : VK1 K md Z W H H' p v) : VK1 K md Z' W H H' p v := by
  cases md with
  | cl => exact VK1.ofRp (Rp.ext (ext_less h) r.c)
  | ow => exact absurd rfl hm
  | fr =>
    obtain ⟨a, e, n, o⟩ := r
    exact ⟨a, e, n, o.less fun b z => z.elim (fun z => .inl (h b z)) .inr⟩
/-- defaults: constants -/
def Cst (K : PySem.W.Frag) (ds : List PV) (vs : List V) : Prop := ∀ S, Rps K S ds vs
section
variable {X : Cx} {c : List Ow} {k : Nat} {fa : Addr} {fd : FuncData} {pns : List Str} {spec : Spec} {rm : Md} {x : Str} {p pos : Pos} {e : Expr} {es : List Expr} {t : TAm} {ds : List PV} {dvs : List V} {dus : List Value}
theorem tm_call {K : PySem.W.Frag} (hm : rm ≠ .ow) (hds : Cst K ds dvs) (σ : St) (H : Hp) (Q : VK) (h : tmE K c rm (mCall spec ds t) σ H Q) : tCall (spM K rm spec) dvs E0 (tmA K c .cl t) σ H Q := by
  obtain ⟨G, A, W, env, P, R, h, k⟩ := h
  refine ⟨G, A, W, env, _, R, h, fun ps vs H1 g1 rs h1 => ?_⟩
  have R1 := R.grow g1
  have l1 : ∀ b, (Zt G A W b ∨ inW W b) → Zt G A W b := fun b z => z.elim id Zt.w
  refine ⟨Zt G A W, W, ps ++ ds, P, R1.dz, R1.src, (Rps.ext (ext_less l1) rs.rps).append (hds _), h1, fun p v H' g r hp => k p v H' (g1.trans g) ?_ hp⟩
  exact (r.less hm fun b z => .inl z).back g1
theorem em_call (F : FnOk X.prog X.w X.K X.mg X.base CX0 k fa fd pns (spM X.K rm spec)) (hr : Room k X.A) (hm : X.mg x = some (.ref fa)) (hk : PySem.W.keepIn X.K (.ref fa) = true) (hb : Binds X.K fd pns dus) (hd : Vals dvs dus) (hds : Cst X.K ds dvs)
    (ha : PAm X c .cl (e :: es) t) (hrm : rm ≠ .ow := by decide) (hg : Gl X x := by rfl) (hdb : (x == ("__debug__" : Str)) = false := by decide) (he : starEach (e :: es) X.env = (false, eval e X.env) :: starEach es X.env := by rfl) (hpl : (backTo pos (starEach es X.env)).any (·.1) = false := by rfl) :
    PEm X c rm (.Call (.Name x p) (e :: es) [] pos) (mCall spec ds t) := ⟨(pe_call F hr hg hm hk hb hd pass0 ha.run hdb he hpl).weak fun σ H Q h => tm_call hrm hds σ H Q h⟩
/-- a def's own lists handed on for a look: what comes back is no list -/
def mCallO (spec : Spec) (ds : List PV) (t : TAm) : TEm := fun env P => t env fun ps => spec (ps ++ ds) fun r => flatP r = true ∧ P r
theorem VKs.look {K : PySem.W.Frag} {Z : Addr → Prop} {W : Ws} {H : Hp} (hz : ∀ b, inW W b → Z b) : ∀ {ps : List PV} {vs : List V}, VKs K .ow Z W H ps vs → Rps K ⟨fun b => (fun _ => False) b ∨ inW W b, W, H⟩ ps vs
  | _, _, .nil => Rps.nil
  | p :: _, v :: _, .cons h t => Rps.cons (by
    have x : Ext ⟨Z, W, H⟩ ⟨fun b => (fun _ => False) b ∨ inW W b, W, H⟩ := ext_less fun b z => z.elim False.elim (hz b)
    have h' : RpO K ⟨Z, W, H⟩ p v := h
    cases p with
    | lst ps =>
      obtain ⟨a, ws, e, h1, h2⟩ := h'
      unfold Rp
      exact ⟨a, ws, e, ⟨fun z => z.elim False.elim h1.1, h1.2⟩, Rps.ext x h2⟩
    | dic ks ps =>
      obtain ⟨a, ws, e, h0, h1, l, h2⟩ := h'
      unfold Rp
      exact ⟨a, ws, e, fun z => z.elim False.elim h0, h1, l, Rps.ext x h2⟩
    | non => exact Rp.ext x h'
    | bl _ => exact Rp.ext x h'
    | int _ => exact Rp.ext x h'
    | str _ => exact Rp.ext x h'
    | tup _ => exact Rp.ext x h'
    | obj _ _ _ => exact Rp.ext x h'
    | ref _ => exact Rp.ext x h'
    | src => exact Rp.ext x h'
    | iset _ => exact Rp.ext x h'
    | scr _ => exact Rp.ext x h') (VKs.look hz t)
theorem Rp.flat {K : PySem.W.Frag} {S S' : Wd} {p : PV} {v : V} (f : flatP p = true) (h : Rp K S p v) : Rp K S' p v := by
  cases p with
  | non => unfold Rp at h ⊢; exact h
  | bl _ => unfold Rp at h ⊢; exact h
  | int _ => unfold Rp at h ⊢; exact h
  | str _ => unfold Rp at h ⊢; exact h
  | _ => exact absurd f (by simp [flatP])
theorem em_callO (F : FnOk X.prog X.w X.K X.mg X.base CX0 k fa fd pns (spM X.K .cl spec)) (hr : Room k X.A) (hm : X.mg x = some (.ref fa)) (hk : PySem.W.keepIn X.K (.ref fa) = true) (hb : Binds X.K fd pns dus) (hd : Vals dvs dus) (hds : Cst X.K ds dvs)
    (ha : PAm X c .ow (e :: es) t) (hg : Gl X x := by rfl) (hdb : (x == ("__debug__" : Str)) = false := by decide) (he : starEach (e :: es) X.env = (false, eval e X.env) :: starEach es X.env := by rfl) (hpl : (backTo pos (starEach es X.env)).any (·.1) = false := by rfl) :
    PEm X c .cl (.Call (.Name x p) (e :: es) [] pos) (mCallO spec ds t) := ⟨(pe_call F hr hg hm hk hb hd pass0 ha.run hdb he hpl).weak fun σ H Q h => by
  obtain ⟨G, A, W, env, P, R, h, k⟩ := h
  refine ⟨G, A, W, env, _, R, h, fun ps vs H1 g1 rs h1 => ?_⟩
  refine ⟨fun _ => False, W, ps ++ ds, _, fun b z => z.elim, (R.grow g1).src, (VKs.look R.sz rs).append (hds _), h1, fun p v H' g r ⟨hf, hp⟩ => k p v H' (g1.trans g) (VK1.ofRp (Rp.flat hf r.c)) hp⟩⟩
end
/-- where a def begins -/
def startE (n : Nat) (args : List PV) : Env := args.map some ++ List.replicate (n - args.length) none
def shs (n : Nat) : List Ow := List.replicate n .sh
theorem cO_shs {n i : Nat} : cO (shs n) i = .sh := by
  unfold cO shs
  rw [List.getD_eq_getElem?_getD, List.getElem?_replicate]
  split <;> rfl
theorem SR.start {K : PySem.W.Frag} {N : List Str} {zb : Addr → Prop} {W : Ws} {ps : List PV} {vs : List V} {H : Hp} {gw : Bool} (hz : ∀ b, zb b → ∃ o, H b = some o) (hs : ∀ q ∈ W, SA H q) (r : Rps K ⟨fun b => zb b ∨ inW W b, W, H⟩ ps vs) :
    SR K ⟨gw, zb, W, H, fun _ => none, W, []⟩ (shs N.length) (fun _ => none) W (startE N.length ps) (L2.start N vs) H := by
  have less : ∀ b, Zt ⟨gw, zb, W, H, fun _ => none, W, []⟩ (fun _ => none) W b → (zb b ∨ inW W b) := fun b z => by
    rcases z with z | z | ⟨i, z⟩
    · exact .inl z
    · exact .inr z
    · cases z
  refine ⟨?_, fun _ h => h, fun _ h => h, fun _ h => .inl h, fun _ => rfl, hs, fun _ _ _ e => e, hz, fun i a e => (by cases e), fun i j a e => (by cases e), fun i p hc => absurd cO_shs hc, fun i p e => ?_, fun q hq => (by cases hq), fun b o e => (by cases e)⟩
  · unfold startE L2.start
    rw [List.length_append, List.length_append, List.length_map, List.length_map, List.length_replicate, List.length_replicate, r.len]
  · have hi : i < ps.length := by
      unfold startE at e
      cases Nat.lt_or_ge i ps.length with
      | inl h => exact h
      | inr h =>
        rw [List.getElem?_append_right (by rw [List.length_map]; exact h), List.getElem?_replicate] at e
        split at e <;> cases e
    have hp : ps[i]? = some p := by
      unfold startE at e
      rw [List.getElem?_append_left (by rw [List.length_map]; exact hi), List.getElem?_map] at e
      cases q : ps[i]? with
      | none => rw [q] at e; cases e
      | some u => rw [q] at e; cases e; rfl
    obtain ⟨v, hv, rv⟩ := r.get hp
    refine ⟨v, ?_, Rp.ext (ext_less less) rv⟩
    unfold L2.start
    rw [List.getElem?_append_left (by rw [List.length_map, ← r.len]; exact hi), List.getElem?_map, hv]
    rfl
section
variable {P : Program} {w : World} {K : PySem.W.Frag} {mg : Str → Option Value} {base : Heap}
/-- the context of a def's body -/
abbrev bodyX (P : Program) (w : World) (K : PySem.W.Frag) (mg : Str → Option Value) (base : Heap) (N : List Str) (qual : Str) (st : Stmt) (f : Addr) (cdv : Value) (A : Around) (outer : List PySem.Env) (s : Shared) (H : Hp) (E : XK) : Cx :=
  (cxOf CX0 P w K mg base N qual (defScope st) f cdv A outer s H E).nox
def nxOf (rm : Md) (Q : PV → Prop) : Prop := match rm with
  | .cl => Q .non
  | _ => False
/-- THE RULE for a def -/
theorem fn_m {x qual : Str} {st : Stmt} {f : Addr} {fd : FuncData} {N pns : List Str} {k : Nat} {rm : Md} {spec : Spec} {t : TSm} {dvs : List V} (F : FunD K x qual (defArgs st) (defBody st) (defScope st) dvs [] f fd) (S : FnScope N pns (defScope st))
    (hlen : ∀ ps Q, spec ps Q → ps.length = pns.length)
    (hbody : ∀ (cdv : Value) (A : Around) (outer : List PySem.Env) (s : Shared) (H : Hp) (E : XK), Room k (A.deeper (PyProof.Rows.envOfC qual (defScope st) s.heap.objs.size f cdv)) → ∃ c', PSsm (bodyX P w K mg base N qual st f cdv A outer s H E) ⟨rm, false, []⟩ (shs N.length) c' (defBody st) t)
    (hok : ∀ ps Q, spec ps Q → t { nx := fun _ => nxOf rm Q, rt := Q } (startE N.length ps)) : FnOk P w K mg base CX0 (k + 1) f fd pns (spM K rm spec) := by
  refine F.ok S (fun vs H Q E h => ?_) (fun cdv A outer s H vs Q E hr h => ?_)
  · obtain ⟨zb, W, ps, P, _, _, r, hs, _⟩ := h
    rw [← r.len]; exact hlen ps P hs
  · obtain ⟨zb, W, ps, P, hz, hsrc, r, hs, kk⟩ := h
    have hret : ∀ p v H', RetOk K rm ⟨false, zb, W, H, fun _ => none, W, []⟩ p v H' → P p → Q v H' := fun p v H' hr hp => by
      obtain ⟨W', h1, h2, h3, h4, h5⟩ := hr
      have e : W' = W := h2 rfl
      subst e
      exact kk p v H' ⟨fun b o n e => h4 b o n e, h3⟩ h5 hp
    have hsr : SR K ⟨false, zb, W, H, fun _ => none, W, []⟩ (shs N.length) (fun _ => none) W (startE N.length ps) (L2.start N vs) H := SR.start hz hsrc r
    obtain ⟨c', hb⟩ := hbody cdv A outer s H E hr
    refine ⟨_, hb.run.nox, ⟨false, zb, W, H, fun _ => none, W, []⟩, fun _ => none, W, startE N.length ps, { nx := fun _ => nxOf rm P, rt := P }, rfl, hsr, hok ps P hs, ⟨fun A' W' env' σ' H' R' hp => ?_, hret, fun _ _ _ _ _ _ z => z.elim, fun _ _ _ _ _ _ z => z.elim⟩⟩
    cases rm with
    | cl => exact hret .non .non H' (R'.ret (Grow.refl R'.src) (by decide) (VK1.ofRp Rp.non')) hp
    | ow => exact hp.elim
    | fr => exact hp.elim
end
end PM

set_option maxHeartbeats 1000000
/-! PM: more rules of the layer beneath: t[::-1], enumerate(t). -/
namespace HT
open PySem PySem.Spec PyProof.Rows
section
variable {prog : Program} {w : World} {A : Around} {E : Value → Shared → Prop} {s : Shared}
theorem sliceApplied_rev {sl : Addr} {n : Nat} {t : Tok} {Q : Int × Int × Nat → Shared → Prop} (hs : s.heap.IsSliceOf sl .none .none (.int (-1) t))
    (h : Q ((n : Int) - 1, -1, n) s) : wpAny (model prog w) A (Builtin.Slice.sliceApplied (.ref sl) (pure (n : Int))) Q E s := by
  obtain ⟨os, hos, hcs, hds⟩ := id hs
  unfold Builtin.Slice.sliceApplied Builtin.Slice.sliceFields
  refine wpAny_bind (wpAny_bind (wpAny_field hos hds (x := .none) rfl (wpAny_bind (wpAny_field hos hds (x := .none) rfl (wpAny_bind (wpAny_field hos hds (x := .int (-1) t) rfl (wpAny_pure ?_)))))))
  refine wpAny_bind (slicePart_int ?_)
  show wpAny _ _ (if ((-1 : Int) == 0) = true then _ else _) _ _ s
  rw [if_neg (by decide)]
  refine wpAny_bind (slicePart_none (wpAny_bind (slicePart_none (wpAny_bind (wpAny_pure ?_)))))
  show wpAny _ _ (match Builtin.Slice.sliceAdjust none none (-1) (n : Int) with | (lo, hi) => pure (lo, (-1 : Int), Builtin.Slice.slicePlaces lo hi (-1))) _ _ s
  have e1 : Builtin.Slice.sliceAdjust none none (-1) (n : Int) = ((n : Int) - 1, -1) := by
    unfold Builtin.Slice.sliceAdjust
    simp
  rw [e1]
  show wpAny _ _ (pure ((n : Int) - 1, (-1 : Int), Builtin.Slice.slicePlaces ((n : Int) - 1) (-1) (-1))) _ _ s
  have e2 : Builtin.Slice.slicePlaces ((n : Int) - 1) (-1) (-1) = n := by
    unfold Builtin.Slice.slicePlaces
    have h1 : ¬ ((-1 : Int) > 0) := by omega
    simp only [h1, if_false]
    have h3 : (- -1 : Int) = 1 := by decide
    rw [h3, Int.ediv_one]
    split <;> omega
  rw [e2]
  exact wpAny_pure h
theorem filterMap_same {α β : Type} {f g : α → Option β} : ∀ {l : List α}, (∀ a ∈ l, f a = g a) → l.filterMap f = l.filterMap g
  | [], _ => rfl
  | a :: l, h => by
    rw [List.filterMap_cons, List.filterMap_cons, h a List.mem_cons_self, filterMap_same fun b hb => h b (List.mem_cons_of_mem _ hb)]
theorem pick_rev (xs : Array Value) : ((List.range xs.size).filterMap fun (m : Nat) => xs[(((xs.size : Int) - 1) + (m : Int) * (-1)).toNat]?).toArray = xs.toList.reverse.toArray := by
  have e : ∀ m ∈ List.range xs.size, xs[(((xs.size : Int) - 1) + (m : Int) * (-1)).toNat]? = xs[xs.size - 1 - m]? := fun m hm => by
    have := List.mem_range.mp hm
    have : (((xs.size : Int) - 1) + (m : Int) * (-1)).toNat = xs.size - 1 - m := by omega
    rw [this]
  rw [filterMap_same e]
  have e2 := PySem.W.krv_all xs
  have e3 := PySem.W.krv_range xs.size
  rw [← e2, ← List.filterMap_reverse, ← e3, List.filterMap_map]
  rfl
theorem getItem_tuple_rev {t sl : Addr} {items : Array Value} {tk : Tok} {Q : Value → Shared → Prop} (ht : IsTup s.heap t items) (hs : s.heap.IsSliceOf sl .none .none (.int (-1) tk))
    (h : Q (.ref s.heap.objs.size) { s with heap := s.heap.push { cls := .type "tuple", data := .seq items.toList.reverse.toArray } })
    (hsz : items.size ≤ sizeLine) : wpAny (model prog w) A (getItem (.ref t) (.ref sl)) Q E s := by
  have htake : sizeOk (.seq items.toList.reverse.toArray) := by
    show items.toList.reverse.toArray.size ≤ sizeLine
    rw [List.size_toArray, List.length_reverse, Array.length_toList]
    omega
  obtain ⟨os, hos, hcs, hds⟩ := id hs
  have hTs : s.TypeIs (.ref sl) "slice" := ⟨os, hos, hcs⟩
  unfold getItem
  try with_reducible refine wpAny_holding ?_
  first | refine wpAny_bind (wpAny_pure ?_) | skip
  refine wpAny_bind (wpAny_sequenceKey ht.typeIs (by decide) ?_)
  refine wpAny_bind (wpAny_callSpecial?_slot (name := Str.ofString "__getitem__") ht.typeIs PyProof.Rows.slot_tuple_getitem
    (wpAny_call_entry PyProof.Rows.slot_tuple_getitem ht.typeIs entry_tuple_getitem ?_ (args_tuple_getitem _ _)))
  show wpAny _ _ (Builtin.Tuple.tupleItemsOf (.ref t) >>= _) _ _ s
  refine wpAny_bind (tupleItemsOf_ ht ?_)
  refine wpAny_bind (wpAny_typeOf hTs ?_)
  rw [if_pos (by decide)]
  refine wpAny_bind (sliceApplied_rev hs ?_)
  have hno : ¬ (((((items.size : Nat) : Int) - 1) == 0 && (-1 : Int) == 1 && items.size == items.size) = true) := by
    intro q
    rw [Bool.and_eq_true, Bool.and_eq_true] at q
    exact absurd q.1.2 (by decide)
  show wpAny _ _ (if ((((items.size : Nat) : Int) - 1) == 0 && (-1 : Int) == 1 && items.size == items.size) = true then _ else _) _ _ s
  rw [if_neg hno, pick_rev]
  first
    | exact wpAny_bind (m := Builtin.Tuple.tupleExact _) (wpAny_newObj_type (wpAny_pure ⟨_, rfl, wpAny_pure h⟩) htake)
    | exact wpAny_bind (m := Builtin.Tuple.tupleExact _) (wpAny_newObj_type (wpAny_bind (wpAny_pure (wpAny_pure ⟨_, rfl, wpAny_pure h⟩))) htake)
    | exact wpAny_bind (wpAny_bind (m := Builtin.Tuple.tupleExact _) (wpAny_newObj_type (wpAny_pure (wpAny_pure ⟨_, rfl, wpAny_pure h⟩)) htake))
    | exact wpAny_bind (wpAny_bind (m := Builtin.Tuple.tupleExact _) (wpAny_newObj_type (wpAny_pure ⟨_, rfl, wpAny_pure h⟩) htake))
end
end HT
namespace L2
open PySem PySem.Spec PyProof.Rows
section
variable {X : Cx}
/-- x[::-1], a list or a tuple -/
def tRevA (K : PySem.W.Frag) (te : TE) : TE := fun σ H Q => te σ H fun x H1 => ∃ a xs, x = .ref a ∧ ((SqL K H1 a xs ∧ ∀ p, H1 p = none → Q (.ref p) (upd H1 p (.lst xs.reverse))) ∨ (SqT K H1 a xs ∧ ∀ p, H1 p = none → Q (.ref p) (upd H1 p (.tup xs.reverse))))
theorem pe_revA {e : Expr} {te : TE} {k : Nat} {p1 p2 p3 pos : Pos} (he : PE X e te) : PE X (.Subscript e (.Slice none none (some (.UnaryOp .USub (.Constant (.int 1) k p1) p2)) p3) pos) (tRevA X.K te) := by
  refine ⟨fun pins s σ H Q I h => ?_⟩
  refine Subscript_ (thn (he.run pins s σ H _ I h) fun v s1 ⟨x, H1, I1, r1, q1⟩ => ?_)
  obtain ⟨a, xs, ex, q1⟩ := q1
  subst ex
  cases r1
  have hst : PO X (some (.UnaryOp .USub (.Constant (.int 1) k p1) p2)) (tPart (tUn (rU fun i => .int (-i)) (tC (.int 1)))) := po_some (pe_un un_neg pe_int)
  refine wpAny_Slice (thn (po_none.run pins s1 σ H1 (fun o H2 => o = none ∧ H2 = H1) I1 ⟨rfl, rfl⟩) fun vl s2 ⟨l, H2, I2, pl, el, e2⟩ => ?_)
  subst el e2
  refine thn (po_none.run pins s2 σ H2 (fun o H3 => o = none ∧ H3 = H2) I2 ⟨rfl, rfl⟩) fun vu s3 ⟨u, H3, I3, pu, eu, e3⟩ => ?_
  subst eu e3
  refine thn (hst.run pins s3 σ H3 (fun o H4 => o = some (-1) ∧ H4 = H3) I3 ⟨1, rfl, -1, rfl, rfl, rfl⟩) fun vs s4 ⟨o, H4, I4, ps, eo, e4⟩ => ?_
  subst eo e4
  have I5 : Inv X pins σ H4 { s4 with heap := s4.heap.push { cls := .type "slice", data := .fields #[vl, vu, vs] } } := I4.kept (t' := s4.toks) fun b ob q => Heap.get?_push_of_some _ q
  show wpAny (model X.prog X.w) X.A (subscriptTail e (.Slice none none (some (.UnaryOp .USub (.Constant (.int 1) k p1) p2)) p3) (.ref a) (.ref s4.heap.objs.size)) (EP X pins σ Q) X.xe { s4 with heap := s4.heap.push { cls := .type "slice", data := .fields #[vl, vu, vs] } }
  rcases q1 with ⟨hx, q⟩ | ⟨hx, q⟩
  · obtain ⟨its, r, ht, hz⟩ := I5.list hx
    have hlen := r.length
    refine tail_any (ops := [.ref a, .ref s4.heap.objs.size]) ht.isList.typeIs (PySem.slot_list_getitem.lookup) ?_ (by with_unfolding_all rfl)
    refine wpAny_getItem_list_slice ht.isList (Heap.IsSliceOf.new _ vl vu vs) pl pu ps (by decide) ?_ (by rw [List.size_toArray]; omega)
    rw [PySem.W.krv_pick]
    refine ⟨.ref _, _, I5.laid (t' := s4.toks) (o := .lst xs.reverse) (fun b ob q => Heap.get?_push_of_some _ q) (Nat.le_refl _) ?_, rfl, q _ (I5.hok.fresh (Nat.le_refl _))⟩
    exact ⟨by rw [List.length_reverse]; exact hz, _, 0, r.reverse, Heap.get?_push_size _ rfl⟩
  · obtain ⟨its, r, ht, hz⟩ := I5.tuple hx
    have hlen := r.length
    refine tail_any (ops := [.ref a, .ref s4.heap.objs.size]) ht.typeIs PyProof.Rows.slot_tuple_getitem.lookup ?_ (by with_unfolding_all rfl)
    have hsl : ({ s4 with heap := s4.heap.push { cls := .type "slice", data := .fields #[vl, vu, vs] } } : Shared).heap.IsSliceOf s4.heap.objs.size vl vu vs := Heap.IsSliceOf.new _ vl vu vs
    cases pl
    cases pu
    cases ps
    refine HT.getItem_tuple_rev ht hsl ?_ (by rw [List.size_toArray]; omega)
    refine ⟨.ref _, _, I5.laid (t' := s4.toks) (o := .tup xs.reverse) (fun b ob q => Heap.get?_push_of_some _ q) (Nat.le_refl _) ?_, rfl, q _ (I5.hok.fresh (Nat.le_refl _))⟩
    exact ⟨by rw [List.length_reverse]; exact hz, _, r.reverse, IsTup.new _ _⟩
end
/-! ### enumerate(t) of a tuple -/
open Sem (wp) in
theorem meets_enumerate_new1 {v : Value} {o : Obj} {H : Heap → Prop} (B : Begins v o H) :
    Meets (Builtin.«enumerate.__new__» ⟨[.type "enumerate", v], []⟩) (fun _ R s => H s.heap ∧
      R (.ok (.ret (.ref (s.heap.push o).objs.size))) { s with heap := (s.heap.push o).push { cls := .type "enumerate", data := .fields #[.none, .bool false, .ref s.heap.objs.size, rawInt 0, .none, .none] } }) :=
  .of_wp fun prog w A R s h => by
    obtain ⟨hp, g, d, tk, os⟩ := s; obtain ⟨h1, h⟩ := h
    have hsub := sub_enumerate
    have q1 : ∀ {A' : Around} {E : Value → Shared → Prop} {Q : Value → Shared → Prop}, Q (.ref hp.objs.size) ⟨hp.push o, g, d, tk, os⟩ → wpAny (model prog w) A' (pyIter v) Q E ⟨hp, g, d, tk, os⟩ :=
      fun q => B.iter prog w _ _ ⟨hp, g, d, tk, os⟩ _ h1 q
    wp_walk using q1
    refine wpAny_stack_any fun st => wpAny_pure ?_
    split
    · rename_i c _ _ _ _ _
      cases (c == Value.type "enumerate")
      · wp_walk using q1
        exact ⟨_, rfl, h⟩
      · wp_walk using q1
        exact ⟨_, rfl, h⟩
    · wp_walk using q1
      exact ⟨_, rfl, h⟩
theorem call_enumerate_tuple {prog : Program} {w : World} {A : Around} {E : Value → Shared → Prop} {s : Shared} {l : Addr} {items : Array Value} {Q : Value → Shared → Prop} (hL : s.heap.IsTuple l items)
    (h : ∀ h', IsEnum h' (s.heap.objs.size + 1) s.heap.objs.size 0 .none → h'.IsTupleIter s.heap.objs.size l 0 → h'.objs.size = s.heap.objs.size + 2 →
      (∀ b o, s.heap.get? b = some o → h'.get? b = some o) → Q (.ref (s.heap.objs.size + 1)) { s with heap := h' }) :
    wpAny (model prog w) A (call (.type "enumerate") [.ref l]) Q E s := by
  have B := begins_tuple (t := l) (items := items)
  refine callType_new F.called_enumerate (by decide) (F.typeCall_enumerate_1 _) (F.newCall_enumerate_1 _) (fun obj => F.args_object_init_2 obj _) F.entry_enumerate_new
    (meets_enumerate_new1 B) ⟨hL, ?_⟩
  have hz : (s.heap.push { cls := .type "tuple_iterator", data := .fields #[.ref l, .int 0 0] }).objs.size = s.heap.objs.size + 1 := Heap.size_push ..
  show _ ∧ _
  rw [hz]
  have he : IsEnum ((s.heap.push { cls := .type "tuple_iterator", data := .fields #[.ref l, .int 0 0] }).push
      { cls := .type "enumerate", data := .fields #[.none, .bool false, .ref s.heap.objs.size, rawInt 0, .none, .none] }) (s.heap.objs.size + 1) s.heap.objs.size 0 .none := by
    have := Heap.get?_push_size (s.heap.push { cls := .type "tuple_iterator", data := .fields #[.ref l, .int 0 0] })
      (o := { cls := .type "enumerate", data := .fields #[.none, .bool false, .ref s.heap.objs.size, rawInt 0, .none, .none] }) rfl
    rw [hz] at this; exact this
  refine ⟨⟨_, he, rfl⟩, h _ he ⟨_, Heap.get?_push_of_some _ (Heap.get?_push_size _ rfl), rfl, rfl⟩ (by rw [Heap.size_push, hz]) fun b o x => Heap.get?_push_of_some _ (Heap.get?_push_of_some _ x)⟩
end L2

set_option maxHeartbeats 1000000
/-! PM: enumerate, zip. -/
namespace L2
open PySem PySem.Spec PyProof.Rows
section
/-- the tuple at a, each item in a new pair -/
def IteT (K : PySem.W.Frag) (a : Addr) : It :=
  ⟨fun i H => ∃ (xs : List V) (x : V), SqT K H a xs ∧ xs[i]? = some x, fun i H v H' => ∃ T x, v = .ref T ∧ H T = none ∧ H' = upd H T (.tup [.int (i : Nat), x]) ∧ ∀ xs, SqT K H a xs → xs[i]? = some x, fun i H => ∃ xs : List V, SqT K H a xs ∧ xs.length ≤ i⟩
theorem turn_enumT {P : Program} {w : World} {K : PySem.W.Frag} {elts : List Expr} {kk : Nat} {tpos : Pos} (a e it : Addr) (hai : a ≠ it) (hae : a ≠ e) :
    Turn P w K (.Tuple elts kk tpos) (IteT K a) [e, it] e (fun i h => (∃ old, IsEnum h e it ((i : Nat) : Int) old) ∧ h.IsTupleIter it a i ∧ e ≠ it) where
  mem := by simp
  obj := fun i h st b hb => by
    obtain ⟨⟨old, he⟩, ⟨o, ho, hc, hd⟩, _⟩ := st
    have e' : b = e ∨ b = it := by simpa using hb
    rcases e' with z | z
    · rw [z]; exact ⟨_, he, fun v q => nomatch q⟩
    · rw [z]; exact ⟨o, ho, fun v q => by rw [hd] at q; cases q⟩
  keep := fun i h h' st k => let ⟨⟨old, he⟩, hi, hne⟩ := st; ⟨⟨old, k e (by simp) _ he⟩, hi.at fun o q => k it (by simp) o q, hne⟩
  item := by
    intro X hP hw hK hc i pins s σ H E I hf st hg
    subst hP hw hK
    obtain ⟨⟨old, he⟩, hit, hne⟩ := st
    obtain ⟨xs, x, hq, hx⟩ := hg
    obtain ⟨its, rv, p, hz⟩ := I.tuple hq
    obtain ⟨u, hu, ru⟩ := rv.get hx
    have hel : e < s.heap.objs.size := Heap.lt_size he
    have hil : it < s.heap.objs.size := by obtain ⟨_, q, _⟩ := hit; exact Heap.lt_size q
    have D := Draws.tuple (prog := X.prog) (w := X.w) (A := X.A.in1) (I.ok.hd hc) it a hai its.toArray
    have hi : i < its.toArray.size := by
      rw [List.size_toArray]
      exact (List.getElem?_eq_some_iff.mp hu).1
    refine wpAny_pyNext_enum_itemD D he ⟨hit, (show s.heap.IsTuple a its.toArray from p)⟩ hi hne (by simp [hne, Ne.symm hae]) fun x2 h' tk hP ho hst hT hsz hk => ?_
    have ex2 : x2 = u := by
      have := hP
      rw [List.getElem?_toArray, hu] at this
      exact (Option.some.inj this).symm
    subst ex2
    obtain ⟨hit', _⟩ := hst
    refine ⟨_, rfl, wpAny_letOwnedTupleGo_enum (s := { s with heap := h', toks := tk + 1 }) ho fun h'' he' sb => ?_⟩
    have hT2 : h''.get? s.heap.objs.size = some { cls := .type "tuple", data := .seq #[.int i tk, x2] } := (sb.2 _ (Nat.ne_of_gt hel)).trans hT
    have new : ObjOk X.prog X.w (upd H s.heap.objs.size (.tup [.int (i : Nat), x])) h'' s.heap.objs.size (.tup [.int (i : Nat), x]) :=
      ⟨by show 2 ≤ sizeLine; decide, [.int i tk, x2], .cons ⟨_, rfl⟩ (.cons ru .nil), ⟨_, hT2, rfl, _, rfl⟩⟩
    have I1 : Inv X pins σ (upd H s.heap.objs.size (.tup [.int (i : Nat), x])) { s with heap := h'', toks := tk + 1 } :=
      I.turnedNew (ch := [e, it]) (fun b ob hb q => (sb.2 b (fun z => hb (by simp [z]))).trans (hk b ob (fun z => hb (by simp [z])) (fun z => hb (by simp [z])) q)) hf (Nat.le_refl _) new
    refine ⟨.ref s.heap.objs.size, _, I1, rfl, ⟨_, x, rfl, I.hok.fresh (Nat.le_refl _), rfl, fun ys hy => by rw [I.tuple_inj hy hq]; exact hx⟩, ⟨⟨x2, ?_⟩, hit'.at fun o q => (sb.2 it (Ne.symm hne)).trans q, hne⟩, fun b hb => ?_⟩
    · have e1 : ((i + 1 : Nat) : Int) = (i : Int) + 1 := by omega
      rw [e1]; exact he'
    · have hb' : b < s.heap.objs.size := by
        have e' : b = e ∨ b = it := by simpa using hb
        rcases e' with z | z
        · rw [z]; exact hel
        · rw [z]; exact hil
      rw [upd_ne (Nat.ne_of_lt hb')]
      exact (hf b hb).1
  done := by
    intro X hP hw hK hc i pins s σ H E I hf st hg
    subst hP hw hK
    obtain ⟨⟨old, he⟩, hit, hne⟩ := st
    obtain ⟨xs, hq, hx⟩ := hg
    obtain ⟨its, rv, p, hz⟩ := I.tuple hq
    obtain ⟨f0, f1, f2, f3, f4, f5⟩ := hf it (by simp)
    have hl := rv.length
    have fin : ∀ h', Heap.ExtBut it s.heap h' → (none : Option Value) = none ∧ Inv X pins σ H { s with heap := h' } := fun h' eb => ⟨rfl, I.turned (t' := s.toks) (fun b o hb q => eb b o hb q) f0 f1 f3 f4 f5⟩
    -- the tuple's iterator stands at its end, or behind it
    have hTy : s.TypeIs (.ref e) "enumerate" := ⟨_, he, rfl⟩
    unfold pyNext
    refine wpAny_bind (wpAny_attempt (wpAny_callSpecial?_slot (name := Str.ofString "__next__") hTy F.slot_enumerate_next
      (wpAny_call_entry F.slot_enumerate_next hTy F.entry_enumerate_next ?_ (F.args_enumerate_next_1 _))))
    show wpAny _ _ (field (.ref e) 2 >>= _) _ _ _
    refine wpAny_bind (wpAny_field he rfl (x := .ref it) rfl ?_)
    refine wpAny_bind (wpAny_nextOf_tuple_end (I.ok.hd hc) hit (show s.heap.IsTuple a its.toArray from p) (by simp; omega) fun h' x he' hx' => ?_)
    obtain ⟨o, ho, hc'⟩ := hx'
    refine wpAny_bind (wpAny_isInstance (T := "StopIteration") (b := true) ⟨o, ho, hc'⟩ isSubtype_stop ?_)
    exact wpAny_pure (fin _ he')
  self := fun A i s Q E st h => let ⟨⟨_, he⟩, _⟩ := st; wpAny_pyIter_enum he h
def iEnumA (K : PySem.W.Frag) (ta : TA) : TI := fun σ H R => ta σ H fun vs H1 => ∃ a xs, vs = [.ref a] ∧ ((SqL K H1 a xs ∧ R (Ite K a) H1) ∨ (SqT K H1 a xs ∧ R (IteT K a) H1))
theorem pi_enumA {X : Cx} {e : Expr} {ta : TA} {p pos tpos : Pos} {elts : List Expr} {kk : Nat} (hg : Gl X "enumerate") (hm : X.mg "enumerate" = none) (ha : PA X [e] ta) (hs : starEach [e] X.env = [(false, eval e X.env)] := by rfl) :
    PI X (.Tuple elts kk tpos) (.Call (.Name "enumerate" p) [e] [] pos) (iEnumA X.K ta) := by
  refine ⟨fun pins s σ H R I h => ?_⟩
  refine Call_ (ld_blt I hg hm boot_enumerate (PyProof.Rows.callWith_type1 (thn (ha.run pos pins s σ H _ I h) fun us s1 ⟨vs, H1, I1, r1, q1⟩ => ?_) hs rfl))
  obtain ⟨a, xs, ex, q⟩ := q1
  subst ex
  have fp : ∀ b ∈ [s1.heap.objs.size + 1, s1.heap.objs.size], FpOk X pins H1 b := fun b hb => by
    have e' : b = s1.heap.objs.size + 1 ∨ b = s1.heap.objs.size := by simpa using hb
    have hle : s1.heap.objs.size ≤ b := by
      rcases e' with z | z
      · rw [z]; exact Nat.le_add_right _ _
      · rw [z]; exact Nat.le_refl _
    exact I1.fpOk hle (I1.hok.fresh hle)
  cases r1 with
  | cons r rr =>
    cases rr
    cases r
    rcases q with ⟨hq, q⟩ | ⟨hq, q⟩
    · obtain ⟨its, rv, p', hz⟩ := I1.list hq
      refine call_enumerate_list p'.isList fun h' he hit hsz hk => wpAny_pyIter_enum he ?_
      have I2 : Inv X pins σ H1 { s1 with heap := h' } := I1.kept (t' := s1.toks) hk
      exact ⟨s1.heap.objs.size + 1, [s1.heap.objs.size + 1, s1.heap.objs.size], _, _, H1, rfl, I2, turn_enum a (s1.heap.objs.size + 1) s1.heap.objs.size, ⟨⟨.none, he⟩, hit, Nat.succ_ne_self _⟩, fp, q⟩
    · obtain ⟨its, rv, p', hz⟩ := I1.tuple hq
      have hal : a < s1.heap.objs.size := p'.lt
      refine call_enumerate_tuple (show s1.heap.IsTuple a its.toArray from p') fun h' he hit hsz hk => wpAny_pyIter_enum he ?_
      have I2 : Inv X pins σ H1 { s1 with heap := h' } := I1.kept (t' := s1.toks) hk
      exact ⟨s1.heap.objs.size + 1, [s1.heap.objs.size + 1, s1.heap.objs.size], _, _, H1, rfl, I2, turn_enumT a (s1.heap.objs.size + 1) s1.heap.objs.size (Nat.ne_of_lt hal) (Nat.ne_of_lt (Nat.lt_succ_of_lt hal)), ⟨⟨.none, he⟩, hit, Nat.succ_ne_self _⟩, fp, q⟩
theorem walk_enumT {K : PySem.W.Frag} {a : Addr} {xs : List V} : Walk (IteT K a) xs.length (fun H => SqT K H a xs) (YPair (fun i => some (.int (i : Nat))) (fun i => xs[i]?)) := by
  refine ⟨fun i _ hi q => ⟨xs, xs[i], q, by simp [hi]⟩, fun _ q => ⟨xs, q, Nat.le_refl _⟩, fun i H v H' _ q y => ?_⟩
  obtain ⟨T, x, h1, h2, h3, h4⟩ := y
  exact ⟨T, .int (i : Nat), x, h1, h2, h3, rfl, h4 xs q⟩
theorem walk_zipT {K : PySem.W.Frag} {a b : Addr} {xs ys : List V} {n : Nat} (hn : n = min xs.length ys.length) : Walk (RZ.ItzT K a b) n (fun H => SqT K H a xs ∧ SqT K H b ys) (YPair (fun i => xs[i]?) (fun i => ys[i]?)) := by
  subst hn
  refine ⟨fun i _ hi q => ?_, fun _ q => ⟨xs, ys, q.1, q.2, by omega⟩, fun i H v H' _ q y => ?_⟩
  · have h1 : i < xs.length := by omega
    have h2 : i < ys.length := by omega
    exact ⟨xs, ys, xs[i], ys[i], q.1, q.2, by simp [h1], by simp [h2]⟩
  · obtain ⟨T, x, z, h1, h2, h3, h4, h5⟩ := y
    exact ⟨T, x, z, h1, h2, h3, h4 xs q.1, h5 ys q.2⟩
end
end L2
namespace PM
open PySem L2
/-- items that come in new pairs -/
theorem itok_pair {K : PySem.W.Frag} {Z : Addr → Prop} {W : Ws} {H : Hp} {J : It} {n : Nat} {Gd : Hp → Prop} {xs ys : Nat → Option V} {items : List PV} (hn : items.length = n) (wk : Walk J n Gd (YPair xs ys))
    (hst : ∀ Z2 W2 H2, Ext ⟨Z, W, H⟩ ⟨Z2, W2, H2⟩ → Gd H2 ∧ ∀ (i : Nat) (p : PV) (x y : V), items[i]? = some p → xs i = some x → ys i = some y → ∃ a b, p = .tup [a, b] ∧ Rp K ⟨Z2, W2, H2⟩ a x ∧ Rp K ⟨Z2, W2, H2⟩ b y) : ItOk K Z W H [] J items := by
  refine ⟨Gd, YPair xs ys, by rw [hn]; exact wk, fun Z2 W2 H2 x hz _ => ?_⟩
  obtain ⟨g, k⟩ := hst Z2 W2 H2 x
  refine ⟨g, fun i v H3 p hp y => ?_⟩
  obtain ⟨T, u, w, rfl, nT, rfl, h1, h2⟩ := y
  obtain ⟨a, b, rfl, ra, rb⟩ := k i p u w hp h1 h2
  have ga : GrowA H2 (upd H2 T (.tup [u, w])) := GrowA.new nT
  have nz : ¬ Z2 T := fun z => by obtain ⟨o, e⟩ := hz T z; rw [nT] at e; cases e
  have x2 : Ext ⟨Z2, W2, H2⟩ ⟨Z2, W2, upd H2 T (.tup [u, w])⟩ := ⟨fun b o hb e => ⟨hb, ga b o e⟩, fun _ h => h⟩
  refine ⟨ga, ?_⟩
  unfold Rp
  exact ⟨T, [u, w], rfl, .inl ⟨nz, upd_same⟩, Rps.cons (Rp.ext x2 ra) (Rps.cons (Rp.ext x2 rb) Rps.nil)⟩
def enumP (ps : List PV) : List PV := (List.range ps.length).map fun i => .tup [.int (i : Nat), ps.getD i .non]
def zipP (ps qs : List PV) : List PV := List.zipWith (fun a b => .tup [a, b]) ps qs
theorem enumP_get {ps : List PV} {i : Nat} {p : PV} (h : (enumP ps)[i]? = some p) : ∃ q, ps[i]? = some q ∧ p = .tup [.int (i : Nat), q] := by
  unfold enumP at h
  obtain ⟨hi, e⟩ := List.getElem?_eq_some_iff.mp h
  rw [List.length_map, List.length_range] at hi
  rw [List.getElem_map, List.getElem_range] at e
  refine ⟨ps[i], List.getElem?_eq_getElem hi, ?_⟩
  rw [← e, List.getD_eq_getElem?_getD, List.getElem?_eq_getElem hi]
  rfl
section
variable {X : Cx} {c : List Ow} {e e2 : Expr} {te te2 : TEm} {p pos tpos : Pos} {elts : List Expr} {kk : Nat}
def mEnum (te : TEm) : TIm := fun env P => te env fun p => ∃ ps, seqP p = some ps ∧ P (enumP ps)
theorem im_enum (hm : X.mg "enumerate" = none) (he : PEm X c .cl e te) (hg : Gl X "enumerate" := by rfl) (hs0 : starEach [e] X.env = (false, eval e X.env) :: starEach [] X.env := by rfl) (hs : starEach [e] X.env = [(false, eval e X.env)] := by rfl) :
    PIm X c none (.Tuple elts kk tpos) (.Call (.Name "enumerate" p) [e] [] pos) (mEnum te) := ⟨⟨fun pins s σ H R I h => (pi_enumA hg hm (pa_cons he.run pa_nil hs0) hs).run pins s σ H R I (by
  obtain ⟨G, A, W, env, P, R, h, k⟩ := h
  refine ⟨G, A, W, env, _, R, h, fun p v H1 g rv ⟨ps, hp, h1⟩ => ?_⟩
  have hl : (enumP ps).length = ps.length := by unfold enumP; rw [List.length_map, List.length_range]
  have rv' := rv.c
  cases p with
  | lst qs =>
    obtain rfl : qs = ps := Option.some.inj hp
    unfold Rp at rv'
    obtain ⟨a, vs, rfl, e, r⟩ := rv'
    refine ⟨a, vs, rfl, .inl ⟨e.sq, k _ _ H1 [] g rfl (itok_pair (hl.trans r.len) walk_enum fun Z2 W2 H2 x => ⟨(e.ext x).sq, fun i q u w hq h2 h3 => ?_⟩) h1⟩⟩
    obtain ⟨q0, hq0, rfl⟩ := enumP_get hq
    obtain ⟨w', hw', rw'⟩ := r.get hq0
    rw [h3] at hw'; cases hw'
    cases h2
    exact ⟨_, _, rfl, Rp.int', Rp.ext x rw'⟩
  | tup qs =>
    obtain rfl : qs = ps := Option.some.inj hp
    unfold Rp at rv'
    obtain ⟨a, vs, rfl, e, r⟩ := rv'
    refine ⟨a, vs, rfl, .inr ⟨e.sq, k _ _ H1 [] g rfl (itok_pair (hl.trans r.len) walk_enumT fun Z2 W2 H2 x => ⟨(e.ext x).sq, fun i q u w hq h2 h3 => ?_⟩) h1⟩⟩
    obtain ⟨q0, hq0, rfl⟩ := enumP_get hq
    obtain ⟨w', hw', rw'⟩ := r.get hq0
    rw [h3] at hw'; cases hw'
    cases h2
    exact ⟨_, _, rfl, Rp.int', Rp.ext x rw'⟩
  | _ => cases hp)⟩⟩
/-- zip of two lists, or of two tuples -/
def mZip (te te2 : TEm) : TIm := fun env P => te env fun x => te2 env fun y => match x, y with
  | .lst ps, .lst qs => P (zipP ps qs)
  | .tup ps, .tup qs => P (zipP ps qs)
  | _, _ => False
theorem zipP_get {ps qs : List PV} {i : Nat} {p : PV} (h : (zipP ps qs)[i]? = some p) : ∃ a b, ps[i]? = some a ∧ qs[i]? = some b ∧ p = .tup [a, b] := by
  unfold zipP at h
  rw [List.getElem?_zipWith] at h
  cases h1 : ps[i]? with
  | none => rw [h1] at h; cases h
  | some a =>
    cases h2 : qs[i]? with
    | none => rw [h1, h2] at h; cases h
    | some b => rw [h1, h2] at h; cases h; exact ⟨a, b, rfl, rfl, rfl⟩
theorem im_zip (hm : X.mg "zip" = none) (he : PEm X c .cl e te) (he2 : PEm X c .cl e2 te2) (hg : Gl X "zip" := by rfl) (hs0 : starEach [e, e2] X.env = (false, eval e X.env) :: starEach [e2] X.env := by rfl) (hs1 : starEach [e2] X.env = (false, eval e2 X.env) :: starEach [] X.env := by rfl)
    (hs2 : (backTo pos (starEach [e2] X.env)).any (·.1) = false := by rfl) :
    PIm X c none (.Tuple elts kk tpos) (.Call (.Name "zip" p) [e, e2] [] pos) (mZip te te2) := ⟨⟨fun pins s σ H R I h => (RZ.pi_zipA hg hm (pa_cons he.run (pa_cons he2.run pa_nil hs1) hs0) hs0 hs2).run pins s σ H R I (by
  obtain ⟨G, A, W, env, P, R, h, k⟩ := h
  refine ⟨G, A, W, env, _, R, h, fun p v H1 g rv h1 => ⟨G, A, W, env, _, R.grow g, h1, fun q w H2 g2 rw2 h2 => ?_⟩⟩
  have rv' := Rp.ext (g2.ext R.sz) rv.c
  have rw' := rw2.c
  cases p with
  | lst ps =>
    cases q with
    | lst qs =>
      unfold Rp at rv' rw'
      obtain ⟨a, vs, rfl, e, r⟩ := rv'
      obtain ⟨b, ws, rfl, e', r'⟩ := rw'
      have hl : (zipP ps qs).length = min vs.length ws.length := by unfold zipP; rw [List.length_zipWith, r.len, r'.len]
      refine ⟨a, b, vs, ws, rfl, .inl ⟨e.sq, e'.sq, k _ _ H2 [] (g.trans g2) rfl (itok_pair hl (walk_zip rfl) fun Z2 W2 H3 x => ⟨⟨(e.ext x).sq, (e'.ext x).sq⟩, fun i q u w hq h3 h4 => ?_⟩) h2⟩⟩
      obtain ⟨a0, b0, ha, hb, rfl⟩ := zipP_get hq
      obtain ⟨u', hu', ru'⟩ := r.get ha
      obtain ⟨w', hw', rw'⟩ := r'.get hb
      rw [h3] at hu'; cases hu'
      rw [h4] at hw'; cases hw'
      exact ⟨_, _, rfl, Rp.ext x ru', Rp.ext x rw'⟩
    | _ => exact h2.elim
  | tup ps =>
    cases q with
    | tup qs =>
      unfold Rp at rv' rw'
      obtain ⟨a, vs, rfl, e, r⟩ := rv'
      obtain ⟨b, ws, rfl, e', r'⟩ := rw'
      have hl : (zipP ps qs).length = min vs.length ws.length := by unfold zipP; rw [List.length_zipWith, r.len, r'.len]
      refine ⟨a, b, vs, ws, rfl, .inr ⟨e.sq, e'.sq, k _ _ H2 [] (g.trans g2) rfl (itok_pair hl (walk_zipT rfl) fun Z2 W2 H3 x => ⟨⟨(e.ext x).sq, (e'.ext x).sq⟩, fun i q u w hq h3 h4 => ?_⟩) h2⟩⟩
      obtain ⟨a0, b0, ha, hb, rfl⟩ := zipP_get hq
      obtain ⟨u', hu', ru'⟩ := r.get ha
      obtain ⟨w', hw', rw'⟩ := r'.get hb
      rw [h3] at hu'; cases hu'
      rw [h4] at hw'; cases hw'
      exact ⟨_, _, rfl, Rp.ext x ru', Rp.ext x rw'⟩
    | _ => exact h2.elim
  | _ => exact h2.elim)⟩⟩
end
end PM

set_option maxHeartbeats 1000000
/-! PM: several names at once, views of any line, dicts. -/
namespace PM
open PySem L2

/-! ### several names at once -/
def Gh.shun (G : Gh) (a : Addr) : Gh := { G with zb := fun b => G.zb b ∨ b = a }
section
variable {K : PySem.W.Frag} {G : Gh} {c : List Ow} {A : Nat → Option Addr} {W : Ws} {env : Env} {σ : St} {H H1 H' : Hp}
theorem zt_shun {a b : Addr} (h : Zt (G.shun a) A W b) : Zt G A W b ∨ b = a := by
  rcases h with (h | h) | h | h
  · exact .inl (.inl h)
  · exact .inr h
  · exact .inl (.inr (.inl h))
  · exact .inl (.inr (.inr h))
/-- a new thing that is to be left alone -/
theorem SR.shun (R : SR K G c A W env σ H) (g : Grow W H H1) {a : Addr} (n : H a = none) (t : ∃ o, H1 a = some o) : SR K (G.shun a) c A W env σ H1 := by
  have R1 := R.grow g
  have nt : ∀ b o, H b = some o → b ≠ a := fun b o e z => by rw [z, n] at e; cases e
  have x : Ext ⟨Zt G A W, W, H⟩ ⟨Zt (G.shun a) A W, W, H1⟩ := ⟨fun b o hz e => ⟨fun z => (zt_shun z).elim hz (nt b o e), g.keep b o (fun w => hz (Zt.w w)) e⟩, fun _ h => h⟩
  refine ⟨R1.len, R1.W0in, R1.Wmin, R1.Wnew, R1.Wfix, R1.src, R1.keep, fun b hb => ?_, fun i b e => ?_, R1.Ainj, R1.Aset, fun i p e => ?_, R1.pins, fun b o e => ?_⟩
  · rcases hb with hb | hb
    · exact R1.zbt b hb
    · rw [hb]; exact t
  · obtain ⟨h1, h2, h3, h4, h5⟩ := R1.Asep i b e
    obtain ⟨o, e2⟩ := (R.Asep i b e).2.2.2.2
    exact ⟨h1, h2, fun z => z.elim h3 (nt b o e2), h4, h5⟩
  · obtain ⟨v, h1, h2⟩ := R.slots i p e
    refine ⟨v, h1, ?_⟩
    cases hA : A i with
    | none => rw [hA] at h2; exact Rp.ext x h2
    | some b =>
      rw [hA] at h2
      obtain ⟨_, n2, _, _, o, ho⟩ := R.Asep i b hA
      exact ⟨h2.1, h2.2.ext x (by show H1 b = H b; rw [ho, g.keep b o n2 ho])⟩
  · obtain ⟨h1, h2⟩ := R.fz b o e
    exact ⟨(R1.fz b o e).1, fun z => (zt_shun z).elim h2 (nt b o h1)⟩
/-- values made one behind the other, the new ones each apart -/
inductive Chn (K : PySem.W.Frag) (W : Ws) : (Addr → Prop) → Hp → List Md → List PV → List V → Hp → Prop
  | nil {Z : Addr → Prop} {H : Hp} : Chn K W Z H [] [] [] H
  | cl {Z : Addr → Prop} {H H1 H' : Hp} {ms : List Md} {p : PV} {ps : List PV} {v : V} {vs : List V} : Grow W H H1 → VK1 K .cl Z W H H1 p v → Chn K W Z H1 ms ps vs H' → Chn K W Z H (.cl :: ms) (p :: ps) (v :: vs) H'
  | fr {Z : Addr → Prop} {H H1 H' : Hp} {ms : List Md} {p : PV} {ps : List PV} {a : Addr} {vs : List V} : Grow W H H1 → H a = none → OwnAt K ⟨fun b => Z b ∨ b = a, W, H1⟩ a p → Chn K W (fun b => Z b ∨ b = a) H1 ms ps vs H' → Chn K W Z H (.fr :: ms) (p :: ps) (.ref a :: vs) H'
theorem Chn.less {Z Z' : Addr → Prop} {ms : List Md} {ps : List PV} {vs : List V} (h : Chn K W Z H ms ps vs H') (k : ∀ b, Z' b → Z b) : Chn K W Z' H ms ps vs H' := by
  induction h generalizing Z' with
  | nil => exact .nil
  | cl g r _ ih => exact .cl g (VK1.ofRp (Rp.ext (ext_less k) r.c)) (ih k)
  | fr g n o _ ih =>
    exact .fr g n (o.less fun b z => z.imp (k b) id) (ih fun b z => z.imp (k b) id)
theorem Chn.grow {Z : Addr → Prop} {ms : List Md} {ps : List PV} {vs : List V} (h : Chn K W Z H ms ps vs H') (hs : ∀ p ∈ W, SA H p) : Grow W H H' := by
  induction h with
  | nil => exact Grow.refl hs
  | cl g r _ ih => exact g.trans (ih g.src)
  | fr g n o _ ih => exact g.trans (ih g.src)
def tmX (K : PySem.W.Frag) (c : List Ow) (ms : List Md) (t : TAm) : TA := fun σ H Q => ∃ G A W env P, SR K G c A W env σ H ∧ t env P ∧ ∀ ps vs H', Chn K W (Zt G A W) H ms ps vs H' → P ps → Q vs H'
structure PXm (X : Cx) (c : List Ow) (ms : List Md) (es : List Expr) (t : TAm) : Prop where
  run : PA X es (tmX X.K c ms t)
theorem OwnAt.tr {S : Wd} {a : Addr} {p : PV} (h : OwnAt K S a p) : ∃ o, S.H a = some o := by
  cases p with
  | lst ps => obtain ⟨vs, e, _⟩ := h; exact ⟨_, e⟩
  | dic ks ps => obtain ⟨vs, e, _⟩ := h; exact ⟨_, e⟩
  | obj C ns ps => obtain ⟨dx, vs, e, _⟩ := h; exact ⟨_, e⟩
  | _ => exact h.elim
variable {X : Cx} {e : Expr} {es : List Expr} {te : TEm} {t : TAm} {ms : List Md}
theorem xm_nil : PXm X c [] [] mNil := ⟨pa_nil.weak fun σ H Q h => by
  obtain ⟨G, A, W, env, P, R, h, k⟩ := h
  exact k [] [] H .nil h⟩
theorem xm_cl (ha : PEm X c .cl e te) (hr : PXm X c ms es t) (hs : starEach (e :: es) X.env = (false, eval e X.env) :: starEach es X.env := by rfl) : PXm X c (.cl :: ms) (e :: es) (mCons te t) := ⟨(pa_cons ha.run hr.run hs).weak fun σ H Q h => by
  obtain ⟨G, A, W, env, P, R, h, k⟩ := h
  exact ⟨G, A, W, env, _, R, h, fun px vx H1 g1 rx h1 => ⟨G, A, W, env, _, R.grow g1, h1, fun ps vs H2 ch h2 => k _ _ H2 (.cl g1 rx ch) h2⟩⟩⟩
theorem xm_fr (ha : PEm X c .fr e te) (hr : PXm X c ms es t) (hs : starEach (e :: es) X.env = (false, eval e X.env) :: starEach es X.env := by rfl) : PXm X c (.fr :: ms) (e :: es) (mCons te t) := ⟨(pa_cons ha.run hr.run hs).weak fun σ H Q h => by
  obtain ⟨G, A, W, env, P, R, h, k⟩ := h
  refine ⟨G, A, W, env, _, R, h, fun px vx H1 g1 rx h1 => ?_⟩
  obtain ⟨a, rfl, n, o⟩ := rx
  exact ⟨G.shun a, A, W, env, _, R.shun g1 n o.tr, h1, fun ps vs H2 ch h2 => k _ _ H2 (.fr g1 n o (ch.less fun b z => by
    rcases z with z | z
    · rcases z with z | z | z
      · exact .inl (.inl z)
      · exact .inr (.inl z)
      · exact .inr (.inr z)
    · exact .inl (.inr z))) h2⟩⟩
def mdO : Md → Ow
  | .fr => .ow
  | _ => .sh
/-- one name takes the first of them -/
theorem SR.chn {md : Md} {i : Nat} {p : PV} {v : V} {ps : List PV} {vs : List V} (R : SR K G c A W env σ H) (h : Chn K W (Zt G A W) H (md :: ms) (p :: ps) (v :: vs) H') (hi : i < c.length) (hl : cO c i ≠ .lk) :
    ∃ A1 H1, SR K G (c.set i (mdO md)) A1 W (env.set i (some p)) (σ.set i (some v)) H1 ∧ Chn K W (Zt G A1 W) H1 ms ps vs H' := by
  cases h with
  | cl g r ch => exact ⟨_, _, (R.grow g).set_sh hl r.c, ch.less fun b z => zt_drop z⟩
  | fr g n o ch =>
    refine ⟨_, _, R.set_ow hi hl g n o, ch.less fun b z => ?_⟩
    rcases z with z | z | ⟨j, z⟩
    · exact .inl (.inl z)
    · exact .inl (.inr (.inl z))
    · by_cases hj : j = i
      · subst hj; rw [putA_eq] at z; cases z; exact .inr rfl
      · rw [putA_ne hj] at z; exact .inl (.inr (.inr ⟨j, z⟩))
variable {f : Fx}
def setN {α : Type} (env : List (Option α)) : List Nat → List α → List (Option α)
  | i :: is, p :: ps => setN (env.set i (some p)) is ps
  | _, _ => env
def putMs (c : List Ow) : List Nat → List Md → List Ow
  | i :: is, m :: ms => putMs (c.set i (mdO m)) is ms
  | _, _ => c
def okPut (c : List Ow) : List Nat → List Md → Bool
  | i :: is, m :: ms => decide (i < c.length) && !decide (cO c i = .lk) && okPut (c.set i (mdO m)) is ms
  | [], [] => true
  | _, _ => false
theorem Chn.len {Z : Addr → Prop} {ps : List PV} {vs : List V} (h : Chn K W Z H ms ps vs H') : ms.length = ps.length ∧ ms.length = vs.length := by
  induction h with
  | nil => exact ⟨rfl, rfl⟩
  | cl _ _ _ ih => exact ⟨by rw [List.length_cons, List.length_cons, ih.1], by rw [List.length_cons, List.length_cons, ih.2]⟩
  | fr _ _ _ _ ih => exact ⟨by rw [List.length_cons, List.length_cons, ih.1], by rw [List.length_cons, List.length_cons, ih.2]⟩
theorem SR.chnN : ∀ {is : List Nat} {ms : List Md} {c : List Ow} {A : Nat → Option Addr} {env : Env} {σ : St} {H : Hp} {ps : List PV} {vs : List V}, SR K G c A W env σ H → Chn K W (Zt G A W) H ms ps vs H' → okPut c is ms = true → ∃ A', SR K G (putMs c is ms) A' W (setN env is ps) (setN σ is vs) H'
  | [], [], _, _, _, _, _, _, _, R, h, _ => by cases h; exact ⟨_, R⟩
  | [], _ :: _, _, _, _, _, _, _, _, _, _, ok => by cases ok
  | _ :: _, [], _, _, _, _, _, _, _, _, _, ok => by cases ok
  | i :: is, m :: ms, c, A, env, σ, H, ps, vs, R, h, ok => by
    have ok' : (decide (i < c.length) && !decide (cO c i = .lk) && okPut (c.set i (mdO m)) is ms) = true := ok
    rw [Bool.and_eq_true, Bool.and_eq_true] at ok'
    obtain ⟨⟨h1, h2⟩, h3⟩ := ok'
    have h2' : cO c i ≠ .lk := fun z => by rw [decide_eq_true z] at h2; cases h2
    cases ps with
    | nil => cases h
    | cons p ps =>
      cases vs with
      | nil => cases h
      | cons v vs =>
        obtain ⟨A1, H1, R1, ch⟩ := R.chn h (of_decide_eq_true h1) h2'
        have q := SR.chnN R1 ch h3
        exact q
def sPar (is : List Nat) (t : TAm) : TSm := fun M env => t env fun ps => M.nx (setN env is ps)
theorem sm_par {i j : Nat} {x y : Str} {a b : Expr} {px py pt pos : Pos} {kt k2 : Nat} {pt2 : Pos} (is : List Nat) (hc : X.calm = true) (hN : X.N.Nodup) (ha : PXm X c ms [a, b] t) (he : is = [i, j] := by rfl) (hi : X.N[i]? = some x := by rfl) (hj : X.N[j]? = some y := by rfl) (hij : i ≠ j := by decide)
    (hx : X.env.scope.names.lookup x = some .local := by rfl) (hy : X.env.scope.names.lookup y = some .local := by rfl) (ok : okPut c is ms = true := by decide)
    (hw : swappedStores [.Tuple [.Name x px, .Name y py] kt pt] (.Tuple [a, b] k2 pt2) X.env = pure (some [x, y]) := by rfl)
    (hs : swapsWithSole [.Tuple [.Name x px, .Name y py] kt pt] (.Tuple [a, b] k2 pt2) pos.line X.env = pure false := by rfl) :
    PSm X f c (putMs c is ms) (.Assign [.Tuple [.Name x px, .Name y py] kt pt] (.Tuple [a, b] k2 pt2) pos) (sPar is t) := ⟨(ps_par hc hN hi hj hij hx hy ha.run hw hs).weak fun D σ H h => by
  subst he
  obtain ⟨G, A, W, env, M, hg, R, h, k⟩ := h
  refine ⟨G, A, W, env, _, R, h, fun ps vs H2 ch h2 => ?_⟩
  obtain ⟨A', R'⟩ := R.chnN ch ok
  obtain ⟨v, w, rfl⟩ : ∃ v w, vs = [v, w] := by
    cases ms with
    | nil => cases ok
    | cons m1 ms =>
      cases ms with
      | nil => unfold okPut okPut at ok; rw [Bool.and_false] at ok; cases ok
      | cons m2 ms =>
        cases ms with
        | cons m3 ms => unfold okPut okPut okPut at ok; rw [Bool.and_false, Bool.and_false] at ok; cases ok
        | nil =>
          have hl := ch.len.2
          cases vs with
          | nil => cases hl
          | cons v vs =>
            cases vs with
            | nil => cases hl
            | cons w vs =>
              cases vs with
              | nil => exact ⟨v, w, rfl⟩
              | cons _ _ => cases hl
  exact ⟨v, w, rfl, k.nx _ _ _ _ _ R' h2⟩⟩
theorem sm_par3 {i j l : Nat} {x y z : Str} {a b d : Expr} {px py pz pt pos : Pos} {kt k2 : Nat} {pt2 : Pos} (is : List Nat) (hc : X.calm = true) (hN : X.N.Nodup) (ha : PXm X c ms [a, b, d] t) (he : is = [i, j, l] := by rfl) (hi : X.N[i]? = some x := by rfl) (hj : X.N[j]? = some y := by rfl) (hl : X.N[l]? = some z := by rfl) (hij : i ≠ j := by decide) (hil : i ≠ l := by decide) (hjl : j ≠ l := by decide)
    (hx : X.env.scope.names.lookup x = some .local := by rfl) (hy : X.env.scope.names.lookup y = some .local := by rfl) (hz : X.env.scope.names.lookup z = some .local := by rfl) (ok : okPut c is ms = true := by decide)
    (hw : swappedStores [.Tuple [.Name x px, .Name y py, .Name z pz] kt pt] (.Tuple [a, b, d] k2 pt2) X.env = pure (some [x, y, z]) := by rfl)
    (hs : swapsWithSole [.Tuple [.Name x px, .Name y py, .Name z pz] kt pt] (.Tuple [a, b, d] k2 pt2) pos.line X.env = pure false := by rfl) :
    PSm X f c (putMs c is ms) (.Assign [.Tuple [.Name x px, .Name y py, .Name z pz] kt pt] (.Tuple [a, b, d] k2 pt2) pos) (sPar is t) := ⟨(ps_par3 hc hN hi hj hl hij hil hjl hx hy hz ha.run hw hs).weak fun D σ H h => by
  subst he
  obtain ⟨G, A, W, env, M, hg, R, h, k⟩ := h
  refine ⟨G, A, W, env, _, R, h, fun ps vs H2 ch h2 => ?_⟩
  obtain ⟨A', R'⟩ := R.chnN ch ok
  obtain ⟨v, w, u, rfl⟩ : ∃ v w u, vs = [v, w, u] := by
    cases ms with
    | nil => cases ok
    | cons m1 ms =>
      cases ms with
      | nil => unfold okPut okPut at ok; rw [Bool.and_false] at ok; cases ok
      | cons m2 ms =>
        cases ms with
        | nil => unfold okPut okPut okPut at ok; rw [Bool.and_false, Bool.and_false] at ok; cases ok
        | cons m3 ms =>
          cases ms with
          | cons m4 ms => unfold okPut okPut okPut okPut at ok; rw [Bool.and_false, Bool.and_false, Bool.and_false] at ok; cases ok
          | nil =>
            have hl := ch.len.2
            cases vs with
            | nil => cases hl
            | cons v vs =>
              cases vs with
              | nil => cases hl
              | cons w vs =>
                cases vs with
                | nil => cases hl
                | cons u vs =>
                  cases vs with
                  | nil => exact ⟨v, w, u, rfl⟩
                  | cons _ _ => cases hl
  exact ⟨v, w, u, rfl, k.nx _ _ _ _ _ R' h2⟩⟩
/-- the same by way of a tuple -/
def gNs (is : List Nat) : TGs := fun vs σ H Q => vs.length = is.length ∧ Q (setN σ is vs) H
theorem pgs_n0 : PGs X [] (gNs []) := ⟨fun pins s σ H vs us Q I r h => pgs_nil.run pins s σ H vs us Q I r (by
  obtain ⟨e, h⟩ := h
  cases vs with
  | nil => exact ⟨rfl, h⟩
  | cons _ _ => cases e)⟩
theorem pgs_n {i : Nat} {is : List Nat} {x : Str} {p : Pos} (hN : X.N.Nodup) (h2 : PGs X es (gNs is)) (hi : X.N[i]? = some x := by rfl) (hx : Loc X.env.scope x := by first | exact Or.inl rfl | exact Or.inr rfl) (hf : X.fn x = true ∨ X.env.scope.names.lookup x = some .local := by first | exact .inl rfl | exact .inr rfl | assumption)
    (hs : (assignEach (.Name x p :: es) X.env).map (·.2) = assign (.Name x p) X.env :: (assignEach es X.env).map (·.2) := by rfl) : PGs X (.Name x p :: es) (gNs (i :: is)) := ⟨fun pins s σ H vs us Q I r h => (pgs_cons (pg_name hN hi hx hf) h2 hs).run pins s σ H vs us Q I r (by
  obtain ⟨e, h⟩ := h
  cases vs with
  | nil => cases e
  | cons v vs => exact ⟨v, vs, rfl, Nat.succ.inj e, h⟩)⟩
theorem okPut_len : ∀ {is : List Nat} {ms : List Md} {c : List Ow}, okPut c is ms = true → is.length = ms.length
  | [], [], _, _ => rfl
  | [], _ :: _, _, h => by cases h
  | _ :: _, [], _, h => by cases h
  | i :: is, m :: ms, c, h => by
    unfold okPut at h
    rw [Bool.and_eq_true] at h
    rw [List.length_cons, List.length_cons, okPut_len h.2]
theorem sm_parG {tgs : List Expr} {pt pos : Pos} {kt k2 n : Nat} {pt2 : Pos} (is : List Nat) (hc : X.calm = true) (hg : PGs X tgs (gNs is)) (ha : PXm X c ms es t) (ok : okPut c is ms = true := by decide) (hl : is.length ≤ sizeLine := by decide)
    (hs : swapsWithSole [.Tuple tgs kt pt] (.Tuple es k2 pt2) pos.line X.env = pure false := by rfl) (hw : swappedStores [.Tuple tgs kt pt] (.Tuple es k2 pt2) X.env = pure none := by rfl)
    (h1 : (assignEach [.Tuple tgs kt pt] X.env).map (·.2) = [assign (.Tuple tgs kt pt) X.env] := by rfl) (hn : (assignEach tgs X.env).length = n := by rfl) (hnl : is.length = n := by rfl) (hst : (assignEach tgs X.env).findIdx? (·.1) = none := by rfl) :
    PSm X f c (putMs c is ms) (.Assign [.Tuple tgs kt pt] (.Tuple es k2 pt2) pos) (sPar is t) := ⟨(ps_asg (pe_tup ha.run) (pg_tup hc hg hn hst) hs hw h1).weak fun D σ H h => by
  obtain ⟨G, A, W, env, M, hgw, R, h, k⟩ := h
  refine ⟨G, A, W, env, _, R, h, fun ps vs H2 ch h2 => ?_⟩
  obtain ⟨A', R'⟩ := R.chnN ch ok
  have hl2 : vs.length = is.length := ch.len.2.symm.trans (okPut_len ok).symm
  refine ⟨by rw [hl2]; exact hl, fun T nT => ⟨T, vs, rfl, .inl (.inl upd_same), hl2.trans hnl, hl2, ?_⟩⟩
  exact k.nx _ _ _ _ _ (R'.grow (Grow.new R'.src nT)) h2⟩
end

/-! ### a part of any line, a line turned round -/
def oSl : PV → Option Int → Option Int → (PV → Prop) → Prop := fun x l u P => match x with
  | .lst ps => P (.lst (cutP ps l u))
  | .tup ps => P (.tup (cutP ps l u))
  | _ => False
def oRev : PO1 := fun x P => match x with
  | .lst ps => P (.lst ps.reverse)
  | .tup ps => P (.tup ps.reverse)
  | _ => False
section
variable {X : Cx} {c : List Ow} {e : Expr} {lo hi : Option Expr} {te : TEm} {tl th : Env → (Option Int → Prop) → Prop} {pos p2 : Pos}
theorem em_sl (he : PEm X c .ow e te) (hl : POm X c lo tl) (hu : POm X c hi th) : PEm X c .cl (.Subscript e (.Slice lo hi none p2) pos) (mSl oSl te tl th) := ⟨(pe_slice (SlR.or sl_list sl_tupA) he.run hl.run hu.run).weak fun σ H Q h => by
  obtain ⟨G, A, W, env, P, R, h, k⟩ := h
  refine ⟨G, A, W, env, _, R, h, fun px vx H1 g1 rx h1 => ⟨G, A, W, env, _, R.grow g1, h1, fun l H2 g2 h2 => ⟨G, A, W, env, _, (R.grow g1).grow g2, h2, fun u H3 g3 h3 => ?_⟩⟩⟩
  have R3 := ((R.grow g1).grow g2).grow g3
  have rx3 := RpO.grow R.sz (g2.trans g3) rx.o
  cases px with
  | lst ps =>
    have h3' : P (.lst (cutP ps l u)) := h3
    obtain ⟨a, vs, rfl, e, r⟩ := RpO.lst rx3
    refine .inl ⟨a, vs, rfl, .inl (.inl e.2), fun p n => k _ _ _ (((g1.trans g2).trans g3).trans (Grow.new R3.src n)) (VK1.ofRp (OwnAt.cl (R3.nz n) (OwnAt.newLst n (r.cut l u)))) h3'⟩
  | tup ps =>
    have h3' : P (.tup (cutP ps l u)) := h3
    have rx4 : Rp X.K ⟨Zt G A W, W, H3⟩ (.tup ps) vx := rx3
    obtain ⟨a, vs, rfl, e, r⟩ := RpO.tup rx3
    refine .inr ⟨a, vs, rfl, e.sq, fun w => ?_, fun _ p n => ?_⟩
    · rw [← r.len] at w
      rw [cut_whole w] at h3'
      exact k _ _ H3 ((g1.trans g2).trans g3) (VK1.ofRp rx4) h3'
    · exact k _ _ _ (((g1.trans g2).trans g3).trans (Grow.new R3.src n)) (VK1.ofRp (Rp.newTup (R3.nz n) n R3.src R.sz (r.cut l u))) h3'
  | _ => exact h3.elim⟩
theorem em_rev {k : Nat} {p1 p3 p4 : Pos} (he : PEm X c .ow e te) : PEm X c .cl (.Subscript e (.Slice none none (some (.UnaryOp .USub (.Constant (.int 1) k p1) p4)) p3) pos) (mOp1 oRev te) := ⟨(pe_revA he.run).weak fun σ H Q h => by
  obtain ⟨G, A, W, env, P, R, h, kk⟩ := h
  refine ⟨G, A, W, env, _, R, h, fun px vx H1 g1 rx h1 => ?_⟩
  have R1 := R.grow g1
  have rx3 := rx.o
  cases px with
  | lst ps =>
    have h3' : P (.lst ps.reverse) := h1
    obtain ⟨a, vs, rfl, e, r⟩ := RpO.lst rx3
    exact ⟨a, vs, rfl, .inl ⟨.inl (.inl e.2), fun p n => kk _ _ _ (g1.trans (Grow.new R1.src n)) (VK1.ofRp (OwnAt.cl (R1.nz n) (OwnAt.newLst n r.reverse))) h3'⟩⟩
  | tup ps =>
    have h3' : P (.tup ps.reverse) := h1
    obtain ⟨a, vs, rfl, e, r⟩ := RpO.tup rx3
    exact ⟨a, vs, rfl, .inr ⟨e.sq, fun p n => kk _ _ _ (g1.trans (Grow.new R1.src n)) (VK1.ofRp (Rp.newTup (R1.nz n) n R1.src R.sz r.reverse)) h3'⟩⟩
  | _ => exact h1.elim⟩
end

/-! ### dicts -/
def pkey : PV → Option Key
  | .int i => some (.inl i)
  | .str x => some (.inr x)
  | _ => none
theorem pkey_v {K : PySem.W.Frag} {Z : Addr → Prop} {W : Ws} {H : Hp} {p : PV} {v : V} {k : Key} (h : pkey p = some k) (r : RpO K ⟨Z, W, H⟩ p v) : v = kV k := by
  cases p with
  | int i => cases h; exact r.int
  | str x => cases h; exact r.str
  | _ => cases h
/-- the place of a key -/
def kAt (ks : List Key) (k : Key) : Option Nat := ks.findIdx? (fun j => decide (j = k))
def kPut (ks : List Key) (vs : List PV) (k : Key) (v : PV) : PV := match kAt ks k with
  | some i => .dic ks (vs.set i v)
  | none => .dic (ks ++ [k]) (vs ++ [v])
theorem valV_zip {k : Key} : ∀ {ks : List Key} {vs : List V}, ks.length = vs.length → valV (ks.zip vs) k = (kAt ks k).bind (vs[·]?)
  | [], [], _ => rfl
  | j :: ks, v :: vs, h => by
    have ih := valV_zip (k := k) (ks := ks) (vs := vs) (by simpa using h)
    unfold kAt at ih ⊢
    rw [List.zip_cons_cons, List.findIdx?_cons]
    by_cases e : j = k
    · rw [valV_pos (p := (j, v)) e, if_pos (decide_eq_true e)]; rfl
    · rw [valV_neg (p := (j, v)) e, ih, if_neg (by simpa using e)]
      cases ks.findIdx? (fun j => decide (j = k)) with
      | none => rfl
      | some i => rfl
theorem kAt_none {ks : List Key} {k : Key} (h : kAt ks k = none) : ∀ j ∈ ks, j ≠ k := fun j hj => by
  unfold kAt at h
  rw [List.findIdx?_eq_none_iff] at h
  exact of_decide_eq_false (h j hj)
theorem map_same {k : Key} {v : V} : ∀ {ks : List Key} {vs : List V}, (∀ j ∈ ks, j ≠ k) → (ks.zip vs).map (fun kv => if kv.1 = k then (kv.1, v) else kv) = ks.zip vs
  | [], _, _ => rfl
  | _ :: _, [], _ => rfl
  | j :: ks, w :: vs, h => by
    rw [List.zip_cons_cons, List.map_cons, map_same (fun i hi => h i (List.mem_cons_of_mem _ hi)), if_neg (h j (List.mem_cons_self ..))]
theorem map_put {k : Key} {v : V} : ∀ {ks : List Key} {vs : List V} {i : Nat}, ks.Nodup → kAt ks k = some i → (ks.zip vs).map (fun kv => if kv.1 = k then (kv.1, v) else kv) = ks.zip (vs.set i v)
  | [], _, _, _, h => by cases h
  | _ :: _, [], i, _, _ => by simp
  | j :: ks, w :: vs, i, hn, h => by
    rw [List.nodup_cons] at hn
    unfold kAt at h
    rw [List.findIdx?_cons] at h
    by_cases e : j = k
    · rw [if_pos (decide_eq_true e)] at h
      cases h
      subst e
      rw [List.zip_cons_cons, List.map_cons, map_same (fun i hi z => hn.1 (by rw [← z]; exact hi)), if_pos rfl, List.set_cons_zero, List.zip_cons_cons]
    · rw [if_neg (by simpa using e)] at h
      cases q : ks.findIdx? (fun j => decide (j = k)) with
      | none => rw [q] at h; cases h
      | some m =>
        rw [q] at h
        cases h
        rw [List.zip_cons_cons, List.map_cons, map_put hn.2 q, if_neg e, List.set_cons_succ, List.zip_cons_cons]
theorem putK_zip {k : Key} {v : V} {ks : List Key} {vs : List V} (hn : ks.Nodup) (hl : ks.length = vs.length) : putK (ks.zip vs) k v = match kAt ks k with
    | some i => ks.zip (vs.set i v)
    | none => (ks ++ [k]).zip (vs ++ [v]) := by
  cases q : kAt ks k with
  | none =>
    have : valV (ks.zip vs) k = none := by rw [valV_zip hl, q]; rfl
    rw [putK_new v this]
    show _ = (ks ++ [k]).zip (vs ++ [v])
    rw [List.zip_append hl]
    rfl
  | some i =>
    have hi : i < vs.length := by
      unfold kAt at q
      obtain ⟨h, _⟩ := List.findIdx?_eq_some_iff_getElem.mp q
      rw [← hl]; exact h
    have : (valV (ks.zip vs) k).isSome = true := by rw [valV_zip hl, q]; simp [hi]
    unfold putK
    rw [valV_any, if_pos this]
    exact map_put hn q
section
variable {X : Cx} {c : List Ow} {e d : Expr} {te td : TEm} {pos p2 : Pos} {md : Md} {f : Fx}
theorem em_dnew : PEm X c .fr (.Dict [] [] pos) (mC (.dic [] [])) := ⟨pe_dnewK.weak fun σ H Q h p n => by
  obtain ⟨G, A, W, env, P, R, h, k⟩ := h
  exact k (.dic [] []) (.ref p) _ (Grow.new R.src n) ⟨p, rfl, n, ⟨[], upd_same, rfl, Rps.nil⟩⟩ h⟩
/-- d[y] -/
def oDGet : PO2 := fun d y P => ∃ ks vs k i v, d = .dic ks vs ∧ pkey y = some k ∧ kAt ks k = some i ∧ vs[i]? = some v ∧ P v
theorem em_dget (hu : X.A.units + 1 < cLine) (hd : PEm X c .ow d td) (he : PEm X c .ow e te) (hs : NoSl e) : PEm X c .cl (.Subscript d e pos) (mOp oDGet td te) := ⟨(pe_dget hu hd.run he.run hs).weak fun σ H Q h => by
  obtain ⟨G, A, W, env, P, R, h, k⟩ := h
  refine ⟨G, A, W, env, _, R, h, fun px vx H1 g1 rx h1 => ⟨G, A, W, env, _, R.grow g1, h1, fun py vy H2 g2 ry h2 => ?_⟩⟩
  obtain ⟨ks, vs, key, i, v, rfl, hk, hi, hv, hp⟩ := h2
  have rx2 := RpO.grow R.sz g2 rx.o
  obtain ⟨a, ws, rfl, hw, hH, hl, r⟩ := rx2
  obtain ⟨w, h3, rw3⟩ := r.get hv
  refine ⟨a, w, rfl, ?_, k v w H2 (g1.trans g2) (VK1.ofRp rw3) hp⟩
  rw [pkey_v hk ry.o]
  have : valV (ks.zip ws) key = some w := by rw [valV_zip hl, hi]; exact h3
  rw [← this]
  exact DGet.k hH⟩
/-- d[k] = e for a dict of one's own -/
def sDPutm (i : Nat) (ti te : TEm) : TSm := fun M env => te env fun p => ∃ ks ps, env[i]? = some (some (.dic ks ps)) ∧ ti env fun q => ∃ k, pkey q = some k ∧ ks.Nodup ∧ ks.length < sizeLine ∧ M.nx (env.set i (some (kPut ks ps k p)))
theorem sm_dput (i : Nat) {x : Str} {p1 p3 : Pos} {ei : Expr} {ti : TEm} (hu : X.A.units + 1 < cLine) (he : PEm X c .cl e te) (hk : PEm X c .ow ei ti) (hN : X.N[i]? = some x := by rfl) (hc : cO c i = .ow := by rfl) (hv : Vis X.env.scope x := by first | exact Or.inl rfl | exact Or.inr (Or.inl rfl) | exact Or.inr (Or.inr rfl)) (hd : (x == ("__debug__" : Str)) = false := by decide)
    (hcd : (x == ("__classdict__" : Str)) = false := by decide) (hs : swapsWith e (some (.Subscript (.Name x p1) ei p3)) pos.line X.env = pure false := by rfl) :
    PSm X f c c (.Assign [.Subscript (.Name x p1) ei p3] e pos) (sDPutm i ti te) := ⟨(ps_dput hu (pe_var hN hv hd hcd) hk.run he.run hs).weak fun D σ H h => by
  obtain ⟨G, A, W, env, M, hg, R, h, k⟩ := h
  refine ⟨G, A, W, env, _, R, h, fun p v H1 g rv ⟨ks, ps, e0, h1⟩ => ?_⟩
  have R1 := R.grow g
  obtain ⟨a, hA⟩ := R1.Aset i _ (by rw [hc]; decide) e0
  obtain ⟨v0, hσ, hh⟩ := R1.slots i _ e0
  rw [hA] at hh
  obtain ⟨rfl, _⟩ := hh
  refine ⟨.ref a, hσ, G, A, W, env, _, R1, h1, fun q w H2 g2 rq ⟨key, hkq, hnd, hsz, h2⟩ => ?_⟩
  have R2 := R1.grow g2
  obtain ⟨v2, _, hh2⟩ := R2.slots i _ e0
  rw [hA] at hh2
  obtain ⟨_, ws, hH2, hl, r2⟩ := hh2
  have rv2 : Rp X.K ⟨Zt G A W, W, H2⟩ p v := Rp.ext (g2.ext R.sz) rv.c
  have hzl : (ks.zip ws).length < sizeLine := by rw [List.length_zip, ← hl, Nat.min_self]; exact hsz
  refine ⟨a, upd H2 a (.dK (putK (ks.zip ws) key v)), rfl, ?_, ?_⟩
  · rw [pkey_v hkq rq.o]
    exact DPut.k hH2 hzl
  · refine k.nx A W _ σ _ (R2.mut e0 hA hc ?_) h2
    have za : Zt G A W a := .inr (.inr ⟨i, hA⟩)
    have x : ∀ o, Ext ⟨Zt G A W, W, H2⟩ ⟨Zt G A W, W, upd H2 a o⟩ := fun o => ⟨fun b w hz e => ⟨hz, by show upd H2 a o b = some w; rw [upd_ne (fun z => hz (by rw [z]; exact za))]; exact e⟩, fun _ h => h⟩
    rw [putK_zip hnd hl]
    unfold kPut
    cases hq : kAt ks key with
    | none => exact ⟨ws ++ [v], upd_same, by rw [List.length_append, List.length_append, hl]; rfl, Rps.ext (x _) (r2.append (Rps.cons rv2 Rps.nil))⟩
    | some j => exact ⟨ws.set j v, upd_same, by rw [List.length_set, hl], Rps.ext (x _) (Rps.set rv2 j r2)⟩⟩
/-- y in d -/
def oDIn (neg : Bool) : PO2 := fun y d P => ∃ ks vs k, d = .dic ks vs ∧ pkey y = some k ∧ P (.bl (xor neg (kAt ks k).isSome))
def rDIn (neg : Bool) : R2 := fun y x H Q => ∃ a o, x = .ref a ∧ DGet H a y o ∧ Q (.bl (xor neg o.isSome)) H
theorem op_din (hu : X.A.units + 1 < cLine) : OpR X (compareOp .In) (rDIn false) := fun pins s σ H x y v u Q I rx ry ⟨a, o, e, g, q⟩ => by
  subst e
  obtain rfl : u = Value.ref a := ry
  refine d_in hu I g rx fun s3 I3 => ⟨_, H, I3, ?_, q⟩
  rw [Bool.false_xor]; rfl
theorem op_dnin (hu : X.A.units + 1 < cLine) : OpR X (compareOp .NotIn) (rDIn true) := fun pins s σ H x y v u Q I rx ry ⟨a, o, e, g, q⟩ => by
  subst e
  obtain rfl : u = Value.ref a := ry
  refine d_notIn hu I g rx fun s3 I3 => ⟨_, H, I3, ?_, q⟩
  rw [Bool.true_xor]; rfl
theorem lift_din {K : PySem.W.Frag} {neg : Bool} : Lift2 K (rDIn neg) (oDIn neg) .cl := by
  rintro Z W H px py vx vy P Q S rx ry ⟨ks, vs, k, rfl, hk, hp⟩ kk
  obtain ⟨a, ws, rfl, hw, hH, hl, r⟩ := ry
  refine ⟨a, valV (ks.zip ws) k, rfl, by rw [pkey_v hk rx]; exact DGet.k hH, ?_⟩
  have : (valV (ks.zip ws) k).isSome = (kAt ks k).isSome := by
    rw [valV_zip hl]
    cases q : kAt ks k with
    | none => rfl
    | some i =>
      have hi : i < ws.length := by
        unfold kAt at q
        obtain ⟨h, _⟩ := List.findIdx?_eq_some_iff_getElem.mp q
        rw [← hl]; exact h
      simp [hi]
  rw [this]
  exact kk _ _ H (Grow.refl S.src) (VK1.ofRp Rp.bl') hp
end

/-! ### a chain of two comparisons -/
def mChain (o o' : PO2) (ta tb tc : TEm) : TEm := fun env P => ta env fun x => tb env fun y => o x y fun z => ∃ k, z = .bl k ∧ if k = true then tc env fun w => o' y w P else P (.bl false)
section
variable {X : Cx} {c : List Ow} {a b d : Expr} {ta tb td : TEm} {pos : Pos} {op op' : CmpOp} {r r' : R2} {o o' : PO2}
theorem tmChain {K : PySem.W.Frag} (L : Lift2 K r o .cl) (L' : Lift2 K r' o' .cl) (σ : St) (H : Hp) (Q : VK) (h : tmE K c .cl (mChain o o' ta tb td) σ H Q) : tChain r r' (tmE K c .ow ta) (tmE K c .ow tb) (tmE K c .ow td) σ H Q := by
  obtain ⟨G, A, W, env, P, R, h, k⟩ := h
  refine ⟨G, A, W, env, _, R, h, fun px vx H1 g1 rx h1 => ⟨G, A, W, env, _, R.grow g1, h1, fun py vy H2 g2 ry h2 => ?_⟩⟩
  have R2 := (R.grow g1).grow g2
  refine L _ W H2 px py vx vy _ _ R2.sit (RpO.grow R.sz g2 rx.o) ry.o h2 fun pz vz H3 g3 rz ⟨j, e, h3⟩ => ⟨j, by subst e; exact VK1.bl rz, ?_⟩
  have R3 := R2.grow g3
  cases j with
  | false => rw [if_neg Bool.false_ne_true] at h3 ⊢; exact k _ _ H3 ((g1.trans g2).trans g3) (VK1.ofRp Rp.bl') h3
  | true =>
    rw [if_pos rfl] at h3 ⊢
    refine ⟨G, A, W, env, _, R3, h3, fun pw vw H4 g4 rw4 h4 => ?_⟩
    exact L' _ W H4 py pw vy vw P Q (R3.grow g4).sit (RpO.grow R.sz (g3.trans g4) ry.o) rw4.o h4 fun p v H5 g5 r5 hp => k p v H5 ((((g1.trans g2).trans g3).trans g4).trans g5) (r5.back (((g1.trans g2).trans g3).trans g4)) hp
theorem em_chain (ho : OpR X (compareOp op) r) (L : Lift2 X.K r o .cl) (ho' : OpR X (compareOp op') r') (L' : Lift2 X.K r' o' .cl) (ha : PEm X c .ow a ta) (hb : PEm X c .ow b tb) (hd : PEm X c .ow d td) (hm : lastMarks [op, op'] [b, d] = false := by with_unfolding_all rfl) :
    PEm X c .cl (.Compare a [op, op'] [b, d] pos) (mChain o o' ta tb td) := ⟨(pe_chain ho ho' ha.run hb.run hd.run hm).weak fun σ H Q h => tmChain L L' σ H Q h⟩
theorem tm_chain (ho : OpR X (compareOp op) r) (L : Lift2 X.K r o .cl) (ho' : OpR X (compareOp op') r') (L' : Lift2 X.K r' o' .cl) (ha : PEm X c .ow a ta) (hb : PEm X c .ow b tb) (hd : PEm X c .ow d td) (hm : lastMarks [op, op'] [b, d] = false := by with_unfolding_all rfl) :
    PTm X c (.Compare a [op, op'] [b, d] pos) (mTB (mChain o o' ta tb td)) := ⟨(pt_chain ho ho' ha.run hb.run hd.run hm).weak fun σ H Q h => by
  obtain ⟨G, A, W, env, P, R, h, k⟩ := h
  refine tmChain L L' σ H _ ⟨G, A, W, env, _, R, h, fun p v H1 g1 r ⟨j, e, h1⟩ => ⟨j, ?_, k j H1 g1 h1⟩⟩
  subst e
  exact VK1.bl r⟩
end
end PM

set_option maxHeartbeats 1000000
/-! PM: great products, the script's parts, x.append(y.pop(e)), sources, the law's def. -/
namespace PM
open PySem L2
section
variable {K : PySem.W.Frag}
def oMulW : PO2 := fun x y P => ∃ i j, x = .int i ∧ y = .int j ∧ CMulW i j ∧ P (.int (i * j))
theorem lift_mulW : Lift2 K (rI CMulW fun i j => .int (i * j)) oMulW .cl := by
  rintro Z W H px py vx vy P Q S rx ry ⟨i, j, rfl, rfl, hc, hp⟩ k
  exact ⟨i, j, rx.int, ry.int, hc, S.fin k Rp.int' hp⟩
end
section
variable {K : PySem.W.Frag}
def oAddI : PO2 := fun x y P => ∃ i j, x = .int i ∧ y = .int j ∧ P (.int (i + j))
theorem lift_addI : Lift2 K (rI0 fun i j => .int (i + j)) oAddI .cl := by
  rintro Z W H px py vx vy P Q S rx ry ⟨i, j, rfl, rfl, hp⟩ k
  exact ⟨i, j, rx.int, ry.int, S.fin k Rp.int' hp⟩
end
def oSlS : PV → Option Int → Option Int → (PV → Prop) → Prop := fun x l u P => ∃ ns : List Int, x = .scr ns ∧ P (.lst (cutP (ns.map .int) l u))
section
variable {X : Cx} {c : List Ow} {e : Expr} {lo hi : Option Expr} {te : TEm} {tl th : Env → (Option Int → Prop) → Prop} {pos p2 : Pos}
theorem em_slS (he : PEm X c .ow e te) (hl : POm X c lo tl) (hu : POm X c hi th) : PEm X c .fr (.Subscript e (.Slice lo hi none p2) pos) (mSl oSlS te tl th) := ⟨(pe_slice sl_list he.run hl.run hu.run).weak fun σ H Q h => by
  obtain ⟨G, A, W, env, P, R, h, k⟩ := h
  refine ⟨G, A, W, env, _, R, h, fun px vx H1 g1 rx h1 => ⟨G, A, W, env, _, R.grow g1, h1, fun l H2 g2 h2 => ⟨G, A, W, env, _, (R.grow g1).grow g2, h2, fun u H3 g3 h3 => ?_⟩⟩⟩
  have R3 := ((R.grow g1).grow g2).grow g3
  obtain ⟨ns, rfl, hp⟩ := h3
  have rx3 := RpO.grow R.sz (g2.trans g3) rx.o
  unfold RpO Rp at rx3
  obtain ⟨a, rfl, e⟩ := rx3
  have e' : SqL X.K H3 a (ns.map V.int) := e.elim (fun z => let ⟨o, w⟩ := z.2; .inl (.inr ⟨o, w⟩)) .inr
  have r : Rps X.K ⟨Zt G A W, W, H3⟩ (ns.map PV.int) (ns.map V.int) := Rps.ints.mpr rfl
  exact ⟨a, _, rfl, e', fun p n => k _ _ _ (((g1.trans g2).trans g3).trans (Grow.new R3.src n)) ⟨p, rfl, ((g1.trans g2).trans g3).free n, OwnAt.newLst n (r.cut l u)⟩ hp⟩⟩
end
/-! ### x.append(y.pop(e)) -/
def sAppPop (i j : Nat) (te : TEm) : TSm := fun M env => ∃ ps qs, env[i]? = some (some (.lst ps)) ∧ env[j]? = some (some (.lst qs)) ∧ te env fun q => ∃ (m : Int) (n : Nat) (p : PV), q = .int m ∧ (-(2 ^ 63) ≤ m ∧ m < 2 ^ 63) ∧ ixN qs.length m = some n ∧ qs[n]? = some p ∧ ps.length < sizeLine ∧
  M.nx ((env.set j (some (.lst (qs.eraseIdx n)))).set i (some (.lst (ps ++ [p]))))
section
variable {X : Cx} {f : Fx} {c : List Ow} {e : Expr} {te : TEm} {pos : Pos}
theorem sm_appPop (i j : Nat) {x y : Str} {p1 p2 cpos p3 p4 cpos2 : Pos} (hij : i ≠ j := by decide) (he : PEm X c .ow e te) (hN : X.N[i]? = some x := by rfl) (hM : X.N[j]? = some y := by rfl) (hc : cO c i = .ow := by rfl) (hc2 : cO c j = .ow := by rfl)
    (hv : Vis X.env.scope x := by first | exact Or.inl rfl | exact Or.inr (Or.inl rfl) | exact Or.inr (Or.inr rfl)) (hd : (x == ("__debug__" : Str)) = false := by decide) (hcd : (x == ("__classdict__" : Str)) = false := by decide)
    (hv2 : Vis X.env.scope y := by first | exact Or.inl rfl | exact Or.inr (Or.inl rfl) | exact Or.inr (Or.inr rfl)) (hd2 : (y == ("__debug__" : Str)) = false := by decide) (hcd2 : (y == ("__classdict__" : Str)) = false := by decide)
    (hbase : attributeBase (.Name x p1) "append" X.env (eval (.Name x p1) X.env) = eval (.Name x p1) X.env := by rfl)
    (hbase2 : attributeBase (.Name y p3) "pop" X.env (eval (.Name y p3) X.env) = eval (.Name y p3) X.env := by rfl)
    (hfew : ((backTo cpos (starEach [.Call (.Attribute (.Name y p3) "pop" p4) [e] [] cpos2] X.env)).all (fun x => !x.1) && (backToKw cpos (keywordEach [] X.env)).all (fun x => x.1.isSome)
      && decide (([.Call (.Attribute (.Name y p3) "pop" p4) [e] [] cpos2] : List Expr).length + ([] : List Keyword).length + (if ([] : List Keyword).isEmpty then 0 else 1) < 30)) = true := by rfl)
    (hfew2 : ((backTo cpos2 (starEach [e] X.env)).all (fun x => !x.1) && (backToKw cpos2 (keywordEach [] X.env)).all (fun x => x.1.isSome)
      && decide (([e] : List Expr).length + ([] : List Keyword).length + (if ([] : List Keyword).isEmpty then 0 else 1) < 30)) = true := by rfl)
    (hline : (p2.endLine == cpos.line) = true := by rfl) (hline2 : (p4.endLine == cpos2.line) = true := by rfl)
    (hs : starEach [.Call (.Attribute (.Name y p3) "pop" p4) [e] [] cpos2] X.env = (false, eval (.Call (.Attribute (.Name y p3) "pop" p4) [e] [] cpos2) X.env) :: starEach [] X.env := by rfl) (hplain : (backTo cpos (starEach [] X.env)).any (·.1) = false := by rfl)
    (hs2 : starEach [e] X.env = (false, eval e X.env) :: starEach [] X.env := by rfl) (hplain2 : (backTo cpos2 (starEach [] X.env)).any (·.1) = false := by rfl)
    (hsw : swapsWith (.Call (.Attribute (.Name x p1) "append" p2) [.Call (.Attribute (.Name y p3) "pop" p4) [e] [] cpos2] [] cpos) none pos.line X.env = pure false := by rfl) :
    PSm X f c c (.Expr (.Call (.Attribute (.Name x p1) "append" p2) [.Call (.Attribute (.Name y p3) "pop" p4) [e] [] cpos2] [] cpos) pos) (sAppPop i j te) :=
  ⟨(ps_expr (pe_bm PySem.F.plainAttrs_list PySem.F.slot_list_append PySem.F.type_list_append mt_append (pe_var hN hv hd hcd)
      (pa_cons (pe_bm PySem.F.plainAttrs_list PySem.F.slot_list_pop PySem.F.type_list_pop mt_popAt (pe_var hM hv2 hd2 hcd2) (pa_cons he.run pa_nil hs2) hbase2 hfew2 hline2 hs2 hplain2) pa_nil hs) hbase hfew hline hs hplain) hsw).weak fun D σ H h => by
  obtain ⟨G, A, W, env, M, hg, R, ⟨ps, qs, e0, e1, h⟩, k⟩ := h
  obtain ⟨a, hA, hσ, vs, hH, r⟩ := R.mine hc e0
  obtain ⟨b, hB, hτ, ws, hHb, rb⟩ := R.mine hc2 e1
  refine ⟨.ref a, hσ, .inl ⟨rfl, vs, .inl (.inl hH)⟩, .ref b, hτ, .inl ⟨rfl, ws, .inl (.inl hHb)⟩, G, A, W, env, _, R, h, fun q w H1 g rq ⟨m, n, p, eq, ⟨hm1, hm2⟩, hix, hp, hl, h1⟩ => ?_⟩
  subst eq
  have R1 := R.grow g
  obtain ⟨b', hB', _, ws1, hH1, r1⟩ := R1.mine hc2 e1
  rw [hB] at hB'; cases hB'
  obtain ⟨v, ev, rv⟩ := r1.get hp
  rw [r1.len] at hix
  refine ⟨b, ws1, m, n, v, rfl, by rw [rq.o.int], hH1, hm1, hm2, (ixN_seq hix).1, ev, ?_⟩
  have zb : Zt G A W b := .inr (.inr ⟨j, hB⟩)
  have R2 := R1.mut e1 hB hc2 (OwnAt.mutL zb (r1.eraseIdx n))
  have xx : Ext ⟨Zt G A W, W, H1⟩ ⟨Zt G A W, W, upd H1 b (.lst (ws1.eraseIdx n))⟩ := ⟨fun u o hz e => ⟨hz, by show upd H1 b _ u = some o; rw [upd_ne (fun z => hz (by rw [z]; exact zb))]; exact e⟩, fun _ h => h⟩
  have e0' : (env.set j (some (.lst (qs.eraseIdx n))))[i]? = some (some (.lst ps)) := by rw [List.getElem?_set_ne (Ne.symm hij)]; exact e0
  obtain ⟨a', hA', _, us, hH2, r2⟩ := R2.mine hc e0'
  rw [hA] at hA'; cases hA'
  refine ⟨a, us, v, rfl, rfl, hH2, by rw [← r2.len]; exact hl, ?_⟩
  exact k.nx A W _ σ _ (R2.mut e0' hA hc (OwnAt.mutL (.inr (.inr ⟨i, hA⟩)) (r2.append (Rps.cons (Rp.ext xx rv) Rps.nil)))) h1⟩
end

/-! ### sources of draws -/
/-- what the maker of a source promises -/
def spSrc (K : PySem.W.Frag) (ok : List PV → Prop) : Sp := fun vs H Q _ => ∃ (Z : Addr → Prop) (W : Ws) (ps : List PV), (∀ b, Z b → ∃ o, H b = some o) ∧ (∀ q ∈ W, SA H q) ∧ (∀ b, inW W b → Z b) ∧ Rps K ⟨Z, W, H⟩ ps vs ∧ ok ps ∧ ∀ H' q, GrowA H H' → H q.1 = none → H q.2 = none → SA H' q → Q (.ref q.1) H'
section
variable {K : PySem.W.Frag} {G : Gh} {c : List Ow} {A : Nat → Option Addr} {W : Ws} {env : Env} {σ : St} {H H' : Hp}
theorem SR.addW {q : Addr × Addr} (R : SR K G c A W env σ H) (hg : G.gw = true) (g : GrowA H H') (n1 : H q.1 = none) (n2 : H q.2 = none) (s : SA H' q) : SR K G c A (q :: W) env σ H' := by
  have R1 := R.grow (g.grow R.src)
  have nt : ∀ b o, H b = some o → ¬ (b = q.1 ∨ b = q.2) := fun b o e z => by
    rcases z with z | z
    · rw [z, n1] at e; cases e
    · rw [z, n2] at e; cases e
  have iw : ∀ b, inW (q :: W) b → inW W b ∨ (b = q.1 ∨ b = q.2) := fun b ⟨p, hp, e⟩ => by
    rcases List.mem_cons.mp hp with z | z
    · rw [z] at e; exact .inr e
    · exact .inl ⟨p, z, e⟩
  have zt : ∀ b, Zt G A (q :: W) b → Zt G A W b ∨ (b = q.1 ∨ b = q.2) := fun b z => by
    rcases z with z | z | z
    · exact .inl (.inl z)
    · exact (iw b z).imp (fun z => .inr (.inl z)) id
    · exact .inl (.inr (.inr z))
  have x : Ext ⟨Zt G A W, W, H⟩ ⟨Zt G A (q :: W), q :: W, H'⟩ := ⟨fun b o hz e => ⟨fun z => (zt b z).elim hz (nt b o e), g b o e⟩, fun p hp => List.mem_cons_of_mem _ hp⟩
  refine ⟨R.len, fun p hp => List.mem_cons_of_mem _ (R.W0in p hp), fun p hp => List.mem_cons_of_mem _ (R.Wmin p hp), fun p hp => ?_, (fun z => by rw [hg] at z; cases z), fun p hp => ?_, R1.keep, R1.zbt, fun i a e => ?_, R.Ainj, R.Aset, fun i p e => ?_, fun u hu => ?_, fun b o e => ?_⟩
  · rcases List.mem_cons.mp hp with z | z
    · rw [z]; exact .inr ⟨R.h0 n1, R.h0 n2⟩
    · exact R.Wnew p z
  · rcases List.mem_cons.mp hp with z | z
    · rw [z]; exact s
    · exact R1.src p z
  · obtain ⟨h1, h2, h3, h4, h5⟩ := R1.Asep i a e
    obtain ⟨o, e5⟩ := (R.Asep i a e).2.2.2.2
    exact ⟨h1, fun z => (iw a z).elim h2 (nt a o e5), h3, h4, h5⟩
  · obtain ⟨v, h1, h2⟩ := R.slots i p e
    refine ⟨v, h1, ?_⟩
    cases hA : A i with
    | none => rw [hA] at h2; exact Rp.ext x h2
    | some a =>
      rw [hA] at h2
      obtain ⟨_, _, _, _, o, e5⟩ := R.Asep i a hA
      exact ⟨h2.1, h2.2.ext x (by show H' a = H a; rw [e5, g a o e5])⟩
  · obtain ⟨h1, h2, h3, h4⟩ := R1.pins u hu
    obtain ⟨h1', _, _, _⟩ := R.pins u hu
    exact ⟨h1, fun z => (iw _ z).elim h2 (nt _ _ h1'), h3, h4⟩
  · obtain ⟨h1, h2⟩ := R.fz b o e
    exact ⟨g b o h1, fun z => (zt b z).elim h2 (nt b o h1)⟩
end
def sSrc (i : Nat) (ok : List PV → Prop) (t : TAm) : TSm := fun M env => t env fun ps => ok ps ∧ M.nx (env.set i (some .src))
section
variable {X : Cx} {f : Fx} {c : List Ow} {k : Nat} {fa : Addr} {fd : FuncData} {pns : List Str} {ok : List PV → Prop} {x y : Str} {p pos pos' cpos : Pos} {e : Expr} {es : List Expr} {t : TAm}
/-- x = maker(..) -/
theorem sm_src (i : Nat) (F : FnOk X.prog X.w X.K X.mg X.base CX0 k fa fd pns (spSrc X.K ok)) (hr : Room k X.A) (hm : X.mg x = some (.ref fa)) (hk : PySem.W.keepIn X.K (.ref fa) = true) (hb : Binds X.K fd pns []) (hgw : f.gw = true) (hN : X.N.Nodup)
    (ha : PAm X c .cl (e :: es) t) (hi : X.N[i]? = some y := by rfl) (hx : Loc X.env.scope y := by first | exact Or.inl rfl | exact Or.inr rfl) (hl : cO c i ≠ .lk := by decide) (hg : Gl X x := by rfl) (hdb : (x == ("__debug__" : Str)) = false := by decide) (he : starEach (e :: es) X.env = (false, eval e X.env) :: starEach es X.env := by rfl) (hpl : (backTo cpos (starEach es X.env)).any (·.1) = false := by rfl)
    (hs : swapsWith (.Call (.Name x p) (e :: es) [] cpos) (some (.Name y pos')) pos.line X.env = pure false := by rfl) (hf : X.fn y = true ∨ X.env.scope.names.lookup y = some .local := by first | exact .inl rfl | exact .inr rfl | assumption) :
    PSm X f c (c.set i .sh) (.Assign [.Name y pos'] (.Call (.Name x p) (e :: es) [] cpos) pos) (sSrc i ok t) := ⟨(ps_set hN hi hx (pe_call F hr hg hm hk hb .nil pass0 ha.run hdb he hpl) hs hf).weak fun D σ H h => by
  obtain ⟨G, A, W, env, M, hg, R, h, kk⟩ := h
  refine ⟨G, A, W, env, _, R, h, fun ps vs H1 g1 rs ⟨hok, h1⟩ => ?_⟩
  have R1 := R.grow g1
  refine ⟨Zt G A W, W, ps, R1.dz, R1.src, R1.sz, by rw [List.append_nil]; exact rs.rps, hok, fun H2 q g n1 n2 s => ?_⟩
  have R2 := R1.addW (hg.trans hgw) g n1 n2 s
  refine kk.nx _ _ _ _ _ (R2.set_sh hl ?_) h1
  unfold Rp
  exact ⟨q, List.mem_cons_self .., rfl⟩⟩
end

theorem rp_flV {K : PySem.W.Frag} {S : Wd} {p : PV} (f : flatP p = true) : Rp K S p (flV p) := by
  cases p with
  | non => unfold Rp; rfl
  | bl _ => unfold Rp; rfl
  | int _ => unfold Rp; rfl
  | str _ => unfold Rp; rfl
  | _ => exact absurd f (by simp [flatP])
theorem cst_ok {K : PySem.W.Frag} : ∀ (ds : List PV), ds.all flatP = true → Cst K ds (ds.map flV)
  | [], _ => fun _ => Rps.nil
  | d :: ds, h => fun S => by
    rw [List.all_cons, Bool.and_eq_true] at h
    exact Rps.cons (rp_flV h.1) (cst_ok ds h.2 S)
theorem binds0 {K : PySem.W.Frag} {x qual : Str} {params : Arguments} {body : List Stmt} {scope : Scope} {f : Addr} {fd : FuncData} {ps : List Str} (F : FunD K x qual params body scope [] [] f fd)
    (h : ∀ (kV doc pm : Value) (an : Option Addr) (cdv ct : Value) (us : List Value), us.length = ps.length → bindArgs (PySem.W.fnOf x qual params body scope .none kV doc pm an cdv ct) ⟨us, []⟩ = pure (ps.zip us)) : Binds K fd ps [] := fun s us _ hl => by
  rw [List.append_nil] at hl ⊢
  exact F.bindsA h s us hl
theorem fn_none {P : Program} {w : World} {K : PySem.W.Frag} {mg : Str → Option Value} {base : Heap} {k : Nat} {f : Addr} {fd : FuncData} {ps : List Str} {rm : Md} {spec : Spec} (h : ∀ ps Q, spec ps Q → False) : FnOk P w K mg base CX0 k f fd ps (spM K rm spec) :=
  ⟨fun vs H Q E z => by obtain ⟨_, _, _, _, _, _, _, z, _⟩ := z; exact (h _ _ z).elim, fun A outer s H args us vs Q E _ _ _ _ z => by obtain ⟨_, _, _, _, _, _, _, z, _⟩ := z; exact (h _ _ z).elim⟩
/-! ### the law's def -/
def spLawM (K : PySem.W.Frag) : Sp := fun vs H Q _ => ∃ (a : Addr) (ns : List Int), vs = [.ref a] ∧ Only H ∧ SqL K H a (ns.map V.int) ∧ ns.length ≤ 63 ∧ ∀ H', Q (.bl true) H'
theorem law_m {P : Program} {w : World} {K : PySem.W.Frag} {mg : Str → Option Value} {base : Heap} {x qual : Str} {st : Stmt} {f : Addr} {fd : FuncData} {N pns : List Str} {k : Nat} {t : TSm} {dvs : List V} (F : FunD K x qual (defArgs st) (defBody st) (defScope st) dvs [] f fd) (S : FnScope N pns (defScope st)) (h1 : pns.length = 1)
    (hbody : ∀ (cdv : Value) (A : Around) (outer : List PySem.Env) (s : Shared) (H : Hp) (E : XK), Room k (A.deeper (PyProof.Rows.envOfC qual (defScope st) s.heap.objs.size f cdv)) → ∃ c', PSsm (bodyX P w K mg base N qual st f cdv A outer s H E) ⟨.cl, true, []⟩ (shs N.length) c' (defBody st) t)
    (hok : ∀ ns : List Int, ns.length ≤ 63 → t { nx := fun _ => False, rt := fun p => p = .bl true } (startE N.length [.scr ns])) : FnOk P w K mg base CX0 (k + 1) f fd pns (spLawM K) := by
  refine F.ok S (fun vs H Q E h => ?_) (fun cdv A outer s H vs Q E hr h => ?_)
  · obtain ⟨a, ns, rfl, _⟩ := h
    exact h1.symm
  · obtain ⟨a, ns, rfl, hO, hS, hl, q⟩ := h
    have r : Rps K ⟨fun b => (fun _ => False) b ∨ inW [] b, [], H⟩ [.scr ns] [.ref a] := by
      refine Rps.cons ?_ Rps.nil
      unfold Rp
      refine ⟨a, rfl, ?_⟩
      rcases hS with hS | hS
      · refine .inl ⟨fun z => z.elim id fun ⟨p, hp, _⟩ => (by cases hp), ?_⟩
        rcases hS with hS | hS
        · rcases hO a with z | ⟨o, xs, z⟩
          · rw [hS] at z; cases z
          · rw [hS] at z; cases z
        · exact hS
      · exact .inr hS
    have hsr : SR K ⟨true, fun _ => False, [], H, fun _ => none, [], []⟩ (shs N.length) (fun _ => none) [] (startE N.length [.scr ns]) (L2.start N [.ref a]) H := SR.start (fun _ z => z.elim) (fun _ z => by cases z) r
    obtain ⟨c', hb⟩ := hbody cdv A outer s H E hr
    refine ⟨_, hb.run.nox, ⟨true, fun _ => False, [], H, fun _ => none, [], []⟩, fun _ => none, [], startE N.length [.scr ns], _, rfl, hsr, hok ns hl, ⟨fun _ _ _ _ _ _ z => z.elim, fun p v H' hr hp => ?_, fun _ _ _ _ _ _ z => z.elim, fun _ _ _ _ _ _ z => z.elim⟩⟩
    subst hp
    obtain ⟨W', _, _, _, _, h5⟩ := hr
    rw [VK1.bl h5]
    exact q H'
end PM

set_option maxHeartbeats 1000000
/-! PM: the plain side: what the transformers say, in rows for simp; loops and comprehensions by what they do. -/
namespace PM
open PySem L2
section
variable {env : Env} {P : PV → Prop} {i j : Nat} {M : Em} {t u : TSm} {te ta tb tc : TEm} {ts : TAm} {tt : TTm}
@[simp] theorem s_mVar0 {o : PV} : mVar 0 (some o :: env) P ↔ P o := ⟨fun ⟨v, e, h⟩ => by cases e; exact h, fun h => ⟨o, rfl, h⟩⟩
@[simp] theorem s_mVarS {o : Option PV} : mVar (i + 1) (o :: env) P ↔ mVar i env P := by
  unfold mVar; rw [List.getElem?_cons_succ]
def isObj : PV → Bool
  | .obj _ _ _ => true
  | _ => false
@[simp] theorem s_mVarO0 {o : PV} : mVarO 0 (some o :: env) P ↔ isObj o = false ∧ P o := by
  constructor
  · rintro ⟨v, e, n, h⟩
    cases e
    refine ⟨?_, h⟩
    cases o with
    | obj C ns ps => exact absurd rfl (n C ns ps)
    | _ => rfl
  · rintro ⟨n, h⟩
    exact ⟨o, rfl, (fun C ns ps z => by rw [z] at n; cases n), h⟩
@[simp] theorem s_mVarOS {o : Option PV} : mVarO (i + 1) (o :: env) P ↔ mVarO i env P := by
  unfold mVarO; rw [List.getElem?_cons_succ]
@[simp] theorem s_isObj_lst {ps : List PV} : isObj (.lst ps) = false := rfl
@[simp] theorem s_isObj_dic {ks : List Key} {ps : List PV} : isObj (.dic ks ps) = false := rfl
@[simp] theorem s_mC {p : PV} : mC p env P ↔ P p := .rfl
@[simp] theorem s_mOp {o : PO2} : mOp o ta tb env P ↔ ta env fun x => tb env fun y => o x y P := .rfl
@[simp] theorem s_mOp1 {o : PO1} : mOp1 o ta env P ↔ ta env fun x => o x P := .rfl
@[simp] theorem s_mB {o : POn} : mB o ts env P ↔ ts env fun xs => o xs P := .rfl
@[simp] theorem s_mNil {Q : List PV → Prop} : mNil env Q ↔ Q [] := .rfl
@[simp] theorem s_mCons {Q : List PV → Prop} : mCons te ts env Q ↔ te env fun x => ts env fun xs => Q (x :: xs) := .rfl
@[simp] theorem s_mTup : mTup ts env P ↔ ts env fun xs => xs.length ≤ sizeLine ∧ P (.tup xs) := .rfl
@[simp] theorem s_mLst : mLst ts env P ↔ ts env fun xs => xs.length ≤ sizeLine ∧ P (.lst xs) := .rfl
@[simp] theorem s_mCall {sp : Spec} {ds : List PV} : mCall sp ds ts env P ↔ ts env fun ps => sp (ps ++ ds) P := .rfl
@[simp] theorem s_mTB {Q : Bool → Prop} : mTB te env Q ↔ te env fun x => ∃ k, x = .bl k ∧ Q k := .rfl
@[simp] theorem s_mNot {Q : Bool → Prop} : mNot tt env Q ↔ tt env fun b => Q (!b) := .rfl
@[simp] theorem s_mAnd {tu : TTm} {Q : Bool → Prop} : mAnd tt tu env Q ↔ tt env fun b => if b = true then tu env Q else Q false := .rfl
@[simp] theorem s_mOr {tu : TTm} {Q : Bool → Prop} : mOr tt tu env Q ↔ tt env fun b => if b = true then Q true else tu env Q := .rfl
@[simp] theorem s_mAndV : mAndV ta tb env P ↔ ta env fun x => ∃ k, x = .bl k ∧ if k = true then tb env P else P (.bl false) := .rfl
@[simp] theorem s_mOrV : mOrV ta tb env P ↔ ta env fun x => ∃ k, x = .bl k ∧ if k = true then P (.bl true) else tb env P := .rfl
@[simp] theorem s_mIf : mIf tt ta tb env P ↔ tt env fun b => if b = true then ta env P else tb env P := .rfl
@[simp] theorem s_mYes {Q : Bool → Prop} : mYes env Q ↔ Q true := .rfl
@[simp] theorem s_mSl {o : PV → Option Int → Option Int → (PV → Prop) → Prop} {tl th : Env → (Option Int → Prop) → Prop} : mSl o te tl th env P ↔ te env fun x => tl env fun l => th env fun u => o x l u P := .rfl
@[simp] theorem s_mNo {Q : Option Int → Prop} : mNo env Q ↔ Q none := .rfl
@[simp] theorem s_mPart {Q : Option Int → Prop} : mPart te env Q ↔ te env fun x => ∃ i, x = .int i ∧ Q (some i) := .rfl
@[simp] theorem s_mLc {wi : TIm} {vs : List Nat} {g : TGm} : mLc wi vs g tt te env P ↔ wi env fun items => mCompGo g tt te (wipeE env vs) P items [] := .rfl
@[simp] theorem s_mItems {Q : List PV → Prop} : mItems te env Q ↔ te env fun p => ∃ ps, seqP p = some ps ∧ Q ps := .rfl
@[simp] theorem s_mRng1 {Q : List PV → Prop} : mRng1 te env Q ↔ te env fun x => ∃ n, x = .int n ∧ (-(2 ^ 62) ≤ n ∧ n < 2 ^ 62) ∧ Q (rngP 0 n.toNat) := .rfl
@[simp] theorem s_mRng2 {Q : List PV → Prop} : mRng2 ta tb env Q ↔ ta env fun x => tb env fun y => ∃ a b, x = .int a ∧ y = .int b ∧ (-(2 ^ 62) ≤ a ∧ a < 2 ^ 62 ∧ -(2 ^ 62) ≤ b ∧ b < 2 ^ 62) ∧ Q (rngP a (b - a).toNat) := .rfl
@[simp] theorem s_mEnum {Q : List PV → Prop} : mEnum te env Q ↔ te env fun p => ∃ ps, seqP p = some ps ∧ Q (enumP ps) := .rfl
@[simp] theorem s_mChain {o o' : PO2} : mChain o o' ta tb tc env P ↔ ta env fun x => tb env fun y => o x y fun z => ∃ k, z = .bl k ∧ if k = true then tc env fun w => o' y w P else P (.bl false) := .rfl
@[simp] theorem s_seqT {ps : List PV} : seqP (.tup ps) = some ps := rfl
@[simp] theorem s_seqL {ps : List PV} : seqP (.lst ps) = some ps := rfl
-- statements
@[simp] theorem s_sNext : sNext M env ↔ M.nx env := .rfl
@[simp] theorem s_sSeq : sSeq t u M env ↔ t { M with nx := u M } env := .rfl
@[simp] theorem s_sIf : sIf tt t u M env ↔ tt env fun b => if b = true then t M env else u M env := .rfl
@[simp] theorem s_sSet : sSet i te M env ↔ te env fun p => M.nx (env.set i (some p)) := .rfl
@[simp] theorem s_sRet : sRet te M env ↔ te env M.rt := .rfl
@[simp] theorem s_sRetN : sRetN M env ↔ M.rt .non := .rfl
@[simp] theorem s_sBreak : sBreak M env ↔ M.bk env := .rfl
@[simp] theorem s_sCont : sCont M env ↔ M.ct env := .rfl
@[simp] theorem s_sDrop : sDrop te M env ↔ te env fun _ => M.nx env := .rfl
@[simp] theorem s_sPar {is : List Nat} : sPar is ts M env ↔ ts env fun ps => M.nx (setN env is ps) := .rfl
@[simp] theorem s_setN0 {ps : List PV} : setN env [] ps = env := by cases ps <;> rfl
@[simp] theorem s_setNS {is : List Nat} {p : PV} {ps : List PV} : setN env (i :: is) (p :: ps) = setN (env.set i (some p)) is ps := rfl
@[simp] theorem s_sAsg {g : TGm} : sAsg te g M env ↔ te env fun p => g p env M.nx := .rfl
@[simp] theorem s_sApp : sApp i te M env ↔ ∃ ps, env[i]? = some (some (.lst ps)) ∧ te env fun p => ps.length < sizeLine ∧ M.nx (env.set i (some (.lst (ps ++ [p])))) := .rfl
@[simp] theorem s_sAug {o : PO2} : sAug i o te M env ↔ ∃ x, env[i]? = some (some x) ∧ te env fun y => o x y fun z => M.nx (env.set i (some z)) := .rfl
@[simp] theorem s_sFor {wi : TIm} {g : TGm} : sFor wi g t M env ↔ wi env fun items => mForGo g t M items env := .rfl
@[simp] theorem s_sSrc {ok : List PV → Prop} : sSrc i ok ts M env ↔ ts env fun ps => ok ps ∧ M.nx (env.set i (some .src)) := .rfl
-- targets
@[simp] theorem s_gmN {p : PV} {k : Env → Prop} : gmN i p env k ↔ k (env.set i (some p)) := .rfl
@[simp] theorem s_gmT {n : Nat} {r : TGsm} {ps : List PV} {k : Env → Prop} : gmT n r (.tup ps) env k ↔ ps.length = n ∧ r ps env k := ⟨fun ⟨qs, e, h⟩ => by cases e; exact h, fun h => ⟨ps, rfl, h⟩⟩
@[simp] theorem s_gmCons {g : TGm} {r : TGsm} {p : PV} {ps : List PV} {k : Env → Prop} : gmCons g r (p :: ps) env k ↔ g p env fun env' => r ps env' k := ⟨fun ⟨q, qs, e, h⟩ => by cases e; exact h, fun h => ⟨p, ps, rfl, h⟩⟩
@[simp] theorem s_gmNil {k : Env → Prop} : gmNil [] env k ↔ k env := ⟨fun h => h.2, fun h => ⟨rfl, h⟩⟩
@[simp] theorem s_wipe0 : wipeE env [] = env := rfl
@[simp] theorem s_wipeS {vs : List Nat} : wipeE env (i :: vs) = (wipeE env vs).set i none := rfl
-- operations
variable {a b : Int} {x y : PV}
@[simp] theorem s_oSub : oSub (.int a) (.int b) P ↔ P (.int (a - b)) := ⟨fun ⟨_, _, e, f, h⟩ => by cases e; cases f; exact h, fun h => ⟨a, b, rfl, rfl, h⟩⟩
@[simp] theorem s_oAddI : oAddI (.int a) (.int b) P ↔ P (.int (a + b)) := ⟨fun ⟨_, _, e, f, h⟩ => by cases e; cases f; exact h, fun h => ⟨a, b, rfl, rfl, h⟩⟩
@[simp] theorem s_oAdd : oAdd (.int a) (.int b) P ↔ P (.int (a + b)) := .rfl
@[simp] theorem s_oLt : oLt (.int a) (.int b) P ↔ P (.bl (decide (a < b))) := ⟨fun ⟨_, _, e, f, h⟩ => by cases e; cases f; exact h, fun h => ⟨a, b, rfl, rfl, h⟩⟩
@[simp] theorem s_oLe : oLe (.int a) (.int b) P ↔ P (.bl (decide (a ≤ b))) := ⟨fun ⟨_, _, e, f, h⟩ => by cases e; cases f; exact h, fun h => ⟨a, b, rfl, rfl, h⟩⟩
@[simp] theorem s_oGt : oGt (.int a) (.int b) P ↔ P (.bl (decide (b < a))) := ⟨fun ⟨_, _, e, f, h⟩ => by cases e; cases f; exact h, fun h => ⟨a, b, rfl, rfl, h⟩⟩
@[simp] theorem s_oGe : oGe (.int a) (.int b) P ↔ P (.bl (decide (b ≤ a))) := ⟨fun ⟨_, _, e, f, h⟩ => by cases e; cases f; exact h, fun h => ⟨a, b, rfl, rfl, h⟩⟩
@[simp] theorem s_oNeg : oNeg (.int a) P ↔ P (.int (-a)) := ⟨fun ⟨_, e, h⟩ => by cases e; exact h, fun h => ⟨a, rfl, h⟩⟩
@[simp] theorem s_oNot {k : Bool} : oNot (.bl k) P ↔ P (.bl (!k)) := ⟨fun ⟨_, e, h⟩ => by cases e; exact h, fun h => ⟨k, rfl, h⟩⟩
@[simp] theorem s_oMul : oMul (.int a) (.int b) P ↔ CMul a b ∧ P (.int (a * b)) := ⟨fun ⟨_, _, e, f, h⟩ => by cases e; cases f; exact h, fun h => ⟨a, b, rfl, rfl, h⟩⟩
@[simp] theorem s_oMulW : oMulW (.int a) (.int b) P ↔ CMulW a b ∧ P (.int (a * b)) := ⟨fun ⟨_, _, e, f, h⟩ => by cases e; cases f; exact h, fun h => ⟨a, b, rfl, rfl, h⟩⟩
@[simp] theorem s_oMod : oMod (.int a) (.int b) P ↔ 0 < b ∧ P (.int (a % b)) := ⟨fun ⟨_, _, e, f, h⟩ => by cases e; cases f; exact h, fun h => ⟨a, b, rfl, rfl, h⟩⟩
@[simp] theorem s_oFdiv : oFdiv (.int a) (.int b) P ↔ (0 < b ∧ b < 1073741824) ∧ P (.int (a / b)) := ⟨fun ⟨_, _, e, f, h⟩ => by cases e; cases f; exact h, fun h => ⟨a, b, rfl, rfl, h⟩⟩
@[simp] theorem s_oPow : oPow (.int a) (.int b) P ↔ (0 ≤ b ∧ b ≤ 1000000 ∧ a.natAbs < 2 ^ 64) ∧ P (.int (a ^ b.toNat)) := ⟨fun ⟨_, _, e, f, h⟩ => by cases e; cases f; exact h, fun h => ⟨a, b, rfl, rfl, h⟩⟩
@[simp] theorem s_oIsN : oIsN x .non P ↔ P (.bl (isNon x)) := ⟨fun h => h.2, fun h => ⟨rfl, h⟩⟩
@[simp] theorem s_oNotN : oNotN x .non P ↔ P (.bl (!isNon x)) := ⟨fun h => h.2, fun h => ⟨rfl, h⟩⟩
@[simp] theorem s_oIsB {k l : Bool} : oIsB (.bl k) (.bl l) P ↔ P (.bl (decide (k = l))) := ⟨fun ⟨_, _, e, f, h⟩ => by cases e; cases f; exact h, fun h => ⟨k, l, rfl, rfl, h⟩⟩
@[simp] theorem s_oNotB {k l : Bool} : oNotB (.bl k) (.bl l) P ↔ P (.bl (!decide (k = l))) := ⟨fun ⟨_, _, e, f, h⟩ => by cases e; cases f; exact h, fun h => ⟨k, l, rfl, rfl, h⟩⟩
@[simp] theorem s_isNon_int : isNon (.int a) = false := rfl
@[simp] theorem s_isNon_non : isNon .non = true := rfl
@[simp] theorem s_isNon_bl {k : Bool} : isNon (.bl k) = false := rfl
@[simp] theorem s_isNon_str {k : Str} : isNon (.str k) = false := rfl
@[simp] theorem s_isNon_tup {k : List PV} : isNon (.tup k) = false := rfl
@[simp] theorem s_isNon_lst {k : List PV} : isNon (.lst k) = false := rfl
@[simp] theorem s_isNon_dic {k : List Key} {l : List PV} : isNon (.dic k l) = false := rfl
@[simp] theorem s_oEqI : oEq (.int a) (.int b) P ↔ P (.bl (decide (a = b))) := by
  have e : PyData.eqv (.int a) (.int b) = decide (a = b) := rfl
  constructor
  · rintro ⟨_, _, f, g, _, _, h⟩
    cases f; cases g
    rw [e] at h; exact h
  · intro h
    exact ⟨_, _, rfl, rfl, rfl, rfl, by rw [e]; exact h⟩
@[simp] theorem s_oNeI : oNe (.int a) (.int b) P ↔ P (.bl (!decide (a = b))) := by
  have e : PyData.eqv (.int a) (.int b) = decide (a = b) := rfl
  constructor
  · rintro ⟨_, _, f, g, _, _, h⟩
    cases f; cases g
    rw [e] at h; exact h
  · intro h
    exact ⟨_, _, rfl, rfl, rfl, rfl, by rw [e]; exact h⟩
@[simp] theorem s_oIxT {ps : List PV} : oIx (.tup ps) (.int a) P ↔ ∃ p, atI ps a = some p ∧ P p := .rfl
@[simp] theorem s_oIxL {ps : List PV} : oIx (.lst ps) (.int a) P ↔ ∃ p, atI ps a = some p ∧ P p := .rfl
@[simp] theorem s_oSlT {ps : List PV} {l u : Option Int} : oSl (.tup ps) l u P ↔ P (.tup (cutP ps l u)) := .rfl
@[simp] theorem s_oSlL {ps : List PV} {l u : Option Int} : oSl (.lst ps) l u P ↔ P (.lst (cutP ps l u)) := .rfl
@[simp] theorem s_oRevT {ps : List PV} : oRev (.tup ps) P ↔ P (.tup ps.reverse) := .rfl
@[simp] theorem s_oRevL {ps : List PV} : oRev (.lst ps) P ↔ P (.lst ps.reverse) := .rfl
@[simp] theorem s_oInt : oInt [.int a] P ↔ P (.int a) := .rfl
@[simp] theorem s_oIntB {k : Bool} : oInt [.bl k] P ↔ P (.int (if k then 1 else 0)) := .rfl
@[simp] theorem s_oAbs : oAbs [.int a] P ↔ P (.int (if a < 0 then -a else a)) := ⟨fun ⟨_, e, h⟩ => by cases e; exact h, fun h => ⟨a, rfl, h⟩⟩
@[simp] theorem s_oMax2 : oMax2 [.int a, .int b] P ↔ P (.int (if b > a then b else a)) := ⟨fun ⟨_, _, e, h⟩ => by cases e; exact h, fun h => ⟨a, b, rfl, h⟩⟩
@[simp] theorem s_oMin2 : oMin2 [.int a, .int b] P ↔ P (.int (if b < a then b else a)) := ⟨fun ⟨_, _, e, h⟩ => by cases e; exact h, fun h => ⟨a, b, rfl, h⟩⟩
@[simp] theorem s_oLen : oLen [x] P ↔ ∃ n, plen x = some n ∧ P (.int (n : Int)) := ⟨fun ⟨_, n, e, f, h⟩ => by cases e; exact ⟨n, f, h⟩, fun ⟨n, f, h⟩ => ⟨x, n, rfl, f, h⟩⟩
@[simp] theorem s_plenT {ps : List PV} : plen (.tup ps) = some ps.length := rfl
@[simp] theorem s_plenL {ps : List PV} : plen (.lst ps) = some ps.length := rfl
@[simp] theorem s_plenD {ks : List Key} {ps : List PV} : plen (.dic ks ps) = some ks.length := rfl
@[simp] theorem s_plenS {ns : List Int} : plen (.scr ns) = some ns.length := rfl
@[simp] theorem s_oTupleL {ps : List PV} : oTuple [.lst ps] P ↔ P (.tup ps) := ⟨fun ⟨_, _, e, f, h⟩ => by cases e; cases f; exact h, fun h => ⟨_, ps, rfl, rfl, h⟩⟩
@[simp] theorem s_oTupleT {ps : List PV} : oTuple [.tup ps] P ↔ P (.tup ps) := ⟨fun ⟨_, _, e, f, h⟩ => by cases e; cases f; exact h, fun h => ⟨_, ps, rfl, rfl, h⟩⟩
@[simp] theorem s_oListL {ps : List PV} : oList [.lst ps] P ↔ P (.lst ps) := ⟨fun ⟨_, _, e, f, h⟩ => by cases e; cases f; exact h, fun h => ⟨_, ps, rfl, rfl, h⟩⟩
@[simp] theorem s_oListT {ps : List PV} : oList [.tup ps] P ↔ P (.lst ps) := ⟨fun ⟨_, _, e, f, h⟩ => by cases e; cases f; exact h, fun h => ⟨_, ps, rfl, rfl, h⟩⟩
end
theorem x_bl {b : Bool} {p : Bool → Prop} : (∃ k, PV.bl b = PV.bl k ∧ p k) ↔ p b := ⟨fun ⟨_, e, h⟩ => by cases e; exact h, fun h => ⟨b, rfl, h⟩⟩
theorem x_int {b : Int} {p : Int → Prop} : (∃ k, PV.int b = PV.int k ∧ p k) ↔ p b := ⟨fun ⟨_, e, h⟩ => by cases e; exact h, fun h => ⟨b, rfl, h⟩⟩
theorem x_some {α : Type} {b : α} {p : α → Prop} : (∃ k, some b = some k ∧ p k) ↔ p b := ⟨fun ⟨_, e, h⟩ => by cases e; exact h, fun h => ⟨b, rfl, h⟩⟩
theorem x_addT {a b : List PV} {P : PV → Prop} : oAdd (.tup a) (.tup b) P ↔ a.length + b.length ≤ sizeLine ∧ P (.tup (a ++ b)) := .rfl
theorem x_addL {a b : List PV} {P : PV → Prop} : oAdd (.lst a) (.lst b) P ↔ a.length + b.length ≤ sizeLine ∧ P (.lst (a ++ b)) := .rfl
theorem x_true {p q : Prop} : (if true = true then p else q) ↔ p := by rw [if_pos rfl]
theorem x_false {p q : Prop} : (if false = true then p else q) ↔ q := by rw [if_neg Bool.false_ne_true]
/-! ### of a type -/
def isiB (T : String) (p : PV) : Bool := match pty p with
  | some U => (kitB U T).getD false
  | none => false
theorem oIsi_of {T : String} {p : PV} {P : PV → Prop} {U : String} {b : Bool} (h : pty p = some U) (hb : kitB U T = some b) (hp : P (.bl b)) : oIsi T p P := ⟨U, b, h, hb, hp⟩
abbrev Known (T : String) : Prop := ∀ U ∈ ["NoneType", "bool", "int", "str", "tuple", "list", "dict"], (kitB U T).isSome = true
theorem pty_mem {p : PV} {U : String} (h : pty p = some U) : U ∈ ["NoneType", "bool", "int", "str", "tuple", "list", "dict"] := by
  cases p <;> cases h <;> decide
theorem oIsi_b {T : String} {p : PV} {P : PV → Prop} (k : Known T) (h : (pty p).isSome = true) (hp : P (.bl (isiB T p))) : oIsi T p P := by
  obtain ⟨U, hU⟩ := Option.isSome_iff_exists.mp h
  obtain ⟨b, hb⟩ := Option.isSome_iff_exists.mp (k U (pty_mem hU))
  refine ⟨U, b, hU, hb, ?_⟩
  unfold isiB at hp
  rw [hU] at hp
  have e : (kitB U T).getD false = b := by rw [hb]; rfl
  rw [← e]; exact hp
theorem known_int : Known "int" := by decide
theorem known_bool : Known "bool" := by decide
theorem known_str : Known "str" := by decide
theorem known_tuple : Known "tuple" := by decide
theorem known_list : Known "list" := by decide
theorem known_dict : Known "dict" := by decide
/-! ### loops and comprehensions -/
section
variable {g : TGm} {tt : TTm} {te : TEm} {tb : TSm} {env : Env} {P : PV → Prop} {M : Em}
/-- a loop by what stands ahead of each turn -/
theorem for_inv {α : Type} {emb : α → PV} {xs : List α} (I : Nat → Env → Prop) (h0 : I 0 env) (hs : ∀ (i : Nat) (x : α) (e : Env) (N : Env → Prop), xs[i]? = some x → I i e → (∀ e', I (i + 1) e' → N e') → g (emb x) e fun e1 => tb { M with nx := N, ct := N, bk := M.nx } e1)
    (hn : ∀ e, I xs.length e → M.nx e) : mForGo g tb M (xs.map emb) env := by
  have go : ∀ (ys : List α) (i : Nat) (e : Env), xs.drop i = ys → I i e → i ≤ xs.length → mForGo g tb M (ys.map emb) e := by
    intro ys
    induction ys with
    | nil =>
      intro i e hd hi hl
      have : i = xs.length := by
        have := List.drop_eq_nil_iff.mp hd
        omega
      subst this
      exact hn e hi
    | cons y ys ih =>
      intro i e hd hi hl
      have hx : xs[i]? = some y := by
        have : (xs.drop i)[0]? = some y := by rw [hd]; rfl
        rw [List.getElem?_drop] at this
        exact this
      have hlt : i < xs.length := (List.getElem?_eq_some_iff.mp hx).1
      have hd2 : xs.drop (i + 1) = ys := by
        rw [← List.drop_drop, hd]; rfl
      exact hs i y e _ hx hi fun e' he' => ih (i + 1) e' hd2 he' hlt
  exact go xs 0 env rfl h0 (Nat.zero_le _)
theorem foldl_take {α S : Type} {xs : List α} {f : S → α → S} {s : S} {i : Nat} {x : α} (h : xs[i]? = some x) : (xs.take (i + 1)).foldl f s = f ((xs.take i).foldl f s) x := by
  rw [List.take_add_one, h, List.foldl_append]
  rfl
/-- a loop as a fold -/
theorem for_fold {α S : Type} {emb : α → PV} {xs : List α} (step : S → α → S) (E : S → Env → Prop) (s0 : S) (h0 : E s0 env) (hs : ∀ (x : α) (s : S) (e : Env) (N : Env → Prop), x ∈ xs → E s e → (∀ e', E (step s x) e' → N e') → g (emb x) e fun e1 => tb { M with nx := N, ct := N, bk := M.nx } e1)
    (hn : ∀ e, E (xs.foldl step s0) e → M.nx e) : mForGo g tb M (xs.map emb) env := by
  refine for_inv (fun i e => E ((xs.take i).foldl step s0) e) h0 (fun i x e N hx hE hN => hs x _ e N (List.mem_of_getElem? hx) hE fun e' he' => hN e' ?_) (fun e he => hn e ?_)
  · rw [List.take_add_one, hx, List.foldl_append]
    exact he'
  · rw [List.take_length] at he
    exact he
/-- a comprehension that has one answer at each item -/
theorem comp_emb {α : Type} {emb : α → PV} {tst : α → Bool} {f : α → PV} : ∀ {xs : List α} {acc : List PV}, (∀ x ∈ xs, ∃ e1, (∀ k : Env → Prop, k e1 → g (emb x) env k) ∧ (∀ Q : Bool → Prop, Q (tst x) → tt e1 Q) ∧ (tst x = true → ∀ Q : PV → Prop, Q (f x) → te e1 Q)) →
    acc.length + xs.length ≤ sizeLine → P (.lst (acc ++ (xs.filter tst).map f)) → mCompGo g tt te env P (xs.map emb) acc
  | [], acc, _, _, hp => by
    rw [List.filter_nil, List.map_nil, List.append_nil] at hp
    exact hp
  | x :: xs, acc, h, hl, hp => by
    obtain ⟨e1, h1, h2, h3⟩ := h x (List.mem_cons_self ..)
    rw [List.length_cons] at hl
    rw [List.map_cons]
    unfold mCompGo
    refine h1 _ (h2 _ ?_)
    cases ht : tst x with
    | true =>
      rw [if_pos rfl]
      refine h3 ht _ ⟨by omega, comp_emb (fun y hy => h y (List.mem_cons_of_mem _ hy)) (by rw [List.length_append, List.length_singleton]; omega) ?_⟩
      rw [List.filter_cons, ht, if_pos rfl, List.map_cons] at hp
      rw [List.append_assoc]
      exact hp
    | false =>
      rw [if_neg Bool.false_ne_true]
      refine comp_emb (fun y hy => h y (List.mem_cons_of_mem _ hy)) (by omega) ?_
      rw [List.filter_cons, ht, if_neg Bool.false_ne_true] at hp
      exact hp
/-- a comprehension without test -/
theorem comp_map {α : Type} {emb : α → PV} {f : α → PV} {xs : List α} (h : ∀ x ∈ xs, ∃ e1, (∀ k : Env → Prop, k e1 → g (emb x) env k) ∧ (∀ Q : Bool → Prop, Q true → tt e1 Q) ∧ (∀ Q : PV → Prop, Q (f x) → te e1 Q))
    (hl : xs.length ≤ sizeLine) (hp : P (.lst (xs.map f))) : mCompGo g tt te env P (xs.map emb) [] := by
  refine comp_emb (tst := fun _ => true) (f := f) (fun x hx => ?_) (by rw [List.length_nil, Nat.zero_add]; exact hl) ?_
  · obtain ⟨e1, h1, h2, h3⟩ := h x hx
    exact ⟨e1, h1, h2, fun _ => h3⟩
  · rw [List.filter_eq_self.mpr (fun _ _ => rfl)]
    exact hp
/-- .. whose answers are one of several -/
theorem comp_rel {α : Type} {emb : α → PV} {R : α → PV → Prop} : ∀ {xs : List α} {acc : List PV}, (∀ x ∈ xs, ∃ e1, (∀ k : Env → Prop, k e1 → g (emb x) env k) ∧ (∀ Q : Bool → Prop, Q true → tt e1 Q) ∧ (∀ Q : PV → Prop, (∀ y, R x y → Q y) → te e1 Q)) →
    acc.length + xs.length ≤ sizeLine → (∀ ys, Paired R xs ys → P (.lst (acc ++ ys))) → mCompGo g tt te env P (xs.map emb) acc
  | [], acc, _, _, hp => by
    have := hp [] .nil
    rw [List.append_nil] at this
    exact this
  | x :: xs, acc, h, hl, hp => by
    obtain ⟨e1, h1, h2, h3⟩ := h x (List.mem_cons_self ..)
    rw [List.length_cons] at hl
    rw [List.map_cons]
    unfold mCompGo
    refine h1 _ (h2 _ ?_)
    rw [if_pos rfl]
    refine h3 _ fun y hy => ⟨by omega, comp_rel (fun z hz => h z (List.mem_cons_of_mem _ hz)) (by rw [List.length_append, List.length_singleton]; omega) fun ys hys => ?_⟩
    have := hp (y :: ys) (.cons hy hys)
    rw [List.append_assoc]
    exact this
end
/-! ### data in rows -/
theorem small_line {n : Nat} (h : n ≤ 1000000) : n < sizeLine := Nat.lt_of_le_of_lt h (by decide)
abbrev lI (ns : List Int) : PV := .lst (ns.map .int)
abbrev tI (ns : List Int) : PV := .tup (ns.map .int)
theorem inP_ints {x : Int} : ∀ {ns : List Int}, inP (.int x) (ns.map .int) = decide (x ∈ ns)
  | [] => rfl
  | n :: ns => by
    have ih := inP_ints (x := x) (ns := ns)
    unfold inP at ih ⊢
    rw [List.map_cons, List.any_cons, ih]
    show (n == x || decide (x ∈ ns)) = decide (x ∈ n :: ns)
    by_cases e : n = x
    · subst e; simp
    · have e' : ¬ x = n := fun z => e z.symm
      simp [e, e']
theorem oIn_ints {neg : Bool} {x : Int} {ns : List Int} {P : PV → Prop} (h : P (.bl (if neg then !decide (x ∈ ns) else decide (x ∈ ns)))) : oIn neg (.int x) (lI ns) P := by
  refine ⟨_, .inl rfl, rfl, ?_, ?_⟩
  · rw [List.all_eq_true]
    intro y hy
    obtain ⟨z, _, rfl⟩ := List.mem_map.mp hy
    rfl
  · rw [inP_ints]; exact h
theorem toDs_map {α : Type} {emb : α → PV} {f : α → PyData} (h : ∀ x, toD (emb x) = some (f x)) : ∀ xs : List α, toDs (xs.map emb) = some (xs.map f)
  | [] => by unfold toDs; rfl
  | x :: xs => by
    rw [List.map_cons, List.map_cons]
    unfold toDs
    rw [h x, toDs_map h xs]
    rfl
theorem lay_map {α : Type} {f : α → PyData} {n : Nat} (h : ∀ x, PyData.canLay0 (f x) = true ∧ PyData.depth (f x) ≤ n) : ∀ xs : List α, PyData.canLayAll0 (xs.map f) = true ∧ PyData.depthAll (xs.map f) ≤ n
  | [] => ⟨rfl, Nat.zero_le _⟩
  | x :: xs => by
    obtain ⟨h1, h2⟩ := lay_map h xs
    obtain ⟨g1, g2⟩ := h x
    constructor
    · show (PyData.canLay0 (f x) && PyData.canLayAll0 _) = true
      rw [h1, g1]; rfl
    · show max (PyData.depth (f x)) (PyData.depthAll _) ≤ n
      exact Nat.max_le.mpr ⟨g2, h2⟩
theorem shaped_map {α : Type} {f : α → PyData} {n : Nat} (h : ∀ x, PyData.canLay0 (f x) = true ∧ PyData.depth (f x) ≤ n) (hn : n < 64) (xs : List α) : SeqAt.shaped (.list (xs.map f)) = true := by
  obtain ⟨h1, h2⟩ := lay_map h xs
  unfold SeqAt.shaped
  rw [show PyData.canLay0 (.list (xs.map f)) = true from h1]
  have : PyData.depth (.list (xs.map f)) ≤ 64 := by
    show PyData.depthAll (xs.map f) + 1 ≤ 64
    omega
  rw [decide_eq_true this]; rfl
theorem eqv_nil (ds : List PyData) : PyData.eqv (.list ds) (.list []) = ds.isEmpty := by cases ds <;> rfl
theorem oEq_nil {α : Type} {emb : α → PV} {f : α → PyData} {n : Nat} {xs : List α} {P : PV → Prop} (h : ∀ x, toD (emb x) = some (f x)) (hs : ∀ x, PyData.canLay0 (f x) = true ∧ PyData.depth (f x) ≤ n) (hn : n < 64) (hp : P (.bl xs.isEmpty)) : oEq (.lst (xs.map emb)) (.lst []) P := by
  refine ⟨.list (xs.map f), .list [], ?_, by unfold toD toDs; rfl, shaped_map hs hn xs, rfl, ?_⟩
  · unfold toD; rw [toDs_map h]; rfl
  · rw [eqv_nil, List.isEmpty_map]; exact hp
theorem oNe_nil {α : Type} {emb : α → PV} {f : α → PyData} {n : Nat} {xs : List α} {P : PV → Prop} (h : ∀ x, toD (emb x) = some (f x)) (hs : ∀ x, PyData.canLay0 (f x) = true ∧ PyData.depth (f x) ≤ n) (hn : n < 64) (hp : P (.bl (!xs.isEmpty))) : oNe (.lst (xs.map emb)) (.lst []) P := by
  refine ⟨.list (xs.map f), .list [], ?_, by unfold toD toDs; rfl, shaped_map hs hn xs, rfl, ?_⟩
  · unfold toD; rw [toDs_map h]; rfl
  · rw [eqv_nil, List.isEmpty_map]; exact hp
theorem oEqI_nil {ns : List Int} {P : PV → Prop} (hp : P (.bl ns.isEmpty)) : oEq (lI ns) (.lst []) P := oEq_nil (f := .int) (n := 0) (fun _ => rfl) (fun _ => ⟨rfl, Nat.le_refl _⟩) (by decide) hp
theorem oNeI_nil {ns : List Int} {P : PV → Prop} (hp : P (.bl (!ns.isEmpty))) : oNe (lI ns) (.lst []) P := oNe_nil (f := .int) (n := 0) (fun _ => rfl) (fun _ => ⟨rfl, Nat.le_refl _⟩) (by decide) hp
theorem oAll_map {α : Type} {xs : List α} {b : α → Bool} {P : PV → Prop} (h : P (.bl (xs.all b))) : oAll [.lst (xs.map fun x => .bl (b x))] P := by
  refine ⟨xs.map b, by rw [List.map_map]; rfl, ?_⟩
  rw [List.all_map]
  exact h
theorem oAny_map {α : Type} {xs : List α} {b : α → Bool} {P : PV → Prop} (h : P (.bl (xs.any b))) : oAny [.lst (xs.map fun x => .bl (b x))] P := by
  refine ⟨xs.map b, by rw [List.map_map]; rfl, ?_⟩
  rw [List.any_map]
  exact h
theorem oSum_map {α : Type} {xs : List α} {b : α → Int} {P : PV → Prop} (h : P (.int (xs.map b).sum)) : oSum [.lst (xs.map fun x => .int (b x))] P := ⟨xs.map b, by rw [List.map_map]; rfl, h⟩
theorem rngP_map {a : Int} {n : Nat} : rngP a n = (List.range n).map fun (i : Nat) => PV.int (a + (i : Int)) := rfl
theorem enumP_map {α : Type} {xs : List α} {emb : α → PV} : enumP (xs.map emb) = (List.range xs.length).map fun i => .tup [.int (i : Nat), (xs.map emb).getD i .non] := by
  unfold enumP; rw [List.length_map]
theorem zipP_map {α β : Type} {xs : List α} {ys : List β} {ea : α → PV} {eb : β → PV} : zipP (xs.map ea) (ys.map eb) = (xs.zip ys).map fun p => .tup [ea p.1, eb p.2] := by
  unfold zipP
  rw [List.zipWith_map, List.zip, List.map_zipWith]
theorem atI_map {α : Type} {xs : List α} {emb : α → PV} {i : Int} : atI (xs.map emb) i = (atI xs i).map emb := by
  unfold atI
  rw [List.length_map]
  cases ixN xs.length i with
  | none => rfl
  | some j => exact List.getElem?_map ..
theorem atI_pos {α : Type} {xs : List α} {i : Nat} (h : i < xs.length) : atI xs (i : Int) = xs[i]? := by
  unfold atI ixN
  rw [if_pos (by omega), if_pos (by omega), Int.toNat_natCast]
  rfl
theorem atI_nn {α : Type} {xs : List α} {i : Int} (h0 : 0 ≤ i) (h : i < xs.length) : atI xs i = xs[i.toNat]? := by
  have e : i = (i.toNat : Int) := by omega
  have l : i.toNat < xs.length := by omega
  have := atI_pos l
  rw [← e] at this
  exact this
theorem atI_last1 {α : Type} {xs : List α} (h : 0 < xs.length) : atI xs (-1) = xs[xs.length - 1]? := by
  unfold atI ixN
  rw [if_neg (by omega), if_pos (by omega)]
  show xs[((-1 : Int) + (xs.length : Int)).toNat]? = _
  rw [show ((-1 : Int) + (xs.length : Int)).toNat = xs.length - 1 by omega]
theorem cutP_map {α : Type} {xs : List α} {emb : α → PV} {a b : Option Int} : cutP (xs.map emb) a b = ((xs.drop (HT.sIx xs.length 0 a)).take (HT.sIx xs.length xs.length b - HT.sIx xs.length 0 a)).map emb := by
  unfold cutP
  rw [List.length_map, List.map_take, List.map_drop]
end PM

set_option maxHeartbeats 1000000
/-! PM: the least and the greatest of data, ranges made into lines. -/
namespace L2
open PySem PySem.Spec PyProof.Rows
/-- the place of the first of the least, of the greatest -/
def bestLt (ds : List PyData) : Nat := argBest (fun i j => PySem.W.dataLt (ds.getD i .none) (ds.getD j .none)) (ds.length - 1)
def bestGt (ds : List PyData) : Nat := argBest (fun i j => PySem.W.dataLt (ds.getD j .none) (ds.getD i .none)) (ds.length - 1)
def rBest (K : PySem.W.Frag) (best : List PyData → Nat) : List V → Hp → VK → Prop := fun vs H Q => ∃ (a : Addr) (xs : List V) (ds : List PyData), vs = [V.ref a] ∧ (SqL K H a xs ∨ SqT K H a xs) ∧ DpAll K H xs ds ∧ PySem.W.AlikeAll ds ∧ PyData.depthAll ds ≤ 60 ∧ 0 < ds.length ∧ ∀ v, xs[best ds]? = some v → Q v H
theorem cr_minDa {X : Cx} (hc : X.calm = true) (hu : X.A.units + 64 < cLine) : CallR X (.builtin "min") (rBest X.K bestLt) := by
  intro pins s σ H vs us Q I r h
  obtain ⟨a, xs, ds, rfl, hs, hd, hal, hdp, hne, q⟩ := h
  rw [Vals.ref1 r]
  rcases hs with hs | hs
  · obtain ⟨its, rv, hl, _⟩ := I.list hs
    obtain ⟨as, hr⟩ := Dp.readsAll I ds xs its hd rv
    have hsz : its.length = ds.length := readsAll_len _ hr
    have hr' : ReadsAll s.heap its.toArray.toList ds as := hr
    refine call_min_walkH (PySem.W.iter_listW (A := X.A.in1) (I.ok.hd hc) hl.isList fun s₂ e W st hfp hw hk => ?_)
    refine ⟨_, _, _, _, _, _, _, s.heap, _, rfl, W, st, hfp, by rw [List.size_toArray]; omega, hw, hk, PySem.W.cmpIn_lt (A := X.A.in1) hr' hal (by show X.A.units + 1 + _ < _; omega), fun v s' hP m => ?_⟩
    obtain ⟨h', tk, rfl, hk'⟩ := PySem.W.moved_old e rfl m
    have hP' : its[bestLt ds]? = some v := by
      have : its.toArray[argBest (fun i j => PySem.W.dataLt (ds.getD i .none) (ds.getD j .none)) (its.toArray.size - 1)]? = some v := hP
      rw [List.size_toArray, hsz] at this
      rw [← this, List.getElem?_toArray]; rfl
    have hlen : bestLt ds < its.length := (List.getElem?_eq_some_iff.mp hP').1
    have hx : xs[bestLt ds]? = some (xs[bestLt ds]'(by rw [rv.length]; exact hlen)) := List.getElem?_eq_getElem _
    obtain ⟨u, hu2, ru⟩ := rv.get hx
    rw [hP'] at hu2; cases hu2
    exact ⟨_, H, I.kept hk', ru, q _ hx⟩
  · obtain ⟨its, rv, hl, _⟩ := I.tuple hs
    obtain ⟨as, hr⟩ := Dp.readsAll I ds xs its hd rv
    have hsz : its.length = ds.length := readsAll_len _ hr
    have hr' : ReadsAll s.heap its.toArray.toList ds as := hr
    refine call_min_walkH (PySem.W.iter_tupleW (A := X.A.in1) (I.ok.hd hc) (show s.heap.IsTuple a its.toArray from hl) fun s₂ e W st hfp hw hk => ?_)
    refine ⟨_, _, _, _, _, _, _, s.heap, _, rfl, W, st, hfp, by rw [List.size_toArray]; omega, hw, hk, PySem.W.cmpIn_lt (A := X.A.in1) hr' hal (by show X.A.units + 1 + _ < _; omega), fun v s' hP m => ?_⟩
    obtain ⟨h', tk, rfl, hk'⟩ := PySem.W.moved_old e rfl m
    have hP' : its[bestLt ds]? = some v := by
      have : its.toArray[argBest (fun i j => PySem.W.dataLt (ds.getD i .none) (ds.getD j .none)) (its.toArray.size - 1)]? = some v := hP
      rw [List.size_toArray, hsz] at this
      rw [← this, List.getElem?_toArray]; rfl
    have hlen : bestLt ds < its.length := (List.getElem?_eq_some_iff.mp hP').1
    have hx : xs[bestLt ds]? = some (xs[bestLt ds]'(by rw [rv.length]; exact hlen)) := List.getElem?_eq_getElem _
    obtain ⟨u, hu2, ru⟩ := rv.get hx
    rw [hP'] at hu2; cases hu2
    exact ⟨_, H, I.kept hk', ru, q _ hx⟩
theorem cr_maxDa {X : Cx} (hc : X.calm = true) (hu : X.A.units + 64 < cLine) : CallR X (.builtin "max") (rBest X.K bestGt) := by
  intro pins s σ H vs us Q I r h
  obtain ⟨a, xs, ds, rfl, hs, hd, hal, hdp, hne, q⟩ := h
  rw [Vals.ref1 r]
  rcases hs with hs | hs
  · obtain ⟨its, rv, hl, _⟩ := I.list hs
    obtain ⟨as, hr⟩ := Dp.readsAll I ds xs its hd rv
    have hsz : its.length = ds.length := readsAll_len _ hr
    have hr' : ReadsAll s.heap its.toArray.toList ds as := hr
    refine call_max_walkH (PySem.W.iter_listW (A := X.A.in1) (I.ok.hd hc) hl.isList fun s₂ e W st hfp hw hk => ?_)
    refine ⟨_, _, _, _, _, _, _, s.heap, _, rfl, W, st, hfp, by rw [List.size_toArray]; omega, hw, hk, PySem.W.cmpIn_gt (A := X.A.in1) hr' hal (by show X.A.units + 1 + _ < _; omega), fun v s' hP m => ?_⟩
    obtain ⟨h', tk, rfl, hk'⟩ := PySem.W.moved_old e rfl m
    have hP' : its[bestGt ds]? = some v := by
      have : its.toArray[argBest (fun i j => PySem.W.dataLt (ds.getD j .none) (ds.getD i .none)) (its.toArray.size - 1)]? = some v := hP
      rw [List.size_toArray, hsz] at this
      rw [← this, List.getElem?_toArray]; rfl
    have hlen : bestGt ds < its.length := (List.getElem?_eq_some_iff.mp hP').1
    have hx : xs[bestGt ds]? = some (xs[bestGt ds]'(by rw [rv.length]; exact hlen)) := List.getElem?_eq_getElem _
    obtain ⟨u, hu2, ru⟩ := rv.get hx
    rw [hP'] at hu2; cases hu2
    exact ⟨_, H, I.kept hk', ru, q _ hx⟩
  · obtain ⟨its, rv, hl, _⟩ := I.tuple hs
    obtain ⟨as, hr⟩ := Dp.readsAll I ds xs its hd rv
    have hsz : its.length = ds.length := readsAll_len _ hr
    have hr' : ReadsAll s.heap its.toArray.toList ds as := hr
    refine call_max_walkH (PySem.W.iter_tupleW (A := X.A.in1) (I.ok.hd hc) (show s.heap.IsTuple a its.toArray from hl) fun s₂ e W st hfp hw hk => ?_)
    refine ⟨_, _, _, _, _, _, _, s.heap, _, rfl, W, st, hfp, by rw [List.size_toArray]; omega, hw, hk, PySem.W.cmpIn_gt (A := X.A.in1) hr' hal (by show X.A.units + 1 + _ < _; omega), fun v s' hP m => ?_⟩
    obtain ⟨h', tk, rfl, hk'⟩ := PySem.W.moved_old e rfl m
    have hP' : its[bestGt ds]? = some v := by
      have : its.toArray[argBest (fun i j => PySem.W.dataLt (ds.getD j .none) (ds.getD i .none)) (its.toArray.size - 1)]? = some v := hP
      rw [List.size_toArray, hsz] at this
      rw [← this, List.getElem?_toArray]; rfl
    have hlen : bestGt ds < its.length := (List.getElem?_eq_some_iff.mp hP').1
    have hx : xs[bestGt ds]? = some (xs[bestGt ds]'(by rw [rv.length]; exact hlen)) := List.getElem?_eq_getElem _
    obtain ⟨u, hu2, ru⟩ := rv.get hx
    rw [hP'] at hu2; cases hu2
    exact ⟨_, H, I.kept hk', ru, q _ hx⟩
/-! ### tuple(range(a, b, c)) -/
section
variable {X : Cx} {a b c : Expr} {ta tb tc : TE}
def rg3V (i c : Int) (n : Nat) : List V := (List.range n).map fun k => V.int (i + (k : Nat) * c)
def tTup3 (ta tb tc : TE) : TE := fun σ H Q => ta σ H fun x H1 => tb σ H1 fun y H2 => tc σ H2 fun z H3 => ∃ (i j c : Int) (n : Nat), x = .int i ∧ y = .int j ∧ z = .int c ∧ RgC i j c n ∧ n ≤ 16777216 ∧ ∀ q, H3 q = none → Q (.ref q) (upd H3 q (.tup (rg3V i c n)))
theorem pe_tup3 {p p2 pos pos2 : Pos} (hc : X.calm = true) (hg : Gl X "tuple") (hm : X.mg "tuple" = none) (hg2 : Gl X "range") (hm2 : X.mg "range" = none) (ha : PE X a ta) (hb : PE X b tb) (hcc : PE X c tc)
    (na : starEach [a, b, c] X.env = (false, eval a X.env) :: starEach [b, c] X.env := by rfl) (nb : starEach [b, c] X.env = (false, eval b X.env) :: starEach [c] X.env := by rfl) (nc : starEach [c] X.env = (false, eval c X.env) :: starEach [] X.env := by rfl)
    (hp : (backTo pos2 (starEach [b, c] X.env)).any (·.1) = false := by rfl) (nr : starEach [.Call (.Name "range" p2) [a, b, c] [] pos2] X.env = (false, eval (.Call (.Name "range" p2) [a, b, c] [] pos2) X.env) :: starEach [] X.env := by rfl) :
    PE X (.Call (.Name "tuple" p) [.Call (.Name "range" p2) [a, b, c] [] pos2] [] pos) (tTup3 ta tb tc) := by
  refine ⟨fun pins s σ H Q I h => ?_⟩
  refine Call_ (ld_blt I hg hm boot_tuple (PyProof.Rows.callWith_type1 (args_cons ?_ nr) nr))
  refine Call_ (ld_blt I hg2 hm2 boot_range (PyProof.Rows.callWith_type1 (args_cons (thn (ha.run pins s σ H _ I h) fun v s1 ⟨x, H1, I1, r1, q1⟩ => args_cons (thn (hb.run pins s1 σ H1 _ I1 q1) fun u s2 ⟨y, H2, I2, r2, q2⟩ => one_arg hcc I2 q2 (fun w s3 z H3 I3 r3 q => ?_) nc) nb) na) na hp))
  obtain ⟨i, j, k, n, rfl, rfl, rfl, ⟨c0, c1, c2, c3⟩, hn, q⟩ := q
  obtain ⟨t, rfl⟩ := r1
  obtain ⟨t', rfl⟩ := r2
  obtain ⟨t'', rfl⟩ := r3
  refine call_range_3 c0 (args_nil ?_) (.inl (PyProof.noPylong_small c1))
  have I4 : Inv X pins σ H3 { s3 with heap := s3.heap.push { cls := .type "range", data := .fields #[.int i t, .int j t', .int k t''] } } := I3.kept (t' := s3.toks) fun b o e => Heap.get?_push_of_some _ e
  refine call_tuple_range (n := n) (I4.ok.hd hc) (IsRange.new _ _ _ _ _ _ _) c2 c3 hn fun h' tk acc hk hi => ?_
  have I5 : Inv X pins σ H3 { s3 with heap := h', toks := tk } := I4.kept hk
  have hv : Vals (rg3V i k n) acc.toList := by
    have e : acc.toList.length = n := by rw [Array.length_toList]; exact hi.1
    unfold rg3V
    rw [← e]
    refine vals_of_get acc.toList _ fun j u hj => ?_
    obtain ⟨t, rfl⟩ := hi.2 j u (by rw [← hj, Array.getElem?_toList])
    exact ⟨t, rfl⟩
  refine ⟨.ref h'.objs.size, upd H3 h'.objs.size (.tup (rg3V i k n)), I5.laid (t' := tk) (fun c o e => Heap.get?_push_of_some _ e) (Nat.le_refl _) (show ObjOk X.prog X.w _ _ _ (.tup (rg3V i k n)) from ⟨?_, acc.toList, hv, ?_⟩), rfl, q _ (I5.hok.fresh (Nat.le_refl _))⟩
  · unfold rg3V; rw [List.length_map, List.length_range, sizeLine_eq]; omega
  · rw [Array.toArray_toList]; exact IsTup.new _ _
end
end L2
namespace PM
open PySem L2
def oBest (best : List PyData → Nat) : POn := fun xs P => ∃ x ps ds, xs = [x] ∧ seqP x = some ps ∧ toDs ps = some ds ∧ PySem.W.AlikeAll ds ∧ PyData.depthAll ds ≤ 60 ∧ 0 < ps.length ∧ ∀ p, ps[best ds]? = some p → P p
theorem toDs_len : ∀ {ps : List PV} {ds : List PyData}, toDs ps = some ds → ds.length = ps.length
  | [], _, h => by unfold toDs at h; cases h; rfl
  | p :: ps, _, h => by
    unfold toDs at h
    cases q : toD p with
    | none => rw [q] at h; cases h
    | some d =>
      rw [q] at h
      cases q2 : toDs ps with
      | none => rw [q2] at h; cases h
      | some ds => rw [q2] at h; cases h; rw [List.length_cons, List.length_cons, toDs_len q2]
theorem lift_best {K : PySem.W.Frag} {best : List PyData → Nat} (hb : ∀ ds, 0 < ds.length → best ds < ds.length) : LiftN K (rBest K best) (oBest best) .cl := by
  rintro Z W H ps vs P Q S r ⟨x, qs, ds, rfl, hx, hd, hal, hdp, hne, hp⟩ k
  obtain ⟨v, rfl, rv⟩ := r.one
  obtain ⟨a, ws, rfl, hs, rs⟩ := rv.seq hx
  have hl := toDs_len hd
  refine ⟨a, ws, ds, rfl, hs, toDs_dp rs hd, hal, hdp, by omega, fun v hv => ?_⟩
  have hlt := hb ds (by omega)
  have hq : qs[best ds]? = some (qs[best ds]'(by omega)) := List.getElem?_eq_getElem _
  obtain ⟨v', hv', rv'⟩ := rs.get hq
  rw [hv] at hv'; cases hv'
  exact S.fin k rv' (hp _ hq)
theorem argBest_le (bt : Nat → Nat → Bool) : ∀ n, argBest bt n ≤ n
  | 0 => Nat.le_refl _
  | n + 1 => by
    unfold argBest
    split
    · exact Nat.le_refl _
    · exact Nat.le_succ_of_le (argBest_le bt n)
theorem bestLt_lt (ds : List PyData) (h : 0 < ds.length) : bestLt ds < ds.length := by
  have := argBest_le (fun i j => PySem.W.dataLt (ds.getD i .none) (ds.getD j .none)) (ds.length - 1)
  unfold bestLt
  omega
theorem bestGt_lt (ds : List PyData) (h : 0 < ds.length) : bestGt ds < ds.length := by
  have := argBest_le (fun i j => PySem.W.dataLt (ds.getD j .none) (ds.getD i .none)) (ds.length - 1)
  unfold bestGt
  omega
section
variable {X : Cx} {c : List Ow} {a b d e : Expr} {ta tb td : TEm} {p p2 pos pos2 : Pos}
def rg3P (i k : Int) (n : Nat) : List PV := (List.range n).map fun j => PV.int (i + (j : Nat) * k)
def mTup3 (ta tb td : TEm) : TEm := fun env P => ta env fun x => tb env fun y => td env fun z => ∃ (i j k : Int) (n : Nat), x = .int i ∧ y = .int j ∧ z = .int k ∧ RgC i j k n ∧ n ≤ 16777216 ∧ P (.tup (rg3P i k n))
theorem em_tup3 (hc : X.calm = true) (hm : X.mg "tuple" = none) (hm2 : X.mg "range" = none) (ha : PEm X c .ow a ta) (hb : PEm X c .ow b tb) (hd : PEm X c .ow d td) (hg : Gl X "tuple" := by rfl) (hg2 : Gl X "range" := by rfl)
    (na : starEach [a, b, d] X.env = (false, eval a X.env) :: starEach [b, d] X.env := by rfl) (nb : starEach [b, d] X.env = (false, eval b X.env) :: starEach [d] X.env := by rfl) (nc : starEach [d] X.env = (false, eval d X.env) :: starEach [] X.env := by rfl)
    (hp : (backTo pos2 (starEach [b, d] X.env)).any (·.1) = false := by rfl) (nr : starEach [.Call (.Name "range" p2) [a, b, d] [] pos2] X.env = (false, eval (.Call (.Name "range" p2) [a, b, d] [] pos2) X.env) :: starEach [] X.env := by rfl) :
    PEm X c .cl (.Call (.Name "tuple" p) [.Call (.Name "range" p2) [a, b, d] [] pos2] [] pos) (mTup3 ta tb td) := ⟨(pe_tup3 hc hg hm hg2 hm2 ha.run hb.run hd.run na nb nc hp nr).weak fun σ H Q h => by
  obtain ⟨G, A, W, env, P, R, h, k⟩ := h
  refine ⟨G, A, W, env, _, R, h, fun px vx H1 g1 rx h1 => ⟨G, A, W, env, _, R.grow g1, h1, fun py vy H2 g2 ry h2 => ⟨G, A, W, env, _, (R.grow g1).grow g2, h2, fun pz vz H3 g3 rz h3 => ?_⟩⟩⟩
  obtain ⟨i, j, m, n, rfl, rfl, rfl, hr, hn, hp⟩ := h3
  have R3 := ((R.grow g1).grow g2).grow g3
  refine ⟨i, j, m, n, rx.o.int, ry.o.int, rz.o.int, hr, hn, fun q nq => ?_⟩
  have rs : Rps X.K ⟨Zt G A W, W, H3⟩ (rg3P i m n) (rg3V i m n) := by
    have e1 : rg3P i m n = ((List.range n).map fun j => i + (j : Nat) * m).map PV.int := by unfold rg3P; rw [List.map_map]; rfl
    have e2 : rg3V i m n = ((List.range n).map fun j => i + (j : Nat) * m).map V.int := by unfold rg3V; rw [List.map_map]; rfl
    rw [e1, e2]
    exact Rps.ints.mpr rfl
  exact k _ _ _ (((g1.trans g2).trans g3).trans (Grow.new R3.src nq)) (VK1.ofRp (Rp.newTup (R3.nz nq) nq R3.src R.sz rs)) hp⟩
/-- list(range(..)), tuple(range(..)) -/
def mRgL1 (t : TEm) : TEm := fun env P => t env fun x => ∃ n, x = .int n ∧ RgOk 0 n ∧ P (.lst (rngP 0 n.toNat))
def mRgT1 (t : TEm) : TEm := fun env P => t env fun x => ∃ n, x = .int n ∧ RgOk 0 n ∧ P (.tup (rngP 0 n.toNat))
def mRgL2 (t u : TEm) : TEm := fun env P => t env fun x => u env fun y => ∃ i j, x = .int i ∧ y = .int j ∧ RgOk i j ∧ P (.lst (rngP i (j - i).toNat))
def mRgT2 (t u : TEm) : TEm := fun env P => t env fun x => u env fun y => ∃ i j, x = .int i ∧ y = .int j ∧ RgOk i j ∧ P (.tup (rngP i (j - i).toNat))
theorem rg_rps {K : PySem.W.Frag} {S : Wd} {i j : Int} : Rps K S (rngP i (j - i).toNat) (rgV i j) := by
  have e1 : rngP i (j - i).toNat = ((List.range (j - i).toNat).map fun (k : Nat) => i + (k : Int)).map PV.int := by unfold rngP; rw [List.map_map]; rfl
  have e2 : rgV i j = ((List.range (j - i).toNat).map fun (k : Nat) => i + (k : Int)).map V.int := by unfold rgV; rw [List.map_map]; rfl
  rw [e1, e2]
  exact Rps.ints.mpr rfl
theorem em_rgL1 (hc : X.calm = true) (hm : X.mg "list" = none) (hm2 : X.mg "range" = none) (ha : PEm X c .ow a ta) (hg : Gl X "list" := by rfl) (hg2 : Gl X "range" := by rfl) (na : starEach [a] X.env = (false, eval a X.env) :: starEach [] X.env := by rfl)
    (nr : starEach [.Call (.Name "range" p2) [a] [] pos2] X.env = (false, eval (.Call (.Name "range" p2) [a] [] pos2) X.env) :: starEach [] X.env := by rfl) : PEm X c .fr (.Call (.Name "list" p) [.Call (.Name "range" p2) [a] [] pos2] [] pos) (mRgL1 ta) := ⟨(pe_listRg hc hg hm (prg_1 hg2 hm2 ha.run na) nr).weak fun σ H Q h => by
  obtain ⟨G, A, W, env, P, R, h, k⟩ := h
  refine ⟨G, A, W, env, _, R, h, fun px vx H1 g1 rx ⟨n, e, hr, hp⟩ => ⟨n, by subst e; exact rx.o.int, hr, fun q nq => ?_⟩⟩
  have R1 := R.grow g1
  have rs : Rps X.K ⟨Zt G A W, W, H1⟩ (rngP 0 (n - 0).toNat) (rgV 0 n) := rg_rps
  rw [Int.sub_zero] at rs
  exact k _ _ _ (g1.trans (Grow.new R1.src nq)) ⟨q, rfl, g1.free nq, OwnAt.newLst nq rs⟩ hp⟩
theorem em_rgT1 (hc : X.calm = true) (hm : X.mg "tuple" = none) (hm2 : X.mg "range" = none) (ha : PEm X c .ow a ta) (hg : Gl X "tuple" := by rfl) (hg2 : Gl X "range" := by rfl) (na : starEach [a] X.env = (false, eval a X.env) :: starEach [] X.env := by rfl)
    (nr : starEach [.Call (.Name "range" p2) [a] [] pos2] X.env = (false, eval (.Call (.Name "range" p2) [a] [] pos2) X.env) :: starEach [] X.env := by rfl) : PEm X c .cl (.Call (.Name "tuple" p) [.Call (.Name "range" p2) [a] [] pos2] [] pos) (mRgT1 ta) := ⟨(pe_tupRg hc hg hm (prg_1 hg2 hm2 ha.run na) nr).weak fun σ H Q h => by
  obtain ⟨G, A, W, env, P, R, h, k⟩ := h
  refine ⟨G, A, W, env, _, R, h, fun px vx H1 g1 rx ⟨n, e, hr, hp⟩ => ⟨n, by subst e; exact rx.o.int, hr, fun q nq => ?_⟩⟩
  have R1 := R.grow g1
  have rs : Rps X.K ⟨Zt G A W, W, H1⟩ (rngP 0 (n - 0).toNat) (rgV 0 n) := rg_rps
  rw [Int.sub_zero] at rs
  exact k _ _ _ (g1.trans (Grow.new R1.src nq)) (VK1.ofRp (Rp.newTup (R1.nz nq) nq R1.src R.sz rs)) hp⟩
theorem em_rgL2 (hc : X.calm = true) (hm : X.mg "list" = none) (hm2 : X.mg "range" = none) (ha : PEm X c .ow a ta) (hb : PEm X c .ow b tb) (hg : Gl X "list" := by rfl) (hg2 : Gl X "range" := by rfl) (na : starEach [a, b] X.env = (false, eval a X.env) :: starEach [b] X.env := by rfl) (nb : starEach [b] X.env = (false, eval b X.env) :: starEach [] X.env := by rfl)
    (hp : (backTo pos2 (starEach [b] X.env)).any (·.1) = false := by rfl) (nr : starEach [.Call (.Name "range" p2) [a, b] [] pos2] X.env = (false, eval (.Call (.Name "range" p2) [a, b] [] pos2) X.env) :: starEach [] X.env := by rfl) : PEm X c .fr (.Call (.Name "list" p) [.Call (.Name "range" p2) [a, b] [] pos2] [] pos) (mRgL2 ta tb) := ⟨(pe_listRg hc hg hm (prg_2 hg2 hm2 ha.run hb.run na nb hp) nr).weak fun σ H Q h => by
  obtain ⟨G, A, W, env, P, R, h, k⟩ := h
  refine ⟨G, A, W, env, _, R, h, fun px vx H1 g1 rx h1 => ⟨G, A, W, env, _, R.grow g1, h1, fun py vy H2 g2 ry ⟨i, j, e, e2, hr, hp⟩ => ⟨i, j, by subst e; exact rx.o.int, by subst e2; exact ry.o.int, hr, fun q nq => ?_⟩⟩⟩
  have R2 := (R.grow g1).grow g2
  exact k _ _ _ ((g1.trans g2).trans (Grow.new R2.src nq)) ⟨q, rfl, (g1.trans g2).free nq, OwnAt.newLst nq rg_rps⟩ hp⟩
theorem em_rgT2 (hc : X.calm = true) (hm : X.mg "tuple" = none) (hm2 : X.mg "range" = none) (ha : PEm X c .ow a ta) (hb : PEm X c .ow b tb) (hg : Gl X "tuple" := by rfl) (hg2 : Gl X "range" := by rfl) (na : starEach [a, b] X.env = (false, eval a X.env) :: starEach [b] X.env := by rfl) (nb : starEach [b] X.env = (false, eval b X.env) :: starEach [] X.env := by rfl)
    (hp : (backTo pos2 (starEach [b] X.env)).any (·.1) = false := by rfl) (nr : starEach [.Call (.Name "range" p2) [a, b] [] pos2] X.env = (false, eval (.Call (.Name "range" p2) [a, b] [] pos2) X.env) :: starEach [] X.env := by rfl) : PEm X c .cl (.Call (.Name "tuple" p) [.Call (.Name "range" p2) [a, b] [] pos2] [] pos) (mRgT2 ta tb) := ⟨(pe_tupRg hc hg hm (prg_2 hg2 hm2 ha.run hb.run na nb hp) nr).weak fun σ H Q h => by
  obtain ⟨G, A, W, env, P, R, h, k⟩ := h
  refine ⟨G, A, W, env, _, R, h, fun px vx H1 g1 rx h1 => ⟨G, A, W, env, _, R.grow g1, h1, fun py vy H2 g2 ry ⟨i, j, e, e2, hr, hp⟩ => ⟨i, j, by subst e; exact rx.o.int, by subst e2; exact ry.o.int, hr, fun q nq => ?_⟩⟩⟩
  have R2 := (R.grow g1).grow g2
  exact k _ _ _ ((g1.trans g2).trans (Grow.new R2.src nq)) (VK1.ofRp (Rp.newTup (R2.nz nq) nq R2.src R.sz rg_rps)) hp⟩
end
theorem hu65_of {A : Around} {k : Nat} (hr : Room k A) : A.units + 65 < cLine := by have := hr.un; omega
/-! ### x in a line of data -/
def rInA (K : PySem.W.Frag) (neg : Bool) : R2 := fun x y H Q => ∃ d ds, Dp K H x d ∧ (Dp K H y (.list ds) ∨ Dp K H y (.tuple ds)) ∧ SeqAt.shaped d = true ∧ SeqAt.shaped (.list ds) = true ∧ Q (.bl (xor neg (ds.any fun z => PyData.eqv z d))) H
theorem op_inA {X : Cx} (hu : X.A.units + 65 < cLine) : OpR X (compareOp .In) (rInA X.K false) := by
  intro pins s σ H x y v u Q I rx ry h
  obtain ⟨d, ds, hd, he, sd, se, q⟩ := h
  rw [Bool.false_xor] at q
  obtain ⟨as, r1⟩ := Dp.reads I d x v hd rx
  rcases he with he | he
  · obtain ⟨bs, r2⟩ := Dp.reads I (.list ds) y u he ry
    exact SeqAt.in_list_reads r2 r1 (SeqAt.canLay_of_shaped se) (SeqAt.canLay_of_shaped sd) (PyProof.Rows.room_in_shaped sd hu) ⟨.bl _, H, I, rfl, q⟩
  · obtain ⟨bs, r2⟩ := Dp.reads I (.tuple ds) y u he ry
    exact SeqAt.in_tuple_reads r2 r1 (SeqAt.canLay_of_shaped se) (SeqAt.canLay_of_shaped sd) (PyProof.Rows.room_in_shaped sd hu) ⟨.bl _, H, I, rfl, q⟩
theorem op_ninA {X : Cx} (hu : X.A.units + 65 < cLine) : OpR X (compareOp .NotIn) (rInA X.K true) := by
  intro pins s σ H x y v u Q I rx ry h
  obtain ⟨d, ds, hd, he, sd, se, q⟩ := h
  rw [Bool.true_xor] at q
  obtain ⟨as, r1⟩ := Dp.reads I d x v hd rx
  rcases he with he | he
  · obtain ⟨bs, r2⟩ := Dp.reads I (.list ds) y u he ry
    exact SeqAt.notIn_list_reads r2 r1 (SeqAt.canLay_of_shaped se) (SeqAt.canLay_of_shaped sd) (PyProof.Rows.room_in_shaped sd hu) ⟨.bl _, H, I, rfl, q⟩
  · obtain ⟨bs, r2⟩ := Dp.reads I (.tuple ds) y u he ry
    exact SeqAt.notIn_tuple_reads r2 r1 (SeqAt.canLay_of_shaped se) (SeqAt.canLay_of_shaped sd) (PyProof.Rows.room_in_shaped sd hu) ⟨.bl _, H, I, rfl, q⟩
def oInA (neg : Bool) : PO2 := fun x y P => ∃ ps d ds, seqP y = some ps ∧ toD x = some d ∧ toDs ps = some ds ∧ SeqAt.shaped d = true ∧ SeqAt.shaped (.list ds) = true ∧ P (.bl (xor neg (ds.any fun z => PyData.eqv z d)))
theorem lift_inA {K : PySem.W.Frag} {neg : Bool} : Lift2 K (rInA K neg) (oInA neg) .cl := by
  rintro Z W H px py vx vy P Q S rx ry ⟨ps, d, ds, hy, hd, hds, sd, se, hp⟩ k
  refine ⟨d, ds, toD_dpO rx hd, ?_, sd, se, S.fin k Rp.bl' hp⟩
  cases py with
  | lst qs =>
    cases hy
    obtain ⟨a, ws, rfl, e, r⟩ := ry.lst
    exact .inl (.lst (.inl (.inl e.2)) (toDs_dp r hds))
  | tup qs =>
    cases hy
    obtain ⟨a, ws, rfl, e, r⟩ := ry.tup
    exact .inr (.tup e.sq (toDs_dp r hds))
  | _ => cases hy
/-! ### what min and max find -/
theorem argBest_min' {k : Nat → Int} {bt : Nat → Nat → Bool} : ∀ {n : Nat}, (∀ i j, i ≤ n → j ≤ n → k i < k j → bt i j = true) → (∀ i j, i ≤ n → j ≤ n → k j < k i → bt i j = false) → ∀ j, j ≤ n → k (argBest bt n) ≤ k j
  | 0, _, _, j, h => by rw [Nat.le_zero.mp h]; exact Int.le_refl _
  | n + 1, h1, h2, j, h => by
    have ih := argBest_min' (n := n) (fun i j a b => h1 i j (by omega) (by omega)) (fun i j a b => h2 i j (by omega) (by omega))
    have hb := argBest_le bt n
    unfold argBest
    cases e : bt (n + 1) (argBest bt n) with
    | true =>
      rw [if_pos rfl]
      have hle : k (n + 1) ≤ k (argBest bt n) := Int.not_lt.mp fun z => by rw [h2 _ _ (by omega) (by omega) z] at e; cases e
      rcases Nat.lt_or_ge n j with z | z
      · have : j = n + 1 := by omega
        rw [this]; exact Int.le_refl _
      · exact Int.le_trans hle (ih j z)
    | false =>
      rw [if_neg Bool.false_ne_true]
      have hle : k (argBest bt n) ≤ k (n + 1) := Int.not_lt.mp fun z => by rw [h1 _ _ (by omega) (by omega) z] at e; cases e
      rcases Nat.lt_or_ge n j with z | z
      · have : j = n + 1 := by omega
        rw [this]; exact hle
      · exact ih j z
theorem dataLt_hd {a b : Int} {r s : List PyData} (h : a ≠ b) : PySem.W.dataLt (.tuple (.int a :: r)) (.tuple (.int b :: s)) = decide (a < b) := by
  rw [PySem.W.dataLt_tuple, PySem.W.dataLt_all_no (by rfl) (by show (a == b) = false; simpa using h), PySem.W.dataLt_int]
/-- the least by the first part, a whole number -/
theorem bestLt_key {α : Type} {xs : List α} {f : α → PyData} {k : α → Int} (h1 : ∀ x y, k x < k y → PySem.W.dataLt (f x) (f y) = true) (h2 : ∀ x y, k y < k x → PySem.W.dataLt (f x) (f y) = false) (hp : 0 < xs.length) :
    ∃ x, xs[bestLt (xs.map f)]? = some x ∧ x ∈ xs ∧ ∀ y ∈ xs, k x ≤ k y := by
  have hl := bestLt_lt (xs.map f) (by rw [List.length_map]; exact hp)
  rw [List.length_map] at hl
  refine ⟨xs[bestLt (xs.map f)], List.getElem?_eq_getElem hl, List.getElem_mem hl, fun y hy => ?_⟩
  obtain ⟨j, hj, rfl⟩ := List.mem_iff_getElem.mp hy
  have d : α := xs[0]
  have gd : ∀ i (hi : i < xs.length), (xs.map f).getD i .none = f xs[i] := fun i hi => by
    rw [List.getD_eq_getElem?_getD, List.getElem?_map, List.getElem?_eq_getElem hi]; rfl
  have kk : ∀ i (hi : i < xs.length), (xs[i]?.map k).getD 0 = k xs[i] := fun i hi => by rw [List.getElem?_eq_getElem hi]; rfl
  -- beyond the end nothing is asked: the order is made total there
  have main := argBest_min' (n := xs.length - 1) (k := fun i => (xs[i]?.map k).getD 0) (bt := fun i j => PySem.W.dataLt ((xs.map f).getD i .none) ((xs.map f).getD j .none))
    (fun i j hi hj z => by rw [gd i (by omega), gd j (by omega)]; rw [kk i (by omega), kk j (by omega)] at z; exact h1 _ _ z)
    (fun i j hi hj z => by rw [gd i (by omega), gd j (by omega)]; rw [kk i (by omega), kk j (by omega)] at z; exact h2 _ _ z) j (by omega)
  have e : bestLt (xs.map f) = argBest (fun i j => PySem.W.dataLt ((xs.map f).getD i .none) ((xs.map f).getD j .none)) (xs.length - 1) := by unfold bestLt; rw [List.length_map]
  rw [kk j hj, ← e, kk _ hl] at main
  exact main
theorem ite_f {c p q : Prop} {inst : Decidable c} (h : ¬ c) (hq : q) : @ite Prop c inst p q := by rw [if_neg h]; exact hq
theorem ite_t {c p q : Prop} {inst : Decidable c} (h : c) (hp : p) : @ite Prop c inst p q := by rw [if_pos h]; exact hp
end PM

set_option maxHeartbeats 1000000
/-! zip of any two walkers: what is walked may be a list here and a tuple there. -/
namespace L2
open PySem PySem.Spec PyProof.Rows RZ
/-- a walker: its iterator at i over the thing at l -/
structure Wkr (i l : Addr) (It : Nat → Heap → Prop) (Co : Array Value → Heap → Prop) : Prop where
  keepI : ∀ {h g : Heap} {k : Nat}, It k h → (∀ o, h.get? i = some o → g.get? i = some o) → It k g
  keepC : ∀ {h g : Heap} {xs : Array Value}, Co xs h → (∀ o, h.get? l = some o → g.get? l = some o) → Co xs g
  obj : ∀ {h : Heap} {k : Nat}, It k h → ∃ o, h.get? i = some o ∧ ∀ v, o.data ≠ .cell v
  item : ∀ {prog : Program} {w : World} {A : Around} {E : Value → Shared → Prop} {s : Shared} {k : Nat} {x : Value} {xs : Array Value} {Q : Value → Shared → Prop}, It k s.heap → Co xs s.heap → xs[k]? = some x →
    (∀ g, It (k + 1) g → Heap.SameBut i s.heap g → Q x { s with heap := g }) → wpAny (model prog w) A (Builtin.SmallTypes.nextOf (.ref i)) Q E s
  fin : ∀ {prog : Program} {w : World} {A : Around} {E : Value → Shared → Prop} {s : Shared} {k : Nat} {xs : Array Value} {Q : Value → Shared → Prop}, A.handled = none → It k s.heap → Co xs s.heap → xs[k]? = none →
    (∀ g e, Heap.ExtBut i s.heap g → (∃ o, g.get? e = some o ∧ o.cls = .type "StopIteration") → E (.ref e) { s with heap := g }) → wpAny (model prog w) A (Builtin.SmallTypes.nextOf (.ref i)) Q E s
theorem wkr_list {i l : Addr} : Wkr i l (fun k h => h.IsListIter i l k) (fun xs h => h.IsList l xs) where
  keepI := fun a f => a.at f
  keepC := fun ⟨o, ho, r⟩ g => ⟨o, g _ ho, r⟩
  obj := fun ⟨o, e, _, d⟩ => ⟨o, e, fun v q => by rw [d] at q; cases q⟩
  item := fun a b hx hq => wpAny_nextOf_list_item a b hx hq
  fin := fun hh a b hx hq => wpAny_nextOf_list_end hh a b hx hq
theorem wkr_tup {i l : Addr} : Wkr i l (fun k h => h.IsTupleIter i l k) (fun xs h => h.IsTuple l xs) where
  keepI := fun a f => a.at f
  keepC := fun ⟨o, ho, r⟩ g => ⟨o, g _ ho, r⟩
  obj := fun ⟨o, e, _, d⟩ => ⟨o, e, fun v q => by rw [d] at q; cases q⟩
  item := fun a b hx hq => nextOf_tuple_item a b hx hq
  fin := fun hh a b hx hq => nextOf_tuple_end hh a b hx hq
section
variable {prog : Program} {w : World} {A : Around} {E : Value → Shared → Prop} {s : Shared} {z TI TO i j l m : Addr} {I J : Nat → Heap → Prop} {C D : Array Value → Heap → Prop} {k n : Nat} {xs ys : Array Value} {a b : Value}
theorem zipW_item {x y : Value} {Q : Value → Shared → Prop} (P : ZipApart z TI TO i j l m) (U : Wkr i l I C) (V : Wkr j m J D) (fz : IsZip s.heap z TI TO .none) (fI : IsPair s.heap TI (.ref i) (.ref j)) (fO : IsPair s.heap TO a b)
    (st1 : I k s.heap) (st2 : J n s.heap) (co1 : C xs s.heap) (co2 : D ys s.heap) (ex : xs[k]? = some x) (ey : ys[n]? = some y)
    (K : ∀ g, IsZip g z TI TO (rawInt s.heap.objs.size) → IsPair g TO x y → I (k + 1) g → J (n + 1) g → IsPair g s.heap.objs.size x y → g.objs.size = s.heap.objs.size + 1 → (∀ c o, c ≠ z → c ≠ TO → c ≠ i → c ≠ j → s.heap.get? c = some o → g.get? c = some o) → Q (.ref s.heap.objs.size) { s with heap := g }) :
    wpAny (model prog w) A (Builtin.«zip.__next__» ⟨[.ref z], []⟩) (fun r t => ∃ v, r = .done (.ret v) ∧ Q v t) E s := by
  show wpAny _ A (field (.ref z) 2 >>= _) _ E s
  refine wpAny_bind (wpAny_field fz rfl (x := .bool false) rfl ?_)
  show wpAny _ A (field (.ref z) 3 >>= _) _ E s
  refine wpAny_bind (wpAny_field fz rfl (x := .ref TI) rfl (wpAny_bind (wpAny_seqItems fI rfl ?_)))
  show wpAny _ A (Builtin.SmallTypes.ownedTupleIsFree (.ref z) >>= _) _ E s
  unfold Builtin.SmallTypes.ownedTupleIsFree
  refine wpAny_bind (wpAny_bind (wpAny_field fz rfl (x := .none) rfl (wpAny_pure ?_)))
  simp only [if_true]
  refine wpAny_bind (wpAny_rule (wpAny_bind (wpAny_field fz rfl (x := .ref TO) rfl (wpAny_bind (wpAny_setField_rec fz (by simp) fun g1 gz1 b1 => ?_)))))
  replace gz1 : IsZip g1 z TI TO .ellipsis := gz1
  refine wpAny_bind ?_
  simp only [List.zipIdx_cons, List.zipIdx_nil, List.forIn_cons, List.forIn_nil]
  refine wpAny_bind (wpAny_bind (wpAny_onRaise ?_))
  show wpAny _ A (Builtin.SmallTypes.nextOf (.ref i) >>= _) _ _ _
  have k1 : ∀ c o, c ≠ z → s.heap.get? c = some o → g1.get? c = some o := fun c o h e => b1.extBut _ _ h e
  refine wpAny_bind (U.item (U.keepI st1 fun o => k1 _ o P.i1z) (U.keepC co1 fun o => k1 _ o P.l1z) ex fun g2 st1' b2 => wpAny_pure ?_)
  have k2 : ∀ c o, c ≠ i → g1.get? c = some o → g2.get? c = some o := fun c o h e => b2.extBut _ _ h e
  have fO2 : IsPair g2 TO a b := k2 _ _ P.TOi1 (k1 _ _ P.TOz fO)
  refine wpAny_bind (wpAny_seqItems fO2 rfl (wpAny_bind (wpAny_updateSeq_pair fO2 fun g3 fO3 b3 => ?_)))
  replace fO3 : IsPair g3 TO x b := fO3
  have k3 : ∀ c o, c ≠ TO → g2.get? c = some o → g3.get? c = some o := fun c o h e => b3.extBut _ _ h e
  refine wpAny_bind (wpAny_letGo (wpAny_pure (wpAny_bind (wpAny_bind (wpAny_onRaise ?_)))))
  show wpAny _ A (Builtin.SmallTypes.nextOf (.ref j) >>= _) _ _ _
  refine wpAny_bind (V.item (V.keepI st2 fun o e => k3 _ o P.TOi2.symm (k2 _ o P.i12.symm (k1 _ o P.i2z e))) (V.keepC co2 fun o e => k3 _ o P.l2TO (k2 _ o P.l2i1 (k1 _ o P.l2z e))) ey fun g4 st2' b4 => wpAny_pure ?_)
  have k4 : ∀ c o, c ≠ j → g3.get? c = some o → g4.get? c = some o := fun c o h e => b4.extBut _ _ h e
  have fO4 : IsPair g4 TO x b := k4 _ _ P.TOi2 fO3
  refine wpAny_bind (wpAny_seqItems fO4 rfl (wpAny_bind (wpAny_updateSeq_pair fO4 fun g5 fO5 b5 => ?_)))
  replace fO5 : IsPair g5 TO x y := fO5
  have k5 : ∀ c o, c ≠ TO → g4.get? c = some o → g5.get? c = some o := fun c o h e => b5.extBut _ _ h e
  refine wpAny_bind (wpAny_letGo (wpAny_pure (wpAny_pure (wpAny_bind (wpAny_seqItems fO5 rfl (wpAny_bind (wpAny_newTuple ?_)))))))
  have sz : g5.objs.size = s.heap.objs.size := by rw [b5.1, b4.1, b3.1, b2.1, b1.1]
  have gz5 : IsZip g5 z TI TO .ellipsis := k5 _ _ P.TOz.symm (k4 _ _ P.i2z.symm (k3 _ _ P.TOz.symm (k2 _ _ P.i1z.symm gz1)))
  have zl : z < g5.objs.size := Heap.lt_size gz5
  show wpAny _ A (Builtin.SmallTypes.ownedTupleHandOut (.ref z) (.ref g5.objs.size) >>= _) _ E _
  unfold Builtin.SmallTypes.ownedTupleHandOut
  refine wpAny_bind ?_
  have gz6 : IsZip (g5.push { cls := .type "tuple", data := .seq #[x, y] }) z TI TO .ellipsis := Heap.get?_push_of_some _ gz5
  refine wpAny_bind (wpAny_setField_rec gz6 (by simp) fun g7 gz7 b7 => ?_)
  replace gz7 : IsZip g7 z TI TO (rawInt g5.objs.size) := gz7
  refine wpAny_setField_rec gz7 (by simp) fun g8 gz8 b8 => ?_
  replace gz8 : IsZip g8 z TI TO (rawInt g5.objs.size) := gz8
  have k8 : ∀ c o, c ≠ z → g5.get? c = some o → g8.get? c = some o := fun c o h e => b8.extBut _ _ h (b7.extBut _ _ h (Heap.get?_push_of_some _ e))
  have nw : IsPair g8 g5.objs.size x y := b8.extBut _ _ (Nat.ne_of_gt zl) (b7.extBut _ _ (Nat.ne_of_gt zl) (Heap.get?_push_size _ rfl))
  have sz8 : g8.objs.size = g5.objs.size + 1 := by rw [b8.1, b7.1, Heap.size_push]
  rw [sz] at gz8 nw sz8
  refine wpAny_pure ⟨_, rfl, ?_⟩
  show Q (.ref g5.objs.size) { s with heap := g8 }
  rw [sz]
  refine K g8 gz8 (k8 _ _ P.TOz fO5) (U.keepI st1' fun o e => k8 _ o P.i1z (k5 _ o P.TOi1.symm (k4 _ o P.i12 (k3 _ o P.TOi1.symm e)))) (V.keepI st2' fun o e => k8 _ o P.i2z (k5 _ o P.TOi2.symm e)) nw sz8 fun c o n1 n2 n3 n4 e => ?_
  exact k8 _ o n1 (k5 _ o n2 (k4 _ o n4 (k3 _ o n2 (k2 _ o n3 (k1 _ o n1 e)))))
theorem zipW_fin {Q : Fin → Shared → Prop} (hh : A.handled = none) (P : ZipApart z TI TO i j l m) (U : Wkr i l I C) (V : Wkr j m J D) (fz : IsZip s.heap z TI TO .none) (fI : IsPair s.heap TI (.ref i) (.ref j)) (fO : IsPair s.heap TO a b)
    (st1 : I k s.heap) (st2 : J n s.heap) (co1 : C xs s.heap) (co2 : D ys s.heap) (en : xs[k]? = none ∨ ys[n]? = none)
    (K : ∀ g e, (∀ c o, c ≠ z → c ≠ TO → c ≠ i → c ≠ j → s.heap.get? c = some o → g.get? c = some o) → (∃ o, g.get? e = some o ∧ o.cls = .type "StopIteration") → E (.ref e) { s with heap := g }) :
    wpAny (model prog w) A (Builtin.«zip.__next__» ⟨[.ref z], []⟩) Q E s := by
  show wpAny _ A (field (.ref z) 2 >>= _) _ E s
  refine wpAny_bind (wpAny_field fz rfl (x := .bool false) rfl ?_)
  show wpAny _ A (field (.ref z) 3 >>= _) _ E s
  refine wpAny_bind (wpAny_field fz rfl (x := .ref TI) rfl (wpAny_bind (wpAny_seqItems fI rfl ?_)))
  show wpAny _ A (Builtin.SmallTypes.ownedTupleIsFree (.ref z) >>= _) _ E s
  unfold Builtin.SmallTypes.ownedTupleIsFree
  refine wpAny_bind (wpAny_bind (wpAny_field fz rfl (x := .none) rfl (wpAny_pure ?_)))
  simp only [if_true]
  refine wpAny_bind (wpAny_rule (wpAny_bind (wpAny_field fz rfl (x := .ref TO) rfl (wpAny_bind (wpAny_setField_rec fz (by simp) fun g1 gz1 b1 => ?_)))))
  replace gz1 : IsZip g1 z TI TO .ellipsis := gz1
  refine wpAny_bind ?_
  simp only [List.zipIdx_cons, List.zipIdx_nil, List.forIn_cons, List.forIn_nil]
  refine wpAny_bind (wpAny_bind (wpAny_onRaise ?_))
  show wpAny _ A (Builtin.SmallTypes.nextOf (.ref i) >>= _) _ _ _
  have k1 : ∀ c o, c ≠ z → s.heap.get? c = some o → g1.get? c = some o := fun c o h e => b1.extBut _ _ h e
  cases ex : xs[k]? with
  | none =>
    refine wpAny_bind (U.fin hh (U.keepI st1 fun o => k1 _ o P.i1z) (U.keepC co1 fun o => k1 _ o P.l1z) ex fun g2 e b2 he => ?_)
    obtain ⟨oe, e1, e2⟩ := he
    have gz2 : IsZip g2 z TI TO .ellipsis := b2 _ _ P.i1z.symm gz1
    have ne : e ≠ z := fun q => by subst q; rw [gz2] at e1; cases e1; simp at e2
    exact wpAny_setField_rec gz2 (by simp) fun g3 _ b3 => K g3 e (fun c o n1 _ n3 _ h => b3.extBut _ _ n1 (b2 _ _ n3 (k1 _ o n1 h))) ⟨oe, b3.extBut _ _ ne e1, e2⟩
  | some x =>
    have ey : ys[n]? = none := en.elim (fun q => by rw [ex] at q; cases q) id
    refine wpAny_bind (U.item (U.keepI st1 fun o => k1 _ o P.i1z) (U.keepC co1 fun o => k1 _ o P.l1z) ex fun g2 st1' b2 => wpAny_pure ?_)
    have k2 : ∀ c o, c ≠ i → g1.get? c = some o → g2.get? c = some o := fun c o h e => b2.extBut _ _ h e
    have fO2 : IsPair g2 TO a b := k2 _ _ P.TOi1 (k1 _ _ P.TOz fO)
    refine wpAny_bind (wpAny_seqItems fO2 rfl (wpAny_bind (wpAny_updateSeq_pair fO2 fun g3 fO3 b3 => ?_)))
    have k3 : ∀ c o, c ≠ TO → g2.get? c = some o → g3.get? c = some o := fun c o h e => b3.extBut _ _ h e
    refine wpAny_bind (wpAny_letGo (wpAny_pure (wpAny_bind (wpAny_bind (wpAny_onRaise ?_)))))
    show wpAny _ A (Builtin.SmallTypes.nextOf (.ref j) >>= _) _ _ _
    refine wpAny_bind (V.fin hh (V.keepI st2 fun o e => k3 _ o P.TOi2.symm (k2 _ o P.i12.symm (k1 _ o P.i2z e))) (V.keepC co2 fun o e => k3 _ o P.l2TO (k2 _ o P.l2i1 (k1 _ o P.l2z e))) ey fun g4 e b4 he => ?_)
    obtain ⟨oe, e1, e2⟩ := he
    have gz4 : IsZip g4 z TI TO .ellipsis := b4 _ _ P.i2z.symm (k3 _ _ P.TOz.symm (k2 _ _ P.i1z.symm gz1))
    have ne : e ≠ z := fun q => by subst q; rw [gz4] at e1; cases e1; simp at e2
    exact wpAny_setField_rec gz4 (by simp) fun g5 _ b5 => K g5 e (fun c o n1 n2 n3 n4 h => b5.extBut _ _ n1 (b4 _ _ n4 (k3 _ o n2 (k2 _ o n3 (k1 _ o n1 h))))) ⟨oe, b5.extBut _ _ ne e1, e2⟩
end
/-! ### a tuple and a list -/
def zM1 (h : Heap) (l : Addr) : Heap := h.push { cls := .type "tuple_iterator", data := .fields #[.ref l, .int 0 0] }
def zM2 (h : Heap) (l m : Addr) : Heap := (zM1 h l).push { cls := .type "list_iterator", data := .fields #[.ref m, .int 0 0] }
def zM3 (h : Heap) (l m : Addr) : Heap := (zM2 h l m).push { cls := .type "tuple", data := .seq #[.ref h.objs.size, .ref (zM1 h l).objs.size] }
def zM4 (h : Heap) (l m : Addr) : Heap := (zM3 h l m).push { cls := .type "tuple", data := .seq #[.none, .none] }
def zM5 (h : Heap) (l m : Addr) : Heap := (zM4 h l m).push { cls := .type "zip", data := .fields #[.none, .bool false, .bool false, .ref (zM2 h l m).objs.size, .ref (zM3 h l m).objs.size] }
theorem meets_zM (l m : Addr) (xs ys : Array Value) :
    Meets (Builtin.«zip.__new__» ⟨[.type "zip", .ref l, .ref m], []⟩) (fun _ R t => t.heap.IsTuple l xs ∧ t.heap.IsList m ys ∧ R (.ok (.ret (.ref (zM4 t.heap l m).objs.size))) { t with heap := zM5 t.heap l m }) :=
  .of_wp fun prog w A R t q => by
    obtain ⟨hp, g, d, tk, os⟩ := t
    obtain ⟨q1, q2, q⟩ := q
    have hsub := sub_zip
    have f1 : Heap.IsTuple (Shared.heap ⟨hp, g, d, tk, os⟩) l xs := q1
    have f2 : Heap.IsList (Shared.heap ⟨hp.push { cls := .type "tuple_iterator", data := .fields #[.ref l, .int 0 0] }, g, d, tk, os⟩) m ys := Heap.IsList.push q2 _
    wp_walk using wpAny_pyIter_tuple f1, wpAny_pyIter_list f2
    exact ⟨_, rfl, q⟩
section
variable {prog : Program} {w : World} {A : Around} {E : Value → Shared → Prop} {s : Shared}
theorem call_zM {l m : Addr} {xs ys : Array Value} {Q : Value → Shared → Prop} (q1 : s.heap.IsTuple l xs) (q2 : s.heap.IsList m ys)
    (K : ∀ g, IsZip g (s.heap.objs.size + 4) (s.heap.objs.size + 2) (s.heap.objs.size + 3) .none → IsPair g (s.heap.objs.size + 2) (.ref s.heap.objs.size) (.ref (s.heap.objs.size + 1)) → IsPair g (s.heap.objs.size + 3) .none .none →
      g.IsTupleIter s.heap.objs.size l 0 → g.IsListIter (s.heap.objs.size + 1) m 0 → g.objs.size = s.heap.objs.size + 5 → (∀ c o, s.heap.get? c = some o → g.get? c = some o) → Q (.ref (s.heap.objs.size + 4)) { s with heap := g }) :
    wpAny (model prog w) A (call (.type "zip") [.ref l, .ref m]) Q E s := by
  refine callType_new F.called_zip (by decide) (F.typeCall_zip_2 _ _) (F.newCall_zip_2 _ _) (fun o => F.args_object_init_3 o _ _) F.entry_zip_new (meets_zM l m xs ys) ⟨q1, q2, ?_⟩
  have n1 : (zM1 s.heap l).objs.size = s.heap.objs.size + 1 := Heap.size_push ..
  have n2 : (zM2 s.heap l m).objs.size = s.heap.objs.size + 2 := by unfold zM2; rw [Heap.size_push, n1]
  have n3 : (zM3 s.heap l m).objs.size = s.heap.objs.size + 3 := by unfold zM3; rw [Heap.size_push, n2]
  have n4 : (zM4 s.heap l m).objs.size = s.heap.objs.size + 4 := by unfold zM4; rw [Heap.size_push, n3]
  have n5 : (zM5 s.heap l m).objs.size = s.heap.objs.size + 5 := by unfold zM5; rw [Heap.size_push, n4]
  have u5 : ∀ {c o}, (zM4 s.heap l m).get? c = some o → (zM5 s.heap l m).get? c = some o := fun e => Heap.get?_push_of_some _ e
  have u4 : ∀ {c o}, (zM3 s.heap l m).get? c = some o → (zM5 s.heap l m).get? c = some o := fun e => u5 (Heap.get?_push_of_some _ e)
  have u3 : ∀ {c o}, (zM2 s.heap l m).get? c = some o → (zM5 s.heap l m).get? c = some o := fun e => u4 (Heap.get?_push_of_some _ e)
  have u2 : ∀ {c o}, (zM1 s.heap l).get? c = some o → (zM5 s.heap l m).get? c = some o := fun e => u3 (Heap.get?_push_of_some _ e)
  have u1 : ∀ {c o}, s.heap.get? c = some o → (zM5 s.heap l m).get? c = some o := fun e => u2 (Heap.get?_push_of_some _ e)
  have g5 : (zM5 s.heap l m).get? (zM4 s.heap l m).objs.size = some _ := Heap.get?_push_size _ rfl
  have g4 : (zM5 s.heap l m).get? (zM3 s.heap l m).objs.size = some _ := u5 (Heap.get?_push_size _ rfl)
  have g3 : (zM5 s.heap l m).get? (zM2 s.heap l m).objs.size = some _ := u4 (Heap.get?_push_size _ rfl)
  have g2 : (zM5 s.heap l m).get? (zM1 s.heap l).objs.size = some _ := u3 (Heap.get?_push_size _ rfl)
  have g1 : (zM5 s.heap l m).get? s.heap.objs.size = some _ := u2 (Heap.get?_push_size _ rfl)
  rw [n2, n3, n4] at g5
  rw [n1, n2] at g3
  rw [n3] at g4
  rw [n1] at g2
  rw [n4]
  exact ⟨⟨_, g5, rfl⟩, K _ g5 g3 g4 ⟨_, g1, rfl, rfl⟩ ⟨_, g2, rfl, rfl⟩ n5 fun c o e => u1 e⟩
end
/-- a zip as it stands ahead of a turn -/
def zSt (z TI TO i j : Addr) (I J : Nat → Heap → Prop) (k : Nat) (h : Heap) : Prop := IsZip h z TI TO .none ∧ IsPair h TI (.ref i) (.ref j) ∧ (∃ x y, IsPair h TO x y) ∧ I k h ∧ J k h
/-- the line at a -/
abbrev LnOf (lst : Bool) (K : PySem.W.Frag) (H : Hp) (a : Addr) (xs : List V) : Prop := match lst with
  | true => SqL K H a xs
  | false => SqT K H a xs
def ItzW (p q : Bool) (K : PySem.W.Frag) (a b : Addr) : It :=
  ⟨fun k H => ∃ (xs ys : List V) (x y : V), LnOf p K H a xs ∧ LnOf q K H b ys ∧ xs[k]? = some x ∧ ys[k]? = some y,
    fun k H v H' => ∃ T x y, v = .ref T ∧ H T = none ∧ H' = upd H T (.tup [x, y]) ∧ (∀ xs, LnOf p K H a xs → xs[k]? = some x) ∧ ∀ ys, LnOf q K H b ys → ys[k]? = some y,
    fun k H => ∃ xs ys : List V, LnOf p K H a xs ∧ LnOf q K H b ys ∧ (xs.length ≤ k ∨ ys.length ≤ k)⟩
theorem turn_zipW {P : Program} {w : World} {K : PySem.W.Frag} {elts : List Expr} {kk : Nat} {tpos : Pos} {p q : Bool} {a b z TI TO i j : Addr} {I J : Nat → Heap → Prop} {C D : Array Value → Heap → Prop} (ap : ZipApart z TI TO i j a b) (U : Wkr i a I C) (V : Wkr j b J D)
    (hC : ∀ (X : Cx) (pins : List (Addr × Obj)) (σ : St) (H : Hp) (s : Shared), Inv X pins σ H s → ∀ xs, LnOf p X.K H a xs → ∃ its : List Value, Vals xs its ∧ C its.toArray s.heap)
    (hD : ∀ (X : Cx) (pins : List (Addr × Obj)) (σ : St) (H : Hp) (s : Shared), Inv X pins σ H s → ∀ xs, LnOf q X.K H b xs → ∃ its : List Value, Vals xs its ∧ D its.toArray s.heap) :
    Turn P w K (.Tuple elts kk tpos) (ItzW p q K a b) [z, TI, TO, i, j] z (zSt z TI TO i j I J) where
  mem := List.mem_cons_self ..
  obj := fun k h ⟨fz, fI, ⟨x, y, fO⟩, s1, s2⟩ c hc => by
    rw [List.mem_cons, List.mem_cons, List.mem_cons, List.mem_cons, List.mem_singleton] at hc
    rcases hc with e | e | e | e | e
    · rw [e]; exact ⟨_, fz, fun v q => nomatch q⟩
    · rw [e]; exact ⟨_, fI, fun v q => nomatch q⟩
    · rw [e]; exact ⟨_, fO, fun v q => nomatch q⟩
    · rw [e]; exact U.obj s1
    · rw [e]; exact V.obj s2
  keep := fun k h g ⟨fz, fI, ⟨x, y, fO⟩, s1, s2⟩ f => ⟨f z (by simp) _ fz, f TI (by simp) _ fI, ⟨x, y, f TO (by simp) _ fO⟩, U.keepI s1 fun o => f i (by simp) o, V.keepI s2 fun o => f j (by simp) o⟩
  item := by
    intro X e1 e2 e3 hc k pins s σ H E Iv fp ⟨fz, fI, ⟨x0, y0, fO⟩, s1, s2⟩ ⟨xs, ys, x, y, lx, ly, gx, gy⟩
    subst e1 e2 e3
    obtain ⟨its, rv, co1⟩ := hC X pins σ H s Iv xs lx
    obtain ⟨its2, rv2, co2⟩ := hD X pins σ H s Iv ys ly
    obtain ⟨u, hu, ru⟩ := rv.get gx
    obtain ⟨u2, hu2, ru2⟩ := rv2.get gy
    have zl : z < s.heap.objs.size := Heap.lt_size fz
    have ty : s.TypeIs (.ref z) "zip" := ⟨_, fz, rfl⟩
    unfold pyNext
    refine wpAny_bind (wpAny_attempt (wpAny_callSpecial?_slot (name := Str.ofString "__next__") ty F.slot_zip_next (wpAny_call_entry F.slot_zip_next ty F.entry_zip_next
      (zipW_item ap U V fz fI fO s1 s2 co1 co2 (x := u) (y := u2) (by simpa using hu) (by simpa using hu2) fun g gz gO g1 g2 gT sz gk => wpAny_pure ?_) (F.args_zip_next_1 _))))
    refine ⟨_, rfl, wpAny_letOwnedTupleGo_zip (s := { s with heap := g }) gz fun f fz' sb => ?_⟩
    have gT2 : f.get? s.heap.objs.size = some { cls := .type "tuple", data := .seq #[u, u2] } := (sb.2 _ (Nat.ne_of_gt zl)).trans gT
    have nw : ObjOk X.prog X.w (upd H s.heap.objs.size (.tup [x, y])) f s.heap.objs.size (.tup [x, y]) := ⟨(by decide : 2 ≤ sizeLine), [u, u2], .cons ru (.cons ru2 .nil), ⟨_, gT2, rfl, _, rfl⟩⟩
    have stay : ∀ c o, c ∉ [z, TI, TO, i, j] → s.heap.get? c = some o → f.get? c = some o := fun c o hb e => by
      have n1 : c ≠ z := fun r => hb (by rw [r]; simp)
      exact (sb.2 c n1).trans (gk c o n1 (fun r => hb (by rw [r]; simp)) (fun r => hb (by rw [r]; simp)) (fun r => hb (by rw [r]; simp)) e)
    have I1 : Inv X pins σ (upd H s.heap.objs.size (.tup [x, y])) { s with heap := f } := Iv.turnedNew (t' := s.toks) (ch := [z, TI, TO, i, j]) (fun c o hb e => stay c o hb e) fp (Nat.le_refl _) nw
    have fO' : IsPair f TO u u2 := (sb.2 _ ap.TOz).trans gO
    have fI' : IsPair f TI (.ref i) (.ref j) := (sb.2 _ ap.TIz).trans (gk _ _ ap.TIz ap.TITO ap.TIi1 ap.TIi2 fI)
    have lt : ∀ c ∈ [z, TI, TO, i, j], c < s.heap.objs.size := fun c hc2 => by
      rw [List.mem_cons, List.mem_cons, List.mem_cons, List.mem_cons, List.mem_singleton] at hc2
      rcases hc2 with e | e | e | e | e
      · rw [e]; exact zl
      · rw [e]; exact Heap.lt_size fI
      · rw [e]; exact Heap.lt_size fO
      · obtain ⟨o, ho, _⟩ := U.obj s1; rw [e]; exact Heap.lt_size ho
      · obtain ⟨o, ho, _⟩ := V.obj s2; rw [e]; exact Heap.lt_size ho
    refine ⟨.ref s.heap.objs.size, _, I1, rfl, ⟨_, x, y, rfl, Iv.hok.fresh (Nat.le_refl _), rfl, fun xs' h' => ?_, fun ys' h' => ?_⟩, ⟨fz', fI', ⟨_, _, fO'⟩, U.keepI g1 fun o e => (sb.2 _ ap.i1z).trans e, V.keepI g2 fun o e => (sb.2 _ ap.i2z).trans e⟩, fun c hc2 => ?_⟩
    · cases p with
      | true => rw [Iv.list_inj h' lx]; exact gx
      | false => rw [Iv.tuple_inj h' lx]; exact gx
    · cases q with
      | true => rw [Iv.list_inj h' ly]; exact gy
      | false => rw [Iv.tuple_inj h' ly]; exact gy
    · rw [upd_ne (Nat.ne_of_lt (lt c hc2))]
      exact (fp c hc2).1
  done := by
    intro X e1 e2 e3 hc k pins s σ H E Iv fp ⟨fz, fI, ⟨x0, y0, fO⟩, s1, s2⟩ ⟨xs, ys, lx, ly, en⟩
    subst e1 e2 e3
    obtain ⟨its, rv, co1⟩ := hC X pins σ H s Iv xs lx
    obtain ⟨its2, rv2, co2⟩ := hD X pins σ H s Iv ys ly
    have l1 := rv.length
    have l2 := rv2.length
    have en' : its.toArray[k]? = none ∨ its2.toArray[k]? = none := en.imp (fun q => by simp; omega) fun q => by simp; omega
    have ty : s.TypeIs (.ref z) "zip" := ⟨_, fz, rfl⟩
    unfold pyNext
    refine wpAny_bind (wpAny_attempt (wpAny_callSpecial?_slot (name := Str.ofString "__next__") ty F.slot_zip_next (wpAny_call_entry F.slot_zip_next ty F.entry_zip_next
      (zipW_fin (Iv.ok.hd hc) ap U V fz fI fO s1 s2 co1 co2 en' fun g e gk he => ?_) (F.args_zip_next_1 _))))
    obtain ⟨o, ho, hcl⟩ := he
    refine wpAny_bind (wpAny_isInstance (T := "StopIteration") (b := true) ⟨o, ho, hcl⟩ isSubtype_stop (wpAny_pure ⟨rfl, ?_⟩))
    exact Iv.turnedL (t' := s.toks) (ch := [z, TI, TO, i, j]) (fun c o hb e => gk c o (fun r => hb (by rw [r]; simp)) (fun r => hb (by rw [r]; simp)) (fun r => hb (by rw [r]; simp)) (fun r => hb (by rw [r]; simp)) e) fp
  self := fun A k s Q E st h => wpAny_pyIter_zip st.1 h
theorem co_list {X : Cx} {pins : List (Addr × Obj)} {σ : St} {H : Hp} {s : Shared} {a : Addr} (Iv : Inv X pins σ H s) (xs : List V) (h : LnOf true X.K H a xs) : ∃ its : List Value, Vals xs its ∧ s.heap.IsList a its.toArray := by
  obtain ⟨its, rv, p, _⟩ := Iv.list h
  exact ⟨its, rv, p.isList⟩
theorem co_tup {X : Cx} {pins : List (Addr × Obj)} {σ : St} {H : Hp} {s : Shared} {a : Addr} (Iv : Inv X pins σ H s) (xs : List V) (h : LnOf false X.K H a xs) : ∃ its : List Value, Vals xs its ∧ s.heap.IsTuple a its.toArray := by
  obtain ⟨its, rv, p, _⟩ := Iv.tuple h
  exact ⟨its, rv, p⟩
/-- zip(a tuple, a list) -/
def iZipM (K : PySem.W.Frag) (ta : TA) : TI := fun σ H R => ta σ H fun vs H1 => ∃ a b xs ys, vs = [.ref a, .ref b] ∧ SqT K H1 a xs ∧ SqL K H1 b ys ∧ R (ItzW false true K a b) H1
theorem pi_zipM {X : Cx} {e e2 : Expr} {ta : TA} {p pos tpos : Pos} {elts : List Expr} {kk : Nat} (hg : Gl X "zip") (hm : X.mg "zip" = none) (ha : PA X [e, e2] ta) (hs : starEach [e, e2] X.env = (false, eval e X.env) :: starEach [e2] X.env) (hpl : (backTo pos (starEach [e2] X.env)).any (·.1) = false) :
    PI X (.Tuple elts kk tpos) (.Call (.Name "zip" p) [e, e2] [] pos) (iZipM X.K ta) := ⟨fun pins s σ H R Iv h => by
  refine Call_ (ld_blt Iv hg hm PyProof.Rows.boot_zip (PyProof.Rows.callWith_type1 (thn (ha.run pos pins s σ H _ Iv h) fun us s1 ⟨vs, H1, I1, r1, q1⟩ => ?_) hs hpl))
  obtain ⟨a, b, xs, ys, ex, lx, ly, q⟩ := q1
  subst ex
  cases r1 with
  | cons r rr => cases rr with
    | cons r' rr =>
      cases rr
      cases r
      cases r'
      obtain ⟨its, rv, p1⟩ := co_tup I1 xs lx
      obtain ⟨its2, rv2, p2⟩ := co_list I1 ys ly
      have al : a < s1.heap.objs.size := by obtain ⟨o, ho, _⟩ := id p1; exact Heap.lt_size ho
      have bl : b < s1.heap.objs.size := by obtain ⟨o, ho, _⟩ := id p2; exact Heap.lt_size ho
      have fp : ∀ c, c ∈ [s1.heap.objs.size + 4, s1.heap.objs.size + 2, s1.heap.objs.size + 3, s1.heap.objs.size, s1.heap.objs.size + 1] → FpOk X pins H1 c := fun c hc => by
        have le : s1.heap.objs.size ≤ c := by
          rw [List.mem_cons, List.mem_cons, List.mem_cons, List.mem_cons, List.mem_singleton] at hc
          rcases hc with e | e | e | e | e
          · rw [e]; exact Nat.le_add_right _ _
          · rw [e]; exact Nat.le_add_right _ _
          · rw [e]; exact Nat.le_add_right _ _
          · rw [e]; exact Nat.le_refl _
          · rw [e]; exact Nat.le_add_right _ _
        exact I1.fpOk le (I1.hok.fresh le)
      refine call_zM p1 p2 fun g gz gI gO g1 g2 sz gk => wpAny_pyIter_zip gz ?_
      have I2 : Inv X pins σ H1 { s1 with heap := g } := I1.kept (t' := s1.toks) gk
      exact ⟨s1.heap.objs.size + 4, [s1.heap.objs.size + 4, s1.heap.objs.size + 2, s1.heap.objs.size + 3, s1.heap.objs.size, s1.heap.objs.size + 1], _, _, H1, rfl, I2,
        turn_zipW (PySem.W.ktu_apart s1.heap.objs.size a b al bl) wkr_tup wkr_list (fun _ _ _ _ _ Iw => co_tup Iw) (fun _ _ _ _ _ Iw => co_list Iw), ⟨gz, gI, ⟨_, _, gO⟩, g1, g2⟩, fp, q⟩⟩
theorem walk_zipW {K : PySem.W.Frag} {a b : Addr} {xs ys : List V} {n : Nat} (hn : n = min xs.length ys.length) : Walk (ItzW false true K a b) n (fun H => SqT K H a xs ∧ SqL K H b ys) (YPair (fun i => xs[i]?) (fun i => ys[i]?)) := by
  subst hn
  refine ⟨fun i _ hi q => ?_, fun _ q => ⟨xs, ys, q.1, q.2, by omega⟩, fun i H v H' _ q y => ?_⟩
  · have u1 : i < xs.length := by omega
    have u2 : i < ys.length := by omega
    exact ⟨xs, ys, xs[i], ys[i], q.1, q.2, List.getElem?_eq_getElem u1, List.getElem?_eq_getElem u2⟩
  · obtain ⟨T, x, z, f1, f2, f3, f4, f5⟩ := y
    exact ⟨T, x, z, f1, f2, f3, f4 xs q.1, f5 ys q.2⟩
end L2
namespace PM
open PySem L2
/-- zip of a tuple and a list -/
def mZipM (te te2 : TEm) : TIm := fun env P => te env fun x => te2 env fun y => ∃ ps qs, x = .tup ps ∧ y = .lst qs ∧ P (zipP ps qs)
theorem im_zipM {X : Cx} {c : List Ow} {e e2 : Expr} {te te2 : TEm} {p pos tpos : Pos} {elts : List Expr} {kk : Nat} (hm : X.mg "zip" = none) (he : PEm X c .cl e te) (he2 : PEm X c .cl e2 te2) (hg : Gl X "zip" := by rfl) (hs0 : starEach [e, e2] X.env = (false, eval e X.env) :: starEach [e2] X.env := by rfl) (hs1 : starEach [e2] X.env = (false, eval e2 X.env) :: starEach [] X.env := by rfl)
    (hs2 : (backTo pos (starEach [e2] X.env)).any (·.1) = false := by rfl) : PIm X c none (.Tuple elts kk tpos) (.Call (.Name "zip" p) [e, e2] [] pos) (mZipM te te2) := ⟨⟨fun pins s σ H R I h => (pi_zipM hg hm (pa_cons he.run (pa_cons he2.run pa_nil hs1) hs0) hs0 hs2).run pins s σ H R I (by
  obtain ⟨G, A, W, env, P, R, h, k⟩ := h
  refine ⟨G, A, W, env, _, R, h, fun p v H1 g rv h1 => ⟨G, A, W, env, _, R.grow g, h1, fun q w H2 g2 rw2 h2 => ?_⟩⟩
  obtain ⟨ps, qs, rfl, rfl, h2⟩ := h2
  have rv' := Rp.ext (g2.ext R.sz) rv.c
  have rw' := rw2.c
  unfold Rp at rv' rw'
  obtain ⟨a, vs, rfl, f, r⟩ := rv'
  obtain ⟨b, ws, rfl, f', r'⟩ := rw'
  have hl : (zipP ps qs).length = min vs.length ws.length := by unfold zipP; rw [List.length_zipWith, r.len, r'.len]
  refine ⟨a, b, vs, ws, rfl, f.sq, f'.sq, k _ _ H2 [] (g.trans g2) rfl (itok_pair hl (walk_zipW rfl) fun Z2 W2 H3 x => ⟨⟨(f.ext x).sq, (f'.ext x).sq⟩, fun i q u w hq u1 u2 => ?_⟩) h2⟩
  obtain ⟨a0, b0, ga, gb, rfl⟩ := zipP_get hq
  obtain ⟨u', hu', ru'⟩ := r.get ga
  obtain ⟨w', hw', rw'⟩ := r'.get gb
  rw [u1] at hu'; cases hu'
  rw [u2] at hw'; cases hw'
  exact ⟨_, _, rfl, Rp.ext x ru', Rp.ext x rw'⟩)⟩⟩
end PM

set_option maxHeartbeats 2000000
/-! PM: sets of whole numbers: comprehensions, membership. -/
namespace PM
open PySem PySem.Spec PyProof.Rows L2
section
variable {X : Cx} {pins : List (Addr × Obj)} {σ : L2.St} {H : Hp} {s : Shared}
theorem setI_ok {P : Program} {w : World} {h : Heap} {a : Addr} {S : Int → Bool} {n : Nat} (R : h.SetOf (PySem.intKind P w) a S n) : ObjOk P w H h a (SetI a S n) := by
  have ⟨o, _, _, _, ho, _⟩ := R
  refine ⟨⟨P, w, R⟩, ⟨o, ho⟩, ?_⟩
  rintro h1 h2 ⟨P', w', p⟩ k
  obtain ⟨o', es, ep, t, ho', r⟩ := p
  exact ⟨P', w', o', es, ep, t, k o' ho', r⟩
theorem setI_get {a : Addr} {S : Int → Bool} {n : Nat} (I : Inv X pins σ H s) (ha : H a = some (SetI a S n)) : s.heap.SetOf (PySem.intKind X.prog X.w) a S n := by
  obtain ⟨P, w, r⟩ := (I.hok a _ ha).1
  exact r
theorem int_is {k : Int} {u : Value} {P : Program} {w : World} (r : RelV (.int k) u) : (PySem.intKind P w).is k u = true ∧ u.scannable = true := by
  obtain ⟨t, rfl⟩ := r
  exact ⟨by simp [PySem.intKind, Value.isInt], rfl⟩
def rSInI (neg : Bool) : V → V → Hp → VK → Prop := fun x y H Q => ∃ (k : Int) (a : Addr) (S : Int → Bool) (n : Nat), x = .int k ∧ y = .ref a ∧ H a = some (SetI a S n) ∧ Q (.bl (if neg then !S k else S k)) H
theorem or_sinI : OpR X (compareOp .In) (rSInI false) := by
  intro pins s σ H x y v u Q I rx ry h
  obtain ⟨k, a, S, n, rfl, rfl, ha, q⟩ := h
  cases ry
  exact wpAny_inSet_of (int_is rx).1 (int_is (P := X.prog) (w := X.w) rx).2 (setI_get I ha) ⟨.bl (S k), H, I.tok _, rfl, q⟩
theorem or_sninI : OpR X (compareOp .NotIn) (rSInI true) := by
  intro pins s σ H x y v u Q I rx ry h
  obtain ⟨k, a, S, n, rfl, rfl, ha, q⟩ := h
  cases ry
  exact wpAny_notInSet_of (int_is rx).1 (int_is (P := X.prog) (w := X.w) rx).2 (setI_get I ha) ⟨.bl (!S k), H, I.tok _, rfl, q⟩
/-- one more member -/
theorem setI_more {E : Value → Shared → Prop} {D : Addr} {S : Int → Bool} {n : Nat} {y : Int} {u : Value} {Q : Value → Shared → Prop} (I : Inv X pins σ H s) (hD : H D = some (SetI D S n)) (room : n + 1 < scanBound) (ru : RelV (.int y) u)
    (h : ∀ s', Inv X pins σ (upd H D (SetI D (fun j => S j || decide (j = y)) (if S y = true then n else n + 1))) s' → Q .none s') : wpAny (model X.prog X.w) X.A (call (.builtin "set.add") [.ref D, u]) Q E s := by
  refine call_set_add (int_is ru).1 (int_is (P := X.prog) (w := X.w) ru).2 (setI_get I hD) room fun h' sb new => ?_
  obtain ⟨o, es, ep, t, ho, r⟩ := new
  exact h _ (I.write (e := D) (t' := s.toks + 1) (by rw [hD]; trivial) (.inl rfl) (fun b u hb hu => (sb.2 b hb).trans hu) ⟨o, ho⟩ (setI_ok ⟨o, es, ep, t, ho, r⟩))
/-- {elt for tg in iter if ..} of whole numbers: the set grows at D -/
def tSk (wi : TI) (g : TG) (tt : TT) (te : TE) (vs : List Nat) : TE := fun σ H Q => wi σ H fun J H1 => ∀ D, H1 D = none → ∃ W : Nat → Nat → Hp → Prop, (∃ m, W 0 m (upd H1 D (SetI D (fun _ => false) 0))) ∧ ∀ i m H, W i m H →
  (J.stop i H ∧ Q (.ref D) H) ∨ (J.go i H ∧ ∃ Nx : Hp → Prop, (∀ H', Nx H' → ∃ m', m' < m ∧ W (i + 1) m' H') ∧ ∀ x H', J.yld i H x H' → g x (wipe σ vs) H' fun σ2 H2 => wipe σ2 vs = wipe σ vs ∧ tt σ2 H2 fun b H3 =>
    if b = true then te σ2 H3 fun y H4 => ∃ (k : Int) (S : Int → Bool) (n : Nat), y = .int k ∧ H4 D = some (SetI D S n) ∧ n + 1 < scanBound ∧ Nx (upd H4 D (SetI D (fun j => S j || decide (j = k)) (if S k = true then n else n + 1))) else Nx H3)
variable {elt tg iter : Expr} {ifs : List Expr} {scope : Scope} {own : List (Str × Nat)} {pos : Pos} {wi : TI} {g : TG} {tt : TT} {te : TE}
theorem sk_core {Q : VK} {pn : List (Addr × Obj)} {z0 : Shared} {σ0 : L2.St} {B0 : Hp} {pos' : Pos} {use : Option (Value → Sem Unit)} {Qf : Value → Shared → Prop} (calm : X.calm = true) (nd : X.N.Nodup) (J : Inv X pn σ0 B0 z0) (hi : PI X tg iter wi) (blk : BlkOk X.N X.env.scope scope own)
    (hg : ∀ (z : Shared) (B : Hp) (C : Addr) (l : List (Str × Addr)) (f : List Addr), PG (X.blk z B scope (compEnvC scope l C X.env) f) tg g) (ht : ∀ (z : Shared) (B : Hp) (C : Addr) (l : List (Str × Addr)) (f : List Addr), PTs (X.blk z B scope (compEnvC scope l C X.env) f) ifs tt)
    (he : ∀ (z : Shared) (B : Hp) (C : Addr) (l : List (Str × Addr)) (f : List Addr), PE (X.blk z B scope (compEnvC scope l C X.env) f) elt te) (hs : ∀ x, foldedSetIterable iter X.env x = pure x)
    (h : tSk wi g tt te (own.map (·.2)) σ0 B0 Q)
    (close : ∀ (D C : Addr) (z' : Shared) (names : Str → Option Value) (B' : Hp), Inv X pn σ0 B' z' → Q (.ref D) B' → z'.heap.Ns C names → FpOk X pn B' C → compPost (model X.prog X.w) X.A X.xe use Qf (.ref D) C (.ok .next) z') :
    wpAny (model X.prog X.w) X.A (comprehension (.SetComp elt [⟨tg, iter, ifs, 0⟩] scope pos) scope X.env pos' (newSet (.type "set")) false (eval iter X.env) use) Qf X.xe z0 := by
  have cells : ∀ y ∈ scope.names, y.2 = .free → ∃ c, X.env.cells.lookup y.1 = some c := fun y hy e => J.ok.has _ (blk.free y hy e)
  refine wpAny_comprehension_free (use := use) rfl hs (closure_ok cells) blk.kind (fun y hy e => by rw [blk.uniq y hy, e]) (thn (hi.run pn z0 σ0 B0 _ J h) fun iv z1 hx => thn hx fun it z2 ⟨ia, fp, tn, Jt, B2, ei, J2, T, u2, f2, q⟩ => ?_)
  subst ei
  refine PpSet.newSet_ok (newEnv_comp ?_)
  obtain ⟨D, hD⟩ : ∃ D, D = z2.heap.objs.size := ⟨_, rfl⟩
  rw [← hD]
  have free : B2 D = none := J2.hok.fresh (Nat.le_of_eq hD.symm)
  obtain ⟨W, ⟨m0, w0⟩, turn⟩ := q D free
  obtain ⟨so, hso⟩ : ∃ so : Obj, so = { cls := .type "set", dict := none, data := .set #[] 0 (.fresh 0 0 (!X.w.params.followText "set-order")) } := ⟨_, rfl⟩
  rw [← hso]
  obtain ⟨z3, hz3⟩ : ∃ z3 : Shared, z3 = { z2 with heap := z2.heap.push so } := ⟨_, rfl⟩
  have e3 : z3.heap = z2.heap.push so := by rw [hz3]
  obtain ⟨B3, hB3⟩ : ∃ B3, B3 = upd B2 D (SetI D (fun _ => false) 0) := ⟨_, rfl⟩
  have J3 : Inv X pn σ0 B3 z3 := by
    rw [hz3, hB3]
    refine J2.laid (t' := z2.toks) (fun b o e => Heap.get?_push_of_some _ e) (Nat.le_of_eq hD.symm) (setI_ok ?_)
    rw [hD, hso]
    exact ⟨_, #[], 0, _, Heap.get?_push_size _ rfl, ⟨rfl, rfl, rfl⟩, rfl, (fun e he => by simp at he), (fun k => by simp), (by decide), (by rfl), rfl⟩
  have lt : ∀ b ∈ fp, b < z2.heap.objs.size := fun b hb => by
    obtain ⟨o, e, _⟩ := T.obj _ _ u2 b hb
    exact Heap.lt_size e
  have f3 : ∀ b ∈ fp, FpOk X pn B3 b ∧ b < z3.heap.objs.size := fun b hb => by
    have l := lt b hb
    have ne : b ≠ D := by rw [hD]; exact Nat.ne_of_lt l
    exact ⟨⟨by rw [hB3, upd_ne ne]; exact (f2 b hb).1, (f2 b hb).2⟩, by rw [e3, Heap.size_push]; exact Nat.lt_succ_of_lt l⟩
  have u3 : tn 0 z3.heap := T.keep _ _ _ u2 fun b _ o e => by rw [e3]; exact Heap.get?_push_of_some _ e
  have J4 := block_start J3 blk nd f3
  obtain ⟨L, hL⟩ : ∃ L, L = cellsFrom (z3.heap.objs.size + 1) scope.names (cloFrom X.env.cells scope.names []) := ⟨_, rfl⟩
  rw [← hL] at J4
  have pg := hg z3 B3 z3.heap.objs.size L fp
  have pt := ht z3 B3 z3.heap.objs.size L fp
  have pe := he z3 B3 z3.heap.objs.size L fp
  have nofp : ∀ b ∈ fp, B3 b = none := fun b hb => (f3 b hb).1.1
  rw [← hz3]
  show codeAny _ _ (.compStart (.SetComp elt [⟨tg, iter, ifs, 0⟩] scope pos) 0 (.ref ia) (.ref D) (compEnvC scope (cellsFrom (z3.heap.objs.size + 1) scope.names (cloFrom X.env.cells scope.names [])) z3.heap.objs.size X.env)) (compPost (model X.prog X.w) X.A X.xe use Qf (.ref D) z3.heap.objs.size) { z3 with heap := pushCells (z3.heap.push { cls := .type "dict", data := .dict #[] }) scope.names }
  rw [← hL]
  obtain ⟨ce, hce⟩ : ∃ ce, ce = compEnvC scope L z3.heap.objs.size X.env := ⟨_, rfl⟩
  rw [← hce] at J4 pg pt pe ⊢
  have cL : ce.locals = z3.heap.objs.size := by rw [hce]; rfl
  obtain ⟨z4, hz4⟩ : ∃ z4 : Shared, z4 = { z3 with heap := pushCells (z3.heap.push { cls := .type "dict", data := .dict #[] }) scope.names } := ⟨_, rfl⟩
  rw [← hz4] at J4 ⊢
  have u4 : tn 0 z4.heap := T.keep _ _ _ u3 fun b _ o e => by rw [hz4]; exact pushCells_keeps _ _ _ _ (Heap.get?_push_of_some _ e)
  obtain ⟨Y, hY⟩ : ∃ Y : Cx, Y = X.blk z3 B3 scope ce fp := ⟨_, rfl⟩
  rw [← hY] at J4 pg pt pe
  have steady : ∀ {σ' : L2.St} {B' : Hp} {z' : Shared}, Inv Y [] σ' B' z' → (∀ b ∈ fp, B' b = none) → ∀ b ∈ fp, FpOk Y [] B' b := fun {σ' B' z'} I' hn b hb => by
    subst hY
    exact ⟨hn b hb, (I'.ok.exf b hb).1, I'.ok.exfs b hb, .inl hb, fun x c e => (I'.ok.exf b hb).2 x c e, fun p hp => absurd (show p ∈ ([] : List (Addr × Obj)) ++ [] from hp) (by simp)⟩
  have loop : codeAny (model X.prog X.w) X.A (.compLoop (.SetComp elt [⟨tg, iter, ifs, 0⟩] scope pos) 0 (.ref ia) (.ref D) ce) (compPost (model X.prog X.w) X.A X.xe use Qf (.ref D) z3.heap.objs.size) z4 := by
    refine PpSet.compLoopS_any (fun n z' => ∃ i B', Inv Y [] (wipe σ0 (own.map (·.2))) B' z' ∧ tn i z'.heap ∧ (∀ b ∈ fp, B' b = none) ∧ W i n B') ?_ m0 ⟨0, B3, J4, u4, nofp, by rw [hB3]; exact w0⟩
    rintro n z5 ⟨i, B5, J5, u5, n5, w5⟩
    rcases turn i n B5 w5 with ⟨stop, qq⟩ | ⟨go, Nx, hNx, step⟩
    · have td := T.done Y (by rw [hY]) (by rw [hY]) (by rw [hY]) (by rw [hY]; exact calm) i [] z5 _ B5 (fun _ _ => False) J5 (steady J5 n5) u5 stop
      subst hY
      refine thnF td fun r z6 ⟨er, J6⟩ => ?_
      subst er
      have J7 : Inv X pn σ0 B5 z6 := J3.call' (ch := fp) J6.os J6.base J6.hok J6.bare fun b hb => ⟨(f3 b hb).1.2.2.2.1, (f3 b hb).1.2.1, (f3 b hb).1.2.2.2.2.1, (f3 b hb).1.2.2.2.2.2⟩
      have gone : B5 z3.heap.objs.size = none := by
        have z : B5 ce.locals = none := J6.free
        rwa [cL] at z
      obtain ⟨names, hn, _⟩ := J6.loc
      have hn : z6.heap.Ns ce.locals names := hn
      rw [cL] at hn
      exact close D _ z6 names B5 J7 qq hn (J3.fpOk (Nat.le_refl _) gone)
    · have ti := T.item Y (by rw [hY]) (by rw [hY]) (by rw [hY]) (by rw [hY]; exact calm) i [] z5 _ B5 (fun _ _ => False) J5 (steady J5 n5) u5 go
      subst hY
      refine thnF ti fun r z6 ⟨u, er, h6⟩ => ?_
      subst er
      refine thnF h6 fun _ z7 ⟨x, B7, J7, r7, y7, u7, n7⟩ => ?_
      have J7' := J7.pinned (steady J7 n7) (T.obj _ _ u7)
      refine thnF (pg.run _ z7 _ B7 x u _ J7' r7 (step x B7 y7)) fun _ z8 ⟨σ8, B8, J8, hw8, q8⟩ => ?_
      refine thnF (pt.run _ z8 σ8 B8 _ J8 q8) fun b z9 ⟨B9, J9, q9⟩ => ?_
      have onward : ∀ {z' : Shared} {B' : Hp}, Inv (X.blk z3 B3 scope ce fp) ([] ++ pinsAt fp z7.heap) σ8 B' z' → Nx B' → ∃ m, m < n ∧ ∃ i B', Inv (X.blk z3 B3 scope ce fp) [] (wipe σ0 (own.map (·.2))) B' z' ∧ tn i z'.heap ∧ (∀ b ∈ fp, B' b = none) ∧ W i m B' := fun {z' B'} J' nx => by
        obtain ⟨m', lm, w'⟩ := hNx B' nx
        have held : ∀ b ∈ fp, ∀ o, z7.heap.get? b = some o → z'.heap.get? b = some o ∧ B' b = none := fun b hb o e =>
          have z := J'.pin (b, o) (List.mem_append_right _ (List.mem_append_right _ (mem_pinsAt hb e)))
          ⟨z.1, z.2.1⟩
        have lw : (wipe σ0 (own.map (·.2))).length = σ8.length := by rw [← hw8, wipe_length]
        refine ⟨m', lm, i + 1, B', (J'.unpinned (pins := [])).weak lw (fun j v e => ?_), T.keep _ _ _ u7 fun b hb o e => (held b hb o e).1, fun b hb => ?_, w'⟩
        · rw [← hw8] at e
          exact (wipe_some e).1
        · obtain ⟨o, e, _⟩ := T.obj _ _ u7 b hb
          exact (held b hb o e).2
      cases b with
      | false => rw [if_neg Bool.false_ne_true] at q9 ⊢; exact onward J9 q9
      | true =>
        rw [if_pos rfl] at q9 ⊢
        refine thnF (pe.run _ z9 σ8 B9 _ J9 q9) fun v z10 ⟨yv, B10, J10, rv, k, S, c, ey, hD10, room, nx⟩ => ?_
        subst ey
        exact setI_more (X := X.blk z3 B3 scope ce fp) J10 hD10 room rv fun z11 J11 => onward J11 nx
  exact PpSet.codeAny_compStart_set loop (T.self X.A 0 _ _ _ u4 loop)
/-- as a value -/
theorem pe_sk (calm : X.calm = true) (nd : X.N.Nodup) (hi : PI X tg iter wi) (blk : BlkOk X.N X.env.scope scope own)
    (hg : ∀ (z : Shared) (B : Hp) (C : Addr) (l : List (Str × Addr)) (f : List Addr), PG (X.blk z B scope (compEnvC scope l C X.env) f) tg g) (ht : ∀ (z : Shared) (B : Hp) (C : Addr) (l : List (Str × Addr)) (f : List Addr), PTs (X.blk z B scope (compEnvC scope l C X.env) f) ifs tt)
    (he : ∀ (z : Shared) (B : Hp) (C : Addr) (l : List (Str × Addr)) (f : List Addr), PE (X.blk z B scope (compEnvC scope l C X.env) f) elt te) (hs : ∀ x, foldedSetIterable iter X.env x = pure x := by intro _; rfl) :
    PE X (.SetComp elt [⟨tg, iter, ifs, 0⟩] scope pos) (tSk wi g tt te (own.map (·.2))) := by
  refine ⟨fun pn z0 σ0 B0 Q J h => ?_⟩
  rw [PpSet.eval_SetComp]
  refine sk_core calm nd J hi blk hg ht he hs h fun D C z' names B' J' q hn f => ⟨names, hn, fun h'' sb => ?_⟩
  obtain ⟨a0, a1, a2, a3, a4, a5⟩ := f
  exact ⟨.ref D, B', J'.turned (t' := z'.toks) (fun b o hb e => (sb.2 b hb).trans e) a0 a1 a3 a4 a5, rfl, q⟩
/-- x = {..} on one row -/
theorem ps_setSk {i : Nat} {y : Str} {py spos : Pos} (calm : X.calm = true) (nd : X.N.Nodup) (hy : X.N[i]? = some y) (hyl : X.env.scope.names.lookup y = some .local) (hsw : swapsWith (.SetComp elt [⟨tg, iter, ifs, 0⟩] scope pos) (some (.Name y py)) spos.line X.env = pure true) (hi : PI X tg iter wi) (blk : BlkOk X.N X.env.scope scope own)
    (hg : ∀ (z : Shared) (B : Hp) (C : Addr) (l : List (Str × Addr)) (f : List Addr), PG (X.blk z B scope (compEnvC scope l C X.env) f) tg g) (ht : ∀ (z : Shared) (B : Hp) (C : Addr) (l : List (Str × Addr)) (f : List Addr), PTs (X.blk z B scope (compEnvC scope l C X.env) f) ifs tt)
    (he : ∀ (z : Shared) (B : Hp) (C : Addr) (l : List (Str × Addr)) (f : List Addr), PE (X.blk z B scope (compEnvC scope l C X.env) f) elt te) (hs : ∀ x, foldedSetIterable iter X.env x = pure x := by intro _; rfl) :
    PS X (.Assign [.Name y py] (.SetComp elt [⟨tg, iter, ifs, 0⟩] scope pos) spos) (tAsg (tSk wi g tt te (own.map (·.2))) (gName i)) := by
  refine ⟨fun pn z0 σ0 B0 D J h => ?_⟩
  rw [exec_Assign_Name_used _ _ _ _ hsw]
  refine wpAny_bind (wpAny_standAt (wpAny_bind ?_))
  have h : tSk wi g tt te (own.map (·.2)) σ0 B0 (fun x B' => gName i x σ0 B' D.nx) := h
  show wpAny _ X.A (do let _ ← comprehension (.SetComp elt [⟨tg, iter, ifs, 0⟩] scope pos) scope X.env (firstIterPos [⟨tg, iter, ifs, 0⟩] pos) (newSet (.type "set")) false (eval iter X.env) (some (assign (.Name y py) X.env))) _ _ z0
  refine wpAny_bind (thn (sk_core (Qf := fun _ z' => SP X pn D .next z') calm nd J hi blk hg ht he hs h fun L C z' names B' J' q hn f => ?_) fun _ z' hq => wpAny_pure (wpAny_pure hq))
  obtain ⟨a0, a1, a2, a3, a4, a5⟩ := f
  show wpAny _ _ (assign (.Name y py) X.env (.ref L)) _ _ _
  refine wpAny_assign_Name (store_ok2 (v := V.ref L) J' nd hy (.inl hyl) rfl (fun z2 J2 ⟨a, sb, ha⟩ => ?_) (.inr hyl))
  have other : C ≠ a := by
    rcases ha with e | e
    · rw [e]; exact a1
    · exact fun e2 => a4 y a e e2.symm
  exact ⟨names, hn.sameBut sb other, fun h3 sb3 => ⟨_, B', J2.turned (t' := z2.toks) (fun b o hb e => (sb3.2 b hb).trans e) a0 a1 a3 a4 a5, q⟩⟩
theorem sw_set {elt : Expr} {gs : List Comprehension} {scope : Scope} {pos py : Pos} {y : Str} {l : Nat} {env : PySem.Env} (hk : env.scope.kind = .function) (hy : env.scope.names.lookup y = some .local) (hl : (py.line == pos.line) = true)
    (ha : (scope.names.any fun (n, k) => n == y && (k == .local || k == .cell)) = false) : swapsWith (.SetComp elt gs scope pos) (some (.Name y py)) l env = pure true := by
  have hb : env.blockKind = .function := by unfold Env.blockKind; rw [hk]; rfl
  have ky : env.kindOf y = some .local := hy
  unfold swapsWith
  simp only [Expr.pos, hb, ky, hl, ha]
  rfl
end
end PM

set_option maxHeartbeats 2000000
/-! PM: {e for x in xs if ..} of whole numbers; membership in it. -/
namespace PM
open PySem L2
theorem sk_it {J : It} {n : Nat} {F : Hp → Prop} {Y : Nat → Hp → V → Hp → Prop} (w : Walk J n F Y) {g : TG} {tt : TT} {te : TE} {vs : List Nat} {σ : St} {H1 : Hp} {D : Addr} {Qd : Hp → Prop} (I : Nat → Hp → Prop) (h0 : I 0 (upd H1 D (SetI D (fun _ => false) 0))) (hF : ∀ i H, i ≤ n → I i H → F H)
    (hs : ∀ i x H H', i < n → I i H → Y i H x H' → g x (wipe σ vs) H' fun σ2 H2 => wipe σ2 vs = wipe σ vs ∧ tt σ2 H2 fun b H3 =>
      if b = true then te σ2 H3 fun y H4 => ∃ (k : Int) (S : Int → Bool) (c : Nat), y = .int k ∧ H4 D = some (SetI D S c) ∧ c + 1 < scanBound ∧ I (i + 1) (upd H4 D (SetI D (fun j => S j || decide (j = k)) (if S k = true then c else c + 1))) else I (i + 1) H3) (hd : ∀ H, I n H → Qd H) :
    ∃ W : Nat → Nat → Hp → Prop, (∃ m, W 0 m (upd H1 D (SetI D (fun _ => false) 0))) ∧ ∀ i m H, W i m H →
      (J.stop i H ∧ Qd H) ∨ (J.go i H ∧ ∃ Nx : Hp → Prop, (∀ H', Nx H' → ∃ m', m' < m ∧ W (i + 1) m' H') ∧ ∀ x H', J.yld i H x H' → g x (wipe σ vs) H' fun σ2 H2 => wipe σ2 vs = wipe σ vs ∧ tt σ2 H2 fun b H3 =>
        if b = true then te σ2 H3 fun y H4 => ∃ (k : Int) (S : Int → Bool) (c : Nat), y = .int k ∧ H4 D = some (SetI D S c) ∧ c + 1 < scanBound ∧ Nx (upd H4 D (SetI D (fun j => S j || decide (j = k)) (if S k = true then c else c + 1))) else Nx H3) := by
  refine ⟨fun i m H => i + m = n ∧ I i H, ⟨n, Nat.zero_add n, h0⟩, fun i m H z => ?_⟩
  obtain ⟨e, p⟩ := z
  have f := hF i H (by omega) p
  cases m with
  | zero =>
    have e2 : i = n := by omega
    subst e2
    exact .inl ⟨w.stops H f, hd H p⟩
  | succ m =>
    have l : i < n := by omega
    exact .inr ⟨w.goes i H l f, I (i + 1), fun H' p' => ⟨m, Nat.lt_succ_self m, by omega, p'⟩, fun x H' y => hs i x H H' l p (w.yields i H x H' l f y)⟩
/-- the turns -/
def mScGo (g : TGm) (tt : TTm) (te : TEm) (env : Env) (P : PV → Prop) : List PV → List Int → Prop
  | [], acc => P (.iset acc)
  | x :: xs, acc => g x env fun env1 => tt env1 fun b => if b = true then te env1 fun y => ∃ k, y = .int k ∧ acc.length < 4000 ∧ mScGo g tt te env P xs (acc ++ [k]) else mScGo g tt te env P xs acc
def mSc (wi : TIm) (vs : List Nat) (g : TGm) (tt : TTm) (te : TEm) : TEm := fun env P => wi env fun items => mScGo g tt te (wipeE env vs) P items []
theorem mem_snoc {acc : List Int} {k : Int} : (fun j => decide (j ∈ acc) || decide (j = k)) = fun j => decide (j ∈ acc ++ [k]) := by
  funext j
  by_cases h1 : j ∈ acc <;> by_cases h2 : j = k <;> simp [h1, h2]
theorem tm_sk {K : PySem.W.Frag} {c : List Ow} {lk : Option Nat} {wi : TIm} {vs ws : List Nat} {g : TGm} {tt : TTm} {te : TEm} (hw : ∀ j ∈ ws, j ∈ vs) (σ : St) (H : Hp) (Q : VK) (h : tmE K c .cl (mSc wi vs g tt te) σ H Q) :
    tSk (tiM K c lk wi) (tgM K c ws g) (tmT K c tt) (tmE K c .cl te) vs σ H Q := by
  obtain ⟨G, A, W, env, P, R, h, k⟩ := h
  refine ⟨G, A, W, env, _, R, h, fun J items H1 pl g1 hpl ⟨Gd, Y, wk, hit⟩ h1 D nD => ?_⟩
  have R1 := R.grow g1
  have nW : ¬ inW W D := fun w => by obtain ⟨o, e⟩ := inW_some R1.src w; rw [nD] at e; cases e
  have plD : ∀ q ∈ pl, H1 q.1 = some q.2 ∧ ¬ inW W q.1 := fun q hq => by
    cases lk with
    | none => have e : pl = [] := hpl; rw [e] at hq; cases hq
    | some j =>
      obtain ⟨a, o, e, hA, ho⟩ := hpl
      rw [e, List.mem_singleton] at hq
      rw [hq]
      exact ⟨ho, (R1.Asep j a hA).2.1⟩
  have far : ∀ {b : Addr} {o : HO}, H1 b = some o → b ≠ D := fun {b o} e z => by rw [z, nD] at e; cases e
  have onto : ∀ {H2 : Hp}, Grow W H1 H2 → Ext ⟨Zt G A W, W, H1⟩ ⟨Zt (G.and D) A W, W, H2⟩ := fun {H2} g2 => ⟨fun b o hz e => ⟨fun z => (zt_and.mp z).elim hz (far e), g2.keep b o (fun w => hz (Zt.w w)) e⟩, fun _ h => h⟩
  refine sk_it (g := tgM K c ws g) (tt := tmT K c tt) (te := tmE K c .cl te) wk
    (fun i H2 => ∃ acc n, SR K (G.and D) c A W (wipeE env vs) (wipe σ vs) H2 ∧ Grow W H1 H2 ∧ H2 D = some (SetI D (fun j => decide (j ∈ acc)) n) ∧ n ≤ acc.length ∧ mScGo g tt te (wipeE env vs) P (items.drop i) acc)
    ⟨[], 0, (R1.wipe vs).and nD, Grow.new R1.src nD, by rw [upd_same]; rfl, Nat.le_refl _, h1⟩ (fun i H2 _ hP => ?_) (fun i x H2 H3 hi hP y => ?_) (fun H2 hP => ?_)
  · obtain ⟨acc, n, R2, g2, hD, hn, hq⟩ := hP
    exact (hit _ W H2 (onto g2) R2.dz fun q hq => g2.keep _ _ (plD q hq).2 (plD q hq).1).1
  · obtain ⟨acc, n, R2, g2, hD, hn, hq⟩ := hP
    rw [List.drop_eq_getElem_cons hi] at hq
    obtain ⟨ga, rp⟩ := (hit _ W H2 (onto g2) R2.dz fun q hq => g2.keep _ _ (plD q hq).2 (plD q hq).1).2 i x H3 items[i] (List.getElem?_eq_getElem hi) y
    have g23 := ga.grow R2.src
    refine ⟨G.and D, A, W, wipeE env vs, items[i], _, R2.grow g23, rp, hq, fun env1 σ1 R4 t4 h4 => ?_⟩
    refine ⟨(t4.wipe hw).trans wipe_wipe, G.and D, A, W, env1, _, R4, h4, fun b H4 g4 h5 => ?_⟩
    cases b with
    | true =>
      rw [if_pos rfl] at h5 ⊢
      refine ⟨G.and D, A, W, env1, _, R4.grow g4, h5, fun p v H5 g5 rv h6 => ?_⟩
      obtain ⟨m, rfl, hl, h6⟩ := h6
      have g25 : Grow W H2 H5 := (g23.trans g4).trans g5
      have rv : Rp K ⟨Zt (G.and D) A W, W, H5⟩ (.int m) v := rv
      unfold Rp at rv
      subst rv
      have g15 := g2.trans g25
      have R6 := (R2.grow g25).upZ (o := SetI D (fun j => decide (j ∈ acc) || decide (j = m)) (if decide (m ∈ acc) = true then n else n + 1)) (.inr rfl) (R1.h0 nD) nW
      refine ⟨m, _, n, rfl, g25.keep D _ nW hD, by show n + 1 < 4096; omega, acc ++ [m], (if decide (m ∈ acc) = true then n else n + 1), R6, ⟨fun b o hw e => by rw [upd_ne (far e)]; exact g15.keep b o hw e, R6.src⟩, ?_, ?_, h6⟩
      · rw [upd_same, mem_snoc]
      · rw [List.length_append, List.length_singleton]; split <;> omega
    | false =>
      rw [if_neg Bool.false_ne_true] at h5 ⊢
      have g24 : Grow W H2 H4 := g23.trans g4
      exact ⟨acc, n, R2.grow g24, g2.trans g24, g24.keep D _ nW hD, hn, h5⟩
  · obtain ⟨acc, n, R2, g2, hD, hn, hq⟩ := hP
    rw [List.drop_length] at hq
    refine k (.iset acc) (.ref D) H2 (g1.trans g2) ?_ hq
    show Rp K _ (.iset acc) (.ref D)
    unfold Rp
    exact ⟨D, n, rfl, R1.nz nD, hD⟩
section
variable {X : Cx} {c : List Ow} {lk : Option Nat} {elt tg iter : Expr} {ifs : List Expr} {scope : Scope} {own : List (Str × Nat)} {pos : Pos} {wi : TIm} {ws : List Nat} {g : TGm} {tt : TTm} {te : TEm}
theorem em_sk (hc : X.calm = true) (hN : X.N.Nodup) (hi : PIm X c lk tg iter wi) (ok : BlkOk X.N X.env.scope scope own)
    (hg : ∀ (s : Shared) (H : Hp) (C : Addr) (cl : List (Str × Addr)) (fp : List Addr), PGm (X.blk s H scope (compEnvC scope cl C X.env) fp) c ws tg g) (ht : ∀ (s : Shared) (H : Hp) (C : Addr) (cl : List (Str × Addr)) (fp : List Addr), PTsm (X.blk s H scope (compEnvC scope cl C X.env) fp) c ifs tt)
    (he : ∀ (s : Shared) (H : Hp) (C : Addr) (cl : List (Str × Addr)) (fp : List Addr), PEm (X.blk s H scope (compEnvC scope cl C X.env) fp) c .cl elt te) (hw : ∀ j ∈ ws, j ∈ own.map (·.2) := by decide) (hs : ∀ x, foldedSetIterable iter X.env x = pure x := by intro _; rfl) :
    PEm X c .cl (.SetComp elt [⟨tg, iter, ifs, 0⟩] scope pos) (mSc wi (own.map (·.2)) g tt te) :=
  ⟨(pe_sk hc hN hi.run ok (fun s H C cl fp => (hg s H C cl fp).run) (fun s H C cl fp => (ht s H C cl fp).run) (fun s H C cl fp => (he s H C cl fp).run) hs).weak fun σ H Q h => tm_sk hw σ H Q h⟩
theorem sm_setSk (i : Nat) {f : Fx} {y : Str} {py spos : Pos} (hc : X.calm = true) (hN : X.N.Nodup) (hi : PIm X c lk tg iter wi) (ok : BlkOk X.N X.env.scope scope own)
    (hg : ∀ (s : Shared) (H : Hp) (C : Addr) (cl : List (Str × Addr)) (fp : List Addr), PGm (X.blk s H scope (compEnvC scope cl C X.env) fp) c ws tg g) (ht : ∀ (s : Shared) (H : Hp) (C : Addr) (cl : List (Str × Addr)) (fp : List Addr), PTsm (X.blk s H scope (compEnvC scope cl C X.env) fp) c ifs tt)
    (he : ∀ (s : Shared) (H : Hp) (C : Addr) (cl : List (Str × Addr)) (fp : List Addr), PEm (X.blk s H scope (compEnvC scope cl C X.env) fp) c .cl elt te)
    (hsw : swapsWith (.SetComp elt [⟨tg, iter, ifs, 0⟩] scope pos) (some (.Name y py)) spos.line X.env = pure true) (hy : X.N[i]? = some y := by rfl) (hyl : X.env.scope.names.lookup y = some .local := by rfl) (hl : cO c i ≠ .lk := by decide) (hw : ∀ j ∈ ws, j ∈ own.map (·.2) := by decide) (hs : ∀ x, foldedSetIterable iter X.env x = pure x := by intro _; rfl) :
    PSm X f c (c.set i .sh) (.Assign [.Name y py] (.SetComp elt [⟨tg, iter, ifs, 0⟩] scope pos) spos) (sSet i (mSc wi (own.map (·.2)) g tt te)) :=
  ⟨(ps_setSk hc hN hy hyl hsw hi.run ok (fun s H C cl fp => (hg s H C cl fp).run) (fun s H C cl fp => (ht s H C cl fp).run) (fun s H C cl fp => (he s H C cl fp).run) hs).weak fun D σ H h => by
    obtain ⟨G, A, W, env, M, hgw, R, h, k⟩ := h
    refine tm_sk hw σ H _ ⟨G, A, W, env, _, R, h, fun p v H1 g r h1 => ?_⟩
    exact k.nx _ W _ _ H1 ((R.grow g).set_sh hl r.c) h1⟩
end
/-! ### membership -/
section
variable {K : PySem.W.Frag}
def oInS (neg : Bool) : PO2 := fun x y P => ∃ (k : Int) (ks : List Int), x = .int k ∧ y = .iset ks ∧ P (.bl (if neg then !decide (k ∈ ks) else decide (k ∈ ks)))
theorem lift_inS {neg : Bool} : Lift2 K (rSInI neg) (oInS neg) .cl := by
  rintro Z W H px py vx vy P Q S rx ry ⟨k, ks, rfl, rfl, hp⟩ kk
  have rx : Rp K ⟨Z, W, H⟩ (.int k) vx := rx
  have ry : Rp K ⟨Z, W, H⟩ (.iset ks) vy := ry
  unfold Rp at rx ry
  obtain ⟨a, n, rfl, _, ha⟩ := ry
  subst rx
  exact ⟨k, a, _, n, rfl, rfl, ha, S.fin kk Rp.bl' hp⟩
@[simp] theorem s_mSc {wi : TIm} {vs : List Nat} {g : TGm} {tt : TTm} {te : TEm} {env : Env} {P : PV → Prop} : mSc wi vs g tt te env P ↔ wi env fun items => mScGo g tt te (wipeE env vs) P items [] := .rfl
@[simp] theorem s_oInS {neg : Bool} {k : Int} {ks : List Int} {P : PV → Prop} : oInS neg (.int k) (.iset ks) P ↔ P (.bl (if neg then !decide (k ∈ ks) else decide (k ∈ ks))) := ⟨fun ⟨_, _, e1, e2, h⟩ => by cases e1; cases e2; exact h, fun h => ⟨k, ks, rfl, rfl, h⟩⟩
/-- the members, found -/
theorem sk_emb {α : Type} {emb : α → PV} {tst : α → Bool} {f : α → Int} {g : TGm} {tt : TTm} {te : TEm} {env : Env} {P : PV → Prop} : ∀ {xs : List α} {acc : List Int}, (∀ x ∈ xs, ∃ e1, (∀ k : Env → Prop, k e1 → g (emb x) env k) ∧ (∀ Q : Bool → Prop, Q (tst x) → tt e1 Q) ∧ (tst x = true → ∀ Q : PV → Prop, Q (.int (f x)) → te e1 Q)) →
    acc.length + xs.length ≤ 4000 → P (.iset (acc ++ (xs.filter tst).map f)) → mScGo g tt te env P (xs.map emb) acc
  | [], acc, _, _, hp => by
    rw [List.filter_nil, List.map_nil, List.append_nil] at hp
    exact hp
  | x :: xs, acc, h, hl, hp => by
    obtain ⟨e1, h1, h2, h3⟩ := h x (List.mem_cons_self ..)
    rw [List.length_cons] at hl
    rw [List.map_cons]
    unfold mScGo
    refine h1 _ (h2 _ ?_)
    cases ht : tst x with
    | true =>
      rw [if_pos rfl]
      refine h3 ht _ ⟨f x, rfl, by omega, sk_emb (fun y hy => h y (List.mem_cons_of_mem _ hy)) (by rw [List.length_append, List.length_singleton]; omega) ?_⟩
      rw [List.filter_cons, ht, if_pos rfl, List.map_cons] at hp
      rw [List.append_assoc]
      exact hp
    | false =>
      rw [if_neg Bool.false_ne_true]
      refine sk_emb (fun y hy => h y (List.mem_cons_of_mem _ hy)) (by omega) ?_
      rw [List.filter_cons, ht, if_neg Bool.false_ne_true] at hp
      exact hp
end
end PM

set_option maxHeartbeats 2000000
/-! PM: x, y = e, z where z is a list of one's own that is given up for y. -/
namespace PM
open PySem L2
section
variable {K : PySem.W.Frag} {G : Gh} {c : List Ow} {A : Nat → Option Addr} {W : Ws} {env : Env} {σ : St} {H : Hp}
theorem env_set_none {α : Type} {env : List (Option α)} {i j : Nat} {p : α} (e : (env.set i none)[j]? = some (some p)) : j ≠ i ∧ env[j]? = some (some p) := by
  rw [List.getElem?_set] at e
  by_cases h : i = j
  · rw [if_pos h] at e
    split at e <;> cases e
  · rw [if_neg h] at e
    exact ⟨fun z => h z.symm, e⟩
/-- the list of z goes over to j -/
theorem SR.move {z j : Nat} {a : Addr} {q : PV} (R : SR K G c A W env σ H) (hA : A z = some a) (hq : env[z]? = some (some q)) (hzj : z ≠ j) (hj : j < c.length) (hl : cO c j ≠ .lk) (hlz : cO c z ≠ .lk) :
    SR K G ((c.set z .sh).set j .ow) (putA (dropA A z) j a) W ((env.set z none).set j (some q)) (σ.set j (some (.ref a))) H := by
  have hjz : j ≠ z := Ne.symm hzj
  have get : ∀ {k b}, putA (dropA A z) j a k = some b → (k = j ∧ b = a) ∨ (k ≠ j ∧ k ≠ z ∧ A k = some b) := fun {k b} e => by
    by_cases h : k = j
    · subst h; rw [putA_eq] at e; cases e; exact .inl ⟨rfl, rfl⟩
    · rw [putA_ne h] at e
      obtain ⟨n, e⟩ := dropA_some e
      exact .inr ⟨h, n, e⟩
  have less : ∀ b, Zt G (putA (dropA A z) j a) W b → Zt G A W b := fun b h => by
    rcases h with h | h | ⟨k, h⟩
    · exact .inl h
    · exact .inr (.inl h)
    · rcases get h with ⟨_, rfl⟩ | ⟨_, _, e⟩
      · exact .inr (.inr ⟨z, hA⟩)
      · exact .inr (.inr ⟨k, e⟩)
  have x : Ext ⟨Zt G A W, W, H⟩ ⟨Zt G (putA (dropA A z) j a) W, W, H⟩ := ext_less less
  have cj : cO ((c.set z .sh).set j .ow) j = .ow := by rw [cO_set, if_pos ⟨rfl, by rw [List.length_set]; exact hj⟩]
  have cz : cO ((c.set z .sh).set j .ow) z = .sh := by rw [cO_ne hzj, cO_sh]
  have ck : ∀ k, k ≠ j → k ≠ z → cO ((c.set z .sh).set j .ow) k = cO c k := fun k h1 h2 => by rw [cO_ne h1, cO_ne h2]
  have le : (env.set z none).length = env.length := List.length_set
  refine ⟨by rw [List.length_set, List.length_set, List.length_set]; exact R.len, R.W0in, R.Wmin, R.Wnew, R.Wfix, R.src, R.keep, R.zbt, fun k b e => ?_, fun k l b e1 e2 => ?_, fun k p hc e => ?_, fun k p e => ?_, fun q hq => ?_, fun b o e => ?_⟩
  · rcases get e with ⟨rfl, rfl⟩ | ⟨h1, h2, e⟩
    · obtain ⟨g1, g2, g3, _, g5⟩ := R.Asep z b hA
      exact ⟨g1, g2, g3, by rw [cj]; decide, g5⟩
    · obtain ⟨g1, g2, g3, g4, g5⟩ := R.Asep k b e
      exact ⟨g1, g2, g3, by rw [ck k h1 h2]; exact g4, g5⟩
  · rcases get e1 with ⟨rfl, rfl⟩ | ⟨h1, h2, e3⟩
    · rcases get e2 with ⟨rfl, _⟩ | ⟨_, h4, e2⟩
      · rfl
      · exact absurd (R.Ainj l z b e2 hA) h4
    · rcases get e2 with ⟨rfl, rfl⟩ | ⟨_, _, e2⟩
      · exact absurd (R.Ainj k z b e3 hA) h2
      · exact R.Ainj k l b e3 e2
  · rcases env_set_get e with ⟨rfl, _, _⟩ | ⟨n, e⟩
    · exact ⟨a, putA_eq⟩
    · obtain ⟨n2, e⟩ := env_set_none e
      rw [ck k n n2] at hc
      obtain ⟨b, hb⟩ := R.Aset k p hc e
      exact ⟨b, by rw [putA_ne n, dropA_ne n2]; exact hb⟩
  · rcases env_set_get e with ⟨rfl, hi, rfl⟩ | ⟨n, e⟩
    · refine ⟨.ref a, by rw [List.getElem?_set_self (by rw [← R.len, ← le]; exact hi)], ?_⟩
      rw [putA_eq]
      obtain ⟨w, _, h2⟩ := R.slots z p hq
      rw [hA] at h2
      exact ⟨rfl, h2.2.ext x rfl⟩
    · obtain ⟨n2, e⟩ := env_set_none e
      obtain ⟨w, h1, h2⟩ := R.slots k p e
      refine ⟨w, by rw [List.getElem?_set_ne (Ne.symm n)]; exact h1, ?_⟩
      rw [putA_ne n, dropA_ne n2]
      cases hA : A k with
      | none => rw [hA] at h2; exact Rp.ext x h2
      | some b => rw [hA] at h2; exact ⟨h2.1, h2.2.ext x rfl⟩
  · obtain ⟨h1, h2, h3, h4⟩ := R.pins q hq
    have n : q.1 ≠ j := fun e => hl (e ▸ h4)
    have n2 : q.1 ≠ z := fun e => hlz (e ▸ h4)
    exact ⟨h1, h2, by rw [putA_ne n, dropA_ne n2]; exact h3, by rw [ck _ n n2]; exact h4⟩
  · obtain ⟨h1, h2⟩ := R.fz b o e
    exact ⟨h1, fun h => h2 (less b h)⟩
end
section
variable {X : Cx} {f : Fx} {c : List Ow} {e : Expr} {te : TEm}
def sMov (i j z : Nat) (te : TEm) : TSm := fun M env => te env fun p => ∃ q, env[z]? = some (some q) ∧ M.nx (((env.set i (some p)).set z none).set j (some q))
theorem sm_mov (i j z : Nat) {x y v : Str} {px py pz pt pos : Pos} {kt k2 : Nat} {pt2 : Pos} (hc : X.calm = true) (hN : X.N.Nodup) (he : PEm X c .cl e te) (hi : X.N[i]? = some x := by rfl) (hj : X.N[j]? = some y := by rfl) (hz : X.N[z]? = some v := by rfl) (hij : i ≠ j := by decide) (hiz : i ≠ z := by decide) (hzj : z ≠ j := by decide)
    (hx : X.env.scope.names.lookup x = some .local := by rfl) (hy : X.env.scope.names.lookup y = some .local := by rfl) (hv : Vis X.env.scope v := by first | exact Or.inl rfl | exact Or.inr (Or.inl rfl) | exact Or.inr (Or.inr rfl)) (hd : (v == ("__debug__" : Str)) = false := by decide) (hcd : (v == ("__classdict__" : Str)) = false := by decide)
    (li : cO c i ≠ .lk := by decide) (lj : cO c j ≠ .lk := by decide) (oz : cO c z = .ow := by decide) (hlj : j < c.length := by decide)
    (hs1 : starEach [e, .Name v pz] X.env = (false, eval e X.env) :: starEach [.Name v pz] X.env := by rfl) (hs2 : starEach [.Name v pz] X.env = (false, eval (.Name v pz) X.env) :: starEach [] X.env := by rfl)
    (hw : swappedStores [.Tuple [.Name x px, .Name y py] kt pt] (.Tuple [e, .Name v pz] k2 pt2) X.env = pure (some [x, y]) := by rfl)
    (hs : swapsWithSole [.Tuple [.Name x px, .Name y py] kt pt] (.Tuple [e, .Name v pz] k2 pt2) pos.line X.env = pure false := by rfl) :
    PSm X f c (((c.set i .sh).set z .sh).set j .ow) (.Assign [.Tuple [.Name x px, .Name y py] kt pt] (.Tuple [e, .Name v pz] k2 pt2) pos) (sMov i j z te) := ⟨(ps_par hc hN hi hj hij hx hy (pa_cons he.run (pa_cons (pe_var hz hv hd hcd) pa_nil hs2) hs1) hw hs).weak fun D σ H h => by
  obtain ⟨G, A, W, env, M, hg, R, h, k⟩ := h
  refine ⟨G, A, W, env, _, R, h, fun p u H1 g1 r h1 => ?_⟩
  obtain ⟨q, hq, h2⟩ := h1
  have R1 := R.grow g1
  obtain ⟨a, hA⟩ := R1.Aset z q (by rw [oz]; decide) hq
  obtain ⟨w, e1, e2⟩ := R1.slots z q hq
  rw [hA] at e2
  obtain ⟨rfl, _⟩ := e2
  have R2 := R1.set_sh (i := i) (p := p) (v := u) li r.c
  have hzi : z ≠ i := Ne.symm hiz
  have hji : j ≠ i := Ne.symm hij
  have R3 := R2.move (z := z) (j := j) (a := a) (q := q) (by rw [dropA_ne hzi]; exact hA) (by rw [List.getElem?_set_ne hiz]; exact hq) hzj (by rw [List.length_set]; exact hlj) (by rw [cO_ne hji]; exact lj) (by rw [cO_ne hzi, oz]; decide)
  exact ⟨.ref a, e1, u, .ref a, rfl, k.nx _ _ _ _ _ R3 h2⟩⟩
theorem sm_movG {tgs : List Expr} (i j z : Nat) {v : Str} {pz pt pos : Pos} {kt k2 : Nat} {pt2 : Pos} (hc : X.calm = true) (hg : PGs X tgs (gNs [i, j])) (he : PEm X c .cl e te) (hz : X.N[z]? = some v := by rfl) (hij : i ≠ j := by decide) (hiz : i ≠ z := by decide) (hzj : z ≠ j := by decide)
    (hv : Vis X.env.scope v := by first | exact Or.inl rfl | exact Or.inr (Or.inl rfl) | exact Or.inr (Or.inr rfl)) (hd : (v == ("__debug__" : Str)) = false := by decide) (hcd : (v == ("__classdict__" : Str)) = false := by decide)
    (li : cO c i ≠ .lk := by decide) (lj : cO c j ≠ .lk := by decide) (oz : cO c z = .ow := by decide) (hlj : j < c.length := by decide)
    (hs1 : starEach [e, .Name v pz] X.env = (false, eval e X.env) :: starEach [.Name v pz] X.env := by rfl) (hs2 : starEach [.Name v pz] X.env = (false, eval (.Name v pz) X.env) :: starEach [] X.env := by rfl)
    (hs : swapsWithSole [.Tuple tgs kt pt] (.Tuple [e, .Name v pz] k2 pt2) pos.line X.env = pure false := by rfl) (hw : swappedStores [.Tuple tgs kt pt] (.Tuple [e, .Name v pz] k2 pt2) X.env = pure none := by rfl)
    (h1 : (assignEach [.Tuple tgs kt pt] X.env).map (·.2) = [assign (.Tuple tgs kt pt) X.env] := by rfl) (hn : (assignEach tgs X.env).length = 2 := by rfl) (hst : (assignEach tgs X.env).findIdx? (·.1) = none := by rfl) :
    PSm X f c (((c.set i .sh).set z .sh).set j .ow) (.Assign [.Tuple tgs kt pt] (.Tuple [e, .Name v pz] k2 pt2) pos) (sMov i j z te) := ⟨(ps_asg (pe_tup (pa_cons he.run (pa_cons (pe_var hz hv hd hcd) pa_nil hs2) hs1)) (pg_tup hc hg hn hst) hs hw h1).weak fun D σ H h => by
  obtain ⟨G, A, W, env, M, hgw, R, h, k⟩ := h
  refine ⟨G, A, W, env, _, R, h, fun p u H1 g1 r h1 => ?_⟩
  obtain ⟨q, hq, h2⟩ := h1
  have R1 := R.grow g1
  obtain ⟨a, hA⟩ := R1.Aset z q (by rw [oz]; decide) hq
  obtain ⟨w, e1, e2⟩ := R1.slots z q hq
  rw [hA] at e2
  obtain ⟨rfl, _⟩ := e2
  have R2 := R1.set_sh (i := i) (p := p) (v := u) li r.c
  have hzi : z ≠ i := Ne.symm hiz
  have hji : j ≠ i := Ne.symm hij
  have R3 := R2.move (z := z) (j := j) (a := a) (q := q) (by rw [dropA_ne hzi]; exact hA) (by rw [List.getElem?_set_ne hiz]; exact hq) hzj (by rw [List.length_set]; exact hlj) (by rw [cO_ne hji]; exact lj) (by rw [cO_ne hzi, oz]; decide)
  exact ⟨.ref a, e1, by show (2 : Nat) ≤ sizeLine; decide, fun T nT => ⟨T, [u, .ref a], rfl, .inl (.inl upd_same), rfl, rfl, k.nx _ _ _ _ _ (R3.grow (Grow.new R3.src nT)) h2⟩⟩⟩
@[simp] theorem s_sMov {i j z : Nat} {M : Em} {env : Env} : sMov i j z te M env ↔ te env fun p => ∃ q, env[z]? = some (some q) ∧ M.nx (((env.set i (some p)).set z none).set j (some q)) := .rfl
end
/-! ### a comprehension within a comprehension -/
theorem lookup_relab {env : PySem.Env} : ∀ {names : List (Str × NameKind)} {x : Str}, (names.lookup x = some .cell ∨ names.lookup x = some .free) →
    (names.map fun (n, k) => if (k == NameKind.free && env.scope.kind == .function && env.kindOf n == some .cell) then (n, NameKind.cell) else (n, k)).lookup x = some .cell ∨ (names.map fun (n, k) => if (k == NameKind.free && env.scope.kind == .function && env.kindOf n == some .cell) then (n, NameKind.cell) else (n, k)).lookup x = some .free
  | [], x, h => by rcases h with h | h <;> cases h
  | (n, k) :: r, x, h => by
    have ih := @lookup_relab env r x
    rw [List.map_cons]
    dsimp only
    by_cases hx : (x == n) = true
    · rw [List.lookup_cons, hx] at h
      by_cases hc : (k == NameKind.free && env.scope.kind == .function && env.kindOf n == some .cell) = true
      · left
        have e : (if (k == NameKind.free && env.scope.kind == .function && env.kindOf n == some .cell) = true then (n, NameKind.cell) else (n, k)) = (n, NameKind.cell) := if_pos hc
        rw [e, List.lookup_cons, hx]
      · have e : (if (k == NameKind.free && env.scope.kind == .function && env.kindOf n == some .cell) = true then (n, NameKind.cell) else (n, k)) = (n, k) := if_neg hc
        simp only [e, List.lookup_cons, hx]
        exact h
    · have hx : (x == n) = false := by cases q : x == n with
        | true => exact absurd q hx
        | false => rfl
      rw [List.lookup_cons, hx] at h
      have ih' := ih h
      by_cases hc : (k == NameKind.free && env.scope.kind == .function && env.kindOf n == some .cell) = true
      · have e : (if (k == NameKind.free && env.scope.kind == .function && env.kindOf n == some .cell) = true then (n, NameKind.cell) else (n, k)) = (n, NameKind.cell) := if_pos hc
        rw [e, List.lookup_cons, hx]
        exact ih'
      · have e : (if (k == NameKind.free && env.scope.kind == .function && env.kindOf n == some .cell) = true then (n, NameKind.cell) else (n, k)) = (n, k) := if_neg hc
        simp only [e, List.lookup_cons, hx]
        exact ih'
theorem blkOk_nest {N : List Str} {outer scope : Scope} {own : List (Str × Nat)} {env : PySem.Env} (h : blkC N outer scope own = true) : BlkOk N (relabel outer env) scope own := by
  obtain ⟨h1, h2, h3, h4, h5⟩ := blkOk_by h
  exact ⟨h1, h2, h3, fun y hy e => lookup_relab (h4 y hy e), h5⟩
/-! ### a walk over one's own list -/
def mOwn (j : Nat) : TIm := fun env P => ∃ ps, env[j]? = some (some (.lst ps)) ∧ P ps
@[simp] theorem s_mOwn {j : Nat} {env : Env} {P : List PV → Prop} : mOwn j env P ↔ ∃ ps, env[j]? = some (some (.lst ps)) ∧ P ps := .rfl
theorem im_ownW {X : Cx} {c : List Ow} {tg : Expr} {pos : Pos} (j : Nat) {x : Str} (hN : X.N[j]? = some x := by rfl) (hc : cO c j ≠ .sh := by decide) (hv : Vis X.env.scope x := by first | exact Or.inl rfl | exact Or.inr (Or.inl rfl) | exact Or.inr (Or.inr rfl)) (hd : (x == ("__debug__" : Str)) = false := by decide)
    (hcd : (x == ("__classdict__" : Str)) = false := by decide) : PIm X c (some j) tg (.Name x pos) (mOwn j) := im_own j hN hc hv hd hcd
end PM

set_option maxHeartbeats 1000000
namespace K25
open PySem PySem.Spec PyProof.Rows L2 PM
/-! ### the text -/
def topS (i : Nat) : Stmt := PySem.Challenge.pw_keysapart_k25_whole_what_silence_starves.main.body.getD i (.Pass ⟨0, 0, 0, 0⟩)
abbrev s_holders : Stmt := topS 1
abbrev n_holders : List Str := ["course", "notes", "i", "giving", "signed", "note", "house"]
abbrev p_holders : List Str := ["course", "notes", "i", "giving"]
theorem S_holders : FnScope n_holders p_holders (defScope s_holders) := ⟨rfl, rfl, rfl, by decide +kernel, rfl, by decide +kernel, by decide +kernel⟩
abbrev s_left_of : Stmt := topS 3
abbrev n_left_of : List Str := ["course", "notes", "i", "pair", "silent", "house"]
abbrev p_left_of : List Str := ["course", "notes", "i", "pair", "silent"]
theorem S_left_of : FnScope n_left_of p_left_of (defScope s_left_of) := ⟨rfl, rfl, rfl, by decide +kernel, rfl, by decide +kernel, by decide +kernel⟩
abbrev s_is_told_without : Stmt := topS 4
abbrev n_is_told_without : List Str := ["t", "course", "notes", "i", "hand", "silent", "pair"]
abbrev p_is_told_without : List Str := ["t", "course", "notes", "i", "hand", "silent"]
theorem S_is_told_without : FnScope n_is_told_without p_is_told_without (defScope s_is_told_without) := ⟨rfl, rfl, rfl, by decide +kernel, rfl, by decide +kernel, by decide +kernel⟩
abbrev s_silence_needed : Stmt := topS 5
abbrev n_silence_needed : List Str := ["t", "course", "notes", "i", "hand", "pair"]
abbrev p_silence_needed : List Str := ["t", "course", "notes", "i", "hand"]
theorem S_silence_needed : FnScope n_silence_needed p_silence_needed (defScope s_silence_needed) := ⟨rfl, rfl, rfl, by decide +kernel, rfl, by decide +kernel, by decide +kernel⟩
abbrev s_some_silence : Stmt := topS 6
abbrev n_some_silence : List Str := ["t", "course", "notes", "i", "hand", "many", "pair", "signed"]
abbrev p_some_silence : List Str := ["t", "course", "notes", "i", "hand"]
theorem S_some_silence : FnScope n_some_silence p_some_silence (defScope s_some_silence) := ⟨rfl, rfl, rfl, by decide +kernel, rfl, by decide +kernel, by decide +kernel⟩
abbrev s_l_heap : Stmt := topS 8
abbrev n_l_heap : List Str := ["script", "great", "cell", "cells", "stir"]
abbrev p_l_heap : List Str := ["script"]
theorem S_l_heap : FnScope n_l_heap p_l_heap (defScope s_l_heap) := ⟨rfl, rfl, rfl, by decide +kernel, rfl, by decide +kernel, by decide +kernel⟩
abbrev s_l_draw : Stmt := topS 9
abbrev n_l_draw : List Str := ["heap", "many", "rest"]
abbrev p_l_draw : List Str := ["heap", "many"]
theorem S_l_draw : FnScope n_l_draw p_l_draw (defScope s_l_draw) := ⟨rfl, rfl, rfl, by decide +kernel, rfl, by decide +kernel, by decide +kernel⟩
abbrev s_l_pick : Stmt := topS 10
abbrev n_l_pick : List Str := ["heap", "some"]
abbrev p_l_pick : List Str := ["heap", "some"]
theorem S_l_pick : FnScope n_l_pick p_l_pick (defScope s_l_pick) := ⟨rfl, rfl, rfl, by decide +kernel, rfl, by decide +kernel, by decide +kernel⟩
abbrev s_l_like : Stmt := topS 11
abbrev n_l_like : List Str := ["told", "due", "one", "other"]
abbrev p_l_like : List Str := ["told", "due"]
theorem S_l_like : FnScope n_l_like p_l_like (defScope s_l_like) := ⟨rfl, rfl, rfl, by decide +kernel, rfl, by decide +kernel, by decide +kernel⟩
abbrev s_l_some : Stmt := topS 12
abbrev n_l_some : List Str := ["heap", "pool", "many", "turn", "left", "found", "place"]
abbrev p_l_some : List Str := ["heap", "pool", "many"]
theorem S_l_some : FnScope n_l_some p_l_some (defScope s_l_some) := ⟨rfl, rfl, rfl, by decide +kernel, rfl, by decide +kernel, by decide +kernel⟩
abbrev s_l_spots : Stmt := topS 13
abbrev n_l_spots : List Str := ["t", "found", "i", "j"]
abbrev p_l_spots : List Str := ["t"]
theorem S_l_spots : FnScope n_l_spots p_l_spots (defScope s_l_spots) := ⟨rfl, rfl, rfl, by decide +kernel, rfl, by decide +kernel, by decide +kernel⟩
abbrev s_l_row_forms : Stmt := topS 14
abbrev n_l_row_forms : List Str := ["p", "t", "house", "powers", "j", "found", "place", "form", "low", "high", "number"]
abbrev p_l_row_forms : List Str := ["p", "t", "house"]
theorem S_l_row_forms : FnScope n_l_row_forms p_l_row_forms (defScope s_l_row_forms) := ⟨rfl, rfl, rfl, by decide +kernel, rfl, by decide +kernel, by decide +kernel⟩
abbrev s_l_is_spanned : Stmt := topS 15
abbrev n_l_is_spanned : List Str := ["p", "rows", "form", "at", "left", "wide", "heads", "head", "back", "fresh", "row", "times", "place", "one"]
abbrev p_l_is_spanned : List Str := ["p", "rows", "form"]
theorem S_l_is_spanned : FnScope n_l_is_spanned p_l_is_spanned (defScope s_l_is_spanned) := ⟨rfl, rfl, rfl, by decide +kernel, rfl, by decide +kernel, by decide +kernel⟩
abbrev s_l_lots : Stmt := topS 16
abbrev n_l_lots : List Str := ["lot", "found", "house", "one"]
abbrev p_l_lots : List Str := ["lot"]
theorem S_l_lots : FnScope n_l_lots p_l_lots (defScope s_l_lots) := ⟨rfl, rfl, rfl, by decide +kernel, rfl, by decide +kernel, by decide +kernel⟩
abbrev s_l_is_told : Stmt := topS 17
abbrev n_l_is_told : List Str := ["p", "t", "holds", "silent", "corner", "signed", "rows", "house", "spot"]
abbrev p_l_is_told : List Str := ["p", "t", "holds", "silent"]
theorem S_l_is_told : FnScope n_l_is_told p_l_is_told (defScope s_l_is_told) := ⟨rfl, rfl, rfl, by decide +kernel, rfl, by decide +kernel, by decide +kernel⟩
abbrev s_law : Stmt := topS 18
abbrev n_law : List Str := "script" :: "heap" :: "k" :: "pool" :: "dealer" :: "notes" :: "silent" :: "drawn" :: "told" :: "t" :: "p" :: "lot" :: "elder" :: "i" :: "course" :: "hand" :: "holds" :: "many" :: "least" :: "due" :: "signed" :: "seal" :: "house" :: []
abbrev p_law : List Str := ["script"]
theorem S_law : FnScope n_law p_law (defScope s_law) := ⟨rfl, rfl, rfl, by decide +kernel, rfl, by decide +kernel, by decide +kernel⟩
/-- what the top has written -/
structure Tx (K : PySem.W.Frag) (mg : Str → Option Value) : Type where
  a_holders : Addr
  d_holders : FuncData
  f_holders : FunD K "holders" "holders" (defArgs s_holders) (defBody s_holders) (defScope s_holders) [] [] a_holders d_holders
  m_holders : mg "holders" = some (.ref a_holders)
  b_holders : Binds K d_holders p_holders []
  a_left_of : Addr
  d_left_of : FuncData
  f_left_of : FunD K "left_of" "left_of" (defArgs s_left_of) (defBody s_left_of) (defScope s_left_of) [] [] a_left_of d_left_of
  m_left_of : mg "left_of" = some (.ref a_left_of)
  b_left_of : Binds K d_left_of p_left_of []
  a_is_told_without : Addr
  d_is_told_without : FuncData
  f_is_told_without : FunD K "is_told_without" "is_told_without" (defArgs s_is_told_without) (defBody s_is_told_without) (defScope s_is_told_without) [] [] a_is_told_without d_is_told_without
  m_is_told_without : mg "is_told_without" = some (.ref a_is_told_without)
  b_is_told_without : Binds K d_is_told_without p_is_told_without []
  a_silence_needed : Addr
  d_silence_needed : FuncData
  f_silence_needed : FunD K "silence_needed" "silence_needed" (defArgs s_silence_needed) (defBody s_silence_needed) (defScope s_silence_needed) [] [] a_silence_needed d_silence_needed
  m_silence_needed : mg "silence_needed" = some (.ref a_silence_needed)
  b_silence_needed : Binds K d_silence_needed p_silence_needed []
  a_some_silence : Addr
  d_some_silence : FuncData
  f_some_silence : FunD K "some_silence" "some_silence" (defArgs s_some_silence) (defBody s_some_silence) (defScope s_some_silence) [] [] a_some_silence d_some_silence
  m_some_silence : mg "some_silence" = some (.ref a_some_silence)
  b_some_silence : Binds K d_some_silence p_some_silence []
  a_l_heap : Addr
  d_l_heap : FuncData
  f_l_heap : FunD K "_law_heap" "_law_heap" (defArgs s_l_heap) (defBody s_l_heap) (defScope s_l_heap) [] [] a_l_heap d_l_heap
  m_l_heap : mg "_law_heap" = some (.ref a_l_heap)
  b_l_heap : Binds K d_l_heap p_l_heap []
  a_l_draw : Addr
  d_l_draw : FuncData
  f_l_draw : FunD K "_law_draw" "_law_draw" (defArgs s_l_draw) (defBody s_l_draw) (defScope s_l_draw) [] [] a_l_draw d_l_draw
  m_l_draw : mg "_law_draw" = some (.ref a_l_draw)
  b_l_draw : Binds K d_l_draw p_l_draw []
  a_l_pick : Addr
  d_l_pick : FuncData
  f_l_pick : FunD K "_law_pick" "_law_pick" (defArgs s_l_pick) (defBody s_l_pick) (defScope s_l_pick) [] [] a_l_pick d_l_pick
  m_l_pick : mg "_law_pick" = some (.ref a_l_pick)
  b_l_pick : Binds K d_l_pick p_l_pick []
  a_l_like : Addr
  d_l_like : FuncData
  f_l_like : FunD K "_law_like" "_law_like" (defArgs s_l_like) (defBody s_l_like) (defScope s_l_like) [] [] a_l_like d_l_like
  m_l_like : mg "_law_like" = some (.ref a_l_like)
  b_l_like : Binds K d_l_like p_l_like []
  a_l_some : Addr
  d_l_some : FuncData
  f_l_some : FunD K "_law_some" "_law_some" (defArgs s_l_some) (defBody s_l_some) (defScope s_l_some) [] [] a_l_some d_l_some
  m_l_some : mg "_law_some" = some (.ref a_l_some)
  b_l_some : Binds K d_l_some p_l_some []
  a_l_spots : Addr
  d_l_spots : FuncData
  f_l_spots : FunD K "_law_spots" "_law_spots" (defArgs s_l_spots) (defBody s_l_spots) (defScope s_l_spots) [] [] a_l_spots d_l_spots
  m_l_spots : mg "_law_spots" = some (.ref a_l_spots)
  b_l_spots : Binds K d_l_spots p_l_spots []
  a_l_row_forms : Addr
  d_l_row_forms : FuncData
  f_l_row_forms : FunD K "_law_row_forms" "_law_row_forms" (defArgs s_l_row_forms) (defBody s_l_row_forms) (defScope s_l_row_forms) [] [] a_l_row_forms d_l_row_forms
  m_l_row_forms : mg "_law_row_forms" = some (.ref a_l_row_forms)
  b_l_row_forms : Binds K d_l_row_forms p_l_row_forms []
  a_l_is_spanned : Addr
  d_l_is_spanned : FuncData
  f_l_is_spanned : FunD K "_law_is_spanned" "_law_is_spanned" (defArgs s_l_is_spanned) (defBody s_l_is_spanned) (defScope s_l_is_spanned) [] [] a_l_is_spanned d_l_is_spanned
  m_l_is_spanned : mg "_law_is_spanned" = some (.ref a_l_is_spanned)
  b_l_is_spanned : Binds K d_l_is_spanned p_l_is_spanned []
  a_l_lots : Addr
  d_l_lots : FuncData
  f_l_lots : FunD K "_law_lots" "_law_lots" (defArgs s_l_lots) (defBody s_l_lots) (defScope s_l_lots) [] [] a_l_lots d_l_lots
  m_l_lots : mg "_law_lots" = some (.ref a_l_lots)
  b_l_lots : Binds K d_l_lots p_l_lots []
  a_l_is_told : Addr
  d_l_is_told : FuncData
  f_l_is_told : FunD K "_law_is_told" "_law_is_told" (defArgs s_l_is_told) (defBody s_l_is_told) (defScope s_l_is_told) [] [] a_l_is_told d_l_is_told
  m_l_is_told : mg "_law_is_told" = some (.ref a_l_is_told)
  b_l_is_told : Binds K d_l_is_told p_l_is_told []
  a_law : Addr
  d_law : FuncData
  f_law : FunD K "law" "law" (defArgs s_law) (defBody s_law) (defScope s_law) [] [] a_law d_law
  m_law : mg "law" = some (.ref a_law)
  z_abs : mg "abs" = none
  z_all : mg "all" = none
  z_bool : mg "bool" = none
  z_int : mg "int" = none
  z_isinstance : mg "isinstance" = none
  z_len : mg "len" = none
  z_max : mg "max" = none
  z_min : mg "min" = none
  z_range : mg "range" = none
  z_sorted : mg "sorted" = none
  z_str : mg "str" = none
  z_tuple : mg "tuple" = none
  z_zip : mg "zip" = none
section
variable {P : Program} {w : World} {K : PySem.W.Frag} {mg : Str → Option Value} {base : Heap}
def t_holders : TSm :=
  (sSeq (sSet 4 (mSc (mItems (mVar 1)) [5] (gmN 5) (mTB (mOp oEq (mSl oSl (mVar 5) (mPart (mC (.int 1))) mNo) (mOp oAdd (mTup (mCons (mC (.str (PySem.Str.ofString "hold"))) (mCons (mVar 2) mNil))) (mVar 3)))) (mOp oIx (mVar 5) (mC (.int 0))))) (sRet (mB oTuple (mCons (mLc (mItems (mOp oIx (mVar 0) (mOp oAdd (mVar 2) (mC (.int 1))))) [6] (gmN 6) (mTB (mOp (oInS false) (mVar 6) (mVar 4))) (mVar 6)) mNil))))
theorem w_holders (T : Tx K mg) (cdv : Value) (A : Around) (outer : List PySem.Env) (s : Shared) (H : Hp) (E : XK)
    (hr : Room 0 (A.deeper (PyProof.Rows.envOfC "holders" (defScope s_holders) s.heap.objs.size T.a_holders cdv))) :
    ∃ c', PSsm (bodyX P w K mg base n_holders "holders" s_holders T.a_holders cdv A outer s H E) ⟨.cl, false, []⟩ (shs 7) c' (defBody s_holders) (t_holders) :=
  ⟨[.sh, .sh, .sh, .sh, .sh, .sh, .sh], (sm_cons (sm_set 4 S_holders.nd (em_sk (own := [("note", 5)]) rfl S_holders.nd (im_seq (em_var 1)) (blkOk_by (N := n_holders) (sc := defScope s_holders) (by decide +kernel)) (fun _ _ _ _ _ => (gm_name 5 S_holders.nd)) (fun _ _ _ _ _ => (tsm_one (tm_cmp (op_eqD hr.units) lift_eq (PEm.ow (em_sl (PEm.ow (em_var 5)) (om_some (PEm.ow em_int)) om_none)) (PEm.ow (em_op op_plus lift_plus (PEm.ow (em_tup (am_consC em_str (am_consC (em_var 2) am_nil)))) (PEm.ow (em_var 3)))) (nomark _)))) (fun _ _ _ _ _ => (em_ix (PEm.ow (em_var 5)) (PEm.ow em_int) (fun _ _ => rfl)))))
    (sm_one (sm_ret (em_callTy call_tuple_of lift_tuple (by rfl) T.z_tuple PyProof.Rows.boot_tuple (am_cons (PEm.ow (em_lc (own := [("house", 6)]) rfl S_holders.nd (im_seq (em_ix (PEm.ow (em_var 0)) (PEm.ow (em_op op_plus lift_plus (PEm.ow (em_var 2)) (PEm.ow em_int))) (fun _ _ => rfl))) (blkOk_by (N := n_holders) (sc := defScope s_holders) (by decide +kernel)) (fun _ _ _ _ _ => (gm_name 6 S_holders.nd)) (fun _ _ _ _ _ => (tsm_one (tm_cmp or_sinI (lift_inS (neg := false)) (PEm.ow (em_var 6)) (PEm.ow (em_var 4)) (by with_unfolding_all rfl)))) (fun _ _ _ _ _ => (em_var 6)))) am_nil)))))⟩
def t_left_of (sp_holders : PM.Spec) : TSm :=
  (sRet (mB oTuple (mCons (mLc (mItems (mCall sp_holders [] (mCons (mVar 0) (mCons (mVar 1) (mCons (mVar 2) (mCons (mVar 3) mNil)))))) [5] (gmN 5) (mTB (mOp (oIn true) (mVar 5) (mVar 4))) (mVar 5)) mNil)))
theorem w_left_of (T : Tx K mg) (sp_holders : PM.Spec)
    (F_holders : FnOk P w K mg base CX0 1 T.a_holders T.d_holders p_holders (spM K .cl sp_holders)) (cdv : Value) (A : Around) (outer : List PySem.Env) (s : Shared) (H : Hp) (E : XK)
    (hr : Room 1 (A.deeper (PyProof.Rows.envOfC "left_of" (defScope s_left_of) s.heap.objs.size T.a_left_of cdv))) :
    ∃ c', PSsm (bodyX P w K mg base n_left_of "left_of" s_left_of T.a_left_of cdv A outer s H E) ⟨.cl, false, []⟩ (shs 6) c' (defBody s_left_of) (t_left_of sp_holders) :=
  ⟨[.sh, .sh, .sh, .sh, .sh, .sh], (sm_one (sm_ret (em_callTy call_tuple_of lift_tuple (by rfl) T.z_tuple PyProof.Rows.boot_tuple (am_cons (PEm.ow (em_lc (own := [("house", 5)]) rfl S_left_of.nd (im_seq (em_call F_holders (hr.mono (by decide)) T.m_holders T.f_holders.kp T.b_holders .nil (fun _ => Rps.nil) (am_consC (em_var 0) (am_consC (em_var 1) (am_consC (em_var 2) (am_consC (em_var 3) am_nil)))))) (blkOk_by (N := n_left_of) (sc := defScope s_left_of) (by decide +kernel)) (fun _ _ _ _ _ => (gm_name 5 S_left_of.nd)) (fun _ _ _ _ _ => (tsm_one (tm_cmp op_notIn_seq lift_in (PEm.ow (em_var 5)) (PEm.ow (em_var 4)) (by with_unfolding_all rfl)))) (fun _ _ _ _ _ => (em_var 5)))) am_nil))))⟩
def t_is_told_without (sp_left_of : PM.Spec) : TSm :=
  (sRet (mB oAll (mCons (mLc (mItems (mVar 4)) [6] (gmN 6) mYes (mOp oGt (mB oLen (mCons (mCall sp_left_of [] (mCons (mVar 1) (mCons (mVar 2) (mCons (mVar 3) (mCons (mVar 6) (mCons (mVar 5) mNil)))))) mNil)) (mVar 0))) mNil)))
theorem w_is_told_without (T : Tx K mg) (sp_left_of : PM.Spec)
    (F_left_of : FnOk P w K mg base CX0 2 T.a_left_of T.d_left_of p_left_of (spM K .cl sp_left_of)) (cdv : Value) (A : Around) (outer : List PySem.Env) (s : Shared) (H : Hp) (E : XK)
    (hr : Room 2 (A.deeper (PyProof.Rows.envOfC "is_told_without" (defScope s_is_told_without) s.heap.objs.size T.a_is_told_without cdv))) :
    ∃ c', PSsm (bodyX P w K mg base n_is_told_without "is_told_without" s_is_told_without T.a_is_told_without cdv A outer s H E) ⟨.cl, false, []⟩ (shs 7) c' (defBody s_is_told_without) (t_is_told_without sp_left_of) :=
  ⟨[.sh, .sh, .sh, .sh, .sh, .sh, .sh], (sm_one (sm_ret (em_callB (cr_all rfl) lift_all (by rfl) T.z_all PyProof.Rows.boot_all (am_cons (PEm.ow (em_lc (own := [("pair", 6)]) rfl S_is_told_without.nd (im_seq (em_var 4)) (blkOk_by (N := n_is_told_without) (sc := defScope s_is_told_without) (by decide +kernel)) (fun _ _ _ _ _ => (gm_name 6 S_is_told_without.nd)) (fun _ _ _ _ _ => tsm_nil) (fun _ _ _ _ _ => (em_cmp op_gt lift_gt (PEm.ow (em_callB call_lenA lift_len (by rfl) T.z_len PySem.boot_len (am_cons (PEm.ow (em_call F_left_of (hr.mono (by decide)) T.m_left_of T.f_left_of.kp T.b_left_of .nil (fun _ => Rps.nil) (am_consC (em_var 1) (am_consC (em_var 2) (am_consC (em_var 3) (am_consC (em_var 6) (am_consC (em_var 5) am_nil))))))) am_nil))) (PEm.ow (em_var 0)) (nomark _))))) am_nil))))⟩
def t_silence_needed (sp_left_of : PM.Spec) : TSm :=
  (sRet (mB oMax2 (mCons (mC (.int 0)) (mCons (mOp oSub (mB oMinL (mCons (mLc (mItems (mVar 4)) [5] (gmN 5) mYes (mB oLen (mCons (mCall sp_left_of [] (mCons (mVar 1) (mCons (mVar 2) (mCons (mVar 3) (mCons (mVar 5) (mCons (mTup mNil) mNil)))))) mNil))) mNil)) (mVar 0)) mNil))))
theorem w_silence_needed (T : Tx K mg) (sp_left_of : PM.Spec)
    (F_left_of : FnOk P w K mg base CX0 2 T.a_left_of T.d_left_of p_left_of (spM K .cl sp_left_of)) (cdv : Value) (A : Around) (outer : List PySem.Env) (s : Shared) (H : Hp) (E : XK)
    (hr : Room 2 (A.deeper (PyProof.Rows.envOfC "silence_needed" (defScope s_silence_needed) s.heap.objs.size T.a_silence_needed cdv))) :
    ∃ c', PSsm (bodyX P w K mg base n_silence_needed "silence_needed" s_silence_needed T.a_silence_needed cdv A outer s H E) ⟨.cl, false, []⟩ (shs 6) c' (defBody s_silence_needed) (t_silence_needed sp_left_of) :=
  ⟨[.sh, .sh, .sh, .sh, .sh, .sh], (sm_one (sm_ret (em_callB (call_max2 rfl) lift_max2 (by rfl) T.z_max PyProof.Rows.boot_max (am_cons (PEm.ow em_int) (am_cons (PEm.ow (em_op op_sub lift_sub (PEm.ow (em_callB (cr_min rfl) lift_minL (by rfl) T.z_min PyProof.Rows.boot_min (am_cons (PEm.ow (em_lc (own := [("pair", 5)]) rfl S_silence_needed.nd (im_seq (em_var 4)) (blkOk_by (N := n_silence_needed) (sc := defScope s_silence_needed) (by decide +kernel)) (fun _ _ _ _ _ => (gm_name 5 S_silence_needed.nd)) (fun _ _ _ _ _ => tsm_nil) (fun _ _ _ _ _ => (em_callB call_lenA lift_len (by rfl) T.z_len PySem.boot_len (am_cons (PEm.ow (em_call F_left_of (hr.mono (by decide)) T.m_left_of T.f_left_of.kp T.b_left_of .nil (fun _ => Rps.nil) (am_consC (em_var 1) (am_consC (em_var 2) (am_consC (em_var 3) (am_consC (em_var 5) (am_consC (em_tup am_nil) am_nil))))))) am_nil))))) am_nil))) (PEm.ow (em_var 0)))) am_nil)))))⟩
def t_some_silence (sp_silence_needed : PM.Spec) (sp_left_of : PM.Spec) : TSm :=
  (sSeq (sSet 5 (mCall sp_silence_needed [] (mCons (mVar 0) (mCons (mVar 1) (mCons (mVar 2) (mCons (mVar 3) (mCons (mVar 4) mNil))))))) (sSeq (sFor (mItems (mVar 4)) (gmN 6) (sSeq (sSet 7 (mCall sp_left_of [] (mCons (mVar 1) (mCons (mVar 2) (mCons (mVar 3) (mCons (mVar 6) (mCons (mTup mNil) mNil))))))) (sIf (mTB (mOp oLe (mOp oSub (mB oLen (mCons (mVar 7) mNil)) (mVar 0)) (mVar 5))) (sRet (mSl oSl (mVar 7) mNo (mPart (mVar 5)))) sNext))) (sRet (mTup mNil))))
theorem w_some_silence (T : Tx K mg) (sp_silence_needed : PM.Spec) (sp_left_of : PM.Spec)
    (F_silence_needed : FnOk P w K mg base CX0 3 T.a_silence_needed T.d_silence_needed p_silence_needed (spM K .cl sp_silence_needed))
    (F_left_of : FnOk P w K mg base CX0 2 T.a_left_of T.d_left_of p_left_of (spM K .cl sp_left_of)) (cdv : Value) (A : Around) (outer : List PySem.Env) (s : Shared) (H : Hp) (E : XK)
    (hr : Room 3 (A.deeper (PyProof.Rows.envOfC "some_silence" (defScope s_some_silence) s.heap.objs.size T.a_some_silence cdv))) :
    ∃ c', PSsm (bodyX P w K mg base n_some_silence "some_silence" s_some_silence T.a_some_silence cdv A outer s H E) ⟨.cl, false, []⟩ (shs 8) c' (defBody s_some_silence) (t_some_silence sp_silence_needed sp_left_of) :=
  ⟨[.sh, .sh, .sh, .sh, .sh, .sh, .sh, .sh], (sm_cons (sm_set 5 S_some_silence.nd (em_call F_silence_needed (hr.mono (by decide)) T.m_silence_needed T.f_silence_needed.kp T.b_silence_needed .nil (fun _ => Rps.nil) (am_consC (em_var 0) (am_consC (em_var 1) (am_consC (em_var 2) (am_consC (em_var 3) (am_consC (em_var 4) am_nil)))))))
    (sm_cons (sm_for (c := [.sh, .sh, .sh, .sh, .sh, .sh, .sh, .sh]) .never rfl (im_seq (em_var 4)) (gm_name 6 S_some_silence.nd) (sm_cons (sm_set 7 S_some_silence.nd (em_call F_left_of (hr.mono (by decide)) T.m_left_of T.f_left_of.kp T.b_left_of .nil (fun _ => Rps.nil) (am_consC (em_var 1) (am_consC (em_var 2) (am_consC (em_var 3) (am_consC (em_var 6) (am_consC (em_tup am_nil) am_nil)))))))
    (sm_one (sm_if (c' := [.sh, .sh, .sh, .sh, .sh, .sh, .sh, .sh]) (tm_cmp op_le lift_le (PEm.ow (em_op op_sub lift_sub (PEm.ow (em_callB call_lenA lift_len (by rfl) T.z_len PySem.boot_len (am_cons (PEm.ow (em_var 7)) am_nil))) (PEm.ow (em_var 0)))) (PEm.ow (em_var 5)) (nomark _)) (sm_one (sm_ret (em_sl (PEm.ow (em_var 7)) om_none (om_some (PEm.ow (em_var 5)))))) sm_nil))) (fun _ e => by cases e))
    (sm_one (sm_ret (em_tup am_nil)))))⟩
def t_l_heap : TSm :=
  (sSeq (sSet 1 (mOp oMulW (mOp oMulW (mOp oPow (mC (.int 10)) (mC (.int 60))) (mOp oPow (mC (.int 10)) (mC (.int 60)))) (mOp oPow (mC (.int 10)) (mC (.int 60))))) (sSeq (sPar [3, 4] (mCons (mLc (mItems (mSl oSlS (mVar 0) mNo (mPart (mC (.int 60))))) [2] (gmN 2) mYes (mOp oMod (mB oInt (mCons (mOp oAdd (mOp oMul (mC (.int 2)) (mB oAbs (mCons (mVar 2) mNil))) (mB oInt (mCons (mOp oLt (mVar 2) (mC (.int 0))) mNil))) mNil)) (mVar 1))) (mCons (mC (.int 20043)) mNil))) (sSeq (sFor (mItems (mVar 3)) (gmN 2) (sSet 4 (mOp oMod (mB oInt (mCons (mOp oAdd (mOp oAdd (mOp oMul (mVar 4) (mC (.int 69621))) (mOp oMod (mB oInt (mCons (mVar 2) mNil)) (mC (.int 2147483563)))) (mC (.int 71))) mNil)) (mC (.int 2147483647))))) (sRet (mLst (mCons (mOp1 oRev (mLc (mItems (mVar 3)) [2] (gmN 2) (mTB (mOp oGe (mVar 2) (mOp oPow (mC (.int 10)) (mC (.int 18))))) (mVar 2))) (mCons (mVar 4) mNil)))))))
theorem w_l_heap (T : Tx K mg) (cdv : Value) (A : Around) (outer : List PySem.Env) (s : Shared) (H : Hp) (E : XK)
    (hr : Room 0 (A.deeper (PyProof.Rows.envOfC "_law_heap" (defScope s_l_heap) s.heap.objs.size T.a_l_heap cdv))) :
    ∃ c', PSsm (bodyX P w K mg base n_l_heap "_law_heap" s_l_heap T.a_l_heap cdv A outer s H E) ⟨.cl, false, []⟩ (shs 5) c' (defBody s_l_heap) (t_l_heap) :=
  ⟨[.sh, .sh, .sh, .sh, .sh], (sm_cons (sm_set 1 S_l_heap.nd (em_op op_mulW lift_mulW (PEm.ow (em_op op_mulW lift_mulW (PEm.ow (em_op op_pow lift_pow (PEm.ow em_int) (PEm.ow em_int))) (PEm.ow (em_op op_pow lift_pow (PEm.ow em_int) (PEm.ow em_int))))) (PEm.ow (em_op op_pow lift_pow (PEm.ow em_int) (PEm.ow em_int)))))
    (sm_cons (sm_par [3, 4] rfl S_l_heap.nd (xm_cl (PEm.cl (em_lc (own := [("cell", 2)]) rfl S_l_heap.nd (im_seq (PEm.cl (em_slS (PEm.ow (em_var 0)) om_none (om_some (PEm.ow em_int))))) (blkOk_by (N := n_l_heap) (sc := defScope s_l_heap) (by decide +kernel)) (fun _ _ _ _ _ => (gm_name 2 S_l_heap.nd)) (fun _ _ _ _ _ => tsm_nil) (fun _ _ _ _ _ => (em_op op_mod lift_mod (PEm.ow (em_callTy call_int1 lift_int (by rfl) T.z_int PyProof.Rows.boot_int (am_cons (PEm.ow (em_op op_plus lift_plus (PEm.ow (em_op op_mul lift_mul (PEm.ow em_int) (PEm.ow (em_callB call_abs lift_abs (by rfl) T.z_abs PyProof.Rows.boot_abs (am_cons (PEm.ow (em_var 2)) am_nil))))) (PEm.ow (em_callTy call_int1 lift_int (by rfl) T.z_int PyProof.Rows.boot_int (am_cons (PEm.ow (em_cmp op_lt lift_lt (PEm.ow (em_var 2)) (PEm.ow em_int) (nomark _))) am_nil))))) am_nil))) (PEm.ow (em_var 1)))))) (xm_cl em_int xm_nil)))
    (sm_cons (sm_for (c := [.sh, .sh, .sh, .sh, .sh]) .never rfl (im_seq (em_var 3)) (gm_name 2 S_l_heap.nd) (sm_one (sm_set 4 S_l_heap.nd (em_op op_mod lift_mod (PEm.ow (em_callTy call_int1 lift_int (by rfl) T.z_int PyProof.Rows.boot_int (am_cons (PEm.ow (em_op op_plus lift_plus (PEm.ow (em_op op_plus lift_plus (PEm.ow (em_op op_mul lift_mul (PEm.ow (em_var 4)) (PEm.ow em_int))) (PEm.ow (em_op op_mod lift_mod (PEm.ow (em_callTy call_int1 lift_int (by rfl) T.z_int PyProof.Rows.boot_int (am_cons (PEm.ow (em_var 2)) am_nil))) (PEm.ow em_int))))) (PEm.ow em_int))) am_nil))) (PEm.ow em_int)))) (fun _ e => by cases e))
    (sm_one (sm_ret (PEm.cl (em_lst (am_consC (em_rev (PEm.ow (em_lc (own := [("cell", 2)]) rfl S_l_heap.nd (im_seq (em_var 3)) (blkOk_by (N := n_l_heap) (sc := defScope s_l_heap) (by decide +kernel)) (fun _ _ _ _ _ => (gm_name 2 S_l_heap.nd)) (fun _ _ _ _ _ => (tsm_one (tm_cmp op_ge lift_ge (PEm.ow (em_var 2)) (PEm.ow (em_op op_pow lift_pow (PEm.ow em_int) (PEm.ow em_int))) (nomark _)))) (fun _ _ _ _ _ => (em_var 2))))) (am_consC (em_var 4) am_nil)))))))))⟩
def t_l_pick (sp_l_draw : PM.Spec) : TSm :=
  (sRet (mOp oIx (mVar 1) (mCall sp_l_draw [] (mCons (mVar 0) (mCons (mB oLen (mCons (mVar 1) mNil)) mNil)))))
theorem w_l_pick (T : Tx K mg) (sp_l_draw : PM.Spec)
    (F_l_draw : FnOk P w K mg base CX0 1 T.a_l_draw T.d_l_draw p_l_draw (spM K .cl sp_l_draw)) (cdv : Value) (A : Around) (outer : List PySem.Env) (s : Shared) (H : Hp) (E : XK)
    (hr : Room 1 (A.deeper (PyProof.Rows.envOfC "_law_pick" (defScope s_l_pick) s.heap.objs.size T.a_l_pick cdv))) :
    ∃ c', PSsm (bodyX P w K mg base n_l_pick "_law_pick" s_l_pick T.a_l_pick cdv A outer s H E) ⟨.cl, false, []⟩ (shs 2) c' (defBody s_l_pick) (t_l_pick sp_l_draw) :=
  ⟨[.sh, .sh], (sm_one (sm_ret (em_ix (PEm.ow (em_var 1)) (PEm.ow (em_call F_l_draw (hr.mono (by decide)) T.m_l_draw T.f_l_draw.kp T.b_l_draw .nil (fun _ => Rps.nil) (am_consC (em_var 0) (am_consC (em_callB call_lenA lift_len (by rfl) T.z_len PySem.boot_len (am_cons (PEm.ow (em_var 1)) am_nil)) am_nil)))) (fun _ _ => rfl))))⟩
def t_l_like (sp_l_like : PM.Spec) : TSm :=
  (sSeq (sIf (mTB (mOp1 (oIsi "tuple") (mVar 1))) (sRet (mAndV (mOp1 (oIsi "tuple") (mVar 0)) (mAndV (mOp oEq (mB oLen (mCons (mVar 0) mNil)) (mB oLen (mCons (mVar 1) mNil))) (mB oAll (mCons (mLc (mZip (mVar 0) (mVar 1)) [2, 3] (gmT 2 (gmCons (gmN 2) (gmCons (gmN 3) gmNil))) mYes (mCall sp_l_like [] (mCons (mVar 2) (mCons (mVar 3) mNil)))) mNil))))) sNext) (sSeq (sIf (mTB (mOp oIsN (mVar 1) (mC (.non)))) (sRet (mOp oIsN (mVar 0) (mC (.non)))) sNext) (sSeq (sIf (mTB (mOp1 (oIsi "bool") (mVar 1))) (sRet (mIf (mTB (mVar 1)) (mOp oIsB (mVar 0) (mC (.bl true))) (mOp oIsB (mVar 0) (mC (.bl false))))) sNext) (sSeq (sIf (mTB (mOp1 (oIsi "int") (mVar 1))) (sRet (mAndV (mOp1 (oIsi "int") (mVar 0)) (mAndV (mOp1 oNot (mOp1 (oIsi "bool") (mVar 0))) (mOp oEq (mVar 0) (mVar 1))))) sNext) (sRet (mAndV (mOp1 (oIsi "str") (mVar 0)) (mAndV (mOp1 (oIsi "str") (mVar 1)) (mOp oEq (mVar 0) (mVar 1)))))))))
theorem w_l_like (T : Tx K mg) {kr : Nat} (sp_l_like : PM.Spec)
    (F_l_like : FnOk P w K mg base CX0 kr T.a_l_like T.d_l_like p_l_like (spM K .cl sp_l_like)) (hk : 0 ≤ kr) (cdv : Value) (A : Around) (outer : List PySem.Env) (s : Shared) (H : Hp) (E : XK)
    (hr : Room kr (A.deeper (PyProof.Rows.envOfC "_law_like" (defScope s_l_like) s.heap.objs.size T.a_l_like cdv))) :
    ∃ c', PSsm (bodyX P w K mg base n_l_like "_law_like" s_l_like T.a_l_like cdv A outer s H E) ⟨.cl, false, []⟩ (shs 4) c' (defBody s_l_like) (t_l_like sp_l_like) :=
  ⟨[.sh, .sh, .sh, .sh], (sm_cons (sm_if (c' := [.sh, .sh, .sh, .sh]) (tm_val (PEm.ow (em_isi "tuple" (PEm.ow (em_var 1)) (by rfl) T.z_isinstance (by rfl) T.z_tuple PyProof.Rows.boot_tuple))) (sm_one (sm_ret (em_and (PEm.ow (em_isi "tuple" (PEm.ow (em_var 0)) (by rfl) T.z_isinstance (by rfl) T.z_tuple PyProof.Rows.boot_tuple)) (em_and (PEm.ow (em_cmp (op_eqD hr.units) lift_eq (PEm.ow (em_callB call_lenA lift_len (by rfl) T.z_len PySem.boot_len (am_cons (PEm.ow (em_var 0)) am_nil))) (PEm.ow (em_callB call_lenA lift_len (by rfl) T.z_len PySem.boot_len (am_cons (PEm.ow (em_var 1)) am_nil))) (nomark _))) (em_one (em_callB (cr_all rfl) lift_all (by rfl) T.z_all PyProof.Rows.boot_all (am_cons (PEm.ow (em_lc (own := [("one", 2), ("other", 3)]) rfl S_l_like.nd (im_zip T.z_zip (em_var 0) (em_var 1)) (blkOk_by (N := n_l_like) (sc := defScope s_l_like) (by decide +kernel)) (fun _ _ _ _ _ => (gm_tup rfl (gsm_cons (gm_name 2 S_l_like.nd) (gsm_cons (gm_name 3 S_l_like.nd) gsm_nil)))) (fun _ _ _ _ _ => tsm_nil) (fun _ _ _ _ _ => (em_call F_l_like hr T.m_l_like T.f_l_like.kp T.b_l_like .nil (fun _ => Rps.nil) (am_consC (em_var 2) (am_consC (em_var 3) am_nil)))))) am_nil))))))) sm_nil)
    (sm_cons (sm_if (c' := [.sh, .sh, .sh, .sh]) (tm_cmp op_isN lift_isN (PEm.ow (em_var 1)) (PEm.ow em_non) (nomark _)) (sm_one (sm_ret (em_cmp op_isN lift_isN (PEm.ow (em_var 0)) (PEm.ow em_non) (nomark _)))) sm_nil)
    (sm_cons (sm_if (c' := [.sh, .sh, .sh, .sh]) (tm_val (PEm.ow (em_isi "bool" (PEm.ow (em_var 1)) (by rfl) T.z_isinstance (by rfl) T.z_bool PyProof.Rows.boot_bool))) (sm_one (sm_ret (em_if (tm_val (PEm.ow (em_var 1))) (em_cmp op_isBl lift_isB (PEm.ow (em_var 0)) (PEm.ow em_bl) (nomark _)) (em_cmp op_isBl lift_isB (PEm.ow (em_var 0)) (PEm.ow em_bl) (nomark _))))) sm_nil)
    (sm_cons (sm_if (c' := [.sh, .sh, .sh, .sh]) (tm_val (PEm.ow (em_isi "int" (PEm.ow (em_var 1)) (by rfl) T.z_isinstance (by rfl) T.z_int PyProof.Rows.boot_int))) (sm_one (sm_ret (em_and (PEm.ow (em_isi "int" (PEm.ow (em_var 0)) (by rfl) T.z_isinstance (by rfl) T.z_int PyProof.Rows.boot_int)) (em_and (PEm.ow (em_not (PEm.ow (em_isi "bool" (PEm.ow (em_var 0)) (by rfl) T.z_isinstance (by rfl) T.z_bool PyProof.Rows.boot_bool)))) (em_one (em_cmp (op_eqD hr.units) lift_eq (PEm.ow (em_var 0)) (PEm.ow (em_var 1)) (nomark _))))))) sm_nil)
    (sm_one (sm_ret (em_and (PEm.ow (em_isi "str" (PEm.ow (em_var 0)) (by rfl) T.z_isinstance (by rfl) T.z_str PyProof.Rows.boot_str)) (em_and (PEm.ow (em_isi "str" (PEm.ow (em_var 1)) (by rfl) T.z_isinstance (by rfl) T.z_str PyProof.Rows.boot_str)) (em_one (em_cmp (op_eqD hr.units) lift_eq (PEm.ow (em_var 0)) (PEm.ow (em_var 1)) (nomark _)))))))))))⟩
def t_l_some (sp_l_draw : PM.Spec) : TSm :=
  (sSeq (sPar [4, 5] (mCons (mLc (mRng1 (mB oLen (mCons (mVar 1) mNil))) [6] (gmN 6) mYes (mVar 6)) (mCons (mLst mNil) mNil))) (sSeq (sFor (mRng1 (mVar 2)) (gmN 3) (sAppPop 5 4 (mCall sp_l_draw [] (mCons (mVar 0) (mCons (mB oLen (mCons (mVarO 4) mNil)) mNil))))) (sRet (mB oTuple (mCons (mLc (mItems (mB oSorted (mCons (mVarO 5) mNil))) [6] (gmN 6) mYes (mOp oIx (mVar 1) (mVar 6))) mNil)))))
theorem w_l_some (T : Tx K mg) (sp_l_draw : PM.Spec)
    (F_l_draw : FnOk P w K mg base CX0 1 T.a_l_draw T.d_l_draw p_l_draw (spM K .cl sp_l_draw)) (cdv : Value) (A : Around) (outer : List PySem.Env) (s : Shared) (H : Hp) (E : XK)
    (hr : Room 1 (A.deeper (PyProof.Rows.envOfC "_law_some" (defScope s_l_some) s.heap.objs.size T.a_l_some cdv))) :
    ∃ c', PSsm (bodyX P w K mg base n_l_some "_law_some" s_l_some T.a_l_some cdv A outer s H E) ⟨.cl, false, []⟩ (shs 7) c' (defBody s_l_some) (t_l_some sp_l_draw) :=
  ⟨[.sh, .sh, .sh, .sh, .sh, .sh, .sh], (sm_cons (sm_par [4, 5] rfl S_l_some.nd (xm_fr (em_lc (own := [("place", 6)]) rfl S_l_some.nd (im_rng1 T.z_range (PEm.ow (em_callB call_lenA lift_len (by rfl) T.z_len PySem.boot_len (am_cons (PEm.ow (em_var 1)) am_nil)))) (blkOk_by (N := n_l_some) (sc := defScope s_l_some) (by decide +kernel)) (fun _ _ _ _ _ => (gm_name 6 S_l_some.nd)) (fun _ _ _ _ _ => tsm_nil) (fun _ _ _ _ _ => (em_var 6))) (xm_fr (em_lst am_nil) xm_nil)))
    (sm_cons (sm_for (c := [.sh, .sh, .sh, .sh, .ow, .ow, .sh]) .never rfl (im_rng1 T.z_range (PEm.ow (em_var 2))) (gm_name 3 S_l_some.nd) (sm_one (sm_appPop 5 4 (by decide) (PEm.ow (em_call F_l_draw (hr.mono (by decide)) T.m_l_draw T.f_l_draw.kp T.b_l_draw .nil (fun _ => Rps.nil) (am_consC (em_var 0) (am_consC (em_callB call_lenA lift_len (by rfl) T.z_len PySem.boot_len (am_cons (em_varO 4) am_nil)) am_nil)))))) (fun _ e => by cases e))
    (sm_one (sm_ret (em_callTy call_tuple_of lift_tuple (by rfl) T.z_tuple PyProof.Rows.boot_tuple (am_cons (PEm.ow (em_lc (own := [("place", 6)]) rfl S_l_some.nd (im_seq (PEm.cl (em_callB (call_sortedA rfl) lift_sorted (by rfl) T.z_sorted PyProof.Rows.boot_sorted (am_cons (em_varO 5) am_nil)))) (blkOk_by (N := n_l_some) (sc := defScope s_l_some) (by decide +kernel)) (fun _ _ _ _ _ => (gm_name 6 S_l_some.nd)) (fun _ _ _ _ _ => tsm_nil) (fun _ _ _ _ _ => (em_ix (PEm.ow (em_var 1)) (PEm.ow (em_var 6)) (fun _ _ => rfl))))) am_nil))))))⟩
def t_l_spots : TSm :=
  (sSeq (sSet 1 (mLst mNil)) (sSeq (sFor (mRng1 (mOp oAdd (mVar 0) (mC (.int 1)))) (gmN 2) (sSet 1 (mOp oAdd (mVar 1) (mLc (mRng2 (mVar 2) (mOp oAdd (mVar 0) (mC (.int 1)))) [3] (gmN 3) mYes (mTup (mCons (mVar 2) (mCons (mVar 3) mNil))))))) (sRet (mVar 1))))
theorem w_l_spots (T : Tx K mg) (cdv : Value) (A : Around) (outer : List PySem.Env) (s : Shared) (H : Hp) (E : XK)
    (hr : Room 0 (A.deeper (PyProof.Rows.envOfC "_law_spots" (defScope s_l_spots) s.heap.objs.size T.a_l_spots cdv))) :
    ∃ c', PSsm (bodyX P w K mg base n_l_spots "_law_spots" s_l_spots T.a_l_spots cdv A outer s H E) ⟨.cl, false, []⟩ (shs 4) c' (defBody s_l_spots) (t_l_spots) :=
  ⟨[.sh, .sh, .sh, .sh], (sm_cons (sm_set 1 S_l_spots.nd (PEm.cl (em_lst am_nil)))
    (sm_cons (sm_for (c := [.sh, .sh, .sh, .sh]) .never rfl (im_rng1 T.z_range (PEm.ow (em_op op_plus lift_plus (PEm.ow (em_var 0)) (PEm.ow em_int)))) (gm_name 2 S_l_spots.nd) (sm_one (sm_set 1 S_l_spots.nd (em_op op_plus lift_plus (PEm.ow (em_var 1)) (PEm.ow (em_lc (own := [("j", 3)]) rfl S_l_spots.nd (im_rng2 T.z_range (PEm.ow (em_var 2)) (PEm.ow (em_op op_plus lift_plus (PEm.ow (em_var 0)) (PEm.ow em_int)))) (blkOk_by (N := n_l_spots) (sc := defScope s_l_spots) (by decide +kernel)) (fun _ _ _ _ _ => (gm_name 3 S_l_spots.nd)) (fun _ _ _ _ _ => tsm_nil) (fun _ _ _ _ _ => (em_tup (am_consC (em_var 2) (am_consC (em_var 3) am_nil))))))))) (fun _ e => by cases e))
    (sm_one (sm_ret (em_var 1)))))⟩
def t_l_row_forms (sp_l_spots : PM.Spec) : TSm :=
  (sSeq (sPar [5, 6] (mCons (mLst mNil) (mCons (mOp oAdd (mVar 2) (mC (.int 1))) mNil))) (sSeq (sSet 3 (mLst (mCons (mC (.int 1)) (mCons (mOp oMod (mVar 6) (mVar 0)) (mCons (mOp oMod (mOp oMul (mVar 6) (mVar 6)) (mVar 0)) mNil))))) (sSeq (sFor (mRng1 (mOp oAdd (mVar 1) (mC (.int 1)))) (gmN 4) (sSeq (sSet 7 (mLst mNil)) (sSeq (sFor (mItems (mCall sp_l_spots [] (mCons (mVar 1) mNil))) (gmT 2 (gmCons (gmN 8) (gmCons (gmN 9) gmNil))) (sSeq (sSet 10 (mIf (mTB (mOp oEq (mVar 9) (mVar 4))) (mOp oIx (mVar 3) (mVar 8)) (mC (.int 0)))) (sApp 7 (mOp oMod (mOp oAdd (mVar 10) (mIf (mAnd (mTB (mOp oEq (mVar 8) (mVar 4))) (mTB (mOp oNe (mVar 8) (mVar 9)))) (mOp oIx (mVar 3) (mVar 9)) (mC (.int 0)))) (mVar 0))))) (sApp 5 (mVar 7))))) (sRet (mVar 5)))))
theorem w_l_row_forms (T : Tx K mg) (sp_l_spots : PM.Spec)
    (F_l_spots : FnOk P w K mg base CX0 1 T.a_l_spots T.d_l_spots p_l_spots (spM K .cl sp_l_spots)) (cdv : Value) (A : Around) (outer : List PySem.Env) (s : Shared) (H : Hp) (E : XK)
    (hr : Room 1 (A.deeper (PyProof.Rows.envOfC "_law_row_forms" (defScope s_l_row_forms) s.heap.objs.size T.a_l_row_forms cdv))) :
    ∃ c', PSsm (bodyX P w K mg base n_l_row_forms "_law_row_forms" s_l_row_forms T.a_l_row_forms cdv A outer s H E) ⟨.cl, false, []⟩ (shs 11) c' (defBody s_l_row_forms) (t_l_row_forms sp_l_spots) :=
  ⟨[.sh, .sh, .sh, .sh, .sh, .sh, .sh, .sh, .sh, .sh, .sh], (sm_cons (sm_par [5, 6] rfl S_l_row_forms.nd (xm_fr (em_lst am_nil) (xm_cl (em_op op_plus lift_plus (PEm.ow (em_var 2)) (PEm.ow em_int)) xm_nil)))
    (sm_cons (sm_set 3 S_l_row_forms.nd (PEm.cl (em_lst (am_consC em_int (am_consC (em_op op_mod lift_mod (PEm.ow (em_var 6)) (PEm.ow (em_var 0))) (am_consC (em_op op_mod lift_mod (PEm.ow (em_op op_mul lift_mul (PEm.ow (em_var 6)) (PEm.ow (em_var 6)))) (PEm.ow (em_var 0))) am_nil))))))
    (sm_cons (sm_for (c := [.sh, .sh, .sh, .sh, .sh, .ow, .sh, .sh, .sh, .sh, .sh]) .never rfl (im_rng1 T.z_range (PEm.ow (em_op op_plus lift_plus (PEm.ow (em_var 1)) (PEm.ow em_int)))) (gm_name 4 S_l_row_forms.nd) (sm_cons (sm_setF 7 S_l_row_forms.nd (em_lst am_nil))
    (sm_cons (sm_for (c := [.sh, .sh, .sh, .sh, .sh, .ow, .sh, .ow, .sh, .sh, .sh]) .never rfl (im_seq (em_call F_l_spots (hr.mono (by decide)) T.m_l_spots T.f_l_spots.kp T.b_l_spots .nil (fun _ => Rps.nil) (am_consC (em_var 1) am_nil))) (gm_tup rfl (gsm_cons (gm_name 8 S_l_row_forms.nd) (gsm_cons (gm_name 9 S_l_row_forms.nd) gsm_nil))) (sm_cons (sm_set 10 S_l_row_forms.nd (em_if (tm_cmp (op_eqD hr.units) lift_eq (PEm.ow (em_var 9)) (PEm.ow (em_var 4)) (nomark _)) (em_ix (PEm.ow (em_var 3)) (PEm.ow (em_var 8)) (fun _ _ => rfl)) em_int))
    (sm_one (sm_app 7 (em_op op_mod lift_mod (PEm.ow (em_op op_plus lift_plus (PEm.ow (em_var 10)) (PEm.ow (em_if (PWm.pt (wm_and (tm_cmp (op_eqD hr.units) lift_eq (PEm.ow (em_var 8)) (PEm.ow (em_var 4)) (nomark _)) (wm_and1 (tm_cmp (op_neD hr.units) lift_ne (PEm.ow (em_var 8)) (PEm.ow (em_var 9)) (nomark _))))) (em_ix (PEm.ow (em_var 3)) (PEm.ow (em_var 9)) (fun _ _ => rfl)) em_int)))) (PEm.ow (em_var 0)))))) (fun _ e => by cases e))
    (sm_one (sm_pre1 (c := [.sh, .sh, .sh, .sh, .sh, .ow, .sh, .ow, .sh, .sh, .sh]) (c1 := [.sh, .sh, .sh, .sh, .sh, .ow, .sh, .sh, .sh, .sh, .sh]) (by decide) (sm_app 5 (em_var 7)))))) (fun _ e => by cases e))
    (sm_one (sm_retO 5)))))⟩
def t_l_is_spanned : TSm :=
  (sSeq (sPar [4, 5] (mCons (mLc (mItems (mVar 1)) [10] (gmN 10) mYes (mLc (mItems (mVar 10)) [13] (gmN 13) mYes (mVar 13))) (mCons (mB oLen (mCons (mVar 2) mNil)) mNil))) (sSeq (sFor (mRng1 (mVar 5)) (gmN 3) (sSeq (sSet 6 (mLc (mRng1 (mB oLen (mCons (mVarO 4) mNil))) [12] (gmN 12) (mTB (mOp oNe (mOp oIx (mOp oIx (mVarO 4) (mVar 12)) (mVar 3)) (mC (.int 0)))) (mVar 12))) (sSeq (sIf (mTB (mOp oEq (mVarO 6) (mLst mNil))) sCont sNext) (sSeq (sPopAt 7 4 (mOp oIx (mVarO 6) (mC (.int 0)))) (sSeq (sSet 8 (mOp oIx (mLc (mRng2 (mC (.int 1)) (mVar 0)) [13] (gmN 13) (mTB (mOp oEq (mOp oMod (mB oInt (mCons (mOp oMul (mVar 13) (mOp oIx (mVar 7) (mVar 3))) mNil)) (mVar 0)) (mC (.int 1)))) (mVar 13)) (mC (.int 0)))) (sSeq (sSet 9 (mLst mNil)) (sSeq (sFor (mOwn 4) (gmN 10) (sSeq (sSet 11 (mOp oMod (mOp oMul (mOp oIx (mVar 10) (mVar 3)) (mVar 8)) (mVar 0))) (sApp 9 (mLc (mRng1 (mVar 5)) [12] (gmN 12) mYes (mOp oMod (mB oInt (mCons (mOp oSub (mOp oIx (mVar 10) (mVar 12)) (mOp oMul (mVar 11) (mOp oIx (mVar 7) (mVar 12)))) mNil)) (mVar 0)))))) (sSeq (sSet 11 (mOp oMod (mOp oMul (mOp oIx (mVar 2) (mVar 3)) (mVar 8)) (mVar 0))) (sMov 2 4 9 (mLc (mRng1 (mVar 5)) [12] (gmN 12) mYes (mOp oMod (mB oInt (mCons (mOp oSub (mOp oIx (mVar 2) (mVar 12)) (mOp oMul (mVar 11) (mOp oIx (mVar 7) (mVar 12)))) mNil)) (mVar 0)))))))))))) (sRet (mB oAll (mCons (mLc (mItems (mVar 2)) [13] (gmN 13) mYes (mOp oEq (mVar 13) (mC (.int 0)))) mNil)))))
theorem w_l_is_spanned (T : Tx K mg) (cdv : Value) (A : Around) (outer : List PySem.Env) (s : Shared) (H : Hp) (E : XK)
    (hr : Room 0 (A.deeper (PyProof.Rows.envOfC "_law_is_spanned" (defScope s_l_is_spanned) s.heap.objs.size T.a_l_is_spanned cdv))) :
    ∃ c', PSsm (bodyX P w K mg base n_l_is_spanned "_law_is_spanned" s_l_is_spanned T.a_l_is_spanned cdv A outer s H E) ⟨.cl, false, []⟩ (shs 14) c' (defBody s_l_is_spanned) (t_l_is_spanned) :=
  ⟨[.sh, .sh, .sh, .sh, .sh, .sh, .sh, .sh, .sh, .sh, .sh, .sh, .sh, .sh], (sm_cons (sm_parG [4, 5] rfl (pgs_n S_l_is_spanned.nd (pgs_n S_l_is_spanned.nd pgs_n0)) (xm_fr (em_lc (own := [("row", 10)]) rfl S_l_is_spanned.nd (im_seq (em_var 1)) (blkOk_by (N := n_l_is_spanned) (sc := defScope s_l_is_spanned) (by decide +kernel)) (fun _ _ _ _ _ => (gm_name 10 S_l_is_spanned.nd)) (fun _ _ _ _ _ => tsm_nil) (fun _ _ _ _ _ => (PEm.cl (em_lc (own := [("one", 13)]) rfl S_l_is_spanned.nd (im_seq (em_var 10)) (blkOk_nest (N := n_l_is_spanned) (by decide +kernel)) (fun _ _ _ _ _ => (gm_name 13 S_l_is_spanned.nd)) (fun _ _ _ _ _ => tsm_nil) (fun _ _ _ _ _ => (em_var 13)))))) (xm_cl (em_callB call_lenA lift_len (by rfl) T.z_len PySem.boot_len (am_cons (PEm.ow (em_var 2)) am_nil)) xm_nil)))
    (sm_cons (sm_for (c := [.sh, .sh, .sh, .sh, .ow, .sh, .sh, .sh, .sh, .sh, .sh, .sh, .sh, .sh]) .never rfl (im_rng1 T.z_range (PEm.ow (em_var 5))) (gm_name 3 S_l_is_spanned.nd) (sm_post (by decide) (sm_cons (sm_setLc 6 (hsw := sw_true rfl rfl rfl (by decide +kernel)) (own := [("place", 12)]) rfl S_l_is_spanned.nd (im_rng1 T.z_range (PEm.ow (em_callB call_lenA lift_len (by rfl) T.z_len PySem.boot_len (am_cons (em_varO 4) am_nil)))) (blkOk_by (N := n_l_is_spanned) (sc := defScope s_l_is_spanned) (by decide +kernel)) (fun _ _ _ _ _ => (gm_name 12 S_l_is_spanned.nd)) (fun _ _ _ _ _ => (tsm_one (tm_cmp (op_neD hr.units) lift_ne (PEm.ow (em_ix (PEm.ow (em_ix (em_varO 4) (PEm.ow (em_var 12)) (fun _ _ => rfl))) (PEm.ow (em_var 3)) (fun _ _ => rfl))) (PEm.ow em_int) (nomark _)))) (fun _ _ _ _ _ => (em_var 12)))
    (sm_cons (sm_if (c' := [.sh, .sh, .sh, .sh, .ow, .sh, .ow, .sh, .sh, .sh, .sh, .sh, .sh, .sh]) (tm_cmp (op_eqD hr.units) lift_eq (em_varO 6) (PEm.ow (em_lst am_nil)) (nomark _)) (sm_one (sm_cont (by decide))) sm_nil)
    (sm_cons (sm_popAt 7 4 S_l_is_spanned.nd (PEm.ow (em_ix (em_varO 6) (PEm.ow em_int) (fun _ _ => rfl))))
    (sm_cons (sm_set 8 S_l_is_spanned.nd (em_ix (PEm.ow (em_lc (own := [("one", 13)]) rfl S_l_is_spanned.nd (im_rng2 T.z_range (PEm.ow em_int) (PEm.ow (em_var 0))) (blkOk_by (N := n_l_is_spanned) (sc := defScope s_l_is_spanned) (by decide +kernel)) (fun _ _ _ _ _ => (gm_name 13 S_l_is_spanned.nd)) (fun _ _ _ _ _ => (tsm_one (tm_cmp (op_eqD hr.units) lift_eq (PEm.ow (em_op op_mod lift_mod (PEm.ow (em_callTy call_int1 lift_int (by rfl) T.z_int PyProof.Rows.boot_int (am_cons (PEm.ow (em_op op_mul lift_mul (PEm.ow (em_var 13)) (PEm.ow (em_ix (PEm.ow (em_var 7)) (PEm.ow (em_var 3)) (fun _ _ => rfl))))) am_nil))) (PEm.ow (em_var 0)))) (PEm.ow em_int) (nomark _)))) (fun _ _ _ _ _ => (em_var 13)))) (PEm.ow em_int) (fun _ _ => rfl)))
    (sm_cons (sm_setF 9 S_l_is_spanned.nd (em_lst am_nil))
    (sm_cons (sm_for (c := [.sh, .sh, .sh, .sh, .ow, .sh, .ow, .sh, .sh, .ow, .sh, .sh, .sh, .sh]) .never rfl (im_ownW 4) (gm_name 10 S_l_is_spanned.nd) (sm_cons (sm_set 11 S_l_is_spanned.nd (em_op op_mod lift_mod (PEm.ow (em_op op_mul lift_mul (PEm.ow (em_ix (PEm.ow (em_var 10)) (PEm.ow (em_var 3)) (fun _ _ => rfl))) (PEm.ow (em_var 8)))) (PEm.ow (em_var 0))))
    (sm_one (sm_app 9 (PEm.cl (em_lc (own := [("place", 12)]) rfl S_l_is_spanned.nd (im_rng1 T.z_range (PEm.ow (em_var 5))) (blkOk_by (N := n_l_is_spanned) (sc := defScope s_l_is_spanned) (by decide +kernel)) (fun _ _ _ _ _ => (gm_name 12 S_l_is_spanned.nd)) (fun _ _ _ _ _ => tsm_nil) (fun _ _ _ _ _ => (em_op op_mod lift_mod (PEm.ow (em_callTy call_int1 lift_int (by rfl) T.z_int PyProof.Rows.boot_int (am_cons (PEm.ow (em_op op_sub lift_sub (PEm.ow (em_ix (PEm.ow (em_var 10)) (PEm.ow (em_var 12)) (fun _ _ => rfl))) (PEm.ow (em_op op_mul lift_mul (PEm.ow (em_var 11)) (PEm.ow (em_ix (PEm.ow (em_var 7)) (PEm.ow (em_var 12)) (fun _ _ => rfl))))))) am_nil))) (PEm.ow (em_var 0))))))))) (fun _ e => by cases e; rfl))
    (sm_cons (sm_set 11 S_l_is_spanned.nd (em_op op_mod lift_mod (PEm.ow (em_op op_mul lift_mul (PEm.ow (em_ix (PEm.ow (em_var 2)) (PEm.ow (em_var 3)) (fun _ _ => rfl))) (PEm.ow (em_var 8)))) (PEm.ow (em_var 0))))
    (sm_one (sm_movG 2 4 9 rfl (pgs_n S_l_is_spanned.nd (pgs_n S_l_is_spanned.nd pgs_n0)) (PEm.cl (em_lc (own := [("place", 12)]) rfl S_l_is_spanned.nd (im_rng1 T.z_range (PEm.ow (em_var 5))) (blkOk_by (N := n_l_is_spanned) (sc := defScope s_l_is_spanned) (by decide +kernel)) (fun _ _ _ _ _ => (gm_name 12 S_l_is_spanned.nd)) (fun _ _ _ _ _ => tsm_nil) (fun _ _ _ _ _ => (em_op op_mod lift_mod (PEm.ow (em_callTy call_int1 lift_int (by rfl) T.z_int PyProof.Rows.boot_int (am_cons (PEm.ow (em_op op_sub lift_sub (PEm.ow (em_ix (PEm.ow (em_var 2)) (PEm.ow (em_var 12)) (fun _ _ => rfl))) (PEm.ow (em_op op_mul lift_mul (PEm.ow (em_var 11)) (PEm.ow (em_ix (PEm.ow (em_var 7)) (PEm.ow (em_var 12)) (fun _ _ => rfl))))))) am_nil))) (PEm.ow (em_var 0)))))))))))))))) (fun _ e => by cases e))
    (sm_one (sm_ret (em_callB (cr_all rfl) lift_all (by rfl) T.z_all PyProof.Rows.boot_all (am_cons (PEm.ow (em_lc (own := [("one", 13)]) rfl S_l_is_spanned.nd (im_seq (em_var 2)) (blkOk_by (N := n_l_is_spanned) (sc := defScope s_l_is_spanned) (by decide +kernel)) (fun _ _ _ _ _ => (gm_name 13 S_l_is_spanned.nd)) (fun _ _ _ _ _ => tsm_nil) (fun _ _ _ _ _ => (em_cmp (op_eqD hr.units) lift_eq (PEm.ow (em_var 13)) (PEm.ow em_int) (nomark _))))) am_nil))))))⟩
def t_l_lots : TSm :=
  (sSeq (sSet 1 (mLst (mCons (mTup mNil) mNil))) (sSeq (sFor (mItems (mVar 0)) (gmN 2) (sSet 1 (mOp oAdd (mVar 1) (mLc (mItems (mVar 1)) [3] (gmN 3) mYes (mOp oAdd (mVar 3) (mTup (mCons (mVar 2) mNil))))))) (sRet (mVar 1))))
theorem w_l_lots (T : Tx K mg) (cdv : Value) (A : Around) (outer : List PySem.Env) (s : Shared) (H : Hp) (E : XK)
    (hr : Room 0 (A.deeper (PyProof.Rows.envOfC "_law_lots" (defScope s_l_lots) s.heap.objs.size T.a_l_lots cdv))) :
    ∃ c', PSsm (bodyX P w K mg base n_l_lots "_law_lots" s_l_lots T.a_l_lots cdv A outer s H E) ⟨.cl, false, []⟩ (shs 4) c' (defBody s_l_lots) (t_l_lots) :=
  ⟨[.sh, .sh, .sh, .sh], (sm_cons (sm_set 1 S_l_lots.nd (PEm.cl (em_lst (am_consC (em_tup am_nil) am_nil))))
    (sm_cons (sm_for (c := [.sh, .sh, .sh, .sh]) .never rfl (im_seq (em_var 0)) (gm_name 2 S_l_lots.nd) (sm_one (sm_set 1 S_l_lots.nd (em_op op_plus lift_plus (PEm.ow (em_var 1)) (PEm.ow (em_lc (own := [("one", 3)]) rfl S_l_lots.nd (im_seq (em_var 1)) (blkOk_by (N := n_l_lots) (sc := defScope s_l_lots) (by decide +kernel)) (fun _ _ _ _ _ => (gm_name 3 S_l_lots.nd)) (fun _ _ _ _ _ => tsm_nil) (fun _ _ _ _ _ => (em_op op_plus lift_plus (PEm.ow (em_var 3)) (PEm.ow (em_tup (am_consC (em_var 2) am_nil)))))))))) (fun _ e => by cases e))
    (sm_one (sm_ret (em_var 1)))))⟩
def t_l_is_told (sp_l_spots : PM.Spec) (sp_l_is_spanned : PM.Spec) (sp_l_row_forms : PM.Spec) : TSm :=
  (sSeq (sSet 4 (mLc (mItems (mCall sp_l_spots [] (mCons (mVar 1) mNil))) [8] (gmN 8) mYes (mB oInt (mCons (mOp oEq (mVar 8) (mTup (mCons (mC (.int 0)) (mCons (mC (.int 0)) mNil)))) mNil)))) (sSeq (sFor (mItems (mVar 2)) (gmN 5) (sSeq (sSet 6 (mLst mNil)) (sSeq (sFor (mItems (mVar 5)) (gmN 7) (sIf (mTB (mOp (oIn true) (mVar 7) (mVar 3))) (sSet 6 (mOp oAdd (mVar 6) (mCall sp_l_row_forms [] (mCons (mVar 0) (mCons (mVar 1) (mCons (mVar 7) mNil)))))) sNext)) (sIf (mNot (mTB (mCall sp_l_is_spanned [] (mCons (mVar 0) (mCons (mVar 6) (mCons (mVar 4) mNil)))))) (sRet (mC (.bl false))) sNext)))) (sRet (mC (.bl true)))))
theorem w_l_is_told (T : Tx K mg) (sp_l_spots : PM.Spec) (sp_l_is_spanned : PM.Spec) (sp_l_row_forms : PM.Spec)
    (F_l_spots : FnOk P w K mg base CX0 1 T.a_l_spots T.d_l_spots p_l_spots (spM K .cl sp_l_spots))
    (F_l_is_spanned : FnOk P w K mg base CX0 1 T.a_l_is_spanned T.d_l_is_spanned p_l_is_spanned (spM K .cl sp_l_is_spanned))
    (F_l_row_forms : FnOk P w K mg base CX0 2 T.a_l_row_forms T.d_l_row_forms p_l_row_forms (spM K .cl sp_l_row_forms)) (cdv : Value) (A : Around) (outer : List PySem.Env) (s : Shared) (H : Hp) (E : XK)
    (hr : Room 2 (A.deeper (PyProof.Rows.envOfC "_law_is_told" (defScope s_l_is_told) s.heap.objs.size T.a_l_is_told cdv))) :
    ∃ c', PSsm (bodyX P w K mg base n_l_is_told "_law_is_told" s_l_is_told T.a_l_is_told cdv A outer s H E) ⟨.cl, false, []⟩ (shs 9) c' (defBody s_l_is_told) (t_l_is_told sp_l_spots sp_l_is_spanned sp_l_row_forms) :=
  ⟨[.sh, .sh, .sh, .sh, .sh, .sh, .sh, .sh, .sh], (sm_cons (sm_setLc 4 (hsw := sw_true rfl rfl rfl (by decide +kernel)) (own := [("spot", 8)]) rfl S_l_is_told.nd (im_seq (em_call F_l_spots (hr.mono (by decide)) T.m_l_spots T.f_l_spots.kp T.b_l_spots .nil (fun _ => Rps.nil) (am_consC (em_var 1) am_nil))) (blkOk_by (N := n_l_is_told) (sc := defScope s_l_is_told) (by decide +kernel)) (fun _ _ _ _ _ => (gm_name 8 S_l_is_told.nd)) (fun _ _ _ _ _ => tsm_nil) (fun _ _ _ _ _ => (em_callTy call_int1 lift_int (by rfl) T.z_int PyProof.Rows.boot_int (am_cons (PEm.ow (em_cmp (op_eqD hr.units) lift_eq (PEm.ow (em_var 8)) (PEm.ow (em_tup (am_consC em_int (am_consC em_int am_nil)))) (nomark _))) am_nil))))
    (sm_cons (sm_pre1 (c := [.sh, .sh, .sh, .sh, .ow, .sh, .sh, .sh, .sh]) (c1 := [.sh, .sh, .sh, .sh, .sh, .sh, .sh, .sh, .sh]) (by decide) (sm_for (c := [.sh, .sh, .sh, .sh, .sh, .sh, .sh, .sh, .sh]) .never rfl (im_seq (em_var 2)) (gm_name 5 S_l_is_told.nd) (sm_cons (sm_set 6 S_l_is_told.nd (PEm.cl (em_lst am_nil)))
    (sm_cons (sm_for (c := [.sh, .sh, .sh, .sh, .sh, .sh, .sh, .sh, .sh]) .never rfl (im_seq (em_var 5)) (gm_name 7 S_l_is_told.nd) (sm_one (sm_if (c' := [.sh, .sh, .sh, .sh, .sh, .sh, .sh, .sh, .sh]) (tm_cmp op_notIn_seq lift_in (PEm.ow (em_var 7)) (PEm.ow (em_var 3)) (by with_unfolding_all rfl)) (sm_one (sm_set 6 S_l_is_told.nd (em_op op_plus lift_plus (PEm.ow (em_var 6)) (PEm.ow (em_call F_l_row_forms (hr.mono (by decide)) T.m_l_row_forms T.f_l_row_forms.kp T.b_l_row_forms .nil (fun _ => Rps.nil) (am_consC (em_var 0) (am_consC (em_var 1) (am_consC (em_var 7) am_nil)))))))) sm_nil)) (fun _ e => by cases e))
    (sm_one (sm_if (c' := [.sh, .sh, .sh, .sh, .sh, .sh, .sh, .sh, .sh]) (tm_not (tm_val (PEm.ow (em_call F_l_is_spanned (hr.mono (by decide)) T.m_l_is_spanned T.f_l_is_spanned.kp T.b_l_is_spanned .nil (fun _ => Rps.nil) (am_consC (em_var 0) (am_consC (em_var 6) (am_consC (em_var 4) am_nil))))))) (sm_one (sm_ret em_bl)) sm_nil)))) (fun _ e => by cases e)))
    (sm_one (sm_ret em_bl))))⟩
def t_law (ok_l_heap : List PV → Prop) (sp_l_some : PM.Spec) (sp_l_lots : PM.Spec) (sp_some_silence : PM.Spec) (sp_l_pick : PM.Spec) (sp_l_draw : PM.Spec) (sp_l_like : PM.Spec) (sp_l_is_told : PM.Spec) (sp_is_told_without : PM.Spec) (sp_silence_needed : PM.Spec) : TSm :=
  (sSeq (sSrc 1 ok_l_heap (mCons (mVar 0) mNil)) (sSeq (sPar [9, 10] (mCons (mCall sp_l_pick [] (mCons (mVar 1) (mCons (mLst (mCons (mC (.int 1)) (mCons (mC (.int 1)) (mCons (mC (.int 2)) mNil)))) mNil))) (mCons (mCall sp_l_pick [] (mCons (mVar 1) (mCons (mLst (mCons (mC (.int 11)) (mCons (mC (.int 13)) (mCons (mC (.int 29)) (mCons (mC (.int 31)) mNil))))) mNil))) mNil))) (sSeq (sSet 2 (mOp oAdd (mOp oAdd (mVar 9) (mC (.int 1))) (mCall sp_l_draw [] (mCons (mVar 1) (mCons (mOp oSub (mC (.int 6)) (mVar 9)) mNil))))) (sSeq (sSet 3 (mCall sp_l_some [] (mCons (mVar 1) (mCons (mLc (mRng1 (mIf (mTB (mOp oLt (mVar 10) (mC (.int 20)))) (mOp oSub (mVar 10) (mC (.int 1))) (mC (.int 24)))) [22] (gmN 22) mYes (mVar 22)) (mCons (mOp oAdd (mVar 2) (mC (.int 2))) mNil))))) (sSeq (sPar [11, 12, 13] (mCons (mCall sp_l_some [] (mCons (mVar 1) (mCons (mVar 3) (mCons (mVar 2) mNil)))) (mCons (mCall sp_l_some [] (mCons (mVar 1) (mCons (mVar 3) (mCons (mVar 2) mNil)))) (mCons (mCall sp_l_draw [] (mCons (mVar 1) (mCons (mC (.int 2)) mNil))) mNil)))) (sSeq (sPar [14, 15, 5, 16] (mCons (mIf (mTB (mOp oEq (mVar 13) (mC (.int 0)))) (mTup (mCons (mVar 12) (mCons (mVar 11) mNil))) (mTup (mCons (mVar 11) (mCons (mVar 12) (mCons (mVar 11) mNil))))) (mCons (mLst mNil) (mCons (mLst mNil) (mCons (mLst mNil) mNil))))) (sSeq (sFor (mItems (mCall sp_l_some [] (mCons (mVar 1) (mCons (mVar 12) (mCons (mOp oAdd (mVar 9) (mC (.int 1))) mNil))))) (gmN 4) (sSeq (sSet 17 (mB oMin2 (mCons (mVar 2) (mCons (mCall sp_l_pick [] (mCons (mVar 1) (mCons (mLst (mCons (mVar 9) (mCons (mOp oAdd (mVar 9) (mC (.int 1))) (mCons (mOp oAdd (mVar 9) (mC (.int 1))) (mCons (mOp oAdd (mVar 9) (mC (.int 2))) (mCons (mOp oAdd (mOp oMul (mC (.int 2)) (mVar 9)) (mC (.int 1))) (mCons (mVar 2) (mCons (mCall sp_l_draw [] (mCons (mVar 1) (mCons (mOp oAdd (mVar 2) (mC (.int 1))) mNil))) mNil)))))))) mNil))) mNil)))) (sSeq (sPar [20, 21] (mCons (mCall sp_l_some [] (mCons (mVar 1) (mCons (mVar 11) (mCons (mVar 17) mNil)))) (mCons (mCall sp_l_draw [] (mCons (mVar 1) (mCons (mC (.int 9)) mNil))) mNil))) (sSeq (sApp 15 (mTup (mCons (mVar 4) (mCons (mVar 21) mNil)))) (sSeq (sApp 16 (mVar 20)) (sSeq (sSet 5 (mOp oAdd (mVar 5) (mLc (mItems (mVar 20)) [22] (gmN 22) mYes (mTup (mCons (mVar 22) (mCons (mC (.str (PySem.Str.ofString "hold"))) (mCons (mVar 13) (mCons (mVar 4) (mCons (mVar 21) mNil))))))))) (sSeq (sSet 5 (mOp oAdd (mVar 5) (mLc (mItems (mCall sp_l_some [] (mCons (mVar 1) (mCons (mVar 12) (mCons (mC (.int 1)) mNil))))) [22] (gmN 22) mYes (mTup (mCons (mVar 22) (mCons (mC (.str (PySem.Str.ofString "hold"))) (mCons (mOp oSub (mC (.int 1)) (mVar 13)) (mCons (mVar 4) (mCons (mVar 21) mNil))))))))) (sSeq (sSet 5 (mOp oAdd (mVar 5) (mLc (mItems (mCall sp_l_some [] (mCons (mVar 1) (mCons (mVar 11) (mCons (mC (.int 1)) mNil))))) [22] (gmN 22) mYes (mTup (mCons (mVar 22) (mCons (mC (.str (PySem.Str.ofString "hold"))) (mCons (mVar 13) (mCons (mVar 4) (mCons (mOp oAdd (mVar 21) (mC (.int 1))) mNil))))))))) (sSet 5 (mOp oAdd (mVar 5) (mLc (mItems (mVar 3)) [22] (gmN 22) (mTB (mOp (oIn true) (mVar 22) (mVar 11))) (mTup (mCons (mVar 22) (mCons (mC (.str (PySem.Str.ofString "hold"))) (mCons (mVar 13) (mCons (mVar 4) (mCons (mVar 21) mNil))))))))))))))))) (sSeq (sSet 5 (mB oTuple (mCons (mCall sp_l_some [] (mCons (mVar 1) (mCons (mVar 5) (mCons (mB oLen (mCons (mVar 5) mNil)) mNil)))) mNil))) (sSeq (sPar [15, 18] (mCons (mB oTuple (mCons (mVarO 15) mNil)) (mCons (mC (.int 99)) mNil))) (sSeq (sFor (mItems (mCall sp_l_lots [] (mCons (mVar 11) mNil))) (gmN 6) (sSeq (sSet 19 (mB oAll (mCons (mLc (mOwn 16) [20] (gmN 20) mYes (mOp oGt (mB oLen (mCons (mLc (mItems (mVar 20)) [22] (gmN 22) (mTB (mOp (oIn true) (mVar 22) (mVar 6))) (mVar 22)) mNil)) (mVar 9))) mNil))) (sSeq (sIf (mNot (mTB (mCall sp_l_like [] (mCons (mCall sp_is_told_without [] (mCons (mVar 9) (mCons (mVar 14) (mCons (mVar 5) (mCons (mVar 13) (mCons (mVar 15) (mCons (mVar 6) mNil))))))) (mCons (mVar 19) mNil))))) (sRet (mC (.bl false))) sNext) (sIf (mNot (mTB (mVar 19))) (sSet 18 (mB oMin2 (mCons (mVar 18) (mCons (mB oLen (mCons (mVar 6) mNil)) mNil)))) sNext)))) (sSeq (sSet 7 (mCall sp_l_some [] (mCons (mVar 1) (mCons (mVar 11) (mCons (mCall sp_l_draw [] (mCons (mVar 1) (mCons (mOp oAdd (mVar 2) (mC (.int 1))) mNil))) mNil))))) (sSeq (sIf (mNot (mTB (mCall sp_l_like [] (mCons (mCall sp_is_told_without [] (mCons (mVar 9) (mCons (mVar 14) (mCons (mVar 5) (mCons (mVar 13) (mCons (mVar 15) (mCons (mVar 7) mNil))))))) (mCons (mCall sp_l_is_told [] (mCons (mVar 10) (mCons (mVar 9) (mCons (mVar 16) (mCons (mVar 7) mNil))))) mNil))))) (sRet (mC (.bl false))) sNext) (sSeq (sIf (mNot (mTB (mCall sp_l_like [] (mCons (mCall sp_silence_needed [] (mCons (mVar 9) (mCons (mVar 14) (mCons (mVar 5) (mCons (mVar 13) (mCons (mVar 15) mNil)))))) (mCons (mVar 18) mNil))))) (sRet (mC (.bl false))) sNext) (sSeq (sSet 8 (mCall sp_some_silence [] (mCons (mVar 9) (mCons (mVar 14) (mCons (mVar 5) (mCons (mVar 13) (mCons (mVar 15) mNil))))))) (sSeq (sIf (mOr (mNot (mTB (mOp1 (oIsi "tuple") (mVar 8)))) (mTB (mOp oNe (mB oLen (mCons (mVar 8) mNil)) (mVar 18)))) (sRet (mC (.bl false))) sNext) (sSeq (sIf (mNot (mTB (mCall sp_l_like [] (mCons (mVar 8) (mCons (mB oTuple (mCons (mLc (mItems (mVar 11)) [22] (gmN 22) (mTB (mOp (oIn false) (mVar 22) (mVar 8))) (mVar 22)) mNil)) mNil))))) (sRet (mC (.bl false))) sNext) (sRet (mOp1 oNot (mCall sp_l_is_told [] (mCons (mVar 10) (mCons (mVar 9) (mCons (mVar 16) (mCons (mVar 8) mNil)))))))))))))))))))))))
theorem w_law (T : Tx K mg) (ok_l_heap : List PV → Prop) (sp_l_some : PM.Spec) (sp_l_lots : PM.Spec) (sp_some_silence : PM.Spec) (sp_l_pick : PM.Spec) (sp_l_draw : PM.Spec) (sp_l_like : PM.Spec) (sp_l_is_told : PM.Spec) (sp_is_told_without : PM.Spec) (sp_silence_needed : PM.Spec)
    (F_l_heap : FnOk P w K mg base CX0 1 T.a_l_heap T.d_l_heap p_l_heap (spSrc K ok_l_heap))
    (F_l_some : FnOk P w K mg base CX0 2 T.a_l_some T.d_l_some p_l_some (spM K .cl sp_l_some))
    (F_l_lots : FnOk P w K mg base CX0 1 T.a_l_lots T.d_l_lots p_l_lots (spM K .cl sp_l_lots))
    (F_some_silence : FnOk P w K mg base CX0 4 T.a_some_silence T.d_some_silence p_some_silence (spM K .cl sp_some_silence))
    (F_l_pick : FnOk P w K mg base CX0 2 T.a_l_pick T.d_l_pick p_l_pick (spM K .cl sp_l_pick))
    (F_l_draw : FnOk P w K mg base CX0 1 T.a_l_draw T.d_l_draw p_l_draw (spM K .cl sp_l_draw))
    (F_l_like : FnOk P w K mg base CX0 3 T.a_l_like T.d_l_like p_l_like (spM K .cl sp_l_like))
    (F_l_is_told : FnOk P w K mg base CX0 3 T.a_l_is_told T.d_l_is_told p_l_is_told (spM K .cl sp_l_is_told))
    (F_is_told_without : FnOk P w K mg base CX0 3 T.a_is_told_without T.d_is_told_without p_is_told_without (spM K .cl sp_is_told_without))
    (F_silence_needed : FnOk P w K mg base CX0 3 T.a_silence_needed T.d_silence_needed p_silence_needed (spM K .cl sp_silence_needed)) (cdv : Value) (A : Around) (outer : List PySem.Env) (s : Shared) (H : Hp) (E : XK)
    (hr : Room 4 (A.deeper (PyProof.Rows.envOfC "law" (defScope s_law) s.heap.objs.size T.a_law cdv))) :
    ∃ c', PSsm (bodyX P w K mg base n_law "law" s_law T.a_law cdv A outer s H E) ⟨.cl, true, []⟩ (shs 23) c' (defBody s_law) (t_law ok_l_heap sp_l_some sp_l_lots sp_some_silence sp_l_pick sp_l_draw sp_l_like sp_l_is_told sp_is_told_without sp_silence_needed) :=
  ⟨[.sh, .sh, .sh, .sh, .sh, .sh, .sh, .sh, .sh, .sh, .sh, .sh, .sh, .sh, .sh, .sh, .sh, .sh, .sh, .sh, .sh, .sh, .sh], (sm_cons (sm_src 1 F_l_heap (hr.mono (by decide)) T.m_l_heap T.f_l_heap.kp T.b_l_heap rfl S_law.nd (am_consC (em_var 0) am_nil))
    (sm_cons (sm_parG [9, 10] rfl (pgs_n S_law.nd (pgs_n S_law.nd pgs_n0)) (xm_cl (em_call F_l_pick (hr.mono (by decide)) T.m_l_pick T.f_l_pick.kp T.b_l_pick .nil (fun _ => Rps.nil) (am_consC (em_var 1) (am_consC (PEm.cl (em_lst (am_consC em_int (am_consC em_int (am_consC em_int am_nil))))) am_nil))) (xm_cl (em_call F_l_pick (hr.mono (by decide)) T.m_l_pick T.f_l_pick.kp T.b_l_pick .nil (fun _ => Rps.nil) (am_consC (em_var 1) (am_consC (PEm.cl (em_lst (am_consC em_int (am_consC em_int (am_consC em_int (am_consC em_int am_nil)))))) am_nil))) xm_nil)))
    (sm_cons (sm_set 2 S_law.nd (em_op op_plus lift_plus (PEm.ow (em_op op_plus lift_plus (PEm.ow (em_var 9)) (PEm.ow em_int))) (PEm.ow (em_call F_l_draw (hr.mono (by decide)) T.m_l_draw T.f_l_draw.kp T.b_l_draw .nil (fun _ => Rps.nil) (am_consC (em_var 1) (am_consC (em_op op_sub lift_sub (PEm.ow em_int) (PEm.ow (em_var 9))) am_nil))))))
    (sm_cons (sm_set 3 S_law.nd (em_call F_l_some (hr.mono (by decide)) T.m_l_some T.f_l_some.kp T.b_l_some .nil (fun _ => Rps.nil) (am_consC (em_var 1) (am_consC (PEm.cl (em_lc (own := [("house", 22)]) rfl S_law.nd (im_rng1 T.z_range (PEm.ow (em_if (tm_cmp op_lt lift_lt (PEm.ow (em_var 10)) (PEm.ow em_int) (nomark _)) (em_op op_sub lift_sub (PEm.ow (em_var 10)) (PEm.ow em_int)) em_int))) (blkOk_by (N := n_law) (sc := defScope s_law) (by decide +kernel)) (fun _ _ _ _ _ => (gm_name 22 S_law.nd)) (fun _ _ _ _ _ => tsm_nil) (fun _ _ _ _ _ => (em_var 22)))) (am_consC (em_op op_plus lift_plus (PEm.ow (em_var 2)) (PEm.ow em_int)) am_nil)))))
    (sm_cons (sm_parG [11, 12, 13] rfl (pgs_n S_law.nd (pgs_n S_law.nd (pgs_n S_law.nd pgs_n0))) (xm_cl (em_call F_l_some (hr.mono (by decide)) T.m_l_some T.f_l_some.kp T.b_l_some .nil (fun _ => Rps.nil) (am_consC (em_var 1) (am_consC (em_var 3) (am_consC (em_var 2) am_nil)))) (xm_cl (em_call F_l_some (hr.mono (by decide)) T.m_l_some T.f_l_some.kp T.b_l_some .nil (fun _ => Rps.nil) (am_consC (em_var 1) (am_consC (em_var 3) (am_consC (em_var 2) am_nil)))) (xm_cl (em_call F_l_draw (hr.mono (by decide)) T.m_l_draw T.f_l_draw.kp T.b_l_draw .nil (fun _ => Rps.nil) (am_consC (em_var 1) (am_consC em_int am_nil))) xm_nil))))
    (sm_cons (sm_parG [14, 15, 5, 16] rfl (pgs_n S_law.nd (pgs_n S_law.nd (pgs_n S_law.nd (pgs_n S_law.nd pgs_n0)))) (xm_cl (em_if (tm_cmp (op_eqD hr.units) lift_eq (PEm.ow (em_var 13)) (PEm.ow em_int) (nomark _)) (em_tup (am_consC (em_var 12) (am_consC (em_var 11) am_nil))) (em_tup (am_consC (em_var 11) (am_consC (em_var 12) (am_consC (em_var 11) am_nil))))) (xm_fr (em_lst am_nil) (xm_cl (PEm.cl (em_lst am_nil)) (xm_fr (em_lst am_nil) xm_nil)))))
    (sm_cons (sm_for (c := [.sh, .sh, .sh, .sh, .sh, .sh, .sh, .sh, .sh, .sh, .sh, .sh, .sh, .sh, .sh, .ow, .ow, .sh, .sh, .sh, .sh, .sh, .sh]) .never rfl (im_seq (em_call F_l_some (hr.mono (by decide)) T.m_l_some T.f_l_some.kp T.b_l_some .nil (fun _ => Rps.nil) (am_consC (em_var 1) (am_consC (em_var 12) (am_consC (em_op op_plus lift_plus (PEm.ow (em_var 9)) (PEm.ow em_int)) am_nil))))) (gm_name 4 S_law.nd) (sm_cons (sm_set 17 S_law.nd (em_callB (call_min2 rfl) lift_min2 (by rfl) T.z_min PyProof.Rows.boot_min (am_cons (PEm.ow (em_var 2)) (am_cons (PEm.ow (em_call F_l_pick (hr.mono (by decide)) T.m_l_pick T.f_l_pick.kp T.b_l_pick .nil (fun _ => Rps.nil) (am_consC (em_var 1) (am_consC (PEm.cl (em_lst (am_consC (em_var 9) (am_consC (em_op op_plus lift_plus (PEm.ow (em_var 9)) (PEm.ow em_int)) (am_consC (em_op op_plus lift_plus (PEm.ow (em_var 9)) (PEm.ow em_int)) (am_consC (em_op op_plus lift_plus (PEm.ow (em_var 9)) (PEm.ow em_int)) (am_consC (em_op op_plus lift_plus (PEm.ow (em_op op_mul lift_mul (PEm.ow em_int) (PEm.ow (em_var 9)))) (PEm.ow em_int)) (am_consC (em_var 2) (am_consC (em_call F_l_draw (hr.mono (by decide)) T.m_l_draw T.f_l_draw.kp T.b_l_draw .nil (fun _ => Rps.nil) (am_consC (em_var 1) (am_consC (em_op op_plus lift_plus (PEm.ow (em_var 2)) (PEm.ow em_int)) am_nil))) am_nil))))))))) am_nil)))) am_nil))))
    (sm_cons (sm_parG [20, 21] rfl (pgs_n S_law.nd (pgs_n S_law.nd pgs_n0)) (xm_cl (em_call F_l_some (hr.mono (by decide)) T.m_l_some T.f_l_some.kp T.b_l_some .nil (fun _ => Rps.nil) (am_consC (em_var 1) (am_consC (em_var 11) (am_consC (em_var 17) am_nil)))) (xm_cl (em_call F_l_draw (hr.mono (by decide)) T.m_l_draw T.f_l_draw.kp T.b_l_draw .nil (fun _ => Rps.nil) (am_consC (em_var 1) (am_consC em_int am_nil))) xm_nil)))
    (sm_cons (sm_app 15 (em_tup (am_consC (em_var 4) (am_consC (em_var 21) am_nil))))
    (sm_cons (sm_app 16 (em_var 20))
    (sm_cons (sm_set 5 S_law.nd (em_op op_plus lift_plus (PEm.ow (em_var 5)) (PEm.ow (em_lc (own := [("house", 22)]) rfl S_law.nd (im_seq (em_var 20)) (blkOk_by (N := n_law) (sc := defScope s_law) (by decide +kernel)) (fun _ _ _ _ _ => (gm_name 22 S_law.nd)) (fun _ _ _ _ _ => tsm_nil) (fun _ _ _ _ _ => (em_tup (am_consC (em_var 22) (am_consC em_str (am_consC (em_var 13) (am_consC (em_var 4) (am_consC (em_var 21) am_nil)))))))))))
    (sm_cons (sm_set 5 S_law.nd (em_op op_plus lift_plus (PEm.ow (em_var 5)) (PEm.ow (em_lc (own := [("house", 22)]) rfl S_law.nd (im_seq (em_call F_l_some (hr.mono (by decide)) T.m_l_some T.f_l_some.kp T.b_l_some .nil (fun _ => Rps.nil) (am_consC (em_var 1) (am_consC (em_var 12) (am_consC em_int am_nil))))) (blkOk_by (N := n_law) (sc := defScope s_law) (by decide +kernel)) (fun _ _ _ _ _ => (gm_name 22 S_law.nd)) (fun _ _ _ _ _ => tsm_nil) (fun _ _ _ _ _ => (em_tup (am_consC (em_var 22) (am_consC em_str (am_consC (em_op op_sub lift_sub (PEm.ow em_int) (PEm.ow (em_var 13))) (am_consC (em_var 4) (am_consC (em_var 21) am_nil)))))))))))
    (sm_cons (sm_set 5 S_law.nd (em_op op_plus lift_plus (PEm.ow (em_var 5)) (PEm.ow (em_lc (own := [("house", 22)]) rfl S_law.nd (im_seq (em_call F_l_some (hr.mono (by decide)) T.m_l_some T.f_l_some.kp T.b_l_some .nil (fun _ => Rps.nil) (am_consC (em_var 1) (am_consC (em_var 11) (am_consC em_int am_nil))))) (blkOk_by (N := n_law) (sc := defScope s_law) (by decide +kernel)) (fun _ _ _ _ _ => (gm_name 22 S_law.nd)) (fun _ _ _ _ _ => tsm_nil) (fun _ _ _ _ _ => (em_tup (am_consC (em_var 22) (am_consC em_str (am_consC (em_var 13) (am_consC (em_var 4) (am_consC (em_op op_plus lift_plus (PEm.ow (em_var 21)) (PEm.ow em_int)) am_nil)))))))))))
    (sm_one (sm_set 5 S_law.nd (em_op op_plus lift_plus (PEm.ow (em_var 5)) (PEm.ow (em_lc (own := [("house", 22)]) rfl S_law.nd (im_seq (em_var 3)) (blkOk_by (N := n_law) (sc := defScope s_law) (by decide +kernel)) (fun _ _ _ _ _ => (gm_name 22 S_law.nd)) (fun _ _ _ _ _ => (tsm_one (tm_cmp op_notIn_seq lift_in (PEm.ow (em_var 22)) (PEm.ow (em_var 11)) (by with_unfolding_all rfl)))) (fun _ _ _ _ _ => (em_tup (am_consC (em_var 22) (am_consC em_str (am_consC (em_var 13) (am_consC (em_var 4) (am_consC (em_var 21) am_nil))))))))))))))))))) (fun _ e => by cases e))
    (sm_cons (sm_set 5 S_law.nd (em_callTy call_tuple_of lift_tuple (by rfl) T.z_tuple PyProof.Rows.boot_tuple (am_cons (PEm.ow (em_call F_l_some (hr.mono (by decide)) T.m_l_some T.f_l_some.kp T.b_l_some .nil (fun _ => Rps.nil) (am_consC (em_var 1) (am_consC (em_var 5) (am_consC (em_callB call_lenA lift_len (by rfl) T.z_len PySem.boot_len (am_cons (PEm.ow (em_var 5)) am_nil)) am_nil))))) am_nil)))
    (sm_cons (sm_par [15, 18] rfl S_law.nd (xm_cl (em_callTy call_tuple_of lift_tuple (by rfl) T.z_tuple PyProof.Rows.boot_tuple (am_cons (em_varO 15) am_nil)) (xm_cl em_int xm_nil)))
    (sm_cons (sm_for (c := [.sh, .sh, .sh, .sh, .sh, .sh, .sh, .sh, .sh, .sh, .sh, .sh, .sh, .sh, .sh, .sh, .ow, .sh, .sh, .sh, .sh, .sh, .sh]) .never rfl (im_seq (em_call F_l_lots (hr.mono (by decide)) T.m_l_lots T.f_l_lots.kp T.b_l_lots .nil (fun _ => Rps.nil) (am_consC (em_var 11) am_nil))) (gm_name 6 S_law.nd) (sm_cons (sm_set 19 S_law.nd (em_callB (cr_all rfl) lift_all (by rfl) T.z_all PyProof.Rows.boot_all (am_cons (PEm.ow (em_lc (own := [("signed", 20)]) rfl S_law.nd (im_ownW 16) (blkOk_by (N := n_law) (sc := defScope s_law) (by decide +kernel)) (fun _ _ _ _ _ => (gm_name 20 S_law.nd)) (fun _ _ _ _ _ => tsm_nil) (fun _ _ _ _ _ => (em_cmp op_gt lift_gt (PEm.ow (em_callB call_lenA lift_len (by rfl) T.z_len PySem.boot_len (am_cons (PEm.ow (em_lc (own := [("house", 22)]) rfl S_law.nd (im_seq (em_var 20)) (blkOk_nest (N := n_law) (by decide +kernel)) (fun _ _ _ _ _ => (gm_name 22 S_law.nd)) (fun _ _ _ _ _ => (tsm_one (tm_cmp op_notIn_seq lift_in (PEm.ow (em_var 22)) (PEm.ow (em_var 6)) (by with_unfolding_all rfl)))) (fun _ _ _ _ _ => (em_var 22)))) am_nil))) (PEm.ow (em_var 9)) (nomark _))))) am_nil)))
    (sm_cons (sm_if (c' := [.sh, .sh, .sh, .sh, .sh, .sh, .sh, .sh, .sh, .sh, .sh, .sh, .sh, .sh, .sh, .sh, .ow, .sh, .sh, .sh, .sh, .sh, .sh]) (tm_not (tm_val (PEm.ow (em_call F_l_like (hr.mono (by decide)) T.m_l_like T.f_l_like.kp T.b_l_like .nil (fun _ => Rps.nil) (am_consC (em_call F_is_told_without (hr.mono (by decide)) T.m_is_told_without T.f_is_told_without.kp T.b_is_told_without .nil (fun _ => Rps.nil) (am_consC (em_var 9) (am_consC (em_var 14) (am_consC (em_var 5) (am_consC (em_var 13) (am_consC (em_var 15) (am_consC (em_var 6) am_nil))))))) (am_consC (em_var 19) am_nil)))))) (sm_one (sm_ret em_bl)) sm_nil)
    (sm_one (sm_if (c' := [.sh, .sh, .sh, .sh, .sh, .sh, .sh, .sh, .sh, .sh, .sh, .sh, .sh, .sh, .sh, .sh, .ow, .sh, .sh, .sh, .sh, .sh, .sh]) (tm_not (tm_val (PEm.ow (em_var 19)))) (sm_one (sm_set 18 S_law.nd (em_callB (call_min2 rfl) lift_min2 (by rfl) T.z_min PyProof.Rows.boot_min (am_cons (PEm.ow (em_var 18)) (am_cons (PEm.ow (em_callB call_lenA lift_len (by rfl) T.z_len PySem.boot_len (am_cons (PEm.ow (em_var 6)) am_nil))) am_nil))))) sm_nil)))) (fun _ e => by cases e))
    (sm_cons (sm_set 7 S_law.nd (em_call F_l_some (hr.mono (by decide)) T.m_l_some T.f_l_some.kp T.b_l_some .nil (fun _ => Rps.nil) (am_consC (em_var 1) (am_consC (em_var 11) (am_consC (em_call F_l_draw (hr.mono (by decide)) T.m_l_draw T.f_l_draw.kp T.b_l_draw .nil (fun _ => Rps.nil) (am_consC (em_var 1) (am_consC (em_op op_plus lift_plus (PEm.ow (em_var 2)) (PEm.ow em_int)) am_nil))) am_nil)))))
    (sm_cons (sm_pre1 (c := [.sh, .sh, .sh, .sh, .sh, .sh, .sh, .sh, .sh, .sh, .sh, .sh, .sh, .sh, .sh, .sh, .ow, .sh, .sh, .sh, .sh, .sh, .sh]) (c1 := [.sh, .sh, .sh, .sh, .sh, .sh, .sh, .sh, .sh, .sh, .sh, .sh, .sh, .sh, .sh, .sh, .sh, .sh, .sh, .sh, .sh, .sh, .sh]) (by decide) (sm_if (c' := [.sh, .sh, .sh, .sh, .sh, .sh, .sh, .sh, .sh, .sh, .sh, .sh, .sh, .sh, .sh, .sh, .sh, .sh, .sh, .sh, .sh, .sh, .sh]) (tm_not (tm_val (PEm.ow (em_call F_l_like (hr.mono (by decide)) T.m_l_like T.f_l_like.kp T.b_l_like .nil (fun _ => Rps.nil) (am_consC (em_call F_is_told_without (hr.mono (by decide)) T.m_is_told_without T.f_is_told_without.kp T.b_is_told_without .nil (fun _ => Rps.nil) (am_consC (em_var 9) (am_consC (em_var 14) (am_consC (em_var 5) (am_consC (em_var 13) (am_consC (em_var 15) (am_consC (em_var 7) am_nil))))))) (am_consC (em_call F_l_is_told (hr.mono (by decide)) T.m_l_is_told T.f_l_is_told.kp T.b_l_is_told .nil (fun _ => Rps.nil) (am_consC (em_var 10) (am_consC (em_var 9) (am_consC (em_var 16) (am_consC (em_var 7) am_nil))))) am_nil)))))) (sm_one (sm_ret em_bl)) sm_nil))
    (sm_cons (sm_if (c' := [.sh, .sh, .sh, .sh, .sh, .sh, .sh, .sh, .sh, .sh, .sh, .sh, .sh, .sh, .sh, .sh, .sh, .sh, .sh, .sh, .sh, .sh, .sh]) (tm_not (tm_val (PEm.ow (em_call F_l_like (hr.mono (by decide)) T.m_l_like T.f_l_like.kp T.b_l_like .nil (fun _ => Rps.nil) (am_consC (em_call F_silence_needed (hr.mono (by decide)) T.m_silence_needed T.f_silence_needed.kp T.b_silence_needed .nil (fun _ => Rps.nil) (am_consC (em_var 9) (am_consC (em_var 14) (am_consC (em_var 5) (am_consC (em_var 13) (am_consC (em_var 15) am_nil)))))) (am_consC (em_var 18) am_nil)))))) (sm_one (sm_ret em_bl)) sm_nil)
    (sm_cons (sm_set 8 S_law.nd (em_call F_some_silence (hr.mono (by decide)) T.m_some_silence T.f_some_silence.kp T.b_some_silence .nil (fun _ => Rps.nil) (am_consC (em_var 9) (am_consC (em_var 14) (am_consC (em_var 5) (am_consC (em_var 13) (am_consC (em_var 15) am_nil)))))))
    (sm_cons (sm_if (c' := [.sh, .sh, .sh, .sh, .sh, .sh, .sh, .sh, .sh, .sh, .sh, .sh, .sh, .sh, .sh, .sh, .sh, .sh, .sh, .sh, .sh, .sh, .sh]) (PWm.pt (wm_or (tm_not (tm_val (PEm.ow (em_isi "tuple" (PEm.ow (em_var 8)) (by rfl) T.z_isinstance (by rfl) T.z_tuple PyProof.Rows.boot_tuple)))) (wm_or1 (tm_cmp (op_neD hr.units) lift_ne (PEm.ow (em_callB call_lenA lift_len (by rfl) T.z_len PySem.boot_len (am_cons (PEm.ow (em_var 8)) am_nil))) (PEm.ow (em_var 18)) (nomark _))))) (sm_one (sm_ret em_bl)) sm_nil)
    (sm_cons (sm_if (c' := [.sh, .sh, .sh, .sh, .sh, .sh, .sh, .sh, .sh, .sh, .sh, .sh, .sh, .sh, .sh, .sh, .sh, .sh, .sh, .sh, .sh, .sh, .sh]) (tm_not (tm_val (PEm.ow (em_call F_l_like (hr.mono (by decide)) T.m_l_like T.f_l_like.kp T.b_l_like .nil (fun _ => Rps.nil) (am_consC (em_var 8) (am_consC (em_callTy call_tuple_of lift_tuple (by rfl) T.z_tuple PyProof.Rows.boot_tuple (am_cons (PEm.ow (em_lc (own := [("house", 22)]) rfl S_law.nd (im_seq (em_var 11)) (blkOk_by (N := n_law) (sc := defScope s_law) (by decide +kernel)) (fun _ _ _ _ _ => (gm_name 22 S_law.nd)) (fun _ _ _ _ _ => (tsm_one (tm_cmp op_in_seq lift_in (PEm.ow (em_var 22)) (PEm.ow (em_var 8)) (by with_unfolding_all rfl)))) (fun _ _ _ _ _ => (em_var 22)))) am_nil)) am_nil)))))) (sm_one (sm_ret em_bl)) sm_nil)
    (sm_one (sm_ret (em_not (PEm.ow (em_call F_l_is_told (hr.mono (by decide)) T.m_l_is_told T.f_l_is_told.kp T.b_l_is_told .nil (fun _ => Rps.nil) (am_consC (em_var 10) (am_consC (em_var 9) (am_consC (em_var 16) (am_consC (em_var 8) am_nil)))))))))))))))))))))))))⟩
end
end K25

set_option maxHeartbeats 2000000
namespace K25
open PySem L2 PM
theorem line {n : Nat} (h : n ≤ 1000000) : n ≤ sizeLine := Nat.le_of_lt (small_line h)
theorem isort_len (ns : List Int) : (isort ns).length = ns.length := (isort_perm ns).length_eq
def sp_pick : PM.Spec := fun ps P => ∃ xs : List PV, ps = [.src, .lst xs] ∧ 0 < xs.length ∧ xs.length ≤ 1000 ∧ ∀ x ∈ xs, P x
/-- as in DrawA -/
def sp_drw : PM.Spec := fun ps P => ∃ many : Int, ps = [.src, .int many] ∧ 0 < many ∧ many < 1073741824 ∧ ∀ r, 0 ≤ r → r < many → P (.int r)
theorem h_l_pick (ps : List PV) (Q : PV → Prop) (h : sp_pick ps Q) : t_l_pick sp_drw { nx := fun _ => nxOf .cl Q, rt := Q } (startE n_l_pick.length ps) := by
  obtain ⟨xs, rfl, h0, hl, h⟩ := h
  show t_l_pick _ _ [some .src, some (.lst xs)]
  unfold t_l_pick
  simp only [s_sRet, s_mOp, s_mB, s_mCall, s_mCons, s_mNil, s_mVar0, s_mVarS, s_oLen, s_plenL]
  refine ⟨_, rfl, _, rfl, by omega, by omega, fun r hr hr2 => ?_⟩
  refine s_oIxL.mpr ?_
  have l : r.toNat < xs.length := by omega
  exact ⟨xs[r.toNat], by rw [atI_nn hr hr2, List.getElem?_eq_getElem l], h _ (List.getElem_mem l)⟩
def Lk : Nat → PV → Prop
  | _, .non => True
  | _, .bl _ => True
  | _, .int _ => True
  | n + 1, .tup xs => xs.length ≤ 1000 ∧ ∀ x ∈ xs, Lk n x
  | _, _ => False
def spk : Nat → PM.Spec
  | 0 => fun _ _ => False
  | n + 1 => fun ps P => ∃ v, ps = [v, v] ∧ Lk n v ∧ P (.bl true)
theorem h_l_like (n : Nat) (ps : List PV) (Q : PV → Prop) (h : spk (n + 1) ps Q) : t_l_like (spk n) { nx := fun _ => nxOf .cl Q, rt := Q } (startE n_l_like.length ps) := by
  obtain ⟨v, rfl, hv, h⟩ := h
  show t_l_like _ _ [some v, some v, none, none]
  unfold t_l_like
  try simp only [s_mVar0, s_mVarS, s_mVarO0, s_mVarOS, s_isObj_lst, s_isObj_dic, s_mC, s_mOp, s_mOp1, s_mB, s_mNil, s_mCons, s_mTup, s_mLst, s_mCall, s_mTB, s_mNot, s_mAnd, s_mOr, s_mAndV, s_mOrV, s_mIf, s_mYes, s_mSl, s_mNo, s_mPart, s_mLc, s_mItems, s_mRng1, s_mRng2, s_mEnum, s_mChain, s_seqT, s_seqL, s_sNext, s_sSeq, s_sIf, s_sSet, s_sRet, s_sRetN, s_sBreak, s_sCont, s_sDrop, s_sPar, s_setN0, s_setNS, s_sAsg, s_sApp, s_sAug, s_sFor, s_sSrc, s_gmN, s_gmT, s_gmCons, s_gmNil, s_wipe0, s_wipeS, s_oSub, s_oAddI, s_oAdd, s_oLt, s_oLe, s_oGt, s_oGe, s_oNeg, s_oNot, s_oMul, s_oMulW, s_oMod, s_oFdiv, s_oPow, s_oIsN, s_oNotN, s_oIsB, s_oNotB, s_isNon_int, s_isNon_non, s_isNon_bl, s_isNon_str, s_isNon_tup, s_isNon_lst, s_isNon_dic, s_oEqI, s_oNeI, s_oIxT, s_oIxL, s_oSlT, s_oSlL, s_oRevT, s_oRevL, s_oInt, s_oIntB, s_oAbs, s_oMax2, s_oMin2, s_oLen, s_plenT, s_plenL, s_plenD, s_plenS, s_oTupleL, s_oTupleT, s_oListL, s_oListT, List.set_cons_succ, List.set_cons_zero, List.append_nil, true_and]
  cases v with
  | tup xs =>
    cases n with
    | zero => exact hv.elim
    | succ n =>
      obtain ⟨hl, hx⟩ := hv
      refine oIsi_of (b := true) rfl rfl ⟨_, rfl, ?_⟩
      rw [if_pos rfl]
      refine oIsi_of (b := true) rfl rfl ⟨_, rfl, ?_⟩
      rw [if_pos rfl]
      try simp only [s_mVar0, s_mVarS, s_mVarO0, s_mVarOS, s_isObj_lst, s_isObj_dic, s_mC, s_mOp, s_mOp1, s_mB, s_mNil, s_mCons, s_mTup, s_mLst, s_mCall, s_mTB, s_mNot, s_mAnd, s_mOr, s_mAndV, s_mOrV, s_mIf, s_mYes, s_mSl, s_mNo, s_mPart, s_mLc, s_mItems, s_mRng1, s_mRng2, s_mEnum, s_mChain, s_seqT, s_seqL, s_sNext, s_sSeq, s_sIf, s_sSet, s_sRet, s_sRetN, s_sBreak, s_sCont, s_sDrop, s_sPar, s_setN0, s_setNS, s_sAsg, s_sApp, s_sAug, s_sFor, s_sSrc, s_gmN, s_gmT, s_gmCons, s_gmNil, s_wipe0, s_wipeS, s_oSub, s_oAddI, s_oAdd, s_oLt, s_oLe, s_oGt, s_oGe, s_oNeg, s_oNot, s_oMul, s_oMulW, s_oMod, s_oFdiv, s_oPow, s_oIsN, s_oNotN, s_oIsB, s_oNotB, s_isNon_int, s_isNon_non, s_isNon_bl, s_isNon_str, s_isNon_tup, s_isNon_lst, s_isNon_dic, s_oEqI, s_oNeI, s_oIxT, s_oIxL, s_oSlT, s_oSlL, s_oRevT, s_oRevL, s_oInt, s_oIntB, s_oAbs, s_oMax2, s_oMin2, s_oLen, s_plenT, s_plenL, s_plenD, s_plenS, s_oTupleL, s_oTupleT, s_oListL, s_oListT, List.set_cons_succ, List.set_cons_zero, List.append_nil, true_and]
      refine ⟨_, rfl, _, rfl, _, rfl, ?_⟩
      rw [decide_eq_true rfl, if_pos rfl]
      unfold mZip
      try simp only [s_mVar0, s_mVarS, s_mVarO0, s_mVarOS, s_isObj_lst, s_isObj_dic, s_mC, s_mOp, s_mOp1, s_mB, s_mNil, s_mCons, s_mTup, s_mLst, s_mCall, s_mTB, s_mNot, s_mAnd, s_mOr, s_mAndV, s_mOrV, s_mIf, s_mYes, s_mSl, s_mNo, s_mPart, s_mLc, s_mItems, s_mRng1, s_mRng2, s_mEnum, s_mChain, s_seqT, s_seqL, s_sNext, s_sSeq, s_sIf, s_sSet, s_sRet, s_sRetN, s_sBreak, s_sCont, s_sDrop, s_sPar, s_setN0, s_setNS, s_sAsg, s_sApp, s_sAug, s_sFor, s_sSrc, s_gmN, s_gmT, s_gmCons, s_gmNil, s_wipe0, s_wipeS, s_oSub, s_oAddI, s_oAdd, s_oLt, s_oLe, s_oGt, s_oGe, s_oNeg, s_oNot, s_oMul, s_oMulW, s_oMod, s_oFdiv, s_oPow, s_oIsN, s_oNotN, s_oIsB, s_oNotB, s_isNon_int, s_isNon_non, s_isNon_bl, s_isNon_str, s_isNon_tup, s_isNon_lst, s_isNon_dic, s_oEqI, s_oNeI, s_oIxT, s_oIxL, s_oSlT, s_oSlL, s_oRevT, s_oRevL, s_oInt, s_oIntB, s_oAbs, s_oMax2, s_oMin2, s_oLen, s_plenT, s_plenL, s_plenD, s_plenS, s_oTupleL, s_oTupleT, s_oListL, s_oListT, List.set_cons_succ, List.set_cons_zero, List.append_nil, true_and]
      have e : xs = xs.map id := (List.map_id xs).symm
      show mCompGo _ _ _ _ _ (zipP xs xs) []
      rw [show zipP xs xs = (xs.zip xs).map (fun p => .tup [p.1, p.2]) from by
        conv => lhs; rw [e]
        rw [zipP_map]; rfl]
      refine comp_map (f := fun _ => .bl true) (fun p hp => ⟨[some (.tup xs), some (.tup xs), some p.1, some p.2], fun k hk => ?_, fun Q hQ => hQ, fun Q hQ => ?_⟩) ?_ (oAll_map ?_)
      · exact s_gmT.mpr ⟨rfl, s_gmCons.mpr (s_gmN.mpr (s_gmCons.mpr (s_gmN.mpr (s_gmNil.mpr hk))))⟩
      · try simp only [s_mVar0, s_mVarS, s_mVarO0, s_mVarOS, s_isObj_lst, s_isObj_dic, s_mC, s_mOp, s_mOp1, s_mB, s_mNil, s_mCons, s_mTup, s_mLst, s_mCall, s_mTB, s_mNot, s_mAnd, s_mOr, s_mAndV, s_mOrV, s_mIf, s_mYes, s_mSl, s_mNo, s_mPart, s_mLc, s_mItems, s_mRng1, s_mRng2, s_mEnum, s_mChain, s_seqT, s_seqL, s_sNext, s_sSeq, s_sIf, s_sSet, s_sRet, s_sRetN, s_sBreak, s_sCont, s_sDrop, s_sPar, s_setN0, s_setNS, s_sAsg, s_sApp, s_sAug, s_sFor, s_sSrc, s_gmN, s_gmT, s_gmCons, s_gmNil, s_wipe0, s_wipeS, s_oSub, s_oAddI, s_oAdd, s_oLt, s_oLe, s_oGt, s_oGe, s_oNeg, s_oNot, s_oMul, s_oMulW, s_oMod, s_oFdiv, s_oPow, s_oIsN, s_oNotN, s_oIsB, s_oNotB, s_isNon_int, s_isNon_non, s_isNon_bl, s_isNon_str, s_isNon_tup, s_isNon_lst, s_isNon_dic, s_oEqI, s_oNeI, s_oIxT, s_oIxL, s_oSlT, s_oSlL, s_oRevT, s_oRevL, s_oInt, s_oIntB, s_oAbs, s_oMax2, s_oMin2, s_oLen, s_plenT, s_plenL, s_plenD, s_plenS, s_oTupleL, s_oTupleT, s_oListL, s_oListT, List.set_cons_succ, List.set_cons_zero, List.append_nil, true_and]
        obtain ⟨i, hi, rfl⟩ := List.mem_iff_getElem.mp hp
        rw [List.getElem_zip]
        refine ⟨_, rfl, hx _ (List.getElem_mem _), hQ⟩
      · rw [List.length_zip]; exact line (by omega)
      · rw [List.all_eq_true.mpr fun _ _ => rfl]; exact h
  | non =>
    refine oIsi_of (b := false) rfl rfl ⟨_, rfl, ?_⟩
    rw [if_neg Bool.false_ne_true]
    try simp only [s_mVar0, s_mVarS, s_mVarO0, s_mVarOS, s_isObj_lst, s_isObj_dic, s_mC, s_mOp, s_mOp1, s_mB, s_mNil, s_mCons, s_mTup, s_mLst, s_mCall, s_mTB, s_mNot, s_mAnd, s_mOr, s_mAndV, s_mOrV, s_mIf, s_mYes, s_mSl, s_mNo, s_mPart, s_mLc, s_mItems, s_mRng1, s_mRng2, s_mEnum, s_mChain, s_seqT, s_seqL, s_sNext, s_sSeq, s_sIf, s_sSet, s_sRet, s_sRetN, s_sBreak, s_sCont, s_sDrop, s_sPar, s_setN0, s_setNS, s_sAsg, s_sApp, s_sAug, s_sFor, s_sSrc, s_gmN, s_gmT, s_gmCons, s_gmNil, s_wipe0, s_wipeS, s_oSub, s_oAddI, s_oAdd, s_oLt, s_oLe, s_oGt, s_oGe, s_oNeg, s_oNot, s_oMul, s_oMulW, s_oMod, s_oFdiv, s_oPow, s_oIsN, s_oNotN, s_oIsB, s_oNotB, s_isNon_int, s_isNon_non, s_isNon_bl, s_isNon_str, s_isNon_tup, s_isNon_lst, s_isNon_dic, s_oEqI, s_oNeI, s_oIxT, s_oIxL, s_oSlT, s_oSlL, s_oRevT, s_oRevL, s_oInt, s_oIntB, s_oAbs, s_oMax2, s_oMin2, s_oLen, s_plenT, s_plenL, s_plenD, s_plenS, s_oTupleL, s_oTupleT, s_oListL, s_oListT, List.set_cons_succ, List.set_cons_zero, List.append_nil, true_and]
    exact ⟨_, rfl, h⟩
  | bl b =>
    refine oIsi_of (b := false) rfl rfl ⟨_, rfl, ?_⟩
    rw [if_neg Bool.false_ne_true]
    try simp only [s_mVar0, s_mVarS, s_mVarO0, s_mVarOS, s_isObj_lst, s_isObj_dic, s_mC, s_mOp, s_mOp1, s_mB, s_mNil, s_mCons, s_mTup, s_mLst, s_mCall, s_mTB, s_mNot, s_mAnd, s_mOr, s_mAndV, s_mOrV, s_mIf, s_mYes, s_mSl, s_mNo, s_mPart, s_mLc, s_mItems, s_mRng1, s_mRng2, s_mEnum, s_mChain, s_seqT, s_seqL, s_sNext, s_sSeq, s_sIf, s_sSet, s_sRet, s_sRetN, s_sBreak, s_sCont, s_sDrop, s_sPar, s_setN0, s_setNS, s_sAsg, s_sApp, s_sAug, s_sFor, s_sSrc, s_gmN, s_gmT, s_gmCons, s_gmNil, s_wipe0, s_wipeS, s_oSub, s_oAddI, s_oAdd, s_oLt, s_oLe, s_oGt, s_oGe, s_oNeg, s_oNot, s_oMul, s_oMulW, s_oMod, s_oFdiv, s_oPow, s_oIsN, s_oNotN, s_oIsB, s_oNotB, s_isNon_int, s_isNon_non, s_isNon_bl, s_isNon_str, s_isNon_tup, s_isNon_lst, s_isNon_dic, s_oEqI, s_oNeI, s_oIxT, s_oIxL, s_oSlT, s_oSlL, s_oRevT, s_oRevL, s_oInt, s_oIntB, s_oAbs, s_oMax2, s_oMin2, s_oLen, s_plenT, s_plenL, s_plenD, s_plenS, s_oTupleL, s_oTupleT, s_oListL, s_oListT, List.set_cons_succ, List.set_cons_zero, List.append_nil, true_and]
    refine ⟨_, rfl, ?_⟩
    rw [if_neg Bool.false_ne_true]
    refine oIsi_of (b := true) rfl rfl ⟨_, rfl, ?_⟩
    rw [if_pos rfl]
    refine ⟨b, rfl, ?_⟩
    cases b
    · exact h
    · exact h
  | int i =>
    refine oIsi_of (b := false) rfl rfl ⟨_, rfl, ?_⟩
    rw [if_neg Bool.false_ne_true]
    try simp only [s_mVar0, s_mVarS, s_mVarO0, s_mVarOS, s_isObj_lst, s_isObj_dic, s_mC, s_mOp, s_mOp1, s_mB, s_mNil, s_mCons, s_mTup, s_mLst, s_mCall, s_mTB, s_mNot, s_mAnd, s_mOr, s_mAndV, s_mOrV, s_mIf, s_mYes, s_mSl, s_mNo, s_mPart, s_mLc, s_mItems, s_mRng1, s_mRng2, s_mEnum, s_mChain, s_seqT, s_seqL, s_sNext, s_sSeq, s_sIf, s_sSet, s_sRet, s_sRetN, s_sBreak, s_sCont, s_sDrop, s_sPar, s_setN0, s_setNS, s_sAsg, s_sApp, s_sAug, s_sFor, s_sSrc, s_gmN, s_gmT, s_gmCons, s_gmNil, s_wipe0, s_wipeS, s_oSub, s_oAddI, s_oAdd, s_oLt, s_oLe, s_oGt, s_oGe, s_oNeg, s_oNot, s_oMul, s_oMulW, s_oMod, s_oFdiv, s_oPow, s_oIsN, s_oNotN, s_oIsB, s_oNotB, s_isNon_int, s_isNon_non, s_isNon_bl, s_isNon_str, s_isNon_tup, s_isNon_lst, s_isNon_dic, s_oEqI, s_oNeI, s_oIxT, s_oIxL, s_oSlT, s_oSlL, s_oRevT, s_oRevL, s_oInt, s_oIntB, s_oAbs, s_oMax2, s_oMin2, s_oLen, s_plenT, s_plenL, s_plenD, s_plenS, s_oTupleL, s_oTupleT, s_oListL, s_oListT, List.set_cons_succ, List.set_cons_zero, List.append_nil, true_and]
    refine ⟨_, rfl, ?_⟩
    rw [if_neg Bool.false_ne_true]
    refine oIsi_of (b := false) rfl rfl ⟨_, rfl, ?_⟩
    rw [if_neg Bool.false_ne_true]
    refine oIsi_of (b := true) rfl rfl ⟨_, rfl, ?_⟩
    rw [if_pos rfl]
    refine oIsi_of (b := true) rfl rfl ⟨_, rfl, ?_⟩
    rw [if_pos rfl]
    refine oIsi_of (b := false) (P := fun x => oNot x _) rfl rfl (s_oNot.mpr ⟨_, rfl, ?_⟩)
    simpa using h
  | _ => cases n <;> exact hv.elim
def rng (k : Nat) : List Int := (List.range k).map fun (i : Nat) => (i : Int)
theorem rng_len {k : Nat} : (rng k).length = k := by unfold rng; rw [List.length_map, List.length_range]
theorem mem_rng {k : Nat} {x : Int} : x ∈ rng k ↔ 0 ≤ x ∧ x < k := by
  unfold rng
  rw [List.mem_map]
  constructor
  · rintro ⟨i, hi, rfl⟩
    rw [List.mem_range] at hi
    omega
  · rintro ⟨h0, h1⟩
    exact ⟨x.toNat, List.mem_range.mpr (by omega), by omega⟩
theorem rng_nodup {k : Nat} : (rng k).Nodup := by
  unfold rng
  have : (List.range k).Nodup := List.nodup_range
  rw [List.Nodup, List.pairwise_map]
  exact this.imp fun h z => h (by omega)
theorem rng_get {k i : Nat} (h : i < k) : (rng k)[i]? = some (i : Int) := by
  unfold rng
  rw [List.getElem?_map, List.getElem?_range h]; rfl
theorem rngP_rng {k : Nat} : rngP 0 k = (rng k).map PV.int := by
  unfold rng
  rw [rngP_map, List.map_map]
  exact List.map_congr_left fun i _ => by show PV.int (0 + (i : Int)) = PV.int (i : Int); rw [Int.zero_add]
theorem perm_pop {α : Type} {l m : List α} {n : Nat} (h : n < l.length) : (l.eraseIdx n ++ (m ++ [l[n]])).Perm (l ++ m) := by
  have e : l = l.take n ++ l[n] :: l.drop (n + 1) := by
    rw [← List.drop_eq_getElem_cons h, List.take_append_drop]
  have e2 : l.eraseIdx n = l.take n ++ l.drop (n + 1) := List.eraseIdx_eq_take_drop_succ ..
  rw [e2]
  generalize l[n] = x at e ⊢
  have p1 : (l.take n ++ l.drop (n + 1) ++ (m ++ [x])).Perm (l.take n ++ l.drop (n + 1) ++ (x :: m)) := List.Perm.append_left _ (List.perm_append_singleton x m)
  refine p1.trans ?_
  conv => rhs; rw [e]
  rw [List.append_assoc, List.append_assoc]
  refine List.Perm.append_left _ ?_
  exact List.perm_middle
theorem erase_map {α β : Type} {f : α → β} {l : List α} {n : Nat} : (l.map f).eraseIdx n = (l.eraseIdx n).map f := by
  rw [List.eraseIdx_eq_take_drop_succ, List.eraseIdx_eq_take_drop_succ, List.map_append, List.map_take, List.map_drop]
theorem strict_of {xs : List Int} (h : xs.Pairwise (· ≤ ·)) (n : xs.Nodup) : xs.Pairwise (· < ·) :=
  (h.and n).imp fun ⟨a, b⟩ => by omega
def rng1 (m : Nat) : List Int := (List.range m).map fun (i : Nat) => 1 + (i : Int)
theorem mem_rng1 {m : Nat} {x : Int} : x ∈ rng1 m ↔ 1 ≤ x ∧ x ≤ m := by
  unfold rng1
  rw [List.mem_map]
  constructor
  · rintro ⟨i, hi, rfl⟩
    have := List.mem_range.mp hi
    omega
  · intro ⟨h1, h2⟩
    exact ⟨(x - 1).toNat, List.mem_range.mpr (by omega), by omega⟩
theorem rngP_rng1 {m : Nat} : rngP 1 m = (rng1 m).map PV.int := by
  unfold rngP rng1
  rw [List.map_map]; rfl
theorem take_succ {α : Type} {xs : List α} {i : Nat} {x : α} {S : Type} {st : S → α → S} {s0 : S} (h : xs[i]? = some x) : (xs.take (i + 1)).foldl st s0 = st ((xs.take i).foldl st s0) x := by
  rw [List.take_add_one, h, List.foldl_append]; rfl
theorem for_self {xs : List PV} {g tb M env} (I : Nat → PM.Env → Prop) (h0 : I 0 env) (hs : ∀ (i : Nat) (x : PV) (e : PM.Env) (N : PM.Env → Prop), xs[i]? = some x → I i e → (∀ e', I (i + 1) e' → N e') → g x e fun e1 => tb { M with nx := N, ct := N, bk := M.nx } e1)
    (hn : ∀ e, I xs.length e → M.nx e) : mForGo g tb M xs env := by
  have := for_inv (emb := id) (xs := xs) (g := g) (tb := tb) (M := M) (env := env) I h0 hs hn
  rwa [List.map_id] at this
theorem comp_self {f : PV → PV} {xs : List PV} {g tt te env P} (h : ∀ x ∈ xs, ∃ e1, (∀ k : PM.Env → Prop, k e1 → g x env k) ∧ (∀ Q : Bool → Prop, Q true → tt e1 Q) ∧ (∀ Q : PV → Prop, Q (f x) → te e1 Q))
    (hl : xs.length ≤ sizeLine) (hp : P (.lst (xs.map f))) : mCompGo g tt te env P xs [] := by
  have := comp_map (emb := id) (xs := xs) (g := g) (tt := tt) (te := te) (env := env) (P := P) h hl hp
  rwa [List.map_id] at this
def ok_heap : List PV → Prop := fun ps => ∃ ns : List Int, ps = [.scr ns] ∧ ns.length ≤ 63
theorem lk_int {n : Nat} {i : Int} : Lk n (.int i) := by cases n <;> trivial
theorem lk_ints {n : Nat} {ns : List Int} (h : ns.length ≤ 1000) : Lk (n + 1) (tI ns) := ⟨by rw [List.length_map]; exact h, fun x hx => by
  obtain ⟨i, _, rfl⟩ := List.mem_map.mp hx
  exact lk_int⟩
theorem pick_ints {xs : List Int} {P : PV → Prop} (h0 : 0 < xs.length) (h1 : xs.length ≤ 1000) (h : ∀ x ∈ xs, P (.int x)) : sp_pick [.src, .lst (xs.map PV.int)] P := ⟨_, rfl, by rw [List.length_map]; exact h0, by rw [List.length_map]; exact h1, fun x hx => by
  obtain ⟨i, hi, rfl⟩ := List.mem_map.mp hx
  exact h i hi⟩
theorem pick_dr {xs : List Int} {P : PV → Prop} {m : Int} (h0 : 0 < xs.length) (h1 : xs.length ≤ 1000) (hb : ∀ x ∈ xs, 0 < x ∧ x ≤ m) (hm : m ≤ 1000000) (h : ∀ r, 0 ≤ r → r < m → P (.int r)) : sp_pick [.src, .lst (xs.map PV.int)] fun y => sp_drw [.src, y] P := pick_ints h0 h1 fun x hx => by
  obtain ⟨a, b⟩ := hb x hx
  exact ⟨x, rfl, a, by omega, fun r r0 r1 => h r r0 (by omega)⟩
theorem pick_sub {α : Type} {xs : List α} {d : α} : ∀ {ns : List Int} {k : Nat}, ns.Pairwise (· < ·) → (∀ n ∈ ns, (k : Int) ≤ n ∧ n < xs.length) → (ns.map fun j => xs.getD j.toNat d).Sublist (xs.drop k)
  | [], _, _, _ => List.nil_sublist _
  | n :: ns, k, hp, hb => by
    obtain ⟨h1, h2⟩ := hb n (List.mem_cons_self ..)
    rw [List.pairwise_cons] at hp
    have hn : n.toNat < xs.length := by omega
    have ih := pick_sub (xs := xs) (d := d) (k := n.toNat + 1) hp.2 fun m hm => ⟨by have := hp.1 m hm; omega, (hb m (List.mem_cons_of_mem _ hm)).2⟩
    have e : xs.getD n.toNat d = xs[n.toNat] := by rw [List.getD_eq_getElem?_getD, List.getElem?_eq_getElem hn]; rfl
    rw [List.map_cons, e]
    have s1 : (xs[n.toNat] :: xs.drop (n.toNat + 1)).Sublist (xs.drop k) := by
      rw [← List.drop_eq_getElem_cons hn, show n.toNat = k + (n.toNat - k) by omega, ← List.drop_drop]
      exact List.drop_sublist _ _
    exact (List.Sublist.cons_cons _ ih).trans s1
def sp_some : PM.Spec := fun ps P => ∃ (pool : PV) (xs : List PV) (m : Nat), ps = [.src, pool, .int m] ∧ (pool = .lst xs ∨ pool = .tup xs) ∧ m ≤ xs.length ∧ xs.length ≤ 1000 ∧ ∀ ys : List PV, ys.Sublist xs → ys.length = m → P (.tup ys)
theorem h_l_some (ps : List PV) (Q : PV → Prop) (h : sp_some ps Q) : t_l_some sp_drw { nx := fun _ => nxOf .cl Q, rt := Q } (startE n_l_some.length ps) := by
  obtain ⟨pool, xs, m, rfl, hpool, hm, hk, h⟩ := h
  show t_l_some _ _ [some .src, some pool, some (.int m), none, none, none, none]
  unfold t_l_some
  try simp only [s_mVar0, s_mVarS, s_mVarO0, s_mVarOS, s_isObj_lst, s_isObj_dic, s_mC, s_mOp, s_mOp1, s_mB, s_mNil, s_mCons, s_mTup, s_mLst, s_mCall, s_mTB, s_mNot, s_mAnd, s_mOr, s_mAndV, s_mOrV, s_mIf, s_mYes, s_mSl, s_mNo, s_mPart, s_mLc, s_mItems, s_mRng1, s_mRng2, s_mEnum, s_mChain, s_seqT, s_seqL, s_sNext, s_sSeq, s_sIf, s_sSet, s_sRet, s_sRetN, s_sBreak, s_sCont, s_sDrop, s_sPar, s_setN0, s_setNS, s_sAsg, s_sApp, s_sAug, s_sFor, s_sSrc, s_gmN, s_gmT, s_gmCons, s_gmNil, s_wipe0, s_wipeS, s_oSub, s_oAddI, s_oAdd, s_oLt, s_oLe, s_oGt, s_oGe, s_oNeg, s_oNot, s_oMul, s_oMulW, s_oMod, s_oFdiv, s_oPow, s_oIsN, s_oNotN, s_oIsB, s_oNotB, s_isNon_int, s_isNon_non, s_isNon_bl, s_isNon_str, s_isNon_tup, s_isNon_lst, s_isNon_dic, s_oEqI, s_oNeI, s_oIxT, s_oIxL, s_oSlT, s_oSlL, s_oRevT, s_oRevL, s_oInt, s_oIntB, s_oAbs, s_oMax2, s_oMin2, s_oLen, s_plenT, s_plenL, s_plenD, s_plenS, s_oTupleL, s_oTupleT, s_oListL, s_oListT, List.set_cons_succ, List.set_cons_zero, List.append_nil, true_and]
  have hlen : plen pool = some xs.length := by rcases hpool with rfl | rfl <;> rfl
  refine ⟨_, hlen, _, rfl, by omega, ?_⟩
  rw [Int.toNat_natCast, rngP_rng]
  refine comp_map (f := .int) (fun x hx => ⟨_, fun k hk => s_gmN.mpr hk, fun Q hQ => hQ, fun Q hQ => ?_⟩) (by rw [rng_len]; exact line (by omega)) ?_
  · try simp only [s_mVar0, s_mVarS, s_mVarO0, s_mVarOS, s_isObj_lst, s_isObj_dic, s_mC, s_mOp, s_mOp1, s_mB, s_mNil, s_mCons, s_mTup, s_mLst, s_mCall, s_mTB, s_mNot, s_mAnd, s_mOr, s_mAndV, s_mOrV, s_mIf, s_mYes, s_mSl, s_mNo, s_mPart, s_mLc, s_mItems, s_mRng1, s_mRng2, s_mEnum, s_mChain, s_seqT, s_seqL, s_sNext, s_sSeq, s_sIf, s_sSet, s_sRet, s_sRetN, s_sBreak, s_sCont, s_sDrop, s_sPar, s_setN0, s_setNS, s_sAsg, s_sApp, s_sAug, s_sFor, s_sSrc, s_gmN, s_gmT, s_gmCons, s_gmNil, s_wipe0, s_wipeS, s_oSub, s_oAddI, s_oAdd, s_oLt, s_oLe, s_oGt, s_oGe, s_oNeg, s_oNot, s_oMul, s_oMulW, s_oMod, s_oFdiv, s_oPow, s_oIsN, s_oNotN, s_oIsB, s_oNotB, s_isNon_int, s_isNon_non, s_isNon_bl, s_isNon_str, s_isNon_tup, s_isNon_lst, s_isNon_dic, s_oEqI, s_oNeI, s_oIxT, s_oIxL, s_oSlT, s_oSlL, s_oRevT, s_oRevL, s_oInt, s_oIntB, s_oAbs, s_oMax2, s_oMin2, s_oLen, s_plenT, s_plenL, s_plenD, s_plenS, s_oTupleL, s_oTupleT, s_oListL, s_oListT, List.set_cons_succ, List.set_cons_zero, List.append_nil, true_and]; exact hQ
  refine ⟨Nat.zero_le _, _, rfl, by omega, ?_⟩
  rw [Int.toNat_natCast, rngP_rng]
  refine for_inv (fun i e => i ≤ m ∧ ∃ (left found : List Int) (y3 y6 : Option PV), (left ++ found).Perm (rng xs.length) ∧ found.length = i ∧ e = [some .src, some pool, some (.int m), y3, some (lI left), some (lI found), y6]) ⟨Nat.zero_le _, rng xs.length, [], none, none, by rw [List.append_nil], rfl, rfl⟩ (fun i x e N hx hE hN => ?_) (fun e hE => ?_)
  · obtain ⟨hi, left, found, y3, y6, hp, hf, rfl⟩ := hE
    have him : i < m := by have := (List.getElem?_eq_some_iff.mp hx).1; rw [rng_len] at this; exact this
    have hlen2 : left.length + found.length = xs.length := by rw [← List.length_append, hp.length_eq, rng_len]
    rw [s_gmN]
    refine ⟨_, _, rfl, rfl, ?_⟩
    try simp only [s_mVar0, s_mVarS, s_mVarO0, s_mVarOS, s_isObj_lst, s_isObj_dic, s_mC, s_mOp, s_mOp1, s_mB, s_mNil, s_mCons, s_mTup, s_mLst, s_mCall, s_mTB, s_mNot, s_mAnd, s_mOr, s_mAndV, s_mOrV, s_mIf, s_mYes, s_mSl, s_mNo, s_mPart, s_mLc, s_mItems, s_mRng1, s_mRng2, s_mEnum, s_mChain, s_seqT, s_seqL, s_sNext, s_sSeq, s_sIf, s_sSet, s_sRet, s_sRetN, s_sBreak, s_sCont, s_sDrop, s_sPar, s_setN0, s_setNS, s_sAsg, s_sApp, s_sAug, s_sFor, s_sSrc, s_gmN, s_gmT, s_gmCons, s_gmNil, s_wipe0, s_wipeS, s_oSub, s_oAddI, s_oAdd, s_oLt, s_oLe, s_oGt, s_oGe, s_oNeg, s_oNot, s_oMul, s_oMulW, s_oMod, s_oFdiv, s_oPow, s_oIsN, s_oNotN, s_oIsB, s_oNotB, s_isNon_int, s_isNon_non, s_isNon_bl, s_isNon_str, s_isNon_tup, s_isNon_lst, s_isNon_dic, s_oEqI, s_oNeI, s_oIxT, s_oIxL, s_oSlT, s_oSlL, s_oRevT, s_oRevL, s_oInt, s_oIntB, s_oAbs, s_oMax2, s_oMin2, s_oLen, s_plenT, s_plenL, s_plenD, s_plenS, s_oTupleL, s_oTupleT, s_oListL, s_oListT, List.set_cons_succ, List.set_cons_zero, List.append_nil, true_and]
    refine ⟨_, rfl, _, rfl, ?_, ?_, fun r hr hr2 => ?_⟩
    · rw [List.length_map]; omega
    · rw [List.length_map]; omega
    rw [List.length_map] at hr2
    have hn : r.toNat < left.length := by omega
    refine ⟨r, r.toNat, .int left[r.toNat], rfl, by omega, ?_, ?_, ?_, ?_⟩
    · rw [List.length_map]; unfold ixN; rw [if_pos hr, if_pos hr2]
    · rw [List.getElem?_map, List.getElem?_eq_getElem hn]; rfl
    · rw [List.length_map]; exact small_line (by omega)
    · refine hN _ ⟨him, left.eraseIdx r.toNat, found ++ [left[r.toNat]], some (.int x), y6, (perm_pop hn).trans hp, by rw [List.length_append, hf]; rfl, ?_⟩
      try simp only [List.set_cons_succ, List.set_cons_zero]
      rw [erase_map, show List.map PV.int found ++ [PV.int left[r.toNat]] = List.map PV.int (found ++ [left[r.toNat]]) from by rw [List.map_append]; rfl]
  · obtain ⟨hi, left, found, y3, y6, hp, hf, rfl⟩ := hE
    rw [rng_len] at hf
    try simp only [s_mVar0, s_mVarS, s_mVarO0, s_mVarOS, s_isObj_lst, s_isObj_dic, s_mC, s_mOp, s_mOp1, s_mB, s_mNil, s_mCons, s_mTup, s_mLst, s_mCall, s_mTB, s_mNot, s_mAnd, s_mOr, s_mAndV, s_mOrV, s_mIf, s_mYes, s_mSl, s_mNo, s_mPart, s_mLc, s_mItems, s_mRng1, s_mRng2, s_mEnum, s_mChain, s_seqT, s_seqL, s_sNext, s_sSeq, s_sIf, s_sSet, s_sRet, s_sRetN, s_sBreak, s_sCont, s_sDrop, s_sPar, s_setN0, s_setNS, s_sAsg, s_sApp, s_sAug, s_sFor, s_sSrc, s_gmN, s_gmT, s_gmCons, s_gmNil, s_wipe0, s_wipeS, s_oSub, s_oAddI, s_oAdd, s_oLt, s_oLe, s_oGt, s_oGe, s_oNeg, s_oNot, s_oMul, s_oMulW, s_oMod, s_oFdiv, s_oPow, s_oIsN, s_oNotN, s_oIsB, s_oNotB, s_isNon_int, s_isNon_non, s_isNon_bl, s_isNon_str, s_isNon_tup, s_isNon_lst, s_isNon_dic, s_oEqI, s_oNeI, s_oIxT, s_oIxL, s_oSlT, s_oSlL, s_oRevT, s_oRevL, s_oInt, s_oIntB, s_oAbs, s_oMax2, s_oMin2, s_oLen, s_plenT, s_plenL, s_plenD, s_plenS, s_oTupleL, s_oTupleT, s_oListL, s_oListT, List.set_cons_succ, List.set_cons_zero, List.append_nil, true_and]
    have hnd : (left ++ found).Nodup := hp.nodup_iff.mpr rng_nodup
    have hfn : found.Nodup := (List.nodup_append.mp hnd).2.1
    have hsn : (isort found).Nodup := (isort_perm found).nodup_iff.mpr hfn
    have hmem : ∀ x ∈ isort found, 0 ≤ x ∧ x < xs.length := fun x hx => mem_rng.mp (hp.mem_iff.mp (List.mem_append_right _ ((isort_perm found).mem_iff.mp hx)))
    refine ⟨found, .inl rfl, _, rfl, ?_⟩
    refine comp_map (f := fun j => xs.getD j.toNat .non) (fun x hx => ⟨_, fun k hk => s_gmN.mpr hk, fun Q hQ => hQ, fun Q hQ => ?_⟩) (by rw [isort_len, hf]; exact line (by omega)) ?_
    · obtain ⟨h0, h1⟩ := hmem x hx
      try simp only [s_mVar0, s_mVarS, s_mVarO0, s_mVarOS, s_isObj_lst, s_isObj_dic, s_mC, s_mOp, s_mOp1, s_mB, s_mNil, s_mCons, s_mTup, s_mLst, s_mCall, s_mTB, s_mNot, s_mAnd, s_mOr, s_mAndV, s_mOrV, s_mIf, s_mYes, s_mSl, s_mNo, s_mPart, s_mLc, s_mItems, s_mRng1, s_mRng2, s_mEnum, s_mChain, s_seqT, s_seqL, s_sNext, s_sSeq, s_sIf, s_sSet, s_sRet, s_sRetN, s_sBreak, s_sCont, s_sDrop, s_sPar, s_setN0, s_setNS, s_sAsg, s_sApp, s_sAug, s_sFor, s_sSrc, s_gmN, s_gmT, s_gmCons, s_gmNil, s_wipe0, s_wipeS, s_oSub, s_oAddI, s_oAdd, s_oLt, s_oLe, s_oGt, s_oGe, s_oNeg, s_oNot, s_oMul, s_oMulW, s_oMod, s_oFdiv, s_oPow, s_oIsN, s_oNotN, s_oIsB, s_oNotB, s_isNon_int, s_isNon_non, s_isNon_bl, s_isNon_str, s_isNon_tup, s_isNon_lst, s_isNon_dic, s_oEqI, s_oNeI, s_oIxT, s_oIxL, s_oSlT, s_oSlL, s_oRevT, s_oRevL, s_oInt, s_oIntB, s_oAbs, s_oMax2, s_oMin2, s_oLen, s_plenT, s_plenL, s_plenD, s_plenS, s_oTupleL, s_oTupleT, s_oListL, s_oListT, List.set_cons_succ, List.set_cons_zero, List.append_nil, true_and]
      have hg : atI xs x = some (xs.getD x.toNat .non) := by
        rw [atI_nn h0 h1, List.getD_eq_getElem?_getD, List.getElem?_eq_getElem (by omega)]; rfl
      rcases hpool with rfl | rfl
      · exact s_oIxL.mpr ⟨_, hg, hQ⟩
      · exact s_oIxT.mpr ⟨_, hg, hQ⟩
    · refine s_oTupleL.mpr (h _ (by have := pick_sub (xs := xs) (d := .non) (k := 0) (strict_of (isort_sorted found) hsn) hmem; rwa [List.drop_zero] at this) (by rw [List.length_map, isort_len, hf]))
end K25

set_option maxHeartbeats 2000000
namespace K25
open PySem L2 PM
abbrev Nt := Int × Int × Int × Int
def hold : Str := PySem.Str.ofString "hold"
def ntP (n : Nt) : PV := .tup [.int n.1, .str hold, .int n.2.1, .int n.2.2.1, .int n.2.2.2]
def prP (q : Int × Int) : PV := .tup [.int q.1, .int q.2]
def isNt (i : Int) (q : Int × Int) (n : Nt) : Bool := decide (n.2.1 = i ∧ n.2.2.1 = q.1 ∧ n.2.2.2 = q.2)
def sgn (ns : List Nt) (i : Int) (q : Int × Int) : List Int := (ns.filter (isNt i q)).map fun n => n.1
/-- what is given: the course's lot behind map i, the notes -/
structure Gv (cs : List PV) (i : Int) (lot : List Int) (ns : List Nt) : Prop where
  at_i : atI cs (i + 1) = some (tI lot)
  small : lot.length ≤ 100
  few : ns.length ≤ 1000
def hld (lot : List Int) (ns : List Nt) (i : Int) (q : Int × Int) : List Int := lot.filter fun h => decide (h ∈ sgn ns i q)
theorem eqv_nt {a b c x y z : Int} : PyData.eqv (.tuple [.str hold, .int a, .int b, .int c]) (.tuple [.str hold, .int x, .int y, .int z]) = decide (a = x ∧ b = y ∧ c = z) := by
  show ((hold == hold) && ((a == x) && ((b == y) && ((c == z) && true)))) = _
  by_cases h1 : a = x <;> by_cases h2 : b = y <;> by_cases h3 : c = z <;> simp [h1, h2, h3]
theorem shaped_nt {a b c : Int} : SeqAt.shaped (.tuple [.str hold, .int a, .int b, .int c]) = true := by
  have hk : PyData.strOk (PySem.Str.ofString "hold") = true := by decide +kernel
  unfold SeqAt.shaped
  simp [hk, PyData.canLay0, PyData.canLayAll0, PyData.depth, PyData.depthAll, hold]
def sp_holders : PM.Spec := fun ps P => ∃ (cs : List PV) (i : Int) (lot : List Int) (ns : List Nt) (q : Int × Int), ps = [.tup cs, .tup (ns.map ntP), .int i, prP q] ∧ Gv cs i lot ns ∧ P (tI (hld lot ns i q))
theorem h_holders (ps : List PV) (Q : PV → Prop) (h : sp_holders ps Q) : t_holders { nx := fun _ => nxOf .cl Q, rt := Q } (startE n_holders.length ps) := by
  obtain ⟨cs, i, lot, ns, q, rfl, g, h⟩ := h
  show t_holders _ [some (.tup cs), some (.tup (ns.map ntP)), some (.int i), some (prP q), none, none, none]
  unfold t_holders
  try simp only [s_mVar0, s_mVarS, s_mVarO0, s_mVarOS, s_isObj_lst, s_isObj_dic, s_mC, s_mOp, s_mOp1, s_mB, s_mNil, s_mCons, s_mTup, s_mLst, s_mCall, s_mTB, s_mNot, s_mAnd, s_mOr, s_mAndV, s_mOrV, s_mIf, s_mYes, s_mSl, s_mNo, s_mPart, s_mLc, s_mItems, s_mRng1, s_mRng2, s_mEnum, s_mChain, s_seqT, s_seqL, s_sNext, s_sSeq, s_sIf, s_sSet, s_sRet, s_sRetN, s_sBreak, s_sCont, s_sDrop, s_sPar, s_setN0, s_setNS, s_sAsg, s_sApp, s_sAug, s_sFor, s_sSrc, s_gmN, s_gmT, s_gmCons, s_gmNil, s_wipe0, s_wipeS, s_oSub, s_oAddI, s_oAdd, s_oLt, s_oLe, s_oGt, s_oGe, s_oNeg, s_oNot, s_oMul, s_oMulW, s_oMod, s_oFdiv, s_oPow, s_oIsN, s_oNotN, s_oIsB, s_oNotB, s_isNon_int, s_isNon_non, s_isNon_bl, s_isNon_str, s_isNon_tup, s_isNon_lst, s_isNon_dic, s_oEqI, s_oNeI, s_oIxT, s_oIxL, s_oSlT, s_oSlL, s_oRevT, s_oRevL, s_oInt, s_oIntB, s_oAbs, s_oMax2, s_oMin2, s_oLen, s_plenT, s_plenL, s_plenD, s_plenS, s_oTupleL, s_oTupleT, s_oListL, s_oListT, List.set_cons_succ, List.set_cons_zero, List.append_nil, true_and, x_bl, x_int, x_some, x_addT, x_addL, x_true, x_false]
  simp only [s_mSc]
  try simp only [s_mVar0, s_mVarS, s_mVarO0, s_mVarOS, s_isObj_lst, s_isObj_dic, s_mC, s_mOp, s_mOp1, s_mB, s_mNil, s_mCons, s_mTup, s_mLst, s_mCall, s_mTB, s_mNot, s_mAnd, s_mOr, s_mAndV, s_mOrV, s_mIf, s_mYes, s_mSl, s_mNo, s_mPart, s_mLc, s_mItems, s_mRng1, s_mRng2, s_mEnum, s_mChain, s_seqT, s_seqL, s_sNext, s_sSeq, s_sIf, s_sSet, s_sRet, s_sRetN, s_sBreak, s_sCont, s_sDrop, s_sPar, s_setN0, s_setNS, s_sAsg, s_sApp, s_sAug, s_sFor, s_sSrc, s_gmN, s_gmT, s_gmCons, s_gmNil, s_wipe0, s_wipeS, s_oSub, s_oAddI, s_oAdd, s_oLt, s_oLe, s_oGt, s_oGe, s_oNeg, s_oNot, s_oMul, s_oMulW, s_oMod, s_oFdiv, s_oPow, s_oIsN, s_oNotN, s_oIsB, s_oNotB, s_isNon_int, s_isNon_non, s_isNon_bl, s_isNon_str, s_isNon_tup, s_isNon_lst, s_isNon_dic, s_oEqI, s_oNeI, s_oIxT, s_oIxL, s_oSlT, s_oSlL, s_oRevT, s_oRevL, s_oInt, s_oIntB, s_oAbs, s_oMax2, s_oMin2, s_oLen, s_plenT, s_plenL, s_plenD, s_plenS, s_oTupleL, s_oTupleT, s_oListL, s_oListT, List.set_cons_succ, List.set_cons_zero, List.append_nil, true_and, x_bl, x_int, x_some, x_addT, x_addL, x_true, x_false]
  have h1 := g.few
  have h2 := g.small
  refine sk_emb (emb := ntP) (xs := ns) (tst := isNt i q) (f := fun n => n.1) (fun n hn => ⟨_, fun k hk => s_gmN.mpr hk, fun Q hQ => ?_, fun _ Q hQ => ?_⟩) (by rw [List.length_nil]; omega) ?_
  · unfold ntP prP
    try simp only [s_mVar0, s_mVarS, s_mVarO0, s_mVarOS, s_isObj_lst, s_isObj_dic, s_mC, s_mOp, s_mOp1, s_mB, s_mNil, s_mCons, s_mTup, s_mLst, s_mCall, s_mTB, s_mNot, s_mAnd, s_mOr, s_mAndV, s_mOrV, s_mIf, s_mYes, s_mSl, s_mNo, s_mPart, s_mLc, s_mItems, s_mRng1, s_mRng2, s_mEnum, s_mChain, s_seqT, s_seqL, s_sNext, s_sSeq, s_sIf, s_sSet, s_sRet, s_sRetN, s_sBreak, s_sCont, s_sDrop, s_sPar, s_setN0, s_setNS, s_sAsg, s_sApp, s_sAug, s_sFor, s_sSrc, s_gmN, s_gmT, s_gmCons, s_gmNil, s_wipe0, s_wipeS, s_oSub, s_oAddI, s_oAdd, s_oLt, s_oLe, s_oGt, s_oGe, s_oNeg, s_oNot, s_oMul, s_oMulW, s_oMod, s_oFdiv, s_oPow, s_oIsN, s_oNotN, s_oIsB, s_oNotB, s_isNon_int, s_isNon_non, s_isNon_bl, s_isNon_str, s_isNon_tup, s_isNon_lst, s_isNon_dic, s_oEqI, s_oNeI, s_oIxT, s_oIxL, s_oSlT, s_oSlL, s_oRevT, s_oRevL, s_oInt, s_oIntB, s_oAbs, s_oMax2, s_oMin2, s_oLen, s_plenT, s_plenL, s_plenD, s_plenS, s_oTupleL, s_oTupleT, s_oListL, s_oListT, List.set_cons_succ, List.set_cons_zero, List.append_nil, true_and, x_bl, x_int, x_some, x_addT, x_addL, x_true, x_false]
    have ec : cutP [PV.int n.1, PV.str hold, PV.int n.2.1, PV.int n.2.2.1, PV.int n.2.2.2] (some 1) none = [PV.str hold, PV.int n.2.1, PV.int n.2.2.1, PV.int n.2.2.2] := by
      unfold cutP
      rw [show (1 : Int) = ((1 : Nat) : Int) from rfl, HT.sIx_none, HT.sIx_nat]; rfl
    rw [ec]
    refine ⟨line (by simp), line (by simp), ⟨.tuple [.str hold, .int n.2.1, .int n.2.2.1, .int n.2.2.2], .tuple [.str hold, .int i, .int q.1, .int q.2], rfl, rfl, shaped_nt, shaped_nt, _, rfl, ?_⟩⟩
    rw [eqv_nt]
    exact hQ
  · unfold ntP
    try simp only [s_mVar0, s_mVarS, s_mVarO0, s_mVarOS, s_isObj_lst, s_isObj_dic, s_mC, s_mOp, s_mOp1, s_mB, s_mNil, s_mCons, s_mTup, s_mLst, s_mCall, s_mTB, s_mNot, s_mAnd, s_mOr, s_mAndV, s_mOrV, s_mIf, s_mYes, s_mSl, s_mNo, s_mPart, s_mLc, s_mItems, s_mRng1, s_mRng2, s_mEnum, s_mChain, s_seqT, s_seqL, s_sNext, s_sSeq, s_sIf, s_sSet, s_sRet, s_sRetN, s_sBreak, s_sCont, s_sDrop, s_sPar, s_setN0, s_setNS, s_sAsg, s_sApp, s_sAug, s_sFor, s_sSrc, s_gmN, s_gmT, s_gmCons, s_gmNil, s_wipe0, s_wipeS, s_oSub, s_oAddI, s_oAdd, s_oLt, s_oLe, s_oGt, s_oGe, s_oNeg, s_oNot, s_oMul, s_oMulW, s_oMod, s_oFdiv, s_oPow, s_oIsN, s_oNotN, s_oIsB, s_oNotB, s_isNon_int, s_isNon_non, s_isNon_bl, s_isNon_str, s_isNon_tup, s_isNon_lst, s_isNon_dic, s_oEqI, s_oNeI, s_oIxT, s_oIxL, s_oSlT, s_oSlL, s_oRevT, s_oRevL, s_oInt, s_oIntB, s_oAbs, s_oMax2, s_oMin2, s_oLen, s_plenT, s_plenL, s_plenD, s_plenS, s_oTupleL, s_oTupleT, s_oListL, s_oListT, List.set_cons_succ, List.set_cons_zero, List.append_nil, true_and, x_bl, x_int, x_some, x_addT, x_addL, x_true, x_false]
    exact ⟨_, rfl, hQ⟩
  rw [List.nil_append]
  try simp only [s_mVar0, s_mVarS, s_mVarO0, s_mVarOS, s_isObj_lst, s_isObj_dic, s_mC, s_mOp, s_mOp1, s_mB, s_mNil, s_mCons, s_mTup, s_mLst, s_mCall, s_mTB, s_mNot, s_mAnd, s_mOr, s_mAndV, s_mOrV, s_mIf, s_mYes, s_mSl, s_mNo, s_mPart, s_mLc, s_mItems, s_mRng1, s_mRng2, s_mEnum, s_mChain, s_seqT, s_seqL, s_sNext, s_sSeq, s_sIf, s_sSet, s_sRet, s_sRetN, s_sBreak, s_sCont, s_sDrop, s_sPar, s_setN0, s_setNS, s_sAsg, s_sApp, s_sAug, s_sFor, s_sSrc, s_gmN, s_gmT, s_gmCons, s_gmNil, s_wipe0, s_wipeS, s_oSub, s_oAddI, s_oAdd, s_oLt, s_oLe, s_oGt, s_oGe, s_oNeg, s_oNot, s_oMul, s_oMulW, s_oMod, s_oFdiv, s_oPow, s_oIsN, s_oNotN, s_oIsB, s_oNotB, s_isNon_int, s_isNon_non, s_isNon_bl, s_isNon_str, s_isNon_tup, s_isNon_lst, s_isNon_dic, s_oEqI, s_oNeI, s_oIxT, s_oIxL, s_oSlT, s_oSlL, s_oRevT, s_oRevL, s_oInt, s_oIntB, s_oAbs, s_oMax2, s_oMin2, s_oLen, s_plenT, s_plenL, s_plenD, s_plenS, s_oTupleL, s_oTupleT, s_oListL, s_oListT, List.set_cons_succ, List.set_cons_zero, List.append_nil, true_and, x_bl, x_int, x_some, x_addT, x_addL, x_true, x_false]
  refine ⟨_, g.at_i, _, rfl, ?_⟩
  refine comp_emb (emb := PV.int) (xs := lot) (tst := fun x => decide (x ∈ sgn ns i q)) (f := PV.int) (fun x hx => ⟨_, fun k hk => s_gmN.mpr hk, fun Q hQ => ?_, fun _ Q hQ => ?_⟩) (by rw [List.length_nil]; exact line (by omega)) ?_
  · try simp only [s_mVar0, s_mVarS, s_mVarO0, s_mVarOS, s_isObj_lst, s_isObj_dic, s_mC, s_mOp, s_mOp1, s_mB, s_mNil, s_mCons, s_mTup, s_mLst, s_mCall, s_mTB, s_mNot, s_mAnd, s_mOr, s_mAndV, s_mOrV, s_mIf, s_mYes, s_mSl, s_mNo, s_mPart, s_mLc, s_mItems, s_mRng1, s_mRng2, s_mEnum, s_mChain, s_seqT, s_seqL, s_sNext, s_sSeq, s_sIf, s_sSet, s_sRet, s_sRetN, s_sBreak, s_sCont, s_sDrop, s_sPar, s_setN0, s_setNS, s_sAsg, s_sApp, s_sAug, s_sFor, s_sSrc, s_gmN, s_gmT, s_gmCons, s_gmNil, s_wipe0, s_wipeS, s_oSub, s_oAddI, s_oAdd, s_oLt, s_oLe, s_oGt, s_oGe, s_oNeg, s_oNot, s_oMul, s_oMulW, s_oMod, s_oFdiv, s_oPow, s_oIsN, s_oNotN, s_oIsB, s_oNotB, s_isNon_int, s_isNon_non, s_isNon_bl, s_isNon_str, s_isNon_tup, s_isNon_lst, s_isNon_dic, s_oEqI, s_oNeI, s_oIxT, s_oIxL, s_oSlT, s_oSlL, s_oRevT, s_oRevL, s_oInt, s_oIntB, s_oAbs, s_oMax2, s_oMin2, s_oLen, s_plenT, s_plenL, s_plenD, s_plenS, s_oTupleL, s_oTupleT, s_oListL, s_oListT, List.set_cons_succ, List.set_cons_zero, List.append_nil, true_and, x_bl, x_int, x_some, x_addT, x_addL, x_true, x_false]
    simp only [s_oInS]
    exact ⟨_, rfl, hQ⟩
  · try simp only [s_mVar0, s_mVarS, s_mVarO0, s_mVarOS, s_isObj_lst, s_isObj_dic, s_mC, s_mOp, s_mOp1, s_mB, s_mNil, s_mCons, s_mTup, s_mLst, s_mCall, s_mTB, s_mNot, s_mAnd, s_mOr, s_mAndV, s_mOrV, s_mIf, s_mYes, s_mSl, s_mNo, s_mPart, s_mLc, s_mItems, s_mRng1, s_mRng2, s_mEnum, s_mChain, s_seqT, s_seqL, s_sNext, s_sSeq, s_sIf, s_sSet, s_sRet, s_sRetN, s_sBreak, s_sCont, s_sDrop, s_sPar, s_setN0, s_setNS, s_sAsg, s_sApp, s_sAug, s_sFor, s_sSrc, s_gmN, s_gmT, s_gmCons, s_gmNil, s_wipe0, s_wipeS, s_oSub, s_oAddI, s_oAdd, s_oLt, s_oLe, s_oGt, s_oGe, s_oNeg, s_oNot, s_oMul, s_oMulW, s_oMod, s_oFdiv, s_oPow, s_oIsN, s_oNotN, s_oIsB, s_oNotB, s_isNon_int, s_isNon_non, s_isNon_bl, s_isNon_str, s_isNon_tup, s_isNon_lst, s_isNon_dic, s_oEqI, s_oNeI, s_oIxT, s_oIxL, s_oSlT, s_oSlL, s_oRevT, s_oRevL, s_oInt, s_oIntB, s_oAbs, s_oMax2, s_oMin2, s_oLen, s_plenT, s_plenL, s_plenD, s_plenS, s_oTupleL, s_oTupleT, s_oListL, s_oListT, List.set_cons_succ, List.set_cons_zero, List.append_nil, true_and, x_bl, x_int, x_some, x_addT, x_addL, x_true, x_false]
    exact hQ
  rw [List.nil_append]
  try simp only [s_mVar0, s_mVarS, s_mVarO0, s_mVarOS, s_isObj_lst, s_isObj_dic, s_mC, s_mOp, s_mOp1, s_mB, s_mNil, s_mCons, s_mTup, s_mLst, s_mCall, s_mTB, s_mNot, s_mAnd, s_mOr, s_mAndV, s_mOrV, s_mIf, s_mYes, s_mSl, s_mNo, s_mPart, s_mLc, s_mItems, s_mRng1, s_mRng2, s_mEnum, s_mChain, s_seqT, s_seqL, s_sNext, s_sSeq, s_sIf, s_sSet, s_sRet, s_sRetN, s_sBreak, s_sCont, s_sDrop, s_sPar, s_setN0, s_setNS, s_sAsg, s_sApp, s_sAug, s_sFor, s_sSrc, s_gmN, s_gmT, s_gmCons, s_gmNil, s_wipe0, s_wipeS, s_oSub, s_oAddI, s_oAdd, s_oLt, s_oLe, s_oGt, s_oGe, s_oNeg, s_oNot, s_oMul, s_oMulW, s_oMod, s_oFdiv, s_oPow, s_oIsN, s_oNotN, s_oIsB, s_oNotB, s_isNon_int, s_isNon_non, s_isNon_bl, s_isNon_str, s_isNon_tup, s_isNon_lst, s_isNon_dic, s_oEqI, s_oNeI, s_oIxT, s_oIxL, s_oSlT, s_oSlL, s_oRevT, s_oRevL, s_oInt, s_oIntB, s_oAbs, s_oMax2, s_oMin2, s_oLen, s_plenT, s_plenL, s_plenD, s_plenS, s_oTupleL, s_oTupleT, s_oListL, s_oListT, List.set_cons_succ, List.set_cons_zero, List.append_nil, true_and, x_bl, x_int, x_some, x_addT, x_addL, x_true, x_false]
  exact h
def lft (lot : List Int) (ns : List Nt) (i : Int) (q : Int × Int) (sl : List Int) : List Int := (hld lot ns i q).filter fun h => !decide (h ∈ sl)
def sp_left_of : PM.Spec := fun ps P => ∃ (cs : List PV) (i : Int) (lot : List Int) (ns : List Nt) (q : Int × Int) (sl : List Int), ps = [.tup cs, .tup (ns.map ntP), .int i, prP q, tI sl] ∧ Gv cs i lot ns ∧ P (tI (lft lot ns i q sl))
theorem hld_len {lot : List Int} {ns : List Nt} {i : Int} {q : Int × Int} : (hld lot ns i q).length ≤ lot.length := List.length_filter_le _ _
theorem lft_len {lot : List Int} {ns : List Nt} {i : Int} {q : Int × Int} {sl : List Int} : (lft lot ns i q sl).length ≤ lot.length := Nat.le_trans (List.length_filter_le _ _) hld_len
theorem oIn_intsT {neg : Bool} {x : Int} {ns : List Int} {P : PV → Prop} (h : P (.bl (if neg then !decide (x ∈ ns) else decide (x ∈ ns)))) : oIn neg (.int x) (tI ns) P := by
  refine ⟨_, .inr rfl, rfl, ?_, ?_⟩
  · rw [List.all_eq_true]
    intro y hy
    obtain ⟨z, _, rfl⟩ := List.mem_map.mp hy
    rfl
  · rw [inP_ints]; exact h
theorem h_left_of (ps : List PV) (Q : PV → Prop) (h : sp_left_of ps Q) : t_left_of sp_holders { nx := fun _ => nxOf .cl Q, rt := Q } (startE n_left_of.length ps) := by
  obtain ⟨cs, i, lot, ns, q, sl, rfl, g, h⟩ := h
  show t_left_of _ _ [some (.tup cs), some (.tup (ns.map ntP)), some (.int i), some (prP q), some (tI sl), none]
  unfold t_left_of
  try simp only [s_mVar0, s_mVarS, s_mVarO0, s_mVarOS, s_isObj_lst, s_isObj_dic, s_mC, s_mOp, s_mOp1, s_mB, s_mNil, s_mCons, s_mTup, s_mLst, s_mCall, s_mTB, s_mNot, s_mAnd, s_mOr, s_mAndV, s_mOrV, s_mIf, s_mYes, s_mSl, s_mNo, s_mPart, s_mLc, s_mItems, s_mRng1, s_mRng2, s_mEnum, s_mChain, s_seqT, s_seqL, s_sNext, s_sSeq, s_sIf, s_sSet, s_sRet, s_sRetN, s_sBreak, s_sCont, s_sDrop, s_sPar, s_setN0, s_setNS, s_sAsg, s_sApp, s_sAug, s_sFor, s_sSrc, s_gmN, s_gmT, s_gmCons, s_gmNil, s_wipe0, s_wipeS, s_oSub, s_oAddI, s_oAdd, s_oLt, s_oLe, s_oGt, s_oGe, s_oNeg, s_oNot, s_oMul, s_oMulW, s_oMod, s_oFdiv, s_oPow, s_oIsN, s_oNotN, s_oIsB, s_oNotB, s_isNon_int, s_isNon_non, s_isNon_bl, s_isNon_str, s_isNon_tup, s_isNon_lst, s_isNon_dic, s_oEqI, s_oNeI, s_oIxT, s_oIxL, s_oSlT, s_oSlL, s_oRevT, s_oRevL, s_oInt, s_oIntB, s_oAbs, s_oMax2, s_oMin2, s_oLen, s_plenT, s_plenL, s_plenD, s_plenS, s_oTupleL, s_oTupleT, s_oListL, s_oListT, List.set_cons_succ, List.set_cons_zero, List.append_nil, true_and, x_bl, x_int, x_some, x_addT, x_addL, x_true, x_false]
  have h2 := g.small
  have h3 : (hld lot ns i q).length ≤ lot.length := hld_len
  refine ⟨cs, i, lot, ns, q, rfl, g, _, rfl, ?_⟩
  refine comp_emb (emb := PV.int) (xs := hld lot ns i q) (tst := fun x => !decide (x ∈ sl)) (f := PV.int) (fun x hx => ⟨_, fun k hk => s_gmN.mpr hk, fun Q hQ => ?_, fun _ Q hQ => ?_⟩) (by rw [List.length_nil]; exact line (by omega)) ?_
  · try simp only [s_mVar0, s_mVarS, s_mVarO0, s_mVarOS, s_isObj_lst, s_isObj_dic, s_mC, s_mOp, s_mOp1, s_mB, s_mNil, s_mCons, s_mTup, s_mLst, s_mCall, s_mTB, s_mNot, s_mAnd, s_mOr, s_mAndV, s_mOrV, s_mIf, s_mYes, s_mSl, s_mNo, s_mPart, s_mLc, s_mItems, s_mRng1, s_mRng2, s_mEnum, s_mChain, s_seqT, s_seqL, s_sNext, s_sSeq, s_sIf, s_sSet, s_sRet, s_sRetN, s_sBreak, s_sCont, s_sDrop, s_sPar, s_setN0, s_setNS, s_sAsg, s_sApp, s_sAug, s_sFor, s_sSrc, s_gmN, s_gmT, s_gmCons, s_gmNil, s_wipe0, s_wipeS, s_oSub, s_oAddI, s_oAdd, s_oLt, s_oLe, s_oGt, s_oGe, s_oNeg, s_oNot, s_oMul, s_oMulW, s_oMod, s_oFdiv, s_oPow, s_oIsN, s_oNotN, s_oIsB, s_oNotB, s_isNon_int, s_isNon_non, s_isNon_bl, s_isNon_str, s_isNon_tup, s_isNon_lst, s_isNon_dic, s_oEqI, s_oNeI, s_oIxT, s_oIxL, s_oSlT, s_oSlL, s_oRevT, s_oRevL, s_oInt, s_oIntB, s_oAbs, s_oMax2, s_oMin2, s_oLen, s_plenT, s_plenL, s_plenD, s_plenS, s_oTupleL, s_oTupleT, s_oListL, s_oListT, List.set_cons_succ, List.set_cons_zero, List.append_nil, true_and, x_bl, x_int, x_some, x_addT, x_addL, x_true, x_false]
    exact oIn_intsT ⟨_, rfl, hQ⟩
  · try simp only [s_mVar0, s_mVarS, s_mVarO0, s_mVarOS, s_isObj_lst, s_isObj_dic, s_mC, s_mOp, s_mOp1, s_mB, s_mNil, s_mCons, s_mTup, s_mLst, s_mCall, s_mTB, s_mNot, s_mAnd, s_mOr, s_mAndV, s_mOrV, s_mIf, s_mYes, s_mSl, s_mNo, s_mPart, s_mLc, s_mItems, s_mRng1, s_mRng2, s_mEnum, s_mChain, s_seqT, s_seqL, s_sNext, s_sSeq, s_sIf, s_sSet, s_sRet, s_sRetN, s_sBreak, s_sCont, s_sDrop, s_sPar, s_setN0, s_setNS, s_sAsg, s_sApp, s_sAug, s_sFor, s_sSrc, s_gmN, s_gmT, s_gmCons, s_gmNil, s_wipe0, s_wipeS, s_oSub, s_oAddI, s_oAdd, s_oLt, s_oLe, s_oGt, s_oGe, s_oNeg, s_oNot, s_oMul, s_oMulW, s_oMod, s_oFdiv, s_oPow, s_oIsN, s_oNotN, s_oIsB, s_oNotB, s_isNon_int, s_isNon_non, s_isNon_bl, s_isNon_str, s_isNon_tup, s_isNon_lst, s_isNon_dic, s_oEqI, s_oNeI, s_oIxT, s_oIxL, s_oSlT, s_oSlL, s_oRevT, s_oRevL, s_oInt, s_oIntB, s_oAbs, s_oMax2, s_oMin2, s_oLen, s_plenT, s_plenL, s_plenD, s_plenS, s_oTupleL, s_oTupleT, s_oListL, s_oListT, List.set_cons_succ, List.set_cons_zero, List.append_nil, true_and, x_bl, x_int, x_some, x_addT, x_addL, x_true, x_false]
    exact hQ
  rw [List.nil_append]
  try simp only [s_mVar0, s_mVarS, s_mVarO0, s_mVarOS, s_isObj_lst, s_isObj_dic, s_mC, s_mOp, s_mOp1, s_mB, s_mNil, s_mCons, s_mTup, s_mLst, s_mCall, s_mTB, s_mNot, s_mAnd, s_mOr, s_mAndV, s_mOrV, s_mIf, s_mYes, s_mSl, s_mNo, s_mPart, s_mLc, s_mItems, s_mRng1, s_mRng2, s_mEnum, s_mChain, s_seqT, s_seqL, s_sNext, s_sSeq, s_sIf, s_sSet, s_sRet, s_sRetN, s_sBreak, s_sCont, s_sDrop, s_sPar, s_setN0, s_setNS, s_sAsg, s_sApp, s_sAug, s_sFor, s_sSrc, s_gmN, s_gmT, s_gmCons, s_gmNil, s_wipe0, s_wipeS, s_oSub, s_oAddI, s_oAdd, s_oLt, s_oLe, s_oGt, s_oGe, s_oNeg, s_oNot, s_oMul, s_oMulW, s_oMod, s_oFdiv, s_oPow, s_oIsN, s_oNotN, s_oIsB, s_oNotB, s_isNon_int, s_isNon_non, s_isNon_bl, s_isNon_str, s_isNon_tup, s_isNon_lst, s_isNon_dic, s_oEqI, s_oNeI, s_oIxT, s_oIxL, s_oSlT, s_oSlL, s_oRevT, s_oRevL, s_oInt, s_oIntB, s_oAbs, s_oMax2, s_oMin2, s_oLen, s_plenT, s_plenL, s_plenD, s_plenS, s_oTupleL, s_oTupleT, s_oListL, s_oListT, List.set_cons_succ, List.set_cons_zero, List.append_nil, true_and, x_bl, x_int, x_some, x_addT, x_addL, x_true, x_false]
  exact h
def toldB (t : Int) (lot : List Int) (ns : List Nt) (i : Int) (hd : List (Int × Int)) (sl : List Int) : Bool := hd.all fun q => decide (((lft lot ns i q sl).length : Int) > t)
def sp_is_told_without : PM.Spec := fun ps P => ∃ (t : Int) (cs : List PV) (i : Int) (lot : List Int) (ns : List Nt) (hd : List (Int × Int)) (sl : List Int), ps = [.int t, .tup cs, .tup (ns.map ntP), .int i, .tup (hd.map prP), tI sl] ∧ Gv cs i lot ns ∧ hd.length ≤ 100 ∧ P (.bl (toldB t lot ns i hd sl))
theorem h_is_told_without (ps : List PV) (Q : PV → Prop) (h : sp_is_told_without ps Q) : t_is_told_without sp_left_of { nx := fun _ => nxOf .cl Q, rt := Q } (startE n_is_told_without.length ps) := by
  obtain ⟨t, cs, i, lot, ns, hd, sl, rfl, g, hl, h⟩ := h
  show t_is_told_without _ _ [some (.int t), some (.tup cs), some (.tup (ns.map ntP)), some (.int i), some (.tup (hd.map prP)), some (tI sl), none]
  unfold t_is_told_without
  try simp only [s_mVar0, s_mVarS, s_mVarO0, s_mVarOS, s_isObj_lst, s_isObj_dic, s_mC, s_mOp, s_mOp1, s_mB, s_mNil, s_mCons, s_mTup, s_mLst, s_mCall, s_mTB, s_mNot, s_mAnd, s_mOr, s_mAndV, s_mOrV, s_mIf, s_mYes, s_mSl, s_mNo, s_mPart, s_mLc, s_mItems, s_mRng1, s_mRng2, s_mEnum, s_mChain, s_seqT, s_seqL, s_sNext, s_sSeq, s_sIf, s_sSet, s_sRet, s_sRetN, s_sBreak, s_sCont, s_sDrop, s_sPar, s_setN0, s_setNS, s_sAsg, s_sApp, s_sAug, s_sFor, s_sSrc, s_gmN, s_gmT, s_gmCons, s_gmNil, s_wipe0, s_wipeS, s_oSub, s_oAddI, s_oAdd, s_oLt, s_oLe, s_oGt, s_oGe, s_oNeg, s_oNot, s_oMul, s_oMulW, s_oMod, s_oFdiv, s_oPow, s_oIsN, s_oNotN, s_oIsB, s_oNotB, s_isNon_int, s_isNon_non, s_isNon_bl, s_isNon_str, s_isNon_tup, s_isNon_lst, s_isNon_dic, s_oEqI, s_oNeI, s_oIxT, s_oIxL, s_oSlT, s_oSlL, s_oRevT, s_oRevL, s_oInt, s_oIntB, s_oAbs, s_oMax2, s_oMin2, s_oLen, s_plenT, s_plenL, s_plenD, s_plenS, s_oTupleL, s_oTupleT, s_oListL, s_oListT, List.set_cons_succ, List.set_cons_zero, List.append_nil, true_and, x_bl, x_int, x_some, x_addT, x_addL, x_true, x_false]
  refine comp_map (emb := prP) (f := fun q => .bl (decide (((lft lot ns i q sl).length : Int) > t))) (fun q hq => ⟨_, fun k hk => s_gmN.mpr hk, fun Q hQ => hQ, fun Q hQ => ?_⟩) (line (by omega)) (oAll_map h)
  try simp only [s_mVar0, s_mVarS, s_mVarO0, s_mVarOS, s_isObj_lst, s_isObj_dic, s_mC, s_mOp, s_mOp1, s_mB, s_mNil, s_mCons, s_mTup, s_mLst, s_mCall, s_mTB, s_mNot, s_mAnd, s_mOr, s_mAndV, s_mOrV, s_mIf, s_mYes, s_mSl, s_mNo, s_mPart, s_mLc, s_mItems, s_mRng1, s_mRng2, s_mEnum, s_mChain, s_seqT, s_seqL, s_sNext, s_sSeq, s_sIf, s_sSet, s_sRet, s_sRetN, s_sBreak, s_sCont, s_sDrop, s_sPar, s_setN0, s_setNS, s_sAsg, s_sApp, s_sAug, s_sFor, s_sSrc, s_gmN, s_gmT, s_gmCons, s_gmNil, s_wipe0, s_wipeS, s_oSub, s_oAddI, s_oAdd, s_oLt, s_oLe, s_oGt, s_oGe, s_oNeg, s_oNot, s_oMul, s_oMulW, s_oMod, s_oFdiv, s_oPow, s_oIsN, s_oNotN, s_oIsB, s_oNotB, s_isNon_int, s_isNon_non, s_isNon_bl, s_isNon_str, s_isNon_tup, s_isNon_lst, s_isNon_dic, s_oEqI, s_oNeI, s_oIxT, s_oIxL, s_oSlT, s_oSlL, s_oRevT, s_oRevL, s_oInt, s_oIntB, s_oAbs, s_oMax2, s_oMin2, s_oLen, s_plenT, s_plenL, s_plenD, s_plenS, s_oTupleL, s_oTupleT, s_oListL, s_oListT, List.set_cons_succ, List.set_cons_zero, List.append_nil, true_and, x_bl, x_int, x_some, x_addT, x_addL, x_true, x_false]
  refine ⟨cs, i, lot, ns, q, sl, rfl, g, _, rfl, ?_⟩
  try simp only [s_mVar0, s_mVarS, s_mVarO0, s_mVarOS, s_isObj_lst, s_isObj_dic, s_mC, s_mOp, s_mOp1, s_mB, s_mNil, s_mCons, s_mTup, s_mLst, s_mCall, s_mTB, s_mNot, s_mAnd, s_mOr, s_mAndV, s_mOrV, s_mIf, s_mYes, s_mSl, s_mNo, s_mPart, s_mLc, s_mItems, s_mRng1, s_mRng2, s_mEnum, s_mChain, s_seqT, s_seqL, s_sNext, s_sSeq, s_sIf, s_sSet, s_sRet, s_sRetN, s_sBreak, s_sCont, s_sDrop, s_sPar, s_setN0, s_setNS, s_sAsg, s_sApp, s_sAug, s_sFor, s_sSrc, s_gmN, s_gmT, s_gmCons, s_gmNil, s_wipe0, s_wipeS, s_oSub, s_oAddI, s_oAdd, s_oLt, s_oLe, s_oGt, s_oGe, s_oNeg, s_oNot, s_oMul, s_oMulW, s_oMod, s_oFdiv, s_oPow, s_oIsN, s_oNotN, s_oIsB, s_oNotB, s_isNon_int, s_isNon_non, s_isNon_bl, s_isNon_str, s_isNon_tup, s_isNon_lst, s_isNon_dic, s_oEqI, s_oNeI, s_oIxT, s_oIxL, s_oSlT, s_oSlL, s_oRevT, s_oRevL, s_oInt, s_oIntB, s_oAbs, s_oMax2, s_oMin2, s_oLen, s_plenT, s_plenL, s_plenD, s_plenS, s_oTupleL, s_oTupleT, s_oListL, s_oListT, List.set_cons_succ, List.set_cons_zero, List.append_nil, true_and, x_bl, x_int, x_some, x_addT, x_addL, x_true, x_false]
  rw [List.length_map]
  exact hQ
def ndd (t : Int) (lot : List Int) (ns : List Nt) (i : Int) (hd : List (Int × Int)) (m : Int) : Prop := (∃ q ∈ hd, ((lft lot ns i q []).length : Int) = m) ∧ ∀ q ∈ hd, m ≤ (lft lot ns i q []).length
def mx0 (x : Int) : Int := if x > 0 then x else 0
def sp_silence_needed : PM.Spec := fun ps P => ∃ (t : Int) (cs : List PV) (i : Int) (lot : List Int) (ns : List Nt) (hd : List (Int × Int)), ps = [.int t, .tup cs, .tup (ns.map ntP), .int i, .tup (hd.map prP)] ∧ Gv cs i lot ns ∧ 0 < hd.length ∧ hd.length ≤ 100 ∧ ∀ m, ndd t lot ns i hd m → P (.int (mx0 (m - t)))
theorem h_silence_needed (ps : List PV) (Q : PV → Prop) (h : sp_silence_needed ps Q) : t_silence_needed sp_left_of { nx := fun _ => nxOf .cl Q, rt := Q } (startE n_silence_needed.length ps) := by
  obtain ⟨t, cs, i, lot, ns, hd, rfl, g, h0, hl, h⟩ := h
  show t_silence_needed _ _ [some (.int t), some (.tup cs), some (.tup (ns.map ntP)), some (.int i), some (.tup (hd.map prP)), none]
  unfold t_silence_needed
  try simp only [s_mVar0, s_mVarS, s_mVarO0, s_mVarOS, s_isObj_lst, s_isObj_dic, s_mC, s_mOp, s_mOp1, s_mB, s_mNil, s_mCons, s_mTup, s_mLst, s_mCall, s_mTB, s_mNot, s_mAnd, s_mOr, s_mAndV, s_mOrV, s_mIf, s_mYes, s_mSl, s_mNo, s_mPart, s_mLc, s_mItems, s_mRng1, s_mRng2, s_mEnum, s_mChain, s_seqT, s_seqL, s_sNext, s_sSeq, s_sIf, s_sSet, s_sRet, s_sRetN, s_sBreak, s_sCont, s_sDrop, s_sPar, s_setN0, s_setNS, s_sAsg, s_sApp, s_sAug, s_sFor, s_sSrc, s_gmN, s_gmT, s_gmCons, s_gmNil, s_wipe0, s_wipeS, s_oSub, s_oAddI, s_oAdd, s_oLt, s_oLe, s_oGt, s_oGe, s_oNeg, s_oNot, s_oMul, s_oMulW, s_oMod, s_oFdiv, s_oPow, s_oIsN, s_oNotN, s_oIsB, s_oNotB, s_isNon_int, s_isNon_non, s_isNon_bl, s_isNon_str, s_isNon_tup, s_isNon_lst, s_isNon_dic, s_oEqI, s_oNeI, s_oIxT, s_oIxL, s_oSlT, s_oSlL, s_oRevT, s_oRevL, s_oInt, s_oIntB, s_oAbs, s_oMax2, s_oMin2, s_oLen, s_plenT, s_plenL, s_plenD, s_plenS, s_oTupleL, s_oTupleT, s_oListL, s_oListT, List.set_cons_succ, List.set_cons_zero, List.append_nil, true_and, x_bl, x_int, x_some, x_addT, x_addL, x_true, x_false]
  refine comp_map (emb := prP) (f := fun q => .int ((lft lot ns i q []).length : Int)) (fun q hq => ⟨_, fun k hk => s_gmN.mpr hk, fun Q hQ => hQ, fun Q hQ => ?_⟩) (line (by omega)) ?_
  · try simp only [s_mVar0, s_mVarS, s_mVarO0, s_mVarOS, s_isObj_lst, s_isObj_dic, s_mC, s_mOp, s_mOp1, s_mB, s_mNil, s_mCons, s_mTup, s_mLst, s_mCall, s_mTB, s_mNot, s_mAnd, s_mOr, s_mAndV, s_mOrV, s_mIf, s_mYes, s_mSl, s_mNo, s_mPart, s_mLc, s_mItems, s_mRng1, s_mRng2, s_mEnum, s_mChain, s_seqT, s_seqL, s_sNext, s_sSeq, s_sIf, s_sSet, s_sRet, s_sRetN, s_sBreak, s_sCont, s_sDrop, s_sPar, s_setN0, s_setNS, s_sAsg, s_sApp, s_sAug, s_sFor, s_sSrc, s_gmN, s_gmT, s_gmCons, s_gmNil, s_wipe0, s_wipeS, s_oSub, s_oAddI, s_oAdd, s_oLt, s_oLe, s_oGt, s_oGe, s_oNeg, s_oNot, s_oMul, s_oMulW, s_oMod, s_oFdiv, s_oPow, s_oIsN, s_oNotN, s_oIsB, s_oNotB, s_isNon_int, s_isNon_non, s_isNon_bl, s_isNon_str, s_isNon_tup, s_isNon_lst, s_isNon_dic, s_oEqI, s_oNeI, s_oIxT, s_oIxL, s_oSlT, s_oSlL, s_oRevT, s_oRevL, s_oInt, s_oIntB, s_oAbs, s_oMax2, s_oMin2, s_oLen, s_plenT, s_plenL, s_plenD, s_plenS, s_oTupleL, s_oTupleT, s_oListL, s_oListT, List.set_cons_succ, List.set_cons_zero, List.append_nil, true_and, x_bl, x_int, x_some, x_addT, x_addL, x_true, x_false]
    refine ⟨Nat.zero_le _, cs, i, lot, ns, q, [], rfl, g, ?_⟩
    try simp only [s_mVar0, s_mVarS, s_mVarO0, s_mVarOS, s_isObj_lst, s_isObj_dic, s_mC, s_mOp, s_mOp1, s_mB, s_mNil, s_mCons, s_mTup, s_mLst, s_mCall, s_mTB, s_mNot, s_mAnd, s_mOr, s_mAndV, s_mOrV, s_mIf, s_mYes, s_mSl, s_mNo, s_mPart, s_mLc, s_mItems, s_mRng1, s_mRng2, s_mEnum, s_mChain, s_seqT, s_seqL, s_sNext, s_sSeq, s_sIf, s_sSet, s_sRet, s_sRetN, s_sBreak, s_sCont, s_sDrop, s_sPar, s_setN0, s_setNS, s_sAsg, s_sApp, s_sAug, s_sFor, s_sSrc, s_gmN, s_gmT, s_gmCons, s_gmNil, s_wipe0, s_wipeS, s_oSub, s_oAddI, s_oAdd, s_oLt, s_oLe, s_oGt, s_oGe, s_oNeg, s_oNot, s_oMul, s_oMulW, s_oMod, s_oFdiv, s_oPow, s_oIsN, s_oNotN, s_oIsB, s_oNotB, s_isNon_int, s_isNon_non, s_isNon_bl, s_isNon_str, s_isNon_tup, s_isNon_lst, s_isNon_dic, s_oEqI, s_oNeI, s_oIxT, s_oIxL, s_oSlT, s_oSlL, s_oRevT, s_oRevL, s_oInt, s_oIntB, s_oAbs, s_oMax2, s_oMin2, s_oLen, s_plenT, s_plenL, s_plenD, s_plenS, s_oTupleL, s_oTupleT, s_oListL, s_oListT, List.set_cons_succ, List.set_cons_zero, List.append_nil, true_and, x_bl, x_int, x_some, x_addT, x_addL, x_true, x_false]
    rw [List.length_map]
    exact hQ
  · refine ⟨hd.map fun q => ((lft lot ns i q []).length : Int), by rw [List.map_map]; rfl, by rw [List.length_map]; exact h0, fun m hm hle => ?_⟩
    try simp only [s_mVar0, s_mVarS, s_mVarO0, s_mVarOS, s_isObj_lst, s_isObj_dic, s_mC, s_mOp, s_mOp1, s_mB, s_mNil, s_mCons, s_mTup, s_mLst, s_mCall, s_mTB, s_mNot, s_mAnd, s_mOr, s_mAndV, s_mOrV, s_mIf, s_mYes, s_mSl, s_mNo, s_mPart, s_mLc, s_mItems, s_mRng1, s_mRng2, s_mEnum, s_mChain, s_seqT, s_seqL, s_sNext, s_sSeq, s_sIf, s_sSet, s_sRet, s_sRetN, s_sBreak, s_sCont, s_sDrop, s_sPar, s_setN0, s_setNS, s_sAsg, s_sApp, s_sAug, s_sFor, s_sSrc, s_gmN, s_gmT, s_gmCons, s_gmNil, s_wipe0, s_wipeS, s_oSub, s_oAddI, s_oAdd, s_oLt, s_oLe, s_oGt, s_oGe, s_oNeg, s_oNot, s_oMul, s_oMulW, s_oMod, s_oFdiv, s_oPow, s_oIsN, s_oNotN, s_oIsB, s_oNotB, s_isNon_int, s_isNon_non, s_isNon_bl, s_isNon_str, s_isNon_tup, s_isNon_lst, s_isNon_dic, s_oEqI, s_oNeI, s_oIxT, s_oIxL, s_oSlT, s_oSlL, s_oRevT, s_oRevL, s_oInt, s_oIntB, s_oAbs, s_oMax2, s_oMin2, s_oLen, s_plenT, s_plenL, s_plenD, s_plenS, s_oTupleL, s_oTupleT, s_oListL, s_oListT, List.set_cons_succ, List.set_cons_zero, List.append_nil, true_and, x_bl, x_int, x_some, x_addT, x_addL, x_true, x_false]
    obtain ⟨q, hq, e⟩ := List.mem_map.mp hm
    exact h m ⟨⟨q, hq, e⟩, fun q' hq' => hle _ (List.mem_map.mpr ⟨q', hq', rfl⟩)⟩
def sp_some_silence : PM.Spec := fun ps P => ∃ (t : Int) (cs : List PV) (i : Int) (lot : List Int) (ns : List Nt) (hd : List (Int × Int)), ps = [.int t, .tup cs, .tup (ns.map ntP), .int i, .tup (hd.map prP)] ∧ Gv cs i lot ns ∧ 0 < hd.length ∧ hd.length ≤ 100 ∧
  ∀ m, ndd t lot ns i hd m → ∀ q ∈ hd, ((lft lot ns i q []).length : Int) - t ≤ mx0 (m - t) → P (tI ((lft lot ns i q []).take (mx0 (m - t)).toNat))
theorem h_some_silence (ps : List PV) (Q : PV → Prop) (h : sp_some_silence ps Q) : t_some_silence sp_silence_needed sp_left_of { nx := fun _ => nxOf .cl Q, rt := Q } (startE n_some_silence.length ps) := by
  obtain ⟨t, cs, i, lot, ns, hd, rfl, g, h0, hl, h⟩ := h
  show t_some_silence _ _ _ [some (.int t), some (.tup cs), some (.tup (ns.map ntP)), some (.int i), some (.tup (hd.map prP)), none, none, none]
  unfold t_some_silence
  try simp only [s_mVar0, s_mVarS, s_mVarO0, s_mVarOS, s_isObj_lst, s_isObj_dic, s_mC, s_mOp, s_mOp1, s_mB, s_mNil, s_mCons, s_mTup, s_mLst, s_mCall, s_mTB, s_mNot, s_mAnd, s_mOr, s_mAndV, s_mOrV, s_mIf, s_mYes, s_mSl, s_mNo, s_mPart, s_mLc, s_mItems, s_mRng1, s_mRng2, s_mEnum, s_mChain, s_seqT, s_seqL, s_sNext, s_sSeq, s_sIf, s_sSet, s_sRet, s_sRetN, s_sBreak, s_sCont, s_sDrop, s_sPar, s_setN0, s_setNS, s_sAsg, s_sApp, s_sAug, s_sFor, s_sSrc, s_gmN, s_gmT, s_gmCons, s_gmNil, s_wipe0, s_wipeS, s_oSub, s_oAddI, s_oAdd, s_oLt, s_oLe, s_oGt, s_oGe, s_oNeg, s_oNot, s_oMul, s_oMulW, s_oMod, s_oFdiv, s_oPow, s_oIsN, s_oNotN, s_oIsB, s_oNotB, s_isNon_int, s_isNon_non, s_isNon_bl, s_isNon_str, s_isNon_tup, s_isNon_lst, s_isNon_dic, s_oEqI, s_oNeI, s_oIxT, s_oIxL, s_oSlT, s_oSlL, s_oRevT, s_oRevL, s_oInt, s_oIntB, s_oAbs, s_oMax2, s_oMin2, s_oLen, s_plenT, s_plenL, s_plenD, s_plenS, s_oTupleL, s_oTupleT, s_oListL, s_oListT, List.set_cons_succ, List.set_cons_zero, List.append_nil, true_and, x_bl, x_int, x_some, x_addT, x_addL, x_true, x_false]
  refine ⟨t, cs, i, lot, ns, hd, rfl, g, h0, hl, fun m hm => ?_⟩
  have hm0 : 0 ≤ mx0 (m - t) := by unfold mx0; split <;> omega
  try simp only [s_mVar0, s_mVarS, s_mVarO0, s_mVarOS, s_isObj_lst, s_isObj_dic, s_mC, s_mOp, s_mOp1, s_mB, s_mNil, s_mCons, s_mTup, s_mLst, s_mCall, s_mTB, s_mNot, s_mAnd, s_mOr, s_mAndV, s_mOrV, s_mIf, s_mYes, s_mSl, s_mNo, s_mPart, s_mLc, s_mItems, s_mRng1, s_mRng2, s_mEnum, s_mChain, s_seqT, s_seqL, s_sNext, s_sSeq, s_sIf, s_sSet, s_sRet, s_sRetN, s_sBreak, s_sCont, s_sDrop, s_sPar, s_setN0, s_setNS, s_sAsg, s_sApp, s_sAug, s_sFor, s_sSrc, s_gmN, s_gmT, s_gmCons, s_gmNil, s_wipe0, s_wipeS, s_oSub, s_oAddI, s_oAdd, s_oLt, s_oLe, s_oGt, s_oGe, s_oNeg, s_oNot, s_oMul, s_oMulW, s_oMod, s_oFdiv, s_oPow, s_oIsN, s_oNotN, s_oIsB, s_oNotB, s_isNon_int, s_isNon_non, s_isNon_bl, s_isNon_str, s_isNon_tup, s_isNon_lst, s_isNon_dic, s_oEqI, s_oNeI, s_oIxT, s_oIxL, s_oSlT, s_oSlL, s_oRevT, s_oRevL, s_oInt, s_oIntB, s_oAbs, s_oMax2, s_oMin2, s_oLen, s_plenT, s_plenL, s_plenD, s_plenS, s_oTupleL, s_oTupleT, s_oListL, s_oListT, List.set_cons_succ, List.set_cons_zero, List.append_nil, true_and, x_bl, x_int, x_some, x_addT, x_addL, x_true, x_false]
  refine for_inv (fun j e => ∃ y6 y7, (∀ q ∈ hd.take j, ¬ ((lft lot ns i q []).length : Int) - t ≤ mx0 (m - t)) ∧ e = [some (.int t), some (.tup cs), some (.tup (ns.map ntP)), some (.int i), some (.tup (hd.map prP)), some (.int (mx0 (m - t))), y6, y7]) ⟨none, none, (fun q hq => by simp at hq), rfl⟩ (fun j q e N hj hE hN => ?_) (fun e hE => ?_)
  · obtain ⟨y6, y7, hall, rfl⟩ := hE
    rw [s_gmN]
    try simp only [s_mVar0, s_mVarS, s_mVarO0, s_mVarOS, s_isObj_lst, s_isObj_dic, s_mC, s_mOp, s_mOp1, s_mB, s_mNil, s_mCons, s_mTup, s_mLst, s_mCall, s_mTB, s_mNot, s_mAnd, s_mOr, s_mAndV, s_mOrV, s_mIf, s_mYes, s_mSl, s_mNo, s_mPart, s_mLc, s_mItems, s_mRng1, s_mRng2, s_mEnum, s_mChain, s_seqT, s_seqL, s_sNext, s_sSeq, s_sIf, s_sSet, s_sRet, s_sRetN, s_sBreak, s_sCont, s_sDrop, s_sPar, s_setN0, s_setNS, s_sAsg, s_sApp, s_sAug, s_sFor, s_sSrc, s_gmN, s_gmT, s_gmCons, s_gmNil, s_wipe0, s_wipeS, s_oSub, s_oAddI, s_oAdd, s_oLt, s_oLe, s_oGt, s_oGe, s_oNeg, s_oNot, s_oMul, s_oMulW, s_oMod, s_oFdiv, s_oPow, s_oIsN, s_oNotN, s_oIsB, s_oNotB, s_isNon_int, s_isNon_non, s_isNon_bl, s_isNon_str, s_isNon_tup, s_isNon_lst, s_isNon_dic, s_oEqI, s_oNeI, s_oIxT, s_oIxL, s_oSlT, s_oSlL, s_oRevT, s_oRevL, s_oInt, s_oIntB, s_oAbs, s_oMax2, s_oMin2, s_oLen, s_plenT, s_plenL, s_plenD, s_plenS, s_oTupleL, s_oTupleT, s_oListL, s_oListT, List.set_cons_succ, List.set_cons_zero, List.append_nil, true_and, x_bl, x_int, x_some, x_addT, x_addL, x_true, x_false]
    refine ⟨Nat.zero_le _, cs, i, lot, ns, q, [], rfl, g, ?_⟩
    try simp only [s_mVar0, s_mVarS, s_mVarO0, s_mVarOS, s_isObj_lst, s_isObj_dic, s_mC, s_mOp, s_mOp1, s_mB, s_mNil, s_mCons, s_mTup, s_mLst, s_mCall, s_mTB, s_mNot, s_mAnd, s_mOr, s_mAndV, s_mOrV, s_mIf, s_mYes, s_mSl, s_mNo, s_mPart, s_mLc, s_mItems, s_mRng1, s_mRng2, s_mEnum, s_mChain, s_seqT, s_seqL, s_sNext, s_sSeq, s_sIf, s_sSet, s_sRet, s_sRetN, s_sBreak, s_sCont, s_sDrop, s_sPar, s_setN0, s_setNS, s_sAsg, s_sApp, s_sAug, s_sFor, s_sSrc, s_gmN, s_gmT, s_gmCons, s_gmNil, s_wipe0, s_wipeS, s_oSub, s_oAddI, s_oAdd, s_oLt, s_oLe, s_oGt, s_oGe, s_oNeg, s_oNot, s_oMul, s_oMulW, s_oMod, s_oFdiv, s_oPow, s_oIsN, s_oNotN, s_oIsB, s_oNotB, s_isNon_int, s_isNon_non, s_isNon_bl, s_isNon_str, s_isNon_tup, s_isNon_lst, s_isNon_dic, s_oEqI, s_oNeI, s_oIxT, s_oIxL, s_oSlT, s_oSlL, s_oRevT, s_oRevL, s_oInt, s_oIntB, s_oAbs, s_oMax2, s_oMin2, s_oLen, s_plenT, s_plenL, s_plenD, s_plenS, s_oTupleL, s_oTupleT, s_oListL, s_oListT, List.set_cons_succ, List.set_cons_zero, List.append_nil, true_and, x_bl, x_int, x_some, x_addT, x_addL, x_true, x_false]
    rw [List.length_map]
    by_cases hc : ((lft lot ns i q []).length : Int) - t ≤ mx0 (m - t)
    · refine ite_t (decide_eq_true hc) ?_
      have hh := h m hm q (List.mem_of_getElem? hj) hc
      have et : cutP ((lft lot ns i q []).map PV.int) none (some (mx0 (m - t))) = ((lft lot ns i q []).take (mx0 (m - t)).toNat).map PV.int := by
        rw [cutP_map, HT.sIx_none, show mx0 (m - t) = (((mx0 (m - t)).toNat : Nat) : Int) by omega, HT.sIx_nat, Int.toNat_natCast, Nat.sub_zero, List.drop_zero]
        congr 1
        by_cases z : (mx0 (m - t)).toNat ≤ (lft lot ns i q []).length
        · rw [Nat.min_eq_left z]
        · rw [Nat.min_eq_right (by omega), List.take_length, List.take_of_length_le (by omega)]
      rw [et]
      exact hh
    · refine ite_f (by rw [decide_eq_false hc]; decide) (hN _ ⟨_, _, fun q' hq' => ?_, rfl⟩)
      rw [List.take_add_one, hj] at hq'
      rcases List.mem_append.mp hq' with z | z
      · exact hall q' z
      · have : q' = q := by simpa using z
        rw [this]; exact hc
  · obtain ⟨y6, y7, hall, rfl⟩ := hE
    rw [List.take_length] at hall
    obtain ⟨⟨q, hq, e⟩, _⟩ := hm
    exfalso
    refine hall q hq ?_
    rw [e]
    unfold mx0
    split <;> omega
end K25

set_option maxHeartbeats 2000000
namespace K25
open PySem L2 PM
def sprow (t i : Nat) : List (Nat × Nat) := (List.range (t + 1 - i)).map fun d => (i, i + d)
def sps (t : Nat) : List (Nat × Nat) := (List.range (t + 1)).flatMap (sprow t)
def spP (s : Nat × Nat) : PV := .tup [.int (s.1 : Nat), .int (s.2 : Nat)]
theorem flat_succ {t i : Nat} : (List.range (i + 1)).flatMap (sprow t) = (List.range i).flatMap (sprow t) ++ sprow t i := by
  rw [List.range_succ, List.flatMap_append]; simp
theorem flat_len {t : Nat} : ∀ i, ((List.range i).flatMap (sprow t)).length ≤ i * (t + 1)
  | 0 => by simp
  | i + 1 => by
    rw [flat_succ, List.length_append]
    have := flat_len (t := t) i
    have e : (sprow t i).length ≤ t + 1 := by unfold sprow; rw [List.length_map, List.length_range]; omega
    rw [Nat.succ_mul]
    omega
def sp_l_spots : PM.Spec := fun ps P => ∃ t : Nat, ps = [.int (t : Int)] ∧ t ≤ 2 ∧ P (.lst ((sps t).map spP))
theorem h_l_spots (ps : List PV) (Q : PV → Prop) (h : sp_l_spots ps Q) : t_l_spots { nx := fun _ => nxOf .cl Q, rt := Q } (startE n_l_spots.length ps) := by
  obtain ⟨t, rfl, ht, h⟩ := h
  show t_l_spots _ [some (.int (t : Int)), none, none, none]
  unfold t_l_spots
  try simp only [s_mVar0, s_mVarS, s_mVarO0, s_mVarOS, s_isObj_lst, s_isObj_dic, s_mC, s_mOp, s_mOp1, s_mB, s_mNil, s_mCons, s_mTup, s_mLst, s_mCall, s_mTB, s_mNot, s_mAnd, s_mOr, s_mAndV, s_mOrV, s_mIf, s_mYes, s_mSl, s_mNo, s_mPart, s_mLc, s_mItems, s_mRng1, s_mRng2, s_mEnum, s_mChain, s_seqT, s_seqL, s_sNext, s_sSeq, s_sIf, s_sSet, s_sRet, s_sRetN, s_sBreak, s_sCont, s_sDrop, s_sPar, s_setN0, s_setNS, s_sAsg, s_sApp, s_sAug, s_sFor, s_sSrc, s_gmN, s_gmT, s_gmCons, s_gmNil, s_wipe0, s_wipeS, s_oSub, s_oAddI, s_oAdd, s_oLt, s_oLe, s_oGt, s_oGe, s_oNeg, s_oNot, s_oMul, s_oMulW, s_oMod, s_oFdiv, s_oPow, s_oIsN, s_oNotN, s_oIsB, s_oNotB, s_isNon_int, s_isNon_non, s_isNon_bl, s_isNon_str, s_isNon_tup, s_isNon_lst, s_isNon_dic, s_oEqI, s_oNeI, s_oIxT, s_oIxL, s_oSlT, s_oSlL, s_oRevT, s_oRevL, s_oInt, s_oIntB, s_oAbs, s_oMax2, s_oMin2, s_oLen, s_plenT, s_plenL, s_plenD, s_plenS, s_oTupleL, s_oTupleT, s_oListL, s_oListT, List.set_cons_succ, List.set_cons_zero, List.append_nil, true_and, x_bl, x_int, x_some, x_addT, x_addL, x_true, x_false]
  rw [show ((t : Int) + 1).toNat = t + 1 by omega, rngP_rng]
  refine ⟨Nat.zero_le _, by omega, ?_⟩
  refine for_inv (fun i e => i ≤ t + 1 ∧ ∃ y2, e = [some (.int (t : Int)), some (.lst (((List.range i).flatMap (sprow t)).map spP)), y2, none]) ⟨Nat.zero_le _, none, rfl⟩ (fun i x e N hx hE hN => ?_) (fun e hE => ?_)
  · obtain ⟨hi, y2, rfl⟩ := hE
    obtain ⟨hx0, hx1⟩ : x = (i : Int) ∧ i < t + 1 := by
      have hl := (List.getElem?_eq_some_iff.mp hx).1
      rw [rng_len] at hl
      rw [rng_get hl] at hx
      exact ⟨(Option.some.inj hx).symm, hl⟩
    subst hx0
    rw [s_gmN]
    try simp only [s_mVar0, s_mVarS, s_mVarO0, s_mVarOS, s_isObj_lst, s_isObj_dic, s_mC, s_mOp, s_mOp1, s_mB, s_mNil, s_mCons, s_mTup, s_mLst, s_mCall, s_mTB, s_mNot, s_mAnd, s_mOr, s_mAndV, s_mOrV, s_mIf, s_mYes, s_mSl, s_mNo, s_mPart, s_mLc, s_mItems, s_mRng1, s_mRng2, s_mEnum, s_mChain, s_seqT, s_seqL, s_sNext, s_sSeq, s_sIf, s_sSet, s_sRet, s_sRetN, s_sBreak, s_sCont, s_sDrop, s_sPar, s_setN0, s_setNS, s_sAsg, s_sApp, s_sAug, s_sFor, s_sSrc, s_gmN, s_gmT, s_gmCons, s_gmNil, s_wipe0, s_wipeS, s_oSub, s_oAddI, s_oAdd, s_oLt, s_oLe, s_oGt, s_oGe, s_oNeg, s_oNot, s_oMul, s_oMulW, s_oMod, s_oFdiv, s_oPow, s_oIsN, s_oNotN, s_oIsB, s_oNotB, s_isNon_int, s_isNon_non, s_isNon_bl, s_isNon_str, s_isNon_tup, s_isNon_lst, s_isNon_dic, s_oEqI, s_oNeI, s_oIxT, s_oIxL, s_oSlT, s_oSlL, s_oRevT, s_oRevL, s_oInt, s_oIntB, s_oAbs, s_oMax2, s_oMin2, s_oLen, s_plenT, s_plenL, s_plenD, s_plenS, s_oTupleL, s_oTupleT, s_oListL, s_oListT, List.set_cons_succ, List.set_cons_zero, List.append_nil, true_and, x_bl, x_int, x_some, x_addT, x_addL, x_true, x_false]
    refine ⟨_, _, rfl, rfl, by omega, ?_⟩
    rw [show ((t : Int) + 1 - (i : Int)).toNat = t + 1 - i by omega, rngP_map]
    have hfl := flat_len (t := t) i
    have hfl2 : i * (t + 1) ≤ 9 := Nat.le_trans (Nat.mul_le_mul (by omega : i ≤ 3) (by omega : t + 1 ≤ 3)) (by decide)
    refine comp_map (emb := fun d : Nat => PV.int ((i : Int) + (d : Int))) (f := fun d => spP (i, i + d)) (fun d hd => ⟨_, fun k hk => s_gmN.mpr hk, fun Q hQ => hQ, fun Q hQ => ?_⟩) (by rw [List.length_range]; exact line (by omega)) ?_
    · try simp only [s_mVar0, s_mVarS, s_mVarO0, s_mVarOS, s_isObj_lst, s_isObj_dic, s_mC, s_mOp, s_mOp1, s_mB, s_mNil, s_mCons, s_mTup, s_mLst, s_mCall, s_mTB, s_mNot, s_mAnd, s_mOr, s_mAndV, s_mOrV, s_mIf, s_mYes, s_mSl, s_mNo, s_mPart, s_mLc, s_mItems, s_mRng1, s_mRng2, s_mEnum, s_mChain, s_seqT, s_seqL, s_sNext, s_sSeq, s_sIf, s_sSet, s_sRet, s_sRetN, s_sBreak, s_sCont, s_sDrop, s_sPar, s_setN0, s_setNS, s_sAsg, s_sApp, s_sAug, s_sFor, s_sSrc, s_gmN, s_gmT, s_gmCons, s_gmNil, s_wipe0, s_wipeS, s_oSub, s_oAddI, s_oAdd, s_oLt, s_oLe, s_oGt, s_oGe, s_oNeg, s_oNot, s_oMul, s_oMulW, s_oMod, s_oFdiv, s_oPow, s_oIsN, s_oNotN, s_oIsB, s_oNotB, s_isNon_int, s_isNon_non, s_isNon_bl, s_isNon_str, s_isNon_tup, s_isNon_lst, s_isNon_dic, s_oEqI, s_oNeI, s_oIxT, s_oIxL, s_oSlT, s_oSlL, s_oRevT, s_oRevL, s_oInt, s_oIntB, s_oAbs, s_oMax2, s_oMin2, s_oLen, s_plenT, s_plenL, s_plenD, s_plenS, s_oTupleL, s_oTupleT, s_oListL, s_oListT, List.set_cons_succ, List.set_cons_zero, List.append_nil, true_and, x_bl, x_int, x_some, x_addT, x_addL, x_true, x_false]
      refine ⟨line (by simp), ?_⟩
      unfold spP at hQ
      rw [show ((i + d : Nat) : Int) = (i : Int) + d by omega] at hQ
      exact hQ
    · refine x_addL.mpr ⟨line (by simp; simp at hfl; omega), hN _ ⟨by omega, some (.int (i : Int)), ?_⟩⟩
      rw [flat_succ, List.map_append]
      unfold sprow
      rw [List.map_map]
      rfl
  · obtain ⟨hi, y2, rfl⟩ := hE
    rw [rng_len]
    try simp only [s_mVar0, s_mVarS, s_mVarO0, s_mVarOS, s_isObj_lst, s_isObj_dic, s_mC, s_mOp, s_mOp1, s_mB, s_mNil, s_mCons, s_mTup, s_mLst, s_mCall, s_mTB, s_mNot, s_mAnd, s_mOr, s_mAndV, s_mOrV, s_mIf, s_mYes, s_mSl, s_mNo, s_mPart, s_mLc, s_mItems, s_mRng1, s_mRng2, s_mEnum, s_mChain, s_seqT, s_seqL, s_sNext, s_sSeq, s_sIf, s_sSet, s_sRet, s_sRetN, s_sBreak, s_sCont, s_sDrop, s_sPar, s_setN0, s_setNS, s_sAsg, s_sApp, s_sAug, s_sFor, s_sSrc, s_gmN, s_gmT, s_gmCons, s_gmNil, s_wipe0, s_wipeS, s_oSub, s_oAddI, s_oAdd, s_oLt, s_oLe, s_oGt, s_oGe, s_oNeg, s_oNot, s_oMul, s_oMulW, s_oMod, s_oFdiv, s_oPow, s_oIsN, s_oNotN, s_oIsB, s_oNotB, s_isNon_int, s_isNon_non, s_isNon_bl, s_isNon_str, s_isNon_tup, s_isNon_lst, s_isNon_dic, s_oEqI, s_oNeI, s_oIxT, s_oIxL, s_oSlT, s_oSlL, s_oRevT, s_oRevL, s_oInt, s_oIntB, s_oAbs, s_oMax2, s_oMin2, s_oLen, s_plenT, s_plenL, s_plenD, s_plenS, s_oTupleL, s_oTupleT, s_oListL, s_oListT, List.set_cons_succ, List.set_cons_zero, List.append_nil, true_and, x_bl, x_int, x_some, x_addT, x_addL, x_true, x_false]
    exact h
def pw (p x : Int) : Nat → Int
  | 0 => 1
  | 1 => x % p
  | _ => x * x % p
def co (p x : Int) (j : Nat) (s : Nat × Nat) : Int := ((if s.2 = j then pw p x s.1 else 0) + (if s.1 = j ∧ s.1 ≠ s.2 then pw p x s.2 else 0)) % p
def rf (p : Int) (t : Nat) (x : Int) (j : Nat) : List Int := (sps t).map (co p x j)
def rfs (p : Int) (t : Nat) (x : Int) : List (List Int) := (List.range (t + 1)).map (rf p t x)
theorem sps_le {t : Nat} {s : Nat × Nat} (h : s ∈ sps t) : s.1 ≤ t ∧ s.2 ≤ t := by
  unfold sps sprow at h
  obtain ⟨i, hi, h⟩ := List.mem_flatMap.mp h
  obtain ⟨d, hd, rfl⟩ := List.mem_map.mp h
  have := List.mem_range.mp hi
  have := List.mem_range.mp hd
  show i ≤ t ∧ i + d ≤ t
  omega
def sp_l_row_forms : PM.Spec := fun ps P => ∃ (p : Int) (t : Nat) (x : Int), ps = [.int p, .int (t : Int), .int x] ∧ 0 < p ∧ p ≤ 100 ∧ t ≤ 2 ∧ 0 ≤ x ∧ x ≤ 100 ∧ P (.lst ((rfs p t (x + 1)).map lI))
theorem h_l_row_forms (ps : List PV) (Q : PV → Prop) (h : sp_l_row_forms ps Q) : t_l_row_forms sp_l_spots { nx := fun _ => nxOf .cl Q, rt := Q } (startE n_l_row_forms.length ps) := by
  obtain ⟨p, t, x, rfl, p0, p1, ht, x0, x1, h⟩ := h
  show t_l_row_forms _ _ [some (.int p), some (.int (t : Int)), some (.int x), none, none, none, none, none, none, none, none]
  unfold t_l_row_forms
  try simp only [s_mVar0, s_mVarS, s_mVarO0, s_mVarOS, s_isObj_lst, s_isObj_dic, s_mC, s_mOp, s_mOp1, s_mB, s_mNil, s_mCons, s_mTup, s_mLst, s_mCall, s_mTB, s_mNot, s_mAnd, s_mOr, s_mAndV, s_mOrV, s_mIf, s_mYes, s_mSl, s_mNo, s_mPart, s_mLc, s_mItems, s_mRng1, s_mRng2, s_mEnum, s_mChain, s_seqT, s_seqL, s_sNext, s_sSeq, s_sIf, s_sSet, s_sRet, s_sRetN, s_sBreak, s_sCont, s_sDrop, s_sPar, s_setN0, s_setNS, s_sAsg, s_sApp, s_sAug, s_sFor, s_sSrc, s_gmN, s_gmT, s_gmCons, s_gmNil, s_wipe0, s_wipeS, s_oSub, s_oAddI, s_oAdd, s_oLt, s_oLe, s_oGt, s_oGe, s_oNeg, s_oNot, s_oMul, s_oMulW, s_oMod, s_oFdiv, s_oPow, s_oIsN, s_oNotN, s_oIsB, s_oNotB, s_isNon_int, s_isNon_non, s_isNon_bl, s_isNon_str, s_isNon_tup, s_isNon_lst, s_isNon_dic, s_oEqI, s_oNeI, s_oIxT, s_oIxL, s_oSlT, s_oSlL, s_oRevT, s_oRevL, s_oInt, s_oIntB, s_oAbs, s_oMax2, s_oMin2, s_oLen, s_plenT, s_plenL, s_plenD, s_plenS, s_oTupleL, s_oTupleT, s_oListL, s_oListT, List.set_cons_succ, List.set_cons_zero, List.append_nil, true_and, x_bl, x_int, x_some, x_addT, x_addL, x_true, x_false]
  obtain ⟨y, hy⟩ : ∃ y, y = x + 1 := ⟨_, rfl⟩
  rw [← hy] at h ⊢
  obtain ⟨pws, hpws⟩ : ∃ pws, pws = [PV.int 1, PV.int (y % p), PV.int (y * y % p)] := ⟨_, rfl⟩
  rw [← hpws]
  have gp : ∀ l : Nat, l ≤ 2 → atI pws (l : Int) = some (.int (pw p y l)) := fun l hl => by
    have : l = 0 ∨ l = 1 ∨ l = 2 := by omega
    rw [hpws, atI_pos (by simp; omega)]
    rcases this with rfl | rfl | rfl <;> rfl
  refine ⟨Nat.zero_le _, p0, .inl ⟨by omega, by omega⟩, p0, by rw [hpws]; exact line (by simp), by omega, ?_⟩
  rw [show ((t : Int) + 1).toNat = t + 1 by omega, rngP_rng]
  have hsl : (sps t).length ≤ 9 := Nat.le_trans (flat_len (t := t) (t + 1)) (Nat.le_trans (Nat.mul_le_mul (by omega : t + 1 ≤ 3) (by omega : t + 1 ≤ 3)) (by decide))
  refine for_inv (fun j e => j ≤ t + 1 ∧ ∃ y4 y7 y8 y9 y10, e = [some (.int p), some (.int (t : Int)), some (.int x), some (.lst pws), y4, some (.lst (((List.range j).map (rf p t y)).map lI)), some (.int y), y7, y8, y9, y10]) ⟨Nat.zero_le _, none, none, none, none, none, rfl⟩ (fun j z e N hx hE hN => ?_) (fun e hE => ?_)
  · obtain ⟨hj, y4, y7, y8, y9, y10, rfl⟩ := hE
    obtain ⟨hx0, hx1⟩ : z = (j : Int) ∧ j < t + 1 := by
      have hl := (List.getElem?_eq_some_iff.mp hx).1
      rw [rng_len] at hl
      rw [rng_get hl] at hx
      exact ⟨(Option.some.inj hx).symm, hl⟩
    subst hx0
    rw [s_gmN]
    try simp only [s_mVar0, s_mVarS, s_mVarO0, s_mVarOS, s_isObj_lst, s_isObj_dic, s_mC, s_mOp, s_mOp1, s_mB, s_mNil, s_mCons, s_mTup, s_mLst, s_mCall, s_mTB, s_mNot, s_mAnd, s_mOr, s_mAndV, s_mOrV, s_mIf, s_mYes, s_mSl, s_mNo, s_mPart, s_mLc, s_mItems, s_mRng1, s_mRng2, s_mEnum, s_mChain, s_seqT, s_seqL, s_sNext, s_sSeq, s_sIf, s_sSet, s_sRet, s_sRetN, s_sBreak, s_sCont, s_sDrop, s_sPar, s_setN0, s_setNS, s_sAsg, s_sApp, s_sAug, s_sFor, s_sSrc, s_gmN, s_gmT, s_gmCons, s_gmNil, s_wipe0, s_wipeS, s_oSub, s_oAddI, s_oAdd, s_oLt, s_oLe, s_oGt, s_oGe, s_oNeg, s_oNot, s_oMul, s_oMulW, s_oMod, s_oFdiv, s_oPow, s_oIsN, s_oNotN, s_oIsB, s_oNotB, s_isNon_int, s_isNon_non, s_isNon_bl, s_isNon_str, s_isNon_tup, s_isNon_lst, s_isNon_dic, s_oEqI, s_oNeI, s_oIxT, s_oIxL, s_oSlT, s_oSlL, s_oRevT, s_oRevL, s_oInt, s_oIntB, s_oAbs, s_oMax2, s_oMin2, s_oLen, s_plenT, s_plenL, s_plenD, s_plenS, s_oTupleL, s_oTupleT, s_oListL, s_oListT, List.set_cons_succ, List.set_cons_zero, List.append_nil, true_and, x_bl, x_int, x_some, x_addT, x_addL, x_true, x_false]
    refine ⟨Nat.zero_le _, t, rfl, ht, _, rfl, ?_⟩
    refine for_inv (emb := spP) (fun m e => m ≤ (sps t).length ∧ ∃ y8 y9 y10, e = [some (.int p), some (.int (t : Int)), some (.int x), some (.lst pws), some (.int (j : Int)), some (.lst (((List.range j).map (rf p t y)).map lI)), some (.int y), some (lI (((sps t).take m).map (co p y j))), y8, y9, y10]) ⟨Nat.zero_le _, y8, y9, y10, rfl⟩ (fun m s e N2 hs hE2 hN2 => ?_) (fun e hE2 => ?_)
    · obtain ⟨hm, y8, y9, y10, rfl⟩ := hE2
      have hml := (List.getElem?_eq_some_iff.mp hs).1
      obtain ⟨s1, s2⟩ := sps_le (List.mem_of_getElem? hs)
      obtain ⟨lo, hi⟩ := s
      have s1 : lo ≤ t := s1
      have s2 : hi ≤ t := s2
      have ef : (((sps t).take (m + 1)).map (co p y j)).map PV.int = (((sps t).take m).map (co p y j)).map PV.int ++ [PV.int (co p y j (lo, hi))] := by
        rw [List.take_add_one, hs, List.map_append, List.map_append]; rfl
      unfold spP
      refine s_gmT.mpr ⟨rfl, s_gmCons.mpr (s_gmN.mpr (s_gmCons.mpr (s_gmN.mpr (s_gmNil.mpr ?_))))⟩
      have stp : ∀ num : Int, num = (if hi = j then pw p y lo else 0) → ∀ ad : Int, ad = (if lo = j ∧ lo ≠ hi then pw p y hi else 0) → N2 [some (.int p), some (.int (t : Int)), some (.int x), some (.lst pws), some (.int (j : Int)), some (.lst (((List.range j).map (rf p t y)).map lI)), some (.int y), some (.lst ((((sps t).take m).map (co p y j)).map PV.int ++ [PV.int ((num + ad) % p)])), some (.int (lo : Int)), some (.int (hi : Int)), some (.int num)] := fun num en ad ea => by
        refine hN2 _ ⟨by omega, some (.int (lo : Int)), some (.int (hi : Int)), some (.int num), ?_⟩
        unfold lI
        rw [ef, en, ea]
        rfl
      have hll : ((((sps t).take m).map (co p y j)).map PV.int).length < sizeLine := small_line (by rw [List.length_map, List.length_map, List.length_take]; omega)
      try simp only [s_mVar0, s_mVarS, s_mVarO0, s_mVarOS, s_isObj_lst, s_isObj_dic, s_mC, s_mOp, s_mOp1, s_mB, s_mNil, s_mCons, s_mTup, s_mLst, s_mCall, s_mTB, s_mNot, s_mAnd, s_mOr, s_mAndV, s_mOrV, s_mIf, s_mYes, s_mSl, s_mNo, s_mPart, s_mLc, s_mItems, s_mRng1, s_mRng2, s_mEnum, s_mChain, s_seqT, s_seqL, s_sNext, s_sSeq, s_sIf, s_sSet, s_sRet, s_sRetN, s_sBreak, s_sCont, s_sDrop, s_sPar, s_setN0, s_setNS, s_sAsg, s_sApp, s_sAug, s_sFor, s_sSrc, s_gmN, s_gmT, s_gmCons, s_gmNil, s_wipe0, s_wipeS, s_oSub, s_oAddI, s_oAdd, s_oLt, s_oLe, s_oGt, s_oGe, s_oNeg, s_oNot, s_oMul, s_oMulW, s_oMod, s_oFdiv, s_oPow, s_oIsN, s_oNotN, s_oIsB, s_oNotB, s_isNon_int, s_isNon_non, s_isNon_bl, s_isNon_str, s_isNon_tup, s_isNon_lst, s_isNon_dic, s_oEqI, s_oNeI, s_oIxT, s_oIxL, s_oSlT, s_oSlL, s_oRevT, s_oRevL, s_oInt, s_oIntB, s_oAbs, s_oMax2, s_oMin2, s_oLen, s_plenT, s_plenL, s_plenD, s_plenS, s_oTupleL, s_oTupleT, s_oListL, s_oListT, List.set_cons_succ, List.set_cons_zero, List.append_nil, true_and, x_bl, x_int, x_some, x_addT, x_addL, x_true, x_false]
      have tail : ∀ num : Int, num = (if hi = j then pw p y lo else 0) → ∀ pv : PV, pv = .int num → ∃ ps, [some (.int p), some (.int (t : Int)), some (.int x), some (.lst pws), some (.int (j : Int)), some (.lst (((List.range j).map (rf p t y)).map lI)), some (.int y), some (lI (((sps t).take m).map (co p y j))), some (.int (lo : Int)), some (.int (hi : Int)), some pv][7]? = some (some (PV.lst ps)) ∧
          if decide ((lo : Int) = (j : Int)) = true then if (!decide ((lo : Int) = (hi : Int))) = true then ∃ q, atI pws (hi : Int) = some q ∧ oAdd pv q fun u => oMod u (.int p) fun v => ps.length < sizeLine ∧ N2 [some (.int p), some (.int (t : Int)), some (.int x), some (.lst pws), some (.int (j : Int)), some (.lst (((List.range j).map (rf p t y)).map lI)), some (.int y), some (.lst (ps ++ [v])), some (.int (lo : Int)), some (.int (hi : Int)), some pv]
            else oAdd pv (.int 0) fun u => oMod u (.int p) fun v => ps.length < sizeLine ∧ N2 [some (.int p), some (.int (t : Int)), some (.int x), some (.lst pws), some (.int (j : Int)), some (.lst (((List.range j).map (rf p t y)).map lI)), some (.int y), some (.lst (ps ++ [v])), some (.int (lo : Int)), some (.int (hi : Int)), some pv]
          else oAdd pv (.int 0) fun u => oMod u (.int p) fun v => ps.length < sizeLine ∧ N2 [some (.int p), some (.int (t : Int)), some (.int x), some (.lst pws), some (.int (j : Int)), some (.lst (((List.range j).map (rf p t y)).map lI)), some (.int y), some (.lst (ps ++ [v])), some (.int (lo : Int)), some (.int (hi : Int)), some pv] := fun num en pv ep => by
        subst ep
        refine ⟨_, rfl, ?_⟩
        by_cases c1 : lo = j
        · refine ite_t (decide_eq_true (by omega)) ?_
          by_cases c2 : lo = hi
          · refine ite_f (by rw [decide_eq_true (by omega)]; decide) ?_
            try simp only [s_mVar0, s_mVarS, s_mVarO0, s_mVarOS, s_isObj_lst, s_isObj_dic, s_mC, s_mOp, s_mOp1, s_mB, s_mNil, s_mCons, s_mTup, s_mLst, s_mCall, s_mTB, s_mNot, s_mAnd, s_mOr, s_mAndV, s_mOrV, s_mIf, s_mYes, s_mSl, s_mNo, s_mPart, s_mLc, s_mItems, s_mRng1, s_mRng2, s_mEnum, s_mChain, s_seqT, s_seqL, s_sNext, s_sSeq, s_sIf, s_sSet, s_sRet, s_sRetN, s_sBreak, s_sCont, s_sDrop, s_sPar, s_setN0, s_setNS, s_sAsg, s_sApp, s_sAug, s_sFor, s_sSrc, s_gmN, s_gmT, s_gmCons, s_gmNil, s_wipe0, s_wipeS, s_oSub, s_oAddI, s_oAdd, s_oLt, s_oLe, s_oGt, s_oGe, s_oNeg, s_oNot, s_oMul, s_oMulW, s_oMod, s_oFdiv, s_oPow, s_oIsN, s_oNotN, s_oIsB, s_oNotB, s_isNon_int, s_isNon_non, s_isNon_bl, s_isNon_str, s_isNon_tup, s_isNon_lst, s_isNon_dic, s_oEqI, s_oNeI, s_oIxT, s_oIxL, s_oSlT, s_oSlL, s_oRevT, s_oRevL, s_oInt, s_oIntB, s_oAbs, s_oMax2, s_oMin2, s_oLen, s_plenT, s_plenL, s_plenD, s_plenS, s_oTupleL, s_oTupleT, s_oListL, s_oListT, List.set_cons_succ, List.set_cons_zero, List.append_nil, true_and, x_bl, x_int, x_some, x_addT, x_addL, x_true, x_false]
            exact ⟨p0, hll, stp num en 0 (by rw [if_neg (fun z => z.2 c2)])⟩
          · refine ite_t (by rw [decide_eq_false (by omega)]; rfl) ⟨_, gp hi (by omega), ?_⟩
            try simp only [s_mVar0, s_mVarS, s_mVarO0, s_mVarOS, s_isObj_lst, s_isObj_dic, s_mC, s_mOp, s_mOp1, s_mB, s_mNil, s_mCons, s_mTup, s_mLst, s_mCall, s_mTB, s_mNot, s_mAnd, s_mOr, s_mAndV, s_mOrV, s_mIf, s_mYes, s_mSl, s_mNo, s_mPart, s_mLc, s_mItems, s_mRng1, s_mRng2, s_mEnum, s_mChain, s_seqT, s_seqL, s_sNext, s_sSeq, s_sIf, s_sSet, s_sRet, s_sRetN, s_sBreak, s_sCont, s_sDrop, s_sPar, s_setN0, s_setNS, s_sAsg, s_sApp, s_sAug, s_sFor, s_sSrc, s_gmN, s_gmT, s_gmCons, s_gmNil, s_wipe0, s_wipeS, s_oSub, s_oAddI, s_oAdd, s_oLt, s_oLe, s_oGt, s_oGe, s_oNeg, s_oNot, s_oMul, s_oMulW, s_oMod, s_oFdiv, s_oPow, s_oIsN, s_oNotN, s_oIsB, s_oNotB, s_isNon_int, s_isNon_non, s_isNon_bl, s_isNon_str, s_isNon_tup, s_isNon_lst, s_isNon_dic, s_oEqI, s_oNeI, s_oIxT, s_oIxL, s_oSlT, s_oSlL, s_oRevT, s_oRevL, s_oInt, s_oIntB, s_oAbs, s_oMax2, s_oMin2, s_oLen, s_plenT, s_plenL, s_plenD, s_plenS, s_oTupleL, s_oTupleT, s_oListL, s_oListT, List.set_cons_succ, List.set_cons_zero, List.append_nil, true_and, x_bl, x_int, x_some, x_addT, x_addL, x_true, x_false]
            exact ⟨p0, hll, stp num en _ (by rw [if_pos ⟨c1, c2⟩])⟩
        · refine ite_f (by rw [decide_eq_false (by omega)]; decide) ?_
          try simp only [s_mVar0, s_mVarS, s_mVarO0, s_mVarOS, s_isObj_lst, s_isObj_dic, s_mC, s_mOp, s_mOp1, s_mB, s_mNil, s_mCons, s_mTup, s_mLst, s_mCall, s_mTB, s_mNot, s_mAnd, s_mOr, s_mAndV, s_mOrV, s_mIf, s_mYes, s_mSl, s_mNo, s_mPart, s_mLc, s_mItems, s_mRng1, s_mRng2, s_mEnum, s_mChain, s_seqT, s_seqL, s_sNext, s_sSeq, s_sIf, s_sSet, s_sRet, s_sRetN, s_sBreak, s_sCont, s_sDrop, s_sPar, s_setN0, s_setNS, s_sAsg, s_sApp, s_sAug, s_sFor, s_sSrc, s_gmN, s_gmT, s_gmCons, s_gmNil, s_wipe0, s_wipeS, s_oSub, s_oAddI, s_oAdd, s_oLt, s_oLe, s_oGt, s_oGe, s_oNeg, s_oNot, s_oMul, s_oMulW, s_oMod, s_oFdiv, s_oPow, s_oIsN, s_oNotN, s_oIsB, s_oNotB, s_isNon_int, s_isNon_non, s_isNon_bl, s_isNon_str, s_isNon_tup, s_isNon_lst, s_isNon_dic, s_oEqI, s_oNeI, s_oIxT, s_oIxL, s_oSlT, s_oSlL, s_oRevT, s_oRevL, s_oInt, s_oIntB, s_oAbs, s_oMax2, s_oMin2, s_oLen, s_plenT, s_plenL, s_plenD, s_plenS, s_oTupleL, s_oTupleT, s_oListL, s_oListT, List.set_cons_succ, List.set_cons_zero, List.append_nil, true_and, x_bl, x_int, x_some, x_addT, x_addL, x_true, x_false]
          exact ⟨p0, hll, stp num en 0 (by rw [if_neg (fun z => c1 z.1)])⟩
      by_cases c0 : hi = j
      · refine ite_t (decide_eq_true (by omega)) ⟨_, gp lo (by omega), ?_⟩
        exact tail _ (by rw [if_pos c0]) _ rfl
      · refine ite_f (by rw [decide_eq_false (by omega)]; decide) ?_
        have := tail 0 (by rw [if_neg c0]) _ rfl
        try simp only [s_mVar0, s_mVarS, s_mVarO0, s_mVarOS, s_isObj_lst, s_isObj_dic, s_mC, s_mOp, s_mOp1, s_mB, s_mNil, s_mCons, s_mTup, s_mLst, s_mCall, s_mTB, s_mNot, s_mAnd, s_mOr, s_mAndV, s_mOrV, s_mIf, s_mYes, s_mSl, s_mNo, s_mPart, s_mLc, s_mItems, s_mRng1, s_mRng2, s_mEnum, s_mChain, s_seqT, s_seqL, s_sNext, s_sSeq, s_sIf, s_sSet, s_sRet, s_sRetN, s_sBreak, s_sCont, s_sDrop, s_sPar, s_setN0, s_setNS, s_sAsg, s_sApp, s_sAug, s_sFor, s_sSrc, s_gmN, s_gmT, s_gmCons, s_gmNil, s_wipe0, s_wipeS, s_oSub, s_oAddI, s_oAdd, s_oLt, s_oLe, s_oGt, s_oGe, s_oNeg, s_oNot, s_oMul, s_oMulW, s_oMod, s_oFdiv, s_oPow, s_oIsN, s_oNotN, s_oIsB, s_oNotB, s_isNon_int, s_isNon_non, s_isNon_bl, s_isNon_str, s_isNon_tup, s_isNon_lst, s_isNon_dic, s_oEqI, s_oNeI, s_oIxT, s_oIxL, s_oSlT, s_oSlL, s_oRevT, s_oRevL, s_oInt, s_oIntB, s_oAbs, s_oMax2, s_oMin2, s_oLen, s_plenT, s_plenL, s_plenD, s_plenS, s_oTupleL, s_oTupleT, s_oListL, s_oListT, List.set_cons_succ, List.set_cons_zero, List.append_nil, true_and, x_bl, x_int, x_some, x_addT, x_addL, x_true, x_false]
        simp only [s_oAdd, s_oAddI, s_oMod] at this
        exact this
    · obtain ⟨hm, y8, y9, y10, rfl⟩ := hE2
      try simp only [s_mVar0, s_mVarS, s_mVarO0, s_mVarOS, s_isObj_lst, s_isObj_dic, s_mC, s_mOp, s_mOp1, s_mB, s_mNil, s_mCons, s_mTup, s_mLst, s_mCall, s_mTB, s_mNot, s_mAnd, s_mOr, s_mAndV, s_mOrV, s_mIf, s_mYes, s_mSl, s_mNo, s_mPart, s_mLc, s_mItems, s_mRng1, s_mRng2, s_mEnum, s_mChain, s_seqT, s_seqL, s_sNext, s_sSeq, s_sIf, s_sSet, s_sRet, s_sRetN, s_sBreak, s_sCont, s_sDrop, s_sPar, s_setN0, s_setNS, s_sAsg, s_sApp, s_sAug, s_sFor, s_sSrc, s_gmN, s_gmT, s_gmCons, s_gmNil, s_wipe0, s_wipeS, s_oSub, s_oAddI, s_oAdd, s_oLt, s_oLe, s_oGt, s_oGe, s_oNeg, s_oNot, s_oMul, s_oMulW, s_oMod, s_oFdiv, s_oPow, s_oIsN, s_oNotN, s_oIsB, s_oNotB, s_isNon_int, s_isNon_non, s_isNon_bl, s_isNon_str, s_isNon_tup, s_isNon_lst, s_isNon_dic, s_oEqI, s_oNeI, s_oIxT, s_oIxL, s_oSlT, s_oSlL, s_oRevT, s_oRevL, s_oInt, s_oIntB, s_oAbs, s_oMax2, s_oMin2, s_oLen, s_plenT, s_plenL, s_plenD, s_plenS, s_oTupleL, s_oTupleT, s_oListL, s_oListT, List.set_cons_succ, List.set_cons_zero, List.append_nil, true_and, x_bl, x_int, x_some, x_addT, x_addL, x_true, x_false]
      refine ⟨_, rfl, small_line (by rw [List.length_map, List.length_map, List.length_range]; omega), hN _ ⟨by omega, some (.int (j : Int)), some (lI (((sps t).take (sps t).length).map (co p y j))), y8, y9, y10, ?_⟩⟩
      rw [List.take_length, List.range_succ, List.map_append, List.map_append]
      rfl
  · obtain ⟨hj, y4, y7, y8, y9, y10, rfl⟩ := hE
    rw [rng_len]
    try simp only [s_mVar0, s_mVarS, s_mVarO0, s_mVarOS, s_isObj_lst, s_isObj_dic, s_mC, s_mOp, s_mOp1, s_mB, s_mNil, s_mCons, s_mTup, s_mLst, s_mCall, s_mTB, s_mNot, s_mAnd, s_mOr, s_mAndV, s_mOrV, s_mIf, s_mYes, s_mSl, s_mNo, s_mPart, s_mLc, s_mItems, s_mRng1, s_mRng2, s_mEnum, s_mChain, s_seqT, s_seqL, s_sNext, s_sSeq, s_sIf, s_sSet, s_sRet, s_sRetN, s_sBreak, s_sCont, s_sDrop, s_sPar, s_setN0, s_setNS, s_sAsg, s_sApp, s_sAug, s_sFor, s_sSrc, s_gmN, s_gmT, s_gmCons, s_gmNil, s_wipe0, s_wipeS, s_oSub, s_oAddI, s_oAdd, s_oLt, s_oLe, s_oGt, s_oGe, s_oNeg, s_oNot, s_oMul, s_oMulW, s_oMod, s_oFdiv, s_oPow, s_oIsN, s_oNotN, s_oIsB, s_oNotB, s_isNon_int, s_isNon_non, s_isNon_bl, s_isNon_str, s_isNon_tup, s_isNon_lst, s_isNon_dic, s_oEqI, s_oNeI, s_oIxT, s_oIxL, s_oSlT, s_oSlL, s_oRevT, s_oRevL, s_oInt, s_oIntB, s_oAbs, s_oMax2, s_oMin2, s_oLen, s_plenT, s_plenL, s_plenD, s_plenS, s_oTupleL, s_oTupleT, s_oListL, s_oListT, List.set_cons_succ, List.set_cons_zero, List.append_nil, true_and, x_bl, x_int, x_some, x_addT, x_addL, x_true, x_false]
    exact h
end K25

set_option maxHeartbeats 2000000
namespace K25
open PySem L2 PM
/-! ### all lots -/
def lotsGo (acc : List (List Int)) (h : Int) : List (List Int) := acc ++ acc.map fun o => o ++ [h]
def lotsF (lot : List Int) : List (List Int) := lot.foldl lotsGo [[]]
theorem lots_len : ∀ {lot : List Int} {acc : List (List Int)}, (lot.foldl lotsGo acc).length = acc.length * 2 ^ lot.length
  | [], acc => by simp
  | h :: lot, acc => by
    rw [List.foldl_cons, lots_len]
    unfold lotsGo
    rw [List.length_append, List.length_map, List.length_cons, Nat.pow_succ]
    rw [← Nat.two_mul, Nat.mul_comm 2 acc.length, Nat.mul_assoc, Nat.mul_comm 2]
theorem mem_lots : ∀ {lot : List Int} {acc : List (List Int)} {s : List Int}, s ∈ lot.foldl lotsGo acc ↔ ∃ a u, a ∈ acc ∧ u.Sublist lot ∧ s = a ++ u
  | [], acc, s => by
    show s ∈ acc ↔ _
    constructor
    · intro h; exact ⟨s, [], h, List.Sublist.refl _, by simp⟩
    · rintro ⟨a, u, ha, hu, rfl⟩
      rw [List.sublist_nil.mp hu, List.append_nil]; exact ha
  | h :: lot, acc, s => by
    rw [List.foldl_cons, mem_lots]
    constructor
    · rintro ⟨a, u, ha, hu, rfl⟩
      unfold lotsGo at ha
      rcases List.mem_append.mp ha with z | z
      · exact ⟨a, u, z, List.Sublist.cons _ hu, rfl⟩
      · obtain ⟨o, ho, rfl⟩ := List.mem_map.mp z
        exact ⟨o, h :: u, ho, List.Sublist.cons_cons _ hu, by simp⟩
    · rintro ⟨a, u, ha, hu, rfl⟩
      cases hu with
      | cons _ hu => exact ⟨a, u, List.mem_append_left _ ha, hu, rfl⟩
      | cons_cons _ hu => exact ⟨a ++ [h], _, List.mem_append_right _ (List.mem_map.mpr ⟨a, ha, rfl⟩), hu, by simp⟩
theorem mem_lotsF {lot s : List Int} : s ∈ lotsF lot ↔ s.Sublist lot := by
  unfold lotsF
  rw [mem_lots]
  constructor
  · rintro ⟨a, u, ha, hu, rfl⟩
    rw [List.mem_singleton.mp ha]; exact hu
  · intro h; exact ⟨[], s, List.mem_singleton.mpr rfl, h, rfl⟩
def sp_l_lots : PM.Spec := fun ps P => ∃ lot : List Int, ps = [tI lot] ∧ lot.length ≤ 8 ∧ P (.lst ((lotsF lot).map tI))
theorem h_l_lots (ps : List PV) (Q : PV → Prop) (h : sp_l_lots ps Q) : t_l_lots { nx := fun _ => nxOf .cl Q, rt := Q } (startE n_l_lots.length ps) := by
  obtain ⟨lot, rfl, hl, h⟩ := h
  show t_l_lots _ [some (tI lot), none, none, none]
  unfold t_l_lots
  try simp only [s_mVar0, s_mVarS, s_mVarO0, s_mVarOS, s_isObj_lst, s_isObj_dic, s_mC, s_mOp, s_mOp1, s_mB, s_mNil, s_mCons, s_mTup, s_mLst, s_mCall, s_mTB, s_mNot, s_mAnd, s_mOr, s_mAndV, s_mOrV, s_mIf, s_mYes, s_mSl, s_mNo, s_mPart, s_mLc, s_mItems, s_mRng1, s_mRng2, s_mEnum, s_mChain, s_seqT, s_seqL, s_sNext, s_sSeq, s_sIf, s_sSet, s_sRet, s_sRetN, s_sBreak, s_sCont, s_sDrop, s_sPar, s_setN0, s_setNS, s_sAsg, s_sApp, s_sAug, s_sFor, s_sSrc, s_gmN, s_gmT, s_gmCons, s_gmNil, s_wipe0, s_wipeS, s_oSub, s_oAddI, s_oAdd, s_oLt, s_oLe, s_oGt, s_oGe, s_oNeg, s_oNot, s_oMul, s_oMulW, s_oMod, s_oFdiv, s_oPow, s_oIsN, s_oNotN, s_oIsB, s_oNotB, s_isNon_int, s_isNon_non, s_isNon_bl, s_isNon_str, s_isNon_tup, s_isNon_lst, s_isNon_dic, s_oEqI, s_oNeI, s_oIxT, s_oIxL, s_oSlT, s_oSlL, s_oRevT, s_oRevL, s_oInt, s_oIntB, s_oAbs, s_oMax2, s_oMin2, s_oLen, s_plenT, s_plenL, s_plenD, s_plenS, s_oTupleL, s_oTupleT, s_oListL, s_oListT, List.set_cons_succ, List.set_cons_zero, List.append_nil, true_and, x_bl, x_int, x_some, x_addT, x_addL, x_true, x_false]
  refine ⟨Nat.zero_le _, by exact line (by simp), ?_⟩
  refine for_inv (emb := PV.int) (fun i e => i ≤ lot.length ∧ ∃ y2, e = [some (tI lot), some (.lst (((lot.take i).foldl lotsGo [[]]).map tI)), y2, none]) ⟨Nat.zero_le _, none, rfl⟩ (fun i x e N hx hE hN => ?_) (fun e hE => ?_)
  · obtain ⟨hi, y2, rfl⟩ := hE
    have hil := (List.getElem?_eq_some_iff.mp hx).1
    rw [s_gmN]
    try simp only [s_mVar0, s_mVarS, s_mVarO0, s_mVarOS, s_isObj_lst, s_isObj_dic, s_mC, s_mOp, s_mOp1, s_mB, s_mNil, s_mCons, s_mTup, s_mLst, s_mCall, s_mTB, s_mNot, s_mAnd, s_mOr, s_mAndV, s_mOrV, s_mIf, s_mYes, s_mSl, s_mNo, s_mPart, s_mLc, s_mItems, s_mRng1, s_mRng2, s_mEnum, s_mChain, s_seqT, s_seqL, s_sNext, s_sSeq, s_sIf, s_sSet, s_sRet, s_sRetN, s_sBreak, s_sCont, s_sDrop, s_sPar, s_setN0, s_setNS, s_sAsg, s_sApp, s_sAug, s_sFor, s_sSrc, s_gmN, s_gmT, s_gmCons, s_gmNil, s_wipe0, s_wipeS, s_oSub, s_oAddI, s_oAdd, s_oLt, s_oLe, s_oGt, s_oGe, s_oNeg, s_oNot, s_oMul, s_oMulW, s_oMod, s_oFdiv, s_oPow, s_oIsN, s_oNotN, s_oIsB, s_oNotB, s_isNon_int, s_isNon_non, s_isNon_bl, s_isNon_str, s_isNon_tup, s_isNon_lst, s_isNon_dic, s_oEqI, s_oNeI, s_oIxT, s_oIxL, s_oSlT, s_oSlL, s_oRevT, s_oRevL, s_oInt, s_oIntB, s_oAbs, s_oMax2, s_oMin2, s_oLen, s_plenT, s_plenL, s_plenD, s_plenS, s_oTupleL, s_oTupleT, s_oListL, s_oListT, List.set_cons_succ, List.set_cons_zero, List.append_nil, true_and, x_bl, x_int, x_some, x_addT, x_addL, x_true, x_false]
    obtain ⟨acc, hacc⟩ : ∃ acc, acc = (lot.take i).foldl lotsGo [[]] := ⟨_, rfl⟩
    have hal : acc.length ≤ 256 := by
      rw [hacc, lots_len, List.length_take, Nat.min_eq_left (by omega)]
      have : 2 ^ i ≤ 2 ^ 8 := Nat.pow_le_pow_right (by decide) (by omega)
      simp
      omega
    rw [← hacc]
    refine comp_map (emb := tI) (f := fun o => tI (o ++ [x])) (fun o ho => ⟨_, fun k hk => s_gmN.mpr hk, fun Q hQ => hQ, fun Q hQ => ?_⟩) (line (by omega)) ?_
    · try simp only [s_mVar0, s_mVarS, s_mVarO0, s_mVarOS, s_isObj_lst, s_isObj_dic, s_mC, s_mOp, s_mOp1, s_mB, s_mNil, s_mCons, s_mTup, s_mLst, s_mCall, s_mTB, s_mNot, s_mAnd, s_mOr, s_mAndV, s_mOrV, s_mIf, s_mYes, s_mSl, s_mNo, s_mPart, s_mLc, s_mItems, s_mRng1, s_mRng2, s_mEnum, s_mChain, s_seqT, s_seqL, s_sNext, s_sSeq, s_sIf, s_sSet, s_sRet, s_sRetN, s_sBreak, s_sCont, s_sDrop, s_sPar, s_setN0, s_setNS, s_sAsg, s_sApp, s_sAug, s_sFor, s_sSrc, s_gmN, s_gmT, s_gmCons, s_gmNil, s_wipe0, s_wipeS, s_oSub, s_oAddI, s_oAdd, s_oLt, s_oLe, s_oGt, s_oGe, s_oNeg, s_oNot, s_oMul, s_oMulW, s_oMod, s_oFdiv, s_oPow, s_oIsN, s_oNotN, s_oIsB, s_oNotB, s_isNon_int, s_isNon_non, s_isNon_bl, s_isNon_str, s_isNon_tup, s_isNon_lst, s_isNon_dic, s_oEqI, s_oNeI, s_oIxT, s_oIxL, s_oSlT, s_oSlL, s_oRevT, s_oRevL, s_oInt, s_oIntB, s_oAbs, s_oMax2, s_oMin2, s_oLen, s_plenT, s_plenL, s_plenD, s_plenS, s_oTupleL, s_oTupleT, s_oListL, s_oListT, List.set_cons_succ, List.set_cons_zero, List.append_nil, true_and, x_bl, x_int, x_some, x_addT, x_addL, x_true, x_false]
      have hol : o.length ≤ 8 := by
        rw [hacc] at ho
        obtain ⟨a, u, ha, hu, rfl⟩ := mem_lots.mp ho
        rw [List.mem_singleton.mp ha]
        have := hu.length_le
        rw [List.length_take] at this
        simp
        omega
      refine ⟨line (by simp), line (by simp; omega), ?_⟩
      unfold tI at hQ
      rw [List.map_append] at hQ
      exact hQ
    · refine x_addL.mpr ⟨line (by simp; omega), hN _ ⟨by omega, some (.int x), ?_⟩⟩
      rw [take_succ hx, ← hacc]
      unfold lotsGo
      rw [List.map_append, List.map_map]
      rfl
  · obtain ⟨hi, y2, rfl⟩ := hE
    rw [List.take_length]
    try simp only [s_mVar0, s_mVarS, s_mVarO0, s_mVarOS, s_isObj_lst, s_isObj_dic, s_mC, s_mOp, s_mOp1, s_mB, s_mNil, s_mCons, s_mTup, s_mLst, s_mCall, s_mTB, s_mNot, s_mAnd, s_mOr, s_mAndV, s_mOrV, s_mIf, s_mYes, s_mSl, s_mNo, s_mPart, s_mLc, s_mItems, s_mRng1, s_mRng2, s_mEnum, s_mChain, s_seqT, s_seqL, s_sNext, s_sSeq, s_sIf, s_sSet, s_sRet, s_sRetN, s_sBreak, s_sCont, s_sDrop, s_sPar, s_setN0, s_setNS, s_sAsg, s_sApp, s_sAug, s_sFor, s_sSrc, s_gmN, s_gmT, s_gmCons, s_gmNil, s_wipe0, s_wipeS, s_oSub, s_oAddI, s_oAdd, s_oLt, s_oLe, s_oGt, s_oGe, s_oNeg, s_oNot, s_oMul, s_oMulW, s_oMod, s_oFdiv, s_oPow, s_oIsN, s_oNotN, s_oIsB, s_oNotB, s_isNon_int, s_isNon_non, s_isNon_bl, s_isNon_str, s_isNon_tup, s_isNon_lst, s_isNon_dic, s_oEqI, s_oNeI, s_oIxT, s_oIxL, s_oSlT, s_oSlL, s_oRevT, s_oRevL, s_oInt, s_oIntB, s_oAbs, s_oMax2, s_oMin2, s_oLen, s_plenT, s_plenL, s_plenD, s_plenS, s_oTupleL, s_oTupleT, s_oListL, s_oListT, List.set_cons_succ, List.set_cons_zero, List.append_nil, true_and, x_bl, x_int, x_some, x_addT, x_addL, x_true, x_false]
    exact h
end K25

set_option maxHeartbeats 2000000
namespace K25
open PySem L2 PM
/-! ### rows of numbers below p: what others span -/
abbrev Vec := Nat → Int
def vo (l : List Int) : Vec := fun c => l.getD c 0
def Comb (p : Int) (w : Nat) : List Vec → Vec → Prop
  | [], v => ∀ c, c < w → p ∣ v c
  | r :: rs, v => ∃ k : Int, Comb p w rs fun c => v c - k * r c
section
variable {p : Int} {w : Nat}
theorem dvd_of_eq {p a b : Int} (h : p ∣ a) (e : b = a) : p ∣ b := e ▸ h
theorem comb_cong : ∀ {rs : List Vec} {v u : Vec}, Comb p w rs v → (∀ c, c < w → p ∣ v c - u c) → Comb p w rs u
  | [], v, u, h, e => fun c hc => dvd_of_eq (Int.dvd_sub (h c hc) (e c hc)) (by omega)
  | r :: rs, v, u, ⟨k, h⟩, e => ⟨k, comb_cong h fun c hc => dvd_of_eq (e c hc) (by omega)⟩
theorem comb_pop {h : Vec} : ∀ {l1 l2 : List Vec} {v : Vec}, Comb p w (l1 ++ h :: l2) v → ∃ k : Int, Comb p w (l1 ++ l2) fun c => v c - k * h c
  | [], l2, v, ⟨k, hv⟩ => ⟨k, hv⟩
  | r :: l1, l2, v, ⟨k1, hv⟩ => by
    obtain ⟨k, h2⟩ := comb_pop (l1 := l1) hv
    exact ⟨k, k1, comb_cong h2 fun c hc => dvd_of_eq (Int.dvd_zero p) (by grind)⟩
theorem comb_elim {h : Vec} {f : Vec → Vec} {τ : Vec → Int} : ∀ {rs : List Vec} {v : Vec}, Comb p w rs v → (∀ r ∈ rs, ∀ c, c < w → p ∣ (r c - τ r * h c) - f r c) → ∃ m : Int, Comb p w (rs.map f) fun c => v c - m * h c
  | [], v, hv, _ => ⟨0, fun c hc => dvd_of_eq (hv c hc) (by grind)⟩
  | r :: rs, v, ⟨k, hv⟩, hf => by
    obtain ⟨m, hm⟩ := comb_elim (f := f) (τ := τ) hv fun q hq => hf q (List.mem_cons_of_mem _ hq)
    refine ⟨m + k * τ r, k, comb_cong hm fun c hc => ?_⟩
    have := Int.dvd_mul_of_dvd_right (b := k) (hf r (List.mem_cons_self ..) c hc)
    refine dvd_of_eq (Int.dvd_neg.mpr this) ?_
    grind
theorem comb_col : ∀ {rs : List Vec} {v : Vec} {c : Nat}, Comb p w rs v → (∀ r ∈ rs, p ∣ r c) → c < w → p ∣ v c
  | [], v, c, hv, _, hc => hv c hc
  | r :: rs, v, c, ⟨k, hv⟩, hr, hc => by
    have h1 := comb_col hv (fun q hq => hr q (List.mem_cons_of_mem _ hq)) hc
    have h2 := Int.dvd_mul_of_dvd_right (b := k) (hr r (List.mem_cons_self ..))
    exact dvd_of_eq (Int.dvd_add h1 h2) (by omega)
theorem comb_zero : ∀ {rs : List Vec} {v : Vec}, (∀ c, c < w → p ∣ v c) → Comb p w rs v
  | [], v, h => h
  | r :: rs, v, h => ⟨0, comb_zero fun c hc => dvd_of_eq (h c hc) (by omega)⟩
theorem comb_mem {r : Vec} {k : Int} : ∀ {rs : List Vec} {v : Vec}, r ∈ rs → Comb p w rs (fun c => v c - k * r c) → Comb p w rs v
  | q :: rs, v, hr, ⟨k', hv⟩ => by
    rcases List.mem_cons.mp hr with e | e
    · subst e
      refine ⟨k + k', comb_cong hv fun c hc => dvd_of_eq (Int.dvd_zero p) ?_⟩
      grind
    · refine ⟨k', comb_mem (k := k) e (comb_cong hv fun c hc => dvd_of_eq (Int.dvd_zero p) (by grind))⟩
theorem comb_rows {α : Type} {f g : α → Vec} : ∀ {xs : List α} {v : Vec}, Comb p w (xs.map f) v → (∀ x ∈ xs, ∀ c, c < w → p ∣ f x c - g x c) → Comb p w (xs.map g) v
  | [], v, h, _ => h
  | x :: xs, v, ⟨k, h⟩, e => ⟨k, comb_cong (comb_rows h fun y hy => e y (List.mem_cons_of_mem _ hy)) fun c hc => by
    have h1 : p ∣ (f x c - g x c) * k := Int.dvd_trans (e x (List.mem_cons_self ..) c hc) (Int.dvd_mul_right _ _)
    exact dvd_of_eq (Int.dvd_neg.mpr h1) (by grind)⟩
def dot : Nat → Vec → Vec → Int
  | 0, _, _ => 0
  | w + 1, r, A => dot w r A + r w * A w
theorem dot_cong {A : Vec} : ∀ {w : Nat} {u v : Vec}, (∀ c, c < w → p ∣ u c - v c) → p ∣ dot w u A - dot w v A
  | 0, u, v, _ => dvd_of_eq (Int.dvd_zero p) (by show (0 : Int) - 0 = 0; rfl)
  | w + 1, u, v, h => by
    have h1 := dot_cong (A := A) (w := w) fun c hc => h c (by omega)
    have h2 : p ∣ (u w - v w) * A w := Int.dvd_trans (h w (by omega)) (Int.dvd_mul_right _ _)
    refine dvd_of_eq (Int.dvd_add h1 h2) ?_
    show dot w u A + u w * A w - (dot w v A + v w * A w) = _
    grind
theorem dot_sub {A : Vec} {r h : Vec} {k : Int} : ∀ {w : Nat}, dot w (fun c => r c - k * h c) A = dot w r A - k * dot w h A
  | 0 => by show (0 : Int) = 0 - k * 0; omega
  | w + 1 => by
    show dot w _ A + (r w - k * h w) * A w = dot w r A + r w * A w - k * (dot w h A + h w * A w)
    rw [dot_sub]
    grind
end
/-- p a prime, as far as it is asked -/
structure PP (p : Int) : Prop where
  one : 1 < p
  few : p ≤ 100
  inv : ∀ a, 0 < a → a < p → ∃ b, 1 ≤ b ∧ b < p ∧ b * a % p = 1
def nr (p : Int) (w at_ : Nat) (back : Int) (hd v : List Int) : List Int := (List.range w).map fun c => (vo v c - vo v at_ * back % p * vo hd c) % p
theorem vo_nr {p back : Int} {w at_ : Nat} {hd v : List Int} {c : Nat} (hc : c < w) : vo (nr p w at_ back hd v) c = (vo v c - vo v at_ * back % p * vo hd c) % p := by
  show ((List.range w).map _).getD c 0 = _
  rw [List.getD_eq_getElem?_getD, List.getElem?_map, List.getElem?_range hc]; rfl
theorem mod_dvd {p x : Int} : p ∣ x - x % p := by
  refine ⟨x / p, ?_⟩
  have := Int.mul_ediv_add_emod x p
  omega
structure Stt (p : Int) (w n : Nat) (rows0 : List (List Int)) (form0 : List Int) (left : List (List Int)) (fm : List Int) : Prop where
  mat : ∀ r ∈ left, r.length = w ∧ ∀ x ∈ r, 0 ≤ x ∧ x < p
  fml : fm.length = w ∧ ∀ x ∈ fm, 0 ≤ x ∧ x < p
  zero : ∀ r ∈ left, ∀ c, c < n → p ∣ vo r c
  comb : Comb p w (rows0.map vo) (vo form0) → Comb p w (left.map vo) (vo fm) ∧ ∀ c, c < n → p ∣ vo fm c
  sep : ∀ A, (∀ r ∈ rows0, p ∣ dot w (vo r) A) → ¬ p ∣ dot w (vo form0) A → (∀ r ∈ left, p ∣ dot w (vo r) A) ∧ ¬ p ∣ dot w (vo fm) A
section
variable {p : Int} {w n : Nat} {rows0 left : List (List Int)} {form0 fm : List Int}
theorem Stt.skip (h : Stt p w n rows0 form0 left fm) (hn : n < w) (hz : ∀ r ∈ left, vo r n = 0) : Stt p w (n + 1) rows0 form0 left fm := by
  refine ⟨h.mat, h.fml, fun r hr c hc => ?_, fun hc => ?_, h.sep⟩
  · by_cases e : c = n
    · subst e; rw [hz r hr]; exact Int.dvd_zero p
    · exact h.zero r hr c (by omega)
  · obtain ⟨h1, h2⟩ := h.comb hc
    refine ⟨h1, fun c hc => ?_⟩
    by_cases e : c = n
    · subst e
      refine comb_col h1 (fun r hr => ?_) hn
      obtain ⟨l, hl, rfl⟩ := List.mem_map.mp hr
      rw [hz l hl]; exact Int.dvd_zero p
    · exact h2 c (by omega)
theorem Stt.step {l1 l2 : List (List Int)} {hd : List Int} {back : Int} (h : Stt p w n rows0 form0 (l1 ++ hd :: l2) fm) (p0 : 0 < p) (hn : n < w) (hb : back * vo hd n % p = 1) : Stt p w (n + 1) rows0 form0 ((l1 ++ l2).map (nr p w n back hd)) (nr p w n back hd fm) := by
  have hhd : hd ∈ l1 ++ hd :: l2 := List.mem_append_right _ (List.mem_cons_self ..)
  have hsub : ∀ r ∈ l1 ++ l2, r ∈ l1 ++ hd :: l2 := fun r hr => by
    rcases List.mem_append.mp hr with z | z
    · exact List.mem_append_left _ z
    · exact List.mem_append_right _ (List.mem_cons_of_mem _ z)
  obtain ⟨τ, hτ⟩ : ∃ τ : Vec → Int, τ = fun v => v n * back % p := ⟨_, rfl⟩
  have hbk : p ∣ back * vo hd n - 1 := by
    have := mod_dvd (p := p) (x := back * vo hd n)
    rwa [hb] at this
  have tn : ∀ v : Vec, p ∣ v n - τ v * vo hd n := fun v => by
    have h1 : p ∣ v n * back - v n * back % p := mod_dvd
    have h2 : p ∣ (v n * back - v n * back % p) * vo hd n := Int.dvd_trans h1 (Int.dvd_mul_right _ _)
    have h3 : p ∣ (back * vo hd n - 1) * v n := Int.dvd_trans hbk (Int.dvd_mul_right _ _)
    rw [hτ]
    refine dvd_of_eq (Int.dvd_sub h2 h3) ?_
    grind
  have en : ∀ v : List Int, ∀ c, c < w → p ∣ (vo v c - τ (vo v) * vo hd c) - vo (nr p w n back hd v) c := fun v c hc => by
    rw [vo_nr hc, hτ]
    exact mod_dvd
  have zn : ∀ v : List Int, (∀ c, c < n → p ∣ vo v c) → ∀ c, c < n + 1 → p ∣ vo (nr p w n back hd v) c := fun v hv c hc => by
    have e := en v c (by omega)
    by_cases z : c = n
    · subst z
      exact dvd_of_eq (Int.dvd_sub (tn (vo v)) e) (by omega)
    · have h1 := hv c (by omega)
      have h2 : p ∣ τ (vo v) * vo hd c := Int.dvd_trans (h.zero hd hhd c (by omega)) (Int.dvd_mul_left _ _)
      exact dvd_of_eq (Int.dvd_sub (Int.dvd_sub h1 h2) e) (by omega)
  have fine : ∀ v : List Int, (nr p w n back hd v).length = w ∧ ∀ x ∈ nr p w n back hd v, 0 ≤ x ∧ x < p := fun v => by
    unfold nr
    refine ⟨by rw [List.length_map, List.length_range], fun x hx => ?_⟩
    obtain ⟨c, _, rfl⟩ := List.mem_map.mp hx
    exact ⟨Int.emod_nonneg _ (by omega), Int.emod_lt_of_pos _ p0⟩
  refine ⟨fun r hr => ?_, fine fm, fun r hr => ?_, fun hc => ?_, fun A hA hnf => ?_⟩
  · obtain ⟨v, _, rfl⟩ := List.mem_map.mp hr
    exact fine v
  · obtain ⟨v, hv, rfl⟩ := List.mem_map.mp hr
    exact zn v (h.zero v (hsub v hv))
  · obtain ⟨h1, h2⟩ := h.comb hc
    refine ⟨?_, zn fm h2⟩
    rw [List.map_append, List.map_cons] at h1
    obtain ⟨k, hk⟩ := comb_pop h1
    rw [← List.map_append] at hk
    obtain ⟨f, hf⟩ : ∃ f : Vec → Vec, f = fun v => fun c => (v c - τ v * vo hd c) % p := ⟨_, rfl⟩
    obtain ⟨m, hm⟩ := comb_elim (f := f) (τ := τ) hk fun r _ c _ => by rw [hf]; exact mod_dvd
    have ef : ((l1 ++ l2).map (nr p w n back hd)).map vo = ((l1 ++ l2).map (nr p w n back hd)).map vo := rfl
    have hm2 : Comb p w (((l1 ++ l2).map (nr p w n back hd)).map vo) fun c => vo fm c - k * vo hd c - m * vo hd c := by
      rw [List.map_map] at hm ⊢
      refine comb_rows hm fun v _ c hc => ?_
      show p ∣ f (vo v) c - vo (nr p w n back hd v) c
      rw [vo_nr hc, hf, hτ]
      exact dvd_of_eq (Int.dvd_zero p) (Int.sub_self _)
    have colz : p ∣ vo fm n - k * vo hd n - m * vo hd n := comb_col hm2 (fun r hr => by
      obtain ⟨l, hl, rfl⟩ := List.mem_map.mp hr
      obtain ⟨v, hv, rfl⟩ := List.mem_map.mp hl
      exact zn v (h.zero v (hsub v hv)) n (by omega)) hn
    have d1 : p ∣ (k + m - τ (vo fm)) * vo hd n := dvd_of_eq (Int.dvd_sub (tn (vo fm)) colz) (by grind)
    have d2 : p ∣ k + m - τ (vo fm) := by
      have h3 : p ∣ (k + m - τ (vo fm)) * vo hd n * back := Int.dvd_trans d1 (Int.dvd_mul_right _ _)
      have h4 : p ∣ (back * vo hd n - 1) * (k + m - τ (vo fm)) := Int.dvd_trans hbk (Int.dvd_mul_right _ _)
      exact dvd_of_eq (Int.dvd_sub h3 h4) (by grind)
    refine comb_cong hm2 fun c hcw => ?_
    have h5 : p ∣ (k + m - τ (vo fm)) * vo hd c := Int.dvd_trans d2 (Int.dvd_mul_right _ _)
    exact dvd_of_eq (Int.dvd_sub (en fm c hcw) h5) (by grind)
  · obtain ⟨h1, h2⟩ := h.sep A hA hnf
    have dn : ∀ v : List Int, p ∣ dot w (vo v) A - dot w (vo (nr p w n back hd v)) A := fun v => by
      have h3 := dot_cong (A := A) (en v)
      rw [dot_sub] at h3
      have h4 : p ∣ τ (vo v) * dot w (vo hd) A := Int.dvd_trans (h1 hd hhd) (Int.dvd_mul_left _ _)
      exact dvd_of_eq (Int.dvd_add h3 h4) (by grind)
    refine ⟨fun r hr => ?_, fun z => h2 ?_⟩
    · obtain ⟨v, hv, rfl⟩ := List.mem_map.mp hr
      exact dvd_of_eq (Int.dvd_sub (h1 v (hsub v hv)) (dn v)) (by omega)
    · exact dvd_of_eq (Int.dvd_add z (dn fm)) (by omega)
theorem Stt.done (h : Stt p w w rows0 form0 left fm) : (Comb p w (rows0.map vo) (vo form0) → fm.all (fun x => decide (x = 0)) = true) ∧ ∀ A, (∀ r ∈ rows0, p ∣ dot w (vo r) A) → ¬ p ∣ dot w (vo form0) A → fm.all (fun x => decide (x = 0)) = false := by
  constructor
  · intro hc
    obtain ⟨_, h2⟩ := h.comb hc
    rw [List.all_eq_true]
    intro x hx
    obtain ⟨i, hi, rfl⟩ := List.mem_iff_getElem.mp hx
    have h3 := h2 i (by rw [← h.fml.1]; exact hi)
    have e : vo fm i = fm[i] := by show fm.getD i 0 = _; rw [List.getD_eq_getElem?_getD, List.getElem?_eq_getElem hi]; rfl
    rw [e] at h3
    obtain ⟨b0, b1⟩ := h.fml.2 _ hx
    exact decide_eq_true (by have h4 := Int.emod_eq_zero_of_dvd h3; rwa [Int.emod_eq_of_lt b0 b1] at h4)
  · intro A hA hnf
    obtain ⟨_, h2⟩ := h.sep A hA hnf
    cases q : fm.all (fun x => decide (x = 0)) with
    | false => rfl
    | true =>
      exfalso
      refine h2 ?_
      have hz : ∀ c, vo fm c = 0 := fun c => by
        show fm.getD c 0 = 0
        rw [List.getD_eq_getElem?_getD]
        cases e : fm[c]? with
        | none => rfl
        | some x => exact of_decide_eq_true (List.all_eq_true.mp q x (List.mem_of_getElem? e))
      have : ∀ m, dot m (vo fm) A = 0 := fun m => by
        induction m with
        | zero => rfl
        | succ m ih =>
          show dot m _ A + vo fm m * A m = 0
          rw [ih, hz, Int.zero_mul]; rfl
      rw [this]; exact Int.dvd_zero p
end
end K25

set_option maxHeartbeats 4000000
namespace K25
open PySem L2 PM
def Mat (p : Int) (w : Nat) (rows : List (List Int)) : Prop := ∀ r ∈ rows, r.length = w ∧ ∀ x ∈ r, 0 ≤ x ∧ x < p
def sp_l_is_spanned : PM.Spec := fun ps P => ∃ (p : Int) (w : Nat) (rows : List (List Int)) (form : List Int), ps = [.int p, .lst (rows.map lI), lI form] ∧ PP p ∧ w ≤ 100 ∧ rows.length ≤ 100 ∧ Mat p w rows ∧ (form.length = w ∧ ∀ x ∈ form, 0 ≤ x ∧ x < p) ∧
  ∀ b : Bool, (Comb p w (rows.map vo) (vo form) → b = true) → (∀ A, (∀ r ∈ rows, p ∣ dot w (vo r) A) → ¬ p ∣ dot w (vo form) A → b = false) → P (.bl b)
theorem vo_at {l : List Int} {n : Nat} (h : n < l.length) : atI (l.map PV.int) (n : Int) = some (.int (vo l n)) := by
  rw [atI_map, atI_pos h, List.getElem?_eq_getElem h]
  show _ = some (PV.int (l.getD n 0))
  rw [List.getD_eq_getElem?_getD, List.getElem?_eq_getElem h]; rfl
theorem h_l_is_spanned (ps : List PV) (Q : PV → Prop) (h : sp_l_is_spanned ps Q) : t_l_is_spanned { nx := fun _ => nxOf .cl Q, rt := Q } (startE n_l_is_spanned.length ps) := by
  obtain ⟨p, w, rows, form, rfl, hp, hw, hrl, hmat, hform, h⟩ := h
  have p0 : 0 < p := by have := hp.one; omega
  have p1 := hp.few
  show t_l_is_spanned _ [some (.int p), some (.lst (rows.map lI)), some (lI form), none, none, none, none, none, none, none, none, none, none, none]
  unfold t_l_is_spanned
  try simp only [s_mVar0, s_mVarS, s_mVarO0, s_mVarOS, s_isObj_lst, s_isObj_dic, s_mC, s_mOp, s_mOp1, s_mB, s_mNil, s_mCons, s_mTup, s_mLst, s_mCall, s_mTB, s_mNot, s_mAnd, s_mOr, s_mAndV, s_mOrV, s_mIf, s_mYes, s_mSl, s_mNo, s_mPart, s_mLc, s_mItems, s_mRng1, s_mRng2, s_mEnum, s_mChain, s_seqT, s_seqL, s_sNext, s_sSeq, s_sIf, s_sSet, s_sRet, s_sRetN, s_sBreak, s_sCont, s_sDrop, s_sPar, s_setN0, s_setNS, s_sAsg, s_sApp, s_sAug, s_sFor, s_sSrc, s_gmN, s_gmT, s_gmCons, s_gmNil, s_wipe0, s_wipeS, s_oSub, s_oAddI, s_oAdd, s_oLt, s_oLe, s_oGt, s_oGe, s_oNeg, s_oNot, s_oMul, s_oMulW, s_oMod, s_oFdiv, s_oPow, s_oIsN, s_oNotN, s_oIsB, s_oNotB, s_isNon_int, s_isNon_non, s_isNon_bl, s_isNon_str, s_isNon_tup, s_isNon_lst, s_isNon_dic, s_oEqI, s_oNeI, s_oIxT, s_oIxL, s_oSlT, s_oSlL, s_oRevT, s_oRevL, s_oInt, s_oIntB, s_oAbs, s_oMax2, s_oMin2, s_oLen, s_plenT, s_plenL, s_plenD, s_plenS, s_oTupleL, s_oTupleT, s_oListL, s_oListT, List.set_cons_succ, List.set_cons_zero, List.append_nil, true_and, x_bl, x_int, x_some, x_addT, x_addL, x_true, x_false]
  refine comp_map (emb := lI) (f := lI) (fun r hr => ⟨_, fun k hk => s_gmN.mpr hk, fun Q hQ => hQ, fun Q hQ => ?_⟩) (line (by omega)) ?_
  · try simp only [s_mVar0, s_mVarS, s_mVarO0, s_mVarOS, s_isObj_lst, s_isObj_dic, s_mC, s_mOp, s_mOp1, s_mB, s_mNil, s_mCons, s_mTup, s_mLst, s_mCall, s_mTB, s_mNot, s_mAnd, s_mOr, s_mAndV, s_mOrV, s_mIf, s_mYes, s_mSl, s_mNo, s_mPart, s_mLc, s_mItems, s_mRng1, s_mRng2, s_mEnum, s_mChain, s_seqT, s_seqL, s_sNext, s_sSeq, s_sIf, s_sSet, s_sRet, s_sRetN, s_sBreak, s_sCont, s_sDrop, s_sPar, s_setN0, s_setNS, s_sAsg, s_sApp, s_sAug, s_sFor, s_sSrc, s_gmN, s_gmT, s_gmCons, s_gmNil, s_wipe0, s_wipeS, s_oSub, s_oAddI, s_oAdd, s_oLt, s_oLe, s_oGt, s_oGe, s_oNeg, s_oNot, s_oMul, s_oMulW, s_oMod, s_oFdiv, s_oPow, s_oIsN, s_oNotN, s_oIsB, s_oNotB, s_isNon_int, s_isNon_non, s_isNon_bl, s_isNon_str, s_isNon_tup, s_isNon_lst, s_isNon_dic, s_oEqI, s_oNeI, s_oIxT, s_oIxL, s_oSlT, s_oSlL, s_oRevT, s_oRevL, s_oInt, s_oIntB, s_oAbs, s_oMax2, s_oMin2, s_oLen, s_plenT, s_plenL, s_plenD, s_plenS, s_oTupleL, s_oTupleT, s_oListL, s_oListT, List.set_cons_succ, List.set_cons_zero, List.append_nil, true_and, x_bl, x_int, x_some, x_addT, x_addL, x_true, x_false]
    have := (hmat r hr).1
    refine comp_map (emb := PV.int) (f := PV.int) (fun x hx => ⟨_, fun k hk => s_gmN.mpr hk, fun Q hQ => hQ, fun Q hQ => ?_⟩) (line (by omega)) hQ
    try simp only [s_mVar0, s_mVarS, s_mVarO0, s_mVarOS, s_isObj_lst, s_isObj_dic, s_mC, s_mOp, s_mOp1, s_mB, s_mNil, s_mCons, s_mTup, s_mLst, s_mCall, s_mTB, s_mNot, s_mAnd, s_mOr, s_mAndV, s_mOrV, s_mIf, s_mYes, s_mSl, s_mNo, s_mPart, s_mLc, s_mItems, s_mRng1, s_mRng2, s_mEnum, s_mChain, s_seqT, s_seqL, s_sNext, s_sSeq, s_sIf, s_sSet, s_sRet, s_sRetN, s_sBreak, s_sCont, s_sDrop, s_sPar, s_setN0, s_setNS, s_sAsg, s_sApp, s_sAug, s_sFor, s_sSrc, s_gmN, s_gmT, s_gmCons, s_gmNil, s_wipe0, s_wipeS, s_oSub, s_oAddI, s_oAdd, s_oLt, s_oLe, s_oGt, s_oGe, s_oNeg, s_oNot, s_oMul, s_oMulW, s_oMod, s_oFdiv, s_oPow, s_oIsN, s_oNotN, s_oIsB, s_oNotB, s_isNon_int, s_isNon_non, s_isNon_bl, s_isNon_str, s_isNon_tup, s_isNon_lst, s_isNon_dic, s_oEqI, s_oNeI, s_oIxT, s_oIxL, s_oSlT, s_oSlL, s_oRevT, s_oRevL, s_oInt, s_oIntB, s_oAbs, s_oMax2, s_oMin2, s_oLen, s_plenT, s_plenL, s_plenD, s_plenS, s_oTupleL, s_oTupleT, s_oListL, s_oListT, List.set_cons_succ, List.set_cons_zero, List.append_nil, true_and, x_bl, x_int, x_some, x_addT, x_addL, x_true, x_false]
    exact hQ
  try simp only [s_mVar0, s_mVarS, s_mVarO0, s_mVarOS, s_isObj_lst, s_isObj_dic, s_mC, s_mOp, s_mOp1, s_mB, s_mNil, s_mCons, s_mTup, s_mLst, s_mCall, s_mTB, s_mNot, s_mAnd, s_mOr, s_mAndV, s_mOrV, s_mIf, s_mYes, s_mSl, s_mNo, s_mPart, s_mLc, s_mItems, s_mRng1, s_mRng2, s_mEnum, s_mChain, s_seqT, s_seqL, s_sNext, s_sSeq, s_sIf, s_sSet, s_sRet, s_sRetN, s_sBreak, s_sCont, s_sDrop, s_sPar, s_setN0, s_setNS, s_sAsg, s_sApp, s_sAug, s_sFor, s_sSrc, s_gmN, s_gmT, s_gmCons, s_gmNil, s_wipe0, s_wipeS, s_oSub, s_oAddI, s_oAdd, s_oLt, s_oLe, s_oGt, s_oGe, s_oNeg, s_oNot, s_oMul, s_oMulW, s_oMod, s_oFdiv, s_oPow, s_oIsN, s_oNotN, s_oIsB, s_oNotB, s_isNon_int, s_isNon_non, s_isNon_bl, s_isNon_str, s_isNon_tup, s_isNon_lst, s_isNon_dic, s_oEqI, s_oNeI, s_oIxT, s_oIxL, s_oSlT, s_oSlL, s_oRevT, s_oRevL, s_oInt, s_oIntB, s_oAbs, s_oMax2, s_oMin2, s_oLen, s_plenT, s_plenL, s_plenD, s_plenS, s_oTupleL, s_oTupleT, s_oListL, s_oListT, List.set_cons_succ, List.set_cons_zero, List.append_nil, true_and, x_bl, x_int, x_some, x_addT, x_addL, x_true, x_false]
  rw [List.length_map, hform.1, Int.toNat_natCast, rngP_rng]
  refine ⟨by omega, ?_⟩
  refine for_inv (fun n e => n ≤ w ∧ ∃ (left : List (List Int)) (fm : List Int) (y3 y6 y7 y8 y10 y11 : Option PV), left.length ≤ 100 ∧ Stt p w n rows form left fm ∧ e = [some (.int p), some (.lst (rows.map lI)), some (lI fm), y3, some (.lst (left.map lI)), some (.int (w : Int)), y6, y7, y8, none, y10, y11, none, none]) ⟨Nat.zero_le _, rows, form, none, none, none, none, none, none, hrl, ⟨hmat, hform, fun _ _ c hc => absurd hc (Nat.not_lt_zero _), fun hc => ⟨hc, fun c hc => absurd hc (Nat.not_lt_zero _)⟩, fun A hA hn => ⟨hA, hn⟩⟩, rfl⟩ (fun n x e N hx hE hN => ?_) (fun e hE => ?_)
  · obtain ⟨hn, left, fm, y3, y6, y7, y8, y10, y11, hll, hS, rfl⟩ := hE
    obtain ⟨hx0, hnw⟩ : x = (n : Int) ∧ n < w := by
      have hl := (List.getElem?_eq_some_iff.mp hx).1
      rw [rng_len] at hl
      rw [rng_get hl] at hx
      exact ⟨(Option.some.inj hx).symm, hl⟩
    subst hx0
    rw [s_gmN]
    try simp only [s_mVar0, s_mVarS, s_mVarO0, s_mVarOS, s_isObj_lst, s_isObj_dic, s_mC, s_mOp, s_mOp1, s_mB, s_mNil, s_mCons, s_mTup, s_mLst, s_mCall, s_mTB, s_mNot, s_mAnd, s_mOr, s_mAndV, s_mOrV, s_mIf, s_mYes, s_mSl, s_mNo, s_mPart, s_mLc, s_mItems, s_mRng1, s_mRng2, s_mEnum, s_mChain, s_seqT, s_seqL, s_sNext, s_sSeq, s_sIf, s_sSet, s_sRet, s_sRetN, s_sBreak, s_sCont, s_sDrop, s_sPar, s_setN0, s_setNS, s_sAsg, s_sApp, s_sAug, s_sFor, s_sSrc, s_gmN, s_gmT, s_gmCons, s_gmNil, s_wipe0, s_wipeS, s_oSub, s_oAddI, s_oAdd, s_oLt, s_oLe, s_oGt, s_oGe, s_oNeg, s_oNot, s_oMul, s_oMulW, s_oMod, s_oFdiv, s_oPow, s_oIsN, s_oNotN, s_oIsB, s_oNotB, s_isNon_int, s_isNon_non, s_isNon_bl, s_isNon_str, s_isNon_tup, s_isNon_lst, s_isNon_dic, s_oEqI, s_oNeI, s_oIxT, s_oIxL, s_oSlT, s_oSlL, s_oRevT, s_oRevL, s_oInt, s_oIntB, s_oAbs, s_oMax2, s_oMin2, s_oLen, s_plenT, s_plenL, s_plenD, s_plenS, s_oTupleL, s_oTupleT, s_oListL, s_oListT, List.set_cons_succ, List.set_cons_zero, List.append_nil, true_and, x_bl, x_int, x_some, x_addT, x_addL, x_true, x_false]
    rw [List.length_map, Int.toNat_natCast, rngP_rng]
    refine ⟨by omega, ?_⟩
    have hrow : ∀ x : Int, 0 ≤ x → x < left.length → ∃ r, r ∈ left ∧ left[x.toNat]? = some r ∧ atI (left.map lI) x = some (lI r) := fun x x0 x1 => by
      refine ⟨left[x.toNat]'(by omega), List.getElem_mem _, List.getElem?_eq_getElem (by omega), ?_⟩
      rw [atI_map, atI_nn x0 x1, List.getElem?_eq_getElem (by omega)]; rfl
    refine comp_emb (emb := PV.int) (xs := rng left.length) (tst := fun x => !decide (vo (left.getD x.toNat []) n = 0)) (f := PV.int) (fun x hx => ⟨_, fun k hk => s_gmN.mpr hk, fun Q hQ => ?_, fun _ Q hQ => ?_⟩) (by rw [List.length_nil, rng_len]; exact line (by omega)) ?_
    · try simp only [s_mVar0, s_mVarS, s_mVarO0, s_mVarOS, s_isObj_lst, s_isObj_dic, s_mC, s_mOp, s_mOp1, s_mB, s_mNil, s_mCons, s_mTup, s_mLst, s_mCall, s_mTB, s_mNot, s_mAnd, s_mOr, s_mAndV, s_mOrV, s_mIf, s_mYes, s_mSl, s_mNo, s_mPart, s_mLc, s_mItems, s_mRng1, s_mRng2, s_mEnum, s_mChain, s_seqT, s_seqL, s_sNext, s_sSeq, s_sIf, s_sSet, s_sRet, s_sRetN, s_sBreak, s_sCont, s_sDrop, s_sPar, s_setN0, s_setNS, s_sAsg, s_sApp, s_sAug, s_sFor, s_sSrc, s_gmN, s_gmT, s_gmCons, s_gmNil, s_wipe0, s_wipeS, s_oSub, s_oAddI, s_oAdd, s_oLt, s_oLe, s_oGt, s_oGe, s_oNeg, s_oNot, s_oMul, s_oMulW, s_oMod, s_oFdiv, s_oPow, s_oIsN, s_oNotN, s_oIsB, s_oNotB, s_isNon_int, s_isNon_non, s_isNon_bl, s_isNon_str, s_isNon_tup, s_isNon_lst, s_isNon_dic, s_oEqI, s_oNeI, s_oIxT, s_oIxL, s_oSlT, s_oSlL, s_oRevT, s_oRevL, s_oInt, s_oIntB, s_oAbs, s_oMax2, s_oMin2, s_oLen, s_plenT, s_plenL, s_plenD, s_plenS, s_oTupleL, s_oTupleT, s_oListL, s_oListT, List.set_cons_succ, List.set_cons_zero, List.append_nil, true_and, x_bl, x_int, x_some, x_addT, x_addL, x_true, x_false]
      obtain ⟨x0, x1⟩ := mem_rng.mp hx
      obtain ⟨r, hr, hg, ha⟩ := hrow x x0 x1
      refine ⟨_, ha, _, vo_at (by rw [(hS.mat r hr).1]; exact hnw), ?_⟩
      try simp only [s_mVar0, s_mVarS, s_mVarO0, s_mVarOS, s_isObj_lst, s_isObj_dic, s_mC, s_mOp, s_mOp1, s_mB, s_mNil, s_mCons, s_mTup, s_mLst, s_mCall, s_mTB, s_mNot, s_mAnd, s_mOr, s_mAndV, s_mOrV, s_mIf, s_mYes, s_mSl, s_mNo, s_mPart, s_mLc, s_mItems, s_mRng1, s_mRng2, s_mEnum, s_mChain, s_seqT, s_seqL, s_sNext, s_sSeq, s_sIf, s_sSet, s_sRet, s_sRetN, s_sBreak, s_sCont, s_sDrop, s_sPar, s_setN0, s_setNS, s_sAsg, s_sApp, s_sAug, s_sFor, s_sSrc, s_gmN, s_gmT, s_gmCons, s_gmNil, s_wipe0, s_wipeS, s_oSub, s_oAddI, s_oAdd, s_oLt, s_oLe, s_oGt, s_oGe, s_oNeg, s_oNot, s_oMul, s_oMulW, s_oMod, s_oFdiv, s_oPow, s_oIsN, s_oNotN, s_oIsB, s_oNotB, s_isNon_int, s_isNon_non, s_isNon_bl, s_isNon_str, s_isNon_tup, s_isNon_lst, s_isNon_dic, s_oEqI, s_oNeI, s_oIxT, s_oIxL, s_oSlT, s_oSlL, s_oRevT, s_oRevL, s_oInt, s_oIntB, s_oAbs, s_oMax2, s_oMin2, s_oLen, s_plenT, s_plenL, s_plenD, s_plenS, s_oTupleL, s_oTupleT, s_oListL, s_oListT, List.set_cons_succ, List.set_cons_zero, List.append_nil, true_and, x_bl, x_int, x_some, x_addT, x_addL, x_true, x_false]
      rw [List.getD_eq_getElem?_getD, hg] at hQ
      exact hQ
    · try simp only [s_mVar0, s_mVarS, s_mVarO0, s_mVarOS, s_isObj_lst, s_isObj_dic, s_mC, s_mOp, s_mOp1, s_mB, s_mNil, s_mCons, s_mTup, s_mLst, s_mCall, s_mTB, s_mNot, s_mAnd, s_mOr, s_mAndV, s_mOrV, s_mIf, s_mYes, s_mSl, s_mNo, s_mPart, s_mLc, s_mItems, s_mRng1, s_mRng2, s_mEnum, s_mChain, s_seqT, s_seqL, s_sNext, s_sSeq, s_sIf, s_sSet, s_sRet, s_sRetN, s_sBreak, s_sCont, s_sDrop, s_sPar, s_setN0, s_setNS, s_sAsg, s_sApp, s_sAug, s_sFor, s_sSrc, s_gmN, s_gmT, s_gmCons, s_gmNil, s_wipe0, s_wipeS, s_oSub, s_oAddI, s_oAdd, s_oLt, s_oLe, s_oGt, s_oGe, s_oNeg, s_oNot, s_oMul, s_oMulW, s_oMod, s_oFdiv, s_oPow, s_oIsN, s_oNotN, s_oIsB, s_oNotB, s_isNon_int, s_isNon_non, s_isNon_bl, s_isNon_str, s_isNon_tup, s_isNon_lst, s_isNon_dic, s_oEqI, s_oNeI, s_oIxT, s_oIxL, s_oSlT, s_oSlL, s_oRevT, s_oRevL, s_oInt, s_oIntB, s_oAbs, s_oMax2, s_oMin2, s_oLen, s_plenT, s_plenL, s_plenD, s_plenS, s_oTupleL, s_oTupleT, s_oListL, s_oListT, List.set_cons_succ, List.set_cons_zero, List.append_nil, true_and, x_bl, x_int, x_some, x_addT, x_addL, x_true, x_false]
      exact hQ
    rw [List.nil_append]
    obtain ⟨hs, hhs, hmem⟩ : ∃ hs : List Int, hs = (rng left.length).filter (fun x => !decide (vo (left.getD x.toNat []) n = 0)) ∧ ∀ x, x ∈ hs ↔ (0 ≤ x ∧ x < left.length) ∧ ¬ vo (left.getD x.toNat []) n = 0 := ⟨_, rfl, fun x => by rw [List.mem_filter, mem_rng]; simp⟩
    rw [← hhs]
    refine ⟨rfl, Nat.zero_le _, oEqI_nil ⟨_, rfl, ?_⟩⟩
    cases hs with
    | nil =>
      refine ite_t rfl (hN _ ⟨by omega, left, fm, some (.int (n : Int)), some (.lst []), y7, y8, y10, y11, hll, hS.skip hnw fun r hr => ?_, rfl⟩)
      obtain ⟨i, hi, rfl⟩ := List.mem_iff_getElem.mp hr
      apply Classical.byContradiction
      intro hz
      have := (hmem (i : Int)).mpr ⟨⟨by omega, by omega⟩, by rw [Int.toNat_natCast, List.getD_eq_getElem?_getD, List.getElem?_eq_getElem hi]; exact hz⟩
      cases this
    | cons h0 hs =>
      refine ite_f Bool.false_ne_true ?_
      obtain ⟨⟨a0, a1⟩, hnz⟩ := (hmem h0).mp (List.mem_cons_self ..)
      have hlt : h0.toNat < left.length := by omega
      obtain ⟨hd, hhd⟩ : ∃ hd, hd = left[h0.toNat] := ⟨_, rfl⟩
      have hdm : hd ∈ left := by rw [hhd]; exact List.getElem_mem _
      have hv : vo (left.getD h0.toNat []) n = vo hd n := by rw [List.getD_eq_getElem?_getD, List.getElem?_eq_getElem hlt, hhd]; rfl
      rw [hv] at hnz
      have hdl := (hS.mat hd hdm).1
      have hd0 : 0 < vo hd n ∧ vo hd n < p := by
        have e : vo hd n = hd[n]'(by omega) := by show hd.getD n 0 = _; rw [List.getD_eq_getElem?_getD, List.getElem?_eq_getElem (by omega)]; rfl
        have := (hS.mat hd hdm).2 _ (List.getElem_mem (by omega : n < hd.length))
        rw [← e] at this
        omega
      refine ⟨_, rfl, ?_⟩
      try simp only [s_mVar0, s_mVarS, s_mVarO0, s_mVarOS, s_isObj_lst, s_isObj_dic, s_mC, s_mOp, s_mOp1, s_mB, s_mNil, s_mCons, s_mTup, s_mLst, s_mCall, s_mTB, s_mNot, s_mAnd, s_mOr, s_mAndV, s_mOrV, s_mIf, s_mYes, s_mSl, s_mNo, s_mPart, s_mLc, s_mItems, s_mRng1, s_mRng2, s_mEnum, s_mChain, s_seqT, s_seqL, s_sNext, s_sSeq, s_sIf, s_sSet, s_sRet, s_sRetN, s_sBreak, s_sCont, s_sDrop, s_sPar, s_setN0, s_setNS, s_sAsg, s_sApp, s_sAug, s_sFor, s_sSrc, s_gmN, s_gmT, s_gmCons, s_gmNil, s_wipe0, s_wipeS, s_oSub, s_oAddI, s_oAdd, s_oLt, s_oLe, s_oGt, s_oGe, s_oNeg, s_oNot, s_oMul, s_oMulW, s_oMod, s_oFdiv, s_oPow, s_oIsN, s_oNotN, s_oIsB, s_oNotB, s_isNon_int, s_isNon_non, s_isNon_bl, s_isNon_str, s_isNon_tup, s_isNon_lst, s_isNon_dic, s_oEqI, s_oNeI, s_oIxT, s_oIxL, s_oSlT, s_oSlL, s_oRevT, s_oRevL, s_oInt, s_oIntB, s_oAbs, s_oMax2, s_oMin2, s_oLen, s_plenT, s_plenL, s_plenD, s_plenS, s_oTupleL, s_oTupleT, s_oListL, s_oListT, List.set_cons_succ, List.set_cons_zero, List.append_nil, true_and, x_bl, x_int, x_some, x_addT, x_addL, x_true, x_false]
      refine ⟨.int h0, by rw [List.map_cons, show (0 : Int) = ((0 : Nat) : Int) from rfl, atI_pos (by simp)]; rfl, h0, h0.toNat, lI hd, rfl, by omega, by rw [List.length_map]; unfold ixN; rw [if_pos a0, if_pos a1], by rw [List.getElem?_map, List.getElem?_eq_getElem hlt, hhd]; rfl, ?_⟩
      rw [erase_map]
      have el : left = left.take h0.toNat ++ hd :: left.drop (h0.toNat + 1) := by
        rw [hhd, ← List.drop_eq_getElem_cons hlt, List.take_append_drop]
      have er : left.eraseIdx h0.toNat = left.take h0.toNat ++ left.drop (h0.toNat + 1) := List.eraseIdx_eq_take_drop_succ ..
      obtain ⟨l1, hl1⟩ : ∃ l1, l1 = left.take h0.toNat := ⟨_, rfl⟩
      obtain ⟨l2, hl2⟩ : ∃ l2, l2 = left.drop (h0.toNat + 1) := ⟨_, rfl⟩
      rw [← hl1, ← hl2] at el er
      rw [er]
      rw [el] at hS
      have hsub : ∀ r ∈ l1 ++ l2, r ∈ l1 ++ hd :: l2 := fun r hr => by
        rcases List.mem_append.mp hr with z | z
        · exact List.mem_append_left _ z
        · exact List.mem_append_right _ (List.mem_cons_of_mem _ z)
      have hl12 : (l1 ++ l2).length ≤ 100 := by rw [← er, List.length_eraseIdx]; split <;> omega
      try simp only [s_mVar0, s_mVarS, s_mVarO0, s_mVarOS, s_isObj_lst, s_isObj_dic, s_mC, s_mOp, s_mOp1, s_mB, s_mNil, s_mCons, s_mTup, s_mLst, s_mCall, s_mTB, s_mNot, s_mAnd, s_mOr, s_mAndV, s_mOrV, s_mIf, s_mYes, s_mSl, s_mNo, s_mPart, s_mLc, s_mItems, s_mRng1, s_mRng2, s_mEnum, s_mChain, s_seqT, s_seqL, s_sNext, s_sSeq, s_sIf, s_sSet, s_sRet, s_sRetN, s_sBreak, s_sCont, s_sDrop, s_sPar, s_setN0, s_setNS, s_sAsg, s_sApp, s_sAug, s_sFor, s_sSrc, s_gmN, s_gmT, s_gmCons, s_gmNil, s_wipe0, s_wipeS, s_oSub, s_oAddI, s_oAdd, s_oLt, s_oLe, s_oGt, s_oGe, s_oNeg, s_oNot, s_oMul, s_oMulW, s_oMod, s_oFdiv, s_oPow, s_oIsN, s_oNotN, s_oIsB, s_oNotB, s_isNon_int, s_isNon_non, s_isNon_bl, s_isNon_str, s_isNon_tup, s_isNon_lst, s_isNon_dic, s_oEqI, s_oNeI, s_oIxT, s_oIxL, s_oSlT, s_oSlL, s_oRevT, s_oRevL, s_oInt, s_oIntB, s_oAbs, s_oMax2, s_oMin2, s_oLen, s_plenT, s_plenL, s_plenD, s_plenS, s_oTupleL, s_oTupleT, s_oListL, s_oListT, List.set_cons_succ, List.set_cons_zero, List.append_nil, true_and, x_bl, x_int, x_some, x_addT, x_addL, x_true, x_false]
      refine ⟨_, _, rfl, rfl, by omega, ?_⟩
      rw [show (p - 1).toNat = (p.toNat - 1) by omega, rngP_rng1]
      refine comp_emb (emb := PV.int) (xs := rng1 (p.toNat - 1)) (tst := fun y => decide (y * vo hd n % p = 1)) (f := PV.int) (fun y hy => ⟨_, fun k hk => s_gmN.mpr hk, fun Q hQ => ?_, fun _ Q hQ => ?_⟩) (by unfold rng1; rw [List.length_nil, List.length_map, List.length_range]; exact line (by omega)) ?_
      · try simp only [s_mVar0, s_mVarS, s_mVarO0, s_mVarOS, s_isObj_lst, s_isObj_dic, s_mC, s_mOp, s_mOp1, s_mB, s_mNil, s_mCons, s_mTup, s_mLst, s_mCall, s_mTB, s_mNot, s_mAnd, s_mOr, s_mAndV, s_mOrV, s_mIf, s_mYes, s_mSl, s_mNo, s_mPart, s_mLc, s_mItems, s_mRng1, s_mRng2, s_mEnum, s_mChain, s_seqT, s_seqL, s_sNext, s_sSeq, s_sIf, s_sSet, s_sRet, s_sRetN, s_sBreak, s_sCont, s_sDrop, s_sPar, s_setN0, s_setNS, s_sAsg, s_sApp, s_sAug, s_sFor, s_sSrc, s_gmN, s_gmT, s_gmCons, s_gmNil, s_wipe0, s_wipeS, s_oSub, s_oAddI, s_oAdd, s_oLt, s_oLe, s_oGt, s_oGe, s_oNeg, s_oNot, s_oMul, s_oMulW, s_oMod, s_oFdiv, s_oPow, s_oIsN, s_oNotN, s_oIsB, s_oNotB, s_isNon_int, s_isNon_non, s_isNon_bl, s_isNon_str, s_isNon_tup, s_isNon_lst, s_isNon_dic, s_oEqI, s_oNeI, s_oIxT, s_oIxL, s_oSlT, s_oSlL, s_oRevT, s_oRevL, s_oInt, s_oIntB, s_oAbs, s_oMax2, s_oMin2, s_oLen, s_plenT, s_plenL, s_plenD, s_plenS, s_oTupleL, s_oTupleT, s_oListL, s_oListT, List.set_cons_succ, List.set_cons_zero, List.append_nil, true_and, x_bl, x_int, x_some, x_addT, x_addL, x_true, x_false]
        obtain ⟨y0, y1⟩ := mem_rng1.mp hy
        refine ⟨_, vo_at (by omega), ?_⟩
        try simp only [s_mVar0, s_mVarS, s_mVarO0, s_mVarOS, s_isObj_lst, s_isObj_dic, s_mC, s_mOp, s_mOp1, s_mB, s_mNil, s_mCons, s_mTup, s_mLst, s_mCall, s_mTB, s_mNot, s_mAnd, s_mOr, s_mAndV, s_mOrV, s_mIf, s_mYes, s_mSl, s_mNo, s_mPart, s_mLc, s_mItems, s_mRng1, s_mRng2, s_mEnum, s_mChain, s_seqT, s_seqL, s_sNext, s_sSeq, s_sIf, s_sSet, s_sRet, s_sRetN, s_sBreak, s_sCont, s_sDrop, s_sPar, s_setN0, s_setNS, s_sAsg, s_sApp, s_sAug, s_sFor, s_sSrc, s_gmN, s_gmT, s_gmCons, s_gmNil, s_wipe0, s_wipeS, s_oSub, s_oAddI, s_oAdd, s_oLt, s_oLe, s_oGt, s_oGe, s_oNeg, s_oNot, s_oMul, s_oMulW, s_oMod, s_oFdiv, s_oPow, s_oIsN, s_oNotN, s_oIsB, s_oNotB, s_isNon_int, s_isNon_non, s_isNon_bl, s_isNon_str, s_isNon_tup, s_isNon_lst, s_isNon_dic, s_oEqI, s_oNeI, s_oIxT, s_oIxL, s_oSlT, s_oSlL, s_oRevT, s_oRevL, s_oInt, s_oIntB, s_oAbs, s_oMax2, s_oMin2, s_oLen, s_plenT, s_plenL, s_plenD, s_plenS, s_oTupleL, s_oTupleT, s_oListL, s_oListT, List.set_cons_succ, List.set_cons_zero, List.append_nil, true_and, x_bl, x_int, x_some, x_addT, x_addL, x_true, x_false]
        exact ⟨.inl ⟨by omega, by omega⟩, p0, hQ⟩
      · try simp only [s_mVar0, s_mVarS, s_mVarO0, s_mVarOS, s_isObj_lst, s_isObj_dic, s_mC, s_mOp, s_mOp1, s_mB, s_mNil, s_mCons, s_mTup, s_mLst, s_mCall, s_mTB, s_mNot, s_mAnd, s_mOr, s_mAndV, s_mOrV, s_mIf, s_mYes, s_mSl, s_mNo, s_mPart, s_mLc, s_mItems, s_mRng1, s_mRng2, s_mEnum, s_mChain, s_seqT, s_seqL, s_sNext, s_sSeq, s_sIf, s_sSet, s_sRet, s_sRetN, s_sBreak, s_sCont, s_sDrop, s_sPar, s_setN0, s_setNS, s_sAsg, s_sApp, s_sAug, s_sFor, s_sSrc, s_gmN, s_gmT, s_gmCons, s_gmNil, s_wipe0, s_wipeS, s_oSub, s_oAddI, s_oAdd, s_oLt, s_oLe, s_oGt, s_oGe, s_oNeg, s_oNot, s_oMul, s_oMulW, s_oMod, s_oFdiv, s_oPow, s_oIsN, s_oNotN, s_oIsB, s_oNotB, s_isNon_int, s_isNon_non, s_isNon_bl, s_isNon_str, s_isNon_tup, s_isNon_lst, s_isNon_dic, s_oEqI, s_oNeI, s_oIxT, s_oIxL, s_oSlT, s_oSlL, s_oRevT, s_oRevL, s_oInt, s_oIntB, s_oAbs, s_oMax2, s_oMin2, s_oLen, s_plenT, s_plenL, s_plenD, s_plenS, s_oTupleL, s_oTupleT, s_oListL, s_oListT, List.set_cons_succ, List.set_cons_zero, List.append_nil, true_and, x_bl, x_int, x_some, x_addT, x_addL, x_true, x_false]
        exact hQ
      rw [List.nil_append]
      obtain ⟨b0, hb1, hb2, hb3⟩ := hp.inv _ hd0.1 hd0.2
      obtain ⟨back, tl, htl⟩ : ∃ back tl, (rng1 (p.toNat - 1)).filter (fun y => decide (y * vo hd n % p = 1)) = back :: tl := by
        cases q : (rng1 (p.toNat - 1)).filter (fun y => decide (y * vo hd n % p = 1)) with
        | cons a b => exact ⟨a, b, rfl⟩
        | nil =>
          have : b0 ∈ (rng1 (p.toNat - 1)).filter (fun y => decide (y * vo hd n % p = 1)) := List.mem_filter.mpr ⟨mem_rng1.mpr ⟨hb1, by omega⟩, decide_eq_true hb3⟩
          rw [q] at this; cases this
      have hback : back ∈ (rng1 (p.toNat - 1)).filter (fun y => decide (y * vo hd n % p = 1)) := by rw [htl]; exact List.mem_cons_self ..
      obtain ⟨bk1, bk2⟩ := List.mem_filter.mp hback
      have bk2 := of_decide_eq_true bk2
      obtain ⟨bk3, bk4⟩ := mem_rng1.mp bk1
      rw [htl]
      refine ⟨.int back, by rw [List.map_cons, show (0 : Int) = ((0 : Nat) : Int) from rfl, atI_pos (by simp)]; rfl, ?_⟩
      try simp only [s_mVar0, s_mVarS, s_mVarO0, s_mVarOS, s_isObj_lst, s_isObj_dic, s_mC, s_mOp, s_mOp1, s_mB, s_mNil, s_mCons, s_mTup, s_mLst, s_mCall, s_mTB, s_mNot, s_mAnd, s_mOr, s_mAndV, s_mOrV, s_mIf, s_mYes, s_mSl, s_mNo, s_mPart, s_mLc, s_mItems, s_mRng1, s_mRng2, s_mEnum, s_mChain, s_seqT, s_seqL, s_sNext, s_sSeq, s_sIf, s_sSet, s_sRet, s_sRetN, s_sBreak, s_sCont, s_sDrop, s_sPar, s_setN0, s_setNS, s_sAsg, s_sApp, s_sAug, s_sFor, s_sSrc, s_gmN, s_gmT, s_gmCons, s_gmNil, s_wipe0, s_wipeS, s_oSub, s_oAddI, s_oAdd, s_oLt, s_oLe, s_oGt, s_oGe, s_oNeg, s_oNot, s_oMul, s_oMulW, s_oMod, s_oFdiv, s_oPow, s_oIsN, s_oNotN, s_oIsB, s_oNotB, s_isNon_int, s_isNon_non, s_isNon_bl, s_isNon_str, s_isNon_tup, s_isNon_lst, s_isNon_dic, s_oEqI, s_oNeI, s_oIxT, s_oIxL, s_oSlT, s_oSlL, s_oRevT, s_oRevL, s_oInt, s_oIntB, s_oAbs, s_oMax2, s_oMin2, s_oLen, s_plenT, s_plenL, s_plenD, s_plenS, s_oTupleL, s_oTupleT, s_oListL, s_oListT, List.set_cons_succ, List.set_cons_zero, List.append_nil, true_and, x_bl, x_int, x_some, x_addT, x_addL, x_true, x_false]
      refine ⟨Nat.zero_le _, _, rfl, ?_⟩
      show mForGo _ _ _ ((l1 ++ l2).map lI) _
      have tb : ∀ v : List Int, 0 ≤ vo v n * back % p ∧ vo v n * back % p < p := fun v => ⟨Int.emod_nonneg _ (by omega), Int.emod_lt_of_pos _ p0⟩
      have enr : ∀ v : List Int, ((rng w).map fun x => PV.int ((vo v x.toNat - vo v n * back % p * vo hd x.toNat) % p)) = (nr p w n back hd v).map PV.int := fun v => by
        unfold rng nr
        rw [List.map_map, List.map_map]
        refine List.map_congr_left fun c _ => ?_
        show PV.int _ = PV.int _
        rw [Int.toNat_natCast]
      refine for_inv (emb := lI) (fun m e => m ≤ (l1 ++ l2).length ∧ ∃ y10 y11, e = [some (.int p), some (.lst (rows.map lI)), some (lI fm), some (.int (n : Int)), some (.lst ((l1 ++ l2).map lI)), some (.int (w : Int)), some (.lst ((h0 :: hs).map PV.int)), some (lI hd), some (.int back), some (.lst ((((l1 ++ l2).take m).map (nr p w n back hd)).map lI)), y10, y11, none, none]) ⟨Nat.zero_le _, y10, y11, rfl⟩ (fun m r e N2 hr hE2 hN2 => ?_) (fun e hE2 => ?_)
      · obtain ⟨hm, y10, y11, rfl⟩ := hE2
        have hrl := (hS.mat r (hsub r (List.mem_of_getElem? hr))).1
        rw [s_gmN]
        try simp only [s_mVar0, s_mVarS, s_mVarO0, s_mVarOS, s_isObj_lst, s_isObj_dic, s_mC, s_mOp, s_mOp1, s_mB, s_mNil, s_mCons, s_mTup, s_mLst, s_mCall, s_mTB, s_mNot, s_mAnd, s_mOr, s_mAndV, s_mOrV, s_mIf, s_mYes, s_mSl, s_mNo, s_mPart, s_mLc, s_mItems, s_mRng1, s_mRng2, s_mEnum, s_mChain, s_seqT, s_seqL, s_sNext, s_sSeq, s_sIf, s_sSet, s_sRet, s_sRetN, s_sBreak, s_sCont, s_sDrop, s_sPar, s_setN0, s_setNS, s_sAsg, s_sApp, s_sAug, s_sFor, s_sSrc, s_gmN, s_gmT, s_gmCons, s_gmNil, s_wipe0, s_wipeS, s_oSub, s_oAddI, s_oAdd, s_oLt, s_oLe, s_oGt, s_oGe, s_oNeg, s_oNot, s_oMul, s_oMulW, s_oMod, s_oFdiv, s_oPow, s_oIsN, s_oNotN, s_oIsB, s_oNotB, s_isNon_int, s_isNon_non, s_isNon_bl, s_isNon_str, s_isNon_tup, s_isNon_lst, s_isNon_dic, s_oEqI, s_oNeI, s_oIxT, s_oIxL, s_oSlT, s_oSlL, s_oRevT, s_oRevL, s_oInt, s_oIntB, s_oAbs, s_oMax2, s_oMin2, s_oLen, s_plenT, s_plenL, s_plenD, s_plenS, s_oTupleL, s_oTupleT, s_oListL, s_oListT, List.set_cons_succ, List.set_cons_zero, List.append_nil, true_and, x_bl, x_int, x_some, x_addT, x_addL, x_true, x_false]
        refine ⟨_, vo_at (by omega), ?_⟩
        try simp only [s_mVar0, s_mVarS, s_mVarO0, s_mVarOS, s_isObj_lst, s_isObj_dic, s_mC, s_mOp, s_mOp1, s_mB, s_mNil, s_mCons, s_mTup, s_mLst, s_mCall, s_mTB, s_mNot, s_mAnd, s_mOr, s_mAndV, s_mOrV, s_mIf, s_mYes, s_mSl, s_mNo, s_mPart, s_mLc, s_mItems, s_mRng1, s_mRng2, s_mEnum, s_mChain, s_seqT, s_seqL, s_sNext, s_sSeq, s_sIf, s_sSet, s_sRet, s_sRetN, s_sBreak, s_sCont, s_sDrop, s_sPar, s_setN0, s_setNS, s_sAsg, s_sApp, s_sAug, s_sFor, s_sSrc, s_gmN, s_gmT, s_gmCons, s_gmNil, s_wipe0, s_wipeS, s_oSub, s_oAddI, s_oAdd, s_oLt, s_oLe, s_oGt, s_oGe, s_oNeg, s_oNot, s_oMul, s_oMulW, s_oMod, s_oFdiv, s_oPow, s_oIsN, s_oNotN, s_oIsB, s_oNotB, s_isNon_int, s_isNon_non, s_isNon_bl, s_isNon_str, s_isNon_tup, s_isNon_lst, s_isNon_dic, s_oEqI, s_oNeI, s_oIxT, s_oIxL, s_oSlT, s_oSlL, s_oRevT, s_oRevL, s_oInt, s_oIntB, s_oAbs, s_oMax2, s_oMin2, s_oLen, s_plenT, s_plenL, s_plenD, s_plenS, s_oTupleL, s_oTupleT, s_oListL, s_oListT, List.set_cons_succ, List.set_cons_zero, List.append_nil, true_and, x_bl, x_int, x_some, x_addT, x_addL, x_true, x_false]
        refine ⟨.inr ⟨by omega, by omega⟩, p0, ?_⟩
        rw [Int.toNat_natCast, rngP_rng]
        refine ⟨_, rfl, by omega, ?_⟩
        refine comp_map (emb := PV.int) (xs := rng w) (f := fun x => PV.int ((vo r x.toNat - vo r n * back % p * vo hd x.toNat) % p)) (fun x hx => ⟨_, fun k hk => s_gmN.mpr hk, fun Q hQ => hQ, fun Q hQ => ?_⟩) (by rw [rng_len]; exact line (by omega)) ?_
        · obtain ⟨x0, x1⟩ := mem_rng.mp hx
          have g1 : atI (r.map PV.int) x = some (.int (vo r x.toNat)) := by
            have := vo_at (l := r) (n := x.toNat) (by omega)
            rwa [Int.toNat_of_nonneg x0] at this
          have g2 : atI (hd.map PV.int) x = some (.int (vo hd x.toNat)) := by
            have := vo_at (l := hd) (n := x.toNat) (by omega)
            rwa [Int.toNat_of_nonneg x0] at this
          try simp only [s_mVar0, s_mVarS, s_mVarO0, s_mVarOS, s_isObj_lst, s_isObj_dic, s_mC, s_mOp, s_mOp1, s_mB, s_mNil, s_mCons, s_mTup, s_mLst, s_mCall, s_mTB, s_mNot, s_mAnd, s_mOr, s_mAndV, s_mOrV, s_mIf, s_mYes, s_mSl, s_mNo, s_mPart, s_mLc, s_mItems, s_mRng1, s_mRng2, s_mEnum, s_mChain, s_seqT, s_seqL, s_sNext, s_sSeq, s_sIf, s_sSet, s_sRet, s_sRetN, s_sBreak, s_sCont, s_sDrop, s_sPar, s_setN0, s_setNS, s_sAsg, s_sApp, s_sAug, s_sFor, s_sSrc, s_gmN, s_gmT, s_gmCons, s_gmNil, s_wipe0, s_wipeS, s_oSub, s_oAddI, s_oAdd, s_oLt, s_oLe, s_oGt, s_oGe, s_oNeg, s_oNot, s_oMul, s_oMulW, s_oMod, s_oFdiv, s_oPow, s_oIsN, s_oNotN, s_oIsB, s_oNotB, s_isNon_int, s_isNon_non, s_isNon_bl, s_isNon_str, s_isNon_tup, s_isNon_lst, s_isNon_dic, s_oEqI, s_oNeI, s_oIxT, s_oIxL, s_oSlT, s_oSlL, s_oRevT, s_oRevL, s_oInt, s_oIntB, s_oAbs, s_oMax2, s_oMin2, s_oLen, s_plenT, s_plenL, s_plenD, s_plenS, s_oTupleL, s_oTupleT, s_oListL, s_oListT, List.set_cons_succ, List.set_cons_zero, List.append_nil, true_and, x_bl, x_int, x_some, x_addT, x_addL, x_true, x_false]
          refine ⟨_, g1, _, g2, ?_⟩
          try simp only [s_mVar0, s_mVarS, s_mVarO0, s_mVarOS, s_isObj_lst, s_isObj_dic, s_mC, s_mOp, s_mOp1, s_mB, s_mNil, s_mCons, s_mTup, s_mLst, s_mCall, s_mTB, s_mNot, s_mAnd, s_mOr, s_mAndV, s_mOrV, s_mIf, s_mYes, s_mSl, s_mNo, s_mPart, s_mLc, s_mItems, s_mRng1, s_mRng2, s_mEnum, s_mChain, s_seqT, s_seqL, s_sNext, s_sSeq, s_sIf, s_sSet, s_sRet, s_sRetN, s_sBreak, s_sCont, s_sDrop, s_sPar, s_setN0, s_setNS, s_sAsg, s_sApp, s_sAug, s_sFor, s_sSrc, s_gmN, s_gmT, s_gmCons, s_gmNil, s_wipe0, s_wipeS, s_oSub, s_oAddI, s_oAdd, s_oLt, s_oLe, s_oGt, s_oGe, s_oNeg, s_oNot, s_oMul, s_oMulW, s_oMod, s_oFdiv, s_oPow, s_oIsN, s_oNotN, s_oIsB, s_oNotB, s_isNon_int, s_isNon_non, s_isNon_bl, s_isNon_str, s_isNon_tup, s_isNon_lst, s_isNon_dic, s_oEqI, s_oNeI, s_oIxT, s_oIxL, s_oSlT, s_oSlL, s_oRevT, s_oRevL, s_oInt, s_oIntB, s_oAbs, s_oMax2, s_oMin2, s_oLen, s_plenT, s_plenL, s_plenD, s_plenS, s_oTupleL, s_oTupleT, s_oListL, s_oListT, List.set_cons_succ, List.set_cons_zero, List.append_nil, true_and, x_bl, x_int, x_some, x_addT, x_addL, x_true, x_false]
          have := tb r
          exact ⟨.inl ⟨by omega, by omega⟩, p0, hQ⟩
        · rw [enr]
          have hml := (List.getElem?_eq_some_iff.mp hr).1
          refine ⟨small_line (by rw [List.length_map, List.length_map, List.length_take]; omega), hN2 _ ⟨by omega, some (lI r), some (.int (vo r n * back % p)), ?_⟩⟩
          have et : (((l1 ++ l2).take (m + 1)).map (nr p w n back hd)).map lI = (((l1 ++ l2).take m).map (nr p w n back hd)).map lI ++ [lI (nr p w n back hd r)] := by
            rw [List.take_add_one, hr, List.map_append (f := nr p w n back hd), List.map_append (f := lI)]; rfl
          rw [et]
      · obtain ⟨hm, y10, y11, rfl⟩ := hE2
        rw [List.take_length]
        have hfl := hS.fml.1
        try simp only [s_mVar0, s_mVarS, s_mVarO0, s_mVarOS, s_isObj_lst, s_isObj_dic, s_mC, s_mOp, s_mOp1, s_mB, s_mNil, s_mCons, s_mTup, s_mLst, s_mCall, s_mTB, s_mNot, s_mAnd, s_mOr, s_mAndV, s_mOrV, s_mIf, s_mYes, s_mSl, s_mNo, s_mPart, s_mLc, s_mItems, s_mRng1, s_mRng2, s_mEnum, s_mChain, s_seqT, s_seqL, s_sNext, s_sSeq, s_sIf, s_sSet, s_sRet, s_sRetN, s_sBreak, s_sCont, s_sDrop, s_sPar, s_setN0, s_setNS, s_sAsg, s_sApp, s_sAug, s_sFor, s_sSrc, s_gmN, s_gmT, s_gmCons, s_gmNil, s_wipe0, s_wipeS, s_oSub, s_oAddI, s_oAdd, s_oLt, s_oLe, s_oGt, s_oGe, s_oNeg, s_oNot, s_oMul, s_oMulW, s_oMod, s_oFdiv, s_oPow, s_oIsN, s_oNotN, s_oIsB, s_oNotB, s_isNon_int, s_isNon_non, s_isNon_bl, s_isNon_str, s_isNon_tup, s_isNon_lst, s_isNon_dic, s_oEqI, s_oNeI, s_oIxT, s_oIxL, s_oSlT, s_oSlL, s_oRevT, s_oRevL, s_oInt, s_oIntB, s_oAbs, s_oMax2, s_oMin2, s_oLen, s_plenT, s_plenL, s_plenD, s_plenS, s_oTupleL, s_oTupleT, s_oListL, s_oListT, List.set_cons_succ, List.set_cons_zero, List.append_nil, true_and, x_bl, x_int, x_some, x_addT, x_addL, x_true, x_false]
        refine ⟨_, vo_at (by omega), ?_⟩
        try simp only [s_mVar0, s_mVarS, s_mVarO0, s_mVarOS, s_isObj_lst, s_isObj_dic, s_mC, s_mOp, s_mOp1, s_mB, s_mNil, s_mCons, s_mTup, s_mLst, s_mCall, s_mTB, s_mNot, s_mAnd, s_mOr, s_mAndV, s_mOrV, s_mIf, s_mYes, s_mSl, s_mNo, s_mPart, s_mLc, s_mItems, s_mRng1, s_mRng2, s_mEnum, s_mChain, s_seqT, s_seqL, s_sNext, s_sSeq, s_sIf, s_sSet, s_sRet, s_sRetN, s_sBreak, s_sCont, s_sDrop, s_sPar, s_setN0, s_setNS, s_sAsg, s_sApp, s_sAug, s_sFor, s_sSrc, s_gmN, s_gmT, s_gmCons, s_gmNil, s_wipe0, s_wipeS, s_oSub, s_oAddI, s_oAdd, s_oLt, s_oLe, s_oGt, s_oGe, s_oNeg, s_oNot, s_oMul, s_oMulW, s_oMod, s_oFdiv, s_oPow, s_oIsN, s_oNotN, s_oIsB, s_oNotB, s_isNon_int, s_isNon_non, s_isNon_bl, s_isNon_str, s_isNon_tup, s_isNon_lst, s_isNon_dic, s_oEqI, s_oNeI, s_oIxT, s_oIxL, s_oSlT, s_oSlL, s_oRevT, s_oRevL, s_oInt, s_oIntB, s_oAbs, s_oMax2, s_oMin2, s_oLen, s_plenT, s_plenL, s_plenD, s_plenS, s_oTupleL, s_oTupleT, s_oListL, s_oListT, List.set_cons_succ, List.set_cons_zero, List.append_nil, true_and, x_bl, x_int, x_some, x_addT, x_addL, x_true, x_false]
        refine ⟨.inr ⟨by omega, by omega⟩, p0, ?_⟩
        simp only [s_sMov]
        try simp only [s_mVar0, s_mVarS, s_mVarO0, s_mVarOS, s_isObj_lst, s_isObj_dic, s_mC, s_mOp, s_mOp1, s_mB, s_mNil, s_mCons, s_mTup, s_mLst, s_mCall, s_mTB, s_mNot, s_mAnd, s_mOr, s_mAndV, s_mOrV, s_mIf, s_mYes, s_mSl, s_mNo, s_mPart, s_mLc, s_mItems, s_mRng1, s_mRng2, s_mEnum, s_mChain, s_seqT, s_seqL, s_sNext, s_sSeq, s_sIf, s_sSet, s_sRet, s_sRetN, s_sBreak, s_sCont, s_sDrop, s_sPar, s_setN0, s_setNS, s_sAsg, s_sApp, s_sAug, s_sFor, s_sSrc, s_gmN, s_gmT, s_gmCons, s_gmNil, s_wipe0, s_wipeS, s_oSub, s_oAddI, s_oAdd, s_oLt, s_oLe, s_oGt, s_oGe, s_oNeg, s_oNot, s_oMul, s_oMulW, s_oMod, s_oFdiv, s_oPow, s_oIsN, s_oNotN, s_oIsB, s_oNotB, s_isNon_int, s_isNon_non, s_isNon_bl, s_isNon_str, s_isNon_tup, s_isNon_lst, s_isNon_dic, s_oEqI, s_oNeI, s_oIxT, s_oIxL, s_oSlT, s_oSlL, s_oRevT, s_oRevL, s_oInt, s_oIntB, s_oAbs, s_oMax2, s_oMin2, s_oLen, s_plenT, s_plenL, s_plenD, s_plenS, s_oTupleL, s_oTupleT, s_oListL, s_oListT, List.set_cons_succ, List.set_cons_zero, List.append_nil, true_and, x_bl, x_int, x_some, x_addT, x_addL, x_true, x_false]
        rw [Int.toNat_natCast, rngP_rng]
        refine ⟨by omega, ?_⟩
        refine comp_map (emb := PV.int) (xs := rng w) (f := fun x => PV.int ((vo fm x.toNat - vo fm n * back % p * vo hd x.toNat) % p)) (fun x hx => ⟨_, fun k hk => s_gmN.mpr hk, fun Q hQ => hQ, fun Q hQ => ?_⟩) (by rw [rng_len]; exact line (by omega)) ?_
        · obtain ⟨x0, x1⟩ := mem_rng.mp hx
          have g1 : atI (fm.map PV.int) x = some (.int (vo fm x.toNat)) := by
            have := vo_at (l := fm) (n := x.toNat) (by omega)
            rwa [Int.toNat_of_nonneg x0] at this
          have g2 : atI (hd.map PV.int) x = some (.int (vo hd x.toNat)) := by
            have := vo_at (l := hd) (n := x.toNat) (by omega)
            rwa [Int.toNat_of_nonneg x0] at this
          try simp only [s_mVar0, s_mVarS, s_mVarO0, s_mVarOS, s_isObj_lst, s_isObj_dic, s_mC, s_mOp, s_mOp1, s_mB, s_mNil, s_mCons, s_mTup, s_mLst, s_mCall, s_mTB, s_mNot, s_mAnd, s_mOr, s_mAndV, s_mOrV, s_mIf, s_mYes, s_mSl, s_mNo, s_mPart, s_mLc, s_mItems, s_mRng1, s_mRng2, s_mEnum, s_mChain, s_seqT, s_seqL, s_sNext, s_sSeq, s_sIf, s_sSet, s_sRet, s_sRetN, s_sBreak, s_sCont, s_sDrop, s_sPar, s_setN0, s_setNS, s_sAsg, s_sApp, s_sAug, s_sFor, s_sSrc, s_gmN, s_gmT, s_gmCons, s_gmNil, s_wipe0, s_wipeS, s_oSub, s_oAddI, s_oAdd, s_oLt, s_oLe, s_oGt, s_oGe, s_oNeg, s_oNot, s_oMul, s_oMulW, s_oMod, s_oFdiv, s_oPow, s_oIsN, s_oNotN, s_oIsB, s_oNotB, s_isNon_int, s_isNon_non, s_isNon_bl, s_isNon_str, s_isNon_tup, s_isNon_lst, s_isNon_dic, s_oEqI, s_oNeI, s_oIxT, s_oIxL, s_oSlT, s_oSlL, s_oRevT, s_oRevL, s_oInt, s_oIntB, s_oAbs, s_oMax2, s_oMin2, s_oLen, s_plenT, s_plenL, s_plenD, s_plenS, s_oTupleL, s_oTupleT, s_oListL, s_oListT, List.set_cons_succ, List.set_cons_zero, List.append_nil, true_and, x_bl, x_int, x_some, x_addT, x_addL, x_true, x_false]
          refine ⟨_, g1, _, g2, ?_⟩
          try simp only [s_mVar0, s_mVarS, s_mVarO0, s_mVarOS, s_isObj_lst, s_isObj_dic, s_mC, s_mOp, s_mOp1, s_mB, s_mNil, s_mCons, s_mTup, s_mLst, s_mCall, s_mTB, s_mNot, s_mAnd, s_mOr, s_mAndV, s_mOrV, s_mIf, s_mYes, s_mSl, s_mNo, s_mPart, s_mLc, s_mItems, s_mRng1, s_mRng2, s_mEnum, s_mChain, s_seqT, s_seqL, s_sNext, s_sSeq, s_sIf, s_sSet, s_sRet, s_sRetN, s_sBreak, s_sCont, s_sDrop, s_sPar, s_setN0, s_setNS, s_sAsg, s_sApp, s_sAug, s_sFor, s_sSrc, s_gmN, s_gmT, s_gmCons, s_gmNil, s_wipe0, s_wipeS, s_oSub, s_oAddI, s_oAdd, s_oLt, s_oLe, s_oGt, s_oGe, s_oNeg, s_oNot, s_oMul, s_oMulW, s_oMod, s_oFdiv, s_oPow, s_oIsN, s_oNotN, s_oIsB, s_oNotB, s_isNon_int, s_isNon_non, s_isNon_bl, s_isNon_str, s_isNon_tup, s_isNon_lst, s_isNon_dic, s_oEqI, s_oNeI, s_oIxT, s_oIxL, s_oSlT, s_oSlL, s_oRevT, s_oRevL, s_oInt, s_oIntB, s_oAbs, s_oMax2, s_oMin2, s_oLen, s_plenT, s_plenL, s_plenD, s_plenS, s_oTupleL, s_oTupleT, s_oListL, s_oListT, List.set_cons_succ, List.set_cons_zero, List.append_nil, true_and, x_bl, x_int, x_some, x_addT, x_addL, x_true, x_false]
          have := tb fm
          exact ⟨.inl ⟨by omega, by omega⟩, p0, hQ⟩
        · rw [enr]
          refine ⟨_, rfl, ?_⟩
          try simp only [s_mVar0, s_mVarS, s_mVarO0, s_mVarOS, s_isObj_lst, s_isObj_dic, s_mC, s_mOp, s_mOp1, s_mB, s_mNil, s_mCons, s_mTup, s_mLst, s_mCall, s_mTB, s_mNot, s_mAnd, s_mOr, s_mAndV, s_mOrV, s_mIf, s_mYes, s_mSl, s_mNo, s_mPart, s_mLc, s_mItems, s_mRng1, s_mRng2, s_mEnum, s_mChain, s_seqT, s_seqL, s_sNext, s_sSeq, s_sIf, s_sSet, s_sRet, s_sRetN, s_sBreak, s_sCont, s_sDrop, s_sPar, s_setN0, s_setNS, s_sAsg, s_sApp, s_sAug, s_sFor, s_sSrc, s_gmN, s_gmT, s_gmCons, s_gmNil, s_wipe0, s_wipeS, s_oSub, s_oAddI, s_oAdd, s_oLt, s_oLe, s_oGt, s_oGe, s_oNeg, s_oNot, s_oMul, s_oMulW, s_oMod, s_oFdiv, s_oPow, s_oIsN, s_oNotN, s_oIsB, s_oNotB, s_isNon_int, s_isNon_non, s_isNon_bl, s_isNon_str, s_isNon_tup, s_isNon_lst, s_isNon_dic, s_oEqI, s_oNeI, s_oIxT, s_oIxL, s_oSlT, s_oSlL, s_oRevT, s_oRevL, s_oInt, s_oIntB, s_oAbs, s_oMax2, s_oMin2, s_oLen, s_plenT, s_plenL, s_plenD, s_plenS, s_oTupleL, s_oTupleT, s_oListL, s_oListT, List.set_cons_succ, List.set_cons_zero, List.append_nil, true_and, x_bl, x_int, x_some, x_addT, x_addL, x_true, x_false]
          refine hN _ ⟨by omega, (l1 ++ l2).map (nr p w n back hd), nr p w n back hd fm, _, _, _, _, _, _, by rw [List.length_map]; exact hl12, hS.step p0 hnw bk2, rfl⟩
  · obtain ⟨hn, left, fm, y3, y6, y7, y8, y10, y11, hll, hS, rfl⟩ := hE
    rw [rng_len] at hS
    try simp only [s_mVar0, s_mVarS, s_mVarO0, s_mVarOS, s_isObj_lst, s_isObj_dic, s_mC, s_mOp, s_mOp1, s_mB, s_mNil, s_mCons, s_mTup, s_mLst, s_mCall, s_mTB, s_mNot, s_mAnd, s_mOr, s_mAndV, s_mOrV, s_mIf, s_mYes, s_mSl, s_mNo, s_mPart, s_mLc, s_mItems, s_mRng1, s_mRng2, s_mEnum, s_mChain, s_seqT, s_seqL, s_sNext, s_sSeq, s_sIf, s_sSet, s_sRet, s_sRetN, s_sBreak, s_sCont, s_sDrop, s_sPar, s_setN0, s_setNS, s_sAsg, s_sApp, s_sAug, s_sFor, s_sSrc, s_gmN, s_gmT, s_gmCons, s_gmNil, s_wipe0, s_wipeS, s_oSub, s_oAddI, s_oAdd, s_oLt, s_oLe, s_oGt, s_oGe, s_oNeg, s_oNot, s_oMul, s_oMulW, s_oMod, s_oFdiv, s_oPow, s_oIsN, s_oNotN, s_oIsB, s_oNotB, s_isNon_int, s_isNon_non, s_isNon_bl, s_isNon_str, s_isNon_tup, s_isNon_lst, s_isNon_dic, s_oEqI, s_oNeI, s_oIxT, s_oIxL, s_oSlT, s_oSlL, s_oRevT, s_oRevL, s_oInt, s_oIntB, s_oAbs, s_oMax2, s_oMin2, s_oLen, s_plenT, s_plenL, s_plenD, s_plenS, s_oTupleL, s_oTupleT, s_oListL, s_oListT, List.set_cons_succ, List.set_cons_zero, List.append_nil, true_and, x_bl, x_int, x_some, x_addT, x_addL, x_true, x_false]
    refine comp_map (emb := PV.int) (f := fun x => .bl (decide (x = 0))) (fun x hx => ⟨_, fun k hk => s_gmN.mpr hk, fun Q hQ => hQ, fun Q hQ => ?_⟩) (line (by have := hS.fml.1; omega)) (oAll_map ?_)
    · try simp only [s_mVar0, s_mVarS, s_mVarO0, s_mVarOS, s_isObj_lst, s_isObj_dic, s_mC, s_mOp, s_mOp1, s_mB, s_mNil, s_mCons, s_mTup, s_mLst, s_mCall, s_mTB, s_mNot, s_mAnd, s_mOr, s_mAndV, s_mOrV, s_mIf, s_mYes, s_mSl, s_mNo, s_mPart, s_mLc, s_mItems, s_mRng1, s_mRng2, s_mEnum, s_mChain, s_seqT, s_seqL, s_sNext, s_sSeq, s_sIf, s_sSet, s_sRet, s_sRetN, s_sBreak, s_sCont, s_sDrop, s_sPar, s_setN0, s_setNS, s_sAsg, s_sApp, s_sAug, s_sFor, s_sSrc, s_gmN, s_gmT, s_gmCons, s_gmNil, s_wipe0, s_wipeS, s_oSub, s_oAddI, s_oAdd, s_oLt, s_oLe, s_oGt, s_oGe, s_oNeg, s_oNot, s_oMul, s_oMulW, s_oMod, s_oFdiv, s_oPow, s_oIsN, s_oNotN, s_oIsB, s_oNotB, s_isNon_int, s_isNon_non, s_isNon_bl, s_isNon_str, s_isNon_tup, s_isNon_lst, s_isNon_dic, s_oEqI, s_oNeI, s_oIxT, s_oIxL, s_oSlT, s_oSlL, s_oRevT, s_oRevL, s_oInt, s_oIntB, s_oAbs, s_oMax2, s_oMin2, s_oLen, s_plenT, s_plenL, s_plenD, s_plenS, s_oTupleL, s_oTupleT, s_oListL, s_oListT, List.set_cons_succ, List.set_cons_zero, List.append_nil, true_and, x_bl, x_int, x_some, x_addT, x_addL, x_true, x_false]
      exact hQ
    · obtain ⟨d1, d2⟩ := hS.done
      exact h _ d1 d2
end K25

set_option maxHeartbeats 4000000
namespace K25
open PySem L2 PM
/-! ### who can tell -/
def corn (t : Nat) : List Int := (sps t).map fun s => if s = (0, 0) then 1 else 0
def rowsOf (p : Int) (t : Nat) (S : List Int) : List (List Int) := S.flatMap fun h => rfs p t (h + 1)
theorem pp_by {n : Nat} (h1 : 1 < n) (h2 : n ≤ 100) (h : ∀ a : Fin n, 0 < a.val → ∃ b : Fin n, 1 ≤ b.val ∧ b.val * a.val % n = 1) : PP (n : Int) := by
  refine ⟨by omega, by omega, fun a a0 a1 => ?_⟩
  obtain ⟨b, hb1, hb2⟩ := h ⟨a.toNat, by omega⟩ (by show 0 < a.toNat; omega)
  refine ⟨(b.val : Int), by omega, by have := b.isLt; omega, ?_⟩
  have e : (((b.val * a.toNat % n : Nat)) : Int) = 1 := by rw [hb2]; rfl
  rw [← e]
  push_cast
  rw [Int.toNat_of_nonneg (by omega)]
theorem pp11 : PP 11 := pp_by (n := 11) (by decide) (by decide) (by decide +kernel)
theorem pp13 : PP 13 := pp_by (n := 13) (by decide) (by decide) (by decide +kernel)
theorem pp29 : PP 29 := pp_by (n := 29) (by decide) (by decide) (by decide +kernel)
theorem pp31 : PP 31 := pp_by (n := 31) (by decide) (by decide) (by decide +kernel)
theorem sps1 : sps 1 = [(0, 0), (0, 1), (1, 1)] := by decide
theorem sps2 : sps 2 = [(0, 0), (0, 1), (0, 2), (1, 1), (1, 2), (2, 2)] := by decide
theorem corn1 : corn 1 = [1, 0, 0] := by decide
theorem corn2 : corn 2 = [1, 0, 0, 0, 0, 0] := by decide
section
variable {p : Int}
/-- a number that is not 0 has an inverse -/
theorem inv_of (h : PP p) {u : Int} (hu : ¬ p ∣ u) : ∃ d, p ∣ d * u - 1 := by
  have p0 : 0 < p := by have := h.one; omega
  have h0 : 0 ≤ u % p := Int.emod_nonneg _ (by omega)
  have h1 : u % p < p := Int.emod_lt_of_pos _ p0
  have h2 : u % p ≠ 0 := fun z => hu (Int.dvd_of_emod_eq_zero z)
  obtain ⟨d, _, _, hd⟩ := h.inv (u % p) (by omega) h1
  refine ⟨d, ?_⟩
  have h3 : p ∣ d * (u % p) - 1 := by
    have := mod_dvd (p := p) (x := d * (u % p))
    rwa [hd] at this
  have h4 : p ∣ (u - u % p) * d := Int.dvd_trans mod_dvd (Int.dvd_mul_right _ _)
  exact dvd_of_eq (Int.dvd_add h3 h4) (by grind)
theorem not_dvd_small (h : PP p) {x : Int} (h0 : 0 < x) (h1 : x < p) : ¬ p ∣ x := fun z => by
  have := Int.emod_eq_zero_of_dvd z
  rw [Int.emod_eq_of_lt (by omega) h1] at this
  omega
theorem not_dvd_sub (h : PP p) {x y : Int} (h0 : 0 < x) (h1 : x < p) (h2 : 0 < y) (h3 : y < p) (hn : x ≠ y) : ¬ p ∣ y - x := fun z => by
  rcases Int.lt_or_gt_of_ne hn with q | q
  · exact not_dvd_small h (by omega : 0 < y - x) (by omega) z
  · exact not_dvd_small h (by omega : 0 < x - y) (by omega) (dvd_of_eq (Int.dvd_neg.mpr z) (by omega))
theorem not_dvd_mul (h : PP p) {a b : Int} (ha : ¬ p ∣ a) (hb : ¬ p ∣ b) : ¬ p ∣ a * b := fun z => by
  obtain ⟨d, hd⟩ := inv_of h ha
  refine hb ?_
  have h1 : p ∣ a * b * d := Int.dvd_trans z (Int.dvd_mul_right _ _)
  have h2 : p ∣ (d * a - 1) * b := Int.dvd_trans hd (Int.dvd_mul_right _ _)
  exact dvd_of_eq (Int.dvd_sub h1 h2) (by grind)
theorem not_dvd_one (h : PP p) : ¬ p ∣ 1 := not_dvd_small h (by decide) h.one
def c1 (x : Int) : Nat → List Int
  | 0 => [1, x, 0]
  | _ => [0, 1, x]
def c2 (x : Int) : Nat → List Int
  | 0 => [1, x, x * x, 0, 0, 0]
  | 1 => [0, 1, 0, x, x * x, 0]
  | _ => [0, 0, 1, 0, x, x * x]
theorem mod1 {a : Int} : p ∣ a - (a % p) % p := by rw [Int.emod_emod]; exact mod_dvd
theorem row1 {x : Int} {j c : Nat} (hj : j < 2) (hc : c < 3) : p ∣ vo (c1 x j) c - vo (rf p 1 x j) c := by
  unfold rf
  rw [sps1]
  have hj : j = 0 ∨ j = 1 := by omega
  have hc : c = 0 ∨ c = 1 ∨ c = 2 := by omega
  rcases hj with rfl | rfl <;> rcases hc with rfl | rfl | rfl <;> simp [vo, c1, co, pw] <;> exact mod_dvd
theorem row2 {x : Int} {j c : Nat} (hj : j < 3) (hc : c < 6) : p ∣ vo (c2 x j) c - vo (rf p 2 x j) c := by
  unfold rf
  rw [sps2]
  have hj : j = 0 ∨ j = 1 ∨ j = 2 := by omega
  have hc : c = 0 ∨ c = 1 ∨ c = 2 ∨ c = 3 ∨ c = 4 ∨ c = 5 := by omega
  rcases hj with rfl | rfl | rfl <;> rcases hc with rfl | rfl | rfl | rfl | rfl | rfl <;> simp [vo, c2, co, pw] <;> exact mod_dvd
end
end K25

set_option maxHeartbeats 4000000
namespace K25
open PySem L2 PM
section
variable {p : Int}
theorem dot3 {r A : Vec} : dot 3 r A = r 0 * A 0 + r 1 * A 1 + r 2 * A 2 := by
  show 0 + r 0 * A 0 + r 1 * A 1 + r 2 * A 2 = _
  rw [Int.zero_add]
theorem dot6 {r A : Vec} : dot 6 r A = r 0 * A 0 + r 1 * A 1 + r 2 * A 2 + r 3 * A 3 + r 4 * A 4 + r 5 * A 5 := by
  show 0 + r 0 * A 0 + r 1 * A 1 + r 2 * A 2 + r 3 * A 3 + r 4 * A 4 + r 5 * A 5 = _
  rw [Int.zero_add]
theorem mem_rows {t : Nat} {S : List Int} {r : List Int} : r ∈ rowsOf p t S ↔ ∃ h ∈ S, ∃ j, j < t + 1 ∧ r = rf p t (h + 1) j := by
  unfold rowsOf rfs
  rw [List.mem_flatMap]
  constructor
  · rintro ⟨h, hh, hr⟩
    obtain ⟨j, hj, rfl⟩ := List.mem_map.mp hr
    exact ⟨h, hh, j, List.mem_range.mp hj, rfl⟩
  · rintro ⟨h, hh, j, hj, rfl⟩
    exact ⟨h, hh, List.mem_map.mpr ⟨j, List.mem_range.mpr hj, rfl⟩⟩
/-- the sight of the few: a square that is 0 at their places -/
theorem no1 (hp : PP p) {S : List Int} {a b : Int} (hS : ∀ h ∈ S, a + (h + 1) * b = 0) (ha : ¬ p ∣ a) : ∃ A, (∀ r ∈ rowsOf p 1 S, p ∣ dot 3 (vo r) A) ∧ ¬ p ∣ dot 3 (vo (corn 1)) A := by
  refine ⟨vo [a * a, a * b, b * b], fun r hr => ?_, fun z => ?_⟩
  · obtain ⟨h, hh, j, hj, rfl⟩ := mem_rows.mp hr
    have e := dot_cong (p := p) (A := vo [a * a, a * b, b * b]) (w := 3) fun c hc => row1 (p := p) (x := h + 1) (j := j) hj hc
    have q := hS h hh
    have z : dot 3 (vo (c1 (h + 1) j)) (vo [a * a, a * b, b * b]) = 0 := by
      rw [dot3]
      have hj : j = 0 ∨ j = 1 := by omega
      rcases hj with rfl | rfl
      · show 1 * (a * a) + (h + 1) * (a * b) + 0 * (b * b) = 0
        grind
      · show 0 * (a * a) + 1 * (a * b) + (h + 1) * (b * b) = 0
        grind
    rw [z] at e
    have e2 := Int.dvd_neg.mpr e
    rwa [Int.zero_sub, Int.neg_neg] at e2
  · rw [corn1, dot3] at z
    have z : p ∣ 1 * (a * a) + 0 * (a * b) + 0 * (b * b) := z
    exact not_dvd_mul hp ha ha (dvd_of_eq z (by omega))
theorem no2 (hp : PP p) {S : List Int} {a b d : Int} (hS : ∀ h ∈ S, a + (h + 1) * b + (h + 1) * (h + 1) * d = 0) (ha : ¬ p ∣ a) : ∃ A, (∀ r ∈ rowsOf p 2 S, p ∣ dot 6 (vo r) A) ∧ ¬ p ∣ dot 6 (vo (corn 2)) A := by
  refine ⟨vo [a * a, a * b, a * d, b * b, b * d, d * d], fun r hr => ?_, fun z => ?_⟩
  · obtain ⟨h, hh, j, hj, rfl⟩ := mem_rows.mp hr
    have e := dot_cong (p := p) (A := vo [a * a, a * b, a * d, b * b, b * d, d * d]) (w := 6) fun c hc => row2 (p := p) (x := h + 1) (j := j) hj hc
    have q := hS h hh
    obtain ⟨x, hx⟩ : ∃ x, x = h + 1 := ⟨_, rfl⟩
    rw [← hx] at q e ⊢
    have z : dot 6 (vo (c2 x j)) (vo [a * a, a * b, a * d, b * b, b * d, d * d]) = 0 := by
      rw [dot6]
      have hj : j = 0 ∨ j = 1 ∨ j = 2 := by omega
      rcases hj with rfl | rfl | rfl
      · show 1 * (a * a) + x * (a * b) + x * x * (a * d) + 0 * (b * b) + 0 * (b * d) + 0 * (d * d) = 0
        grind
      · show 0 * (a * a) + 1 * (a * b) + 0 * (a * d) + x * (b * b) + x * x * (b * d) + 0 * (d * d) = 0
        grind
      · show 0 * (a * a) + 0 * (a * b) + 1 * (a * d) + 0 * (b * b) + x * (b * d) + x * x * (d * d) = 0
        grind
    rw [z] at e
    have e2 := Int.dvd_neg.mpr e
    rwa [Int.zero_sub, Int.neg_neg] at e2
  · rw [corn2, dot6] at z
    have z : p ∣ 1 * (a * a) + 0 * (a * b) + 0 * (a * d) + 0 * (b * b) + 0 * (b * d) + 0 * (d * d) := z
    exact not_dvd_mul hp ha ha (dvd_of_eq z (by omega))
def wd (t : Nat) : Nat := (sps t).length
theorem wd1 : wd 1 = 3 := by decide
theorem wd2 : wd 2 = 6 := by decide
/-- the houses' places -/
def Plc (p : Int) (S : List Int) : Prop := S.Nodup ∧ ∀ h ∈ S, 0 ≤ h ∧ h + 1 < p
theorem told_no (hp : PP p) {t : Nat} {S : List Int} (ht : t = 1 ∨ t = 2) (hS : Plc p S) (hl : S.length ≤ t) : ∃ A, (∀ r ∈ rowsOf p t S, p ∣ dot (wd t) (vo r) A) ∧ ¬ p ∣ dot (wd t) (vo (corn t)) A := by
  have nd : ∀ h ∈ S, ¬ p ∣ h + 1 := fun h hh => by
    obtain ⟨a, b⟩ := hS.2 h hh
    exact not_dvd_small hp (by omega) b
  rcases ht with rfl | rfl
  · rw [wd1]
    match S, hl, nd with
    | [], _, _ => exact no1 hp (a := 1) (b := 0) (fun h hh => by cases hh) (not_dvd_one hp)
    | [h1], _, nd => exact no1 hp (a := h1 + 1) (b := -1) (fun h hh => by rw [List.mem_singleton.mp hh]; omega) (nd h1 (List.mem_singleton.mpr rfl))
  · rw [wd2]
    match S, hl, nd with
    | [], _, _ => exact no2 hp (a := 1) (b := 0) (d := 0) (fun h hh => by cases hh) (not_dvd_one hp)
    | [h1], _, nd => exact no2 hp (a := h1 + 1) (b := -1) (d := 0) (fun h hh => by rw [List.mem_singleton.mp hh]; omega) (nd h1 (List.mem_singleton.mpr rfl))
    | [h1, h2], _, nd =>
      refine no2 hp (a := (h1 + 1) * (h2 + 1)) (b := -(h1 + 1 + (h2 + 1))) (d := 1) (fun h hh => ?_) (not_dvd_mul hp (nd h1 (by simp)) (nd h2 (by simp)))
      have : h = h1 ∨ h = h2 := by simpa using hh
      rcases this with rfl | rfl <;> grind
theorem told_yes (hp : PP p) {t : Nat} {S : List Int} (ht : t = 1 ∨ t = 2) (hS : Plc p S) (hl : t < S.length) : Comb p (wd t) ((rowsOf p t S).map vo) (vo (corn t)) := by
  rcases ht with rfl | rfl
  · rw [wd1]
    match S, hl, hS with
    | h1 :: h2 :: S', _, hS =>
      obtain ⟨x, hx⟩ : ∃ x, x = h1 + 1 := ⟨_, rfl⟩
      obtain ⟨y, hy⟩ : ∃ y, y = h2 + 1 := ⟨_, rfl⟩
      obtain ⟨a0, a1⟩ := hS.2 h1 (by simp)
      obtain ⟨b0, b1⟩ := hS.2 h2 (by simp)
      have hne : h1 ≠ h2 := fun z => by
        have := (List.nodup_cons.mp hS.1).1
        rw [z] at this; simp at this
      obtain ⟨d, hd⟩ := inv_of hp (not_dvd_sub hp (x := x) (y := y) (by omega) (by omega) (by omega) (by omega) (by omega))
      have m1 : vo (rf p 1 x 0) ∈ (rowsOf p 1 (h1 :: h2 :: S')).map vo := List.mem_map.mpr ⟨_, mem_rows.mpr ⟨h1, by simp, 0, by decide, by rw [hx]⟩, rfl⟩
      have m2 : vo (rf p 1 y 0) ∈ (rowsOf p 1 (h1 :: h2 :: S')).map vo := List.mem_map.mpr ⟨_, mem_rows.mpr ⟨h2, by simp, 0, by decide, by rw [hy]⟩, rfl⟩
      refine comb_mem (k := y * d) m1 (comb_mem (k := -(x * d)) m2 (comb_zero fun c hc => ?_))
      have r1 : p ∣ (vo (c1 x 0) c - vo (rf p 1 x 0) c) * (y * d) := Int.dvd_trans (row1 (by decide) hc) (Int.dvd_mul_right _ _)
      have r2 : p ∣ (vo (c1 y 0) c - vo (rf p 1 y 0) c) * (x * d) := Int.dvd_trans (row1 (by decide) hc) (Int.dvd_mul_right _ _)
      have key : p ∣ vo (corn 1) c - y * d * vo (c1 x 0) c + x * d * vo (c1 y 0) c := by
        rw [corn1]
        have hc : c = 0 ∨ c = 1 ∨ c = 2 := by omega
        rcases hc with rfl | rfl | rfl
        · show p ∣ 1 - y * d * 1 + x * d * 1
          exact dvd_of_eq (Int.dvd_neg.mpr hd) (by grind)
        · show p ∣ 0 - y * d * x + x * d * y
          exact dvd_of_eq (Int.dvd_zero p) (by grind)
        · show p ∣ 0 - y * d * 0 + x * d * 0
          exact dvd_of_eq (Int.dvd_zero p) (by grind)
      exact dvd_of_eq (Int.dvd_sub (Int.dvd_add key r1) r2) (by grind)
  · rw [wd2]
    match S, hl, hS with
    | h1 :: h2 :: h3 :: S', _, hS =>
      obtain ⟨x, hx⟩ : ∃ x, x = h1 + 1 := ⟨_, rfl⟩
      obtain ⟨y, hy⟩ : ∃ y, y = h2 + 1 := ⟨_, rfl⟩
      obtain ⟨z, hz⟩ : ∃ z, z = h3 + 1 := ⟨_, rfl⟩
      obtain ⟨a0, a1⟩ := hS.2 h1 (by simp)
      obtain ⟨b0, b1⟩ := hS.2 h2 (by simp)
      obtain ⟨c0, c1'⟩ := hS.2 h3 (by simp)
      have hnd := hS.1
      rw [List.nodup_cons, List.nodup_cons] at hnd
      obtain ⟨n1, n2, _⟩ := hnd
      have ne12 : x ≠ y := fun e => n1 (by rw [show h1 = h2 by omega]; simp)
      have ne13 : x ≠ z := fun e => n1 (by rw [show h1 = h3 by omega]; simp)
      have ne23 : y ≠ z := fun e => n2 (by rw [show h2 = h3 by omega]; simp)
      have hv : ¬ p ∣ (y - x) * (z - x) * (z - y) := not_dvd_mul hp (not_dvd_mul hp (not_dvd_sub hp (by omega) (by omega) (by omega) (by omega) ne12) (not_dvd_sub hp (by omega) (by omega) (by omega) (by omega) ne13)) (not_dvd_sub hp (by omega) (by omega) (by omega) (by omega) ne23)
      obtain ⟨d, hd⟩ := inv_of hp hv
      have mm : ∀ h ∈ h1 :: h2 :: h3 :: S', vo (rf p 2 (h + 1) 0) ∈ (rowsOf p 2 (h1 :: h2 :: h3 :: S')).map vo := fun h hh => List.mem_map.mpr ⟨_, mem_rows.mpr ⟨h, hh, 0, by decide, rfl⟩, rfl⟩
      have m1 := mm h1 (by simp)
      have m2 := mm h2 (by simp)
      have m3 := mm h3 (by simp)
      rw [← hx] at m1
      rw [← hy] at m2
      rw [← hz] at m3
      obtain ⟨k1, hk1⟩ : ∃ k, k = y * z * (z - y) * d := ⟨_, rfl⟩
      obtain ⟨k2, hk2⟩ : ∃ k, k = -(x * z * (z - x) * d) := ⟨_, rfl⟩
      obtain ⟨k3, hk3⟩ : ∃ k, k = x * y * (y - x) * d := ⟨_, rfl⟩
      refine comb_mem (k := k1) m1 (comb_mem (k := k2) m2 (comb_mem (k := k3) m3 (comb_zero fun c hc => ?_)))
      have r1 : p ∣ (vo (c2 x 0) c - vo (rf p 2 x 0) c) * k1 := Int.dvd_trans (row2 (by decide) hc) (Int.dvd_mul_right _ _)
      have r2 : p ∣ (vo (c2 y 0) c - vo (rf p 2 y 0) c) * k2 := Int.dvd_trans (row2 (by decide) hc) (Int.dvd_mul_right _ _)
      have r3 : p ∣ (vo (c2 z 0) c - vo (rf p 2 z 0) c) * k3 := Int.dvd_trans (row2 (by decide) hc) (Int.dvd_mul_right _ _)
      have key : p ∣ vo (corn 2) c - k1 * vo (c2 x 0) c - k2 * vo (c2 y 0) c - k3 * vo (c2 z 0) c := by
        rw [corn2]
        have hc : c = 0 ∨ c = 1 ∨ c = 2 ∨ c = 3 ∨ c = 4 ∨ c = 5 := by omega
        rcases hc with rfl | rfl | rfl | rfl | rfl | rfl
        · show p ∣ 1 - k1 * 1 - k2 * 1 - k3 * 1
          exact dvd_of_eq (Int.dvd_neg.mpr hd) (by grind)
        · show p ∣ 0 - k1 * x - k2 * y - k3 * z
          exact dvd_of_eq (Int.dvd_zero p) (by grind)
        · show p ∣ 0 - k1 * (x * x) - k2 * (y * y) - k3 * (z * z)
          exact dvd_of_eq (Int.dvd_zero p) (by grind)
        · show p ∣ 0 - k1 * 0 - k2 * 0 - k3 * 0
          exact dvd_of_eq (Int.dvd_zero p) (by grind)
        · show p ∣ 0 - k1 * 0 - k2 * 0 - k3 * 0
          exact dvd_of_eq (Int.dvd_zero p) (by grind)
        · show p ∣ 0 - k1 * 0 - k2 * 0 - k3 * 0
          exact dvd_of_eq (Int.dvd_zero p) (by grind)
      exact dvd_of_eq (Int.dvd_add (Int.dvd_add (Int.dvd_add key r1) r2) r3) (by grind)
end
end K25

set_option maxHeartbeats 4000000
namespace K25
open PySem L2 PM
def less (sg sl : List Int) : List Int := sg.filter fun h => !decide (h ∈ sl)
def sp_l_is_told : PM.Spec := fun ps P => ∃ (p : Int) (t : Nat) (hl : List (List Int)) (sl : List Int), ps = [.int p, .int (t : Int), .lst (hl.map tI), tI sl] ∧ PP p ∧ (t = 1 ∨ t = 2) ∧ hl.length ≤ 100 ∧ (∀ sg ∈ hl, Plc p sg ∧ sg.length ≤ 10) ∧ P (.bl (hl.all fun sg => decide ((less sg sl).length > t)))
theorem eqv2 {a b : Nat} : PyData.eqv (.tuple [.int (a : Int), .int (b : Int)]) (.tuple [.int 0, .int 0]) = decide ((a, b) = (0, 0)) := by
  show (((a : Int) == 0) && (((b : Int) == 0) && true)) = _
  by_cases h1 : a = 0 <;> by_cases h2 : b = 0 <;> simp [h1, h2]
theorem rows_mat {p : Int} {t : Nat} {S : List Int} (p0 : 0 < p) : Mat p (wd t) (rowsOf p t S) := fun r hr => by
  obtain ⟨h, hh, j, hj, rfl⟩ := mem_rows.mp hr
  unfold rf wd
  refine ⟨by rw [List.length_map], fun x hx => ?_⟩
  obtain ⟨s, _, rfl⟩ := List.mem_map.mp hx
  unfold co
  exact ⟨Int.emod_nonneg _ (by omega), Int.emod_lt_of_pos _ p0⟩
theorem rows_len {p : Int} {t : Nat} : ∀ S : List Int, (rowsOf p t S).length = S.length * (t + 1)
  | [] => by simp [rowsOf]
  | h :: S => by
    have := rows_len (p := p) (t := t) S
    unfold rowsOf at this ⊢
    rw [List.flatMap_cons, List.length_append, this, List.length_cons, Nat.succ_mul]
    unfold rfs
    rw [List.length_map, List.length_range]
    omega
theorem rows_snoc {p : Int} {t : Nat} {S : List Int} {h : Int} : rowsOf p t (S ++ [h]) = rowsOf p t S ++ rfs p t (h + 1) := by
  unfold rowsOf
  rw [List.flatMap_append]
  simp
theorem h_l_is_told (ps : List PV) (Q : PV → Prop) (h : sp_l_is_told ps Q) : t_l_is_told sp_l_spots sp_l_is_spanned sp_l_row_forms { nx := fun _ => nxOf .cl Q, rt := Q } (startE n_l_is_told.length ps) := by
  obtain ⟨p, t, hl, sl, rfl, hp, ht, hll, hsg, h⟩ := h
  have p1 := hp.one
  have p2 := hp.few
  have t2 : t ≤ 2 := by omega
  show t_l_is_told _ _ _ _ [some (.int p), some (.int (t : Int)), some (.lst (hl.map tI)), some (tI sl), none, none, none, none, none]
  unfold t_l_is_told
  try simp only [s_mVar0, s_mVarS, s_mVarO0, s_mVarOS, s_isObj_lst, s_isObj_dic, s_mC, s_mOp, s_mOp1, s_mB, s_mNil, s_mCons, s_mTup, s_mLst, s_mCall, s_mTB, s_mNot, s_mAnd, s_mOr, s_mAndV, s_mOrV, s_mIf, s_mYes, s_mSl, s_mNo, s_mPart, s_mLc, s_mItems, s_mRng1, s_mRng2, s_mEnum, s_mChain, s_seqT, s_seqL, s_sNext, s_sSeq, s_sIf, s_sSet, s_sRet, s_sRetN, s_sBreak, s_sCont, s_sDrop, s_sPar, s_setN0, s_setNS, s_sAsg, s_sApp, s_sAug, s_sFor, s_sSrc, s_gmN, s_gmT, s_gmCons, s_gmNil, s_wipe0, s_wipeS, s_oSub, s_oAddI, s_oAdd, s_oLt, s_oLe, s_oGt, s_oGe, s_oNeg, s_oNot, s_oMul, s_oMulW, s_oMod, s_oFdiv, s_oPow, s_oIsN, s_oNotN, s_oIsB, s_oNotB, s_isNon_int, s_isNon_non, s_isNon_bl, s_isNon_str, s_isNon_tup, s_isNon_lst, s_isNon_dic, s_oEqI, s_oNeI, s_oIxT, s_oIxL, s_oSlT, s_oSlL, s_oRevT, s_oRevL, s_oInt, s_oIntB, s_oAbs, s_oMax2, s_oMin2, s_oLen, s_plenT, s_plenL, s_plenD, s_plenS, s_oTupleL, s_oTupleT, s_oListL, s_oListT, List.set_cons_succ, List.set_cons_zero, List.append_nil, true_and, x_bl, x_int, x_some, x_addT, x_addL, x_true, x_false]
  refine ⟨t, rfl, t2, _, rfl, ?_⟩
  have hwd : wd t ≤ 9 := by rcases ht with rfl | rfl <;> decide
  refine comp_map (emb := spP) (xs := sps t) (f := fun s => .int (if s = (0, 0) then 1 else 0)) (fun s hs => ⟨_, fun k hk => s_gmN.mpr hk, fun Q hQ => hQ, fun Q hQ => ?_⟩) (line (by have e : (sps t).length = wd t := rfl; omega)) ?_
  · obtain ⟨a, b⟩ := s
    unfold spP
    try simp only [s_mVar0, s_mVarS, s_mVarO0, s_mVarOS, s_isObj_lst, s_isObj_dic, s_mC, s_mOp, s_mOp1, s_mB, s_mNil, s_mCons, s_mTup, s_mLst, s_mCall, s_mTB, s_mNot, s_mAnd, s_mOr, s_mAndV, s_mOrV, s_mIf, s_mYes, s_mSl, s_mNo, s_mPart, s_mLc, s_mItems, s_mRng1, s_mRng2, s_mEnum, s_mChain, s_seqT, s_seqL, s_sNext, s_sSeq, s_sIf, s_sSet, s_sRet, s_sRetN, s_sBreak, s_sCont, s_sDrop, s_sPar, s_setN0, s_setNS, s_sAsg, s_sApp, s_sAug, s_sFor, s_sSrc, s_gmN, s_gmT, s_gmCons, s_gmNil, s_wipe0, s_wipeS, s_oSub, s_oAddI, s_oAdd, s_oLt, s_oLe, s_oGt, s_oGe, s_oNeg, s_oNot, s_oMul, s_oMulW, s_oMod, s_oFdiv, s_oPow, s_oIsN, s_oNotN, s_oIsB, s_oNotB, s_isNon_int, s_isNon_non, s_isNon_bl, s_isNon_str, s_isNon_tup, s_isNon_lst, s_isNon_dic, s_oEqI, s_oNeI, s_oIxT, s_oIxL, s_oSlT, s_oSlL, s_oRevT, s_oRevL, s_oInt, s_oIntB, s_oAbs, s_oMax2, s_oMin2, s_oLen, s_plenT, s_plenL, s_plenD, s_plenS, s_oTupleL, s_oTupleT, s_oListL, s_oListT, List.set_cons_succ, List.set_cons_zero, List.append_nil, true_and, x_bl, x_int, x_some, x_addT, x_addL, x_true, x_false]
    refine ⟨line (by simp), .tuple [.int (a : Int), .int (b : Int)], .tuple [.int 0, .int 0], rfl, rfl, rfl, rfl, ?_⟩
    rw [eqv2]
    simp only [s_oIntB]
    rw [show (if decide ((a, b) = (0, 0)) = true then (1 : Int) else 0) = if (a, b) = (0, 0) then 1 else 0 by by_cases z : (a, b) = (0, 0) <;> simp [z]]
    exact hQ
  have ec : ((sps t).map fun s => PV.int (if s = (0, 0) then 1 else 0)) = (corn t).map PV.int := by unfold corn; rw [List.map_map]; rfl
  rw [ec]
  have hcl : (corn t).length = wd t ∧ ∀ x ∈ corn t, 0 ≤ x ∧ x < p := by
    unfold corn wd
    refine ⟨by rw [List.length_map], fun x hx => ?_⟩
    obtain ⟨s, _, rfl⟩ := List.mem_map.mp hx
    split <;> omega
  refine for_inv (emb := tI) (fun i e => (∀ sg ∈ hl.take i, (less sg sl).length > t) ∧ ∃ y5 y6 y7, e = [some (.int p), some (.int (t : Int)), some (.lst (hl.map tI)), some (tI sl), some (lI (corn t)), y5, y6, y7, none]) ⟨(fun sg hs => by simp at hs), none, none, none, rfl⟩ (fun i sg e N hx hE hN => ?_) (fun e hE => ?_)
  · obtain ⟨hall, y5, y6, y7, rfl⟩ := hE
    have hsm := List.mem_of_getElem? hx
    obtain ⟨hpl, hl10⟩ := hsg sg hsm
    rw [s_gmN]
    try simp only [s_mVar0, s_mVarS, s_mVarO0, s_mVarOS, s_isObj_lst, s_isObj_dic, s_mC, s_mOp, s_mOp1, s_mB, s_mNil, s_mCons, s_mTup, s_mLst, s_mCall, s_mTB, s_mNot, s_mAnd, s_mOr, s_mAndV, s_mOrV, s_mIf, s_mYes, s_mSl, s_mNo, s_mPart, s_mLc, s_mItems, s_mRng1, s_mRng2, s_mEnum, s_mChain, s_seqT, s_seqL, s_sNext, s_sSeq, s_sIf, s_sSet, s_sRet, s_sRetN, s_sBreak, s_sCont, s_sDrop, s_sPar, s_setN0, s_setNS, s_sAsg, s_sApp, s_sAug, s_sFor, s_sSrc, s_gmN, s_gmT, s_gmCons, s_gmNil, s_wipe0, s_wipeS, s_oSub, s_oAddI, s_oAdd, s_oLt, s_oLe, s_oGt, s_oGe, s_oNeg, s_oNot, s_oMul, s_oMulW, s_oMod, s_oFdiv, s_oPow, s_oIsN, s_oNotN, s_oIsB, s_oNotB, s_isNon_int, s_isNon_non, s_isNon_bl, s_isNon_str, s_isNon_tup, s_isNon_lst, s_isNon_dic, s_oEqI, s_oNeI, s_oIxT, s_oIxL, s_oSlT, s_oSlL, s_oRevT, s_oRevL, s_oInt, s_oIntB, s_oAbs, s_oMax2, s_oMin2, s_oLen, s_plenT, s_plenL, s_plenD, s_plenS, s_oTupleL, s_oTupleT, s_oListL, s_oListT, List.set_cons_succ, List.set_cons_zero, List.append_nil, true_and, x_bl, x_int, x_some, x_addT, x_addL, x_true, x_false]
    refine ⟨Nat.zero_le _, ?_⟩
    refine for_inv (emb := PV.int) (fun m e => ∃ y7, e = [some (.int p), some (.int (t : Int)), some (.lst (hl.map tI)), some (tI sl), some (lI (corn t)), some (tI sg), some (.lst ((rowsOf p t (less (sg.take m) sl)).map lI)), y7, none]) ⟨y7, rfl⟩ (fun m x e N2 hm hE2 hN2 => ?_) (fun e hE2 => ?_)
    · obtain ⟨y7, rfl⟩ := hE2
      rw [s_gmN]
      try simp only [s_mVar0, s_mVarS, s_mVarO0, s_mVarOS, s_isObj_lst, s_isObj_dic, s_mC, s_mOp, s_mOp1, s_mB, s_mNil, s_mCons, s_mTup, s_mLst, s_mCall, s_mTB, s_mNot, s_mAnd, s_mOr, s_mAndV, s_mOrV, s_mIf, s_mYes, s_mSl, s_mNo, s_mPart, s_mLc, s_mItems, s_mRng1, s_mRng2, s_mEnum, s_mChain, s_seqT, s_seqL, s_sNext, s_sSeq, s_sIf, s_sSet, s_sRet, s_sRetN, s_sBreak, s_sCont, s_sDrop, s_sPar, s_setN0, s_setNS, s_sAsg, s_sApp, s_sAug, s_sFor, s_sSrc, s_gmN, s_gmT, s_gmCons, s_gmNil, s_wipe0, s_wipeS, s_oSub, s_oAddI, s_oAdd, s_oLt, s_oLe, s_oGt, s_oGe, s_oNeg, s_oNot, s_oMul, s_oMulW, s_oMod, s_oFdiv, s_oPow, s_oIsN, s_oNotN, s_oIsB, s_oNotB, s_isNon_int, s_isNon_non, s_isNon_bl, s_isNon_str, s_isNon_tup, s_isNon_lst, s_isNon_dic, s_oEqI, s_oNeI, s_oIxT, s_oIxL, s_oSlT, s_oSlL, s_oRevT, s_oRevL, s_oInt, s_oIntB, s_oAbs, s_oMax2, s_oMin2, s_oLen, s_plenT, s_plenL, s_plenD, s_plenS, s_oTupleL, s_oTupleT, s_oListL, s_oListT, List.set_cons_succ, List.set_cons_zero, List.append_nil, true_and, x_bl, x_int, x_some, x_addT, x_addL, x_true, x_false]
      have hxm := List.mem_of_getElem? hm
      have hml := (List.getElem?_eq_some_iff.mp hm).1
      have es : sg.take (m + 1) = sg.take m ++ [x] := by rw [List.take_add_one, hm]; rfl
      refine oIn_intsT ⟨_, rfl, ?_⟩
      by_cases hin : x ∈ sl
      · refine ite_f (by rw [decide_eq_true hin]; decide) (hN2 _ ⟨some (.int x), ?_⟩)
        have el : less (sg.take (m + 1)) sl = less (sg.take m) sl := by
          unfold less; rw [es, List.filter_append]; simp [hin]
        rw [el]
      · refine ite_t (by rw [decide_eq_false hin]; rfl) ?_
        have el : less (sg.take (m + 1)) sl = less (sg.take m) sl ++ [x] := by
          unfold less; rw [es, List.filter_append]; simp [hin]
        obtain ⟨b0, b1⟩ := hpl.2 x hxm
        refine ⟨p, t, x, rfl, by omega, p2, t2, b0, by omega, ?_⟩
        try simp only [s_mVar0, s_mVarS, s_mVarO0, s_mVarOS, s_isObj_lst, s_isObj_dic, s_mC, s_mOp, s_mOp1, s_mB, s_mNil, s_mCons, s_mTup, s_mLst, s_mCall, s_mTB, s_mNot, s_mAnd, s_mOr, s_mAndV, s_mOrV, s_mIf, s_mYes, s_mSl, s_mNo, s_mPart, s_mLc, s_mItems, s_mRng1, s_mRng2, s_mEnum, s_mChain, s_seqT, s_seqL, s_sNext, s_sSeq, s_sIf, s_sSet, s_sRet, s_sRetN, s_sBreak, s_sCont, s_sDrop, s_sPar, s_setN0, s_setNS, s_sAsg, s_sApp, s_sAug, s_sFor, s_sSrc, s_gmN, s_gmT, s_gmCons, s_gmNil, s_wipe0, s_wipeS, s_oSub, s_oAddI, s_oAdd, s_oLt, s_oLe, s_oGt, s_oGe, s_oNeg, s_oNot, s_oMul, s_oMulW, s_oMod, s_oFdiv, s_oPow, s_oIsN, s_oNotN, s_oIsB, s_oNotB, s_isNon_int, s_isNon_non, s_isNon_bl, s_isNon_str, s_isNon_tup, s_isNon_lst, s_isNon_dic, s_oEqI, s_oNeI, s_oIxT, s_oIxL, s_oSlT, s_oSlL, s_oRevT, s_oRevL, s_oInt, s_oIntB, s_oAbs, s_oMax2, s_oMin2, s_oLen, s_plenT, s_plenL, s_plenD, s_plenS, s_oTupleL, s_oTupleT, s_oListL, s_oListT, List.set_cons_succ, List.set_cons_zero, List.append_nil, true_and, x_bl, x_int, x_some, x_addT, x_addL, x_true, x_false]
        have hrl := rows_len (p := p) (t := t) (less (sg.take m) sl)
        have hll2 : (less (sg.take m) sl).length ≤ 10 := by
          unfold less
          have := List.length_filter_le (fun h => !decide (h ∈ sl)) (sg.take m)
          rw [List.length_take] at this
          omega
        have hmul : (less (sg.take m) sl).length * (t + 1) ≤ 30 := Nat.mul_le_mul hll2 (by omega : t + 1 ≤ 3)
        refine ⟨line (by rw [List.length_map, List.length_map]; unfold rfs; rw [List.length_map, List.length_range]; omega), hN2 _ ⟨some (.int x), ?_⟩⟩
        rw [el, rows_snoc, List.map_append (f := lI)]
    · obtain ⟨y7, rfl⟩ := hE2
      rw [List.take_length]
      try simp only [s_mVar0, s_mVarS, s_mVarO0, s_mVarOS, s_isObj_lst, s_isObj_dic, s_mC, s_mOp, s_mOp1, s_mB, s_mNil, s_mCons, s_mTup, s_mLst, s_mCall, s_mTB, s_mNot, s_mAnd, s_mOr, s_mAndV, s_mOrV, s_mIf, s_mYes, s_mSl, s_mNo, s_mPart, s_mLc, s_mItems, s_mRng1, s_mRng2, s_mEnum, s_mChain, s_seqT, s_seqL, s_sNext, s_sSeq, s_sIf, s_sSet, s_sRet, s_sRetN, s_sBreak, s_sCont, s_sDrop, s_sPar, s_setN0, s_setNS, s_sAsg, s_sApp, s_sAug, s_sFor, s_sSrc, s_gmN, s_gmT, s_gmCons, s_gmNil, s_wipe0, s_wipeS, s_oSub, s_oAddI, s_oAdd, s_oLt, s_oLe, s_oGt, s_oGe, s_oNeg, s_oNot, s_oMul, s_oMulW, s_oMod, s_oFdiv, s_oPow, s_oIsN, s_oNotN, s_oIsB, s_oNotB, s_isNon_int, s_isNon_non, s_isNon_bl, s_isNon_str, s_isNon_tup, s_isNon_lst, s_isNon_dic, s_oEqI, s_oNeI, s_oIxT, s_oIxL, s_oSlT, s_oSlL, s_oRevT, s_oRevL, s_oInt, s_oIntB, s_oAbs, s_oMax2, s_oMin2, s_oLen, s_plenT, s_plenL, s_plenD, s_plenS, s_oTupleL, s_oTupleT, s_oListL, s_oListT, List.set_cons_succ, List.set_cons_zero, List.append_nil, true_and, x_bl, x_int, x_some, x_addT, x_addL, x_true, x_false]
      have hll2 : (less sg sl).length ≤ 10 := by
        unfold less
        have := List.length_filter_le (fun h => !decide (h ∈ sl)) sg
        omega
      have hpl2 : Plc p (less sg sl) := ⟨hpl.1.filter _, fun x hx => hpl.2 x (List.mem_filter.mp hx).1⟩
      have hrl := rows_len (p := p) (t := t) (less sg sl)
      have hmul : (less sg sl).length * (t + 1) ≤ 30 := Nat.mul_le_mul hll2 (by omega : t + 1 ≤ 3)
      refine ⟨p, wd t, rowsOf p t (less sg sl), corn t, rfl, hp, by omega, by omega, rows_mat (by omega), hcl, fun b hb1 hb2 => ⟨_, rfl, ?_⟩⟩
      by_cases hgt : t < (less sg sl).length
      · have eb := hb1 (told_yes hp ht hpl2 hgt)
        subst eb
        refine ite_f (by decide) (hN _ ⟨fun s hs => ?_, _, _, _, rfl⟩)
        rw [List.take_add_one, hx] at hs
        rcases List.mem_append.mp hs with z | z
        · exact hall s z
        · have : s = sg := by simpa using z
          rw [this]; exact hgt
      · obtain ⟨A, hA, hn⟩ := told_no hp ht hpl2 (by omega)
        have eb := hb2 A hA hn
        subst eb
        refine ite_t (by decide) ?_
        have : (hl.all fun sg => decide ((less sg sl).length > t)) = false := by
          cases q : hl.all fun sg => decide ((less sg sl).length > t) with
          | false => rfl
          | true => exact absurd (of_decide_eq_true (List.all_eq_true.mp q sg hsm)) hgt
        rw [this] at h
        exact h
  · obtain ⟨hall, y5, y6, y7, rfl⟩ := hE
    rw [List.take_length] at hall
    try simp only [s_mVar0, s_mVarS, s_mVarO0, s_mVarOS, s_isObj_lst, s_isObj_dic, s_mC, s_mOp, s_mOp1, s_mB, s_mNil, s_mCons, s_mTup, s_mLst, s_mCall, s_mTB, s_mNot, s_mAnd, s_mOr, s_mAndV, s_mOrV, s_mIf, s_mYes, s_mSl, s_mNo, s_mPart, s_mLc, s_mItems, s_mRng1, s_mRng2, s_mEnum, s_mChain, s_seqT, s_seqL, s_sNext, s_sSeq, s_sIf, s_sSet, s_sRet, s_sRetN, s_sBreak, s_sCont, s_sDrop, s_sPar, s_setN0, s_setNS, s_sAsg, s_sApp, s_sAug, s_sFor, s_sSrc, s_gmN, s_gmT, s_gmCons, s_gmNil, s_wipe0, s_wipeS, s_oSub, s_oAddI, s_oAdd, s_oLt, s_oLe, s_oGt, s_oGe, s_oNeg, s_oNot, s_oMul, s_oMulW, s_oMod, s_oFdiv, s_oPow, s_oIsN, s_oNotN, s_oIsB, s_oNotB, s_isNon_int, s_isNon_non, s_isNon_bl, s_isNon_str, s_isNon_tup, s_isNon_lst, s_isNon_dic, s_oEqI, s_oNeI, s_oIxT, s_oIxL, s_oSlT, s_oSlL, s_oRevT, s_oRevL, s_oInt, s_oIntB, s_oAbs, s_oMax2, s_oMin2, s_oLen, s_plenT, s_plenL, s_plenD, s_plenS, s_oTupleL, s_oTupleT, s_oListL, s_oListT, List.set_cons_succ, List.set_cons_zero, List.append_nil, true_and, x_bl, x_int, x_some, x_addT, x_addL, x_true, x_false]
    have : (hl.all fun sg => decide ((less sg sl).length > t)) = true := List.all_eq_true.mpr fun sg hs => decide_eq_true (hall sg hs)
    rw [this] at h
    exact h
end K25

set_option maxHeartbeats 2000000
namespace K25
open PySem L2 PM
theorem filter_sub : ∀ {lot w : List Int}, w.Sublist lot → lot.Nodup → (lot.filter fun h => decide (h ∈ w)) = w
  | [], w, h, _ => by rw [List.sublist_nil.mp h]; rfl
  | x :: lot, w, h, nd => by
    rw [List.nodup_cons] at nd
    cases h with
    | cons _ h =>
      have : x ∉ w := fun z => nd.1 (h.subset z)
      rw [List.filter_cons, if_neg (by rw [decide_eq_false this]; decide)]
      exact filter_sub h nd.2
    | cons_cons _ h =>
      rename_i w'
      rw [List.filter_cons, if_pos (by simp)]
      congr 1
      have e : (lot.filter fun h => decide (h ∈ x :: w')) = lot.filter fun h => decide (h ∈ w') := List.filter_congr fun y hy => by
        have ne : y ≠ x := fun z => nd.1 (z ▸ hy)
        simp [ne]
      rw [e]
      exact filter_sub h nd.2
theorem less_nil {sg : List Int} : less sg [] = sg := by unfold less; simp
theorem less_take {sg : List Int} {n : Nat} (nd : sg.Nodup) : less sg (sg.take n) = sg.drop n := by
  have e : sg = sg.take n ++ sg.drop n := (List.take_append_drop n sg).symm
  have nd2 : (sg.take n ++ sg.drop n).Nodup := by rw [← e]; exact nd
  obtain ⟨_, _, hd⟩ := List.nodup_append.mp nd2
  unfold less
  conv => lhs; arg 2; rw [e]
  rw [List.filter_append]
  have h1 : (sg.take n).filter (fun h => !decide (h ∈ sg.take n)) = [] := List.filter_eq_nil_iff.mpr fun x hx => by simp [hx]
  have h2 : (sg.drop n).filter (fun h => !decide (h ∈ sg.take n)) = sg.drop n := List.filter_eq_self.mpr fun x hx => by
    have : x ∉ sg.take n := fun z => hd x z x hx rfl
    simp [this]
  rw [h1, h2, List.nil_append]
theorem len_le : ∀ {a b : List Int}, a.Nodup → (∀ x ∈ a, x ∈ b) → a.length ≤ b.length
  | [], _, _, _ => Nat.zero_le _
  | x :: a, b, h, hs => by
    rw [List.nodup_cons] at h
    have hx := hs x (List.mem_cons_self ..)
    have := len_le (b := b.erase x) h.2 fun y hy => by
      have ne : y ≠ x := fun z => h.1 (z ▸ hy)
      exact (List.mem_erase_of_ne ne).mpr (hs y (List.mem_cons_of_mem _ hy))
    rw [List.length_erase_of_mem hx] at this
    have : 0 < b.length := List.length_pos_of_mem hx
    rw [List.length_cons]
    omega

theorem len_split (f : Int → Bool) : ∀ l : List Int, l.length = (l.filter fun h => !f h).length + (l.filter f).length
  | [] => rfl
  | x :: l => by
    have ih := len_split f l
    rw [List.filter_cons, List.filter_cons, List.length_cons]
    cases f x <;> simp <;> omega
theorem less_len {sg sl : List Int} (nd : sg.Nodup) : sg.length ≤ (less sg sl).length + sl.length := by
  have h1 : sg.length = (sg.filter fun h => !decide (h ∈ sl)).length + (sg.filter fun h => decide (h ∈ sl)).length := by
    exact len_split (fun h => decide (h ∈ sl)) sg
  have h2 : (sg.filter fun h => decide (h ∈ sl)).length ≤ sl.length := by
    have hn : (sg.filter fun h => decide (h ∈ sl)).Nodup := nd.filter _
    exact len_le hn fun x hx => by simpa using (List.mem_filter.mp hx).2
  unfold less
  omega
/-- not told without sl -/
def ndue (t : Nat) (hl : List (List Int)) (sl : List Int) : Bool := hl.all fun sg => decide ((less sg sl).length > t)
theorem ndue_false {t : Nat} {hl : List (List Int)} {sl : List Int} : ndue t hl sl = false ↔ ∃ sg ∈ hl, (less sg sl).length ≤ t := by
  unfold ndue
  rw [List.all_eq_false]
  constructor
  · rintro ⟨sg, h1, h2⟩
    exact ⟨sg, h1, by simpa using h2⟩
  · rintro ⟨sg, h1, h2⟩
    exact ⟨sg, h1, by simpa using h2⟩
/-- the least of all lots that starve -/
structure Lst (t : Nat) (lot : List Int) (hl : List (List Int)) (least : Int) : Prop where
  low : ∀ s : List Int, s.Sublist lot → ndue t hl s = false → least ≤ s.length
  here : ∃ s : List Int, s.Sublist lot ∧ ndue t hl s = false ∧ (s.length : Int) = least
theorem lst_is {t : Nat} {lot : List Int} {hl : List (List Int)} {least m : Int} (h : Lst t lot hl least) (hs : ∀ sg ∈ hl, sg.Sublist lot) (nd : lot.Nodup) (hm : (∃ sg ∈ hl, (sg.length : Int) = m) ∧ ∀ sg ∈ hl, m ≤ sg.length) : mx0 (m - t) = least := by
  obtain ⟨⟨sg, h1, h2⟩, h3⟩ := hm
  obtain ⟨s, hs1, hs2, hs3⟩ := h.here
  obtain ⟨g, hg1, hg2⟩ := ndue_false.mp hs2
  have lo := less_len (sl := s) ((hs g hg1).nodup nd)
  have := h3 g hg1
  have up := h.low (sg.take (sg.length - t)) ((List.take_sublist _ _).trans (hs sg h1)) (ndue_false.mpr ⟨sg, h1, by
    rw [less_take ((hs sg h1).nodup nd), List.length_drop]; omega⟩)
  rw [List.length_take] at up
  unfold mx0
  split <;> omega
theorem sub_ints {ys : List PV} {lot : List Int} (h : ys.Sublist (lot.map PV.int)) : ∃ d : List Int, d.Sublist lot ∧ ys = d.map PV.int := by
  obtain ⟨d, h1, h2⟩ := List.sublist_map_iff.mp h
  exact ⟨d, h1, h2⟩
/-! ### notes -/
theorem mem_sgn {ns : List Nt} {i : Int} {q : Int × Int} {h : Int} : h ∈ sgn ns i q ↔ (h, i, q.1, q.2) ∈ ns := by
  unfold sgn
  rw [List.mem_map]
  constructor
  · rintro ⟨n, hn, rfl⟩
    obtain ⟨h1, h2⟩ := List.mem_filter.mp hn
    have h2 := of_decide_eq_true h2
    obtain ⟨a, b, c, d⟩ := n
    obtain ⟨e1, e2, e3⟩ := h2
    have e1 : b = i := e1
    have e2 : c = q.1 := e2
    have e3 : d = q.2 := e3
    subst e1 e2 e3
    exact h1
  · intro hn
    exact ⟨_, List.mem_filter.mpr ⟨hn, decide_eq_true ⟨rfl, rfl, rfl⟩⟩, rfl⟩
theorem hld_congr {lot : List Int} {ns ns' : List Nt} {i : Int} {q : Int × Int} (h : ∀ x ∈ lot, (x, i, q.1, q.2) ∈ ns ↔ (x, i, q.1, q.2) ∈ ns') : hld lot ns i q = hld lot ns' i q := List.filter_congr fun x hx => decide_eq_decide.mpr (by rw [mem_sgn, mem_sgn]; exact h x hx)
/-- the notes of one dealing -/
def fresh (lot pool sg one two : List Int) (i d s : Int) : List Nt := (sg.map fun h => (h, i, d, s)) ++ (one.map fun h => (h, 1 - i, d, s)) ++ (two.map fun h => (h, i, d, s + 1)) ++ ((pool.filter fun h => !decide (h ∈ lot)).map fun h => (h, i, d, s))
theorem mem_fresh {lot pool sg one two : List Int} {i d s : Int} {n : Nt} (h : n ∈ fresh lot pool sg one two i d s) : n.2.2.1 = d := by
  unfold fresh at h
  rcases List.mem_append.mp h with h | h
  · rcases List.mem_append.mp h with h | h
    · rcases List.mem_append.mp h with h | h
      · obtain ⟨x, _, rfl⟩ := List.mem_map.mp h; rfl
      · obtain ⟨x, _, rfl⟩ := List.mem_map.mp h; rfl
    · obtain ⟨x, _, rfl⟩ := List.mem_map.mp h; rfl
  · obtain ⟨x, _, rfl⟩ := List.mem_map.mp h; rfl
theorem fresh_hld {lot pool sg one two : List Int} {i d s : Int} {ns : List Nt} (hi : i = 0 ∨ i = 1) (hsg : sg.Sublist lot) (nd : lot.Nodup) (hns : ∀ n ∈ ns, n.2.2.1 ≠ d) : hld lot (ns ++ fresh lot pool sg one two i d s) i (d, s) = sg := by
  have e : hld lot (ns ++ fresh lot pool sg one two i d s) i (d, s) = lot.filter fun h => decide (h ∈ sg) := List.filter_congr fun x hx => decide_eq_decide.mpr (by
    rw [mem_sgn]
    constructor
    · intro h
      rcases List.mem_append.mp h with h | h
      · exact absurd rfl (hns _ h)
      · unfold fresh at h
        rcases List.mem_append.mp h with h | h
        · rcases List.mem_append.mp h with h | h
          · rcases List.mem_append.mp h with h | h
            · obtain ⟨y, hy, e⟩ := List.mem_map.mp h
              have : y = x := congrArg (fun n : Nt => n.1) e
              exact this ▸ hy
            · obtain ⟨y, hy, e⟩ := List.mem_map.mp h
              have : 1 - i = i := congrArg (fun n : Nt => n.2.1) e
              omega
          · obtain ⟨y, hy, e⟩ := List.mem_map.mp h
            have : s + 1 = s := congrArg (fun n : Nt => n.2.2.2) e
            omega
        · obtain ⟨y, hy, e⟩ := List.mem_map.mp h
          have e : y = x := congrArg (fun n : Nt => n.1) e
          subst e
          have := (List.mem_filter.mp hy).2
          simp [hx] at this
    · intro h
      refine List.mem_append_right _ ?_
      unfold fresh
      exact List.mem_append_left _ (List.mem_append_left _ (List.mem_append_left _ (List.mem_map.mpr ⟨x, h, rfl⟩))))
  rw [e]
  exact filter_sub hsg nd
theorem old_hld {lot pool sg one two : List Int} {i d s : Int} {ns : List Nt} {q : Int × Int} (hq : q.1 ≠ d) : hld lot (ns ++ fresh lot pool sg one two i d s) i q = hld lot ns i q := hld_congr fun x _ => by
  rw [List.mem_append]
  constructor
  · rintro (h | h)
    · exact h
    · exact absurd (mem_fresh h) hq
  · exact .inl
end K25

set_option maxHeartbeats 2000000
namespace K25
open PySem L2 PM
def t_law_c11 (ok_l_heap : List PV → Prop) (sp_l_some : PM.Spec) (sp_l_lots : PM.Spec) (sp_some_silence : PM.Spec) (sp_l_pick : PM.Spec) (sp_l_draw : PM.Spec) (sp_l_like : PM.Spec) (sp_l_is_told : PM.Spec) (sp_is_told_without : PM.Spec) (sp_silence_needed : PM.Spec) : TSm :=
  (sSeq (sSet 7 (mCall sp_l_some [] (mCons (mVar 1) (mCons (mVar 11) (mCons (mCall sp_l_draw [] (mCons (mVar 1) (mCons (mOp oAdd (mVar 2) (mC (.int 1))) mNil))) mNil))))) (sSeq (sIf (mNot (mTB (mCall sp_l_like [] (mCons (mCall sp_is_told_without [] (mCons (mVar 9) (mCons (mVar 14) (mCons (mVar 5) (mCons (mVar 13) (mCons (mVar 15) (mCons (mVar 7) mNil))))))) (mCons (mCall sp_l_is_told [] (mCons (mVar 10) (mCons (mVar 9) (mCons (mVar 16) (mCons (mVar 7) mNil))))) mNil))))) (sRet (mC (.bl false))) sNext) (sSeq (sIf (mNot (mTB (mCall sp_l_like [] (mCons (mCall sp_silence_needed [] (mCons (mVar 9) (mCons (mVar 14) (mCons (mVar 5) (mCons (mVar 13) (mCons (mVar 15) mNil)))))) (mCons (mVar 18) mNil))))) (sRet (mC (.bl false))) sNext) (sSeq (sSet 8 (mCall sp_some_silence [] (mCons (mVar 9) (mCons (mVar 14) (mCons (mVar 5) (mCons (mVar 13) (mCons (mVar 15) mNil))))))) (sSeq (sIf (mOr (mNot (mTB (mOp1 (oIsi "tuple") (mVar 8)))) (mTB (mOp oNe (mB oLen (mCons (mVar 8) mNil)) (mVar 18)))) (sRet (mC (.bl false))) sNext) (sSeq (sIf (mNot (mTB (mCall sp_l_like [] (mCons (mVar 8) (mCons (mB oTuple (mCons (mLc (mItems (mVar 11)) [22] (gmN 22) (mTB (mOp (oIn false) (mVar 22) (mVar 8))) (mVar 22)) mNil)) mNil))))) (sRet (mC (.bl false))) sNext) (sRet (mOp1 oNot (mCall sp_l_is_told [] (mCons (mVar 10) (mCons (mVar 9) (mCons (mVar 16) (mCons (mVar 8) mNil)))))))))))))
def t_law_c8 (ok_l_heap : List PV → Prop) (sp_l_some : PM.Spec) (sp_l_lots : PM.Spec) (sp_some_silence : PM.Spec) (sp_l_pick : PM.Spec) (sp_l_draw : PM.Spec) (sp_l_like : PM.Spec) (sp_l_is_told : PM.Spec) (sp_is_told_without : PM.Spec) (sp_silence_needed : PM.Spec) : TSm :=
  (sSeq (sSet 5 (mB oTuple (mCons (mCall sp_l_some [] (mCons (mVar 1) (mCons (mVar 5) (mCons (mB oLen (mCons (mVar 5) mNil)) mNil)))) mNil))) (sSeq (sPar [15, 18] (mCons (mB oTuple (mCons (mVarO 15) mNil)) (mCons (mC (.int 99)) mNil))) (sSeq (sFor (mItems (mCall sp_l_lots [] (mCons (mVar 11) mNil))) (gmN 6) (sSeq (sSet 19 (mB oAll (mCons (mLc (mOwn 16) [20] (gmN 20) mYes (mOp oGt (mB oLen (mCons (mLc (mItems (mVar 20)) [22] (gmN 22) (mTB (mOp (oIn true) (mVar 22) (mVar 6))) (mVar 22)) mNil)) (mVar 9))) mNil))) (sSeq (sIf (mNot (mTB (mCall sp_l_like [] (mCons (mCall sp_is_told_without [] (mCons (mVar 9) (mCons (mVar 14) (mCons (mVar 5) (mCons (mVar 13) (mCons (mVar 15) (mCons (mVar 6) mNil))))))) (mCons (mVar 19) mNil))))) (sRet (mC (.bl false))) sNext) (sIf (mNot (mTB (mVar 19))) (sSet 18 (mB oMin2 (mCons (mVar 18) (mCons (mB oLen (mCons (mVar 6) mNil)) mNil)))) sNext)))) (t_law_c11 ok_l_heap sp_l_some sp_l_lots sp_some_silence sp_l_pick sp_l_draw sp_l_like sp_l_is_told sp_is_told_without sp_silence_needed))))
def t_law_c7 (ok_l_heap : List PV → Prop) (sp_l_some : PM.Spec) (sp_l_lots : PM.Spec) (sp_some_silence : PM.Spec) (sp_l_pick : PM.Spec) (sp_l_draw : PM.Spec) (sp_l_like : PM.Spec) (sp_l_is_told : PM.Spec) (sp_is_told_without : PM.Spec) (sp_silence_needed : PM.Spec) : TSm :=
  (sSeq (sFor (mItems (mCall sp_l_some [] (mCons (mVar 1) (mCons (mVar 12) (mCons (mOp oAdd (mVar 9) (mC (.int 1))) mNil))))) (gmN 4) (sSeq (sSet 17 (mB oMin2 (mCons (mVar 2) (mCons (mCall sp_l_pick [] (mCons (mVar 1) (mCons (mLst (mCons (mVar 9) (mCons (mOp oAdd (mVar 9) (mC (.int 1))) (mCons (mOp oAdd (mVar 9) (mC (.int 1))) (mCons (mOp oAdd (mVar 9) (mC (.int 2))) (mCons (mOp oAdd (mOp oMul (mC (.int 2)) (mVar 9)) (mC (.int 1))) (mCons (mVar 2) (mCons (mCall sp_l_draw [] (mCons (mVar 1) (mCons (mOp oAdd (mVar 2) (mC (.int 1))) mNil))) mNil)))))))) mNil))) mNil)))) (sSeq (sPar [20, 21] (mCons (mCall sp_l_some [] (mCons (mVar 1) (mCons (mVar 11) (mCons (mVar 17) mNil)))) (mCons (mCall sp_l_draw [] (mCons (mVar 1) (mCons (mC (.int 9)) mNil))) mNil))) (sSeq (sApp 15 (mTup (mCons (mVar 4) (mCons (mVar 21) mNil)))) (sSeq (sApp 16 (mVar 20)) (sSeq (sSet 5 (mOp oAdd (mVar 5) (mLc (mItems (mVar 20)) [22] (gmN 22) mYes (mTup (mCons (mVar 22) (mCons (mC (.str (PySem.Str.ofString "hold"))) (mCons (mVar 13) (mCons (mVar 4) (mCons (mVar 21) mNil))))))))) (sSeq (sSet 5 (mOp oAdd (mVar 5) (mLc (mItems (mCall sp_l_some [] (mCons (mVar 1) (mCons (mVar 12) (mCons (mC (.int 1)) mNil))))) [22] (gmN 22) mYes (mTup (mCons (mVar 22) (mCons (mC (.str (PySem.Str.ofString "hold"))) (mCons (mOp oSub (mC (.int 1)) (mVar 13)) (mCons (mVar 4) (mCons (mVar 21) mNil))))))))) (sSeq (sSet 5 (mOp oAdd (mVar 5) (mLc (mItems (mCall sp_l_some [] (mCons (mVar 1) (mCons (mVar 11) (mCons (mC (.int 1)) mNil))))) [22] (gmN 22) mYes (mTup (mCons (mVar 22) (mCons (mC (.str (PySem.Str.ofString "hold"))) (mCons (mVar 13) (mCons (mVar 4) (mCons (mOp oAdd (mVar 21) (mC (.int 1))) mNil))))))))) (sSet 5 (mOp oAdd (mVar 5) (mLc (mItems (mVar 3)) [22] (gmN 22) (mTB (mOp (oIn true) (mVar 22) (mVar 11))) (mTup (mCons (mVar 22) (mCons (mC (.str (PySem.Str.ofString "hold"))) (mCons (mVar 13) (mCons (mVar 4) (mCons (mVar 21) mNil))))))))))))))))) (t_law_c8 ok_l_heap sp_l_some sp_l_lots sp_some_silence sp_l_pick sp_l_draw sp_l_like sp_l_is_told sp_is_told_without sp_silence_needed))
def t_law_a (ok_l_heap : List PV → Prop) (sp_l_some : PM.Spec) (sp_l_lots : PM.Spec) (sp_some_silence : PM.Spec) (sp_l_pick : PM.Spec) (sp_l_draw : PM.Spec) (sp_l_like : PM.Spec) (sp_l_is_told : PM.Spec) (sp_is_told_without : PM.Spec) (sp_silence_needed : PM.Spec) : TSm :=
  (sSeq (sSrc 1 ok_l_heap (mCons (mVar 0) mNil)) (sSeq (sPar [9, 10] (mCons (mCall sp_l_pick [] (mCons (mVar 1) (mCons (mLst (mCons (mC (.int 1)) (mCons (mC (.int 1)) (mCons (mC (.int 2)) mNil)))) mNil))) (mCons (mCall sp_l_pick [] (mCons (mVar 1) (mCons (mLst (mCons (mC (.int 11)) (mCons (mC (.int 13)) (mCons (mC (.int 29)) (mCons (mC (.int 31)) mNil))))) mNil))) mNil))) (sSeq (sSet 2 (mOp oAdd (mOp oAdd (mVar 9) (mC (.int 1))) (mCall sp_l_draw [] (mCons (mVar 1) (mCons (mOp oSub (mC (.int 6)) (mVar 9)) mNil))))) (sSeq (sSet 3 (mCall sp_l_some [] (mCons (mVar 1) (mCons (mLc (mRng1 (mIf (mTB (mOp oLt (mVar 10) (mC (.int 20)))) (mOp oSub (mVar 10) (mC (.int 1))) (mC (.int 24)))) [22] (gmN 22) mYes (mVar 22)) (mCons (mOp oAdd (mVar 2) (mC (.int 2))) mNil))))) (sSeq (sPar [11, 12, 13] (mCons (mCall sp_l_some [] (mCons (mVar 1) (mCons (mVar 3) (mCons (mVar 2) mNil)))) (mCons (mCall sp_l_some [] (mCons (mVar 1) (mCons (mVar 3) (mCons (mVar 2) mNil)))) (mCons (mCall sp_l_draw [] (mCons (mVar 1) (mCons (mC (.int 2)) mNil))) mNil)))) (sSeq (sPar [14, 15, 5, 16] (mCons (mIf (mTB (mOp oEq (mVar 13) (mC (.int 0)))) (mTup (mCons (mVar 12) (mCons (mVar 11) mNil))) (mTup (mCons (mVar 11) (mCons (mVar 12) (mCons (mVar 11) mNil))))) (mCons (mLst mNil) (mCons (mLst mNil) (mCons (mLst mNil) mNil))))) (t_law_c7 ok_l_heap sp_l_some sp_l_lots sp_some_silence sp_l_pick sp_l_draw sp_l_like sp_l_is_told sp_is_told_without sp_silence_needed)))))))
theorem t_law_eq (ok_l_heap : List PV → Prop) (sp_l_some : PM.Spec) (sp_l_lots : PM.Spec) (sp_some_silence : PM.Spec) (sp_l_pick : PM.Spec) (sp_l_draw : PM.Spec) (sp_l_like : PM.Spec) (sp_l_is_told : PM.Spec) (sp_is_told_without : PM.Spec) (sp_silence_needed : PM.Spec) : t_law ok_l_heap sp_l_some sp_l_lots sp_some_silence sp_l_pick sp_l_draw sp_l_like sp_l_is_told sp_is_told_without sp_silence_needed = t_law_a ok_l_heap sp_l_some sp_l_lots sp_some_silence sp_l_pick sp_l_draw sp_l_like sp_l_is_told sp_is_told_without sp_silence_needed := rfl
end K25

set_option maxHeartbeats 8000000
namespace K25
open PySem L2 PM
/-- what stands behind the dealings -/
structure Dl (p : Int) (t k : Nat) (lot : List Int) (cs : List PV) (i : Int) (ns : List Nt) (hd : List (Int × Int)) : Prop where
  pp : PP p
  tt : t = 1 ∨ t = 2
  plc : Plc p lot
  len : lot.length = k
  k6 : k ≤ 6
  at_i : atI cs (i + 1) = some (tI lot)
  few : ns.length ≤ 1000
  some_hd : 0 < hd.length ∧ hd.length ≤ 10
  sub : ∀ q ∈ hd, (hld lot ns i q).Sublist lot
section
variable {p : Int} {t k : Nat} {lot : List Int} {cs : List PV} {i : Int} {ns : List Nt} {hd : List (Int × Int)}
theorem Dl.gv (D : Dl p t k lot cs i ns hd) : Gv cs i lot ns := ⟨D.at_i, by have := D.len; have := D.k6; omega, D.few⟩
theorem toldB_due {sl : List Int} : toldB t lot ns i hd sl = ndue t (hd.map (hld lot ns i)) sl := by
  unfold toldB ndue
  rw [List.all_map]
  congr 1
  funext q
  exact decide_eq_decide.mpr (by
    have e : lft lot ns i q sl = less (hld lot ns i q) sl := rfl
    rw [e]
    show ((less (hld lot ns i q) sl).length : Int) > t ↔ (less (hld lot ns i q) sl).length > t
    omega)
end
theorem lk_b {n : Nat} {b : Bool} : Lk n (.bl b) := by cases n <;> trivial
theorem h_c11 (p : Int) (t k : Nat) (lot : List Int) (cs : List PV) (i : Int) (ns : List Nt) (hd : List (Int × Int)) (D : Dl p t k lot cs i ns hd) (least : Int) (hL : Lst t lot (hd.map (hld lot ns i)) least) (v0 v3 v4 v6 v7 v8 v12 v17 v19 v20 v21 : Option PV) : t_law_c11 ok_heap sp_some sp_l_lots sp_some_silence sp_pick sp_drw (spk 3) sp_l_is_told sp_is_told_without sp_silence_needed { nx := fun _ => False, rt := fun p => p = .bl true } [v0, some .src, some (.int (k : Int)), v3, v4, some (.tup (ns.map ntP)), v6, v7, v8, some (.int (t : Int)), some (.int p), some (tI lot), v12, some (.int i), some (.tup cs), some (.tup (hd.map prP)), some (.lst ((hd.map (hld lot ns i)).map tI)), v17, some (.int least), v19, v20, v21, none] := by
  have g := D.gv
  have hk := D.len
  have hk6 := D.k6
  have hpl := D.plc
  obtain ⟨hd0, hd10⟩ := D.some_hd
  have hsub : ∀ sg ∈ hd.map (hld lot ns i), sg.Sublist lot := fun sg hs => by
    obtain ⟨q, hq, rfl⟩ := List.mem_map.mp hs
    exact D.sub q hq
  have hsg : ∀ sg ∈ hd.map (hld lot ns i), Plc p sg ∧ sg.length ≤ 10 := fun sg hs => ⟨⟨(hsub sg hs).nodup hpl.1, fun x hx => hpl.2 x ((hsub sg hs).subset hx)⟩, by have := (hsub sg hs).length_le; omega⟩
  unfold t_law_c11
  try simp only [s_mVar0, s_mVarS, s_mVarO0, s_mVarOS, s_isObj_lst, s_isObj_dic, s_mC, s_mOp, s_mOp1, s_mB, s_mNil, s_mCons, s_mTup, s_mLst, s_mCall, s_mTB, s_mNot, s_mAnd, s_mOr, s_mAndV, s_mOrV, s_mIf, s_mYes, s_mSl, s_mNo, s_mPart, s_mLc, s_mItems, s_mRng1, s_mRng2, s_mEnum, s_mChain, s_seqT, s_seqL, s_sNext, s_sSeq, s_sIf, s_sSet, s_sRet, s_sRetN, s_sBreak, s_sCont, s_sDrop, s_sPar, s_setN0, s_setNS, s_sAsg, s_sApp, s_sAug, s_sFor, s_sSrc, s_gmN, s_gmT, s_gmCons, s_gmNil, s_wipe0, s_wipeS, s_oSub, s_oAddI, s_oAdd, s_oLt, s_oLe, s_oGt, s_oGe, s_oNeg, s_oNot, s_oMul, s_oMulW, s_oMod, s_oFdiv, s_oPow, s_oIsN, s_oNotN, s_oIsB, s_oNotB, s_isNon_int, s_isNon_non, s_isNon_bl, s_isNon_str, s_isNon_tup, s_isNon_lst, s_isNon_dic, s_oEqI, s_oNeI, s_oIxT, s_oIxL, s_oSlT, s_oSlL, s_oRevT, s_oRevL, s_oInt, s_oIntB, s_oAbs, s_oMax2, s_oMin2, s_oLen, s_plenT, s_plenL, s_plenD, s_plenS, s_oTupleL, s_oTupleT, s_oListL, s_oListT, List.set_cons_succ, List.set_cons_zero, List.append_nil, true_and, x_bl, x_int, x_some, x_addT, x_addL, x_true, x_false]
  refine ⟨_, rfl, by omega, by omega, fun r r0 r1 => ⟨_, lot.map PV.int, r.toNat, by rw [Int.toNat_of_nonneg r0], .inr rfl, by rw [List.length_map]; omega, by rw [List.length_map]; omega, fun ys hys hyl => ?_⟩⟩
  obtain ⟨dr, hdr, rfl⟩ := sub_ints hys
  try simp only [s_mVar0, s_mVarS, s_mVarO0, s_mVarOS, s_isObj_lst, s_isObj_dic, s_mC, s_mOp, s_mOp1, s_mB, s_mNil, s_mCons, s_mTup, s_mLst, s_mCall, s_mTB, s_mNot, s_mAnd, s_mOr, s_mAndV, s_mOrV, s_mIf, s_mYes, s_mSl, s_mNo, s_mPart, s_mLc, s_mItems, s_mRng1, s_mRng2, s_mEnum, s_mChain, s_seqT, s_seqL, s_sNext, s_sSeq, s_sIf, s_sSet, s_sRet, s_sRetN, s_sBreak, s_sCont, s_sDrop, s_sPar, s_setN0, s_setNS, s_sAsg, s_sApp, s_sAug, s_sFor, s_sSrc, s_gmN, s_gmT, s_gmCons, s_gmNil, s_wipe0, s_wipeS, s_oSub, s_oAddI, s_oAdd, s_oLt, s_oLe, s_oGt, s_oGe, s_oNeg, s_oNot, s_oMul, s_oMulW, s_oMod, s_oFdiv, s_oPow, s_oIsN, s_oNotN, s_oIsB, s_oNotB, s_isNon_int, s_isNon_non, s_isNon_bl, s_isNon_str, s_isNon_tup, s_isNon_lst, s_isNon_dic, s_oEqI, s_oNeI, s_oIxT, s_oIxL, s_oSlT, s_oSlL, s_oRevT, s_oRevL, s_oInt, s_oIntB, s_oAbs, s_oMax2, s_oMin2, s_oLen, s_plenT, s_plenL, s_plenD, s_plenS, s_oTupleL, s_oTupleT, s_oListL, s_oListT, List.set_cons_succ, List.set_cons_zero, List.append_nil, true_and, x_bl, x_int, x_some, x_addT, x_addL, x_true, x_false]
  refine ⟨t, cs, i, lot, ns, hd, dr, rfl, g, by omega, ?_⟩
  rw [toldB_due]
  have hmin : ∀ m, ndd (t : Int) lot ns i hd m → mx0 (m - t) = least := fun m ⟨⟨q, hq, e⟩, hall⟩ => by
    have el : ∀ q, lft lot ns i q [] = hld lot ns i q := fun q => less_nil
    refine lst_is hL hsub hpl.1 ⟨⟨hld lot ns i q, List.mem_map.mpr ⟨q, hq, rfl⟩, by rw [← el]; exact e⟩, fun sg hs => ?_⟩
    obtain ⟨q', hq', rfl⟩ := List.mem_map.mp hs
    rw [← el]
    exact hall q' hq'
  have tell : ∀ (sl : List Int) (R : PV → Prop), R (.bl (ndue t (hd.map (hld lot ns i)) sl)) → sp_l_is_told [.int p, .int (t : Int), .lst ((hd.map (hld lot ns i)).map tI), tI sl] R := fun sl R hR => ⟨p, t, hd.map (hld lot ns i), sl, rfl, D.pp, D.tt, by rw [List.length_map]; omega, hsg, hR⟩
  refine tell dr _ ⟨_, rfl, lk_b, _, rfl, ite_f (by decide) ⟨t, cs, i, lot, ns, hd, rfl, g, hd0, by omega, fun m hm => ?_⟩⟩
  rw [hmin m hm]
  refine ⟨_, rfl, lk_int, _, rfl, ite_f (by decide) ⟨t, cs, i, lot, ns, hd, rfl, g, hd0, by omega, fun m' hm' q hq hle => ?_⟩⟩
  rw [hmin m' hm'] at hle ⊢
  have el : lft lot ns i q [] = hld lot ns i q := less_nil
  rw [el] at hle ⊢
  obtain ⟨sg, hsge⟩ : ∃ sg, sg = hld lot ns i q := ⟨_, rfl⟩
  rw [← hsge] at hle ⊢
  have hsgm : sg ∈ hd.map (hld lot ns i) := List.mem_map.mpr ⟨q, hq, hsge.symm⟩
  have hl0 : 0 ≤ least := by obtain ⟨s, _, _, e⟩ := hL.here; omega
  have hln : least.toNat ≤ sg.length := by
    have := hL.low (sg.take (sg.length - t)) ((List.take_sublist _ _).trans (hsub sg hsgm)) (ndue_false.mpr ⟨sg, hsgm, by
      rw [less_take ((hsub sg hsgm).nodup hpl.1), List.length_drop]; omega⟩)
    rw [List.length_take] at this
    omega
  refine oIsi_of (b := true) rfl rfl ⟨_, rfl, ite_f (by decide) ⟨_, rfl, ite_f ?_ ?_⟩⟩
  · rw [List.length_map, List.length_take, decide_eq_true (by omega)]; decide
  have hws : (sg.take least.toNat).Sublist lot := (List.take_sublist _ _).trans (hsub sg hsgm)
  refine comp_emb (emb := PV.int) (xs := lot) (tst := fun x => decide (x ∈ sg.take least.toNat)) (f := PV.int) (fun x hx => ⟨_, fun k hk => s_gmN.mpr hk, fun Q hQ => ?_, fun _ Q hQ => ?_⟩) (by rw [List.length_nil]; exact line (by omega)) ?_
  · try simp only [s_mVar0, s_mVarS, s_mVarO0, s_mVarOS, s_isObj_lst, s_isObj_dic, s_mC, s_mOp, s_mOp1, s_mB, s_mNil, s_mCons, s_mTup, s_mLst, s_mCall, s_mTB, s_mNot, s_mAnd, s_mOr, s_mAndV, s_mOrV, s_mIf, s_mYes, s_mSl, s_mNo, s_mPart, s_mLc, s_mItems, s_mRng1, s_mRng2, s_mEnum, s_mChain, s_seqT, s_seqL, s_sNext, s_sSeq, s_sIf, s_sSet, s_sRet, s_sRetN, s_sBreak, s_sCont, s_sDrop, s_sPar, s_setN0, s_setNS, s_sAsg, s_sApp, s_sAug, s_sFor, s_sSrc, s_gmN, s_gmT, s_gmCons, s_gmNil, s_wipe0, s_wipeS, s_oSub, s_oAddI, s_oAdd, s_oLt, s_oLe, s_oGt, s_oGe, s_oNeg, s_oNot, s_oMul, s_oMulW, s_oMod, s_oFdiv, s_oPow, s_oIsN, s_oNotN, s_oIsB, s_oNotB, s_isNon_int, s_isNon_non, s_isNon_bl, s_isNon_str, s_isNon_tup, s_isNon_lst, s_isNon_dic, s_oEqI, s_oNeI, s_oIxT, s_oIxL, s_oSlT, s_oSlL, s_oRevT, s_oRevL, s_oInt, s_oIntB, s_oAbs, s_oMax2, s_oMin2, s_oLen, s_plenT, s_plenL, s_plenD, s_plenS, s_oTupleL, s_oTupleT, s_oListL, s_oListT, List.set_cons_succ, List.set_cons_zero, List.append_nil, true_and, x_bl, x_int, x_some, x_addT, x_addL, x_true, x_false]
    exact oIn_intsT ⟨_, rfl, hQ⟩
  · try simp only [s_mVar0, s_mVarS, s_mVarO0, s_mVarOS, s_isObj_lst, s_isObj_dic, s_mC, s_mOp, s_mOp1, s_mB, s_mNil, s_mCons, s_mTup, s_mLst, s_mCall, s_mTB, s_mNot, s_mAnd, s_mOr, s_mAndV, s_mOrV, s_mIf, s_mYes, s_mSl, s_mNo, s_mPart, s_mLc, s_mItems, s_mRng1, s_mRng2, s_mEnum, s_mChain, s_seqT, s_seqL, s_sNext, s_sSeq, s_sIf, s_sSet, s_sRet, s_sRetN, s_sBreak, s_sCont, s_sDrop, s_sPar, s_setN0, s_setNS, s_sAsg, s_sApp, s_sAug, s_sFor, s_sSrc, s_gmN, s_gmT, s_gmCons, s_gmNil, s_wipe0, s_wipeS, s_oSub, s_oAddI, s_oAdd, s_oLt, s_oLe, s_oGt, s_oGe, s_oNeg, s_oNot, s_oMul, s_oMulW, s_oMod, s_oFdiv, s_oPow, s_oIsN, s_oNotN, s_oIsB, s_oNotB, s_isNon_int, s_isNon_non, s_isNon_bl, s_isNon_str, s_isNon_tup, s_isNon_lst, s_isNon_dic, s_oEqI, s_oNeI, s_oIxT, s_oIxL, s_oSlT, s_oSlL, s_oRevT, s_oRevL, s_oInt, s_oIntB, s_oAbs, s_oMax2, s_oMin2, s_oLen, s_plenT, s_plenL, s_plenD, s_plenS, s_oTupleL, s_oTupleT, s_oListL, s_oListT, List.set_cons_succ, List.set_cons_zero, List.append_nil, true_and, x_bl, x_int, x_some, x_addT, x_addL, x_true, x_false]
    exact hQ
  rw [List.nil_append, filter_sub hws hpl.1]
  try simp only [s_mVar0, s_mVarS, s_mVarO0, s_mVarOS, s_isObj_lst, s_isObj_dic, s_mC, s_mOp, s_mOp1, s_mB, s_mNil, s_mCons, s_mTup, s_mLst, s_mCall, s_mTB, s_mNot, s_mAnd, s_mOr, s_mAndV, s_mOrV, s_mIf, s_mYes, s_mSl, s_mNo, s_mPart, s_mLc, s_mItems, s_mRng1, s_mRng2, s_mEnum, s_mChain, s_seqT, s_seqL, s_sNext, s_sSeq, s_sIf, s_sSet, s_sRet, s_sRetN, s_sBreak, s_sCont, s_sDrop, s_sPar, s_setN0, s_setNS, s_sAsg, s_sApp, s_sAug, s_sFor, s_sSrc, s_gmN, s_gmT, s_gmCons, s_gmNil, s_wipe0, s_wipeS, s_oSub, s_oAddI, s_oAdd, s_oLt, s_oLe, s_oGt, s_oGe, s_oNeg, s_oNot, s_oMul, s_oMulW, s_oMod, s_oFdiv, s_oPow, s_oIsN, s_oNotN, s_oIsB, s_oNotB, s_isNon_int, s_isNon_non, s_isNon_bl, s_isNon_str, s_isNon_tup, s_isNon_lst, s_isNon_dic, s_oEqI, s_oNeI, s_oIxT, s_oIxL, s_oSlT, s_oSlL, s_oRevT, s_oRevL, s_oInt, s_oIntB, s_oAbs, s_oMax2, s_oMin2, s_oLen, s_plenT, s_plenL, s_plenD, s_plenS, s_oTupleL, s_oTupleT, s_oListL, s_oListT, List.set_cons_succ, List.set_cons_zero, List.append_nil, true_and, x_bl, x_int, x_some, x_addT, x_addL, x_true, x_false]
  refine ⟨_, rfl, lk_ints (n := 1) (by have := hws.length_le; omega), _, rfl, ite_f (by decide) ?_⟩
  refine tell (sg.take least.toNat) _ ?_
  have hf : ndue t (hd.map (hld lot ns i)) (sg.take least.toNat) = false := ndue_false.mpr ⟨sg, hsgm, by
    rw [less_take ((hsub sg hsgm).nodup hpl.1), List.length_drop]; omega⟩
  rw [hf]
  exact s_oNot.mpr rfl
theorem h_c8 (p : Int) (t k : Nat) (lot : List Int) (cs : List PV) (i : Int) (ns : List Nt) (hd : List (Int × Int)) (D : Dl p t k lot cs i ns hd) (v0 v3 v4 v6 v7 v8 v12 v17 v18 v19 v20 v21 : Option PV) : t_law_c8 ok_heap sp_some sp_l_lots sp_some_silence sp_pick sp_drw (spk 3) sp_l_is_told sp_is_told_without sp_silence_needed { nx := fun _ => False, rt := fun p => p = .bl true } [v0, some .src, some (.int (k : Int)), v3, v4, some (.lst (ns.map ntP)), v6, v7, v8, some (.int (t : Int)), some (.int p), some (tI lot), v12, some (.int i), some (.tup cs), some (.lst (hd.map prP)), some (.lst ((hd.map (hld lot ns i)).map tI)), v17, v18, v19, v20, v21, none] := by
  have g := D.gv
  have hk := D.len
  have hk6 := D.k6
  have hpl := D.plc
  obtain ⟨hd0, hd10⟩ := D.some_hd
  unfold t_law_c8
  try simp only [s_mVar0, s_mVarS, s_mVarO0, s_mVarOS, s_isObj_lst, s_isObj_dic, s_mC, s_mOp, s_mOp1, s_mB, s_mNil, s_mCons, s_mTup, s_mLst, s_mCall, s_mTB, s_mNot, s_mAnd, s_mOr, s_mAndV, s_mOrV, s_mIf, s_mYes, s_mSl, s_mNo, s_mPart, s_mLc, s_mItems, s_mRng1, s_mRng2, s_mEnum, s_mChain, s_seqT, s_seqL, s_sNext, s_sSeq, s_sIf, s_sSet, s_sRet, s_sRetN, s_sBreak, s_sCont, s_sDrop, s_sPar, s_setN0, s_setNS, s_sAsg, s_sApp, s_sAug, s_sFor, s_sSrc, s_gmN, s_gmT, s_gmCons, s_gmNil, s_wipe0, s_wipeS, s_oSub, s_oAddI, s_oAdd, s_oLt, s_oLe, s_oGt, s_oGe, s_oNeg, s_oNot, s_oMul, s_oMulW, s_oMod, s_oFdiv, s_oPow, s_oIsN, s_oNotN, s_oIsB, s_oNotB, s_isNon_int, s_isNon_non, s_isNon_bl, s_isNon_str, s_isNon_tup, s_isNon_lst, s_isNon_dic, s_oEqI, s_oNeI, s_oIxT, s_oIxL, s_oSlT, s_oSlL, s_oRevT, s_oRevL, s_oInt, s_oIntB, s_oAbs, s_oMax2, s_oMin2, s_oLen, s_plenT, s_plenL, s_plenD, s_plenS, s_oTupleL, s_oTupleT, s_oListL, s_oListT, List.set_cons_succ, List.set_cons_zero, List.append_nil, true_and, x_bl, x_int, x_some, x_addT, x_addL, x_true, x_false]
  refine ⟨_, ns.map ntP, ns.length, by rw [List.length_map], .inl rfl, by rw [List.length_map]; exact Nat.le_refl _, by rw [List.length_map]; exact D.few, fun ys hys hyl => ?_⟩
  have ey : ys = ns.map ntP := hys.eq_of_length (by rw [hyl, List.length_map])
  subst ey
  try simp only [s_mVar0, s_mVarS, s_mVarO0, s_mVarOS, s_isObj_lst, s_isObj_dic, s_mC, s_mOp, s_mOp1, s_mB, s_mNil, s_mCons, s_mTup, s_mLst, s_mCall, s_mTB, s_mNot, s_mAnd, s_mOr, s_mAndV, s_mOrV, s_mIf, s_mYes, s_mSl, s_mNo, s_mPart, s_mLc, s_mItems, s_mRng1, s_mRng2, s_mEnum, s_mChain, s_seqT, s_seqL, s_sNext, s_sSeq, s_sIf, s_sSet, s_sRet, s_sRetN, s_sBreak, s_sCont, s_sDrop, s_sPar, s_setN0, s_setNS, s_sAsg, s_sApp, s_sAug, s_sFor, s_sSrc, s_gmN, s_gmT, s_gmCons, s_gmNil, s_wipe0, s_wipeS, s_oSub, s_oAddI, s_oAdd, s_oLt, s_oLe, s_oGt, s_oGe, s_oNeg, s_oNot, s_oMul, s_oMulW, s_oMod, s_oFdiv, s_oPow, s_oIsN, s_oNotN, s_oIsB, s_oNotB, s_isNon_int, s_isNon_non, s_isNon_bl, s_isNon_str, s_isNon_tup, s_isNon_lst, s_isNon_dic, s_oEqI, s_oNeI, s_oIxT, s_oIxL, s_oSlT, s_oSlL, s_oRevT, s_oRevL, s_oInt, s_oIntB, s_oAbs, s_oMax2, s_oMin2, s_oLen, s_plenT, s_plenL, s_plenD, s_plenS, s_oTupleL, s_oTupleT, s_oListL, s_oListT, List.set_cons_succ, List.set_cons_zero, List.append_nil, true_and, x_bl, x_int, x_some, x_addT, x_addL, x_true, x_false]
  refine ⟨lot, rfl, by omega, _, rfl, ?_⟩
  refine for_inv (emb := tI) (fun j e => ∃ (ls : Int) (y6 y19 : Option PV), ls ≤ 99 ∧ (∀ s ∈ (lotsF lot).take j, ndue t (hd.map (hld lot ns i)) s = false → ls ≤ s.length) ∧ (ls = 99 ∨ ∃ s ∈ (lotsF lot).take j, ndue t (hd.map (hld lot ns i)) s = false ∧ (s.length : Int) = ls) ∧ e = [v0, some .src, some (.int (k : Int)), v3, v4, some (.tup (ns.map ntP)), y6, v7, v8, some (.int (t : Int)), some (.int p), some (tI lot), v12, some (.int i), some (.tup cs), some (.tup (hd.map prP)), some (.lst ((hd.map (hld lot ns i)).map tI)), v17, some (.int ls), y19, v20, v21, none]) ⟨99, _, _, by decide, (fun s hs => by simp at hs), .inl rfl, rfl⟩ (fun j s e N hj hE hN => ?_) (fun e hE => ?_)
  · obtain ⟨ls, y6, y19, l99, hlow, hhere, rfl⟩ := hE
    have hsub := mem_lotsF.mp (List.mem_of_getElem? hj)
    have hsl := hsub.length_le
    rw [s_gmN]
    try simp only [s_mVar0, s_mVarS, s_mVarO0, s_mVarOS, s_isObj_lst, s_isObj_dic, s_mC, s_mOp, s_mOp1, s_mB, s_mNil, s_mCons, s_mTup, s_mLst, s_mCall, s_mTB, s_mNot, s_mAnd, s_mOr, s_mAndV, s_mOrV, s_mIf, s_mYes, s_mSl, s_mNo, s_mPart, s_mLc, s_mItems, s_mRng1, s_mRng2, s_mEnum, s_mChain, s_seqT, s_seqL, s_sNext, s_sSeq, s_sIf, s_sSet, s_sRet, s_sRetN, s_sBreak, s_sCont, s_sDrop, s_sPar, s_setN0, s_setNS, s_sAsg, s_sApp, s_sAug, s_sFor, s_sSrc, s_gmN, s_gmT, s_gmCons, s_gmNil, s_wipe0, s_wipeS, s_oSub, s_oAddI, s_oAdd, s_oLt, s_oLe, s_oGt, s_oGe, s_oNeg, s_oNot, s_oMul, s_oMulW, s_oMod, s_oFdiv, s_oPow, s_oIsN, s_oNotN, s_oIsB, s_oNotB, s_isNon_int, s_isNon_non, s_isNon_bl, s_isNon_str, s_isNon_tup, s_isNon_lst, s_isNon_dic, s_oEqI, s_oNeI, s_oIxT, s_oIxL, s_oSlT, s_oSlL, s_oRevT, s_oRevL, s_oInt, s_oIntB, s_oAbs, s_oMax2, s_oMin2, s_oLen, s_plenT, s_plenL, s_plenD, s_plenS, s_oTupleL, s_oTupleT, s_oListL, s_oListT, List.set_cons_succ, List.set_cons_zero, List.append_nil, true_and, x_bl, x_int, x_some, x_addT, x_addL, x_true, x_false]
    simp only [s_mOwn]
    refine ⟨_, rfl, ?_⟩
    refine comp_map (emb := tI) (xs := hd.map (hld lot ns i)) (f := fun sg => .bl (decide ((less sg s).length > t))) (fun sg hsg => ⟨_, fun k hk => s_gmN.mpr hk, fun Q hQ => hQ, fun Q hQ => ?_⟩) (line (by rw [List.length_map]; omega)) (oAll_map ?_)
    · try simp only [s_mVar0, s_mVarS, s_mVarO0, s_mVarOS, s_isObj_lst, s_isObj_dic, s_mC, s_mOp, s_mOp1, s_mB, s_mNil, s_mCons, s_mTup, s_mLst, s_mCall, s_mTB, s_mNot, s_mAnd, s_mOr, s_mAndV, s_mOrV, s_mIf, s_mYes, s_mSl, s_mNo, s_mPart, s_mLc, s_mItems, s_mRng1, s_mRng2, s_mEnum, s_mChain, s_seqT, s_seqL, s_sNext, s_sSeq, s_sIf, s_sSet, s_sRet, s_sRetN, s_sBreak, s_sCont, s_sDrop, s_sPar, s_setN0, s_setNS, s_sAsg, s_sApp, s_sAug, s_sFor, s_sSrc, s_gmN, s_gmT, s_gmCons, s_gmNil, s_wipe0, s_wipeS, s_oSub, s_oAddI, s_oAdd, s_oLt, s_oLe, s_oGt, s_oGe, s_oNeg, s_oNot, s_oMul, s_oMulW, s_oMod, s_oFdiv, s_oPow, s_oIsN, s_oNotN, s_oIsB, s_oNotB, s_isNon_int, s_isNon_non, s_isNon_bl, s_isNon_str, s_isNon_tup, s_isNon_lst, s_isNon_dic, s_oEqI, s_oNeI, s_oIxT, s_oIxL, s_oSlT, s_oSlL, s_oRevT, s_oRevL, s_oInt, s_oIntB, s_oAbs, s_oMax2, s_oMin2, s_oLen, s_plenT, s_plenL, s_plenD, s_plenS, s_oTupleL, s_oTupleT, s_oListL, s_oListT, List.set_cons_succ, List.set_cons_zero, List.append_nil, true_and, x_bl, x_int, x_some, x_addT, x_addL, x_true, x_false]
      have hsgl : sg.length ≤ lot.length := by
        obtain ⟨q, hq, rfl⟩ := List.mem_map.mp hsg
        exact hld_len
      refine comp_emb (emb := PV.int) (xs := sg) (tst := fun x => !decide (x ∈ s)) (f := PV.int) (fun x hx => ⟨_, fun k hk => s_gmN.mpr hk, fun Q hQ => ?_, fun _ Q hQ => ?_⟩) (by rw [List.length_nil]; exact line (by omega)) ?_
      · try simp only [s_mVar0, s_mVarS, s_mVarO0, s_mVarOS, s_isObj_lst, s_isObj_dic, s_mC, s_mOp, s_mOp1, s_mB, s_mNil, s_mCons, s_mTup, s_mLst, s_mCall, s_mTB, s_mNot, s_mAnd, s_mOr, s_mAndV, s_mOrV, s_mIf, s_mYes, s_mSl, s_mNo, s_mPart, s_mLc, s_mItems, s_mRng1, s_mRng2, s_mEnum, s_mChain, s_seqT, s_seqL, s_sNext, s_sSeq, s_sIf, s_sSet, s_sRet, s_sRetN, s_sBreak, s_sCont, s_sDrop, s_sPar, s_setN0, s_setNS, s_sAsg, s_sApp, s_sAug, s_sFor, s_sSrc, s_gmN, s_gmT, s_gmCons, s_gmNil, s_wipe0, s_wipeS, s_oSub, s_oAddI, s_oAdd, s_oLt, s_oLe, s_oGt, s_oGe, s_oNeg, s_oNot, s_oMul, s_oMulW, s_oMod, s_oFdiv, s_oPow, s_oIsN, s_oNotN, s_oIsB, s_oNotB, s_isNon_int, s_isNon_non, s_isNon_bl, s_isNon_str, s_isNon_tup, s_isNon_lst, s_isNon_dic, s_oEqI, s_oNeI, s_oIxT, s_oIxL, s_oSlT, s_oSlL, s_oRevT, s_oRevL, s_oInt, s_oIntB, s_oAbs, s_oMax2, s_oMin2, s_oLen, s_plenT, s_plenL, s_plenD, s_plenS, s_oTupleL, s_oTupleT, s_oListL, s_oListT, List.set_cons_succ, List.set_cons_zero, List.append_nil, true_and, x_bl, x_int, x_some, x_addT, x_addL, x_true, x_false]
        exact oIn_intsT ⟨_, rfl, hQ⟩
      · try simp only [s_mVar0, s_mVarS, s_mVarO0, s_mVarOS, s_isObj_lst, s_isObj_dic, s_mC, s_mOp, s_mOp1, s_mB, s_mNil, s_mCons, s_mTup, s_mLst, s_mCall, s_mTB, s_mNot, s_mAnd, s_mOr, s_mAndV, s_mOrV, s_mIf, s_mYes, s_mSl, s_mNo, s_mPart, s_mLc, s_mItems, s_mRng1, s_mRng2, s_mEnum, s_mChain, s_seqT, s_seqL, s_sNext, s_sSeq, s_sIf, s_sSet, s_sRet, s_sRetN, s_sBreak, s_sCont, s_sDrop, s_sPar, s_setN0, s_setNS, s_sAsg, s_sApp, s_sAug, s_sFor, s_sSrc, s_gmN, s_gmT, s_gmCons, s_gmNil, s_wipe0, s_wipeS, s_oSub, s_oAddI, s_oAdd, s_oLt, s_oLe, s_oGt, s_oGe, s_oNeg, s_oNot, s_oMul, s_oMulW, s_oMod, s_oFdiv, s_oPow, s_oIsN, s_oNotN, s_oIsB, s_oNotB, s_isNon_int, s_isNon_non, s_isNon_bl, s_isNon_str, s_isNon_tup, s_isNon_lst, s_isNon_dic, s_oEqI, s_oNeI, s_oIxT, s_oIxL, s_oSlT, s_oSlL, s_oRevT, s_oRevL, s_oInt, s_oIntB, s_oAbs, s_oMax2, s_oMin2, s_oLen, s_plenT, s_plenL, s_plenD, s_plenS, s_oTupleL, s_oTupleT, s_oListL, s_oListT, List.set_cons_succ, List.set_cons_zero, List.append_nil, true_and, x_bl, x_int, x_some, x_addT, x_addL, x_true, x_false]
        exact hQ
      rw [List.nil_append]
      refine ⟨_, rfl, ?_⟩
      try simp only [s_mVar0, s_mVarS, s_mVarO0, s_mVarOS, s_isObj_lst, s_isObj_dic, s_mC, s_mOp, s_mOp1, s_mB, s_mNil, s_mCons, s_mTup, s_mLst, s_mCall, s_mTB, s_mNot, s_mAnd, s_mOr, s_mAndV, s_mOrV, s_mIf, s_mYes, s_mSl, s_mNo, s_mPart, s_mLc, s_mItems, s_mRng1, s_mRng2, s_mEnum, s_mChain, s_seqT, s_seqL, s_sNext, s_sSeq, s_sIf, s_sSet, s_sRet, s_sRetN, s_sBreak, s_sCont, s_sDrop, s_sPar, s_setN0, s_setNS, s_sAsg, s_sApp, s_sAug, s_sFor, s_sSrc, s_gmN, s_gmT, s_gmCons, s_gmNil, s_wipe0, s_wipeS, s_oSub, s_oAddI, s_oAdd, s_oLt, s_oLe, s_oGt, s_oGe, s_oNeg, s_oNot, s_oMul, s_oMulW, s_oMod, s_oFdiv, s_oPow, s_oIsN, s_oNotN, s_oIsB, s_oNotB, s_isNon_int, s_isNon_non, s_isNon_bl, s_isNon_str, s_isNon_tup, s_isNon_lst, s_isNon_dic, s_oEqI, s_oNeI, s_oIxT, s_oIxL, s_oSlT, s_oSlL, s_oRevT, s_oRevL, s_oInt, s_oIntB, s_oAbs, s_oMax2, s_oMin2, s_oLen, s_plenT, s_plenL, s_plenD, s_plenS, s_oTupleL, s_oTupleT, s_oListL, s_oListT, List.set_cons_succ, List.set_cons_zero, List.append_nil, true_and, x_bl, x_int, x_some, x_addT, x_addL, x_true, x_false]
      rw [List.length_map]
      have e : decide (((sg.filter fun x => !decide (x ∈ s)).length : Int) > (t : Int)) = decide ((less sg s).length > t) := decide_eq_decide.mpr (by unfold less; omega)
      rw [e]
      exact hQ
    try simp only [s_mVar0, s_mVarS, s_mVarO0, s_mVarOS, s_isObj_lst, s_isObj_dic, s_mC, s_mOp, s_mOp1, s_mB, s_mNil, s_mCons, s_mTup, s_mLst, s_mCall, s_mTB, s_mNot, s_mAnd, s_mOr, s_mAndV, s_mOrV, s_mIf, s_mYes, s_mSl, s_mNo, s_mPart, s_mLc, s_mItems, s_mRng1, s_mRng2, s_mEnum, s_mChain, s_seqT, s_seqL, s_sNext, s_sSeq, s_sIf, s_sSet, s_sRet, s_sRetN, s_sBreak, s_sCont, s_sDrop, s_sPar, s_setN0, s_setNS, s_sAsg, s_sApp, s_sAug, s_sFor, s_sSrc, s_gmN, s_gmT, s_gmCons, s_gmNil, s_wipe0, s_wipeS, s_oSub, s_oAddI, s_oAdd, s_oLt, s_oLe, s_oGt, s_oGe, s_oNeg, s_oNot, s_oMul, s_oMulW, s_oMod, s_oFdiv, s_oPow, s_oIsN, s_oNotN, s_oIsB, s_oNotB, s_isNon_int, s_isNon_non, s_isNon_bl, s_isNon_str, s_isNon_tup, s_isNon_lst, s_isNon_dic, s_oEqI, s_oNeI, s_oIxT, s_oIxL, s_oSlT, s_oSlL, s_oRevT, s_oRevL, s_oInt, s_oIntB, s_oAbs, s_oMax2, s_oMin2, s_oLen, s_plenT, s_plenL, s_plenD, s_plenS, s_oTupleL, s_oTupleT, s_oListL, s_oListT, List.set_cons_succ, List.set_cons_zero, List.append_nil, true_and, x_bl, x_int, x_some, x_addT, x_addL, x_true, x_false]
    refine ⟨t, cs, i, lot, ns, hd, s, rfl, g, by omega, ?_⟩
    rw [toldB_due, show ((hd.map (hld lot ns i)).all fun sg => decide ((less sg s).length > t)) = ndue t (hd.map (hld lot ns i)) s from rfl]
    refine ⟨_, rfl, lk_b, _, rfl, ite_f (by decide) ?_⟩
    have et : (lotsF lot).take (j + 1) = (lotsF lot).take j ++ [s] := by rw [List.take_add_one, hj]; rfl
    rw [List.length_map]
    cases hb : ndue t (hd.map (hld lot ns i)) s with
    | true =>
      refine ite_f (by decide) (hN _ ⟨ls, some (tI s), some (.bl true), l99, fun s' hs' hn => ?_, ?_, rfl⟩)
      · rw [et] at hs'
        rcases List.mem_append.mp hs' with z | z
        · exact hlow s' z hn
        · rw [List.mem_singleton.mp z, hb] at hn; cases hn
      · rw [et]
        exact hhere.imp id fun ⟨s', h1, h2⟩ => ⟨s', List.mem_append_left _ h1, h2⟩
    | false =>
      refine ite_t rfl (hN _ ⟨(if (s.length : Int) < ls then (s.length : Int) else ls), some (tI s), some (.bl false), by split <;> omega, fun s' hs' hn => ?_, ?_, rfl⟩)
      · rw [et] at hs'
        rcases List.mem_append.mp hs' with z | z
        · have := hlow s' z hn
          split <;> omega
        · rw [List.mem_singleton.mp z]; split <;> omega
      · rw [et]
        by_cases hc : (s.length : Int) < ls
        · rw [if_pos hc]
          exact .inr ⟨s, List.mem_append_right _ (List.mem_singleton.mpr rfl), hb, rfl⟩
        · rw [if_neg hc]
          exact hhere.imp id fun ⟨s', h1, h2⟩ => ⟨s', List.mem_append_left _ h1, h2⟩
  · obtain ⟨ls, y6, y19, l99, hlow, hhere, rfl⟩ := hE
    rw [List.take_length] at hlow hhere
    refine h_c11 p t k lot cs i ns hd D ls ⟨fun s hs hn => hlow s (mem_lotsF.mpr hs) hn, ?_⟩ _ _ _ _ _ _ _ _ _ _ _
    have hwhole : ndue t (hd.map (hld lot ns i)) lot = false := by
      obtain ⟨q, hq⟩ := List.exists_mem_of_length_pos hd0
      refine ndue_false.mpr ⟨hld lot ns i q, List.mem_map.mpr ⟨q, hq, rfl⟩, ?_⟩
      have : less (hld lot ns i q) lot = [] := List.filter_eq_nil_iff.mpr fun x hx => by
        have := (D.sub q hq).subset hx
        simp [this]
      rw [this]; exact Nat.zero_le _
    have := hlow lot (mem_lotsF.mpr (List.Sublist.refl _)) hwhole
    rcases hhere with e | ⟨s, hs, h1, h2⟩
    · omega
    · exact ⟨s, mem_lotsF.mp hs, h1, h2⟩
theorem h_c7 (p : Int) (t k : Nat) (pool lot elder : List Int) (cs : List PV) (i : Int) (hp : PP p) (ht : t = 1 ∨ t = 2) (hpool : Plc p pool) (hpl : pool.length ≤ 8) (hlot : lot.Sublist pool) (hel : elder.Sublist pool) (hk : lot.length = k) (hk2 : elder.length = k) (hk6 : k ≤ 6) (htk : t + 1 ≤ k) (hi : i = 0 ∨ i = 1) (hat : atI cs (i + 1) = some (tI lot)) (v0 v4 v6 v7 v8 v17 v18 v19 v20 v21 : Option PV) : t_law_c7 ok_heap sp_some sp_l_lots sp_some_silence sp_pick sp_drw (spk 3) sp_l_is_told sp_is_told_without sp_silence_needed { nx := fun _ => False, rt := fun p => p = .bl true } [v0, some .src, some (.int (k : Int)), some (tI pool), v4, some (.lst []), v6, v7, v8, some (.int (t : Int)), some (.int p), some (tI lot), some (tI elder), some (.int i), some (.tup cs), some (.lst []), some (.lst []), v17, v18, v19, v20, v21, none] := by
  have hlp : Plc p lot := ⟨hlot.nodup hpool.1, fun x hx => hpool.2 x (hlot.subset hx)⟩
  unfold t_law_c7
  try simp only [s_mVar0, s_mVarS, s_mVarO0, s_mVarOS, s_isObj_lst, s_isObj_dic, s_mC, s_mOp, s_mOp1, s_mB, s_mNil, s_mCons, s_mTup, s_mLst, s_mCall, s_mTB, s_mNot, s_mAnd, s_mOr, s_mAndV, s_mOrV, s_mIf, s_mYes, s_mSl, s_mNo, s_mPart, s_mLc, s_mItems, s_mRng1, s_mRng2, s_mEnum, s_mChain, s_seqT, s_seqL, s_sNext, s_sSeq, s_sIf, s_sSet, s_sRet, s_sRetN, s_sBreak, s_sCont, s_sDrop, s_sPar, s_setN0, s_setNS, s_sAsg, s_sApp, s_sAug, s_sFor, s_sSrc, s_gmN, s_gmT, s_gmCons, s_gmNil, s_wipe0, s_wipeS, s_oSub, s_oAddI, s_oAdd, s_oLt, s_oLe, s_oGt, s_oGe, s_oNeg, s_oNot, s_oMul, s_oMulW, s_oMod, s_oFdiv, s_oPow, s_oIsN, s_oNotN, s_oIsB, s_oNotB, s_isNon_int, s_isNon_non, s_isNon_bl, s_isNon_str, s_isNon_tup, s_isNon_lst, s_isNon_dic, s_oEqI, s_oNeI, s_oIxT, s_oIxL, s_oSlT, s_oSlL, s_oRevT, s_oRevL, s_oInt, s_oIntB, s_oAbs, s_oMax2, s_oMin2, s_oLen, s_plenT, s_plenL, s_plenD, s_plenS, s_oTupleL, s_oTupleT, s_oListL, s_oListT, List.set_cons_succ, List.set_cons_zero, List.append_nil, true_and, x_bl, x_int, x_some, x_addT, x_addL, x_true, x_false]
  refine ⟨_, elder.map PV.int, t + 1, by rw [show ((t + 1 : Nat) : Int) = (t : Int) + 1 by omega], .inr rfl, by rw [List.length_map]; omega, by rw [List.length_map]; omega, fun ys hys hyl => ?_⟩
  obtain ⟨ds, hds, rfl⟩ := sub_ints hys
  rw [List.length_map] at hyl
  have hdn : ds.Nodup := (hds.trans hel).nodup hpool.1
  refine ⟨_, rfl, ?_⟩
  refine for_inv (emb := PV.int) (fun m e => ∃ (ns : List Nt) (hd : List (Int × Int)) (y4 y17 y20 y21 : Option PV), ns.length ≤ 40 * m ∧ hd.map (·.1) = ds.take m ∧ (∀ n ∈ ns, n.2.2.1 ∈ ds.take m) ∧ (∀ q ∈ hd, (hld lot ns i q).Sublist lot) ∧ e = [v0, some .src, some (.int (k : Int)), some (tI pool), y4, some (.lst (ns.map ntP)), v6, v7, v8, some (.int (t : Int)), some (.int p), some (tI lot), some (tI elder), some (.int i), some (.tup cs), some (.lst (hd.map prP)), some (.lst ((hd.map (hld lot ns i)).map tI)), y17, v18, v19, y20, y21, none]) ⟨[], [], _, _, _, _, Nat.zero_le _, rfl, (fun n hn => by cases hn), (fun q hq => by cases hq), rfl⟩ (fun m d e N hm hE hN => ?_) (fun e hE => ?_)
  · obtain ⟨ns, hd, y4, y17, y20, y21, hnl, hds2, hnd, hsub, rfl⟩ := hE
    have hml := (List.getElem?_eq_some_iff.mp hm).1
    rw [s_gmN]
    have hdm : d ∉ ds.take m := fun z => by
      obtain ⟨j, hj, e⟩ := List.mem_iff_getElem.mp z
      rw [List.length_take] at hj
      rw [List.getElem_take] at e
      have e2 : ds[m] = d := (List.getElem?_eq_some_iff.mp hm).2
      exact List.pairwise_iff_getElem.mp hdn j m (by omega) hml (by omega) (e.trans e2.symm)
    have hll := hlot.length_le
    have hel2 := hel.length_le
    try simp only [s_mVar0, s_mVarS, s_mVarO0, s_mVarOS, s_isObj_lst, s_isObj_dic, s_mC, s_mOp, s_mOp1, s_mB, s_mNil, s_mCons, s_mTup, s_mLst, s_mCall, s_mTB, s_mNot, s_mAnd, s_mOr, s_mAndV, s_mOrV, s_mIf, s_mYes, s_mSl, s_mNo, s_mPart, s_mLc, s_mItems, s_mRng1, s_mRng2, s_mEnum, s_mChain, s_seqT, s_seqL, s_sNext, s_sSeq, s_sIf, s_sSet, s_sRet, s_sRetN, s_sBreak, s_sCont, s_sDrop, s_sPar, s_setN0, s_setNS, s_sAsg, s_sApp, s_sAug, s_sFor, s_sSrc, s_gmN, s_gmT, s_gmCons, s_gmNil, s_wipe0, s_wipeS, s_oSub, s_oAddI, s_oAdd, s_oLt, s_oLe, s_oGt, s_oGe, s_oNeg, s_oNot, s_oMul, s_oMulW, s_oMod, s_oFdiv, s_oPow, s_oIsN, s_oNotN, s_oIsB, s_oNotB, s_isNon_int, s_isNon_non, s_isNon_bl, s_isNon_str, s_isNon_tup, s_isNon_lst, s_isNon_dic, s_oEqI, s_oNeI, s_oIxT, s_oIxL, s_oSlT, s_oSlL, s_oRevT, s_oRevL, s_oInt, s_oIntB, s_oAbs, s_oMax2, s_oMin2, s_oLen, s_plenT, s_plenL, s_plenD, s_plenS, s_oTupleL, s_oTupleT, s_oListL, s_oListT, List.set_cons_succ, List.set_cons_zero, List.append_nil, true_and, x_bl, x_int, x_some, x_addT, x_addL, x_true, x_false]
    refine ⟨.inl ⟨by decide, by decide⟩, _, rfl, by omega, by omega, fun r r0 r1 => ⟨line (by simp), pick_ints (xs := [(t : Int), (t : Int) + 1, (t : Int) + 1, (t : Int) + 2, 2 * (t : Int) + 1, (k : Int), r]) (by simp) (by simp) fun y hy => ?_⟩⟩
    have hy0 : 0 ≤ y := by
      simp at hy
      rcases hy with rfl | rfl | rfl | rfl | rfl | rfl | rfl <;> omega
    try simp only [s_mVar0, s_mVarS, s_mVarO0, s_mVarOS, s_isObj_lst, s_isObj_dic, s_mC, s_mOp, s_mOp1, s_mB, s_mNil, s_mCons, s_mTup, s_mLst, s_mCall, s_mTB, s_mNot, s_mAnd, s_mOr, s_mAndV, s_mOrV, s_mIf, s_mYes, s_mSl, s_mNo, s_mPart, s_mLc, s_mItems, s_mRng1, s_mRng2, s_mEnum, s_mChain, s_seqT, s_seqL, s_sNext, s_sSeq, s_sIf, s_sSet, s_sRet, s_sRetN, s_sBreak, s_sCont, s_sDrop, s_sPar, s_setN0, s_setNS, s_sAsg, s_sApp, s_sAug, s_sFor, s_sSrc, s_gmN, s_gmT, s_gmCons, s_gmNil, s_wipe0, s_wipeS, s_oSub, s_oAddI, s_oAdd, s_oLt, s_oLe, s_oGt, s_oGe, s_oNeg, s_oNot, s_oMul, s_oMulW, s_oMod, s_oFdiv, s_oPow, s_oIsN, s_oNotN, s_oIsB, s_oNotB, s_isNon_int, s_isNon_non, s_isNon_bl, s_isNon_str, s_isNon_tup, s_isNon_lst, s_isNon_dic, s_oEqI, s_oNeI, s_oIxT, s_oIxL, s_oSlT, s_oSlL, s_oRevT, s_oRevL, s_oInt, s_oIntB, s_oAbs, s_oMax2, s_oMin2, s_oLen, s_plenT, s_plenL, s_plenD, s_plenS, s_oTupleL, s_oTupleT, s_oListL, s_oListT, List.set_cons_succ, List.set_cons_zero, List.append_nil, true_and, x_bl, x_int, x_some, x_addT, x_addL, x_true, x_false]
    obtain ⟨mn, hmn, hmk⟩ : ∃ mn : Nat, (if y < (k : Int) then y else (k : Int)) = mn ∧ mn ≤ k := ⟨(if y < (k : Int) then y else (k : Int)).toNat, by split <;> omega, by split <;> omega⟩
    rw [hmn]
    refine ⟨_, lot.map PV.int, mn, rfl, .inr rfl, by rw [List.length_map]; omega, by rw [List.length_map]; omega, fun ys hys _ => ?_⟩
    obtain ⟨sg, hsg, rfl⟩ := sub_ints hys
    have hsl := hsg.length_le
    refine ⟨9, rfl, by decide, by decide, fun sl s0 s1 => ?_⟩
    have hhl : hd.length ≤ 10 := by
      have := congrArg List.length hds2
      rw [List.length_map, List.length_take] at this
      omega
    have hnl2 : ns.length ≤ 400 := by omega
    refine ⟨_, rfl, line (by simp), small_line (by rw [List.length_map]; omega), _, rfl, small_line (by rw [List.length_map, List.length_map]; omega), _, rfl, ?_⟩
    refine comp_map (emb := PV.int) (xs := sg) (f := fun h => ntP (h, i, d, sl)) (fun x hx => ⟨_, fun k hk => s_gmN.mpr hk, fun Q hQ => hQ, fun Q hQ => ?_⟩) (line (by omega)) (x_addL.mpr ⟨line (by simp; omega), ?_⟩)
    · try simp only [s_mVar0, s_mVarS, s_mVarO0, s_mVarOS, s_isObj_lst, s_isObj_dic, s_mC, s_mOp, s_mOp1, s_mB, s_mNil, s_mCons, s_mTup, s_mLst, s_mCall, s_mTB, s_mNot, s_mAnd, s_mOr, s_mAndV, s_mOrV, s_mIf, s_mYes, s_mSl, s_mNo, s_mPart, s_mLc, s_mItems, s_mRng1, s_mRng2, s_mEnum, s_mChain, s_seqT, s_seqL, s_sNext, s_sSeq, s_sIf, s_sSet, s_sRet, s_sRetN, s_sBreak, s_sCont, s_sDrop, s_sPar, s_setN0, s_setNS, s_sAsg, s_sApp, s_sAug, s_sFor, s_sSrc, s_gmN, s_gmT, s_gmCons, s_gmNil, s_wipe0, s_wipeS, s_oSub, s_oAddI, s_oAdd, s_oLt, s_oLe, s_oGt, s_oGe, s_oNeg, s_oNot, s_oMul, s_oMulW, s_oMod, s_oFdiv, s_oPow, s_oIsN, s_oNotN, s_oIsB, s_oNotB, s_isNon_int, s_isNon_non, s_isNon_bl, s_isNon_str, s_isNon_tup, s_isNon_lst, s_isNon_dic, s_oEqI, s_oNeI, s_oIxT, s_oIxL, s_oSlT, s_oSlL, s_oRevT, s_oRevL, s_oInt, s_oIntB, s_oAbs, s_oMax2, s_oMin2, s_oLen, s_plenT, s_plenL, s_plenD, s_plenS, s_oTupleL, s_oTupleT, s_oListL, s_oListT, List.set_cons_succ, List.set_cons_zero, List.append_nil, true_and, x_bl, x_int, x_some, x_addT, x_addL, x_true, x_false]
      exact ⟨line (by simp), hQ⟩
    refine ⟨_, elder.map PV.int, 1, rfl, .inr rfl, by rw [List.length_map]; omega, by rw [List.length_map]; omega, fun ys2 hys2 hyl2 => ?_⟩
    obtain ⟨one, hone, rfl⟩ := sub_ints hys2
    rw [List.length_map] at hyl2
    refine ⟨_, rfl, ?_⟩
    refine comp_map (emb := PV.int) (xs := one) (f := fun h => ntP (h, 1 - i, d, sl)) (fun x hx => ⟨_, fun k hk => s_gmN.mpr hk, fun Q hQ => hQ, fun Q hQ => ?_⟩) (line (by omega)) (x_addL.mpr ⟨line (by simp; omega), ?_⟩)
    · try simp only [s_mVar0, s_mVarS, s_mVarO0, s_mVarOS, s_isObj_lst, s_isObj_dic, s_mC, s_mOp, s_mOp1, s_mB, s_mNil, s_mCons, s_mTup, s_mLst, s_mCall, s_mTB, s_mNot, s_mAnd, s_mOr, s_mAndV, s_mOrV, s_mIf, s_mYes, s_mSl, s_mNo, s_mPart, s_mLc, s_mItems, s_mRng1, s_mRng2, s_mEnum, s_mChain, s_seqT, s_seqL, s_sNext, s_sSeq, s_sIf, s_sSet, s_sRet, s_sRetN, s_sBreak, s_sCont, s_sDrop, s_sPar, s_setN0, s_setNS, s_sAsg, s_sApp, s_sAug, s_sFor, s_sSrc, s_gmN, s_gmT, s_gmCons, s_gmNil, s_wipe0, s_wipeS, s_oSub, s_oAddI, s_oAdd, s_oLt, s_oLe, s_oGt, s_oGe, s_oNeg, s_oNot, s_oMul, s_oMulW, s_oMod, s_oFdiv, s_oPow, s_oIsN, s_oNotN, s_oIsB, s_oNotB, s_isNon_int, s_isNon_non, s_isNon_bl, s_isNon_str, s_isNon_tup, s_isNon_lst, s_isNon_dic, s_oEqI, s_oNeI, s_oIxT, s_oIxL, s_oSlT, s_oSlL, s_oRevT, s_oRevL, s_oInt, s_oIntB, s_oAbs, s_oMax2, s_oMin2, s_oLen, s_plenT, s_plenL, s_plenD, s_plenS, s_oTupleL, s_oTupleT, s_oListL, s_oListT, List.set_cons_succ, List.set_cons_zero, List.append_nil, true_and, x_bl, x_int, x_some, x_addT, x_addL, x_true, x_false]
      exact ⟨line (by simp), hQ⟩
    refine ⟨_, lot.map PV.int, 1, rfl, .inr rfl, by rw [List.length_map]; omega, by rw [List.length_map]; omega, fun ys3 hys3 hyl3 => ?_⟩
    obtain ⟨two, htwo, rfl⟩ := sub_ints hys3
    rw [List.length_map] at hyl3
    refine ⟨_, rfl, ?_⟩
    refine comp_map (emb := PV.int) (xs := two) (f := fun h => ntP (h, i, d, sl + 1)) (fun x hx => ⟨_, fun k hk => s_gmN.mpr hk, fun Q hQ => hQ, fun Q hQ => ?_⟩) (line (by omega)) (x_addL.mpr ⟨line (by simp; omega), ?_⟩)
    · try simp only [s_mVar0, s_mVarS, s_mVarO0, s_mVarOS, s_isObj_lst, s_isObj_dic, s_mC, s_mOp, s_mOp1, s_mB, s_mNil, s_mCons, s_mTup, s_mLst, s_mCall, s_mTB, s_mNot, s_mAnd, s_mOr, s_mAndV, s_mOrV, s_mIf, s_mYes, s_mSl, s_mNo, s_mPart, s_mLc, s_mItems, s_mRng1, s_mRng2, s_mEnum, s_mChain, s_seqT, s_seqL, s_sNext, s_sSeq, s_sIf, s_sSet, s_sRet, s_sRetN, s_sBreak, s_sCont, s_sDrop, s_sPar, s_setN0, s_setNS, s_sAsg, s_sApp, s_sAug, s_sFor, s_sSrc, s_gmN, s_gmT, s_gmCons, s_gmNil, s_wipe0, s_wipeS, s_oSub, s_oAddI, s_oAdd, s_oLt, s_oLe, s_oGt, s_oGe, s_oNeg, s_oNot, s_oMul, s_oMulW, s_oMod, s_oFdiv, s_oPow, s_oIsN, s_oNotN, s_oIsB, s_oNotB, s_isNon_int, s_isNon_non, s_isNon_bl, s_isNon_str, s_isNon_tup, s_isNon_lst, s_isNon_dic, s_oEqI, s_oNeI, s_oIxT, s_oIxL, s_oSlT, s_oSlL, s_oRevT, s_oRevL, s_oInt, s_oIntB, s_oAbs, s_oMax2, s_oMin2, s_oLen, s_plenT, s_plenL, s_plenD, s_plenS, s_oTupleL, s_oTupleT, s_oListL, s_oListT, List.set_cons_succ, List.set_cons_zero, List.append_nil, true_and, x_bl, x_int, x_some, x_addT, x_addL, x_true, x_false]
      exact ⟨line (by simp), hQ⟩
    have hpf := List.length_filter_le (fun h => !decide (h ∈ lot)) pool
    refine comp_emb (emb := PV.int) (xs := pool) (tst := fun h => !decide (h ∈ lot)) (f := fun h => ntP (h, i, d, sl)) (fun x hx => ⟨_, fun k hk => s_gmN.mpr hk, fun Q hQ => ?_, fun _ Q hQ => ?_⟩) (by rw [List.length_nil]; exact line (by omega)) (x_addL.mpr ⟨line (by simp; omega), ?_⟩)
    · try simp only [s_mVar0, s_mVarS, s_mVarO0, s_mVarOS, s_isObj_lst, s_isObj_dic, s_mC, s_mOp, s_mOp1, s_mB, s_mNil, s_mCons, s_mTup, s_mLst, s_mCall, s_mTB, s_mNot, s_mAnd, s_mOr, s_mAndV, s_mOrV, s_mIf, s_mYes, s_mSl, s_mNo, s_mPart, s_mLc, s_mItems, s_mRng1, s_mRng2, s_mEnum, s_mChain, s_seqT, s_seqL, s_sNext, s_sSeq, s_sIf, s_sSet, s_sRet, s_sRetN, s_sBreak, s_sCont, s_sDrop, s_sPar, s_setN0, s_setNS, s_sAsg, s_sApp, s_sAug, s_sFor, s_sSrc, s_gmN, s_gmT, s_gmCons, s_gmNil, s_wipe0, s_wipeS, s_oSub, s_oAddI, s_oAdd, s_oLt, s_oLe, s_oGt, s_oGe, s_oNeg, s_oNot, s_oMul, s_oMulW, s_oMod, s_oFdiv, s_oPow, s_oIsN, s_oNotN, s_oIsB, s_oNotB, s_isNon_int, s_isNon_non, s_isNon_bl, s_isNon_str, s_isNon_tup, s_isNon_lst, s_isNon_dic, s_oEqI, s_oNeI, s_oIxT, s_oIxL, s_oSlT, s_oSlL, s_oRevT, s_oRevL, s_oInt, s_oIntB, s_oAbs, s_oMax2, s_oMin2, s_oLen, s_plenT, s_plenL, s_plenD, s_plenS, s_oTupleL, s_oTupleT, s_oListL, s_oListT, List.set_cons_succ, List.set_cons_zero, List.append_nil, true_and, x_bl, x_int, x_some, x_addT, x_addL, x_true, x_false]
      exact oIn_intsT ⟨_, rfl, hQ⟩
    · try simp only [s_mVar0, s_mVarS, s_mVarO0, s_mVarOS, s_isObj_lst, s_isObj_dic, s_mC, s_mOp, s_mOp1, s_mB, s_mNil, s_mCons, s_mTup, s_mLst, s_mCall, s_mTB, s_mNot, s_mAnd, s_mOr, s_mAndV, s_mOrV, s_mIf, s_mYes, s_mSl, s_mNo, s_mPart, s_mLc, s_mItems, s_mRng1, s_mRng2, s_mEnum, s_mChain, s_seqT, s_seqL, s_sNext, s_sSeq, s_sIf, s_sSet, s_sRet, s_sRetN, s_sBreak, s_sCont, s_sDrop, s_sPar, s_setN0, s_setNS, s_sAsg, s_sApp, s_sAug, s_sFor, s_sSrc, s_gmN, s_gmT, s_gmCons, s_gmNil, s_wipe0, s_wipeS, s_oSub, s_oAddI, s_oAdd, s_oLt, s_oLe, s_oGt, s_oGe, s_oNeg, s_oNot, s_oMul, s_oMulW, s_oMod, s_oFdiv, s_oPow, s_oIsN, s_oNotN, s_oIsB, s_oNotB, s_isNon_int, s_isNon_non, s_isNon_bl, s_isNon_str, s_isNon_tup, s_isNon_lst, s_isNon_dic, s_oEqI, s_oNeI, s_oIxT, s_oIxL, s_oSlT, s_oSlL, s_oRevT, s_oRevL, s_oInt, s_oIntB, s_oAbs, s_oMax2, s_oMin2, s_oLen, s_plenT, s_plenL, s_plenD, s_plenS, s_oTupleL, s_oTupleT, s_oListL, s_oListT, List.set_cons_succ, List.set_cons_zero, List.append_nil, true_and, x_bl, x_int, x_some, x_addT, x_addL, x_true, x_false]
      exact ⟨line (by simp), hQ⟩
    rw [List.nil_append]
    have en : ns.map ntP ++ (sg.map fun h => ntP (h, i, d, sl)) ++ (one.map fun h => ntP (h, 1 - i, d, sl)) ++ (two.map fun h => ntP (h, i, d, sl + 1)) ++ ((pool.filter fun h => !decide (h ∈ lot)).map fun h => ntP (h, i, d, sl)) = (ns ++ fresh lot pool sg one two i d sl).map ntP := by
      unfold fresh
      simp only [List.map_append, List.map_map, List.append_assoc]
      rfl
    rw [en]
    have hnew : ∀ n ∈ ns, n.2.2.1 ≠ d := fun n hn e => hdm (e ▸ hnd n hn)
    have hold2 : ∀ q ∈ hd, hld lot (ns ++ fresh lot pool sg one two i d sl) i q = hld lot ns i q := fun q hq => old_hld fun e => hdm (by rw [← hds2, ← e]; exact List.mem_map.mpr ⟨q, hq, rfl⟩)
    have eh : ((hd.map (hld lot ns i)).map tI) ++ [tI sg] = ((hd ++ [(d, sl)]).map (hld lot (ns ++ fresh lot pool sg one two i d sl) i)).map tI := by
      rw [List.map_append (f := hld lot (ns ++ fresh lot pool sg one two i d sl) i), List.map_append (f := tI), List.map_congr_left hold2]
      congr 2
      rw [fresh_hld hi hsg hlp.1 hnew]
    have ehd : (hd.map prP) ++ [PV.tup [.int d, .int sl]] = (hd ++ [(d, sl)]).map prP := by rw [List.map_append]; rfl
    have et : ds.take (m + 1) = ds.take m ++ [d] := by rw [List.take_add_one, hm]; rfl
    rw [eh, ehd]
    refine hN _ ⟨ns ++ fresh lot pool sg one two i d sl, hd ++ [(d, sl)], _, _, _, _, ?_, ?_, fun n hn => ?_, fun q hq => ?_, rfl⟩
    · unfold fresh
      simp
      omega
    · rw [List.map_append, hds2, et]; rfl
    · rw [et]
      rcases List.mem_append.mp hn with z | z
      · exact List.mem_append_left _ (hnd n z)
      · rw [mem_fresh z]; exact List.mem_append_right _ (List.mem_singleton.mpr rfl)
    · rcases List.mem_append.mp hq with z | z
      · rw [hold2 q z]; exact hsub q z
      · rw [List.mem_singleton.mp z, fresh_hld hi hsg hlp.1 hnew]; exact hsg
  · obtain ⟨ns, hd, y4, y17, y20, y21, hnl, hds2, hnd, hsub, rfl⟩ := hE
    rw [List.take_length] at hds2
    have hl : hd.length = t + 1 := by rw [← hyl, ← hds2, List.length_map]
    exact h_c8 p t k lot cs i ns hd ⟨hp, ht, hlp, hk, hk6, hat, by omega, ⟨by omega, by omega⟩, hsub⟩ _ _ _ _ _ _ _ _ _ _ _ _
theorem h_law (ns : List Int) (hl : ns.length ≤ 63) : t_law ok_heap sp_some sp_l_lots sp_some_silence sp_pick sp_drw (spk 3) sp_l_is_told sp_is_told_without sp_silence_needed { nx := fun _ => False, rt := fun p => p = .bl true } (startE n_law.length [.scr ns]) := by
  rw [t_law_eq]
  show t_law_a _ _ _ _ _ _ _ _ _ _ _ [some (.scr ns), none, none, none, none, none, none, none, none, none, none, none, none, none, none, none, none, none, none, none, none, none, none]
  unfold t_law_a
  try simp only [s_mVar0, s_mVarS, s_mVarO0, s_mVarOS, s_isObj_lst, s_isObj_dic, s_mC, s_mOp, s_mOp1, s_mB, s_mNil, s_mCons, s_mTup, s_mLst, s_mCall, s_mTB, s_mNot, s_mAnd, s_mOr, s_mAndV, s_mOrV, s_mIf, s_mYes, s_mSl, s_mNo, s_mPart, s_mLc, s_mItems, s_mRng1, s_mRng2, s_mEnum, s_mChain, s_seqT, s_seqL, s_sNext, s_sSeq, s_sIf, s_sSet, s_sRet, s_sRetN, s_sBreak, s_sCont, s_sDrop, s_sPar, s_setN0, s_setNS, s_sAsg, s_sApp, s_sAug, s_sFor, s_sSrc, s_gmN, s_gmT, s_gmCons, s_gmNil, s_wipe0, s_wipeS, s_oSub, s_oAddI, s_oAdd, s_oLt, s_oLe, s_oGt, s_oGe, s_oNeg, s_oNot, s_oMul, s_oMulW, s_oMod, s_oFdiv, s_oPow, s_oIsN, s_oNotN, s_oIsB, s_oNotB, s_isNon_int, s_isNon_non, s_isNon_bl, s_isNon_str, s_isNon_tup, s_isNon_lst, s_isNon_dic, s_oEqI, s_oNeI, s_oIxT, s_oIxL, s_oSlT, s_oSlL, s_oRevT, s_oRevL, s_oInt, s_oIntB, s_oAbs, s_oMax2, s_oMin2, s_oLen, s_plenT, s_plenL, s_plenD, s_plenS, s_oTupleL, s_oTupleT, s_oListL, s_oListT, List.set_cons_succ, List.set_cons_zero, List.append_nil, true_and, x_bl, x_int, x_some, x_addT, x_addL, x_true, x_false]
  refine ⟨⟨ns, rfl, hl⟩, line (by simp), pick_ints (xs := [1, 1, 2]) (by decide) (by decide) fun x hx => ⟨line (by simp), pick_ints (xs := [11, 13, 29, 31]) (by decide) (by decide) fun p hp => ?_⟩⟩
  obtain ⟨t, rfl, ht⟩ : ∃ t : Nat, x = t ∧ (t = 1 ∨ t = 2) := by
    simp at hx
    rcases hx with rfl | rfl
    · exact ⟨1, rfl, .inl rfl⟩
    · exact ⟨2, rfl, .inr rfl⟩
  have hpp : PP p ∧ 11 ≤ p ∧ p ≤ 31 ∧ (20 ≤ p → 29 ≤ p) := by
    simp at hp
    rcases hp with rfl | rfl | rfl | rfl
    · exact ⟨pp11, by decide, by decide, by decide⟩
    · exact ⟨pp13, by decide, by decide, by decide⟩
    · exact ⟨pp29, by decide, by decide, by decide⟩
    · exact ⟨pp31, by decide, by decide, by decide⟩
  obtain ⟨hPP, p11, p31, p20⟩ := hpp
  try simp only [s_mVar0, s_mVarS, s_mVarO0, s_mVarOS, s_isObj_lst, s_isObj_dic, s_mC, s_mOp, s_mOp1, s_mB, s_mNil, s_mCons, s_mTup, s_mLst, s_mCall, s_mTB, s_mNot, s_mAnd, s_mOr, s_mAndV, s_mOrV, s_mIf, s_mYes, s_mSl, s_mNo, s_mPart, s_mLc, s_mItems, s_mRng1, s_mRng2, s_mEnum, s_mChain, s_seqT, s_seqL, s_sNext, s_sSeq, s_sIf, s_sSet, s_sRet, s_sRetN, s_sBreak, s_sCont, s_sDrop, s_sPar, s_setN0, s_setNS, s_sAsg, s_sApp, s_sAug, s_sFor, s_sSrc, s_gmN, s_gmT, s_gmCons, s_gmNil, s_wipe0, s_wipeS, s_oSub, s_oAddI, s_oAdd, s_oLt, s_oLe, s_oGt, s_oGe, s_oNeg, s_oNot, s_oMul, s_oMulW, s_oMod, s_oFdiv, s_oPow, s_oIsN, s_oNotN, s_oIsB, s_oNotB, s_isNon_int, s_isNon_non, s_isNon_bl, s_isNon_str, s_isNon_tup, s_isNon_lst, s_isNon_dic, s_oEqI, s_oNeI, s_oIxT, s_oIxL, s_oSlT, s_oSlL, s_oRevT, s_oRevL, s_oInt, s_oIntB, s_oAbs, s_oMax2, s_oMin2, s_oLen, s_plenT, s_plenL, s_plenD, s_plenS, s_oTupleL, s_oTupleT, s_oListL, s_oListT, List.set_cons_succ, List.set_cons_zero, List.append_nil, true_and, x_bl, x_int, x_some, x_addT, x_addL, x_true, x_false]
  refine ⟨_, rfl, by omega, by omega, fun r r0 r1 => ?_⟩
  try simp only [s_mVar0, s_mVarS, s_mVarO0, s_mVarOS, s_isObj_lst, s_isObj_dic, s_mC, s_mOp, s_mOp1, s_mB, s_mNil, s_mCons, s_mTup, s_mLst, s_mCall, s_mTB, s_mNot, s_mAnd, s_mOr, s_mAndV, s_mOrV, s_mIf, s_mYes, s_mSl, s_mNo, s_mPart, s_mLc, s_mItems, s_mRng1, s_mRng2, s_mEnum, s_mChain, s_seqT, s_seqL, s_sNext, s_sSeq, s_sIf, s_sSet, s_sRet, s_sRetN, s_sBreak, s_sCont, s_sDrop, s_sPar, s_setN0, s_setNS, s_sAsg, s_sApp, s_sAug, s_sFor, s_sSrc, s_gmN, s_gmT, s_gmCons, s_gmNil, s_wipe0, s_wipeS, s_oSub, s_oAddI, s_oAdd, s_oLt, s_oLe, s_oGt, s_oGe, s_oNeg, s_oNot, s_oMul, s_oMulW, s_oMod, s_oFdiv, s_oPow, s_oIsN, s_oNotN, s_oIsB, s_oNotB, s_isNon_int, s_isNon_non, s_isNon_bl, s_isNon_str, s_isNon_tup, s_isNon_lst, s_isNon_dic, s_oEqI, s_oNeI, s_oIxT, s_oIxL, s_oSlT, s_oSlL, s_oRevT, s_oRevL, s_oInt, s_oIntB, s_oAbs, s_oMax2, s_oMin2, s_oLen, s_plenT, s_plenL, s_plenD, s_plenS, s_oTupleL, s_oTupleT, s_oListL, s_oListT, List.set_cons_succ, List.set_cons_zero, List.append_nil, true_and, x_bl, x_int, x_some, x_addT, x_addL, x_true, x_false]
  obtain ⟨k, hk, hk1, hk6⟩ : ∃ k : Nat, (t : Int) + 1 + r = k ∧ t + 1 ≤ k ∧ k ≤ 6 := ⟨((t : Int) + 1 + r).toNat, by omega, by omega, by omega⟩
  rw [hk]
  have rest : ∀ n : Nat, 10 ≤ n → n ≤ 100 → (n : Int) + 1 ≤ p → sp_some [.src, .lst ((rng n).map PV.int), .int ((k : Int) + 2)] fun p_1 => sp_some [.src, p_1, .int (k : Int)] fun x => sp_some [.src, p_1, .int (k : Int)] fun x_1 => sp_drw [.src, .int 2] fun x_2 => oEq x_2 (.int 0) fun x_3 => ∃ k_1, x_3 = PV.bl k_1 ∧ if k_1 = true then [x_1, x].length ≤ sizeLine ∧ ([] : List PV).length ≤ sizeLine ∧ ([] : List PV).length ≤ sizeLine ∧ ([] : List PV).length ≤ sizeLine ∧ t_law_c7 ok_heap sp_some sp_l_lots sp_some_silence sp_pick sp_drw (spk 3) sp_l_is_told sp_is_told_without sp_silence_needed { nx := fun _ => False, rt := fun p => p = .bl true } [some (.scr ns), some .src, some (.int (k : Int)), some p_1, none, some (.lst []), none, none, none, some (.int (t : Int)), some (.int p), some x, some x_1, some x_2, some (.tup [x_1, x]), some (.lst []), some (.lst []), none, none, none, none, none, none] else [x, x_1, x].length ≤ sizeLine ∧ ([] : List PV).length ≤ sizeLine ∧ ([] : List PV).length ≤ sizeLine ∧ ([] : List PV).length ≤ sizeLine ∧ t_law_c7 ok_heap sp_some sp_l_lots sp_some_silence sp_pick sp_drw (spk 3) sp_l_is_told sp_is_told_without sp_silence_needed { nx := fun _ => False, rt := fun p => p = .bl true } [some (.scr ns), some .src, some (.int (k : Int)), some p_1, none, some (.lst []), none, none, none, some (.int (t : Int)), some (.int p), some x, some x_1, some x_2, some (.tup [x, x_1, x]), some (.lst []), some (.lst []), none, none, none, none, none, none] := fun n n10 n100 hnp => by
    refine ⟨_, (rng n).map PV.int, k + 2, by rw [show ((k + 2 : Nat) : Int) = (k : Int) + 2 by omega], .inl rfl, by rw [List.length_map, rng_len]; omega, by rw [List.length_map, rng_len]; omega, fun ys hys hyl => ?_⟩
    obtain ⟨pool, hpool, rfl⟩ := sub_ints hys
    rw [List.length_map] at hyl
    have hpl : Plc p pool := ⟨hpool.nodup rng_nodup, fun x hx => by have := mem_rng.mp (hpool.subset hx); omega⟩
    refine ⟨_, pool.map PV.int, k, rfl, .inr rfl, by rw [List.length_map]; omega, by rw [List.length_map]; omega, fun ys2 hys2 hyl2 => ?_⟩
    obtain ⟨lot, hlot, rfl⟩ := sub_ints hys2
    rw [List.length_map] at hyl2
    refine ⟨_, pool.map PV.int, k, rfl, .inr rfl, by rw [List.length_map]; omega, by rw [List.length_map]; omega, fun ys3 hys3 hyl3 => ?_⟩
    obtain ⟨elder, hel, rfl⟩ := sub_ints hys3
    rw [List.length_map] at hyl3
    refine ⟨2, rfl, by decide, by decide, fun i i0 i1 => ?_⟩
    try simp only [s_mVar0, s_mVarS, s_mVarO0, s_mVarOS, s_isObj_lst, s_isObj_dic, s_mC, s_mOp, s_mOp1, s_mB, s_mNil, s_mCons, s_mTup, s_mLst, s_mCall, s_mTB, s_mNot, s_mAnd, s_mOr, s_mAndV, s_mOrV, s_mIf, s_mYes, s_mSl, s_mNo, s_mPart, s_mLc, s_mItems, s_mRng1, s_mRng2, s_mEnum, s_mChain, s_seqT, s_seqL, s_sNext, s_sSeq, s_sIf, s_sSet, s_sRet, s_sRetN, s_sBreak, s_sCont, s_sDrop, s_sPar, s_setN0, s_setNS, s_sAsg, s_sApp, s_sAug, s_sFor, s_sSrc, s_gmN, s_gmT, s_gmCons, s_gmNil, s_wipe0, s_wipeS, s_oSub, s_oAddI, s_oAdd, s_oLt, s_oLe, s_oGt, s_oGe, s_oNeg, s_oNot, s_oMul, s_oMulW, s_oMod, s_oFdiv, s_oPow, s_oIsN, s_oNotN, s_oIsB, s_oNotB, s_isNon_int, s_isNon_non, s_isNon_bl, s_isNon_str, s_isNon_tup, s_isNon_lst, s_isNon_dic, s_oEqI, s_oNeI, s_oIxT, s_oIxL, s_oSlT, s_oSlL, s_oRevT, s_oRevL, s_oInt, s_oIntB, s_oAbs, s_oMax2, s_oMin2, s_oLen, s_plenT, s_plenL, s_plenD, s_plenS, s_oTupleL, s_oTupleT, s_oListL, s_oListT, List.set_cons_succ, List.set_cons_zero, List.append_nil, true_and, x_bl, x_int, x_some, x_addT, x_addL, x_true, x_false]
    by_cases hi : i = 0
    · refine ite_t (decide_eq_true hi) ⟨line (by simp), Nat.zero_le _, Nat.zero_le _, Nat.zero_le _, ?_⟩
      subst hi
      exact h_c7 p t k pool lot elder _ 0 hPP ht hpl (by omega) hlot hel hyl2 hyl3 hk6 hk1 (.inl rfl) (by show atI [tI elder, tI lot] 1 = _; rw [show (1 : Int) = ((1 : Nat) : Int) from rfl, atI_pos (by simp)]; rfl) _ _ _ _ _ _ _ _ _ _
    · have hi1 : i = 1 := by omega
      refine ite_f (by rw [decide_eq_false hi]; decide) ⟨line (by simp), Nat.zero_le _, Nat.zero_le _, Nat.zero_le _, ?_⟩
      subst hi1
      exact h_c7 p t k pool lot elder _ 1 hPP ht hpl (by omega) hlot hel hyl2 hyl3 hk6 hk1 (.inr rfl) (by show atI [tI lot, tI elder, tI lot] 2 = _; rw [show (2 : Int) = ((2 : Nat) : Int) from rfl, atI_pos (by simp)]; rfl) _ _ _ _ _ _ _ _ _ _
  by_cases hp20 : p < 20
  · refine ite_t (decide_eq_true hp20) ⟨by omega, ?_⟩
    obtain ⟨n, hn⟩ : ∃ n : Nat, (p - 1).toNat = n := ⟨_, rfl⟩
    rw [hn, rngP_rng]
    refine comp_map (emb := PV.int) (xs := rng n) (f := PV.int) (fun x hx => ⟨_, fun k hk => s_gmN.mpr hk, fun Q hQ => hQ, fun Q hQ => ?_⟩) (by rw [rng_len]; exact line (by omega)) (rest n (by omega) (by omega) (by omega))
    try simp only [s_mVar0, s_mVarS, s_mVarO0, s_mVarOS, s_isObj_lst, s_isObj_dic, s_mC, s_mOp, s_mOp1, s_mB, s_mNil, s_mCons, s_mTup, s_mLst, s_mCall, s_mTB, s_mNot, s_mAnd, s_mOr, s_mAndV, s_mOrV, s_mIf, s_mYes, s_mSl, s_mNo, s_mPart, s_mLc, s_mItems, s_mRng1, s_mRng2, s_mEnum, s_mChain, s_seqT, s_seqL, s_sNext, s_sSeq, s_sIf, s_sSet, s_sRet, s_sRetN, s_sBreak, s_sCont, s_sDrop, s_sPar, s_setN0, s_setNS, s_sAsg, s_sApp, s_sAug, s_sFor, s_sSrc, s_gmN, s_gmT, s_gmCons, s_gmNil, s_wipe0, s_wipeS, s_oSub, s_oAddI, s_oAdd, s_oLt, s_oLe, s_oGt, s_oGe, s_oNeg, s_oNot, s_oMul, s_oMulW, s_oMod, s_oFdiv, s_oPow, s_oIsN, s_oNotN, s_oIsB, s_oNotB, s_isNon_int, s_isNon_non, s_isNon_bl, s_isNon_str, s_isNon_tup, s_isNon_lst, s_isNon_dic, s_oEqI, s_oNeI, s_oIxT, s_oIxL, s_oSlT, s_oSlL, s_oRevT, s_oRevL, s_oInt, s_oIntB, s_oAbs, s_oMax2, s_oMin2, s_oLen, s_plenT, s_plenL, s_plenD, s_plenS, s_oTupleL, s_oTupleT, s_oListL, s_oListT, List.set_cons_succ, List.set_cons_zero, List.append_nil, true_and, x_bl, x_int, x_some, x_addT, x_addL, x_true, x_false]
    exact hQ
  · refine ite_f (by rw [decide_eq_false hp20]; decide) ⟨by decide, ?_⟩
    have := p20 (by omega)
    rw [show (24 : Int).toNat = 24 from rfl, rngP_rng]
    refine comp_map (emb := PV.int) (xs := rng 24) (f := PV.int) (fun x hx => ⟨_, fun k hk => s_gmN.mpr hk, fun Q hQ => hQ, fun Q hQ => ?_⟩) (by rw [rng_len]; exact line (by omega)) (rest 24 (by decide) (by decide) (by omega))
    try simp only [s_mVar0, s_mVarS, s_mVarO0, s_mVarOS, s_isObj_lst, s_isObj_dic, s_mC, s_mOp, s_mOp1, s_mB, s_mNil, s_mCons, s_mTup, s_mLst, s_mCall, s_mTB, s_mNot, s_mAnd, s_mOr, s_mAndV, s_mOrV, s_mIf, s_mYes, s_mSl, s_mNo, s_mPart, s_mLc, s_mItems, s_mRng1, s_mRng2, s_mEnum, s_mChain, s_seqT, s_seqL, s_sNext, s_sSeq, s_sIf, s_sSet, s_sRet, s_sRetN, s_sBreak, s_sCont, s_sDrop, s_sPar, s_setN0, s_setNS, s_sAsg, s_sApp, s_sAug, s_sFor, s_sSrc, s_gmN, s_gmT, s_gmCons, s_gmNil, s_wipe0, s_wipeS, s_oSub, s_oAddI, s_oAdd, s_oLt, s_oLe, s_oGt, s_oGe, s_oNeg, s_oNot, s_oMul, s_oMulW, s_oMod, s_oFdiv, s_oPow, s_oIsN, s_oNotN, s_oIsB, s_oNotB, s_isNon_int, s_isNon_non, s_isNon_bl, s_isNon_str, s_isNon_tup, s_isNon_lst, s_isNon_dic, s_oEqI, s_oNeI, s_oIxT, s_oIxL, s_oSlT, s_oSlL, s_oRevT, s_oRevL, s_oInt, s_oIntB, s_oAbs, s_oMax2, s_oMin2, s_oLen, s_plenT, s_plenL, s_plenD, s_plenS, s_oTupleL, s_oTupleT, s_oListL, s_oListT, List.set_cons_succ, List.set_cons_zero, List.append_nil, true_and, x_bl, x_int, x_some, x_addT, x_addL, x_true, x_false]
    exact hQ
end K25

set_option maxHeartbeats 4000000
namespace K25
open PySem L2 PM
/-! ### the maker of a heap -/
section
variable {P : Program} {w : World} {K : PySem.W.Frag} {mg : Str → Option Value} {base : Heap}
theorem src_m {x qual : Str} {st : Stmt} {f : Addr} {fd : FuncData} {N pns : List Str} {k : Nat} {t : TSm} {dvs : List V} (F : FunD K x qual (defArgs st) (defBody st) (defScope st) dvs [] f fd) (S : FnScope N pns (defScope st)) (h1 : pns.length = 1)
    (hbody : ∀ (cdv : Value) (A : Around) (outer : List PySem.Env) (s : Shared) (H : Hp) (E : XK), Room k (A.deeper (PyProof.Rows.envOfC qual (defScope st) s.heap.objs.size f cdv)) → ∃ c', PSsm (bodyX P w K mg base N qual st f cdv A outer s H E) ⟨.cl, false, []⟩ (shs N.length) c' (defBody st) t)
    (hok : ∀ ns : List Int, ns.length ≤ 63 → t { nx := fun _ => False, rt := fun p => ∃ (cs : List Nat) (s : Nat), p = .lst [.lst (cs.map fun (c : Nat) => PV.int (c : Int)), .int (s : Int)] ∧ cs.length ≤ 63 ∧ s < 2147483647 } (startE N.length [.scr ns])) : FnOk P w K mg base CX0 (k + 1) f fd pns (spSrc K ok_heap) := by
  refine F.ok S (fun vs H Q E h => ?_) (fun cdv A outer s H vs Q E hr h => ?_)
  · obtain ⟨Z, W, ps, _, _, _, r, ⟨ns, e, _⟩, _⟩ := h
    rw [← r.len, e]; exact h1.symm
  · obtain ⟨Z, W, ps, hz, hs, hwz, r, ⟨ns, e, hl⟩, q⟩ := h
    subst e
    obtain ⟨a, rfl, ha⟩ : ∃ a, vs = [.ref a] ∧ ((¬ Z a ∧ ∃ o, H a = some (.frz o (.lst (ns.map V.int)))) ∨ KLst K a (ns.map V.int)) := by
      unfold Rps at r
      obtain ⟨v, r', rfl, h1, h2⟩ := r
      unfold Rps at h2
      subst h2
      unfold Rp at h1
      obtain ⟨a, rfl, h⟩ := h1
      exact ⟨a, rfl, h⟩
    have r2 : Rps K ⟨fun b => (fun b => ∃ o, H b = some o ∧ ∀ o' u, o ≠ .frz o' u) b ∨ inW [] b, [], H⟩ [.scr ns] [.ref a] := by
      refine Rps.cons ?_ Rps.nil
      unfold Rp
      refine ⟨a, rfl, ?_⟩
      rcases ha with ⟨_, o, ho⟩ | hk
      · exact .inl ⟨fun z => z.elim (fun ⟨o', h1, h2⟩ => by rw [ho] at h1; cases h1; exact h2 _ _ rfl) (fun ⟨p, hp, _⟩ => by cases hp), o, ho⟩
      · exact .inr hk
    have hsr : SR K ⟨false, fun b => ∃ o, H b = some o ∧ ∀ o' u, o ≠ .frz o' u, [], H, fun _ => none, [], []⟩ (shs N.length) (fun _ => none) [] (startE N.length [.scr ns]) (L2.start N [.ref a]) H := SR.start (fun _ ⟨o, h1, _⟩ => ⟨o, h1⟩) (fun _ z => by cases z) r2
    obtain ⟨c', hb⟩ := hbody cdv A outer s H E hr
    refine ⟨_, hb.run.nox, ⟨false, fun b => ∃ o, H b = some o ∧ ∀ o' u, o ≠ .frz o' u, [], H, fun _ => none, [], []⟩, fun _ => none, [], startE N.length [.scr ns], _, rfl, hsr, hok ns hl, ⟨fun _ _ _ _ _ _ z => z.elim, fun p v H' hr hp => ?_, fun _ _ _ _ _ _ z => z.elim, fun _ _ _ _ _ _ z => z.elim⟩⟩
    obtain ⟨cs, s', rfl, hc, hs'⟩ := hp
    obtain ⟨W', _, hW, _, keep, rv⟩ := hr
    have eW : W' = [] := hW rfl
    subst eW
    have rv' := rv.c
    unfold Rp at rv'
    obtain ⟨a1, vs, rfl, l1, rs⟩ := rv'
    unfold Rps at rs
    obtain ⟨v1, r1, rfl, h2, rs⟩ := rs
    unfold Rps at rs
    obtain ⟨v2, r2, rfl, h3, rs⟩ := rs
    unfold Rps at rs
    subst rs
    unfold Rp at h2 h3
    obtain ⟨b1, ws, rfl, l2, rs⟩ := h2
    subst h3
    have ew : ws = cs.map fun (c : Nat) => V.int (c : Int) := by
      have e : (cs.map fun (c : Nat) => PV.int (c : Int)) = (cs.map fun (c : Nat) => (c : Int)).map PV.int := by rw [List.map_map]; rfl
      rw [e] at rs
      rw [Rps.ints.mp rs, List.map_map]; rfl
    have gr : ∀ b o, H b = some o → H' b = some o := fun b o e => keep b o (fun ⟨p, hp, _⟩ => by cases hp) e
    have fresh : ∀ b xs, ¬ ((fun b => ∃ o, H b = some o ∧ ∀ o' u, o ≠ .frz o' u) b ∨ inW [] b) → H' b = some (.lst xs) → H b = none := fun b xs nz hb => by
      cases e : H b with
      | none => rfl
      | some o =>
        refine absurd (.inl ⟨o, e, fun o' u z => ?_⟩) nz
        rw [gr _ _ e, z] at hb
        cases hb
    have n1 := fresh a1 _ l1.1 l1.2
    have n2 := fresh b1 _ l2.1 l2.2
    refine q H' (a1, b1) gr n1 n2 ⟨fun z => ?_, cs, s', hc, hs', l1.2, by rw [← ew]; exact l2.2⟩
    have e1 : H' a1 = some (.lst [.ref b1, .int (s' : Int)]) := l1.2
    have e2 : H' b1 = some (.lst ws) := l2.2
    have z' : a1 = b1 := z
    rw [z', e2, ew] at e1
    cases cs with
    | nil => cases e1
    | cons c cs => cases e1
theorem h_l_heap (ns : List Int) (hl : ns.length ≤ 63) : t_l_heap { nx := fun _ => False, rt := fun p => ∃ (cs : List Nat) (s : Nat), p = .lst [.lst (cs.map fun (c : Nat) => PV.int (c : Int)), .int (s : Int)] ∧ cs.length ≤ 63 ∧ s < 2147483647 } (startE n_l_heap.length [.scr ns]) := by
  show t_l_heap _ [some (.scr ns), none, none, none, none]
  unfold t_l_heap
  try simp only [s_mVar0, s_mVarS, s_mVarO0, s_mVarOS, s_isObj_lst, s_isObj_dic, s_mC, s_mOp, s_mOp1, s_mB, s_mNil, s_mCons, s_mTup, s_mLst, s_mCall, s_mTB, s_mNot, s_mAnd, s_mOr, s_mAndV, s_mOrV, s_mIf, s_mYes, s_mSl, s_mNo, s_mPart, s_mLc, s_mItems, s_mRng1, s_mRng2, s_mEnum, s_mChain, s_seqT, s_seqL, s_sNext, s_sSeq, s_sIf, s_sSet, s_sRet, s_sRetN, s_sBreak, s_sCont, s_sDrop, s_sPar, s_setN0, s_setNS, s_sAsg, s_sApp, s_sAug, s_sFor, s_sSrc, s_gmN, s_gmT, s_gmCons, s_gmNil, s_wipe0, s_wipeS, s_oSub, s_oAddI, s_oAdd, s_oLt, s_oLe, s_oGt, s_oGe, s_oNeg, s_oNot, s_oMul, s_oMulW, s_oMod, s_oFdiv, s_oPow, s_oIsN, s_oNotN, s_oIsB, s_oNotB, s_isNon_int, s_isNon_non, s_isNon_bl, s_isNon_str, s_isNon_tup, s_isNon_lst, s_isNon_dic, s_oEqI, s_oNeI, s_oIxT, s_oIxL, s_oSlT, s_oSlL, s_oRevT, s_oRevL, s_oInt, s_oIntB, s_oAbs, s_oMax2, s_oMin2, s_oLen, s_plenT, s_plenL, s_plenD, s_plenS, s_oTupleL, s_oTupleT, s_oListL, s_oListT, List.set_cons_succ, List.set_cons_zero, List.append_nil, true_and, x_bl, x_int, x_some, x_addT, x_addL, x_true, x_false]
  refine ⟨⟨by decide, by decide, by decide⟩, ⟨by decide, by decide, by decide⟩, by unfold CMulW; decide +kernel, ⟨by decide, by decide, by decide⟩, by unfold CMulW; decide +kernel, ?_⟩
  generalize hgt : ((10 : Int) ^ (60 : Int).toNat * 10 ^ (60 : Int).toNat * 10 ^ (60 : Int).toNat) = great
  have hg0 : 0 < great := by rw [← hgt]; decide +kernel
  refine ⟨ns, rfl, ?_⟩
  refine ⟨_, rfl, ?_⟩
  rw [cutP_map]
  obtain ⟨xs, hxs, hxl⟩ : ∃ xs : List Int, (ns.drop (HT.sIx ns.length 0 none)).take (HT.sIx ns.length ns.length (some 60) - HT.sIx ns.length 0 none) = xs ∧ xs.length ≤ 63 := ⟨_, rfl, by rw [List.length_take, List.length_drop]; omega⟩
  rw [hxs]
  obtain ⟨fc, hfc⟩ : ∃ fc : Int → Int, fc = fun x => (2 * (if x < 0 then -x else x) + (if decide (x < 0) = true then 1 else 0)) % great := ⟨_, rfl⟩
  have fc0 : ∀ x, 0 ≤ fc x := fun x => by rw [hfc]; exact Int.emod_nonneg _ (by omega)
  refine comp_map (emb := PV.int) (xs := xs) (f := fun x => .int (fc x)) (fun x hx => ⟨_, fun k hk => s_gmN.mpr hk, fun Q hQ => hQ, fun Q hQ => ?_⟩) (line (by omega)) ?_
  · show mOp oMod _ (mVar 1) [some (.scr ns), some (.int great), some (.int x), none, none] Q
    try simp only [s_mVar0, s_mVarS, s_mVarO0, s_mVarOS, s_isObj_lst, s_isObj_dic, s_mC, s_mOp, s_mOp1, s_mB, s_mNil, s_mCons, s_mTup, s_mLst, s_mCall, s_mTB, s_mNot, s_mAnd, s_mOr, s_mAndV, s_mOrV, s_mIf, s_mYes, s_mSl, s_mNo, s_mPart, s_mLc, s_mItems, s_mRng1, s_mRng2, s_mEnum, s_mChain, s_seqT, s_seqL, s_sNext, s_sSeq, s_sIf, s_sSet, s_sRet, s_sRetN, s_sBreak, s_sCont, s_sDrop, s_sPar, s_setN0, s_setNS, s_sAsg, s_sApp, s_sAug, s_sFor, s_sSrc, s_gmN, s_gmT, s_gmCons, s_gmNil, s_wipe0, s_wipeS, s_oSub, s_oAddI, s_oAdd, s_oLt, s_oLe, s_oGt, s_oGe, s_oNeg, s_oNot, s_oMul, s_oMulW, s_oMod, s_oFdiv, s_oPow, s_oIsN, s_oNotN, s_oIsB, s_oNotB, s_isNon_int, s_isNon_non, s_isNon_bl, s_isNon_str, s_isNon_tup, s_isNon_lst, s_isNon_dic, s_oEqI, s_oNeI, s_oIxT, s_oIxL, s_oSlT, s_oSlL, s_oRevT, s_oRevL, s_oInt, s_oIntB, s_oAbs, s_oMax2, s_oMin2, s_oLen, s_plenT, s_plenL, s_plenD, s_plenS, s_oTupleL, s_oTupleT, s_oListL, s_oListT, List.set_cons_succ, List.set_cons_zero, List.append_nil, true_and, x_bl, x_int, x_some, x_addT, x_addL, x_true, x_false]
    refine ⟨.inl ⟨by decide, by decide⟩, hg0, ?_⟩
    rw [hfc] at hQ
    exact hQ
  refine ⟨_, rfl, ?_⟩
  refine for_inv (emb := fun x => PV.int (fc x)) (fun i e => ∃ (s : Int) (y2 : Option PV), 0 ≤ s ∧ s < 2147483647 ∧ e = [some (.scr ns), some (.int great), y2, some (.lst (xs.map fun x => .int (fc x))), some (.int s)]) ⟨20043, none, by decide, by decide, rfl⟩ (fun i x e N hx hE hN => ?_) (fun e hE => ?_)
  · obtain ⟨s, y2, s0, s1, rfl⟩ := hE
    rw [s_gmN]
    try simp only [s_mVar0, s_mVarS, s_mVarO0, s_mVarOS, s_isObj_lst, s_isObj_dic, s_mC, s_mOp, s_mOp1, s_mB, s_mNil, s_mCons, s_mTup, s_mLst, s_mCall, s_mTB, s_mNot, s_mAnd, s_mOr, s_mAndV, s_mOrV, s_mIf, s_mYes, s_mSl, s_mNo, s_mPart, s_mLc, s_mItems, s_mRng1, s_mRng2, s_mEnum, s_mChain, s_seqT, s_seqL, s_sNext, s_sSeq, s_sIf, s_sSet, s_sRet, s_sRetN, s_sBreak, s_sCont, s_sDrop, s_sPar, s_setN0, s_setNS, s_sAsg, s_sApp, s_sAug, s_sFor, s_sSrc, s_gmN, s_gmT, s_gmCons, s_gmNil, s_wipe0, s_wipeS, s_oSub, s_oAddI, s_oAdd, s_oLt, s_oLe, s_oGt, s_oGe, s_oNeg, s_oNot, s_oMul, s_oMulW, s_oMod, s_oFdiv, s_oPow, s_oIsN, s_oNotN, s_oIsB, s_oNotB, s_isNon_int, s_isNon_non, s_isNon_bl, s_isNon_str, s_isNon_tup, s_isNon_lst, s_isNon_dic, s_oEqI, s_oNeI, s_oIxT, s_oIxL, s_oSlT, s_oSlL, s_oRevT, s_oRevL, s_oInt, s_oIntB, s_oAbs, s_oMax2, s_oMin2, s_oLen, s_plenT, s_plenL, s_plenD, s_plenS, s_oTupleL, s_oTupleT, s_oListL, s_oListT, List.set_cons_succ, List.set_cons_zero, List.append_nil, true_and, x_bl, x_int, x_some, x_addT, x_addL, x_true, x_false]
    refine ⟨.inr ⟨by decide, by decide⟩, by decide, by decide, hN _ ⟨_, _, ?_, ?_, rfl⟩⟩
    · exact Int.emod_nonneg _ (by decide)
    · exact Int.emod_lt_of_pos _ (by decide)
  · obtain ⟨s, y2, s0, s1, rfl⟩ := hE
    try simp only [s_mVar0, s_mVarS, s_mVarO0, s_mVarOS, s_isObj_lst, s_isObj_dic, s_mC, s_mOp, s_mOp1, s_mB, s_mNil, s_mCons, s_mTup, s_mLst, s_mCall, s_mTB, s_mNot, s_mAnd, s_mOr, s_mAndV, s_mOrV, s_mIf, s_mYes, s_mSl, s_mNo, s_mPart, s_mLc, s_mItems, s_mRng1, s_mRng2, s_mEnum, s_mChain, s_seqT, s_seqL, s_sNext, s_sSeq, s_sIf, s_sSet, s_sRet, s_sRetN, s_sBreak, s_sCont, s_sDrop, s_sPar, s_setN0, s_setNS, s_sAsg, s_sApp, s_sAug, s_sFor, s_sSrc, s_gmN, s_gmT, s_gmCons, s_gmNil, s_wipe0, s_wipeS, s_oSub, s_oAddI, s_oAdd, s_oLt, s_oLe, s_oGt, s_oGe, s_oNeg, s_oNot, s_oMul, s_oMulW, s_oMod, s_oFdiv, s_oPow, s_oIsN, s_oNotN, s_oIsB, s_oNotB, s_isNon_int, s_isNon_non, s_isNon_bl, s_isNon_str, s_isNon_tup, s_isNon_lst, s_isNon_dic, s_oEqI, s_oNeI, s_oIxT, s_oIxL, s_oSlT, s_oSlL, s_oRevT, s_oRevL, s_oInt, s_oIntB, s_oAbs, s_oMax2, s_oMin2, s_oLen, s_plenT, s_plenL, s_plenD, s_plenS, s_oTupleL, s_oTupleT, s_oListL, s_oListT, List.set_cons_succ, List.set_cons_zero, List.append_nil, true_and, x_bl, x_int, x_some, x_addT, x_addL, x_true, x_false]
    refine comp_emb (emb := fun x => PV.int (fc x)) (xs := xs) (tst := fun x => decide ((10 : Int) ^ 18 ≤ fc x)) (f := fun x => .int (fc x)) (fun x hx => ⟨_, fun k hk => s_gmN.mpr hk, fun Q hQ => ?_, fun _ Q hQ => ?_⟩) (by rw [List.length_nil, Nat.zero_add]; exact line (by omega)) ?_
    · show mTB _ [some (.scr ns), some (.int great), some (.int (fc x)), some (.lst (xs.map fun x => .int (fc x))), some (.int s)] Q
      try simp only [s_mVar0, s_mVarS, s_mVarO0, s_mVarOS, s_isObj_lst, s_isObj_dic, s_mC, s_mOp, s_mOp1, s_mB, s_mNil, s_mCons, s_mTup, s_mLst, s_mCall, s_mTB, s_mNot, s_mAnd, s_mOr, s_mAndV, s_mOrV, s_mIf, s_mYes, s_mSl, s_mNo, s_mPart, s_mLc, s_mItems, s_mRng1, s_mRng2, s_mEnum, s_mChain, s_seqT, s_seqL, s_sNext, s_sSeq, s_sIf, s_sSet, s_sRet, s_sRetN, s_sBreak, s_sCont, s_sDrop, s_sPar, s_setN0, s_setNS, s_sAsg, s_sApp, s_sAug, s_sFor, s_sSrc, s_gmN, s_gmT, s_gmCons, s_gmNil, s_wipe0, s_wipeS, s_oSub, s_oAddI, s_oAdd, s_oLt, s_oLe, s_oGt, s_oGe, s_oNeg, s_oNot, s_oMul, s_oMulW, s_oMod, s_oFdiv, s_oPow, s_oIsN, s_oNotN, s_oIsB, s_oNotB, s_isNon_int, s_isNon_non, s_isNon_bl, s_isNon_str, s_isNon_tup, s_isNon_lst, s_isNon_dic, s_oEqI, s_oNeI, s_oIxT, s_oIxL, s_oSlT, s_oSlL, s_oRevT, s_oRevL, s_oInt, s_oIntB, s_oAbs, s_oMax2, s_oMin2, s_oLen, s_plenT, s_plenL, s_plenD, s_plenS, s_oTupleL, s_oTupleT, s_oListL, s_oListT, List.set_cons_succ, List.set_cons_zero, List.append_nil, true_and, x_bl, x_int, x_some, x_addT, x_addL, x_true, x_false]
      exact ⟨⟨by decide, by decide, by decide⟩, hQ⟩
    · show mVar 2 [some (.scr ns), some (.int great), some (.int (fc x)), some (.lst (xs.map fun x => .int (fc x))), some (.int s)] Q
      try simp only [s_mVar0, s_mVarS, s_mVarO0, s_mVarOS, s_isObj_lst, s_isObj_dic, s_mC, s_mOp, s_mOp1, s_mB, s_mNil, s_mCons, s_mTup, s_mLst, s_mCall, s_mTB, s_mNot, s_mAnd, s_mOr, s_mAndV, s_mOrV, s_mIf, s_mYes, s_mSl, s_mNo, s_mPart, s_mLc, s_mItems, s_mRng1, s_mRng2, s_mEnum, s_mChain, s_seqT, s_seqL, s_sNext, s_sSeq, s_sIf, s_sSet, s_sRet, s_sRetN, s_sBreak, s_sCont, s_sDrop, s_sPar, s_setN0, s_setNS, s_sAsg, s_sApp, s_sAug, s_sFor, s_sSrc, s_gmN, s_gmT, s_gmCons, s_gmNil, s_wipe0, s_wipeS, s_oSub, s_oAddI, s_oAdd, s_oLt, s_oLe, s_oGt, s_oGe, s_oNeg, s_oNot, s_oMul, s_oMulW, s_oMod, s_oFdiv, s_oPow, s_oIsN, s_oNotN, s_oIsB, s_oNotB, s_isNon_int, s_isNon_non, s_isNon_bl, s_isNon_str, s_isNon_tup, s_isNon_lst, s_isNon_dic, s_oEqI, s_oNeI, s_oIxT, s_oIxL, s_oSlT, s_oSlL, s_oRevT, s_oRevL, s_oInt, s_oIntB, s_oAbs, s_oMax2, s_oMin2, s_oLen, s_plenT, s_plenL, s_plenD, s_plenS, s_oTupleL, s_oTupleT, s_oListL, s_oListT, List.set_cons_succ, List.set_cons_zero, List.append_nil, true_and, x_bl, x_int, x_some, x_addT, x_addL, x_true, x_false]
      exact hQ
    rw [List.nil_append]
    refine s_oRevL.mpr ⟨line (by simp), ((xs.filter fun x => decide ((10 : Int) ^ 18 ≤ fc x)).reverse.map fun x => (fc x).toNat), s.toNat, ?_, ?_, by omega⟩
    · rw [List.map_map, ← List.map_reverse, Int.toNat_of_nonneg s0]
      congr 3
      exact List.map_congr_left fun x _ => by show PV.int (fc x) = PV.int ((fc x).toNat : Int); rw [Int.toNat_of_nonneg (fc0 x)]
    · rw [List.length_map, List.length_reverse]
      exact Nat.le_trans (List.length_filter_le _ _) hxl
end
end K25

set_option maxHeartbeats 1000000
/-! The draw of a heap [cells, stir], by hand. -/
namespace PM
open PySem L2
theorem SA.cells {W : Ws} {H : Hp} {p : Addr × Addr} (hs : ∀ q ∈ W, SA H q) (hp : p ∈ W) {cs : List Nat} (l : cs.length ≤ 63) : ∀ q ∈ W, SA (upd H p.2 (.lst (cs.map fun (c : Nat) => V.int (c : Int)))) q := fun q hq => by
  obtain ⟨np, csp, sp, lp, bp, ap, cp⟩ := hs p hp
  obtain ⟨n, c0, s0, l0, b0, a, b⟩ := hs q hq
  have h1 : q.1 ≠ p.2 := fun z => by
    rw [z, cp] at a
    cases csp with
    | nil => cases a
    | cons x xs => cases a
  by_cases h2 : q.2 = p.2
  · exact ⟨n, cs, s0, l, b0, by rw [upd_ne h1]; exact a, by rw [h2, upd_same]⟩
  · exact ⟨n, c0, s0, l0, b0, by rw [upd_ne h1]; exact a, by rw [upd_ne h2]; exact b⟩
theorem SA.stir {W : Ws} {H : Hp} {p : Addr × Addr} (hs : ∀ q ∈ W, SA H q) (hp : p ∈ W) {s : Nat} (l : s < 2147483647) : ∀ q ∈ W, SA (upd H p.1 (.lst [.ref p.2, .int (s : Int)])) q := fun q hq => by
  obtain ⟨np, csp, sp, lp, bp, ap, cp⟩ := hs p hp
  obtain ⟨n, c0, s0, l0, b0, a, b⟩ := hs q hq
  have h1 : q.2 ≠ p.1 := fun z => by
    rw [z, ap] at b
    cases c0 with
    | nil => cases b
    | cons x xs => cases b
  by_cases h2 : q.1 = p.1
  · have e : q.2 = p.2 := by rw [h2, ap] at a; simp at a; exact a.1.symm
    exact ⟨n, c0, s, l0, l, by rw [h2, upd_same, e], by rw [upd_ne h1]; exact b⟩
  · exact ⟨n, c0, s0, l0, b0, by rw [upd_ne h2]; exact a, by rw [upd_ne h1]; exact b⟩
theorem Grow.cells {W : Ws} {H H' : Hp} (g : Grow W H H') {p : Addr × Addr} (hp : p ∈ W) {cs : List Nat} (l : cs.length ≤ 63) : Grow W H (upd H' p.2 (.lst (cs.map fun (c : Nat) => V.int (c : Int)))) :=
  ⟨fun b o n e => by rw [upd_ne (fun z => n ⟨p, hp, .inr z⟩)]; exact g.keep b o n e, SA.cells g.src hp l⟩
theorem Grow.stir {W : Ws} {H H' : Hp} (g : Grow W H H') {p : Addr × Addr} (hp : p ∈ W) {s : Nat} (l : s < 2147483647) : Grow W H (upd H' p.1 (.lst [.ref p.2, .int (s : Int)])) :=
  ⟨fun b o n e => by rw [upd_ne (fun z => n ⟨p, hp, .inl z⟩)]; exact g.keep b o n e, SA.stir g.src hp l⟩
theorem dp_ints {K : PySem.W.Frag} {H : Hp} : ∀ cs : List Nat, DpAll K H (cs.map fun (c : Nat) => V.int (c : Int)) (cs.map fun (c : Nat) => PyData.int (c : Int))
  | [] => .nil
  | c :: cs => .cons (.int _) (dp_ints cs)
theorem lay_ints : ∀ cs : List Nat, PyData.canLayAll0 (cs.map fun (c : Nat) => PyData.int (c : Int)) = true ∧ PyData.depthAll (cs.map fun (c : Nat) => PyData.int (c : Int)) = 0
  | [] => ⟨rfl, rfl⟩
  | c :: cs => by
    obtain ⟨h1, h2⟩ := lay_ints cs
    constructor
    · show (PyData.canLay0 (.int (c : Int)) && PyData.canLayAll0 _) = true
      rw [h1]; rfl
    · show max (PyData.depth (.int (c : Int))) (PyData.depthAll _) = 0
      rw [h2]; rfl
theorem shaped_ints (cs : List Nat) : SeqAt.shaped (.list (cs.map fun (c : Nat) => PyData.int (c : Int))) = true := by
  unfold SeqAt.shaped
  rw [show PyData.canLay0 (.list (cs.map fun (c : Nat) => PyData.int (c : Int))) = true from (lay_ints cs).1]
  rw [show PyData.depth (.list (cs.map fun (c : Nat) => PyData.int (c : Int))) = PyData.depthAll (cs.map fun (c : Nat) => PyData.int (c : Int)) + 1 from rfl, (lay_ints cs).2]
  rfl
theorem eqv_ints_nil (cs : List Nat) : PyData.eqv (.list (cs.map fun (c : Nat) => PyData.int (c : Int))) (.list []) = cs.isEmpty := by
  cases cs with
  | nil => rfl
  | cons c cs => rfl
def sp_draw : PM.Spec := fun ps P => ∃ many : Int, ps = [.src, .int many] ∧ 0 < many ∧ many < 1073741824 ∧ ∀ r, 0 ≤ r → r < many → P (.int r)
/-- heap[0] != [] -/
theorem draw_ne {K : PySem.W.Frag} {W : Ws} {H H' : Hp} {p : Addr × Addr} {m : Int} {y : Option V} (g : Grow W H H') (hp : p ∈ W) {Q : VK}
    (h : ∀ (cs : List Nat) (s : Nat) H2, H' p.2 = some (.lst (cs.map fun (c : Nat) => V.int (c : Int))) → Grow W H H2 → cs.length ≤ 63 → s < 2147483647 → H2 p.1 = some (.lst [.ref p.2, .int (s : Int)]) → H2 p.2 = some (.lst (cs.map fun (c : Nat) => V.int (c : Int))) → Q (.bl (!cs.isEmpty)) H2) :
    tOp (rNeD K) (tOp (rIx K) (tVar 0) (tC (.int 0))) (tLst tNil) [some (.ref p.1), some (.int m), y] H' Q := by
  obtain ⟨n, cs, s, l, b, e1, e2⟩ := g.src p hp
  refine ⟨.ref p.1, rfl, .inl ⟨p.1, _, 0, .ref p.2, rfl, rfl, .inl (.inl e1), rfl, Nat.zero_le _, fun c nc => ?_⟩⟩
  have g2 := g.trans (Grow.new (o := .lst []) g.src nc)
  have f1 : upd H' c (.lst []) p.1 = some (.lst [.ref p.2, .int (s : Int)]) := by rw [upd_ne (ne_of_none e1 nc)]; exact e1
  have f2 : upd H' c (.lst []) p.2 = some (.lst (cs.map fun (c : Nat) => V.int (c : Int))) := by rw [upd_ne (ne_of_none e2 nc)]; exact e2
  refine ⟨.list (cs.map fun (c : Nat) => PyData.int (c : Int)), .list [], .lst (.inl (.inl f2)) (dp_ints cs), .lst (.inl (.inl upd_same)) .nil, shaped_ints cs, rfl, ?_⟩
  rw [eqv_ints_nil]
  exact h cs s _ e2 g2 l b f1 f2
theorem map_int_inj : ∀ {xs ys : List Nat}, (xs.map fun (c : Nat) => V.int (c : Int)) = (ys.map fun (c : Nat) => V.int (c : Int)) → xs = ys
  | [], [], _ => rfl
  | [], _ :: _, h => by cases h
  | _ :: _, [], h => by cases h
  | x :: xs, y :: ys, h => by
    rw [List.map_cons, List.map_cons] at h
    injection h with h1 h2
    have e : x = y := by
      have e : (x : Int) = (y : Int) := V.int.inj h1
      omega
    rw [e, map_int_inj h2]
theorem rev_end {cs : List Nat} (h : cs ≠ []) : ∃ r c, cs = r ++ [c] := ⟨cs.dropLast, cs.getLast h, (List.dropLast_concat_getLast h).symm⟩
theorem at_end (r : List Nat) (c : Nat) : atI ((r ++ [c]).map fun (c : Nat) => V.int (c : Int)) (-1) = some (.int (c : Int)) := by
  unfold atI ixN
  rw [List.length_map, List.length_append, List.length_singleton, if_neg (by decide), if_pos (by omega)]
  show ((r ++ [c]).map fun (c : Nat) => V.int (c : Int))[((-1 : Int) + ((r.length + 1 : Nat) : Int)).toNat]? = _
  rw [show ((-1 : Int) + ((r.length + 1 : Nat) : Int)).toNat = r.length by omega, List.map_append, List.getElem?_append_right (by rw [List.length_map]; exact Nat.le_refl _), List.length_map, Nat.sub_self]
  rfl
theorem draw_loop {K : PySem.W.Frag} {W : Ws} {H : Hp} {p : Addr × Addr} {m : Int} {D : Ends} (hs : ∀ q ∈ W, SA H q) (hp : p ∈ W) (hnx : ∀ H2, Grow W H H2 → D.nx [some (.ref p.1), some (.int m), none] H2) :
    tWhile (tAnd (tTest (tOp (rNeD K) (tOp (rIx K) (tVar 0) (tC (.int 0))) (tLst tNil))) (tTest (tOp (rEqD K) (tOp (rIx K) (tOp (rIx K) (tVar 0) (tC (.int 0))) (tUn (rU fun i => V.int (-i)) (tC (V.int 1)))) (tC (V.int 0)))))
      (tDrop (tBM0 K "list" rPop (tOp (rIx K) (tVar 0) (tC (.int 0))))) D [some (.ref p.1), some (.int m), none] H := by
  refine ⟨fun i σ H1 => σ = [some (.ref p.1), some (.int m), none] ∧ Grow W H H1 ∧ ∃ cs : List Nat, cs.length = i ∧ H1 p.2 = some (.lst (cs.map fun (c : Nat) => V.int (c : Int))), ?_, fun i σ H1 hW => ?_⟩
  · obtain ⟨n, cs, s, l, b, e1, e2⟩ := hs p hp
    exact ⟨cs.length, rfl, Grow.refl hs, cs, rfl, e2⟩
  · obtain ⟨rfl, g1, cs0, hl0, e0⟩ := hW
    refine draw_ne g1 hp fun cs s H2 e3 g2 l b e1 e2 => ⟨_, rfl, ?_⟩
    have ec : cs = cs0 := map_int_inj (by rw [e0] at e3; simpa using e3.symm)
    subst ec
    by_cases hc : cs = []
    · subst hc
      exact hnx H2 g2
    · obtain ⟨r, c, rfl⟩ := rev_end hc
      have hb : (!(r ++ [c]).isEmpty) = true := by simp
      rw [hb]
      refine iteT ⟨.ref p.1, rfl, .inl ⟨p.1, _, 0, .ref p.2, rfl, rfl, .inl (.inl e1), rfl, 1, rfl, .inl ⟨p.2, _, -1, .int (c : Int), rfl, rfl, .inl (.inl e2), at_end r c, ?_⟩⟩⟩
      refine ⟨.int (c : Int), .int 0, .int _, .int _, rfl, rfl, _, rfl, ?_⟩
      cases PyData.eqv (.int (c : Int)) (.int 0) with
      | true =>
        refine iteT ⟨fun σ' H' => σ' = [some (.ref p.1), some (.int m), none] ∧ Grow W H H' ∧ H' p.2 = some (.lst (r.map fun (c : Nat) => V.int (c : Int))), fun σ' H' ⟨h1, h2, h3⟩ => ⟨r.length, by rw [← hl0, List.length_append]; exact Nat.lt_succ_self _, h1, h2, r, rfl, h3⟩, ?_⟩
        refine ⟨.ref p.1, rfl, .inl ⟨p.1, _, 0, .ref p.2, rfl, rfl, .inl (.inl e1), rfl, .inl ⟨rfl, _, .inl (.inl e2)⟩, p.2, _, .int (c : Int), rfl, rfl, e2, ?_, rfl, ?_⟩⟩
        · rw [List.length_map, List.length_append, List.length_singleton, Nat.add_sub_cancel, List.map_append, List.getElem?_append_right (by rw [List.length_map]; exact Nat.le_refl _), List.length_map, Nat.sub_self]
          rfl
        · have e5 : ((r ++ [c]).map fun (c : Nat) => V.int (c : Int)).dropLast = r.map fun (c : Nat) => V.int (c : Int) := by
            rw [List.map_append]; exact List.dropLast_concat
          rw [e5]
          refine ⟨g2.cells hp ?_, upd_same⟩
          rw [List.length_append] at l
          exact Nat.le_trans (Nat.le_add_right _ _) l
      | false => exact iteF (hnx H2 g2)
end PM
namespace K25
open PySem PySem.Spec PyProof.Rows L2 PM
section
variable {P : Program} {w : World} {K : PySem.W.Frag} {mg : Str → Option Value} {base : Heap}
theorem ok_l_draw (T : Tx K mg) : FnOk P w K mg base CX0 1 T.a_l_draw T.d_l_draw p_l_draw (spM K .cl sp_draw) := by
  have zi : mg "int" = none := T.z_int
  refine T.f_l_draw.ok S_l_draw (fun vs H Q E h => ?_) (fun cdv A outer s H vs Q E hr h => ?_)
  · obtain ⟨zb, W, ps, P', _, _, r, ⟨m, e, _⟩, _⟩ := h
    rw [← r.len, e]; rfl
  · obtain ⟨zb, W, ps, P', hz, hs, r, ⟨m, e, m0, m1, hp⟩, k⟩ := h
    subst e
    obtain ⟨p, hpw, rfl⟩ : ∃ p ∈ W, vs = [.ref p.1, .int m] := by
      unfold Rps at r
      obtain ⟨v, r', rfl, h1, h2⟩ := r
      unfold Rps at h2
      obtain ⟨v2, r2, rfl, h3, h4⟩ := h2
      unfold Rps at h4
      unfold Rp at h1 h3
      obtain ⟨p, hp, rfl⟩ := h1
      exact ⟨p, hp, by rw [h3, h4]⟩
    have fin : ∀ r H', Grow W H H' → 0 ≤ r → r < m → Q (.int r) H' := fun r H' g h1 h2 => k (.int r) (.int r) H' g (VK1.ofRp Rp.int') (hp r h1 h2)
    refine ⟨_, PSs.nox (pss_cons (ps_while .never (pw_and (pt_cmpR (op_neD hr.units) (pe_ix ix_seq (pv 0) pe_int (fun _ _ => rfl)) (pe_lst pa_nil) (nomark _)) (pw_and1 (pt_cmpR (op_eqD hr.units) (pe_ix ix_seq (pe_ix ix_seq (pv 0) pe_int (fun _ _ => rfl)) (pe_un un_neg pe_int) (fun _ _ => rfl)) pe_int (nomark _)))).pt
        (pss_one (ps_expr (pe_bm0 PySem.F.plainAttrs_list PySem.F.slot_list_pop PySem.F.type_list_pop mt_pop (pe_ix ix_seq (pv 0) pe_int (fun _ _ => rfl))))))
      (pss_cons (ps_if (pt_cmpR (op_neD hr.units) (pe_ix ix_seq (pv 0) pe_int (fun _ _ => rfl)) (pe_lst pa_nil) (nomark _))
        (pss_cons (ps_set (i := 2) S_l_draw.nd rfl (.inl rfl) (pe_bm0 PySem.F.plainAttrs_list PySem.F.slot_list_pop PySem.F.type_list_pop mt_pop (pe_ix ix_seq (pv 0) pe_int (fun _ _ => rfl))))
        (pss_cons (ps_expr (pe_bm PySem.F.plainAttrs_list PySem.F.slot_list_append PySem.F.type_list_append mt_append (pe_ix ix_seq (pv 0) pe_int (fun _ _ => rfl)) (pa_cons (pe_op op_fdiv (pv 2) (pv 1)) pa_nil)))
        (pss_one (ps_ret (pe_op op_mod (pe_callTy call_int1 (by rfl) zi PyProof.Rows.boot_int (pa_cons (pv 2) pa_nil)) (pv 1))))))
        pss_nil)
      (pss_cons (ps_asg (pe_op op_mod (pe_callTy call_int1 (by rfl) zi PyProof.Rows.boot_int (pa_cons (pe_op op_add (pe_op op_mul (pe_ix ix_seq (pv 0) pe_int (fun _ _ => rfl)) pe_int) pe_int) pa_nil)) pe_int) (pg_sub (pv 0) pe_int set_list (by intro _; rfl)))
      (pss_one (ps_ret (pe_op op_mod (pe_callTy call_int1 (by rfl) zi PyProof.Rows.boot_int (pa_cons (pe_op op_fdiv (pe_ix ix_seq (pv 0) pe_int (fun _ _ => rfl)) pe_int) pa_nil)) (pv 1))))))), ?_⟩
    refine draw_loop hs hpw fun H2 g2 => ?_
    refine draw_ne g2 hpw fun cs s H3 _ g3 l b e1 e2 => ⟨_, rfl, ?_⟩
    by_cases hc : cs = []
    · subst hc
      refine iteF ⟨.ref p.1, rfl, .inl ⟨p.1, _, 1, .int (s : Int), rfl, rfl, .inl (.inl e1), rfl, s, 48271, rfl, rfl, .inl ⟨by omega, by omega⟩, _, 83, rfl, rfl, .inl ⟨_, rfl, _, 2147483647, rfl, rfl, (by decide : (0 : Int) < 2147483647), .ref p.1, rfl, ?_⟩⟩⟩
      obtain ⟨s', hs', e'⟩ : ∃ s' : Nat, s' < 2147483647 ∧ ((s : Int) * 48271 + 83) % 2147483647 = (s' : Int) := ⟨(((s : Int) * 48271 + 83) % 2147483647).toNat, by omega, by omega⟩
      have g4 := g3.stir hpw hs'
      rw [← e'] at g4
      refine ⟨p.1, _, 1, 1, rfl, rfl, e1, rfl, ?_⟩
      refine ⟨.ref p.1, rfl, .inl ⟨p.1, _, 1, _, rfl, rfl, .inl (.inl upd_same), rfl, _, 32, rfl, rfl, ⟨by decide, by decide⟩, .inl ⟨_, rfl, .int m, rfl, _, m, rfl, rfl, m0, ?_⟩⟩⟩
      exact fin _ _ g4 (Int.emod_nonneg _ (by omega)) (Int.emod_lt_of_pos _ m0)
    · obtain ⟨r, c, rfl⟩ := rev_end hc
      have hb : (!(r ++ [c]).isEmpty) = true := by simp
      rw [hb]
      refine iteT ⟨.ref p.1, rfl, .inl ⟨p.1, _, 0, .ref p.2, rfl, rfl, .inl (.inl e1), rfl, .inl ⟨rfl, _, .inl (.inl e2)⟩, p.2, _, .int (c : Int), rfl, rfl, e2, ?_, ?_⟩⟩
      · rw [List.length_map, List.length_append, List.length_singleton, Nat.add_sub_cancel, List.map_append, List.getElem?_append_right (by rw [List.length_map]; exact Nat.le_refl _), List.length_map, Nat.sub_self]
        rfl
      have e5 : ((r ++ [c]).map fun (c : Nat) => V.int (c : Int)).dropLast = r.map fun (c : Nat) => V.int (c : Int) := by
        rw [List.map_append]; exact List.dropLast_concat
      rw [e5]
      have lr : r.length + 1 ≤ 63 := by rw [List.length_append, List.length_singleton] at l; exact l
      have g4 := g3.cells hpw (cs := r) (by omega)
      obtain ⟨q, hq⟩ : ∃ q : Nat, (c : Int) / m = (q : Int) := ⟨((c : Int) / m).toNat, by have := Int.ediv_nonneg (a := (c : Int)) (b := m) (by omega) (by omega); omega⟩
      have n12 : p.1 ≠ p.2 := (hs p hpw).1
      have f1 : upd H3 p.2 (.lst (r.map fun (c : Nat) => V.int (c : Int))) p.1 = some (.lst [.ref p.2, .int (s : Int)]) := by rw [upd_ne n12]; exact e1
      refine ⟨.ref p.1, rfl, .inl ⟨p.1, _, 0, .ref p.2, rfl, rfl, .inl (.inl f1), rfl, .inl ⟨rfl, _, .inl (.inl upd_same)⟩, .int (c : Int), rfl, .int m, rfl, c, m, rfl, rfl, ⟨m0, m1⟩, p.2, _, _, rfl, rfl, upd_same, ?_, ?_⟩⟩
      · rw [List.length_map]
        exact Nat.lt_of_lt_of_le (by omega : r.length < 64) (by decide)
      have e6 : (r.map fun (c : Nat) => V.int (c : Int)) ++ [V.int (q : Int)] = (r ++ [q]).map fun (c : Nat) => V.int (c : Int) := by rw [List.map_append]; rfl
      have g5 := g4.cells hpw (cs := r ++ [q]) (by rw [List.length_append, List.length_singleton]; exact lr)
      rw [← e6, ← hq] at g5
      refine ⟨.int (c : Int), rfl, .inl ⟨_, rfl, .int m, rfl, c, m, rfl, rfl, m0, ?_⟩⟩
      exact fin _ _ g5 (Int.emod_nonneg _ (by omega)) (Int.emod_lt_of_pos _ m0)
end
end K25

set_option maxHeartbeats 1000000
namespace K25
open PySem PySem.Spec PyProof.Rows L2 PM
section
variable {P : Program} {w : World} {K : PySem.W.Frag} {mg : Str → Option Value} {base : Heap}
theorem ok_holders (T : Tx K mg) : FnOk P w K mg base CX0 1 T.a_holders T.d_holders p_holders (spM K .cl sp_holders) := fn_m T.f_holders S_holders (by intro ps Q h; repeat (first | (have e := h.1; subst e; rfl) | (obtain ⟨_, h⟩ := h))) (fun cdv A outer s H E hr => w_holders T   cdv A outer s H E hr) h_holders
theorem ok_left_of (T : Tx K mg) : FnOk P w K mg base CX0 2 T.a_left_of T.d_left_of p_left_of (spM K .cl sp_left_of) := fn_m T.f_left_of S_left_of (by intro ps Q h; repeat (first | (have e := h.1; subst e; rfl) | (obtain ⟨_, h⟩ := h))) (fun cdv A outer s H E hr => w_left_of T sp_holders (ok_holders T) cdv A outer s H E hr) h_left_of
theorem ok_is_told_without (T : Tx K mg) : FnOk P w K mg base CX0 3 T.a_is_told_without T.d_is_told_without p_is_told_without (spM K .cl sp_is_told_without) := fn_m T.f_is_told_without S_is_told_without (by intro ps Q h; repeat (first | (have e := h.1; subst e; rfl) | (obtain ⟨_, h⟩ := h))) (fun cdv A outer s H E hr => w_is_told_without T sp_left_of (ok_left_of T) cdv A outer s H E hr) h_is_told_without
theorem ok_silence_needed (T : Tx K mg) : FnOk P w K mg base CX0 3 T.a_silence_needed T.d_silence_needed p_silence_needed (spM K .cl sp_silence_needed) := fn_m T.f_silence_needed S_silence_needed (by intro ps Q h; repeat (first | (have e := h.1; subst e; rfl) | (obtain ⟨_, h⟩ := h))) (fun cdv A outer s H E hr => w_silence_needed T sp_left_of (ok_left_of T) cdv A outer s H E hr) h_silence_needed
theorem ok_some_silence (T : Tx K mg) : FnOk P w K mg base CX0 4 T.a_some_silence T.d_some_silence p_some_silence (spM K .cl sp_some_silence) := fn_m T.f_some_silence S_some_silence (by intro ps Q h; repeat (first | (have e := h.1; subst e; rfl) | (obtain ⟨_, h⟩ := h))) (fun cdv A outer s H E hr => w_some_silence T sp_silence_needed sp_left_of (ok_silence_needed T) (ok_left_of T) cdv A outer s H E hr) h_some_silence
theorem ok_l_heap (T : Tx K mg) : FnOk P w K mg base CX0 1 T.a_l_heap T.d_l_heap p_l_heap (spSrc K ok_heap) := src_m T.f_l_heap S_l_heap rfl (fun cdv A outer s H E hr => w_l_heap T   cdv A outer s H E hr) h_l_heap
theorem ok_l_pick (T : Tx K mg) : FnOk P w K mg base CX0 2 T.a_l_pick T.d_l_pick p_l_pick (spM K .cl sp_pick) := fn_m T.f_l_pick S_l_pick (by intro ps Q h; repeat (first | (have e := h.1; subst e; rfl) | (obtain ⟨_, h⟩ := h))) (fun cdv A outer s H E hr => w_l_pick T sp_drw (ok_l_draw T) cdv A outer s H E hr) h_l_pick
theorem okn_l_like (T : Tx K mg) : ∀ n, FnOk P w K mg base CX0 n T.a_l_like T.d_l_like p_l_like (spM K .cl (spk n))
  | 0 => fn_none fun _ _ h => h
  | n + 1 => fn_m T.f_l_like S_l_like (by intro ps Q h; repeat (first | (have e := h.1; subst e; rfl) | (obtain ⟨_, h⟩ := h))) (fun cdv A outer s H E hr => w_l_like T (spk n) (okn_l_like T n) (Nat.zero_le _) cdv A outer s H E hr) (h_l_like n)
theorem ok_l_like (T : Tx K mg) : FnOk P w K mg base CX0 3 T.a_l_like T.d_l_like p_l_like (spM K .cl (spk 3)) := okn_l_like T 3
theorem ok_l_some (T : Tx K mg) : FnOk P w K mg base CX0 2 T.a_l_some T.d_l_some p_l_some (spM K .cl sp_some) := fn_m T.f_l_some S_l_some (by intro ps Q h; repeat (first | (have e := h.1; subst e; rfl) | (obtain ⟨_, h⟩ := h))) (fun cdv A outer s H E hr => w_l_some T sp_drw (ok_l_draw T) cdv A outer s H E hr) h_l_some
theorem ok_l_spots (T : Tx K mg) : FnOk P w K mg base CX0 1 T.a_l_spots T.d_l_spots p_l_spots (spM K .cl sp_l_spots) := fn_m T.f_l_spots S_l_spots (by intro ps Q h; repeat (first | (have e := h.1; subst e; rfl) | (obtain ⟨_, h⟩ := h))) (fun cdv A outer s H E hr => w_l_spots T   cdv A outer s H E hr) h_l_spots
theorem ok_l_row_forms (T : Tx K mg) : FnOk P w K mg base CX0 2 T.a_l_row_forms T.d_l_row_forms p_l_row_forms (spM K .cl sp_l_row_forms) := fn_m T.f_l_row_forms S_l_row_forms (by intro ps Q h; repeat (first | (have e := h.1; subst e; rfl) | (obtain ⟨_, h⟩ := h))) (fun cdv A outer s H E hr => w_l_row_forms T sp_l_spots (ok_l_spots T) cdv A outer s H E hr) h_l_row_forms
theorem ok_l_is_spanned (T : Tx K mg) : FnOk P w K mg base CX0 1 T.a_l_is_spanned T.d_l_is_spanned p_l_is_spanned (spM K .cl sp_l_is_spanned) := fn_m T.f_l_is_spanned S_l_is_spanned (by intro ps Q h; repeat (first | (have e := h.1; subst e; rfl) | (obtain ⟨_, h⟩ := h))) (fun cdv A outer s H E hr => w_l_is_spanned T   cdv A outer s H E hr) h_l_is_spanned
theorem ok_l_lots (T : Tx K mg) : FnOk P w K mg base CX0 1 T.a_l_lots T.d_l_lots p_l_lots (spM K .cl sp_l_lots) := fn_m T.f_l_lots S_l_lots (by intro ps Q h; repeat (first | (have e := h.1; subst e; rfl) | (obtain ⟨_, h⟩ := h))) (fun cdv A outer s H E hr => w_l_lots T   cdv A outer s H E hr) h_l_lots
theorem ok_l_is_told (T : Tx K mg) : FnOk P w K mg base CX0 3 T.a_l_is_told T.d_l_is_told p_l_is_told (spM K .cl sp_l_is_told) := fn_m T.f_l_is_told S_l_is_told (by intro ps Q h; repeat (first | (have e := h.1; subst e; rfl) | (obtain ⟨_, h⟩ := h))) (fun cdv A outer s H E hr => w_l_is_told T sp_l_spots sp_l_is_spanned sp_l_row_forms (ok_l_spots T) (ok_l_is_spanned T) (ok_l_row_forms T) cdv A outer s H E hr) h_l_is_told
theorem ok_law (T : Tx K mg) : FnOk P w K mg base CX0 5 T.a_law T.d_law p_law (spLawM K) := law_m T.f_law S_law rfl (fun cdv A outer s H E hr => w_law T ok_heap sp_some sp_l_lots sp_some_silence sp_pick sp_drw (spk 3) sp_l_is_told sp_is_told_without sp_silence_needed (ok_l_heap T) (ok_l_some T) (ok_l_lots T) (ok_some_silence T) (ok_l_pick T) (ok_l_draw T) (ok_l_like T) (ok_l_is_told T) (ok_is_told_without T) (ok_silence_needed T) cdv A outer s H E hr) h_law
end
theorem all_mk {l : PySem.W.OpenLaw} {w : World} {K : PySem.W.Frag} {h : Heap} {mg : Str → Option Value} {fa f1 f2 f3 f4 f5 f6 f7 f8 f9 f10 f11 f12 f13 f14 f15 f16 : Addr} (X : K.In h) (G : h.Ns mainGlobals mg) (hfa : mg "law" = some (.ref fa))
    {od1 an1 : Option Addr} {sl1 : Array (Option Value)} {oc1 kV1 dc1 pm1 cd1 ct1 : Value}
    {od2 an2 : Option Addr} {sl2 : Array (Option Value)} {oc2 kV2 dc2 pm2 cd2 ct2 : Value}
    {od3 an3 : Option Addr} {sl3 : Array (Option Value)} {oc3 kV3 dc3 pm3 cd3 ct3 : Value}
    {od4 an4 : Option Addr} {sl4 : Array (Option Value)} {oc4 kV4 dc4 pm4 cd4 ct4 : Value}
    {od5 an5 : Option Addr} {sl5 : Array (Option Value)} {oc5 kV5 dc5 pm5 cd5 ct5 : Value}
    {od6 an6 : Option Addr} {sl6 : Array (Option Value)} {oc6 kV6 dc6 pm6 cd6 ct6 : Value}
    {od7 an7 : Option Addr} {sl7 : Array (Option Value)} {oc7 kV7 dc7 pm7 cd7 ct7 : Value}
    {od8 an8 : Option Addr} {sl8 : Array (Option Value)} {oc8 kV8 dc8 pm8 cd8 ct8 : Value}
    {od9 an9 : Option Addr} {sl9 : Array (Option Value)} {oc9 kV9 dc9 pm9 cd9 ct9 : Value}
    {od10 an10 : Option Addr} {sl10 : Array (Option Value)} {oc10 kV10 dc10 pm10 cd10 ct10 : Value}
    {od11 an11 : Option Addr} {sl11 : Array (Option Value)} {oc11 kV11 dc11 pm11 cd11 ct11 : Value}
    {od12 an12 : Option Addr} {sl12 : Array (Option Value)} {oc12 kV12 dc12 pm12 cd12 ct12 : Value}
    {od13 an13 : Option Addr} {sl13 : Array (Option Value)} {oc13 kV13 dc13 pm13 cd13 ct13 : Value}
    {od14 an14 : Option Addr} {sl14 : Array (Option Value)} {oc14 kV14 dc14 pm14 cd14 ct14 : Value}
    {od15 an15 : Option Addr} {sl15 : Array (Option Value)} {oc15 kV15 dc15 pm15 cd15 ct15 : Value}
    {od16 an16 : Option Addr} {sl16 : Array (Option Value)} {oc16 kV16 dc16 pm16 cd16 ct16 : Value}
    (a1 : PySem.W.nsIn K mainGlobals "holders" = some (some (.ref f1))) (l1 : K.lookup f1 = some ⟨oc1, od1, .func (PySem.W.fnOf "holders" "holders" (defArgs s_holders) (defBody s_holders) (defScope s_holders) .none kV1 dc1 pm1 an1 cd1 ct1), sl1⟩) (c1 : PySem.W.codeIn K cd1 "holders" = true) (k1 : PySem.W.keepIn K (.ref f1) = true)
    (a2 : PySem.W.nsIn K mainGlobals "left_of" = some (some (.ref f2))) (l2 : K.lookup f2 = some ⟨oc2, od2, .func (PySem.W.fnOf "left_of" "left_of" (defArgs s_left_of) (defBody s_left_of) (defScope s_left_of) .none kV2 dc2 pm2 an2 cd2 ct2), sl2⟩) (c2 : PySem.W.codeIn K cd2 "left_of" = true) (k2 : PySem.W.keepIn K (.ref f2) = true)
    (a3 : PySem.W.nsIn K mainGlobals "is_told_without" = some (some (.ref f3))) (l3 : K.lookup f3 = some ⟨oc3, od3, .func (PySem.W.fnOf "is_told_without" "is_told_without" (defArgs s_is_told_without) (defBody s_is_told_without) (defScope s_is_told_without) .none kV3 dc3 pm3 an3 cd3 ct3), sl3⟩) (c3 : PySem.W.codeIn K cd3 "is_told_without" = true) (k3 : PySem.W.keepIn K (.ref f3) = true)
    (a4 : PySem.W.nsIn K mainGlobals "silence_needed" = some (some (.ref f4))) (l4 : K.lookup f4 = some ⟨oc4, od4, .func (PySem.W.fnOf "silence_needed" "silence_needed" (defArgs s_silence_needed) (defBody s_silence_needed) (defScope s_silence_needed) .none kV4 dc4 pm4 an4 cd4 ct4), sl4⟩) (c4 : PySem.W.codeIn K cd4 "silence_needed" = true) (k4 : PySem.W.keepIn K (.ref f4) = true)
    (a5 : PySem.W.nsIn K mainGlobals "some_silence" = some (some (.ref f5))) (l5 : K.lookup f5 = some ⟨oc5, od5, .func (PySem.W.fnOf "some_silence" "some_silence" (defArgs s_some_silence) (defBody s_some_silence) (defScope s_some_silence) .none kV5 dc5 pm5 an5 cd5 ct5), sl5⟩) (c5 : PySem.W.codeIn K cd5 "some_silence" = true) (k5 : PySem.W.keepIn K (.ref f5) = true)
    (a6 : PySem.W.nsIn K mainGlobals "_law_heap" = some (some (.ref f6))) (l6 : K.lookup f6 = some ⟨oc6, od6, .func (PySem.W.fnOf "_law_heap" "_law_heap" (defArgs s_l_heap) (defBody s_l_heap) (defScope s_l_heap) .none kV6 dc6 pm6 an6 cd6 ct6), sl6⟩) (c6 : PySem.W.codeIn K cd6 "_law_heap" = true) (k6 : PySem.W.keepIn K (.ref f6) = true)
    (a7 : PySem.W.nsIn K mainGlobals "_law_draw" = some (some (.ref f7))) (l7 : K.lookup f7 = some ⟨oc7, od7, .func (PySem.W.fnOf "_law_draw" "_law_draw" (defArgs s_l_draw) (defBody s_l_draw) (defScope s_l_draw) .none kV7 dc7 pm7 an7 cd7 ct7), sl7⟩) (c7 : PySem.W.codeIn K cd7 "_law_draw" = true) (k7 : PySem.W.keepIn K (.ref f7) = true)
    (a8 : PySem.W.nsIn K mainGlobals "_law_pick" = some (some (.ref f8))) (l8 : K.lookup f8 = some ⟨oc8, od8, .func (PySem.W.fnOf "_law_pick" "_law_pick" (defArgs s_l_pick) (defBody s_l_pick) (defScope s_l_pick) .none kV8 dc8 pm8 an8 cd8 ct8), sl8⟩) (c8 : PySem.W.codeIn K cd8 "_law_pick" = true) (k8 : PySem.W.keepIn K (.ref f8) = true)
    (a9 : PySem.W.nsIn K mainGlobals "_law_like" = some (some (.ref f9))) (l9 : K.lookup f9 = some ⟨oc9, od9, .func (PySem.W.fnOf "_law_like" "_law_like" (defArgs s_l_like) (defBody s_l_like) (defScope s_l_like) .none kV9 dc9 pm9 an9 cd9 ct9), sl9⟩) (c9 : PySem.W.codeIn K cd9 "_law_like" = true) (k9 : PySem.W.keepIn K (.ref f9) = true)
    (a10 : PySem.W.nsIn K mainGlobals "_law_some" = some (some (.ref f10))) (l10 : K.lookup f10 = some ⟨oc10, od10, .func (PySem.W.fnOf "_law_some" "_law_some" (defArgs s_l_some) (defBody s_l_some) (defScope s_l_some) .none kV10 dc10 pm10 an10 cd10 ct10), sl10⟩) (c10 : PySem.W.codeIn K cd10 "_law_some" = true) (k10 : PySem.W.keepIn K (.ref f10) = true)
    (a11 : PySem.W.nsIn K mainGlobals "_law_spots" = some (some (.ref f11))) (l11 : K.lookup f11 = some ⟨oc11, od11, .func (PySem.W.fnOf "_law_spots" "_law_spots" (defArgs s_l_spots) (defBody s_l_spots) (defScope s_l_spots) .none kV11 dc11 pm11 an11 cd11 ct11), sl11⟩) (c11 : PySem.W.codeIn K cd11 "_law_spots" = true) (k11 : PySem.W.keepIn K (.ref f11) = true)
    (a12 : PySem.W.nsIn K mainGlobals "_law_row_forms" = some (some (.ref f12))) (l12 : K.lookup f12 = some ⟨oc12, od12, .func (PySem.W.fnOf "_law_row_forms" "_law_row_forms" (defArgs s_l_row_forms) (defBody s_l_row_forms) (defScope s_l_row_forms) .none kV12 dc12 pm12 an12 cd12 ct12), sl12⟩) (c12 : PySem.W.codeIn K cd12 "_law_row_forms" = true) (k12 : PySem.W.keepIn K (.ref f12) = true)
    (a13 : PySem.W.nsIn K mainGlobals "_law_is_spanned" = some (some (.ref f13))) (l13 : K.lookup f13 = some ⟨oc13, od13, .func (PySem.W.fnOf "_law_is_spanned" "_law_is_spanned" (defArgs s_l_is_spanned) (defBody s_l_is_spanned) (defScope s_l_is_spanned) .none kV13 dc13 pm13 an13 cd13 ct13), sl13⟩) (c13 : PySem.W.codeIn K cd13 "_law_is_spanned" = true) (k13 : PySem.W.keepIn K (.ref f13) = true)
    (a14 : PySem.W.nsIn K mainGlobals "_law_lots" = some (some (.ref f14))) (l14 : K.lookup f14 = some ⟨oc14, od14, .func (PySem.W.fnOf "_law_lots" "_law_lots" (defArgs s_l_lots) (defBody s_l_lots) (defScope s_l_lots) .none kV14 dc14 pm14 an14 cd14 ct14), sl14⟩) (c14 : PySem.W.codeIn K cd14 "_law_lots" = true) (k14 : PySem.W.keepIn K (.ref f14) = true)
    (a15 : PySem.W.nsIn K mainGlobals "_law_is_told" = some (some (.ref f15))) (l15 : K.lookup f15 = some ⟨oc15, od15, .func (PySem.W.fnOf "_law_is_told" "_law_is_told" (defArgs s_l_is_told) (defBody s_l_is_told) (defScope s_l_is_told) .none kV15 dc15 pm15 an15 cd15 ct15), sl15⟩) (c15 : PySem.W.codeIn K cd15 "_law_is_told" = true) (k15 : PySem.W.keepIn K (.ref f15) = true)
    (a16 : PySem.W.nsIn K mainGlobals "law" = some (some (.ref f16))) (l16 : K.lookup f16 = some ⟨oc16, od16, .func (PySem.W.fnOf "law" "law" (defArgs s_law) (defBody s_law) (defScope s_law) .none kV16 dc16 pm16 an16 cd16 ct16), sl16⟩) (c16 : PySem.W.codeIn K cd16 "law" = true) (k16 : PySem.W.keepIn K (.ref f16) = true)
    (z0 : PySem.W.nsIn K mainGlobals "abs" = some none)
    (z1 : PySem.W.nsIn K mainGlobals "all" = some none)
    (z2 : PySem.W.nsIn K mainGlobals "bool" = some none)
    (z3 : PySem.W.nsIn K mainGlobals "int" = some none)
    (z4 : PySem.W.nsIn K mainGlobals "isinstance" = some none)
    (z5 : PySem.W.nsIn K mainGlobals "len" = some none)
    (z6 : PySem.W.nsIn K mainGlobals "max" = some none)
    (z7 : PySem.W.nsIn K mainGlobals "min" = some none)
    (z8 : PySem.W.nsIn K mainGlobals "range" = some none)
    (z9 : PySem.W.nsIn K mainGlobals "sorted" = some none)
    (z10 : PySem.W.nsIn K mainGlobals "str" = some none)
    (z11 : PySem.W.nsIn K mainGlobals "tuple" = some none)
    (z12 : PySem.W.nsIn K mainGlobals "zip" = some none) :
    ∃ fd : FuncData, (∀ (s : Shared) (v : Value), BindsTo s fd ⟨[v], []⟩ [("script", v)]) ∧ ∀ base : Heap, K.In base → base.Ns mainGlobals mg → FnOk l.prog w K mg base CX0 5 fa fd ["script"] (spLawM K) := by
  have e := hfa.symm.trans (PySem.W.mg_of X G a16)
  cases e
  have F1 : FunD K "holders" "holders" (defArgs s_holders) (defBody s_holders) (defScope s_holders) [] [] f1 _ := ⟨⟨oc1, od1, .none, kV1, dc1, pm1, an1, cd1, ct1, sl1, rfl, l1, c1, .inl ⟨rfl, rfl⟩, .inl rfl⟩, k1⟩
  have B1 := binds0 (ps := p_holders) F1 fun _ _ _ _ _ _ us hl => match us, hl with | [_, _, _, _], _ => rfl
  have F2 : FunD K "left_of" "left_of" (defArgs s_left_of) (defBody s_left_of) (defScope s_left_of) [] [] f2 _ := ⟨⟨oc2, od2, .none, kV2, dc2, pm2, an2, cd2, ct2, sl2, rfl, l2, c2, .inl ⟨rfl, rfl⟩, .inl rfl⟩, k2⟩
  have B2 := binds0 (ps := p_left_of) F2 fun _ _ _ _ _ _ us hl => match us, hl with | [_, _, _, _, _], _ => rfl
  have F3 : FunD K "is_told_without" "is_told_without" (defArgs s_is_told_without) (defBody s_is_told_without) (defScope s_is_told_without) [] [] f3 _ := ⟨⟨oc3, od3, .none, kV3, dc3, pm3, an3, cd3, ct3, sl3, rfl, l3, c3, .inl ⟨rfl, rfl⟩, .inl rfl⟩, k3⟩
  have B3 := binds0 (ps := p_is_told_without) F3 fun _ _ _ _ _ _ us hl => match us, hl with | [_, _, _, _, _, _], _ => rfl
  have F4 : FunD K "silence_needed" "silence_needed" (defArgs s_silence_needed) (defBody s_silence_needed) (defScope s_silence_needed) [] [] f4 _ := ⟨⟨oc4, od4, .none, kV4, dc4, pm4, an4, cd4, ct4, sl4, rfl, l4, c4, .inl ⟨rfl, rfl⟩, .inl rfl⟩, k4⟩
  have B4 := binds0 (ps := p_silence_needed) F4 fun _ _ _ _ _ _ us hl => match us, hl with | [_, _, _, _, _], _ => rfl
  have F5 : FunD K "some_silence" "some_silence" (defArgs s_some_silence) (defBody s_some_silence) (defScope s_some_silence) [] [] f5 _ := ⟨⟨oc5, od5, .none, kV5, dc5, pm5, an5, cd5, ct5, sl5, rfl, l5, c5, .inl ⟨rfl, rfl⟩, .inl rfl⟩, k5⟩
  have B5 := binds0 (ps := p_some_silence) F5 fun _ _ _ _ _ _ us hl => match us, hl with | [_, _, _, _, _], _ => rfl
  have F6 : FunD K "_law_heap" "_law_heap" (defArgs s_l_heap) (defBody s_l_heap) (defScope s_l_heap) [] [] f6 _ := ⟨⟨oc6, od6, .none, kV6, dc6, pm6, an6, cd6, ct6, sl6, rfl, l6, c6, .inl ⟨rfl, rfl⟩, .inl rfl⟩, k6⟩
  have B6 := binds0 (ps := p_l_heap) F6 fun _ _ _ _ _ _ us hl => match us, hl with | [_], _ => rfl
  have F7 : FunD K "_law_draw" "_law_draw" (defArgs s_l_draw) (defBody s_l_draw) (defScope s_l_draw) [] [] f7 _ := ⟨⟨oc7, od7, .none, kV7, dc7, pm7, an7, cd7, ct7, sl7, rfl, l7, c7, .inl ⟨rfl, rfl⟩, .inl rfl⟩, k7⟩
  have B7 := binds0 (ps := p_l_draw) F7 fun _ _ _ _ _ _ us hl => match us, hl with | [_, _], _ => rfl
  have F8 : FunD K "_law_pick" "_law_pick" (defArgs s_l_pick) (defBody s_l_pick) (defScope s_l_pick) [] [] f8 _ := ⟨⟨oc8, od8, .none, kV8, dc8, pm8, an8, cd8, ct8, sl8, rfl, l8, c8, .inl ⟨rfl, rfl⟩, .inl rfl⟩, k8⟩
  have B8 := binds0 (ps := p_l_pick) F8 fun _ _ _ _ _ _ us hl => match us, hl with | [_, _], _ => rfl
  have F9 : FunD K "_law_like" "_law_like" (defArgs s_l_like) (defBody s_l_like) (defScope s_l_like) [] [] f9 _ := ⟨⟨oc9, od9, .none, kV9, dc9, pm9, an9, cd9, ct9, sl9, rfl, l9, c9, .inl ⟨rfl, rfl⟩, .inl rfl⟩, k9⟩
  have B9 := binds0 (ps := p_l_like) F9 fun _ _ _ _ _ _ us hl => match us, hl with | [_, _], _ => rfl
  have F10 : FunD K "_law_some" "_law_some" (defArgs s_l_some) (defBody s_l_some) (defScope s_l_some) [] [] f10 _ := ⟨⟨oc10, od10, .none, kV10, dc10, pm10, an10, cd10, ct10, sl10, rfl, l10, c10, .inl ⟨rfl, rfl⟩, .inl rfl⟩, k10⟩
  have B10 := binds0 (ps := p_l_some) F10 fun _ _ _ _ _ _ us hl => match us, hl with | [_, _, _], _ => rfl
  have F11 : FunD K "_law_spots" "_law_spots" (defArgs s_l_spots) (defBody s_l_spots) (defScope s_l_spots) [] [] f11 _ := ⟨⟨oc11, od11, .none, kV11, dc11, pm11, an11, cd11, ct11, sl11, rfl, l11, c11, .inl ⟨rfl, rfl⟩, .inl rfl⟩, k11⟩
  have B11 := binds0 (ps := p_l_spots) F11 fun _ _ _ _ _ _ us hl => match us, hl with | [_], _ => rfl
  have F12 : FunD K "_law_row_forms" "_law_row_forms" (defArgs s_l_row_forms) (defBody s_l_row_forms) (defScope s_l_row_forms) [] [] f12 _ := ⟨⟨oc12, od12, .none, kV12, dc12, pm12, an12, cd12, ct12, sl12, rfl, l12, c12, .inl ⟨rfl, rfl⟩, .inl rfl⟩, k12⟩
  have B12 := binds0 (ps := p_l_row_forms) F12 fun _ _ _ _ _ _ us hl => match us, hl with | [_, _, _], _ => rfl
  have F13 : FunD K "_law_is_spanned" "_law_is_spanned" (defArgs s_l_is_spanned) (defBody s_l_is_spanned) (defScope s_l_is_spanned) [] [] f13 _ := ⟨⟨oc13, od13, .none, kV13, dc13, pm13, an13, cd13, ct13, sl13, rfl, l13, c13, .inl ⟨rfl, rfl⟩, .inl rfl⟩, k13⟩
  have B13 := binds0 (ps := p_l_is_spanned) F13 fun _ _ _ _ _ _ us hl => match us, hl with | [_, _, _], _ => rfl
  have F14 : FunD K "_law_lots" "_law_lots" (defArgs s_l_lots) (defBody s_l_lots) (defScope s_l_lots) [] [] f14 _ := ⟨⟨oc14, od14, .none, kV14, dc14, pm14, an14, cd14, ct14, sl14, rfl, l14, c14, .inl ⟨rfl, rfl⟩, .inl rfl⟩, k14⟩
  have B14 := binds0 (ps := p_l_lots) F14 fun _ _ _ _ _ _ us hl => match us, hl with | [_], _ => rfl
  have F15 : FunD K "_law_is_told" "_law_is_told" (defArgs s_l_is_told) (defBody s_l_is_told) (defScope s_l_is_told) [] [] f15 _ := ⟨⟨oc15, od15, .none, kV15, dc15, pm15, an15, cd15, ct15, sl15, rfl, l15, c15, .inl ⟨rfl, rfl⟩, .inl rfl⟩, k15⟩
  have B15 := binds0 (ps := p_l_is_told) F15 fun _ _ _ _ _ _ us hl => match us, hl with | [_, _, _, _], _ => rfl
  have F16 : FunD K "law" "law" (defArgs s_law) (defBody s_law) (defScope s_law) [] [] _ _ := ⟨⟨oc16, od16, .none, kV16, dc16, pm16, an16, cd16, ct16, sl16, rfl, l16, c16, .inl ⟨rfl, rfl⟩, .inl rfl⟩, k16⟩
  exact ⟨_, fun s v => .of_eq rfl, fun base _ _ => ok_law ⟨f1, _, F1, (PySem.W.mg_of X G a1), B1, f2, _, F2, (PySem.W.mg_of X G a2), B2, f3, _, F3, (PySem.W.mg_of X G a3), B3, f4, _, F4, (PySem.W.mg_of X G a4), B4, f5, _, F5, (PySem.W.mg_of X G a5), B5, f6, _, F6, (PySem.W.mg_of X G a6), B6, f7, _, F7, (PySem.W.mg_of X G a7), B7, f8, _, F8, (PySem.W.mg_of X G a8), B8, f9, _, F9, (PySem.W.mg_of X G a9), B9, f10, _, F10, (PySem.W.mg_of X G a10), B10, f11, _, F11, (PySem.W.mg_of X G a11), B11, f12, _, F12, (PySem.W.mg_of X G a12), B12, f13, _, F13, (PySem.W.mg_of X G a13), B13, f14, _, F14, (PySem.W.mg_of X G a14), B14, f15, _, F15, (PySem.W.mg_of X G a15), B15, _, _, F16, (PySem.W.mg_of X G a16), (PySem.W.mg_none_of X G z0), (PySem.W.mg_none_of X G z1), (PySem.W.mg_none_of X G z2), (PySem.W.mg_none_of X G z3), (PySem.W.mg_none_of X G z4), (PySem.W.mg_none_of X G z5), (PySem.W.mg_none_of X G z6), (PySem.W.mg_none_of X G z7), (PySem.W.mg_none_of X G z8), (PySem.W.mg_none_of X G z9), (PySem.W.mg_none_of X G z10), (PySem.W.mg_none_of X G z11), (PySem.W.mg_none_of X G z12)⟩⟩
end K25
open PySem PySem.W PyProof.Rows
set_option maxHeartbeats 0 in
theorem PySem.Challenge.cw_keysapart_k25_whole_what_silence_starves_holds : PySem.Challenge.rw_keysapart_k25_whole_what_silence_starves.Holds := by
  w_on; o_law; k_head; (case hw => w_witness2)
  k_fill
  refine L2.walk_of (l := PySem.Challenge.rw_keysapart_k25_whole_what_silence_starves) (n := 63) (k := 5) (x := "script") (CX := fun _ => L2.CX0) (sp := fun w => PM.spLawM _) rfl (by decide) rfl ⟨rfl, by decide, by decide⟩ (fun w h Y => PySem.W.kIn_of Y) ?F (fun _ _ a ns hl hO hS => ⟨a, ns, rfl, hO, hS, hl, fun _ => rfl⟩) (fun _ _ _ _ _ h => h)
  case F =>
    intro w mg fa h KX G hmg
    refine' K25.all_mk KX G hmg ?a1 ?l1 ?c1 ?k1 ?a2 ?l2 ?c2 ?k2 ?a3 ?l3 ?c3 ?k3 ?a4 ?l4 ?c4 ?k4 ?a5 ?l5 ?c5 ?k5 ?a6 ?l6 ?c6 ?k6 ?a7 ?l7 ?c7 ?k7 ?a8 ?l8 ?c8 ?k8 ?a9 ?l9 ?c9 ?k9 ?a10 ?l10 ?c10 ?k10 ?a11 ?l11 ?c11 ?k11 ?a12 ?l12 ?c12 ?k12 ?a13 ?l13 ?c13 ?k13 ?a14 ?l14 ?c14 ?k14 ?a15 ?l15 ?c15 ?k15 ?a16 ?l16 ?c16 ?k16 ?z0 ?z1 ?z2 ?z3 ?z4 ?z5 ?z6 ?z7 ?z8 ?z9 ?z10 ?z11 ?z12
    (case a1 => k_is); (case l1 => k_is); (case c1 => k_is); (case k1 => k_is); (case a2 => k_is); (case l2 => k_is); (case c2 => k_is); (case k2 => k_is); (case a3 => k_is); (case l3 => k_is); (case c3 => k_is); (case k3 => k_is); (case a4 => k_is); (case l4 => k_is); (case c4 => k_is); (case k4 => k_is); (case a5 => k_is); (case l5 => k_is); (case c5 => k_is); (case k5 => k_is); (case a6 => k_is); (case l6 => k_is); (case c6 => k_is); (case k6 => k_is); (case a7 => k_is); (case l7 => k_is); (case c7 => k_is); (case k7 => k_is); (case a8 => k_is); (case l8 => k_is); (case c8 => k_is); (case k8 => k_is); (case a9 => k_is); (case l9 => k_is); (case c9 => k_is); (case k9 => k_is); (case a10 => k_is); (case l10 => k_is); (case c10 => k_is); (case k10 => k_is); (case a11 => k_is); (case l11 => k_is); (case c11 => k_is); (case k11 => k_is); (case a12 => k_is); (case l12 => k_is); (case c12 => k_is); (case k12 => k_is); (case a13 => k_is); (case l13 => k_is); (case c13 => k_is); (case k13 => k_is); (case a14 => k_is); (case l14 => k_is); (case c14 => k_is); (case k14 => k_is); (case a15 => k_is); (case l15 => k_is); (case c15 => k_is); (case k15 => k_is); (case a16 => k_is); (case l16 => k_is); (case c16 => k_is); (case k16 => k_is); (case z0 => k_is); (case z1 => k_is); (case z2 => k_is); (case z3 => k_is); (case z4 => k_is); (case z5 => k_is); (case z6 => k_is); (case z7 => k_is); (case z8 => k_is); (case z9 => k_is); (case z10 => k_is); (case z11 => k_is); (case z12 => k_is)

