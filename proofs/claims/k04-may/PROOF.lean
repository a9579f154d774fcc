import PyProof.Rows.All
import Wide.All
import OpenK.AllK
import Wide.FinOn
import KE.KStateDown
import HandS.ForMost
import HandS.More
import HandS.Deep
import HandS.Defaults
import HandS.HeadHook1
import HandS.Style
import HandS.IsInst
import HandS.ForExc
import HandS.WordsExc
import HandS.ExcOwn
import HandS.TryOnly
import HandS.HeadHook2
import HandS.ExcIs
import Lean
import HandS.Head0
import HandS.Head1
import HandS.Head2
import HandS.HeadEnd
import HandS.Conv
import HandS.Codes
import PySem.Challenge.RW_rota_k04_who_may_work
set_option Elab.async false
set_option linter.all false
set_option maxRecDepth 100000
set_option maxHeartbeats 4000000
/-! Plain data over the heap: what an expression, a test, a statement makes of data, as total functions. -/
namespace RT
open PySem PySem.Spec PyProof.Rows L2

/-! ### data in a part of the heap -/
mutual
inductive Dq (K : PySem.W.Frag) (H : Hp) : V → PyData → Prop
  | non : Dq K H .non .none
  | bl (b : Bool) : Dq K H (.bl b) (.bool b)
  | int (i : Int) : Dq K H (.int i) (.int i)
  | str (x : Str) : Dq K H (.str x) (.str x)
  | lst {a : Addr} {xs : List V} {ds : List PyData} : H a = some (.lst xs) → DqAll K H xs ds → Dq K H (.ref a) (.list ds)
  | tup {a : Addr} {xs : List V} {ds : List PyData} : SqT K H a xs → DqAll K H xs ds → Dq K H (.ref a) (.tuple ds)
inductive DqAll (K : PySem.W.Frag) (H : Hp) : List V → List PyData → Prop
  | nil : DqAll K H [] []
  | cons {v : V} {vs : List V} {d : PyData} {ds : List PyData} : Dq K H v d → DqAll K H vs ds → DqAll K H (v :: vs) (d :: ds)
end
mutual
theorem dq_dp {K : PySem.W.Frag} {F : Hp} : ∀ (d : PyData) {v : V}, Dq K F v d → Dp K F v d
  | .none, _, h => by cases h; exact .non
  | .bool b, _, h => by cases h; exact .bl b
  | .int i, _, h => by cases h; exact .int i
  | .str x, _, h => by cases h; exact .str x
  | .list ds, _, h => by
    cases h with
    | lst hs ha => exact .lst (.inl (.inl hs)) (dqa_dpa ds ha)
  | .tuple ds, _, h => by
    cases h with
    | tup hs ha => exact .tup hs (dqa_dpa ds ha)
  | .dict _, _, h => by cases h
theorem dqa_dpa {K : PySem.W.Frag} {F : Hp} : ∀ (ds : List PyData) {vs : List V}, DqAll K F vs ds → DpAll K F vs ds
  | [], _, h => by cases h; exact .nil
  | d :: ds, _, h => by
    cases h with
    | cons h1 h2 => exact .cons (dq_dp d h1) (dqa_dpa ds h2)
end
theorem same_rd {H H' : Hp} {a : Addr} {u : HO} (e : Same H H') (h : Rd H a u) : Rd H' a u := by
  rcases h with h | ⟨o, h⟩
  · exact .inl (e _ _ h)
  · exact .inr ⟨o, e _ _ h⟩
theorem same_t {K : PySem.W.Frag} {H H' : Hp} {a : Addr} {xs : List V} (e : Same H H') (h : SqT K H a xs) : SqT K H' a xs := by
  rcases h with (h | ⟨o, h⟩) | h
  · exact .inl (.inl (e _ _ h))
  · exact .inl (.inr ⟨o, e _ _ h⟩)
  · exact .inr h
mutual
theorem dp_mono {K : PySem.W.Frag} {F G : Hp} (e : Same F G) : ∀ (d : PyData) {v : V}, Dq K F v d → Dq K G v d
  | .none, _, h => by cases h; exact .non
  | .bool b, _, h => by cases h; exact .bl b
  | .int i, _, h => by cases h; exact .int i
  | .str x, _, h => by cases h; exact .str x
  | .list ds, _, h => by
    cases h with
    | lst hs ha => exact .lst (e _ _ hs) (dpa_mono e ds ha)
  | .tuple ds, _, h => by
    cases h with
    | tup hs ha => exact .tup (same_t e hs) (dpa_mono e ds ha)
  | .dict _, _, h => by cases h
theorem dpa_mono {K : PySem.W.Frag} {F G : Hp} (e : Same F G) : ∀ (ds : List PyData) {vs : List V}, DqAll K F vs ds → DqAll K G vs ds
  | [], _, h => by cases h; exact .nil
  | d :: ds, _, h => by
    cases h with
    | cons h1 h2 => exact .cons (dp_mono e d h1) (dpa_mono e ds h2)
end
theorem DqAll.len {K : PySem.W.Frag} {F : Hp} : ∀ {vs : List V} {ds : List PyData}, DqAll K F vs ds → vs.length = ds.length
  | [], [], _ => rfl
  | [], _ :: _, h => by cases h
  | _ :: _, [], h => by cases h
  | v :: vs, d :: ds, h => by
    cases h with
    | cons h1 h2 => exact congrArg Nat.succ (DqAll.len h2)
theorem DqAll.get {K : PySem.W.Frag} {F : Hp} : ∀ {vs : List V} {ds : List PyData} {i : Nat} {d : PyData}, DqAll K F vs ds → ds[i]? = some d → ∃ v, vs[i]? = some v ∧ Dq K F v d
  | [], [], _, _, _, e => by simp at e
  | [], _ :: _, _, _, h, _ => by cases h
  | _ :: _, [], _, _, h, _ => by cases h
  | v :: vs, d :: ds, 0, _, h, e => by
    cases h with
    | cons h1 h2 =>
      simp at e; subst e
      exact ⟨v, rfl, h1⟩
  | v :: vs, d :: ds, i + 1, _, h, e => by
    cases h with
    | cons h1 h2 =>
      obtain ⟨u, e1, e2⟩ := DqAll.get (i := i) h2 (by simpa using e)
      exact ⟨u, by simpa using e1, e2⟩
theorem DqAll.getV {K : PySem.W.Frag} {F : Hp} : ∀ {vs : List V} {ds : List PyData} {i : Nat} {v : V}, DqAll K F vs ds → vs[i]? = some v → ∃ d, ds[i]? = some d ∧ Dq K F v d
  | [], _, _, _, _, e => by simp at e
  | _ :: _, [], _, _, h, _ => by cases h
  | v :: vs, d :: ds, 0, _, h, e => by
    cases h with
    | cons h1 h2 =>
      simp at e; subst e
      exact ⟨d, rfl, h1⟩
  | v :: vs, d :: ds, i + 1, _, h, e => by
    cases h with
    | cons h1 h2 =>
      obtain ⟨u, e1, e2⟩ := DqAll.getV (i := i) h2 (by simpa using e)
      exact ⟨u, by simpa using e1, e2⟩
theorem DqAll.append {K : PySem.W.Frag} {F : Hp} : ∀ {vs ws : List V} {ds es : List PyData}, DqAll K F vs ds → DqAll K F ws es → DqAll K F (vs ++ ws) (ds ++ es)
  | [], _, [], _, _, h => h
  | [], _, _ :: _, _, h, _ => by cases h
  | _ :: _, _, [], _, h, _ => by cases h
  | v :: vs, ws, d :: ds, es, h, q => by
    cases h with
    | cons h1 h2 => exact .cons h1 (DqAll.append h2 q)
theorem DqAll.set {K : PySem.W.Frag} {F : Hp} {v : V} {d : PyData} (hv : Dq K F v d) : ∀ {vs : List V} {ds : List PyData} (i : Nat), DqAll K F vs ds → DqAll K F (vs.set i v) (ds.set i d)
  | [], [], _, h => h
  | [], _ :: _, _, h => by cases h
  | _ :: _, [], _, h => by cases h
  | _ :: _, _ :: _, 0, h => by
    cases h with
    | cons h1 h2 => exact .cons hv h2
  | _ :: _, _ :: _, i + 1, h => by
    cases h with
    | cons h1 h2 => exact .cons h1 (DqAll.set hv i h2)
theorem DqAll.take {K : PySem.W.Frag} {F : Hp} : ∀ {vs : List V} {ds : List PyData} (n : Nat), DqAll K F vs ds → DqAll K F (vs.take n) (ds.take n)
  | [], [], n, h => by simpa using h
  | [], _ :: _, _, h => by cases h
  | _ :: _, [], _, h => by cases h
  | _ :: _, _ :: _, 0, h => .nil
  | _ :: _, _ :: _, n + 1, h => by
    cases h with
    | cons h1 h2 => exact .cons h1 (DqAll.take n h2)
theorem DqAll.drop {K : PySem.W.Frag} {F : Hp} : ∀ {vs : List V} {ds : List PyData} (n : Nat), DqAll K F vs ds → DqAll K F (vs.drop n) (ds.drop n)
  | [], [], n, h => by simpa using h
  | [], _ :: _, _, h => by cases h
  | _ :: _, [], _, h => by cases h
  | _ :: _, _ :: _, 0, h => h
  | _ :: _, _ :: _, n + 1, h => by
    cases h with
    | cons h1 h2 => exact DqAll.drop n h2
theorem dpa_ints {K : PySem.W.Frag} {F : Hp} : ∀ (ns : List Int), DqAll K F (ns.map V.int) (ns.map PyData.int)
  | [] => .nil
  | n :: ns => .cons (.int n) (dpa_ints ns)
theorem ints_dpa {K : PySem.W.Frag} {F : Hp} : ∀ (ns : List Int) {vs : List V}, DqAll K F vs (ns.map PyData.int) → vs = ns.map V.int
  | [], vs, h => by cases h; rfl
  | n :: ns, vs, h => by
    cases h with
    | cons h1 h2 =>
      cases h1
      rw [ints_dpa ns h2]; rfl
theorem strs_dpa {K : PySem.W.Frag} {F : Hp} : ∀ (ns : List Str) {vs : List V}, DqAll K F vs (ns.map PyData.str) → vs = ns.map V.str
  | [], vs, h => by cases h; rfl
  | n :: ns, vs, h => by
    cases h with
    | cons h1 h2 =>
      cases h1
      rw [strs_dpa ns h2]; rfl

/-! ### an opaque object -/
def refD (a : Addr) : PyData := .dict [(.int (a : Nat), .none)]
/-- the script as it was handed in -/
def scrD (ns : List Int) : PyData := .dict [(.none, .list (ns.map .int))]
def Rp (K : PySem.W.Frag) (F : Hp) (v : V) (d : PyData) : Prop := Dq K F v d ∨ (∃ a, v = .ref a ∧ d = refD a) ∨ ∃ a ns, v = .ref a ∧ d = scrD ns ∧ SqL K F a (ns.map V.int)
theorem Rp.mono {K : PySem.W.Frag} {F G : Hp} {v : V} {d : PyData} (e : Same F G) (h : Rp K F v d) : Rp K G v d := h.imp (dp_mono e d) fun h => h.imp id fun ⟨a, ns, h1, h2, h3⟩ => ⟨a, ns, h1, h2, e.seq h3⟩
/-- what is read for a moment: data, or an own list -/
def Bp (K : PySem.W.Frag) (G H : Hp) (v : V) (d : PyData) : Prop := Rp K G v d ∨ ∃ p vs ds, v = .ref p ∧ d = .list ds ∧ H p = some (.lst vs) ∧ DqAll K G vs ds

/-! ### the heap grows, a part of it stands -/
structure Grow (H F H' G : Hp) : Prop where
  h : Same H H'
  f : Same F G
  sub : Same G H'
  no : ∀ a, F a = none → H a ≠ none → G a = none
theorem Grow.refl {H F : Hp} (e : Same F H) : Grow H F H F := ⟨Same.refl H, Same.refl F, e, fun _ h _ => h⟩
theorem Grow.trans {H F H1 G1 H2 G2 : Hp} (a : Grow H F H1 G1) (b : Grow H1 G1 H2 G2) : Grow H F H2 G2 :=
  ⟨a.h.trans b.h, a.f.trans b.f, b.sub, fun x h1 h2 => b.no x (a.no x h1 h2) fun z => h2 (a.h.free z)⟩
theorem Same.upd_new {H H' : Hp} {p : Addr} {o : HO} (e : Same H H') (hp : H' p = none) : Same H (upd H' p o) := fun b u q => by
  rw [upd_ne (ne_of_none (e b u q) hp)]; exact e b u q
/-- a new object, laid beside: not in the standing part | in it -/
theorem Grow.beside {H F H' G : Hp} {p : Addr} {o : HO} (g : Grow H F H' G) (hp : H' p = none) : Grow H F (upd H' p o) G :=
  ⟨Same.upd_new g.h hp, g.f, Same.upd_new g.sub hp, g.no⟩
theorem Grow.within {H F H' G : Hp} {p : Addr} {o : HO} (g : Grow H F H' G) (hp : H p = none) (hG : G p = none) (ho : H' p = some o) : Grow H F H' (upd G p o) :=
  ⟨g.h, Same.upd_new g.f hG, fun b u q => by
    by_cases hb : b = p
    · subst hb; rw [upd_same] at q; cases q; exact ho
    · rw [upd_ne hb] at q; exact g.sub b u q, fun a h1 h2 => by
    by_cases hb : a = p
    · subst hb; exact absurd hp h2
    · rw [upd_ne hb]; exact g.no a h1 h2⟩
theorem Grow.new {H F H' G : Hp} {p : Addr} {o : HO} (g : Grow H F H' G) (hp : H' p = none) : Grow H F (upd H' p o) (upd G p o) :=
  (g.beside (o := o) hp).within (g.h.free hp) (g.sub.free hp) upd_same
theorem Bp.mono {K : PySem.W.Frag} {F G H H' : Hp} {v : V} {d : PyData} (e : Same F G) (e' : Same H H') (h : Bp K F H v d) : Bp K G H' v d :=
  h.imp (Rp.mono e) fun ⟨p, vs, ds, e1, e2, e3, e4⟩ => ⟨p, vs, ds, e1, e2, e' _ _ e3, dpa_mono e ds e4⟩
/-- what is read stands in the whole heap -/
theorem Bp.all {K : PySem.W.Frag} {G H : Hp} {v : V} {d : PyData} (e : Same G H) (h : Bp K G H v d) : Rp K H v d := by
  rcases h with h | ⟨p, vs, ds, rfl, rfl, h, q⟩
  · exact h.mono e
  · exact .inl (.lst h (dpa_mono e ds q))
theorem Rp.dp {K : PySem.W.Frag} {G : Hp} {v : V} {d : PyData} (h : Rp K G v d) (n : ∀ l, d ≠ .dict l := by intro l z; cases z) : Dq K G v d := by
  rcases h with h | ⟨a, _, rfl⟩ | ⟨a, ns, _, rfl, _⟩
  · exact h
  · exact absurd rfl (n _)
  · exact absurd rfl (n _)
theorem Bp.int {K : PySem.W.Frag} {G H : Hp} {v : V} {i : Int} (h : Bp K G H v (.int i)) : v = .int i := by
  rcases h with (h | ⟨a, _, z⟩ | ⟨a, ns, _, z, _⟩) | ⟨p, vs, ds, _, z, _⟩
  · cases h; rfl
  · cases z
  · cases z
  · cases z
theorem Bp.str {K : PySem.W.Frag} {G H : Hp} {v : V} {i : Str} (h : Bp K G H v (.str i)) : v = .str i := by
  rcases h with (h | ⟨a, _, z⟩ | ⟨a, ns, _, z, _⟩) | ⟨p, vs, ds, _, z, _⟩
  · cases h; rfl
  · cases z
  · cases z
  · cases z
theorem Bp.bool {K : PySem.W.Frag} {G H : Hp} {v : V} {i : Bool} (h : Bp K G H v (.bool i)) : v = .bl i := by
  rcases h with (h | ⟨a, _, z⟩ | ⟨a, ns, _, z, _⟩) | ⟨p, vs, ds, _, z, _⟩
  · cases h; rfl
  · cases z
  · cases z
  · cases z
theorem Bp.non {K : PySem.W.Frag} {G H : Hp} {v : V} (h : Bp K G H v .none) : v = .non := by
  rcases h with (h | ⟨a, _, z⟩ | ⟨a, ns, _, z, _⟩) | ⟨p, vs, ds, _, z, _⟩
  · cases h; rfl
  · cases z
  · cases z
  · cases z
/-- a list that is read: its items are data that stand -/
theorem Bp.list {K : PySem.W.Frag} {G H : Hp} {v : V} {ds : List PyData} (e : Same G H) (h : Bp K G H v (.list ds)) : ∃ p vs, v = .ref p ∧ H p = some (.lst vs) ∧ DqAll K G vs ds := by
  rcases h with (h | ⟨a, _, z⟩ | ⟨a, ns, _, z, _⟩) | ⟨p, vs, ds, rfl, z, h, q⟩
  · cases h with
    | lst hs ha => exact ⟨_, _, rfl, e _ _ hs, ha⟩
  · cases z
  · cases z
  · cases z; exact ⟨p, vs, rfl, h, q⟩
theorem Bp.tuple {K : PySem.W.Frag} {G H : Hp} {v : V} {ds : List PyData} (e : Same G H) (h : Bp K G H v (.tuple ds)) : ∃ p vs, v = .ref p ∧ SqT K H p vs ∧ DqAll K G vs ds := by
  rcases h with (h | ⟨a, _, z⟩ | ⟨a, ns, _, z, _⟩) | ⟨p, vs, ds, rfl, z, h, q⟩
  · cases h with
    | tup hs ha => exact ⟨_, _, rfl, same_t e hs, ha⟩
  · cases z
  · cases z
  · cases z

theorem Bp.scr {K : PySem.W.Frag} {G H : Hp} {v : V} {ds : List PyData} (e : Same G H) (h : Bp K G H v (.dict [(.none, .list ds)])) : ∃ p vs, v = .ref p ∧ SqL K H p vs ∧ DqAll K G vs ds := by
  rcases h with (h | ⟨a, _, z⟩ | ⟨a, ns, rfl, z, h⟩) | ⟨p, vs, ds, rfl, z, h, q⟩
  · cases h
  · cases z
  · cases z; exact ⟨a, _, rfl, e.seq h, dpa_ints ns⟩
  · cases z

/-! ### objects of the program -/
structure Person where
  name : Str
  skills : List Str
  limit : Int
  rests : List (Int × Int)
structure Shift where
  name : Str
  b : Int
  e : Int
  needs : List (Str × Int)
structure BookSt where
  people : List Person
  shifts : List Shift
def stD (p : Int × Int) : PyData := .tuple [.int p.1, .int p.2]
def bkFs (dS dL dR dT dN : Addr) : List (Str × V) := [("skills", .ref dS), ("limits", .ref dL), ("rests", .ref dR), ("stretches", .ref dT), ("needs", .ref dN)]
abbrev PE3 := List (Person × Addr × Addr)
abbrev SE3 := List (Shift × Addr × Addr)
def kvS (pe : PE3) : List (Key × V) := pe.map fun x => (Sum.inr x.1.name, V.ref x.2.1)
def kvL (pe : PE3) : List (Key × V) := pe.map fun x => (Sum.inr x.1.name, V.int x.1.limit)
def kvR (pe : PE3) : List (Key × V) := pe.map fun x => (Sum.inr x.1.name, V.ref x.2.2)
def kvT (sh : SE3) : List (Key × V) := sh.map fun x => (Sum.inr x.1.name, V.ref x.2.1)
def kvN (sh : SE3) : List (Key × V) := sh.map fun x => (Sum.inr x.1.name, V.ref x.2.2)
def kvC (l : List (Str × Int)) : List (Key × V) := l.map fun n => (Sum.inr n.1, V.int n.2)
/-- a book at a, its parts in the region R; the stretches are data in F -/
structure BookIn (K : PySem.W.Frag) (F R : Hp) (a : Addr) (β : BookSt) (dx dS dL dR dT dN : Addr) (pe : PE3) (sh : SE3) : Prop where
  pn : pe.map (·.1) = β.people
  sn : sh.map (·.1) = β.shifts
  ob : R a = some (.ins (He.ga K "Book") dx (bkFs dS dL dR dT dN))
  ow : R dx = some (.own a)
  cS : R dS = some (.dK (kvS pe))
  cL : R dL = some (.dK (kvL pe))
  cR : R dR = some (.dK (kvR pe))
  cT : R dT = some (.dK (kvT sh))
  cN : R dN = some (.dK (kvN sh))
  nd : [dS, dL, dR, dT, dN].Nodup
  ps : ∀ x ∈ pe, R x.2.1 = some (.lst (x.1.skills.map V.str))
  pr : ∀ x ∈ pe, ∃ vs, R x.2.2 = some (.lst vs) ∧ DqAll K F vs (x.1.rests.map stD)
  st : ∀ x ∈ sh, Dq K F (.ref x.2.1) (stD (x.1.b, x.1.e))
  sc : ∀ x ∈ sh, R x.2.2 = some (.dK (kvC x.1.needs))
  rn : (pe.map (·.2.2)).Nodup
  rs : ∀ x ∈ pe, ∀ y ∈ pe, x.2.1 ≠ y.2.2
  nn : ∀ x ∈ sh, x.2.2 ∉ [dS, dL, dR, dT, dN]
  un : (β.people.map (·.name)).Nodup
  us : (β.shifts.map (·.name)).Nodup
  sz : β.people.length ≤ 1000 ∧ β.shifts.length ≤ 1000 ∧ (∀ p ∈ β.people, p.rests.length ≤ 1000 ∧ p.skills.length ≤ 1000) ∧ ∀ s ∈ β.shifts, s.needs.length ≤ 1000
def BookAt (K : PySem.W.Frag) (F R : Hp) (a : Addr) (β : BookSt) : Prop := ∃ dx dS dL dR dT dN pe sh, BookIn K F R a β dx dS dL dR dT dN pe sh
theorem BookIn.mono {K : PySem.W.Frag} {F G R R' : Hp} {a : Addr} {β : BookSt} {dx dS dL dR dT dN : Addr} {pe : PE3} {sh : SE3} (h : BookIn K F R a β dx dS dL dR dT dN pe sh) (e : Same F G) (e' : Same R R') : BookIn K G R' a β dx dS dL dR dT dN pe sh where
  pn := h.pn
  sn := h.sn
  ob := e' _ _ h.ob
  ow := e' _ _ h.ow
  cS := e' _ _ h.cS
  cL := e' _ _ h.cL
  cR := e' _ _ h.cR
  cT := e' _ _ h.cT
  cN := e' _ _ h.cN
  nd := h.nd
  ps := fun x hx => e' _ _ (h.ps x hx)
  pr := fun x hx => let ⟨vs, h1, h2⟩ := h.pr x hx; ⟨vs, e' _ _ h1, dpa_mono e _ h2⟩
  st := fun x hx => dp_mono e _ (h.st x hx)
  sc := fun x hx => e' _ _ (h.sc x hx)
  rn := h.rn
  rs := h.rs
  nn := h.nn
  un := h.un
  us := h.us
  sz := h.sz
theorem BookAt.mono {K : PySem.W.Frag} {F G R R' : Hp} {a : Addr} {β : BookSt} (h : BookAt K F R a β) (e : Same F G) (e' : Same R R') : BookAt K G R' a β := by
  obtain ⟨dx, dS, dL, dR, dT, dN, pe, sh, h⟩ := h
  exact ⟨dx, dS, dL, dR, dT, dN, pe, sh, h.mono e e'⟩
inductive ObjSt where
  | book (β : BookSt)
def ObjAt (K : PySem.W.Frag) (F R : Hp) (a : Addr) : ObjSt → Prop
  | .book β => BookAt K F R a β
theorem ObjAt.mono {K : PySem.W.Frag} {F G R R' : Hp} {a : Addr} {o : ObjSt} (h : ObjAt K F R a o) (e : Same F G) (e' : Same R R') : ObjAt K G R' a o := by
  cases o with
  | book β => exact BookAt.mono h e e'
/-- two parts that have no address in common -/
def Apart (R F : Hp) : Prop := ∀ a, R a ≠ none → F a = none
theorem Apart.sym {R F : Hp} (h : Apart R F) : Apart F R := fun a ha => by
  cases e : R a with
  | none => rfl
  | some o => exact absurd (h a (by rw [e]; intro z; cases z)) ha
/-! ### environments -/
/-- what stands while a function runs: an object's region that is read, the data that it names, what the object is -/
structure Bs where
  h : Hp
  f : Hp
  bk : Addr → Option BookSt
  o : Option Addr := none
inductive Sl where
  | no | val (d : PyData) | own (ds : List PyData) | obj (o : ObjSt)
abbrev Rho := List Sl
abbrev SE := Rho → Option PyData
abbrev STe := Rho → Option Bool
abbrev SA := Rho → Option (List PyData)
inductive Out where
  | no | nx (r : Rho) | rt (d : PyData) (r : Rho) | ex (c : Str) (r : Rho) | ro (i : Nat) (r : Rho)
abbrev SS := Rho → Out
structure EnvOk (K : PySem.W.Frag) (B : Bs) (R F H : Hp) (σ : L2.St) (ρ : Rho) : Prop where
  bs : Same B.f F
  bh : Same B.h H
  bF : Apart B.h F
  bo : ∀ a β, B.bk a = some β → BookAt K B.f B.h a β
  ex : Same F H
  rh : Same R H
  rF : Apart R F
  rB : Apart R B.h
  len : ρ.length = σ.length
  val : ∀ (i : Nat) (d : PyData), ρ[i]? = some (.val d) → ∃ v, σ[i]? = some (some v) ∧ Rp K F v d
  own : ∀ (i : Nat) (ds : List PyData), ρ[i]? = some (.own ds) → ∃ p vs, σ[i]? = some (some (.ref p)) ∧ H p = some (.lst vs) ∧ DqAll K F vs ds ∧ F p = none ∧ R p = none ∧ B.h p = none
  dis : ∀ (i j : Nat) (ds es : List PyData) (p : Addr), i ≠ j → ρ[i]? = some (.own ds) → ρ[j]? = some (.own es) → σ[i]? = some (some (.ref p)) → σ[j]? = some (some (.ref p)) → False
  obj : ∀ (i : Nat) (o : ObjSt), ρ[i]? = some (.obj o) → ∃ a, σ[i]? = some (some (.ref a)) ∧ ObjAt K F R a o
  oa : ∀ a0, B.o = some a0 → ∀ (i : Nat) (o : ObjSt) (a : Addr), ρ[i]? = some (.obj o) → σ[i]? = some (some (.ref a)) → a = a0
theorem Grow.apart {H F H' G R : Hp} (g : Grow H F H' G) (e : Same R H) (h : Apart R F) : Apart R G := fun a ha => g.no a (h a ha) fun z => ha (e.free z)
theorem EnvOk.grow {K : PySem.W.Frag} {B : Bs} {R F H G H' : Hp} {σ : L2.St} {ρ : Rho} (e : EnvOk K B R F H σ ρ) (g : Grow H F H' G) : EnvOk K B R G H' σ ρ where
  bs := e.bs.trans g.f
  bh := e.bh.trans g.h
  bF := g.apart e.bh e.bF
  bo := e.bo
  ex := g.sub
  rh := e.rh.trans g.h
  rF := g.apart e.rh e.rF
  rB := e.rB
  len := e.len
  val := fun i d h => let ⟨v, h1, h2⟩ := e.val i d h; ⟨v, h1, h2.mono g.f⟩
  own := fun i ds h => let ⟨p, vs, h1, h2, h3, h4, h5⟩ := e.own i ds h; ⟨p, vs, h1, g.h _ _ h2, dpa_mono g.f ds h3, g.no p h4 (by rw [h2]; intro z; cases z), h5⟩
  dis := e.dis
  obj := fun i o h => let ⟨a, h1, h2⟩ := e.obj i o h; ⟨a, h1, h2.mono g.f (Same.refl R)⟩
  oa := e.oa

/-! ### what an expression's reading does -/
def EOk (K : PySem.W.Frag) (B : Bs) (t : TE) (f : SE) : Prop := ∀ (R F H : Hp) (σ : L2.St) (ρ : Rho) (d : PyData), EnvOk K B R F H σ ρ → f ρ = some d → ∀ Q : VK, (∀ v H' G, Grow H F H' G → Rp K G v d → Q v H') → t σ H Q
def BOk (K : PySem.W.Frag) (B : Bs) (t : TE) (f : SE) : Prop := ∀ (R F H : Hp) (σ : L2.St) (ρ : Rho) (d : PyData), EnvOk K B R F H σ ρ → f ρ = some d → ∀ Q : VK, (∀ v H' G, Grow H F H' G → Bp K G H' v d → Q v H') → t σ H Q
/-- a new list -/
def LOk (K : PySem.W.Frag) (B : Bs) (t : TE) (f : SA) : Prop := ∀ (R F H : Hp) (σ : L2.St) (ρ : Rho) (ds : List PyData), EnvOk K B R F H σ ρ → f ρ = some ds → ∀ Q : VK,
  (∀ p vs H' G, Grow H F H' G → H p = none → G p = none → H' p = some (.lst vs) → DqAll K G vs ds → Q (.ref p) H') → t σ H Q
def TOk (K : PySem.W.Frag) (B : Bs) (t : TT) (f : STe) : Prop := ∀ (R F H : Hp) (σ : L2.St) (ρ : Rho) (b : Bool), EnvOk K B R F H σ ρ → f ρ = some b → ∀ Q : Bool → Hp → Prop, (∀ H' G, Grow H F H' G → Q b H') → t σ H Q
/-- arguments that stand | that are read for a moment -/
inductive RpAll (K : PySem.W.Frag) (F : Hp) : List V → List PyData → Prop
  | nil : RpAll K F [] []
  | cons {v : V} {vs : List V} {d : PyData} {ds : List PyData} : Rp K F v d → RpAll K F vs ds → RpAll K F (v :: vs) (d :: ds)
inductive BpAll (K : PySem.W.Frag) (G H : Hp) : List V → List PyData → Prop
  | nil : BpAll K G H [] []
  | cons {v : V} {vs : List V} {d : PyData} {ds : List PyData} : Bp K G H v d → BpAll K G H vs ds → BpAll K G H (v :: vs) (d :: ds)
def AOk (K : PySem.W.Frag) (B : Bs) (t : TA) (f : SA) : Prop := ∀ (R F H : Hp) (σ : L2.St) (ρ : Rho) (ds : List PyData), EnvOk K B R F H σ ρ → f ρ = some ds → ∀ Q : List V → Hp → Prop, (∀ vs H' G, Grow H F H' G → RpAll K G vs ds → Q vs H') → t σ H Q
def ABOk (K : PySem.W.Frag) (B : Bs) (t : TA) (f : SA) : Prop := ∀ (R F H : Hp) (σ : L2.St) (ρ : Rho) (ds : List PyData), EnvOk K B R F H σ ρ → f ρ = some ds → ∀ Q : List V → Hp → Prop, (∀ vs H' G, Grow H F H' G → BpAll K G H' vs ds → Q vs H') → t σ H Q

structure SemE (X : Cx) (K : PySem.W.Frag) (B : Bs) (e : Expr) (t : TE) (f : SE) : Prop where
  pe : PE X e t
  ok : EOk K B t f
structure SemB (X : Cx) (K : PySem.W.Frag) (B : Bs) (e : Expr) (t : TE) (f : SE) : Prop where
  pe : PE X e t
  ok : BOk K B t f
structure SemL (X : Cx) (K : PySem.W.Frag) (B : Bs) (e : Expr) (t : TE) (f : SA) : Prop where
  pe : PE X e t
  ok : LOk K B t f
structure SemT (X : Cx) (K : PySem.W.Frag) (B : Bs) (e : Expr) (t : TT) (f : STe) : Prop where
  pt : PT X e t
  ok : TOk K B t f
structure SemW (X : Cx) (K : PySem.W.Frag) (B : Bs) (e : Expr) (t : TT) (f : STe) : Prop where
  pw : PW X e t
  ok : TOk K B t f
structure SemA (X : Cx) (K : PySem.W.Frag) (B : Bs) (es : List Expr) (t : TA) (f : SA) : Prop where
  pa : PA X es t
  ok : AOk K B t f
structure SemAB (X : Cx) (K : PySem.W.Frag) (B : Bs) (es : List Expr) (t : TA) (f : SA) : Prop where
  pa : PA X es t
  ok : ABOk K B t f

/-! ### the functions that the terms make -/
def eVar (i : Nat) : SE := fun ρ => match ρ[i]? with
  | some (.val d) => some d
  | _ => none
def eVarB (i : Nat) : SE := fun ρ => match ρ[i]? with
  | some (.val d) => some d
  | some (.own ds) => some (.list ds)
  | _ => none
def eC (d : PyData) : SE := fun _ => some d
def eOp (g : PyData → PyData → Option PyData) (f1 f2 : SE) : SE := fun ρ => (f1 ρ).bind fun x => (f2 ρ).bind fun y => g x y
def eUn (g : PyData → Option PyData) (f1 : SE) : SE := fun ρ => (f1 ρ).bind g
def eNil : SA := fun _ => some []
def eCons (f : SE) (g : SA) : SA := fun ρ => (f ρ).bind fun d => (g ρ).bind fun ds => some (d :: ds)
def eTup (g : SA) : SE := fun ρ => (g ρ).map .tuple
def eList (g : SA) : SE := fun ρ => (g ρ).map .list
def eCall (F : List PyData → Option PyData) (g : SA) : SE := fun ρ => (g ρ).bind F
/-- a value without parts -/
def scalD : PyData → Bool
  | .none => true
  | .bool _ => true
  | .int _ => true
  | .str _ => true
  | _ => false
def onlyS (o : Option PyData) : Option PyData := o.bind fun d => if scalD d then some d else none
theorem rp_scal {K : PySem.W.Frag} {G G' : Hp} {v : V} {d : PyData} (h : Rp K G v d) (s : scalD d = true) : Rp K G' v d := by
  rcases h with h | ⟨a, rfl, rfl⟩ | ⟨a, ns, _, rfl, _⟩
  · cases h with
    | non => exact .inl .non
    | bl b => exact .inl (.bl b)
    | int i => exact .inl (.int i)
    | str x => exact .inl (.str x)
    | lst _ _ => cases s
    | tup _ _ => cases s
  · cases s
  · cases s

section
variable {X : Cx} {K : PySem.W.Frag} {B : Bs} {e e1 e2 : Expr} {es : List Expr} {t t1 t2 : TE} {ta : TA} {f f1 f2 : SE} {g : SA} {pos : Pos}
theorem EOk.b (h : EOk K B t f) : BOk K B t f := fun R F H σ ρ d E q Q k => h R F H σ ρ d E q Q fun v H' G g r => k v H' G g (.inl r)
theorem SemE.b (h : SemE X K B e t f) : SemB X K B e t f := ⟨h.pe, h.ok.b⟩
theorem LOk.toE {f : SA} (h : LOk K B t f) : EOk K B t (eList f) := fun R F H σ ρ d E q Q k => by
  cases hf : f ρ with
  | none => simp [eList, hf] at q
  | some ds =>
    simp [eList, hf] at q
    subst q
    refine h R F H σ ρ ds E hf Q fun p vs H' G g h1 h2 h3 h4 => k _ H' _ (g.within h1 h2 h3) (.inl (.lst upd_same (dpa_mono (Same.upd_new (Same.refl G) h2) ds h4)))
theorem SemL.toE {f : SA} (h : SemL X K B e t f) : SemE X K B e t (eList f) := ⟨h.pe, h.ok.toE⟩
theorem var_ok (i : Nat) : EOk K B (tVar i) (eVar i) := fun R F H σ ρ d E q Q k => by
  unfold eVar at q
  split at q
  · rename_i d' h
    cases q
    obtain ⟨v, h1, h2⟩ := E.val i _ h
    exact ⟨v, h1, k v H F (Grow.refl E.ex) h2⟩
  · cases q
theorem varB_ok (i : Nat) : BOk K B (tVar i) (eVarB i) := fun R F H σ ρ d E q Q k => by
  unfold eVarB at q
  split at q
  · rename_i d' h
    cases q
    obtain ⟨v, h1, h2⟩ := E.val i _ h
    exact ⟨v, h1, k v H F (Grow.refl E.ex) (.inl h2)⟩
  · rename_i ds h
    cases q
    obtain ⟨p, vs, h1, h2, h3, h4, _⟩ := E.own i _ h
    exact ⟨.ref p, h1, k _ H F (Grow.refl E.ex) (.inr ⟨p, vs, ds, rfl, rfl, h2, h3⟩)⟩
  · cases q
theorem c_ok {v : V} {d : PyData} (h : ∀ F, Rp K F v d) : EOk K B (tC v) (eC d) := fun R F H σ ρ d' E q Q k => by
  cases q
  exact k v H F (Grow.refl E.ex) (h F)
theorem nil_ok : AOk K B tNil eNil := fun R F H σ ρ d E q Q k => by
  cases q
  exact k [] H F (Grow.refl E.ex) .nil
theorem nilB_ok : ABOk K B tNil eNil := fun R F H σ ρ d E q Q k => by
  cases q
  exact k [] H F (Grow.refl E.ex) .nil
theorem cons_ok (h1 : EOk K B t f) (h2 : AOk K B ta g) : AOk K B (tCons t ta) (eCons f g) := fun R F H σ ρ ds E q Q k => by
  cases hf : f ρ with
  | none => simp [eCons, hf] at q
  | some d =>
    cases hg : g ρ with
    | none => simp [eCons, hf, hg] at q
    | some es =>
      simp [eCons, hf, hg] at q
      subst q
      exact h1 R F H σ ρ d E hf _ fun v H1 G1 g1 r1 => h2 R G1 H1 σ ρ es (E.grow g1) hg _ fun vs H2 G2 g2 r2 => k _ H2 G2 (g1.trans g2) (.cons (r1.mono g2.f) r2)
theorem consB_ok (h1 : BOk K B t f) (h2 : ABOk K B ta g) : ABOk K B (tCons t ta) (eCons f g) := fun R F H σ ρ ds E q Q k => by
  cases hf : f ρ with
  | none => simp [eCons, hf] at q
  | some d =>
    cases hg : g ρ with
    | none => simp [eCons, hf, hg] at q
    | some es =>
      simp [eCons, hf, hg] at q
      subst q
      exact h1 R F H σ ρ d E hf _ fun v H1 G1 g1 r1 => h2 R G1 H1 σ ρ es (E.grow g1) hg _ fun vs H2 G2 g2 r2 => k _ H2 G2 (g1.trans g2) (.cons (r1.mono g2.f g2.h) r2)
/-- no opaque object among them -/
def dataD : PyData → Bool
  | .dict _ => false
  | _ => true
theorem RpAll.dp {K : PySem.W.Frag} {F : Hp} : ∀ {vs : List V} {ds : List PyData}, RpAll K F vs ds → ds.all dataD = true → DqAll K F vs ds
  | [], [], _, _ => .nil
  | [], _ :: _, h, _ => by cases h
  | _ :: _, [], h, _ => by cases h
  | v :: vs, d :: ds, h, a => by
    cases h with
    | cons h1 h2 =>
      rw [List.all_cons, Bool.and_eq_true] at a
      exact .cons (h1.dp (by rintro l rfl; cases a.1)) (RpAll.dp h2 a.2)
def eTupD (g : SA) : SE := fun ρ => (g ρ).bind fun ds => if ds.all dataD = true ∧ ds.length ≤ 1000 then some (.tuple ds) else none
def eLstD (g : SA) : SA := fun ρ => (g ρ).bind fun ds => if ds.all dataD = true ∧ ds.length ≤ 1000 then some ds else none
theorem RpAll.len {K : PySem.W.Frag} {F : Hp} : ∀ {vs : List V} {ds : List PyData}, RpAll K F vs ds → vs.length = ds.length
  | [], [], _ => rfl
  | [], _ :: _, h => by cases h
  | _ :: _, [], h => by cases h
  | v :: vs, d :: ds, h => by
    cases h with
    | cons h1 h2 => exact congrArg Nat.succ (RpAll.len h2)
theorem le_line {n : Nat} (h : n ≤ 1000) : n ≤ sizeLine := Nat.le_trans h (by decide)
theorem tup_ok (h : AOk K B ta g) : EOk K B (tTup ta) (eTupD g) := fun R F H σ ρ d E q Q k => by
  cases hg : g ρ with
  | none => simp [eTupD, hg] at q
  | some ds =>
    simp only [eTupD, hg, Option.bind_some] at q
    split at q
    · rename_i c
      cases q
      refine h R F H σ ρ ds E hg _ fun vs H1 G1 g1 r1 => ⟨le_line (by rw [r1.len]; exact c.2), fun p hp => k _ _ _ (g1.new (o := .tup vs) hp) (.inl (.tup (.inl (.inl upd_same)) ?_))⟩
      exact dpa_mono (Same.upd_new (Same.refl G1) (g1.sub.free hp)) ds (r1.dp c.1)
    · cases q
theorem lst_ok (h : AOk K B ta g) : LOk K B (tLst ta) (eLstD g) := fun R F H σ ρ d E q Q k => by
  cases hg : g ρ with
  | none => simp [eLstD, hg] at q
  | some ds =>
    simp only [eLstD, hg, Option.bind_some] at q
    split at q
    · rename_i c
      cases q
      refine h R F H σ ρ _ E hg _ fun vs H1 G1 g1 r1 => ⟨le_line (by rw [r1.len]; exact c.2), fun p hp => k p vs _ G1 (g1.beside (o := .lst vs) hp) (g1.h.free hp) (g1.sub.free hp) upd_same (r1.dp c.1)⟩
    · cases q
theorem SemE.cons (h1 : SemE X K B e t f) (h2 : SemA X K B es ta g) (hs : starEach (e :: es) X.env = (false, eval e X.env) :: starEach es X.env := by rfl) : SemA X K B (e :: es) (tCons t ta) (eCons f g) := ⟨pa_cons h1.pe h2.pa hs, cons_ok h1.ok h2.ok⟩
theorem SemB.cons (h1 : SemB X K B e t f) (h2 : SemAB X K B es ta g) (hs : starEach (e :: es) X.env = (false, eval e X.env) :: starEach es X.env := by rfl) : SemAB X K B (e :: es) (tCons t ta) (eCons f g) := ⟨pa_cons h1.pe h2.pa hs, consB_ok h1.ok h2.ok⟩
theorem sa_nil : SemA X K B [] tNil eNil := ⟨pa_nil, nil_ok⟩
theorem sab_nil : SemAB X K B [] tNil eNil := ⟨pa_nil, nilB_ok⟩
end
end RT
namespace RT
open PySem PySem.Spec PyProof.Rows L2
/-! ### operators on data -/
def OpS (K : PySem.W.Frag) (r : R2) (g : PyData → PyData → Option PyData) : Prop := ∀ (G H : Hp) (x y : V) (d1 d2 d : PyData), Same G H → Bp K G H x d1 → Bp K G H y d2 → g d1 d2 = some d → ∀ Q : VK, (∀ v H' G', Grow H G H' G' → Rp K G' v d → Q v H') → r x y H Q
def CallS (K : PySem.W.Frag) (r : List V → Hp → VK → Prop) (g : List PyData → Option PyData) : Prop := ∀ (G H : Hp) (xs : List V) (ds : List PyData) (d : PyData), Same G H → BpAll K G H xs ds → g ds = some d → ∀ Q : VK, (∀ v H' G', Grow H G H' G' → Rp K G' v d → Q v H') → r xs H Q
/-- a new list handed back -/
def CallL (K : PySem.W.Frag) (r : List V → Hp → VK → Prop) (g : List PyData → Option (List PyData)) : Prop := ∀ (G H : Hp) (xs : List V) (ds : List PyData) (es : List PyData), Same G H → BpAll K G H xs ds → g ds = some es → ∀ Q : VK,
  (∀ p vs H' G', Grow H G H' G' → H p = none → G' p = none → H' p = some (.lst vs) → DqAll K G' vs es → Q (.ref p) H') → r xs H Q
def alt (g g' : PyData → PyData → Option PyData) : PyData → PyData → Option PyData := fun a b => match g a b with
  | some d => some d
  | none => g' a b
theorem OpS.or {K : PySem.W.Frag} {r r' : R2} {g g' : PyData → PyData → Option PyData} (h : OpS K r g) (h' : OpS K r' g') : OpS K (fun x y H Q => r x y H Q ∨ r' x y H Q) (alt g g') := fun G H x y d1 d2 d e b1 b2 q Q k => by
  unfold alt at q
  split at q
  · rename_i d' hd
    cases q
    exact .inl (h G H x y d1 d2 _ e b1 b2 hd Q k)
  · exact .inr (h' G H x y d1 d2 d e b1 b2 q Q k)
section
variable {K : PySem.W.Frag} {B : Bs} {t t1 t2 : TE} {f f1 f2 : SE} {ta : TA} {sa : SA}
theorem op_ok {r : R2} {g : PyData → PyData → Option PyData} (ho : OpS K r g) (h1 : BOk K B t1 f1) (h2 : BOk K B t2 f2) : EOk K B (tOp r t1 t2) (eOp g f1 f2) := fun R F H σ ρ d E q Q k => by
  cases e1 : f1 ρ with
  | none => simp [eOp, e1] at q
  | some x =>
    cases e2 : f2 ρ with
    | none => simp [eOp, e1, e2] at q
    | some y =>
      have q' : g x y = some d := by simpa [eOp, e1, e2] using q
      exact h1 R F H σ ρ x E e1 _ fun v H1 G1 g1 b1 => h2 R G1 H1 σ ρ y (E.grow g1) e2 _ fun u H2 G2 g2 b2 => ho G2 H2 v u x y d g2.sub (b1.mono g2.f g2.h) b2 q' Q fun z H3 G3 g3 r3 => k z H3 G3 ((g1.trans g2).trans g3) r3
theorem un_ok {r : V → Hp → VK → Prop} {g : PyData → Option PyData} (ho : ∀ (G H : Hp) (x : V) (d1 d : PyData), Same G H → Bp K G H x d1 → g d1 = some d → ∀ Q : VK, (∀ v H' G', Grow H G H' G' → Rp K G' v d → Q v H') → r x H Q) (h1 : BOk K B t1 f1) :
    EOk K B (tUn r t1) (eUn g f1) := fun R F H σ ρ d E q Q k => by
  cases e1 : f1 ρ with
  | none => simp [eUn, e1] at q
  | some x =>
    have q' : g x = some d := by simpa [eUn, e1] using q
    exact h1 R F H σ ρ x E e1 _ fun v H1 G1 g1 b1 => ho G1 H1 v x d g1.sub b1 q' Q fun z H3 G3 g3 r3 => k z H3 G3 (g1.trans g3) r3
theorem cb_ok {r : List V → Hp → VK → Prop} {g : List PyData → Option PyData} (ho : CallS K r g) (h : ABOk K B ta sa) : EOk K B (tCB r ta) (eCall g sa) := fun R F H σ ρ d E q Q k => by
  cases e1 : sa ρ with
  | none => simp [eCall, e1] at q
  | some ds =>
    have q' : g ds = some d := by simpa [eCall, e1] using q
    exact h R F H σ ρ ds E e1 _ fun vs H1 G1 g1 b1 => ho G1 H1 vs ds d g1.sub b1 q' Q fun z H3 G3 g3 r3 => k z H3 G3 (g1.trans g3) r3
def eCallL (g : List PyData → Option (List PyData)) (sa : SA) : SA := fun ρ => (sa ρ).bind g
theorem cbL_ok {r : List V → Hp → VK → Prop} {g : List PyData → Option (List PyData)} (ho : CallL K r g) (h : ABOk K B ta sa) : LOk K B (tCB r ta) (eCallL g sa) := fun R F H σ ρ d E q Q k => by
  cases e1 : sa ρ with
  | none => simp [eCallL, e1] at q
  | some ds =>
    have q' : g ds = some d := by simpa [eCallL, e1] using q
    exact h R F H σ ρ ds E e1 _ fun vs H1 G1 g1 b1 => ho G1 H1 vs ds d g1.sub b1 q' Q fun p us H3 G3 g3 h1 h2 h3 h4 => k p us H3 G3 (g1.trans g3) (g1.h.free h1) h2 h3 h4
end
/-! ### one by one -/
section
variable {K : PySem.W.Frag}
def gI (c : Int → Int → Bool) (g : Int → Int → PyData) : PyData → PyData → Option PyData
  | .int i, .int j => if c i j = true then some (g i j) else none
  | _, _ => none
def yesC : Int → Int → Bool := fun _ _ => true
theorem rI_s {C : Int → Int → Prop} {g : Int → Int → V} {g' : Int → Int → PyData} {c : Int → Int → Bool} (hC : ∀ i j, c i j = true → C i j) (hg : ∀ F i j, Rp K F (g i j) (g' i j)) : OpS K (rI C g) (gI c g') := fun G H x y d1 d2 d e b1 b2 q Q k => by
  cases d1 with
  | int i =>
    cases d2 with
    | int j =>
      simp only [gI] at q
      split at q
      · rename_i hc
        cases q
        cases b1.int
        cases b2.int
        exact ⟨i, j, rfl, rfl, hC i j hc, k _ H G (Grow.refl e) (hg G i j)⟩
      · cases q
    | _ => simp [gI] at q
  | _ => simp [gI] at q
theorem rI0_s {g : Int → Int → V} {g' : Int → Int → PyData} (hg : ∀ F i j, Rp K F (g i j) (g' i j)) : OpS K (rI0 g) (gI yesC g') := fun G H x y d1 d2 d e b1 b2 q Q k => by
  cases d1 with
  | int i =>
    cases d2 with
    | int j =>
      simp [gI, yesC] at q
      subst q
      cases b1.int
      cases b2.int
      exact ⟨i, j, rfl, rfl, k _ H G (Grow.refl e) (hg G i j)⟩
    | _ => simp [gI] at q
  | _ => simp [gI] at q
theorem rp_int {F : Hp} (i : Int) : Rp K F (.int i) (.int i) := .inl (.int i)
theorem rp_bool {F : Hp} (i : Bool) : Rp K F (.bl i) (.bool i) := .inl (.bl i)
theorem rp_str {F : Hp} (i : Str) : Rp K F (.str i) (.str i) := .inl (.str i)
theorem rp_non {F : Hp} : Rp K F .non .none := .inl .non

def LIM : Nat := 1000000
theorem lim_line {n : Nat} (h : n ≤ LIM) : n ≤ sizeLine := Nat.le_trans h (by decide)
/-- + -/
def gAddS : PyData → PyData → Option PyData
  | .str x, .str y => if x.length + y.length ≤ LIM then some (.str (x ++ y)) else none
  | _, _ => none
def gAddL : PyData → PyData → Option PyData
  | .list x, .list y => if x.length + y.length ≤ LIM then some (.list (x ++ y)) else none
  | _, _ => none
def rAddS2 : R2 := fun x y H Q => ∃ i j, x = .str i ∧ y = .str j ∧ i.length + j.length ≤ sizeLine ∧ Q (.str (i ++ j)) H
theorem addS_s : OpS K rAddS2 gAddS := fun G H x y d1 d2 d e b1 b2 q Q k => by
  cases d1 with
  | str i =>
    cases d2 with
    | str j =>
      simp only [gAddS] at q
      split at q
      · rename_i hc
        cases q
        cases b1.str
        cases b2.str
        exact ⟨i, j, rfl, rfl, lim_line hc, k _ H G (Grow.refl e) (rp_str _)⟩
      · cases q
    | _ => simp [gAddS] at q
  | _ => simp [gAddS] at q

theorem addL_s : OpS K rCat gAddL := fun G H x y d1 d2 d e b1 b2 q Q k => by
  cases d1 with
  | list i =>
    cases d2 with
    | list j =>
      simp only [gAddL] at q
      split at q
      · rename_i hc
        cases q
        obtain ⟨p1, vs, rfl, h1, a1⟩ := b1.list e
        obtain ⟨p2, ws, rfl, h2, a2⟩ := b2.list e
        refine ⟨p1, p2, vs, ws, rfl, rfl, h1, h2, lim_line (by rw [a1.len, a2.len]; exact hc), fun p hp => k _ _ _ ((Grow.refl e).new hp) (.inl (.lst upd_same ?_))⟩
        exact dpa_mono (Same.upd_new (Same.refl G) (e.free hp)) _ (a1.append a2)
      · cases q
    | _ => simp [gAddL] at q
  | _ => simp [gAddL] at q
def gAddI : PyData → PyData → Option PyData := gI yesC fun i j => .int (i + j)
def rAdd3 : R2 := fun x y H Q => (rI0 fun i j => .int (i + j)) x y H Q ∨ (rAddS2 x y H Q ∨ rCat x y H Q)
def gAdd : PyData → PyData → Option PyData := alt gAddI (alt gAddS gAddL)
theorem op_add3 {X : Cx} : OpR X (binaryOp .Add) rAdd3 := op_add.or (op_add_str.or op_cat)
theorem add3_s : OpS K rAdd3 gAdd := (rI0_s fun F i j => rp_int _).or (addS_s.or addL_s)
def gMinus : PyData → PyData → Option PyData := gI yesC fun i j => .int (i - j)
theorem sub_s : OpS K (rI0 fun i j => .int (i - j)) gMinus := rI0_s fun F i j => rp_int _
/-- *: ints, one of them small; a list, a text times an int -/
def cMul (i j : Int) : Bool := decide (i.natAbs ≤ 1000000000) || decide (j.natAbs ≤ 1000000000)
def gMulI : PyData → PyData → Option PyData := gI cMul fun i j => .int (i * j)
theorem mulI_s : OpS K (rI CMul fun i j => .int (i * j)) gMulI := rI_s (fun i j h => by
  unfold cMul at h
  rw [Bool.or_eq_true, decide_eq_true_eq, decide_eq_true_eq] at h
  rcases h with h | h
  · exact .inl (by omega)
  · exact .inr (by omega)) fun F i j => rp_int _
def gMulL : PyData → PyData → Option PyData
  | .list x, .int k => if k ≤ 1000000 ∧ -1000000 ≤ k ∧ x.length * k.toNat ≤ LIM then some (.list (List.replicate k.toNat x).flatten) else none
  | _, _ => none
theorem dqa_rep {F : Hp} {vs : List V} {ds : List PyData} (h : DqAll K F vs ds) : ∀ n : Nat, DqAll K F (List.replicate n vs).flatten (List.replicate n ds).flatten
  | 0 => .nil
  | n + 1 => by
    rw [List.replicate_succ, List.replicate_succ, List.flatten_cons, List.flatten_cons]
    exact h.append (dqa_rep h n)
theorem mulL_s : OpS K rRep gMulL := fun G H x y d1 d2 d e b1 b2 q Q k => by
  cases d1 with
  | list i =>
    cases d2 with
    | int j =>
      simp only [gMulL] at q
      split at q
      · rename_i hc
        obtain ⟨c1, c2, c3⟩ := hc
        cases q
        obtain ⟨p1, vs, rfl, h1, a1⟩ := b1.list e
        cases b2.int
        refine ⟨p1, j, vs, rfl, rfl, h1, by omega, by omega, lim_line (by rw [a1.len]; exact c3), fun p hp => k _ _ _ ((Grow.refl e).new hp) (.inl (.lst upd_same ?_))⟩
        exact dpa_mono (Same.upd_new (Same.refl G) (e.free hp)) _ (dqa_rep a1 _)
      · cases q
    | _ => simp [gMulL] at q
  | _ => simp [gMulL] at q
def rMulS : R2 := fun x y H Q => ∃ z n, x = .str z ∧ y = .int n ∧ MulOk z n ∧ Q (.str (Txt.mul z n)) H
theorem op_mulS {X : Cx} : OpR X (binaryOp .Mult) rMulS := by
  intro pins s σ H x y v u Q I rx ry h
  obtain ⟨z, n, rfl, rfl, hm, q⟩ := h
  obtain ⟨t, rfl⟩ := rx
  obtain ⟨t', rfl⟩ := ry
  exact PySem.SB.mul hm fun t' k => ⟨.str _, H, I.tok _, ⟨_, rfl⟩, q⟩
def gMulS : PyData → PyData → Option PyData
  | .str x, .int k => if x.length ≤ 1000 ∧ k ≤ 1000 ∧ -1000 ≤ k then some (.str (Txt.mul x k)) else none
  | _, _ => none
theorem mulS_s : OpS K rMulS gMulS := fun G H x y d1 d2 d e b1 b2 q Q k => by
  cases d1 with
  | str i =>
    cases d2 with
    | int j =>
      simp only [gMulS] at q
      split at q
      · rename_i hc
        obtain ⟨c1, c2, c3⟩ := hc
        cases q
        cases b1.str
        cases b2.int
        exact ⟨i, j, rfl, rfl, PyProof.Rows.mulOk_of 1000 1000 c1 (by omega) (by omega) (by decide) (by decide), k _ H G (Grow.refl e) (rp_str _)⟩
      · cases q
    | _ => simp [gMulS] at q
  | _ => simp [gMulS] at q
def rMul3 : R2 := fun x y H Q => (rI CMul fun i j => .int (i * j)) x y H Q ∨ (rRep x y H Q ∨ rMulS x y H Q)
def gMul : PyData → PyData → Option PyData := alt gMulI (alt gMulL gMulS)
theorem op_mul3 {X : Cx} : OpR X (binaryOp .Mult) rMul3 := op_mul.or (op_rep.or op_mulS)
theorem mul3_s : OpS K rMul3 gMul := mulI_s.or (mulL_s.or mulS_s)
def cPos (_ j : Int) : Bool := decide (0 < j) && decide (j < 1073741824)
def gFdiv : PyData → PyData → Option PyData := gI cPos fun i j => .int (i / j)
def gMod : PyData → PyData → Option PyData := gI cPos fun i j => .int (i % j)
theorem cPos_ok {i j : Int} (h : cPos i j = true) : 0 < j ∧ j < 1073741824 := by
  unfold cPos at h
  rw [Bool.and_eq_true, decide_eq_true_eq, decide_eq_true_eq] at h
  exact h
theorem fdiv_s : OpS K (rI CDiv fun i j => .int (i / j)) gFdiv := rI_s (fun i j h => cPos_ok h) fun F i j => rp_int _
theorem mod_s : OpS K (rI (fun _ j => 0 < j) fun i j => .int (i % j)) gMod := rI_s (fun i j h => (cPos_ok h).1) fun F i j => rp_int _
def gLt : PyData → PyData → Option PyData := gI yesC fun i j => .bool (decide (i < j))
def gLe : PyData → PyData → Option PyData := gI yesC fun i j => .bool (decide (i ≤ j))
def gGt : PyData → PyData → Option PyData := gI yesC fun i j => .bool (decide (j < i))
def gGe : PyData → PyData → Option PyData := gI yesC fun i j => .bool (decide (j ≤ i))
theorem lt_s : OpS K (rI0 fun i j => .bl (decide (i < j))) gLt := rI0_s fun F i j => rp_bool _
theorem le_s : OpS K (rI0 fun i j => .bl (decide (i ≤ j))) gLe := rI0_s fun F i j => rp_bool _
theorem gt_s : OpS K (rI0 fun i j => .bl (decide (j < i))) gGt := rI0_s fun F i j => rp_bool _
theorem ge_s : OpS K (rI0 fun i j => .bl (decide (j ≤ i))) gGe := rI0_s fun F i j => rp_bool _
/-- == and != of data -/
def gEqD : PyData → PyData → Option PyData := fun a b => if dataD a = true ∧ dataD b = true ∧ SeqAt.shaped a = true ∧ SeqAt.shaped b = true then some (.bool (PyData.eqv a b)) else none
def gNeD : PyData → PyData → Option PyData := fun a b => if dataD a = true ∧ dataD b = true ∧ SeqAt.shaped a = true ∧ SeqAt.shaped b = true then some (.bool (!PyData.eqv a b)) else none
theorem Bp.dp {G H : Hp} {v : V} {d : PyData} (e : Same G H) (h : Bp K G H v d) (n : dataD d = true) : Dp K H v d := dq_dp d ((h.all e).dp (by rintro l rfl; cases n))
theorem eqD0_s : OpS K (rEqD K) gEqD := fun G H x y d1 d2 d e b1 b2 q Q k => by
  unfold gEqD at q
  split at q
  · rename_i hc
    obtain ⟨c1, c2, c3, c4⟩ := hc
    cases q
    exact ⟨d1, d2, b1.dp e c1, b2.dp e c2, c3, c4, k _ H G (Grow.refl e) (rp_bool _)⟩
  · cases q
theorem neD0_s : OpS K (rNeD K) gNeD := fun G H x y d1 d2 d e b1 b2 q Q k => by
  unfold gNeD at q
  split at q
  · rename_i hc
    obtain ⟨c1, c2, c3, c4⟩ := hc
    cases q
    exact ⟨d1, d2, b1.dp e c1, b2.dp e c2, c3, c4, k _ H G (Grow.refl e) (rp_bool _)⟩
  · cases q
/-- two values without parts -/
def eqSc : PyData → PyData → Option Bool
  | .int i, .int j => some (i == j)
  | .str i, .str j => some (i == j)
  | .bool i, .bool j => some (i == j)
  | .none, .none => some true
  | .int _, .str _ => some false
  | .str _, .int _ => some false
  | .none, .int _ => some false
  | .int _, .none => some false
  | .none, .str _ => some false
  | .str _, .none => some false
  | _, _ => none
def gEqS : PyData → PyData → Option PyData := fun a b => (eqSc a b).map .bool
def gNeS : PyData → PyData → Option PyData := fun a b => (eqSc a b).map fun c => .bool (!c)
theorem eqSc_ok {G H : Hp} {x y : V} {d1 d2 : PyData} {c : Bool} (b1 : Bp K G H x d1) (b2 : Bp K G H y d2) (q : eqSc d1 d2 = some c) : scal x y = true ∧ c = decide (x = y) := by
  unfold eqSc at q
  split at q
  · cases b1.int; cases b2.int; cases q; exact ⟨rfl, dec_int.symm⟩
  · cases b1.str; cases b2.str; cases q; exact ⟨rfl, dec_str.symm⟩
  · cases b1.bool; cases b2.bool; cases q; exact ⟨rfl, dec_bl.symm⟩
  · cases b1.non; cases b2.non; cases q; exact ⟨rfl, rfl⟩
  · cases b1.int; cases b2.str; cases q; exact ⟨rfl, (decide_eq_false (by intro z; cases z)).symm⟩
  · cases b1.str; cases b2.int; cases q; exact ⟨rfl, (decide_eq_false (by intro z; cases z)).symm⟩
  · cases b1.non; cases b2.int; cases q; exact ⟨rfl, (decide_eq_false (by intro z; cases z)).symm⟩
  · cases b1.int; cases b2.non; cases q; exact ⟨rfl, (decide_eq_false (by intro z; cases z)).symm⟩
  · cases b1.non; cases b2.str; cases q; exact ⟨rfl, (decide_eq_false (by intro z; cases z)).symm⟩
  · cases b1.str; cases b2.non; cases q; exact ⟨rfl, (decide_eq_false (by intro z; cases z)).symm⟩
  · cases q
theorem eqS_s : OpS K rEq gEqS := fun G H x y d1 d2 d e b1 b2 q Q k => by
  cases hc : eqSc d1 d2 with
  | none => simp [gEqS, hc] at q
  | some c =>
    simp [gEqS, hc] at q
    subst q
    obtain ⟨h1, h2⟩ := eqSc_ok b1 b2 hc
    exact ⟨h1, k _ H G (Grow.refl e) (by rw [h2]; exact rp_bool _)⟩
theorem neS_s : OpS K rNe gNeS := fun G H x y d1 d2 d e b1 b2 q Q k => by
  cases hc : eqSc d1 d2 with
  | none => simp [gNeS, hc] at q
  | some c =>
    simp [gNeS, hc] at q
    subst q
    obtain ⟨h1, h2⟩ := eqSc_ok b1 b2 hc
    exact ⟨h1, k _ H G (Grow.refl e) (by rw [h2]; exact rp_bool _)⟩
def rEq2 (K : PySem.W.Frag) : R2 := fun x y H Q => rEq x y H Q ∨ rEqD K x y H Q
def rNe2 (K : PySem.W.Frag) : R2 := fun x y H Q => rNe x y H Q ∨ rNeD K x y H Q
def gEq : PyData → PyData → Option PyData := alt gEqS gEqD
def gNe : PyData → PyData → Option PyData := alt gNeS gNeD
theorem op_eq2 {X : Cx} (hu : X.A.units + 64 < cLine) : OpR X (compareOp .Eq) (rEq2 X.K) := op_eq.or (op_eqD hu)
theorem op_ne2 {X : Cx} (hu : X.A.units + 64 < cLine) : OpR X (compareOp .NotEq) (rNe2 X.K) := op_ne.or (op_neD hu)
theorem eq2_s : OpS K (rEq2 K) gEq := eqS_s.or eqD0_s
theorem ne2_s : OpS K (rNe2 K) gNe := neS_s.or neD0_s
/-- in a list, a tuple of values without parts -/
def eqFl : PyData → PyData → Bool
  | .none, .none => true
  | .bool a, .bool b => a == b
  | .bool a, .int b => (if a then 1 else 0) == b
  | .int a, .bool b => a == (if b then 1 else 0)
  | .int a, .int b => a == b
  | .str a, .str b => a == b
  | _, _ => false
def gInF (neg : Bool) : PyData → PyData → Option PyData
  | d, .list ds => if scalD d = true ∧ ds.all scalD = true then some (.bool (if neg then !ds.any fun z => eqFl z d else ds.any fun z => eqFl z d)) else none
  | d, .tuple ds => if scalD d = true ∧ ds.all scalD = true then some (.bool (if neg then !ds.any fun z => eqFl z d else ds.any fun z => eqFl z d)) else none
  | _, _ => none
theorem flat_of {G : Hp} {v : V} {d : PyData} (h : Dq K G v d) (hs : scalD d = true) : flatV v = true := by
  cases h with
  | non => rfl
  | bl b => rfl
  | int i => rfl
  | str x => rfl
  | lst _ _ => cases hs
  | tup _ _ => cases hs
theorem eqFl_of {G : Hp} {x y : V} {d e : PyData} (h : Dq K G x d) (h' : Dq K G y e) (hs : scalD d = true) (hs' : scalD e = true) : eqV x y = eqFl d e := by
  cases h with
  | non => cases h' with
    | lst _ _ => cases hs'
    | tup _ _ => cases hs'
    | _ => rfl
  | bl b => cases h' with
    | lst _ _ => cases hs'
    | tup _ _ => cases hs'
    | _ => rfl
  | int i => cases h' with
    | lst _ _ => cases hs'
    | tup _ _ => cases hs'
    | _ => rfl
  | str x => cases h' with
    | lst _ _ => cases hs'
    | tup _ _ => cases hs'
    | _ => rfl
  | lst _ _ => cases hs
  | tup _ _ => cases hs
theorem flats_of {G : Hp} : ∀ {vs : List V} {ds : List PyData}, DqAll K G vs ds → ds.all scalD = true → vs.all flatV = true
  | [], [], _, _ => rfl
  | [], _ :: _, h, _ => by cases h
  | _ :: _, [], h, _ => by cases h
  | v :: vs, d :: ds, h, a => by
    cases h with
    | cons h1 h2 =>
      rw [List.all_cons, Bool.and_eq_true] at a ⊢
      exact ⟨flat_of h1 a.1, flats_of h2 a.2⟩
theorem inV_of {G : Hp} {x : V} {d : PyData} (hx : Dq K G x d) (hs : scalD d = true) : ∀ {vs : List V} {ds : List PyData}, DqAll K G vs ds → ds.all scalD = true → inV x vs = ds.any fun z => eqFl z d
  | [], [], _, _ => rfl
  | [], _ :: _, h, _ => by cases h
  | _ :: _, [], h, _ => by cases h
  | v :: vs, e :: ds, h, a => by
    cases h with
    | cons h1 h2 =>
      rw [List.all_cons, Bool.and_eq_true] at a
      have ih := inV_of hx hs h2 a.2
      unfold inV at ih ⊢
      rw [List.any_cons, List.any_cons, ih, eqFl_of h1 hx a.1 hs]
theorem scal_not {G H : Hp} {v : V} {d : PyData} (b : Bp K G H v d) (hs : scalD d = true) : Dq K G v d := by
  rcases b with b | ⟨p, vs, ds, _, rfl, _⟩
  · exact b.dp (by rintro l rfl; cases hs)
  · cases hs
theorem inF_s (neg : Bool) : OpS K (rIn K neg) (gInF neg) := fun G H x y d1 d2 d e b1 b2 q Q k => by
  unfold gInF at q
  split at q
  · split at q
    · rename_i hc
      obtain ⟨c1, c2⟩ := hc
      cases q
      obtain ⟨p, vs, rfl, h1, a1⟩ := b2.list e
      have hx := scal_not b1 c1
      refine ⟨p, vs, rfl, .inl (.inl (.inl h1)), flat_of hx c1, flats_of a1 c2, ?_⟩
      rw [inV_of hx c1 a1 c2]
      exact k _ H G (Grow.refl e) (rp_bool _)
    · cases q
  · split at q
    · rename_i hc
      obtain ⟨c1, c2⟩ := hc
      cases q
      obtain ⟨p, vs, rfl, h1, a1⟩ := b2.tuple e
      have hx := scal_not b1 c1
      refine ⟨p, vs, rfl, .inr h1, flat_of hx c1, flats_of a1 c2, ?_⟩
      rw [inV_of hx c1 a1 c2]
      exact k _ H G (Grow.refl e) (rp_bool _)
    · cases q
  · cases q
/-- in, not in: a list of data; a sign in a text; a text in a text -/
def gInL (neg : Bool) : PyData → PyData → Option PyData
  | d, .list ds => if dataD d = true ∧ SeqAt.shaped d = true ∧ SeqAt.shaped (.list ds) = true then some (.bool (if neg then !ds.any fun z => PyData.eqv z d else ds.any fun z => PyData.eqv z d)) else none
  | _, _ => none
theorem inL_s : OpS K (rInD K) (gInL false) := fun G H x y d1 d2 d e b1 b2 q Q k => by
  cases d2 with
  | list ds =>
    simp only [gInL] at q
    split at q
    · rename_i hc
      obtain ⟨c1, c2, c3⟩ := hc
      cases q
      exact ⟨d1, ds, b1.dp e c1, b2.dp e rfl, c2, c3, k _ H G (Grow.refl e) (rp_bool _)⟩
    · cases q
  | _ => simp [gInL] at q
theorem notInL_s : OpS K (rNotInD K) (gInL true) := fun G H x y d1 d2 d e b1 b2 q Q k => by
  cases d2 with
  | list ds =>
    simp only [gInL] at q
    split at q
    · rename_i hc
      obtain ⟨c1, c2, c3⟩ := hc
      cases q
      exact ⟨d1, ds, b1.dp e c1, b2.dp e rfl, c2, c3, k _ H G (Grow.refl e) (rp_bool _)⟩
    · cases q
  | _ => simp [gInL] at q
def rInSg (neg : Bool) : R2 := fun x y H Q => ∃ (c : Nat) (z : Str), x = .str ⟨#[c]⟩ ∧ y = .str z ∧ Q (.bl (if neg then !decide (c ∈ z.cps.toList) else decide (c ∈ z.cps.toList))) H
def gInS (neg : Bool) : PyData → PyData → Option PyData
  | .str x, .str z => match x.cps.toList with
    | [c] => some (.bool (if neg then !decide (c ∈ z.cps.toList) else decide (c ∈ z.cps.toList)))
    | _ => none
  | _, _ => none
theorem inS_s (neg : Bool) : OpS K (rInSg neg) (gInS neg) := fun G H x y d1 d2 d e b1 b2 q Q k => by
  cases d1 with
  | str i =>
    cases d2 with
    | str j =>
      simp only [gInS] at q
      split at q
      · rename_i c hc
        cases q
        cases b1.str
        cases b2.str
        have ei : i = ⟨#[c]⟩ := Str.ext' (Array.toList_inj.mp hc)
        exact ⟨c, j, by rw [ei], rfl, k _ H G (Grow.refl e) (rp_bool _)⟩
      · cases q
    | _ => simp [gInS] at q
  | _ => simp [gInS] at q
def rIn2 (K : PySem.W.Frag) : R2 := fun x y H Q => rIn K false x y H Q ∨ (rInD K x y H Q ∨ rInSg false x y H Q)
def rNotIn2 (K : PySem.W.Frag) : R2 := fun x y H Q => rIn K true x y H Q ∨ (rNotInD K x y H Q ∨ rInSg true x y H Q)
def gIn : PyData → PyData → Option PyData := alt (gInF false) (alt (gInL false) (gInS false))
def gNotIn : PyData → PyData → Option PyData := alt (gInF true) (alt (gInL true) (gInS true))
theorem op_in2 {X : Cx} (hu : X.A.units + 65 < cLine) : OpR X (compareOp .In) (rIn2 X.K) := op_in_seq.or ((op_inD hu).or op_in_sign)
theorem op_notIn2 {X : Cx} (hu : X.A.units + 65 < cLine) : OpR X (compareOp .NotIn) (rNotIn2 X.K) := op_notIn_seq.or ((op_notInD hu).or op_notIn_sign)
theorem in2_s : OpS K (rIn2 K) gIn := (inF_s false).or (inL_s.or (inS_s false))
theorem notIn2_s : OpS K (rNotIn2 K) gNotIn := (inF_s true).or (notInL_s.or (inS_s true))
/-- is, is not: None on the right; two truths -/
def rIs2 : R2 := fun x y H Q => (y = .non ∧ Q (.bl (decide (x = .non))) H) ∨ rIsB x y H Q
def rIsNot2 : R2 := fun x y H Q => (y = .non ∧ Q (.bl (!decide (x = .non))) H) ∨ rNotB x y H Q
end
end RT
namespace RT
open PySem PySem.Spec PyProof.Rows L2
/-! ### is None, is True -/
def isRhs : V → Bool
  | .non => true
  | .bl _ => true
  | _ => false
def isLhs : V → Bool
  | .non => true
  | .bl _ => true
  | .int _ => true
  | .str _ => true
  | .ref _ => true
  | _ => false
def rIsP : R2 := fun x y H Q => isLhs x = true ∧ isRhs y = true ∧ Q (.bl (decide (x = y))) H
def rIsNotP : R2 := fun x y H Q => isLhs x = true ∧ isRhs y = true ∧ Q (.bl (!decide (x = y))) H
section
variable {X : Cx}
theorem plain_of {x y : V} {v u : Value} (hx : isLhs x = true) (hy : isRhs y = true) (rx : RelV x v) (ry : RelV y u) : plainIs v u = true ∧ (v == u) = decide (x = y) := by
  cases y with
  | non =>
    cases (show u = Value.none from ry)
    refine ⟨?_, rx.none_iff⟩
    cases x with
    | non => cases (show v = Value.none from rx); rfl
    | bl b => cases (show v = Value.bool b from rx); rfl
    | int i => obtain ⟨t, rfl⟩ := rx; rfl
    | str i => obtain ⟨t, rfl⟩ := rx; rfl
    | ref a => cases (show v = Value.ref a from rx); rfl
    | _ => cases hx
  | bl c =>
    cases (show u = Value.bool c from ry)
    cases x with
    | non => cases (show v = Value.none from rx); exact ⟨rfl, by simp⟩
    | bl b =>
      cases (show v = Value.bool b from rx)
      refine ⟨rfl, ?_⟩
      cases b <;> cases c <;> decide
    | int i => obtain ⟨t, rfl⟩ := rx; exact ⟨rfl, by simp⟩
    | str i => obtain ⟨t, rfl⟩ := rx; exact ⟨rfl, by simp⟩
    | ref a => cases (show v = Value.ref a from rx); exact ⟨rfl, by simp⟩
    | _ => cases hx
  | _ => cases hy
theorem op_isP : OpR X (compareOp .Is) rIsP := by
  intro pins s σ H x y v u Q I rx ry h
  obtain ⟨hx, hy, q⟩ := h
  obtain ⟨p1, p2⟩ := plain_of hx hy rx ry
  refine wpAny_is_plain p1 ?_
  rw [p2]
  exact ⟨.bl _, H, I, rfl, q⟩
theorem op_isNotP : OpR X (compareOp .IsNot) rIsNotP := by
  intro pins s σ H x y v u Q I rx ry h
  obtain ⟨hx, hy, q⟩ := h
  obtain ⟨p1, p2⟩ := plain_of hx hy rx ry
  refine wpAny_isNot_plain p1 ?_
  rw [p2]
  exact ⟨.bl _, H, I, rfl, q⟩
end
section
variable {K : PySem.W.Frag}
/-- is: the right side None, True or False -/
def isD : PyData → PyData → Option Bool
  | .none, .none => some true
  | .bool _, .none => some false
  | .int _, .none => some false
  | .str _, .none => some false
  | .list _, .none => some false
  | .tuple _, .none => some false
  | .bool a, .bool b => some (a == b)
  | .none, .bool _ => some false
  | .int _, .bool _ => some false
  | .str _, .bool _ => some false
  | .list _, .bool _ => some false
  | .tuple _, .bool _ => some false
  | _, _ => none
def gIs : PyData → PyData → Option PyData := fun a b => (isD a b).map .bool
def gIsNot : PyData → PyData → Option PyData := fun a b => (isD a b).map fun c => .bool (!c)
theorem isD_ok {G H : Hp} {x y : V} {d1 d2 : PyData} {c : Bool} (e : Same G H) (b1 : Bp K G H x d1) (b2 : Bp K G H y d2) (q : isD d1 d2 = some c) : isLhs x = true ∧ isRhs y = true ∧ c = decide (x = y) := by
  cases d2 with
  | none =>
    cases b2.non
    cases d1 with
    | none => cases b1.non; cases q; exact ⟨rfl, rfl, rfl⟩
    | bool b => cases b1.bool; cases q; exact ⟨rfl, rfl, by simp⟩
    | int i => cases b1.int; cases q; exact ⟨rfl, rfl, by simp⟩
    | str i => cases b1.str; cases q; exact ⟨rfl, rfl, by simp⟩
    | list l => obtain ⟨p, vs, rfl, _⟩ := b1.list e; cases q; exact ⟨rfl, rfl, by simp⟩
    | tuple l => obtain ⟨p, vs, rfl, _⟩ := b1.tuple e; cases q; exact ⟨rfl, rfl, by simp⟩
    | _ => cases q
  | bool b' =>
    cases b2.bool
    cases d1 with
    | none => cases b1.non; cases q; exact ⟨rfl, rfl, by simp⟩
    | bool b => cases b1.bool; cases q; refine ⟨rfl, rfl, ?_⟩; cases b <;> cases b' <;> decide
    | int i => cases b1.int; cases q; exact ⟨rfl, rfl, by simp⟩
    | str i => cases b1.str; cases q; exact ⟨rfl, rfl, by simp⟩
    | list l => obtain ⟨p, vs, rfl, _⟩ := b1.list e; cases q; exact ⟨rfl, rfl, by simp⟩
    | tuple l => obtain ⟨p, vs, rfl, _⟩ := b1.tuple e; cases q; exact ⟨rfl, rfl, by simp⟩
    | _ => cases q
  | _ => cases d1 <;> cases q
theorem is_s : OpS K rIsP gIs := fun G H x y d1 d2 d e b1 b2 q Q k => by
  cases hc : isD d1 d2 with
  | none => simp [gIs, hc] at q
  | some c =>
    simp [gIs, hc] at q
    subst q
    obtain ⟨h1, h2, h3⟩ := isD_ok e b1 b2 hc
    exact ⟨h1, h2, k _ H G (Grow.refl e) (by rw [h3]; exact rp_bool _)⟩
theorem isNot_s : OpS K rIsNotP gIsNot := fun G H x y d1 d2 d e b1 b2 q Q k => by
  cases hc : isD d1 d2 with
  | none => simp [gIsNot, hc] at q
  | some c =>
    simp [gIsNot, hc] at q
    subst q
    obtain ⟨h1, h2, h3⟩ := isD_ok e b1 b2 hc
    exact ⟨h1, h2, k _ H G (Grow.refl e) (by rw [h3]; exact rp_bool _)⟩

/-! ### an item, a slice -/
def gIx0 : PyData → PyData → Option PyData
  | .list ds, .int i => atI ds i
  | .tuple ds, .int i => atI ds i
  | .str z, .int i => if z.length ≤ LIM then (atI z.cps.toList i).map fun c => .str ⟨#[c]⟩ else none
  | _, _ => none
theorem atI_of {F : Hp} {vs : List V} {ds : List PyData} {i : Int} {d : PyData} (h : DqAll K F vs ds) (q : atI ds i = some d) : ∃ v, atI vs i = some v ∧ Dq K F v d := by
  unfold atI at q ⊢
  rw [h.len]
  cases hx : ixN ds.length i with
  | none => rw [hx] at q; cases q
  | some j =>
    rw [hx] at q
    exact h.get q
theorem ix0_s : OpS K (rIx K) gIx0 := fun G H x y d1 d2 d e b1 b2 q Q k => by
  cases d2 with
  | int i =>
    cases b2.int
    cases d1 with
    | list ds =>
      obtain ⟨p, vs, rfl, h1, a1⟩ := b1.list e
      obtain ⟨v, h2, h3⟩ := atI_of a1 q
      exact .inl ⟨p, vs, i, v, rfl, rfl, .inl (.inl h1), h2, k v H G (Grow.refl e) (.inl h3)⟩
    | tuple ds =>
      obtain ⟨p, vs, rfl, h1, a1⟩ := b1.tuple e
      obtain ⟨v, h2, h3⟩ := atI_of a1 q
      exact .inr (.inl ⟨p, vs, i, v, rfl, rfl, h1, h2, k v H G (Grow.refl e) (.inl h3)⟩)
    | str z =>
      cases b1.str
      simp only [gIx0] at q
      split at q
      · rename_i hz
        cases hc : atI z.cps.toList i with
        | none => simp [hc] at q
        | some c =>
          simp [hc] at q
          subst q
          exact .inr (.inr ⟨z, i, c, rfl, rfl, lim_line hz, hc, k _ H G (Grow.refl e) (rp_str _)⟩)
      · cases q
    | _ => cases q
  | _ => cases d1 <;> cases q
/-- an item of the script -/
def gIxS : PyData → PyData → Option PyData
  | .dict [(.none, .list ds)], .int i => atI ds i
  | _, _ => none
theorem ixS_s : OpS K (rIx K) gIxS := fun G H x y d1 d2 d e b1 b2 q Q k => by
  unfold gIxS at q
  split at q
  · cases b2.int
    obtain ⟨p, vs, rfl, h1, a1⟩ := b1.scr e
    obtain ⟨v, h2, h3⟩ := atI_of a1 q
    exact .inl ⟨p, vs, _, v, rfl, rfl, h1, h2, k v H G (Grow.refl e) (.inl h3)⟩
  · cases q
theorem OpS.alt {r : R2} {g g' : PyData → PyData → Option PyData} (h : OpS K r g) (h' : OpS K r g') : OpS K r (RT.alt g g') := fun G H x y d1 d2 d e b1 b2 q Q k => by
  unfold RT.alt at q
  split at q
  · rename_i d' hd
    cases q
    exact h G H x y d1 d2 _ e b1 b2 hd Q k
  · exact h' G H x y d1 d2 d e b1 b2 q Q k
def gIx : PyData → PyData → Option PyData := alt gIx0 gIxS
theorem ix_s : OpS K (rIx K) gIx := ix0_s.alt ixS_s
def cutA {α : Type} (xs : List α) (lo hi : Option Int) : List α := (xs.drop (HT.sIx xs.length 0 lo)).take (HT.sIx xs.length xs.length hi - HT.sIx xs.length 0 lo)
/-- a part of a slice -/
abbrev SO := Rho → Option (Option Int)
def oNone : SO := fun _ => some none
def oSome (f : SE) : SO := fun ρ => (f ρ).bind fun d => match d with
  | .int i => some (some i)
  | _ => none
def OOk (K : PySem.W.Frag) (B : Bs) (t : TO) (f : SO) : Prop := ∀ (R F H : Hp) (σ : L2.St) (ρ : Rho) (o : Option Int), EnvOk K B R F H σ ρ → f ρ = some o → ∀ Q : Option Int → Hp → Prop, (∀ H' G, Grow H F H' G → Q o H') → t σ H Q
structure SemO (X : Cx) (K : PySem.W.Frag) (B : Bs) (e : Option Expr) (t : TO) (f : SO) : Prop where
  po : PO X e t
  ok : OOk K B t f
theorem so_none {X : Cx} {K : PySem.W.Frag} {B : Bs} : SemO X K B none tNoPart oNone := ⟨po_none, fun R F H σ ρ o E q Q k => by
  cases q
  exact k H F (Grow.refl E.ex)⟩
theorem so_some {X : Cx} {K : PySem.W.Frag} {B : Bs} {e : Expr} {t : TE} {f : SE} (h : SemB X K B e t f) : SemO X K B (some e) (tPart t) (oSome f) := ⟨po_some h.pe, fun R F H σ ρ o E q Q k => by
  cases e1 : f ρ with
  | none => simp [oSome, e1] at q
  | some d =>
    cases d with
    | int i =>
      simp [oSome, e1] at q
      subst q
      exact h.ok _ F H σ ρ _ E e1 _ fun v H1 G1 g1 b1 => ⟨i, b1.int, k H1 G1 g1⟩
    | _ => simp [oSome, e1] at q⟩
def lSl (f : SE) (a b : SO) : SA := fun ρ => (f ρ).bind fun d => (a ρ).bind fun lo => (b ρ).bind fun hi => match d with
  | .list ds => some (cutA ds lo hi)
  | .dict [(.none, .list ds)] => some (cutA ds lo hi)
  | _ => none
def eSlS (f : SE) (a b : SO) : SE := fun ρ => (f ρ).bind fun d => (a ρ).bind fun lo => (b ρ).bind fun hi => match d with
  | .str z => if z.length ≤ LIM then some (.str (cutS z lo hi)) else none
  | _ => none
theorem cutV_dq {F : Hp} {vs : List V} {ds : List PyData} (h : DqAll K F vs ds) (lo hi : Option Int) : DqAll K F (cutV vs lo hi) (cutA ds lo hi) := by
  unfold cutV cutA
  rw [h.len]
  exact (h.drop _).take _
theorem lSl_inv {f : SE} {a b : SO} {ρ : Rho} {ds : List PyData} (q : lSl f a b ρ = some ds) : ∃ d lo hi es, f ρ = some d ∧ a ρ = some lo ∧ b ρ = some hi ∧ (d = .list es ∨ d = .dict [(.none, .list es)]) ∧ ds = cutA es lo hi := by
  unfold lSl at q
  cases e0 : f ρ with
  | none => simp [e0] at q
  | some d =>
    cases e1 : a ρ with
    | none => simp [e0, e1] at q
    | some lo =>
      cases e2 : b ρ with
      | none => simp [e0, e1, e2] at q
      | some hi =>
        rw [e0, e1, e2, Option.bind_some, Option.bind_some, Option.bind_some] at q
        split at q
        · rename_i es
          cases q
          exact ⟨_, lo, hi, es, rfl, rfl, rfl, .inl rfl, rfl⟩
        · rename_i es
          cases q
          exact ⟨_, lo, hi, es, rfl, rfl, rfl, .inr rfl, rfl⟩
        · cases q
theorem slL_ok {B : Bs} {te : TE} {tl th : TO} {f : SE} {a b : SO} (h : BOk K B te f) (h1 : OOk K B tl a) (h2 : OOk K B th b) : LOk K B (tSl (rSlL K) te tl th) (lSl f a b) := fun R F H σ ρ ds E q Q k => by
  obtain ⟨d, lo, hi, es, e0, e1, e2, hd, rfl⟩ := lSl_inv q
  refine h _ F H σ ρ _ E e0 _ fun v H1 G1 g1 b1 => h1 _ G1 H1 σ ρ _ (E.grow g1) e1 _ fun H2 G2 g2 => h2 _ G2 H2 σ ρ _ ((E.grow g1).grow g2) e2 _ fun H3 G3 g3 => ?_
  have b3 := b1.mono (g2.f.trans g3.f) (g2.h.trans g3.h)
  have z : ∃ p vs, v = .ref p ∧ SqL K H3 p vs ∧ DqAll K G3 vs es := by
    rcases hd with rfl | rfl
    · obtain ⟨p, vs, e1, e2, e3⟩ := b3.list g3.sub
      exact ⟨p, vs, e1, .inl (.inl e2), e3⟩
    · exact b3.scr g3.sub
  obtain ⟨p, vs, rfl, hR, hA⟩ := z
  exact ⟨p, vs, rfl, hR, fun q hq => k q _ _ G3 (((g1.trans g2).trans g3).beside hq) (((g1.trans g2).trans g3).h.free hq) (g3.sub.free hq) upd_same (cutV_dq hA lo hi)⟩
theorem slS_ok {B : Bs} {te : TE} {tl th : TO} {f : SE} {a b : SO} (h : BOk K B te f) (h1 : OOk K B tl a) (h2 : OOk K B th b) : EOk K B (tSl rSlS te tl th) (eSlS f a b) := fun R F H σ ρ d' E q Q k => by
  cases e0 : f ρ with
  | none => simp [eSlS, e0] at q
  | some d =>
    cases e1 : a ρ with
    | none => simp [eSlS, e0, e1] at q
    | some lo =>
      cases e2 : b ρ with
      | none => simp [eSlS, e0, e1, e2] at q
      | some hi =>
        cases d with
        | str z =>
          simp only [eSlS, e0, e1, e2, Option.bind_some] at q
          split at q
          · rename_i hz
            cases q
            refine h _ F H σ ρ _ E e0 _ fun v H1 G1 g1 b1 => h1 _ G1 H1 σ ρ _ (E.grow g1) e1 _ fun H2 G2 g2 => h2 _ G2 H2 σ ρ _ ((E.grow g1).grow g2) e2 _ fun H3 G3 g3 => ?_
            exact ⟨z, b1.str, lim_line hz, k _ H3 G3 ((g1.trans g2).trans g3) (rp_str _)⟩
          · cases q
        | _ => simp [eSlS, e0, e1, e2] at q

/-! ### built-ins -/
theorem BpAll.two {G H : Hp} {vs : List V} {a b : PyData} (h : BpAll K G H vs [a, b]) : ∃ x y, vs = [x, y] ∧ Bp K G H x a ∧ Bp K G H y b := by
  cases h with
  | cons h1 h2 =>
    cases h2 with
    | cons h2 h3 =>
      cases h3
      exact ⟨_, _, rfl, h1, h2⟩
theorem BpAll.one {G H : Hp} {vs : List V} {a : PyData} (h : BpAll K G H vs [a]) : ∃ x, vs = [x] ∧ Bp K G H x a := by
  cases h with
  | cons h1 h2 =>
    cases h2
    exact ⟨_, rfl, h1⟩
def gLen : List PyData → Option PyData
  | [.list ds] => some (.int (ds.length : Nat))
  | [.tuple ds] => some (.int (ds.length : Nat))
  | [.dict [(.none, .list ds)]] => some (.int (ds.length : Nat))
  | [.str z] => if z.length ≤ LIM then some (.int (z.length : Nat)) else none
  | _ => none
def rLenA (K : PySem.W.Frag) : List V → Hp → VK → Prop := fun xs H Q => ∃ x n, xs = [x] ∧ LenV K x H n ∧ Q (.int n) H
theorem len_s : CallS K (rLenA K) gLen := fun G H xs ds d e b q Q k => by
  match ds, q with
  | [.list es], q =>
    cases q
    obtain ⟨x, rfl, b1⟩ := b.one
    obtain ⟨p, vs, rfl, h1, a1⟩ := b1.list e
    exact ⟨.ref p, vs.length, rfl, .inl ⟨vs, .inl (.inl h1), rfl⟩, k _ H G (Grow.refl e) (by rw [a1.len]; exact rp_int _)⟩
  | [.dict [(.none, .list es)]], q =>
    cases q
    obtain ⟨x, rfl, b1⟩ := b.one
    obtain ⟨p, vs, rfl, h1, a1⟩ := b1.scr e
    exact ⟨.ref p, vs.length, rfl, .inl ⟨vs, h1, rfl⟩, k _ H G (Grow.refl e) (by rw [a1.len]; exact rp_int _)⟩
  | [.tuple es], q =>
    cases q
    obtain ⟨x, rfl, b1⟩ := b.one
    obtain ⟨p, vs, rfl, h1, a1⟩ := b1.tuple e
    exact ⟨.ref p, vs.length, rfl, .inr ⟨vs, h1, rfl⟩, k _ H G (Grow.refl e) (by rw [a1.len]; exact rp_int _)⟩
  | [.str z], q =>
    simp only [gLen] at q
    split at q
    · rename_i hz
      cases q
      obtain ⟨x, rfl, b1⟩ := b.one
      cases b1.str
      exact ⟨.str z, z.length, rfl, ⟨lim_line hz, rfl⟩, k _ H G (Grow.refl e) (rp_int _)⟩
    · cases q
def gMax : List PyData → Option PyData
  | [.int i, .int j] => some (.int (if j > i then j else i))
  | _ => none
def gMin : List PyData → Option PyData
  | [.int i, .int j] => some (.int (if j < i then j else i))
  | _ => none
def rMax2 : List V → Hp → VK → Prop := fun xs H Q => ∃ i j, xs = [.int i, .int j] ∧ Q (.int (if j > i then j else i)) H
def rMin2 : List V → Hp → VK → Prop := fun xs H Q => ∃ i j, xs = [.int i, .int j] ∧ Q (.int (if j < i then j else i)) H
theorem max_s : CallS K rMax2 gMax := fun G H xs ds d e b q Q k => by
  match ds, q with
  | [.int i, .int j], q =>
    cases q
    obtain ⟨x, y, rfl, b1, b2⟩ := b.two
    cases b1.int
    cases b2.int
    exact ⟨i, j, rfl, k _ H G (Grow.refl e) (rp_int _)⟩
theorem min_s : CallS K rMin2 gMin := fun G H xs ds d e b q Q k => by
  match ds, q with
  | [.int i, .int j], q =>
    cases q
    obtain ⟨x, y, rfl, b1, b2⟩ := b.two
    cases b1.int
    cases b2.int
    exact ⟨i, j, rfl, k _ H G (Grow.refl e) (rp_int _)⟩
def gInt : List PyData → Option PyData
  | [.int i] => some (.int i)
  | [.bool b] => some (.int (if b then 1 else 0))
  | _ => none
def rInt1 : List V → Hp → VK → Prop := fun xs H Q => (∃ i, xs = [.int i] ∧ Q (.int i) H) ∨ ∃ k, xs = [.bl k] ∧ Q (.int (if k then 1 else 0)) H
theorem int_s : CallS K rInt1 gInt := fun G H xs ds d e b q Q k => by
  match ds, q with
  | [.int i], q =>
    cases q
    obtain ⟨x, rfl, b1⟩ := b.one
    cases b1.int
    exact .inl ⟨i, rfl, k _ H G (Grow.refl e) (rp_int _)⟩
  | [.bool c], q =>
    cases q
    obtain ⟨x, rfl, b1⟩ := b.one
    cases b1.bool
    exact .inr ⟨c, rfl, k _ H G (Grow.refl e) (rp_int _)⟩
/-- list(..) of a list, a tuple: a new list -/
def gListOf : List PyData → Option (List PyData)
  | [.list ds] => some ds
  | [.tuple ds] => some ds
  | _ => none
def rListOf (K : PySem.W.Frag) : List V → Hp → VK → Prop := fun xs H Q => ∃ p ys, xs = [.ref p] ∧ (SqL K H p ys ∨ SqT K H p ys) ∧ ∀ l, H l = none → Q (.ref l) (upd H l (.lst ys))
theorem listOf_s : CallL K (rListOf K) gListOf := fun G H xs ds d e b q Q k => by
  match ds, q with
  | [.list es], q =>
    cases q
    obtain ⟨x, rfl, b1⟩ := b.one
    obtain ⟨p, vs, rfl, h1, a1⟩ := b1.list e
    exact ⟨p, vs, rfl, .inl (.inl (.inl h1)), fun l hl => k l vs _ G ((Grow.refl e).beside hl) hl (e.free hl) upd_same a1⟩
  | [.tuple es], q =>
    cases q
    obtain ⟨x, rfl, b1⟩ := b.one
    obtain ⟨p, vs, rfl, h1, a1⟩ := b1.tuple e
    exact ⟨p, vs, rfl, .inr h1, fun l hl => k l vs _ G ((Grow.refl e).beside hl) hl (e.free hl) upd_same a1⟩
/-- sum(..) of a list of ints -/
def intsD : List PyData → Option (List Int)
  | [] => some []
  | .int i :: ds => (intsD ds).map (i :: ·)
  | _ :: _ => none
theorem intsD_ok : ∀ {ds : List PyData} {ns : List Int}, intsD ds = some ns → ds = ns.map PyData.int
  | [], ns, h => by cases h; rfl
  | .int i :: ds, ns, h => by
    cases e : intsD ds with
    | none => simp [intsD, e] at h
    | some ms =>
      simp [intsD, e] at h
      subst h
      rw [intsD_ok e]; rfl
  | .none :: _, _, h => by cases h
  | .bool _ :: _, _, h => by cases h
  | .str _ :: _, _, h => by cases h
  | .list _ :: _, _, h => by cases h
  | .tuple _ :: _, _, h => by cases h
  | .dict _ :: _, _, h => by cases h
theorem intsD_map (ns : List Int) : intsD (ns.map PyData.int) = some ns := by
  induction ns with
  | nil => rfl
  | cons n ns ih => simp [intsD, ih]
def gSum : List PyData → Option PyData
  | [.list ds] => (intsD ds).map fun ns => .int ns.sum
  | _ => none
theorem sum_s : CallS K (rSum K) gSum := fun G H xs ds d e b q Q k => by
  match ds, q with
  | [.list es], q =>
    cases hn : intsD es with
    | none => simp [gSum, hn] at q
    | some ns =>
      simp [gSum, hn] at q
      subst q
      obtain ⟨x, rfl, b1⟩ := b.one
      obtain ⟨p, vs, rfl, h1, a1⟩ := b1.list e
      rw [intsD_ok hn] at a1
      have ev := ints_dpa ns a1
      subst ev
      exact ⟨p, ns, rfl, .inl (.inl h1), k _ H G (Grow.refl e) (rp_int _)⟩
/-! ### isinstance of a built-in class -/
inductive TyN where
  | bool | int | str | list | tuple
def tyn : TyN → String
  | .bool => "bool"
  | .int => "int"
  | .str => "str"
  | .list => "list"
  | .tuple => "tuple"
def tyD : PyData → String
  | .none => "NoneType"
  | .bool _ => "bool"
  | .int _ => "int"
  | .str _ => "str"
  | .list _ => "list"
  | .tuple _ => "tuple"
  | .dict _ => "dict"
def isiD : TyN → PyData → Bool
  | .bool, .bool _ => true
  | .int, .bool _ => true
  | .int, .int _ => true
  | .str, .str _ => true
  | .list, .list _ => true
  | .tuple, .tuple _ => true
  | _, _ => false
theorem kitB_bool : ∀ T : TyN, kitB "bool" (tyn T) = some (isiD T (.bool true)) := fun T => by cases T <;> decide +kernel
theorem kitB_int : ∀ T : TyN, kitB "int" (tyn T) = some (isiD T (.int 0)) := fun T => by cases T <;> decide +kernel
theorem kitB_str : ∀ T : TyN, kitB "str" (tyn T) = some (isiD T (.str Str.empty)) := fun T => by cases T <;> decide +kernel
theorem kitB_list : ∀ T : TyN, kitB "list" (tyn T) = some (isiD T (.list [])) := fun T => by cases T <;> decide +kernel
theorem kitB_tuple : ∀ T : TyN, kitB "tuple" (tyn T) = some (isiD T (.tuple [])) := fun T => by cases T <;> decide +kernel
theorem kitB_none : ∀ T : TyN, kitB "NoneType" (tyn T) = some (isiD T .none) := fun T => by cases T <;> decide +kernel
theorem kitB_ok (T : TyN) (d : PyData) (hd : dataD d = true) : kitB (tyD d) (tyn T) = some (isiD T d) := by
  cases d with
  | dict _ => cases hd
  | none => exact kitB_none T
  | bool _ => have h := kitB_bool T; cases T <;> exact h
  | int _ => have h := kitB_int T; cases T <;> exact h
  | str _ => have h := kitB_str T; cases T <;> exact h
  | list _ => have h := kitB_list T; cases T <;> exact h
  | tuple _ => have h := kitB_tuple T; cases T <;> exact h
theorem sqt_ty {H : Hp} {a : Addr} {xs : List V} (h : SqT K H a xs) : TyX K H (.ref a) (.type "tuple") := by
  rcases h with (h | ⟨o, h⟩) | ⟨o, its, n, hk, hc, _⟩
  · exact .base (.tup h)
  · exact .fTuple h
  · exact .kTuple hk hc
theorem bp_ty {G H : Hp} {v : V} {d : PyData} (e : Same G H) (h : Bp K G H v d) (hd : dataD d = true) : TyX K H v (.type (tyD d)) := by
  cases d with
  | none => cases h.non; exact .base .non
  | bool b => cases h.bool; exact .base (.bl b)
  | int b => cases h.int; exact .base (.int b)
  | str b => cases h.str; exact .base (.str b)
  | list l => obtain ⟨p, vs, rfl, h1, _⟩ := h.list e; exact .base (.lst h1)
  | tuple l => obtain ⟨p, vs, rfl, h1, _⟩ := h.tuple e; exact sqt_ty h1
  | dict _ => cases hd
def eIsi (T : TyN) (f : SE) : SE := fun ρ => (f ρ).bind fun d => if dataD d = true then some (.bool (isiD T d)) else none
theorem isi_ok {B : Bs} {t : TE} {f : SE} (T : TyN) (h : BOk K B t f) : EOk K B (tCB (rIsi K) (tCons t (tCons (tC (.ty (tyn T))) tNil))) (eIsi T f) := fun R F H σ ρ d E q Q k => by
  cases e0 : f ρ with
  | none => simp [eIsi, e0] at q
  | some x =>
    simp only [eIsi, e0, Option.bind_some] at q
    split at q
    · rename_i hd
      cases q
      refine h _ F H σ ρ _ E e0 _ fun v H1 G1 g1 b1 => ?_
      exact ⟨v, .ty (tyn T), .type (tyD x), .type (tyn T), isiD T x, rfl, .ty _, bp_ty g1.sub b1 hd, kit_ty (kitB_ok T x hd), k _ H1 G1 g1 (rp_bool _)⟩
    · cases q
end
end RT
namespace RT
open PySem PySem.Spec PyProof.Rows L2
/-! ### tests -/
def bF (f : SE) : STe := fun ρ => (f ρ).bind fun d => match d with
  | .bool b => some b
  | _ => none
def tAndF (f g : STe) : STe := fun ρ => (f ρ).bind fun b => if b = true then g ρ else some false
def tOrF (f g : STe) : STe := fun ρ => (f ρ).bind fun b => if b = true then some true else g ρ
def tNotF (f : STe) : STe := fun ρ => (f ρ).map (!·)
def eAndF (f g : SE) : SE := fun ρ => (bF f ρ).bind fun b => if b = true then g ρ else some (.bool false)
def eOrF (f g : SE) : SE := fun ρ => (bF f ρ).bind fun b => if b = true then some (.bool true) else g ρ
def eNotF (f : SE) : SE := fun ρ => (bF f ρ).map fun b => .bool (!b)
def eIfF (t : STe) (f g : SE) : SE := fun ρ => (t ρ).bind fun b => if b = true then f ρ else g ρ
def eChainF (g g' : PyData → PyData → Option PyData) (f1 f2 f3 : SE) : SE := fun ρ => (f1 ρ).bind fun x => (f2 ρ).bind fun y => (g x y).bind fun z => match z with
  | .bool true => (f3 ρ).bind fun u => g' y u
  | .bool false => some (.bool false)
  | _ => none
theorem Rp.bl {K : PySem.W.Frag} {G : Hp} {v : V} {b : Bool} (h : Rp K G v (.bool b)) : v = .bl b := Bp.bool (H := G) (.inl h)
section
variable {K : PySem.W.Frag} {B : Bs} {t t1 t2 t3 : TE} {tt u : TT} {f f1 f2 f3 : SE} {g h : STe}
theorem bF_some {ρ : Rho} {b : Bool} (q : bF f ρ = some b) : f ρ = some (.bool b) := by
  unfold bF at q
  cases e : f ρ with
  | none => simp [e] at q
  | some d =>
    cases d with
    | bool c => simp [e] at q; rw [q]
    | _ => simp [e] at q
theorem tB_ok (k : EOk K B t f) : TOk K B (tB t) (bF f) := fun R F H σ ρ b E q Q kk => k _ F H σ ρ _ E (bF_some q) _ fun v H1 G1 g1 r => ⟨b, r.bl, kk H1 G1 g1⟩
theorem tTest_ok (k : EOk K B t f) : TOk K B (tTest t) (bF f) := fun R F H σ ρ b E q Q kk => k _ F H σ ρ _ E (bF_some q) _ fun v H1 G1 g1 r => ⟨b, r.bl, kk H1 G1 g1⟩
theorem tAnd_ok (k1 : TOk K B tt g) (k2 : TOk K B u h) : TOk K B (tAnd tt u) (tAndF g h) := fun R F H σ ρ b E q Q kk => by
  cases e1 : g ρ with
  | none => simp [tAndF, e1] at q
  | some c =>
    refine k1 _ F H σ ρ c E e1 _ fun H1 G1 g1 => ?_
    cases c with
    | true =>
      have q' : h ρ = some b := by simpa [tAndF, e1] using q
      show u σ H1 Q
      exact k2 _ G1 H1 σ ρ b (E.grow g1) q' Q fun H2 G2 g2 => kk H2 G2 (g1.trans g2)
    | false =>
      have q' : b = false := by simpa [tAndF, e1] using q.symm
      subst q'
      show Q false H1
      exact kk H1 G1 g1
theorem tOr_ok (k1 : TOk K B tt g) (k2 : TOk K B u h) : TOk K B (tOr tt u) (tOrF g h) := fun R F H σ ρ b E q Q kk => by
  cases e1 : g ρ with
  | none => simp [tOrF, e1] at q
  | some c =>
    refine k1 _ F H σ ρ c E e1 _ fun H1 G1 g1 => ?_
    cases c with
    | true =>
      have q' : b = true := by simpa [tOrF, e1] using q.symm
      subst q'
      show Q true H1
      exact kk H1 G1 g1
    | false =>
      have q' : h ρ = some b := by simpa [tOrF, e1] using q
      show u σ H1 Q
      exact k2 _ G1 H1 σ ρ b (E.grow g1) q' Q fun H2 G2 g2 => kk H2 G2 (g1.trans g2)
theorem tNot_ok (k1 : TOk K B tt g) : TOk K B (tNot tt) (tNotF g) := fun R F H σ ρ b E q Q kk => by
  cases e1 : g ρ with
  | none => simp [tNotF, e1] at q
  | some c =>
    have q' : b = !c := by simpa [tNotF, e1] using q.symm
    subst q'
    exact k1 _ F H σ ρ c E e1 _ fun H1 G1 g1 => kk H1 G1 g1
theorem andV_ok (k1 : EOk K B t1 f1) (k2 : EOk K B t2 f2) : EOk K B (tAndV t1 t2) (eAndF f1 f2) := fun R F H σ ρ d E q Q kk => by
  cases e1 : bF f1 ρ with
  | none => simp [eAndF, e1] at q
  | some c =>
    refine k1 _ F H σ ρ _ E (bF_some e1) _ fun v H1 G1 g1 r => ⟨c, r.bl, ?_⟩
    cases c with
    | true =>
      have q' : f2 ρ = some d := by simpa [eAndF, e1] using q
      show t2 σ H1 Q
      exact k2 _ G1 H1 σ ρ d (E.grow g1) q' Q fun v H2 G2 g2 r2 => kk v H2 G2 (g1.trans g2) r2
    | false =>
      have q' : d = .bool false := by simpa [eAndF, e1] using q.symm
      subst q'
      show Q (.bl false) H1
      exact kk _ H1 G1 g1 (rp_bool _)
theorem orV_ok (k1 : EOk K B t1 f1) (k2 : EOk K B t2 f2) : EOk K B (tOrV t1 t2) (eOrF f1 f2) := fun R F H σ ρ d E q Q kk => by
  cases e1 : bF f1 ρ with
  | none => simp [eOrF, e1] at q
  | some c =>
    refine k1 _ F H σ ρ _ E (bF_some e1) _ fun v H1 G1 g1 r => ⟨c, r.bl, ?_⟩
    cases c with
    | true =>
      have q' : d = .bool true := by simpa [eOrF, e1] using q.symm
      subst q'
      show Q (.bl true) H1
      exact kk _ H1 G1 g1 (rp_bool _)
    | false =>
      have q' : f2 ρ = some d := by simpa [eOrF, e1] using q
      show t2 σ H1 Q
      exact k2 _ G1 H1 σ ρ d (E.grow g1) q' Q fun v H2 G2 g2 r2 => kk v H2 G2 (g1.trans g2) r2
theorem notV_ok (k1 : EOk K B t1 f1) : EOk K B (tNotV t1) (eNotF f1) := fun R F H σ ρ d E q Q kk => by
  cases e1 : bF f1 ρ with
  | none => simp [eNotF, e1] at q
  | some c =>
    have q' : d = .bool (!c) := by simpa [eNotF, e1] using q.symm
    subst q'
    exact k1 _ F H σ ρ _ E (bF_some e1) _ fun v H1 G1 g1 r => ⟨c, r.bl, kk _ H1 G1 g1 (rp_bool _)⟩
theorem if_ok (k0 : TOk K B tt g) (k1 : EOk K B t1 f1) (k2 : EOk K B t2 f2) : EOk K B (tIf tt t1 t2) (eIfF g f1 f2) := fun R F H σ ρ d E q Q kk => by
  cases e1 : g ρ with
  | none => simp [eIfF, e1] at q
  | some c =>
    refine k0 _ F H σ ρ c E e1 _ fun H1 G1 g1 => ?_
    cases c with
    | true =>
      have q' : f1 ρ = some d := by simpa [eIfF, e1] using q
      show t1 σ H1 Q
      exact k1 _ G1 H1 σ ρ d (E.grow g1) q' Q fun v H2 G2 g2 r2 => kk v H2 G2 (g1.trans g2) r2
    | false =>
      have q' : f2 ρ = some d := by simpa [eIfF, e1] using q
      show t2 σ H1 Q
      exact k2 _ G1 H1 σ ρ d (E.grow g1) q' Q fun v H2 G2 g2 r2 => kk v H2 G2 (g1.trans g2) r2
theorem chain_ok {r r' : R2} {gg gg' : PyData → PyData → Option PyData} (o1 : OpS K r gg) (o2 : OpS K r' gg') (k1 : BOk K B t1 f1) (k2 : BOk K B t2 f2) (k3 : BOk K B t3 f3) : EOk K B (tChain r r' t1 t2 t3) (eChainF gg gg' f1 f2 f3) := fun R F H σ ρ d E q Q kk => by
  cases e1 : f1 ρ with
  | none => simp [eChainF, e1] at q
  | some x =>
    cases e2 : f2 ρ with
    | none => simp [eChainF, e1, e2] at q
    | some y =>
      cases e3 : gg x y with
      | none => simp [eChainF, e1, e2, e3] at q
      | some z =>
        cases z with
        | bool c =>
          refine k1 _ F H σ ρ x E e1 _ fun v H1 G1 g1 b1 => k2 _ G1 H1 σ ρ y (E.grow g1) e2 _ fun u H2 G2 g2 b2 => o1 G2 H2 v u x y _ g2.sub (b1.mono g2.f g2.h) b2 e3 _ fun w H3 G3 g3 r3 => ⟨c, r3.bl, ?_⟩
          cases c with
          | true =>
            cases e4 : f3 ρ with
            | none => simp [eChainF, e1, e2, e3, e4] at q
            | some u' =>
              have q' : gg' y u' = some d := by simpa [eChainF, e1, e2, e3, e4] using q
              show t3 σ H3 _
              exact k3 _ G3 H3 σ ρ u' (((E.grow g1).grow g2).grow g3) e4 _ fun w' H4 G4 g4 b4 => o2 G4 H4 u w' y u' d g4.sub (b2.mono (g3.f.trans g4.f) (g3.h.trans g4.h)) b4 q' Q fun z H5 G5 g5 r5 => kk z H5 G5 ((((g1.trans g2).trans g3).trans g4).trans g5) r5
          | false =>
            have q' : d = .bool false := by simpa [eChainF, e1, e2, e3] using q.symm
            subst q'
            show Q (.bl false) H3
            exact kk _ H3 G3 ((g1.trans g2).trans g3) (rp_bool _)
        | _ => simp [eChainF, e1, e2, e3] at q
end
/-- a op1 b op2 c op3 d -/
def tChain3 (r r' r2 : R2) (ta tb tc td : TE) : TE := fun σ H Q => ta σ H fun x H1 => tb σ H1 fun y H2 => r x y H2 fun z H3 => ∃ k, z = .bl k ∧
  (if k = true then tc σ H3 fun w' H4 => r' y w' H4 (fun z H5 => ∃ k, z = .bl k ∧ (if k = true then td σ H5 fun w2 H6 => r2 w' w2 H6 Q else Q (.bl false) H5)) else Q (.bl false) H3)
theorem pe_chain3 {X : Cx} {a b c d : Expr} {ta tb tc td : TE} {r r' r2 : R2} {pos : Pos} {op op' op2 : CmpOp} (ho : OpR X (compareOp op) r) (ho' : OpR X (compareOp op') r') (ho2 : OpR X (compareOp op2) r2) (ha : PE X a ta) (hb : PE X b tb) (hc : PE X c tc) (hd : PE X d td)
    (hm : lastMarks [op, op', op2] [b, c, d] = false := by with_unfolding_all rfl) : PE X (.Compare a [op, op', op2] [b, c, d] pos) (tChain3 r r' r2 ta tb tc td) := by
  refine ⟨fun pins s σ H Q I h => ?_⟩
  refine Compare_chain (thn (ha.run pins s σ H _ I h) fun v s1 ⟨x, H1, I1, r1, q1⟩ => chain_link (thn (hb.run pins s1 σ H1 _ I1 q1) fun u s2 ⟨y, H2, I2, r2, q2⟩ =>
    thn (ho pins s2 σ H2 x y v u _ I2 r1 r2 q2) fun d s3 ⟨z, H3, I3, r3, k, e, q3⟩ => ?_)) hm
  subst e
  cases r3
  refine wpAny_truthy_bool ?_
  cases k with
  | false => exact ite_ff ⟨.bl false, H3, I3, rfl, q3⟩
  | true =>
    refine ite_tt (chain_link (thn (hc.run pins s3 σ H3 _ I3 q3) fun w' s4 ⟨z', H4, I4, r4, q4⟩ => thn (ho' pins s4 σ H4 y z' u w' _ I4 r2 r4 q4) fun d2 s5 ⟨zz, H5, I5, r5, k2, e2, q5⟩ => ?_))
    subst e2
    cases r5
    refine wpAny_truthy_bool ?_
    cases k2 with
    | false => exact ite_ff ⟨.bl false, H5, I5, rfl, q5⟩
    | true => exact ite_tt (chain_last (thn (hd.run pins s5 σ H5 _ I5 q5) fun w2 s6 ⟨z2, H6, I6, r6, q6⟩ => ho2 pins s6 σ H6 z' z2 w' w2 Q I6 r4 r6 q6))
def eChain3F (g g' g2 : PyData → PyData → Option PyData) (f1 f2 f3 f4 : SE) : SE := fun ρ => (f1 ρ).bind fun x => (f2 ρ).bind fun y => (g x y).bind fun z => match z with
  | .bool true => (f3 ρ).bind fun u => (g' y u).bind fun z => match z with
    | .bool true => (f4 ρ).bind fun u2 => g2 u u2
    | .bool false => some (.bool false)
    | _ => none
  | .bool false => some (.bool false)
  | _ => none
theorem chain3_ok {K : PySem.W.Frag} {B : Bs} {t1 t2 t3 t4 : TE} {f1 f2 f3 f4 : SE} {r r' r2 : R2} {gg gg' gg2 : PyData → PyData → Option PyData} (o1 : OpS K r gg) (o2 : OpS K r' gg') (o3 : OpS K r2 gg2) (k1 : BOk K B t1 f1) (k2 : BOk K B t2 f2) (k3 : BOk K B t3 f3) (k4 : BOk K B t4 f4) :
    EOk K B (tChain3 r r' r2 t1 t2 t3 t4) (eChain3F gg gg' gg2 f1 f2 f3 f4) := fun R F H σ ρ d E q Q kk => by
  cases e1 : f1 ρ with
  | none => simp [eChain3F, e1] at q
  | some x =>
    cases e2 : f2 ρ with
    | none => simp [eChain3F, e1, e2] at q
    | some y =>
      cases e3 : gg x y with
      | none => simp [eChain3F, e1, e2, e3] at q
      | some z =>
        cases z with
        | bool c =>
          refine k1 _ F H σ ρ x E e1 _ fun v H1 G1 g1 b1 => k2 _ G1 H1 σ ρ y (E.grow g1) e2 _ fun u H2 G2 g2 b2 => o1 G2 H2 v u x y _ g2.sub (b1.mono g2.f g2.h) b2 e3 _ fun w H3 G3 g3 r3 => ⟨c, r3.bl, ?_⟩
          cases c with
          | true =>
            cases e4 : f3 ρ with
            | none => simp [eChain3F, e1, e2, e3, e4] at q
            | some u' =>
              cases e5 : gg' y u' with
              | none => simp [eChain3F, e1, e2, e3, e4, e5] at q
              | some z5 =>
                cases z5 with
                | bool c5 =>
                  show t3 σ H3 _
                  refine k3 _ G3 H3 σ ρ u' (((E.grow g1).grow g2).grow g3) e4 _ fun w' H4 G4 g4 b4 => o2 G4 H4 u w' y u' _ g4.sub (b2.mono (g3.f.trans g4.f) (g3.h.trans g4.h)) b4 e5 _ fun z H5 G5 g5 r5 => ⟨c5, r5.bl, ?_⟩
                  have gA := (((g1.trans g2).trans g3).trans g4).trans g5
                  cases c5 with
                  | true =>
                    cases e6 : f4 ρ with
                    | none => simp [eChain3F, e1, e2, e3, e4, e5, e6] at q
                    | some u2 =>
                      have q' : gg2 u' u2 = some d := by simpa [eChain3F, e1, e2, e3, e4, e5, e6] using q
                      show t4 σ H5 _
                      exact k4 _ G5 H5 σ ρ u2 (E.grow gA) e6 _ fun w6 H6 G6 g6 b6 => o3 G6 H6 w' w6 u' u2 d g6.sub (b4.mono (g5.f.trans g6.f) (g5.h.trans g6.h)) b6 q' Q fun z H7 G7 g7 r7 => kk z H7 G7 ((gA.trans g6).trans g7) r7
                  | false =>
                    have q' : d = .bool false := by simpa [eChain3F, e1, e2, e3, e4, e5] using q.symm
                    subst q'
                    show Q (.bl false) H5
                    exact kk _ H5 G5 gA (rp_bool _)
                | _ => simp [eChain3F, e1, e2, e3, e4, e5] at q
          | false =>
            have q' : d = .bool false := by simpa [eChain3F, e1, e2, e3] using q.symm
            subst q'
            show Q (.bl false) H3
            exact kk _ H3 G3 ((g1.trans g2).trans g3) (rp_bool _)
        | _ => simp [eChain3F, e1, e2, e3] at q

/-! ### what is walked -/
structure WalksD (K : PySem.W.Frag) (Al : Hp → Hp → Prop) (J : It) (ds : List PyData) : Prop where
  go : ∀ i G' H', Al G' H' → i < ds.length → J.go i H'
  yld : ∀ i G' H' x H'' d, Al G' H' → ds[i]? = some d → J.yld i H' x H'' → ∃ G'', Grow H' G' H'' G'' ∧ Rp K G'' x d
  stop : ∀ G' H', Al G' H' → J.stop ds.length H'
/-- over data that stand | over data that are read for a moment (nothing is changed meanwhile) -/
def IOk (K : PySem.W.Frag) (B : Bs) (wi : TI) (f : SA) : Prop := ∀ (R F H : Hp) (σ : L2.St) (ρ : Rho) (ds : List PyData), EnvOk K B R F H σ ρ → f ρ = some ds → ∀ R : It → Hp → Prop,
  (∀ J H1 G1, Grow H F H1 G1 → WalksD K (fun G' H' => Same G1 G' ∧ Same G' H') J ds → R J H1) → wi σ H R
def IBOk (K : PySem.W.Frag) (B : Bs) (wi : TI) (f : SA) : Prop := ∀ (R F H : Hp) (σ : L2.St) (ρ : Rho) (ds : List PyData), EnvOk K B R F H σ ρ → f ρ = some ds → ∀ R : It → Hp → Prop,
  (∀ J H1 G1, Grow H F H1 G1 → WalksD K (fun G' H' => Same G1 G' ∧ Same G' H' ∧ Same H1 H') J ds → R J H1) → wi σ H R
theorem WalksD.imp {K : PySem.W.Frag} {Al Al' : Hp → Hp → Prop} {J : It} {ds : List PyData} (h : WalksD K Al J ds) (hi : ∀ G' H', Al' G' H' → Al G' H') : WalksD K Al' J ds :=
  ⟨fun i G' H' a => h.go i G' H' (hi _ _ a), fun i G' H' x H'' d a => h.yld i G' H' x H'' d (hi _ _ a), fun G' H' a => h.stop G' H' (hi _ _ a)⟩
theorem IOk.b {K : PySem.W.Frag} {B : Bs} {wi : TI} {f : SA} (h : IOk K B wi f) : IBOk K B wi f := fun R F H σ ρ ds E q R k => h _ F H σ ρ ds E q R fun J H1 G1 g1 w => k J H1 G1 g1 (w.imp fun G' H' a => ⟨a.1, a.2.1⟩)
def iL (f : SE) : SA := fun ρ => (f ρ).bind fun d => match d with
  | .list ds => if ds.length ≤ LIM then some ds else none
  | _ => none
def iT (f : SE) : SA := fun ρ => (f ρ).bind fun d => match d with
  | .tuple ds => if ds.length ≤ LIM then some ds else none
  | _ => none
def signsD (z : Str) : List PyData := z.cps.toList.map fun c => .str ⟨#[c]⟩
def iS (f : SE) : SA := fun ρ => (f ρ).bind fun d => match d with
  | .str z => if z.length ≤ LIM then some (signsD z) else none
  | _ => none
def rangeD (lo : Int) (n : Nat) : List PyData := (List.range n).map fun i => .int (lo + (i : Nat))
def iR1 (f : SA) : SA := fun ρ => (f ρ).bind fun ds => match ds with
  | [.int j] => if j ≤ 1000000 ∧ -1000000 ≤ j then some (rangeD 0 j.toNat) else none
  | _ => none
def iR2 (f : SA) : SA := fun ρ => (f ρ).bind fun ds => match ds with
  | [.int i, .int j] => if (j ≤ 1000000 ∧ -1000000 ≤ j) ∧ i ≤ 1000000 ∧ -1000000 ≤ i then some (rangeD i (j - i).toNat) else none
  | _ => none
def enumD : Nat → List PyData → List PyData
  | _, [] => []
  | n, d :: ds => .tuple [.int (n : Nat), d] :: enumD (n + 1) ds
def iE (f : SA) : SA := fun ρ => (f ρ).bind fun ds => match ds with
  | [.list es] => if es.length ≤ LIM then some (enumD 0 es) else none
  | _ => none
theorem enumD_get : ∀ (ds : List PyData) (n i : Nat), (enumD n ds)[i]? = (ds[i]?).map fun d => .tuple [.int ((n + i : Nat) : Nat), d]
  | [], n, i => by simp [enumD]
  | d :: ds, n, 0 => by simp [enumD]
  | d :: ds, n, i + 1 => by
    rw [enumD, List.getElem?_cons_succ, enumD_get ds (n + 1) i, List.getElem?_cons_succ]
    have e : n + 1 + i = n + (i + 1) := by omega
    rw [e]
theorem enumD_len : ∀ (ds : List PyData) (n : Nat), (enumD n ds).length = ds.length
  | [], n => rfl
  | d :: ds, n => by simp [enumD, enumD_len ds (n + 1)]
section
variable {K : PySem.W.Frag} {B : Bs} {t : TE} {ta : TA} {f : SE} {sa : SA}
theorem walks_list {G1 : Hp} {a : Addr} {vs : List V} {ds : List PyData} {Al : Hp → Hp → Prop} (hA : DqAll K G1 vs ds) (h1 : ∀ G' H', Al G' H' → H' a = some (.lst vs)) (h2 : ∀ G' H', Al G' H' → Same G1 G' ∧ Same G' H') : WalksD K Al (Itl K a) ds where
  go := fun i G' H' al hi => by
    obtain ⟨d, hd⟩ : ∃ d, ds[i]? = some d := ⟨ds[i], List.getElem?_eq_getElem hi⟩
    obtain ⟨v, hv, _⟩ := hA.get hd
    exact ⟨vs, v, .inl (.inl (h1 _ _ al)), hv⟩
  yld := fun i G' H' x H'' d al hd y => by
    obtain ⟨e, y⟩ := y
    subst e
    have hx := y vs (.inl (.inl (h1 _ _ al)))
    obtain ⟨d', hd', r⟩ := hA.getV hx
    rw [hd] at hd'; cases hd'
    exact ⟨G', Grow.refl (h2 _ _ al).2, .inl (dpa_mono' (h2 _ _ al).1 r)⟩
  stop := fun G' H' al => ⟨vs, .inl (.inl (h1 _ _ al)), by rw [hA.len]; exact Nat.le_refl _⟩
where dpa_mono' {F G : Hp} (e : Same F G) {v : V} {d : PyData} (h : Dq K F v d) : Dq K G v d := dp_mono e d h
theorem iListB_ok (h : BOk K B t f) : IBOk K B (iList K t) (iL f) := fun R F H σ ρ ds E q R k => by
  cases e0 : f ρ with
  | none => simp [iL, e0] at q
  | some d =>
    cases d with
    | list es =>
      simp only [iL, e0, Option.bind_some] at q
      split at q
      · cases q
        refine h _ F H σ ρ _ E e0 _ fun v H1 G1 g1 b1 => ?_
        obtain ⟨p, vs, rfl, hR, hA⟩ := b1.list g1.sub
        exact ⟨p, rfl, ⟨vs, .inl (.inl hR)⟩, k _ H1 G1 g1 (walks_list hA (fun G' H' al => al.2.2 _ _ hR) fun G' H' al => ⟨al.1, al.2.1⟩)⟩
      · cases q
    | _ => simp [iL, e0] at q
theorem iList_ok (h : EOk K B t f) : IOk K B (iList K t) (iL f) := fun R F H σ ρ ds E q R k => by
  cases e0 : f ρ with
  | none => simp [iL, e0] at q
  | some d =>
    cases d with
    | list es =>
      simp only [iL, e0, Option.bind_some] at q
      split at q
      · cases q
        refine h _ F H σ ρ _ E e0 _ fun v H1 G1 g1 r1 => ?_
        have r2 := r1.dp
        cases r2 with
        | lst hR hA => exact ⟨_, rfl, ⟨_, .inl (.inl (g1.sub _ _ hR))⟩, k _ H1 G1 g1 (walks_list hA (fun G' H' al => (al.1.trans al.2) _ _ hR) fun G' H' al => al)⟩
      · cases q
    | _ => simp [iL, e0] at q
theorem iTup_ok (h : EOk K B t f) : IOk K B (iTup K t) (iT f) := fun R F H σ ρ ds E q R k => by
  cases e0 : f ρ with
  | none => simp [iT, e0] at q
  | some d =>
    cases d with
    | tuple es =>
      simp only [iT, e0, Option.bind_some] at q
      split at q
      · cases q
        refine h _ F H σ ρ _ E e0 _ fun v H1 G1 g1 r1 => ?_
        have r2 := r1.dp
        cases r2 with
        | @tup a vs _ hR hA =>
          refine ⟨a, rfl, ⟨vs, same_t g1.sub hR⟩, k _ H1 G1 g1 ⟨fun i G' H' al hi => ?_, fun i G' H' x H'' d al hd y => ?_, fun G' H' al => ⟨vs, same_t (al.1.trans al.2) hR, by rw [hA.len]; exact Nat.le_refl _⟩⟩⟩
          · obtain ⟨d, hd⟩ : ∃ d, ds[i]? = some d := ⟨ds[i], List.getElem?_eq_getElem hi⟩
            obtain ⟨v, hv, _⟩ := hA.get hd
            exact ⟨vs, v, same_t (al.1.trans al.2) hR, hv⟩
          · obtain ⟨e, y⟩ := y
            subst e
            have hx := y vs (same_t (al.1.trans al.2) hR)
            obtain ⟨d', hd', r⟩ := hA.getV hx
            rw [hd] at hd'; cases hd'
            exact ⟨G', Grow.refl al.2, .inl (dp_mono al.1 d r)⟩
      · cases q
    | _ => simp [iT, e0] at q
theorem iStr_ok (h : EOk K B t f) : IOk K B (iStr t) (iS f) := fun R F H σ ρ ds E q R k => by
  cases e0 : f ρ with
  | none => simp [iS, e0] at q
  | some d =>
    cases d with
    | str z =>
      simp only [iS, e0, Option.bind_some] at q
      split at q
      · cases q
        refine h _ F H σ ρ _ E e0 _ fun v H1 G1 g1 r1 => ?_
        have hl : (signsD z).length = z.cps.size := by simp [signsD]
        refine ⟨z, Bp.str (H := G1) (.inl r1), k _ H1 G1 g1 ⟨fun i G' H' al hi => by rw [hl] at hi; exact hi, fun i G' H' x H'' d al hd y => ?_, fun G' H' al => by rw [hl]; exact Nat.le_refl _⟩⟩
        obtain ⟨e, c, hc, rfl⟩ := y
        subst e
        refine ⟨G', Grow.refl al.2, ?_⟩
        have ec : z.cps.toList[i]? = some c := by simpa using hc
        have : d = .str ⟨#[c]⟩ := by
          unfold signsD at hd
          rw [List.getElem?_map, ec] at hd
          exact (Option.some.inj hd).symm
        rw [this]
        exact rp_str _
      · cases q
    | _ => simp [iS, e0] at q
theorem walks_range {Al : Hp → Hp → Prop} (lo : Int) (n : Nat) (h2 : ∀ G' H', Al G' H' → Same G' H') : WalksD K Al (Itr lo n) (rangeD lo n) where
  go := fun i G' H' al hi => by
    have h : i < n := by simpa [rangeD] using hi
    exact h
  yld := fun i G' H' x H'' d al hd y => by
    obtain ⟨e, y⟩ := y
    subst e
    subst y
    refine ⟨G', Grow.refl (h2 _ _ al), ?_⟩
    unfold rangeD at hd
    rw [List.getElem?_map] at hd
    cases hr : (List.range n)[i]? with
    | none => rw [hr] at hd; cases hd
    | some j =>
      have hi : i < n := by
        have := (List.getElem?_eq_some_iff.mp hr).1
        simpa using this
      have hj : j = i := by rw [List.getElem?_range hi] at hr; exact (Option.some.inj hr).symm
      rw [hr] at hd
      cases hd
      rw [hj]
      exact rp_int _
  stop := fun G' H' al => by simp [rangeD, Itr]
theorem ABOk.ints1 {F H : Hp} {σ : L2.St} {ρ : Rho} {i : Int} (h : ABOk K B ta sa) (E : EnvOk K B R F H σ ρ) (q : sa ρ = some [.int i]) {Q : List V → Hp → Prop} (k : ∀ H' G, Grow H F H' G → Q [.int i] H') : ta σ H Q :=
  h _ F H σ ρ _ E q Q fun vs H' G g b => by
    obtain ⟨x, rfl, b1⟩ := b.one
    cases b1.int
    exact k H' G g
theorem iRng1_ok (h : ABOk K B ta sa) : IOk K B (iRng1 ta) (iR1 sa) := fun R F H σ ρ ds E q R k => by
  cases e0 : sa ρ with
  | none => simp [iR1, e0] at q
  | some es =>
    match es, e0, q with
    | [.int j], e0, q =>
      simp only [iR1, e0, Option.bind_some] at q
      split at q
      · rename_i hj
        cases q
        exact h.ints1 E e0 fun H1 G1 g1 => ⟨j, rfl, by omega, by omega, k _ H1 G1 g1 (walks_range _ _ fun G' H' al => al.2)⟩
      · cases q
    | [], e0, q => simp [iR1, e0] at q
    | .none :: _, e0, q => simp [iR1, e0] at q
    | .bool _ :: _, e0, q => simp [iR1, e0] at q
    | .str _ :: _, e0, q => simp [iR1, e0] at q
    | .list _ :: _, e0, q => simp [iR1, e0] at q
    | .tuple _ :: _, e0, q => simp [iR1, e0] at q
    | .dict _ :: _, e0, q => simp [iR1, e0] at q
    | .int _ :: _ :: _, e0, q => simp [iR1, e0] at q
theorem iR2_inv {ρ : Rho} {ds : List PyData} (q : iR2 sa ρ = some ds) : ∃ i j, sa ρ = some [.int i, .int j] ∧ ((j ≤ 1000000 ∧ -1000000 ≤ j) ∧ i ≤ 1000000 ∧ -1000000 ≤ i) ∧ ds = rangeD i (j - i).toNat := by
  unfold iR2 at q
  cases e0 : sa ρ with
  | none => simp [e0] at q
  | some es =>
    rw [e0, Option.bind_some] at q
    split at q
    · rename_i i j
      split at q
      · rename_i hc
        cases q
        exact ⟨i, j, rfl, hc, rfl⟩
      · cases q
    · cases q
theorem iRng2_ok (h : ABOk K B ta sa) : IOk K B (iRng2 ta) (iR2 sa) := fun R F H σ ρ ds E q R k => by
  obtain ⟨i, j, e0, hc, rfl⟩ := iR2_inv q
  refine h _ F H σ ρ _ E e0 _ fun vs H1 G1 g1 b => ?_
  obtain ⟨x, y, rfl, b1, b2⟩ := b.two
  cases b1.int
  cases b2.int
  exact ⟨i, j, rfl, by omega, k _ H1 G1 g1 (walks_range _ _ fun G' H' al => al.2)⟩
theorem iE_inv {ρ : Rho} {ds : List PyData} (q : iE sa ρ = some ds) : ∃ es, sa ρ = some [.list es] ∧ ds = enumD 0 es := by
  unfold iE at q
  cases e0 : sa ρ with
  | none => simp [e0] at q
  | some es =>
    rw [e0, Option.bind_some] at q
    split at q
    · rename_i fs
      split at q
      · cases q
        exact ⟨fs, rfl, rfl⟩
      · cases q
    · cases q
theorem RpAll.one {F : Hp} {vs : List V} {a : PyData} (h : RpAll K F vs [a]) : ∃ x, vs = [x] ∧ Rp K F x a := by
  cases h with
  | cons h1 h2 =>
    cases h2
    exact ⟨_, rfl, h1⟩
theorem iEnum_ok (h : AOk K B ta sa) : IOk K B (iEnum K ta) (iE sa) := fun R F H σ ρ ds E q R k => by
  obtain ⟨es, e0, rfl⟩ := iE_inv q
  refine h _ F H σ ρ _ E e0 _ fun ws H1 G1 g1 b => ?_
  obtain ⟨x, rfl, b1⟩ := b.one
  have r2 := b1.dp
  cases r2 with
  | @lst a vs _ hR hA =>
    refine ⟨a, vs, rfl, .inl (.inl (g1.sub _ _ hR)), k _ H1 G1 g1 ⟨fun i G' H' al hi => ?_, fun i G' H' x H'' d al hd y => ?_, fun G' H' al => ⟨vs, .inl (.inl ((al.1.trans al.2) _ _ hR)), by rw [hA.len, enumD_len]; exact Nat.le_refl _⟩⟩⟩
    · rw [enumD_len] at hi
      obtain ⟨d, hd⟩ : ∃ d, es[i]? = some d := ⟨es[i], List.getElem?_eq_getElem hi⟩
      obtain ⟨v, hv, _⟩ := hA.get hd
      exact ⟨vs, v, .inl (.inl ((al.1.trans al.2) _ _ hR)), hv⟩
    · obtain ⟨T, v, rfl, hT, rfl, y⟩ := y
      have hx := y vs (.inl (.inl ((al.1.trans al.2) _ _ hR)))
      obtain ⟨d', hd', r⟩ := hA.getV hx
      rw [enumD_get, hd'] at hd
      have hd2 : d = .tuple [.int ((0 + i : Nat) : Nat), d'] := (Option.some.inj hd).symm
      have e00 : 0 + i = i := Nat.zero_add i
      rw [e00] at hd2
      subst hd2
      refine ⟨_, (Grow.refl al.2).new hT, .inl (.tup (.inl (.inl upd_same)) (.cons (.int _) (.cons ?_ .nil)))⟩
      exact dp_mono (al.1.trans (Same.upd_new (Same.refl G') (al.2.free hT))) d' r
end
end RT
namespace RT
open PySem PySem.Spec PyProof.Rows L2
/-! ### a comprehension: one name, its slot j -/
def lcF (j : Nat) (tst : STe) (el : SE) (ρ : Rho) : List PyData → Option (List PyData)
  | [] => some []
  | d :: ds => (tst (ρ.set j (.val d))).bind fun b =>
    if b = true then (el (ρ.set j (.val d))).bind fun e => if dataD e = true then (lcF j tst el ρ ds).map (e :: ·) else none
    else lcF j tst el ρ ds
def lLc (src : SA) (j : Nat) (tst : STe) (el : SE) : SA := fun ρ => (src ρ).bind fun ds => if ds.length ≤ LIM then lcF j tst el ρ ds else none
def tYesF : STe := fun _ => some true
theorem yes_ok {K : PySem.W.Frag} {B : Bs} : TOk K B tYes tYesF := fun R F H σ ρ b E q Q k => by
  cases q
  exact k H F (Grow.refl E.ex)
theorem EnvOk.setV {K : PySem.W.Frag} {B : Bs} {R F H : Hp} {σ : L2.St} {ρ : Rho} {v : V} {d : PyData} (E : EnvOk K B R F H σ ρ) (j : Nat) (r : Rp K F v d) : EnvOk K B R F H (σ.set j (some v)) (ρ.set j (.val d)) where
  bs := E.bs
  bh := E.bh
  bF := E.bF
  bo := E.bo
  rh := E.rh
  rF := E.rF
  rB := E.rB
  obj := fun i o h => by
    by_cases hij : j = i
    · subst hij
      by_cases hj : j < ρ.length
      · rw [List.getElem?_set_self hj] at h
        cases h
      · rw [List.getElem?_eq_none (by simpa using hj)] at h
        cases h
    · rw [List.getElem?_set_ne hij] at h ⊢
      exact E.obj i o h
  oa := fun a0 q i o a h h2 => by
    by_cases hij : j = i
    · subst hij
      by_cases hj : j < ρ.length
      · rw [List.getElem?_set_self hj] at h
        cases h
      · rw [List.getElem?_eq_none (by simpa using hj)] at h
        cases h
    · rw [List.getElem?_set_ne hij] at h h2
      exact E.oa a0 q i o a h h2
  ex := E.ex
  len := by simp [E.len]
  val := fun i d' h => by
    by_cases hij : j = i
    · subst hij
      by_cases hj : j < ρ.length
      · rw [List.getElem?_set_self hj] at h
        cases h
        exact ⟨v, by rw [List.getElem?_set_self (by rw [← E.len]; exact hj)], r⟩
      · rw [List.getElem?_eq_none (by simpa using hj)] at h
        cases h
    · rw [List.getElem?_set_ne hij] at h ⊢
      exact E.val i d' h
  own := fun i ds h => by
    by_cases hij : j = i
    · subst hij
      by_cases hj : j < ρ.length
      · rw [List.getElem?_set_self hj] at h
        cases h
      · rw [List.getElem?_eq_none (by simpa using hj)] at h
        cases h
    · rw [List.getElem?_set_ne hij] at h ⊢
      exact E.own i ds h
  dis := fun i k ds es p hik h1 h2 h3 h4 => by
    by_cases hij : j = i
    · subst hij
      by_cases hj : j < ρ.length
      · rw [List.getElem?_set_self hj] at h1
        cases h1
      · rw [List.getElem?_eq_none (by simpa using hj)] at h1
        cases h1
    · by_cases hkj : j = k
      · subst hkj
        by_cases hj : j < ρ.length
        · rw [List.getElem?_set_self hj] at h2
          cases h2
        · rw [List.getElem?_eq_none (by simpa using hj)] at h2
          cases h2
      · rw [List.getElem?_set_ne hij] at h1 h3
        rw [List.getElem?_set_ne hkj] at h2 h4
        exact E.dis i k ds es p hik h1 h2 h3 h4
theorem EnvOk.setN {K : PySem.W.Frag} {B : Bs} {R F H : Hp} {σ : L2.St} {ρ : Rho} (E : EnvOk K B R F H σ ρ) (j : Nat) (o : Option V) : EnvOk K B R F H (σ.set j o) (ρ.set j .no) where
  bs := E.bs
  bh := E.bh
  bF := E.bF
  bo := E.bo
  rh := E.rh
  rF := E.rF
  rB := E.rB
  obj := fun i o h => by
    by_cases hij : j = i
    · subst hij
      by_cases hj : j < ρ.length
      · rw [List.getElem?_set_self hj] at h
        cases h
      · rw [List.getElem?_eq_none (by simpa using hj)] at h
        cases h
    · rw [List.getElem?_set_ne hij] at h ⊢
      exact E.obj i o h
  oa := fun a0 q i o a h h2 => by
    by_cases hij : j = i
    · subst hij
      by_cases hj : j < ρ.length
      · rw [List.getElem?_set_self hj] at h
        cases h
      · rw [List.getElem?_eq_none (by simpa using hj)] at h
        cases h
    · rw [List.getElem?_set_ne hij] at h h2
      exact E.oa a0 q i o a h h2
  ex := E.ex
  len := by simp [E.len]
  val := fun i d' h => by
    by_cases hij : j = i
    · subst hij
      by_cases hj : j < ρ.length
      · rw [List.getElem?_set_self hj] at h
        cases h
      · rw [List.getElem?_eq_none (by simpa using hj)] at h
        cases h
    · rw [List.getElem?_set_ne hij] at h ⊢
      exact E.val i d' h
  own := fun i ds h => by
    by_cases hij : j = i
    · subst hij
      by_cases hj : j < ρ.length
      · rw [List.getElem?_set_self hj] at h
        cases h
      · rw [List.getElem?_eq_none (by simpa using hj)] at h
        cases h
    · rw [List.getElem?_set_ne hij] at h ⊢
      exact E.own i ds h
  dis := fun i k ds es p hik h1 h2 h3 h4 => by
    by_cases hij : j = i
    · subst hij
      by_cases hj : j < ρ.length
      · rw [List.getElem?_set_self hj] at h1
        cases h1
      · rw [List.getElem?_eq_none (by simpa using hj)] at h1
        cases h1
    · by_cases hkj : j = k
      · subst hkj
        by_cases hj : j < ρ.length
        · rw [List.getElem?_set_self hj] at h2
          cases h2
        · rw [List.getElem?_eq_none (by simpa using hj)] at h2
          cases h2
      · rw [List.getElem?_set_ne hij] at h1 h3
        rw [List.getElem?_set_ne hkj] at h2 h4
        exact E.dis i k ds es p hik h1 h2 h3 h4
theorem wipe1 (σ : L2.St) (j : Nat) : wipe σ [j] = σ.set j none := rfl
theorem wipe_back (σ : L2.St) (j : Nat) (o : Option V) : wipe ((wipe σ [j]).set j o) [j] = wipe σ [j] := by
  show ((σ.set j none).set j o).set j none = σ.set j none
  rw [List.set_set, List.set_set]
theorem drop_cons_of {α : Type} : ∀ {l : List α} {i : Nat} {x : α}, l[i]? = some x → l.drop i = x :: l.drop (i + 1)
  | [], i, x, h => by simp at h
  | a :: l, 0, x, h => by simp at h; subst h; rfl
  | a :: l, i + 1, x, h => by
    show l.drop i = x :: l.drop (i + 1)
    exact drop_cons_of (by simpa using h)
theorem lc_ok {K : PySem.W.Frag} {B : Bs} {wi : TI} {src : SA} {j : Nat} {tt : TT} {te : TE} {tst : STe} {el : SE} (hi : IBOk K B wi src) (ht : TOk K B tt tst) (he : EOk K B te el) : LOk K B (tLc wi (gName j) tt te [j]) (lLc src j tst el) := fun R F H σ ρ out E q Q k => by
  cases e0 : src ρ with
  | none => simp [lLc, e0] at q
  | some ds =>
    simp only [lLc, e0, Option.bind_some] at q
    split at q
    · rename_i hlen
      refine hi _ F H σ ρ ds E e0 _ fun J H1 G1 g1 w D hD => ?_
      have E1 : EnvOk K B R G1 H1 σ ρ := E.grow g1
      have hG1 : G1 D = none := g1.sub.free hD
      -- W: the turn, the measure, what the new list holds
      refine ⟨fun i m H' => m = ds.length - i ∧ i ≤ ds.length ∧ ∃ (G' : Hp) (acc : List V) (es rest : List PyData), Grow H1 G1 H' G' ∧ G' D = none ∧ H' D = some (.lst acc) ∧ DqAll K G' acc es ∧ acc.length ≤ i ∧ lcF j tst el ρ (ds.drop i) = some rest ∧ out = es ++ rest,
        ⟨ds.length, by simp, Nat.zero_le _, G1, [], [], out, (Grow.refl g1.sub).beside hD, hG1, upd_same, .nil, Nat.le_refl _, q, rfl⟩, ?_⟩
      rintro i m H' ⟨rfl, hile, G', acc, es, rest, g', hD', hacc, hA, hal, hr, hout⟩
      have al : Same G1 G' ∧ Same G' H' ∧ Same H1 H' := ⟨g'.f, g'.sub, g'.h⟩
      by_cases hlt : i < ds.length
      · refine .inr ⟨w.go i G' H' al hlt, fun H2 => ∃ m', m' < ds.length - i ∧ (m' = ds.length - (i + 1) ∧ i + 1 ≤ ds.length ∧ ∃ (G' : Hp) (acc : List V) (es rest : List PyData), Grow H1 G1 H2 G' ∧ G' D = none ∧ H2 D = some (.lst acc) ∧ DqAll K G' acc es ∧ acc.length ≤ i + 1 ∧ lcF j tst el ρ (ds.drop (i + 1)) = some rest ∧ out = es ++ rest),
          fun H2 h => h, fun x H2 y => ?_⟩
        have hd : ds[i]? = some ds[i] := List.getElem?_eq_getElem hlt
        obtain ⟨G2, g2, r2⟩ := w.yld i G' H' x H2 _ al hd y
        rw [drop_cons_of hd] at hr
        have E2 : EnvOk K B R G2 H2 ((wipe σ [j]).set j (some x)) (ρ.set j (.val ds[i])) := by
          have z := (((E1.grow g').grow g2).setN j none).setV j r2
          have e : (ρ.set j .no).set j (.val ds[i]) = ρ.set j (.val ds[i]) := List.set_set ..
          rw [e] at z
          exact z
        have nD : ∀ {H3 G3 : Hp}, Grow H2 G2 H3 G3 → G3 D = none ∧ H3 D = some (.lst acc) := fun g3 => by
          have z : Grow H' G' _ _ := g2.trans g3
          exact ⟨z.no D hD' (by rw [hacc]; intro z; cases z), z.h _ _ hacc⟩
        refine ⟨wipe_back σ j (some x), ?_⟩
        cases et : tst (ρ.set j (.val ds[i])) with
        | none => simp [lcF, et] at hr
        | some b =>
          refine ht _ G2 H2 _ _ b E2 et _ fun H3 G3 g3 => ?_
          cases b with
          | false =>
            have hr' : lcF j tst el ρ (ds.drop (i + 1)) = some rest := by simpa [lcF, et] using hr
            show ∃ m', _
            exact ⟨_, by omega, rfl, hlt, G3, acc, es, rest, (g'.trans g2).trans g3, (nD g3).1, (nD g3).2, dpa_mono (g2.f.trans g3.f) es hA, by omega, hr', hout⟩
          | true =>
            show te _ H3 _
            cases ee : el (ρ.set j (.val ds[i])) with
            | none => simp [lcF, et, ee] at hr
            | some e =>
              by_cases hde : dataD e = true
              · cases hrr : lcF j tst el ρ (ds.drop (i + 1)) with
                | none => simp [lcF, et, ee, hde, hrr] at hr
                | some rest' =>
                  have hr' : rest = e :: rest' := by simpa [lcF, et, ee, hde, hrr] using hr.symm
                  refine he _ G3 H3 _ _ e (E2.grow g3) ee _ fun y H4 G4 g4 r4 => ?_
                  have n4 := nD (g3.trans g4)
                  have gg := ((g'.trans g2).trans g3).trans g4
                  refine ⟨acc, n4.2, Nat.lt_of_lt_of_le (show acc.length < LIM + 1 by omega) (by decide), ds.length - (i + 1), by omega, rfl, hlt, G4, acc ++ [y], es ++ [e], rest', ⟨?_, gg.f, ?_, gg.no⟩, n4.1, upd_same, ?_, by rw [List.length_append]; simp; omega, rfl, by rw [hout, hr']; simp⟩
                  · intro b o z
                    rw [upd_ne (ne_of_none z hD)]
                    exact gg.h b o z
                  · intro b o z
                    rw [upd_ne (ne_of_none z n4.1)]
                    exact gg.sub b o z
                  · exact (dpa_mono ((g2.f.trans g3.f).trans g4.f) es hA).append (.cons (r4.dp (by rintro l rfl; cases hde)) .nil)
              · simp [lcF, et, ee, hde] at hr
      · have e : i = ds.length := by omega
        subst e
        rw [List.drop_length] at hr
        cases hr
        rw [List.append_nil] at hout
        subst hout
        exact .inl ⟨w.stop G' H' al, k D acc H' G' (g1.trans g') (g1.h.free hD) hD' hacc hA⟩
    · cases q
end RT
namespace RT
open PySem PySem.Spec PyProof.Rows L2
/-! ### statements -/
/-- where a function began: what it may change, the heap, the data -/
structure St0 where
  m : Hp
  h : Hp
  g : Hp
structure GrowM (Z : St0) (H F : Hp) : Prop where
  h : ∀ a o, Z.m a = none → Z.h a = some o → H a = some o
  al : ∀ a, Z.h a ≠ none → H a ≠ none
  f : Same Z.g F
  sub : Same F H
  no : ∀ a, Z.g a = none → Z.h a ≠ none → F a = none
theorem GrowM.grow {Z : St0} {H F H' G : Hp} (a : GrowM Z H F) (g : Grow H F H' G) : GrowM Z H' G where
  h := fun x o h1 h2 => g.h x o (a.h x o h1 h2)
  al := fun x h1 h2 => a.al x h1 (g.h.free h2)
  f := a.f.trans g.f
  sub := g.sub
  no := fun x h1 h2 => g.no x (a.no x h1 h2) (a.al x h2)
structure StOk (K : PySem.W.Frag) (B : Bs) (Z : St0) (R F H : Hp) (σ : L2.St) (ρ : Rho) : Prop where
  env : EnvOk K B R F H σ ρ
  gr : GrowM Z H F
  fr : ∀ (i : Nat) (ds : List PyData) (p : Addr), ρ[i]? = some (.own ds) → σ[i]? = some (some (.ref p)) → Z.h p = none
  fo : ∀ a, R a ≠ none → Z.m a ≠ none ∨ Z.h a = none
abbrev XW := Str → L2.St → Hp → Prop
/-- what is wanted of an outcome -/
def Goes (K : PySem.W.Frag) (B : Bs) (Z : St0) (F : Hp) (D : Ends) (W : XW) : Out → Prop
  | .no => False
  | .nx ρ => ∀ σ H R F', StOk K B Z R F' H σ ρ → Same F F' → D.nx σ H
  | .rt d ρ => ∀ v σ H R F', StOk K B Z R F' H σ ρ → Same F F' → Rp K F' v d → D.rt v H
  | .ex c ρ => ∀ σ H R F', StOk K B Z R F' H σ ρ → Same F F' → W c σ H
  | .ro i ρ => ∀ v σ H R F', StOk K B Z R F' H σ ρ → σ[i]? = some (some v) → Same F F' → D.rt v H
def SSOk (K : PySem.W.Frag) (B : Bs) (W : XW) (t : TS) (f : SS) : Prop := ∀ (Z : St0) (R F H : Hp) (σ : L2.St) (ρ : Rho) (D : Ends), StOk K B Z R F H σ ρ → Goes K B Z F D W (f ρ) → t D σ H
structure SemS (X : Cx) (K : PySem.W.Frag) (B : Bs) (W : XW) (st : Stmt) (t : TS) (f : SS) : Prop where
  ps : PS X st t
  ok : SSOk K B W t f
structure SemSs (X : Cx) (K : PySem.W.Frag) (B : Bs) (W : XW) (st : List Stmt) (t : TS) (f : SS) : Prop where
  ps : PSs X st t
  ok : SSOk K B W t f
def sSeq (f g : SS) : SS := fun ρ => match f ρ with
  | .no => .no
  | .nx r => g r
  | .rt d r => .rt d r
  | .ex c r => .ex c r
  | .ro i r => .ro i r
def sNext : SS := fun ρ => .nx ρ
def sSet (i : Nat) (f : SE) : SS := fun ρ => match f ρ with
  | some d => .nx (ρ.set i (.val d))
  | none => .no
def sSetL (i : Nat) (f : SA) : SS := fun ρ => match f ρ with
  | some ds => .nx (ρ.set i (.own ds))
  | none => .no
def sDrop (f : SE) : SS := fun ρ => match f ρ with
  | some _ => .nx ρ
  | none => .no
def sIf (t : STe) (f g : SS) : SS := fun ρ => match t ρ with
  | some true => f ρ
  | some false => g ρ
  | none => .no
def frz1 : Sl → Sl
  | .own ds => .val (.list ds)
  | s => s
def sRet (f : SE) : SS := fun ρ => match f (ρ.map frz1) with
  | some d => .rt d (ρ.map frz1)
  | none => .no
def sRetN : SS := fun ρ => .rt .none ρ
def sApp (i : Nat) (f : SE) : SS := fun ρ => match ρ[i]?, f ρ with
  | some (.own ds), some d => if dataD d = true ∧ ds.length ≤ LIM then .nx (ρ.set i (.own (ds ++ [d]))) else .no
  | _, _ => .no
def sPut (i : Nat) (ix f : SE) : SS := fun ρ => match ρ[i]?, f ρ, ix ρ with
  | some (.own ds), some d, some (.int k) => match ixN ds.length k with
    | some j => if dataD d = true then .nx (ρ.set i (.own (ds.set j d))) else .no
    | none => .no
  | _, _, _ => .no
def forF (tg : PyData → Rho → Option Rho) (body : SS) : List PyData → Rho → Out
  | [], ρ => .nx ρ
  | d :: ds, ρ => match tg d ρ with
    | none => .no
    | some r => match body r with
      | .no => .no
      | .nx r2 => forF tg body ds r2
      | .rt e r2 => .rt e r2
      | .ex c r2 => .ex c r2
      | .ro i r2 => .ro i r2
def sFor (src : SA) (tg : PyData → Rho → Option Rho) (body : SS) : SS := fun ρ => match src ρ with
  | some ds => forF tg body ds ρ
  | none => .no
def tg1 (j : Nat) : PyData → Rho → Option Rho := fun d ρ => some (ρ.set j (.val d))
def tg2 (i j : Nat) : PyData → Rho → Option Rho := fun d ρ => match d with
  | .tuple [a, b] => some ((ρ.set i (.val a)).set j (.val b))
  | _ => none

section
variable {K : PySem.W.Frag} {B : Bs} {Z : St0} {R F F' H : Hp} {W : XW} {σ : L2.St} {ρ : Rho} {D : Ends}
theorem Goes.mono {o : Out} (h : Goes K B Z F D W o) (e : Same F F') : Goes K B Z F' D W o := by
  cases o with
  | no => exact h
  | nx r => exact fun σ H R F2 s e2 => h σ H R F2 s (e.trans e2)
  | rt d r => exact fun v σ H R F2 s e2 r => h v σ H R F2 s (e.trans e2) r
  | ex c r => exact fun σ H R F2 s e2 => h σ H R F2 s (e.trans e2)
  | ro i r => exact fun v σ H R F2 s e1 e2 => h v σ H R F2 s e1 (e.trans e2)
theorem StOk.grow {G H' : Hp} (s : StOk K B Z R F H σ ρ) (g : Grow H F H' G) : StOk K B Z R G H' σ ρ := ⟨s.env.grow g, s.gr.grow g, s.fr, s.fo⟩
theorem StOk.setV {v : V} {d : PyData} (s : StOk K B Z R F H σ ρ) (j : Nat) (r : Rp K F v d) : StOk K B Z R F H (σ.set j (some v)) (ρ.set j (.val d)) :=
  ⟨s.env.setV j r, s.gr, fun i ds p h1 h2 => by
    by_cases hij : j = i
    · subst hij
      by_cases hj : j < ρ.length
      · rw [List.getElem?_set_self hj] at h1
        cases h1
      · rw [List.getElem?_eq_none (by simpa using hj)] at h1
        cases h1
    · rw [List.getElem?_set_ne hij] at h1 h2
      exact s.fr i ds p h1 h2, s.fo⟩
theorem next_ok : SSOk K B W tNext sNext := fun Z R F H σ ρ D s g => g σ H R F s (Same.refl F)
theorem seq_ok {t u : TS} {f g : SS} (k1 : SSOk K B W t f) (k2 : SSOk K B W u g) : SSOk K B W (tSeq t u) (sSeq f g) := fun Z R F H σ ρ D s hg => by
  refine k1 Z R F H σ ρ _ s ?_
  unfold sSeq at hg
  cases e : f ρ with
  | no => rw [e] at hg; exact hg
  | nx r =>
    rw [e] at hg
    exact fun σ' H' R' F' s' e' => k2 Z R' F' H' σ' r D s' (Goes.mono (o := g r) hg e')
  | rt d r => rw [e] at hg; exact hg
  | ex c r => rw [e] at hg; exact hg
  | ro i r => rw [e] at hg; exact hg
theorem set_ok {te : TE} {f : SE} (i : Nat) (k : EOk K B te f) : SSOk K B W (tAsg te (gName i)) (sSet i f) := fun Z R F H σ ρ D s hg => by
  unfold sSet at hg
  cases e : f ρ with
  | none => rw [e] at hg; exact hg.elim
  | some d =>
    rw [e] at hg
    exact k _ F H σ ρ d s.env e _ fun v H' G g r => hg _ H' R G ((s.grow g).setV i r) g.f
theorem StOk.setL {p : Addr} {vs : List V} {ds : List PyData} {H' G : Hp} (s : StOk K B Z R F H σ ρ) (g : Grow H F H' G) (j : Nat) (h1 : H p = none) (h2 : G p = none) (h3 : H' p = some (.lst vs)) (h4 : DqAll K G vs ds) :
    StOk K B Z R G H' (σ.set j (some (.ref p))) (ρ.set j (.own ds)) := by
  have s' := s.grow g
  have old : ∀ (i : Nat) (es : List PyData), ρ[i]? = some (.own es) → σ[i]? = some (some (.ref p)) → False := fun i es q1 q2 => by
    obtain ⟨p', vs', e1, e2, _⟩ := s.env.own i es q1
    rw [q2] at e1; cases e1
    rw [h1] at e2; cases e2
  refine ⟨⟨s'.env.bs, s'.env.bh, s'.env.bF, s'.env.bo, s'.env.ex, s'.env.rh, s'.env.rF, s'.env.rB, by simp [s'.env.len], fun i d h => ?_, fun i es h => ?_, fun i k es fs q hik q1 q2 q3 q4 => ?_, fun i o h => ?_, fun a0 q i o a h h2 => ?_⟩, s'.gr, fun i es q q1 q2 => ?_, s.fo⟩
  · by_cases hij : j = i
    · subst hij
      by_cases hj : j < ρ.length
      · rw [List.getElem?_set_self hj] at h
        cases h
      · rw [List.getElem?_eq_none (by simpa using hj)] at h
        cases h
    · rw [List.getElem?_set_ne hij] at h ⊢
      exact s'.env.val i d h
  · by_cases hij : j = i
    · subst hij
      by_cases hj : j < ρ.length
      · rw [List.getElem?_set_self hj] at h
        cases h
        exact ⟨p, vs, by rw [List.getElem?_set_self (by rw [← s.env.len]; exact hj)], h3, h4, h2, s.env.rh.free h1, s.env.bh.free h1⟩
      · rw [List.getElem?_eq_none (by simpa using hj)] at h
        cases h
    · rw [List.getElem?_set_ne hij] at h ⊢
      exact s'.env.own i es h
  · by_cases hij : j = i
    · subst hij
      have hjl : j < ρ.length := by
        have := (List.getElem?_eq_some_iff.mp q1).1
        simpa using this
      rw [List.getElem?_set_self (by rw [← s.env.len]; exact hjl)] at q3
      cases q3
      rw [List.getElem?_set_ne hik] at q2 q4
      exact old k fs q2 q4
    · by_cases hkj : j = k
      · subst hkj
        have hjl : j < ρ.length := by
          have := (List.getElem?_eq_some_iff.mp q2).1
          simpa using this
        rw [List.getElem?_set_self (by rw [← s.env.len]; exact hjl)] at q4
        cases q4
        rw [List.getElem?_set_ne hij] at q1 q3
        exact old i es q1 q3
      · rw [List.getElem?_set_ne hij] at q1 q3
        rw [List.getElem?_set_ne hkj] at q2 q4
        exact s.env.dis i k es fs q hik q1 q2 q3 q4
  · by_cases hij : j = i
    · subst hij
      by_cases hj : j < ρ.length
      · rw [List.getElem?_set_self hj] at h
        cases h
      · rw [List.getElem?_eq_none (by simpa using hj)] at h
        cases h
    · rw [List.getElem?_set_ne hij] at h ⊢
      exact s'.env.obj i o h
  · by_cases hij : j = i
    · subst hij
      by_cases hj : j < ρ.length
      · rw [List.getElem?_set_self hj] at h
        cases h
      · rw [List.getElem?_eq_none (by simpa using hj)] at h
        cases h
    · rw [List.getElem?_set_ne hij] at h h2
      exact s.env.oa a0 q i o a h h2
  · by_cases hij : j = i
    · subst hij
      have hjl : j < ρ.length := by
        have := (List.getElem?_eq_some_iff.mp q1).1
        simpa using this
      rw [List.getElem?_set_self (by rw [← s.env.len]; exact hjl)] at q2
      cases q2
      cases z : Z.h p with
      | none => rfl
      | some u => exact absurd h1 (s.gr.al p (by rw [z]; intro q; cases q))
    · rw [List.getElem?_set_ne hij] at q1 q2
      exact s.fr i es q q1 q2
theorem setL_ok {te : TE} {f : SA} (i : Nat) (k : LOk K B te f) : SSOk K B W (tAsg te (gName i)) (sSetL i f) := fun Z R F H σ ρ D s hg => by
  unfold sSetL at hg
  cases e : f ρ with
  | none => rw [e] at hg; exact hg.elim
  | some ds =>
    rw [e] at hg
    exact k _ F H σ ρ ds s.env e _ fun p vs H' G g h1 h2 h3 h4 => hg _ H' R G (s.setL g i h1 h2 h3 h4) g.f
theorem drop_ok {te : TE} {f : SE} (k : EOk K B te f) : SSOk K B W (tDrop te) (sDrop f) := fun Z R F H σ ρ D s hg => by
  unfold sDrop at hg
  cases e : f ρ with
  | none => rw [e] at hg; exact hg.elim
  | some d =>
    rw [e] at hg
    exact k _ F H σ ρ d s.env e _ fun v H' G g r => hg _ H' R G (s.grow g) g.f
theorem ifS_ok {tc : TT} {t u : TS} {c : STe} {f g : SS} (k0 : TOk K B tc c) (k1 : SSOk K B W t f) (k2 : SSOk K B W u g) : SSOk K B W (tIfS tc t u) (sIf c f g) := fun Z R F H σ ρ D s hg => by
  unfold sIf at hg
  cases e : c ρ with
  | none => rw [e] at hg; exact hg.elim
  | some b =>
    rw [e] at hg
    refine k0 _ F H σ ρ b s.env e _ fun H' G g => ?_
    cases b with
    | true =>
      show t D σ H'
      exact k1 Z R G H' σ ρ D (s.grow g) (Goes.mono hg g.f)
    | false =>
      show u D σ H'
      exact k2 Z R G H' σ ρ D (s.grow g) (Goes.mono hg g.f)
/-- own lists become data -/
theorem StOk.frz (s : StOk K B Z R F H σ ρ) : ∃ F', Same F F' ∧ StOk K B Z R F' H σ (ρ.map frz1) := by
  classical
  let own : Addr → Prop := fun a => ∃ (i : Nat) (ds : List PyData), ρ[i]? = some (.own ds) ∧ σ[i]? = some (some (.ref a))
  have oF : ∀ a, own a → F a = none ∧ (∃ u, H a = some u) ∧ Z.h a = none ∧ R a = none ∧ B.h a = none := fun a ⟨i, ds, h1, h2⟩ => by
    obtain ⟨p, vs, e1, e2, e3, e4, e5, e6⟩ := s.env.own i ds h1
    rw [h2] at e1; cases e1
    exact ⟨e4, ⟨_, e2⟩, s.fr i ds a h1 h2, e5, e6⟩
  have sm : Same F (fun a => if own a then H a else F a) := fun a o h => by
    by_cases ho : own a
    · rw [(oF a ho).1] at h; cases h
    · show (if own a then H a else F a) = some o
      rw [if_neg ho]; exact h
  have sb : Same (fun a => if own a then H a else F a) H := fun a o h => by
    have h' : (if own a then H a else F a) = some o := h
    by_cases ho : own a
    · rw [if_pos ho] at h'; exact h'
    · rw [if_neg ho] at h'; exact s.env.ex a o h'
  have val2 : ∀ (i : Nat) (x : Sl), (ρ.map frz1)[i]? = some x → ∃ y, ρ[i]? = some y ∧ frz1 y = x := fun i x h => by
    rw [List.getElem?_map] at h
    cases e : ρ[i]? with
    | none => rw [e] at h; cases h
    | some y => rw [e] at h; exact ⟨y, rfl, Option.some.inj h⟩
  have noown : ∀ (i : Nat) (ds : List PyData), (ρ.map frz1)[i]? = some (.own ds) → False := fun i ds h => by
    obtain ⟨y, _, e⟩ := val2 i _ h
    cases y <;> cases e
  refine ⟨_, sm, ⟨s.env.bs.trans sm, s.env.bh, fun a ha => ?_, s.env.bo, sb, s.env.rh, fun a ha => ?_, s.env.rB, by simp [s.env.len], fun i d h => ?_, fun i ds h => (noown i ds h).elim, fun i j ds es p _ h _ _ _ => noown i ds h, fun i o h => ?_, fun a0 q i o a h h2 => ?_⟩, ⟨s.gr.h, s.gr.al, s.gr.f.trans sm, sb, fun a h1 h2 => ?_⟩, fun i ds p h _ => (noown i ds h).elim, s.fo⟩
  · show (if own a then H a else F a) = none
    by_cases ho : own a
    · exact absurd (oF a ho).2.2.2.2 ha
    · rw [if_neg ho]; exact s.env.bF a ha
  · show (if own a then H a else F a) = none
    by_cases ho : own a
    · exact absurd (oF a ho).2.2.2.1 ha
    · rw [if_neg ho]; exact s.env.rF a ha
  · obtain ⟨y, hy, e⟩ := val2 i _ h
    cases y with
    | no => cases e
    | val d' =>
      cases e
      obtain ⟨v, e1, e2⟩ := s.env.val i d hy
      exact ⟨v, e1, e2.mono sm⟩
    | own ds =>
      cases e
      obtain ⟨p, vs, e1, e2, e3, e4, _⟩ := s.env.own i ds hy
      refine ⟨.ref p, e1, .inl (.lst ?_ (dpa_mono sm ds e3))⟩
      show (if own p then H p else F p) = some (.lst vs)
      rw [if_pos ⟨i, ds, hy, e1⟩]
      exact e2
    | obj o => cases e
  · obtain ⟨y, hy, e⟩ := val2 i _ h
    cases y with
    | no => cases e
    | val d' => cases e
    | own ds => cases e
    | obj o' =>
      cases e
      obtain ⟨a, e1, e2⟩ := s.env.obj i o hy
      exact ⟨a, e1, e2.mono sm (Same.refl R)⟩
  · obtain ⟨y, hy, e⟩ := val2 i _ h
    cases y with
    | no => cases e
    | val d' => cases e
    | own ds => cases e
    | obj o' =>
      cases e
      exact s.env.oa a0 q i o a hy h2
  · show (if own a then H a else F a) = none
    by_cases ho : own a
    · exact absurd (oF a ho).2.2.1 h2
    · rw [if_neg ho]
      exact s.gr.no a h1 h2
theorem ret_ok {te : TE} {f : SE} (k : EOk K B te f) : SSOk K B W (tRet te) (sRet f) := fun Z R F H σ ρ D s hg => by
  unfold sRet at hg
  obtain ⟨F', e1, s'⟩ := s.frz
  cases e : f (ρ.map frz1) with
  | none => rw [e] at hg; exact hg.elim
  | some d =>
    rw [e] at hg
    exact k _ F' H σ _ d s'.env e _ fun v H' G g r => hg v σ H' R G (s'.grow g) (e1.trans g.f) r
theorem retN_ok : SSOk K B W tRetN sRetN := fun Z R F H σ ρ D s hg => hg .non σ H R F s (Same.refl F) rp_non
/-- an own list changes -/
theorem StOk.upd {p : Addr} {vs : List V} {ds es : List PyData} (s : StOk K B Z R F H σ ρ) (j : Nat) (h1 : ρ[j]? = some (.own ds)) (h2 : σ[j]? = some (some (.ref p))) (h4 : DqAll K F vs es) :
    StOk K B Z R F (L2.upd H p (.lst vs)) σ (ρ.set j (.own es)) := by
  obtain ⟨p', vs', e1, e2, e3, e4, e5, e6⟩ := s.env.own j ds h1
  rw [h2] at e1; cases e1
  have hp := s.fr j ds p h1 h2
  have sub : Same F (L2.upd H p (.lst vs)) := fun a o h => by
    rw [upd_ne (ne_of_none h e4)]; exact s.env.ex a o h
  refine ⟨⟨s.env.bs, fun a o h => by rw [upd_ne (ne_of_none h e6)]; exact s.env.bh a o h, s.env.bF, s.env.bo, sub, fun a o h => by rw [upd_ne (ne_of_none h e5)]; exact s.env.rh a o h, s.env.rF, s.env.rB, by simp [s.env.len], fun i d h => ?_, fun i fs h => ?_, fun i k fs gs q hik q1 q2 q3 q4 => ?_, fun i o h => ?_, fun a0 q i o a h hs => ?_⟩,
    ⟨fun a o h0 h => by rw [upd_ne (ne_of_none h hp)]; exact s.gr.h a o h0 h, fun a h0 => by
      by_cases ha : a = p
      · rw [ha, upd_same]; intro z; cases z
      · rw [upd_ne ha]; exact s.gr.al a h0, s.gr.f, sub, s.gr.no⟩, fun i fs q q1 q2 => ?_, s.fo⟩
  · by_cases hij : j = i
    · subst hij
      rw [List.getElem?_set_self (List.getElem?_eq_some_iff.mp h1).1] at h
      cases h
    · rw [List.getElem?_set_ne hij] at h
      exact s.env.val i d h
  · by_cases hij : j = i
    · subst hij
      rw [List.getElem?_set_self (List.getElem?_eq_some_iff.mp h1).1] at h
      cases h
      exact ⟨p, vs, h2, upd_same, h4, e4, e5, e6⟩
    · rw [List.getElem?_set_ne hij] at h
      obtain ⟨p2, vs2, g1, g2, g3, g4, g5⟩ := s.env.own i fs h
      refine ⟨p2, vs2, g1, ?_, g3, g4, g5⟩
      rw [upd_ne (fun z => s.env.dis i j fs ds p2 (Ne.symm hij) h h1 g1 (by rw [z]; exact h2))]
      exact g2
  · by_cases hij : j = i
    · subst hij
      rw [List.getElem?_set_ne hik] at q2
      exact s.env.dis j k ds gs q hik h1 q2 q3 q4
    · by_cases hkj : j = k
      · subst hkj
        rw [List.getElem?_set_ne hij] at q1
        exact s.env.dis i j fs ds q hik q1 h1 q3 q4
      · rw [List.getElem?_set_ne hij] at q1
        rw [List.getElem?_set_ne hkj] at q2
        exact s.env.dis i k fs gs q hik q1 q2 q3 q4
  · by_cases hij : j = i
    · subst hij
      rw [List.getElem?_set_self (List.getElem?_eq_some_iff.mp h1).1] at h
      cases h
    · rw [List.getElem?_set_ne hij] at h
      exact s.env.obj i o h
  · by_cases hij : j = i
    · subst hij
      rw [List.getElem?_set_self (List.getElem?_eq_some_iff.mp h1).1] at h
      cases h
    · rw [List.getElem?_set_ne hij] at h
      exact s.env.oa a0 q i o a h hs
  · by_cases hij : j = i
    · subst hij
      exact s.fr j ds q h1 q2
    · rw [List.getElem?_set_ne hij] at q1
      exact s.fr i fs q q1 q2
theorem app_okS {te : TE} {f : SE} (i : Nat) (k : EOk K B te f) : SSOk K B W (tDrop (tBM K "list" rAppend (tVar i) (tCons te tNil))) (sApp i f) := fun Z R F H σ ρ D s hg => by
  unfold sApp at hg
  split at hg
  · rename_i ds d h1 h2
    split at hg
    · rename_i hc
      obtain ⟨p, vs, e1, e2, e3, e4, _⟩ := s.env.own i ds h1
      refine ⟨.ref p, e1, .inl ⟨rfl, vs, .inl (.inl e2)⟩, ?_⟩
      refine k _ F H σ ρ d s.env h2 _ fun v H' G g r => ?_
      refine ⟨p, vs, v, rfl, rfl, g.h _ _ e2, Nat.lt_of_lt_of_le (show vs.length < LIM + 1 by rw [e3.len]; omega) (by decide), ?_⟩
      exact hg _ _ R G ((s.grow g).upd i h1 e1 ((dpa_mono g.f ds e3).append (.cons (r.dp (by rintro l rfl; cases hc.1)) .nil))) g.f
    · exact hg.elim
  · exact hg.elim
theorem put_okS {te tix : TE} {f ix : SE} (i : Nat) (k : EOk K B te f) (kx : EOk K B tix ix) : SSOk K B W (tAsg te (gSub (tVar i) tix rSetL)) (sPut i ix f) := fun Z R F H σ ρ D s hg => by
  unfold sPut at hg
  split at hg
  · rename_i ds d kk h1 h2 h3
    split at hg
    · rename_i j hj
      split at hg
      · rename_i hc
        obtain ⟨p, vs, e1, e2, e3, e4, _⟩ := s.env.own i ds h1
        refine k _ F H σ ρ d s.env h2 _ fun v H' G g r => ⟨.ref p, e1, ?_⟩
        refine kx _ G H' σ ρ _ (s.env.grow g) h3 _ fun u H2 G2 g2 r2 => ?_
        refine ⟨p, vs, kk, j, rfl, Bp.int (H := G2) (.inl r2), (g.trans g2).h _ _ e2, by rw [e3.len]; exact hj, ?_⟩
        exact hg _ _ R G2 (((s.grow g).grow g2).upd i h1 e1 ((dpa_mono (g.f.trans g2.f) ds e3).set ((r.mono g2.f).dp (by rintro l rfl; cases hc)) j)) (g.f.trans g2.f)
      · exact hg.elim
    · exact hg.elim
  · exact hg.elim
/-- a target -/
def TGOk (K : PySem.W.Frag) (g : TG) (tg : PyData → Rho → Option Rho) : Prop := ∀ (B : Bs) (Z : St0) (R F H : Hp) (σ : L2.St) (ρ ρ1 : Rho) (v : V) (d : PyData), StOk K B Z R F H σ ρ → Rp K F v d → tg d ρ = some ρ1 →
  ∀ Q : L2.St → Hp → Prop, (∀ σ1, StOk K B Z R F H σ1 ρ1 → Q σ1 H) → g v σ H Q
theorem tg1_ok (j : Nat) : TGOk K (gName j) (tg1 j) := fun B Z R F H σ ρ ρ1 v d s r q Q k => by
  cases q
  exact k _ (s.setV j r)
theorem tg2_ok (i j : Nat) : TGOk K (gTup K 2 (gCons (gName i) (gCons (gName j) gNil))) (tg2 i j) := fun B Z R F H σ ρ ρ1 v d s r q Q k => by
  unfold tg2 at q
  split at q
  · rename_i a b
    cases q
    have r2 := r.dp
    cases r2 with
    | @tup p vs _ hs ha =>
      cases ha with
      | @cons v1 _ _ _ h1 h2 =>
        cases h2 with
        | @cons v2 _ _ _ h2 h3 =>
          cases h3
          refine ⟨p, [v1, v2], rfl, same_t s.env.ex hs, rfl, v1, [v2], rfl, v2, [], rfl, rfl, ?_⟩
          exact k _ ((s.setV i (.inl h1)).setV j (.inl h2))
  · cases q
theorem for_okS {wi : TI} {g : TG} {tb : TS} {src : SA} {tg : PyData → Rho → Option Rho} {body : SS} (hi : IOk K B wi src) (ht : TGOk K g tg) (kb : SSOk K B W tb body) : SSOk K B W (tFor wi g tb) (sFor src tg body) := fun Z R F H σ ρ D s hg => by
  unfold sFor at hg
  cases e0 : src ρ with
  | none => rw [e0] at hg; exact hg.elim
  | some ds =>
    rw [e0] at hg
    refine hi _ F H σ ρ ds s.env e0 _ fun J H1 G1 g1 w => ?_
    have s1 := s.grow g1
    refine ⟨fun i m σ' H' => m = ds.length - i ∧ i ≤ ds.length ∧ ∃ (R' F' : Hp) (ρ' : Rho), StOk K B Z R' F' H' σ' ρ' ∧ Same G1 F' ∧ Goes K B Z F' D W (forF tg body (ds.drop i) ρ'),
      ⟨ds.length, by simp, Nat.zero_le _, R, G1, ρ, s1, Same.refl G1, Goes.mono hg g1.f⟩, ?_⟩
    rintro i m σ' H' ⟨rfl, hile, R', F', ρ', s', e', hg'⟩
    have al : Same G1 F' ∧ Same F' H' := ⟨e', s'.env.ex⟩
    by_cases hlt : i < ds.length
    · have hd : ds[i]? = some ds[i] := List.getElem?_eq_getElem hlt
      rw [drop_cons_of hd] at hg'
      refine .inr ⟨w.go i F' H' al hlt, fun σ2 H2 => ∃ m', m' < ds.length - i ∧ (m' = ds.length - (i + 1) ∧ i + 1 ≤ ds.length ∧ ∃ (R' F' : Hp) (ρ' : Rho), StOk K B Z R' F' H2 σ2 ρ' ∧ Same G1 F' ∧ Goes K B Z F' D W (forF tg body (ds.drop (i + 1)) ρ')),
        fun σ2 H2 h => h, fun x H2 y => ?_⟩
      obtain ⟨F2, g2, r2⟩ := w.yld i F' H' x H2 _ al hd y
      unfold forF at hg'
      cases et : tg ds[i] ρ' with
      | none => rw [et] at hg'; exact hg'.elim
      | some r =>
        rw [et] at hg'
        refine ht B Z R' F2 H2 σ' ρ' r x _ (s'.grow g2) r2 et _ fun σ1 s3 => ?_
        refine kb Z R' F2 H2 σ1 r _ s3 ?_
        cases eb : body r with
        | no =>
          simp only [eb] at hg'
          exact hg'.elim
        | nx r2 =>
          simp only [eb] at hg'
          exact fun σ4 H4 R4 F4 s4 e4 => ⟨_, by omega, rfl, hlt, R4, F4, r2, s4, (e'.trans g2.f).trans e4, Goes.mono hg' (g2.f.trans e4)⟩
        | rt d r2 =>
          simp only [eb] at hg'
          exact Goes.mono (o := .rt d r2) hg' g2.f
        | ex c r2 =>
          simp only [eb] at hg'
          exact Goes.mono (o := .ex c r2) hg' g2.f
        | ro i r2 =>
          simp only [eb] at hg'
          exact Goes.mono (o := .ro i r2) hg' g2.f
    · have e : i = ds.length := by omega
      subst e
      rw [List.drop_length] at hg'
      exact .inl ⟨w.stop F' H' al, hg' σ' H' R' F' s' (Same.refl F')⟩
end
end RT
namespace RT
open PySem PySem.Spec PyProof.Rows L2
/-! ### the words of a derivation -/
section
variable {X : Cx} {K : PySem.W.Frag} {B : Bs} {W : XW} {e a b c d : Expr} {es : List Expr} {t t1 t2 t3 t4 : TE} {ta : TA} {f f1 f2 f3 f4 : SE} {sa : SA} {pos : Pos} {tt u : TT} {g h : STe}
theorem se_var (i : Nat) {x : Str} {pos : Pos} (hN : X.N[i]? = some x := by rfl) (hv : Vis X.env.scope x := by first | exact Or.inl rfl | exact Or.inr (Or.inl rfl) | exact Or.inr (Or.inr rfl)) (hd : (x == ("__debug__" : Str)) = false := by decide)
    (hcd : (x == ("__classdict__" : Str)) = false := by decide) : SemE X K B (.Name x pos) (tVar i) (eVar i) := ⟨pe_var hN hv hd hcd, var_ok i⟩
theorem sb_var (i : Nat) {x : Str} {pos : Pos} (hN : X.N[i]? = some x := by rfl) (hv : Vis X.env.scope x := by first | exact Or.inl rfl | exact Or.inr (Or.inl rfl) | exact Or.inr (Or.inr rfl)) (hd : (x == ("__debug__" : Str)) = false := by decide)
    (hcd : (x == ("__classdict__" : Str)) = false := by decide) : SemB X K B (.Name x pos) (tVar i) (eVarB i) := ⟨pe_var hN hv hd hcd, varB_ok i⟩
theorem se_int {i j} : SemE X K B (.Constant (.int i) j pos) (tC (.int i)) (eC (.int i)) := ⟨pe_int, c_ok fun _ => rp_int _⟩
theorem se_str {i j} : SemE X K B (.Constant (.str i) j pos) (tC (.str i)) (eC (.str i)) := ⟨pe_str, c_ok fun _ => rp_str _⟩
theorem se_bool {i j} : SemE X K B (.Constant (.bool i) j pos) (tC (.bl i)) (eC (.bool i)) := ⟨pe_bl, c_ok fun _ => rp_bool _⟩
theorem se_none {j} : SemE X K B (.Constant .none j pos) (tC .non) (eC .none) := ⟨pe_non, c_ok fun _ => rp_non⟩
theorem se_globI {x : Str} {i : Int} (hm : ∃ tk, X.mg x = some (.int i tk)) (hg : Gl X x := by rfl) (hd : (x == ("__debug__" : Str)) = false := by decide) : SemE X K B (.Name x pos) (tC (.int i)) (eC (.int i)) :=
  let ⟨tk, hm⟩ := hm; ⟨pe_glob hg hm ⟨tk, rfl⟩ hd, c_ok fun _ => rp_int _⟩
theorem se_globS {x : Str} {i : Str} (hm : ∃ tk, X.mg x = some (.str i tk)) (hg : Gl X x := by rfl) (hd : (x == ("__debug__" : Str)) = false := by decide) : SemE X K B (.Name x pos) (tC (.str i)) (eC (.str i)) :=
  let ⟨tk, hm⟩ := hm; ⟨pe_glob hg hm ⟨tk, rfl⟩ hd, c_ok fun _ => rp_str _⟩
/-- two-place -/
theorem se_op {op : Operator} {r : R2} {gg : PyData → PyData → Option PyData} (hs : OpS K r gg) (ho : OpR X (binaryOp op) r) (h1 : SemB X K B a t1 f1) (h2 : SemB X K B b t2 f2) : SemE X K B (.BinOp a op b pos) (tOp r t1 t2) (eOp gg f1 f2) := ⟨pe_op ho h1.pe h2.pe, op_ok hs h1.ok h2.ok⟩
theorem se_add (h1 : SemB X K B a t1 f1) (h2 : SemB X K B b t2 f2) : SemE X K B (.BinOp a .Add b pos) (tOp rAdd3 t1 t2) (eOp gAdd f1 f2) := se_op add3_s op_add3 h1 h2
theorem se_sub (h1 : SemB X K B a t1 f1) (h2 : SemB X K B b t2 f2) : SemE X K B (.BinOp a .Sub b pos) (tOp (rI0 fun i j => .int (i - j)) t1 t2) (eOp gMinus f1 f2) := se_op sub_s op_sub h1 h2
theorem se_mul (h1 : SemB X K B a t1 f1) (h2 : SemB X K B b t2 f2) : SemE X K B (.BinOp a .Mult b pos) (tOp rMul3 t1 t2) (eOp gMul f1 f2) := se_op mul3_s op_mul3 h1 h2
theorem se_fdiv (h1 : SemB X K B a t1 f1) (h2 : SemB X K B b t2 f2) : SemE X K B (.BinOp a .FloorDiv b pos) (tOp (rI CDiv fun i j => .int (i / j)) t1 t2) (eOp gFdiv f1 f2) := se_op fdiv_s op_fdiv h1 h2
theorem se_mod (h1 : SemB X K B a t1 f1) (h2 : SemB X K B b t2 f2) : SemE X K B (.BinOp a .Mod b pos) (tOp (rI (fun _ j => 0 < j) fun i j => .int (i % j)) t1 t2) (eOp gMod f1 f2) := se_op mod_s op_mod h1 h2
def gNeg : PyData → Option PyData
  | .int i => some (.int (-i))
  | _ => none
theorem se_neg (h1 : SemB X K B a t1 f1) : SemE X K B (.UnaryOp .USub a pos) (tUn (rU fun i => .int (-i)) t1) (eUn gNeg f1) := ⟨pe_un un_neg h1.pe, un_ok (fun G H x d1 d e b q Q k => by
  cases d1 with
  | int i =>
    cases q
    exact ⟨i, b.int, k _ H G (Grow.refl e) (rp_int _)⟩
  | _ => cases q) h1.ok⟩
/-- comparisons, as values and as tests -/
theorem se_cmp {op : CmpOp} {r : R2} {gg : PyData → PyData → Option PyData} (hs : OpS K r gg) (ho : OpR X (compareOp op) r) (h1 : SemB X K B a t1 f1) (h2 : SemB X K B b t2 f2) (hm : behindInMarks op b = false) : SemE X K B (.Compare a [op] [b] pos) (tOp r t1 t2) (eOp gg f1 f2) :=
  ⟨pe_cmpR ho h1.pe h2.pe hm, op_ok hs h1.ok h2.ok⟩
theorem st_cmp {op : CmpOp} {r : R2} {gg : PyData → PyData → Option PyData} (hs : OpS K r gg) (ho : OpR X (compareOp op) r) (h1 : SemB X K B a t1 f1) (h2 : SemB X K B b t2 f2) (hm : behindInMarks op b = false) : SemT X K B (.Compare a [op] [b] pos) (tTest (tOp r t1 t2)) (bF (eOp gg f1 f2)) :=
  ⟨pt_cmpR ho h1.pe h2.pe hm, tTest_ok (op_ok hs h1.ok h2.ok)⟩
theorem se_chain {op op' : CmpOp} {r r' : R2} {gg gg' : PyData → PyData → Option PyData} (hs : OpS K r gg) (ho : OpR X (compareOp op) r) (hs' : OpS K r' gg') (ho' : OpR X (compareOp op') r') (h1 : SemB X K B a t1 f1) (h2 : SemB X K B b t2 f2) (h3 : SemB X K B c t3 f3)
    (hm : lastMarks [op, op'] [b, c] = false := by with_unfolding_all rfl) : SemE X K B (.Compare a [op, op'] [b, c] pos) (tChain r r' t1 t2 t3) (eChainF gg gg' f1 f2 f3) := ⟨pe_chain ho ho' h1.pe h2.pe h3.pe hm, chain_ok hs hs' h1.ok h2.ok h3.ok⟩
theorem st_chain {op op' : CmpOp} {r r' : R2} {gg gg' : PyData → PyData → Option PyData} (hs : OpS K r gg) (ho : OpR X (compareOp op) r) (hs' : OpS K r' gg') (ho' : OpR X (compareOp op') r') (h1 : SemB X K B a t1 f1) (h2 : SemB X K B b t2 f2) (h3 : SemB X K B c t3 f3)
    (hm : lastMarks [op, op'] [b, c] = false := by with_unfolding_all rfl) : SemT X K B (.Compare a [op, op'] [b, c] pos) (tTest (tChain r r' t1 t2 t3)) (bF (eChainF gg gg' f1 f2 f3)) := ⟨pt_chain ho ho' h1.pe h2.pe h3.pe hm, tTest_ok (chain_ok hs hs' h1.ok h2.ok h3.ok)⟩
theorem se_chain3 {op op' op2 : CmpOp} {r r' r2 : R2} {gg gg' gg2 : PyData → PyData → Option PyData} (hs : OpS K r gg) (ho : OpR X (compareOp op) r) (hs' : OpS K r' gg') (ho' : OpR X (compareOp op') r') (hs2 : OpS K r2 gg2) (ho2 : OpR X (compareOp op2) r2)
    (h1 : SemB X K B a t1 f1) (h2 : SemB X K B b t2 f2) (h3 : SemB X K B c t3 f3) (h4 : SemB X K B d t4 f4) (hm : lastMarks [op, op', op2] [b, c, d] = false := by with_unfolding_all rfl) : SemE X K B (.Compare a [op, op', op2] [b, c, d] pos) (tChain3 r r' r2 t1 t2 t3 t4) (eChain3F gg gg' gg2 f1 f2 f3 f4) :=
  ⟨pe_chain3 ho ho' ho2 h1.pe h2.pe h3.pe h4.pe hm, chain3_ok hs hs' hs2 h1.ok h2.ok h3.ok h4.ok⟩
/-- tests -/
theorem st_val (h : SemE X K B e t f) (he : ∀ whole, isTrue e X.env whole = (do let v ← whole; standAt e.pos; holding [v] (truthy v)) := by intro _; rfl) : SemT X K B e (tB t) (bF f) := ⟨pt_val h.pe he, tB_ok h.ok⟩
theorem st_not (h : SemT X K B e tt g) : SemT X K B (.UnaryOp .Not e pos) (tNot tt) (tNotF g) := ⟨pt_not h.pt, tNot_ok h.ok⟩
theorem SemW.toT (h : SemW X K B e tt g) : SemT X K B e tt g := ⟨h.pw.pt, h.ok⟩
theorem sw_and1 (h1 : SemT X K B a tt g) : SemW X K B (.BoolOp .And [a] pos) tt g := ⟨pw_and1 h1.pt, h1.ok⟩
theorem sw_or1 (h1 : SemT X K B a tt g) : SemW X K B (.BoolOp .Or [a] pos) tt g := ⟨pw_or1 h1.pt, h1.ok⟩
theorem sw_and (h1 : SemT X K B a tt g) (h2 : SemW X K B (.BoolOp .And (b :: es) pos) u h) : SemW X K B (.BoolOp .And (a :: b :: es) pos) (tAnd tt u) (tAndF g h) := ⟨pw_and h1.pt h2.pw, tAnd_ok h1.ok h2.ok⟩
theorem sw_or (h1 : SemT X K B a tt g) (h2 : SemW X K B (.BoolOp .Or (b :: es) pos) u h) : SemW X K B (.BoolOp .Or (a :: b :: es) pos) (tOr tt u) (tOrF g h) := ⟨pw_or h1.pt h2.pw, tOr_ok h1.ok h2.ok⟩
theorem x_wt (h : SemW X K B e tt g) : SemT X K B e tt g := h.toT
theorem x_eb (h : SemE X K B e t f) : SemB X K B e t f := h.b
theorem x_le {sa : SA} (h : SemL X K B e t sa) : SemE X K B e t (eList sa) := h.toE
theorem x_ac (h1 : SemE X K B e t f) (h2 : SemA X K B es ta sa) (hs : starEach (e :: es) X.env = (false, eval e X.env) :: starEach es X.env := by rfl) : SemA X K B (e :: es) (tCons t ta) (eCons f sa) := h1.cons h2 hs
theorem x_abc (h1 : SemB X K B e t f) (h2 : SemAB X K B es ta sa) (hs : starEach (e :: es) X.env = (false, eval e X.env) :: starEach es X.env := by rfl) : SemAB X K B (e :: es) (tCons t ta) (eCons f sa) := h1.cons h2 hs
theorem se_one {op} (h : SemE X K B a t f) : SemE X K B (.BoolOp op [a] pos) t f := ⟨pe_one h.pe, h.ok⟩
theorem se_and (h1 : SemE X K B a t1 f1) (h2 : SemE X K B (.BoolOp .And (b :: es) pos) t2 f2) : SemE X K B (.BoolOp .And (a :: b :: es) pos) (tAndV t1 t2) (eAndF f1 f2) := ⟨pe_and h1.pe h2.pe, andV_ok h1.ok h2.ok⟩
theorem se_or (h1 : SemE X K B a t1 f1) (h2 : SemE X K B (.BoolOp .Or (b :: es) pos) t2 f2) : SemE X K B (.BoolOp .Or (a :: b :: es) pos) (tOrV t1 t2) (eOrF f1 f2) := ⟨pe_or h1.pe h2.pe, orV_ok h1.ok h2.ok⟩
theorem se_not (h1 : SemE X K B a t1 f1) : SemE X K B (.UnaryOp .Not a pos) (tNotV t1) (eNotF f1) := ⟨pe_not h1.pe, notV_ok h1.ok⟩
theorem se_if (h0 : SemT X K B c tt g) (h1 : SemE X K B a t1 f1) (h2 : SemE X K B b t2 f2) : SemE X K B (.IfExp c a b pos) (tIf tt t1 t2) (eIfF g f1 f2) := ⟨pe_ifExp h0.pt h1.pe h2.pe, if_ok h0.ok h1.ok h2.ok⟩
/-- items, slices, displays -/
theorem se_ix (h1 : SemB X K B a t1 f1) (h2 : SemB X K B b t2 f2) (hs : PlainIx b := by exact fun _ _ => rfl) (hK : X.K = K := by rfl) : SemE X K B (.Subscript a b pos) (tOp (rIx K) t1 t2) (eOp gIx f1 f2) := by
  subst hK
  exact ⟨pe_ix ix_seq h1.pe h2.pe hs, op_ok ix_s h1.ok h2.ok⟩
theorem sl_sl {lo hi : Option Expr} {tl th : TO} {oa ob : SO} {p2 : Pos} (h : SemB X K B a t f) (h1 : SemO X K B lo tl oa) (h2 : SemO X K B hi th ob) (hK : X.K = K := by rfl) : SemL X K B (.Subscript a (.Slice lo hi none p2) pos) (tSl (rSlL K) t tl th) (lSl f oa ob) := by
  subst hK
  exact ⟨pe_slice sl_list h.pe h1.po h2.po, slL_ok h.ok h1.ok h2.ok⟩
theorem se_slS {lo hi : Option Expr} {tl th : TO} {oa ob : SO} {p2 : Pos} (h : SemB X K B a t f) (h1 : SemO X K B lo tl oa) (h2 : SemO X K B hi th ob) : SemE X K B (.Subscript a (.Slice lo hi none p2) pos) (tSl rSlS t tl th) (eSlS f oa ob) := ⟨pe_slice sl_str h.pe h1.po h2.po, slS_ok h.ok h1.ok h2.ok⟩
theorem se_tup {x1} (h : SemA X K B es ta sa) : SemE X K B (.Tuple es x1 pos) (tTup ta) (eTupD sa) := ⟨pe_tup h.pa, tup_ok h.ok⟩
theorem sl_lst (h : SemA X K B es ta sa) : SemL X K B (.List es pos) (tLst ta) (eLstD sa) := ⟨pe_lst h.pa, lst_ok h.ok⟩
/-- built-ins by their names -/
theorem se_cb {id : String} {x : Str} {p : Pos} {r : List V → Hp → VK → Prop} {gg : List PyData → Option PyData} (hs : CallS K r gg) (hc : CallR X (.builtin id) r) (hm : X.mg x = none) (ha : SemAB X K B (e :: es) ta sa) (hg : Gl X x := by rfl) (hv : bootBuiltins x = some (.builtin id) := by decide +kernel)
    (hn : x ≠ "__name__" := by decide) (hdb : (x == ("__debug__" : Str)) = false := by decide) (he : starEach (e :: es) X.env = (false, eval e X.env) :: starEach es X.env := by rfl) (hpl : (backTo pos (starEach es X.env)).any (·.1) = false := by rfl) :
    SemE X K B (.Call (.Name x p) (e :: es) [] pos) (tCB r ta) (eCall gg sa) := ⟨pe_callB hc hg hm hv ha.pa hn hdb he hpl, cb_ok hs ha.ok⟩
theorem se_ct {T : String} {x : Str} {p : Pos} {r : List V → Hp → VK → Prop} {gg : List PyData → Option PyData} (hs : CallS K r gg) (hc : CallR X (.type T) r) (hm : X.mg x = none) (ha : SemAB X K B (e :: es) ta sa) (hg : Gl X x := by rfl) (hv : bootBuiltins x = some (.type T) := by decide +kernel)
    (hn : x ≠ "__name__" := by decide) (hdb : (x == ("__debug__" : Str)) = false := by decide) (he : starEach (e :: es) X.env = (false, eval e X.env) :: starEach es X.env := by rfl) (hpl : (backTo pos (starEach es X.env)).any (·.1) = false := by rfl) :
    SemE X K B (.Call (.Name x p) (e :: es) [] pos) (tCB r ta) (eCall gg sa) := ⟨pe_callTy hc hg hm hv ha.pa hn hdb he hpl, cb_ok hs ha.ok⟩
theorem sl_ct {T : String} {x : Str} {p : Pos} {r : List V → Hp → VK → Prop} {gg : List PyData → Option (List PyData)} (hs : CallL K r gg) (hc : CallR X (.type T) r) (hm : X.mg x = none) (ha : SemAB X K B (e :: es) ta sa) (hg : Gl X x := by rfl) (hv : bootBuiltins x = some (.type T) := by decide +kernel)
    (hn : x ≠ "__name__" := by decide) (hdb : (x == ("__debug__" : Str)) = false := by decide) (he : starEach (e :: es) X.env = (false, eval e X.env) :: starEach es X.env := by rfl) (hpl : (backTo pos (starEach es X.env)).any (·.1) = false := by rfl) :
    SemL X K B (.Call (.Name x p) (e :: es) [] pos) (tCB r ta) (eCallL gg sa) := ⟨pe_callTy hc hg hm hv ha.pa hn hdb he hpl, cbL_ok hs ha.ok⟩
theorem se_isi {p p2 : Pos} {x : Str} (T : TyN) (hm : X.mg "isinstance" = none) (hm2 : X.mg x = none) (h : SemB X K B a t f) (hv : bootBuiltins x = some (.type (tyn T)) := by decide +kernel) (hg : Gl X "isinstance" := by rfl) (hg2 : Gl X x := by rfl) (hn : x ≠ "__name__" := by decide) (hd : (x == ("__debug__" : Str)) = false := by decide)
    (hs1 : starEach (a :: [.Name x p2]) X.env = (false, eval a X.env) :: starEach [.Name x p2] X.env := by rfl) (hs2 : starEach [.Name x p2] X.env = (false, eval (.Name x p2) X.env) :: starEach [] X.env := by rfl) (hpl : (backTo pos (starEach [Expr.Name x p2] X.env)).any (·.1) = false := by rfl) (hK : X.K = K := by rfl) :
    SemE X K B (.Call (.Name "isinstance" p) [a, .Name x p2] [] pos) (tCB (rIsi K) (tCons t (tCons (tC (.ty (tyn T))) tNil))) (eIsi T f) := by
  subst hK
  exact ⟨pe_callB call_isi hg hm (by decide +kernel) (pa_cons h.pe (pa_cons (pe_bltn hg2 hm2 hv rfl hn hd) pa_nil hs2) hs1) (by decide) (by decide) hs1 hpl, isi_ok T h.ok⟩
/-- sep.join(texts) -/
def gJoin : PyData → PyData → Option PyData
  | .str z, .list ds => (strsD ds).bind fun ys => if (ys.map (·.length)).sum + ys.length * z.length ≤ LIM then some (.str (Txt.join z ys)) else none
  | _, _ => none
where strsD : List PyData → Option (List Str)
  | [] => some []
  | .str x :: ds => (strsD ds).map (x :: ·)
  | _ :: _ => none
theorem strsD_ok : ∀ {ds : List PyData} {ns : List Str}, gJoin.strsD ds = some ns → ds = ns.map PyData.str
  | [], ns, h => by cases h; rfl
  | .str i :: ds, ns, h => by
    cases e : gJoin.strsD ds with
    | none => simp [gJoin.strsD, e] at h
    | some ms =>
      simp [gJoin.strsD, e] at h
      subst h
      rw [strsD_ok e]; rfl
  | .none :: _, _, h => by cases h
  | .bool _ :: _, _, h => by cases h
  | .int _ :: _, _, h => by cases h
  | .list _ :: _, _, h => by cases h
  | .tuple _ :: _, _, h => by cases h
  | .dict _ :: _, _, h => by cases h
theorem strsD_map (ns : List Str) : gJoin.strsD (ns.map PyData.str) = some ns := by
  induction ns with
  | nil => rfl
  | cons n ns ih => simp [gJoin.strsD, ih]
abbrev rJoin (K : PySem.W.Frag) : V → List V → Hp → VK → Prop := fun x xs H Q => ∃ a p, ∃ ys : List Str, x = .str a ∧ xs = [.ref p] ∧ (SqL K H p (ys.map V.str) ∨ SqT K H p (ys.map V.str)) ∧
  (ys.map (·.length)).sum + ys.length * a.length ≤ 16777216 ∧ Q (.str (Txt.join a ys)) H
theorem join_ok (h1 : BOk K B t1 f1) (h2 : BOk K B t2 f2) : EOk K B (tM1 (rJoin K) t1 t2) (eOp gJoin f1 f2) := fun R F H σ ρ dd E q Q k => by
  cases e1 : f1 ρ with
  | none => simp [eOp, e1] at q
  | some x =>
    cases e2 : f2 ρ with
    | none => simp [eOp, e1, e2] at q
    | some y =>
      have q' : gJoin x y = some dd := by simpa [eOp, e1, e2] using q
      unfold gJoin at q'
      split at q'
      · rename_i z ds
        cases hn : gJoin.strsD ds with
        | none => simp [hn] at q'
        | some ys =>
          rw [hn, Option.bind_some] at q'
          split at q'
          · rename_i hz
            cases q'
            refine h1 _ F H σ ρ _ E e1 _ fun v H1 G1 g1 b1 => ⟨⟨z, b1.str⟩, ?_⟩
            refine h2 _ G1 H1 σ ρ _ (E.grow g1) e2 _ fun w H2 G2 g2 b2 => ?_
            obtain ⟨p, vs, rfl, hp, hA⟩ := b2.list g2.sub
            rw [strsD_ok hn] at hA
            have ev := strs_dpa ys hA
            subst ev
            exact ⟨z, p, ys, b1.str, rfl, .inl (.inl (.inl hp)), Nat.le_trans hz (by decide), k _ H2 G2 (g1.trans g2) (rp_str _)⟩
          · cases q'
      · cases q'
theorem se_join {apos : Pos} (h1 : SemB X K B a t1 f1) (h2 : SemB X K B b t2 f2) (hs : starEach [b] X.env = [(false, eval b X.env)] := by rfl) (hbase : attributeBase a "join" X.env (eval a X.env) = eval a X.env := by rfl) (hline : (apos.endLine == pos.line) = true := by rfl) (hK : X.K = K := by rfl) :
    SemE X K B (.Call (.Attribute a "join" apos) [b] [] pos) (tM1 (rJoin K) t1 t2) (eOp gJoin f1 f2) := by
  subst hK
  exact ⟨pe_join h1.pe h2.pe hs hbase hline, join_ok h1.ok h2.ok⟩
end
/-! ### what is walked, comprehensions -/
structure SemI (X : Cx) (K : PySem.W.Frag) (B : Bs) (tg : Expr) (iter : Expr) (wi : TI) (f : SA) : Prop where
  pi : PI X tg iter wi
  ok : IOk K B wi f
structure SemIB (X : Cx) (K : PySem.W.Frag) (B : Bs) (tg : Expr) (iter : Expr) (wi : TI) (f : SA) : Prop where
  pi : PI X tg iter wi
  ok : IBOk K B wi f
structure SemTs (X : Cx) (K : PySem.W.Frag) (B : Bs) (ifs : List Expr) (t : TT) (f : STe) : Prop where
  pts : PTs X ifs t
  ok : TOk K B t f
section
variable {X : Cx} {K : PySem.W.Frag} {B : Bs} {W : XW} {tg e a b : Expr} {t : TE} {f : SE} {ta : TA} {sa : SA} {pos p : Pos} {wi : TI}
theorem SemI.toB (h : SemI X K B tg e wi sa) : SemIB X K B tg e wi sa := ⟨h.pi, h.ok.b⟩
theorem si_list (h : SemE X K B e t f) (hK : X.K = K := by rfl) : SemI X K B tg e (iList K t) (iL f) := by
  subst hK
  exact ⟨pi_list h.pe, iList_ok h.ok⟩
theorem si_listB (h : SemB X K B e t f) (hK : X.K = K := by rfl) : SemIB X K B tg e (iList K t) (iL f) := by
  subst hK
  exact ⟨pi_list h.pe, iListB_ok h.ok⟩
theorem si_tup (h : SemE X K B e t f) (hK : X.K = K := by rfl) : SemI X K B tg e (iTup K t) (iT f) := by
  subst hK
  exact ⟨pi_tup h.pe, iTup_ok h.ok⟩
theorem si_str (h : SemE X K B e t f) : SemI X K B tg e (iStr t) (iS f) := ⟨pi_str h.pe, iStr_ok h.ok⟩
theorem si_range1 (hm : X.mg "range" = none) (ha : SemAB X K B [a] ta sa) (hg : Gl X "range" := by rfl) (hs : starEach [a] X.env = [(false, eval a X.env)] := by rfl) : SemI X K B tg (.Call (.Name "range" p) [a] [] pos) (iRng1 ta) (iR1 sa) := ⟨pi_range1 hg hm ha.pa hs, iRng1_ok ha.ok⟩
theorem si_range2 (hm : X.mg "range" = none) (ha : SemAB X K B [a, b] ta sa) (hg : Gl X "range" := by rfl) (hs : starEach [a, b] X.env = [(false, eval a X.env), (false, eval b X.env)] := by rfl) (hs2 : starEach [b] X.env = [(false, eval b X.env)] := by rfl) : SemI X K B tg (.Call (.Name "range" p) [a, b] [] pos) (iRng2 ta) (iR2 sa) :=
  ⟨pi_range2 hg hm ha.pa hs hs2, iRng2_ok ha.ok⟩
theorem si_enum {elts : List Expr} {kk : Nat} {tpos : Pos} (hm : X.mg "enumerate" = none) (ha : SemA X K B [e] ta sa) (hg : Gl X "enumerate" := by rfl) (hs : starEach [e] X.env = [(false, eval e X.env)] := by rfl) (hK : X.K = K := by rfl) : SemI X K B (.Tuple elts kk tpos) (.Call (.Name "enumerate" p) [e] [] pos) (iEnum K ta) (iE sa) := by
  subst hK
  exact ⟨pi_enum hg hm ha.pa hs, iEnum_ok ha.ok⟩
theorem x_ib (h : SemI X K B tg e wi sa) : SemIB X K B tg e wi sa := h.toB
theorem sts_nil : SemTs X K B [] tYes tYesF := ⟨pts_nil, yes_ok⟩
theorem sts_one {tt : TT} {g : STe} (h : SemT X K B e tt g) : SemTs X K B [e] tt g := ⟨pts_one h.pt, h.ok⟩
theorem sl_lc {elt iter : Expr} {x : Str} {xp : Pos} {ifs : List Expr} {scope : Scope} {j : Nat} {tt : TT} {te : TE} {tst : STe} {el : SE} (hc : X.calm = true) (hN : X.N.Nodup) (hj : X.N[j]? = some x) (hi : SemIB X K B (.Name x xp) iter wi sa) (ok : BlkOk X.N X.env.scope scope [(x, j)])
    (ht : ∀ (s : Shared) (H : Hp) (C : Addr) (cl : List (Str × Addr)) (fp : List Addr), SemTs (X.blk s H scope (compEnvC scope cl C X.env) fp) K B ifs tt tst)
    (he : ∀ (s : Shared) (H : Hp) (C : Addr) (cl : List (Str × Addr)) (fp : List Addr), SemE (X.blk s H scope (compEnvC scope cl C X.env) fp) K B elt te el)
    (hgn : ∀ (s : Shared) (H : Hp) (C : Addr) (cl : List (Str × Addr)) (fp : List Addr), PG (X.blk s H scope (compEnvC scope cl C X.env) fp) (.Name x xp) (gName j))
    (hs : ∀ x, foldedSetIterable iter X.env x = pure x := by intro _; rfl) : SemL X K B (.ListComp elt [⟨.Name x xp, iter, ifs, 0⟩] scope pos) (tLc wi (gName j) tt te [j]) (lLc sa j tst el) :=
  ⟨pe_lc (own := [(x, j)]) hc hN hi.pi ok hgn (fun s H C cl fp => (ht s H C cl fp).pts) (fun s H C cl fp => (he s H C cl fp).pe) hs, lc_ok hi.ok (ht X.s_0 (fun _ => none) 0 [] []).ok (he X.s_0 (fun _ => none) 0 [] []).ok⟩
end
/-! ### statements -/
section
variable {X : Cx} {K : PySem.W.Frag} {B : Bs} {W : XW} {e a b : Expr} {st : Stmt} {rest : List Stmt} {t u : TS} {f g : SS} {te tx : TE} {fe fx : SE} {pos : Pos}
theorem ss_nil : SemSs X K B W [] tNext sNext := ⟨pss_nil, next_ok⟩
theorem ss_cons (h1 : SemS X K B W st t f) (h2 : SemSs X K B W rest u g) : SemSs X K B W (st :: rest) (tSeq t u) (sSeq f g) := ⟨pss_cons h1.ps h2.ps, seq_ok h1.ok h2.ok⟩
theorem ss_one (h1 : SemS X K B W st t f) : SemSs X K B W [st] t f := ⟨pss_one h1.ps, h1.ok⟩
theorem s_ret (h : SemE X K B e te fe) : SemS X K B W (.Return (some e) pos) (tRet te) (sRet fe) := ⟨ps_ret h.pe, ret_ok h.ok⟩
theorem s_retN : SemS X K B W (.Return none pos) tRetN sRetN := ⟨ps_retN, retN_ok⟩
theorem s_set (i : Nat) {x : Str} {pos' : Pos} (hN : X.N.Nodup) (he : SemE X K B e te fe) (hi : X.N[i]? = some x := by rfl) (hx : Loc X.env.scope x := by first | exact Or.inl rfl | exact Or.inr rfl) (hs : swapsWith e (some (.Name x pos')) pos.line X.env = pure false := by rfl)
    (hf : X.fn x = true ∨ X.env.scope.names.lookup x = some .local := by first | exact .inl rfl | exact .inr rfl) : SemS X K B W (.Assign [.Name x pos'] e pos) (tAsg te (gName i)) (sSet i fe) := ⟨ps_set hN hi hx he.pe hs hf, set_ok i he.ok⟩
theorem s_setL (i : Nat) {x : Str} {pos' : Pos} {sa : SA} (hN : X.N.Nodup) (he : SemL X K B e te sa) (hi : X.N[i]? = some x := by rfl) (hx : Loc X.env.scope x := by first | exact Or.inl rfl | exact Or.inr rfl) (hs : swapsWith e (some (.Name x pos')) pos.line X.env = pure false := by rfl)
    (hf : X.fn x = true ∨ X.env.scope.names.lookup x = some .local := by first | exact .inl rfl | exact .inr rfl) : SemS X K B W (.Assign [.Name x pos'] e pos) (tAsg te (gName i)) (sSetL i sa) := ⟨ps_set hN hi hx he.pe hs hf, setL_ok i he.ok⟩
theorem s_expr (he : SemE X K B e te fe) (hs : swapsWith e none pos.line X.env = pure false := by rfl) : SemS X K B W (.Expr e pos) (tDrop te) (sDrop fe) := ⟨ps_expr he.pe hs, drop_ok he.ok⟩
theorem s_if {tc : TT} {c : STe} {ss us : List Stmt} (h0 : SemT X K B e tc c) (h1 : SemSs X K B W ss t f) (h2 : SemSs X K B W us u g) : SemS X K B W (.If e ss us pos) (tIfS tc t u) (sIf c f g) := ⟨ps_if h0.pt h1.ps h2.ps, ifS_ok h0.ok h1.ok h2.ok⟩
theorem s_for {tg iter : Expr} {body : List Stmt} {wi : TI} {gg : TG} {sa : SA} {tgf : PyData → Rho → Option Rho} (hp : PassesOwn (model X.prog X.w) X.A X.env X.xe) (hc : X.calm = true) (hi : SemI X K B tg iter wi sa) (hg : PG X tg gg) (ht : TGOk K gg tgf) (hb : SemSs X K B W body t f)
    (hs : ∀ x, foldedSetIterable iter X.env x = pure x := by intro _; rfl) : SemS X K B W (.For tg iter body [] pos) (tFor wi gg t) (sFor sa tgf f) := ⟨ps_for hp hc hi.pi hg hb.ps hs, for_okS hi.ok ht hb.ok⟩
/-- xs.append(e), xs[i] = e: an own list's name -/
theorem s_app (i : Nat) {x : Str} {p apos cpos : Pos} (he : SemE X K B e te fe) (ps : PS X (.Expr (.Call (.Attribute (.Name x p) "append" apos) [e] [] cpos) pos) (tDrop (tBM K "list" rAppend (tVar i) (tCons te tNil)))) :
    SemS X K B W (.Expr (.Call (.Attribute (.Name x p) "append" apos) [e] [] cpos) pos) (tDrop (tBM K "list" rAppend (tVar i) (tCons te tNil))) (sApp i fe) := ⟨ps, app_okS i he.ok⟩
theorem s_put (i : Nat) {x : Str} {p p2 : Pos} (he : SemE X K B e te fe) (hx : SemE X K B a tx fx) (ps : PS X (.Assign [.Subscript (.Name x p) a p2] e pos) (tAsg te (gSub (tVar i) tx rSetL))) :
    SemS X K B W (.Assign [.Subscript (.Name x p) a p2] e pos) (tAsg te (gSub (tVar i) tx rSetL)) (sPut i fx fe) := ⟨ps, put_okS i he.ok hx.ok⟩
end
/-! ### functions of data -/
section
variable {X : Cx} {K : PySem.W.Frag} {B : Bs} {W : XW} {e : Expr} {st : Stmt} {te : TE} {sa : SA}
theorem s_setLcE (i : Nat) {x : Str} {p pos : Pos} (h : SemL X K B e te sa) (ps : PS X (.Assign [.Name x p] e pos) (tAsg te (gName i))) : SemS X K B W (.Assign [.Name x p] e pos) (tAsg te (gName i)) (sSet i (eList sa)) := ⟨ps, set_ok i h.toE.ok⟩
theorem s_setLcL (i : Nat) {x : Str} {p pos : Pos} (h : SemL X K B e te sa) (ps : PS X (.Assign [.Name x p] e pos) (tAsg te (gName i))) : SemS X K B W (.Assign [.Name x p] e pos) (tAsg te (gName i)) (sSetL i sa) := ⟨ps, setL_ok i h.ok⟩
end
abbrev noB : Bs := ⟨fun _ => none, fun _ => none, fun _ => none, none⟩
abbrev W0 : XW := fun _ _ _ => False
abbrev noH : Hp := fun _ => none
def spPure (K : PySem.W.Frag) (F : List PyData → Option PyData) : Sp := fun vs H Q _ => ∃ (G : Hp) (ds : List PyData) (d : PyData), Same G H ∧ RpAll K G vs ds ∧ F ds = some d ∧ ∀ v H' G', Grow H G H' G' → Rp K G' v d → Q v H'
def rho0 (N : List Str) (ds : List PyData) : Rho := ds.map .val ++ List.replicate (N.length - ds.length) .no
def runF (N : List Str) (n : Nat) (b : SS) : List PyData → Option PyData := fun ds => if ds.length = n then (match b (rho0 N ds) with
  | .rt d _ => some d
  | .nx _ => some .none
  | .no => none
  | .ex _ _ => none
  | .ro _ _ => none) else none
theorem RpAll.two {K : PySem.W.Frag} {F : Hp} {vs : List V} {d e : PyData} (h : RpAll K F vs [d, e]) : ∃ v u, vs = [v, u] ∧ Rp K F v d ∧ Rp K F u e := by
  cases h with
  | cons r r2 => obtain ⟨u, rfl, r3⟩ := r2.one; exact ⟨_, _, rfl, r, r3⟩
theorem RpAll.three {K : PySem.W.Frag} {F : Hp} {vs : List V} {d e f : PyData} (h : RpAll K F vs [d, e, f]) : ∃ v u t, vs = [v, u, t] ∧ Rp K F v d ∧ Rp K F u e ∧ Rp K F t f := by
  cases h with
  | cons r r2 => obtain ⟨u, t, rfl, r3, r4⟩ := r2.two; exact ⟨_, _, _, rfl, r, r3, r4⟩
theorem Rp.s {K : PySem.W.Frag} {F : Hp} {v : V} {z : Str} (h : Rp K F v (.str z)) : v = .str z := Bp.str (H := F) (.inl h)
theorem RpAll.get {K : PySem.W.Frag} {F : Hp} : ∀ {vs : List V} {ds : List PyData} {i : Nat} {d : PyData}, RpAll K F vs ds → ds[i]? = some d → ∃ v, vs[i]? = some v ∧ Rp K F v d
  | [], [], _, _, _, e => by simp at e
  | [], _ :: _, _, _, h, _ => by cases h
  | _ :: _, [], _, _, h, _ => by cases h
  | v :: vs, d :: ds, 0, _, h, e => by
    cases h with
    | cons h1 h2 =>
      simp at e; subst e
      exact ⟨v, rfl, h1⟩
  | v :: vs, d :: ds, i + 1, _, h, e => by
    cases h with
    | cons h1 h2 =>
      obtain ⟨u, e1, e2⟩ := RpAll.get (i := i) h2 (by simpa using e)
      exact ⟨u, by simpa using e1, e2⟩
/-- what a function finds that reads an object -/
structure BsOk (K : PySem.W.Frag) (B : Bs) (G H : Hp) : Prop where
  bs : Same B.f G
  bh : Same B.h H
  bF : Apart B.h G
  bo : ∀ a β, B.bk a = some β → BookAt K B.f B.h a β
theorem bsOk_no {K : PySem.W.Frag} {G H : Hp} : BsOk K noB G H := ⟨fun _ _ z => (nomatch z), fun _ _ z => (nomatch z), fun _ z => absurd rfl z, fun _ _ z => (nomatch z)⟩
theorem start_ok {K : PySem.W.Frag} {B : Bs} {G H : Hp} {N : List Str} {vs : List V} {ds : List PyData} (b : BsOk K B G H) (e : Same G H) (h : RpAll K G vs ds) : StOk K B ⟨noH, H, G⟩ noH G H (start N vs) (rho0 N ds) := by
  have hl := h.len
  have shape : ∀ (i : Nat) (x : Sl), (rho0 N ds)[i]? = some x → x = .no ∨ ∃ d, ds[i]? = some d ∧ x = .val d := fun i x q => by
    unfold rho0 at q
    rcases Nat.lt_or_ge i (ds.map Sl.val).length with hi | hi
    · rw [List.getElem?_append_left hi, List.getElem?_map] at q
      cases z : ds[i]? with
      | none => rw [z] at q; cases q
      | some d => rw [z] at q; cases q; exact .inr ⟨d, rfl, rfl⟩
    · rw [List.getElem?_append_right hi] at q
      have := List.mem_of_getElem? q
      rw [List.mem_replicate] at this
      exact .inl this.2
  have no : ∀ (i : Nat) (es : List PyData), (rho0 N ds)[i]? = some (.own es) → False := fun i es q => by
    rcases shape i _ q with z | ⟨d, _, z⟩ <;> cases z
  have no2 : ∀ (i : Nat) (o : ObjSt), (rho0 N ds)[i]? = some (.obj o) → False := fun i es q => by
    rcases shape i _ q with z | ⟨d, _, z⟩ <;> cases z
  refine ⟨⟨b.bs, b.bh, b.bF, b.bo, e, (fun _ _ z => nomatch z), (fun _ z => absurd rfl z), (fun _ z => absurd rfl z), ?_, fun i d q => ?_, fun i es q => (no i es q).elim, fun i j es fs p _ q _ _ _ => no i es q, fun i o q => (no2 i o q).elim, fun a0 _ i o a q _ => (no2 i o q).elim⟩,
    ⟨fun _ _ _ z => z, fun _ z => z, Same.refl G, e, fun _ z _ => z⟩, fun i es p q _ => (no i es q).elim, fun _ z => absurd rfl z⟩
  · unfold rho0 L2.start
    simp [hl]
  · rcases shape i _ q with z | ⟨d', h1, z⟩
    · cases z
    · cases z
      obtain ⟨v, h2, h3⟩ := h.get h1
      refine ⟨v, ?_, h3⟩
      unfold L2.start
      rw [List.getElem?_append_left (by rw [List.length_map]; exact (List.getElem?_eq_some_iff.mp h2).1), List.getElem?_map, h2]
      rfl
theorem GrowM.pure {H G H' G' : Hp} (g : GrowM ⟨noH, H, G⟩ H' G') : Grow H G H' G' := ⟨fun a o h => g.h a o rfl h, g.f, g.sub, g.no⟩
def spB (K : PySem.W.Frag) (F : (Addr → Option BookSt) → List PyData → Option PyData) : Sp := fun vs H Q _ => ∃ (B : Bs) (G : Hp) (ds : List PyData) (d : PyData), BsOk K B G H ∧ Same G H ∧ RpAll K G vs ds ∧ F B.bk ds = some d ∧ ∀ v H' G', Grow H G H' G' → Rp K G' v d → Q v H'
theorem sp_bodyB {K : PySem.W.Frag} {B : Bs} {N : List Str} {n : Nat} {b : SS} {t : TS} (k : SSOk K B W0 t b) {vs : List V} {H G : Hp} {ds : List PyData} {d : PyData} {Q : VK} (bo : BsOk K B G H) (e : Same G H) (hR : RpAll K G vs ds) (hF : runF N n b ds = some d) (hQ : ∀ v H' G', Grow H G H' G' → Rp K G' v d → Q v H') :
    t { nx := fun _ H' => Q .non H', rt := Q } (start N vs) H := by
  refine k ⟨noH, H, G⟩ noH G H _ _ _ (start_ok bo e hR) ?_
  unfold runF at hF
  split at hF
  · cases hb : b (rho0 N ds) with
    | no => rw [hb] at hF; cases hF
    | nx r =>
      rw [hb] at hF
      cases hF
      exact fun σ H' R' F' s _ => hQ .non H' F' s.gr.pure rp_non
    | rt d' r =>
      rw [hb] at hF
      cases hF
      exact fun v σ H' R' F' s _ r => hQ v H' F' s.gr.pure r
    | ex c r => rw [hb] at hF; cases hF
    | ro i r => rw [hb] at hF; cases hF
  · cases hF
theorem sp_body {K : PySem.W.Frag} {N : List Str} {n : Nat} {b : SS} {t : TS} (k : SSOk K noB W0 t b) {vs : List V} {H : Hp} {Q : VK} {E : XK} (h : spPure K (runF N n b) vs H Q E) : t { nx := fun _ H' => Q .non H', rt := Q } (start N vs) H := by
  obtain ⟨G, ds, d, e, hR, hF, hQ⟩ := h
  exact sp_bodyB k bsOk_no e hR hF hQ
theorem x_pe {X : Cx} {K : PySem.W.Frag} {e : Expr} {t : TE} {f : SE} (h : SemE X K noB e t f) : PE X e t := h.pe
theorem x_pt {X : Cx} {K : PySem.W.Frag} {e : Expr} {t : TT} {f : STe} (h : SemT X K noB e t f) : PT X e t := h.pt
theorem x_pi {X : Cx} {K : PySem.W.Frag} {tg e : Expr} {t : TI} {f : SA} (h : SemIB X K noB tg e t f) : PI X tg e t := h.pi
/-- the module's name x is a function of data, of level k -/
structure PF (P : Program) (w : World) (K : PySem.W.Frag) (mg : Str → Option Value) (base : Heap) (k : Nat) (x : Str) (F : List PyData → Option PyData) : Prop where
  ex : ∃ (f : Addr) (fd : FuncData) (ps : List Str), FnOk P w K mg base CX0 k f fd ps (spPure K F) ∧ mg x = some (.ref f) ∧ PySem.W.keepIn K (.ref f) = true ∧ Binds K fd ps []
theorem fn_mk {P : Program} {w : World} {K : PySem.W.Frag} {mg : Str → Option Value} {base : Heap} {k : Nat} {x : Str} {st : Stmt} {N ps : List Str} {b : SS} {f : Addr} {fd : FuncData} (F : FunD K x x (defArgs st) (defBody st) (defScope st) [] [] f fd) (S : FnScope N ps (defScope st))
    (body : ∀ (cdv : Value) (A : Around) (outer : List Env) (s : Shared) (H : Hp) (E : XK), Room k (A.deeper (envOfC x (defScope st) s.heap.objs.size f cdv)) → ∃ t, SemSs (cxOf CX0 P w K mg base N x (defScope st) f cdv A outer s H E).nox K noB W0 (defBody st) t b) :
    FnOk P w K mg base CX0 (k + 1) f fd ps (spPure K (runF N ps.length b)) := by
  refine F.ok S (fun vs H Q E h => ?_) (fun cdv A outer s H vs Q E hr h => ?_)
  · obtain ⟨G, ds, d, _, hR, hF, _⟩ := h
    unfold runF at hF
    split at hF
    · rename_i hl
      rw [hR.len]; exact hl
    · cases hF
  · obtain ⟨t, ht⟩ := body cdv A outer s H E hr
    exact ⟨t, ht.ps.nox, sp_body ht.ok h⟩
theorem pf_mk {P : Program} {w : World} {K : PySem.W.Frag} {mg : Str → Option Value} {base : Heap} {k : Nat} {x : Str} {st : Stmt} {N ps : List Str} {b : SS} {f : Addr} {fd : FuncData} (F : FunD K x x (defArgs st) (defBody st) (defScope st) [] [] f fd) (S : FnScope N ps (defScope st)) (hm : mg x = some (.ref f))
    (hb : ∀ (kV doc pm : Value) (an : Option Addr) (cdv ct : Value) (us : List Value), us.length = ps.length → bindArgs (PySem.W.fnOf x x (defArgs st) (defBody st) (defScope st) .none kV doc pm an cdv ct) ⟨us, []⟩ = pure (ps.zip us))
    (body : ∀ (cdv : Value) (A : Around) (outer : List Env) (s : Shared) (H : Hp) (E : XK), Room k (A.deeper (envOfC x (defScope st) s.heap.objs.size f cdv)) → ∃ t, SemSs (cxOf CX0 P w K mg base N x (defScope st) f cdv A outer s H E).nox K noB W0 (defBody st) t b) :
    PF P w K mg base (k + 1) x (runF N ps.length b) := ⟨f, fd, ps, fn_mk F S body, hm, F.kp, F.bindsN hb⟩
theorem hv_of {k : Nat} {A : Around} (hr : Room k A) : A.units + 65 < cLine := by have := hr.un; omega
theorem PF.imp {P : Program} {w : World} {K : PySem.W.Frag} {mg : Str → Option Value} {base : Heap} {k : Nat} {x : Str} {F F' : List PyData → Option PyData} (h : PF P w K mg base k x F) (hi : ∀ ds d, F' ds = some d → F ds = some d) : PF P w K mg base k x F' := by
  obtain ⟨f, fd, ps, h1, h2⟩ := h.ex
  refine ⟨f, fd, ps, h1.imp (fun vs H Q E ⟨G, ds, d, e, hR, hF, hQ⟩ => ⟨G, ds, d, e, hR, hi ds d hF, hQ⟩), h2⟩
section
variable {X : Cx} {K : PySem.W.Frag} {B : Bs} {W : XW} {e : Expr} {es : List Expr} {ta : TA} {sa : SA} {x : Str} {p pos : Pos} {k j : Nat} {F : List PyData → Option PyData}
theorem callP_ok (ha : AOk K B ta sa) : EOk K B (tCall (spPure K F) [] E0 ta) (eCall F sa) := fun Rg F' H σ ρ d E q Q kk => by
  cases e1 : sa ρ with
  | none => simp [eCall, e1] at q
  | some ds =>
    have q' : F ds = some d := by simpa [eCall, e1] using q
    refine ha _ F' H σ ρ ds E e1 _ fun vs H1 G1 g1 r1 => ?_
    rw [List.append_nil]
    exact ⟨G1, ds, d, g1.sub, r1, q', fun v H' G' g r => kk v H' G' (g1.trans g) r⟩
theorem BpAll.all {G H : Hp} (e : Same G H) : ∀ {vs : List V} {ds : List PyData}, BpAll K G H vs ds → RpAll K H vs ds
  | [], [], _ => .nil
  | [], _ :: _, h => by cases h
  | _ :: _, [], h => by cases h
  | v :: vs, d :: ds, h => by
    cases h with
    | cons h1 h2 => exact .cons (h1.all e) (BpAll.all e h2)
/-- own lists handed in for a moment: what comes back is a value without parts -/
theorem callPB_ok (ha : ABOk K B ta sa) : EOk K B (tCall (spPure K F) [] E0 ta) (eCall (fun ds => onlyS (F ds)) sa) := fun Rg F' H σ ρ d E q Q kk => by
  cases e1 : sa ρ with
  | none => simp [eCall, e1] at q
  | some ds =>
    have q' : onlyS (F ds) = some d := by simpa [eCall, e1] using q
    unfold onlyS at q'
    cases e2 : F ds with
    | none => simp [e2] at q'
    | some d' =>
      rw [e2, Option.bind_some] at q'
      split at q'
      · rename_i hs
        cases q'
        refine ha _ F' H σ ρ ds E e1 _ fun vs H1 G1 g1 r1 => ?_
        rw [List.append_nil]
        exact ⟨H1, ds, _, Same.refl H1, BpAll.all g1.sub r1, e2, fun v H' G' g r => kk v H' G1 (g1.trans ⟨g.h, Same.refl G1, g1.sub.trans g.h, fun _ z _ => z⟩) (rp_scal r hs)⟩
      · cases q'
theorem se_call (C : PF X.prog X.w K X.mg X.base k x F) (hr : Room j X.A) (ha : SemA X K B (e :: es) ta sa) (hk : k ≤ j := by decide) (hg : Gl X x := by rfl) (hdb : (x == ("__debug__" : Str)) = false := by decide)
    (he : starEach (e :: es) X.env = (false, eval e X.env) :: starEach es X.env := by rfl) (hpl : (backTo pos (starEach es X.env)).any (·.1) = false := by rfl) (hK : X.K = K := by rfl) : SemE X K B (.Call (.Name x p) (e :: es) [] pos) (tCall (spPure K F) [] E0 ta) (eCall F sa) := by
  subst hK
  obtain ⟨f, fd, ps, h1, h2, h3, h4⟩ := C.ex
  exact ⟨pe_call h1 (hr.mono hk) hg h2 h3 h4 .nil pass0 ha.pa hdb he hpl, callP_ok ha.ok⟩
theorem se_callB (C : PF X.prog X.w K X.mg X.base k x F) (hr : Room j X.A) (ha : SemAB X K B (e :: es) ta sa) (hk : k ≤ j := by decide) (hg : Gl X x := by rfl) (hdb : (x == ("__debug__" : Str)) = false := by decide)
    (he : starEach (e :: es) X.env = (false, eval e X.env) :: starEach es X.env := by rfl) (hpl : (backTo pos (starEach es X.env)).any (·.1) = false := by rfl) (hK : X.K = K := by rfl) : SemE X K B (.Call (.Name x p) (e :: es) [] pos) (tCall (spPure K F) [] E0 ta) (eCall (fun ds => onlyS (F ds)) sa) := by
  subst hK
  obtain ⟨f, fd, ps, h1, h2, h3, h4⟩ := C.ex
  exact ⟨pe_call h1 (hr.mono hk) hg h2 h3 h4 .nil pass0 ha.pa hdb he hpl, callPB_ok ha.ok⟩
end
/-- the law's own promise out of its function of data -/
theorem law_sp {K : PySem.W.Frag} {F : List PyData → Option PyData} {H : Hp} {a : Addr} {ns : List Int} (h : F [scrD ns] = some (.bool true)) (hS : SqL K H a (ns.map V.int)) : spPure K F [.ref a] H (fun v _ => v = .bl true) fun _ _ _ => False :=
  ⟨H, [scrD ns], .bool true, Same.refl H, .cons (.inr (.inr ⟨a, ns, rfl, rfl, hS⟩)) .nil, h, fun v H' G' _ r => r.bl⟩
end RT
/-! How the functions are reckoned: rows for simp. -/
namespace RT
open PySem PySem.Spec PyProof.Rows L2
def Out.thn : Out → (Rho → Out) → Out
  | .no, _ => .no
  | .nx r, g => g r
  | .rt d r, _ => .rt d r
  | .ex c r, _ => .ex c r
  | .ro i r, _ => .ro i r
def Out.res : Out → Option PyData
  | .no => none
  | .nx _ => some .none
  | .rt d _ => some d
  | .ex _ _ => none
  | .ro _ _ => none
section
variable {f f1 f2 f3 f4 : SE} {g : SA} {ρ : Rho} {t u : STe} {a b : SS} {c : Prop} [Decidable c]
@[simp] theorem thn_no (g : Rho → Out) : Out.thn .no g = .no := rfl
@[simp] theorem thn_nx (g : Rho → Out) (r : Rho) : Out.thn (.nx r) g = g r := rfl
@[simp] theorem thn_rt (g : Rho → Out) (d : PyData) (r : Rho) : Out.thn (.rt d r) g = .rt d r := rfl
@[simp] theorem thn_ro (g : Rho → Out) (i : Nat) (r : Rho) : Out.thn (.ro i r) g = .ro i r := rfl
@[simp] theorem thn_ex (g : Rho → Out) (c : Str) (r : Rho) : Out.thn (.ex c r) g = .ex c r := rfl
@[simp] theorem thn_ite (x y : Out) (g : Rho → Out) : Out.thn (if c then x else y) g = if c then x.thn g else y.thn g := by split <;> rfl
@[simp] theorem res_no : Out.res .no = none := rfl
@[simp] theorem res_nx (r : Rho) : Out.res (.nx r) = some .none := rfl
@[simp] theorem res_rt (d : PyData) (r : Rho) : Out.res (.rt d r) = some d := rfl
@[simp] theorem res_ex (c : Str) (r : Rho) : Out.res (.ex c r) = none := rfl
@[simp] theorem res_ite (x y : Out) : Out.res (if c then x else y) = if c then x.res else y.res := by split <;> rfl
@[simp] theorem bind_ite {α β : Type} (x y : Option α) (g : α → Option β) : (if c then x else y).bind g = if c then x.bind g else y.bind g := by split <;> rfl
@[simp] theorem map_ite {α β : Type} (x y : Option α) (g : α → β) : (if c then x else y).map g = if c then x.map g else y.map g := by split <;> rfl
theorem runF_eq (N : List Str) (n : Nat) (b : SS) (ds : List PyData) : runF N n b ds = if ds.length = n then (b (rho0 N ds)).res else none := by
  unfold runF
  split
  · cases b (rho0 N ds) <;> rfl
  · rfl
@[simp] theorem sSeq_eq : sSeq a b ρ = (a ρ).thn b := by unfold sSeq; cases a ρ <;> rfl
@[simp] theorem sNext_eq : sNext ρ = .nx ρ := rfl
def outV (o : Option PyData) (k : PyData → Out) : Out := match o with
  | some d => k d
  | none => .no
@[simp] theorem outV_some (d : PyData) (k : PyData → Out) : outV (some d) k = k d := rfl
@[simp] theorem outV_none (k : PyData → Out) : outV none k = .no := rfl
@[simp] theorem outV_ite (x y : Option PyData) (k : PyData → Out) : outV (if c then x else y) k = if c then outV x k else outV y k := by split <;> rfl
def outL (o : Option (List PyData)) (k : List PyData → Out) : Out := match o with
  | some d => k d
  | none => .no
@[simp] theorem outL_some (d : List PyData) (k : List PyData → Out) : outL (some d) k = k d := rfl
@[simp] theorem outL_none (k : List PyData → Out) : outL none k = .no := rfl
@[simp] theorem outL_ite (x y : Option (List PyData)) (k : List PyData → Out) : outL (if c then x else y) k = if c then outL x k else outL y k := by split <;> rfl
def outB (o : Option Bool) (k : Bool → Out) : Out := match o with
  | some d => k d
  | none => .no
@[simp] theorem outB_some (d : Bool) (k : Bool → Out) : outB (some d) k = k d := rfl
@[simp] theorem outB_none (k : Bool → Out) : outB none k = .no := rfl
@[simp] theorem outB_ite (x y : Option Bool) (k : Bool → Out) : outB (if c then x else y) k = if c then outB x k else outB y k := by split <;> rfl
@[simp] theorem sSet_eq (i : Nat) : sSet i f ρ = outV (f ρ) fun d => .nx (ρ.set i (.val d)) := by unfold sSet; cases f ρ <;> rfl
@[simp] theorem sSetL_eq (i : Nat) : sSetL i g ρ = outL (g ρ) fun d => .nx (ρ.set i (.own d)) := by unfold sSetL; cases g ρ <;> rfl
@[simp] theorem sDrop_eq : sDrop f ρ = outV (f ρ) fun _ => .nx ρ := by unfold sDrop; cases f ρ <;> rfl
@[simp] theorem sIf_eq : sIf t a b ρ = outB (t ρ) fun z => if z = true then a ρ else b ρ := by
  unfold sIf
  cases t ρ with
  | none => rfl
  | some z => cases z <;> rfl
@[simp] theorem sRet_eq : sRet f ρ = outV (f (ρ.map frz1)) (fun d => .rt d (ρ.map frz1)) := by unfold sRet; cases f (ρ.map frz1) <;> rfl
@[simp] theorem sRetN_eq : sRetN ρ = .rt .none ρ := rfl
@[simp] theorem frz1_own (ds : List PyData) : frz1 (.own ds) = .val (.list ds) := rfl
@[simp] theorem frz1_val (d : PyData) : frz1 (.val d) = .val d := rfl
@[simp] theorem frz1_no : frz1 .no = .no := rfl
@[simp] theorem sFor_eq (tg : PyData → Rho → Option Rho) : sFor g tg a ρ = outL (g ρ) fun ds => forF tg a ds ρ := by unfold sFor; cases g ρ <;> rfl
theorem forF_nil (tg : PyData → Rho → Option Rho) : forF tg a [] ρ = .nx ρ := rfl
theorem forF_cons1 (j : Nat) (d : PyData) (ds : List PyData) : forF (tg1 j) a (d :: ds) ρ = (a (ρ.set j (.val d))).thn (forF (tg1 j) a ds) := by
  simp only [forF, tg1]
  cases a (ρ.set j (.val d)) <;> rfl
/-- a slot -/
def slV : Option Sl → Option PyData
  | some (.val d) => some d
  | _ => none
def slB : Option Sl → Option PyData
  | some (.val d) => some d
  | some (.own ds) => some (.list ds)
  | _ => none
@[simp] theorem slV_val (d : PyData) : slV (some (.val d)) = some d := rfl
@[simp] theorem slB_val (d : PyData) : slB (some (.val d)) = some d := rfl
@[simp] theorem slB_own (d : List PyData) : slB (some (.own d)) = some (.list d) := rfl
@[simp] theorem eVar_eq (i : Nat) : eVar i ρ = slV ρ[i]? := by
  unfold eVar slV
  cases ρ[i]? with
  | none => rfl
  | some s => cases s <;> rfl
@[simp] theorem eVarB_eq (i : Nat) : eVarB i ρ = slB ρ[i]? := by
  unfold eVarB slB
  cases ρ[i]? with
  | none => rfl
  | some s => cases s <;> rfl
@[simp] theorem eC_eq (d : PyData) : eC d ρ = some d := rfl
@[simp] theorem eOp_eq (gg : PyData → PyData → Option PyData) : eOp gg f1 f2 ρ = (f1 ρ).bind fun x => (f2 ρ).bind fun y => gg x y := rfl
@[simp] theorem eUn_eq (gg : PyData → Option PyData) : eUn gg f1 ρ = (f1 ρ).bind gg := rfl
@[simp] theorem eNil_eq : eNil ρ = some [] := rfl
@[simp] theorem eCons_eq : eCons f g ρ = (f ρ).bind fun d => (g ρ).bind fun ds => some (d :: ds) := rfl
@[simp] theorem eTupD_eq : eTupD g ρ = (g ρ).bind fun ds => if ds.all dataD = true ∧ ds.length ≤ 1000 then some (.tuple ds) else none := rfl
@[simp] theorem eLstD_eq : eLstD g ρ = (g ρ).bind fun ds => if ds.all dataD = true ∧ ds.length ≤ 1000 then some ds else none := rfl
@[simp] theorem eList_eq : eList g ρ = (g ρ).map .list := rfl
@[simp] theorem eCall_eq (F : List PyData → Option PyData) : eCall F g ρ = (g ρ).bind F := rfl
@[simp] theorem eCallL_eq (F : List PyData → Option (List PyData)) : eCallL F g ρ = (g ρ).bind F := rfl
@[simp] theorem onlyS_eq (o : Option PyData) : onlyS o = o.bind fun d => if scalD d then some d else none := rfl
/-- a truth -/
def truD : PyData → Option Bool
  | .bool b => some b
  | _ => none
@[simp] theorem truD_bool (b : Bool) : truD (.bool b) = some b := rfl
@[simp] theorem bF_eq : bF f ρ = (f ρ).bind truD := by unfold bF truD; cases f ρ <;> rfl
@[simp] theorem tAndF_eq : tAndF t u ρ = (t ρ).bind fun b => if b = true then u ρ else some false := rfl
@[simp] theorem tOrF_eq : tOrF t u ρ = (t ρ).bind fun b => if b = true then some true else u ρ := rfl
@[simp] theorem tNotF_eq : tNotF t ρ = (t ρ).map (!·) := rfl
@[simp] theorem tYesF_eq : tYesF ρ = some true := rfl
@[simp] theorem eAndF_eq : eAndF f1 f2 ρ = ((f1 ρ).bind truD).bind fun b => if b = true then f2 ρ else some (.bool false) := by unfold eAndF; rw [bF_eq]
@[simp] theorem eOrF_eq : eOrF f1 f2 ρ = ((f1 ρ).bind truD).bind fun b => if b = true then some (.bool true) else f2 ρ := by unfold eOrF; rw [bF_eq]
@[simp] theorem eNotF_eq : eNotF f1 ρ = ((f1 ρ).bind truD).map fun b => .bool (!b) := by unfold eNotF; rw [bF_eq]
@[simp] theorem eIfF_eq : eIfF t f1 f2 ρ = (t ρ).bind fun b => if b = true then f1 ρ else f2 ρ := rfl
@[simp] theorem eChainF_eq (gg gg' : PyData → PyData → Option PyData) : eChainF gg gg' f1 f2 f3 ρ = (f1 ρ).bind fun x => (f2 ρ).bind fun y => ((gg x y).bind truD).bind fun z => if z = true then (f3 ρ).bind fun u => gg' y u else some (.bool false) := by
  unfold eChainF
  cases f1 ρ with
  | none => rfl
  | some x =>
    cases f2 ρ with
    | none => rfl
    | some y =>
      simp only [Option.bind_some]
      cases gg x y with
      | none => rfl
      | some z =>
        cases z with
        | bool b => cases b <;> rfl
        | _ => rfl
@[simp] theorem eChain3F_eq (gg gg' g2 : PyData → PyData → Option PyData) : eChain3F gg gg' g2 f1 f2 f3 f4 ρ = (f1 ρ).bind fun x => (f2 ρ).bind fun y => ((gg x y).bind truD).bind fun z => if z = true then (f3 ρ).bind fun u => ((gg' y u).bind truD).bind fun z => if z = true then (f4 ρ).bind fun u2 => g2 u u2 else some (.bool false) else some (.bool false) := by
  unfold eChain3F
  cases f1 ρ with
  | none => rfl
  | some x =>
    cases f2 ρ with
    | none => rfl
    | some y =>
      simp only [Option.bind_some]
      cases gg x y with
      | none => rfl
      | some z =>
        cases z with
        | bool b =>
          cases b with
          | false => rfl
          | true =>
            simp only [Option.bind_some, truD_bool, if_true]
            cases f3 ρ with
            | none => rfl
            | some u =>
              simp only [Option.bind_some]
              cases gg' y u with
              | none => rfl
              | some z =>
                cases z with
                | bool b => cases b <;> rfl
                | _ => rfl
        | _ => rfl
end
/-! ### operators -/
@[simp] theorem gAdd_int (i j : Int) : gAdd (.int i) (.int j) = some (.int (i + j)) := rfl
theorem gAdd_strE (x y : Str) : gAdd (.str x) (.str y) = if x.length + y.length ≤ LIM then some (.str (x ++ y)) else none := by
  unfold gAdd alt gAddI gI gAddS
  simp only
  split <;> rename_i h <;> split at h <;> simp_all [gAddL]
theorem gAdd_listE (x y : List PyData) : gAdd (.list x) (.list y) = if x.length + y.length ≤ LIM then some (.list (x ++ y)) else none := by
  unfold gAdd alt gAddI gI gAddS gAddL
  rfl
@[simp] theorem gAdd_str (x y : Str) (h : x.length + y.length ≤ LIM) : gAdd (.str x) (.str y) = some (.str (x ++ y)) := by rw [gAdd_strE, if_pos h]
@[simp] theorem gAdd_list (x y : List PyData) (h : x.length + y.length ≤ LIM) : gAdd (.list x) (.list y) = some (.list (x ++ y)) := by rw [gAdd_listE, if_pos h]
@[simp] theorem gMinus_int (i j : Int) : gMinus (.int i) (.int j) = some (.int (i - j)) := rfl
@[simp] theorem gMul_int (i j : Int) (h : cMul i j = true) : gMul (.int i) (.int j) = some (.int (i * j)) := by
  unfold gMul alt gMulI gI
  simp only [h, if_true]
@[simp] theorem gMul_list (x : List PyData) (k : Int) (h : k ≤ 1000000 ∧ -1000000 ≤ k ∧ x.length * k.toNat ≤ LIM) : gMul (.list x) (.int k) = some (.list (List.replicate k.toNat x).flatten) := by
  unfold gMul alt gMulI gI gMulL
  simp only [h, if_true]
  simp
@[simp] theorem gMul_str (x : Str) (k : Int) (h : x.length ≤ 1000 ∧ k ≤ 1000 ∧ -1000 ≤ k) : gMul (.str x) (.int k) = some (.str (Txt.mul x k)) := by
  unfold gMul alt gMulI gI gMulL gMulS
  simp only [h, if_true]
  simp
@[simp] theorem gFdiv_int (i j : Int) (h : cPos i j = true) : gFdiv (.int i) (.int j) = some (.int (i / j)) := by
  unfold gFdiv gI
  simp only [h, if_true]
@[simp] theorem gMod_int (i j : Int) (h : cPos i j = true) : gMod (.int i) (.int j) = some (.int (i % j)) := by
  unfold gMod gI
  simp only [h, if_true]
theorem cPos_of {i j : Int} (h1 : 0 < j) (h2 : j < 1073741824) : cPos i j = true := by simp [cPos, h1, h2]
theorem cMul_l {i j : Int} (h : i.natAbs ≤ 1000000000) : cMul i j = true := by simp [cMul, h]
theorem cMul_r {i j : Int} (h : j.natAbs ≤ 1000000000) : cMul i j = true := by simp [cMul, h]
@[simp] theorem cPos_def (i j : Int) : cPos i j = (decide (0 < j) && decide (j < 1073741824)) := rfl
@[simp] theorem gNeg_int (i : Int) : gNeg (.int i) = some (.int (-i)) := rfl
@[simp] theorem gLt_int (i j : Int) : gLt (.int i) (.int j) = some (.bool (decide (i < j))) := rfl
@[simp] theorem gLe_int (i j : Int) : gLe (.int i) (.int j) = some (.bool (decide (i ≤ j))) := rfl
@[simp] theorem gGt_int (i j : Int) : gGt (.int i) (.int j) = some (.bool (decide (j < i))) := rfl
@[simp] theorem gGe_int (i j : Int) : gGe (.int i) (.int j) = some (.bool (decide (j ≤ i))) := rfl
@[simp] theorem gEq_int (i j : Int) : gEq (.int i) (.int j) = some (.bool (i == j)) := rfl
@[simp] theorem gNe_int (i j : Int) : gNe (.int i) (.int j) = some (.bool (!(i == j))) := rfl
@[simp] theorem gEq_str (i j : Str) : gEq (.str i) (.str j) = some (.bool (i == j)) := rfl
@[simp] theorem gNe_str (i j : Str) : gNe (.str i) (.str j) = some (.bool (!(i == j))) := rfl
@[simp] theorem gEq_bool (i j : Bool) : gEq (.bool i) (.bool j) = some (.bool (i == j)) := rfl
@[simp] theorem gNe_bool (i j : Bool) : gNe (.bool i) (.bool j) = some (.bool (!(i == j))) := rfl
@[simp] theorem gEq_ns (i : Str) : gEq .none (.str i) = some (.bool false) := rfl
@[simp] theorem gIx_list (ds : List PyData) (i : Int) : gIx (.list ds) (.int i) = atI ds i := by
  unfold gIx alt gIx0 gIxS
  simp only
  split
  · rename_i h; exact h.symm
  · rename_i h; rw [h]
@[simp] theorem gIx_tuple (ds : List PyData) (i : Int) : gIx (.tuple ds) (.int i) = atI ds i := by
  unfold gIx alt gIx0 gIxS
  simp only
  split
  · rename_i h; exact h.symm
  · rename_i h; rw [h]
@[simp] theorem gIx_str (z : Str) (i : Int) (h : z.length ≤ LIM) : gIx (.str z) (.int i) = (atI z.cps.toList i).map fun c => .str ⟨#[c]⟩ := by
  unfold gIx alt gIx0 gIxS
  simp only [h, if_true]
  split
  · rename_i h; exact h.symm
  · rename_i h; rw [h]
@[simp] theorem gIx_scr (ns : List Int) (i : Int) : gIx (scrD ns) (.int i) = atI (ns.map .int) i := rfl
@[simp] theorem atI_0 {α : Type} (a : α) (l : List α) : atI (a :: l) 0 = some a := by
  unfold atI ixN
  simp
@[simp] theorem atI_1 {α : Type} (a b : α) (l : List α) : atI (a :: b :: l) 1 = some b := by
  have h : (1 : Int) < ((l.length : Int) + 1 + 1) := by omega
  unfold atI ixN
  simp [h]
@[simp] theorem atI_2 {α : Type} (a b c : α) (l : List α) : atI (a :: b :: c :: l) 2 = some c := by
  have h : (2 : Int) < ((l.length : Int) + 1 + 1 + 1) := by omega
  unfold atI ixN
  simp [h]
@[simp] theorem atI_3 {α : Type} (a b c d : α) (l : List α) : atI (a :: b :: c :: d :: l) 3 = some d := by
  have h : (3 : Int) < ((l.length : Int) + 1 + 1 + 1 + 1) := by omega
  unfold atI ixN
  simp [h]
theorem atI_pos {α : Type} (l : List α) (i : Int) (h : 0 ≤ i) : atI l i = l[i.toNat]? := by
  unfold atI ixN
  rw [if_pos h]
  by_cases h2 : i < (l.length : Int)
  · rw [if_pos h2]; rfl
  · rw [if_neg h2, List.getElem?_eq_none (by omega)]; rfl
@[simp] theorem dataD_int (i : Int) : dataD (.int i) = true := rfl
@[simp] theorem dataD_str (i : Str) : dataD (.str i) = true := rfl
@[simp] theorem dataD_bool (i : Bool) : dataD (.bool i) = true := rfl
@[simp] theorem dataD_none : dataD .none = true := rfl
@[simp] theorem dataD_list (l : List PyData) : dataD (.list l) = true := rfl
@[simp] theorem dataD_tuple (l : List PyData) : dataD (.tuple l) = true := rfl
@[simp] theorem scalD_int (i : Int) : scalD (.int i) = true := rfl
@[simp] theorem scalD_str (i : Str) : scalD (.str i) = true := rfl
@[simp] theorem scalD_bool (i : Bool) : scalD (.bool i) = true := rfl
@[simp] theorem scalD_none : scalD .none = true := rfl
@[simp] theorem gMax_int (i j : Int) : gMax [.int i, .int j] = some (.int (if j > i then j else i)) := rfl
@[simp] theorem gMin_int (i j : Int) : gMin [.int i, .int j] = some (.int (if j < i then j else i)) := rfl
@[simp] theorem gLen_list (ds : List PyData) : gLen [.list ds] = some (.int (ds.length : Nat)) := rfl
@[simp] theorem gLen_tuple (ds : List PyData) : gLen [.tuple ds] = some (.int (ds.length : Nat)) := rfl
@[simp] theorem gLen_scr (ns : List Int) : gLen [scrD ns] = some (.int (ns.length : Nat)) := by simp [gLen, scrD]
@[simp] theorem gLen_str (z : Str) (h : z.length ≤ LIM) : gLen [.str z] = some (.int (z.length : Nat)) := by simp [gLen, h]
@[simp] theorem gInt_int (i : Int) : gInt [.int i] = some (.int i) := rfl
@[simp] theorem gInt_bool (b : Bool) : gInt [.bool b] = some (.int (if b then 1 else 0)) := rfl
@[simp] theorem gListOf_list (ds : List PyData) : gListOf [.list ds] = some ds := rfl
@[simp] theorem gListOf_tuple (ds : List PyData) : gListOf [.tuple ds] = some ds := rfl
@[simp] theorem eIsi_eq (T : TyN) (f : SE) (ρ : Rho) : eIsi T f ρ = (f ρ).bind fun d => if dataD d = true then some (.bool (isiD T d)) else none := rfl
@[simp] theorem isi_bb (b : Bool) : isiD .bool (.bool b) = true := rfl
@[simp] theorem isi_bi (b : Int) : isiD .bool (.int b) = false := rfl
@[simp] theorem isi_bn : isiD .bool .none = false := rfl
@[simp] theorem isi_bs (b : Str) : isiD .bool (.str b) = false := rfl
@[simp] theorem isi_bt (b : List PyData) : isiD .bool (.tuple b) = false := rfl
@[simp] theorem isi_ib (b : Bool) : isiD .int (.bool b) = true := rfl
@[simp] theorem isi_ii (b : Int) : isiD .int (.int b) = true := rfl
@[simp] theorem isi_in : isiD .int .none = false := rfl
@[simp] theorem isi_is (b : Str) : isiD .int (.str b) = false := rfl
@[simp] theorem isi_it (b : List PyData) : isiD .int (.tuple b) = false := rfl
@[simp] theorem isi_ss (b : Str) : isiD .str (.str b) = true := rfl
@[simp] theorem isi_ll (b : List PyData) : isiD .list (.list b) = true := rfl
@[simp] theorem isi_tt (b : List PyData) : isiD .tuple (.tuple b) = true := rfl
/-! ### is -/
@[simp] theorem gIs_i (i : Int) (b : Bool) : gIs (.int i) (.bool b) = some (.bool false) := rfl
@[simp] theorem gIsNot_i (i : Int) (b : Bool) : gIsNot (.int i) (.bool b) = some (.bool true) := rfl
@[simp] theorem gIs_b (a b : Bool) : gIs (.bool a) (.bool b) = some (.bool (a == b)) := rfl
@[simp] theorem gIsNot_b (a b : Bool) : gIsNot (.bool a) (.bool b) = some (.bool (!(a == b))) := rfl
@[simp] theorem gIs_nn : gIs .none .none = some (.bool true) := rfl
@[simp] theorem gIs_bn (a : Bool) : gIs (.bool a) .none = some (.bool false) := rfl
@[simp] theorem gIs_in (a : Int) : gIs (.int a) .none = some (.bool false) := rfl
@[simp] theorem gIs_sn (a : Str) : gIs (.str a) .none = some (.bool false) := rfl
@[simp] theorem gIs_tn (a : List PyData) : gIs (.tuple a) .none = some (.bool false) := rfl
@[simp] theorem gIs_ln (a : List PyData) : gIs (.list a) .none = some (.bool false) := rfl
/-! ### the script's cells -/
def cell (ns : List Int) (k : Nat) : Int := (ns[k]?).getD 0
theorem cutA_one {α : Type} (l : List α) (k : Nat) : cutA l (some (k : Int)) (some ((k : Int) + 1)) = (l[k]?).toList := by
  unfold cutA
  have e1 : ((k : Int) + 1) = ((k + 1 : Nat) : Int) := by omega
  rw [HT.sIx_nat, e1, HT.sIx_nat]
  by_cases h : k < l.length
  · have h1 : min k l.length = k := by omega
    have h2 : min (k + 1) l.length - k = 1 := by omega
    rw [h1, h2, drop_cons_of (List.getElem?_eq_getElem h), List.getElem?_eq_getElem h]
    rfl
  · have h1 : min k l.length = l.length := by omega
    rw [h1, List.drop_length, List.getElem?_eq_none (by omega)]
    simp
theorem cell_ev (ns : List Int) (k : Nat) : (gAdd (.list (cutA (ns.map .int) (some (k : Int)) (some ((k : Int) + 1)))) (.list [.int 0])).bind (fun x => gIx x (.int 0)) = some (.int (cell ns k)) := by
  rw [cutA_one, List.getElem?_map]
  cases h : ns[k]? with
  | none => rw [gAdd_list _ _ (by simp [LIM])]; simp [cell, h]
  | some v => rw [gAdd_list _ _ (by simp [LIM])]; simp [cell, h]
/-! ### an item of a menu, at a remainder -/
theorem atI_mod {α : Type} (l : List α) (i : Int) (n : Int) (hn : n = (l.length : Int)) (h0 : 0 < n) : ∃ x, x ∈ l ∧ atI l (i % n) = some x := by
  have h1 := Int.emod_nonneg i (show n ≠ 0 by omega)
  have h2 := Int.emod_lt_of_pos i h0
  rw [atI_pos _ _ h1]
  have h3 : (i % n).toNat < l.length := by omega
  exact ⟨l[(i % n).toNat], List.getElem_mem h3, List.getElem?_eq_getElem h3⟩
/-! ### loops and comprehensions, the usual ones -/
theorem set_get {α : Type} {l : List α} {j : Nat} {x : α} (h : l[j]? = some x) : l.set j x = l := by
  obtain ⟨h1, h2⟩ := List.getElem?_eq_some_iff.mp h
  subst h2
  exact List.set_getElem_self h1
/-- a loop that looks for one and hands back at once -/
theorem forF_find {j : Nat} {body : SS} {ρ : Rho} {r : PyData} (p : PyData → Bool) : ∀ {ds : List PyData} {s : Sl}, j < ρ.length → (∀ d, d ∈ ds → body (ρ.set j (.val d)) = if p d = true then .rt r ((ρ.set j (.val d)).map frz1) else .nx (ρ.set j (.val d))) →
    ∃ s' r', forF (tg1 j) body ds (ρ.set j s) = if ds.any p = true then .rt r r' else .nx (ρ.set j s')
  | [], s, hj, h => ⟨s, [], by simp [forF]⟩
  | d :: ds, s, hj, h => by
    obtain ⟨s', r', e⟩ := forF_find p (ds := ds) (s := .val d) hj fun d' hd => h d' (List.mem_cons_of_mem _ hd)
    cases hp : p d with
    | true =>
      refine ⟨s', (ρ.set j (.val d)).map frz1, ?_⟩
      rw [forF_cons1, List.set_set, h d List.mem_cons_self]
      simp [hp]
    | false =>
      refine ⟨s', r', ?_⟩
      rw [forF_cons1, List.set_set, h d List.mem_cons_self]
      simp [hp, e]
theorem forF_find0 {j : Nat} {body : SS} {ρ : Rho} {r : PyData} (p : PyData → Bool) {ds : List PyData} (hj : j < ρ.length) (h : ∀ d, d ∈ ds → body (ρ.set j (.val d)) = if p d = true then .rt r ((ρ.set j (.val d)).map frz1) else .nx (ρ.set j (.val d))) :
    ∃ s' r', forF (tg1 j) body ds ρ = if ds.any p = true then .rt r r' else .nx (ρ.set j s') := by
  have e : ρ.set j ρ[j] = ρ := List.set_getElem_self hj
  obtain ⟨s', r', q⟩ := forF_find p (ds := ds) (s := ρ[j]) hj h
  rw [e] at q
  exact ⟨s', r', q⟩
/-- a comprehension without a test | with one -/
theorem lcF_map {j : Nat} {el : SE} {ρ : Rho} (g : PyData → PyData) : ∀ {ds : List PyData}, (∀ d, d ∈ ds → el (ρ.set j (.val d)) = some (g d) ∧ dataD (g d) = true) → lcF j tYesF el ρ ds = some (ds.map g)
  | [], _ => rfl
  | d :: ds, h => by
    have ih := lcF_map g (ds := ds) fun d' hd => h d' (List.mem_cons_of_mem _ hd)
    obtain ⟨h1, h2⟩ := h d List.mem_cons_self
    simp [lcF, h1, h2, ih]
theorem lcF_filter {j : Nat} {tst : STe} {el : SE} {ρ : Rho} (p : PyData → Bool) (g : PyData → PyData) : ∀ {ds : List PyData}, (∀ d, d ∈ ds → tst (ρ.set j (.val d)) = some (p d)) → (∀ d, d ∈ ds → p d = true → el (ρ.set j (.val d)) = some (g d) ∧ dataD (g d) = true) → lcF j tst el ρ ds = some ((ds.filter p).map g)
  | [], _, _ => rfl
  | d :: ds, h, h' => by
    have ih := lcF_filter p g (ds := ds) (fun d' hd => h d' (List.mem_cons_of_mem _ hd)) fun d' hd => h' d' (List.mem_cons_of_mem _ hd)
    have h1 := h d List.mem_cons_self
    cases hp : p d with
    | true =>
      obtain ⟨h2, h3⟩ := h' d List.mem_cons_self hp
      simp [lcF, h1, hp, h2, h3, ih]
    | false => simp [lcF, h1, hp, ih]
@[simp] theorem rangeD_len (lo : Int) (n : Nat) : (rangeD lo n).length = n := by simp [rangeD]
theorem mem_rangeD {lo : Int} {n : Nat} {d : PyData} (h : d ∈ rangeD lo n) : ∃ i : Nat, i < n ∧ d = .int (lo + i) := by
  unfold rangeD at h
  obtain ⟨i, h1, h2⟩ := List.mem_map.mp h
  exact ⟨i, by simpa using h1, h2.symm⟩
@[simp] theorem signsD_len (z : Str) : (signsD z).length = z.length := by simp [signsD, Str.length]
theorem mem_signsD {z : Str} {d : PyData} (h : d ∈ signsD z) : ∃ c, c ∈ z.cps.toList ∧ d = .str ⟨#[c]⟩ := by
  unfold signsD at h
  obtain ⟨c, h1, h2⟩ := List.mem_map.mp h
  exact ⟨c, h1, h2.symm⟩
@[simp] theorem lLc_eq (src : SA) (j : Nat) (t : STe) (f : SE) (ρ : Rho) : lLc src j t f ρ = (src ρ).bind fun ds => if ds.length ≤ LIM then lcF j t f ρ ds else none := rfl
@[simp] theorem iR1_eq (f : SA) (ρ : Rho) : iR1 f ρ = (f ρ).bind fun ds => match ds with
  | [.int j] => if j ≤ 1000000 ∧ -1000000 ≤ j then some (rangeD 0 j.toNat) else none
  | _ => none := rfl
@[simp] theorem iR2_eq (f : SA) (ρ : Rho) : iR2 f ρ = (f ρ).bind fun ds => match ds with
  | [.int i, .int j] => if (j ≤ 1000000 ∧ -1000000 ≤ j) ∧ i ≤ 1000000 ∧ -1000000 ≤ i then some (rangeD i (j - i).toNat) else none
  | _ => none := rfl
def lstD : PyData → Option (List PyData)
  | .list ds => if ds.length ≤ LIM then some ds else none
  | _ => none
@[simp] theorem lstD_list (ds : List PyData) (h : ds.length ≤ LIM) : lstD (.list ds) = some ds := by simp [lstD, h]
@[simp] theorem iL_eq (f : SE) (ρ : Rho) : iL f ρ = (f ρ).bind lstD := by unfold iL lstD; cases f ρ <;> rfl
def tupD : PyData → Option (List PyData)
  | .tuple ds => if ds.length ≤ LIM then some ds else none
  | _ => none
@[simp] theorem tupD_tup (ds : List PyData) (h : ds.length ≤ LIM) : tupD (.tuple ds) = some ds := by simp [tupD, h]
@[simp] theorem iT_eq (f : SE) (ρ : Rho) : iT f ρ = (f ρ).bind tupD := by unfold iT tupD; cases f ρ <;> rfl
def sgD : PyData → Option (List PyData)
  | .str z => if z.length ≤ LIM then some (signsD z) else none
  | _ => none
@[simp] theorem sgD_str (z : Str) (h : z.length ≤ LIM) : sgD (.str z) = some (signsD z) := by simp [sgD, h]
@[simp] theorem iS_eq (f : SE) (ρ : Rho) : iS f ρ = (f ρ).bind sgD := by unfold iS sgD; cases f ρ <;> rfl
/-- an own list's changes -/
def ownL : Option Sl → Option (List PyData)
  | some (.own ds) => some ds
  | _ => none
@[simp] theorem ownL_own (ds : List PyData) : ownL (some (.own ds)) = some ds := rfl
@[simp] theorem sApp_eq (i : Nat) (f : SE) (ρ : Rho) : sApp i f ρ = outL (ownL ρ[i]?) fun ds => outV (f ρ) fun d => if dataD d = true ∧ ds.length ≤ LIM then .nx (ρ.set i (.own (ds ++ [d]))) else .no := by
  unfold sApp
  cases h : ρ[i]? with
  | none => rfl
  | some s =>
    cases s with
    | own ds => cases f ρ <;> rfl
    | _ => rfl
def outI (o : Option PyData) (k : Int → Out) : Out := match o with
  | some (.int i) => k i
  | _ => .no
@[simp] theorem outI_int (i : Int) (k : Int → Out) : outI (some (.int i)) k = k i := rfl
def outN (o : Option Nat) (k : Nat → Out) : Out := match o with
  | some i => k i
  | none => .no
@[simp] theorem outN_some (i : Nat) (k : Nat → Out) : outN (some i) k = k i := rfl
@[simp] theorem sPut_eq (i : Nat) (ix f : SE) (ρ : Rho) : sPut i ix f ρ = outL (ownL ρ[i]?) fun ds => outV (f ρ) fun d => outI (ix ρ) fun k => outN (ixN ds.length k) fun j => if dataD d = true then .nx (ρ.set i (.own (ds.set j d))) else .no := by
  unfold sPut
  cases h : ρ[i]? with
  | none => rfl
  | some s =>
    cases s with
    | own ds =>
      cases f ρ with
      | none => rfl
      | some d =>
        cases ix ρ with
        | none => rfl
        | some k =>
          cases k with
          | int k =>
            show (match ixN ds.length k with
              | some j => _
              | none => Out.no) = outN (ixN ds.length k) _
            cases ixN ds.length k <;> rfl
          | _ => rfl
    | _ => rfl
theorem ixN_of {n : Nat} {i : Int} (h0 : 0 ≤ i) (h1 : i < n) : ixN n i = some i.toNat := by
  unfold ixN
  rw [if_pos h0, if_pos h1]
/-! ### joined texts -/
theorem gJoin_strs (z : Str) (ys : List Str) (h : (ys.map (·.length)).sum + ys.length * z.length ≤ LIM) : gJoin (.str z) (.list (ys.map .str)) = some (.str (Txt.join z ys)) := by
  unfold gJoin
  simp only [strsD_map, Option.bind_some, h, if_true]
end RT
/-! More words: what is never reached, texts split. -/
namespace RT
open PySem PySem.Spec PyProof.Rows L2
def sNo : SS := fun _ => .no
@[simp] theorem sNo_eq (ρ : Rho) : sNo ρ = .no := rfl
def gSplit : PyData → PyData → Option (List PyData)
  | .str a, .str b => if 0 < b.length ∧ a.length + 2 ≤ LIM then some ((Txt.split a b).map .str) else none
  | _, _ => none
@[simp] theorem gSplit_str (a b : Str) (h : 0 < b.length) (h2 : a.length + 2 ≤ LIM) : gSplit (.str a) (.str b) = some ((Txt.split a b).map .str) := by
  simp [gSplit, h, h2]
def lOp (g : PyData → PyData → Option (List PyData)) (f1 f2 : SE) : SA := fun ρ => (f1 ρ).bind fun x => (f2 ρ).bind fun y => g x y
@[simp] theorem lOp_eq (g : PyData → PyData → Option (List PyData)) (f1 f2 : SE) (ρ : Rho) : lOp g f1 f2 ρ = (f1 ρ).bind fun x => (f2 ρ).bind fun y => g x y := rfl
section
variable {X : Cx} {K : PySem.W.Frag} {B : Bs} {W : XW} {e a b : Expr} {t t1 t2 : TE} {f f1 f2 : SE} {ta : TA} {sa : SA} {pos p : Pos} {st : Stmt}
theorem s_never : SemS X K B W st tNever sNo := ⟨ps_never, fun _ _ _ _ _ _ _ _ h => h.elim⟩
abbrev rSplit : V → List V → Hp → VK → Prop := fun x xs H Q => ∃ a b, x = .str a ∧ xs = [.str b] ∧ (b.length == 0) = false ∧ a.length + 2 ≤ sizeLine ∧ rNewStrs (Txt.split a b) H Q
theorem dq_strs {F : Hp} : ∀ ns : List Str, DqAll K F (ns.map V.str) (ns.map PyData.str)
  | [] => .nil
  | n :: ns => .cons (.str n) (dq_strs ns)
theorem split_ok (h1 : BOk K B t1 f1) (h2 : BOk K B t2 f2) : LOk K B (tM1 rSplit t1 t2) (lOp gSplit f1 f2) := fun R F H σ ρ ds E q Q k => by
  cases e1 : f1 ρ with
  | none => simp [e1] at q
  | some x =>
    cases e2 : f2 ρ with
    | none => simp [e1, e2] at q
    | some y =>
      have q' : gSplit x y = some ds := by simpa [e1, e2] using q
      unfold gSplit at q'
      split at q'
      · rename_i z y
        split at q'
        · rename_i hz
          cases q'
          refine h1 R F H σ ρ _ E e1 _ fun v H1 G1 g1 b1 => ⟨⟨z, b1.str⟩, ?_⟩
          refine h2 R G1 H1 σ ρ _ (E.grow g1) e2 _ fun w H2 G2 g2 b2 => ?_
          refine ⟨z, y, b1.str, by rw [b2.str], by simpa using (show y.length ≠ 0 by omega), lim_line hz.2, fun p hp => ?_⟩
          exact k p _ _ G2 ((g1.trans g2).beside hp) ((g1.trans g2).h.free hp) ((g1.trans g2).sub.free hp) upd_same (dq_strs _)
        · cases q'
      · cases q'
theorem sl_split {apos : Pos} (h1 : SemB X K B a t1 f1) (h2 : SemB X K B b t2 f2) (hs : starEach [b] X.env = [(false, eval b X.env)] := by rfl) (hbase : attributeBase a "split" X.env (eval a X.env) = eval a X.env := by rfl) (hline : (apos.endLine == pos.line) = true := by rfl) :
    SemL X K B (.Call (.Attribute a "split" apos) [b] [] pos) (tM1 rSplit t1 t2) (lOp gSplit f1 f2) := ⟨pe_split h1.pe h2.pe hs hbase hline, split_ok h1.ok h2.ok⟩
end
end RT
/-! ### loops that carry a state; data that can be compared -/
namespace RT
open PySem PySem.Spec PyProof.Rows L2
theorem forF_list {j : Nat} {body : SS} (R : Nat → Rho) : ∀ {ds : List PyData} (n : Nat), (∀ k d, ds[k]? = some d → body ((R (n + k)).set j (.val d)) = .nx (R (n + k + 1))) → forF (tg1 j) body ds (R n) = .nx (R (n + ds.length))
  | [], n, _ => rfl
  | d :: ds, n, h => by
    have h0 := h 0 d rfl
    rw [Nat.add_zero] at h0
    rw [forF_cons1, h0, thn_nx]
    have := forF_list R (ds := ds) (n + 1) fun k d' hd => by
      have := h (k + 1) d' (by simpa using hd)
      rw [show n + 1 + k = n + (k + 1) by omega]
      exact this
    rw [this, List.length_cons]
    congr 2
    omega
theorem forF_range {j : Nat} {body : SS} (R : Nat → Rho) (n : Nat) (h : ∀ k : Nat, k < n → body ((R k).set j (.val (.int (k : Int)))) = .nx (R (k + 1))) : forF (tg1 j) body (rangeD 0 n) (R 0) = .nx (R n) := by
  have := forF_list (j := j) (body := body) R (ds := rangeD 0 n) 0 fun k d hd => by
    have hk : k < n := by
      have := (List.getElem?_eq_some_iff.mp hd).1
      simpa using this
    have hd' : d = .int (k : Int) := by
      simp [rangeD, hk] at hd
      exact hd.symm
    rw [hd', Nat.zero_add]
    exact h k hk
  rw [this, rangeD_len, Nat.zero_add]
mutual
/-- data that == may look at -/
def okD : PyData → Bool
  | .str x => PyData.canLay0 (.str x)
  | .list l => okDs l
  | .tuple l => okDs l
  | .dict _ => false
  | _ => true
def okDs : List PyData → Bool
  | [] => true
  | x :: l => okD x && okDs l
end
mutual
theorem okD_lay : ∀ d, okD d = true → d.canLay0 = true
  | .none, _ => by simp [PyData.canLay0]
  | .bool _, _ => by simp [PyData.canLay0]
  | .int _, _ => by simp [PyData.canLay0]
  | .str x, h => by simpa [okD] using h
  | .list l, h => by
    have := okDs_lay l (by simpa [okD] using h)
    simpa [PyData.canLay0] using this
  | .tuple l, h => by
    have := okDs_lay l (by simpa [okD] using h)
    simpa [PyData.canLay0] using this
  | .dict _, h => by simp [okD] at h
theorem okDs_lay : ∀ l, okDs l = true → PyData.canLayAll0 l = true
  | [], _ => by simp [PyData.canLayAll0]
  | x :: l, h => by
    have h' : okD x = true ∧ okDs l = true := by simpa [okDs] using h
    simp [PyData.canLayAll0, okD_lay x h'.1, okDs_lay l h'.2]
end
theorem okDs_all {l : List PyData} : okDs l = l.all okD := by
  induction l with
  | nil => rfl
  | cons x l ih => simp [okDs, ih]
theorem okD_data {d : PyData} (h : okD d = true) : dataD d = true := by
  cases d <;> first | rfl | simp [okD] at h
theorem gEq_same {l : List PyData} (h : okDs l = true) (hd : (PyData.list l).depth ≤ 64) : gEq (.list l) (.list l) = some (.bool true) := by
  have h1 := okD_lay (.list l) (by simpa [okD] using h)
  have h2 : SeqAt.shaped (.list l) = true := by simp [SeqAt.shaped, h1, hd]
  show gEqD (.list l) (.list l) = _
  unfold gEqD
  rw [if_pos ⟨rfl, rfl, h2, h2⟩, SeqAt.eqv_refl _ h1]
theorem gNe_same {l : List PyData} (h : okDs l = true) (hd : (PyData.list l).depth ≤ 64) : gNe (.list l) (.list l) = some (.bool false) := by
  have h1 := okD_lay (.list l) (by simpa [okD] using h)
  have h2 : SeqAt.shaped (.list l) = true := by simp [SeqAt.shaped, h1, hd]
  show gNeD (.list l) (.list l) = _
  unfold gNeD
  rw [if_pos ⟨rfl, rfl, h2, h2⟩, SeqAt.eqv_refl _ h1]
  rfl
theorem depthAll_le {n : Nat} : ∀ {l : List PyData}, (∀ d ∈ l, d.depth ≤ n) → PyData.depthAll l ≤ n
  | [], _ => by simp [PyData.depthAll]
  | d :: l, h => by
    have h1 := h d List.mem_cons_self
    have h2 := depthAll_le fun e he => h e (List.mem_cons_of_mem _ he)
    simp only [PyData.depthAll]
    omega
end RT
/-! Objects of the program: methods that read, that change, that raise. -/
namespace RT
open PySem PySem.Spec PyProof.Rows L2
/-! ### what a call may do -/
inductive Res where
  | no | ret (d : PyData) | exc (c : Str)
inductive RM where
  | no | done (β : BookSt) (d : PyData) | exc (c : Str)
def Res.goes (r : Res) (A : PyData → Prop) (B : Str → Prop) : Prop := match r with
  | .no => False
  | .ret d => A d
  | .exc c => B c
def RM.goes (r : RM) (A : BookSt → PyData → Prop) (B : Str → Prop) : Prop := match r with
  | .no => False
  | .done β d => A β d
  | .exc c => B c
def Res.ok : Res → Option PyData
  | .ret d => some d
  | _ => none
/-- what is raised, by the name of its own class -/
abbrev wx (K : PySem.W.Frag) (w : WX) : XW := fun c σ H => w (.ref (He.ga K c)) none σ H
abbrev WxNo : WX := fun _ _ _ _ => False
def EXOk (K : PySem.W.Frag) (B : Bs) (w : WX) (t : TE) (f : Rho → Res) : Prop := ∀ (R F H : Hp) (σ : L2.St) (ρ : Rho) (Q : VK), EnvOk K B R F H σ ρ →
  (f ρ).goes (fun d => ∀ v H' G, Grow H F H' G → Rp K G v d → Q v H') (fun c => ∀ H' G, Grow H F H' G → wx K w c σ H') → t σ H Q
structure SemX (X : Cx) (K : PySem.W.Frag) (B : Bs) (w : WX) (e : Expr) (t : TE) (f : Rho → Res) : Prop where
  pe : PE X e t
  ok : EXOk K B w t f
def sDropX (f : Rho → Res) : SS := fun ρ => match f ρ with
  | .no => .no
  | .ret _ => .nx ρ
  | .exc c => .ex c ρ
def sSetX (i : Nat) (f : Rho → Res) : SS := fun ρ => match f ρ with
  | .no => .no
  | .ret d => .nx (ρ.set i (.val d))
  | .exc c => .ex c ρ
def sEx (c : Str) : SS := fun ρ => .ex c ρ
section
variable {X : Cx} {K : PySem.W.Frag} {B : Bs} {w : WX} {e : Expr} {te : TE} {f : Rho → Res} {pos : Pos}
theorem dropX_ok (k : EXOk K B w te f) : SSOk K B (wx K w) (tDrop te) (sDropX f) := fun Z R F H σ ρ D s hg => by
  unfold sDropX at hg
  refine k R F H σ ρ _ s.env ?_
  cases e : f ρ with
  | no => rw [e] at hg; exact hg.elim
  | ret d => rw [e] at hg; exact fun v H' G g _ => hg σ H' R G (s.grow g) g.f
  | exc c => rw [e] at hg; exact fun H' G g => hg σ H' R G (s.grow g) g.f
theorem setX_ok (i : Nat) (k : EXOk K B w te f) : SSOk K B (wx K w) (tAsg te (gName i)) (sSetX i f) := fun Z R F H σ ρ D s hg => by
  unfold sSetX at hg
  refine k R F H σ ρ _ s.env ?_
  cases e : f ρ with
  | no => rw [e] at hg; exact hg.elim
  | ret d => rw [e] at hg; exact fun v H' G g r => hg _ H' R G ((s.grow g).setV i r) g.f
  | exc c => rw [e] at hg; exact fun H' G g => hg σ H' R G (s.grow g) g.f
theorem s_exprX (he : SemX X K B w e te f) (hs : swapsWith e none pos.line X.env = pure false := by rfl) : SemS X K B (wx K w) (.Expr e pos) (tDrop te) (sDropX f) := ⟨ps_expr he.pe hs, dropX_ok he.ok⟩
theorem s_setX (i : Nat) {x : Str} {pos' : Pos} (hN : X.N.Nodup) (he : SemX X K B w e te f) (hi : X.N[i]? = some x := by rfl) (hx : Loc X.env.scope x := by first | exact Or.inl rfl | exact Or.inr rfl) (hs : swapsWith e (some (.Name x pos')) pos.line X.env = pure false := by rfl)
    (hf : X.fn x = true ∨ X.env.scope.names.lookup x = some .local := by first | exact .inl rfl | exact .inr rfl) : SemS X K B (wx K w) (.Assign [.Name x pos'] e pos) (tAsg te (gName i)) (sSetX i f) := ⟨ps_set hN hi hx he.pe hs hf, setX_ok i he.ok⟩
/-- an own class of exceptions -/
structure ExT (K : PySem.W.Frag) (mg : Str → Option Value) (c : Str) : Prop where
  g : mg c = some (.ref (He.ga K c))
  x : PySem.W.excIn K (He.ga K c) He.veBase "ValueError.__new__" = true
  k : PySem.W.keepIn K (.ref (He.ga K c)) = true
  b : PySem.W.subIn K (.ref (He.ga K c)) (.type "BaseException") = some true
  t : PySem.W.typeIn K (.ref (He.ga K c)) = some (.type "type")
theorem s_raise {x m : Str} {j : Nat} {p p2 pos2 : Pos} (hc : X.calm = true) (tk : Takes X w) (T : ExT X.K X.mg x) (hg : Gl X x := by rfl) (hdb : (x == ("__debug__" : Str)) = false := by decide) (hK : X.K = K := by rfl) :
    SemS X K B (wx K w) (.Raise (some (.Call (.Name x p) [.Constant (.str m) j p2] [] pos)) none pos2) (fun _ σ H => w (.ref (He.ga K x)) none σ H) (sEx x) := by
  subst hK
  exact ⟨ps_raise hc tk (pmk_own PySem.F.excBase_ValueError T.x T.g T.k (raises_own T.b T.t) hg hdb), fun Z R F H σ ρ D s hg => hg σ H R F s (Same.refl F)⟩
end
/-! ### a method's call, what is raised wished at the caller's slots -/
def tMethS (C : Addr) (m : Str) (sp : Sp) (E : L2.St → XK) (ta : TE) (t : TA) : TE := fun σ H Q => ta σ H fun x H1 => ∃ a dx fs, x = .ref a ∧ H1 a = some (.ins C dx fs) ∧ fs.lookup m = none ∧ t σ H1 fun vs H2 => sp (x :: vs) H2 Q (E σ)
theorem pe_methW {X : Cx} {w : WX} {C f : Addr} {fd : FuncData} {ps : List Str} {m : Str} {k j : Nat} {sp : Sp} {o e : Expr} {es : List Expr} {ta : TE} {t : TA} {apos pos : Pos} {pl : Sem Bool} (tk : Takes X w) (ho : PE X o ta) (cl : Cls X.K C) (me : Meth X.K C m f)
    (G : FnOk X.prog X.w X.K X.mg X.base (L2.CX X.prog X.w) k f fd ps sp) (hr : Room j X.A) (hk : k ≤ j) (bd : Binds X.K fd ps []) (hp : PA X (e :: es) t)
    (h1 : starEach (e :: es) X.env = (false, eval e X.env) :: starEach es X.env := by rfl) (h2 : (backTo pos (starEach es X.env)).any (·.1) = false := by rfl)
    (h3 : eval (.Call (.Attribute o m apos) (e :: es) [] pos) X.env = (eval o X.env >>= fun ov => standAt apos.atName >>= fun _ => holding [ov] (getMethod ov m pl) >>= fun r => callWith pos r.1 r.2 (backTo pos (starEach (e :: es) X.env)) (backToKw pos (keywordEach [] X.env))) := by rfl) :
    PE X (.Call (.Attribute o m apos) (e :: es) [] pos) (tMethS C m sp (WE w) ta t) :=
  ⟨fun pins s σ H Q I h => PySem.W.methodCall_KW (pl := pl) (thn (ho.run pins s σ H _ I h) fun u s1 ⟨x, Ha, Ia, rx, a, dx, fs, ex, ea, lk, q⟩ => by
    cases ex
    cases rx
    exact getmeth_ok Ia ea cl me lk (PySem.W.callWith_K (first := [.ref a]) (h₀ := X.base) Ia.ok.mod.kin me.kp (thn (hp.run pos pins s1 σ Ha _ Ia q) fun us s2 ⟨vs, Hb, Ib, rv, q2⟩ => ⟨Ib.kIn, run_fnS (us := .ref a :: us) (vs := .ref a :: vs) G (hr.mono hk) bd (passAt tk σ) Ib (.cons rfl rv) q2⟩) h1 h2)) h3⟩
end RT
/-! Books in slots: made, read, changed. -/
namespace RT
open PySem PySem.Spec PyProof.Rows L2
/-- a reading method (or function): the book first -/
def spR (K : PySem.W.Frag) (Fr : BookSt → List PyData → Res) : Sp := fun vs H Q E => ∃ (G R : Hp) (a : Addr) (β : BookSt) (us : List V) (ds : List PyData), vs = .ref a :: us ∧ Same G H ∧ Same R H ∧ Apart R G ∧ BookAt K G R a β ∧ RpAll K G us ds ∧
  (Fr β ds).goes (fun d => ∀ v H' G', Grow H G H' G' → Rp K G' v d → Q v H') (fun c => ∀ H' G', Grow H G H' G' → E (.ref (He.ga K c)) none H')
/-- one that may change the book -/
def spM (K : PySem.W.Frag) (Fm : BookSt → List PyData → RM) : Sp := fun vs H Q E => ∃ (G R : Hp) (a : Addr) (β : BookSt) (us : List V) (ds : List PyData), vs = .ref a :: us ∧ Same G H ∧ Same R H ∧ Apart R G ∧ BookAt K G R a β ∧ RpAll K G us ds ∧
  (Fm β ds).goes (fun β' d => ∀ v H' G' R', GrowM ⟨R, H, G⟩ H' G' → Same R' H' → Apart R' G' → (∀ x, R' x ≠ none → R x ≠ none ∨ H x = none) → BookAt K G' R' a β' → Rp K G' v d → Q v H') (fun c => ∀ H' G', Grow H G H' G' → E (.ref (He.ga K c)) none H')
def addrOf : PyData → Option Addr
  | .dict [(.int a, .none)] => some a.toNat
  | _ => none
theorem addrOf_ok {d : PyData} {a : Addr} (h : addrOf d = some a) {K : PySem.W.Frag} {F : Hp} {v : V} (r : Rp K F v d) : v = .ref a := by
  unfold addrOf at h
  split at h
  · rename_i i
    cases h
    rcases r with r | ⟨b, rfl, e⟩ | ⟨b, ns, _, e, _⟩
    · cases r
    · unfold refD at e
      cases e
      rfl
    · cases e
  · cases h
/-- the book that slot i names -/
def rcv (bk : Addr → Option BookSt) (ρ : Rho) (i : Nat) : Option BookSt := match ρ[i]? with
  | some (.obj (.book β)) => some β
  | some (.val d) => (addrOf d).bind bk
  | _ => none
theorem rcv_ok {K : PySem.W.Frag} {B : Bs} {R F H : Hp} {σ : L2.St} {ρ : Rho} {i : Nat} {β : BookSt} (E : EnvOk K B R F H σ ρ) (h : rcv B.bk ρ i = some β) : ∃ a R', σ[i]? = some (some (.ref a)) ∧ BookAt K F R' a β ∧ Same R' H ∧ Apart R' F := by
  unfold rcv at h
  split at h
  · rename_i β' e
    cases h
    obtain ⟨a, h1, h2⟩ := E.obj i _ e
    exact ⟨a, R, h1, h2, E.rh, E.rF⟩
  · rename_i d e
    cases ha : addrOf d with
    | none => rw [ha] at h; cases h
    | some a =>
      rw [ha, Option.bind_some] at h
      obtain ⟨v, h1, h2⟩ := E.val i d e
      have := addrOf_ok ha h2
      subst this
      exact ⟨a, B.h, h1, (E.bo a β h).mono E.bs (Same.refl _), E.bh, E.bF⟩
  · cases h
theorem BookAt.ins {K : PySem.W.Frag} {F R H : Hp} {a : Addr} {β : BookSt} (h : BookAt K F R a β) (e : Same R H) : ∃ dx dS dL dR dT dN, H a = some (.ins (He.ga K "Book") dx (bkFs dS dL dR dT dN)) := by
  obtain ⟨dx, dS, dL, dR, dT, dN, pe, sh, h⟩ := h
  exact ⟨dx, dS, dL, dR, dT, dN, e _ _ h.ob⟩
def xMeth (bk : Addr → Option BookSt) (i : Nat) (Fr : BookSt → List PyData → Res) (sa : SA) : Rho → Res := fun ρ => match rcv bk ρ i, sa ρ with
  | some β, some ds => Fr β ds
  | _, _ => .no
def eMeth (bk : Addr → Option BookSt) (i : Nat) (Fr : BookSt → List PyData → Res) (sa : SA) : SE := fun ρ => (xMeth bk i Fr sa ρ).ok
def bkNo (m : Str) : Prop := ∀ dS dL dR dT dN, (bkFs dS dL dR dT dN).lookup m = none
theorem bkNo_of {m : Str} (h : (["skills", "limits", "rests", "stretches", "needs"] : List Str).all (fun f => !(m == f)) = true) : bkNo m := fun dS dL dR dT dN => by
  simp only [List.all_cons, List.all_nil, Bool.and_true, Bool.and_eq_true, Bool.not_eq_true'] at h
  obtain ⟨h1, h2, h3, h4, h5⟩ := h
  simp [bkFs, List.lookup, h1, h2, h3, h4, h5]
section
variable {X : Cx} {K : PySem.W.Frag} {B : Bs} {w : WX} {e : Expr} {ta : TA} {sa : SA} {i : Nat} {m : Str} {Fr : BookSt → List PyData → Res} {Fm : BookSt → List PyData → RM}
theorem methX_ok (hn : bkNo m) (ha : AOk K B ta sa) : EXOk K B w (tMethS (He.ga K "Book") m (spR K Fr) (WE w) (tVar i) ta) (xMeth B.bk i Fr sa) := fun R F H σ ρ Q E q => by
  unfold xMeth at q
  cases e1 : rcv B.bk ρ i with
  | none => rw [e1] at q; exact (show False from q).elim
  | some β =>
    cases e2 : sa ρ with
    | none => rw [e1, e2] at q; exact (show False from q).elim
    | some ds =>
      rw [e1, e2] at q
      obtain ⟨a, R', s1, bA, sR, ap⟩ := rcv_ok E e1
      obtain ⟨dx, dS, dL, dR, dT, dN, ho⟩ := bA.ins sR
      refine ⟨.ref a, s1, a, dx, _, rfl, ho, hn _ _ _ _ _, ?_⟩
      refine ha _ F H σ ρ ds E e2 _ fun vs H1 G1 g1 r1 => ?_
      refine ⟨G1, R', a, β, vs, ds, rfl, g1.sub, sR.trans g1.h, g1.apart sR ap, bA.mono g1.f (Same.refl _), r1, ?_⟩
      cases e3 : Fr β ds with
      | no => simp only [e3] at q; exact (show False from q).elim
      | ret d => simp only [e3] at q ⊢; exact fun v H' G' g r => q v H' G' (g1.trans g) r
      | exc c => simp only [e3] at q ⊢; exact fun H' G' g => q H' G' (g1.trans g)
theorem meth_okE (hn : bkNo m) (ha : AOk K B ta sa) : EOk K B (tMeth (He.ga K "Book") m (spR K Fr) [] E0 (tVar i) ta) (eMeth B.bk i Fr sa) := fun R F H σ ρ d E q Q k => by
  unfold eMeth xMeth at q
  cases e1 : rcv B.bk ρ i with
  | none => rw [e1] at q; cases q
  | some β =>
    cases e2 : sa ρ with
    | none => rw [e1, e2] at q; cases q
    | some ds =>
      rw [e1, e2] at q
      obtain ⟨a, R', s1, bA, sR, ap⟩ := rcv_ok E e1
      obtain ⟨dx, dS, dL, dR, dT, dN, ho⟩ := bA.ins sR
      refine ⟨.ref a, s1, a, dx, _, rfl, ho, hn _ _ _ _ _, ?_⟩
      refine ha _ F H σ ρ ds E e2 _ fun vs H1 G1 g1 r1 => ?_
      rw [List.append_nil]
      refine ⟨G1, R', a, β, vs, ds, rfl, g1.sub, sR.trans g1.h, g1.apart sR ap, bA.mono g1.f (Same.refl _), r1, ?_⟩
      cases e3 : Fr β ds with
      | no => simp [e3, Res.ok] at q
      | ret d' =>
        simp [e3, Res.ok] at q
        subst q
        exact fun v H' G' g r => k v H' G' (g1.trans g) r
      | exc c => simp [e3, Res.ok] at q
end
/-! ### a book is made, changed -/
def noObj (ρ : Rho) : Bool := ρ.all fun s => match s with
  | .obj _ => false
  | _ => true
theorem noObj_ok {ρ : Rho} (h : noObj ρ = true) {i : Nat} {o : ObjSt} (e : ρ[i]? = some (.obj o)) : False := by
  unfold noObj at h
  rw [List.all_eq_true] at h
  have := h _ (List.mem_of_getElem? e)
  cases this
def sMkB (i : Nat) : SS := fun ρ => if noObj (ρ.set i .no) = true then .nx (ρ.set i (.obj (.book ⟨[], []⟩))) else .no
def sMut (i : Nat) (Fm : BookSt → List PyData → RM) (sa : SA) : SS := fun ρ => match ρ[i]?, sa ρ with
  | some (.obj (.book β)), some ds => if noObj (ρ.set i .no) = true then (match Fm β ds with
    | .no => .no
    | .done β' _ => .nx (ρ.set i (.obj (.book β')))
    | .exc c => .ex c ρ) else .no
  | _, _ => .no
theorem EnvOk.setO {K : PySem.W.Frag} {B : Bs} {R R' F G H H' : Hp} {σ : L2.St} {ρ : Rho} {i : Nat} {a : Addr} {o : ObjSt} {x : Option V} (E : EnvOk K B R F H σ ρ) (hn : noObj (ρ.set i .no) = true) (hx : i < ρ.length → (σ.set i x)[i]? = some (some (.ref a)))
    (f : Same F G) (sub : Same G H') (hB : Same B.h H') (bF : Apart B.h G) (rh : Same R' H') (rF : Apart R' G) (rB : Apart R' B.h) (hO : ObjAt K G R' a o)
    (hoa : ∀ a0, B.o = some a0 → a = a0) (own : ∀ p vs, H p = some (.lst vs) → F p = none → R p = none → H' p = some (.lst vs) ∧ G p = none ∧ R' p = none) : EnvOk K B R' G H' (σ.set i x) (ρ.set i (.obj o)) where
  bs := E.bs.trans f
  bh := hB
  bF := bF
  bo := E.bo
  ex := sub
  rh := rh
  rF := rF
  rB := rB
  len := by simp [E.len]
  val := fun j d h => by
    by_cases hij : i = j
    · subst hij
      by_cases hj : i < ρ.length
      · rw [List.getElem?_set_self hj] at h
        cases h
      · rw [List.getElem?_eq_none (by simpa using hj)] at h
        cases h
    · rw [List.getElem?_set_ne hij] at h ⊢
      obtain ⟨v, h1, h2⟩ := E.val j d h
      exact ⟨v, h1, h2.mono f⟩
  own := fun j ds h => by
    by_cases hij : i = j
    · subst hij
      by_cases hj : i < ρ.length
      · rw [List.getElem?_set_self hj] at h
        cases h
      · rw [List.getElem?_eq_none (by simpa using hj)] at h
        cases h
    · rw [List.getElem?_set_ne hij] at h ⊢
      obtain ⟨p, vs, h1, h2, h3, h4, h5, h6⟩ := E.own j ds h
      obtain ⟨k1, k2, k3⟩ := own p vs h2 h4 h5
      exact ⟨p, vs, h1, k1, dpa_mono f ds h3, k2, k3, h6⟩
  dis := fun j k ds es p hjk h1 h2 h3 h4 => by
    by_cases hij : i = j
    · subst hij
      by_cases hj : i < ρ.length
      · rw [List.getElem?_set_self hj] at h1
        cases h1
      · rw [List.getElem?_eq_none (by simpa using hj)] at h1
        cases h1
    · by_cases hik : i = k
      · subst hik
        by_cases hj : i < ρ.length
        · rw [List.getElem?_set_self hj] at h2
          cases h2
        · rw [List.getElem?_eq_none (by simpa using hj)] at h2
          cases h2
      · rw [List.getElem?_set_ne hij] at h1 h3
        rw [List.getElem?_set_ne hik] at h2 h4
        exact E.dis j k ds es p hjk h1 h2 h3 h4
  obj := fun j o' h => by
    by_cases hij : i = j
    · subst hij
      by_cases hj : i < ρ.length
      · rw [List.getElem?_set_self hj] at h
        cases h
        exact ⟨a, hx hj, hO⟩
      · rw [List.getElem?_eq_none (by simpa using hj)] at h
        cases h
    · rw [List.getElem?_set_ne hij] at h
      exact (noObj_ok (i := j) (o := o') hn (by rw [List.getElem?_set_ne hij]; exact h)).elim
  oa := fun a0 q j o' a' h hs => by
    by_cases hij : i = j
    · subst hij
      by_cases hj : i < ρ.length
      · rw [hx hj] at hs
        cases hs
        exact hoa a0 q
      · rw [List.getElem?_eq_none (by simpa using hj)] at h
        cases h
    · rw [List.getElem?_set_ne hij] at h
      exact (noObj_ok (i := j) (o := o') hn (by rw [List.getElem?_set_ne hij]; exact h)).elim
theorem frO {ρ : Rho} {σ : L2.St} {i : Nat} {o : ObjSt} {x : Option V} {h : Hp} (fr : ∀ (j : Nat) (ds : List PyData) (p : Addr), ρ[j]? = some (.own ds) → σ[j]? = some (some (.ref p)) → h p = none) :
    ∀ (j : Nat) (ds : List PyData) (p : Addr), (ρ.set i (.obj o))[j]? = some (.own ds) → (σ.set i x)[j]? = some (some (.ref p)) → h p = none := fun j ds p h1 h2 => by
  by_cases hij : i = j
  · subst hij
    by_cases hj : i < ρ.length
    · rw [List.getElem?_set_self hj] at h1
      cases h1
    · rw [List.getElem?_eq_none (by simpa using hj)] at h1
      cases h1
  · rw [List.getElem?_set_ne hij] at h1 h2
    exact fr j ds p h1 h2
/-- behind a change of the book -/
theorem StOk.mut {K : PySem.W.Frag} {B : Bs} {Z : St0} {R F H R' G' H' : Hp} {σ : L2.St} {ρ : Rho} {i : Nat} {a : Addr} {β' : BookSt} (s : StOk K B Z R F H σ ρ) (hn : noObj (ρ.set i .no) = true) (hs : σ[i]? = some (some (.ref a)))
    (g : GrowM ⟨R, H, F⟩ H' G') (rh : Same R' H') (rF : Apart R' G') (rn : ∀ x, R' x ≠ none → R x ≠ none ∨ H x = none) (ho : ∀ a0, B.o = some a0 → a = a0) (bA : BookAt K G' R' a β') : StOk K B Z R' G' H' σ (ρ.set i (.obj (.book β'))) := by
  have e : σ.set i (some (.ref a)) = σ := by
    obtain ⟨h1, h2⟩ := List.getElem?_eq_some_iff.mp hs
    rw [← h2]
    exact List.set_getElem_self h1
  have zh : ∀ x, Z.h x ≠ none → H x ≠ none := s.gr.al
  have rz : ∀ x, Z.m x = none → Z.h x ≠ none → R x = none := fun x h1 h2 => by
    cases hR : R x with
    | none => rfl
    | some o => rcases s.fo x (by rw [hR]; intro z; cases z) with h | h
                · exact absurd h1 h
                · exact absurd h h2
  refine ⟨?_, ⟨fun x o h1 h2 => ?_, fun x h => g.al x (zh x h), s.gr.f.trans g.f, g.sub, fun x h1 h2 => g.no x (s.gr.no x h1 h2) (zh x h2)⟩, ?_, fun x h => ?_⟩
  · have := s.env.setO (i := i) (x := some (.ref a)) (R' := R') (G := G') (H' := H') (o := .book β') hn (fun hj => by rw [List.getElem?_set_self (by rw [← s.env.len]; exact hj)]) g.f g.sub
      (fun x o h => g.h x o (by cases hR : R x with
        | none => exact hR
        | some u => have := s.env.rB x (by rw [hR]; intro z; cases z); rw [this] at h; cases h) (s.env.bh x o h))
      (fun x h => g.no x (s.env.bF x h) fun z => h (s.env.bh.free z)) rh rF
      (fun x h => by
        rcases rn x h with z | z
        · exact s.env.rB x z
        · exact s.env.bh.free z) bA ho
      (fun p vs h1 h2 h3 => ⟨g.h p _ h3 h1, g.no p h2 (by show H p ≠ none; rw [h1]; intro z; cases z), by
        cases hR : R' p with
        | none => rfl
        | some u => rcases rn p (by rw [hR]; intro z; cases z) with z | z
                    · exact absurd h3 z
                    · rw [h1] at z; cases z⟩)
    rw [e] at this
    exact this
  · have h0 : Z.h x ≠ none := by rw [h2]; intro z; cases z
    exact g.h x o (rz x h1 h0) (s.gr.h x o h1 h2)
  · have := frO (i := i) (o := .book β') (x := some (.ref a)) s.fr
    rw [e] at this
    exact this
  · rcases rn x h with z | z
    · exact s.fo x z
    · refine .inr ?_
      cases hz : Z.h x with
      | none => rfl
      | some u => exact absurd z (zh x (by rw [hz]; intro q; cases q))
section
variable {X : Cx} {K : PySem.W.Frag} {B : Bs} {w : WX} {e : Expr} {ta : TA} {sa : SA} {i : Nat} {m : Str} {Fm : BookSt → List PyData → RM}
theorem mut_sp {Z : St0} {R F H : Hp} {σ : L2.St} {ρ : Rho} {D : Ends} {W : XW} {E : XK} (s : StOk K B Z R F H σ ρ) (hg : Goes K B Z F D W (sMut i Fm sa ρ)) (hE : ∀ c H', W c σ H' → E (.ref (He.ga K c)) none H') :
    ∃ a dx fs ds, σ[i]? = some (some (.ref a)) ∧ H a = some (.ins (He.ga K "Book") dx fs) ∧ (bkNo m → fs.lookup m = none) ∧ sa ρ = some ds ∧ ∀ H1 G1 vs, Grow H F H1 G1 → RpAll K G1 vs ds → spM K Fm (.ref a :: vs) H1 (fun _ H' => D.nx σ H') E := by
  unfold sMut at hg
  split at hg
  · rename_i β ds h1 h2
    split at hg
    · rename_i hn
      obtain ⟨a, s1, bA⟩ := s.env.obj i _ h1
      obtain ⟨dx, dS, dL, dR, dT, dN, ho⟩ := BookAt.ins bA s.env.rh
      refine ⟨a, dx, _, ds, s1, ho, fun q => q _ _ _ _ _, h2, fun H1 G1 vs g1 r1 => ?_⟩
      have s' := s.grow g1
      refine ⟨G1, R, a, β, vs, ds, rfl, g1.sub, s'.env.rh, s'.env.rF, BookAt.mono bA g1.f (Same.refl _), r1, ?_⟩
      cases e3 : Fm β ds with
      | no => simp only [e3] at hg; exact hg.elim
      | done β' d =>
        simp only [e3] at hg ⊢
        exact fun v H' G' R' g rh rF rn bA' r => hg σ H' R' G' (s'.mut hn s1 g rh rF rn (fun a0 q => s.env.oa a0 q i _ a h1 s1) bA') (g1.f.trans g.f)
      | exc c =>
        simp only [e3] at hg ⊢
        exact fun H' G' g => hE c H' (hg σ H' R G' (s'.grow g) (g1.f.trans g.f))
    · exact hg.elim
  · exact hg.elim
theorem mutX_ok (hn : bkNo m) (ha : AOk K B ta sa) : SSOk K B (wx K w) (tDrop (tMethS (He.ga K "Book") m (spM K Fm) (WE w) (tVar i) ta)) (sMut i Fm sa) := fun Z R F H σ ρ D s hg => by
  obtain ⟨a, dx, fs, ds, s1, ho, hl, hs, k⟩ := mut_sp (m := m) (E := WE w σ) s hg fun c H' h => h
  exact ⟨.ref a, s1, a, dx, fs, rfl, ho, hl hn, ha _ F H σ ρ ds s.env hs _ fun vs H1 G1 g1 r1 => k H1 G1 vs g1 r1⟩
theorem mut_okS (hn : bkNo m) (ha : AOk K B ta sa) : SSOk K B W0 (tDrop (tMeth (He.ga K "Book") m (spM K Fm) [] E0 (tVar i) ta)) (sMut i Fm sa) := fun Z R F H σ ρ D s hg => by
  obtain ⟨a, dx, fs, ds, s1, ho, hl, hs, k⟩ := mut_sp (m := m) (E := E0) s hg fun c H' h => h
  refine ⟨.ref a, s1, a, dx, fs, rfl, ho, hl hn, ha _ F H σ ρ ds s.env hs _ fun vs H1 G1 g1 r1 => ?_⟩
  rw [List.append_nil]
  exact k H1 G1 vs g1 r1
/-- a mutating function: f(book, ..) -/
theorem mutF_ok (ha : AOk K B ta sa) : SSOk K B W0 (tDrop (tCall (spM K Fm) [] E0 (tCons (tVar i) ta))) (sMut i Fm sa) := fun Z R F H σ ρ D s hg => by
  obtain ⟨a, dx, fs, ds, s1, ho, hl, hs, k⟩ := mut_sp (m := "") (E := E0) s hg fun c H' h => h
  refine ⟨.ref a, s1, ha _ F H σ ρ ds s.env hs _ fun vs H1 G1 g1 r1 => ?_⟩
  show spM K Fm ((.ref a :: vs) ++ []) H1 _ E0
  rw [List.append_nil]
  exact k H1 G1 vs g1 r1
end
def spInit (K : PySem.W.Frag) : Sp := fun vs H Q _ => ∃ p dx, vs = [.ref p] ∧ H p = some (.ins (He.ga K "Book") dx []) ∧ H dx = some (.own p) ∧
  ∀ H' R', (∀ b o, b ≠ p → H b = some o → H' b = some o) → Same R' H' → (∀ x, R' x ≠ none → x = p ∨ x = dx ∨ H x = none) → (∀ F, BookAt K F R' p ⟨[], []⟩) → Q .non H'
theorem mk_okS {K : PySem.W.Frag} {B : Bs} {W : XW} {i : Nat} (hB : B.o = none) : SSOk K B W (tAsg (tMake (He.ga K "Book") (spInit K) [] E0 tNil) (gName i)) (sMkB i) := fun Z R F H σ ρ D s hg => by
  unfold sMkB at hg
  split at hg
  · rename_i hn
    intro x dx hx hdx hne
    have nx : ∀ b o, H b = some o → (upd (upd H dx (.own x)) x (.ins (He.ga K "Book") dx [])) b = some o := fun b o e => by
      rw [upd_ne (ne_of_none e hx), upd_ne (ne_of_none e hdx)]; exact e
    refine ⟨x, dx, rfl, upd_same, by rw [upd_ne hne]; exact upd_same, fun H' R' kp rh rn bA => ⟨rfl, ?_⟩⟩
    have hH : Same H H' := fun b o e => kp b o (ne_of_none e hx) (nx b o e)
    have rn' : ∀ y, R' y ≠ none → H y = none := fun y hy => by
      rcases rn y hy with rfl | rfl | z
      · exact hx
      · exact hdx
      · cases e : H y with
        | none => rfl
        | some o => rw [nx y o e] at z; cases z
    have rF : Apart R' F := fun y hy => s.env.ex.free (rn' y hy)
    refine hg _ H' R' F ⟨?_, ⟨fun y o h1 h2 => hH y o (s.gr.h y o h1 h2), fun y h z => s.gr.al y h (hH.free z), s.gr.f, s.env.ex.trans hH, s.gr.no⟩, frO s.fr, fun y hy => .inr ?_⟩ (Same.refl F)
    · exact s.env.setO hn (fun hj => by rw [List.getElem?_set_self (by rw [← s.env.len]; exact hj)]) (Same.refl F) (s.env.ex.trans hH) (s.env.bh.trans hH) s.env.bF rh rF (fun y hy => s.env.bh.free (rn' y hy)) (bA F) (fun a0 q => by rw [hB] at q; cases q)
        fun p vs h1 h2 h3 => ⟨hH p _ h1, h2, by
          cases e : R' p with
          | none => rfl
          | some o => have := rn' p (by rw [e]; intro z; cases z); rw [this] at h1; cases h1⟩
    · cases e : Z.h y with
      | none => rfl
      | some o => exact absurd (rn' y hy) (s.gr.al y (by rw [e]; intro z; cases z))
  · exact hg.elim
/-- what a changing method raises, it raises ahead of any change -/
def excOf (Fm : BookSt → List PyData → RM) : BookSt → List PyData → Res := fun β ds => match Fm β ds with
  | .exc c => .exc c
  | _ => .no
theorem spM_of_R {K : PySem.W.Frag} {Fm : BookSt → List PyData → RM} (vs : List V) (H : Hp) (Q : VK) (E : XK) (h : spR K (excOf Fm) vs H Q E) : spM K Fm vs H Q E := by
  obtain ⟨G, R, a, β, us, ds, e, h1, h2, h3, h4, h5, q⟩ := h
  refine ⟨G, R, a, β, us, ds, e, h1, h2, h3, h4, h5, ?_⟩
  unfold excOf at q
  cases e : Fm β ds with
  | no => simp only [e] at q; exact (show False from q).elim
  | done β' d => simp only [e] at q; exact (show False from q).elim
  | exc c => simp only [e] at q; exact q
/-- a reading function: f(book, ..), the book in slot i -/
def tCallB (K : PySem.W.Frag) (Fr : BookSt → List PyData → Res) (i : Nat) (ta : TA) : TE := tCall (spR K Fr) [] E0 (tCons (tVar i) ta)
theorem callR_ok {K : PySem.W.Frag} {B : Bs} {ta : TA} {sa : SA} {i : Nat} {Fr : BookSt → List PyData → Res} (ha : AOk K B ta sa) : EOk K B (tCallB K Fr i ta) (eMeth B.bk i Fr sa) := fun R F H σ ρ d E q Q k => by
  unfold eMeth xMeth at q
  cases e1 : rcv B.bk ρ i with
  | none => rw [e1] at q; cases q
  | some β =>
    cases e2 : sa ρ with
    | none => rw [e1, e2] at q; cases q
    | some ds =>
      rw [e1, e2] at q
      obtain ⟨a, R', s1, bA, sR, ap⟩ := rcv_ok E e1
      refine ⟨.ref a, s1, ha _ F H σ ρ ds E e2 _ fun vs H1 G1 g1 r1 => ?_⟩
      show spR K Fr ((.ref a :: vs) ++ []) H1 Q E0
      rw [List.append_nil]
      refine ⟨G1, R', a, β, vs, ds, rfl, g1.sub, sR.trans g1.h, g1.apart sR ap, bA.mono g1.f (Same.refl _), r1, ?_⟩
      cases e3 : Fr β ds with
      | no => simp [e3, Res.ok] at q
      | ret d' =>
        simp [e3, Res.ok] at q
        subst q
        exact fun v H' G' g r => k v H' G' (g1.trans g) r
      | exc c => simp [e3, Res.ok] at q
end RT
/-! What a book's methods do; functions that are handed a book; try. -/
namespace RT
open PySem PySem.Spec PyProof.Rows L2
/-! ### the methods, plainly -/
def findP (β : BookSt) (n : Str) : Option Person := β.people.find? fun p => decide (p.name = n)
def findS (β : BookSt) (n : Str) : Option Shift := β.shifts.find? fun s => decide (s.name = n)
def meetsB (r s : Int × Int) : Bool := decide (r.1 < s.2) && decide (s.1 < r.2)
def mayB (p : Person) (s : Shift) (k : Str) : Bool := !(p.rests.any fun r => meetsB r (s.b, s.e)) && decide (k ∈ p.skills)
def postsB (β : BookSt) : List (Str × Str) := β.shifts.flatMap fun s => s.needs.map fun n => (s.name, n.1)
def postD (p : Str × Str) : PyData := .tuple [.str p.1, .str p.2]
def s0 (r : Res) : List PyData → Res
  | [] => r
  | _ => .no
def s1 (g : Str → Res) : List PyData → Res
  | [.str n] => g n
  | _ => .no
def s2 (g : Str → Str → Res) : List PyData → Res
  | [.str n, .str k] => g n k
  | _ => .no
def s3 (g : Str → Str → Str → Res) : List PyData → Res
  | [.str n, .str k, .str l] => g n k l
  | _ => .no
theorem s0_inv {r : Res} {ds : List PyData} {A : PyData → Prop} {B : Str → Prop} (q : (s0 r ds).goes A B) : ds = [] := by
  unfold s0 at q
  split at q
  · rfl
  · exact (show False from q).elim
theorem s1_inv {g : Str → Res} {ds : List PyData} {A : PyData → Prop} {B : Str → Prop} (q : (s1 g ds).goes A B) : ∃ n, ds = [.str n] := by
  unfold s1 at q
  split at q
  · exact ⟨_, rfl⟩
  · exact (show False from q).elim
theorem s2_inv {g : Str → Str → Res} {ds : List PyData} {A : PyData → Prop} {B : Str → Prop} (q : (s2 g ds).goes A B) : ∃ n k, ds = [.str n, .str k] := by
  unfold s2 at q
  split at q
  · exact ⟨_, _, rfl⟩
  · exact (show False from q).elim
theorem s3_inv {g : Str → Str → Str → Res} {ds : List PyData} {A : PyData → Prop} {B : Str → Prop} (q : (s3 g ds).goes A B) : ∃ n k l, ds = [.str n, .str k, .str l] := by
  unfold s3 at q
  split at q
  · exact ⟨_, _, _, rfl⟩
  · exact (show False from q).elim
def fr_people (β : BookSt) : List PyData → Res := s0 (.ret (.list (β.people.map fun p => .str p.name)))
def fr_shifts (β : BookSt) : List PyData → Res := s0 (.ret (.list (β.shifts.map fun p => .str p.name)))
def fr_posts (β : BookSt) : List PyData → Res := s0 (.ret (.list ((postsB β).map postD)))
def mis {α : Type} (o : Option α) (g : α → PyData) : Res := match o with
  | some p => .ret (g p)
  | none => .exc "Missing"
def fr_skills_of (β : BookSt) : List PyData → Res := s1 fun n => mis (findP β n) fun p => .list (p.skills.map .str)
def fr_rests_of (β : BookSt) : List PyData → Res := s1 fun n => mis (findP β n) fun p => .list (p.rests.map stD)
def fr_limit_of (β : BookSt) : List PyData → Res := s1 fun n => mis (findP β n) fun p => .int p.limit
def fr_stretch_of (β : BookSt) : List PyData → Res := s1 fun n => mis (findS β n) fun s => stD (s.b, s.e)
def needOf (s : Shift) (k : Str) : Option Int := (s.needs.find? fun n => decide (n.1 = k)).map (·.2)
def fr_count_of (β : BookSt) : List PyData → Res := s2 fun n k => mis ((findS β n).bind fun s => needOf s k) .int
def fr_may (β : BookSt) : List PyData → Res := s3 fun n s k => match findS β s with
  | none => .exc "Missing"
  | some sh => mis (findP β n) fun p => .bool (mayB p sh k)
/-! ### dicts by names -/
theorem valV_map {α : Type} (nm : α → Str) (v : α → V) (n : Str) : ∀ l : List α, valV (l.map fun x => ((Sum.inr (nm x) : Key), v x)) (Sum.inr n) = (l.find? fun x => decide (nm x = n)).map v
  | [] => rfl
  | x :: l => by
    rw [List.map_cons, List.find?_cons]
    by_cases h : nm x = n
    · rw [valV_pos (by show (Sum.inr (nm x) : Key) = Sum.inr n; rw [h]), decide_eq_true h]
      rfl
    · rw [valV_neg (by intro z; exact h (Sum.inr.inj z)), decide_eq_false h]
      exact valV_map nm v n l
theorem find_fst {α β : Type} (p : α → Bool) : ∀ l : List (α × β), ((l.find? fun x => p x.1).map (·.1)) = (l.map (·.1)).find? p
  | [] => rfl
  | x :: l => by
    rw [List.map_cons, List.find?_cons, List.find?_cons]
    cases p x.1 with
    | true => rfl
    | false => exact find_fst p l
section
variable {K : PySem.W.Frag} {F R : Hp} {a : Addr} {β : BookSt} {dx dS dL dR dT dN : Addr} {pe : PE3} {sh : SE3}
theorem BookIn.fp (b : BookIn K F R a β dx dS dL dR dT dN pe sh) (n : Str) : ((pe.find? fun x => decide (x.1.name = n)).map (·.1)) = findP β n := by
  have := find_fst (fun p : Person => decide (p.name = n)) pe
  rw [this, b.pn]
  rfl
theorem BookIn.fs (b : BookIn K F R a β dx dS dL dR dT dN pe sh) (n : Str) : ((sh.find? fun x => decide (x.1.name = n)).map (·.1)) = findS β n := by
  have := find_fst (fun p : Shift => decide (p.name = n)) sh
  rw [this, b.sn]
  rfl
theorem BookIn.person (b : BookIn K F R a β dx dS dL dR dT dN pe sh) {n : Str} {p : Person} (h : findP β n = some p) : ∃ x ∈ pe, x.1 = p ∧ x.1.name = n ∧ valV (kvS pe) (Sum.inr n) = some (.ref x.2.1) ∧ valV (kvL pe) (Sum.inr n) = some (.int p.limit) ∧ valV (kvR pe) (Sum.inr n) = some (.ref x.2.2) := by
  rw [← b.fp n] at h
  cases e : pe.find? fun x => decide (x.1.name = n) with
  | none => rw [e] at h; cases h
  | some x =>
    rw [e] at h
    have hx : x.1 = p := Option.some.inj h
    have hm := List.mem_of_find?_eq_some e
    have hn : x.1.name = n := of_decide_eq_true (by simpa using List.find?_some e)
    refine ⟨x, hm, hx, hn, ?_, ?_, ?_⟩
    · unfold kvS; rw [valV_map (fun x : Person × Addr × Addr => x.1.name) (fun x => V.ref x.2.1), e]; rfl
    · unfold kvL; rw [valV_map (fun x : Person × Addr × Addr => x.1.name) (fun x => V.int x.1.limit), e, ← hx]; rfl
    · unfold kvR; rw [valV_map (fun x : Person × Addr × Addr => x.1.name) (fun x => V.ref x.2.2), e]; rfl
theorem BookIn.noPerson (b : BookIn K F R a β dx dS dL dR dT dN pe sh) {n : Str} (h : findP β n = none) : valV (kvS pe) (Sum.inr n) = none ∧ valV (kvL pe) (Sum.inr n) = none ∧ valV (kvR pe) (Sum.inr n) = none := by
  rw [← b.fp n] at h
  have e : (pe.find? fun x => decide (x.1.name = n)) = none := by
    cases e : pe.find? fun x => decide (x.1.name = n) with
    | none => rfl
    | some x => rw [e] at h; cases h
  refine ⟨?_, ?_, ?_⟩
  · unfold kvS; rw [valV_map (fun x : Person × Addr × Addr => x.1.name) (fun x => V.ref x.2.1), e]; rfl
  · unfold kvL; rw [valV_map (fun x : Person × Addr × Addr => x.1.name) (fun x => V.int x.1.limit), e]; rfl
  · unfold kvR; rw [valV_map (fun x : Person × Addr × Addr => x.1.name) (fun x => V.ref x.2.2), e]; rfl
theorem BookIn.shift (b : BookIn K F R a β dx dS dL dR dT dN pe sh) {n : Str} {s : Shift} (h : findS β n = some s) : ∃ x ∈ sh, x.1 = s ∧ x.1.name = n ∧ valV (kvT sh) (Sum.inr n) = some (.ref x.2.1) ∧ valV (kvN sh) (Sum.inr n) = some (.ref x.2.2) := by
  rw [← b.fs n] at h
  cases e : sh.find? fun x => decide (x.1.name = n) with
  | none => rw [e] at h; cases h
  | some x =>
    rw [e] at h
    have hx : x.1 = s := Option.some.inj h
    have hm := List.mem_of_find?_eq_some e
    have hn : x.1.name = n := of_decide_eq_true (by simpa using List.find?_some e)
    refine ⟨x, hm, hx, hn, ?_, ?_⟩
    · unfold kvT; rw [valV_map (fun x : Shift × Addr × Addr => x.1.name) (fun x => V.ref x.2.1), e]; rfl
    · unfold kvN; rw [valV_map (fun x : Shift × Addr × Addr => x.1.name) (fun x => V.ref x.2.2), e]; rfl
theorem BookIn.noShift (b : BookIn K F R a β dx dS dL dR dT dN pe sh) {n : Str} (h : findS β n = none) : valV (kvT sh) (Sum.inr n) = none ∧ valV (kvN sh) (Sum.inr n) = none := by
  rw [← b.fs n] at h
  have e : (sh.find? fun x => decide (x.1.name = n)) = none := by
    cases e : sh.find? fun x => decide (x.1.name = n) with
    | none => rfl
    | some x => rw [e] at h; cases h
  refine ⟨?_, ?_⟩
  · unfold kvT; rw [valV_map (fun x : Shift × Addr × Addr => x.1.name) (fun x => V.ref x.2.1), e]; rfl
  · unfold kvN; rw [valV_map (fun x : Shift × Addr × Addr => x.1.name) (fun x => V.ref x.2.2), e]; rfl
end
/-! ### the class -/
structure BkT (K : PySem.W.Frag) (mg : Str → Option Value) : Prop where
  cl : Cls K (He.ga K "Book")
  nS : NoAttr K (He.ga K "Book") "skills"
  nL : NoAttr K (He.ga K "Book") "limits"
  nR : NoAttr K (He.ga K "Book") "rests"
  nT : NoAttr K (He.ga K "Book") "stretches"
  nN : NoAttr K (He.ga K "Book") "needs"
section
variable {K : PySem.W.Frag} {mg : Str → Option Value} {F R H : Hp} {a : Addr} {β : BookSt} {dx dS dL dR dT dN : Addr} {pe : PE3} {sh : SE3} {σ : L2.St} {Q : VK} {i : Nat}
theorem lk_S : (bkFs dS dL dR dT dN).lookup ("skills" : Str) = some (.ref dS) := by simp [bkFs, List.lookup]
theorem lk_L : (bkFs dS dL dR dT dN).lookup ("limits" : Str) = some (.ref dL) := by
  have h : (("limits" : Str) == "skills") = false := by decide +kernel
  simp [bkFs, List.lookup, h]
theorem lk_R : (bkFs dS dL dR dT dN).lookup ("rests" : Str) = some (.ref dR) := by
  have h : (("rests" : Str) == "skills") = false := by decide +kernel
  have h2 : (("rests" : Str) == "limits") = false := by decide +kernel
  simp [bkFs, List.lookup, h, h2]
theorem lk_T : (bkFs dS dL dR dT dN).lookup ("stretches" : Str) = some (.ref dT) := by
  have h : (("stretches" : Str) == "skills") = false := by decide +kernel
  have h2 : (("stretches" : Str) == "limits") = false := by decide +kernel
  have h3 : (("stretches" : Str) == "rests") = false := by decide +kernel
  simp [bkFs, List.lookup, h, h2, h3]
theorem lk_N : (bkFs dS dL dR dT dN).lookup ("needs" : Str) = some (.ref dN) := by
  have h : (("needs" : Str) == "skills") = false := by decide +kernel
  have h2 : (("needs" : Str) == "limits") = false := by decide +kernel
  have h3 : (("needs" : Str) == "rests") = false := by decide +kernel
  have h4 : (("needs" : Str) == "stretches") = false := by decide +kernel
  simp [bkFs, List.lookup, h, h2, h3, h4]
/-- self.f, the book in slot i -/
theorem rd_fld (T : BkT K mg) (hs : σ[i]? = some (some (.ref a))) (ho : H a = some (.ins (He.ga K "Book") dx (bkFs dS dL dR dT dN))) {f : Str} {v : V} (na : NoAttr K (He.ga K "Book") f) (lk : (bkFs dS dL dR dT dN).lookup f = some v) (q : Q v H) : tFld K (tVar i) f σ H Q :=
  ⟨_, hs, a, _, dx, _, v, rfl, ho, T.cl, na, lk, q⟩
end
/-! ### functions that are handed a book -/
def bkAt0 (ρ : Rho) : Option BookSt := match (ρ[0]? : Option Sl) with
  | some (.obj (.book β)) => some β
  | _ => none
def runM (N : List Str) (n : Nat) (b : SS) : BookSt → List PyData → RM := fun β ds => if ds.length + 1 = n then (match b (.obj (.book β) :: rho0 (N.drop 1) ds) with
  | .rt d ρ => (match bkAt0 ρ with
    | some β' => .done β' d
    | none => .no)
  | .nx ρ => (match bkAt0 ρ with
    | some β' => .done β' .none
    | none => .no)
  | _ => .no) else .no
theorem bkAt0_ok {ρ : Rho} {β : BookSt} (h : bkAt0 ρ = some β) : ρ[0]? = some (.obj (.book β)) := by
  unfold bkAt0 at h
  split at h
  · rename_i e
    cases h
    exact e
  · cases h
theorem startM_ok {K : PySem.W.Frag} {G H R : Hp} {a : Addr} {β : BookSt} {N : List Str} {us : List V} {ds : List PyData} (e : Same G H) (eR : Same R H) (ap : Apart R G) (bA : BookAt K G R a β) (h : RpAll K G us ds) (hN : 0 < N.length) :
    StOk K ⟨fun _ => none, fun _ => none, fun _ => none, some a⟩ ⟨R, H, G⟩ R G H (start N (.ref a :: us)) (.obj (.book β) :: rho0 (N.drop 1) ds) := by
  have hl := h.len
  have s := (start_ok (N := N.drop 1) (bsOk_no (G := G) (H := H)) e h).env
  have es : start N (.ref a :: us) = some (.ref a) :: start (N.drop 1) us := by
    unfold L2.start
    rw [List.map_cons, List.cons_append, List.length_cons, List.length_drop]
    congr 3
    omega
  rw [es]
  refine ⟨⟨fun _ _ z => (nomatch z), fun _ _ z => (nomatch z), fun _ z => absurd rfl z, fun _ _ z => (nomatch z), e, eR, ap, fun _ _ => rfl, ?_, fun i d q => ?_, fun i es' q => ?_, fun i j x y p _ q q2 _ _ => ?_, fun i o q => ?_, fun a0 q i o a' h1 h2 => ?_⟩,
    ⟨fun _ _ _ z => z, fun _ z => z, Same.refl G, e, fun _ z _ => z⟩, fun i es' p q _ => ?_, fun x z => .inl z⟩
  · have := s.len
    simp only [List.length_cons] at this ⊢
    omega
  · cases i with
    | zero => simp at q
    | succ i => simpa using s.val i d (by simpa using q)
  · cases i with
    | zero => simp at q
    | succ i =>
      obtain ⟨p, vs, h1, h2, h3, h4, h5, h6⟩ := s.own i es' (by simpa using q)
      exfalso
      have hx := s.own i es' (by simpa using q)
      have : (rho0 (N.drop 1) ds)[i]? = some (.own es') := by simpa using q
      unfold rho0 at this
      rcases Nat.lt_or_ge i (ds.map Sl.val).length with hi | hi
      · rw [List.getElem?_append_left hi, List.getElem?_map] at this
        cases z : ds[i]? with
        | none => rw [z] at this; cases this
        | some d => rw [z] at this; cases this
      · rw [List.getElem?_append_right hi] at this
        have := List.mem_of_getElem? this
        rw [List.mem_replicate] at this
        cases this.2
  · cases i with
    | zero => simp at q
    | succ i =>
      cases j with
      | zero => simp at q2
      | succ j => exact s.dis i j x y p (by omega) (by simpa using q) (by simpa using q2) (by simpa using (by assumption : (some (V.ref a) :: start (N.drop 1) us)[i + 1]? = some (some (.ref p)))) (by simpa using (by assumption : (some (V.ref a) :: start (N.drop 1) us)[j + 1]? = some (some (.ref p))))
  · cases i with
    | zero =>
      simp at q
      subst q
      exact ⟨a, rfl, bA⟩
    | succ i =>
      obtain ⟨b, h1, h2⟩ := s.obj i o (by simpa using q)
      exfalso
      have : (rho0 (N.drop 1) ds)[i]? = some (.obj o) := by simpa using q
      unfold rho0 at this
      rcases Nat.lt_or_ge i (ds.map Sl.val).length with hi | hi
      · rw [List.getElem?_append_left hi, List.getElem?_map] at this
        cases z : ds[i]? with
        | none => rw [z] at this; cases this
        | some d => rw [z] at this; cases this
      · rw [List.getElem?_append_right hi] at this
        have := List.mem_of_getElem? this
        rw [List.mem_replicate] at this
        cases this.2
  · cases q
    cases i with
    | zero =>
      simp at h2
      exact h2.symm
    | succ i =>
      exfalso
      have : (rho0 (N.drop 1) ds)[i]? = some (.obj o) := by simpa using h1
      unfold rho0 at this
      rcases Nat.lt_or_ge i (ds.map Sl.val).length with hi | hi
      · rw [List.getElem?_append_left hi, List.getElem?_map] at this
        cases z : ds[i]? with
        | none => rw [z] at this; cases this
        | some d => rw [z] at this; cases this
      · rw [List.getElem?_append_right hi] at this
        have := List.mem_of_getElem? this
        rw [List.mem_replicate] at this
        cases this.2
  · cases i with
    | zero => simp at q
    | succ i =>
      exfalso
      have : (rho0 (N.drop 1) ds)[i]? = some (.own es') := by simpa using q
      unfold rho0 at this
      rcases Nat.lt_or_ge i (ds.map Sl.val).length with hi | hi
      · rw [List.getElem?_append_left hi, List.getElem?_map] at this
        cases z : ds[i]? with
        | none => rw [z] at this; cases this
        | some d => rw [z] at this; cases this
      · rw [List.getElem?_append_right hi] at this
        have := List.mem_of_getElem? this
        rw [List.mem_replicate] at this
        cases this.2
theorem sp_bodyM {K : PySem.W.Frag} {N : List Str} {n : Nat} {b : SS} {t : TS} {vs : List V} {H : Hp} {Q : VK} {E : XK} (hN : 0 < N.length)
    (k : ∀ a, SSOk K ⟨fun _ => none, fun _ => none, fun _ => none, some a⟩ (wx K fun cls d _ H => E cls d H) t b) (h : spM K (runM N n b) vs H Q E) : t { nx := fun _ H' => Q .non H', rt := Q } (start N vs) H := by
  obtain ⟨G, R, a, β, us, ds, rfl, e, eR, ap, bA, r, q⟩ := h
  refine k a ⟨R, H, G⟩ R G H _ _ _ (startM_ok e eR ap bA r hN) ?_
  have fin : ∀ {ρ : Rho} {β' : BookSt} {σ : L2.St} {H' R' F' : Hp}, bkAt0 ρ = some β' → StOk K ⟨fun _ => none, fun _ => none, fun _ => none, some a⟩ ⟨R, H, G⟩ R' F' H' σ ρ → GrowM ⟨R, H, G⟩ H' F' ∧ Same R' H' ∧ Apart R' F' ∧ (∀ x, R' x ≠ none → R x ≠ none ∨ H x = none) ∧ BookAt K F' R' a β' := fun {ρ β' σ H' R' F'} hb s => by
    obtain ⟨a', h1, h2⟩ := s.env.obj 0 _ (bkAt0_ok hb)
    have := s.env.oa a rfl 0 _ a' (bkAt0_ok hb) h1
    subst this
    exact ⟨s.gr, s.env.rh, s.env.rF, s.fo, h2⟩
  cases eq : runM N n b β ds with
  | no => rw [eq] at q; exact (show False from q).elim
  | done β' d =>
    rw [eq] at q
    unfold runM at eq
    split at eq
    · cases hb : b (.obj (.book β) :: rho0 (N.drop 1) ds) with
      | no => rw [hb] at eq; cases eq
      | ex c r => rw [hb] at eq; cases eq
      | ro i r => rw [hb] at eq; cases eq
      | nx ρ =>
        rw [hb] at eq
        cases h0 : bkAt0 ρ with
        | none => simp only [h0] at eq; cases eq
        | some β2 =>
          simp only [h0] at eq
          cases eq
          exact fun σ H' R' F' s _ => by
            obtain ⟨x1, x2, x3, x4, x5⟩ := fin h0 s
            exact q .non H' F' R' x1 x2 x3 x4 x5 rp_non
      | rt d' ρ =>
        rw [hb] at eq
        cases h0 : bkAt0 ρ with
        | none => simp only [h0] at eq; cases eq
        | some β2 =>
          simp only [h0] at eq
          cases eq
          exact fun v σ H' R' F' s _ r => by
            obtain ⟨x1, x2, x3, x4, x5⟩ := fin h0 s
            exact q v H' F' R' x1 x2 x3 x4 x5 r
    · cases eq
  | exc c =>
    unfold runM at eq
    split at eq
    · cases hb : b (.obj (.book β) :: rho0 (N.drop 1) ds) with
      | no => rw [hb] at eq; cases eq
      | ro i r => rw [hb] at eq; cases eq
      | ex c r => rw [hb] at eq; cases eq
      | nx ρ => rw [hb] at eq; cases h0 : bkAt0 ρ <;> simp only [h0] at eq <;> cases eq
      | rt d ρ => rw [hb] at eq; cases h0 : bkAt0 ρ <;> simp only [h0] at eq <;> cases eq
    · cases eq
/-! ### reading functions -/
def only (a : Addr) (β : BookSt) : Addr → Option BookSt := fun b => if b = a then some β else none
theorem sp_bodyR {K : PySem.W.Frag} {N : List Str} {n : Nat} {b : (Addr → Option BookSt) → SS} {t : TS} {Fr : BookSt → List PyData → Res} {vs : List V} {H : Hp} {Q : VK} {E : XK}
    (hF : ∀ a β ds, match Fr β ds with
      | .ret d => runF N n (b (only a β)) (refD a :: ds) = some d
      | .exc _ => False
      | .no => True)
    (k : ∀ B : Bs, SSOk K B W0 t (b B.bk)) (h : spR K Fr vs H Q E) : t { nx := fun _ H' => Q .non H', rt := Q } (start N vs) H := by
  obtain ⟨G, R, a, β, us, ds, rfl, e, eR, ap, bA, r, q⟩ := h
  have hf := hF a β ds
  cases e3 : Fr β ds with
  | no => rw [e3] at q; exact (show False from q).elim
  | exc c => rw [e3] at hf; exact hf.elim
  | ret d =>
    rw [e3] at q hf
    have bo : BsOk K ⟨R, G, only a β, none⟩ G H := ⟨Same.refl G, eR, ap, fun b γ hb => by
      have hb' : (if b = a then some β else none) = some γ := hb
      split at hb'
      · rename_i hh
        cases hb'
        subst hh
        exact bA
      · cases hb'⟩
    exact sp_bodyB (k ⟨R, G, only a β, none⟩) bo e (.cons (.inr (.inl ⟨a, rfl, rfl⟩)) r) hf q
/-! ### try -/
def sTry (f : SS) (cs : Str → Option Bool) (g : SS) : SS := fun ρ => match f ρ with
  | .ex c r => (match cs c with
    | some true => g r
    | some false => .ex c r
    | none => .no)
  | o => o
theorem try_ok {K : PySem.W.Frag} {B : Bs} {Wout : WX} {y : Str} {cs : Str → Option Bool} {tb : WX → TS} {ts : TS} {f g : SS} (hx : ∀ c b, cs c = some b → PySem.W.exmOne K (.ref (He.ga K c)) (.ref (He.ga K y)) = some b)
    (kb : ∀ w : WX, SSOk K B (wx K w) (tb w) f) (ks : SSOk K B (wx K Wout) ts g) : SSOk K B (wx K Wout) (fun D σ H => tb (wOnly K (.ref (He.ga K y)) (fun _ _ _ => ts) Wout D) D σ H) (sTry f cs g) := fun Z R F H σ ρ D s hg => by
  refine kb _ Z R F H σ ρ D s ?_
  unfold sTry at hg
  cases e : f ρ with
  | no => rw [e] at hg; exact hg
  | nx r => rw [e] at hg; exact hg
  | rt d r => rw [e] at hg; exact hg
  | ro i r => rw [e] at hg; exact hg
  | ex c r =>
    rw [e] at hg
    cases ec : cs c with
    | none => simp only [ec] at hg; exact hg.elim
    | some b =>
      cases b with
      | true =>
        simp only [ec] at hg
        exact fun σ' H' R' F' s' e' => ⟨true, hx c true ec, fun _ a _ => ks Z R' F' H' σ' r D s' (Goes.mono (o := g r) hg e'), fun z => Bool.noConfusion z⟩
      | false =>
        simp only [ec] at hg
        exact fun σ' H' R' F' s' e' => ⟨false, hx c false ec, fun z => Bool.noConfusion z, fun _ => hg σ' H' R' F' s' e'⟩
theorem s_try {X : Cx} {K : PySem.W.Frag} {B : Bs} {Wout : WX} {y : Str} {cs : Str → Option Bool} {tb : WX → TS} {ts : TS} {f g : SS} {body suite : List Stmt} {b0 : Stmt} {np pos pos' : Pos} (hs : X.stack = X.env :: X.outer) (hf : X.env.frame = some X.env.locals) (hc : Names X y (.ref (He.ga X.K y))) (tk : Takes X Wout)
    (hx : ∀ c b, cs c = some b → PySem.W.exmOne K (.ref (He.ga K c)) (.ref (He.ga K y)) = some b)
    (hb : ∀ (w : WX) (pn : List (Addr × Obj)) (xe : Value → Shared → Prop), Takes (X.tr pn xe) w → SemSs (X.tr pn xe) K B (wx K w) body (tb w) f)
    (hsu : ∀ (a : Addr) (pn : List (Addr × Obj)), SemSs (X.suite a pn) K B (wx K Wout) (b0 :: suite) ts g) (hK : X.K = K := by rfl) :
    SemS X K B (wx K Wout) (.Try body [.ExceptHandler (some (.Name y np)) none (b0 :: suite) pos'] [] [] pos) (fun D σ H => tb (wOnly X.K (.ref (He.ga X.K y)) (fun _ _ _ => ts) Wout D) D σ H) (sTry f cs g) := by
  subst hK
  exact ⟨ps_try_only hs hf hc tk (fun w pn xe t _ => (hb w pn xe t).ps) fun a oe cls d pn _ _ => (hsu a _).ps, try_ok hx (fun w => (hb w [] (fun _ _ => True) (fun _ _ _ => trivial)).ok) (hsu 0 []).ok⟩
end RT
/-! A book's parts, changed. -/
namespace RT
open PySem PySem.Spec PyProof.Rows L2
theorem nodup_inj {α β : Type} {f : α → β} : ∀ {l : List α} {x y : α}, (l.map f).Nodup → x ∈ l → y ∈ l → f x = f y → x = y
  | [], _, _, _, h, _, _ => absurd h List.not_mem_nil
  | z :: l, x, y, nd, hx, hy, e => by
    rw [List.map_cons, List.nodup_cons] at nd
    rcases List.mem_cons.mp hx with ex | hx1
    · rcases List.mem_cons.mp hy with ey | hy1
      · rw [ex, ey]
      · subst ex
        exact absurd (e ▸ List.mem_map_of_mem hy1) nd.1
    · rcases List.mem_cons.mp hy with ey | hy1
      · subst ey
        exact absurd (e ▸ List.mem_map_of_mem hx1) nd.1
      · exact nodup_inj nd.2 hx1 hy1 e
def restP (n : Str) (r : Int × Int) (q : Person) : Person := if q.name = n then { q with rests := q.rests ++ [r] } else q
def restB (β : BookSt) (n : Str) (r : Int × Int) : BookSt := { β with people := β.people.map (restP n r) }
theorem restP_name (n : Str) (r : Int × Int) (q : Person) : (restP n r q).name = q.name := by unfold restP; split <;> rfl
theorem restP_skills (n : Str) (r : Int × Int) (q : Person) : (restP n r q).skills = q.skills := by unfold restP; split <;> rfl
theorem restP_limit (n : Str) (r : Int × Int) (q : Person) : (restP n r q).limit = q.limit := by unfold restP; split <;> rfl
section
variable {K : PySem.W.Frag} {F G R : Hp} {a : Addr} {β : BookSt} {dx dS dL dR dT dN : Addr} {pe : PE3} {sh : SE3}
theorem BookIn.names (b : BookIn K F R a β dx dS dL dR dT dN pe sh) : (pe.map fun x => x.1.name).Nodup := by
  have := b.un
  rw [← b.pn, List.map_map] at this
  exact this
theorem BookIn.snames (b : BookIn K F R a β dx dS dL dR dT dN pe sh) : (sh.map fun x => x.1.name).Nodup := by
  have := b.us
  rw [← b.sn, List.map_map] at this
  exact this
theorem BookIn.rest (b : BookIn K F R a β dx dS dL dR dT dN pe sh) {n : Str} {x : Person × Addr × Addr} {r : Int × Int} {vs : List V} {v : V} (hx : x ∈ pe) (hn : x.1.name = n) (hl : R x.2.2 = some (.lst vs)) (hA : DqAll K F vs (x.1.rests.map stD)) (e : Same F G) (hv : Dq K G v (stD r)) (hz : x.1.rests.length < 1000) :
    BookIn K G (upd R x.2.2 (.lst (vs ++ [v]))) a (restB β n r) dx dS dL dR dT dN (pe.map fun y => (restP n r y.1, y.2)) sh := by
  have other : ∀ {y o}, R y = some o → (∀ l, o ≠ .lst l) → (upd R x.2.2 (.lst (vs ++ [v]))) y = some o := fun {y o} h hne => by
    rw [upd_ne (ne_of h hl (hne vs))]
    exact h
  have one : ∀ y ∈ pe, y.1.name = n → y = x := fun y hy h => nodup_inj (f := fun x : Person × Addr × Addr => x.1.name) b.names hy hx (h.trans hn.symm)
  refine { pn := ?_, sn := b.sn, ob := other b.ob (fun _ z => nomatch z), ow := other b.ow (fun _ z => nomatch z), cS := ?_, cL := ?_, cR := ?_, cT := other b.cT (fun _ z => nomatch z), cN := other b.cN (fun _ z => nomatch z), nd := b.nd, ps := ?_, pr := ?_, st := fun y hy => dp_mono e _ (b.st y hy), sc := fun y hy => other (b.sc y hy) (fun _ z => nomatch z), rn := ?_, rs := ?_, nn := b.nn, un := ?_, us := b.us, sz := ?_ }
  · unfold restB
    rw [← b.pn, List.map_map, List.map_map]
    rfl
  · rw [other b.cS (fun _ z => nomatch z)]
    unfold kvS
    rw [List.map_map]
    congr 2
    apply List.map_congr_left
    intro y _
    simp [restP_name]
  · rw [other b.cL (fun _ z => nomatch z)]
    unfold kvL
    rw [List.map_map]
    congr 2
    apply List.map_congr_left
    intro y _
    simp [restP_name, restP_limit]
  · rw [other b.cR (fun _ z => nomatch z)]
    unfold kvR
    rw [List.map_map]
    congr 2
    apply List.map_congr_left
    intro y _
    simp [restP_name]
  · intro y' hy'
    obtain ⟨y, hy, rfl⟩ := List.mem_map.mp hy'
    rw [upd_ne (b.rs y hy x hx), b.ps y hy]
    simp [restP_skills]
  · intro y' hy'
    obtain ⟨y, hy, rfl⟩ := List.mem_map.mp hy'
    by_cases h : y.1.name = n
    · have := one y hy h
      subst this
      refine ⟨vs ++ [v], upd_same, ?_⟩
      have e2 : (restP n r y.1).rests = y.1.rests ++ [r] := by unfold restP; rw [if_pos h]
      rw [e2, List.map_append]
      exact (dpa_mono e _ hA).append (.cons hv .nil)
    · obtain ⟨ws, h1, h2⟩ := b.pr y hy
      refine ⟨ws, ?_, ?_⟩
      · rw [upd_ne]
        · exact h1
        · intro z
          have := nodup_inj (f := fun x : Person × Addr × Addr => x.2.2) b.rn hy hx z
          exact h (this ▸ hn)
      · have e2 : (restP n r y.1).rests = y.1.rests := by unfold restP; rw [if_neg h]
        rw [e2]
        exact dpa_mono e _ h2
  · rw [List.map_map]
    exact b.rn
  · intro y' hy' z' hz'
    obtain ⟨y, hy, rfl⟩ := List.mem_map.mp hy'
    obtain ⟨z, hz, rfl⟩ := List.mem_map.mp hz'
    exact b.rs y hy z hz
  · have := b.un
    unfold restB
    rw [List.map_map]
    have e3 : ((fun p : Person => p.name) ∘ restP n r) = fun p => p.name := by funext q; exact restP_name n r q
    rw [e3]
    exact this
  · obtain ⟨s1, s2, s3, s4⟩ := b.sz
    refine ⟨by simpa [restB] using s1, s2, ?_, s4⟩
    intro p hp
    unfold restB at hp
    obtain ⟨q, hq, rfl⟩ := List.mem_map.mp hp
    obtain ⟨t1, t2⟩ := s3 q hq
    refine ⟨?_, by rw [restP_skills]; exact t2⟩
    unfold restP
    split
    · rename_i h
      have : ∃ y ∈ pe, y.1 = q := by
        rw [← b.pn] at hq
        obtain ⟨y, hy, e⟩ := List.mem_map.mp hq
        exact ⟨y, hy, e⟩
      obtain ⟨y, hy, rfl⟩ := this
      have := one y hy h
      subst this
      simp only [List.length_append, List.length_singleton]
      omega
    · exact t1
theorem BookIn.addP (b : BookIn K F R a β dx dS dL dR dT dN pe sh) {p : Person} {pS pR : Addr} {R' : Hp} (hf : findP β p.name = none) (e : Same F G) (nS : R pS = none) (nR : R pR = none) (nSR : pS ≠ pR) (hr : p.rests = []) (hz : p.skills.length ≤ 1000) (hz2 : β.people.length < 1000)
    (hdS : R' dS = some (.dK (kvS pe ++ [(Sum.inr p.name, .ref pS)]))) (hdL : R' dL = some (.dK (kvL pe ++ [(Sum.inr p.name, .int p.limit)]))) (hdR : R' dR = some (.dK (kvR pe ++ [(Sum.inr p.name, .ref pR)])))
    (hpS : R' pS = some (.lst (p.skills.map V.str))) (hpR : R' pR = some (.lst [])) (ho : ∀ y, y ≠ dS → y ≠ dL → y ≠ dR → R y ≠ none → R' y = R y) :
    BookIn K G R' a ⟨β.people ++ [p], β.shifts⟩ dx dS dL dR dT dN (pe ++ [(p, pS, pR)]) sh := by
  have keep : ∀ {y o}, R y = some o → (∀ l, o ≠ .dK l) → R' y = some o := fun {y o} h hne => by
    rw [ho y (ne_of h b.cS (hne _)) (ne_of h b.cL (hne _)) (ne_of h b.cR (hne _)) (by rw [h]; intro z; cases z)]
    exact h
  have nd := b.nd
  simp only [List.nodup_cons, List.mem_cons, List.not_mem_nil, or_false, not_or] at nd
  obtain ⟨⟨n1, n2, n3, n4⟩, ⟨n5, n6, n7⟩, ⟨n8, n9⟩, n10, _⟩ := nd
  have hn : p.name ∉ β.people.map (·.name) := fun hm => by
    obtain ⟨q, hq, hqe⟩ := List.mem_map.mp hm
    unfold findP at hf
    rw [List.find?_eq_none] at hf
    exact hf q hq (by simp [hqe])
  refine { pn := ?_, sn := b.sn, ob := keep b.ob (fun _ z => nomatch z), ow := keep b.ow (fun _ z => nomatch z), cS := by rw [hdS]; simp [kvS], cL := by rw [hdL]; simp [kvL], cR := by rw [hdR]; simp [kvR], cT := ?_, cN := ?_, nd := b.nd, ps := ?_, pr := ?_, st := fun y hy => dp_mono e _ (b.st y hy), sc := ?_, rn := ?_, rs := ?_, nn := b.nn, un := ?_, us := b.us, sz := ?_ }
  · rw [List.map_append, b.pn]; rfl
  · rw [ho dT (Ne.symm n3) (Ne.symm n6) (Ne.symm n8) (by rw [b.cT]; intro z; cases z)]; exact b.cT
  · rw [ho dN (Ne.symm n4) (Ne.symm n7) (Ne.symm n9) (by rw [b.cN]; intro z; cases z)]; exact b.cN
  · intro y hy
    rcases List.mem_append.mp hy with hy | hy
    · exact keep (b.ps y hy) (fun _ z => nomatch z)
    · obtain rfl := List.mem_singleton.mp hy
      exact hpS
  · intro y hy
    rcases List.mem_append.mp hy with hy | hy
    · obtain ⟨vs, h1, h2⟩ := b.pr y hy
      exact ⟨vs, keep h1 (fun _ z => nomatch z), dpa_mono e _ h2⟩
    · obtain rfl := List.mem_singleton.mp hy
      refine ⟨[], hpR, ?_⟩
      show DqAll K G [] (p.rests.map stD)
      rw [hr]
      exact .nil
  · intro y hy
    have := b.nn y hy
    simp only [List.mem_cons, List.not_mem_nil, or_false, not_or] at this
    rw [ho y.2.2 this.1 this.2.1 this.2.2.1 (by rw [b.sc y hy]; intro z; cases z)]
    exact b.sc y hy
  · rw [List.map_append, List.nodup_append]
    refine ⟨b.rn, by simp, fun u hu v hv => ?_⟩
    obtain ⟨y, hy, rfl⟩ := List.mem_map.mp hu
    simp at hv
    subst hv
    obtain ⟨vs, h1, _⟩ := b.pr y hy
    exact ne_of_none h1 nR
  · intro y hy z hz
    rcases List.mem_append.mp hy with hy | hy
    · rcases List.mem_append.mp hz with hz | hz
      · exact b.rs y hy z hz
      · obtain rfl := List.mem_singleton.mp hz
        exact ne_of_none (b.ps y hy) nR
    · obtain rfl := List.mem_singleton.mp hy
      rcases List.mem_append.mp hz with hz | hz
      · obtain ⟨vs, h1, _⟩ := b.pr z hz
        exact Ne.symm (ne_of_none h1 nS)
      · obtain rfl := List.mem_singleton.mp hz
        exact nSR
  · show ((β.people ++ [p]).map (·.name)).Nodup
    rw [List.map_append, List.nodup_append]
    refine ⟨b.un, by simp, fun u hu v hv => ?_⟩
    simp at hv
    subst hv
    rintro rfl
    exact hn hu
  · obtain ⟨t1, t2, t3, t4⟩ := b.sz
    refine ⟨by simp only [List.length_append, List.length_singleton]; omega, t2, ?_, t4⟩
    intro q hq
    rcases List.mem_append.mp hq with hq | hq
    · exact t3 q hq
    · obtain rfl := List.mem_singleton.mp hq
      exact ⟨by rw [hr]; simp, hz⟩
theorem BookIn.addS (b : BookIn K F R a β dx dS dL dR dT dN pe sh) {s : Shift} {t dC : Addr} {R' : Hp} (hf : findS β s.name = none) (e : Same F G) (nC : R dC = none) (hst : Dq K G (.ref t) (stD (s.b, s.e))) (hz : s.needs.length ≤ 1000) (hz2 : β.shifts.length < 1000)
    (hdT : R' dT = some (.dK (kvT sh ++ [(Sum.inr s.name, .ref t)]))) (hdN : R' dN = some (.dK (kvN sh ++ [(Sum.inr s.name, .ref dC)])))
    (hdC : R' dC = some (.dK (kvC s.needs))) (ho : ∀ y, y ≠ dT → y ≠ dN → R y ≠ none → R' y = R y) :
    BookIn K G R' a ⟨β.people, β.shifts ++ [s]⟩ dx dS dL dR dT dN pe (sh ++ [(s, t, dC)]) := by
  have keep : ∀ {y o}, R y = some o → (∀ l, o ≠ .dK l) → R' y = some o := fun {y o} h hne => by
    rw [ho y (ne_of h b.cT (hne _)) (ne_of h b.cN (hne _)) (by rw [h]; intro z; cases z)]
    exact h
  have nd := b.nd
  simp only [List.nodup_cons, List.mem_cons, List.not_mem_nil, or_false, not_or] at nd
  obtain ⟨⟨n1, n2, n3, n4⟩, ⟨n5, n6, n7⟩, ⟨n8, n9⟩, n10, _⟩ := nd
  have hn : s.name ∉ β.shifts.map (·.name) := fun hm => by
    obtain ⟨q, hq, hqe⟩ := List.mem_map.mp hm
    unfold findS at hf
    rw [List.find?_eq_none] at hf
    exact hf q hq (by simp [hqe])
  refine { pn := b.pn, sn := ?_, ob := keep b.ob (fun _ z => nomatch z), ow := keep b.ow (fun _ z => nomatch z), cS := ?_, cL := ?_, cR := ?_, cT := by rw [hdT]; simp [kvT], cN := by rw [hdN]; simp [kvN], nd := b.nd, ps := fun y hy => keep (b.ps y hy) (fun _ z => nomatch z), pr := ?_, st := ?_, sc := ?_, rn := b.rn, rs := b.rs, nn := ?_, un := b.un, us := ?_, sz := ?_ }
  · rw [List.map_append, b.sn]; rfl
  · rw [ho dS n3 n4 (by rw [b.cS]; intro z; cases z)]; exact b.cS
  · rw [ho dL n6 n7 (by rw [b.cL]; intro z; cases z)]; exact b.cL
  · rw [ho dR n8 n9 (by rw [b.cR]; intro z; cases z)]; exact b.cR
  · intro y hy
    obtain ⟨vs, h1, h2⟩ := b.pr y hy
    exact ⟨vs, keep h1 (fun _ z => nomatch z), dpa_mono e _ h2⟩
  · intro y hy
    rcases List.mem_append.mp hy with hy | hy
    · exact dp_mono e _ (b.st y hy)
    · obtain rfl := List.mem_singleton.mp hy
      exact hst
  · intro y hy
    rcases List.mem_append.mp hy with hy | hy
    · have := b.nn y hy
      simp only [List.mem_cons, List.not_mem_nil, or_false, not_or] at this
      rw [ho y.2.2 this.2.2.2.1 this.2.2.2.2 (by rw [b.sc y hy]; intro z; cases z)]
      exact b.sc y hy
    · obtain rfl := List.mem_singleton.mp hy
      exact hdC
  · intro y hy
    rcases List.mem_append.mp hy with hy | hy
    · exact b.nn y hy
    · obtain rfl := List.mem_singleton.mp hy
      simp only [List.mem_cons, List.not_mem_nil, or_false, not_or]
      exact ⟨Ne.symm (ne_of_none b.cS nC), Ne.symm (ne_of_none b.cL nC), Ne.symm (ne_of_none b.cR nC), Ne.symm (ne_of_none b.cT nC), Ne.symm (ne_of_none b.cN nC)⟩
  · show ((β.shifts ++ [s]).map (·.name)).Nodup
    rw [List.map_append, List.nodup_append]
    refine ⟨b.us, by simp, fun u hu v hv => ?_⟩
    simp at hv
    subst hv
    rintro rfl
    exact hn hu
  · obtain ⟨t1, t2, t3, t4⟩ := b.sz
    refine ⟨t1, by simp only [List.length_append, List.length_singleton]; omega, t3, ?_⟩
    intro q hq
    rcases List.mem_append.mp hq with hq | hq
    · exact t4 q hq
    · obtain rfl := List.mem_singleton.mp hq
      exact hz
end
end RT
/-! Words for books. -/
namespace RT
open PySem PySem.Spec PyProof.Rows L2
structure MethR (P : Program) (w : World) (K : PySem.W.Frag) (mg : Str → Option Value) (base : Heap) (k : Nat) (m : Str) (Fr : BookSt → List PyData → Res) : Prop where
  ex : ∃ (f : Addr) (fd : FuncData) (ps : List Str), FnOk P w K mg base (L2.CX P w) k f fd ps (spR K Fr) ∧ Meth K (He.ga K "Book") m f ∧ Binds K fd ps []
  cl : Cls K (He.ga K "Book")
  no : bkNo m
structure MethM (P : Program) (w : World) (K : PySem.W.Frag) (mg : Str → Option Value) (base : Heap) (k : Nat) (m : Str) (Fm : BookSt → List PyData → RM) : Prop where
  ex : ∃ (f : Addr) (fd : FuncData) (ps : List Str), FnOk P w K mg base (L2.CX P w) k f fd ps (spM K Fm) ∧ Meth K (He.ga K "Book") m f ∧ Binds K fd ps []
  cl : Cls K (He.ga K "Book")
  no : bkNo m
/-- a reading function of the module -/
structure PFR (P : Program) (w : World) (K : PySem.W.Frag) (mg : Str → Option Value) (base : Heap) (k : Nat) (x : Str) (Fr : BookSt → List PyData → Res) : Prop where
  ex : ∃ (f : Addr) (fd : FuncData) (ps : List Str), FnOk P w K mg base CX0 k f fd ps (spR K Fr) ∧ mg x = some (.ref f) ∧ PySem.W.keepIn K (.ref f) = true ∧ Binds K fd ps []
/-- a changing one -/
structure PFM (P : Program) (w : World) (K : PySem.W.Frag) (mg : Str → Option Value) (base : Heap) (k : Nat) (x : Str) (Fm : BookSt → List PyData → RM) : Prop where
  ex : ∃ (f : Addr) (fd : FuncData) (ps : List Str), FnOk P w K mg base CX0 k f fd ps (spM K Fm) ∧ mg x = some (.ref f) ∧ PySem.W.keepIn K (.ref f) = true ∧ Binds K fd ps []
theorem MethM.exc {P : Program} {w : World} {K : PySem.W.Frag} {mg : Str → Option Value} {base : Heap} {k : Nat} {m : Str} {Fm : BookSt → List PyData → RM} (M : MethM P w K mg base k m Fm) : MethR P w K mg base k m (excOf Fm) := by
  obtain ⟨f, fd, ps, G, me, b⟩ := M.ex
  exact ⟨⟨f, fd, ps, G.imp spM_of_R, me, b⟩, M.cl, M.no⟩
section
variable {X : Cx} {K : PySem.W.Frag} {B : Bs} {w : WX} {W : XW} {e : Expr} {es : List Expr} {ta : TA} {sa : SA} {x m : Str} {p ap pos pos2 : Pos} {k j : Nat} {Fr : BookSt → List PyData → Res} {Fm : BookSt → List PyData → RM}
theorem se_meth (i : Nat) {pl : Sem Bool} (M : MethR X.prog X.w K X.mg X.base k m Fr) (hr : Room j X.A) (ha : SemA X K B (e :: es) ta sa) (hp : PE X (.Name x p) (tVar i)) (hk : k ≤ j := by decide)
    (hst : starEach (e :: es) X.env = (false, eval e X.env) :: starEach es X.env := by rfl) (hpl : (backTo pos (starEach es X.env)).any (·.1) = false := by rfl)
    (ht : eval (.Call (.Attribute (.Name x p) m ap) (e :: es) [] pos) X.env = (do
      let ov ← eval (.Name x p) X.env
      standAt ap.atName
      let (f, first) ← holding [ov] (getMethod ov m pl)
      callWith pos f first (backTo pos (starEach (e :: es) X.env)) (backToKw pos (keywordEach [] X.env))) := by rfl) (hK : X.K = K := by rfl) :
    SemE X K B (.Call (.Attribute (.Name x p) m ap) (e :: es) [] pos) (tMeth (He.ga K "Book") m (spR K Fr) [] E0 (tVar i) ta) (eMeth B.bk i Fr sa) := by
  subst hK
  obtain ⟨f, fd, ps, G, me, b⟩ := M.ex
  exact ⟨pe_meth hp M.cl me G (hr.mono hk) b .nil passL ha.pa hst hpl ht, meth_okE M.no ha.ok⟩
theorem se_meth0 (i : Nat) {pl : Sem Bool} (M : MethR X.prog X.w K X.mg X.base k m Fr) (hr : Room j X.A) (hp : PE X (.Name x p) (tVar i)) (hk : k ≤ j := by decide)
    (ht : eval (.Call (.Attribute (.Name x p) m ap) [] [] pos) X.env = (do
      let ov ← eval (.Name x p) X.env
      standAt ap.atName
      let (f, first) ← holding [ov] (getMethod ov m pl)
      callWith pos f first (backTo pos (starEach [] X.env)) (backToKw pos (keywordEach [] X.env))) := by rfl) (hK : X.K = K := by rfl) :
    SemE X K B (.Call (.Attribute (.Name x p) m ap) [] [] pos) (tMeth (He.ga K "Book") m (spR K Fr) [] E0 (tVar i) tNil) (eMeth B.bk i Fr eNil) := by
  subst hK
  obtain ⟨f, fd, ps, G, me, b⟩ := M.ex
  exact ⟨pe_meth0 hp M.cl me G (hr.mono hk) b .nil passL ht, meth_okE M.no nil_ok⟩
theorem sx_meth (i : Nat) {pl : Sem Bool} (tk : Takes X w) (M : MethR X.prog X.w K X.mg X.base k m Fr) (hr : Room j X.A) (ha : SemA X K B (e :: es) ta sa) (hp : PE X (.Name x p) (tVar i)) (hk : k ≤ j := by decide)
    (hst : starEach (e :: es) X.env = (false, eval e X.env) :: starEach es X.env := by rfl) (hpl : (backTo pos (starEach es X.env)).any (·.1) = false := by rfl)
    (ht : eval (.Call (.Attribute (.Name x p) m ap) (e :: es) [] pos) X.env = (eval (.Name x p) X.env >>= fun ov => standAt ap.atName >>= fun _ => holding [ov] (getMethod ov m pl) >>= fun r => callWith pos r.1 r.2 (backTo pos (starEach (e :: es) X.env)) (backToKw pos (keywordEach [] X.env))) := by rfl) (hK : X.K = K := by rfl) :
    SemX X K B w (.Call (.Attribute (.Name x p) m ap) (e :: es) [] pos) (tMethS (He.ga K "Book") m (spR K Fr) (WE w) (tVar i) ta) (xMeth B.bk i Fr sa) := by
  subst hK
  obtain ⟨f, fd, ps, G, me, b⟩ := M.ex
  exact ⟨pe_methW tk hp M.cl me G hr hk b ha.pa hst hpl ht, methX_ok M.no ha.ok⟩
/-- book.m(..) that changes it, a statement -/
theorem s_mut (i : Nat) {pl : Sem Bool} (M : MethM X.prog X.w K X.mg X.base k m Fm) (hr : Room j X.A) (ha : SemA X K B (e :: es) ta sa) (hp : PE X (.Name x p) (tVar i)) (hk : k ≤ j := by decide)
    (hst : starEach (e :: es) X.env = (false, eval e X.env) :: starEach es X.env := by rfl) (hpl : (backTo pos (starEach es X.env)).any (·.1) = false := by rfl)
    (ht : eval (.Call (.Attribute (.Name x p) m ap) (e :: es) [] pos) X.env = (do
      let ov ← eval (.Name x p) X.env
      standAt ap.atName
      let (f, first) ← holding [ov] (getMethod ov m pl)
      callWith pos f first (backTo pos (starEach (e :: es) X.env)) (backToKw pos (keywordEach [] X.env))) := by rfl)
    (hs : swapsWith (.Call (.Attribute (.Name x p) m ap) (e :: es) [] pos) none pos2.line X.env = pure false := by rfl) (hK : X.K = K := by rfl) :
    SemS X K B W0 (.Expr (.Call (.Attribute (.Name x p) m ap) (e :: es) [] pos) pos2) (tDrop (tMeth (He.ga K "Book") m (spM K Fm) [] E0 (tVar i) ta)) (sMut i Fm sa) := by
  subst hK
  obtain ⟨f, fd, ps, G, me, b⟩ := M.ex
  exact ⟨ps_expr (pe_meth hp M.cl me G (hr.mono hk) b .nil passL ha.pa hst hpl ht) hs, mut_okS M.no ha.ok⟩
/-- f(book, ..) that reads -/
theorem se_callR (i : Nat) {y : Str} {p2 : Pos} (C : PFR X.prog X.w K X.mg X.base k x Fr) (hr : Room j X.A) (ha : SemA X K B es ta sa) (hp : PE X (.Name y p2) (tVar i)) (hk : k ≤ j := by decide) (hg : Gl X x := by rfl) (hdb : (x == ("__debug__" : Str)) = false := by decide)
    (he : starEach (.Name y p2 :: es) X.env = (false, eval (.Name y p2) X.env) :: starEach es X.env := by rfl) (hpl : (backTo pos (starEach es X.env)).any (·.1) = false := by rfl) (hK : X.K = K := by rfl) :
    SemE X K B (.Call (.Name x p) (.Name y p2 :: es) [] pos) (tCallB K Fr i ta) (eMeth B.bk i Fr sa) := by
  subst hK
  obtain ⟨f, fd, ps, h1, h2, h3, h4⟩ := C.ex
  exact ⟨pe_call h1 (hr.mono hk) hg h2 h3 h4 .nil pass0 (pa_cons hp ha.pa he) hdb he hpl, callR_ok ha.ok⟩
/-- f(book, ..) that changes it, a statement -/
theorem s_callM (i : Nat) {y : Str} {p2 : Pos} (C : PFM X.prog X.w K X.mg X.base k x Fm) (hr : Room j X.A) (ha : SemA X K B es ta sa) (hp : PE X (.Name y p2) (tVar i)) (hk : k ≤ j := by decide) (hg : Gl X x := by rfl) (hdb : (x == ("__debug__" : Str)) = false := by decide)
    (he : starEach (.Name y p2 :: es) X.env = (false, eval (.Name y p2) X.env) :: starEach es X.env := by rfl) (hpl : (backTo pos (starEach es X.env)).any (·.1) = false := by rfl)
    (hs : swapsWith (.Call (.Name x p) (.Name y p2 :: es) [] pos) none pos2.line X.env = pure false := by rfl) (hK : X.K = K := by rfl) :
    SemS X K B W0 (.Expr (.Call (.Name x p) (.Name y p2 :: es) [] pos) pos2) (tDrop (tCall (spM K Fm) [] E0 (tCons (tVar i) ta))) (sMut i Fm sa) := by
  subst hK
  obtain ⟨f, fd, ps, h1, h2, h3, h4⟩ := C.ex
  exact ⟨ps_expr (pe_call h1 (hr.mono hk) hg h2 h3 h4 .nil pass0 (pa_cons hp ha.pa he) hdb he hpl) hs, mutF_ok ha.ok⟩
/-- x = Book() -/
theorem s_mkB (i : Nat) {y : Str} {p2 : Pos} (hB : B.o = none) (ps : PS X (.Assign [.Name x p] (.Call (.Name y p2) [] [] pos) pos2) (tAsg (tMake (He.ga K "Book") (spInit K) [] E0 tNil) (gName i))) :
    SemS X K B W (.Assign [.Name x p] (.Call (.Name y p2) [] [] pos) pos2) (tAsg (tMake (He.ga K "Book") (spInit K) [] E0 tNil) (gName i)) (sMkB i) := ⟨ps, mk_okS hB⟩
end
/-- own lists become data, then f -/
def sFrz (f : SS) : SS := fun ρ => f (ρ.map frz1)
@[simp] theorem sFrz_eq (f : SS) (ρ : Rho) : sFrz f ρ = f (ρ.map frz1) := rfl
theorem s_frz {X : Cx} {K : PySem.W.Frag} {B : Bs} {W : XW} {st : Stmt} {t : TS} {f : SS} (h : SemS X K B W st t f) : SemS X K B W st t (sFrz f) := ⟨h.ps, fun Z R F H σ ρ D s hg => by
  obtain ⟨F', e1, s'⟩ := s.frz
  exact h.ok Z R F' H σ _ D s' (Goes.mono hg e1)⟩
/-- a reading function: its derivation for any object that is read, its value where it is handed that one -/
theorem sp_run {X : Cx} {K : PySem.W.Frag} {N : List Str} {n : Nat} {st : List Stmt} {b : (Addr → Option BookSt) → SS} {Fr : BookSt → List PyData → Res} {vs : List V} {H : Hp} {Q : VK} {E : XK}
    (k : ∀ B : Bs, ∃ t, SemSs X.nox K B W0 st t (b B.bk)) (hF : ∀ a β ds, match Fr β ds with
      | .ret d => runF N n (b (only a β)) (refD a :: ds) = some d
      | .exc _ => False
      | .no => True) (h : spR K Fr vs H Q E) : ∃ t, PSs X st t ∧ t { nx := fun _ H' => Q .non H', rt := Q } (start N vs) H := by
  obtain ⟨G, R, a, β, us, ds, rfl, e, eR, ap, bA, r, q⟩ := h
  have hf := hF a β ds
  cases e3 : Fr β ds with
  | no => rw [e3] at q; exact (show False from q).elim
  | exc c => rw [e3] at hf; exact hf.elim
  | ret d =>
    rw [e3] at q hf
    have bo : BsOk K ⟨R, G, only a β, none⟩ G H := ⟨Same.refl G, eR, ap, fun b γ hb => by
      have hb' : (if b = a then some β else none) = some γ := hb
      split at hb'
      · rename_i hh
        cases hb'
        subst hh
        exact bA
      · cases hb'⟩
    obtain ⟨t, ht⟩ := k ⟨R, G, only a β, none⟩
    exact ⟨t, ht.ps.nox, sp_bodyB ht.ok bo e (.cons (.inr (.inl ⟨a, rfl, rfl⟩)) r) hf q⟩
/-! ### rows to reckon -/
@[simp] theorem sMkB_eq (i : Nat) (ρ : Rho) : sMkB i ρ = if noObj (ρ.set i .no) = true then .nx (ρ.set i (.obj (.book ⟨[], []⟩))) else .no := rfl
def outM (o : RM) (k : BookSt → Out) (kx : Str → Out) : Out := match o with
  | .no => .no
  | .done β _ => k β
  | .exc c => kx c
@[simp] theorem outM_done (β : BookSt) (d : PyData) (k : BookSt → Out) (kx : Str → Out) : outM (.done β d) k kx = k β := rfl
@[simp] theorem outM_exc (c : Str) (k : BookSt → Out) (kx : Str → Out) : outM (.exc c) k kx = kx c := rfl
def slO : Option Sl → Option BookSt
  | some (.obj (.book β)) => some β
  | _ => none
@[simp] theorem slO_obj (β : BookSt) : slO (some (.obj (.book β))) = some β := rfl
def outO (o : Option BookSt) (k : BookSt → Out) : Out := match o with
  | some β => k β
  | none => .no
@[simp] theorem outO_some (β : BookSt) (k : BookSt → Out) : outO (some β) k = k β := rfl
@[simp] theorem sMut_eq (i : Nat) (Fm : BookSt → List PyData → RM) (sa : SA) (ρ : Rho) : sMut i Fm sa ρ = outO (slO ρ[i]?) fun β => outL (sa ρ) fun ds => if noObj (ρ.set i .no) = true then outM (Fm β ds) (fun β' => .nx (ρ.set i (.obj (.book β')))) (fun c => .ex c ρ) else .no := by
  unfold sMut
  cases h : ρ[i]? with
  | none => rfl
  | some s =>
    cases s with
    | obj o =>
      cases o with
      | book β =>
        cases sa ρ with
        | none => rfl
        | some ds =>
          show (if noObj (ρ.set i .no) = true then _ else _) = (if noObj (ρ.set i .no) = true then _ else _)
          split
          · cases Fm β ds <;> rfl
          · rfl
    | _ => rfl
@[simp] theorem rcv_obj (bk : Addr → Option BookSt) (ρ : Rho) (i : Nat) (β : BookSt) (h : ρ[i]? = some (.obj (.book β))) : rcv bk ρ i = some β := by unfold rcv; rw [h]
theorem rcv_ref (a : Addr) (β : BookSt) (ρ : Rho) (i : Nat) (h : ρ[i]? = some (.val (refD a))) : rcv (only a β) ρ i = some β := by
  unfold rcv
  rw [h]
  simp [refD, addrOf, only]
theorem eMeth_eq (bk : Addr → Option BookSt) (i : Nat) (Fr : BookSt → List PyData → Res) (sa : SA) (ρ : Rho) : eMeth bk i Fr sa ρ = (rcv bk ρ i).bind fun β => (sa ρ).bind fun ds => (Fr β ds).ok := by
  unfold eMeth xMeth
  cases rcv bk ρ i with
  | none => rfl
  | some β => cases sa ρ <;> rfl
@[simp] theorem noObj_nil : noObj [] = true := rfl
@[simp] theorem noObj_no (ρ : Rho) : noObj (.no :: ρ) = noObj ρ := rfl
@[simp] theorem noObj_val (d : PyData) (ρ : Rho) : noObj (.val d :: ρ) = noObj ρ := rfl
@[simp] theorem noObj_own (d : List PyData) (ρ : Rho) : noObj (.own d :: ρ) = noObj ρ := rfl
@[simp] theorem frz1_obj (o : ObjSt) : frz1 (.obj o) = .obj o := rfl
end RT
/-! A caught exception asked for its class; a head that looks at more. -/
namespace RT
open PySem PySem.Spec PyProof.Rows L2
theorem vals_refs : ∀ {ds : List Addr} {us : List Value}, Vals (ds.map V.ref) us → us = ds.map Value.ref
  | [], us, h => by cases h; rfl
  | d :: ds, us, h => by
    cases h with
    | cons r rs =>
      cases r
      rw [vals_refs rs]
      rfl
/-- isinstance(e, (C1, C2, ..)), e the exception that the suite holds -/
def rIsET (K : PySem.W.Frag) (D a : Addr) : List V → Hp → VK → Prop := fun xs H Q => ∃ (tp : Addr) (ds : List Addr) (b : Bool), xs = [.ref a, .ref tp] ∧ H tp = some (.tup (ds.map V.ref)) ∧ PySem.W.kitAny K (.ref D) (ds.map Value.ref) = some b ∧ Q (.bl b) H
theorem call_isET {X : Cx} {a D : Addr} {oe : Obj} {pn : List (Addr × Obj)} (C : ExcC X.K D) (hz : Zc (.ref D) none oe) (hf : ∃ vs, oe.data = .fields vs) : CallR (X.suite a ((a, oe) :: pn)) (.builtin "isinstance") (rIsET X.K D a) := fun pins s σ H xs us Q I r h => by
  obtain ⟨tp, ds, b, rfl, hT, e, q⟩ := h
  cases r with
  | cons rx rr =>
  cases rr with
  | cons rt rr =>
  cases rr
  cases rx
  cases rt
  obtain ⟨_, its, rv, o, k1, k2, n, k3⟩ := (show ObjOk X.prog X.w H s.heap tp (.tup (ds.map V.ref)) from I.hok tp _ hT)
  have ei := vals_refs rv
  subst ei
  obtain ⟨oc, od, dt, sl⟩ := o
  simp only at k2 k3
  subst k2 k3
  obtain ⟨hget, _⟩ := I.pin (a, oe) (List.mem_append.mpr (.inl List.mem_cons_self))
  obtain ⟨vs, hv⟩ := hf
  have J : PySem.W.InstAt s.heap a oe D none := by
    obtain ⟨oc2, od2, oda, osl⟩ := oe
    obtain ⟨h1, h2⟩ := hz
    dsimp only at h1 h2 hv
    subst h1 h2 hv
    exact ⟨hget, rfl, rfl, trivial⟩
  exact PySem.W.kia_tup (PySem.W.handS_kitx_exc C.hg C.hk C.hs C.hd C.ha C.hn C.ht C.hm) I.kIn J k1 e (fun z => nomatch z) fun tk => ⟨.bl b, H, I.kept (t' := tk) fun _ _ z => z, rfl, q⟩
/-- the facts of a class, looked at once -/
def excB (K : PySem.W.Frag) (D : Addr) : Bool := decide (PySem.W.findIn K (.ref D) "__getattribute__" = some (some (.builtin "BaseException.__getattribute__"))) && (decide (PySem.W.findIn K (.ref D) "__getattr__" = some none) && (decide (PySem.W.subIn K (.ref D) (.type "BaseException") = some true) &&
  (PySem.W.hasDictIn K D && (decide (PySem.W.findIn K (.ref D) "__class__" = some (some (.builtin "object.__class__"))) && (decide (PySem.W.specialIn K (.builtin "object.__class__") "__get__" = some (some (.builtin "getset_descriptor.__get__"))) && (decide (PySem.W.takesIn K (.builtin "object.__class__") = some true) && decide (PySem.W.mroIn K D (.type "object") = some true)))))))
theorem excB_ok {K : PySem.W.Frag} {D : Addr} (h : excB K D = true) : ExcC K D := by
  unfold excB at h
  simp only [Bool.and_eq_true, decide_eq_true_eq] at h
  obtain ⟨h1, h2, h3, h4, h5, h6, h7, h8⟩ := h
  exact ⟨h1, h2, h3, h4, h5, h6, h7, h8⟩
def kitB1 (K : PySem.W.Frag) (D : Addr) (c : Value) (b : Bool) : Bool := decide (PySem.W.kitOne K (.ref D) c = some b)
def kitBs (K : PySem.W.Frag) (D : Addr) (cs : List Value) (b : Bool) : Bool := decide (PySem.W.kitAny K (.ref D) cs = some b)
/-- a head's look at facts, defs, and one more thing -/
def hookP (n : Nat) (fa : List He.Fa) (fn : List He.DefD) (ex : PySem.W.Frag → Bool) : PySem.W.Hook where
  α := He.AlD × Bool
  obs := fun s => (He.obsDG n fa fn s.heap.get?, ex (He.frG s.heap.get? (He.asD s.heap.get? n)))
  val := fun _ => (He.valD fn, true)
  says := fun _ h => ∃ K : PySem.W.Frag, K.In h ∧ He.SaysD fa fn K ∧ ex K = true
  of := fun _ _ e => ⟨_, He.frG_in, congrArg Prod.fst e, congrArg Prod.snd e⟩
  keeps := fun _ _ _ h k => by
    obtain ⟨K, hK, c⟩ := h
    exact ⟨K, PySem.W.Frag.In.keeps hK k, c⟩
def obsP (n : Nat) (fa : List He.Fa) (fn : List He.DefD) (ex : PySem.W.Frag → Bool) (g : Addr → Option Obj) : He.AlD × Bool := (He.obsDG n fa fn g, ex (He.frG g (He.asD g n)))
theorem obsP_eq {n : Nat} {fa : List He.Fa} {fn : List He.DefD} {ex : PySem.W.Frag → Bool} {g : Addr → Option Obj} {s : Shared} (h : ∀ a, g a = s.heap.get? a) : obsP n fa fn ex g = (hookP n fa fn ex).obs s := by
  cases (funext h : g = s.heap.get?)
  rfl
end RT
namespace RK
open PySem PySem.Spec PyProof.Rows L2 RT
def topS (i : Nat) : Stmt := PySem.Challenge.pw_rota_k04_who_may_work.main.body.getD i (.Pass ⟨0, 0, 0, 0⟩)
abbrev s_is_whole : Stmt := topS 12
abbrev s_is_stretch : Stmt := topS 13
abbrev s_meets : Stmt := topS 14
abbrev s_in_one_day : Stmt := topS 15
abbrev s_is_name : Stmt := topS 19
abbrev s_cell : Stmt := topS 25
abbrev s_sign : Stmt := topS 26
abbrev s_name_by : Stmt := topS 27
abbrev s_rest_by : Stmt := topS 28
abbrev s_missing : Stmt := topS 29
abbrev s_mistyped : Stmt := topS 30
abbrev s_law : Stmt := topS 31
abbrev m_book_init : Stmt := inClass (topS 23) 0
abbrev m_book_add_person : Stmt := inClass (topS 23) 1
abbrev m_book_add_rest : Stmt := inClass (topS 23) 2
abbrev m_book_add_shift : Stmt := inClass (topS 23) 3
abbrev m_book_people : Stmt := inClass (topS 23) 4
abbrev m_book_shifts : Stmt := inClass (topS 23) 5
abbrev m_book_rests_of : Stmt := inClass (topS 23) 8
abbrev m_book_stretch_of : Stmt := inClass (topS 23) 10
abbrev m_book_may : Stmt := inClass (topS 23) 12
/-- what the top has written -/
structure Txt (K : PySem.W.Frag) (mg : Str → Option Value) : Prop where
  f_is_whole : ∃ fd, FunD K "is_whole" "is_whole" (defArgs s_is_whole) (defBody s_is_whole) (defScope s_is_whole) [] [] (He.ga K "is_whole") fd
  g_is_whole : mg "is_whole" = some (.ref (He.ga K "is_whole"))
  f_is_stretch : ∃ fd, FunD K "is_stretch" "is_stretch" (defArgs s_is_stretch) (defBody s_is_stretch) (defScope s_is_stretch) [] [] (He.ga K "is_stretch") fd
  g_is_stretch : mg "is_stretch" = some (.ref (He.ga K "is_stretch"))
  f_meets : ∃ fd, FunD K "meets" "meets" (defArgs s_meets) (defBody s_meets) (defScope s_meets) [] [] (He.ga K "meets") fd
  g_meets : mg "meets" = some (.ref (He.ga K "meets"))
  f_in_one_day : ∃ fd, FunD K "in_one_day" "in_one_day" (defArgs s_in_one_day) (defBody s_in_one_day) (defScope s_in_one_day) [] [] (He.ga K "in_one_day") fd
  g_in_one_day : mg "in_one_day" = some (.ref (He.ga K "in_one_day"))
  f_is_name : ∃ fd, FunD K "is_name" "is_name" (defArgs s_is_name) (defBody s_is_name) (defScope s_is_name) [] [] (He.ga K "is_name") fd
  g_is_name : mg "is_name" = some (.ref (He.ga K "is_name"))
  f_cell : ∃ fd, FunD K "_law_cell" "_law_cell" (defArgs s_cell) (defBody s_cell) (defScope s_cell) [] [] (He.ga K "_law_cell") fd
  g_cell : mg "_law_cell" = some (.ref (He.ga K "_law_cell"))
  f_sign : ∃ fd, FunD K "_law_sign" "_law_sign" (defArgs s_sign) (defBody s_sign) (defScope s_sign) [] [] (He.ga K "_law_sign") fd
  g_sign : mg "_law_sign" = some (.ref (He.ga K "_law_sign"))
  f_name_by : ∃ fd, FunD K "_law_name_by" "_law_name_by" (defArgs s_name_by) (defBody s_name_by) (defScope s_name_by) [] [] (He.ga K "_law_name_by") fd
  g_name_by : mg "_law_name_by" = some (.ref (He.ga K "_law_name_by"))
  f_rest_by : ∃ fd, FunD K "_law_rest_by" "_law_rest_by" (defArgs s_rest_by) (defBody s_rest_by) (defScope s_rest_by) [] [] (He.ga K "_law_rest_by") fd
  g_rest_by : mg "_law_rest_by" = some (.ref (He.ga K "_law_rest_by"))
  f_missing : ∃ fd, FunD K "_law_missing" "_law_missing" (defArgs s_missing) (defBody s_missing) (defScope s_missing) [] [] (He.ga K "_law_missing") fd
  g_missing : mg "_law_missing" = some (.ref (He.ga K "_law_missing"))
  f_mistyped : ∃ fd, FunD K "_law_mistyped" "_law_mistyped" (defArgs s_mistyped) (defBody s_mistyped) (defScope s_mistyped) [] [] (He.ga K "_law_mistyped") fd
  g_mistyped : mg "_law_mistyped" = some (.ref (He.ga K "_law_mistyped"))
  f_law : ∃ fd, FunD K "law" "law" (defArgs s_law) (defBody s_law) (defScope s_law) [] [] (He.ga K "law") fd
  g_law : mg "law" = some (.ref (He.ga K "law"))
  z_ValueError : mg "ValueError" = none
  z_bool : mg "bool" = none
  z_int : mg "int" = none
  z_isinstance : mg "isinstance" = none
  z_len : mg "len" = none
  z_list : mg "list" = none
  z_max : mg "max" = none
  z_min : mg "min" = none
  z_range : mg "range" = none
  c_DAY : ∃ tk, mg "DAY" = some (.int 24 tk)
  c_LAST : ∃ tk, mg "LAST" = some (.int 1000000 tk)
  c_MOST : ∃ tk, mg "MOST" = some (.int 20 tk)
  c_MOST_COUNT : ∃ tk, mg "MOST_COUNT" = some (.int 9 tk)
  c_MOST_DAYS : ∃ tk, mg "MOST_DAYS" = some (.int 31 tk)
  c_SIGNS : ∃ tk, mg "SIGNS" = some (.str "!\"#$&'()*+,-./0123456789:;<=>?@ABCDEFGHIJKLMNOPQRSTUVWXYZ[\\]^_`abcdefghijklmnopqrstuvwxyz{|}~" tk)
  cl_book : Cls K (He.ga K "Book")
  mk_book : Mk K (He.ga K "Book") (He.ma K (He.ga K "Book") "__init__")
  gc_book : mg "Book" = some (.ref (He.ga K "Book"))
  n_book_skills : NoAttr K (He.ga K "Book") "skills"
  n_book_limits : NoAttr K (He.ga K "Book") "limits"
  n_book_rests : NoAttr K (He.ga K "Book") "rests"
  n_book_stretches : NoAttr K (He.ga K "Book") "stretches"
  n_book_needs : NoAttr K (He.ga K "Book") "needs"
  f_book_init : ∃ fd, FunD K "__init__" "Book.__init__" (defArgs m_book_init) (defBody m_book_init) (defScope m_book_init) [] [] (He.ma K (He.ga K "Book") "__init__") fd
  f_book_add_person : ∃ fd, FunD K "add_person" "Book.add_person" (defArgs m_book_add_person) (defBody m_book_add_person) (defScope m_book_add_person) [] [] (He.ma K (He.ga K "Book") "add_person") fd
  me_book_add_person : Meth K (He.ga K "Book") "add_person" (He.ma K (He.ga K "Book") "add_person")
  f_book_add_rest : ∃ fd, FunD K "add_rest" "Book.add_rest" (defArgs m_book_add_rest) (defBody m_book_add_rest) (defScope m_book_add_rest) [] [] (He.ma K (He.ga K "Book") "add_rest") fd
  me_book_add_rest : Meth K (He.ga K "Book") "add_rest" (He.ma K (He.ga K "Book") "add_rest")
  f_book_add_shift : ∃ fd, FunD K "add_shift" "Book.add_shift" (defArgs m_book_add_shift) (defBody m_book_add_shift) (defScope m_book_add_shift) [] [] (He.ma K (He.ga K "Book") "add_shift") fd
  me_book_add_shift : Meth K (He.ga K "Book") "add_shift" (He.ma K (He.ga K "Book") "add_shift")
  f_book_people : ∃ fd, FunD K "people" "Book.people" (defArgs m_book_people) (defBody m_book_people) (defScope m_book_people) [] [] (He.ma K (He.ga K "Book") "people") fd
  me_book_people : Meth K (He.ga K "Book") "people" (He.ma K (He.ga K "Book") "people")
  f_book_shifts : ∃ fd, FunD K "shifts" "Book.shifts" (defArgs m_book_shifts) (defBody m_book_shifts) (defScope m_book_shifts) [] [] (He.ma K (He.ga K "Book") "shifts") fd
  me_book_shifts : Meth K (He.ga K "Book") "shifts" (He.ma K (He.ga K "Book") "shifts")
  f_book_rests_of : ∃ fd, FunD K "rests_of" "Book.rests_of" (defArgs m_book_rests_of) (defBody m_book_rests_of) (defScope m_book_rests_of) [] [] (He.ma K (He.ga K "Book") "rests_of") fd
  me_book_rests_of : Meth K (He.ga K "Book") "rests_of" (He.ma K (He.ga K "Book") "rests_of")
  f_book_stretch_of : ∃ fd, FunD K "stretch_of" "Book.stretch_of" (defArgs m_book_stretch_of) (defBody m_book_stretch_of) (defScope m_book_stretch_of) [] [] (He.ma K (He.ga K "Book") "stretch_of") fd
  me_book_stretch_of : Meth K (He.ga K "Book") "stretch_of" (He.ma K (He.ga K "Book") "stretch_of")
  f_book_may : ∃ fd, FunD K "may" "Book.may" (defArgs m_book_may) (defBody m_book_may) (defScope m_book_may) [] [] (He.ma K (He.ga K "Book") "may") fd
  me_book_may : Meth K (He.ga K "Book") "may" (He.ma K (He.ga K "Book") "may")
  e_BadCount : ExT K mg "BadCount"
  e_BadName : ExT K mg "BadName"
  e_BadStretch : ExT K mg "BadStretch"
  e_Missing : ExT K mg "Missing"
  e_Twice : ExT K mg "Twice"
  gh_RotaError : mg "RotaError" = some (.ref (He.ga K "RotaError"))
  x_BadStretch_RotaError : PySem.W.exmOne K (.ref (He.ga K "BadStretch")) (.ref (He.ga K "RotaError")) = some true
  x_Missing_RotaError : PySem.W.exmOne K (.ref (He.ga K "Missing")) (.ref (He.ga K "RotaError")) = some true
  xe : ExcC K (He.ga K "Missing")
  ka : PySem.W.kitAny K (.ref (He.ga K "Missing")) ([He.ga K "BadName", He.ga K "BadStretch", He.ga K "BadCount", He.ga K "Twice", He.ga K "BadLine"].map Value.ref) = some false
  kv : PySem.W.kitOne K (.ref (He.ga K "Missing")) (.type "ValueError") = some true
  ks : PySem.W.kitOne K (.ref (He.ga K "Missing")) (.ref (He.ga K "Missing")) = some true
  gl_BadName : mg "BadName" = some (.ref (He.ga K "BadName"))
  gl_BadStretch : mg "BadStretch" = some (.ref (He.ga K "BadStretch"))
  gl_BadCount : mg "BadCount" = some (.ref (He.ga K "BadCount"))
  gl_Twice : mg "Twice" = some (.ref (He.ga K "Twice"))
  gl_BadLine : mg "BadLine" = some (.ref (He.ga K "BadLine"))
theorem Txt.bk {K : PySem.W.Frag} {mg : Str → Option Value} (T : Txt K mg) : BkT K mg := ⟨T.cl_book, T.n_book_skills, T.n_book_limits, T.n_book_rests, T.n_book_stretches, T.n_book_needs⟩
section
variable {P : Program} {w : World} {K : PySem.W.Frag} {mg : Str → Option Value} {base : Heap}
abbrev N_is_whole : List Str := ["thing"]
theorem sc_is_whole : FnScope N_is_whole ["thing"] (defScope s_is_whole) := ⟨rfl, rfl, rfl, by decide +kernel, rfl, by decide +kernel, by decide +kernel⟩
def b_is_whole : SS := (sRet (eAndF (eIsi .int (eVarB 0)) (eNotF (eIsi .bool (eVarB 0)))))
def F_is_whole : List PyData → Option PyData := runF N_is_whole 1 b_is_whole
theorem ok_is_whole (T : Txt K mg) : PF P w K mg base 1 "is_whole" F_is_whole := by
  obtain ⟨fd, F⟩ := T.f_is_whole
  refine pf_mk (k := 0) F sc_is_whole T.g_is_whole (fun _ _ _ _ _ _ us hl => match us, hl with | [_], _ => rfl) fun cdv A outer s H E hr => ?_
  have hu := hr.units
  have hv := hv_of hr
  exact ⟨_, ((ss_one (s_ret (se_and (se_isi .int T.z_isinstance T.z_int (sb_var 0)) (se_one (se_not (se_isi .bool T.z_isinstance T.z_bool (sb_var 0))))))))⟩

abbrev N_is_stretch : List Str := ["pair"]
theorem sc_is_stretch : FnScope N_is_stretch ["pair"] (defScope s_is_stretch) := ⟨rfl, rfl, rfl, by decide +kernel, rfl, by decide +kernel, by decide +kernel⟩
def b_is_stretch : SS := (sSeq (sIf (tOrF (bF (eOp gNe (eCall gLen (eCons (eVarB 0) eNil)) (eC (.int 2)))) (tOrF (tNotF (bF (eCall F_is_whole (eCons (eOp gIx (eVarB 0) (eC (.int 0))) eNil)))) (tNotF (bF (eCall F_is_whole (eCons (eOp gIx (eVarB 0) (eC (.int 1))) eNil)))))) (sRet (eC (.bool false))) sNext)
  (sRet (eChain3F gLe gLt gLe (eC (.int 0)) (eOp gIx (eVarB 0) (eC (.int 0))) (eOp gIx (eVarB 0) (eC (.int 1))) (eC (.int 1000000)))))
def F_is_stretch : List PyData → Option PyData := runF N_is_stretch 1 b_is_stretch
theorem ok_is_stretch (T : Txt K mg) : PF P w K mg base 2 "is_stretch" F_is_stretch := by
  obtain ⟨fd, F⟩ := T.f_is_stretch
  refine pf_mk (k := 1) F sc_is_stretch T.g_is_stretch (fun _ _ _ _ _ _ us hl => match us, hl with | [_], _ => rfl) fun cdv A outer s H E hr => ?_
  have hu := hr.units
  have hv := hv_of hr
  exact ⟨_, ((ss_cons (s_if (x_wt (sw_or (st_cmp ne2_s (op_ne2 hu) (x_eb (se_cb len_s call_len T.z_len (x_abc (sb_var 0) sab_nil))) (x_eb se_int) (nomark _)) (sw_or (st_not (st_val (se_call (ok_is_whole T) hr (x_ac (se_ix (sb_var 0) (x_eb se_int)) sa_nil)))) (sw_or1 (st_not (st_val (se_call (ok_is_whole T) hr (x_ac (se_ix (sb_var 0) (x_eb se_int)) sa_nil)))))))) (ss_one (s_ret se_bool)) ss_nil)
    (ss_one (s_ret (se_chain3 le_s op_le lt_s op_lt le_s op_le (x_eb se_int) (x_eb (se_ix (sb_var 0) (x_eb se_int))) (x_eb (se_ix (sb_var 0) (x_eb se_int))) (x_eb (se_globI T.c_LAST)))))))⟩

abbrev N_meets : List Str := ["one", "other"]
theorem sc_meets : FnScope N_meets ["one", "other"] (defScope s_meets) := ⟨rfl, rfl, rfl, by decide +kernel, rfl, by decide +kernel, by decide +kernel⟩
def b_meets : SS := (sRet (eAndF (eOp gLt (eOp gIx (eVarB 0) (eC (.int 0))) (eOp gIx (eVarB 1) (eC (.int 1)))) (eOp gLt (eOp gIx (eVarB 1) (eC (.int 0))) (eOp gIx (eVarB 0) (eC (.int 1))))))
def F_meets : List PyData → Option PyData := runF N_meets 2 b_meets
theorem ok_meets (T : Txt K mg) : PF P w K mg base 1 "meets" F_meets := by
  obtain ⟨fd, F⟩ := T.f_meets
  refine pf_mk (k := 0) F sc_meets T.g_meets (fun _ _ _ _ _ _ us hl => match us, hl with | [_, _], _ => rfl) fun cdv A outer s H E hr => ?_
  have hu := hr.units
  have hv := hv_of hr
  exact ⟨_, ((ss_one (s_ret (se_and (se_cmp lt_s op_lt (x_eb (se_ix (sb_var 0) (x_eb se_int))) (x_eb (se_ix (sb_var 1) (x_eb se_int))) (nomark _)) (se_one (se_cmp lt_s op_lt (x_eb (se_ix (sb_var 1) (x_eb se_int))) (x_eb (se_ix (sb_var 0) (x_eb se_int))) (nomark _)))))))⟩

abbrev N_in_one_day : List Str := ["stretch"]
theorem sc_in_one_day : FnScope N_in_one_day ["stretch"] (defScope s_in_one_day) := ⟨rfl, rfl, rfl, by decide +kernel, rfl, by decide +kernel, by decide +kernel⟩
def b_in_one_day : SS := (sRet (eOp gEq (eOp gFdiv (eOp gMinus (eOp gIx (eVarB 0) (eC (.int 1))) (eC (.int 1))) (eC (.int 24))) (eOp gFdiv (eOp gIx (eVarB 0) (eC (.int 0))) (eC (.int 24)))))
def F_in_one_day : List PyData → Option PyData := runF N_in_one_day 1 b_in_one_day
theorem ok_in_one_day (T : Txt K mg) : PF P w K mg base 1 "in_one_day" F_in_one_day := by
  obtain ⟨fd, F⟩ := T.f_in_one_day
  refine pf_mk (k := 0) F sc_in_one_day T.g_in_one_day (fun _ _ _ _ _ _ us hl => match us, hl with | [_], _ => rfl) fun cdv A outer s H E hr => ?_
  have hu := hr.units
  have hv := hv_of hr
  exact ⟨_, ((ss_one (s_ret (se_cmp eq2_s (op_eq2 hu) (x_eb (se_fdiv (x_eb (se_sub (x_eb (se_ix (sb_var 0) (x_eb se_int))) (x_eb se_int))) (x_eb (se_globI T.c_DAY)))) (x_eb (se_fdiv (x_eb (se_ix (sb_var 0) (x_eb se_int))) (x_eb (se_globI T.c_DAY)))) (nomark _)))))⟩

abbrev N_is_name : List Str := ["text", "sign"]
theorem sc_is_name : FnScope N_is_name ["text"] (defScope s_is_name) := ⟨rfl, rfl, rfl, by decide +kernel, rfl, by decide +kernel, by decide +kernel⟩
def b_is_name : SS := (sSeq (sIf (tNotF (bF (eChainF gLe gLe (eC (.int 1)) (eCall gLen (eCons (eVarB 0) eNil)) (eC (.int 20))))) (sRet (eC (.bool false))) sNext)
  (sSeq (sFor (iS (eVar 0)) (tg1 1) (sIf (bF (eOp gNotIn (eVarB 1) (eC (.str "!\"#$&'()*+,-./0123456789:;<=>?@ABCDEFGHIJKLMNOPQRSTUVWXYZ[\\]^_`abcdefghijklmnopqrstuvwxyz{|}~")))) (sRet (eC (.bool false))) sNext))
  (sRet (eC (.bool true)))))
def F_is_name : List PyData → Option PyData := runF N_is_name 1 b_is_name
theorem ok_is_name (T : Txt K mg) : PF P w K mg base 1 "is_name" F_is_name := by
  obtain ⟨fd, F⟩ := T.f_is_name
  refine pf_mk (k := 0) F sc_is_name T.g_is_name (fun _ _ _ _ _ _ us hl => match us, hl with | [_], _ => rfl) fun cdv A outer s H E hr => ?_
  have hu := hr.units
  have hv := hv_of hr
  exact ⟨_, ((ss_cons (s_if (st_not (st_chain le_s op_le le_s op_le (x_eb se_int) (x_eb (se_cb len_s call_len T.z_len (x_abc (sb_var 0) sab_nil))) (x_eb (se_globI T.c_MOST)))) (ss_one (s_ret se_bool)) ss_nil)
    (ss_cons (s_for PassesOwn.never rfl (si_str (se_var 0)) (pg_name (i := 1) sc_is_name.nd rfl (by first | exact Or.inl rfl | exact Or.inr rfl)) (tg1_ok 1) (ss_one (s_if (st_cmp notIn2_s (op_notIn2 hv) (sb_var 1) (x_eb (se_globS T.c_SIGNS)) (by rfl)) (ss_one (s_ret se_bool)) ss_nil)))
    (ss_one (s_ret se_bool)))))⟩

abbrev N_cell : List Str := ["_law_script", "_law_k"]
theorem sc_cell : FnScope N_cell ["_law_script", "_law_k"] (defScope s_cell) := ⟨rfl, rfl, rfl, by decide +kernel, rfl, by decide +kernel, by decide +kernel⟩
def b_cell : SS := (sRet (eOp gIx (eOp gAdd (eList (lSl (eVarB 0) (oSome (eVarB 1)) (oSome (eOp gAdd (eVarB 1) (eC (.int 1)))))) (eList (eLstD (eCons (eC (.int 0)) eNil)))) (eC (.int 0))))
def F_cell : List PyData → Option PyData := runF N_cell 2 b_cell
theorem ok_cell (T : Txt K mg) : PF P w K mg base 1 "_law_cell" F_cell := by
  obtain ⟨fd, F⟩ := T.f_cell
  refine pf_mk (k := 0) F sc_cell T.g_cell (fun _ _ _ _ _ _ us hl => match us, hl with | [_, _], _ => rfl) fun cdv A outer s H E hr => ?_
  have hu := hr.units
  have hv := hv_of hr
  exact ⟨_, ((ss_one (s_ret (se_ix (x_eb (se_add (x_eb (x_le (sl_sl (sb_var 0) (so_some (sb_var 1)) (so_some (x_eb (se_add (sb_var 1) (x_eb se_int))))))) (x_eb (x_le (sl_lst (x_ac se_int sa_nil)))))) (x_eb se_int)))))⟩

abbrev N_sign : List Str := ["_law_cell_here", "_law_small", "_law_great"]
theorem sc_sign : FnScope N_sign ["_law_cell_here"] (defScope s_sign) := ⟨rfl, rfl, rfl, by decide +kernel, rfl, by decide +kernel, by decide +kernel⟩
def b_sign : SS := (sSeq (sSet 1 (eC (.str "abcdefghijklmnopqrstuvwxyz{|}~")))
  (sSeq (sSet 2 (eC (.str "@ABCDEFGHIJKLMNOPQRSTUVWXYZ[\\]^_`")))
  (sRet (eOp gIx (eOp gAdd (eOp gAdd (eC (.str "!\"#$&'()*+,-./0123456789:;<=>?")) (eVarB 2)) (eVarB 1)) (eOp gMod (eVarB 0) (eC (.int 93)))))))
def F_sign : List PyData → Option PyData := runF N_sign 1 b_sign
theorem ok_sign (T : Txt K mg) : PF P w K mg base 1 "_law_sign" F_sign := by
  obtain ⟨fd, F⟩ := T.f_sign
  refine pf_mk (k := 0) F sc_sign T.g_sign (fun _ _ _ _ _ _ us hl => match us, hl with | [_], _ => rfl) fun cdv A outer s H E hr => ?_
  have hu := hr.units
  have hv := hv_of hr
  exact ⟨_, ((ss_cons (s_set 1 sc_sign.nd se_str)
    (ss_cons (s_set 2 sc_sign.nd se_str)
    (ss_one (s_ret (se_ix (x_eb (se_add (x_eb (se_add (x_eb se_str) (sb_var 2))) (sb_var 1))) (x_eb (se_mod (sb_var 0) (x_eb se_int)))))))))⟩

abbrev N_name_by : List Str := ["_law_place", "_law_cell_here", "_law_tail", "_law_k"]
theorem sc_name_by : FnScope N_name_by ["_law_place", "_law_cell_here"] (defScope s_name_by) := ⟨rfl, rfl, rfl, by decide +kernel, rfl, by decide +kernel, by decide +kernel⟩
def b_name_by : SS := (sSeq (sSet 2 (eList (lLc (iR1 (eCons (eOp gMod (eVarB 1) (eC (.int 20))) eNil)) 3 tYesF (eCall F_sign (eCons (eOp gAdd (eOp gFdiv (eVarB 1) (eC (.int 20))) (eOp gMul (eOp gMul (eC (.int 5)) (eVarB 3)) (eOp gMod (eVarB 1) (eC (.int 7))))) eNil)))))
  (sRet (eOp gAdd (eOp gJoin (eC (.str "")) (eVarB 2)) (eCall F_sign (eCons (eVar 0) eNil)))))
def F_name_by : List PyData → Option PyData := runF N_name_by 2 b_name_by
theorem ok_name_by (T : Txt K mg) : PF P w K mg base 2 "_law_name_by" F_name_by := by
  obtain ⟨fd, F⟩ := T.f_name_by
  refine pf_mk (k := 1) F sc_name_by T.g_name_by (fun _ _ _ _ _ _ us hl => match us, hl with | [_, _], _ => rfl) fun cdv A outer s H E hr => ?_
  have hu := hr.units
  have hv := hv_of hr
  exact ⟨_, ((ss_cons (s_setLcE 2 (by exact (sl_lc (j := 3) rfl sc_name_by.nd rfl (x_ib (si_range1 T.z_range (x_abc (x_eb (se_mod (sb_var 1) (x_eb se_int))) sab_nil))) (blkOk_by (N := N_name_by) (sc := defScope s_name_by) (own := [("_law_k", 3)]) (by decide +kernel)) (fun _ _ _ _ _ => sts_nil) (fun _ _ _ _ _ => (se_call (ok_sign T) hr (x_ac (se_add (x_eb (se_fdiv (sb_var 1) (x_eb se_int))) (x_eb (se_mul (x_eb (se_mul (x_eb se_int) (sb_var 3))) (x_eb (se_mod (sb_var 1) (x_eb se_int)))))) sa_nil))) (fun _ _ _ _ _ => pg_name sc_name_by.nd rfl (Or.inl rfl)))) (by exact (ps_setLc (i := 2) (own := [("_law_k", 3)]) (g := gName 3) rfl sc_name_by.nd rfl rfl (sw_true rfl rfl rfl (by decide +kernel)) (x_pi (K := K) (x_ib (si_range1 T.z_range (x_abc (x_eb (se_mod (sb_var 1) (x_eb se_int))) sab_nil)))) (blkOk_by (N := N_name_by) (sc := defScope s_name_by) (own := [("_law_k", 3)]) (by decide +kernel)) (fun _ _ _ _ _ => pg_name sc_name_by.nd rfl (Or.inl rfl)) (fun _ _ _ _ _ => pts_nil) (fun _ _ _ _ _ => (x_pe (K := K) (se_call (ok_sign T) hr (x_ac (se_add (x_eb (se_fdiv (sb_var 1) (x_eb se_int))) (x_eb (se_mul (x_eb (se_mul (x_eb se_int) (sb_var 3))) (x_eb (se_mod (sb_var 1) (x_eb se_int)))))) sa_nil)))))))
    (ss_one (s_ret (se_add (x_eb (se_join (x_eb se_str) (sb_var 2))) (x_eb (se_call (ok_sign T) hr (x_ac (se_var 0) sa_nil))))))))⟩

abbrev N_rest_by : List Str := ["_law_cell_here", "_law_shift", "_law_size", "_law_begin"]
theorem sc_rest_by : FnScope N_rest_by ["_law_cell_here", "_law_shift"] (defScope s_rest_by) := ⟨rfl, rfl, rfl, by decide +kernel, rfl, by decide +kernel, by decide +kernel⟩
def b_rest_by : SS := (sSeq (sSet 2 (eOp gAdd (eC (.int 1)) (eOp gMod (eOp gFdiv (eVarB 0) (eC (.int 5))) (eC (.int 30)))))
  (sSeq (sIf (bF (eOp gEq (eOp gMod (eVarB 0) (eC (.int 5))) (eC (.int 0)))) (sRet (eTupD (eCons (eOp gIx (eVarB 1) (eC (.int 1))) (eCons (eOp gAdd (eOp gIx (eVarB 1) (eC (.int 1))) (eVarB 2)) eNil)))) sNext)
  (sSeq (sIf (tAndF (bF (eOp gEq (eOp gMod (eVarB 0) (eC (.int 5))) (eC (.int 1)))) (bF (eOp gGt (eOp gIx (eVarB 1) (eC (.int 0))) (eC (.int 0))))) (sRet (eTupD (eCons (eCall gMax (eCons (eC (.int 0)) (eCons (eOp gMinus (eOp gIx (eVarB 1) (eC (.int 0))) (eVarB 2)) eNil))) (eCons (eOp gIx (eVarB 1) (eC (.int 0))) eNil)))) sNext)
  (sSeq (sIf (bF (eOp gEq (eOp gMod (eVarB 0) (eC (.int 5))) (eC (.int 2)))) (sRet (eTupD (eCons (eOp gMinus (eOp gIx (eVarB 1) (eC (.int 1))) (eC (.int 1))) (eCons (eOp gAdd (eOp gIx (eVarB 1) (eC (.int 1))) (eVarB 2)) eNil)))) sNext)
  (sSeq (sSet 3 (eOp gAdd (eOp gMul (eOp gFdiv (eOp gIx (eVarB 1) (eC (.int 0))) (eC (.int 24))) (eC (.int 24))) (eOp gMod (eOp gFdiv (eVarB 0) (eC (.int 150))) (eC (.int 40)))))
  (sRet (eTupD (eCons (eVar 3) (eCons (eOp gAdd (eVarB 3) (eVarB 2)) eNil)))))))))
def F_rest_by : List PyData → Option PyData := runF N_rest_by 2 b_rest_by
theorem ok_rest_by (T : Txt K mg) : PF P w K mg base 1 "_law_rest_by" F_rest_by := by
  obtain ⟨fd, F⟩ := T.f_rest_by
  refine pf_mk (k := 0) F sc_rest_by T.g_rest_by (fun _ _ _ _ _ _ us hl => match us, hl with | [_, _], _ => rfl) fun cdv A outer s H E hr => ?_
  have hu := hr.units
  have hv := hv_of hr
  exact ⟨_, ((ss_cons (s_set 2 sc_rest_by.nd (se_add (x_eb se_int) (x_eb (se_mod (x_eb (se_fdiv (sb_var 0) (x_eb se_int))) (x_eb se_int)))))
    (ss_cons (s_if (st_cmp eq2_s (op_eq2 hu) (x_eb (se_mod (sb_var 0) (x_eb se_int))) (x_eb se_int) (nomark _)) (ss_one (s_ret (se_tup (x_ac (se_ix (sb_var 1) (x_eb se_int)) (x_ac (se_add (x_eb (se_ix (sb_var 1) (x_eb se_int))) (sb_var 2)) sa_nil))))) ss_nil)
    (ss_cons (s_if (x_wt (sw_and (st_cmp eq2_s (op_eq2 hu) (x_eb (se_mod (sb_var 0) (x_eb se_int))) (x_eb se_int) (nomark _)) (sw_and1 (st_cmp gt_s op_gt (x_eb (se_ix (sb_var 1) (x_eb se_int))) (x_eb se_int) (nomark _))))) (ss_one (s_ret (se_tup (x_ac (se_cb max_s (call_max2 rfl) T.z_max (x_abc (x_eb se_int) (x_abc (x_eb (se_sub (x_eb (se_ix (sb_var 1) (x_eb se_int))) (sb_var 2))) sab_nil))) (x_ac (se_ix (sb_var 1) (x_eb se_int)) sa_nil))))) ss_nil)
    (ss_cons (s_if (st_cmp eq2_s (op_eq2 hu) (x_eb (se_mod (sb_var 0) (x_eb se_int))) (x_eb se_int) (nomark _)) (ss_one (s_ret (se_tup (x_ac (se_sub (x_eb (se_ix (sb_var 1) (x_eb se_int))) (x_eb se_int)) (x_ac (se_add (x_eb (se_ix (sb_var 1) (x_eb se_int))) (sb_var 2)) sa_nil))))) ss_nil)
    (ss_cons (s_set 3 sc_rest_by.nd (se_add (x_eb (se_mul (x_eb (se_fdiv (x_eb (se_ix (sb_var 1) (x_eb se_int))) (x_eb se_int))) (x_eb se_int))) (x_eb (se_mod (x_eb (se_fdiv (sb_var 0) (x_eb se_int))) (x_eb se_int)))))
    (ss_one (s_ret (se_tup (x_ac (se_var 3) (x_ac (se_add (sb_var 3) (sb_var 2)) sa_nil)))))))))))⟩

end
end RK
namespace RK
open PySem PySem.Spec PyProof.Rows L2 RT
/-! ### reading methods of the book -/
section
variable {P : Program} {w : World} {K : PySem.W.Frag} {mg : Str → Option Value} {base : Heap}
theorem sc_rests_of : FnScope ["self", "name"] ["self", "name"] (defScope m_book_rests_of) := ⟨rfl, rfl, rfl, by decide +kernel, rfl, by decide +kernel, by decide +kernel⟩
theorem ok_rests_of (T : Txt K mg) {f : Addr} {fd : FuncData} (F : FunD K "rests_of" "Book.rests_of" (defArgs m_book_rests_of) (defBody m_book_rests_of) (defScope m_book_rests_of) [] [] f fd) : FnOk P w K mg base (L2.CX P w) 1 f fd ["self", "name"] (spR K fr_rests_of) := by
  refine F.ok sc_rests_of (fun vs H Q E h => ?_) (fun cdv A outer s H vs Q E hr h => ?_)
  · obtain ⟨G, R, a, β, us, ds, rfl, h1, h2, h3, h4, h5, q⟩ := h
    obtain ⟨n, rfl⟩ := s1_inv q
    rw [List.length_cons, h5.len]; rfl
  · obtain ⟨G, R, a, β, us, ds, rfl, h1, h2, h3, h4, h5, q⟩ := h
    have hu := hu_of hr
    obtain ⟨n, rfl⟩ := s1_inv q
    obtain ⟨dx, dS, dL, dR, dT, dN, pe, sh, b⟩ := h4
    obtain ⟨v, rfl, r⟩ := h5.one
    have := Bp.str (H := H) (.inl r)
    subst this
    have T' := T.bk
    have ob := h2 _ _ b.ob
    have cR := h2 _ _ b.cR
    refine ⟨_, pss_cons (ps_if (pt_cmp (pc_dnotin hu (pv 1) (pe_fld (pv 0) rfl))) (pss_one (ps_raise rfl (takes_of rfl rfl rfl rfl) (pmk_own PySem.F.excBase_ValueError T.e_Missing.x T.e_Missing.g T.e_Missing.k (raises_own T.e_Missing.b T.e_Missing.t) rfl))) pss_nil)
      (pss_one (ps_ret (pe_callTy call_list_of (by rfl) T.z_list (by decide +kernel) (pa_cons (pe_dget hu (pe_fld (pv 0) rfl) (pv 1) (fun _ _ => rfl)) pa_nil) (by decide) (by decide)))), ?_⟩
    refine ⟨_, rfl, _, rfl, a, _, dx, _, _, rfl, ob, T'.cl, T'.nR, lk_R, dR, _, rfl, DGet.k (k := Sum.inr n) cR, _, rfl, ?_⟩
    have q' : (mis (findP β n) fun p => .list (p.rests.map stD)).goes _ _ := q
    cases hp : findP β n with
    | none =>
      rw [hp] at q'
      rw [(b.noPerson hp).2.2]
      refine iteT ?_
      exact q' H G (Grow.refl h1)
    | some p =>
      rw [hp] at q'
      obtain ⟨x, hx, e1, e2, e3, e4, e5⟩ := b.person hp
      rw [e5]
      refine iteF ?_
      obtain ⟨vs, l1, l2⟩ := b.pr x hx
      refine ⟨_, rfl, a, _, dx, _, _, rfl, ob, T'.cl, T'.nR, lk_R, _, rfl, dR, _, rfl, by rw [← e5]; exact DGet.k (k := Sum.inr n) cR, x.2.2, vs, rfl, .inl (SqL.of (h2 _ _ l1)), fun l hl => ?_⟩
      rw [e1] at l2
      exact q' (.ref l) _ _ ((Grow.refl h1).new hl) (.inl (.lst upd_same (dpa_mono (Same.upd_new (Same.refl G) (h1.free hl)) _ l2)))
end
section
variable {P : Program} {w : World} {K : PySem.W.Frag} {mg : Str → Option Value} {base : Heap}
theorem sc_stretch_of : FnScope ["self", "shift"] ["self", "shift"] (defScope m_book_stretch_of) := ⟨rfl, rfl, rfl, by decide +kernel, rfl, by decide +kernel, by decide +kernel⟩
theorem ok_stretch_of (T : Txt K mg) {f : Addr} {fd : FuncData} (F : FunD K "stretch_of" "Book.stretch_of" (defArgs m_book_stretch_of) (defBody m_book_stretch_of) (defScope m_book_stretch_of) [] [] f fd) : FnOk P w K mg base (L2.CX P w) 1 f fd ["self", "shift"] (spR K fr_stretch_of) := by
  refine F.ok sc_stretch_of (fun vs H Q E h => ?_) (fun cdv A outer s H vs Q E hr h => ?_)
  · obtain ⟨G, R, a, β, us, ds, rfl, h1, h2, h3, h4, h5, q⟩ := h
    obtain ⟨n, rfl⟩ := s1_inv q
    rw [List.length_cons, h5.len]; rfl
  · obtain ⟨G, R, a, β, us, ds, rfl, h1, h2, h3, h4, h5, q⟩ := h
    have hu := hu_of hr
    obtain ⟨n, rfl⟩ := s1_inv q
    obtain ⟨dx, dS, dL, dR, dT, dN, pe, sh, b⟩ := h4
    obtain ⟨v, rfl, r⟩ := h5.one
    have := r.s
    subst this
    have T' := T.bk
    have ob := h2 _ _ b.ob
    have cT := h2 _ _ b.cT
    refine ⟨_, pss_cons (ps_if (pt_cmp (pc_dnotin hu (pv 1) (pe_fld (pv 0) rfl))) (pss_one (ps_raise rfl (takes_of rfl rfl rfl rfl) (pmk_own PySem.F.excBase_ValueError T.e_Missing.x T.e_Missing.g T.e_Missing.k (raises_own T.e_Missing.b T.e_Missing.t) rfl))) pss_nil)
      (pss_one (ps_ret (pe_dget hu (pe_fld (pv 0) rfl) (pv 1) (fun _ _ => rfl)))), ?_⟩
    refine ⟨_, rfl, _, rfl, a, _, dx, _, _, rfl, ob, T'.cl, T'.nT, lk_T, dT, _, rfl, DGet.k (k := Sum.inr n) cT, _, rfl, ?_⟩
    have q' : (mis (findS β n) fun s => stD (s.b, s.e)).goes _ _ := q
    cases hp : findS β n with
    | none =>
      rw [hp] at q'
      rw [(b.noShift hp).1]
      refine iteT ?_
      exact q' H G (Grow.refl h1)
    | some s =>
      rw [hp] at q'
      obtain ⟨x, hx, e1, e2, e3, e4⟩ := b.shift hp
      rw [e3]
      refine iteF ?_
      have hs := b.st x hx
      rw [e1] at hs
      exact ⟨_, rfl, a, _, dx, _, _, rfl, ob, T'.cl, T'.nT, lk_T, _, rfl, dT, _, rfl, by rw [← e3]; exact DGet.k (k := Sum.inr n) cT, q' _ H G (Grow.refl h1) (.inl hs)⟩
theorem F_meets_eq (a b c d : Int) : F_meets [stD (a, b), stD (c, d)] = some (.bool (meetsB (a, b) (c, d))) := by
  unfold F_meets
  rw [runF_eq]
  simp [b_meets, rho0, stD, meetsB]
  split <;> simp_all <;> omega
theorem sc_may : FnScope ["self", "name", "shift", "skill", "stretch", "rest"] ["self", "name", "shift", "skill"] (defScope m_book_may) := ⟨rfl, rfl, rfl, by decide +kernel, rfl, by decide +kernel, by decide +kernel⟩
theorem inV_strs (k : Str) (l : List Str) : inV (.str k) (l.map V.str) = decide (k ∈ l) := by
  unfold inV
  induction l with
  | nil => rfl
  | cons z l ih =>
    rw [List.map_cons, List.any_cons, ih]
    have : eqV (V.str z) (V.str k) = (z == k) := rfl
    rw [this]
    by_cases h : z = k
    · subst h
      simp
    · have h2 : ¬ k = z := fun e => h e.symm
      simp [h, h2]
theorem ok_may (T : Txt K mg) {f : Addr} {fd : FuncData} (F : FunD K "may" "Book.may" (defArgs m_book_may) (defBody m_book_may) (defScope m_book_may) [] [] f fd) : FnOk P w K mg base (L2.CX P w) 2 f fd ["self", "name", "shift", "skill"] (spR K fr_may) := by
  obtain ⟨fdR, FR⟩ := T.f_book_rests_of
  obtain ⟨fdT, FT⟩ := T.f_book_stretch_of
  have GR : FnOk P w K mg base (L2.CX P w) 1 _ fdR ["self", "name"] (spR K fr_rests_of) := ok_rests_of T FR
  have GT : FnOk P w K mg base (L2.CX P w) 1 _ fdT ["self", "shift"] (spR K fr_stretch_of) := ok_stretch_of T FT
  have bR : Binds K fdR ["self", "name"] [] := FR.bindsN fun _ _ _ _ _ _ us hl => match us, hl with | [_, _], _ => rfl
  have bT : Binds K fdT ["self", "shift"] [] := FT.bindsN fun _ _ _ _ _ _ us hl => match us, hl with | [_, _], _ => rfl
  obtain ⟨fm, fdm, psm, GM, gm, km, bm⟩ := (ok_meets (P := P) (w := w) (base := base) T).ex
  refine F.ok sc_may (fun vs H Q E h => ?_) (fun cdv A outer s H vs Q E hr h => ?_)
  · obtain ⟨G, R, a, β, us, ds, rfl, h1, h2, h3, h4, h5, q⟩ := h
    obtain ⟨n, k, l, rfl⟩ := s3_inv q
    rw [List.length_cons, h5.len]; rfl
  · obtain ⟨G, R, a, β, us, ds, rfl, h1, h2, h3, h4, h5, q⟩ := h
    have hu := hu_of hr
    obtain ⟨n, sn, k, rfl⟩ := s3_inv q
    obtain ⟨v1, v2, v3, rfl, r1, r2, r3⟩ := h5.three
    have := r1.s
    subst this
    have := r2.s
    subst this
    have := r3.s
    subst this
    have T' := T.bk
    have hm : bkNo "rests_of" := bkNo_of (by decide +kernel)
    have hm2 : bkNo "stretch_of" := bkNo_of (by decide +kernel)
    have B0 := h4
    obtain ⟨dx, dS, dL, dR, dT, dN, pe, sh, b⟩ := h4
    have ob := h2 _ _ b.ob
    have cS := h2 _ _ b.cS
    have tk : Takes (cxOf (L2.CX P w) P w K mg base ["self", "name", "shift", "skill", "stretch", "rest"] "Book.may" (defScope m_book_may) f cdv A outer s H E) (fun cls d _ H => E cls d H) := takes_of rfl rfl rfl rfl
    refine ⟨_, pss_cons (ps_set (i := 4) sc_may.nd rfl (Or.inl rfl) (pe_methW tk (pv 0) T.cl_book T.me_book_stretch_of GT hr (by decide) bT (pa_cons (pv 2) pa_nil)))
      (pss_cons (ps_for (passes_of rfl) rfl (pi_list (pe_methW tk (pv 0) T.cl_book T.me_book_rests_of GR hr (by decide) bR (pa_cons (pv 1) pa_nil))) (pg_name (i := 5) sc_may.nd rfl (Or.inl rfl))
        (pss_one (ps_if (pt_val (pe_call GM hr (by rfl) gm km bm .nil pass0 (pa_cons (pv 5) (pa_cons (pv 4) pa_nil)))) (pss_one (ps_ret pe_bl)) pss_nil)))
      (pss_one (ps_ret (pe_cmpR op_in_seq (pv 3) (pe_dget hu (pe_fld (pv 0) rfl) (pv 1) (fun _ _ => rfl)) (by rfl))))), ?_⟩
    refine ⟨_, rfl, a, dx, _, rfl, ob, hm2 _ _ _ _ _, _, rfl, ?_⟩
    refine ⟨G, R, a, β, _, [.str sn], rfl, h1, h2, h3, B0, .cons (.inl (.str sn)) .nil, ?_⟩
    show (mis (findS β sn) fun s => stD (s.b, s.e)).goes _ _
    have q2 : (match findS β sn with
      | none => .exc "Missing"
      | some sh => mis (findP β n) fun p => .bool (mayB p sh k) : Res).goes _ _ := q
    cases hS : findS β sn with
    | none =>
      rw [hS] at q2
      exact q2
    | some s0 =>
      rw [hS] at q2
      intro v4 H1 G1 g1 r4
      show gName 4 v4 _ H1 _
      refine ⟨_, rfl, a, dx, _, rfl, g1.h _ _ ob, hm _ _ _ _ _, _, rfl, ?_⟩
      refine ⟨G1, R, a, β, _, [.str n], rfl, g1.sub, h2.trans g1.h, g1.apart h2 h3, B0.mono g1.f (Same.refl R), .cons (.inl (.str n)) .nil, ?_⟩
      show (mis (findP β n) fun p => .list (p.rests.map stD)).goes _ _
      have q3 : (mis (findP β n) fun p => .bool (mayB p s0 k)).goes _ _ := q2
      cases hP : findP β n with
      | none =>
        rw [hP] at q3
        exact fun H' G' g => q3 H' G' (g1.trans g)
      | some p0 =>
        rw [hP] at q3
        have q4 : ∀ v H' G', Grow H G H' G' → Rp K G' v (.bool (mayB p0 s0 k)) → Q v H' := q3
        intro v H2 G2 g2 rv
        obtain ⟨p, vs, rfl, hp2, hA⟩ := Bp.list (G := G2) (H := H2) g2.sub (.inl rv)
        have g12 := g1.trans g2
        refine ⟨p, rfl, ⟨vs, SqL.of hp2⟩, for_list (K := K) (a := p) (xs := vs) (fun i σ H3 => ∃ (G3 : Hp) (o5 : Option V), σ = [some (.ref a), some (.str n), some (.str sn), some (.str k), some v4, o5] ∧ Grow H2 G2 H3 G3 ∧ (p0.rests.take i).any (fun r => meetsB r (s0.b, s0.e)) = false)
          ⟨G2, none, rfl, Grow.refl g2.sub, rfl⟩ (fun i σ H _ ⟨_, _, _, g, _⟩ => SqL.of (g.h _ _ hp2)) ?_ ?_⟩
        · rintro i x σ H3 hi ⟨G3, o5, rfl, g3, hj⟩
          obtain ⟨dd, hd, rx⟩ := hA.getV hi
          obtain ⟨r, hr, rfl⟩ : ∃ r, p0.rests[i]? = some r ∧ dd = stD r := by
            rw [List.getElem?_map] at hd
            cases e : p0.rests[i]? with
            | none => rw [e] at hd; cases hd
            | some r => rw [e] at hd; exact ⟨r, rfl, (Option.some.inj hd).symm⟩
          refine ⟨_, rfl, _, rfl, G3, [stD r, stD (s0.b, s0.e)], .bool (meetsB r (s0.b, s0.e)), g3.sub, .cons ((Rp.mono g3.f (.inl rx))) (.cons (r4.mono (g2.f.trans g3.f)) .nil), F_meets_eq _ _ _ _, fun v5 H4 G4 g4 r5 => ?_⟩
          refine ⟨_, r5.bl, ?_⟩
          cases hmm : meetsB r (s0.b, s0.e) with
          | true =>
            refine iteT ?_
            have e : mayB p0 s0 k = false := by
              have : (p0.rests.any fun r => meetsB r (s0.b, s0.e)) = true := List.any_eq_true.mpr ⟨r, List.mem_of_getElem? hr, hmm⟩
              simp [mayB, this]
            rw [e] at q4
            exact q4 _ H4 G4 ((g12.trans g3).trans g4) (rp_bool _)
          | false =>
            refine iteF ?_
            refine ⟨G4, _, rfl, g3.trans g4, ?_⟩
            rw [List.take_add_one, hr]
            simp [hj, hmm]
        · rintro σ H3 ⟨G3, o5, rfl, g3, hj⟩
          have hl : vs.length = p0.rests.length := by rw [hA.len, List.length_map]
          rw [hl, List.take_length] at hj
          obtain ⟨x, hx, e1, e2, e3, e4, e5⟩ := b.person hP
          have g13 := g12.trans g3
          have e : mayB p0 s0 k = decide (k ∈ p0.skills) := by simp [mayB, hj]
          rw [e] at q4
          refine ⟨_, rfl, _, rfl, a, _, dx, _, _, rfl, g13.h _ _ ob, T'.cl, T'.nS, lk_S, _, rfl, dS, _, rfl, by rw [← e3]; exact DGet.k (k := Sum.inr n) (g13.h _ _ cS), x.2.1, x.1.skills.map V.str, rfl, .inl (SqL.of (g13.h _ _ (h2 _ _ (b.ps x hx)))), rfl, by simp [flatV], ?_⟩
          have : inV (.str k) (x.1.skills.map V.str) = decide (k ∈ p0.skills) := by rw [inV_strs, e1]
          show Q (.bl (inV (.str k) (x.1.skills.map V.str))) H3
          rw [this]
          exact q4 _ H3 G3 g13 (rp_bool _)
end
end RK
namespace RK
open PySem PySem.Spec PyProof.Rows L2 RT
/-! ### methods that change the book -/
section
variable {P : Program} {w : World} {K : PySem.W.Frag} {mg : Str → Option Value} {base : Heap}
theorem putF_book (dS dL dR dT dN : Addr) : putF "needs" (.ref dN) (putF "stretches" (.ref dT) (putF "rests" (.ref dR) (putF "limits" (.ref dL) (putF "skills" (.ref dS) [])))) = bkFs dS dL dR dT dN := by
  have h : ∀ {a b : Str} {v : V}, (a == b) = false → ¬ a = b := fun h e => by rw [e] at h; simp at h
  have h1 : ¬ (("skills" : Str) = "limits") := by decide +kernel
  have h2 : ¬ (("skills" : Str) = "rests") := by decide +kernel
  have h3 : ¬ (("skills" : Str) = "stretches") := by decide +kernel
  have h4 : ¬ (("skills" : Str) = "needs") := by decide +kernel
  have h5 : ¬ (("limits" : Str) = "rests") := by decide +kernel
  have h6 : ¬ (("limits" : Str) = "stretches") := by decide +kernel
  have h7 : ¬ (("limits" : Str) = "needs") := by decide +kernel
  have h8 : ¬ (("rests" : Str) = "stretches") := by decide +kernel
  have h9 : ¬ (("rests" : Str) = "needs") := by decide +kernel
  have h10 : ¬ (("stretches" : Str) = "needs") := by decide +kernel
  simp [putF, bkFs, h1, h2, h3, h4, h5, h6, h7, h8, h9, h10]
theorem putF_lt {f : Str} {v : V} {n : Nat} : ∀ {fs : List (Str × V)}, fs.length < n → (putF f v fs).length < n + 1
  | [], h => by simp only [putF, List.length_cons, List.length_nil] at h ⊢; omega
  | (g, x) :: r, h => by
    simp only [putF]
    split
    · simp only [List.length_cons] at h ⊢; omega
    · have := putF_lt (f := f) (v := v) (n := n - 1) (fs := r) (by simp only [List.length_cons] at h; omega)
      simp only [List.length_cons] at h ⊢; omega
theorem sc_init : FnScope ["self"] ["self"] (defScope m_book_init) := ⟨rfl, rfl, rfl, by decide +kernel, rfl, by decide +kernel, by decide +kernel⟩
theorem ok_init (T : Txt K mg) {f : Addr} {fd : FuncData} (F : FunD K "__init__" "Book.__init__" (defArgs m_book_init) (defBody m_book_init) (defScope m_book_init) [] [] f fd) : FnOk P w K mg base CX0 1 f fd ["self"] (spInit K) := by
  refine F.ok sc_init (fun vs H Q E h => ?_) (fun cdv A outer s H vs Q E hr h => ?_)
  · obtain ⟨p, dx, rfl, _⟩ := h
    rfl
  · obtain ⟨p, dx, rfl, hp, hx, k⟩ := h
    have T' := T.bk
    refine ⟨_, pss_cons (ps_fld (pv 0) pe_dnewK rfl) (pss_cons (ps_fld (pv 0) pe_dnewK rfl) (pss_cons (ps_fld (pv 0) pe_dnewK rfl) (pss_cons (ps_fld (pv 0) pe_dnewK rfl) (pss_one (ps_fld (pv 0) pe_dnewK rfl))))), ?_⟩
    have npx : p ≠ dx := ne_of hp hx (by intro z; cases z)
    intro dS hS
    have nS : p ≠ dS := ne_of_none hp hS
    refine ⟨_, rfl, p, _, dx, [], rfl, by rw [upd_ne nS]; exact hp, T'.cl, T'.nS, by decide, ?_⟩
    intro dL hL
    have nL : p ≠ dL := ne_of_none (H := upd (upd H dS (.dK [])) p _) upd_same hL
    refine ⟨_, rfl, p, _, dx, _, rfl, by rw [upd_ne nL]; exact upd_same, T'.cl, T'.nL, Nat.lt_of_lt_of_le (putF_lt (n := 1) (by decide)) (by decide), ?_⟩
    intro dR hR
    have nR : p ≠ dR := ne_of_none (H := upd (upd (upd (upd H dS (.dK [])) p _) dL (.dK [])) p _) upd_same hR
    refine ⟨_, rfl, p, _, dx, _, rfl, by rw [upd_ne nR]; exact upd_same, T'.cl, T'.nR, Nat.lt_of_lt_of_le (putF_lt (n := 2) (putF_lt (n := 1) (by decide))) (by decide), ?_⟩
    intro dT hT
    have nT : p ≠ dT := ne_of_none (H := upd (upd (upd (upd (upd (upd H dS (.dK [])) p _) dL (.dK [])) p _) dR (.dK [])) p _) upd_same hT
    refine ⟨_, rfl, p, _, dx, _, rfl, by rw [upd_ne nT]; exact upd_same, T'.cl, T'.nT, Nat.lt_of_lt_of_le (putF_lt (n := 3) (putF_lt (n := 2) (putF_lt (n := 1) (by decide)))) (by decide), ?_⟩
    intro dN hN
    have nN : p ≠ dN := ne_of_none (H := upd (upd (upd (upd (upd (upd (upd (upd H dS (.dK [])) p _) dL (.dK [])) p _) dR (.dK [])) p _) dT (.dK [])) p _) upd_same hN
    refine ⟨_, rfl, p, _, dx, _, rfl, by rw [upd_ne nN]; exact upd_same, T'.cl, T'.nN, Nat.lt_of_lt_of_le (putF_lt (n := 4) (putF_lt (n := 3) (putF_lt (n := 2) (putF_lt (n := 1) (by decide))))) (by decide), ?_⟩
    have a1 : H dL = none ∧ dL ≠ dS := by
      rw [upd_ne (Ne.symm nL)] at hL
      by_cases e : dL = dS
      · rw [e, upd_same] at hL; cases hL
      · rw [upd_ne e] at hL; exact ⟨hL, e⟩
    have a2 : H dR = none ∧ dR ≠ dS ∧ dR ≠ dL := by
      rw [upd_ne (Ne.symm nR)] at hR
      by_cases e : dR = dL
      · rw [e, upd_same] at hR; cases hR
      · rw [upd_ne e, upd_ne (Ne.symm nR)] at hR
        by_cases e2 : dR = dS
        · rw [e2, upd_same] at hR; cases hR
        · rw [upd_ne e2] at hR; exact ⟨hR, e2, e⟩
    have a3 : H dT = none ∧ dT ≠ dS ∧ dT ≠ dL ∧ dT ≠ dR := by
      rw [upd_ne (Ne.symm nT)] at hT
      by_cases e : dT = dR
      · rw [e, upd_same] at hT; cases hT
      · rw [upd_ne e, upd_ne (Ne.symm nT)] at hT
        by_cases e2 : dT = dL
        · rw [e2, upd_same] at hT; cases hT
        · rw [upd_ne e2, upd_ne (Ne.symm nT)] at hT
          by_cases e3 : dT = dS
          · rw [e3, upd_same] at hT; cases hT
          · rw [upd_ne e3] at hT; exact ⟨hT, e3, e2, e⟩
    have a4 : H dN = none ∧ dN ≠ dS ∧ dN ≠ dL ∧ dN ≠ dR ∧ dN ≠ dT := by
      rw [upd_ne (Ne.symm nN)] at hN
      by_cases e : dN = dT
      · rw [e, upd_same] at hN; cases hN
      · rw [upd_ne e, upd_ne (Ne.symm nN)] at hN
        by_cases e2 : dN = dR
        · rw [e2, upd_same] at hN; cases hN
        · rw [upd_ne e2, upd_ne (Ne.symm nN)] at hN
          by_cases e3 : dN = dL
          · rw [e3, upd_same] at hN; cases hN
          · rw [upd_ne e3, upd_ne (Ne.symm nN)] at hN
            by_cases e4 : dN = dS
            · rw [e4, upd_same] at hN; cases hN
            · rw [upd_ne e4] at hN; exact ⟨hN, e4, e3, e2, e⟩
    obtain ⟨hL0, b1⟩ := a1
    obtain ⟨hR0, b2, b3⟩ := a2
    obtain ⟨hT0, b4, b5, b6⟩ := a3
    obtain ⟨hN0, b7, b8, b9, b10⟩ := a4
    have cS : dx ≠ dS := ne_of_none hx hS
    have cL : dx ≠ dL := ne_of_none hx hL0
    have cR : dx ≠ dR := ne_of_none hx hR0
    have cT : dx ≠ dT := ne_of_none hx hT0
    have cN : dx ≠ dN := ne_of_none hx hN0
    rw [putF_book]
    refine k _ (upd (upd (upd (upd (upd (upd (upd (fun _ => none) dx (.own p)) dS (.dK [])) dL (.dK [])) dR (.dK [])) dT (.dK [])) dN (.dK [])) p (.ins (He.ga K "Book") dx (bkFs dS dL dR dT dN))) (fun b o hb e => ?_) (fun b o e => ?_) (fun b e => ?_) (fun F => ?_)
    · have h1 := ne_of_none e hS
      have h2 := ne_of_none e hL0
      have h3 := ne_of_none e hR0
      have h4 := ne_of_none e hT0
      have h5 := ne_of_none e hN0
      simp only [upd, hb, h1, h2, h3, h4, h5, if_false]
      exact e
    · unfold upd at e ⊢
      by_cases q0 : b = p
      · rw [if_pos q0] at e ⊢; exact e
      · rw [if_neg q0] at e ⊢
        by_cases q5 : b = dN
        · rw [if_pos q5] at e ⊢; exact e
        · rw [if_neg q5] at e ⊢
          rw [if_neg q0]
          by_cases q4 : b = dT
          · rw [if_pos q4] at e ⊢; exact e
          · rw [if_neg q4] at e ⊢
            rw [if_neg q0]
            by_cases q3 : b = dR
            · rw [if_pos q3] at e ⊢; exact e
            · rw [if_neg q3] at e ⊢
              rw [if_neg q0]
              by_cases q2 : b = dL
              · rw [if_pos q2] at e ⊢; exact e
              · rw [if_neg q2] at e ⊢
                rw [if_neg q0]
                by_cases q1 : b = dS
                · rw [if_pos q1] at e ⊢; exact e
                · rw [if_neg q1] at e ⊢
                  by_cases q6 : b = dx
                  · rw [if_pos q6] at e
                    rw [q6, hx]
                    exact e
                  · rw [if_neg q6] at e; cases e
    · unfold upd at e
      by_cases q0 : b = p
      · exact .inl q0
      · by_cases q6 : b = dx
        · exact .inr (.inl q6)
        · refine .inr (.inr ?_)
          by_cases q5 : b = dN
          · rw [q5]; exact hN0
          · by_cases q4 : b = dT
            · rw [q4]; exact hT0
            · by_cases q3 : b = dR
              · rw [q3]; exact hR0
              · by_cases q2 : b = dL
                · rw [q2]; exact hL0
                · by_cases q1 : b = dS
                  · rw [q1]; exact hS
                  · exact absurd (by rw [if_neg q0, if_neg q5, if_neg q4, if_neg q3, if_neg q2, if_neg q1, if_neg q6]) e
    · refine ⟨dx, dS, dL, dR, dT, dN, [], [], { pn := rfl, sn := rfl, ob := upd_same, ow := ?_, cS := ?_, cL := ?_, cR := ?_, cT := ?_, cN := ?_, nd := ?_, ps := fun _ h => absurd h List.not_mem_nil, pr := fun _ h => absurd h List.not_mem_nil, st := fun _ h => absurd h List.not_mem_nil, sc := fun _ h => absurd h List.not_mem_nil, rn := List.nodup_nil, rs := fun _ h => absurd h List.not_mem_nil, nn := fun _ h => absurd h List.not_mem_nil, un := List.nodup_nil, us := List.nodup_nil, sz := ⟨by decide, by decide, fun _ h => absurd h List.not_mem_nil, fun _ h => absurd h List.not_mem_nil⟩ }⟩
      · simp [upd, Ne.symm npx, cS, cL, cR, cT, cN]
      · simp [upd, Ne.symm nS, Ne.symm b1, Ne.symm b2, Ne.symm b4, Ne.symm b7, kvS]
      · simp [upd, Ne.symm nL, Ne.symm b3, Ne.symm b5, Ne.symm b8, kvL]
      · simp [upd, Ne.symm nR, Ne.symm b6, Ne.symm b9, kvR]
      · simp [upd, Ne.symm nT, Ne.symm b10, kvT]
      · simp [upd, Ne.symm nN, kvN]
      · simp [Ne.symm b1, Ne.symm b2, Ne.symm b4, Ne.symm b7, Ne.symm b3, Ne.symm b5, Ne.symm b8, Ne.symm b6, Ne.symm b9, Ne.symm b10]
end
end RK
namespace RK
open PySem PySem.Spec PyProof.Rows L2 RT
section
variable {P : Program} {w : World} {K : PySem.W.Frag} {mg : Str → Option Value} {base : Heap}
/-- whether a value is a stretch; which -/
def isSt (d : PyData) : Option (Option (Int × Int)) := match F_is_stretch [d] with
  | some (.bool false) => some none
  | some (.bool true) => (match d with
    | .tuple [.int x, .int y] => some (some (x, y))
    | _ => none)
  | _ => none
theorem isSt_none {d : PyData} (h : isSt d = some none) : F_is_stretch [d] = some (.bool false) := by
  unfold isSt at h
  split at h
  · assumption
  · split at h <;> cases h
  · cases h
theorem isSt_some {d : PyData} {r : Int × Int} (h : isSt d = some (some r)) : F_is_stretch [d] = some (.bool true) ∧ d = stD r := by
  unfold isSt at h
  split at h
  · cases h
  · split at h
    · cases h
      exact ⟨by assumption, rfl⟩
    · cases h
  · cases h
def ms (g : Str → PyData → RM) : List PyData → RM
  | [.str n, d] => g n d
  | _ => .no
theorem ms_inv {g : Str → PyData → RM} {ds : List PyData} {A : BookSt → PyData → Prop} {B : Str → Prop} (q : (ms g ds).goes A B) : ∃ n d, ds = [.str n, d] := by
  unfold ms at q
  split at q
  · exact ⟨_, _, rfl⟩
  · exact (show False from q).elim
def addRest (β : BookSt) (n : Str) (d : PyData) : RM := match findP β n with
  | none => .exc "Missing"
  | some p => match isSt d with
    | none => .no
    | some none => .exc "BadStretch"
    | some (some r) => if p.rests.length < 1000 then .done (restB β n r) .none else .no
def fm_add_rest (β : BookSt) : List PyData → RM := ms (addRest β)
theorem sc_add_rest : FnScope ["self", "name", "stretch"] ["self", "name", "stretch"] (defScope m_book_add_rest) := ⟨rfl, rfl, rfl, by decide +kernel, rfl, by decide +kernel, by decide +kernel⟩
theorem ok_add_rest (T : Txt K mg) {f : Addr} {fd : FuncData} (F : FunD K "add_rest" "Book.add_rest" (defArgs m_book_add_rest) (defBody m_book_add_rest) (defScope m_book_add_rest) [] [] f fd) : FnOk P w K mg base (L2.CX P w) 3 f fd ["self", "name", "stretch"] (spM K fm_add_rest) := by
  obtain ⟨fm, fdm, psm, GM, gm, km, bm⟩ := (ok_is_stretch (P := P) (w := w) (base := base) T).ex
  refine F.ok sc_add_rest (fun vs H Q E h => ?_) (fun cdv A outer s H vs Q E hr h => ?_)
  · obtain ⟨G, R, a, β, us, ds, rfl, h1, h2, h3, h4, h5, q⟩ := h
    obtain ⟨n, d, rfl⟩ := ms_inv q
    rw [List.length_cons, h5.len]; rfl
  · obtain ⟨G, R, a, β, us, ds, rfl, h1, h2, h3, h4, h5, q⟩ := h
    have hu := hu_of hr
    obtain ⟨n, d, rfl⟩ := ms_inv q
    obtain ⟨v1, v2, rfl, r1, r2⟩ := h5.two
    have := r1.s
    subst this
    have T' := T.bk
    obtain ⟨dx, dS, dL, dR, dT, dN, pe, sh, b⟩ := h4
    have ob := h2 _ _ b.ob
    have cR := h2 _ _ b.cR
    refine ⟨_, pss_cons (ps_if (pt_cmp (pc_dnotin hu (pv 1) (pe_fld (pv 0) rfl))) (pss_one (ps_raise rfl (takes_of rfl rfl rfl rfl) (pmk_own PySem.F.excBase_ValueError T.e_Missing.x T.e_Missing.g T.e_Missing.k (raises_own T.e_Missing.b T.e_Missing.t) rfl))) pss_nil)
      (pss_cons (ps_if (pt_not (pt_val (pe_call GM hr (by rfl) gm km bm .nil pass0 (pa_cons (pv 2) pa_nil)))) (pss_one (ps_raise rfl (takes_of rfl rfl rfl rfl) (pmk_own PySem.F.excBase_ValueError T.e_BadStretch.x T.e_BadStretch.g T.e_BadStretch.k (raises_own T.e_BadStretch.b T.e_BadStretch.t) rfl))) pss_nil)
      (pss_one (ps_expr (pe_bm PySem.F.plainAttrs_list PySem.F.slot_list_append PySem.F.type_list_append mt_append (pe_dget hu (pe_fld (pv 0) rfl) (pv 1) (fun _ _ => rfl)) (pa_cons (pv 2) pa_nil))))), ?_⟩
    refine ⟨_, rfl, _, rfl, a, _, dx, _, _, rfl, ob, T'.cl, T'.nR, lk_R, dR, _, rfl, DGet.k (k := Sum.inr n) cR, _, rfl, ?_⟩
    have q1 : (addRest β n d).goes _ _ := q
    unfold addRest at q1
    cases hp : findP β n with
    | none =>
      rw [hp] at q1
      rw [(b.noPerson hp).2.2]
      refine iteT ?_
      exact q1 H G (Grow.refl h1)
    | some p =>
      rw [hp] at q1
      obtain ⟨x, hx, e1, e2, e3, e4, e5⟩ := b.person hp
      rw [e5]
      refine iteF ?_
      obtain ⟨vs, l1, l2⟩ := b.pr x hx
      cases hs : isSt d with
      | none => simp only [hs] at q1; exact (show False from q1).elim
      | some o =>
        cases o with
        | none =>
          simp only [hs] at q1
          refine ⟨_, rfl, G, [d], .bool false, h1, .cons r2 .nil, isSt_none hs, fun v5 H4 G4 g4 r5 => ?_⟩
          refine ⟨_, r5.bl, ?_⟩
          exact q1 H4 G4 g4
        | some r =>
          simp only [hs] at q1
          by_cases hlen : p.rests.length < 1000
          · rw [if_pos hlen] at q1
            obtain ⟨i1, rfl⟩ := isSt_some hs
            refine ⟨_, rfl, G, [stD r], .bool true, h1, .cons r2 .nil, i1, fun v5 H4 G4 g4 r5 => ?_⟩
            refine ⟨_, r5.bl, ?_⟩
            have hx2 := g4.h _ _ (h2 _ _ l1)
            refine ⟨_, rfl, a, _, dx, _, _, rfl, g4.h _ _ ob, T'.cl, T'.nR, lk_R, _, rfl, dR, .ref x.2.2, rfl, by rw [← e5]; exact DGet.k (k := Sum.inr n) (g4.h _ _ cR), ?_⟩
            refine ⟨.inl ⟨rfl, vs, SqL.of hx2⟩, ?_⟩
            refine ⟨_, rfl, x.2.2, vs, v2, rfl, rfl, hx2, ?_, ?_⟩
            · have : vs.length = x.1.rests.length := by rw [l2.len, List.length_map]
              rw [this, e1]
              exact Nat.lt_of_lt_of_le hlen (by decide)
            · have hv : Dq K G4 v2 (stD r) := (r2.mono g4.f).dp
              have nG : G4 x.2.2 = none := g4.apart h2 h3 _ (by rw [l1]; intro z; cases z)
              have B := b.rest (n := n) (r := r) (v := v2) hx e2 l1 l2 g4.f hv (by rw [e1]; exact hlen)
              refine q1 .non _ G4 (upd R x.2.2 (.lst (vs ++ [v2]))) ⟨fun y o hy hz => ?_, fun y hy => ?_, g4.f, fun y o hy => ?_, g4.no⟩ (fun y o hy => ?_) (fun y hy => ?_) (fun y hy => ?_) ⟨dx, dS, dL, dR, dT, dN, _, sh, B⟩ rp_non
              · rw [upd_ne (fun z => by rw [z] at hy; have hy' : R x.2.2 = none := hy; rw [l1] at hy'; cases hy')]
                exact g4.h y o hz
              · by_cases z : y = x.2.2
                · rw [z, upd_same]; intro q; cases q
                · rw [upd_ne z]; intro q; exact hy (g4.h.free q)
              · rw [upd_ne (ne_of_none hy nG)]
                exact g4.sub y o hy
              · by_cases z : y = x.2.2
                · rw [z, upd_same] at hy ⊢; exact hy
                · rw [upd_ne z] at hy ⊢; exact g4.h y o (h2 y o hy)
              · by_cases z : y = x.2.2
                · rw [z]; exact nG
                · rw [upd_ne z] at hy; exact g4.apart h2 h3 y hy
              · by_cases z : y = x.2.2
                · rw [z, l1]; exact .inl (by intro q; cases q)
                · rw [upd_ne z] at hy; exact .inl hy
          · rw [if_neg hlen] at q1; exact (show False from q1).elim
end
end RK
namespace RK
open PySem PySem.Spec PyProof.Rows L2 RT
section
variable {P : Program} {w : World} {K : PySem.W.Frag} {mg : Str → Option Value} {base : Heap}
def nameB (k : Str) : Option Bool := match F_is_name [.str k] with
  | some (.bool b) => some b
  | _ => none
theorem nameB_ok {k : Str} {b : Bool} (h : nameB k = some b) : F_is_name [.str k] = some (.bool b) := by
  unfold nameB at h
  split at h
  · cases h; assumption
  · cases h
/-- what the walk along skills ends with: an error's class, or none -/
def skErr : List Str → List Str → Option (Option Str)
  | _, [] => some none
  | seen, k :: l => match nameB k with
    | none => none
    | some false => some (some "BadName")
    | some true => if k ∈ seen then some (some "Twice") else skErr (seen ++ [k]) l
/-- a whole number within bounds -/
def numOk (m : Int) (d : PyData) : Option (Option Int) := match F_is_whole [d] with
  | some (.bool false) => some none
  | some (.bool true) => (match d with
    | .int i => some (if 1 ≤ i ∧ i ≤ m then some i else none)
    | _ => none)
  | _ => none
def addPerson (β : BookSt) (n : Str) (sk : List PyData) (d : PyData) : RM := match nameB n with
  | none => .no
  | some false => .exc "BadName"
  | some true => match gJoin.strsD sk with
    | none => .no
    | some l => if l.length ≤ 1000 ∧ β.people.length < 1000 then (match skErr [] l with
      | none => .no
      | some (some c) => .exc c
      | some none => match numOk 31 d with
        | none => .no
        | some none => .exc "BadCount"
        | some (some i) => match findP β n with
          | some _ => .exc "Twice"
          | none => .done ⟨β.people ++ [⟨n, l, i, []⟩], β.shifts⟩ .none) else .no
def fm_add_person (β : BookSt) : List PyData → RM
  | [.str n, .list sk, d] => addPerson β n sk d
  | _ => .no
theorem fm_add_person_inv {β : BookSt} {ds : List PyData} {A : BookSt → PyData → Prop} {B : Str → Prop} (q : (fm_add_person β ds).goes A B) : ∃ n sk d, ds = [.str n, .list sk, d] := by
  unfold fm_add_person at q
  split at q
  · exact ⟨_, _, _, rfl⟩
  · exact (show False from q).elim
def kvSeen (l : List Str) : List (Key × V) := l.map fun k => (Sum.inr k, V.bl true)
theorem kvSeen_val (k : Str) (l : List Str) : (valV (kvSeen l) (Sum.inr k)).isSome = decide (k ∈ l) := by
  unfold kvSeen
  rw [valV_map (fun x : Str => x) (fun _ => V.bl true)]
  induction l with
  | nil => rfl
  | cons z l ih =>
    rw [List.find?_cons]
    by_cases h : z = k
    · simp [h]
    · have h2 : ¬ k = z := fun e => h e.symm
      rw [decide_eq_false h]
      simp only [ih, List.mem_cons, h2, false_or]
theorem sc_add_person : FnScope ["self", "name", "skills", "limit", "seen", "skill"] ["self", "name", "skills", "limit"] (defScope m_book_add_person) := ⟨rfl, rfl, rfl, by decide +kernel, rfl, by decide +kernel, by decide +kernel⟩
theorem ok_add_person (T : Txt K mg) {f : Addr} {fd : FuncData} (F : FunD K "add_person" "Book.add_person" (defArgs m_book_add_person) (defBody m_book_add_person) (defScope m_book_add_person) [] [] f fd) : FnOk P w K mg base (L2.CX P w) 2 f fd ["self", "name", "skills", "limit"] (spM K fm_add_person) := by
  obtain ⟨fm, fdm, psm, GM, gm, km, bm⟩ := (ok_is_name (P := P) (w := w) (base := base) T).ex
  obtain ⟨fw, fdw, psw, GW, gw, kw, bw⟩ := (ok_is_whole (P := P) (w := w) (base := base) T).ex
  refine F.ok sc_add_person (fun vs H Q E h => ?_) (fun cdv A outer s H vs Q E hr h => ?_)
  · obtain ⟨G, R, a, β, us, ds, rfl, h1, h2, h3, h4, h5, q⟩ := h
    obtain ⟨n, sk, d, rfl⟩ := fm_add_person_inv q
    rw [List.length_cons, h5.len]; rfl
  · obtain ⟨G, R, a, β, us, ds, rfl, h1, h2, h3, h4, h5, q⟩ := h
    have hu := hu_of hr
    obtain ⟨n, sk, d, rfl⟩ := fm_add_person_inv q
    obtain ⟨v1, v2, v3, rfl, r1, r2, r3⟩ := h5.three
    have := r1.s
    subst this
    have T' := T.bk
    obtain ⟨dx, dS, dL, dR, dT, dN, pe, sh, b⟩ := h4
    have ob := h2 _ _ b.ob
    have cS := h2 _ _ b.cS
    have cL := h2 _ _ b.cL
    have cR := h2 _ _ b.cR
    have q1 : (addPerson β n sk d).goes _ _ := q
    unfold addPerson at q1
    refine ⟨_, pss_cons (ps_if (pt_not (pt_val (pe_call GM hr (by rfl) gm km bm .nil pass0 (pa_cons (pv 1) pa_nil)))) (pss_one (ps_raise rfl (takes_of rfl rfl rfl rfl) (pmk_own PySem.F.excBase_ValueError T.e_BadName.x T.e_BadName.g T.e_BadName.k (raises_own T.e_BadName.b T.e_BadName.t) rfl))) pss_nil)
      (pss_cons (ps_set (i := 4) sc_add_person.nd rfl (Or.inl rfl) pe_dnewK)
      (pss_cons (ps_for (passes_of rfl) rfl (pi_list (pv 2)) (pg_name (i := 5) sc_add_person.nd rfl (Or.inl rfl))
        (pss_cons (ps_if (pt_not (pt_val (pe_call GM hr (by rfl) gm km bm .nil pass0 (pa_cons (pv 5) pa_nil)))) (pss_one (ps_raise rfl (takes_of rfl rfl rfl rfl) (pmk_own PySem.F.excBase_ValueError T.e_BadName.x T.e_BadName.g T.e_BadName.k (raises_own T.e_BadName.b T.e_BadName.t) rfl))) pss_nil)
        (pss_cons (ps_if (pt_cmp (pc_din hu (pv 5) (pv 4))) (pss_one (ps_raise rfl (takes_of rfl rfl rfl rfl) (pmk_own PySem.F.excBase_ValueError T.e_Twice.x T.e_Twice.g T.e_Twice.k (raises_own T.e_Twice.b T.e_Twice.t) rfl))) pss_nil)
        (pss_one (ps_dput hu (pv 4) (pv 5) pe_bl rfl)))))
      (pss_cons (ps_if (pw_or (pt_not (pt_val (pe_call GW hr (by rfl) gw kw bw .nil pass0 (pa_cons (pv 3) pa_nil)))) (pw_or1 (pt_not (pt_chain op_le op_le pe_int (pv 3) (x_pe (K := K) (se_globI T.c_MOST_DAYS)))))).pt (pss_one (ps_raise rfl (takes_of rfl rfl rfl rfl) (pmk_own PySem.F.excBase_ValueError T.e_BadCount.x T.e_BadCount.g T.e_BadCount.k (raises_own T.e_BadCount.b T.e_BadCount.t) rfl))) pss_nil)
      (pss_cons (ps_if (pt_cmp (pc_din hu (pv 1) (pe_fld (pv 0) rfl))) (pss_one (ps_raise rfl (takes_of rfl rfl rfl rfl) (pmk_own PySem.F.excBase_ValueError T.e_Twice.x T.e_Twice.g T.e_Twice.k (raises_own T.e_Twice.b T.e_Twice.t) rfl))) pss_nil)
      (pss_cons (ps_dput hu (pe_fld (pv 0) rfl) (pv 1) (pe_callTy call_list_of (by rfl) T.z_list (by decide +kernel) (pa_cons (pv 2) pa_nil) (by decide) (by decide)) rfl)
      (pss_cons (ps_dput hu (pe_fld (pv 0) rfl) (pv 1) (pv 3) rfl)
      (pss_one (ps_dput hu (pe_fld (pv 0) rfl) (pv 1) (pe_lst pa_nil) rfl)))))))), ?_⟩
    -- the name
    cases hn : nameB n with
    | none => rw [hn] at q1; exact (show False from q1).elim
    | some bn =>
    rw [hn] at q1
    refine ⟨_, rfl, G, [.str n], .bool bn, h1, .cons (.inl (.str n)) .nil, nameB_ok hn, fun v5 H1 G1 g1 r5 => ?_⟩
    refine ⟨_, r5.bl, ?_⟩
    cases bn with
    | false => exact q1 H1 G1 g1
    | true =>
    refine iteF ?_
    -- seen
    intro dsn hdsn
    cases hl : gJoin.strsD sk with
    | none => simp only [hl] at q1; exact (show False from q1).elim
    | some l =>
    simp only [hl] at q1
    have esk := strsD_ok hl
    subst esk
    by_cases hz' : ¬ (l.length ≤ 1000 ∧ β.people.length < 1000)
    · rw [if_neg hz'] at q1; exact (show False from q1).elim
    have hz := Decidable.not_not.mp hz'
    rw [if_pos hz] at q1
    obtain ⟨p2, ws, rfl, hp2, hA⟩ := Bp.list (G := G) (H := H) h1 (.inl r2)
    have := strs_dpa l hA
    subst this
    have gd : Grow H G (upd H1 dsn (.dK [])) G1 := g1.beside hdsn
    have nG : G1 dsn = none := g1.sub.free hdsn
    have nH : H dsn = none := g1.h.free hdsn
    refine ⟨_, rfl, p2, rfl, ⟨_, SqL.of (gd.h _ _ hp2)⟩, for_list (K := K) (a := p2) (xs := l.map V.str) (fun i σ H3 => ∃ (G3 : Hp) (o5 : Option V), σ = [some (.ref a), some (.str n), some (.ref p2), some v3, some (.ref dsn), o5] ∧ Grow H G H3 G3 ∧ G3 dsn = none ∧ H3 dsn = some (.dK (kvSeen (l.take i))) ∧ skErr [] l = skErr (l.take i) (l.drop i))
      ⟨G1, none, rfl, gd, nG, upd_same, rfl⟩ (fun i σ H _ ⟨_, _, _, g, _⟩ => SqL.of (g.h _ _ hp2)) ?_ ?_⟩
    · rintro i x σ H3 hi ⟨G3, o5, rfl, g3, nG3, hds, hsk⟩
      rw [List.getElem?_map] at hi
      cases hli : l[i]? with
      | none => rw [hli] at hi; cases hi
      | some k =>
      rw [hli] at hi
      cases hi
      rw [drop_cons_of hli] at hsk
      cases hnk : nameB k with
      | none =>
        rw [hsk] at q1
        simp only [skErr, hnk] at q1
        exact (show False from q1).elim
      | some bk =>
      refine ⟨_, rfl, G3, [.str k], .bool bk, g3.sub, .cons (.inl (.str k)) .nil, nameB_ok hnk, fun v6 H4 G4 g4 r6 => ?_⟩
      refine ⟨_, r6.bl, ?_⟩
      cases bk with
      | false =>
        rw [hsk] at q1
        simp only [skErr, hnk] at q1
        exact q1 H4 G4 (g3.trans g4)
      | true =>
      refine iteF ?_
      have hds4 := g4.h _ _ hds
      refine ⟨_, rfl, _, rfl, dsn, _, rfl, DGet.k (k := Sum.inr k) hds4, _, rfl, ?_⟩
      rw [kvSeen_val]
      by_cases hm : k ∈ l.take i
      · rw [decide_eq_true hm]
        refine iteT ?_
        rw [hsk] at q1
        simp only [skErr, hnk, if_pos hm] at q1
        exact q1 H4 G4 (g3.trans g4)
      · rw [decide_eq_false hm]
        refine iteF ?_
        have hv : valV (kvSeen (l.take i)) (Sum.inr k) = none := by
          have := kvSeen_val k (l.take i)
          rw [decide_eq_false hm] at this
          cases e : valV (kvSeen (l.take i)) (Sum.inr k) with
          | none => rfl
          | some u => rw [e] at this; cases this
        have hlen : (kvSeen (l.take i)).length < sizeLine := by
          have : (kvSeen (l.take i)).length ≤ l.length := by unfold kvSeen; rw [List.length_map, List.length_take]; omega
          exact Nat.lt_of_le_of_lt (Nat.le_trans this hz.1) (by decide)
        refine ⟨_, rfl, _, rfl, dsn, _, rfl, DPut.k (k := Sum.inr k) hds4 hlen, ?_⟩
        have nG4 : G4 dsn = none := g4.no _ nG3 (by rw [hds]; intro z; cases z)
        have g34 := g3.trans g4
        refine ⟨G4, _, rfl, ⟨fun y o e => ?_, g34.f, fun y o e => ?_, g34.no⟩, nG4, ?_, ?_⟩
        · rw [upd_ne (ne_of_none e nH)]; exact g34.h y o e
        · rw [upd_ne (ne_of_none e nG4)]; exact g34.sub y o e
        · rw [upd_same, putK_new _ hv, List.take_add_one, hli]
          simp [kvSeen]
        · rw [hsk]
          simp only [skErr, hnk, if_neg hm]
          rw [List.take_add_one, hli]
          rfl
    · rintro σ H3 ⟨G3, o5, rfl, g3, nG3, hds, hsk⟩
      rw [List.length_map, List.take_length, List.drop_length] at hsk
      rw [hsk] at q1
      simp only [skErr] at q1
      -- the limit
      cases hw : numOk 31 d with
      | none => simp only [hw] at q1; exact (show False from q1).elim
      | some o =>
      have hW : ∃ bw : Bool, F_is_whole [d] = some (.bool bw) ∧ (bw = false → o = none) ∧ (bw = true → ∃ i, d = .int i ∧ o = if 1 ≤ i ∧ i ≤ 31 then some i else none) := by
        unfold numOk at hw
        split at hw
        · exact ⟨false, by assumption, fun _ => (Option.some.inj hw).symm, fun z => Bool.noConfusion z⟩
        · split at hw
          · rename_i i hh
            exact ⟨true, by assumption, fun z => Bool.noConfusion z, fun _ => ⟨i, rfl, (Option.some.inj hw).symm⟩⟩
          · cases hw
        · cases hw
      obtain ⟨bw', hW1, hW2, hW3⟩ := hW
      refine ⟨_, rfl, G3, [d], .bool bw', g3.sub, .cons (r3.mono g3.f) .nil, hW1, fun v7 H4 G4 g4 r7 => ?_⟩
      refine ⟨_, r7.bl, ?_⟩
      have g34 := g3.trans g4
      cases bw' with
      | false =>
        rw [hW2 rfl] at hw
        simp only [hw] at q1
        refine iteT ?_
        exact q1 H4 G4 g34
      | true =>
      obtain ⟨i, rfl, ho⟩ := hW3 rfl
      refine iteF ?_
      have e3 := Bp.int (H := H) (.inl r3)
      subst e3
      refine ⟨_, rfl, _, _, rfl, rfl, _, rfl, ?_⟩
      by_cases b1 : 1 ≤ i
      case neg =>
        rw [decide_eq_false b1]
        refine iteF ?_
        refine ⟨_, rfl, ?_⟩
        have : o = none := by rw [ho, if_neg (fun z => b1 z.1)]
        rw [this] at hw
        simp only [hw] at q1
        exact q1 H4 G4 g34
      rw [decide_eq_true b1]
      refine iteT ?_
      refine ⟨_, _, rfl, rfl, _, rfl, ?_⟩
      by_cases b2 : i ≤ 31
      case neg =>
        rw [decide_eq_false b2]
        refine iteT ?_
        have : o = none := by rw [ho, if_neg (fun z => b2 z.2)]
        rw [this] at hw
        simp only [hw] at q1
        exact q1 H4 G4 g34
      rw [decide_eq_true b2]
      refine iteF ?_
      have eo : o = some i := by rw [ho, if_pos ⟨b1, b2⟩]
      rw [eo] at hw
      simp only [hw] at q1
      have ob4 := g34.h _ _ ob
      have cS4 := g34.h _ _ cS
      have cL4 := g34.h _ _ cL
      have cR4 := g34.h _ _ cR
      refine ⟨_, rfl, _, rfl, a, _, dx, _, _, rfl, ob4, T'.cl, T'.nS, lk_S, dS, _, rfl, DGet.k (k := Sum.inr n) cS4, _, rfl, ?_⟩
      cases hp : findP β n with
      | some p =>
        rw [hp] at q1
        obtain ⟨x, hx, e1, e2, e3, e4, e5⟩ := b.person hp
        rw [e3]
        refine iteT ?_
        exact q1 H4 G4 g34
      | none =>
      rw [hp] at q1
      obtain ⟨vS, vL, vR⟩ := b.noPerson hp
      rw [vS]
      refine iteF ?_
      have lpe : pe.length < 1000 := by
        have := congrArg List.length b.pn
        rw [List.length_map] at this
        omega
      have nd := b.nd
      simp only [List.nodup_cons, List.mem_cons, List.not_mem_nil, or_false, not_or] at nd
      obtain ⟨⟨n1, n2, n3, n4⟩, ⟨n5, n6, n7⟩, ⟨n8, n9⟩, n10, _⟩ := nd
      refine ⟨_, rfl, p2, l.map V.str, rfl, .inl (SqL.of (g34.h _ _ hp2)), fun pS hpS => ?_⟩
      have aS := ne_of_none ob4 hpS
      have dSS := ne_of_none cS4 hpS
      have dLS := ne_of_none cL4 hpS
      have dRS := ne_of_none cR4 hpS
      refine ⟨_, rfl, a, _, dx, _, _, rfl, by rw [upd_ne aS]; exact ob4, T'.cl, T'.nS, lk_S, _, rfl, dS, _, rfl, DPut.k (k := Sum.inr n) (by rw [upd_ne dSS]; exact cS4) (Nat.lt_trans (by unfold kvS; rw [List.length_map]; exact lpe) (by decide)), ?_⟩
      rw [putK_new _ vS]
      have adS := ne_of ob4 cS4 (by intro z; cases z)
      have adL := ne_of ob4 cL4 (by intro z; cases z)
      have adR := ne_of ob4 cR4 (by intro z; cases z)
      refine ⟨_, rfl, _, rfl, a, _, dx, _, _, rfl, by rw [upd_ne adS, upd_ne aS]; exact ob4, T'.cl, T'.nL, lk_L, _, rfl, dL, _, rfl, DPut.k (k := Sum.inr n) (by rw [upd_ne (Ne.symm n1), upd_ne dLS]; exact cL4) (Nat.lt_trans (by unfold kvL; rw [List.length_map]; exact lpe) (by decide)), ?_⟩
      rw [putK_new _ vL]
      refine ⟨by decide, fun pR hpR => ?_⟩
      have hpR1 : pR ≠ dL := fun z => by rw [z, upd_same] at hpR; cases hpR
      rw [upd_ne hpR1] at hpR
      have hpR2 : pR ≠ dS := fun z => by rw [z, upd_same] at hpR; cases hpR
      rw [upd_ne hpR2] at hpR
      have hpR3 : pR ≠ pS := fun z => by rw [z, upd_same] at hpR; cases hpR
      rw [upd_ne hpR3] at hpR
      have aR := ne_of_none ob4 hpR
      have dRR := ne_of_none cR4 hpR
      refine ⟨_, rfl, a, _, dx, _, _, rfl, by rw [upd_ne aR, upd_ne adL, upd_ne adS, upd_ne aS]; exact ob4, T'.cl, T'.nR, lk_R, _, rfl, dR, _, rfl, DPut.k (k := Sum.inr n) (by rw [upd_ne dRR, upd_ne (Ne.symm n5), upd_ne (Ne.symm n2), upd_ne dRS]; exact cR4) (Nat.lt_trans (by unfold kvR; rw [List.length_map]; exact lpe) (by decide)), ?_⟩
      rw [putK_new _ vR]
      have hS0 : H pS = none := g34.h.free hpS
      have hR0 : H pR = none := g34.h.free hpR
      have B := b.addP (p := ⟨n, l, i, []⟩) (pS := pS) (pR := pR) (R' := upd (upd (upd (upd (upd R pS (.lst (l.map V.str))) dS (.dK (kvS pe ++ [(Sum.inr n, .ref pS)]))) dL (.dK (kvL pe ++ [(Sum.inr n, .int i)]))) pR (.lst [])) dR (.dK (kvR pe ++ [(Sum.inr n, .ref pR)]))) hp g34.f (h2.free hS0) (h2.free hR0) (Ne.symm hpR3) rfl hz.1 hz.2
        (by rw [upd_ne n2, upd_ne (Ne.symm hpR2), upd_ne n1, upd_same]) (by rw [upd_ne n5, upd_ne (Ne.symm hpR1), upd_same]) upd_same
        (by rw [upd_ne (Ne.symm dRS), upd_ne (Ne.symm hpR3), upd_ne (Ne.symm dLS), upd_ne (Ne.symm dSS), upd_same]) (by rw [upd_ne (Ne.symm dRR), upd_same])
        (fun y y1 y2 y3 y4 => by
          have z1 : y ≠ pS := fun z => y4 (by rw [z]; exact h2.free hS0)
          have z2 : y ≠ pR := fun z => y4 (by rw [z]; exact h2.free hR0)
          rw [upd_ne y3, upd_ne z2, upd_ne y2, upd_ne y1, upd_ne z1])
      have gG : ∀ {y}, H4 y = none → G4 y = none := fun h => g34.sub.free h
      have gp := g34.apart h2 h3
      have rS : R dS ≠ none := by rw [b.cS]; intro z; cases z
      have rL : R dL ≠ none := by rw [b.cL]; intro z; cases z
      have rR : R dR ≠ none := by rw [b.cR]; intro z; cases z
      refine q1 .non _ G4 _ ⟨fun y o hy hz2 => ?_, fun y hy => ?_, g34.f, fun y o hy => ?_, g34.no⟩ (fun y o hy => ?_) (fun y hy => ?_) (fun y hy => ?_) ⟨dx, dS, dL, dR, dT, dN, _, sh, B⟩ rp_non
      · have hy' : R y = none := hy
        have hz3 : H y = some o := hz2
        rw [upd_ne (fun z : y = dR => rR (by rw [← z]; exact hy')), upd_ne (ne_of_none hz3 hR0), upd_ne (fun z : y = dL => rL (by rw [← z]; exact hy')), upd_ne (fun z : y = dS => rS (by rw [← z]; exact hy')), upd_ne (ne_of_none hz3 hS0)]
        exact g34.h y o hz3
      · have h4 : H4 y ≠ none := fun z => hy (g34.h.free z)
        unfold upd
        split
        · intro z; cases z
        · split
          · intro z; cases z
          · split
            · intro z; cases z
            · split
              · intro z; cases z
              · split
                · intro z; cases z
                · exact h4
      · rw [upd_ne (ne_of_none hy (gp dR rR)), upd_ne (ne_of_none hy (gG hpR)), upd_ne (ne_of_none hy (gp dL rL)), upd_ne (ne_of_none hy (gp dS rS)), upd_ne (ne_of_none hy (gG hpS))]
        exact g34.sub y o hy
      · unfold upd at hy ⊢
        by_cases z1 : y = dR
        · rw [if_pos z1] at hy ⊢; exact hy
        · rw [if_neg z1] at hy ⊢
          by_cases z2 : y = pR
          · rw [if_pos z2] at hy ⊢; exact hy
          · rw [if_neg z2] at hy ⊢
            by_cases z3 : y = dL
            · rw [if_pos z3] at hy ⊢; exact hy
            · rw [if_neg z3] at hy ⊢
              by_cases z4 : y = dS
              · rw [if_pos z4] at hy ⊢; exact hy
              · rw [if_neg z4] at hy ⊢
                by_cases z5 : y = pS
                · rw [if_pos z5] at hy ⊢; exact hy
                · rw [if_neg z5] at hy ⊢
                  exact g34.h y o (h2 y o hy)
      · by_cases z1 : y = dR
        · rw [z1]; exact gp dR rR
        · rw [upd_ne z1] at hy
          by_cases z2 : y = pR
          · rw [z2]; exact gG hpR
          · rw [upd_ne z2] at hy
            by_cases z3 : y = dL
            · rw [z3]; exact gp dL rL
            · rw [upd_ne z3] at hy
              by_cases z4 : y = dS
              · rw [z4]; exact gp dS rS
              · rw [upd_ne z4] at hy
                by_cases z5 : y = pS
                · rw [z5]; exact gG hpS
                · rw [upd_ne z5] at hy
                  exact gp y hy
      · by_cases z1 : y = dR
        · exact .inl (by rw [z1]; exact rR)
        · rw [upd_ne z1] at hy
          by_cases z2 : y = pR
          · exact .inr (by rw [z2]; exact hR0)
          · rw [upd_ne z2] at hy
            by_cases z3 : y = dL
            · exact .inl (by rw [z3]; exact rL)
            · rw [upd_ne z3] at hy
              by_cases z4 : y = dS
              · exact .inl (by rw [z4]; exact rS)
              · rw [upd_ne z4] at hy
                by_cases z5 : y = pS
                · exact .inr (by rw [z5]; exact hS0)
                · rw [upd_ne z5] at hy
                  exact .inl hy
end
end RK
namespace RK
open PySem PySem.Spec PyProof.Rows L2 RT
section
variable {P : Program} {w : World} {K : PySem.W.Frag} {mg : Str → Option Value} {base : Heap}
def needsOf : List PyData → Option (List (Str × PyData))
  | [] => some []
  | .tuple [.str k, c] :: l => (needsOf l).map ((k, c) :: ·)
  | _ :: _ => none
def needD (p : Str × PyData) : PyData := .tuple [.str p.1, p.2]
theorem needsOf_ok : ∀ {ds : List PyData} {l : List (Str × PyData)}, needsOf ds = some l → ds = l.map needD
  | [], l, h => by cases h; rfl
  | .tuple [.str k, c] :: ds, l, h => by
    cases e : needsOf ds with
    | none => simp [needsOf, e] at h
    | some m =>
      simp [needsOf, e] at h
      subst h
      rw [needsOf_ok e]; rfl
  | .none :: _, _, h => by cases h
  | .bool _ :: _, _, h => by cases h
  | .int _ :: _, _, h => by cases h
  | .str _ :: _, _, h => by cases h
  | .list _ :: _, _, h => by cases h
  | .dict _ :: _, _, h => by cases h
  | .tuple [] :: _, _, h => by cases h
  | .tuple [_] :: _, _, h => by simp [needsOf] at h
  | .tuple (_ :: _ :: _ :: _) :: _, _, h => by simp [needsOf] at h
  | .tuple [.none, _] :: _, _, h => by cases h
  | .tuple [.bool _, _] :: _, _, h => by cases h
  | .tuple [.int _, _] :: _, _, h => by cases h
  | .tuple [.list _, _] :: _, _, h => by cases h
  | .tuple [.tuple _, _] :: _, _, h => by cases h
  | .tuple [.dict _, _] :: _, _, h => by cases h
/-- what the walk along the needs ends with -/
def ndErr : List (Str × Int) → List (Str × PyData) → Option (Sum Str (List (Str × Int)))
  | acc, [] => some (.inr acc)
  | acc, (k, c) :: l => match nameB k with
    | none => none
    | some false => some (.inl "BadName")
    | some true => if k ∈ acc.map (·.1) then some (.inl "Twice") else match numOk 9 c with
      | none => none
      | some none => some (.inl "BadCount")
      | some (some i) => ndErr (acc ++ [(k, i)]) l
def oneDay (r : Int × Int) : Option Bool := match F_in_one_day [stD r] with
  | some (.bool b) => some b
  | _ => none
theorem oneDay_ok {r : Int × Int} {b : Bool} (h : oneDay r = some b) : F_in_one_day [stD r] = some (.bool b) := by
  unfold oneDay at h
  split at h
  · cases h; assumption
  · cases h
def addShift (β : BookSt) (n : Str) (d : PyData) (nd : List PyData) : RM := match nameB n with
  | none => .no
  | some false => .exc "BadName"
  | some true => match isSt d with
    | none => .no
    | some none => .exc "BadStretch"
    | some (some r) => match oneDay r with
      | none => .no
      | some false => .exc "BadStretch"
      | some true => match needsOf nd with
        | none => .no
        | some l => if l.length ≤ 1000 ∧ β.shifts.length < 1000 then (match ndErr [] l with
          | none => .no
          | some (.inl c) => .exc c
          | some (.inr cs) => match findS β n with
            | some _ => .exc "Twice"
            | none => .done ⟨β.people, β.shifts ++ [⟨n, r.1, r.2, cs⟩]⟩ .none) else .no
def fm_add_shift (β : BookSt) : List PyData → RM
  | [.str n, d, .list nd] => addShift β n d nd
  | _ => .no
theorem fm_add_shift_inv {β : BookSt} {ds : List PyData} {A : BookSt → PyData → Prop} {B : Str → Prop} (q : (fm_add_shift β ds).goes A B) : ∃ n d nd, ds = [.str n, d, .list nd] := by
  unfold fm_add_shift at q
  split at q
  · exact ⟨_, _, _, rfl⟩
  · exact (show False from q).elim
theorem kvC_val (k : Str) (l : List (Str × Int)) : (valV (kvC l) (Sum.inr k)).isSome = decide (k ∈ l.map (·.1)) := by
  unfold kvC
  rw [valV_map (fun x : Str × Int => x.1) (fun x => V.int x.2)]
  induction l with
  | nil => rfl
  | cons z l ih =>
    rw [List.find?_cons]
    by_cases h : z.1 = k
    · simp [h]
    · have h2 : ¬ k = z.1 := fun e => h e.symm
      rw [decide_eq_false h]
      simp only [ih, List.map_cons, List.mem_cons, h2, false_or]
theorem sc_add_shift : FnScope ["self", "name", "stretch", "needs", "counts", "need"] ["self", "name", "stretch", "needs"] (defScope m_book_add_shift) := ⟨rfl, rfl, rfl, by decide +kernel, rfl, by decide +kernel, by decide +kernel⟩
theorem ok_add_shift (T : Txt K mg) {f : Addr} {fd : FuncData} (F : FunD K "add_shift" "Book.add_shift" (defArgs m_book_add_shift) (defBody m_book_add_shift) (defScope m_book_add_shift) [] [] f fd) : FnOk P w K mg base (L2.CX P w) 3 f fd ["self", "name", "stretch", "needs"] (spM K fm_add_shift) := by
  obtain ⟨fm, fdm, psm, GM, gm, km, bm⟩ := (ok_is_name (P := P) (w := w) (base := base) T).ex
  obtain ⟨fw, fdw, psw, GW, gw, kw, bw⟩ := (ok_is_whole (P := P) (w := w) (base := base) T).ex
  obtain ⟨fs, fds, pss', GS, gs, ks, bs⟩ := (ok_is_stretch (P := P) (w := w) (base := base) T).ex
  obtain ⟨fo, fdo, pso, GO, go, ko, bo⟩ := (ok_in_one_day (P := P) (w := w) (base := base) T).ex
  refine F.ok sc_add_shift (fun vs H Q E h => ?_) (fun cdv A outer s H vs Q E hr h => ?_)
  · obtain ⟨G, R, a, β, us, ds, rfl, h1, h2, h3, h4, h5, q⟩ := h
    obtain ⟨n, d, nd, rfl⟩ := fm_add_shift_inv q
    rw [List.length_cons, h5.len]; rfl
  · obtain ⟨G, R, a, β, us, ds, rfl, h1, h2, h3, h4, h5, q⟩ := h
    have hu := hu_of hr
    obtain ⟨n, d, ndl, rfl⟩ := fm_add_shift_inv q
    obtain ⟨v1, v2, v3, rfl, r1, r2, r3⟩ := h5.three
    have := r1.s
    subst this
    have T' := T.bk
    obtain ⟨dx, dS, dL, dR, dT, dN, pe, sh, b⟩ := h4
    have ob := h2 _ _ b.ob
    have cT := h2 _ _ b.cT
    have cN := h2 _ _ b.cN
    have q1 : (addShift β n d ndl).goes _ _ := q
    unfold addShift at q1
    have hr1 : Room 1 _ := hr.mono (by decide)
    refine ⟨_, pss_cons (ps_if (pt_not (pt_val (pe_call GM hr1 (by rfl) gm km bm .nil pass0 (pa_cons (pv 1) pa_nil)))) (pss_one (ps_raise rfl (takes_of rfl rfl rfl rfl) (pmk_own PySem.F.excBase_ValueError T.e_BadName.x T.e_BadName.g T.e_BadName.k (raises_own T.e_BadName.b T.e_BadName.t) rfl))) pss_nil)
      (pss_cons (ps_if (pw_or (pt_not (pt_val (pe_call GS hr (by rfl) gs ks bs .nil pass0 (pa_cons (pv 2) pa_nil)))) (pw_or1 (pt_not (pt_val (pe_call GO hr1 (by rfl) go ko bo .nil pass0 (pa_cons (pv 2) pa_nil)))))).pt (pss_one (ps_raise rfl (takes_of rfl rfl rfl rfl) (pmk_own PySem.F.excBase_ValueError T.e_BadStretch.x T.e_BadStretch.g T.e_BadStretch.k (raises_own T.e_BadStretch.b T.e_BadStretch.t) rfl))) pss_nil)
      (pss_cons (ps_set (i := 4) sc_add_shift.nd rfl (Or.inl rfl) pe_dnewK)
      (pss_cons (ps_for (passes_of rfl) rfl (pi_list (pv 3)) (pg_name (i := 5) sc_add_shift.nd rfl (Or.inl rfl))
        (pss_cons (ps_if (pt_not (pt_val (pe_call GM hr1 (by rfl) gm km bm .nil pass0 (pa_cons (pe_ix ix_tup (pv 5) pe_int (fun _ _ => rfl)) pa_nil)))) (pss_one (ps_raise rfl (takes_of rfl rfl rfl rfl) (pmk_own PySem.F.excBase_ValueError T.e_BadName.x T.e_BadName.g T.e_BadName.k (raises_own T.e_BadName.b T.e_BadName.t) rfl))) pss_nil)
        (pss_cons (ps_if (pt_cmp (pc_din hu (pe_ix ix_tup (pv 5) pe_int (fun _ _ => rfl)) (pv 4))) (pss_one (ps_raise rfl (takes_of rfl rfl rfl rfl) (pmk_own PySem.F.excBase_ValueError T.e_Twice.x T.e_Twice.g T.e_Twice.k (raises_own T.e_Twice.b T.e_Twice.t) rfl))) pss_nil)
        (pss_cons (ps_if (pw_or (pt_not (pt_val (pe_call GW hr1 (by rfl) gw kw bw .nil pass0 (pa_cons (pe_ix ix_tup (pv 5) pe_int (fun _ _ => rfl)) pa_nil)))) (pw_or1 (pt_not (pt_chain op_le op_le pe_int (pe_ix ix_tup (pv 5) pe_int (fun _ _ => rfl)) (x_pe (K := K) (se_globI T.c_MOST_COUNT)))))).pt (pss_one (ps_raise rfl (takes_of rfl rfl rfl rfl) (pmk_own PySem.F.excBase_ValueError T.e_BadCount.x T.e_BadCount.g T.e_BadCount.k (raises_own T.e_BadCount.b T.e_BadCount.t) rfl))) pss_nil)
        (pss_one (ps_dput hu (pv 4) (pe_ix ix_tup (pv 5) pe_int (fun _ _ => rfl)) (pe_ix ix_tup (pv 5) pe_int (fun _ _ => rfl)) rfl))))))
      (pss_cons (ps_if (pt_cmp (pc_din hu (pv 1) (pe_fld (pv 0) rfl))) (pss_one (ps_raise rfl (takes_of rfl rfl rfl rfl) (pmk_own PySem.F.excBase_ValueError T.e_Twice.x T.e_Twice.g T.e_Twice.k (raises_own T.e_Twice.b T.e_Twice.t) rfl))) pss_nil)
      (pss_cons (ps_dput hu (pe_fld (pv 0) rfl) (pv 1) (pv 2) rfl)
      (pss_one (ps_dput hu (pe_fld (pv 0) rfl) (pv 1) (pv 4) rfl))))))), ?_⟩
    -- the name
    cases hn : nameB n with
    | none => rw [hn] at q1; exact (show False from q1).elim
    | some bn =>
    rw [hn] at q1
    refine ⟨_, rfl, G, [.str n], .bool bn, h1, .cons (.inl (.str n)) .nil, nameB_ok hn, fun v5 H1 G1 g1 r5 => ?_⟩
    refine ⟨_, r5.bl, ?_⟩
    cases bn with
    | false => exact q1 H1 G1 g1
    | true =>
    refine iteF ?_
    -- the stretch
    cases hs : isSt d with
    | none => simp only [hs] at q1; exact (show False from q1).elim
    | some os =>
    cases os with
    | none =>
      simp only [hs] at q1
      refine ⟨_, rfl, G1, [d], .bool false, g1.sub, .cons (r2.mono g1.f) .nil, isSt_none hs, fun v5 H2 G2 g2 r5 => ?_⟩
      refine ⟨_, r5.bl, ?_⟩
      refine iteT ?_
      exact q1 H2 G2 (g1.trans g2)
    | some r =>
    simp only [hs] at q1
    obtain ⟨i1, rfl⟩ := isSt_some hs
    refine ⟨_, rfl, G1, [stD r], .bool true, g1.sub, .cons (r2.mono g1.f) .nil, i1, fun v5 H2 G2 g2 r5 => ?_⟩
    refine ⟨_, r5.bl, ?_⟩
    refine iteF ?_
    cases hd : oneDay r with
    | none => simp only [hd] at q1; exact (show False from q1).elim
    | some bd =>
    simp only [hd] at q1
    have g12 := g1.trans g2
    refine ⟨_, rfl, G2, [stD r], .bool bd, g12.sub, .cons (r2.mono g12.f) .nil, oneDay_ok hd, fun v6 H3 G3 g3 r6 => ?_⟩
    refine ⟨_, r6.bl, ?_⟩
    have g13 := g12.trans g3
    cases bd with
    | false => exact q1 H3 G3 g13
    | true =>
    refine iteF ?_
    -- counts
    intro dC hdC
    cases hl : needsOf ndl with
    | none => simp only [hl] at q1; exact (show False from q1).elim
    | some l =>
    simp only [hl] at q1
    have esk := needsOf_ok hl
    subst esk
    by_cases hz' : ¬ (l.length ≤ 1000 ∧ β.shifts.length < 1000)
    · rw [if_neg hz'] at q1; exact (show False from q1).elim
    have hz := Decidable.not_not.mp hz'
    rw [if_pos hz] at q1
    obtain ⟨p2, ws, rfl, hp2, hA⟩ := Bp.list (G := G) (H := H) h1 (.inl r3)
    have gd : Grow H G (upd H3 dC (.dK [])) G3 := g13.beside hdC
    have nG : G3 dC = none := g13.sub.free hdC
    have nH : H dC = none := g13.h.free hdC
    have hwl : ws.length = l.length := by rw [hA.len, List.length_map]
    refine ⟨_, rfl, p2, rfl, ⟨_, SqL.of (gd.h _ _ hp2)⟩, for_list (K := K) (a := p2) (xs := ws) (fun i σ H5 => ∃ (G5 : Hp) (o5 : Option V) (acc : List (Str × Int)), σ = [some (.ref a), some (.str n), some v2, some (.ref p2), some (.ref dC), o5] ∧ Grow H G H5 G5 ∧ G5 dC = none ∧ H5 dC = some (.dK (kvC acc)) ∧ acc.length = i ∧ ndErr [] l = ndErr acc (l.drop i))
      ⟨G3, none, [], rfl, gd, nG, upd_same, rfl, rfl⟩ (fun i σ H _ ⟨_, _, _, _, g, _⟩ => SqL.of (g.h _ _ hp2)) ?_ ?_⟩
    · rintro i x σ H5 hi ⟨G5, o5, acc, rfl, g5, nG5, hds, hac, hsk⟩
      obtain ⟨dd, hdd, rx⟩ := hA.getV hi
      rw [List.getElem?_map] at hdd
      cases hli : l[i]? with
      | none => rw [hli] at hdd; cases hdd
      | some kc =>
      rw [hli] at hdd
      have ed : needD kc = dd := Option.some.inj hdd
      subst ed
      obtain ⟨k, c⟩ := kc
      obtain ⟨t, us', rfl, ht, hus⟩ := Bp.tuple (G := G5) (H := H5) g5.sub (.inl ((Rp.mono g5.f (.inl rx)) : Rp K G5 x (.tuple [.str k, c])))
      cases hus with
      | @cons u1 _ _ _ y1 hus2 =>
      cases hus2 with
      | @cons u2 _ _ _ y2 hus3 =>
      cases hus3
      cases y1
      rw [drop_cons_of hli] at hsk
      cases hnk : nameB k with
      | none =>
        rw [hsk] at q1
        simp only [ndErr, hnk] at q1
        exact (show False from q1).elim
      | some bk =>
      refine ⟨_, rfl, t, [.str k, u2], 0, .str k, rfl, rfl, ht, rfl, G5, [.str k], .bool bk, g5.sub, .cons (.inl (.str k)) .nil, nameB_ok hnk, fun v6 H6 G6 g6 r6 => ?_⟩
      refine ⟨_, r6.bl, ?_⟩
      have g56 := g5.trans g6
      cases bk with
      | false =>
        rw [hsk] at q1
        simp only [ndErr, hnk] at q1
        exact q1 H6 G6 g56
      | true =>
      refine iteF ?_
      have ht6 : SqT K H6 t [.str k, u2] := same_t g6.h ht
      have hds6 := g6.h _ _ hds
      refine ⟨_, rfl, t, [.str k, u2], 0, .str k, rfl, rfl, ht6, rfl, _, rfl, dC, _, rfl, DGet.k (k := Sum.inr k) hds6, _, rfl, ?_⟩
      rw [kvC_val]
      by_cases hm : k ∈ acc.map (·.1)
      · rw [decide_eq_true hm]
        refine iteT ?_
        rw [hsk] at q1
        simp only [ndErr, hnk, if_pos hm] at q1
        exact q1 H6 G6 g56
      · rw [decide_eq_false hm]
        refine iteF ?_
        cases hw : numOk 9 c with
        | none =>
          rw [hsk] at q1
          simp only [ndErr, hnk, if_neg hm, hw] at q1
          exact (show False from q1).elim
        | some o =>
        have hW : ∃ bw : Bool, F_is_whole [c] = some (.bool bw) ∧ (bw = false → o = none) ∧ (bw = true → ∃ i, c = .int i ∧ o = if 1 ≤ i ∧ i ≤ 9 then some i else none) := by
          unfold numOk at hw
          split at hw
          · exact ⟨false, by assumption, fun _ => (Option.some.inj hw).symm, fun z => Bool.noConfusion z⟩
          · split at hw
            · rename_i i hh
              exact ⟨true, by assumption, fun z => Bool.noConfusion z, fun _ => ⟨i, rfl, (Option.some.inj hw).symm⟩⟩
            · cases hw
          · cases hw
        obtain ⟨bw', hW1, hW2, hW3⟩ := hW
        refine ⟨_, rfl, t, [.str k, u2], 1, u2, rfl, rfl, ht6, rfl, G6, [c], .bool bw', g56.sub, .cons (.inl (dp_mono g6.f _ y2)) .nil, hW1, fun v7 H7 G7 g7 r7 => ?_⟩
        refine ⟨_, r7.bl, ?_⟩
        have g57 := g56.trans g7
        have bad : o = none → ∀ H' G', Grow H G H' G' → E (.ref (He.ga K "BadCount")) none H' := fun eo => by
          rw [hsk] at q1
          rw [eo] at hw
          simp only [ndErr, hnk, if_neg hm, hw] at q1
          exact q1
        cases bw' with
        | false =>
          refine iteT ?_
          exact bad (hW2 rfl) H7 G7 g57
        | true =>
        obtain ⟨j, rfl, ho⟩ := hW3 rfl
        cases y2
        refine iteF ?_
        have ht7 : SqT K H7 t [.str k, .int j] := same_t g7.h ht6
        refine ⟨_, rfl, t, [.str k, .int j], 1, .int j, rfl, rfl, ht7, rfl, _, _, rfl, rfl, _, rfl, ?_⟩
        by_cases b1 : 1 ≤ j
        case neg =>
          rw [decide_eq_false b1]
          refine iteF ?_
          refine ⟨_, rfl, ?_⟩
          exact bad (by rw [ho, if_neg (fun z => b1 z.1)]) H7 G7 g57
        rw [decide_eq_true b1]
        refine iteT ?_
        refine ⟨_, _, rfl, rfl, _, rfl, ?_⟩
        by_cases b2 : j ≤ 9
        case neg =>
          rw [decide_eq_false b2]
          refine iteT ?_
          exact bad (by rw [ho, if_neg (fun z => b2 z.2)]) H7 G7 g57
        rw [decide_eq_true b2]
        refine iteF ?_
        have eo : o = some j := by rw [ho, if_pos ⟨b1, b2⟩]
        rw [eo] at hw
        have hv : valV (kvC acc) (Sum.inr k) = none := by
          have := kvC_val k acc
          rw [decide_eq_false hm] at this
          cases e : valV (kvC acc) (Sum.inr k) with
          | none => rfl
          | some u => rw [e] at this; cases this
        have hil : i < l.length := (List.getElem?_eq_some_iff.mp hli).1
        have hlen : (kvC acc).length < sizeLine := by
          have : (kvC acc).length ≤ 1000 := by unfold kvC; rw [List.length_map, hac]; omega
          exact Nat.lt_of_le_of_lt this (by decide)
        have hds7 := g7.h _ _ hds6
        refine ⟨_, rfl, t, [.str k, .int j], 1, .int j, rfl, rfl, ht7, rfl, _, rfl, _, rfl, t, [.str k, .int j], 0, .str k, rfl, rfl, ht7, rfl, dC, _, rfl, DPut.k (k := Sum.inr k) hds7 hlen, ?_⟩
        have nG7 : G7 dC = none := (g6.trans g7).no _ nG5 (by rw [hds]; intro z; cases z)
        refine ⟨G7, _, acc ++ [(k, j)], rfl, ⟨fun y o e => ?_, g57.f, fun y o e => ?_, g57.no⟩, nG7, ?_, ?_, ?_⟩
        · rw [upd_ne (ne_of_none e nH)]; exact g57.h y o e
        · rw [upd_ne (ne_of_none e nG7)]; exact g57.sub y o e
        · rw [upd_same, putK_new _ hv]
          simp [kvC]
        · rw [List.length_append, hac]; rfl
        · rw [hsk]
          simp only [ndErr, hnk, if_neg hm, hw]
    · rintro σ H5 ⟨G5, o5, acc, rfl, g5, nG5, hds, hac, hsk⟩
      rw [hwl] at hsk hac
      rw [List.drop_length] at hsk
      rw [hsk] at q1
      simp only [ndErr] at q1
      have ob5 := g5.h _ _ ob
      have cT5 := g5.h _ _ cT
      have cN5 := g5.h _ _ cN
      obtain ⟨t2, us2, rfl, ht2, _⟩ := Bp.tuple (G := G) (H := H) h1 (.inl r2)
      have hst : Dq K G (.ref t2) (stD r) := r2.dp
      refine ⟨_, rfl, _, rfl, a, _, dx, _, _, rfl, ob5, T'.cl, T'.nN, lk_N, dN, _, rfl, DGet.k (k := Sum.inr n) cN5, _, rfl, ?_⟩
      cases hp : findS β n with
      | some p =>
        rw [hp] at q1
        obtain ⟨x, hx, e1, e2, e3, e4⟩ := b.shift hp
        rw [e4]
        refine iteT ?_
        exact q1 H5 G5 g5
      | none =>
      rw [hp] at q1
      obtain ⟨vT, vN⟩ := b.noShift hp
      rw [vN]
      refine iteF ?_
      have lsh : sh.length < 1000 := by
        have := congrArg List.length b.sn
        rw [List.length_map] at this
        omega
      have nd := b.nd
      simp only [List.nodup_cons, List.mem_cons, List.not_mem_nil, or_false, not_or] at nd
      obtain ⟨⟨n1, n2, n3, n4⟩, ⟨n5, n6, n7⟩, ⟨n8, n9⟩, n10, _⟩ := nd
      have adT := ne_of ob5 cT5 (by intro z; cases z)
      refine ⟨_, rfl, _, rfl, a, _, dx, _, _, rfl, ob5, T'.cl, T'.nT, lk_T, _, rfl, dT, _, rfl, DPut.k (k := Sum.inr n) cT5 (Nat.lt_trans (by unfold kvT; rw [List.length_map]; exact lsh) (by decide)), ?_⟩
      rw [putK_new _ vT]
      refine ⟨_, rfl, _, rfl, a, _, dx, _, _, rfl, by rw [upd_ne adT]; exact ob5, T'.cl, T'.nN, lk_N, _, rfl, dN, _, rfl, DPut.k (k := Sum.inr n) (by rw [upd_ne (Ne.symm n10)]; exact cN5) (Nat.lt_trans (by unfold kvN; rw [List.length_map]; exact lsh) (by decide)), ?_⟩
      rw [putK_new _ vN]
      have rT : R dT ≠ none := by rw [b.cT]; intro z; cases z
      have rN : R dN ≠ none := by rw [b.cN]; intro z; cases z
      have dCT : dT ≠ dC := ne_of_none cT nH
      have dCN : dN ≠ dC := ne_of_none cN nH
      have rC : R dC = none := h2.free nH
      have B := b.addS (s := ⟨n, r.1, r.2, acc⟩) (t := t2) (dC := dC) (R' := upd (upd (upd R dC (.dK (kvC acc))) dT (.dK (kvT sh ++ [(Sum.inr n, .ref t2)]))) dN (.dK (kvN sh ++ [(Sum.inr n, .ref dC)]))) hp g5.f rC (dp_mono g5.f _ hst) (by rw [hac]; exact hz.1) hz.2
        (by rw [upd_ne n10, upd_same]) upd_same (by rw [upd_ne (Ne.symm dCN), upd_ne (Ne.symm dCT), upd_same])
        (fun y y1 y2 y3 => by
          have z1 : y ≠ dC := fun z => y3 (by rw [z]; exact rC)
          rw [upd_ne y2, upd_ne y1, upd_ne z1])
      have gp := g5.apart h2 h3
      refine q1 .non _ G5 _ ⟨fun y o hy hz2 => ?_, fun y hy => ?_, g5.f, fun y o hy => ?_, g5.no⟩ (fun y o hy => ?_) (fun y hy => ?_) (fun y hy => ?_) ⟨dx, dS, dL, dR, dT, dN, pe, _, B⟩ rp_non
      · have hy' : R y = none := hy
        have hz3 : H y = some o := hz2
        rw [upd_ne (fun z : y = dN => rN (by rw [← z]; exact hy')), upd_ne (fun z : y = dT => rT (by rw [← z]; exact hy'))]
        exact g5.h y o hz3
      · have h4 : H5 y ≠ none := fun z => hy (g5.h.free z)
        unfold upd
        split
        · intro z; cases z
        · split
          · intro z; cases z
          · exact h4
      · rw [upd_ne (ne_of_none hy (gp dN rN)), upd_ne (ne_of_none hy (gp dT rT))]
        exact g5.sub y o hy
      · unfold upd at hy ⊢
        by_cases z1 : y = dN
        · rw [if_pos z1] at hy ⊢; exact hy
        · rw [if_neg z1] at hy ⊢
          by_cases z2 : y = dT
          · rw [if_pos z2] at hy ⊢; exact hy
          · rw [if_neg z2] at hy ⊢
            by_cases z3 : y = dC
            · rw [if_pos z3] at hy
              rw [z3, hds]; exact hy
            · rw [if_neg z3] at hy
              exact g5.h y o (h2 y o hy)
      · by_cases z1 : y = dN
        · rw [z1]; exact gp dN rN
        · rw [upd_ne z1] at hy
          by_cases z2 : y = dT
          · rw [z2]; exact gp dT rT
          · rw [upd_ne z2] at hy
            by_cases z3 : y = dC
            · rw [z3]; exact nG5
            · rw [upd_ne z3] at hy
              exact gp y hy
      · by_cases z1 : y = dN
        · exact .inl (by rw [z1]; exact rN)
        · rw [upd_ne z1] at hy
          by_cases z2 : y = dT
          · exact .inl (by rw [z2]; exact rT)
          · rw [upd_ne z2] at hy
            by_cases z3 : y = dC
            · exact .inr (by rw [z3]; exact nH)
            · rw [upd_ne z3] at hy
              exact .inl hy
end
end RK
namespace RK
open PySem PySem.Spec PyProof.Rows L2 RT
section
variable {P : Program} {w : World} {K : PySem.W.Frag} {mg : Str → Option Value} {base : Heap}
theorem mr_may (T : Txt K mg) : MethR P w K mg base 2 "may" fr_may := by
  obtain ⟨fd, F⟩ := T.f_book_may
  exact ⟨⟨_, fd, _, ok_may T F, T.me_book_may, F.bindsN fun _ _ _ _ _ _ us hl => match us, hl with | [_, _, _, _], _ => rfl⟩, T.cl_book, bkNo_of (by decide +kernel)⟩
theorem mm_add_person (T : Txt K mg) : MethM P w K mg base 2 "add_person" fm_add_person := by
  obtain ⟨fd, F⟩ := T.f_book_add_person
  exact ⟨⟨_, fd, _, ok_add_person T F, T.me_book_add_person, F.bindsN fun _ _ _ _ _ _ us hl => match us, hl with | [_, _, _, _], _ => rfl⟩, T.cl_book, bkNo_of (by decide +kernel)⟩
theorem mm_add_rest (T : Txt K mg) : MethM P w K mg base 3 "add_rest" fm_add_rest := by
  obtain ⟨fd, F⟩ := T.f_book_add_rest
  exact ⟨⟨_, fd, _, ok_add_rest T F, T.me_book_add_rest, F.bindsN fun _ _ _ _ _ _ us hl => match us, hl with | [_, _, _], _ => rfl⟩, T.cl_book, bkNo_of (by decide +kernel)⟩
theorem mm_add_shift (T : Txt K mg) : MethM P w K mg base 3 "add_shift" fm_add_shift := by
  obtain ⟨fd, F⟩ := T.f_book_add_shift
  exact ⟨⟨_, fd, _, ok_add_shift T F, T.me_book_add_shift, F.bindsN fun _ _ _ _ _ _ us hl => match us, hl with | [_, _, _, _], _ => rfl⟩, T.cl_book, bkNo_of (by decide +kernel)⟩
theorem pe_book {X : Cx} {p pos : Pos} {j : Nat} (T : Txt X.K X.mg) (hr : Room j X.A) (hj : 2 ≤ j) (hg : Gl X "Book" := by rfl) : PE X (.Call (.Name "Book" p) [] [] pos) (tMake (He.ga X.K "Book") (spInit X.K) [] E0 tNil) := by
  obtain ⟨fd, F⟩ := T.f_book_init
  have b : Binds X.K fd ["self"] [] := F.bindsN fun _ _ _ _ _ _ us hl => match us, hl with | [_], _ => rfl
  exact pe_make0 T.mk_book (ok_init (P := X.prog) (w := X.w) (base := X.base) T F) (hr.mono hj) hg T.gc_book b .nil pass0
end
section
variable {P : Program} {w : World} {K : PySem.W.Frag} {mg : Str → Option Value} {base : Heap}
def fr_mistyped (β : BookSt) : List PyData → Res := s1 fun n => match addRest β n (stD (-5, 900000)) with
  | .exc _ => .ret (.bool true)
  | _ => .no
def csRota : Str → Option Bool := fun c => if c = "BadStretch" then some true else if c = "Missing" then some true else none
theorem csRota_ok (T : Txt K mg) (c : Str) (b : Bool) (h : csRota c = some b) : PySem.W.exmOne K (.ref (He.ga K c)) (.ref (He.ga K "RotaError")) = some b := by
  unfold csRota at h
  split at h
  · rename_i e; subst e; cases h; exact T.x_BadStretch_RotaError
  · split at h
    · rename_i e; subst e; cases h; exact T.x_Missing_RotaError
    · cases h
abbrev N_mistyped : List Str := ["_law_book", "_law_name"]
theorem sc_mistyped : FnScope N_mistyped ["_law_book", "_law_name"] (defScope s_mistyped) := ⟨rfl, rfl, rfl, by decide +kernel, rfl, by decide +kernel, by decide +kernel⟩
def b_mistyped (bk : Addr → Option BookSt) : SS := sSeq (sTry (sDropX (xMeth bk 0 (excOf fm_add_rest) (eCons (eVar 1) (eCons (eTupD (eCons (eUn gNeg (eC (.int 5))) (eCons (eC (.int 900000)) eNil))) eNil)))) csRota (sRet (eC (.bool true)))) (sRet (eC (.bool false)))
theorem addRest_exc {β : BookSt} {n : Str} {d : PyData} {c : Str} (h : addRest β n d = .exc c) : c = "Missing" ∨ c = "BadStretch" := by
  unfold addRest at h
  split at h
  · cases h; exact .inl rfl
  · split at h
    · cases h
    · cases h; exact .inr rfl
    · split at h <;> cases h
theorem pr_mistyped (T : Txt K mg) : PFR P w K mg base 4 "_law_mistyped" fr_mistyped := by
  obtain ⟨fd, F⟩ := T.f_mistyped
  refine ⟨_, fd, ["_law_book", "_law_name"], ?_, T.g_mistyped, F.kp, F.bindsN fun _ _ _ _ _ _ us hl => match us, hl with | [_, _], _ => rfl⟩
  refine F.ok sc_mistyped (fun vs H Q E h => ?_) (fun cdv A outer s H vs Q E hr h => ?_)
  · obtain ⟨G, R, a, β, us, ds, rfl, h1, h2, h3, h4, h5, q⟩ := h
    obtain ⟨n, rfl⟩ := s1_inv q
    rw [List.length_cons, h5.len]; rfl
  · refine sp_run (n := 2) (b := b_mistyped) (fun B => ?_) (fun a β ds => ?_) h
    · exact ⟨_, ss_cons (s_try (cs := csRota) (y := "RotaError") rfl rfl ⟨by rfl, by decide, .inl T.gh_RotaError⟩ takes0 (csRota_ok T)
        (fun w' pn xe tk => ss_one (s_exprX (sx_meth 0 tk (mm_add_rest T).exc hr (x_ac (se_var 1) (x_ac (se_tup (x_ac (se_neg (x_eb se_int)) (x_ac se_int sa_nil))) sa_nil)) (pv 0))))
        (fun a pn => ss_one (s_ret se_bool))) (ss_one (s_ret se_bool))⟩
    · cases hF : fr_mistyped β ds with
      | no => trivial
      | exc c =>
        exfalso
        unfold fr_mistyped s1 at hF
        split at hF
        · simp only at hF
          split at hF <;> cases hF
        · cases hF
      | ret d =>
        unfold fr_mistyped s1 at hF
        split at hF
        · rename_i n
          simp only at hF
          split at hF
          · rename_i c hc
            cases hF
            rw [runF_eq]
            have ec : csRota c = some true := by rcases addRest_exc hc with rfl | rfl <;> decide +kernel
            have e1 : fm_add_rest β [.str n, .tuple [.int (-5), .int 900000]] = .exc c := hc
            have er : rcv (only a β) [.val (refD a), .val (.str n)] 0 = some β := rcv_ref a β _ 0 rfl
            have ex : sDropX (xMeth (only a β) 0 (excOf fm_add_rest) (eCons (eVar 1) (eCons (eTupD (eCons (eUn gNeg (eC (.int 5))) (eCons (eC (.int 900000)) eNil))) eNil))) [.val (refD a), .val (.str n)] = .ex c [.val (refD a), .val (.str n)] := by
              unfold sDropX xMeth
              rw [er]
              simp [excOf, e1]
            simp [b_mistyped, rho0, sTry, ex, ec]
          · cases hF
        · cases hF
end
end RK
namespace RK
open PySem PySem.Spec PyProof.Rows L2 RT
section
variable {P : Program} {w : World} {K : PySem.W.Frag} {mg : Str → Option Value} {base : Heap}
def fr_missing (β : BookSt) : List PyData → Res := s3 fun n s k => match fr_may β [.str n, .str s, .str k] with
  | .exc c => if c = "Missing" then .ret (.bool true) else .no
  | .ret _ => .ret (.bool false)
  | .no => .no
abbrev N_missing : List Str := ["_law_book", "_law_name", "_law_shift", "_law_skill", "e", "_law_other"]
theorem sc_missing : FnScope N_missing ["_law_book", "_law_name", "_law_shift", "_law_skill"] (defScope s_missing) := ⟨rfl, rfl, rfl, by decide +kernel, rfl, by decide +kernel, by decide +kernel⟩
open Classical in
theorem pr_missing (T : Txt K mg) : PFR P w K mg base 3 "_law_missing" fr_missing := by
  obtain ⟨fd, F⟩ := T.f_missing
  obtain ⟨fm, fdm, psm, GM, me, bm⟩ := (mr_may (P := P) (w := w) (base := base) T).ex
  refine ⟨_, fd, ["_law_book", "_law_name", "_law_shift", "_law_skill"], ?_, T.g_missing, F.kp, F.bindsN fun _ _ _ _ _ _ us hl => match us, hl with | [_, _, _, _], _ => rfl⟩
  refine F.ok sc_missing (fun vs H Q E h => ?_) (fun cdv A outer s H vs Q E hr h => ?_)
  · obtain ⟨G, R, a, β, us, ds, rfl, h1, h2, h3, h4, h5, q⟩ := h
    obtain ⟨n, sn, k, rfl⟩ := s3_inv q
    rw [List.length_cons, h5.len]; rfl
  · obtain ⟨G, R, a, β, us, ds, rfl, h1, h2, h3, h4, h5, q⟩ := h
    obtain ⟨n, sn, k, rfl⟩ := s3_inv q
    obtain ⟨v1, v2, v3, rfl, r1, r2, r3⟩ := h5.three
    have := r1.s
    subst this
    have := r2.s
    subst this
    have := r3.s
    subst this
    have B0 := h4
    have hmay : bkNo "may" := bkNo_of (by decide +kernel)
    obtain ⟨dx, dS, dL, dR, dT, dN, ho⟩ := h4.ins h2
    refine ⟨_, PSs.nox (pss_cons (ps_try_as (i := 4) (tb := fun W => tDrop (tMethS (He.ga K "Book") "may" (spR K fr_may) (WE W) (tVar 0) (tCons (tVar 1) (tCons (tVar 2) (tCons (tVar 3) tNil)))))
      (ts := fun a' cls d => if cls = .ref (He.ga K "Missing") ∧ d = none then tSeq (tAsg (tCB (rIsET K (He.ga K "Missing") a') (tCons (tVar 4) (tCons (tTup (tCons (tC (.ref (He.ga K "BadName"))) (tCons (tC (.ref (He.ga K "BadStretch"))) (tCons (tC (.ref (He.ga K "BadCount"))) (tCons (tC (.ref (He.ga K "Twice"))) (tCons (tC (.ref (He.ga K "BadLine"))) tNil)))))) tNil))) (gName 5))
        (tRet (tAndV (tCB (rIsE K (He.ga K "Missing") a') (tCons (tVar 4) (tCons (tC (.ty "ValueError")) tNil))) (tAndV (tCB (rIsE K (He.ga K "Missing") a') (tCons (tVar 4) (tCons (tC (.ref (He.ga K "Missing"))) tNil))) (tNotV (tVar 5))))) else tNever) (Wout := fun _ _ _ _ => False)
      rfl rfl sc_missing.nd rfl rfl ⟨by rfl, by decide, .inl T.gh_RotaError⟩ takes0
      (fun W pn xe tk _ => pss_one (ps_expr (pe_methW tk (pv 0) T.cl_book me GM hr (by decide) bm (pa_cons (pv 1) (pa_cons (pv 2) (pa_cons (pv 3) pa_nil)))) rfl))
      (fun a' oe cls d pn hz hf => ?_))
      (pss_one (ps_ret pe_bl))), ?_⟩
    · by_cases hcd : cls = .ref (He.ga K "Missing") ∧ d = none
      · obtain ⟨rfl, rfl⟩ := hcd
        rw [if_pos ⟨rfl, rfl⟩]
        exact pss_cons (ps_set (i := 5) sc_missing.nd rfl (Or.inl rfl) (pe_callB (call_isET T.xe hz hf) (by rfl) T.z_isinstance (by decide +kernel) (pa_cons (pv 4) (pa_cons (pe_tup (pa_cons (pe_glob (by rfl) T.gl_BadName rfl (by decide)) (pa_cons (pe_glob (by rfl) T.gl_BadStretch rfl (by decide)) (pa_cons (pe_glob (by rfl) T.gl_BadCount rfl (by decide)) (pa_cons (pe_glob (by rfl) T.gl_Twice rfl (by decide)) (pa_cons (pe_glob (by rfl) T.gl_BadLine rfl (by decide)) pa_nil)))))) pa_nil))))
          (pss_one (ps_ret (pe_and (pe_callB (call_isE T.xe hz hf) (by rfl) T.z_isinstance (by decide +kernel) (pa_cons (pv 4) (pa_cons (pe_bltn (by rfl) T.z_ValueError (by decide +kernel) rfl (by decide) (by decide)) pa_nil)))
            (pe_and (pe_callB (call_isE T.xe hz hf) (by rfl) T.z_isinstance (by decide +kernel) (pa_cons (pv 4) (pa_cons (pe_glob (by rfl) T.e_Missing.g rfl (by decide)) pa_nil))) (pe_one (pe_not (pv 5)))))))
      · rw [if_neg hcd]
        exact pss_never
    · refine ⟨_, rfl, a, dx, _, rfl, ho, hmay _ _ _ _ _, _, rfl, _, rfl, _, rfl, G, R, a, β, _, [.str n, .str sn, .str k], rfl, h1, h2, h3, B0, .cons (.inl (.str n)) (.cons (.inl (.str sn)) (.cons (.inl (.str k)) .nil)), ?_⟩
      have q2 : (match fr_may β [.str n, .str sn, .str k] with
        | .exc c => if c = "Missing" then .ret (.bool true) else .no
        | .ret _ => .ret (.bool false)
        | .no => .no : Res).goes _ _ := q
      cases hm : fr_may β [.str n, .str sn, .str k] with
      | no => rw [hm] at q2; exact (show False from q2).elim
      | ret d =>
        rw [hm] at q2
        exact fun v H' G' g _ => q2 _ H' G' g (rp_bool _)
      | exc c =>
        rw [hm] at q2
        by_cases hc : c = "Missing"
        · subst hc
          have q3 : ∀ v H' G', Grow H G H' G' → Rp K G' v (.bool true) → Q v H' := by
            have : (if ("Missing" : Str) = "Missing" then Res.ret (.bool true) else .no).goes _ _ := q2
            rw [if_pos rfl] at this
            exact this
          intro H' G' g
          refine ⟨true, T.x_Missing_RotaError, fun _ a' ha' => ?_, fun z => Bool.noConfusion z⟩
          show (if Value.ref (He.ga K "Missing") = .ref (He.ga K "Missing") ∧ (none : Option Addr) = none then _ else _ : TS) _ _ _
          rw [if_pos ⟨rfl, rfl⟩]
          refine ⟨_, rfl, by show 5 ≤ sizeLine; decide, fun tp htp => ?_⟩
          refine ⟨tp, [He.ga K "BadName", He.ga K "BadStretch", He.ga K "BadCount", He.ga K "Twice", He.ga K "BadLine"], false, rfl, upd_same, T.ka, ?_⟩
          refine ⟨_, rfl, .ty "ValueError", .type "ValueError", true, rfl, fun u r => r, T.kv, _, rfl, ?_⟩
          refine iteT ?_
          refine ⟨_, rfl, .ref (He.ga K "Missing"), .ref (He.ga K "Missing"), true, rfl, fun u r => r, T.ks, _, rfl, ?_⟩
          refine iteT ?_
          refine ⟨_, rfl, _, rfl, ?_⟩
          exact q3 _ _ G' (g.beside htp) (rp_bool _)
        · have : (if c = "Missing" then Res.ret (.bool true) else .no).goes _ _ := q2
          rw [if_neg hc] at this
          exact (show False from this).elim
end
end RK
namespace RK
open PySem PySem.Spec PyProof.Rows L2 RT
section
variable {P : Program} {w : World} {K : PySem.W.Frag} {mg : Str → Option Value} {base : Heap}
abbrev N_law : List Str := ["_law_script", "_law_cell_here", "_law_begin", "_law_shift", "_law_skills", "_law_k", "_law_odd", "_law_own", "_law_rests", "_law_book", "_law_name", "_law_place", "_law_late", "_law_rest", "_law_skill", "_law_awake", "_law_found"]
theorem sc_law : FnScope N_law ["_law_script"] (defScope s_law) := ⟨rfl, rfl, rfl, by decide +kernel, rfl, by decide +kernel, by decide +kernel⟩
def b_law : SS := (sSeq (sSet 1 (eCall F_cell (eCons (eVar 0) (eCons (eC (.int 0)) eNil))))
  (sSeq (sSet 2 (eOp gAdd (eOp gIx (eList (eLstD (eCons (eC (.int 0)) (eCons (eC (.int 24)) (eCons (eC (.int 72)) (eCons (eOp gMul (eC (.int 24)) (eOp gAdd (eC (.int 30)) (eOp gMod (eOp gFdiv (eVarB 1) (eC (.int 3840))) (eC (.int 20000))))) eNil)))))) (eOp gMod (eVarB 1) (eC (.int 4)))) (eOp gMod (eOp gFdiv (eVarB 1) (eC (.int 4))) (eC (.int 24)))))
  (sSeq (sSet 3 (eTupD (eCons (eVar 2) (eCons (eOp gAdd (eOp gAdd (eVarB 2) (eC (.int 1))) (eOp gMod (eOp gFdiv (eVarB 1) (eC (.int 96))) (eOp gMinus (eC (.int 24)) (eOp gMod (eVarB 2) (eC (.int 24)))))) eNil))))
  (sSeq (sSetL 4 (lLc (iR1 (eCons (eC (.int 4)) eNil)) 5 tYesF (eCall F_name_by (eCons (eOp gMinus (eC (.int 92)) (eVarB 5)) (eCons (eOp gFdiv (eCall F_cell (eCons (eVar 0) (eCons (eC (.int 1)) eNil))) (eOp gAdd (eVarB 5) (eC (.int 1)))) eNil)))))
  (sSeq (sSet 6 (eList (eLstD (eCons (eC (.str "")) (eCons (eC (.str "a b")) (eCons (eC (.str " ")) (eCons (eC (.str "a\n")) (eCons (eOp gMul (eC (.str "b")) (eC (.int 21))) (eCons (eCall F_name_by (eCons (eC (.int 50)) (eCons (eVar 1) eNil))) (eCons (eCall F_name_by (eCons (eC (.int 51)) (eCons (eC (.int 0)) eNil))) eNil))))))))))
  (sSeq (sApp 4 (eOp gIx (eVarB 6) (eOp gMod (eCall F_cell (eCons (eVar 0) (eCons (eC (.int 9)) eNil))) (eC (.int 7)))))
  (sSeq (sSet 7 (eList (lLc (iR1 (eCons (eC (.int 4)) eNil)) 5 (bF (eOp gEq (eOp gMod (eOp gFdiv (eCall F_cell (eCons (eVar 0) (eCons (eC (.int 2)) eNil))) (eOp gIx (eList (eLstD (eCons (eC (.int 1)) (eCons (eC (.int 2)) (eCons (eC (.int 4)) (eCons (eC (.int 8)) eNil)))))) (eVarB 5))) (eC (.int 2))) (eC (.int 1)))) (eOp gIx (eVarB 4) (eVarB 5)))))
  (sSeq (sSet 8 (eList (lLc (iR1 (eCons (eOp gMod (eCall F_cell (eCons (eVar 0) (eCons (eC (.int 3)) eNil))) (eC (.int 4))) eNil)) 5 tYesF (eCall F_rest_by (eCons (eCall F_cell (eCons (eVar 0) (eCons (eOp gAdd (eC (.int 4)) (eVarB 5)) eNil))) (eCons (eVar 3) eNil))))))
  (sSeq (sMkB 9)
  (sSeq (sSet 10 (eCall F_name_by (eCons (eC (.int 3)) (eCons (eCall F_cell (eCons (eVar 0) (eCons (eC (.int 7)) eNil))) eNil))))
  (sSeq (sSet 11 (eCall F_name_by (eCons (eC (.int 4)) (eCons (eCall F_cell (eCons (eVar 0) (eCons (eC (.int 8)) eNil))) eNil))))
  (sSeq (sMut 9 fm_add_person (eCons (eVar 10) (eCons (eList (eCallL gListOf (eCons (eVarB 7) eNil))) (eCons (eOp gAdd (eC (.int 1)) (eOp gMod (eOp gFdiv (eCall F_cell (eCons (eVar 0) (eCons (eC (.int 2)) eNil))) (eC (.int 16))) (eC (.int 31)))) eNil))))
  (sSeq (sSet 12 (eOp gMod (eOp gFdiv (eCall F_cell (eCons (eVar 0) (eCons (eC (.int 3)) eNil))) (eC (.int 8))) (eOp gAdd (eCall gLen (eCons (eVarB 8) eNil)) (eC (.int 1)))))
  (sSeq (sFor (iL (eList (lSl (eVarB 8) (oSome (eVarB 12)) oNone))) (tg1 13) (sMut 9 fm_add_rest (eCons (eVar 10) (eCons (eVar 13) eNil))))
  (sSeq (sMut 9 fm_add_shift (eCons (eVar 11) (eCons (eVar 3) (eCons (eList (lSl (eList (eLstD (eCons (eTupD (eCons (eOp gIx (eVarB 4) (eC (.int 0))) (eCons (eC (.int 2)) eNil))) (eCons (eTupD (eCons (eOp gIx (eVarB 4) (eC (.int 1))) (eCons (eC (.int 1)) eNil))) eNil)))) oNone (oSome (eOp gAdd (eC (.int 1)) (eOp gMod (eOp gFdiv (eCall F_cell (eCons (eVar 0) (eCons (eC (.int 3)) eNil))) (eC (.int 4))) (eC (.int 2))))))) eNil))))
  (sSeq (sFrz (sFor (iL (eVar 4)) (tg1 14) (sDrop (eMeth noB.bk 9 fr_may (eCons (eVar 10) (eCons (eVar 11) (eCons (eVar 14) eNil)))))))
  (sSeq (sIf (tNotF (bF (eMeth noB.bk 9 fr_mistyped (eCons (eVar 10) eNil)))) (sRet (eC (.bool false))) sNext)
  (sSeq (sFor (iL (eList (lSl (eVarB 8) oNone (oSome (eVarB 12))))) (tg1 13) (sMut 9 fm_add_rest (eCons (eVar 10) (eCons (eVar 13) eNil))))
  (sSeq (sSet 15 (eOp gEq (eList (lLc (iL (eVarB 8)) 13 (bF (eOp gLt (eCall gMax (eCons (eOp gIx (eVarB 13) (eC (.int 0))) (eCons (eOp gIx (eVarB 3) (eC (.int 0))) eNil))) (eCall gMin (eCons (eOp gIx (eVarB 13) (eC (.int 1))) (eCons (eOp gIx (eVarB 3) (eC (.int 1))) eNil))))) (eVar 13))) (eList (eLstD eNil))))
  (sSeq (sFrz (sFor (iL (eVar 4)) (tg1 14) (sSeq (sSet 16 (eMeth noB.bk 9 fr_may (eCons (eVar 10) (eCons (eVar 11) (eCons (eVar 14) eNil)))))
  (sIf (tOrF (tNotF (bF (eIsi .bool (eVarB 16)))) (bF (eOp gNe (eVarB 16) (eAndF (eVar 15) (eOp gIn (eVarB 14) (eVarB 7)))))) (sRet (eC (.bool false))) sNext))))
  (sRet (eAndF (eMeth noB.bk 9 fr_missing (eCons (eVar 11) (eCons (eVar 11) (eCons (eOp gIx (eVarB 4) (eC (.int 0))) eNil)))) (eMeth noB.bk 9 fr_missing (eCons (eVar 10) (eCons (eVar 10) (eCons (eOp gIx (eVarB 4) (eC (.int 0))) eNil))))))))))))))))))))))))))
def F_law : List PyData → Option PyData := runF N_law 1 b_law
theorem okf_law (T : Txt K mg) {f : Addr} {fd : FuncData} (F : FunD K "law" "law" (defArgs s_law) (defBody s_law) (defScope s_law) [] [] f fd) : FnOk P w K mg base CX0 5 f fd ["_law_script"] (spPure K F_law) := by
  refine fn_mk (k := 4) F sc_law fun cdv A outer s H E hr => ?_
  have hu := hr.units
  have hv := hv_of hr
  exact ⟨_, ((ss_cons (s_set 1 sc_law.nd (se_call (ok_cell T) hr (x_ac (se_var 0) (x_ac se_int sa_nil))))
    (ss_cons (s_set 2 sc_law.nd (se_add (x_eb (se_ix (x_eb (x_le (sl_lst (x_ac se_int (x_ac se_int (x_ac se_int (x_ac (se_mul (x_eb se_int) (x_eb (se_add (x_eb se_int) (x_eb (se_mod (x_eb (se_fdiv (sb_var 1) (x_eb se_int))) (x_eb se_int)))))) sa_nil))))))) (x_eb (se_mod (sb_var 1) (x_eb se_int))))) (x_eb (se_mod (x_eb (se_fdiv (sb_var 1) (x_eb se_int))) (x_eb se_int)))))
    (ss_cons (s_set 3 sc_law.nd (se_tup (x_ac (se_var 2) (x_ac (se_add (x_eb (se_add (sb_var 2) (x_eb se_int))) (x_eb (se_mod (x_eb (se_fdiv (sb_var 1) (x_eb se_int))) (x_eb (se_sub (x_eb se_int) (x_eb (se_mod (sb_var 2) (x_eb se_int)))))))) sa_nil))))
    (ss_cons (s_setL 4 sc_law.nd (sl_lc (j := 5) rfl sc_law.nd rfl (x_ib (si_range1 T.z_range (x_abc (x_eb se_int) sab_nil))) (blkOk_by (N := N_law) (sc := defScope s_law) (own := [("_law_k", 5)]) (by decide +kernel)) (fun _ _ _ _ _ => sts_nil) (fun _ _ _ _ _ => (se_call (ok_name_by T) hr (x_ac (se_sub (x_eb se_int) (sb_var 5)) (x_ac (se_fdiv (x_eb (se_call (ok_cell T) hr (x_ac (se_var 0) (x_ac se_int sa_nil)))) (x_eb (se_add (sb_var 5) (x_eb se_int)))) sa_nil)))) (fun _ _ _ _ _ => pg_name sc_law.nd rfl (Or.inl rfl))))
    (ss_cons (s_set 6 sc_law.nd (x_le (sl_lst (x_ac se_str (x_ac se_str (x_ac se_str (x_ac se_str (x_ac (se_mul (x_eb se_str) (x_eb se_int)) (x_ac (se_call (ok_name_by T) hr (x_ac se_int (x_ac (se_var 1) sa_nil))) (x_ac (se_call (ok_name_by T) hr (x_ac se_int (x_ac se_int sa_nil))) sa_nil))))))))))
    (ss_cons (s_app 4 (se_ix (sb_var 6) (x_eb (se_mod (x_eb (se_call (ok_cell T) hr (x_ac (se_var 0) (x_ac se_int sa_nil)))) (x_eb se_int)))) (by exact (ps_expr (pe_bm PySem.F.plainAttrs_list PySem.F.slot_list_append PySem.F.type_list_append mt_append (pv 4) (pa_cons (x_pe (K := K) (se_ix (sb_var 6) (x_eb (se_mod (x_eb (se_call (ok_cell T) hr (x_ac (se_var 0) (x_ac se_int sa_nil)))) (x_eb se_int))))) pa_nil)))))
    (ss_cons (s_setLcE 7 (by exact (sl_lc (j := 5) rfl sc_law.nd rfl (x_ib (si_range1 T.z_range (x_abc (x_eb se_int) sab_nil))) (blkOk_by (N := N_law) (sc := defScope s_law) (own := [("_law_k", 5)]) (by decide +kernel)) (fun _ _ _ _ _ => (sts_one (st_cmp eq2_s (op_eq2 hu) (x_eb (se_mod (x_eb (se_fdiv (x_eb (se_call (ok_cell T) hr (x_ac (se_var 0) (x_ac se_int sa_nil)))) (x_eb (se_ix (x_eb (x_le (sl_lst (x_ac se_int (x_ac se_int (x_ac se_int (x_ac se_int sa_nil))))))) (sb_var 5))))) (x_eb se_int))) (x_eb se_int) (nomark _)))) (fun _ _ _ _ _ => (se_ix (sb_var 4) (sb_var 5))) (fun _ _ _ _ _ => pg_name sc_law.nd rfl (Or.inl rfl)))) (by exact (ps_setLc (i := 7) (own := [("_law_k", 5)]) (g := gName 5) rfl sc_law.nd rfl rfl (sw_true rfl rfl rfl (by decide +kernel)) (x_pi (K := K) (x_ib (si_range1 T.z_range (x_abc (x_eb se_int) sab_nil)))) (blkOk_by (N := N_law) (sc := defScope s_law) (own := [("_law_k", 5)]) (by decide +kernel)) (fun _ _ _ _ _ => pg_name sc_law.nd rfl (Or.inl rfl)) (fun _ _ _ _ _ => (pts_one (x_pt (K := K) (st_cmp eq2_s (op_eq2 hu) (x_eb (se_mod (x_eb (se_fdiv (x_eb (se_call (ok_cell T) hr (x_ac (se_var 0) (x_ac se_int sa_nil)))) (x_eb (se_ix (x_eb (x_le (sl_lst (x_ac se_int (x_ac se_int (x_ac se_int (x_ac se_int sa_nil))))))) (sb_var 5))))) (x_eb se_int))) (x_eb se_int) (nomark _))))) (fun _ _ _ _ _ => (x_pe (K := K) (se_ix (sb_var 4) (sb_var 5)))))))
    (ss_cons (s_setLcE 8 (by exact (sl_lc (j := 5) rfl sc_law.nd rfl (x_ib (si_range1 T.z_range (x_abc (x_eb (se_mod (x_eb (se_call (ok_cell T) hr (x_ac (se_var 0) (x_ac se_int sa_nil)))) (x_eb se_int))) sab_nil))) (blkOk_by (N := N_law) (sc := defScope s_law) (own := [("_law_k", 5)]) (by decide +kernel)) (fun _ _ _ _ _ => sts_nil) (fun _ _ _ _ _ => (se_call (ok_rest_by T) hr (x_ac (se_call (ok_cell T) hr (x_ac (se_var 0) (x_ac (se_add (x_eb se_int) (sb_var 5)) sa_nil))) (x_ac (se_var 3) sa_nil)))) (fun _ _ _ _ _ => pg_name sc_law.nd rfl (Or.inl rfl)))) (by exact (ps_setLc (i := 8) (own := [("_law_k", 5)]) (g := gName 5) rfl sc_law.nd rfl rfl (sw_true rfl rfl rfl (by decide +kernel)) (x_pi (K := K) (x_ib (si_range1 T.z_range (x_abc (x_eb (se_mod (x_eb (se_call (ok_cell T) hr (x_ac (se_var 0) (x_ac se_int sa_nil)))) (x_eb se_int))) sab_nil)))) (blkOk_by (N := N_law) (sc := defScope s_law) (own := [("_law_k", 5)]) (by decide +kernel)) (fun _ _ _ _ _ => pg_name sc_law.nd rfl (Or.inl rfl)) (fun _ _ _ _ _ => pts_nil) (fun _ _ _ _ _ => (x_pe (K := K) (se_call (ok_rest_by T) hr (x_ac (se_call (ok_cell T) hr (x_ac (se_var 0) (x_ac (se_add (x_eb se_int) (sb_var 5)) sa_nil))) (x_ac (se_var 3) sa_nil))))))))
    (ss_cons (s_mkB 9 rfl (by exact (ps_set (i := 9) sc_law.nd rfl (Or.inl rfl) (pe_book T hr (by decide)))))
    (ss_cons (s_set 10 sc_law.nd (se_call (ok_name_by T) hr (x_ac se_int (x_ac (se_call (ok_cell T) hr (x_ac (se_var 0) (x_ac se_int sa_nil))) sa_nil))))
    (ss_cons (s_set 11 sc_law.nd (se_call (ok_name_by T) hr (x_ac se_int (x_ac (se_call (ok_cell T) hr (x_ac (se_var 0) (x_ac se_int sa_nil))) sa_nil))))
    (ss_cons (s_mut 9 (mm_add_person T) hr (x_ac (se_var 10) (x_ac (x_le (sl_ct listOf_s call_list_of T.z_list (x_abc (sb_var 7) sab_nil))) (x_ac (se_add (x_eb se_int) (x_eb (se_mod (x_eb (se_fdiv (x_eb (se_call (ok_cell T) hr (x_ac (se_var 0) (x_ac se_int sa_nil)))) (x_eb se_int))) (x_eb se_int)))) sa_nil))) (pv 9))
    (ss_cons (s_set 12 sc_law.nd (se_mod (x_eb (se_fdiv (x_eb (se_call (ok_cell T) hr (x_ac (se_var 0) (x_ac se_int sa_nil)))) (x_eb se_int))) (x_eb (se_add (x_eb (se_cb len_s call_len T.z_len (x_abc (sb_var 8) sab_nil))) (x_eb se_int)))))
    (ss_cons (s_for PassesOwn.never rfl (si_list (x_le (sl_sl (sb_var 8) (so_some (sb_var 12)) so_none))) (pg_name (i := 13) sc_law.nd rfl (by first | exact Or.inl rfl | exact Or.inr rfl)) (tg1_ok 13) (ss_one (s_mut 9 (mm_add_rest T) hr (x_ac (se_var 10) (x_ac (se_var 13) sa_nil)) (pv 9))))
    (ss_cons (s_mut 9 (mm_add_shift T) hr (x_ac (se_var 11) (x_ac (se_var 3) (x_ac (x_le (sl_sl (x_eb (x_le (sl_lst (x_ac (se_tup (x_ac (se_ix (sb_var 4) (x_eb se_int)) (x_ac se_int sa_nil))) (x_ac (se_tup (x_ac (se_ix (sb_var 4) (x_eb se_int)) (x_ac se_int sa_nil))) sa_nil))))) so_none (so_some (x_eb (se_add (x_eb se_int) (x_eb (se_mod (x_eb (se_fdiv (x_eb (se_call (ok_cell T) hr (x_ac (se_var 0) (x_ac se_int sa_nil)))) (x_eb se_int))) (x_eb se_int)))))))) sa_nil))) (pv 9))
    (ss_cons (s_frz (s_for PassesOwn.never rfl (si_list (se_var 4)) (pg_name (i := 14) sc_law.nd rfl (by first | exact Or.inl rfl | exact Or.inr rfl)) (tg1_ok 14) (ss_one (s_expr (se_meth 9 (mr_may T) hr (x_ac (se_var 10) (x_ac (se_var 11) (x_ac (se_var 14) sa_nil))) (pv 9))))))
    (ss_cons (s_if (st_not (st_val (se_callR 9 (pr_mistyped T) hr (x_ac (se_var 10) sa_nil) (pv 9)))) (ss_one (s_ret se_bool)) ss_nil)
    (ss_cons (s_for PassesOwn.never rfl (si_list (x_le (sl_sl (sb_var 8) so_none (so_some (sb_var 12))))) (pg_name (i := 13) sc_law.nd rfl (by first | exact Or.inl rfl | exact Or.inr rfl)) (tg1_ok 13) (ss_one (s_mut 9 (mm_add_rest T) hr (x_ac (se_var 10) (x_ac (se_var 13) sa_nil)) (pv 9))))
    (ss_cons (s_set 15 sc_law.nd (se_cmp eq2_s (op_eq2 hu) (x_eb (x_le (sl_lc (j := 13) rfl sc_law.nd rfl (si_listB (sb_var 8)) (blkOk_by (N := N_law) (sc := defScope s_law) (own := [("_law_rest", 13)]) (by decide +kernel)) (fun _ _ _ _ _ => (sts_one (st_cmp lt_s op_lt (x_eb (se_cb max_s (call_max2 rfl) T.z_max (x_abc (x_eb (se_ix (sb_var 13) (x_eb se_int))) (x_abc (x_eb (se_ix (sb_var 3) (x_eb se_int))) sab_nil)))) (x_eb (se_cb min_s (call_min2 rfl) T.z_min (x_abc (x_eb (se_ix (sb_var 13) (x_eb se_int))) (x_abc (x_eb (se_ix (sb_var 3) (x_eb se_int))) sab_nil)))) (nomark _)))) (fun _ _ _ _ _ => (se_var 13)) (fun _ _ _ _ _ => pg_name sc_law.nd rfl (Or.inl rfl))))) (x_eb (x_le (sl_lst sa_nil))) (nomark _)))
    (ss_cons (s_frz (s_for PassesOwn.never rfl (si_list (se_var 4)) (pg_name (i := 14) sc_law.nd rfl (by first | exact Or.inl rfl | exact Or.inr rfl)) (tg1_ok 14) (ss_cons (s_set 16 sc_law.nd (se_meth 9 (mr_may T) hr (x_ac (se_var 10) (x_ac (se_var 11) (x_ac (se_var 14) sa_nil))) (pv 9)))
    (ss_one (s_if (x_wt (sw_or (st_not (st_val (se_isi .bool T.z_isinstance T.z_bool (sb_var 16)))) (sw_or1 (st_cmp ne2_s (op_ne2 hu) (sb_var 16) (x_eb (se_and (se_var 15) (se_one (se_cmp in2_s (op_in2 hv) (sb_var 14) (sb_var 7) (by rfl))))) (nomark _))))) (ss_one (s_ret se_bool)) ss_nil)))))
    (ss_one (s_ret (se_and (se_callR 9 (pr_missing T) hr (x_ac (se_var 11) (x_ac (se_var 11) (x_ac (se_ix (sb_var 4) (x_eb se_int)) sa_nil))) (pv 9)) (se_one (se_callR 9 (pr_missing T) hr (x_ac (se_var 10) (x_ac (se_var 10) (x_ac (se_ix (sb_var 4) (x_eb se_int)) sa_nil))) (pv 9)))))))))))))))))))))))))))⟩
def lawLevel : Nat := 5
end
end RK
namespace RK
open PySem PySem.Spec PyProof.Rows L2 RT
theorem F_cell_eq (ns : List Int) (k : Nat) : F_cell [scrD ns, .int (k : Nat)] = some (.int (cell ns k)) := by
  have h := cell_ev ns k
  unfold F_cell
  rw [runF_eq]
  simp [b_cell, rho0, scrD, lSl, oSome, cutA_one] at h ⊢
  rw [h]
  rfl
def sg1 : Str := "!\"#$&'()*+,-./0123456789:;<=>?"
def sg2 : Str := "@ABCDEFGHIJKLMNOPQRSTUVWXYZ[\\]^_`"
def sg3 : Str := "abcdefghijklmnopqrstuvwxyz{|}~"
def sgs : Str := sg1 ++ sg2 ++ sg3
theorem sgs_len : sgs.length = 93 := by decide +kernel
theorem sg1_len : sg1.length = 30 := by decide +kernel
theorem sg2_len : sg2.length = 33 := by decide +kernel
theorem sg3_len : sg3.length = 30 := by decide +kernel
def sg (c : Int) : Nat := (sgs.cps.toList[(c % 93).toNat]?).getD 0
theorem sg_at (c : Int) : atI sgs.cps.toList (c % 93) = some (sg c) ∧ sg c ∈ sgs.cps.toList := by
  have hl : sgs.cps.toList.length = 93 := by
    have h := sgs_len
    simpa [Str.length] using h
  obtain ⟨x, h1, h2⟩ := atI_mod sgs.cps.toList c 93 (by rw [hl]; rfl) (by decide)
  have e : sg c = x := by
    rw [atI_pos _ _ (Int.emod_nonneg _ (by decide))] at h2
    unfold sg
    rw [h2]; rfl
  rw [e]
  exact ⟨h2, h1⟩
theorem F_sign_eq (c : Int) : F_sign [.int c] = some (.str ⟨#[sg c]⟩) := by
  have e1 : gAdd (.str sg1) (.str sg2) = some (.str (sg1 ++ sg2)) := by
    rw [gAdd_strE, if_pos (by rw [sg1_len, sg2_len]; decide)]
  have e2 : gAdd (.str (sg1 ++ sg2)) (.str sg3) = some (.str sgs) := by
    rw [gAdd_strE, if_pos (by decide +kernel)]
    rfl
  have e3 : gIx (.str sgs) (.int (c % 93)) = some (.str ⟨#[sg c]⟩) := by
    rw [gIx_str _ _ (by rw [sgs_len]; decide), (sg_at c).1]
    rfl
  unfold F_sign
  rw [runF_eq]
  simp [b_sign, rho0]
  rw [show ("!\"#$&'()*+,-./0123456789:;<=>?" : Str) = sg1 from rfl, show ("@ABCDEFGHIJKLMNOPQRSTUVWXYZ[\\]^_`" : Str) = sg2 from rfl, show ("abcdefghijklmnopqrstuvwxyz{|}~" : Str) = sg3 from rfl, e1]
  simp [e2, e3]
def SGN : Str := "!\"#$&'()*+,-./0123456789:;<=>?@ABCDEFGHIJKLMNOPQRSTUVWXYZ[\\]^_`abcdefghijklmnopqrstuvwxyz{|}~"
/-- whether a text is a name -/
def isName (z : Str) : Bool := decide (1 ≤ z.length) && decide (z.length ≤ 20) && z.cps.toList.all fun c => decide (c ∈ SGN.cps.toList)
theorem gNotIn_sign (c : Nat) (z : Str) : gNotIn (.str ⟨#[c]⟩) (.str z) = some (.bool (!decide (c ∈ z.cps.toList))) := rfl
theorem F_is_name_eq (z : Str) (hz : z.length ≤ LIM) : F_is_name [.str z] = some (.bool (isName z)) := by
  unfold F_is_name
  rw [runF_eq]
  obtain ⟨s', r', e⟩ := forF_find0 (j := 1) (ρ := [.val (.str z), .no]) (r := .bool false) (body := (sIf (bF (eOp gNotIn (eVarB 1) (eC (.str "!\"#$&'()*+,-./0123456789:;<=>?@ABCDEFGHIJKLMNOPQRSTUVWXYZ[\\]^_`abcdefghijklmnopqrstuvwxyz{|}~")))) (sRet (eC (.bool false))) sNext))
    (fun d => match d with | .str x => !x.cps.toList.all fun c => decide (c ∈ SGN.cps.toList) | _ => true) (ds := signsD z) (by simp) (fun d hd => by
      obtain ⟨c, _, rfl⟩ := mem_signsD hd
      rw [show ("!\"#$&'()*+,-./0123456789:;<=>?@ABCDEFGHIJKLMNOPQRSTUVWXYZ[\\]^_`abcdefghijklmnopqrstuvwxyz{|}~" : Str) = SGN from rfl]
      simp [gNotIn_sign])
  have e2 : ((signsD z).any fun d => match d with | .str x => !x.cps.toList.all fun c => decide (c ∈ SGN.cps.toList) | _ => true) = !z.cps.toList.all fun c => decide (c ∈ SGN.cps.toList) := by
    unfold signsD
    rw [List.any_map, List.all_eq_not_any_not, Bool.not_not]
    congr 1
    funext c
    simp
  rw [e2] at e
  unfold isName
  generalize (z.cps.toList.all fun c => decide (c ∈ SGN.cps.toList)) = b at e ⊢
  simp [b_is_name, rho0, N_is_name, sgD_str z hz, hz, e]
  cases b <;> simp <;> (repeat' split) <;> simp_all <;> omega
/-! joined signs -/
theorem join_ones : ∀ cs : List Nat, Txt.join "" (cs.map fun c => (⟨#[c]⟩ : Str)) = ⟨cs.toArray⟩ := by
  intro cs
  rw [TL.join_eq]
  have h : ∀ cs : List Nat, (Str.join "" (cs.map fun c => (⟨#[c]⟩ : Str))).cps.toList = cs := by
    intro cs
    induction cs with
    | nil => rfl
    | cons c r ih =>
      cases r with
      | nil => rfl
      | cons d r =>
        show ((⟨#[c]⟩ : Str) ++ "" ++ Str.join "" ((d :: r).map fun c => (⟨#[c]⟩ : Str))).cps.toList = _
        have e : ∀ x y : Str, (x ++ y).cps.toList = x.cps.toList ++ y.cps.toList := fun x y => by
          show (x.cps ++ y.cps).toList = _
          simp
        rw [e, e, ih]
        rfl
  have e := h cs
  cases hh : Str.join "" (cs.map fun c => (⟨#[c]⟩ : Str)) with
  | mk a =>
    rw [hh] at e
    rw [← e]

theorem sg_mem (c : Int) : sg c ∈ SGN.cps.toList := by
  have h := (sg_at c).2
  rw [show SGN.cps.toList = sgs.cps.toList from by decide +kernel]
  exact h
theorem isName_codes (cs : List Nat) : isName ⟨cs.toArray⟩ = (decide (1 ≤ cs.length) && decide (cs.length ≤ 20) && cs.all fun c => decide (c ∈ SGN.cps.toList)) := by
  simp [isName, Str.length]
theorem gJoin_ones (cs : List Nat) (h : cs.length ≤ LIM) : gJoin (.str "") (.list (cs.map fun c => PyData.str ⟨#[c]⟩)) = some (.str ⟨cs.toArray⟩) := by
  have e := gJoin_strs "" (cs.map fun c => (⟨#[c]⟩ : Str)) (by
    rw [List.map_map]
    have : ((cs.map ((·.length) ∘ fun c => (⟨#[c]⟩ : Str))).sum) = cs.length := by
      induction cs with
      | nil => rfl
      | cons c r ih => 
        have := ih (by simp at h ⊢; omega)
        simp [Str.length] at this ⊢
        omega
    rw [this]
    simpa [Str.length, show (Str.ofString "").cps.size = 0 from rfl] using h)
  rw [join_ones, List.map_map] at e
  exact e
/-! names by a place and a cell -/
def nameC (p c : Int) : List Nat := (List.range (c % 20).toNat).map (fun (k : Nat) => sg (c / 20 + 5 * (k : Int) * (c % 7))) ++ [sg p]
theorem nameC_len (p c : Int) : 1 ≤ (nameC p c).length ∧ (nameC p c).length ≤ 20 := by
  have h1 := Int.emod_nonneg c (show (20 : Int) ≠ 0 by decide)
  have h2 := Int.emod_lt_of_pos c (show (0 : Int) < 20 by decide)
  simp only [nameC, List.length_append, List.length_map, List.length_range, List.length_singleton]
  omega
theorem nameC_mem {p c : Int} {x : Nat} (h : x ∈ nameC p c) : x ∈ SGN.cps.toList := by
  simp only [nameC, List.mem_append, List.mem_map, List.mem_singleton] at h
  rcases h with ⟨i, _, rfl⟩ | rfl <;> exact sg_mem _
theorem SGN_rng {x : Nat} (h : x ∈ SGN.cps.toList) : 33 ≤ x ∧ x ≤ 126 := by
  have : (SGN.cps.toList.all fun x => decide (33 ≤ x) && decide (x ≤ 126)) = true := by decide +kernel
  rw [List.all_eq_true] at this
  simpa using this x h
def nameS (p c : Int) : Str := ⟨(nameC p c).toArray⟩
theorem nameS_ok (p c : Int) : isName (nameS p c) = true := by
  have h := nameC_len p c
  unfold nameS
  rw [isName_codes, decide_eq_true h.1, decide_eq_true h.2, Bool.true_and, Bool.true_and, List.all_eq_true]
  intro x hx
  exact decide_eq_true (nameC_mem hx)
theorem F_name_by_eq (p c : Int) : F_name_by [.int p, .int c] = some (.str (nameS p c)) := by
  have n0 := Int.emod_nonneg c (show (20 : Int) ≠ 0 by decide)
  have n1 := Int.emod_lt_of_pos c (show (0 : Int) < 20 by decide)
  have e : lcF 3 tYesF (eCall F_sign (eCons (eOp gAdd (eOp gFdiv (eVarB 1) (eC (.int 20))) (eOp gMul (eOp gMul (eC (.int 5)) (eVarB 3)) (eOp gMod (eVarB 1) (eC (.int 7))))) eNil)) [.val (.int p), .val (.int c), .no, .no] (rangeD 0 (c % 20).toNat) = some (((List.range (c % 20).toNat).map fun (k : Nat) => sg (c / 20 + 5 * (k : Int) * (c % 7))).map fun c => PyData.str ⟨#[c]⟩) := by
    rw [lcF_map (fun d => match d with | .int i => .str ⟨#[sg (c / 20 + 5 * i * (c % 7))]⟩ | _ => .none)]
    · congr 1
      simp [rangeD]
    · intro d hd
      obtain ⟨i, hi, rfl⟩ := mem_rangeD hd
      have m1 : gMul (.int 5) (.int (0 + (i : Int))) = some (.int (5 * (0 + (i : Int)))) := gMul_int _ _ (cMul_l (by decide))
      have m2 : gMul (.int (5 * (0 + (i : Int)))) (.int (c % 7)) = some (.int (5 * (0 + (i : Int)) * (c % 7))) := gMul_int _ _ (cMul_l (by omega))
      rw [Int.zero_add] at m1 m2 ⊢
      simp [m1, m2, F_sign_eq]
  have gj := gJoin_ones ((List.range (c % 20).toNat).map fun (k : Nat) => sg (c / 20 + 5 * (k : Int) * (c % 7))) (by simp [LIM]; omega)
  have b1 : c % 20 ≤ 1000000 := by omega
  have b2 : -1000000 ≤ c % 20 := by omega
  have b3 : (c % 20).toNat ≤ LIM := by unfold LIM; omega
  have ga : gAdd (.str ⟨((List.range (c % 20).toNat).map fun (k : Nat) => sg (c / 20 + 5 * (k : Int) * (c % 7))).toArray⟩) (.str ⟨#[sg p]⟩) = some (.str (nameS p c)) := by
    rw [gAdd_str]
    · congr 2
      exact SX.S_cat _ _
    · simp [Str.length, LIM]; omega
  unfold F_name_by
  rw [runF_eq]
  simp only [List.map_map] at e gj
  simp [b_name_by, rho0, N_name_by, b1, b2, b3, e, gj, F_sign_eq, ga]
end RK
namespace RK
open PySem PySem.Spec PyProof.Rows L2 RT
/-! ### the plain law: parts -/
theorem nameS_ne {p p' : Int} (h : sg p ≠ sg p') (c c' : Int) : nameS p c ≠ nameS p' c' := fun e => by
  have := SX.S_inj (show SX.S (nameC p c) = SX.S (nameC p' c') from e)
  have h2 := congrArg List.getLast? this
  simp only [nameC, List.getLast?_append, List.getLast?_singleton, Option.or_some, Option.some_or] at h2
  simp at h2
  exact h h2
theorem nameS_len (p c : Int) : (nameS p c).length ≤ 20 := by
  have := (nameC_len p c).2
  show (SX.S (nameC p c)).length ≤ 20
  rw [SX.S_len]
  exact this
theorem nameB_S (p c : Int) : nameB (nameS p c) = some true := by
  unfold nameB
  rw [F_is_name_eq _ (Nat.le_trans (nameS_len p c) (by decide)), nameS_ok]
theorem skErr_ok : ∀ (l seen : List Str), (∀ k ∈ l, nameB k = some true) → (seen ++ l).Nodup → skErr seen l = some none
  | [], _, _, _ => rfl
  | k :: l, seen, h, nd => by
    have h1 := h k List.mem_cons_self
    have hk : k ∉ seen := fun hm => by
      rw [List.nodup_append] at nd
      exact nd.2.2 k hm k List.mem_cons_self rfl
    have nd2 : (seen ++ [k] ++ l).Nodup := by
      rw [List.append_assoc]
      exact nd
    simp only [skErr, h1, if_neg hk]
    exact skErr_ok l (seen ++ [k]) (fun x hx => h x (List.mem_cons_of_mem _ hx)) nd2
theorem F_is_whole_int (i : Int) : F_is_whole [.int i] = some (.bool true) := by
  unfold F_is_whole; rw [runF_eq]; simp [b_is_whole, rho0]
theorem numOk_int (m i : Int) : numOk m (.int i) = some (if 1 ≤ i ∧ i ≤ m then some i else none) := by
  unfold numOk; rw [F_is_whole_int]
theorem st2 (x y : Int) : F_is_stretch [stD (x, y)] = some (.bool (decide (0 ≤ x) && decide (x < y) && decide (y ≤ 1000000))) := by
  unfold F_is_stretch stD; rw [runF_eq]
  by_cases h1 : 0 ≤ x <;> by_cases h2 : x < y <;> by_cases h3 : y ≤ 1000000 <;> simp [b_is_stretch, rho0, F_is_whole_int, h1, h2, h3]
theorem isSt_st (x y : Int) : isSt (stD (x, y)) = some (if 0 ≤ x ∧ x < y ∧ y ≤ 1000000 then some (x, y) else none) := by
  unfold isSt
  rw [st2]
  by_cases h1 : 0 ≤ x <;> by_cases h2 : x < y <;> by_cases h3 : y ≤ 1000000 <;> simp [h1, h2, h3, stD]
theorem oneDay_eq (x y : Int) : oneDay (x, y) = some ((y - 1) / 24 == x / 24) := by
  unfold oneDay F_in_one_day stD; rw [runF_eq]
  simp [b_in_one_day, rho0]
def restOf (c b e : Int) : Int × Int :=
  if c % 5 = 0 then (e, e + (1 + c / 5 % 30)) else if c % 5 = 1 ∧ 0 < b then (if b - (1 + c / 5 % 30) > 0 then b - (1 + c / 5 % 30) else 0, b)
  else if c % 5 = 2 then (e - 1, e + (1 + c / 5 % 30)) else (b / 24 * 24 + c / 150 % 40, b / 24 * 24 + c / 150 % 40 + (1 + c / 5 % 30))
theorem F_rest_by_eq (c b e : Int) (h : (b / 24).natAbs ≤ 1000000000) : F_rest_by [.int c, stD (b, e)] = some (stD (restOf c b e)) := by
  have m : gMul (.int (b / 24)) (.int 24) = some (.int (b / 24 * 24)) := gMul_int _ _ (cMul_l h)
  unfold F_rest_by restOf stD; rw [runF_eq]
  by_cases h0 : c % 5 = 0
  · simp [b_rest_by, rho0, h0]
  · by_cases h1 : c % 5 = 1
    · by_cases hb : 0 < b
      · simp [b_rest_by, rho0, h1, hb]
      · simp [b_rest_by, rho0, h1, hb, m]
    · by_cases h2 : c % 5 = 2
      · simp [b_rest_by, rho0, h2]
      · simp [b_rest_by, rho0, h0, h1, h2, m]
theorem restOf_ok (c b e : Int) (h0 : 0 ≤ b) (h1 : b < e) (h2 : e ≤ 900000) : 0 ≤ (restOf c b e).1 ∧ (restOf c b e).1 < (restOf c b e).2 ∧ (restOf c b e).2 ≤ 1000000 := by
  unfold restOf
  split
  · simp only; omega
  · split
    · simp only; split <;> omega
    · split
      · simp only; omega
      · simp only; omega
theorem restB_one (n : Str) (o : List Str) (l : Int) (L : List (Int × Int)) (S : List Shift) (r : Int × Int) : restB ⟨[⟨n, o, l, L⟩], S⟩ n r = ⟨[⟨n, o, l, L ++ [r]⟩], S⟩ := by simp [restB, restP]
theorem addRest_one (n : Str) (o : List Str) (l : Int) (L : List (Int × Int)) (S : List Shift) (r : Int × Int) (h : 0 ≤ r.1 ∧ r.1 < r.2 ∧ r.2 ≤ 1000000) (hl : L.length < 1000) : addRest ⟨[⟨n, o, l, L⟩], S⟩ n (stD r) = .done ⟨[⟨n, o, l, L ++ [r]⟩], S⟩ .none := by
  obtain ⟨x, y⟩ := r
  unfold addRest
  have : findP ⟨[⟨n, o, l, L⟩], S⟩ n = some ⟨n, o, l, L⟩ := by simp [findP]
  rw [this, isSt_st, if_pos h]
  simp only [if_pos hl, restB_one]
theorem noObj_cons2 (s : Sl) (ρ : Rho) (h : noObj [s] = true) : noObj (s :: ρ) = noObj ρ := by
  unfold noObj at h ⊢
  simp only [List.all_cons, List.all_nil, Bool.and_true] at h ⊢
  rw [h, Bool.true_and]
def pl1 : Sl → Bool
  | .no => true
  | .val _ => true
  | _ => false
theorem pl1_no {s : Sl} (h : pl1 s = true) : noObj [s] = true := by
  cases s <;> first | rfl | cases h
theorem pl1_fr {s : Sl} (h : pl1 s = true) : frz1 s = s := by
  cases s <;> first | rfl | cases h
def rhoL (ns : List Int) (d1 d2 d3 : PyData) (l4 : Sl) (d6 d7 d8 : PyData) (β : BookSt) (d10 d11 d12 : PyData) (s13 s14 s15 s16 : Sl) : Rho := [.val (scrD ns), .val d1, .val d2, .val d3, l4, .no, .val d6, .val d7, .val d8, .obj (.book β), .val d10, .val d11, .val d12, s13, s14, s15, s16]
theorem loopRest (ns : List Int) (d1 d2 d3 : PyData) (l4 : Sl) (d6 d7 d8 d11 d12 : PyData) (n : Str) (o : List Str) (l : Int) (S : List Shift) (s14 s15 s16 : Sl) (h14 : pl1 s14 = true) (h15 : pl1 s15 = true) (h16 : pl1 s16 = true) (h4 : noObj [l4] = true) :
    ∀ (rs L : List (Int × Int)) (s13 : Sl), pl1 s13 = true → (∀ r ∈ rs, 0 ≤ r.1 ∧ r.1 < r.2 ∧ r.2 ≤ 1000000) → (L ++ rs).length < 1000 →
    ∃ s13', pl1 s13' = true ∧ forF (tg1 13) (sMut 9 fm_add_rest (eCons (eVar 10) (eCons (eVar 13) eNil))) (rs.map stD) (rhoL ns d1 d2 d3 l4 d6 d7 d8 ⟨[⟨n, o, l, L⟩], S⟩ (.str n) d11 d12 s13 s14 s15 s16) = .nx (rhoL ns d1 d2 d3 l4 d6 d7 d8 ⟨[⟨n, o, l, L ++ rs⟩], S⟩ (.str n) d11 d12 s13' s14 s15 s16)
  | [], L, s13, h13, _, _ => ⟨s13, h13, by rw [List.append_nil]; rfl⟩
  | r :: rs, L, s13, h13, hr, hl => by
    have h1 := addRest_one n o l L S r (hr r List.mem_cons_self) (by simp at hl; omega)
    have e1 : fm_add_rest ⟨[⟨n, o, l, L⟩], S⟩ [.str n, stD r] = .done ⟨[⟨n, o, l, L ++ [r]⟩], S⟩ .none := h1
    obtain ⟨s13', h13', e⟩ := loopRest ns d1 d2 d3 l4 d6 d7 d8 d11 d12 n o l S s14 s15 s16 h14 h15 h16 h4 rs (L ++ [r]) (.val (stD r)) rfl (fun x hx => hr x (List.mem_cons_of_mem _ hx)) (by simp at hl ⊢; omega)
    refine ⟨s13', h13', ?_⟩
    rw [List.map_cons, forF_cons1]
    have n14 := noObj_cons2 s14 [s15, s16] (pl1_no h14)
    have n15 := noObj_cons2 s15 [s16] (pl1_no h15)
    have n4 := fun ρ => noObj_cons2 l4 ρ h4
    have st : sMut 9 fm_add_rest (eCons (eVar 10) (eCons (eVar 13) eNil)) ((rhoL ns d1 d2 d3 l4 d6 d7 d8 ⟨[⟨n, o, l, L⟩], S⟩ (.str n) d11 d12 s13 s14 s15 s16).set 13 (.val (stD r))) = .nx (rhoL ns d1 d2 d3 l4 d6 d7 d8 ⟨[⟨n, o, l, L ++ [r]⟩], S⟩ (.str n) d11 d12 (.val (stD r)) s14 s15 s16) := by
      have n16 := pl1_no h16
      simp [rhoL, e1, n14, n15, n16, n4]
    rw [st, thn_nx, e]
    rw [List.append_assoc]
    rfl
end RK
namespace RK
open PySem PySem.Spec PyProof.Rows L2 RT
theorem cutA_from {α : Type} (l : List α) (k : Nat) : cutA l (some (k : Int)) none = l.drop k := by
  unfold cutA
  rw [HT.sIx_nat]
  show (l.drop (min k l.length)).take (l.length - min k l.length) = l.drop k
  rw [List.take_of_length_le (by simp)]
  by_cases h : k ≤ l.length
  · rw [Nat.min_eq_left h]
  · rw [Nat.min_eq_right (by omega), List.drop_length, List.drop_eq_nil_of_le (by omega)]
theorem cutA_to {α : Type} (l : List α) (k : Nat) : cutA l none (some (k : Int)) = l.take k := by
  unfold cutA
  rw [HT.sIx_nat]
  show (l.drop 0).take (min k l.length - 0) = l.take k
  rw [List.drop_zero, Nat.sub_zero]
  by_cases h : k ≤ l.length
  · rw [Nat.min_eq_left h]
  · rw [Nat.min_eq_right (by omega), List.take_length, List.take_of_length_le (by omega)]
def nm4 (ns : List Int) (k : Int) : Str := nameS (92 - k) (cell ns 1 / (k + 1))
def pOwn (ns : List Int) : PyData → Bool
  | .int 0 => decide (cell ns 2 % 2 = 1)
  | .int 1 => decide (cell ns 2 / 2 % 2 = 1)
  | .int 2 => decide (cell ns 2 / 4 % 2 = 1)
  | .int 3 => decide (cell ns 2 / 8 % 2 = 1)
  | _ => false
def gOwn (ns : List Int) : PyData → Str
  | .int k => nm4 ns k
  | _ => ""
def ownL (ns : List Int) : List Str := ((rangeD 0 4).filter (pOwn ns)).map (gOwn ns)
def limO (ns : List Int) : Int := 1 + cell ns 2 / 16 % 31
def rsL (ns : List Int) (b e : Int) : List (Int × Int) := (List.range (cell ns 3 % 4).toNat).map fun (k : Nat) => restOf (cell ns (4 + k)) b e
theorem range4 : rangeD 0 4 = [.int 0, .int 1, .int 2, .int 3] := rfl
theorem sg4 : sg 92 ≠ sg 91 ∧ sg 92 ≠ sg 90 ∧ sg 92 ≠ sg 89 ∧ sg 91 ≠ sg 90 ∧ sg 91 ≠ sg 89 ∧ sg 90 ≠ sg 89 ∧ sg 3 ≠ sg 4 := by decide +kernel
theorem nm4_list (ns : List Int) : [nm4 ns 0, nm4 ns 1, nm4 ns 2, nm4 ns 3].Nodup := by
  obtain ⟨h1, h2, h3, h4, h5, h6, _⟩ := sg4
  simp only [List.nodup_cons, List.mem_cons, List.not_mem_nil, or_false, not_or, List.nodup_nil, and_true, not_false_eq_true]
  exact ⟨⟨nameS_ne h1 _ _, nameS_ne h2 _ _, nameS_ne h3 _ _⟩, ⟨nameS_ne h4 _ _, nameS_ne h5 _ _⟩, nameS_ne h6 _ _⟩
theorem ownL_ok (ns : List Int) : (∀ k ∈ ownL ns, nameB k = some true) ∧ (ownL ns).Nodup ∧ (ownL ns).length ≤ 4 := by
  refine ⟨fun k hk => ?_, ?_, ?_⟩
  · obtain ⟨d, hd, rfl⟩ := List.mem_map.mp hk
    have := (List.mem_filter.mp hd).1
    rw [range4] at this
    simp only [List.mem_cons, List.not_mem_nil, or_false] at this
    rcases this with rfl | rfl | rfl | rfl <;> exact nameB_S _ _
  · have : (((rangeD 0 4).filter (pOwn ns)).map (gOwn ns)).Sublist ((rangeD 0 4).map (gOwn ns)) := List.Sublist.map _ List.filter_sublist
    exact this.nodup (by rw [range4]; exact nm4_list ns)
  · unfold ownL
    rw [List.length_map]
    exact Nat.le_trans (List.length_filter_le _ _) (by rw [range4]; decide)
theorem e4 (ns : List Int) (ρ : Rho) (h0 : ρ[0]? = some (.val (scrD ns))) (hl : 5 < ρ.length) : lcF 5 tYesF (eCall F_name_by (eCons (eOp gMinus (eC (.int 92)) (eVarB 5)) (eCons (eOp gFdiv (eCall F_cell (eCons (eVar 0) (eCons (eC (.int 1)) eNil))) (eOp gAdd (eVarB 5) (eC (.int 1)))) eNil))) ρ (rangeD 0 4) = some [.str (nm4 ns 0), .str (nm4 ns 1), .str (nm4 ns 2), .str (nm4 ns 3)] := by
  have c1 := F_cell_eq ns 1
  simp only [Int.cast_ofNat_Int] at c1
  have g0 : ∀ d, (ρ.set 5 (.val d))[0]? = some (.val (scrD ns)) := fun d => by rw [List.getElem?_set_ne (by decide)]; exact h0
  have g5 : ∀ d, (ρ.set 5 (.val d))[5]? = some (.val d) := fun d => List.getElem?_set_self hl
  rw [lcF_map (fun d => .str (gOwn ns d))]
  · rfl
  · intro d hd
    rw [range4] at hd
    simp only [List.mem_cons, List.not_mem_nil, or_false] at hd
    rcases hd with rfl | rfl | rfl | rfl <;> simp [g0, g5, c1, F_name_by_eq, gOwn, nm4]
theorem e7 (ns : List Int) (ρ : Rho) (x : PyData) (h0 : ρ[0]? = some (.val (scrD ns))) (h4 : ρ[4]? = some (.own [.str (nm4 ns 0), .str (nm4 ns 1), .str (nm4 ns 2), .str (nm4 ns 3), x])) (hl : 5 < ρ.length) :
    lcF 5 (bF (eOp gEq (eOp gMod (eOp gFdiv (eCall F_cell (eCons (eVar 0) (eCons (eC (.int 2)) eNil))) (eOp gIx (eList (eLstD (eCons (eC (.int 1)) (eCons (eC (.int 2)) (eCons (eC (.int 4)) (eCons (eC (.int 8)) eNil)))))) (eVarB 5))) (eC (.int 2))) (eC (.int 1)))) (eOp gIx (eVarB 4) (eVarB 5)) ρ (rangeD 0 4) = some ((ownL ns).map .str) := by
  have c2 := F_cell_eq ns 2
  simp only [Int.cast_ofNat_Int] at c2
  have g0 : ∀ d, (ρ.set 5 (.val d))[0]? = some (.val (scrD ns)) := fun d => by rw [List.getElem?_set_ne (by decide)]; exact h0
  have g4 : ∀ d, (ρ.set 5 (.val d))[4]? = ρ[4]? := fun d => List.getElem?_set_ne (by decide)
  have g5 : ∀ d, (ρ.set 5 (.val d))[5]? = some (.val d) := fun d => List.getElem?_set_self hl
  rw [lcF_filter (pOwn ns) (fun d => .str (gOwn ns d))]
  · unfold ownL
    rw [List.map_map]
    rfl
  · intro d hd
    rw [range4] at hd
    simp only [List.mem_cons, List.not_mem_nil, or_false] at hd
    rcases hd with rfl | rfl | rfl | rfl <;> simp [g0, g5, c2, pOwn, truD] <;> first | rfl | (rw [Bool.eq_iff_iff]; simp)
  · intro d hd _
    rw [range4] at hd
    simp only [List.mem_cons, List.not_mem_nil, or_false] at hd
    rcases hd with rfl | rfl | rfl | rfl <;> simp [g4, h4, g5, gOwn]
theorem e8 (ns : List Int) (b e : Int) (ρ : Rho) (hb : (b / 24).natAbs ≤ 1000000000) (h0 : ρ[0]? = some (.val (scrD ns))) (h3 : ρ[3]? = some (.val (stD (b, e)))) (hl : 5 < ρ.length) :
    lcF 5 tYesF (eCall F_rest_by (eCons (eCall F_cell (eCons (eVar 0) (eCons (eOp gAdd (eC (.int 4)) (eVarB 5)) eNil))) (eCons (eVar 3) eNil))) ρ (rangeD 0 (cell ns 3 % 4).toNat) = some ((rsL ns b e).map stD) := by
  have g0 : ∀ d, (ρ.set 5 (.val d))[0]? = some (.val (scrD ns)) := fun d => by rw [List.getElem?_set_ne (by decide)]; exact h0
  have g3 : ∀ d, (ρ.set 5 (.val d))[3]? = ρ[3]? := fun d => List.getElem?_set_ne (by decide)
  have g5 : ∀ d, (ρ.set 5 (.val d))[5]? = some (.val d) := fun d => List.getElem?_set_self hl
  rw [lcF_map (fun d => match d with | .int k => stD (restOf (cell ns (4 + k.toNat)) b e) | _ => .none)]
  · congr 1
    unfold rangeD rsL
    rw [List.map_map, List.map_map]
    apply List.map_congr_left
    intro k _
    simp
  · intro d hd
    obtain ⟨i, hi, rfl⟩ := mem_rangeD hd
    have c := F_cell_eq ns (4 + i)
    have ec : ((4 + i : Nat) : Int) = 4 + (i : Int) := by omega
    rw [ec] at c
    have fr := F_rest_by_eq (cell ns (4 + i)) b e hb
    rw [Int.zero_add]
    have dd : dataD (stD (restOf (cell ns (4 + i)) b e)) = true := rfl
    simp [g0, g3, h3, g5, c, fr, dd]
end RK
namespace RK
open PySem PySem.Spec PyProof.Rows L2 RT
theorem hP (ns : List Int) (nm : Str) (hn : nameB nm = some true) : fm_add_person ⟨[], []⟩ [.str nm, .list ((ownL ns).map .str), .int (limO ns)] = .done ⟨[⟨nm, ownL ns, limO ns, []⟩], []⟩ .none := by
  obtain ⟨o1, o2, o3⟩ := ownL_ok ns
  have n0 := Int.emod_nonneg (cell ns 2 / 16) (show (31 : Int) ≠ 0 by decide)
  have n1 := Int.emod_lt_of_pos (cell ns 2 / 16) (show (0 : Int) < 31 by decide)
  have hl : 1 ≤ limO ns ∧ limO ns ≤ 31 := by unfold limO; omega
  have sk := skErr_ok (ownL ns) [] o1 (by rw [List.nil_append]; exact o2)
  have g : (ownL ns).length ≤ 1000 ∧ ([] : List Person).length < 1000 := ⟨by omega, by decide⟩
  show addPerson _ _ _ _ = _
  unfold addPerson
  simp only [hn, strsD_map, sk, numOk_int, if_pos hl, if_pos g, findP, List.find?_nil, List.nil_append]
theorem hS (P : Person) (b e : Int) (pl n0 n1 : Str) (hp : nameB pl = some true) (h0 : nameB n0 = some true) (h1 : nameB n1 = some true) (hne : n0 ≠ n1) (hst : 0 ≤ b ∧ b < e ∧ e ≤ 1000000) (hd : (e - 1) / 24 = b / 24) (j : Nat) :
    ∃ cs, fm_add_shift ⟨[P], []⟩ [.str pl, stD (b, e), .list (([.tuple [.str n0, .int 2], .tuple [.str n1, .int 1]] : List PyData).take j)] = .done ⟨[P], [⟨pl, b, e, cs⟩]⟩ .none := by
  have hd' : oneDay (b, e) = some true := by rw [oneDay_eq, hd]; simp
  have base : ∀ (l : List (Str × PyData)) (cs : List (Str × Int)), l.length ≤ 1000 → ndErr [] l = some (.inr cs) → fm_add_shift ⟨[P], []⟩ [.str pl, stD (b, e), .list (l.map needD)] = .done ⟨[P], [⟨pl, b, e, cs⟩]⟩ .none := by
    intro l cs hl hc
    have hnd : ∀ l : List (Str × PyData), needsOf (l.map needD) = some l := by
      intro l
      induction l with
      | nil => rfl
      | cons x l ih =>
        show (needsOf (l.map needD)).map _ = _
        rw [ih]; rfl
    have g : l.length ≤ 1000 ∧ ([] : List Shift).length < 1000 := ⟨hl, by decide⟩
    show addShift _ _ _ _ = _
    unfold addShift
    simp only [hp, isSt_st, if_pos hst, hd', hnd, hc, if_pos g, findS, List.find?_nil, List.nil_append]
  have two : (1 : Int) ≤ 2 ∧ (2 : Int) ≤ 9 := by decide
  have one : (1 : Int) ≤ 1 ∧ (1 : Int) ≤ 9 := by decide
  match j with
  | 0 => exact ⟨[], base [] [] (by decide) rfl⟩
  | 1 => exact ⟨[(n0, 2)], base [(n0, .int 2)] _ (by simp) (by simp [ndErr, h0, numOk_int, two])⟩
  | j + 2 =>
    have hne2 : ¬ n1 = n0 := fun z => hne z.symm
    refine ⟨[(n0, 2), (n1, 1)], ?_⟩
    have := base [(n0, .int 2), (n1, .int 1)] [(n0, 2), (n1, 1)] (by simp) (by simp [ndErr, h0, h1, numOk_int, two, one, hne2])
    simpa [needD] using this
theorem mayV (nm pl : Str) (o : List Str) (l : Int) (L : List (Int × Int)) (b e : Int) (cs : List (Str × Int)) (k : Str) : fr_may ⟨[⟨nm, o, l, L⟩], [⟨pl, b, e, cs⟩]⟩ [.str nm, .str pl, .str k] = .ret (.bool (mayB ⟨nm, o, l, L⟩ ⟨pl, b, e, cs⟩ k)) := by
  simp [fr_may, s3, findS, findP, mis]
theorem loopMay (ns : List Int) (d1 d2 d3 : PyData) (l4 : Sl) (d6 d7 d8 d12 : PyData) (nm pl : Str) (o : List Str) (l : Int) (L : List (Int × Int)) (b e : Int) (cs : List (Str × Int)) (s13 s15 s16 : Sl) :
    ∀ (ks : List Str) (s14 : Sl), pl1 s14 = true →
    ∃ s14', pl1 s14' = true ∧ forF (tg1 14) (sDrop (eMeth noB.bk 9 fr_may (eCons (eVar 10) (eCons (eVar 11) (eCons (eVar 14) eNil))))) (ks.map .str) (rhoL ns d1 d2 d3 l4 d6 d7 d8 ⟨[⟨nm, o, l, L⟩], [⟨pl, b, e, cs⟩]⟩ (.str nm) (.str pl) d12 s13 s14 s15 s16) = .nx (rhoL ns d1 d2 d3 l4 d6 d7 d8 ⟨[⟨nm, o, l, L⟩], [⟨pl, b, e, cs⟩]⟩ (.str nm) (.str pl) d12 s13 s14' s15 s16)
  | [], s14, h14 => ⟨s14, h14, rfl⟩
  | k :: ks, s14, h14 => by
    obtain ⟨s14', h14', ih⟩ := loopMay ns d1 d2 d3 l4 d6 d7 d8 d12 nm pl o l L b e cs s13 s15 s16 ks (.val (.str k)) rfl
    refine ⟨s14', h14', ?_⟩
    rw [List.map_cons, forF_cons1]
    have st : sDrop (eMeth noB.bk 9 fr_may (eCons (eVar 10) (eCons (eVar 11) (eCons (eVar 14) eNil)))) ((rhoL ns d1 d2 d3 l4 d6 d7 d8 ⟨[⟨nm, o, l, L⟩], [⟨pl, b, e, cs⟩]⟩ (.str nm) (.str pl) d12 s13 s14 s15 s16).set 14 (.val (.str k))) = .nx (rhoL ns d1 d2 d3 l4 d6 d7 d8 ⟨[⟨nm, o, l, L⟩], [⟨pl, b, e, cs⟩]⟩ (.str nm) (.str pl) d12 s13 (.val (.str k)) s15 s16) := by
      simp [rhoL, eMeth_eq, rcv, mayV, Res.ok]
    rw [st, thn_nx, ih]
theorem gIn_strs (k : Str) (o : List Str) : gIn (.str k) (.list (o.map .str)) = some (.bool (decide (k ∈ o))) := by
  have hs : (o.map PyData.str).all scalD = true := by rw [List.all_map]; simp [List.all_eq_true]
  have he : ((o.map PyData.str).any fun z => eqFl z (.str k)) = decide (k ∈ o) := by
    rw [List.any_map, Bool.eq_iff_iff, List.any_eq_true, decide_eq_true_eq]
    constructor
    · rintro ⟨x, hx, h⟩
      have : x = k := by simpa [eqFl] using h
      exact this ▸ hx
    · intro h
      exact ⟨k, h, by simp [eqFl]⟩
  have h1 : gInF false (.str k) (.list (o.map .str)) = some (.bool (decide (k ∈ o))) := by
    unfold gInF
    simp only [he]
    rw [if_pos ⟨rfl, hs⟩]
    rfl
  unfold gIn alt
  rw [h1]
theorem loopFin (ns : List Int) (d1 d2 d3 : PyData) (l4 : Sl) (d6 d8 d12 : PyData) (nm pl : Str) (o : List Str) (l : Int) (L : List (Int × Int)) (b e : Int) (cs : List (Str × Int)) (s13 : Sl) (aw : Bool) :
    ∀ (ks : List Str) (s14 s16 : Sl), pl1 s14 = true → pl1 s16 = true → (∀ k ∈ ks, mayB ⟨nm, o, l, L⟩ ⟨pl, b, e, cs⟩ k = (aw && decide (k ∈ o))) → 
    ∃ s14' s16', pl1 s14' = true ∧ pl1 s16' = true ∧ forF (tg1 14) (sSeq (sSet 16 (eMeth noB.bk 9 fr_may (eCons (eVar 10) (eCons (eVar 11) (eCons (eVar 14) eNil)))))
  (sIf (tOrF (tNotF (bF (eIsi .bool (eVarB 16)))) (bF (eOp gNe (eVarB 16) (eAndF (eVar 15) (eOp gIn (eVarB 14) (eVarB 7)))))) (sRet (eC (.bool false))) sNext)) (ks.map .str) (rhoL ns d1 d2 d3 l4 d6 (.list (o.map .str)) d8 ⟨[⟨nm, o, l, L⟩], [⟨pl, b, e, cs⟩]⟩ (.str nm) (.str pl) d12 s13 s14 (.val (.bool aw)) s16) = .nx (rhoL ns d1 d2 d3 l4 d6 (.list (o.map .str)) d8 ⟨[⟨nm, o, l, L⟩], [⟨pl, b, e, cs⟩]⟩ (.str nm) (.str pl) d12 s13 s14' (.val (.bool aw)) s16')
  | [], s14, s16, p14, p16, _ => ⟨s14, s16, p14, p16, rfl⟩
  | k :: ks, s14, s16, p14, p16, h => by
    have hk := h k List.mem_cons_self
    obtain ⟨s14', s16', p14', p16', ih⟩ := loopFin ns d1 d2 d3 l4 d6 d8 d12 nm pl o l L b e cs s13 aw ks (.val (.str k)) (.val (.bool (aw && decide (k ∈ o)))) rfl rfl fun x hx => h x (List.mem_cons_of_mem _ hx)
    refine ⟨s14', s16', p14', p16', ?_⟩
    rw [List.map_cons, forF_cons1]
    have st : (sSeq (sSet 16 (eMeth noB.bk 9 fr_may (eCons (eVar 10) (eCons (eVar 11) (eCons (eVar 14) eNil)))))
  (sIf (tOrF (tNotF (bF (eIsi .bool (eVarB 16)))) (bF (eOp gNe (eVarB 16) (eAndF (eVar 15) (eOp gIn (eVarB 14) (eVarB 7)))))) (sRet (eC (.bool false))) sNext)) ((rhoL ns d1 d2 d3 l4 d6 (.list (o.map .str)) d8 ⟨[⟨nm, o, l, L⟩], [⟨pl, b, e, cs⟩]⟩ (.str nm) (.str pl) d12 s13 s14 (.val (.bool aw)) s16).set 14 (.val (.str k))) = .nx (rhoL ns d1 d2 d3 l4 d6 (.list (o.map .str)) d8 ⟨[⟨nm, o, l, L⟩], [⟨pl, b, e, cs⟩]⟩ (.str nm) (.str pl) d12 s13 (.val (.str k)) (.val (.bool aw)) (.val (.bool (aw && decide (k ∈ o))))) := by
      cases aw <;> simp [rhoL, eMeth_eq, rcv, mayV, Res.ok, hk, gIn_strs]
    rw [st, thn_nx, ih]
end RK
namespace RK
open PySem PySem.Spec PyProof.Rows L2 RT
def mtB (b e : Int) (r : Int × Int) : Bool := decide ((if b > r.1 then b else r.1) < (if e < r.2 then e else r.2))
theorem mtB_eq (b e : Int) (r : Int × Int) (h : r.1 < r.2) (hb : b < e) : mtB b e r = meetsB r (b, e) := by
  unfold mtB meetsB
  rw [Bool.eq_iff_iff]
  simp only [Bool.and_eq_true, decide_eq_true_eq]
  split <;> split <;> omega
theorem gEq_nil (l : List PyData) (h : okDs l = true) (hd : (PyData.list l).depth ≤ 64) : gEq (.list l) (.list []) = some (.bool l.isEmpty) := by
  have h1 := okD_lay (.list l) (by simpa [okD] using h)
  have h2 : SeqAt.shaped (.list l) = true := by simp [SeqAt.shaped, h1, hd]
  have h3 : SeqAt.shaped (.list []) = true := by decide
  show gEqD (.list l) (.list []) = _
  unfold gEqD
  rw [if_pos ⟨rfl, rfl, h2, h3⟩]
  cases l <;> simp [PyData.eqv, PyData.eqvAll]
theorem okDs_st (rs : List (Int × Int)) : okDs (rs.map stD) = true ∧ (PyData.list (rs.map stD)).depth ≤ 64 := by
  refine ⟨?_, ?_⟩
  · rw [okDs_all, List.all_map, List.all_eq_true]
    intro r _
    simp [stD, okD, okDs]
  · have : PyData.depthAll (rs.map stD) ≤ 1 := depthAll_le fun d hd => by
      obtain ⟨r, _, rfl⟩ := List.mem_map.mp hd
      simp [stD, PyData.depth, PyData.depthAll]
    simp only [PyData.depth]
    omega
theorem e15 (b e : Int) (rs : List (Int × Int)) (ρ : Rho) (h3 : ρ[3]? = some (.val (stD (b, e)))) (hl : 13 < ρ.length) :
    lcF 13 (bF (eOp gLt (eCall gMax (eCons (eOp gIx (eVarB 13) (eC (.int 0))) (eCons (eOp gIx (eVarB 3) (eC (.int 0))) eNil))) (eCall gMin (eCons (eOp gIx (eVarB 13) (eC (.int 1))) (eCons (eOp gIx (eVarB 3) (eC (.int 1))) eNil))))) (eVar 13) ρ (rs.map stD) = some ((rs.filter (mtB b e)).map stD) := by
  have g3 : ∀ d, (ρ.set 13 (.val d))[3]? = ρ[3]? := fun d => List.getElem?_set_ne (by decide)
  have g13 : ∀ d, (ρ.set 13 (.val d))[13]? = some (.val d) := fun d => List.getElem?_set_self hl
  induction rs with
  | nil => rfl
  | cons r rs ih =>
    have t1 : (bF (eOp gLt (eCall gMax (eCons (eOp gIx (eVarB 13) (eC (.int 0))) (eCons (eOp gIx (eVarB 3) (eC (.int 0))) eNil))) (eCall gMin (eCons (eOp gIx (eVarB 13) (eC (.int 1))) (eCons (eOp gIx (eVarB 3) (eC (.int 1))) eNil))))) (ρ.set 13 (.val (stD r))) = some (mtB b e r) := by
      simp [g3, h3, g13, stD, mtB]
    have t2 : eVar 13 (ρ.set 13 (.val (stD r))) = some (stD r) := by simp [g13]
    have dd : dataD (stD r) = true := rfl
    rw [List.map_cons]
    unfold lcF
    rw [t1, Option.bind_some, ih]
    cases hm : mtB b e r with
    | true => rw [if_pos rfl, t2, Option.bind_some, if_pos dd, List.filter_cons, hm]; rfl
    | false => rw [if_neg (by decide), List.filter_cons, hm]; rfl
theorem law_true (ns : List Int) (h : ns.length ≤ 63) : F_law [scrD ns] = some (.bool true) := by
  have c0 := F_cell_eq ns 0
  have c1 := F_cell_eq ns 1
  have c2 := F_cell_eq ns 2
  have c3 := F_cell_eq ns 3
  have c7 := F_cell_eq ns 7
  have c8 := F_cell_eq ns 8
  have c9 := F_cell_eq ns 9
  simp only [Int.cast_ofNat_Int] at c0 c1 c2 c3 c7 c8 c9
  have m24 : ∀ i : Int, gMul (.int 24) (.int i) = some (.int (24 * i)) := fun i => gMul_int _ _ (cMul_l (by decide))
  obtain ⟨x, hx, ex⟩ := atI_mod [PyData.int 0, .int 24, .int 72, .int (24 * (30 + cell ns 0 / 3840 % 20000))] (cell ns 0) 4 rfl (by decide)
  have n1 := Int.emod_nonneg (cell ns 0 / 3840) (show (20000 : Int) ≠ 0 by decide)
  have n2 := Int.emod_lt_of_pos (cell ns 0 / 3840) (show (0 : Int) < 20000 by decide)
  obtain ⟨q, rfl, hq0, hq1⟩ : ∃ q : Int, x = .int (24 * q) ∧ 0 ≤ q ∧ q ≤ 20030 := by
    simp only [List.mem_cons, List.not_mem_nil, or_false] at hx
    rcases hx with rfl | rfl | rfl | rfl
    · exact ⟨0, rfl, by decide, by decide⟩
    · exact ⟨1, rfl, by decide, by decide⟩
    · exact ⟨3, rfl, by decide, by decide⟩
    · exact ⟨_, rfl, by omega, by omega⟩
  obtain ⟨x0, hx0⟩ : ∃ x0, x0 = 24 * q := ⟨_, rfl⟩
  rw [← hx0] at ex
  obtain ⟨b, hb⟩ : ∃ b, x0 + cell ns 0 / 4 % 24 = b := ⟨_, rfl⟩
  have n3 := Int.emod_nonneg (cell ns 0 / 4) (show (24 : Int) ≠ 0 by decide)
  have n4 := Int.emod_lt_of_pos (cell ns 0 / 4) (show (0 : Int) < 24 by decide)
  have n5 := Int.emod_nonneg b (show (24 : Int) ≠ 0 by decide)
  have n6 := Int.emod_lt_of_pos b (show (0 : Int) < 24 by decide)
  have hge : gMod (.int (cell ns 0 / 96)) (.int (24 - b % 24)) = some (.int (cell ns 0 / 96 % (24 - b % 24))) := gMod_int _ _ (cPos_of (by omega) (by omega))
  obtain ⟨e, he⟩ : ∃ e, b + 1 + cell ns 0 / 96 % (24 - b % 24) = e := ⟨_, rfl⟩
  have n7 := Int.emod_nonneg (cell ns 0 / 96) (show (24 - b % 24 : Int) ≠ 0 by omega)
  have n8 := Int.emod_lt_of_pos (cell ns 0 / 96) (show (0 : Int) < 24 - b % 24 by omega)
  have hb0 : 0 ≤ b ∧ b ≤ 500000 := by omega
  have hbe : b < e ∧ e ≤ b - b % 24 + 24 := by omega
  have hday : (e - 1) / 24 = b / 24 := by omega
  obtain ⟨bs, hbs⟩ : ∃ bs, gMul (.str "b") (.int 21) = some (.str bs) := ⟨_, gMul_str _ _ (by decide)⟩
  obtain ⟨xo, hxo, exo⟩ := atI_mod [PyData.str "", .str "a b", .str " ", .str "a\n", .str bs, .str (nameS 50 (cell ns 0)), .str (nameS 51 0)] (cell ns 9) 7 rfl (by decide)
  obtain ⟨xs, rfl⟩ : ∃ xs, xo = .str xs := by
    simp only [List.mem_cons, List.not_mem_nil, or_false] at hxo
    rcases hxo with rfl | rfl | rfl | rfl | rfl | rfl | rfl <;> exact ⟨_, rfl⟩
  have E4 := e4 ns [.val (scrD ns), .val (.int (cell ns 0)), .val (.int b), .val (.tuple [.int b, .int e]), .no, .no, .no, .no, .no, .no, .no, .no, .no, .no, .no, .no, .no] rfl (by simp)
  have E7 := e7 ns [.val (scrD ns), .val (.int (cell ns 0)), .val (.int b), .val (.tuple [.int b, .int e]), .own [.str (nm4 ns 0), .str (nm4 ns 1), .str (nm4 ns 2), .str (nm4 ns 3), .str xs], .no, .val (.list [.str "", .str "a b", .str " ", .str "a\n", .str bs, .str (nameS 50 (cell ns 0)), .str (nameS 51 0)]), .no, .no, .no, .no, .no, .no, .no, .no, .no, .no] (.str xs) rfl rfl (by simp)
  have E8 := e8 ns b e [.val (scrD ns), .val (.int (cell ns 0)), .val (.int b), .val (.tuple [.int b, .int e]), .own [.str (nm4 ns 0), .str (nm4 ns 1), .str (nm4 ns 2), .str (nm4 ns 3), .str xs], .no, .val (.list [.str "", .str "a b", .str " ", .str "a\n", .str bs, .str (nameS 50 (cell ns 0)), .str (nameS 51 0)]), .val (.list ((ownL ns).map .str)), .no, .no, .no, .no, .no, .no, .no, .no, .no] (by omega) rfl rfl (by simp)
  have rok : ∀ r ∈ rsL ns b e, 0 ≤ r.1 ∧ r.1 < r.2 ∧ r.2 ≤ 1000000 := by
    intro r hr
    obtain ⟨k, _, rfl⟩ := List.mem_map.mp hr
    exact restOf_ok _ _ _ hb0.1 hbe.1 (by omega)
  have n9 := Int.emod_nonneg (cell ns 3) (show (4 : Int) ≠ 0 by decide)
  have n10 := Int.emod_lt_of_pos (cell ns 3) (show (0 : Int) < 4 by decide)
  have rlen : (rsL ns b e).length ≤ 3 := by unfold rsL; rw [List.length_map, List.length_range]; omega
  generalize rsL ns b e = rs at E8 rok rlen
  obtain ⟨nm, hnm⟩ : ∃ nm, nameS 3 (cell ns 7) = nm := ⟨_, rfl⟩
  obtain ⟨pl, hpl⟩ : ∃ pl, nameS 4 (cell ns 8) = pl := ⟨_, rfl⟩
  have hne : nm ≠ pl := by rw [← hnm, ← hpl]; exact nameS_ne sg4.2.2.2.2.2.2 _ _
  have hne2 : ¬ pl = nm := fun z => hne z.symm
  have HP := hP ns nm (by rw [← hnm]; exact nameB_S _ _)
  obtain ⟨j, hj⟩ : ∃ j : Nat, cell ns 3 / 8 % ((rs.length : Int) + 1) = (j : Int) := ⟨(cell ns 3 / 8 % ((rs.length : Int) + 1)).toNat, by
    have := Int.emod_nonneg (cell ns 3 / 8) (show ((rs.length : Int) + 1) ≠ 0 by omega)
    omega⟩
  have hlate : gMod (.int (cell ns 3 / 8)) (.int ((rs.length : Int) + 1)) = some (.int (j : Int)) := by rw [gMod_int _ _ (cPos_of (by omega) (by omega)), hj]
  obtain ⟨j2, hj2⟩ : ∃ j2 : Nat, 1 + cell ns 3 / 4 % 2 = (j2 : Int) := ⟨(1 + cell ns 3 / 4 % 2).toNat, by
    have := Int.emod_nonneg (cell ns 3 / 4) (show (2 : Int) ≠ 0 by decide)
    omega⟩
  obtain ⟨s13, h13, L1⟩ := loopRest ns (.int (cell ns 0)) (.int b) (.tuple [.int b, .int e]) (.own [.str (nm4 ns 0), .str (nm4 ns 1), .str (nm4 ns 2), .str (nm4 ns 3), .str xs]) (.list [.str "", .str "a b", .str " ", .str "a\n", .str bs, .str (nameS 50 (cell ns 0)), .str (nameS 51 0)]) (.list ((ownL ns).map .str)) (.list (rs.map stD)) (.str pl) (.int (j : Int)) nm (ownL ns) (limO ns) [] .no .no .no rfl rfl rfl rfl (rs.drop j) [] .no rfl (fun r hr => rok r (List.mem_of_mem_drop hr)) (by simp; omega)
  obtain ⟨cs, HS⟩ := hS ⟨nm, ownL ns, limO ns, [] ++ rs.drop j⟩ b e pl (nm4 ns 0) (nm4 ns 1) (by rw [← hpl]; exact nameB_S _ _) (nameB_S _ _) (nameB_S _ _) (nameS_ne sg4.1 _ _) ⟨hb0.1, hbe.1, by omega⟩ hday j2
  obtain ⟨s14, h14, L2⟩ := loopMay ns (.int (cell ns 0)) (.int b) (.tuple [.int b, .int e]) (.val (.list [.str (nm4 ns 0), .str (nm4 ns 1), .str (nm4 ns 2), .str (nm4 ns 3), .str xs])) (.list [.str "", .str "a b", .str " ", .str "a\n", .str bs, .str (nameS 50 (cell ns 0)), .str (nameS 51 0)]) (.list ((ownL ns).map .str)) (.list (rs.map stD)) (.int (j : Int)) nm pl (ownL ns) (limO ns) ([] ++ rs.drop j) b e cs s13 .no .no [nm4 ns 0, nm4 ns 1, nm4 ns 2, nm4 ns 3, xs] .no rfl
  obtain ⟨s13', h13', L3⟩ := loopRest ns (.int (cell ns 0)) (.int b) (.tuple [.int b, .int e]) (.val (.list [.str (nm4 ns 0), .str (nm4 ns 1), .str (nm4 ns 2), .str (nm4 ns 3), .str xs])) (.list [.str "", .str "a b", .str " ", .str "a\n", .str bs, .str (nameS 50 (cell ns 0)), .str (nameS 51 0)]) (.list ((ownL ns).map .str)) (.list (rs.map stD)) (.str pl) (.int (j : Int)) nm (ownL ns) (limO ns) [⟨pl, b, e, cs⟩] s14 .no .no h14 rfl rfl rfl (rs.take j) ([] ++ rs.drop j) s13 h13 (fun r hr => rok r (List.mem_of_mem_take hr)) (by simp; omega)
  obtain ⟨aw, haw⟩ : ∃ aw : Bool, (rs.filter (mtB b e)).isEmpty = aw := ⟨_, rfl⟩
  have hmay : ∀ k, mayB ⟨nm, ownL ns, limO ns, [] ++ rs.drop j ++ rs.take j⟩ ⟨pl, b, e, cs⟩ k = (aw && decide (k ∈ ownL ns)) := by
    intro k
    have : (([] ++ rs.drop j ++ rs.take j).any fun r => meetsB r (b, e)) = !aw := by
      rw [List.nil_append, List.any_append, Bool.or_comm, ← List.any_append, List.take_append_drop, ← haw]
      clear L1 L2 L3 HS E8 hj hlate
      have : ∀ rs : List (Int × Int), (∀ r ∈ rs, r.1 < r.2) → (rs.any fun r => meetsB r (b, e)) = !(rs.filter (mtB b e)).isEmpty := by
        intro rs
        induction rs with
        | nil => intro _; rfl
        | cons r rs ih =>
          intro hr
          rw [List.any_cons, ih (fun x hx => hr x (List.mem_cons_of_mem _ hx)), List.filter_cons, mtB_eq b e r (hr r List.mem_cons_self) hbe.1]
          cases meetsB r (b, e) <;> simp
      exact this rs fun r hr => (rok r hr).2.1
    unfold mayB
    rw [this, Bool.not_not]
  obtain ⟨t14, t16, p14', p16', L4⟩ := loopFin ns (.int (cell ns 0)) (.int b) (.tuple [.int b, .int e]) (.val (.list [.str (nm4 ns 0), .str (nm4 ns 1), .str (nm4 ns 2), .str (nm4 ns 3), .str xs])) (.list [.str "", .str "a b", .str " ", .str "a\n", .str bs, .str (nameS 50 (cell ns 0)), .str (nameS 51 0)]) (.list (rs.map stD)) (.int (j : Int)) nm pl (ownL ns) (limO ns) ([] ++ rs.drop j ++ rs.take j) b e cs s13' aw [nm4 ns 0, nm4 ns 1, nm4 ns 2, nm4 ns 3, xs] s14 .no h14 rfl fun k _ => hmay k
  have HM : fr_mistyped ⟨[⟨nm, ownL ns, limO ns, [] ++ rs.drop j⟩], [⟨pl, b, e, cs⟩]⟩ [.str nm] = .ret (.bool true) := by
    simp [fr_mistyped, s1, addRest, findP, isSt_st]
  have HQ1 : fr_missing ⟨[⟨nm, ownL ns, limO ns, [] ++ rs.drop j ++ rs.take j⟩], [⟨pl, b, e, cs⟩]⟩ [.str pl, .str pl, .str (nm4 ns 0)] = .ret (.bool true) := by
    simp [fr_missing, fr_may, s3, findS, findP, mis, hne]
  have HQ2 : fr_missing ⟨[⟨nm, ownL ns, limO ns, [] ++ rs.drop j ++ rs.take j⟩], [⟨pl, b, e, cs⟩]⟩ [.str nm, .str nm, .str (nm4 ns 0)] = .ret (.bool true) := by
    simp [fr_missing, fr_may, s3, findS, findP, mis, hne2]
  have E15 := e15 b e rs (rhoL ns (.int (cell ns 0)) (.int b) (.tuple [.int b, .int e]) (.val (.list [.str (nm4 ns 0), .str (nm4 ns 1), .str (nm4 ns 2), .str (nm4 ns 3), .str xs])) (.list [.str "", .str "a b", .str " ", .str "a\n", .str bs, .str (nameS 50 (cell ns 0)), .str (nameS 51 0)]) (.list ((ownL ns).map .str)) (.list (rs.map stD)) ⟨[⟨nm, ownL ns, limO ns, [] ++ rs.drop j ++ rs.take j⟩], [⟨pl, b, e, cs⟩]⟩ (.str nm) (.str pl) (.int (j : Int)) s13' s14 .no .no) rfl (by simp [rhoL])
  obtain ⟨k1, k2⟩ := okDs_st (rs.filter (mtB b e))
  have E16 := gEq_nil _ k1 k2
  have hawl : ((rs.filter (mtB b e)).map stD).isEmpty = aw := by rw [← haw]; cases rs.filter (mtB b e) <;> rfl
  rw [hawl] at E16
  simp only [rhoL, limO, List.nil_append] at L1 L2 L3 L4 HS HM HQ1 HQ2 E15 HP
  simp only [stD] at HS
  have f13 := pl1_fr h13
  have f13' := pl1_fr h13'
  have f14 := pl1_fr h14
  have ft14 := pl1_fr p14'
  have ft16 := pl1_fr p16'
  have q13 := fun ρ => noObj_cons2 s13 ρ (pl1_no h13)
  have q13' := fun ρ => noObj_cons2 s13' ρ (pl1_no h13')
  have q14 := fun ρ => noObj_cons2 s14 ρ (pl1_no h14)
  rw [List.map_drop] at L1
  rw [List.map_take] at L3
  simp only [List.map_cons, List.map_nil] at L2 L4
  have own4 := (ownL_ok ns).2.2
  have m4 : (4 : Nat) ≤ LIM := by decide
  have m5 : (5 : Nat) ≤ LIM := by decide
  have lr : rs.length ≤ LIM := Nat.le_trans rlen (by decide)
  have ld : rs.length - j ≤ LIM := by omega
  have lt : min j rs.length ≤ LIM := by omega
  have lo : (ownL ns).length ≤ LIM := Nat.le_trans own4 (by decide)
  have l3 : (cell ns 3 % 4).toNat ≤ LIM := Nat.le_trans (show _ ≤ 4 by omega) (by decide)
  have z1 : cell ns 3 % 4 ≤ 1000000 := by omega
  have z2 : -1000000 ≤ cell ns 3 % 4 := by omega
  unfold F_law
  rw [runF_eq]
  simp [b_law, rho0, N_law, c0, c1, c2, c3, c7, c8, c9, m24, ex, hb, hge, he, hbs, exo, E4, E7, E8, F_name_by_eq, hnm, hpl, HP, hlate, lSl, oSome, oNone, cutA_from, cutA_to, L1, hj2, HS, L2, L3, E15, E16, L4, HM, HQ1, HQ2, m4, m5, lr, ld, lt, lo, l3, z1, z2, eMeth_eq, rcv, Res.ok, q13, q13', q14, f13, f13', f14, ft14, ft16]
  trace_state
end RK
namespace RK
open PySem PySem.Spec PyProof.Rows L2 RT
def d_is_whole : He.DefD := ⟨("is_whole", none), "is_whole", "is_whole", defArgs s_is_whole, defBody s_is_whole, defScope s_is_whole, [], []⟩
def d_is_stretch : He.DefD := ⟨("is_stretch", none), "is_stretch", "is_stretch", defArgs s_is_stretch, defBody s_is_stretch, defScope s_is_stretch, [], []⟩
def d_meets : He.DefD := ⟨("meets", none), "meets", "meets", defArgs s_meets, defBody s_meets, defScope s_meets, [], []⟩
def d_in_one_day : He.DefD := ⟨("in_one_day", none), "in_one_day", "in_one_day", defArgs s_in_one_day, defBody s_in_one_day, defScope s_in_one_day, [], []⟩
def d_is_name : He.DefD := ⟨("is_name", none), "is_name", "is_name", defArgs s_is_name, defBody s_is_name, defScope s_is_name, [], []⟩
def d_cell : He.DefD := ⟨("_law_cell", none), "_law_cell", "_law_cell", defArgs s_cell, defBody s_cell, defScope s_cell, [], []⟩
def d_sign : He.DefD := ⟨("_law_sign", none), "_law_sign", "_law_sign", defArgs s_sign, defBody s_sign, defScope s_sign, [], []⟩
def d_name_by : He.DefD := ⟨("_law_name_by", none), "_law_name_by", "_law_name_by", defArgs s_name_by, defBody s_name_by, defScope s_name_by, [], []⟩
def d_rest_by : He.DefD := ⟨("_law_rest_by", none), "_law_rest_by", "_law_rest_by", defArgs s_rest_by, defBody s_rest_by, defScope s_rest_by, [], []⟩
def d_missing : He.DefD := ⟨("_law_missing", none), "_law_missing", "_law_missing", defArgs s_missing, defBody s_missing, defScope s_missing, [], []⟩
def d_mistyped : He.DefD := ⟨("_law_mistyped", none), "_law_mistyped", "_law_mistyped", defArgs s_mistyped, defBody s_mistyped, defScope s_mistyped, [], []⟩
def d_law : He.DefD := ⟨("law", none), "law", "law", defArgs s_law, defBody s_law, defScope s_law, [], []⟩
def d_book_init : He.DefD := ⟨("Book", some "__init__"), "__init__", "Book.__init__", defArgs m_book_init, defBody m_book_init, defScope m_book_init, [], []⟩
def d_book_add_person : He.DefD := ⟨("Book", some "add_person"), "add_person", "Book.add_person", defArgs m_book_add_person, defBody m_book_add_person, defScope m_book_add_person, [], []⟩
def d_book_add_rest : He.DefD := ⟨("Book", some "add_rest"), "add_rest", "Book.add_rest", defArgs m_book_add_rest, defBody m_book_add_rest, defScope m_book_add_rest, [], []⟩
def d_book_add_shift : He.DefD := ⟨("Book", some "add_shift"), "add_shift", "Book.add_shift", defArgs m_book_add_shift, defBody m_book_add_shift, defScope m_book_add_shift, [], []⟩
def d_book_people : He.DefD := ⟨("Book", some "people"), "people", "Book.people", defArgs m_book_people, defBody m_book_people, defScope m_book_people, [], []⟩
def d_book_shifts : He.DefD := ⟨("Book", some "shifts"), "shifts", "Book.shifts", defArgs m_book_shifts, defBody m_book_shifts, defScope m_book_shifts, [], []⟩
def d_book_rests_of : He.DefD := ⟨("Book", some "rests_of"), "rests_of", "Book.rests_of", defArgs m_book_rests_of, defBody m_book_rests_of, defScope m_book_rests_of, [], []⟩
def d_book_stretch_of : He.DefD := ⟨("Book", some "stretch_of"), "stretch_of", "Book.stretch_of", defArgs m_book_stretch_of, defBody m_book_stretch_of, defScope m_book_stretch_of, [], []⟩
def d_book_may : He.DefD := ⟨("Book", some "may"), "may", "Book.may", defArgs m_book_may, defBody m_book_may, defScope m_book_may, [], []⟩
def fn : List He.DefD := [d_is_whole, d_is_stretch, d_meets, d_in_one_day, d_is_name, d_cell, d_sign, d_name_by, d_rest_by, d_missing, d_mistyped, d_law, d_book_init, d_book_add_person, d_book_add_rest, d_book_add_shift, d_book_people, d_book_shifts, d_book_rests_of, d_book_stretch_of, d_book_may]
def fa : List He.Fa := [.glo "is_whole", .glo "is_stretch", .glo "meets", .glo "in_one_day", .glo "is_name", .glo "_law_cell", .glo "_law_sign", .glo "_law_name_by", .glo "_law_rest_by", .glo "_law_missing", .glo "_law_mistyped", .glo "law", .free "ValueError", .free "bool", .free "int", .free "isinstance", .free "len", .free "list", .free "max", .free "min", .free "range", .int "DAY" 24, .int "LAST" 1000000, .int "MOST" 20, .int "MOST_COUNT" 9, .int "MOST_DAYS" 31, .str "SIGNS" "!\"#$&'()*+,-./0123456789:;<=>?@ABCDEFGHIJKLMNOPQRSTUVWXYZ[\\]^_`abcdefghijklmnopqrstuvwxyz{|}~", .cls "Book", .mkr "Book", .glo "Book", .noat "Book" "skills", .noat "Book" "limits", .noat "Book" "rests", .noat "Book" "stretches", .noat "Book" "needs", .meth "Book" "add_person", .meth "Book" "add_rest", .meth "Book" "add_shift", .meth "Book" "people", .meth "Book" "shifts", .meth "Book" "rests_of", .meth "Book" "stretch_of", .meth "Book" "may", .glo "BadCount", .exc "BadCount", .glo "BadName", .exc "BadName", .glo "BadStretch", .exc "BadStretch", .glo "Missing", .exc "Missing", .glo "Twice", .exc "Twice", .glo "RotaError", .exm "BadStretch" "RotaError" true, .exm "Missing" "RotaError" true, .glo "BadName", .glo "BadStretch", .glo "BadCount", .glo "Twice", .glo "BadLine"]
abbrev R : PySem.W.OpenRow := PySem.W.OpenLaw.row PySem.Challenge.rw_rota_k04_who_may_work
def ex (K : PySem.W.Frag) : Bool := excB K (He.ga K "Missing") && (kitBs K (He.ga K "Missing") ([He.ga K "BadName", He.ga K "BadStretch", He.ga K "BadCount", He.ga K "Twice", He.ga K "BadLine"].map Value.ref) false && (kitB1 K (He.ga K "Missing") (.type "ValueError") true && kitB1 K (He.ga K "Missing") (.ref (He.ga K "Missing")) true))
abbrev hk : PySem.W.Hook := hookP 5 fa fn ex
def ob (s : PySem.W.SharedT) : He.AlD × Bool := obsP 5 fa fn ex (HandSHeadRun.getT s)
theorem ob_eq (s : PySem.W.SharedT) : ob s = hk.obs s.abs := obsP_eq (HandSHeadRun.getT_eq s)
abbrev loose : List Str := ["_wall", "RotaError", "BadName", "BadStretch", "BadCount", "Twice", "Missing", "BadLine", "LAST", "DAY", "is_whole", "is_stretch", "meets", "in_one_day", "MOST", "SIGNS", "is_name", "MOST_DAYS", "MOST_COUNT", "Book", "_law_cell", "_law_sign", "_law_name_by", "_law_rest_by", "_law_missing", "_law_mistyped"]
theorem run (w : World) : HandSHeadRun.RunEq R (PySem.W.view R.prog [31]) hk ob 12000 loose w := by
  intro os
  kernel_rfl
theorem txt {K : PySem.W.Frag} {h : Heap} {mg : Str → Option Value} (X : K.In h) (G : h.Ns mainGlobals mg) (c : He.SaysD fa fn K) (cx : ex K = true) : Txt K mg where
  f_is_whole := c.def_ 0 (d := d_is_whole) rfl
  g_is_whole := He.glo_ok X G (c.fact 0 (f := .glo "is_whole") rfl)
  f_is_stretch := c.def_ 1 (d := d_is_stretch) rfl
  g_is_stretch := He.glo_ok X G (c.fact 1 (f := .glo "is_stretch") rfl)
  f_meets := c.def_ 2 (d := d_meets) rfl
  g_meets := He.glo_ok X G (c.fact 2 (f := .glo "meets") rfl)
  f_in_one_day := c.def_ 3 (d := d_in_one_day) rfl
  g_in_one_day := He.glo_ok X G (c.fact 3 (f := .glo "in_one_day") rfl)
  f_is_name := c.def_ 4 (d := d_is_name) rfl
  g_is_name := He.glo_ok X G (c.fact 4 (f := .glo "is_name") rfl)
  f_cell := c.def_ 5 (d := d_cell) rfl
  g_cell := He.glo_ok X G (c.fact 5 (f := .glo "_law_cell") rfl)
  f_sign := c.def_ 6 (d := d_sign) rfl
  g_sign := He.glo_ok X G (c.fact 6 (f := .glo "_law_sign") rfl)
  f_name_by := c.def_ 7 (d := d_name_by) rfl
  g_name_by := He.glo_ok X G (c.fact 7 (f := .glo "_law_name_by") rfl)
  f_rest_by := c.def_ 8 (d := d_rest_by) rfl
  g_rest_by := He.glo_ok X G (c.fact 8 (f := .glo "_law_rest_by") rfl)
  f_missing := c.def_ 9 (d := d_missing) rfl
  g_missing := He.glo_ok X G (c.fact 9 (f := .glo "_law_missing") rfl)
  f_mistyped := c.def_ 10 (d := d_mistyped) rfl
  g_mistyped := He.glo_ok X G (c.fact 10 (f := .glo "_law_mistyped") rfl)
  f_law := c.def_ 11 (d := d_law) rfl
  g_law := He.glo_ok X G (c.fact 11 (f := .glo "law") rfl)
  z_ValueError := He.free_ok X G (c.fact 12 (f := .free "ValueError") rfl)
  z_bool := He.free_ok X G (c.fact 13 (f := .free "bool") rfl)
  z_int := He.free_ok X G (c.fact 14 (f := .free "int") rfl)
  z_isinstance := He.free_ok X G (c.fact 15 (f := .free "isinstance") rfl)
  z_len := He.free_ok X G (c.fact 16 (f := .free "len") rfl)
  z_list := He.free_ok X G (c.fact 17 (f := .free "list") rfl)
  z_max := He.free_ok X G (c.fact 18 (f := .free "max") rfl)
  z_min := He.free_ok X G (c.fact 19 (f := .free "min") rfl)
  z_range := He.free_ok X G (c.fact 20 (f := .free "range") rfl)
  c_DAY := He.int_ok X G (c.fact 21 (f := .int "DAY" 24) rfl)
  c_LAST := He.int_ok X G (c.fact 22 (f := .int "LAST" 1000000) rfl)
  c_MOST := He.int_ok X G (c.fact 23 (f := .int "MOST" 20) rfl)
  c_MOST_COUNT := He.int_ok X G (c.fact 24 (f := .int "MOST_COUNT" 9) rfl)
  c_MOST_DAYS := He.int_ok X G (c.fact 25 (f := .int "MOST_DAYS" 31) rfl)
  c_SIGNS := He.str_ok X G (c.fact 26 (f := .str "SIGNS" "!\"#$&'()*+,-./0123456789:;<=>?@ABCDEFGHIJKLMNOPQRSTUVWXYZ[\\]^_`abcdefghijklmnopqrstuvwxyz{|}~") rfl)
  cl_book := He.cls_ok (c.fact 27 (f := .cls "Book") rfl)
  mk_book := He.mkr_ok (c.fact 28 (f := .mkr "Book") rfl)
  gc_book := He.glo_ok X G (c.fact 29 (f := .glo "Book") rfl)
  n_book_skills := He.noat_ok (c.fact 30 (f := .noat "Book" "skills") rfl)
  n_book_limits := He.noat_ok (c.fact 31 (f := .noat "Book" "limits") rfl)
  n_book_rests := He.noat_ok (c.fact 32 (f := .noat "Book" "rests") rfl)
  n_book_stretches := He.noat_ok (c.fact 33 (f := .noat "Book" "stretches") rfl)
  n_book_needs := He.noat_ok (c.fact 34 (f := .noat "Book" "needs") rfl)
  f_book_init := c.def_ 12 (d := d_book_init) rfl
  f_book_add_person := c.def_ 13 (d := d_book_add_person) rfl
  me_book_add_person := He.meth_ok (c.fact 35 (f := .meth "Book" "add_person") rfl)
  f_book_add_rest := c.def_ 14 (d := d_book_add_rest) rfl
  me_book_add_rest := He.meth_ok (c.fact 36 (f := .meth "Book" "add_rest") rfl)
  f_book_add_shift := c.def_ 15 (d := d_book_add_shift) rfl
  me_book_add_shift := He.meth_ok (c.fact 37 (f := .meth "Book" "add_shift") rfl)
  f_book_people := c.def_ 16 (d := d_book_people) rfl
  me_book_people := He.meth_ok (c.fact 38 (f := .meth "Book" "people") rfl)
  f_book_shifts := c.def_ 17 (d := d_book_shifts) rfl
  me_book_shifts := He.meth_ok (c.fact 39 (f := .meth "Book" "shifts") rfl)
  f_book_rests_of := c.def_ 18 (d := d_book_rests_of) rfl
  me_book_rests_of := He.meth_ok (c.fact 40 (f := .meth "Book" "rests_of") rfl)
  f_book_stretch_of := c.def_ 19 (d := d_book_stretch_of) rfl
  me_book_stretch_of := He.meth_ok (c.fact 41 (f := .meth "Book" "stretch_of") rfl)
  f_book_may := c.def_ 20 (d := d_book_may) rfl
  me_book_may := He.meth_ok (c.fact 42 (f := .meth "Book" "may") rfl)
  e_BadCount := ⟨He.glo_ok X G (c.fact 43 (f := .glo "BadCount") rfl), (He.exc_ok (c.fact 44 (f := .exc "BadCount") rfl)).1, (He.exc_ok (c.fact 44 (f := .exc "BadCount") rfl)).2.1, (He.exc_ok (c.fact 44 (f := .exc "BadCount") rfl)).2.2.1, (He.exc_ok (c.fact 44 (f := .exc "BadCount") rfl)).2.2.2⟩
  e_BadName := ⟨He.glo_ok X G (c.fact 45 (f := .glo "BadName") rfl), (He.exc_ok (c.fact 46 (f := .exc "BadName") rfl)).1, (He.exc_ok (c.fact 46 (f := .exc "BadName") rfl)).2.1, (He.exc_ok (c.fact 46 (f := .exc "BadName") rfl)).2.2.1, (He.exc_ok (c.fact 46 (f := .exc "BadName") rfl)).2.2.2⟩
  e_BadStretch := ⟨He.glo_ok X G (c.fact 47 (f := .glo "BadStretch") rfl), (He.exc_ok (c.fact 48 (f := .exc "BadStretch") rfl)).1, (He.exc_ok (c.fact 48 (f := .exc "BadStretch") rfl)).2.1, (He.exc_ok (c.fact 48 (f := .exc "BadStretch") rfl)).2.2.1, (He.exc_ok (c.fact 48 (f := .exc "BadStretch") rfl)).2.2.2⟩
  e_Missing := ⟨He.glo_ok X G (c.fact 49 (f := .glo "Missing") rfl), (He.exc_ok (c.fact 50 (f := .exc "Missing") rfl)).1, (He.exc_ok (c.fact 50 (f := .exc "Missing") rfl)).2.1, (He.exc_ok (c.fact 50 (f := .exc "Missing") rfl)).2.2.1, (He.exc_ok (c.fact 50 (f := .exc "Missing") rfl)).2.2.2⟩
  e_Twice := ⟨He.glo_ok X G (c.fact 51 (f := .glo "Twice") rfl), (He.exc_ok (c.fact 52 (f := .exc "Twice") rfl)).1, (He.exc_ok (c.fact 52 (f := .exc "Twice") rfl)).2.1, (He.exc_ok (c.fact 52 (f := .exc "Twice") rfl)).2.2.1, (He.exc_ok (c.fact 52 (f := .exc "Twice") rfl)).2.2.2⟩
  gh_RotaError := He.glo_ok X G (c.fact 53 (f := .glo "RotaError") rfl)
  x_BadStretch_RotaError := He.exm_ok (c.fact 54 (f := .exm "BadStretch" "RotaError" true) rfl)
  x_Missing_RotaError := He.exm_ok (c.fact 55 (f := .exm "Missing" "RotaError" true) rfl)
  xe := excB_ok (He.ba cx).1
  ka := of_decide_eq_true (He.ba (He.ba cx).2).1
  kv := of_decide_eq_true (He.ba (He.ba (He.ba cx).2).2).1
  ks := of_decide_eq_true (He.ba (He.ba (He.ba cx).2).2).2
  gl_BadName := He.glo_ok X G (c.fact 56 (f := .glo "BadName") rfl)
  gl_BadStretch := He.glo_ok X G (c.fact 57 (f := .glo "BadStretch") rfl)
  gl_BadCount := He.glo_ok X G (c.fact 58 (f := .glo "BadCount") rfl)
  gl_Twice := He.glo_ok X G (c.fact 59 (f := .glo "Twice") rfl)
  gl_BadLine := He.glo_ok X G (c.fact 60 (f := .glo "BadLine") rfl)
theorem facts {P : Program} {w : World} {K : PySem.W.Frag} {h : Heap} {mg : Str → Option Value} {f : Addr} (X : K.In h) (G : h.Ns mainGlobals mg) (hfa : mg ("law" : Str) = some (.ref f)) (c : He.SaysD fa fn K) (cx : ex K = true) :
    ∃ fd : FuncData, (∀ (s : Shared) (v : Value), BindsTo s fd ⟨[v], []⟩ [("_law_script", v)]) ∧ ∀ base : Heap, K.In base → base.Ns mainGlobals mg → FnOk P w K mg base CX0 lawLevel f fd ["_law_script"] (spPure K F_law) := by
  have T := txt X G c cx
  obtain ⟨fd, F⟩ := T.f_law
  have e := hfa.symm.trans T.g_law
  cases e
  have b := FunD.bindsA (ps := ["_law_script"]) F fun _ _ _ _ _ _ us hl => match us, hl with | [_], _ => rfl
  exact ⟨fd, fun s v => b s [v] rfl, fun base _ _ => okf_law T F⟩
end RK
open PySem PySem.W PySem.Calls PyProof.Rows
set_option maxRecDepth 100000 in
set_option maxHeartbeats 0 in
theorem PySem.Challenge.cw_rota_k04_who_may_work_holds : PySem.Challenge.rw_rota_k04_who_may_work.Holds := by
  w_on; o_law
  refine HandSHeadRun.head_any (r := OpenLaw.row PySem.Challenge.rw_rota_k04_who_may_work) (q := view (OpenLaw.row PySem.Challenge.rw_rota_k04_who_may_work).prog [31]) (H := RK.hk) (ob := RK.ob) (M := 12000) (loose := RK.loose) (d := HandSHeadRun.topDef (OpenLaw.row PySem.Challenge.rw_rota_k04_who_may_work).prog 31) (kwd := []) RK.ob_eq
    (by kernel_rfl) (fun s => by kernel_rfl) RK.run (by kernel_rfl) (by kernel_rfl) (by kernel_rfl) (by rfl) (by first | assumption | decide +kernel) (by decide +kernel) ⟨rfl, rfl, rfl, rfl, rfl, by decide +kernel⟩ ?hw ?hc
  case hw => w_witness2
  case hc =>
    refine L2.walk_ofE (l := PySem.Challenge.rw_rota_k04_who_may_work) (n := 63) (k := RK.lawLevel) (x := "_law_script") (CX := L2.CX0) rfl (by decide) (by kernel_rfl) ⟨rfl, by decide, by decide⟩ ?F (fun _ _ _ _ z => z)
    intro w mg fa h Y G hmg0
    obtain ⟨K, KX, c, cx⟩ := Y
    have hmg : mg ("law" : PySem.Str) = some (.ref fa) := by
      have e : (HandSHeadRun.topDef (OpenLaw.row PySem.Challenge.rw_rota_k04_who_may_work).prog 31).name = ("law" : PySem.Str) := by kernel_rfl
      rw [← e]
      exact hmg0
    obtain ⟨fd, hb, hF⟩ := RK.facts (P := (PySem.Challenge.rw_rota_k04_who_may_work).prog) (w := w) KX G hmg c cx
    exact ⟨K, fd, RT.spPure K RK.F_law, KX, hb, fun H a ns hl _ hS => RT.law_sp (RK.law_true ns hl) hS, hF⟩
