import PyProof.Rows.All
import Wide.All
import OpenK.AllK
import Wide.FinOn
import KE.KStateDown
import HandS.ForMost
import HandS.More
import HandS.Deep
import HandS.Defaults
import HandS.HeadHook1
import HandS.Style
import HandS.IsInst
import HandS.ForExc
import HandS.WordsExc
import HandS.ExcOwn
import HandS.TryOnly
import HandS.HeadHook2
import HandS.ExcIs
import HandS.Iter
import KE.KRevSl
import HandS.Conv
import HandS.Small
import HandS.Codes
import HandS.SortInts
import Lean
import HandS.Head0
import HandS.Head1
import HandS.Head2
import HandS.HeadEnd
import PySem.Challenge.RW_rota_k11_whole_small_deals
set_option Elab.async false
set_option linter.all false
set_option maxRecDepth 100000
set_option maxHeartbeats 4000000
/-! Plain data over the heap: what an expression, a test, a statement makes of data, as total functions. -/
namespace RT
open PySem PySem.Spec PyProof.Rows L2

/-! ### data in a part of the heap -/
mutual
inductive Dq (K : PySem.W.Frag) (H : Hp) : V → PyData → Prop
  | non : Dq K H .non .none
  | bl (b : Bool) : Dq K H (.bl b) (.bool b)
  | int (i : Int) : Dq K H (.int i) (.int i)
  | str (x : Str) : Dq K H (.str x) (.str x)
  | lst {a : Addr} {xs : List V} {ds : List PyData} : H a = some (.lst xs) → DqAll K H xs ds → Dq K H (.ref a) (.list ds)
  | tup {a : Addr} {xs : List V} {ds : List PyData} : SqT K H a xs → DqAll K H xs ds → Dq K H (.ref a) (.tuple ds)
inductive DqAll (K : PySem.W.Frag) (H : Hp) : List V → List PyData → Prop
  | nil : DqAll K H [] []
  | cons {v : V} {vs : List V} {d : PyData} {ds : List PyData} : Dq K H v d → DqAll K H vs ds → DqAll K H (v :: vs) (d :: ds)
end
mutual
theorem dq_dp {K : PySem.W.Frag} {F : Hp} : ∀ (d : PyData) {v : V}, Dq K F v d → Dp K F v d
  | .none, _, h => by cases h; exact .non
  | .bool b, _, h => by cases h; exact .bl b
  | .int i, _, h => by cases h; exact .int i
  | .str x, _, h => by cases h; exact .str x
  | .list ds, _, h => by
    cases h with
    | lst hs ha => exact .lst (.inl (.inl hs)) (dqa_dpa ds ha)
  | .tuple ds, _, h => by
    cases h with
    | tup hs ha => exact .tup hs (dqa_dpa ds ha)
  | .dict _, _, h => by cases h
theorem dqa_dpa {K : PySem.W.Frag} {F : Hp} : ∀ (ds : List PyData) {vs : List V}, DqAll K F vs ds → DpAll K F vs ds
  | [], _, h => by cases h; exact .nil
  | d :: ds, _, h => by
    cases h with
    | cons h1 h2 => exact .cons (dq_dp d h1) (dqa_dpa ds h2)
end
theorem same_rd {H H' : Hp} {a : Addr} {u : HO} (e : Same H H') (h : Rd H a u) : Rd H' a u := by
  rcases h with h | ⟨o, h⟩
  · exact .inl (e _ _ h)
  · exact .inr ⟨o, e _ _ h⟩
theorem same_t {K : PySem.W.Frag} {H H' : Hp} {a : Addr} {xs : List V} (e : Same H H') (h : SqT K H a xs) : SqT K H' a xs := by
  rcases h with (h | ⟨o, h⟩) | h
  · exact .inl (.inl (e _ _ h))
  · exact .inl (.inr ⟨o, e _ _ h⟩)
  · exact .inr h
mutual
theorem dp_mono {K : PySem.W.Frag} {F G : Hp} (e : Same F G) : ∀ (d : PyData) {v : V}, Dq K F v d → Dq K G v d
  | .none, _, h => by cases h; exact .non
  | .bool b, _, h => by cases h; exact .bl b
  | .int i, _, h => by cases h; exact .int i
  | .str x, _, h => by cases h; exact .str x
  | .list ds, _, h => by
    cases h with
    | lst hs ha => exact .lst (e _ _ hs) (dpa_mono e ds ha)
  | .tuple ds, _, h => by
    cases h with
    | tup hs ha => exact .tup (same_t e hs) (dpa_mono e ds ha)
  | .dict _, _, h => by cases h
theorem dpa_mono {K : PySem.W.Frag} {F G : Hp} (e : Same F G) : ∀ (ds : List PyData) {vs : List V}, DqAll K F vs ds → DqAll K G vs ds
  | [], _, h => by cases h; exact .nil
  | d :: ds, _, h => by
    cases h with
    | cons h1 h2 => exact .cons (dp_mono e d h1) (dpa_mono e ds h2)
end
theorem DqAll.len {K : PySem.W.Frag} {F : Hp} : ∀ {vs : List V} {ds : List PyData}, DqAll K F vs ds → vs.length = ds.length
  | [], [], _ => rfl
  | [], _ :: _, h => by cases h
  | _ :: _, [], h => by cases h
  | v :: vs, d :: ds, h => by
    cases h with
    | cons h1 h2 => exact congrArg Nat.succ (DqAll.len h2)
theorem DqAll.get {K : PySem.W.Frag} {F : Hp} : ∀ {vs : List V} {ds : List PyData} {i : Nat} {d : PyData}, DqAll K F vs ds → ds[i]? = some d → ∃ v, vs[i]? = some v ∧ Dq K F v d
  | [], [], _, _, _, e => by simp at e
  | [], _ :: _, _, _, h, _ => by cases h
  | _ :: _, [], _, _, h, _ => by cases h
  | v :: vs, d :: ds, 0, _, h, e => by
    cases h with
    | cons h1 h2 =>
      simp at e; subst e
      exact ⟨v, rfl, h1⟩
  | v :: vs, d :: ds, i + 1, _, h, e => by
    cases h with
    | cons h1 h2 =>
      obtain ⟨u, e1, e2⟩ := DqAll.get (i := i) h2 (by simpa using e)
      exact ⟨u, by simpa using e1, e2⟩
theorem DqAll.getV {K : PySem.W.Frag} {F : Hp} : ∀ {vs : List V} {ds : List PyData} {i : Nat} {v : V}, DqAll K F vs ds → vs[i]? = some v → ∃ d, ds[i]? = some d ∧ Dq K F v d
  | [], _, _, _, _, e => by simp at e
  | _ :: _, [], _, _, h, _ => by cases h
  | v :: vs, d :: ds, 0, _, h, e => by
    cases h with
    | cons h1 h2 =>
      simp at e; subst e
      exact ⟨d, rfl, h1⟩
  | v :: vs, d :: ds, i + 1, _, h, e => by
    cases h with
    | cons h1 h2 =>
      obtain ⟨u, e1, e2⟩ := DqAll.getV (i := i) h2 (by simpa using e)
      exact ⟨u, by simpa using e1, e2⟩
theorem DqAll.append {K : PySem.W.Frag} {F : Hp} : ∀ {vs ws : List V} {ds es : List PyData}, DqAll K F vs ds → DqAll K F ws es → DqAll K F (vs ++ ws) (ds ++ es)
  | [], _, [], _, _, h => h
  | [], _, _ :: _, _, h, _ => by cases h
  | _ :: _, _, [], _, h, _ => by cases h
  | v :: vs, ws, d :: ds, es, h, q => by
    cases h with
    | cons h1 h2 => exact .cons h1 (DqAll.append h2 q)
theorem DqAll.set {K : PySem.W.Frag} {F : Hp} {v : V} {d : PyData} (hv : Dq K F v d) : ∀ {vs : List V} {ds : List PyData} (i : Nat), DqAll K F vs ds → DqAll K F (vs.set i v) (ds.set i d)
  | [], [], _, h => h
  | [], _ :: _, _, h => by cases h
  | _ :: _, [], _, h => by cases h
  | _ :: _, _ :: _, 0, h => by
    cases h with
    | cons h1 h2 => exact .cons hv h2
  | _ :: _, _ :: _, i + 1, h => by
    cases h with
    | cons h1 h2 => exact .cons h1 (DqAll.set hv i h2)
theorem DqAll.take {K : PySem.W.Frag} {F : Hp} : ∀ {vs : List V} {ds : List PyData} (n : Nat), DqAll K F vs ds → DqAll K F (vs.take n) (ds.take n)
  | [], [], n, h => by simpa using h
  | [], _ :: _, _, h => by cases h
  | _ :: _, [], _, h => by cases h
  | _ :: _, _ :: _, 0, h => .nil
  | _ :: _, _ :: _, n + 1, h => by
    cases h with
    | cons h1 h2 => exact .cons h1 (DqAll.take n h2)
theorem DqAll.drop {K : PySem.W.Frag} {F : Hp} : ∀ {vs : List V} {ds : List PyData} (n : Nat), DqAll K F vs ds → DqAll K F (vs.drop n) (ds.drop n)
  | [], [], n, h => by simpa using h
  | [], _ :: _, _, h => by cases h
  | _ :: _, [], _, h => by cases h
  | _ :: _, _ :: _, 0, h => h
  | _ :: _, _ :: _, n + 1, h => by
    cases h with
    | cons h1 h2 => exact DqAll.drop n h2
theorem dpa_ints {K : PySem.W.Frag} {F : Hp} : ∀ (ns : List Int), DqAll K F (ns.map V.int) (ns.map PyData.int)
  | [] => .nil
  | n :: ns => .cons (.int n) (dpa_ints ns)
theorem ints_dpa {K : PySem.W.Frag} {F : Hp} : ∀ (ns : List Int) {vs : List V}, DqAll K F vs (ns.map PyData.int) → vs = ns.map V.int
  | [], vs, h => by cases h; rfl
  | n :: ns, vs, h => by
    cases h with
    | cons h1 h2 =>
      cases h1
      rw [ints_dpa ns h2]; rfl
theorem strs_dpa {K : PySem.W.Frag} {F : Hp} : ∀ (ns : List Str) {vs : List V}, DqAll K F vs (ns.map PyData.str) → vs = ns.map V.str
  | [], vs, h => by cases h; rfl
  | n :: ns, vs, h => by
    cases h with
    | cons h1 h2 =>
      cases h1
      rw [strs_dpa ns h2]; rfl

/-! ### an opaque object -/
def refD (a : Addr) : PyData := .dict [(.int (a : Nat), .none)]
/-- the script as it was handed in -/
def scrD (ns : List Int) : PyData := .dict [(.none, .list (ns.map .int))]
def Rp (K : PySem.W.Frag) (F : Hp) (v : V) (d : PyData) : Prop := Dq K F v d ∨ (∃ a, v = .ref a ∧ d = refD a) ∨ ∃ a ns, v = .ref a ∧ d = scrD ns ∧ SqL K F a (ns.map V.int)
theorem Rp.mono {K : PySem.W.Frag} {F G : Hp} {v : V} {d : PyData} (e : Same F G) (h : Rp K F v d) : Rp K G v d := h.imp (dp_mono e d) fun h => h.imp id fun ⟨a, ns, h1, h2, h3⟩ => ⟨a, ns, h1, h2, e.seq h3⟩
/-- what is read for a moment: data, or an own list -/
def Bp (K : PySem.W.Frag) (G H : Hp) (v : V) (d : PyData) : Prop := Rp K G v d ∨ ∃ p vs ds, v = .ref p ∧ d = .list ds ∧ H p = some (.lst vs) ∧ DqAll K G vs ds

/-! ### the heap grows, a part of it stands -/
structure Grow (H F H' G : Hp) : Prop where
  h : Same H H'
  f : Same F G
  sub : Same G H'
  no : ∀ a, F a = none → H a ≠ none → G a = none
theorem Grow.refl {H F : Hp} (e : Same F H) : Grow H F H F := ⟨Same.refl H, Same.refl F, e, fun _ h _ => h⟩
theorem Grow.trans {H F H1 G1 H2 G2 : Hp} (a : Grow H F H1 G1) (b : Grow H1 G1 H2 G2) : Grow H F H2 G2 :=
  ⟨a.h.trans b.h, a.f.trans b.f, b.sub, fun x h1 h2 => b.no x (a.no x h1 h2) fun z => h2 (a.h.free z)⟩
theorem Same.upd_new {H H' : Hp} {p : Addr} {o : HO} (e : Same H H') (hp : H' p = none) : Same H (upd H' p o) := fun b u q => by
  rw [upd_ne (ne_of_none (e b u q) hp)]; exact e b u q
/-- a new object, laid beside: not in the standing part | in it -/
theorem Grow.beside {H F H' G : Hp} {p : Addr} {o : HO} (g : Grow H F H' G) (hp : H' p = none) : Grow H F (upd H' p o) G :=
  ⟨Same.upd_new g.h hp, g.f, Same.upd_new g.sub hp, g.no⟩
theorem Grow.within {H F H' G : Hp} {p : Addr} {o : HO} (g : Grow H F H' G) (hp : H p = none) (hG : G p = none) (ho : H' p = some o) : Grow H F H' (upd G p o) :=
  ⟨g.h, Same.upd_new g.f hG, fun b u q => by
    by_cases hb : b = p
    · subst hb; rw [upd_same] at q; cases q; exact ho
    · rw [upd_ne hb] at q; exact g.sub b u q, fun a h1 h2 => by
    by_cases hb : a = p
    · subst hb; exact absurd hp h2
    · rw [upd_ne hb]; exact g.no a h1 h2⟩
theorem Grow.new {H F H' G : Hp} {p : Addr} {o : HO} (g : Grow H F H' G) (hp : H' p = none) : Grow H F (upd H' p o) (upd G p o) :=
  (g.beside (o := o) hp).within (g.h.free hp) (g.sub.free hp) upd_same
theorem Bp.mono {K : PySem.W.Frag} {F G H H' : Hp} {v : V} {d : PyData} (e : Same F G) (e' : Same H H') (h : Bp K F H v d) : Bp K G H' v d :=
  h.imp (Rp.mono e) fun ⟨p, vs, ds, e1, e2, e3, e4⟩ => ⟨p, vs, ds, e1, e2, e' _ _ e3, dpa_mono e ds e4⟩
/-- what is read stands in the whole heap -/
theorem Bp.all {K : PySem.W.Frag} {G H : Hp} {v : V} {d : PyData} (e : Same G H) (h : Bp K G H v d) : Rp K H v d := by
  rcases h with h | ⟨p, vs, ds, rfl, rfl, h, q⟩
  · exact h.mono e
  · exact .inl (.lst h (dpa_mono e ds q))
theorem Rp.dp {K : PySem.W.Frag} {G : Hp} {v : V} {d : PyData} (h : Rp K G v d) (n : ∀ l, d ≠ .dict l := by intro l z; cases z) : Dq K G v d := by
  rcases h with h | ⟨a, _, rfl⟩ | ⟨a, ns, _, rfl, _⟩
  · exact h
  · exact absurd rfl (n _)
  · exact absurd rfl (n _)
theorem Bp.int {K : PySem.W.Frag} {G H : Hp} {v : V} {i : Int} (h : Bp K G H v (.int i)) : v = .int i := by
  rcases h with (h | ⟨a, _, z⟩ | ⟨a, ns, _, z, _⟩) | ⟨p, vs, ds, _, z, _⟩
  · cases h; rfl
  · cases z
  · cases z
  · cases z
theorem Bp.str {K : PySem.W.Frag} {G H : Hp} {v : V} {i : Str} (h : Bp K G H v (.str i)) : v = .str i := by
  rcases h with (h | ⟨a, _, z⟩ | ⟨a, ns, _, z, _⟩) | ⟨p, vs, ds, _, z, _⟩
  · cases h; rfl
  · cases z
  · cases z
  · cases z
theorem Bp.bool {K : PySem.W.Frag} {G H : Hp} {v : V} {i : Bool} (h : Bp K G H v (.bool i)) : v = .bl i := by
  rcases h with (h | ⟨a, _, z⟩ | ⟨a, ns, _, z, _⟩) | ⟨p, vs, ds, _, z, _⟩
  · cases h; rfl
  · cases z
  · cases z
  · cases z
theorem Bp.non {K : PySem.W.Frag} {G H : Hp} {v : V} (h : Bp K G H v .none) : v = .non := by
  rcases h with (h | ⟨a, _, z⟩ | ⟨a, ns, _, z, _⟩) | ⟨p, vs, ds, _, z, _⟩
  · cases h; rfl
  · cases z
  · cases z
  · cases z
/-- a list that is read: its items are data that stand -/
theorem Bp.list {K : PySem.W.Frag} {G H : Hp} {v : V} {ds : List PyData} (e : Same G H) (h : Bp K G H v (.list ds)) : ∃ p vs, v = .ref p ∧ H p = some (.lst vs) ∧ DqAll K G vs ds := by
  rcases h with (h | ⟨a, _, z⟩ | ⟨a, ns, _, z, _⟩) | ⟨p, vs, ds, rfl, z, h, q⟩
  · cases h with
    | lst hs ha => exact ⟨_, _, rfl, e _ _ hs, ha⟩
  · cases z
  · cases z
  · cases z; exact ⟨p, vs, rfl, h, q⟩
theorem Bp.tuple {K : PySem.W.Frag} {G H : Hp} {v : V} {ds : List PyData} (e : Same G H) (h : Bp K G H v (.tuple ds)) : ∃ p vs, v = .ref p ∧ SqT K H p vs ∧ DqAll K G vs ds := by
  rcases h with (h | ⟨a, _, z⟩ | ⟨a, ns, _, z, _⟩) | ⟨p, vs, ds, rfl, z, h, q⟩
  · cases h with
    | tup hs ha => exact ⟨_, _, rfl, same_t e hs, ha⟩
  · cases z
  · cases z
  · cases z

theorem Bp.scr {K : PySem.W.Frag} {G H : Hp} {v : V} {ds : List PyData} (e : Same G H) (h : Bp K G H v (.dict [(.none, .list ds)])) : ∃ p vs, v = .ref p ∧ SqL K H p vs ∧ DqAll K G vs ds := by
  rcases h with (h | ⟨a, _, z⟩ | ⟨a, ns, rfl, z, h⟩) | ⟨p, vs, ds, rfl, z, h, q⟩
  · cases h
  · cases z
  · cases z; exact ⟨a, _, rfl, e.seq h, dpa_ints ns⟩
  · cases z

/-! ### objects of the program -/
structure Person where
  name : Str
  skills : List Str
  limit : Int
  rests : List (Int × Int)
structure Shift where
  name : Str
  b : Int
  e : Int
  needs : List (Str × Int)
structure BookSt where
  people : List Person
  shifts : List Shift
def stD (p : Int × Int) : PyData := .tuple [.int p.1, .int p.2]
def bkFs (dS dL dR dT dN : Addr) : List (Str × V) := [("skills", .ref dS), ("limits", .ref dL), ("rests", .ref dR), ("stretches", .ref dT), ("needs", .ref dN)]
abbrev PE3 := List (Person × Addr × Addr)
abbrev SE3 := List (Shift × Addr × Addr)
def kvS (pe : PE3) : List (Key × V) := pe.map fun x => (Sum.inr x.1.name, V.ref x.2.1)
def kvL (pe : PE3) : List (Key × V) := pe.map fun x => (Sum.inr x.1.name, V.int x.1.limit)
def kvR (pe : PE3) : List (Key × V) := pe.map fun x => (Sum.inr x.1.name, V.ref x.2.2)
def kvT (sh : SE3) : List (Key × V) := sh.map fun x => (Sum.inr x.1.name, V.ref x.2.1)
def kvN (sh : SE3) : List (Key × V) := sh.map fun x => (Sum.inr x.1.name, V.ref x.2.2)
def kvC (l : List (Str × Int)) : List (Key × V) := l.map fun n => (Sum.inr n.1, V.int n.2)
/-- a book at a, its parts in the region R; the stretches are data in F -/
structure BookIn (K : PySem.W.Frag) (F R : Hp) (a : Addr) (β : BookSt) (dx dS dL dR dT dN : Addr) (pe : PE3) (sh : SE3) : Prop where
  pn : pe.map (·.1) = β.people
  sn : sh.map (·.1) = β.shifts
  ob : R a = some (.ins (He.ga K "Book") dx (bkFs dS dL dR dT dN))
  ow : R dx = some (.own a)
  cS : R dS = some (.dK (kvS pe))
  cL : R dL = some (.dK (kvL pe))
  cR : R dR = some (.dK (kvR pe))
  cT : R dT = some (.dK (kvT sh))
  cN : R dN = some (.dK (kvN sh))
  nd : [dS, dL, dR, dT, dN].Nodup
  ps : ∀ x ∈ pe, R x.2.1 = some (.lst (x.1.skills.map V.str))
  pr : ∀ x ∈ pe, ∃ vs, R x.2.2 = some (.lst vs) ∧ DqAll K F vs (x.1.rests.map stD)
  st : ∀ x ∈ sh, Dq K F (.ref x.2.1) (stD (x.1.b, x.1.e))
  sc : ∀ x ∈ sh, R x.2.2 = some (.dK (kvC x.1.needs))
  rn : (pe.map (·.2.2)).Nodup
  rs : ∀ x ∈ pe, ∀ y ∈ pe, x.2.1 ≠ y.2.2
  nn : ∀ x ∈ sh, x.2.2 ∉ [dS, dL, dR, dT, dN]
  un : (β.people.map (·.name)).Nodup
  us : (β.shifts.map (·.name)).Nodup
  sz : β.people.length ≤ 1000 ∧ β.shifts.length ≤ 1000 ∧ (∀ p ∈ β.people, p.rests.length ≤ 1000 ∧ p.skills.length ≤ 1000) ∧ ∀ s ∈ β.shifts, s.needs.length ≤ 1000
def BookAt (K : PySem.W.Frag) (F R : Hp) (a : Addr) (β : BookSt) : Prop := ∃ dx dS dL dR dT dN pe sh, BookIn K F R a β dx dS dL dR dT dN pe sh
theorem BookIn.mono {K : PySem.W.Frag} {F G R R' : Hp} {a : Addr} {β : BookSt} {dx dS dL dR dT dN : Addr} {pe : PE3} {sh : SE3} (h : BookIn K F R a β dx dS dL dR dT dN pe sh) (e : Same F G) (e' : Same R R') : BookIn K G R' a β dx dS dL dR dT dN pe sh where
  pn := h.pn
  sn := h.sn
  ob := e' _ _ h.ob
  ow := e' _ _ h.ow
  cS := e' _ _ h.cS
  cL := e' _ _ h.cL
  cR := e' _ _ h.cR
  cT := e' _ _ h.cT
  cN := e' _ _ h.cN
  nd := h.nd
  ps := fun x hx => e' _ _ (h.ps x hx)
  pr := fun x hx => let ⟨vs, h1, h2⟩ := h.pr x hx; ⟨vs, e' _ _ h1, dpa_mono e _ h2⟩
  st := fun x hx => dp_mono e _ (h.st x hx)
  sc := fun x hx => e' _ _ (h.sc x hx)
  rn := h.rn
  rs := h.rs
  nn := h.nn
  un := h.un
  us := h.us
  sz := h.sz
theorem BookAt.mono {K : PySem.W.Frag} {F G R R' : Hp} {a : Addr} {β : BookSt} (h : BookAt K F R a β) (e : Same F G) (e' : Same R R') : BookAt K G R' a β := by
  obtain ⟨dx, dS, dL, dR, dT, dN, pe, sh, h⟩ := h
  exact ⟨dx, dS, dL, dR, dT, dN, pe, sh, h.mono e e'⟩
/-- a deal: the limits by names; places, days, able, who -/
structure DealSt where
  limits : List (Str × Int)
  ls : List (List PyData)
def nmD : List Str := ["places", "days", "able", "who"]
def kvD (l : List (Str × Int)) : List (Key × V) := l.map fun n => (Sum.inr n.1, V.int n.2)
def dlFs (dL : Addr) (as : List Addr) : List (Str × V) := ("limits", .ref dL) :: nmD.zip (as.map V.ref)
structure DealIn (K : PySem.W.Frag) (F R : Hp) (a : Addr) (δ : DealSt) (dx dL : Addr) (as : List Addr) : Prop where
  ob : R a = some (.ins (He.ga K "Deal") dx (dlFs dL as))
  ow : R dx = some (.own a)
  cL : R dL = some (.dK (kvD δ.limits))
  la : as.length = δ.ls.length
  ll : as.length ≤ 4
  ls : ∀ (j : Nat) (p : Addr) (ds : List PyData), as[j]? = some p → δ.ls[j]? = some ds → ∃ vs, R p = some (.lst vs) ∧ DqAll K F vs ds
  nd : as.Nodup
def DealAt (K : PySem.W.Frag) (F R : Hp) (a : Addr) (δ : DealSt) : Prop := ∃ dx dL as, DealIn K F R a δ dx dL as
theorem DealAt.mono {K : PySem.W.Frag} {F G R R' : Hp} {a : Addr} {δ : DealSt} (h : DealAt K F R a δ) (e : Same F G) (e' : Same R R') : DealAt K G R' a δ := by
  obtain ⟨dx, dL, as, h⟩ := h
  exact ⟨dx, dL, as, e' _ _ h.ob, e' _ _ h.ow, e' _ _ h.cL, h.la, h.ll, fun j p ds h1 h2 => let ⟨vs, q1, q2⟩ := h.ls j p ds h1 h2; ⟨vs, e' _ _ q1, dpa_mono e _ q2⟩, h.nd⟩
/-- a list whose items are data, or lists of its own -/
inductive Cell where
  | dat (d : PyData) | lst (ds : List PyData)
inductive CellOk (K : PySem.W.Frag) (F R : Hp) (a : Addr) : V → Cell → Prop
  | dat {v : V} {d : PyData} : Dq K F v d → CellOk K F R a v (.dat d)
  | lst {p : Addr} {vs : List V} {ds : List PyData} : p ≠ a → R p = some (.lst vs) → DqAll K F vs ds → CellOk K F R a (.ref p) (.lst ds)
structure RowIn (K : PySem.W.Frag) (F R : Hp) (a : Addr) (cs : List Cell) (vs : List V) : Prop where
  ob : R a = some (.lst vs)
  len : vs.length = cs.length
  el : ∀ (i : Nat) (v : V) (c : Cell), vs[i]? = some v → cs[i]? = some c → CellOk K F R a v c
  dis : ∀ (i j : Nat) (p : Addr) (ds es : List PyData), i ≠ j → vs[i]? = some (.ref p) → cs[i]? = some (.lst ds) → vs[j]? = some (.ref p) → cs[j]? = some (.lst es) → False
def RowAt (K : PySem.W.Frag) (F R : Hp) (a : Addr) (cs : List Cell) : Prop := ∃ vs, RowIn K F R a cs vs
theorem CellOk.mono {K : PySem.W.Frag} {F G R R' : Hp} {a : Addr} {v : V} {c : Cell} (h : CellOk K F R a v c) (e : Same F G) (e' : Same R R') : CellOk K G R' a v c := by
  cases h with
  | dat h => exact .dat (dp_mono e _ h)
  | lst h1 h2 h3 => exact .lst h1 (e' _ _ h2) (dpa_mono e _ h3)
theorem RowAt.mono {K : PySem.W.Frag} {F G R R' : Hp} {a : Addr} {cs : List Cell} (h : RowAt K F R a cs) (e : Same F G) (e' : Same R R') : RowAt K G R' a cs := by
  obtain ⟨vs, h⟩ := h
  exact ⟨vs, e' _ _ h.ob, h.len, fun i v c h1 h2 => (h.el i v c h1 h2).mono e e', h.dis⟩
/-- a dict by whole numbers -/
def kvI (l : List (Int × V)) : List (Key × V) := l.map fun n => (Sum.inl n.1, n.2)
inductive KvAll (K : PySem.W.Frag) (F : Hp) : List (Int × V) → List (Int × PyData) → Prop
  | nil : KvAll K F [] []
  | cons {k : Int} {v : V} {d : PyData} {kv : List (Int × V)} {l : List (Int × PyData)} : Dq K F v d → KvAll K F kv l → KvAll K F ((k, v) :: kv) ((k, d) :: l)
theorem KvAll.mono {K : PySem.W.Frag} {F G : Hp} (e : Same F G) : ∀ {kv : List (Int × V)} {l : List (Int × PyData)}, KvAll K F kv l → KvAll K G kv l
  | _, _, .nil => .nil
  | _, _, .cons h t => .cons (dp_mono e _ h) (KvAll.mono e t)
def DctAt (K : PySem.W.Frag) (F R : Hp) (a : Addr) (l : List (Int × PyData)) : Prop := ∃ kv : List (Int × V), R a = some (.dK (kvI kv)) ∧ KvAll K F kv l
theorem DctAt.mono {K : PySem.W.Frag} {F G R R' : Hp} {a : Addr} {l : List (Int × PyData)} (h : DctAt K F R a l) (e : Same F G) (e' : Same R R') : DctAt K G R' a l := by
  obtain ⟨kv, h1, h2⟩ := h
  exact ⟨kv, e' _ _ h1, h2.mono e⟩
/-- a new tuple of a text and a list of its own -/
def PairAt (K : PySem.W.Frag) (F R : Hp) (a : Addr) (x : Str) (ds : List PyData) : Prop := ∃ p vs, R a = some (.tup [.str x, .ref p]) ∧ R p = some (.lst vs) ∧ DqAll K F vs ds
theorem PairAt.mono {K : PySem.W.Frag} {F G R R' : Hp} {a : Addr} {x : Str} {ds : List PyData} (h : PairAt K F R a x ds) (e : Same F G) (e' : Same R R') : PairAt K G R' a x ds := by
  obtain ⟨p, vs, h1, h2, h3⟩ := h
  exact ⟨p, vs, e' _ _ h1, e' _ _ h2, dpa_mono e _ h3⟩
inductive ObjSt where
  | book (β : BookSt) | deal (δ : DealSt) | row (cs : List Cell) | dct (l : List (Int × PyData)) | pair (x : Str) (ds : List PyData) | raw (C : Str)
def ObjAt (K : PySem.W.Frag) (F R : Hp) (a : Addr) : ObjSt → Prop
  | .book β => BookAt K F R a β
  | .deal δ => DealAt K F R a δ
  | .row cs => RowAt K F R a cs
  | .dct l => DctAt K F R a l
  | .pair x ds => PairAt K F R a x ds
  | .raw C => ∃ dx, R a = some (.ins (He.ga K C) dx []) ∧ R dx = some (.own a)
theorem ObjAt.mono {K : PySem.W.Frag} {F G R R' : Hp} {a : Addr} {o : ObjSt} (h : ObjAt K F R a o) (e : Same F G) (e' : Same R R') : ObjAt K G R' a o := by
  cases o with
  | book β => exact BookAt.mono h e e'
  | deal δ => exact DealAt.mono h e e'
  | row cs => exact RowAt.mono h e e'
  | dct l => exact DctAt.mono h e e'
  | pair x ds => exact PairAt.mono h e e'
  | raw C =>
    obtain ⟨dx, h1, h2⟩ := h
    exact ⟨dx, e' _ _ h1, e' _ _ h2⟩
/-- a region for each slot -/
abbrev Rg := Nat → Hp
/-- two parts that have no address in common -/
def Apart (R F : Hp) : Prop := ∀ a, R a ≠ none → F a = none
theorem Apart.sym {R F : Hp} (h : Apart R F) : Apart F R := fun a ha => by
  cases e : R a with
  | none => rfl
  | some o => exact absurd (h a (by rw [e]; intro z; cases z)) ha
/-! ### environments -/
/-- what stands while a function runs: an object's region that is read, the data that it names, what the object is -/
structure Bs where
  h : Hp
  f : Hp
  bk : Addr → Option ObjSt
  o : Option Addr := none
inductive Sl where
  | no | val (d : PyData) | own (ds : List PyData) | obj (o : ObjSt)
abbrev Rho := List Sl
abbrev SE := Rho → Option PyData
abbrev STe := Rho → Option Bool
abbrev SA := Rho → Option (List PyData)
inductive Out where
  | no | nx (r : Rho) | rt (d : PyData) (r : Rho) | ex (c : Str) (r : Rho) | ro (i : Nat) (r : Rho)
abbrev SS := Rho → Out
structure EnvOk (K : PySem.W.Frag) (B : Bs) (R : Rg) (F H : Hp) (σ : L2.St) (ρ : Rho) : Prop where
  bs : Same B.f F
  bh : Same B.h H
  bF : Apart B.h F
  bo : ∀ a o, B.bk a = some o → ObjAt K B.f B.h a o
  ex : Same F H
  rh : ∀ i, Same (R i) H
  rF : ∀ i, Apart (R i) F
  rB : ∀ i, Apart (R i) B.h
  rr : ∀ i j, i ≠ j → Apart (R i) (R j)
  len : ρ.length = σ.length
  val : ∀ (i : Nat) (d : PyData), ρ[i]? = some (.val d) → ∃ v, σ[i]? = some (some v) ∧ Rp K F v d
  own : ∀ (i : Nat) (ds : List PyData), ρ[i]? = some (.own ds) → ∃ p vs, σ[i]? = some (some (.ref p)) ∧ H p = some (.lst vs) ∧ DqAll K F vs ds ∧ F p = none ∧ (∀ i, R i p = none) ∧ B.h p = none
  dis : ∀ (i j : Nat) (ds es : List PyData) (p : Addr), i ≠ j → ρ[i]? = some (.own ds) → ρ[j]? = some (.own es) → σ[i]? = some (some (.ref p)) → σ[j]? = some (some (.ref p)) → False
  obj : ∀ (i : Nat) (o : ObjSt), ρ[i]? = some (.obj o) → ∃ a, σ[i]? = some (some (.ref a)) ∧ ObjAt K F (R i) a o
  oa : ∀ a0, B.o = some a0 → ∀ (o : ObjSt) (a : Addr), ρ[0]? = some (.obj o) → σ[0]? = some (some (.ref a)) → a = a0
theorem Grow.apart {H F H' G R : Hp} (g : Grow H F H' G) (e : Same R H) (h : Apart R F) : Apart R G := fun a ha => g.no a (h a ha) fun z => ha (e.free z)
theorem EnvOk.grow {K : PySem.W.Frag} {B : Bs} {R : Rg} {F H G H' : Hp} {σ : L2.St} {ρ : Rho} (e : EnvOk K B R F H σ ρ) (g : Grow H F H' G) : EnvOk K B R G H' σ ρ where
  bs := e.bs.trans g.f
  bh := e.bh.trans g.h
  bF := g.apart e.bh e.bF
  bo := e.bo
  ex := g.sub
  rh := fun i => (e.rh i).trans g.h
  rF := fun i => g.apart (e.rh i) (e.rF i)
  rB := e.rB
  rr := e.rr
  len := e.len
  val := fun i d h => let ⟨v, h1, h2⟩ := e.val i d h; ⟨v, h1, h2.mono g.f⟩
  own := fun i ds h => let ⟨p, vs, h1, h2, h3, h4, h5⟩ := e.own i ds h; ⟨p, vs, h1, g.h _ _ h2, dpa_mono g.f ds h3, g.no p h4 (by rw [h2]; intro z; cases z), h5⟩
  dis := e.dis
  obj := fun i o h => let ⟨a, h1, h2⟩ := e.obj i o h; ⟨a, h1, h2.mono g.f (Same.refl (R i))⟩
  oa := e.oa

/-! ### what an expression's reading does -/
def EOk (K : PySem.W.Frag) (B : Bs) (t : TE) (f : SE) : Prop := ∀ (R : Rg) (F H : Hp) (σ : L2.St) (ρ : Rho) (d : PyData), EnvOk K B R F H σ ρ → f ρ = some d → ∀ Q : VK, (∀ v H' G, Grow H F H' G → Rp K G v d → Q v H') → t σ H Q
def BOk (K : PySem.W.Frag) (B : Bs) (t : TE) (f : SE) : Prop := ∀ (R : Rg) (F H : Hp) (σ : L2.St) (ρ : Rho) (d : PyData), EnvOk K B R F H σ ρ → f ρ = some d → ∀ Q : VK, (∀ v H' G, Grow H F H' G → Bp K G H' v d → Q v H') → t σ H Q
/-- a new list -/
def LOk (K : PySem.W.Frag) (B : Bs) (t : TE) (f : SA) : Prop := ∀ (R : Rg) (F H : Hp) (σ : L2.St) (ρ : Rho) (ds : List PyData), EnvOk K B R F H σ ρ → f ρ = some ds → ∀ Q : VK,
  (∀ p vs H' G, Grow H F H' G → H p = none → G p = none → H' p = some (.lst vs) → DqAll K G vs ds → Q (.ref p) H') → t σ H Q
def TOk (K : PySem.W.Frag) (B : Bs) (t : TT) (f : STe) : Prop := ∀ (R : Rg) (F H : Hp) (σ : L2.St) (ρ : Rho) (b : Bool), EnvOk K B R F H σ ρ → f ρ = some b → ∀ Q : Bool → Hp → Prop, (∀ H' G, Grow H F H' G → Q b H') → t σ H Q
/-- arguments that stand | that are read for a moment -/
inductive RpAll (K : PySem.W.Frag) (F : Hp) : List V → List PyData → Prop
  | nil : RpAll K F [] []
  | cons {v : V} {vs : List V} {d : PyData} {ds : List PyData} : Rp K F v d → RpAll K F vs ds → RpAll K F (v :: vs) (d :: ds)
inductive BpAll (K : PySem.W.Frag) (G H : Hp) : List V → List PyData → Prop
  | nil : BpAll K G H [] []
  | cons {v : V} {vs : List V} {d : PyData} {ds : List PyData} : Bp K G H v d → BpAll K G H vs ds → BpAll K G H (v :: vs) (d :: ds)
def AOk (K : PySem.W.Frag) (B : Bs) (t : TA) (f : SA) : Prop := ∀ (R : Rg) (F H : Hp) (σ : L2.St) (ρ : Rho) (ds : List PyData), EnvOk K B R F H σ ρ → f ρ = some ds → ∀ Q : List V → Hp → Prop, (∀ vs H' G, Grow H F H' G → RpAll K G vs ds → Q vs H') → t σ H Q
def ABOk (K : PySem.W.Frag) (B : Bs) (t : TA) (f : SA) : Prop := ∀ (R : Rg) (F H : Hp) (σ : L2.St) (ρ : Rho) (ds : List PyData), EnvOk K B R F H σ ρ → f ρ = some ds → ∀ Q : List V → Hp → Prop, (∀ vs H' G, Grow H F H' G → BpAll K G H' vs ds → Q vs H') → t σ H Q

structure SemE (X : Cx) (K : PySem.W.Frag) (B : Bs) (e : Expr) (t : TE) (f : SE) : Prop where
  pe : PE X e t
  ok : EOk K B t f
structure SemB (X : Cx) (K : PySem.W.Frag) (B : Bs) (e : Expr) (t : TE) (f : SE) : Prop where
  pe : PE X e t
  ok : BOk K B t f
structure SemL (X : Cx) (K : PySem.W.Frag) (B : Bs) (e : Expr) (t : TE) (f : SA) : Prop where
  pe : PE X e t
  ok : LOk K B t f
structure SemT (X : Cx) (K : PySem.W.Frag) (B : Bs) (e : Expr) (t : TT) (f : STe) : Prop where
  pt : PT X e t
  ok : TOk K B t f
structure SemW (X : Cx) (K : PySem.W.Frag) (B : Bs) (e : Expr) (t : TT) (f : STe) : Prop where
  pw : PW X e t
  ok : TOk K B t f
structure SemA (X : Cx) (K : PySem.W.Frag) (B : Bs) (es : List Expr) (t : TA) (f : SA) : Prop where
  pa : PA X es t
  ok : AOk K B t f
structure SemAB (X : Cx) (K : PySem.W.Frag) (B : Bs) (es : List Expr) (t : TA) (f : SA) : Prop where
  pa : PA X es t
  ok : ABOk K B t f

/-! ### the functions that the terms make -/
def eVar (i : Nat) : SE := fun ρ => match ρ[i]? with
  | some (.val d) => some d
  | _ => none
def eVarB (i : Nat) : SE := fun ρ => match ρ[i]? with
  | some (.val d) => some d
  | some (.own ds) => some (.list ds)
  | _ => none
def eC (d : PyData) : SE := fun _ => some d
def eOp (g : PyData → PyData → Option PyData) (f1 f2 : SE) : SE := fun ρ => (f1 ρ).bind fun x => (f2 ρ).bind fun y => g x y
def eUn (g : PyData → Option PyData) (f1 : SE) : SE := fun ρ => (f1 ρ).bind g
def eNil : SA := fun _ => some []
def eCons (f : SE) (g : SA) : SA := fun ρ => (f ρ).bind fun d => (g ρ).bind fun ds => some (d :: ds)
def eTup (g : SA) : SE := fun ρ => (g ρ).map .tuple
def eList (g : SA) : SE := fun ρ => (g ρ).map .list
def eCall (F : List PyData → Option PyData) (g : SA) : SE := fun ρ => (g ρ).bind F
/-- a value without parts -/
def scalD : PyData → Bool
  | .none => true
  | .bool _ => true
  | .int _ => true
  | .str _ => true
  | _ => false
def onlyS (o : Option PyData) : Option PyData := o.bind fun d => if scalD d then some d else none
theorem rp_scal {K : PySem.W.Frag} {G G' : Hp} {v : V} {d : PyData} (h : Rp K G v d) (s : scalD d = true) : Rp K G' v d := by
  rcases h with h | ⟨a, rfl, rfl⟩ | ⟨a, ns, _, rfl, _⟩
  · cases h with
    | non => exact .inl .non
    | bl b => exact .inl (.bl b)
    | int i => exact .inl (.int i)
    | str x => exact .inl (.str x)
    | lst _ _ => cases s
    | tup _ _ => cases s
  · cases s
  · cases s

section
variable {X : Cx} {K : PySem.W.Frag} {B : Bs} {e e1 e2 : Expr} {es : List Expr} {t t1 t2 : TE} {ta : TA} {f f1 f2 : SE} {g : SA} {pos : Pos}
theorem EOk.b (h : EOk K B t f) : BOk K B t f := fun R F H σ ρ d E q Q k => h R F H σ ρ d E q Q fun v H' G g r => k v H' G g (.inl r)
theorem SemE.b (h : SemE X K B e t f) : SemB X K B e t f := ⟨h.pe, h.ok.b⟩
theorem LOk.toE {f : SA} (h : LOk K B t f) : EOk K B t (eList f) := fun R F H σ ρ d E q Q k => by
  cases hf : f ρ with
  | none => simp [eList, hf] at q
  | some ds =>
    simp [eList, hf] at q
    subst q
    refine h R F H σ ρ ds E hf Q fun p vs H' G g h1 h2 h3 h4 => k _ H' _ (g.within h1 h2 h3) (.inl (.lst upd_same (dpa_mono (Same.upd_new (Same.refl G) h2) ds h4)))
theorem SemL.toE {f : SA} (h : SemL X K B e t f) : SemE X K B e t (eList f) := ⟨h.pe, h.ok.toE⟩
theorem var_ok (i : Nat) : EOk K B (tVar i) (eVar i) := fun R F H σ ρ d E q Q k => by
  unfold eVar at q
  split at q
  · rename_i d' h
    cases q
    obtain ⟨v, h1, h2⟩ := E.val i _ h
    exact ⟨v, h1, k v H F (Grow.refl E.ex) h2⟩
  · cases q
theorem varB_ok (i : Nat) : BOk K B (tVar i) (eVarB i) := fun R F H σ ρ d E q Q k => by
  unfold eVarB at q
  split at q
  · rename_i d' h
    cases q
    obtain ⟨v, h1, h2⟩ := E.val i _ h
    exact ⟨v, h1, k v H F (Grow.refl E.ex) (.inl h2)⟩
  · rename_i ds h
    cases q
    obtain ⟨p, vs, h1, h2, h3, h4, _⟩ := E.own i _ h
    exact ⟨.ref p, h1, k _ H F (Grow.refl E.ex) (.inr ⟨p, vs, ds, rfl, rfl, h2, h3⟩)⟩
  · cases q
theorem c_ok {v : V} {d : PyData} (h : ∀ F, Rp K F v d) : EOk K B (tC v) (eC d) := fun R F H σ ρ d' E q Q k => by
  cases q
  exact k v H F (Grow.refl E.ex) (h F)
theorem nil_ok : AOk K B tNil eNil := fun R F H σ ρ d E q Q k => by
  cases q
  exact k [] H F (Grow.refl E.ex) .nil
theorem nilB_ok : ABOk K B tNil eNil := fun R F H σ ρ d E q Q k => by
  cases q
  exact k [] H F (Grow.refl E.ex) .nil
theorem cons_ok (h1 : EOk K B t f) (h2 : AOk K B ta g) : AOk K B (tCons t ta) (eCons f g) := fun R F H σ ρ ds E q Q k => by
  cases hf : f ρ with
  | none => simp [eCons, hf] at q
  | some d =>
    cases hg : g ρ with
    | none => simp [eCons, hf, hg] at q
    | some es =>
      simp [eCons, hf, hg] at q
      subst q
      exact h1 R F H σ ρ d E hf _ fun v H1 G1 g1 r1 => h2 R G1 H1 σ ρ es (E.grow g1) hg _ fun vs H2 G2 g2 r2 => k _ H2 G2 (g1.trans g2) (.cons (r1.mono g2.f) r2)
theorem consB_ok (h1 : BOk K B t f) (h2 : ABOk K B ta g) : ABOk K B (tCons t ta) (eCons f g) := fun R F H σ ρ ds E q Q k => by
  cases hf : f ρ with
  | none => simp [eCons, hf] at q
  | some d =>
    cases hg : g ρ with
    | none => simp [eCons, hf, hg] at q
    | some es =>
      simp [eCons, hf, hg] at q
      subst q
      exact h1 R F H σ ρ d E hf _ fun v H1 G1 g1 r1 => h2 R G1 H1 σ ρ es (E.grow g1) hg _ fun vs H2 G2 g2 r2 => k _ H2 G2 (g1.trans g2) (.cons (r1.mono g2.f g2.h) r2)
/-- no opaque object among them -/
def dataD : PyData → Bool
  | .dict _ => false
  | _ => true
theorem RpAll.dp {K : PySem.W.Frag} {F : Hp} : ∀ {vs : List V} {ds : List PyData}, RpAll K F vs ds → ds.all dataD = true → DqAll K F vs ds
  | [], [], _, _ => .nil
  | [], _ :: _, h, _ => by cases h
  | _ :: _, [], h, _ => by cases h
  | v :: vs, d :: ds, h, a => by
    cases h with
    | cons h1 h2 =>
      rw [List.all_cons, Bool.and_eq_true] at a
      exact .cons (h1.dp (by rintro l rfl; cases a.1)) (RpAll.dp h2 a.2)
def eTupD (g : SA) : SE := fun ρ => (g ρ).bind fun ds => if ds.all dataD = true ∧ ds.length ≤ 1000 then some (.tuple ds) else none
def eLstD (g : SA) : SA := fun ρ => (g ρ).bind fun ds => if ds.all dataD = true ∧ ds.length ≤ 1000 then some ds else none
theorem RpAll.len {K : PySem.W.Frag} {F : Hp} : ∀ {vs : List V} {ds : List PyData}, RpAll K F vs ds → vs.length = ds.length
  | [], [], _ => rfl
  | [], _ :: _, h => by cases h
  | _ :: _, [], h => by cases h
  | v :: vs, d :: ds, h => by
    cases h with
    | cons h1 h2 => exact congrArg Nat.succ (RpAll.len h2)
theorem le_line {n : Nat} (h : n ≤ 1000) : n ≤ sizeLine := Nat.le_trans h (by decide)
theorem tup_ok (h : AOk K B ta g) : EOk K B (tTup ta) (eTupD g) := fun R F H σ ρ d E q Q k => by
  cases hg : g ρ with
  | none => simp [eTupD, hg] at q
  | some ds =>
    simp only [eTupD, hg, Option.bind_some] at q
    split at q
    · rename_i c
      cases q
      refine h R F H σ ρ ds E hg _ fun vs H1 G1 g1 r1 => ⟨le_line (by rw [r1.len]; exact c.2), fun p hp => k _ _ _ (g1.new (o := .tup vs) hp) (.inl (.tup (.inl (.inl upd_same)) ?_))⟩
      exact dpa_mono (Same.upd_new (Same.refl G1) (g1.sub.free hp)) ds (r1.dp c.1)
    · cases q
theorem lst_ok (h : AOk K B ta g) : LOk K B (tLst ta) (eLstD g) := fun R F H σ ρ d E q Q k => by
  cases hg : g ρ with
  | none => simp [eLstD, hg] at q
  | some ds =>
    simp only [eLstD, hg, Option.bind_some] at q
    split at q
    · rename_i c
      cases q
      refine h R F H σ ρ _ E hg _ fun vs H1 G1 g1 r1 => ⟨le_line (by rw [r1.len]; exact c.2), fun p hp => k p vs _ G1 (g1.beside (o := .lst vs) hp) (g1.h.free hp) (g1.sub.free hp) upd_same (r1.dp c.1)⟩
    · cases q
theorem SemE.cons (h1 : SemE X K B e t f) (h2 : SemA X K B es ta g) (hs : starEach (e :: es) X.env = (false, eval e X.env) :: starEach es X.env := by rfl) : SemA X K B (e :: es) (tCons t ta) (eCons f g) := ⟨pa_cons h1.pe h2.pa hs, cons_ok h1.ok h2.ok⟩
theorem SemB.cons (h1 : SemB X K B e t f) (h2 : SemAB X K B es ta g) (hs : starEach (e :: es) X.env = (false, eval e X.env) :: starEach es X.env := by rfl) : SemAB X K B (e :: es) (tCons t ta) (eCons f g) := ⟨pa_cons h1.pe h2.pa hs, consB_ok h1.ok h2.ok⟩
theorem sa_nil : SemA X K B [] tNil eNil := ⟨pa_nil, nil_ok⟩
theorem sab_nil : SemAB X K B [] tNil eNil := ⟨pa_nil, nilB_ok⟩
end
end RT
namespace RT
open PySem PySem.Spec PyProof.Rows L2
/-! ### operators on data -/
def OpS (K : PySem.W.Frag) (r : R2) (g : PyData → PyData → Option PyData) : Prop := ∀ (G H : Hp) (x y : V) (d1 d2 d : PyData), Same G H → Bp K G H x d1 → Bp K G H y d2 → g d1 d2 = some d → ∀ Q : VK, (∀ v H' G', Grow H G H' G' → Rp K G' v d → Q v H') → r x y H Q
def CallS (K : PySem.W.Frag) (r : List V → Hp → VK → Prop) (g : List PyData → Option PyData) : Prop := ∀ (G H : Hp) (xs : List V) (ds : List PyData) (d : PyData), Same G H → BpAll K G H xs ds → g ds = some d → ∀ Q : VK, (∀ v H' G', Grow H G H' G' → Rp K G' v d → Q v H') → r xs H Q
/-- a new list handed back -/
def CallL (K : PySem.W.Frag) (r : List V → Hp → VK → Prop) (g : List PyData → Option (List PyData)) : Prop := ∀ (G H : Hp) (xs : List V) (ds : List PyData) (es : List PyData), Same G H → BpAll K G H xs ds → g ds = some es → ∀ Q : VK,
  (∀ p vs H' G', Grow H G H' G' → H p = none → G' p = none → H' p = some (.lst vs) → DqAll K G' vs es → Q (.ref p) H') → r xs H Q
def alt (g g' : PyData → PyData → Option PyData) : PyData → PyData → Option PyData := fun a b => match g a b with
  | some d => some d
  | none => g' a b
theorem OpS.or {K : PySem.W.Frag} {r r' : R2} {g g' : PyData → PyData → Option PyData} (h : OpS K r g) (h' : OpS K r' g') : OpS K (fun x y H Q => r x y H Q ∨ r' x y H Q) (alt g g') := fun G H x y d1 d2 d e b1 b2 q Q k => by
  unfold alt at q
  split at q
  · rename_i d' hd
    cases q
    exact .inl (h G H x y d1 d2 _ e b1 b2 hd Q k)
  · exact .inr (h' G H x y d1 d2 d e b1 b2 q Q k)
section
variable {K : PySem.W.Frag} {B : Bs} {t t1 t2 : TE} {f f1 f2 : SE} {ta : TA} {sa : SA}
theorem op_ok {r : R2} {g : PyData → PyData → Option PyData} (ho : OpS K r g) (h1 : BOk K B t1 f1) (h2 : BOk K B t2 f2) : EOk K B (tOp r t1 t2) (eOp g f1 f2) := fun R F H σ ρ d E q Q k => by
  cases e1 : f1 ρ with
  | none => simp [eOp, e1] at q
  | some x =>
    cases e2 : f2 ρ with
    | none => simp [eOp, e1, e2] at q
    | some y =>
      have q' : g x y = some d := by simpa [eOp, e1, e2] using q
      exact h1 R F H σ ρ x E e1 _ fun v H1 G1 g1 b1 => h2 R G1 H1 σ ρ y (E.grow g1) e2 _ fun u H2 G2 g2 b2 => ho G2 H2 v u x y d g2.sub (b1.mono g2.f g2.h) b2 q' Q fun z H3 G3 g3 r3 => k z H3 G3 ((g1.trans g2).trans g3) r3
theorem un_ok {r : V → Hp → VK → Prop} {g : PyData → Option PyData} (ho : ∀ (G H : Hp) (x : V) (d1 d : PyData), Same G H → Bp K G H x d1 → g d1 = some d → ∀ Q : VK, (∀ v H' G', Grow H G H' G' → Rp K G' v d → Q v H') → r x H Q) (h1 : BOk K B t1 f1) :
    EOk K B (tUn r t1) (eUn g f1) := fun R F H σ ρ d E q Q k => by
  cases e1 : f1 ρ with
  | none => simp [eUn, e1] at q
  | some x =>
    have q' : g x = some d := by simpa [eUn, e1] using q
    exact h1 R F H σ ρ x E e1 _ fun v H1 G1 g1 b1 => ho G1 H1 v x d g1.sub b1 q' Q fun z H3 G3 g3 r3 => k z H3 G3 (g1.trans g3) r3
theorem cb_ok {r : List V → Hp → VK → Prop} {g : List PyData → Option PyData} (ho : CallS K r g) (h : ABOk K B ta sa) : EOk K B (tCB r ta) (eCall g sa) := fun R F H σ ρ d E q Q k => by
  cases e1 : sa ρ with
  | none => simp [eCall, e1] at q
  | some ds =>
    have q' : g ds = some d := by simpa [eCall, e1] using q
    exact h R F H σ ρ ds E e1 _ fun vs H1 G1 g1 b1 => ho G1 H1 vs ds d g1.sub b1 q' Q fun z H3 G3 g3 r3 => k z H3 G3 (g1.trans g3) r3
def eCallL (g : List PyData → Option (List PyData)) (sa : SA) : SA := fun ρ => (sa ρ).bind g
theorem cbL_ok {r : List V → Hp → VK → Prop} {g : List PyData → Option (List PyData)} (ho : CallL K r g) (h : ABOk K B ta sa) : LOk K B (tCB r ta) (eCallL g sa) := fun R F H σ ρ d E q Q k => by
  cases e1 : sa ρ with
  | none => simp [eCallL, e1] at q
  | some ds =>
    have q' : g ds = some d := by simpa [eCallL, e1] using q
    exact h R F H σ ρ ds E e1 _ fun vs H1 G1 g1 b1 => ho G1 H1 vs ds d g1.sub b1 q' Q fun p us H3 G3 g3 h1 h2 h3 h4 => k p us H3 G3 (g1.trans g3) (g1.h.free h1) h2 h3 h4
end
/-! ### one by one -/
section
variable {K : PySem.W.Frag}
def gI (c : Int → Int → Bool) (g : Int → Int → PyData) : PyData → PyData → Option PyData
  | .int i, .int j => if c i j = true then some (g i j) else none
  | _, _ => none
def yesC : Int → Int → Bool := fun _ _ => true
theorem rI_s {C : Int → Int → Prop} {g : Int → Int → V} {g' : Int → Int → PyData} {c : Int → Int → Bool} (hC : ∀ i j, c i j = true → C i j) (hg : ∀ F i j, Rp K F (g i j) (g' i j)) : OpS K (rI C g) (gI c g') := fun G H x y d1 d2 d e b1 b2 q Q k => by
  cases d1 with
  | int i =>
    cases d2 with
    | int j =>
      simp only [gI] at q
      split at q
      · rename_i hc
        cases q
        cases b1.int
        cases b2.int
        exact ⟨i, j, rfl, rfl, hC i j hc, k _ H G (Grow.refl e) (hg G i j)⟩
      · cases q
    | _ => simp [gI] at q
  | _ => simp [gI] at q
theorem rI0_s {g : Int → Int → V} {g' : Int → Int → PyData} (hg : ∀ F i j, Rp K F (g i j) (g' i j)) : OpS K (rI0 g) (gI yesC g') := fun G H x y d1 d2 d e b1 b2 q Q k => by
  cases d1 with
  | int i =>
    cases d2 with
    | int j =>
      simp [gI, yesC] at q
      subst q
      cases b1.int
      cases b2.int
      exact ⟨i, j, rfl, rfl, k _ H G (Grow.refl e) (hg G i j)⟩
    | _ => simp [gI] at q
  | _ => simp [gI] at q
theorem rp_int {F : Hp} (i : Int) : Rp K F (.int i) (.int i) := .inl (.int i)
theorem rp_bool {F : Hp} (i : Bool) : Rp K F (.bl i) (.bool i) := .inl (.bl i)
theorem rp_str {F : Hp} (i : Str) : Rp K F (.str i) (.str i) := .inl (.str i)
theorem rp_non {F : Hp} : Rp K F .non .none := .inl .non

def LIM : Nat := 1000000
theorem lim_line {n : Nat} (h : n ≤ LIM) : n ≤ sizeLine := Nat.le_trans h (by decide)
/-- + -/
def gAddS : PyData → PyData → Option PyData
  | .str x, .str y => if x.length + y.length ≤ LIM then some (.str (x ++ y)) else none
  | _, _ => none
def gAddL : PyData → PyData → Option PyData
  | .list x, .list y => if x.length + y.length ≤ LIM then some (.list (x ++ y)) else none
  | _, _ => none
def rAddS2 : R2 := fun x y H Q => ∃ i j, x = .str i ∧ y = .str j ∧ i.length + j.length ≤ sizeLine ∧ Q (.str (i ++ j)) H
theorem addS_s : OpS K rAddS2 gAddS := fun G H x y d1 d2 d e b1 b2 q Q k => by
  cases d1 with
  | str i =>
    cases d2 with
    | str j =>
      simp only [gAddS] at q
      split at q
      · rename_i hc
        cases q
        cases b1.str
        cases b2.str
        exact ⟨i, j, rfl, rfl, lim_line hc, k _ H G (Grow.refl e) (rp_str _)⟩
      · cases q
    | _ => simp [gAddS] at q
  | _ => simp [gAddS] at q

theorem addL_s : OpS K rCat gAddL := fun G H x y d1 d2 d e b1 b2 q Q k => by
  cases d1 with
  | list i =>
    cases d2 with
    | list j =>
      simp only [gAddL] at q
      split at q
      · rename_i hc
        cases q
        obtain ⟨p1, vs, rfl, h1, a1⟩ := b1.list e
        obtain ⟨p2, ws, rfl, h2, a2⟩ := b2.list e
        refine ⟨p1, p2, vs, ws, rfl, rfl, h1, h2, lim_line (by rw [a1.len, a2.len]; exact hc), fun p hp => k _ _ _ ((Grow.refl e).new hp) (.inl (.lst upd_same ?_))⟩
        exact dpa_mono (Same.upd_new (Same.refl G) (e.free hp)) _ (a1.append a2)
      · cases q
    | _ => simp [gAddL] at q
  | _ => simp [gAddL] at q
def gAddI : PyData → PyData → Option PyData := gI yesC fun i j => .int (i + j)
def rAdd3 : R2 := fun x y H Q => (rI0 fun i j => .int (i + j)) x y H Q ∨ (rAddS2 x y H Q ∨ rCat x y H Q)
def gAdd : PyData → PyData → Option PyData := alt gAddI (alt gAddS gAddL)
theorem op_add3 {X : Cx} : OpR X (binaryOp .Add) rAdd3 := op_add.or (op_add_str.or op_cat)
theorem add3_s : OpS K rAdd3 gAdd := (rI0_s fun F i j => rp_int _).or (addS_s.or addL_s)
def gMinus : PyData → PyData → Option PyData := gI yesC fun i j => .int (i - j)
theorem sub_s : OpS K (rI0 fun i j => .int (i - j)) gMinus := rI0_s fun F i j => rp_int _
/-- *: ints, one of them small; a list, a text times an int -/
def cMul (i j : Int) : Bool := decide (i.natAbs ≤ 1000000000) || decide (j.natAbs ≤ 1000000000)
def gMulI : PyData → PyData → Option PyData := gI cMul fun i j => .int (i * j)
theorem mulI_s : OpS K (rI CMul fun i j => .int (i * j)) gMulI := rI_s (fun i j h => by
  unfold cMul at h
  rw [Bool.or_eq_true, decide_eq_true_eq, decide_eq_true_eq] at h
  rcases h with h | h
  · exact .inl (by omega)
  · exact .inr (by omega)) fun F i j => rp_int _
def gMulL : PyData → PyData → Option PyData
  | .list x, .int k => if k ≤ 1000000 ∧ -1000000 ≤ k ∧ x.length * k.toNat ≤ LIM then some (.list (List.replicate k.toNat x).flatten) else none
  | _, _ => none
theorem dqa_rep {F : Hp} {vs : List V} {ds : List PyData} (h : DqAll K F vs ds) : ∀ n : Nat, DqAll K F (List.replicate n vs).flatten (List.replicate n ds).flatten
  | 0 => .nil
  | n + 1 => by
    rw [List.replicate_succ, List.replicate_succ, List.flatten_cons, List.flatten_cons]
    exact h.append (dqa_rep h n)
theorem mulL_s : OpS K rRep gMulL := fun G H x y d1 d2 d e b1 b2 q Q k => by
  cases d1 with
  | list i =>
    cases d2 with
    | int j =>
      simp only [gMulL] at q
      split at q
      · rename_i hc
        obtain ⟨c1, c2, c3⟩ := hc
        cases q
        obtain ⟨p1, vs, rfl, h1, a1⟩ := b1.list e
        cases b2.int
        refine ⟨p1, j, vs, rfl, rfl, h1, by omega, by omega, lim_line (by rw [a1.len]; exact c3), fun p hp => k _ _ _ ((Grow.refl e).new hp) (.inl (.lst upd_same ?_))⟩
        exact dpa_mono (Same.upd_new (Same.refl G) (e.free hp)) _ (dqa_rep a1 _)
      · cases q
    | _ => simp [gMulL] at q
  | _ => simp [gMulL] at q
def rMulS : R2 := fun x y H Q => ∃ z n, x = .str z ∧ y = .int n ∧ MulOk z n ∧ Q (.str (Txt.mul z n)) H
theorem op_mulS {X : Cx} : OpR X (binaryOp .Mult) rMulS := by
  intro pins s σ H x y v u Q I rx ry h
  obtain ⟨z, n, rfl, rfl, hm, q⟩ := h
  obtain ⟨t, rfl⟩ := rx
  obtain ⟨t', rfl⟩ := ry
  exact PySem.SB.mul hm fun t' k => ⟨.str _, H, I.tok _, ⟨_, rfl⟩, q⟩
def gMulS : PyData → PyData → Option PyData
  | .str x, .int k => if x.length ≤ 1000 ∧ k ≤ 1000 ∧ -1000 ≤ k then some (.str (Txt.mul x k)) else none
  | _, _ => none
theorem mulS_s : OpS K rMulS gMulS := fun G H x y d1 d2 d e b1 b2 q Q k => by
  cases d1 with
  | str i =>
    cases d2 with
    | int j =>
      simp only [gMulS] at q
      split at q
      · rename_i hc
        obtain ⟨c1, c2, c3⟩ := hc
        cases q
        cases b1.str
        cases b2.int
        exact ⟨i, j, rfl, rfl, PyProof.Rows.mulOk_of 1000 1000 c1 (by omega) (by omega) (by decide) (by decide), k _ H G (Grow.refl e) (rp_str _)⟩
      · cases q
    | _ => simp [gMulS] at q
  | _ => simp [gMulS] at q
def rMul3 : R2 := fun x y H Q => (rI CMul fun i j => .int (i * j)) x y H Q ∨ (rRep x y H Q ∨ rMulS x y H Q)
def gMul : PyData → PyData → Option PyData := alt gMulI (alt gMulL gMulS)
theorem op_mul3 {X : Cx} : OpR X (binaryOp .Mult) rMul3 := op_mul.or (op_rep.or op_mulS)
theorem mul3_s : OpS K rMul3 gMul := mulI_s.or (mulL_s.or mulS_s)
def cPos (_ j : Int) : Bool := decide (0 < j) && decide (j < 1073741824)
def gFdiv : PyData → PyData → Option PyData := gI cPos fun i j => .int (i / j)
def gMod : PyData → PyData → Option PyData := gI cPos fun i j => .int (i % j)
theorem cPos_ok {i j : Int} (h : cPos i j = true) : 0 < j ∧ j < 1073741824 := by
  unfold cPos at h
  rw [Bool.and_eq_true, decide_eq_true_eq, decide_eq_true_eq] at h
  exact h
theorem fdiv_s : OpS K (rI CDiv fun i j => .int (i / j)) gFdiv := rI_s (fun i j h => cPos_ok h) fun F i j => rp_int _
theorem mod_s : OpS K (rI (fun _ j => 0 < j) fun i j => .int (i % j)) gMod := rI_s (fun i j h => (cPos_ok h).1) fun F i j => rp_int _
def gLt : PyData → PyData → Option PyData := gI yesC fun i j => .bool (decide (i < j))
def gLe : PyData → PyData → Option PyData := gI yesC fun i j => .bool (decide (i ≤ j))
def gGt : PyData → PyData → Option PyData := gI yesC fun i j => .bool (decide (j < i))
def gGe : PyData → PyData → Option PyData := gI yesC fun i j => .bool (decide (j ≤ i))
theorem lt_s : OpS K (rI0 fun i j => .bl (decide (i < j))) gLt := rI0_s fun F i j => rp_bool _
theorem le_s : OpS K (rI0 fun i j => .bl (decide (i ≤ j))) gLe := rI0_s fun F i j => rp_bool _
theorem gt_s : OpS K (rI0 fun i j => .bl (decide (j < i))) gGt := rI0_s fun F i j => rp_bool _
theorem ge_s : OpS K (rI0 fun i j => .bl (decide (j ≤ i))) gGe := rI0_s fun F i j => rp_bool _
/-- == and != of data -/
def gEqD : PyData → PyData → Option PyData := fun a b => if dataD a = true ∧ dataD b = true ∧ SeqAt.shaped a = true ∧ SeqAt.shaped b = true then some (.bool (PyData.eqv a b)) else none
def gNeD : PyData → PyData → Option PyData := fun a b => if dataD a = true ∧ dataD b = true ∧ SeqAt.shaped a = true ∧ SeqAt.shaped b = true then some (.bool (!PyData.eqv a b)) else none
theorem Bp.dp {G H : Hp} {v : V} {d : PyData} (e : Same G H) (h : Bp K G H v d) (n : dataD d = true) : Dp K H v d := dq_dp d ((h.all e).dp (by rintro l rfl; cases n))
theorem eqD0_s : OpS K (rEqD K) gEqD := fun G H x y d1 d2 d e b1 b2 q Q k => by
  unfold gEqD at q
  split at q
  · rename_i hc
    obtain ⟨c1, c2, c3, c4⟩ := hc
    cases q
    exact ⟨d1, d2, b1.dp e c1, b2.dp e c2, c3, c4, k _ H G (Grow.refl e) (rp_bool _)⟩
  · cases q
theorem neD0_s : OpS K (rNeD K) gNeD := fun G H x y d1 d2 d e b1 b2 q Q k => by
  unfold gNeD at q
  split at q
  · rename_i hc
    obtain ⟨c1, c2, c3, c4⟩ := hc
    cases q
    exact ⟨d1, d2, b1.dp e c1, b2.dp e c2, c3, c4, k _ H G (Grow.refl e) (rp_bool _)⟩
  · cases q
/-- two values without parts -/
def eqSc : PyData → PyData → Option Bool
  | .int i, .int j => some (i == j)
  | .str i, .str j => some (i == j)
  | .bool i, .bool j => some (i == j)
  | .none, .none => some true
  | .int _, .str _ => some false
  | .str _, .int _ => some false
  | .none, .int _ => some false
  | .int _, .none => some false
  | .none, .str _ => some false
  | .str _, .none => some false
  | _, _ => none
def gEqS : PyData → PyData → Option PyData := fun a b => (eqSc a b).map .bool
def gNeS : PyData → PyData → Option PyData := fun a b => (eqSc a b).map fun c => .bool (!c)
theorem eqSc_ok {G H : Hp} {x y : V} {d1 d2 : PyData} {c : Bool} (b1 : Bp K G H x d1) (b2 : Bp K G H y d2) (q : eqSc d1 d2 = some c) : scal x y = true ∧ c = decide (x = y) := by
  unfold eqSc at q
  split at q
  · cases b1.int; cases b2.int; cases q; exact ⟨rfl, dec_int.symm⟩
  · cases b1.str; cases b2.str; cases q; exact ⟨rfl, dec_str.symm⟩
  · cases b1.bool; cases b2.bool; cases q; exact ⟨rfl, dec_bl.symm⟩
  · cases b1.non; cases b2.non; cases q; exact ⟨rfl, rfl⟩
  · cases b1.int; cases b2.str; cases q; exact ⟨rfl, (decide_eq_false (by intro z; cases z)).symm⟩
  · cases b1.str; cases b2.int; cases q; exact ⟨rfl, (decide_eq_false (by intro z; cases z)).symm⟩
  · cases b1.non; cases b2.int; cases q; exact ⟨rfl, (decide_eq_false (by intro z; cases z)).symm⟩
  · cases b1.int; cases b2.non; cases q; exact ⟨rfl, (decide_eq_false (by intro z; cases z)).symm⟩
  · cases b1.non; cases b2.str; cases q; exact ⟨rfl, (decide_eq_false (by intro z; cases z)).symm⟩
  · cases b1.str; cases b2.non; cases q; exact ⟨rfl, (decide_eq_false (by intro z; cases z)).symm⟩
  · cases q
theorem eqS_s : OpS K rEq gEqS := fun G H x y d1 d2 d e b1 b2 q Q k => by
  cases hc : eqSc d1 d2 with
  | none => simp [gEqS, hc] at q
  | some c =>
    simp [gEqS, hc] at q
    subst q
    obtain ⟨h1, h2⟩ := eqSc_ok b1 b2 hc
    exact ⟨h1, k _ H G (Grow.refl e) (by rw [h2]; exact rp_bool _)⟩
theorem neS_s : OpS K rNe gNeS := fun G H x y d1 d2 d e b1 b2 q Q k => by
  cases hc : eqSc d1 d2 with
  | none => simp [gNeS, hc] at q
  | some c =>
    simp [gNeS, hc] at q
    subst q
    obtain ⟨h1, h2⟩ := eqSc_ok b1 b2 hc
    exact ⟨h1, k _ H G (Grow.refl e) (by rw [h2]; exact rp_bool _)⟩
def rEq2 (K : PySem.W.Frag) : R2 := fun x y H Q => rEq x y H Q ∨ rEqD K x y H Q
def rNe2 (K : PySem.W.Frag) : R2 := fun x y H Q => rNe x y H Q ∨ rNeD K x y H Q
def gEq : PyData → PyData → Option PyData := alt gEqS gEqD
def gNe : PyData → PyData → Option PyData := alt gNeS gNeD
theorem op_eq2 {X : Cx} (hu : X.A.units + 64 < cLine) : OpR X (compareOp .Eq) (rEq2 X.K) := op_eq.or (op_eqD hu)
theorem op_ne2 {X : Cx} (hu : X.A.units + 64 < cLine) : OpR X (compareOp .NotEq) (rNe2 X.K) := op_ne.or (op_neD hu)
theorem eq2_s : OpS K (rEq2 K) gEq := eqS_s.or eqD0_s
theorem ne2_s : OpS K (rNe2 K) gNe := neS_s.or neD0_s
/-- in a list, a tuple of values without parts -/
def eqFl : PyData → PyData → Bool
  | .none, .none => true
  | .bool a, .bool b => a == b
  | .bool a, .int b => (if a then 1 else 0) == b
  | .int a, .bool b => a == (if b then 1 else 0)
  | .int a, .int b => a == b
  | .str a, .str b => a == b
  | _, _ => false
def gInF (neg : Bool) : PyData → PyData → Option PyData
  | d, .list ds => if scalD d = true ∧ ds.all scalD = true then some (.bool (if neg then !ds.any fun z => eqFl z d else ds.any fun z => eqFl z d)) else none
  | d, .tuple ds => if scalD d = true ∧ ds.all scalD = true then some (.bool (if neg then !ds.any fun z => eqFl z d else ds.any fun z => eqFl z d)) else none
  | _, _ => none
theorem flat_of {G : Hp} {v : V} {d : PyData} (h : Dq K G v d) (hs : scalD d = true) : flatV v = true := by
  cases h with
  | non => rfl
  | bl b => rfl
  | int i => rfl
  | str x => rfl
  | lst _ _ => cases hs
  | tup _ _ => cases hs
theorem eqFl_of {G : Hp} {x y : V} {d e : PyData} (h : Dq K G x d) (h' : Dq K G y e) (hs : scalD d = true) (hs' : scalD e = true) : eqV x y = eqFl d e := by
  cases h with
  | non => cases h' with
    | lst _ _ => cases hs'
    | tup _ _ => cases hs'
    | _ => rfl
  | bl b => cases h' with
    | lst _ _ => cases hs'
    | tup _ _ => cases hs'
    | _ => rfl
  | int i => cases h' with
    | lst _ _ => cases hs'
    | tup _ _ => cases hs'
    | _ => rfl
  | str x => cases h' with
    | lst _ _ => cases hs'
    | tup _ _ => cases hs'
    | _ => rfl
  | lst _ _ => cases hs
  | tup _ _ => cases hs
theorem flats_of {G : Hp} : ∀ {vs : List V} {ds : List PyData}, DqAll K G vs ds → ds.all scalD = true → vs.all flatV = true
  | [], [], _, _ => rfl
  | [], _ :: _, h, _ => by cases h
  | _ :: _, [], h, _ => by cases h
  | v :: vs, d :: ds, h, a => by
    cases h with
    | cons h1 h2 =>
      rw [List.all_cons, Bool.and_eq_true] at a ⊢
      exact ⟨flat_of h1 a.1, flats_of h2 a.2⟩
theorem inV_of {G : Hp} {x : V} {d : PyData} (hx : Dq K G x d) (hs : scalD d = true) : ∀ {vs : List V} {ds : List PyData}, DqAll K G vs ds → ds.all scalD = true → inV x vs = ds.any fun z => eqFl z d
  | [], [], _, _ => rfl
  | [], _ :: _, h, _ => by cases h
  | _ :: _, [], h, _ => by cases h
  | v :: vs, e :: ds, h, a => by
    cases h with
    | cons h1 h2 =>
      rw [List.all_cons, Bool.and_eq_true] at a
      have ih := inV_of hx hs h2 a.2
      unfold inV at ih ⊢
      rw [List.any_cons, List.any_cons, ih, eqFl_of h1 hx a.1 hs]
theorem scal_not {G H : Hp} {v : V} {d : PyData} (b : Bp K G H v d) (hs : scalD d = true) : Dq K G v d := by
  rcases b with b | ⟨p, vs, ds, _, rfl, _⟩
  · exact b.dp (by rintro l rfl; cases hs)
  · cases hs
theorem inF_s (neg : Bool) : OpS K (rIn K neg) (gInF neg) := fun G H x y d1 d2 d e b1 b2 q Q k => by
  unfold gInF at q
  split at q
  · split at q
    · rename_i hc
      obtain ⟨c1, c2⟩ := hc
      cases q
      obtain ⟨p, vs, rfl, h1, a1⟩ := b2.list e
      have hx := scal_not b1 c1
      refine ⟨p, vs, rfl, .inl (.inl (.inl h1)), flat_of hx c1, flats_of a1 c2, ?_⟩
      rw [inV_of hx c1 a1 c2]
      exact k _ H G (Grow.refl e) (rp_bool _)
    · cases q
  · split at q
    · rename_i hc
      obtain ⟨c1, c2⟩ := hc
      cases q
      obtain ⟨p, vs, rfl, h1, a1⟩ := b2.tuple e
      have hx := scal_not b1 c1
      refine ⟨p, vs, rfl, .inr h1, flat_of hx c1, flats_of a1 c2, ?_⟩
      rw [inV_of hx c1 a1 c2]
      exact k _ H G (Grow.refl e) (rp_bool _)
    · cases q
  · cases q
/-- in, not in: a list of data; a sign in a text; a text in a text -/
def gInL (neg : Bool) : PyData → PyData → Option PyData
  | d, .list ds => if dataD d = true ∧ SeqAt.shaped d = true ∧ SeqAt.shaped (.list ds) = true then some (.bool (if neg then !ds.any fun z => PyData.eqv z d else ds.any fun z => PyData.eqv z d)) else none
  | _, _ => none
theorem inL_s : OpS K (rInD K) (gInL false) := fun G H x y d1 d2 d e b1 b2 q Q k => by
  cases d2 with
  | list ds =>
    simp only [gInL] at q
    split at q
    · rename_i hc
      obtain ⟨c1, c2, c3⟩ := hc
      cases q
      exact ⟨d1, ds, b1.dp e c1, b2.dp e rfl, c2, c3, k _ H G (Grow.refl e) (rp_bool _)⟩
    · cases q
  | _ => simp [gInL] at q
theorem notInL_s : OpS K (rNotInD K) (gInL true) := fun G H x y d1 d2 d e b1 b2 q Q k => by
  cases d2 with
  | list ds =>
    simp only [gInL] at q
    split at q
    · rename_i hc
      obtain ⟨c1, c2, c3⟩ := hc
      cases q
      exact ⟨d1, ds, b1.dp e c1, b2.dp e rfl, c2, c3, k _ H G (Grow.refl e) (rp_bool _)⟩
    · cases q
  | _ => simp [gInL] at q
def rInSg (neg : Bool) : R2 := fun x y H Q => ∃ (c : Nat) (z : Str), x = .str ⟨#[c]⟩ ∧ y = .str z ∧ Q (.bl (if neg then !decide (c ∈ z.cps.toList) else decide (c ∈ z.cps.toList))) H
def gInS (neg : Bool) : PyData → PyData → Option PyData
  | .str x, .str z => match x.cps.toList with
    | [c] => some (.bool (if neg then !decide (c ∈ z.cps.toList) else decide (c ∈ z.cps.toList)))
    | _ => none
  | _, _ => none
theorem inS_s (neg : Bool) : OpS K (rInSg neg) (gInS neg) := fun G H x y d1 d2 d e b1 b2 q Q k => by
  cases d1 with
  | str i =>
    cases d2 with
    | str j =>
      simp only [gInS] at q
      split at q
      · rename_i c hc
        cases q
        cases b1.str
        cases b2.str
        have ei : i = ⟨#[c]⟩ := Str.ext' (Array.toList_inj.mp hc)
        exact ⟨c, j, by rw [ei], rfl, k _ H G (Grow.refl e) (rp_bool _)⟩
      · cases q
    | _ => simp [gInS] at q
  | _ => simp [gInS] at q
def rIn2 (K : PySem.W.Frag) : R2 := fun x y H Q => rIn K false x y H Q ∨ (rInD K x y H Q ∨ rInSg false x y H Q)
def rNotIn2 (K : PySem.W.Frag) : R2 := fun x y H Q => rIn K true x y H Q ∨ (rNotInD K x y H Q ∨ rInSg true x y H Q)
def gIn : PyData → PyData → Option PyData := alt (gInF false) (alt (gInL false) (gInS false))
def gNotIn : PyData → PyData → Option PyData := alt (gInF true) (alt (gInL true) (gInS true))
theorem op_in2 {X : Cx} (hu : X.A.units + 65 < cLine) : OpR X (compareOp .In) (rIn2 X.K) := op_in_seq.or ((op_inD hu).or op_in_sign)
theorem op_notIn2 {X : Cx} (hu : X.A.units + 65 < cLine) : OpR X (compareOp .NotIn) (rNotIn2 X.K) := op_notIn_seq.or ((op_notInD hu).or op_notIn_sign)
theorem in2_s : OpS K (rIn2 K) gIn := (inF_s false).or (inL_s.or (inS_s false))
theorem notIn2_s : OpS K (rNotIn2 K) gNotIn := (inF_s true).or (notInL_s.or (inS_s true))
/-- is, is not: None on the right; two truths -/
def rIs2 : R2 := fun x y H Q => (y = .non ∧ Q (.bl (decide (x = .non))) H) ∨ rIsB x y H Q
def rIsNot2 : R2 := fun x y H Q => (y = .non ∧ Q (.bl (!decide (x = .non))) H) ∨ rNotB x y H Q
end
end RT
namespace RT
open PySem PySem.Spec PyProof.Rows L2
/-! ### is None, is True -/
def isRhs : V → Bool
  | .non => true
  | .bl _ => true
  | _ => false
def isLhs : V → Bool
  | .non => true
  | .bl _ => true
  | .int _ => true
  | .str _ => true
  | .ref _ => true
  | _ => false
def rIsP : R2 := fun x y H Q => isLhs x = true ∧ isRhs y = true ∧ Q (.bl (decide (x = y))) H
def rIsNotP : R2 := fun x y H Q => isLhs x = true ∧ isRhs y = true ∧ Q (.bl (!decide (x = y))) H
section
variable {X : Cx}
theorem plain_of {x y : V} {v u : Value} (hx : isLhs x = true) (hy : isRhs y = true) (rx : RelV x v) (ry : RelV y u) : plainIs v u = true ∧ (v == u) = decide (x = y) := by
  cases y with
  | non =>
    cases (show u = Value.none from ry)
    refine ⟨?_, rx.none_iff⟩
    cases x with
    | non => cases (show v = Value.none from rx); rfl
    | bl b => cases (show v = Value.bool b from rx); rfl
    | int i => obtain ⟨t, rfl⟩ := rx; rfl
    | str i => obtain ⟨t, rfl⟩ := rx; rfl
    | ref a => cases (show v = Value.ref a from rx); rfl
    | _ => cases hx
  | bl c =>
    cases (show u = Value.bool c from ry)
    cases x with
    | non => cases (show v = Value.none from rx); exact ⟨rfl, by simp⟩
    | bl b =>
      cases (show v = Value.bool b from rx)
      refine ⟨rfl, ?_⟩
      cases b <;> cases c <;> decide
    | int i => obtain ⟨t, rfl⟩ := rx; exact ⟨rfl, by simp⟩
    | str i => obtain ⟨t, rfl⟩ := rx; exact ⟨rfl, by simp⟩
    | ref a => cases (show v = Value.ref a from rx); exact ⟨rfl, by simp⟩
    | _ => cases hx
  | _ => cases hy
theorem op_isP : OpR X (compareOp .Is) rIsP := by
  intro pins s σ H x y v u Q I rx ry h
  obtain ⟨hx, hy, q⟩ := h
  obtain ⟨p1, p2⟩ := plain_of hx hy rx ry
  refine wpAny_is_plain p1 ?_
  rw [p2]
  exact ⟨.bl _, H, I, rfl, q⟩
theorem op_isNotP : OpR X (compareOp .IsNot) rIsNotP := by
  intro pins s σ H x y v u Q I rx ry h
  obtain ⟨hx, hy, q⟩ := h
  obtain ⟨p1, p2⟩ := plain_of hx hy rx ry
  refine wpAny_isNot_plain p1 ?_
  rw [p2]
  exact ⟨.bl _, H, I, rfl, q⟩
end
section
variable {K : PySem.W.Frag}
/-- is: the right side None, True or False -/
def isD : PyData → PyData → Option Bool
  | .none, .none => some true
  | .bool _, .none => some false
  | .int _, .none => some false
  | .str _, .none => some false
  | .list _, .none => some false
  | .tuple _, .none => some false
  | .bool a, .bool b => some (a == b)
  | .none, .bool _ => some false
  | .int _, .bool _ => some false
  | .str _, .bool _ => some false
  | .list _, .bool _ => some false
  | .tuple _, .bool _ => some false
  | _, _ => none
def gIs : PyData → PyData → Option PyData := fun a b => (isD a b).map .bool
def gIsNot : PyData → PyData → Option PyData := fun a b => (isD a b).map fun c => .bool (!c)
theorem isD_ok {G H : Hp} {x y : V} {d1 d2 : PyData} {c : Bool} (e : Same G H) (b1 : Bp K G H x d1) (b2 : Bp K G H y d2) (q : isD d1 d2 = some c) : isLhs x = true ∧ isRhs y = true ∧ c = decide (x = y) := by
  cases d2 with
  | none =>
    cases b2.non
    cases d1 with
    | none => cases b1.non; cases q; exact ⟨rfl, rfl, rfl⟩
    | bool b => cases b1.bool; cases q; exact ⟨rfl, rfl, by simp⟩
    | int i => cases b1.int; cases q; exact ⟨rfl, rfl, by simp⟩
    | str i => cases b1.str; cases q; exact ⟨rfl, rfl, by simp⟩
    | list l => obtain ⟨p, vs, rfl, _⟩ := b1.list e; cases q; exact ⟨rfl, rfl, by simp⟩
    | tuple l => obtain ⟨p, vs, rfl, _⟩ := b1.tuple e; cases q; exact ⟨rfl, rfl, by simp⟩
    | _ => cases q
  | bool b' =>
    cases b2.bool
    cases d1 with
    | none => cases b1.non; cases q; exact ⟨rfl, rfl, by simp⟩
    | bool b => cases b1.bool; cases q; refine ⟨rfl, rfl, ?_⟩; cases b <;> cases b' <;> decide
    | int i => cases b1.int; cases q; exact ⟨rfl, rfl, by simp⟩
    | str i => cases b1.str; cases q; exact ⟨rfl, rfl, by simp⟩
    | list l => obtain ⟨p, vs, rfl, _⟩ := b1.list e; cases q; exact ⟨rfl, rfl, by simp⟩
    | tuple l => obtain ⟨p, vs, rfl, _⟩ := b1.tuple e; cases q; exact ⟨rfl, rfl, by simp⟩
    | _ => cases q
  | _ => cases d1 <;> cases q
theorem is_s : OpS K rIsP gIs := fun G H x y d1 d2 d e b1 b2 q Q k => by
  cases hc : isD d1 d2 with
  | none => simp [gIs, hc] at q
  | some c =>
    simp [gIs, hc] at q
    subst q
    obtain ⟨h1, h2, h3⟩ := isD_ok e b1 b2 hc
    exact ⟨h1, h2, k _ H G (Grow.refl e) (by rw [h3]; exact rp_bool _)⟩
theorem isNot_s : OpS K rIsNotP gIsNot := fun G H x y d1 d2 d e b1 b2 q Q k => by
  cases hc : isD d1 d2 with
  | none => simp [gIsNot, hc] at q
  | some c =>
    simp [gIsNot, hc] at q
    subst q
    obtain ⟨h1, h2, h3⟩ := isD_ok e b1 b2 hc
    exact ⟨h1, h2, k _ H G (Grow.refl e) (by rw [h3]; exact rp_bool _)⟩

/-! ### an item, a slice -/
def gIx0 : PyData → PyData → Option PyData
  | .list ds, .int i => atI ds i
  | .tuple ds, .int i => atI ds i
  | .str z, .int i => if z.length ≤ LIM then (atI z.cps.toList i).map fun c => .str ⟨#[c]⟩ else none
  | _, _ => none
theorem atI_of {F : Hp} {vs : List V} {ds : List PyData} {i : Int} {d : PyData} (h : DqAll K F vs ds) (q : atI ds i = some d) : ∃ v, atI vs i = some v ∧ Dq K F v d := by
  unfold atI at q ⊢
  rw [h.len]
  cases hx : ixN ds.length i with
  | none => rw [hx] at q; cases q
  | some j =>
    rw [hx] at q
    exact h.get q
theorem ix0_s : OpS K (rIx K) gIx0 := fun G H x y d1 d2 d e b1 b2 q Q k => by
  cases d2 with
  | int i =>
    cases b2.int
    cases d1 with
    | list ds =>
      obtain ⟨p, vs, rfl, h1, a1⟩ := b1.list e
      obtain ⟨v, h2, h3⟩ := atI_of a1 q
      exact .inl ⟨p, vs, i, v, rfl, rfl, .inl (.inl h1), h2, k v H G (Grow.refl e) (.inl h3)⟩
    | tuple ds =>
      obtain ⟨p, vs, rfl, h1, a1⟩ := b1.tuple e
      obtain ⟨v, h2, h3⟩ := atI_of a1 q
      exact .inr (.inl ⟨p, vs, i, v, rfl, rfl, h1, h2, k v H G (Grow.refl e) (.inl h3)⟩)
    | str z =>
      cases b1.str
      simp only [gIx0] at q
      split at q
      · rename_i hz
        cases hc : atI z.cps.toList i with
        | none => simp [hc] at q
        | some c =>
          simp [hc] at q
          subst q
          exact .inr (.inr ⟨z, i, c, rfl, rfl, lim_line hz, hc, k _ H G (Grow.refl e) (rp_str _)⟩)
      · cases q
    | _ => cases q
  | _ => cases d1 <;> cases q
/-- an item of the script -/
def gIxS : PyData → PyData → Option PyData
  | .dict [(.none, .list ds)], .int i => atI ds i
  | _, _ => none
theorem ixS_s : OpS K (rIx K) gIxS := fun G H x y d1 d2 d e b1 b2 q Q k => by
  unfold gIxS at q
  split at q
  · cases b2.int
    obtain ⟨p, vs, rfl, h1, a1⟩ := b1.scr e
    obtain ⟨v, h2, h3⟩ := atI_of a1 q
    exact .inl ⟨p, vs, _, v, rfl, rfl, h1, h2, k v H G (Grow.refl e) (.inl h3)⟩
  · cases q
theorem OpS.alt {r : R2} {g g' : PyData → PyData → Option PyData} (h : OpS K r g) (h' : OpS K r g') : OpS K r (RT.alt g g') := fun G H x y d1 d2 d e b1 b2 q Q k => by
  unfold RT.alt at q
  split at q
  · rename_i d' hd
    cases q
    exact h G H x y d1 d2 _ e b1 b2 hd Q k
  · exact h' G H x y d1 d2 d e b1 b2 q Q k
def gIx : PyData → PyData → Option PyData := alt gIx0 gIxS
theorem ix_s : OpS K (rIx K) gIx := ix0_s.alt ixS_s
def cutA {α : Type} (xs : List α) (lo hi : Option Int) : List α := (xs.drop (HT.sIx xs.length 0 lo)).take (HT.sIx xs.length xs.length hi - HT.sIx xs.length 0 lo)
/-- a part of a slice -/
abbrev SO := Rho → Option (Option Int)
def oNone : SO := fun _ => some none
def oSome (f : SE) : SO := fun ρ => (f ρ).bind fun d => match d with
  | .int i => some (some i)
  | _ => none
def OOk (K : PySem.W.Frag) (B : Bs) (t : TO) (f : SO) : Prop := ∀ (R : Rg) (F H : Hp) (σ : L2.St) (ρ : Rho) (o : Option Int), EnvOk K B R F H σ ρ → f ρ = some o → ∀ Q : Option Int → Hp → Prop, (∀ H' G, Grow H F H' G → Q o H') → t σ H Q
structure SemO (X : Cx) (K : PySem.W.Frag) (B : Bs) (e : Option Expr) (t : TO) (f : SO) : Prop where
  po : PO X e t
  ok : OOk K B t f
theorem so_none {X : Cx} {K : PySem.W.Frag} {B : Bs} : SemO X K B none tNoPart oNone := ⟨po_none, fun R F H σ ρ o E q Q k => by
  cases q
  exact k H F (Grow.refl E.ex)⟩
theorem so_some {X : Cx} {K : PySem.W.Frag} {B : Bs} {e : Expr} {t : TE} {f : SE} (h : SemB X K B e t f) : SemO X K B (some e) (tPart t) (oSome f) := ⟨po_some h.pe, fun R F H σ ρ o E q Q k => by
  cases e1 : f ρ with
  | none => simp [oSome, e1] at q
  | some d =>
    cases d with
    | int i =>
      simp [oSome, e1] at q
      subst q
      exact h.ok _ F H σ ρ _ E e1 _ fun v H1 G1 g1 b1 => ⟨i, b1.int, k H1 G1 g1⟩
    | _ => simp [oSome, e1] at q⟩
def lSl (f : SE) (a b : SO) : SA := fun ρ => (f ρ).bind fun d => (a ρ).bind fun lo => (b ρ).bind fun hi => match d with
  | .list ds => some (cutA ds lo hi)
  | .dict [(.none, .list ds)] => some (cutA ds lo hi)
  | _ => none
def eSlS (f : SE) (a b : SO) : SE := fun ρ => (f ρ).bind fun d => (a ρ).bind fun lo => (b ρ).bind fun hi => match d with
  | .str z => if z.length ≤ LIM then some (.str (cutS z lo hi)) else none
  | _ => none
theorem cutV_dq {F : Hp} {vs : List V} {ds : List PyData} (h : DqAll K F vs ds) (lo hi : Option Int) : DqAll K F (cutV vs lo hi) (cutA ds lo hi) := by
  unfold cutV cutA
  rw [h.len]
  exact (h.drop _).take _
theorem lSl_inv {f : SE} {a b : SO} {ρ : Rho} {ds : List PyData} (q : lSl f a b ρ = some ds) : ∃ d lo hi es, f ρ = some d ∧ a ρ = some lo ∧ b ρ = some hi ∧ (d = .list es ∨ d = .dict [(.none, .list es)]) ∧ ds = cutA es lo hi := by
  unfold lSl at q
  cases e0 : f ρ with
  | none => simp [e0] at q
  | some d =>
    cases e1 : a ρ with
    | none => simp [e0, e1] at q
    | some lo =>
      cases e2 : b ρ with
      | none => simp [e0, e1, e2] at q
      | some hi =>
        rw [e0, e1, e2, Option.bind_some, Option.bind_some, Option.bind_some] at q
        split at q
        · rename_i es
          cases q
          exact ⟨_, lo, hi, es, rfl, rfl, rfl, .inl rfl, rfl⟩
        · rename_i es
          cases q
          exact ⟨_, lo, hi, es, rfl, rfl, rfl, .inr rfl, rfl⟩
        · cases q
theorem slL_ok {B : Bs} {te : TE} {tl th : TO} {f : SE} {a b : SO} (h : BOk K B te f) (h1 : OOk K B tl a) (h2 : OOk K B th b) : LOk K B (tSl (rSlL K) te tl th) (lSl f a b) := fun R F H σ ρ ds E q Q k => by
  obtain ⟨d, lo, hi, es, e0, e1, e2, hd, rfl⟩ := lSl_inv q
  refine h _ F H σ ρ _ E e0 _ fun v H1 G1 g1 b1 => h1 _ G1 H1 σ ρ _ (E.grow g1) e1 _ fun H2 G2 g2 => h2 _ G2 H2 σ ρ _ ((E.grow g1).grow g2) e2 _ fun H3 G3 g3 => ?_
  have b3 := b1.mono (g2.f.trans g3.f) (g2.h.trans g3.h)
  have z : ∃ p vs, v = .ref p ∧ SqL K H3 p vs ∧ DqAll K G3 vs es := by
    rcases hd with rfl | rfl
    · obtain ⟨p, vs, e1, e2, e3⟩ := b3.list g3.sub
      exact ⟨p, vs, e1, .inl (.inl e2), e3⟩
    · exact b3.scr g3.sub
  obtain ⟨p, vs, rfl, hR, hA⟩ := z
  exact ⟨p, vs, rfl, hR, fun q hq => k q _ _ G3 (((g1.trans g2).trans g3).beside hq) (((g1.trans g2).trans g3).h.free hq) (g3.sub.free hq) upd_same (cutV_dq hA lo hi)⟩
theorem slS_ok {B : Bs} {te : TE} {tl th : TO} {f : SE} {a b : SO} (h : BOk K B te f) (h1 : OOk K B tl a) (h2 : OOk K B th b) : EOk K B (tSl rSlS te tl th) (eSlS f a b) := fun R F H σ ρ d' E q Q k => by
  cases e0 : f ρ with
  | none => simp [eSlS, e0] at q
  | some d =>
    cases e1 : a ρ with
    | none => simp [eSlS, e0, e1] at q
    | some lo =>
      cases e2 : b ρ with
      | none => simp [eSlS, e0, e1, e2] at q
      | some hi =>
        cases d with
        | str z =>
          simp only [eSlS, e0, e1, e2, Option.bind_some] at q
          split at q
          · rename_i hz
            cases q
            refine h _ F H σ ρ _ E e0 _ fun v H1 G1 g1 b1 => h1 _ G1 H1 σ ρ _ (E.grow g1) e1 _ fun H2 G2 g2 => h2 _ G2 H2 σ ρ _ ((E.grow g1).grow g2) e2 _ fun H3 G3 g3 => ?_
            exact ⟨z, b1.str, lim_line hz, k _ H3 G3 ((g1.trans g2).trans g3) (rp_str _)⟩
          · cases q
        | _ => simp [eSlS, e0, e1, e2] at q

/-! ### built-ins -/
theorem BpAll.two {G H : Hp} {vs : List V} {a b : PyData} (h : BpAll K G H vs [a, b]) : ∃ x y, vs = [x, y] ∧ Bp K G H x a ∧ Bp K G H y b := by
  cases h with
  | cons h1 h2 =>
    cases h2 with
    | cons h2 h3 =>
      cases h3
      exact ⟨_, _, rfl, h1, h2⟩
theorem BpAll.one {G H : Hp} {vs : List V} {a : PyData} (h : BpAll K G H vs [a]) : ∃ x, vs = [x] ∧ Bp K G H x a := by
  cases h with
  | cons h1 h2 =>
    cases h2
    exact ⟨_, rfl, h1⟩
def gLen : List PyData → Option PyData
  | [.list ds] => some (.int (ds.length : Nat))
  | [.tuple ds] => some (.int (ds.length : Nat))
  | [.dict [(.none, .list ds)]] => some (.int (ds.length : Nat))
  | [.str z] => if z.length ≤ LIM then some (.int (z.length : Nat)) else none
  | _ => none
def rLenA (K : PySem.W.Frag) : List V → Hp → VK → Prop := fun xs H Q => ∃ x n, xs = [x] ∧ LenV K x H n ∧ Q (.int n) H
theorem len_s : CallS K (rLenA K) gLen := fun G H xs ds d e b q Q k => by
  match ds, q with
  | [.list es], q =>
    cases q
    obtain ⟨x, rfl, b1⟩ := b.one
    obtain ⟨p, vs, rfl, h1, a1⟩ := b1.list e
    exact ⟨.ref p, vs.length, rfl, .inl ⟨vs, .inl (.inl h1), rfl⟩, k _ H G (Grow.refl e) (by rw [a1.len]; exact rp_int _)⟩
  | [.dict [(.none, .list es)]], q =>
    cases q
    obtain ⟨x, rfl, b1⟩ := b.one
    obtain ⟨p, vs, rfl, h1, a1⟩ := b1.scr e
    exact ⟨.ref p, vs.length, rfl, .inl ⟨vs, h1, rfl⟩, k _ H G (Grow.refl e) (by rw [a1.len]; exact rp_int _)⟩
  | [.tuple es], q =>
    cases q
    obtain ⟨x, rfl, b1⟩ := b.one
    obtain ⟨p, vs, rfl, h1, a1⟩ := b1.tuple e
    exact ⟨.ref p, vs.length, rfl, .inr ⟨vs, h1, rfl⟩, k _ H G (Grow.refl e) (by rw [a1.len]; exact rp_int _)⟩
  | [.str z], q =>
    simp only [gLen] at q
    split at q
    · rename_i hz
      cases q
      obtain ⟨x, rfl, b1⟩ := b.one
      cases b1.str
      exact ⟨.str z, z.length, rfl, ⟨lim_line hz, rfl⟩, k _ H G (Grow.refl e) (rp_int _)⟩
    · cases q
def gMax : List PyData → Option PyData
  | [.int i, .int j] => some (.int (if j > i then j else i))
  | _ => none
def gMin : List PyData → Option PyData
  | [.int i, .int j] => some (.int (if j < i then j else i))
  | _ => none
def rMax2 : List V → Hp → VK → Prop := fun xs H Q => ∃ i j, xs = [.int i, .int j] ∧ Q (.int (if j > i then j else i)) H
def rMin2 : List V → Hp → VK → Prop := fun xs H Q => ∃ i j, xs = [.int i, .int j] ∧ Q (.int (if j < i then j else i)) H
theorem max_s : CallS K rMax2 gMax := fun G H xs ds d e b q Q k => by
  match ds, q with
  | [.int i, .int j], q =>
    cases q
    obtain ⟨x, y, rfl, b1, b2⟩ := b.two
    cases b1.int
    cases b2.int
    exact ⟨i, j, rfl, k _ H G (Grow.refl e) (rp_int _)⟩
theorem min_s : CallS K rMin2 gMin := fun G H xs ds d e b q Q k => by
  match ds, q with
  | [.int i, .int j], q =>
    cases q
    obtain ⟨x, y, rfl, b1, b2⟩ := b.two
    cases b1.int
    cases b2.int
    exact ⟨i, j, rfl, k _ H G (Grow.refl e) (rp_int _)⟩
def gInt : List PyData → Option PyData
  | [.int i] => some (.int i)
  | [.bool b] => some (.int (if b then 1 else 0))
  | _ => none
def rInt1 : List V → Hp → VK → Prop := fun xs H Q => (∃ i, xs = [.int i] ∧ Q (.int i) H) ∨ ∃ k, xs = [.bl k] ∧ Q (.int (if k then 1 else 0)) H
theorem int_s : CallS K rInt1 gInt := fun G H xs ds d e b q Q k => by
  match ds, q with
  | [.int i], q =>
    cases q
    obtain ⟨x, rfl, b1⟩ := b.one
    cases b1.int
    exact .inl ⟨i, rfl, k _ H G (Grow.refl e) (rp_int _)⟩
  | [.bool c], q =>
    cases q
    obtain ⟨x, rfl, b1⟩ := b.one
    cases b1.bool
    exact .inr ⟨c, rfl, k _ H G (Grow.refl e) (rp_int _)⟩
/-- list(..) of a list, a tuple: a new list -/
def gListOf : List PyData → Option (List PyData)
  | [.list ds] => some ds
  | [.tuple ds] => some ds
  | _ => none
def rListOf (K : PySem.W.Frag) : List V → Hp → VK → Prop := fun xs H Q => ∃ p ys, xs = [.ref p] ∧ (SqL K H p ys ∨ SqT K H p ys) ∧ ∀ l, H l = none → Q (.ref l) (upd H l (.lst ys))
theorem listOf_s : CallL K (rListOf K) gListOf := fun G H xs ds d e b q Q k => by
  match ds, q with
  | [.list es], q =>
    cases q
    obtain ⟨x, rfl, b1⟩ := b.one
    obtain ⟨p, vs, rfl, h1, a1⟩ := b1.list e
    exact ⟨p, vs, rfl, .inl (.inl (.inl h1)), fun l hl => k l vs _ G ((Grow.refl e).beside hl) hl (e.free hl) upd_same a1⟩
  | [.tuple es], q =>
    cases q
    obtain ⟨x, rfl, b1⟩ := b.one
    obtain ⟨p, vs, rfl, h1, a1⟩ := b1.tuple e
    exact ⟨p, vs, rfl, .inr h1, fun l hl => k l vs _ G ((Grow.refl e).beside hl) hl (e.free hl) upd_same a1⟩
/-- sum(..) of a list of ints -/
def intsD : List PyData → Option (List Int)
  | [] => some []
  | .int i :: ds => (intsD ds).map (i :: ·)
  | _ :: _ => none
theorem intsD_ok : ∀ {ds : List PyData} {ns : List Int}, intsD ds = some ns → ds = ns.map PyData.int
  | [], ns, h => by cases h; rfl
  | .int i :: ds, ns, h => by
    cases e : intsD ds with
    | none => simp [intsD, e] at h
    | some ms =>
      simp [intsD, e] at h
      subst h
      rw [intsD_ok e]; rfl
  | .none :: _, _, h => by cases h
  | .bool _ :: _, _, h => by cases h
  | .str _ :: _, _, h => by cases h
  | .list _ :: _, _, h => by cases h
  | .tuple _ :: _, _, h => by cases h
  | .dict _ :: _, _, h => by cases h
theorem intsD_map (ns : List Int) : intsD (ns.map PyData.int) = some ns := by
  induction ns with
  | nil => rfl
  | cons n ns ih => simp [intsD, ih]
def gSum : List PyData → Option PyData
  | [.list ds] => (intsD ds).map fun ns => .int ns.sum
  | _ => none
theorem sum_s : CallS K (rSum K) gSum := fun G H xs ds d e b q Q k => by
  match ds, q with
  | [.list es], q =>
    cases hn : intsD es with
    | none => simp [gSum, hn] at q
    | some ns =>
      simp [gSum, hn] at q
      subst q
      obtain ⟨x, rfl, b1⟩ := b.one
      obtain ⟨p, vs, rfl, h1, a1⟩ := b1.list e
      rw [intsD_ok hn] at a1
      have ev := ints_dpa ns a1
      subst ev
      exact ⟨p, ns, rfl, .inl (.inl h1), k _ H G (Grow.refl e) (rp_int _)⟩
/-! ### isinstance of a built-in class -/
inductive TyN where
  | bool | int | str | list | tuple
def tyn : TyN → String
  | .bool => "bool"
  | .int => "int"
  | .str => "str"
  | .list => "list"
  | .tuple => "tuple"
def tyD : PyData → String
  | .none => "NoneType"
  | .bool _ => "bool"
  | .int _ => "int"
  | .str _ => "str"
  | .list _ => "list"
  | .tuple _ => "tuple"
  | .dict _ => "dict"
def isiD : TyN → PyData → Bool
  | .bool, .bool _ => true
  | .int, .bool _ => true
  | .int, .int _ => true
  | .str, .str _ => true
  | .list, .list _ => true
  | .tuple, .tuple _ => true
  | _, _ => false
theorem kitB_bool : ∀ T : TyN, kitB "bool" (tyn T) = some (isiD T (.bool true)) := fun T => by cases T <;> decide +kernel
theorem kitB_int : ∀ T : TyN, kitB "int" (tyn T) = some (isiD T (.int 0)) := fun T => by cases T <;> decide +kernel
theorem kitB_str : ∀ T : TyN, kitB "str" (tyn T) = some (isiD T (.str Str.empty)) := fun T => by cases T <;> decide +kernel
theorem kitB_list : ∀ T : TyN, kitB "list" (tyn T) = some (isiD T (.list [])) := fun T => by cases T <;> decide +kernel
theorem kitB_tuple : ∀ T : TyN, kitB "tuple" (tyn T) = some (isiD T (.tuple [])) := fun T => by cases T <;> decide +kernel
theorem kitB_none : ∀ T : TyN, kitB "NoneType" (tyn T) = some (isiD T .none) := fun T => by cases T <;> decide +kernel
theorem kitB_ok (T : TyN) (d : PyData) (hd : dataD d = true) : kitB (tyD d) (tyn T) = some (isiD T d) := by
  cases d with
  | dict _ => cases hd
  | none => exact kitB_none T
  | bool _ => have h := kitB_bool T; cases T <;> exact h
  | int _ => have h := kitB_int T; cases T <;> exact h
  | str _ => have h := kitB_str T; cases T <;> exact h
  | list _ => have h := kitB_list T; cases T <;> exact h
  | tuple _ => have h := kitB_tuple T; cases T <;> exact h
theorem sqt_ty {H : Hp} {a : Addr} {xs : List V} (h : SqT K H a xs) : TyX K H (.ref a) (.type "tuple") := by
  rcases h with (h | ⟨o, h⟩) | ⟨o, its, n, hk, hc, _⟩
  · exact .base (.tup h)
  · exact .fTuple h
  · exact .kTuple hk hc
theorem bp_ty {G H : Hp} {v : V} {d : PyData} (e : Same G H) (h : Bp K G H v d) (hd : dataD d = true) : TyX K H v (.type (tyD d)) := by
  cases d with
  | none => cases h.non; exact .base .non
  | bool b => cases h.bool; exact .base (.bl b)
  | int b => cases h.int; exact .base (.int b)
  | str b => cases h.str; exact .base (.str b)
  | list l => obtain ⟨p, vs, rfl, h1, _⟩ := h.list e; exact .base (.lst h1)
  | tuple l => obtain ⟨p, vs, rfl, h1, _⟩ := h.tuple e; exact sqt_ty h1
  | dict _ => cases hd
def eIsi (T : TyN) (f : SE) : SE := fun ρ => (f ρ).bind fun d => if dataD d = true then some (.bool (isiD T d)) else none
theorem isi_ok {B : Bs} {t : TE} {f : SE} (T : TyN) (h : BOk K B t f) : EOk K B (tCB (rIsi K) (tCons t (tCons (tC (.ty (tyn T))) tNil))) (eIsi T f) := fun R F H σ ρ d E q Q k => by
  cases e0 : f ρ with
  | none => simp [eIsi, e0] at q
  | some x =>
    simp only [eIsi, e0, Option.bind_some] at q
    split at q
    · rename_i hd
      cases q
      refine h _ F H σ ρ _ E e0 _ fun v H1 G1 g1 b1 => ?_
      exact ⟨v, .ty (tyn T), .type (tyD x), .type (tyn T), isiD T x, rfl, .ty _, bp_ty g1.sub b1 hd, kit_ty (kitB_ok T x hd), k _ H1 G1 g1 (rp_bool _)⟩
    · cases q
end
end RT
namespace RT
open PySem PySem.Spec PyProof.Rows L2
/-! ### tests -/
def bF (f : SE) : STe := fun ρ => (f ρ).bind fun d => match d with
  | .bool b => some b
  | _ => none
def tAndF (f g : STe) : STe := fun ρ => (f ρ).bind fun b => if b = true then g ρ else some false
def tOrF (f g : STe) : STe := fun ρ => (f ρ).bind fun b => if b = true then some true else g ρ
def tNotF (f : STe) : STe := fun ρ => (f ρ).map (!·)
def eAndF (f g : SE) : SE := fun ρ => (bF f ρ).bind fun b => if b = true then g ρ else some (.bool false)
def eOrF (f g : SE) : SE := fun ρ => (bF f ρ).bind fun b => if b = true then some (.bool true) else g ρ
def eNotF (f : SE) : SE := fun ρ => (bF f ρ).map fun b => .bool (!b)
def eIfF (t : STe) (f g : SE) : SE := fun ρ => (t ρ).bind fun b => if b = true then f ρ else g ρ
def eChainF (g g' : PyData → PyData → Option PyData) (f1 f2 f3 : SE) : SE := fun ρ => (f1 ρ).bind fun x => (f2 ρ).bind fun y => (g x y).bind fun z => match z with
  | .bool true => (f3 ρ).bind fun u => g' y u
  | .bool false => some (.bool false)
  | _ => none
theorem Rp.bl {K : PySem.W.Frag} {G : Hp} {v : V} {b : Bool} (h : Rp K G v (.bool b)) : v = .bl b := Bp.bool (H := G) (.inl h)
section
variable {K : PySem.W.Frag} {B : Bs} {t t1 t2 t3 : TE} {tt u : TT} {f f1 f2 f3 : SE} {g h : STe}
theorem bF_some {ρ : Rho} {b : Bool} (q : bF f ρ = some b) : f ρ = some (.bool b) := by
  unfold bF at q
  cases e : f ρ with
  | none => simp [e] at q
  | some d =>
    cases d with
    | bool c => simp [e] at q; rw [q]
    | _ => simp [e] at q
theorem tB_ok (k : EOk K B t f) : TOk K B (tB t) (bF f) := fun R F H σ ρ b E q Q kk => k _ F H σ ρ _ E (bF_some q) _ fun v H1 G1 g1 r => ⟨b, r.bl, kk H1 G1 g1⟩
theorem tTest_ok (k : EOk K B t f) : TOk K B (tTest t) (bF f) := fun R F H σ ρ b E q Q kk => k _ F H σ ρ _ E (bF_some q) _ fun v H1 G1 g1 r => ⟨b, r.bl, kk H1 G1 g1⟩
theorem tAnd_ok (k1 : TOk K B tt g) (k2 : TOk K B u h) : TOk K B (tAnd tt u) (tAndF g h) := fun R F H σ ρ b E q Q kk => by
  cases e1 : g ρ with
  | none => simp [tAndF, e1] at q
  | some c =>
    refine k1 _ F H σ ρ c E e1 _ fun H1 G1 g1 => ?_
    cases c with
    | true =>
      have q' : h ρ = some b := by simpa [tAndF, e1] using q
      show u σ H1 Q
      exact k2 _ G1 H1 σ ρ b (E.grow g1) q' Q fun H2 G2 g2 => kk H2 G2 (g1.trans g2)
    | false =>
      have q' : b = false := by simpa [tAndF, e1] using q.symm
      subst q'
      show Q false H1
      exact kk H1 G1 g1
theorem tOr_ok (k1 : TOk K B tt g) (k2 : TOk K B u h) : TOk K B (tOr tt u) (tOrF g h) := fun R F H σ ρ b E q Q kk => by
  cases e1 : g ρ with
  | none => simp [tOrF, e1] at q
  | some c =>
    refine k1 _ F H σ ρ c E e1 _ fun H1 G1 g1 => ?_
    cases c with
    | true =>
      have q' : b = true := by simpa [tOrF, e1] using q.symm
      subst q'
      show Q true H1
      exact kk H1 G1 g1
    | false =>
      have q' : h ρ = some b := by simpa [tOrF, e1] using q
      show u σ H1 Q
      exact k2 _ G1 H1 σ ρ b (E.grow g1) q' Q fun H2 G2 g2 => kk H2 G2 (g1.trans g2)
theorem tNot_ok (k1 : TOk K B tt g) : TOk K B (tNot tt) (tNotF g) := fun R F H σ ρ b E q Q kk => by
  cases e1 : g ρ with
  | none => simp [tNotF, e1] at q
  | some c =>
    have q' : b = !c := by simpa [tNotF, e1] using q.symm
    subst q'
    exact k1 _ F H σ ρ c E e1 _ fun H1 G1 g1 => kk H1 G1 g1
theorem andV_ok (k1 : EOk K B t1 f1) (k2 : EOk K B t2 f2) : EOk K B (tAndV t1 t2) (eAndF f1 f2) := fun R F H σ ρ d E q Q kk => by
  cases e1 : bF f1 ρ with
  | none => simp [eAndF, e1] at q
  | some c =>
    refine k1 _ F H σ ρ _ E (bF_some e1) _ fun v H1 G1 g1 r => ⟨c, r.bl, ?_⟩
    cases c with
    | true =>
      have q' : f2 ρ = some d := by simpa [eAndF, e1] using q
      show t2 σ H1 Q
      exact k2 _ G1 H1 σ ρ d (E.grow g1) q' Q fun v H2 G2 g2 r2 => kk v H2 G2 (g1.trans g2) r2
    | false =>
      have q' : d = .bool false := by simpa [eAndF, e1] using q.symm
      subst q'
      show Q (.bl false) H1
      exact kk _ H1 G1 g1 (rp_bool _)
theorem orV_ok (k1 : EOk K B t1 f1) (k2 : EOk K B t2 f2) : EOk K B (tOrV t1 t2) (eOrF f1 f2) := fun R F H σ ρ d E q Q kk => by
  cases e1 : bF f1 ρ with
  | none => simp [eOrF, e1] at q
  | some c =>
    refine k1 _ F H σ ρ _ E (bF_some e1) _ fun v H1 G1 g1 r => ⟨c, r.bl, ?_⟩
    cases c with
    | true =>
      have q' : d = .bool true := by simpa [eOrF, e1] using q.symm
      subst q'
      show Q (.bl true) H1
      exact kk _ H1 G1 g1 (rp_bool _)
    | false =>
      have q' : f2 ρ = some d := by simpa [eOrF, e1] using q
      show t2 σ H1 Q
      exact k2 _ G1 H1 σ ρ d (E.grow g1) q' Q fun v H2 G2 g2 r2 => kk v H2 G2 (g1.trans g2) r2
theorem notV_ok (k1 : EOk K B t1 f1) : EOk K B (tNotV t1) (eNotF f1) := fun R F H σ ρ d E q Q kk => by
  cases e1 : bF f1 ρ with
  | none => simp [eNotF, e1] at q
  | some c =>
    have q' : d = .bool (!c) := by simpa [eNotF, e1] using q.symm
    subst q'
    exact k1 _ F H σ ρ _ E (bF_some e1) _ fun v H1 G1 g1 r => ⟨c, r.bl, kk _ H1 G1 g1 (rp_bool _)⟩
theorem if_ok (k0 : TOk K B tt g) (k1 : EOk K B t1 f1) (k2 : EOk K B t2 f2) : EOk K B (tIf tt t1 t2) (eIfF g f1 f2) := fun R F H σ ρ d E q Q kk => by
  cases e1 : g ρ with
  | none => simp [eIfF, e1] at q
  | some c =>
    refine k0 _ F H σ ρ c E e1 _ fun H1 G1 g1 => ?_
    cases c with
    | true =>
      have q' : f1 ρ = some d := by simpa [eIfF, e1] using q
      show t1 σ H1 Q
      exact k1 _ G1 H1 σ ρ d (E.grow g1) q' Q fun v H2 G2 g2 r2 => kk v H2 G2 (g1.trans g2) r2
    | false =>
      have q' : f2 ρ = some d := by simpa [eIfF, e1] using q
      show t2 σ H1 Q
      exact k2 _ G1 H1 σ ρ d (E.grow g1) q' Q fun v H2 G2 g2 r2 => kk v H2 G2 (g1.trans g2) r2
theorem chain_ok {r r' : R2} {gg gg' : PyData → PyData → Option PyData} (o1 : OpS K r gg) (o2 : OpS K r' gg') (k1 : BOk K B t1 f1) (k2 : BOk K B t2 f2) (k3 : BOk K B t3 f3) : EOk K B (tChain r r' t1 t2 t3) (eChainF gg gg' f1 f2 f3) := fun R F H σ ρ d E q Q kk => by
  cases e1 : f1 ρ with
  | none => simp [eChainF, e1] at q
  | some x =>
    cases e2 : f2 ρ with
    | none => simp [eChainF, e1, e2] at q
    | some y =>
      cases e3 : gg x y with
      | none => simp [eChainF, e1, e2, e3] at q
      | some z =>
        cases z with
        | bool c =>
          refine k1 _ F H σ ρ x E e1 _ fun v H1 G1 g1 b1 => k2 _ G1 H1 σ ρ y (E.grow g1) e2 _ fun u H2 G2 g2 b2 => o1 G2 H2 v u x y _ g2.sub (b1.mono g2.f g2.h) b2 e3 _ fun w H3 G3 g3 r3 => ⟨c, r3.bl, ?_⟩
          cases c with
          | true =>
            cases e4 : f3 ρ with
            | none => simp [eChainF, e1, e2, e3, e4] at q
            | some u' =>
              have q' : gg' y u' = some d := by simpa [eChainF, e1, e2, e3, e4] using q
              show t3 σ H3 _
              exact k3 _ G3 H3 σ ρ u' (((E.grow g1).grow g2).grow g3) e4 _ fun w' H4 G4 g4 b4 => o2 G4 H4 u w' y u' d g4.sub (b2.mono (g3.f.trans g4.f) (g3.h.trans g4.h)) b4 q' Q fun z H5 G5 g5 r5 => kk z H5 G5 ((((g1.trans g2).trans g3).trans g4).trans g5) r5
          | false =>
            have q' : d = .bool false := by simpa [eChainF, e1, e2, e3] using q.symm
            subst q'
            show Q (.bl false) H3
            exact kk _ H3 G3 ((g1.trans g2).trans g3) (rp_bool _)
        | _ => simp [eChainF, e1, e2, e3] at q
end
/-- a op1 b op2 c op3 d -/
def tChain3 (r r' r2 : R2) (ta tb tc td : TE) : TE := fun σ H Q => ta σ H fun x H1 => tb σ H1 fun y H2 => r x y H2 fun z H3 => ∃ k, z = .bl k ∧
  (if k = true then tc σ H3 fun w' H4 => r' y w' H4 (fun z H5 => ∃ k, z = .bl k ∧ (if k = true then td σ H5 fun w2 H6 => r2 w' w2 H6 Q else Q (.bl false) H5)) else Q (.bl false) H3)
theorem pe_chain3 {X : Cx} {a b c d : Expr} {ta tb tc td : TE} {r r' r2 : R2} {pos : Pos} {op op' op2 : CmpOp} (ho : OpR X (compareOp op) r) (ho' : OpR X (compareOp op') r') (ho2 : OpR X (compareOp op2) r2) (ha : PE X a ta) (hb : PE X b tb) (hc : PE X c tc) (hd : PE X d td)
    (hm : lastMarks [op, op', op2] [b, c, d] = false := by with_unfolding_all rfl) : PE X (.Compare a [op, op', op2] [b, c, d] pos) (tChain3 r r' r2 ta tb tc td) := by
  refine ⟨fun pins s σ H Q I h => ?_⟩
  refine Compare_chain (thn (ha.run pins s σ H _ I h) fun v s1 ⟨x, H1, I1, r1, q1⟩ => chain_link (thn (hb.run pins s1 σ H1 _ I1 q1) fun u s2 ⟨y, H2, I2, r2, q2⟩ =>
    thn (ho pins s2 σ H2 x y v u _ I2 r1 r2 q2) fun d s3 ⟨z, H3, I3, r3, k, e, q3⟩ => ?_)) hm
  subst e
  cases r3
  refine wpAny_truthy_bool ?_
  cases k with
  | false => exact ite_ff ⟨.bl false, H3, I3, rfl, q3⟩
  | true =>
    refine ite_tt (chain_link (thn (hc.run pins s3 σ H3 _ I3 q3) fun w' s4 ⟨z', H4, I4, r4, q4⟩ => thn (ho' pins s4 σ H4 y z' u w' _ I4 r2 r4 q4) fun d2 s5 ⟨zz, H5, I5, r5, k2, e2, q5⟩ => ?_))
    subst e2
    cases r5
    refine wpAny_truthy_bool ?_
    cases k2 with
    | false => exact ite_ff ⟨.bl false, H5, I5, rfl, q5⟩
    | true => exact ite_tt (chain_last (thn (hd.run pins s5 σ H5 _ I5 q5) fun w2 s6 ⟨z2, H6, I6, r6, q6⟩ => ho2 pins s6 σ H6 z' z2 w' w2 Q I6 r4 r6 q6))
def eChain3F (g g' g2 : PyData → PyData → Option PyData) (f1 f2 f3 f4 : SE) : SE := fun ρ => (f1 ρ).bind fun x => (f2 ρ).bind fun y => (g x y).bind fun z => match z with
  | .bool true => (f3 ρ).bind fun u => (g' y u).bind fun z => match z with
    | .bool true => (f4 ρ).bind fun u2 => g2 u u2
    | .bool false => some (.bool false)
    | _ => none
  | .bool false => some (.bool false)
  | _ => none
theorem chain3_ok {K : PySem.W.Frag} {B : Bs} {t1 t2 t3 t4 : TE} {f1 f2 f3 f4 : SE} {r r' r2 : R2} {gg gg' gg2 : PyData → PyData → Option PyData} (o1 : OpS K r gg) (o2 : OpS K r' gg') (o3 : OpS K r2 gg2) (k1 : BOk K B t1 f1) (k2 : BOk K B t2 f2) (k3 : BOk K B t3 f3) (k4 : BOk K B t4 f4) :
    EOk K B (tChain3 r r' r2 t1 t2 t3 t4) (eChain3F gg gg' gg2 f1 f2 f3 f4) := fun R F H σ ρ d E q Q kk => by
  cases e1 : f1 ρ with
  | none => simp [eChain3F, e1] at q
  | some x =>
    cases e2 : f2 ρ with
    | none => simp [eChain3F, e1, e2] at q
    | some y =>
      cases e3 : gg x y with
      | none => simp [eChain3F, e1, e2, e3] at q
      | some z =>
        cases z with
        | bool c =>
          refine k1 _ F H σ ρ x E e1 _ fun v H1 G1 g1 b1 => k2 _ G1 H1 σ ρ y (E.grow g1) e2 _ fun u H2 G2 g2 b2 => o1 G2 H2 v u x y _ g2.sub (b1.mono g2.f g2.h) b2 e3 _ fun w H3 G3 g3 r3 => ⟨c, r3.bl, ?_⟩
          cases c with
          | true =>
            cases e4 : f3 ρ with
            | none => simp [eChain3F, e1, e2, e3, e4] at q
            | some u' =>
              cases e5 : gg' y u' with
              | none => simp [eChain3F, e1, e2, e3, e4, e5] at q
              | some z5 =>
                cases z5 with
                | bool c5 =>
                  show t3 σ H3 _
                  refine k3 _ G3 H3 σ ρ u' (((E.grow g1).grow g2).grow g3) e4 _ fun w' H4 G4 g4 b4 => o2 G4 H4 u w' y u' _ g4.sub (b2.mono (g3.f.trans g4.f) (g3.h.trans g4.h)) b4 e5 _ fun z H5 G5 g5 r5 => ⟨c5, r5.bl, ?_⟩
                  have gA := (((g1.trans g2).trans g3).trans g4).trans g5
                  cases c5 with
                  | true =>
                    cases e6 : f4 ρ with
                    | none => simp [eChain3F, e1, e2, e3, e4, e5, e6] at q
                    | some u2 =>
                      have q' : gg2 u' u2 = some d := by simpa [eChain3F, e1, e2, e3, e4, e5, e6] using q
                      show t4 σ H5 _
                      exact k4 _ G5 H5 σ ρ u2 (E.grow gA) e6 _ fun w6 H6 G6 g6 b6 => o3 G6 H6 w' w6 u' u2 d g6.sub (b4.mono (g5.f.trans g6.f) (g5.h.trans g6.h)) b6 q' Q fun z H7 G7 g7 r7 => kk z H7 G7 ((gA.trans g6).trans g7) r7
                  | false =>
                    have q' : d = .bool false := by simpa [eChain3F, e1, e2, e3, e4, e5] using q.symm
                    subst q'
                    show Q (.bl false) H5
                    exact kk _ H5 G5 gA (rp_bool _)
                | _ => simp [eChain3F, e1, e2, e3, e4, e5] at q
          | false =>
            have q' : d = .bool false := by simpa [eChain3F, e1, e2, e3] using q.symm
            subst q'
            show Q (.bl false) H3
            exact kk _ H3 G3 ((g1.trans g2).trans g3) (rp_bool _)
        | _ => simp [eChain3F, e1, e2, e3] at q

/-! ### what is walked -/
structure WalksD (K : PySem.W.Frag) (Al : Hp → Hp → Prop) (J : It) (ds : List PyData) : Prop where
  go : ∀ i G' H', Al G' H' → i < ds.length → J.go i H'
  yld : ∀ i G' H' x H'' d, Al G' H' → ds[i]? = some d → J.yld i H' x H'' → ∃ G'', Grow H' G' H'' G'' ∧ Rp K G'' x d
  stop : ∀ G' H', Al G' H' → J.stop ds.length H'
/-- over data that stand | over data that are read for a moment (nothing is changed meanwhile) -/
def IOk (K : PySem.W.Frag) (B : Bs) (wi : TI) (f : SA) : Prop := ∀ (R : Rg) (F H : Hp) (σ : L2.St) (ρ : Rho) (ds : List PyData), EnvOk K B R F H σ ρ → f ρ = some ds → ∀ R : It → Hp → Prop,
  (∀ J H1 G1, Grow H F H1 G1 → WalksD K (fun G' H' => Same G1 G' ∧ Same G' H') J ds → R J H1) → wi σ H R
def IBOk (K : PySem.W.Frag) (B : Bs) (wi : TI) (f : SA) : Prop := ∀ (R : Rg) (F H : Hp) (σ : L2.St) (ρ : Rho) (ds : List PyData), EnvOk K B R F H σ ρ → f ρ = some ds → ∀ R : It → Hp → Prop,
  (∀ J H1 G1, Grow H F H1 G1 → WalksD K (fun G' H' => Same G1 G' ∧ Same G' H' ∧ Same H1 H') J ds → R J H1) → wi σ H R
theorem WalksD.imp {K : PySem.W.Frag} {Al Al' : Hp → Hp → Prop} {J : It} {ds : List PyData} (h : WalksD K Al J ds) (hi : ∀ G' H', Al' G' H' → Al G' H') : WalksD K Al' J ds :=
  ⟨fun i G' H' a => h.go i G' H' (hi _ _ a), fun i G' H' x H'' d a => h.yld i G' H' x H'' d (hi _ _ a), fun G' H' a => h.stop G' H' (hi _ _ a)⟩
theorem IOk.b {K : PySem.W.Frag} {B : Bs} {wi : TI} {f : SA} (h : IOk K B wi f) : IBOk K B wi f := fun R F H σ ρ ds E q R k => h _ F H σ ρ ds E q R fun J H1 G1 g1 w => k J H1 G1 g1 (w.imp fun G' H' a => ⟨a.1, a.2.1⟩)
def iL (f : SE) : SA := fun ρ => (f ρ).bind fun d => match d with
  | .list ds => if ds.length ≤ LIM then some ds else none
  | _ => none
def iT (f : SE) : SA := fun ρ => (f ρ).bind fun d => match d with
  | .tuple ds => if ds.length ≤ LIM then some ds else none
  | _ => none
def signsD (z : Str) : List PyData := z.cps.toList.map fun c => .str ⟨#[c]⟩
def iS (f : SE) : SA := fun ρ => (f ρ).bind fun d => match d with
  | .str z => if z.length ≤ LIM then some (signsD z) else none
  | _ => none
def rangeD (lo : Int) (n : Nat) : List PyData := (List.range n).map fun i => .int (lo + (i : Nat))
def iR1 (f : SA) : SA := fun ρ => (f ρ).bind fun ds => match ds with
  | [.int j] => if j ≤ 1000000 ∧ -1000000 ≤ j then some (rangeD 0 j.toNat) else none
  | _ => none
def iR2 (f : SA) : SA := fun ρ => (f ρ).bind fun ds => match ds with
  | [.int i, .int j] => if (j ≤ 1000000 ∧ -1000000 ≤ j) ∧ i ≤ 1000000 ∧ -1000000 ≤ i then some (rangeD i (j - i).toNat) else none
  | _ => none
def enumD : Nat → List PyData → List PyData
  | _, [] => []
  | n, d :: ds => .tuple [.int (n : Nat), d] :: enumD (n + 1) ds
def iE (f : SA) : SA := fun ρ => (f ρ).bind fun ds => match ds with
  | [.list es] => if es.length ≤ LIM then some (enumD 0 es) else none
  | _ => none
theorem enumD_get : ∀ (ds : List PyData) (n i : Nat), (enumD n ds)[i]? = (ds[i]?).map fun d => .tuple [.int ((n + i : Nat) : Nat), d]
  | [], n, i => by simp [enumD]
  | d :: ds, n, 0 => by simp [enumD]
  | d :: ds, n, i + 1 => by
    rw [enumD, List.getElem?_cons_succ, enumD_get ds (n + 1) i, List.getElem?_cons_succ]
    have e : n + 1 + i = n + (i + 1) := by omega
    rw [e]
theorem enumD_len : ∀ (ds : List PyData) (n : Nat), (enumD n ds).length = ds.length
  | [], n => rfl
  | d :: ds, n => by simp [enumD, enumD_len ds (n + 1)]
section
variable {K : PySem.W.Frag} {B : Bs} {t : TE} {ta : TA} {f : SE} {sa : SA}
theorem walks_list {G1 : Hp} {a : Addr} {vs : List V} {ds : List PyData} {Al : Hp → Hp → Prop} (hA : DqAll K G1 vs ds) (h1 : ∀ G' H', Al G' H' → H' a = some (.lst vs)) (h2 : ∀ G' H', Al G' H' → Same G1 G' ∧ Same G' H') : WalksD K Al (Itl K a) ds where
  go := fun i G' H' al hi => by
    obtain ⟨d, hd⟩ : ∃ d, ds[i]? = some d := ⟨ds[i], List.getElem?_eq_getElem hi⟩
    obtain ⟨v, hv, _⟩ := hA.get hd
    exact ⟨vs, v, .inl (.inl (h1 _ _ al)), hv⟩
  yld := fun i G' H' x H'' d al hd y => by
    obtain ⟨e, y⟩ := y
    subst e
    have hx := y vs (.inl (.inl (h1 _ _ al)))
    obtain ⟨d', hd', r⟩ := hA.getV hx
    rw [hd] at hd'; cases hd'
    exact ⟨G', Grow.refl (h2 _ _ al).2, .inl (dpa_mono' (h2 _ _ al).1 r)⟩
  stop := fun G' H' al => ⟨vs, .inl (.inl (h1 _ _ al)), by rw [hA.len]; exact Nat.le_refl _⟩
where dpa_mono' {F G : Hp} (e : Same F G) {v : V} {d : PyData} (h : Dq K F v d) : Dq K G v d := dp_mono e d h
theorem iListB_ok (h : BOk K B t f) : IBOk K B (iList K t) (iL f) := fun R F H σ ρ ds E q R k => by
  cases e0 : f ρ with
  | none => simp [iL, e0] at q
  | some d =>
    cases d with
    | list es =>
      simp only [iL, e0, Option.bind_some] at q
      split at q
      · cases q
        refine h _ F H σ ρ _ E e0 _ fun v H1 G1 g1 b1 => ?_
        obtain ⟨p, vs, rfl, hR, hA⟩ := b1.list g1.sub
        exact ⟨p, rfl, ⟨vs, .inl (.inl hR)⟩, k _ H1 G1 g1 (walks_list hA (fun G' H' al => al.2.2 _ _ hR) fun G' H' al => ⟨al.1, al.2.1⟩)⟩
      · cases q
    | _ => simp [iL, e0] at q
theorem iList_ok (h : EOk K B t f) : IOk K B (iList K t) (iL f) := fun R F H σ ρ ds E q R k => by
  cases e0 : f ρ with
  | none => simp [iL, e0] at q
  | some d =>
    cases d with
    | list es =>
      simp only [iL, e0, Option.bind_some] at q
      split at q
      · cases q
        refine h _ F H σ ρ _ E e0 _ fun v H1 G1 g1 r1 => ?_
        have r2 := r1.dp
        cases r2 with
        | lst hR hA => exact ⟨_, rfl, ⟨_, .inl (.inl (g1.sub _ _ hR))⟩, k _ H1 G1 g1 (walks_list hA (fun G' H' al => (al.1.trans al.2) _ _ hR) fun G' H' al => al)⟩
      · cases q
    | _ => simp [iL, e0] at q
theorem iTup_ok (h : EOk K B t f) : IOk K B (iTup K t) (iT f) := fun R F H σ ρ ds E q R k => by
  cases e0 : f ρ with
  | none => simp [iT, e0] at q
  | some d =>
    cases d with
    | tuple es =>
      simp only [iT, e0, Option.bind_some] at q
      split at q
      · cases q
        refine h _ F H σ ρ _ E e0 _ fun v H1 G1 g1 r1 => ?_
        have r2 := r1.dp
        cases r2 with
        | @tup a vs _ hR hA =>
          refine ⟨a, rfl, ⟨vs, same_t g1.sub hR⟩, k _ H1 G1 g1 ⟨fun i G' H' al hi => ?_, fun i G' H' x H'' d al hd y => ?_, fun G' H' al => ⟨vs, same_t (al.1.trans al.2) hR, by rw [hA.len]; exact Nat.le_refl _⟩⟩⟩
          · obtain ⟨d, hd⟩ : ∃ d, ds[i]? = some d := ⟨ds[i], List.getElem?_eq_getElem hi⟩
            obtain ⟨v, hv, _⟩ := hA.get hd
            exact ⟨vs, v, same_t (al.1.trans al.2) hR, hv⟩
          · obtain ⟨e, y⟩ := y
            subst e
            have hx := y vs (same_t (al.1.trans al.2) hR)
            obtain ⟨d', hd', r⟩ := hA.getV hx
            rw [hd] at hd'; cases hd'
            exact ⟨G', Grow.refl al.2, .inl (dp_mono al.1 d r)⟩
      · cases q
    | _ => simp [iT, e0] at q
theorem iStr_ok (h : EOk K B t f) : IOk K B (iStr t) (iS f) := fun R F H σ ρ ds E q R k => by
  cases e0 : f ρ with
  | none => simp [iS, e0] at q
  | some d =>
    cases d with
    | str z =>
      simp only [iS, e0, Option.bind_some] at q
      split at q
      · cases q
        refine h _ F H σ ρ _ E e0 _ fun v H1 G1 g1 r1 => ?_
        have hl : (signsD z).length = z.cps.size := by simp [signsD]
        refine ⟨z, Bp.str (H := G1) (.inl r1), k _ H1 G1 g1 ⟨fun i G' H' al hi => by rw [hl] at hi; exact hi, fun i G' H' x H'' d al hd y => ?_, fun G' H' al => by rw [hl]; exact Nat.le_refl _⟩⟩
        obtain ⟨e, c, hc, rfl⟩ := y
        subst e
        refine ⟨G', Grow.refl al.2, ?_⟩
        have ec : z.cps.toList[i]? = some c := by simpa using hc
        have : d = .str ⟨#[c]⟩ := by
          unfold signsD at hd
          rw [List.getElem?_map, ec] at hd
          exact (Option.some.inj hd).symm
        rw [this]
        exact rp_str _
      · cases q
    | _ => simp [iS, e0] at q
theorem walks_range {Al : Hp → Hp → Prop} (lo : Int) (n : Nat) (h2 : ∀ G' H', Al G' H' → Same G' H') : WalksD K Al (Itr lo n) (rangeD lo n) where
  go := fun i G' H' al hi => by
    have h : i < n := by simpa [rangeD] using hi
    exact h
  yld := fun i G' H' x H'' d al hd y => by
    obtain ⟨e, y⟩ := y
    subst e
    subst y
    refine ⟨G', Grow.refl (h2 _ _ al), ?_⟩
    unfold rangeD at hd
    rw [List.getElem?_map] at hd
    cases hr : (List.range n)[i]? with
    | none => rw [hr] at hd; cases hd
    | some j =>
      have hi : i < n := by
        have := (List.getElem?_eq_some_iff.mp hr).1
        simpa using this
      have hj : j = i := by rw [List.getElem?_range hi] at hr; exact (Option.some.inj hr).symm
      rw [hr] at hd
      cases hd
      rw [hj]
      exact rp_int _
  stop := fun G' H' al => by simp [rangeD, Itr]
theorem ABOk.ints1 {F H : Hp} {σ : L2.St} {ρ : Rho} {i : Int} (h : ABOk K B ta sa) (E : EnvOk K B R F H σ ρ) (q : sa ρ = some [.int i]) {Q : List V → Hp → Prop} (k : ∀ H' G, Grow H F H' G → Q [.int i] H') : ta σ H Q :=
  h _ F H σ ρ _ E q Q fun vs H' G g b => by
    obtain ⟨x, rfl, b1⟩ := b.one
    cases b1.int
    exact k H' G g
theorem iRng1_ok (h : ABOk K B ta sa) : IOk K B (iRng1 ta) (iR1 sa) := fun R F H σ ρ ds E q R k => by
  cases e0 : sa ρ with
  | none => simp [iR1, e0] at q
  | some es =>
    match es, e0, q with
    | [.int j], e0, q =>
      simp only [iR1, e0, Option.bind_some] at q
      split at q
      · rename_i hj
        cases q
        exact h.ints1 E e0 fun H1 G1 g1 => ⟨j, rfl, by omega, by omega, k _ H1 G1 g1 (walks_range _ _ fun G' H' al => al.2)⟩
      · cases q
    | [], e0, q => simp [iR1, e0] at q
    | .none :: _, e0, q => simp [iR1, e0] at q
    | .bool _ :: _, e0, q => simp [iR1, e0] at q
    | .str _ :: _, e0, q => simp [iR1, e0] at q
    | .list _ :: _, e0, q => simp [iR1, e0] at q
    | .tuple _ :: _, e0, q => simp [iR1, e0] at q
    | .dict _ :: _, e0, q => simp [iR1, e0] at q
    | .int _ :: _ :: _, e0, q => simp [iR1, e0] at q
theorem iR2_inv {ρ : Rho} {ds : List PyData} (q : iR2 sa ρ = some ds) : ∃ i j, sa ρ = some [.int i, .int j] ∧ ((j ≤ 1000000 ∧ -1000000 ≤ j) ∧ i ≤ 1000000 ∧ -1000000 ≤ i) ∧ ds = rangeD i (j - i).toNat := by
  unfold iR2 at q
  cases e0 : sa ρ with
  | none => simp [e0] at q
  | some es =>
    rw [e0, Option.bind_some] at q
    split at q
    · rename_i i j
      split at q
      · rename_i hc
        cases q
        exact ⟨i, j, rfl, hc, rfl⟩
      · cases q
    · cases q
theorem iRng2_ok (h : ABOk K B ta sa) : IOk K B (iRng2 ta) (iR2 sa) := fun R F H σ ρ ds E q R k => by
  obtain ⟨i, j, e0, hc, rfl⟩ := iR2_inv q
  refine h _ F H σ ρ _ E e0 _ fun vs H1 G1 g1 b => ?_
  obtain ⟨x, y, rfl, b1, b2⟩ := b.two
  cases b1.int
  cases b2.int
  exact ⟨i, j, rfl, by omega, k _ H1 G1 g1 (walks_range _ _ fun G' H' al => al.2)⟩
theorem iE_inv {ρ : Rho} {ds : List PyData} (q : iE sa ρ = some ds) : ∃ es, sa ρ = some [.list es] ∧ ds = enumD 0 es := by
  unfold iE at q
  cases e0 : sa ρ with
  | none => simp [e0] at q
  | some es =>
    rw [e0, Option.bind_some] at q
    split at q
    · rename_i fs
      split at q
      · cases q
        exact ⟨fs, rfl, rfl⟩
      · cases q
    · cases q
theorem RpAll.one {F : Hp} {vs : List V} {a : PyData} (h : RpAll K F vs [a]) : ∃ x, vs = [x] ∧ Rp K F x a := by
  cases h with
  | cons h1 h2 =>
    cases h2
    exact ⟨_, rfl, h1⟩
theorem iEnum_ok (h : AOk K B ta sa) : IOk K B (iEnum K ta) (iE sa) := fun R F H σ ρ ds E q R k => by
  obtain ⟨es, e0, rfl⟩ := iE_inv q
  refine h _ F H σ ρ _ E e0 _ fun ws H1 G1 g1 b => ?_
  obtain ⟨x, rfl, b1⟩ := b.one
  have r2 := b1.dp
  cases r2 with
  | @lst a vs _ hR hA =>
    refine ⟨a, vs, rfl, .inl (.inl (g1.sub _ _ hR)), k _ H1 G1 g1 ⟨fun i G' H' al hi => ?_, fun i G' H' x H'' d al hd y => ?_, fun G' H' al => ⟨vs, .inl (.inl ((al.1.trans al.2) _ _ hR)), by rw [hA.len, enumD_len]; exact Nat.le_refl _⟩⟩⟩
    · rw [enumD_len] at hi
      obtain ⟨d, hd⟩ : ∃ d, es[i]? = some d := ⟨es[i], List.getElem?_eq_getElem hi⟩
      obtain ⟨v, hv, _⟩ := hA.get hd
      exact ⟨vs, v, .inl (.inl ((al.1.trans al.2) _ _ hR)), hv⟩
    · obtain ⟨T, v, rfl, hT, rfl, y⟩ := y
      have hx := y vs (.inl (.inl ((al.1.trans al.2) _ _ hR)))
      obtain ⟨d', hd', r⟩ := hA.getV hx
      rw [enumD_get, hd'] at hd
      have hd2 : d = .tuple [.int ((0 + i : Nat) : Nat), d'] := (Option.some.inj hd).symm
      have e00 : 0 + i = i := Nat.zero_add i
      rw [e00] at hd2
      subst hd2
      refine ⟨_, (Grow.refl al.2).new hT, .inl (.tup (.inl (.inl upd_same)) (.cons (.int _) (.cons ?_ .nil)))⟩
      exact dp_mono (al.1.trans (Same.upd_new (Same.refl G') (al.2.free hT))) d' r
end
end RT
namespace RT
open PySem PySem.Spec PyProof.Rows L2
/-! ### a comprehension: one name, its slot j -/
def lcF (j : Nat) (tst : STe) (el : SE) (ρ : Rho) : List PyData → Option (List PyData)
  | [] => some []
  | d :: ds => (tst (ρ.set j (.val d))).bind fun b =>
    if b = true then (el (ρ.set j (.val d))).bind fun e => if dataD e = true then (lcF j tst el ρ ds).map (e :: ·) else none
    else lcF j tst el ρ ds
def lLc (src : SA) (j : Nat) (tst : STe) (el : SE) : SA := fun ρ => (src ρ).bind fun ds => if ds.length ≤ LIM then lcF j tst el ρ ds else none
def tYesF : STe := fun _ => some true
theorem yes_ok {K : PySem.W.Frag} {B : Bs} : TOk K B tYes tYesF := fun R F H σ ρ b E q Q k => by
  cases q
  exact k H F (Grow.refl E.ex)
theorem EnvOk.setV {K : PySem.W.Frag} {B : Bs} {R : Rg} {F H : Hp} {σ : L2.St} {ρ : Rho} {v : V} {d : PyData} (E : EnvOk K B R F H σ ρ) (j : Nat) (r : Rp K F v d) : EnvOk K B R F H (σ.set j (some v)) (ρ.set j (.val d)) where
  bs := E.bs
  bh := E.bh
  bF := E.bF
  bo := E.bo
  rh := E.rh
  rF := E.rF
  rB := E.rB
  rr := E.rr
  obj := fun i o h => by
    by_cases hij : j = i
    · subst hij
      by_cases hj : j < ρ.length
      · rw [List.getElem?_set_self hj] at h
        cases h
      · rw [List.getElem?_eq_none (by simpa using hj)] at h
        cases h
    · rw [List.getElem?_set_ne hij] at h ⊢
      exact E.obj i o h
  oa := fun a0 q o a h h2 => by
    by_cases hij : j = 0
    · subst hij
      by_cases hj : 0 < ρ.length
      · rw [List.getElem?_set_self hj] at h
        cases h
      · rw [List.getElem?_eq_none (by simpa using hj)] at h
        cases h
    · rw [List.getElem?_set_ne hij] at h h2
      exact E.oa a0 q o a h h2
  ex := E.ex
  len := by simp [E.len]
  val := fun i d' h => by
    by_cases hij : j = i
    · subst hij
      by_cases hj : j < ρ.length
      · rw [List.getElem?_set_self hj] at h
        cases h
        exact ⟨v, by rw [List.getElem?_set_self (by rw [← E.len]; exact hj)], r⟩
      · rw [List.getElem?_eq_none (by simpa using hj)] at h
        cases h
    · rw [List.getElem?_set_ne hij] at h ⊢
      exact E.val i d' h
  own := fun i ds h => by
    by_cases hij : j = i
    · subst hij
      by_cases hj : j < ρ.length
      · rw [List.getElem?_set_self hj] at h
        cases h
      · rw [List.getElem?_eq_none (by simpa using hj)] at h
        cases h
    · rw [List.getElem?_set_ne hij] at h ⊢
      exact E.own i ds h
  dis := fun i k ds es p hik h1 h2 h3 h4 => by
    by_cases hij : j = i
    · subst hij
      by_cases hj : j < ρ.length
      · rw [List.getElem?_set_self hj] at h1
        cases h1
      · rw [List.getElem?_eq_none (by simpa using hj)] at h1
        cases h1
    · by_cases hkj : j = k
      · subst hkj
        by_cases hj : j < ρ.length
        · rw [List.getElem?_set_self hj] at h2
          cases h2
        · rw [List.getElem?_eq_none (by simpa using hj)] at h2
          cases h2
      · rw [List.getElem?_set_ne hij] at h1 h3
        rw [List.getElem?_set_ne hkj] at h2 h4
        exact E.dis i k ds es p hik h1 h2 h3 h4
theorem EnvOk.setN {K : PySem.W.Frag} {B : Bs} {R : Rg} {F H : Hp} {σ : L2.St} {ρ : Rho} (E : EnvOk K B R F H σ ρ) (j : Nat) (o : Option V) : EnvOk K B R F H (σ.set j o) (ρ.set j .no) where
  bs := E.bs
  bh := E.bh
  bF := E.bF
  bo := E.bo
  rh := E.rh
  rF := E.rF
  rB := E.rB
  rr := E.rr
  obj := fun i o h => by
    by_cases hij : j = i
    · subst hij
      by_cases hj : j < ρ.length
      · rw [List.getElem?_set_self hj] at h
        cases h
      · rw [List.getElem?_eq_none (by simpa using hj)] at h
        cases h
    · rw [List.getElem?_set_ne hij] at h ⊢
      exact E.obj i o h
  oa := fun a0 q o a h h2 => by
    by_cases hij : j = 0
    · subst hij
      by_cases hj : 0 < ρ.length
      · rw [List.getElem?_set_self hj] at h
        cases h
      · rw [List.getElem?_eq_none (by simpa using hj)] at h
        cases h
    · rw [List.getElem?_set_ne hij] at h h2
      exact E.oa a0 q o a h h2
  ex := E.ex
  len := by simp [E.len]
  val := fun i d' h => by
    by_cases hij : j = i
    · subst hij
      by_cases hj : j < ρ.length
      · rw [List.getElem?_set_self hj] at h
        cases h
      · rw [List.getElem?_eq_none (by simpa using hj)] at h
        cases h
    · rw [List.getElem?_set_ne hij] at h ⊢
      exact E.val i d' h
  own := fun i ds h => by
    by_cases hij : j = i
    · subst hij
      by_cases hj : j < ρ.length
      · rw [List.getElem?_set_self hj] at h
        cases h
      · rw [List.getElem?_eq_none (by simpa using hj)] at h
        cases h
    · rw [List.getElem?_set_ne hij] at h ⊢
      exact E.own i ds h
  dis := fun i k ds es p hik h1 h2 h3 h4 => by
    by_cases hij : j = i
    · subst hij
      by_cases hj : j < ρ.length
      · rw [List.getElem?_set_self hj] at h1
        cases h1
      · rw [List.getElem?_eq_none (by simpa using hj)] at h1
        cases h1
    · by_cases hkj : j = k
      · subst hkj
        by_cases hj : j < ρ.length
        · rw [List.getElem?_set_self hj] at h2
          cases h2
        · rw [List.getElem?_eq_none (by simpa using hj)] at h2
          cases h2
      · rw [List.getElem?_set_ne hij] at h1 h3
        rw [List.getElem?_set_ne hkj] at h2 h4
        exact E.dis i k ds es p hik h1 h2 h3 h4
theorem wipe1 (σ : L2.St) (j : Nat) : wipe σ [j] = σ.set j none := rfl
theorem wipe_back (σ : L2.St) (j : Nat) (o : Option V) : wipe ((wipe σ [j]).set j o) [j] = wipe σ [j] := by
  show ((σ.set j none).set j o).set j none = σ.set j none
  rw [List.set_set, List.set_set]
theorem drop_cons_of {α : Type} : ∀ {l : List α} {i : Nat} {x : α}, l[i]? = some x → l.drop i = x :: l.drop (i + 1)
  | [], i, x, h => by simp at h
  | a :: l, 0, x, h => by simp at h; subst h; rfl
  | a :: l, i + 1, x, h => by
    show l.drop i = x :: l.drop (i + 1)
    exact drop_cons_of (by simpa using h)
theorem lc_ok {K : PySem.W.Frag} {B : Bs} {wi : TI} {src : SA} {j : Nat} {tt : TT} {te : TE} {tst : STe} {el : SE} (hi : IBOk K B wi src) (ht : TOk K B tt tst) (he : EOk K B te el) : LOk K B (tLc wi (gName j) tt te [j]) (lLc src j tst el) := fun R F H σ ρ out E q Q k => by
  cases e0 : src ρ with
  | none => simp [lLc, e0] at q
  | some ds =>
    simp only [lLc, e0, Option.bind_some] at q
    split at q
    · rename_i hlen
      refine hi _ F H σ ρ ds E e0 _ fun J H1 G1 g1 w D hD => ?_
      have E1 : EnvOk K B R G1 H1 σ ρ := E.grow g1
      have hG1 : G1 D = none := g1.sub.free hD
      -- W: the turn, the measure, what the new list holds
      refine ⟨fun i m H' => m = ds.length - i ∧ i ≤ ds.length ∧ ∃ (G' : Hp) (acc : List V) (es rest : List PyData), Grow H1 G1 H' G' ∧ G' D = none ∧ H' D = some (.lst acc) ∧ DqAll K G' acc es ∧ acc.length ≤ i ∧ lcF j tst el ρ (ds.drop i) = some rest ∧ out = es ++ rest,
        ⟨ds.length, by simp, Nat.zero_le _, G1, [], [], out, (Grow.refl g1.sub).beside hD, hG1, upd_same, .nil, Nat.le_refl _, q, rfl⟩, ?_⟩
      rintro i m H' ⟨rfl, hile, G', acc, es, rest, g', hD', hacc, hA, hal, hr, hout⟩
      have al : Same G1 G' ∧ Same G' H' ∧ Same H1 H' := ⟨g'.f, g'.sub, g'.h⟩
      by_cases hlt : i < ds.length
      · refine .inr ⟨w.go i G' H' al hlt, fun H2 => ∃ m', m' < ds.length - i ∧ (m' = ds.length - (i + 1) ∧ i + 1 ≤ ds.length ∧ ∃ (G' : Hp) (acc : List V) (es rest : List PyData), Grow H1 G1 H2 G' ∧ G' D = none ∧ H2 D = some (.lst acc) ∧ DqAll K G' acc es ∧ acc.length ≤ i + 1 ∧ lcF j tst el ρ (ds.drop (i + 1)) = some rest ∧ out = es ++ rest),
          fun H2 h => h, fun x H2 y => ?_⟩
        have hd : ds[i]? = some ds[i] := List.getElem?_eq_getElem hlt
        obtain ⟨G2, g2, r2⟩ := w.yld i G' H' x H2 _ al hd y
        rw [drop_cons_of hd] at hr
        have E2 : EnvOk K B R G2 H2 ((wipe σ [j]).set j (some x)) (ρ.set j (.val ds[i])) := by
          have z := (((E1.grow g').grow g2).setN j none).setV j r2
          have e : (ρ.set j .no).set j (.val ds[i]) = ρ.set j (.val ds[i]) := List.set_set ..
          rw [e] at z
          exact z
        have nD : ∀ {H3 G3 : Hp}, Grow H2 G2 H3 G3 → G3 D = none ∧ H3 D = some (.lst acc) := fun g3 => by
          have z : Grow H' G' _ _ := g2.trans g3
          exact ⟨z.no D hD' (by rw [hacc]; intro z; cases z), z.h _ _ hacc⟩
        refine ⟨wipe_back σ j (some x), ?_⟩
        cases et : tst (ρ.set j (.val ds[i])) with
        | none => simp [lcF, et] at hr
        | some b =>
          refine ht _ G2 H2 _ _ b E2 et _ fun H3 G3 g3 => ?_
          cases b with
          | false =>
            have hr' : lcF j tst el ρ (ds.drop (i + 1)) = some rest := by simpa [lcF, et] using hr
            show ∃ m', _
            exact ⟨_, by omega, rfl, hlt, G3, acc, es, rest, (g'.trans g2).trans g3, (nD g3).1, (nD g3).2, dpa_mono (g2.f.trans g3.f) es hA, by omega, hr', hout⟩
          | true =>
            show te _ H3 _
            cases ee : el (ρ.set j (.val ds[i])) with
            | none => simp [lcF, et, ee] at hr
            | some e =>
              by_cases hde : dataD e = true
              · cases hrr : lcF j tst el ρ (ds.drop (i + 1)) with
                | none => simp [lcF, et, ee, hde, hrr] at hr
                | some rest' =>
                  have hr' : rest = e :: rest' := by simpa [lcF, et, ee, hde, hrr] using hr.symm
                  refine he _ G3 H3 _ _ e (E2.grow g3) ee _ fun y H4 G4 g4 r4 => ?_
                  have n4 := nD (g3.trans g4)
                  have gg := ((g'.trans g2).trans g3).trans g4
                  refine ⟨acc, n4.2, Nat.lt_of_lt_of_le (show acc.length < LIM + 1 by omega) (by decide), ds.length - (i + 1), by omega, rfl, hlt, G4, acc ++ [y], es ++ [e], rest', ⟨?_, gg.f, ?_, gg.no⟩, n4.1, upd_same, ?_, by rw [List.length_append]; simp; omega, rfl, by rw [hout, hr']; simp⟩
                  · intro b o z
                    rw [upd_ne (ne_of_none z hD)]
                    exact gg.h b o z
                  · intro b o z
                    rw [upd_ne (ne_of_none z n4.1)]
                    exact gg.sub b o z
                  · exact (dpa_mono ((g2.f.trans g3.f).trans g4.f) es hA).append (.cons (r4.dp (by rintro l rfl; cases hde)) .nil)
              · simp [lcF, et, ee, hde] at hr
      · have e : i = ds.length := by omega
        subst e
        rw [List.drop_length] at hr
        cases hr
        rw [List.append_nil] at hout
        subst hout
        exact .inl ⟨w.stop G' H' al, k D acc H' G' (g1.trans g') (g1.h.free hD) hD' hacc hA⟩
    · cases q
end RT
namespace RT
open PySem PySem.Spec PyProof.Rows L2
/-! ### statements -/
/-- where a function began: what it may change, the heap, the data -/
structure St0 where
  m : Hp
  h : Hp
  g : Hp
structure GrowM (Z : St0) (H F : Hp) : Prop where
  h : ∀ a o, Z.m a = none → Z.h a = some o → H a = some o
  al : ∀ a, Z.h a ≠ none → H a ≠ none
  f : Same Z.g F
  sub : Same F H
  no : ∀ a, Z.g a = none → Z.h a ≠ none → F a = none
theorem GrowM.grow {Z : St0} {H F H' G : Hp} (a : GrowM Z H F) (g : Grow H F H' G) : GrowM Z H' G where
  h := fun x o h1 h2 => g.h x o (a.h x o h1 h2)
  al := fun x h1 h2 => a.al x h1 (g.h.free h2)
  f := a.f.trans g.f
  sub := g.sub
  no := fun x h1 h2 => g.no x (a.no x h1 h2) (a.al x h2)
structure StOk (K : PySem.W.Frag) (B : Bs) (Z : St0) (R : Rg) (F H : Hp) (σ : L2.St) (ρ : Rho) : Prop where
  env : EnvOk K B R F H σ ρ
  gr : GrowM Z H F
  fr : ∀ (i : Nat) (ds : List PyData) (p : Addr), ρ[i]? = some (.own ds) → σ[i]? = some (some (.ref p)) → Z.h p = none
  fo : ∀ i a, R i a ≠ none → Z.m a ≠ none ∨ Z.h a = none
abbrev XW := Str → L2.St → Hp → Prop
/-- what is wanted of an outcome -/
def Goes (K : PySem.W.Frag) (B : Bs) (Z : St0) (F : Hp) (D : Ends) (W : XW) : Out → Prop
  | .no => False
  | .nx ρ => ∀ σ H R F', StOk K B Z R F' H σ ρ → Same F F' → D.nx σ H
  | .rt d ρ => ∀ v σ H R F', StOk K B Z R F' H σ ρ → Same F F' → Rp K F' v d → D.rt v H
  | .ex c ρ => ∀ σ H R F', StOk K B Z R F' H σ ρ → Same F F' → W c σ H
  | .ro i ρ => ∀ v σ H R F', StOk K B Z R F' H σ ρ → σ[i]? = some (some v) → Same F F' → D.rt v H
def SSOk (K : PySem.W.Frag) (B : Bs) (W : XW) (t : TS) (f : SS) : Prop := ∀ (Z : St0) (R : Rg) (F H : Hp) (σ : L2.St) (ρ : Rho) (D : Ends), StOk K B Z R F H σ ρ → Goes K B Z F D W (f ρ) → t D σ H
structure SemS (X : Cx) (K : PySem.W.Frag) (B : Bs) (W : XW) (st : Stmt) (t : TS) (f : SS) : Prop where
  ps : PS X st t
  ok : SSOk K B W t f
structure SemSs (X : Cx) (K : PySem.W.Frag) (B : Bs) (W : XW) (st : List Stmt) (t : TS) (f : SS) : Prop where
  ps : PSs X st t
  ok : SSOk K B W t f
def sSeq (f g : SS) : SS := fun ρ => match f ρ with
  | .no => .no
  | .nx r => g r
  | .rt d r => .rt d r
  | .ex c r => .ex c r
  | .ro i r => .ro i r
def sNext : SS := fun ρ => .nx ρ
def sSet (i : Nat) (f : SE) : SS := fun ρ => match f ρ with
  | some d => .nx (ρ.set i (.val d))
  | none => .no
def sSetL (i : Nat) (f : SA) : SS := fun ρ => match f ρ with
  | some ds => .nx (ρ.set i (.own ds))
  | none => .no
def sDrop (f : SE) : SS := fun ρ => match f ρ with
  | some _ => .nx ρ
  | none => .no
def sIf (t : STe) (f g : SS) : SS := fun ρ => match t ρ with
  | some true => f ρ
  | some false => g ρ
  | none => .no
def frz1 : Sl → Sl
  | .own ds => .val (.list ds)
  | s => s
def sRet (f : SE) : SS := fun ρ => match f (ρ.map frz1) with
  | some d => .rt d (ρ.map frz1)
  | none => .no
def sRetN : SS := fun ρ => .rt .none ρ
def sApp (i : Nat) (f : SE) : SS := fun ρ => match ρ[i]?, f ρ with
  | some (.own ds), some d => if dataD d = true ∧ ds.length ≤ LIM then .nx (ρ.set i (.own (ds ++ [d]))) else .no
  | _, _ => .no
def sPut (i : Nat) (ix f : SE) : SS := fun ρ => match ρ[i]?, f ρ, ix ρ with
  | some (.own ds), some d, some (.int k) => match ixN ds.length k with
    | some j => if dataD d = true then .nx (ρ.set i (.own (ds.set j d))) else .no
    | none => .no
  | _, _, _ => .no
def forF (tg : PyData → Rho → Option Rho) (body : SS) : List PyData → Rho → Out
  | [], ρ => .nx ρ
  | d :: ds, ρ => match tg d ρ with
    | none => .no
    | some r => match body r with
      | .no => .no
      | .nx r2 => forF tg body ds r2
      | .rt e r2 => .rt e r2
      | .ex c r2 => .ex c r2
      | .ro i r2 => .ro i r2
def sFor (src : SA) (tg : PyData → Rho → Option Rho) (body : SS) : SS := fun ρ => match src ρ with
  | some ds => forF tg body ds ρ
  | none => .no
def tg1 (j : Nat) : PyData → Rho → Option Rho := fun d ρ => some (ρ.set j (.val d))
def tg2 (i j : Nat) : PyData → Rho → Option Rho := fun d ρ => match d with
  | .tuple [a, b] => some ((ρ.set i (.val a)).set j (.val b))
  | _ => none

section
variable {K : PySem.W.Frag} {B : Bs} {Z : St0} {R : Rg} {F F' H : Hp} {W : XW} {σ : L2.St} {ρ : Rho} {D : Ends}
theorem Goes.mono {o : Out} (h : Goes K B Z F D W o) (e : Same F F') : Goes K B Z F' D W o := by
  cases o with
  | no => exact h
  | nx r => exact fun σ H R F2 s e2 => h σ H R F2 s (e.trans e2)
  | rt d r => exact fun v σ H R F2 s e2 r => h v σ H R F2 s (e.trans e2) r
  | ex c r => exact fun σ H R F2 s e2 => h σ H R F2 s (e.trans e2)
  | ro i r => exact fun v σ H R F2 s e1 e2 => h v σ H R F2 s e1 (e.trans e2)
theorem StOk.grow {G H' : Hp} (s : StOk K B Z R F H σ ρ) (g : Grow H F H' G) : StOk K B Z R G H' σ ρ := ⟨s.env.grow g, s.gr.grow g, s.fr, s.fo⟩
theorem StOk.setV {v : V} {d : PyData} (s : StOk K B Z R F H σ ρ) (j : Nat) (r : Rp K F v d) : StOk K B Z R F H (σ.set j (some v)) (ρ.set j (.val d)) :=
  ⟨s.env.setV j r, s.gr, fun i ds p h1 h2 => by
    by_cases hij : j = i
    · subst hij
      by_cases hj : j < ρ.length
      · rw [List.getElem?_set_self hj] at h1
        cases h1
      · rw [List.getElem?_eq_none (by simpa using hj)] at h1
        cases h1
    · rw [List.getElem?_set_ne hij] at h1 h2
      exact s.fr i ds p h1 h2, s.fo⟩
theorem next_ok : SSOk K B W tNext sNext := fun Z R F H σ ρ D s g => g σ H R F s (Same.refl F)
theorem seq_ok {t u : TS} {f g : SS} (k1 : SSOk K B W t f) (k2 : SSOk K B W u g) : SSOk K B W (tSeq t u) (sSeq f g) := fun Z R F H σ ρ D s hg => by
  refine k1 Z R F H σ ρ _ s ?_
  unfold sSeq at hg
  cases e : f ρ with
  | no => rw [e] at hg; exact hg
  | nx r =>
    rw [e] at hg
    exact fun σ' H' R' F' s' e' => k2 Z R' F' H' σ' r D s' (Goes.mono (o := g r) hg e')
  | rt d r => rw [e] at hg; exact hg
  | ex c r => rw [e] at hg; exact hg
  | ro i r => rw [e] at hg; exact hg
theorem set_ok {te : TE} {f : SE} (i : Nat) (k : EOk K B te f) : SSOk K B W (tAsg te (gName i)) (sSet i f) := fun Z R F H σ ρ D s hg => by
  unfold sSet at hg
  cases e : f ρ with
  | none => rw [e] at hg; exact hg.elim
  | some d =>
    rw [e] at hg
    exact k _ F H σ ρ d s.env e _ fun v H' G g r => hg _ H' R G ((s.grow g).setV i r) g.f
theorem StOk.setL {p : Addr} {vs : List V} {ds : List PyData} {H' G : Hp} (s : StOk K B Z R F H σ ρ) (g : Grow H F H' G) (j : Nat) (h1 : H p = none) (h2 : G p = none) (h3 : H' p = some (.lst vs)) (h4 : DqAll K G vs ds) :
    StOk K B Z R G H' (σ.set j (some (.ref p))) (ρ.set j (.own ds)) := by
  have s' := s.grow g
  have old : ∀ (i : Nat) (es : List PyData), ρ[i]? = some (.own es) → σ[i]? = some (some (.ref p)) → False := fun i es q1 q2 => by
    obtain ⟨p', vs', e1, e2, _⟩ := s.env.own i es q1
    rw [q2] at e1; cases e1
    rw [h1] at e2; cases e2
  refine ⟨⟨s'.env.bs, s'.env.bh, s'.env.bF, s'.env.bo, s'.env.ex, s'.env.rh, s'.env.rF, s'.env.rB, s'.env.rr, by simp [s'.env.len], fun i d h => ?_, fun i es h => ?_, fun i k es fs q hik q1 q2 q3 q4 => ?_, fun i o h => ?_, fun a0 q o a h h2 => ?_⟩, s'.gr, fun i es q q1 q2 => ?_, s.fo⟩
  · by_cases hij : j = i
    · subst hij
      by_cases hj : j < ρ.length
      · rw [List.getElem?_set_self hj] at h
        cases h
      · rw [List.getElem?_eq_none (by simpa using hj)] at h
        cases h
    · rw [List.getElem?_set_ne hij] at h ⊢
      exact s'.env.val i d h
  · by_cases hij : j = i
    · subst hij
      by_cases hj : j < ρ.length
      · rw [List.getElem?_set_self hj] at h
        cases h
        exact ⟨p, vs, by rw [List.getElem?_set_self (by rw [← s.env.len]; exact hj)], h3, h4, h2, fun i => (s.env.rh i).free h1, s.env.bh.free h1⟩
      · rw [List.getElem?_eq_none (by simpa using hj)] at h
        cases h
    · rw [List.getElem?_set_ne hij] at h ⊢
      exact s'.env.own i es h
  · by_cases hij : j = i
    · subst hij
      have hjl : j < ρ.length := by
        have := (List.getElem?_eq_some_iff.mp q1).1
        simpa using this
      rw [List.getElem?_set_self (by rw [← s.env.len]; exact hjl)] at q3
      cases q3
      rw [List.getElem?_set_ne hik] at q2 q4
      exact old k fs q2 q4
    · by_cases hkj : j = k
      · subst hkj
        have hjl : j < ρ.length := by
          have := (List.getElem?_eq_some_iff.mp q2).1
          simpa using this
        rw [List.getElem?_set_self (by rw [← s.env.len]; exact hjl)] at q4
        cases q4
        rw [List.getElem?_set_ne hij] at q1 q3
        exact old i es q1 q3
      · rw [List.getElem?_set_ne hij] at q1 q3
        rw [List.getElem?_set_ne hkj] at q2 q4
        exact s.env.dis i k es fs q hik q1 q2 q3 q4
  · by_cases hij : j = i
    · subst hij
      by_cases hj : j < ρ.length
      · rw [List.getElem?_set_self hj] at h
        cases h
      · rw [List.getElem?_eq_none (by simpa using hj)] at h
        cases h
    · rw [List.getElem?_set_ne hij] at h ⊢
      exact s'.env.obj i o h
  · by_cases hij : j = 0
    · subst hij
      by_cases hj : 0 < ρ.length
      · rw [List.getElem?_set_self hj] at h
        cases h
      · rw [List.getElem?_eq_none (by simpa using hj)] at h
        cases h
    · rw [List.getElem?_set_ne hij] at h h2
      exact s.env.oa a0 q o a h h2
  · by_cases hij : j = i
    · subst hij
      have hjl : j < ρ.length := by
        have := (List.getElem?_eq_some_iff.mp q1).1
        simpa using this
      rw [List.getElem?_set_self (by rw [← s.env.len]; exact hjl)] at q2
      cases q2
      cases z : Z.h p with
      | none => rfl
      | some u => exact absurd h1 (s.gr.al p (by rw [z]; intro q; cases q))
    · rw [List.getElem?_set_ne hij] at q1 q2
      exact s.fr i es q q1 q2
theorem setL_ok {te : TE} {f : SA} (i : Nat) (k : LOk K B te f) : SSOk K B W (tAsg te (gName i)) (sSetL i f) := fun Z R F H σ ρ D s hg => by
  unfold sSetL at hg
  cases e : f ρ with
  | none => rw [e] at hg; exact hg.elim
  | some ds =>
    rw [e] at hg
    exact k _ F H σ ρ ds s.env e _ fun p vs H' G g h1 h2 h3 h4 => hg _ H' R G (s.setL g i h1 h2 h3 h4) g.f
theorem drop_ok {te : TE} {f : SE} (k : EOk K B te f) : SSOk K B W (tDrop te) (sDrop f) := fun Z R F H σ ρ D s hg => by
  unfold sDrop at hg
  cases e : f ρ with
  | none => rw [e] at hg; exact hg.elim
  | some d =>
    rw [e] at hg
    exact k _ F H σ ρ d s.env e _ fun v H' G g r => hg _ H' R G (s.grow g) g.f
theorem ifS_ok {tc : TT} {t u : TS} {c : STe} {f g : SS} (k0 : TOk K B tc c) (k1 : SSOk K B W t f) (k2 : SSOk K B W u g) : SSOk K B W (tIfS tc t u) (sIf c f g) := fun Z R F H σ ρ D s hg => by
  unfold sIf at hg
  cases e : c ρ with
  | none => rw [e] at hg; exact hg.elim
  | some b =>
    rw [e] at hg
    refine k0 _ F H σ ρ b s.env e _ fun H' G g => ?_
    cases b with
    | true =>
      show t D σ H'
      exact k1 Z R G H' σ ρ D (s.grow g) (Goes.mono hg g.f)
    | false =>
      show u D σ H'
      exact k2 Z R G H' σ ρ D (s.grow g) (Goes.mono hg g.f)
/-- own lists become data -/
theorem StOk.frz (s : StOk K B Z R F H σ ρ) : ∃ F', Same F F' ∧ StOk K B Z R F' H σ (ρ.map frz1) := by
  classical
  let own : Addr → Prop := fun a => ∃ (i : Nat) (ds : List PyData), ρ[i]? = some (.own ds) ∧ σ[i]? = some (some (.ref a))
  have oF : ∀ a, own a → F a = none ∧ (∃ u, H a = some u) ∧ Z.h a = none ∧ (∀ i, R i a = none) ∧ B.h a = none := fun a ⟨i, ds, h1, h2⟩ => by
    obtain ⟨p, vs, e1, e2, e3, e4, e5, e6⟩ := s.env.own i ds h1
    rw [h2] at e1; cases e1
    exact ⟨e4, ⟨_, e2⟩, s.fr i ds a h1 h2, e5, e6⟩
  have sm : Same F (fun a => if own a then H a else F a) := fun a o h => by
    by_cases ho : own a
    · rw [(oF a ho).1] at h; cases h
    · show (if own a then H a else F a) = some o
      rw [if_neg ho]; exact h
  have sb : Same (fun a => if own a then H a else F a) H := fun a o h => by
    have h' : (if own a then H a else F a) = some o := h
    by_cases ho : own a
    · rw [if_pos ho] at h'; exact h'
    · rw [if_neg ho] at h'; exact s.env.ex a o h'
  have val2 : ∀ (i : Nat) (x : Sl), (ρ.map frz1)[i]? = some x → ∃ y, ρ[i]? = some y ∧ frz1 y = x := fun i x h => by
    rw [List.getElem?_map] at h
    cases e : ρ[i]? with
    | none => rw [e] at h; cases h
    | some y => rw [e] at h; exact ⟨y, rfl, Option.some.inj h⟩
  have noown : ∀ (i : Nat) (ds : List PyData), (ρ.map frz1)[i]? = some (.own ds) → False := fun i ds h => by
    obtain ⟨y, _, e⟩ := val2 i _ h
    cases y <;> cases e
  refine ⟨_, sm, ⟨s.env.bs.trans sm, s.env.bh, fun a ha => ?_, s.env.bo, sb, s.env.rh, fun i a ha => ?_, s.env.rB, s.env.rr, by simp [s.env.len], fun i d h => ?_, fun i ds h => (noown i ds h).elim, fun i j ds es p _ h _ _ _ => noown i ds h, fun i o h => ?_, fun a0 q o a h h2 => ?_⟩, ⟨s.gr.h, s.gr.al, s.gr.f.trans sm, sb, fun a h1 h2 => ?_⟩, fun i ds p h _ => (noown i ds h).elim, s.fo⟩
  · show (if own a then H a else F a) = none
    by_cases ho : own a
    · exact absurd (oF a ho).2.2.2.2 ha
    · rw [if_neg ho]; exact s.env.bF a ha
  · show (if own a then H a else F a) = none
    by_cases ho : own a
    · exact absurd ((oF a ho).2.2.2.1 i) ha
    · rw [if_neg ho]; exact s.env.rF i a ha
  · obtain ⟨y, hy, e⟩ := val2 i _ h
    cases y with
    | no => cases e
    | val d' =>
      cases e
      obtain ⟨v, e1, e2⟩ := s.env.val i d hy
      exact ⟨v, e1, e2.mono sm⟩
    | own ds =>
      cases e
      obtain ⟨p, vs, e1, e2, e3, e4, _⟩ := s.env.own i ds hy
      refine ⟨.ref p, e1, .inl (.lst ?_ (dpa_mono sm ds e3))⟩
      show (if own p then H p else F p) = some (.lst vs)
      rw [if_pos ⟨i, ds, hy, e1⟩]
      exact e2
    | obj o => cases e
  · obtain ⟨y, hy, e⟩ := val2 i _ h
    cases y with
    | no => cases e
    | val d' => cases e
    | own ds => cases e
    | obj o' =>
      cases e
      obtain ⟨a, e1, e2⟩ := s.env.obj i o hy
      exact ⟨a, e1, e2.mono sm (Same.refl (R i))⟩
  · obtain ⟨y, hy, e⟩ := val2 0 _ h
    cases y with
    | no => cases e
    | val d' => cases e
    | own ds => cases e
    | obj o' =>
      cases e
      exact s.env.oa a0 q o a hy h2
  · show (if own a then H a else F a) = none
    by_cases ho : own a
    · exact absurd (oF a ho).2.2.1 h2
    · rw [if_neg ho]
      exact s.gr.no a h1 h2
theorem ret_ok {te : TE} {f : SE} (k : EOk K B te f) : SSOk K B W (tRet te) (sRet f) := fun Z R F H σ ρ D s hg => by
  unfold sRet at hg
  obtain ⟨F', e1, s'⟩ := s.frz
  cases e : f (ρ.map frz1) with
  | none => rw [e] at hg; exact hg.elim
  | some d =>
    rw [e] at hg
    exact k _ F' H σ _ d s'.env e _ fun v H' G g r => hg v σ H' R G (s'.grow g) (e1.trans g.f) r
theorem retN_ok : SSOk K B W tRetN sRetN := fun Z R F H σ ρ D s hg => hg .non σ H R F s (Same.refl F) rp_non
/-- an own list changes -/
theorem StOk.upd {p : Addr} {vs : List V} {ds es : List PyData} (s : StOk K B Z R F H σ ρ) (j : Nat) (h1 : ρ[j]? = some (.own ds)) (h2 : σ[j]? = some (some (.ref p))) (h4 : DqAll K F vs es) :
    StOk K B Z R F (L2.upd H p (.lst vs)) σ (ρ.set j (.own es)) := by
  obtain ⟨p', vs', e1, e2, e3, e4, e5, e6⟩ := s.env.own j ds h1
  rw [h2] at e1; cases e1
  have hp := s.fr j ds p h1 h2
  have sub : Same F (L2.upd H p (.lst vs)) := fun a o h => by
    rw [upd_ne (ne_of_none h e4)]; exact s.env.ex a o h
  refine ⟨⟨s.env.bs, fun a o h => by rw [upd_ne (ne_of_none h e6)]; exact s.env.bh a o h, s.env.bF, s.env.bo, sub, fun i a o h => by rw [upd_ne (ne_of_none h (e5 i))]; exact s.env.rh i a o h, s.env.rF, s.env.rB, s.env.rr, by simp [s.env.len], fun i d h => ?_, fun i fs h => ?_, fun i k fs gs q hik q1 q2 q3 q4 => ?_, fun i o h => ?_, fun a0 q o a h hs => ?_⟩,
    ⟨fun a o h0 h => by rw [upd_ne (ne_of_none h hp)]; exact s.gr.h a o h0 h, fun a h0 => by
      by_cases ha : a = p
      · rw [ha, upd_same]; intro z; cases z
      · rw [upd_ne ha]; exact s.gr.al a h0, s.gr.f, sub, s.gr.no⟩, fun i fs q q1 q2 => ?_, s.fo⟩
  · by_cases hij : j = i
    · subst hij
      rw [List.getElem?_set_self (List.getElem?_eq_some_iff.mp h1).1] at h
      cases h
    · rw [List.getElem?_set_ne hij] at h
      exact s.env.val i d h
  · by_cases hij : j = i
    · subst hij
      rw [List.getElem?_set_self (List.getElem?_eq_some_iff.mp h1).1] at h
      cases h
      exact ⟨p, vs, h2, upd_same, h4, e4, e5, e6⟩
    · rw [List.getElem?_set_ne hij] at h
      obtain ⟨p2, vs2, g1, g2, g3, g4, g5⟩ := s.env.own i fs h
      refine ⟨p2, vs2, g1, ?_, g3, g4, g5⟩
      rw [upd_ne (fun z => s.env.dis i j fs ds p2 (Ne.symm hij) h h1 g1 (by rw [z]; exact h2))]
      exact g2
  · by_cases hij : j = i
    · subst hij
      rw [List.getElem?_set_ne hik] at q2
      exact s.env.dis j k ds gs q hik h1 q2 q3 q4
    · by_cases hkj : j = k
      · subst hkj
        rw [List.getElem?_set_ne hij] at q1
        exact s.env.dis i j fs ds q hik q1 h1 q3 q4
      · rw [List.getElem?_set_ne hij] at q1
        rw [List.getElem?_set_ne hkj] at q2
        exact s.env.dis i k fs gs q hik q1 q2 q3 q4
  · by_cases hij : j = i
    · subst hij
      rw [List.getElem?_set_self (List.getElem?_eq_some_iff.mp h1).1] at h
      cases h
    · rw [List.getElem?_set_ne hij] at h
      exact s.env.obj i o h
  · by_cases hij : j = 0
    · subst hij
      rw [List.getElem?_set_self (List.getElem?_eq_some_iff.mp h1).1] at h
      cases h
    · rw [List.getElem?_set_ne hij] at h
      exact s.env.oa a0 q o a h hs
  · by_cases hij : j = i
    · subst hij
      exact s.fr j ds q h1 q2
    · rw [List.getElem?_set_ne hij] at q1
      exact s.fr i fs q q1 q2
theorem app_okS {te : TE} {f : SE} (i : Nat) (k : EOk K B te f) : SSOk K B W (tDrop (tBM K "list" rAppend (tVar i) (tCons te tNil))) (sApp i f) := fun Z R F H σ ρ D s hg => by
  unfold sApp at hg
  split at hg
  · rename_i ds d h1 h2
    split at hg
    · rename_i hc
      obtain ⟨p, vs, e1, e2, e3, e4, _⟩ := s.env.own i ds h1
      refine ⟨.ref p, e1, .inl ⟨rfl, vs, .inl (.inl e2)⟩, ?_⟩
      refine k _ F H σ ρ d s.env h2 _ fun v H' G g r => ?_
      refine ⟨p, vs, v, rfl, rfl, g.h _ _ e2, Nat.lt_of_lt_of_le (show vs.length < LIM + 1 by rw [e3.len]; omega) (by decide), ?_⟩
      exact hg _ _ R G ((s.grow g).upd i h1 e1 ((dpa_mono g.f ds e3).append (.cons (r.dp (by rintro l rfl; cases hc.1)) .nil))) g.f
    · exact hg.elim
  · exact hg.elim
theorem put_okS {te tix : TE} {f ix : SE} (i : Nat) (k : EOk K B te f) (kx : EOk K B tix ix) : SSOk K B W (tAsg te (gSub (tVar i) tix rSetL)) (sPut i ix f) := fun Z R F H σ ρ D s hg => by
  unfold sPut at hg
  split at hg
  · rename_i ds d kk h1 h2 h3
    split at hg
    · rename_i j hj
      split at hg
      · rename_i hc
        obtain ⟨p, vs, e1, e2, e3, e4, _⟩ := s.env.own i ds h1
        refine k _ F H σ ρ d s.env h2 _ fun v H' G g r => ⟨.ref p, e1, ?_⟩
        refine kx _ G H' σ ρ _ (s.env.grow g) h3 _ fun u H2 G2 g2 r2 => ?_
        refine ⟨p, vs, kk, j, rfl, Bp.int (H := G2) (.inl r2), (g.trans g2).h _ _ e2, by rw [e3.len]; exact hj, ?_⟩
        exact hg _ _ R G2 (((s.grow g).grow g2).upd i h1 e1 ((dpa_mono (g.f.trans g2.f) ds e3).set ((r.mono g2.f).dp (by rintro l rfl; cases hc)) j)) (g.f.trans g2.f)
      · exact hg.elim
    · exact hg.elim
  · exact hg.elim
/-- a target -/
def TGOk (K : PySem.W.Frag) (g : TG) (tg : PyData → Rho → Option Rho) : Prop := ∀ (B : Bs) (Z : St0) (R : Rg) (F H : Hp) (σ : L2.St) (ρ ρ1 : Rho) (v : V) (d : PyData), StOk K B Z R F H σ ρ → Rp K F v d → tg d ρ = some ρ1 →
  ∀ Q : L2.St → Hp → Prop, (∀ σ1, StOk K B Z R F H σ1 ρ1 → Q σ1 H) → g v σ H Q
theorem tg1_ok (j : Nat) : TGOk K (gName j) (tg1 j) := fun B Z R F H σ ρ ρ1 v d s r q Q k => by
  cases q
  exact k _ (s.setV j r)
theorem tg2_ok (i j : Nat) : TGOk K (gTup K 2 (gCons (gName i) (gCons (gName j) gNil))) (tg2 i j) := fun B Z R F H σ ρ ρ1 v d s r q Q k => by
  unfold tg2 at q
  split at q
  · rename_i a b
    cases q
    have r2 := r.dp
    cases r2 with
    | @tup p vs _ hs ha =>
      cases ha with
      | @cons v1 _ _ _ h1 h2 =>
        cases h2 with
        | @cons v2 _ _ _ h2 h3 =>
          cases h3
          refine ⟨p, [v1, v2], rfl, same_t s.env.ex hs, rfl, v1, [v2], rfl, v2, [], rfl, rfl, ?_⟩
          exact k _ ((s.setV i (.inl h1)).setV j (.inl h2))
  · cases q
theorem for_okS {wi : TI} {g : TG} {tb : TS} {src : SA} {tg : PyData → Rho → Option Rho} {body : SS} (hi : IOk K B wi src) (ht : TGOk K g tg) (kb : SSOk K B W tb body) : SSOk K B W (tFor wi g tb) (sFor src tg body) := fun Z R F H σ ρ D s hg => by
  unfold sFor at hg
  cases e0 : src ρ with
  | none => rw [e0] at hg; exact hg.elim
  | some ds =>
    rw [e0] at hg
    refine hi _ F H σ ρ ds s.env e0 _ fun J H1 G1 g1 w => ?_
    have s1 := s.grow g1
    refine ⟨fun i m σ' H' => m = ds.length - i ∧ i ≤ ds.length ∧ ∃ (R' : Rg) (F' : Hp) (ρ' : Rho), StOk K B Z R' F' H' σ' ρ' ∧ Same G1 F' ∧ Goes K B Z F' D W (forF tg body (ds.drop i) ρ'),
      ⟨ds.length, by simp, Nat.zero_le _, R, G1, ρ, s1, Same.refl G1, Goes.mono hg g1.f⟩, ?_⟩
    rintro i m σ' H' ⟨rfl, hile, R', F', ρ', s', e', hg'⟩
    have al : Same G1 F' ∧ Same F' H' := ⟨e', s'.env.ex⟩
    by_cases hlt : i < ds.length
    · have hd : ds[i]? = some ds[i] := List.getElem?_eq_getElem hlt
      rw [drop_cons_of hd] at hg'
      refine .inr ⟨w.go i F' H' al hlt, fun σ2 H2 => ∃ m', m' < ds.length - i ∧ (m' = ds.length - (i + 1) ∧ i + 1 ≤ ds.length ∧ ∃ (R' : Rg) (F' : Hp) (ρ' : Rho), StOk K B Z R' F' H2 σ2 ρ' ∧ Same G1 F' ∧ Goes K B Z F' D W (forF tg body (ds.drop (i + 1)) ρ')),
        fun σ2 H2 h => h, fun x H2 y => ?_⟩
      obtain ⟨F2, g2, r2⟩ := w.yld i F' H' x H2 _ al hd y
      unfold forF at hg'
      cases et : tg ds[i] ρ' with
      | none => rw [et] at hg'; exact hg'.elim
      | some r =>
        rw [et] at hg'
        refine ht B Z R' F2 H2 σ' ρ' r x _ (s'.grow g2) r2 et _ fun σ1 s3 => ?_
        refine kb Z R' F2 H2 σ1 r _ s3 ?_
        cases eb : body r with
        | no =>
          simp only [eb] at hg'
          exact hg'.elim
        | nx r2 =>
          simp only [eb] at hg'
          exact fun σ4 H4 R4 F4 s4 e4 => ⟨_, by omega, rfl, hlt, R4, F4, r2, s4, (e'.trans g2.f).trans e4, Goes.mono hg' (g2.f.trans e4)⟩
        | rt d r2 =>
          simp only [eb] at hg'
          exact Goes.mono (o := .rt d r2) hg' g2.f
        | ex c r2 =>
          simp only [eb] at hg'
          exact Goes.mono (o := .ex c r2) hg' g2.f
        | ro i r2 =>
          simp only [eb] at hg'
          exact Goes.mono (o := .ro i r2) hg' g2.f
    · have e : i = ds.length := by omega
      subst e
      rw [List.drop_length] at hg'
      exact .inl ⟨w.stop F' H' al, hg' σ' H' R' F' s' (Same.refl F')⟩
end
end RT
namespace RT
open PySem PySem.Spec PyProof.Rows L2
/-! ### the words of a derivation -/
section
variable {X : Cx} {K : PySem.W.Frag} {B : Bs} {W : XW} {e a b c d : Expr} {es : List Expr} {t t1 t2 t3 t4 : TE} {ta : TA} {f f1 f2 f3 f4 : SE} {sa : SA} {pos : Pos} {tt u : TT} {g h : STe}
theorem se_var (i : Nat) {x : Str} {pos : Pos} (hN : X.N[i]? = some x := by rfl) (hv : Vis X.env.scope x := by first | exact Or.inl rfl | exact Or.inr (Or.inl rfl) | exact Or.inr (Or.inr rfl)) (hd : (x == ("__debug__" : Str)) = false := by decide)
    (hcd : (x == ("__classdict__" : Str)) = false := by decide) : SemE X K B (.Name x pos) (tVar i) (eVar i) := ⟨pe_var hN hv hd hcd, var_ok i⟩
theorem sb_var (i : Nat) {x : Str} {pos : Pos} (hN : X.N[i]? = some x := by rfl) (hv : Vis X.env.scope x := by first | exact Or.inl rfl | exact Or.inr (Or.inl rfl) | exact Or.inr (Or.inr rfl)) (hd : (x == ("__debug__" : Str)) = false := by decide)
    (hcd : (x == ("__classdict__" : Str)) = false := by decide) : SemB X K B (.Name x pos) (tVar i) (eVarB i) := ⟨pe_var hN hv hd hcd, varB_ok i⟩
theorem se_int {i j} : SemE X K B (.Constant (.int i) j pos) (tC (.int i)) (eC (.int i)) := ⟨pe_int, c_ok fun _ => rp_int _⟩
theorem se_str {i j} : SemE X K B (.Constant (.str i) j pos) (tC (.str i)) (eC (.str i)) := ⟨pe_str, c_ok fun _ => rp_str _⟩
theorem se_bool {i j} : SemE X K B (.Constant (.bool i) j pos) (tC (.bl i)) (eC (.bool i)) := ⟨pe_bl, c_ok fun _ => rp_bool _⟩
theorem se_none {j} : SemE X K B (.Constant .none j pos) (tC .non) (eC .none) := ⟨pe_non, c_ok fun _ => rp_non⟩
theorem se_globI {x : Str} {i : Int} (hm : ∃ tk, X.mg x = some (.int i tk)) (hg : Gl X x := by rfl) (hd : (x == ("__debug__" : Str)) = false := by decide) : SemE X K B (.Name x pos) (tC (.int i)) (eC (.int i)) :=
  let ⟨tk, hm⟩ := hm; ⟨pe_glob hg hm ⟨tk, rfl⟩ hd, c_ok fun _ => rp_int _⟩
theorem se_globS {x : Str} {i : Str} (hm : ∃ tk, X.mg x = some (.str i tk)) (hg : Gl X x := by rfl) (hd : (x == ("__debug__" : Str)) = false := by decide) : SemE X K B (.Name x pos) (tC (.str i)) (eC (.str i)) :=
  let ⟨tk, hm⟩ := hm; ⟨pe_glob hg hm ⟨tk, rfl⟩ hd, c_ok fun _ => rp_str _⟩
/-- two-place -/
theorem se_op {op : Operator} {r : R2} {gg : PyData → PyData → Option PyData} (hs : OpS K r gg) (ho : OpR X (binaryOp op) r) (h1 : SemB X K B a t1 f1) (h2 : SemB X K B b t2 f2) : SemE X K B (.BinOp a op b pos) (tOp r t1 t2) (eOp gg f1 f2) := ⟨pe_op ho h1.pe h2.pe, op_ok hs h1.ok h2.ok⟩
theorem se_add (h1 : SemB X K B a t1 f1) (h2 : SemB X K B b t2 f2) : SemE X K B (.BinOp a .Add b pos) (tOp rAdd3 t1 t2) (eOp gAdd f1 f2) := se_op add3_s op_add3 h1 h2
theorem se_sub (h1 : SemB X K B a t1 f1) (h2 : SemB X K B b t2 f2) : SemE X K B (.BinOp a .Sub b pos) (tOp (rI0 fun i j => .int (i - j)) t1 t2) (eOp gMinus f1 f2) := se_op sub_s op_sub h1 h2
theorem se_mul (h1 : SemB X K B a t1 f1) (h2 : SemB X K B b t2 f2) : SemE X K B (.BinOp a .Mult b pos) (tOp rMul3 t1 t2) (eOp gMul f1 f2) := se_op mul3_s op_mul3 h1 h2
theorem se_fdiv (h1 : SemB X K B a t1 f1) (h2 : SemB X K B b t2 f2) : SemE X K B (.BinOp a .FloorDiv b pos) (tOp (rI CDiv fun i j => .int (i / j)) t1 t2) (eOp gFdiv f1 f2) := se_op fdiv_s op_fdiv h1 h2
theorem se_mod (h1 : SemB X K B a t1 f1) (h2 : SemB X K B b t2 f2) : SemE X K B (.BinOp a .Mod b pos) (tOp (rI (fun _ j => 0 < j) fun i j => .int (i % j)) t1 t2) (eOp gMod f1 f2) := se_op mod_s op_mod h1 h2
def gNeg : PyData → Option PyData
  | .int i => some (.int (-i))
  | _ => none
theorem se_neg (h1 : SemB X K B a t1 f1) : SemE X K B (.UnaryOp .USub a pos) (tUn (rU fun i => .int (-i)) t1) (eUn gNeg f1) := ⟨pe_un un_neg h1.pe, un_ok (fun G H x d1 d e b q Q k => by
  cases d1 with
  | int i =>
    cases q
    exact ⟨i, b.int, k _ H G (Grow.refl e) (rp_int _)⟩
  | _ => cases q) h1.ok⟩
/-- comparisons, as values and as tests -/
theorem se_cmp {op : CmpOp} {r : R2} {gg : PyData → PyData → Option PyData} (hs : OpS K r gg) (ho : OpR X (compareOp op) r) (h1 : SemB X K B a t1 f1) (h2 : SemB X K B b t2 f2) (hm : behindInMarks op b = false) : SemE X K B (.Compare a [op] [b] pos) (tOp r t1 t2) (eOp gg f1 f2) :=
  ⟨pe_cmpR ho h1.pe h2.pe hm, op_ok hs h1.ok h2.ok⟩
theorem st_cmp {op : CmpOp} {r : R2} {gg : PyData → PyData → Option PyData} (hs : OpS K r gg) (ho : OpR X (compareOp op) r) (h1 : SemB X K B a t1 f1) (h2 : SemB X K B b t2 f2) (hm : behindInMarks op b = false) : SemT X K B (.Compare a [op] [b] pos) (tTest (tOp r t1 t2)) (bF (eOp gg f1 f2)) :=
  ⟨pt_cmpR ho h1.pe h2.pe hm, tTest_ok (op_ok hs h1.ok h2.ok)⟩
theorem se_chain {op op' : CmpOp} {r r' : R2} {gg gg' : PyData → PyData → Option PyData} (hs : OpS K r gg) (ho : OpR X (compareOp op) r) (hs' : OpS K r' gg') (ho' : OpR X (compareOp op') r') (h1 : SemB X K B a t1 f1) (h2 : SemB X K B b t2 f2) (h3 : SemB X K B c t3 f3)
    (hm : lastMarks [op, op'] [b, c] = false := by with_unfolding_all rfl) : SemE X K B (.Compare a [op, op'] [b, c] pos) (tChain r r' t1 t2 t3) (eChainF gg gg' f1 f2 f3) := ⟨pe_chain ho ho' h1.pe h2.pe h3.pe hm, chain_ok hs hs' h1.ok h2.ok h3.ok⟩
theorem st_chain {op op' : CmpOp} {r r' : R2} {gg gg' : PyData → PyData → Option PyData} (hs : OpS K r gg) (ho : OpR X (compareOp op) r) (hs' : OpS K r' gg') (ho' : OpR X (compareOp op') r') (h1 : SemB X K B a t1 f1) (h2 : SemB X K B b t2 f2) (h3 : SemB X K B c t3 f3)
    (hm : lastMarks [op, op'] [b, c] = false := by with_unfolding_all rfl) : SemT X K B (.Compare a [op, op'] [b, c] pos) (tTest (tChain r r' t1 t2 t3)) (bF (eChainF gg gg' f1 f2 f3)) := ⟨pt_chain ho ho' h1.pe h2.pe h3.pe hm, tTest_ok (chain_ok hs hs' h1.ok h2.ok h3.ok)⟩
theorem se_chain3 {op op' op2 : CmpOp} {r r' r2 : R2} {gg gg' gg2 : PyData → PyData → Option PyData} (hs : OpS K r gg) (ho : OpR X (compareOp op) r) (hs' : OpS K r' gg') (ho' : OpR X (compareOp op') r') (hs2 : OpS K r2 gg2) (ho2 : OpR X (compareOp op2) r2)
    (h1 : SemB X K B a t1 f1) (h2 : SemB X K B b t2 f2) (h3 : SemB X K B c t3 f3) (h4 : SemB X K B d t4 f4) (hm : lastMarks [op, op', op2] [b, c, d] = false := by with_unfolding_all rfl) : SemE X K B (.Compare a [op, op', op2] [b, c, d] pos) (tChain3 r r' r2 t1 t2 t3 t4) (eChain3F gg gg' gg2 f1 f2 f3 f4) :=
  ⟨pe_chain3 ho ho' ho2 h1.pe h2.pe h3.pe h4.pe hm, chain3_ok hs hs' hs2 h1.ok h2.ok h3.ok h4.ok⟩
/-- tests -/
theorem st_val (h : SemE X K B e t f) (he : ∀ whole, isTrue e X.env whole = (do let v ← whole; standAt e.pos; holding [v] (truthy v)) := by intro _; rfl) : SemT X K B e (tB t) (bF f) := ⟨pt_val h.pe he, tB_ok h.ok⟩
theorem st_not (h : SemT X K B e tt g) : SemT X K B (.UnaryOp .Not e pos) (tNot tt) (tNotF g) := ⟨pt_not h.pt, tNot_ok h.ok⟩
theorem SemW.toT (h : SemW X K B e tt g) : SemT X K B e tt g := ⟨h.pw.pt, h.ok⟩
theorem sw_and1 (h1 : SemT X K B a tt g) : SemW X K B (.BoolOp .And [a] pos) tt g := ⟨pw_and1 h1.pt, h1.ok⟩
theorem sw_or1 (h1 : SemT X K B a tt g) : SemW X K B (.BoolOp .Or [a] pos) tt g := ⟨pw_or1 h1.pt, h1.ok⟩
theorem sw_and (h1 : SemT X K B a tt g) (h2 : SemW X K B (.BoolOp .And (b :: es) pos) u h) : SemW X K B (.BoolOp .And (a :: b :: es) pos) (tAnd tt u) (tAndF g h) := ⟨pw_and h1.pt h2.pw, tAnd_ok h1.ok h2.ok⟩
theorem sw_or (h1 : SemT X K B a tt g) (h2 : SemW X K B (.BoolOp .Or (b :: es) pos) u h) : SemW X K B (.BoolOp .Or (a :: b :: es) pos) (tOr tt u) (tOrF g h) := ⟨pw_or h1.pt h2.pw, tOr_ok h1.ok h2.ok⟩
theorem x_wt (h : SemW X K B e tt g) : SemT X K B e tt g := h.toT
theorem x_eb (h : SemE X K B e t f) : SemB X K B e t f := h.b
theorem x_le {sa : SA} (h : SemL X K B e t sa) : SemE X K B e t (eList sa) := h.toE
theorem x_ac (h1 : SemE X K B e t f) (h2 : SemA X K B es ta sa) (hs : starEach (e :: es) X.env = (false, eval e X.env) :: starEach es X.env := by rfl) : SemA X K B (e :: es) (tCons t ta) (eCons f sa) := h1.cons h2 hs
theorem x_abc (h1 : SemB X K B e t f) (h2 : SemAB X K B es ta sa) (hs : starEach (e :: es) X.env = (false, eval e X.env) :: starEach es X.env := by rfl) : SemAB X K B (e :: es) (tCons t ta) (eCons f sa) := h1.cons h2 hs
theorem se_one {op} (h : SemE X K B a t f) : SemE X K B (.BoolOp op [a] pos) t f := ⟨pe_one h.pe, h.ok⟩
theorem se_and (h1 : SemE X K B a t1 f1) (h2 : SemE X K B (.BoolOp .And (b :: es) pos) t2 f2) : SemE X K B (.BoolOp .And (a :: b :: es) pos) (tAndV t1 t2) (eAndF f1 f2) := ⟨pe_and h1.pe h2.pe, andV_ok h1.ok h2.ok⟩
theorem se_or (h1 : SemE X K B a t1 f1) (h2 : SemE X K B (.BoolOp .Or (b :: es) pos) t2 f2) : SemE X K B (.BoolOp .Or (a :: b :: es) pos) (tOrV t1 t2) (eOrF f1 f2) := ⟨pe_or h1.pe h2.pe, orV_ok h1.ok h2.ok⟩
theorem se_not (h1 : SemE X K B a t1 f1) : SemE X K B (.UnaryOp .Not a pos) (tNotV t1) (eNotF f1) := ⟨pe_not h1.pe, notV_ok h1.ok⟩
theorem se_if (h0 : SemT X K B c tt g) (h1 : SemE X K B a t1 f1) (h2 : SemE X K B b t2 f2) : SemE X K B (.IfExp c a b pos) (tIf tt t1 t2) (eIfF g f1 f2) := ⟨pe_ifExp h0.pt h1.pe h2.pe, if_ok h0.ok h1.ok h2.ok⟩
/-- items, slices, displays -/
theorem se_ix (h1 : SemB X K B a t1 f1) (h2 : SemB X K B b t2 f2) (hs : PlainIx b := by exact fun _ _ => rfl) (hK : X.K = K := by rfl) : SemE X K B (.Subscript a b pos) (tOp (rIx K) t1 t2) (eOp gIx f1 f2) := by
  subst hK
  exact ⟨pe_ix ix_seq h1.pe h2.pe hs, op_ok ix_s h1.ok h2.ok⟩
theorem sl_sl {lo hi : Option Expr} {tl th : TO} {oa ob : SO} {p2 : Pos} (h : SemB X K B a t f) (h1 : SemO X K B lo tl oa) (h2 : SemO X K B hi th ob) (hK : X.K = K := by rfl) : SemL X K B (.Subscript a (.Slice lo hi none p2) pos) (tSl (rSlL K) t tl th) (lSl f oa ob) := by
  subst hK
  exact ⟨pe_slice sl_list h.pe h1.po h2.po, slL_ok h.ok h1.ok h2.ok⟩
theorem se_slS {lo hi : Option Expr} {tl th : TO} {oa ob : SO} {p2 : Pos} (h : SemB X K B a t f) (h1 : SemO X K B lo tl oa) (h2 : SemO X K B hi th ob) : SemE X K B (.Subscript a (.Slice lo hi none p2) pos) (tSl rSlS t tl th) (eSlS f oa ob) := ⟨pe_slice sl_str h.pe h1.po h2.po, slS_ok h.ok h1.ok h2.ok⟩
theorem se_tup {x1} (h : SemA X K B es ta sa) : SemE X K B (.Tuple es x1 pos) (tTup ta) (eTupD sa) := ⟨pe_tup h.pa, tup_ok h.ok⟩
theorem sl_lst (h : SemA X K B es ta sa) : SemL X K B (.List es pos) (tLst ta) (eLstD sa) := ⟨pe_lst h.pa, lst_ok h.ok⟩
/-- built-ins by their names -/
theorem se_cb {id : String} {x : Str} {p : Pos} {r : List V → Hp → VK → Prop} {gg : List PyData → Option PyData} (hs : CallS K r gg) (hc : CallR X (.builtin id) r) (hm : X.mg x = none) (ha : SemAB X K B (e :: es) ta sa) (hg : Gl X x := by rfl) (hv : bootBuiltins x = some (.builtin id) := by decide +kernel)
    (hn : x ≠ "__name__" := by decide) (hdb : (x == ("__debug__" : Str)) = false := by decide) (he : starEach (e :: es) X.env = (false, eval e X.env) :: starEach es X.env := by rfl) (hpl : (backTo pos (starEach es X.env)).any (·.1) = false := by rfl) :
    SemE X K B (.Call (.Name x p) (e :: es) [] pos) (tCB r ta) (eCall gg sa) := ⟨pe_callB hc hg hm hv ha.pa hn hdb he hpl, cb_ok hs ha.ok⟩
theorem se_ct {T : String} {x : Str} {p : Pos} {r : List V → Hp → VK → Prop} {gg : List PyData → Option PyData} (hs : CallS K r gg) (hc : CallR X (.type T) r) (hm : X.mg x = none) (ha : SemAB X K B (e :: es) ta sa) (hg : Gl X x := by rfl) (hv : bootBuiltins x = some (.type T) := by decide +kernel)
    (hn : x ≠ "__name__" := by decide) (hdb : (x == ("__debug__" : Str)) = false := by decide) (he : starEach (e :: es) X.env = (false, eval e X.env) :: starEach es X.env := by rfl) (hpl : (backTo pos (starEach es X.env)).any (·.1) = false := by rfl) :
    SemE X K B (.Call (.Name x p) (e :: es) [] pos) (tCB r ta) (eCall gg sa) := ⟨pe_callTy hc hg hm hv ha.pa hn hdb he hpl, cb_ok hs ha.ok⟩
theorem sl_ct {T : String} {x : Str} {p : Pos} {r : List V → Hp → VK → Prop} {gg : List PyData → Option (List PyData)} (hs : CallL K r gg) (hc : CallR X (.type T) r) (hm : X.mg x = none) (ha : SemAB X K B (e :: es) ta sa) (hg : Gl X x := by rfl) (hv : bootBuiltins x = some (.type T) := by decide +kernel)
    (hn : x ≠ "__name__" := by decide) (hdb : (x == ("__debug__" : Str)) = false := by decide) (he : starEach (e :: es) X.env = (false, eval e X.env) :: starEach es X.env := by rfl) (hpl : (backTo pos (starEach es X.env)).any (·.1) = false := by rfl) :
    SemL X K B (.Call (.Name x p) (e :: es) [] pos) (tCB r ta) (eCallL gg sa) := ⟨pe_callTy hc hg hm hv ha.pa hn hdb he hpl, cbL_ok hs ha.ok⟩
theorem se_isi {p p2 : Pos} {x : Str} (T : TyN) (hm : X.mg "isinstance" = none) (hm2 : X.mg x = none) (h : SemB X K B a t f) (hv : bootBuiltins x = some (.type (tyn T)) := by decide +kernel) (hg : Gl X "isinstance" := by rfl) (hg2 : Gl X x := by rfl) (hn : x ≠ "__name__" := by decide) (hd : (x == ("__debug__" : Str)) = false := by decide)
    (hs1 : starEach (a :: [.Name x p2]) X.env = (false, eval a X.env) :: starEach [.Name x p2] X.env := by rfl) (hs2 : starEach [.Name x p2] X.env = (false, eval (.Name x p2) X.env) :: starEach [] X.env := by rfl) (hpl : (backTo pos (starEach [Expr.Name x p2] X.env)).any (·.1) = false := by rfl) (hK : X.K = K := by rfl) :
    SemE X K B (.Call (.Name "isinstance" p) [a, .Name x p2] [] pos) (tCB (rIsi K) (tCons t (tCons (tC (.ty (tyn T))) tNil))) (eIsi T f) := by
  subst hK
  exact ⟨pe_callB call_isi hg hm (by decide +kernel) (pa_cons h.pe (pa_cons (pe_bltn hg2 hm2 hv rfl hn hd) pa_nil hs2) hs1) (by decide) (by decide) hs1 hpl, isi_ok T h.ok⟩
/-- sep.join(texts) -/
def gJoin : PyData → PyData → Option PyData
  | .str z, .list ds => (strsD ds).bind fun ys => if (ys.map (·.length)).sum + ys.length * z.length ≤ LIM then some (.str (Txt.join z ys)) else none
  | _, _ => none
where strsD : List PyData → Option (List Str)
  | [] => some []
  | .str x :: ds => (strsD ds).map (x :: ·)
  | _ :: _ => none
theorem strsD_ok : ∀ {ds : List PyData} {ns : List Str}, gJoin.strsD ds = some ns → ds = ns.map PyData.str
  | [], ns, h => by cases h; rfl
  | .str i :: ds, ns, h => by
    cases e : gJoin.strsD ds with
    | none => simp [gJoin.strsD, e] at h
    | some ms =>
      simp [gJoin.strsD, e] at h
      subst h
      rw [strsD_ok e]; rfl
  | .none :: _, _, h => by cases h
  | .bool _ :: _, _, h => by cases h
  | .int _ :: _, _, h => by cases h
  | .list _ :: _, _, h => by cases h
  | .tuple _ :: _, _, h => by cases h
  | .dict _ :: _, _, h => by cases h
theorem strsD_map (ns : List Str) : gJoin.strsD (ns.map PyData.str) = some ns := by
  induction ns with
  | nil => rfl
  | cons n ns ih => simp [gJoin.strsD, ih]
abbrev rJoin (K : PySem.W.Frag) : V → List V → Hp → VK → Prop := fun x xs H Q => ∃ a p, ∃ ys : List Str, x = .str a ∧ xs = [.ref p] ∧ (SqL K H p (ys.map V.str) ∨ SqT K H p (ys.map V.str)) ∧
  (ys.map (·.length)).sum + ys.length * a.length ≤ 16777216 ∧ Q (.str (Txt.join a ys)) H
theorem join_ok (h1 : BOk K B t1 f1) (h2 : BOk K B t2 f2) : EOk K B (tM1 (rJoin K) t1 t2) (eOp gJoin f1 f2) := fun R F H σ ρ dd E q Q k => by
  cases e1 : f1 ρ with
  | none => simp [eOp, e1] at q
  | some x =>
    cases e2 : f2 ρ with
    | none => simp [eOp, e1, e2] at q
    | some y =>
      have q' : gJoin x y = some dd := by simpa [eOp, e1, e2] using q
      unfold gJoin at q'
      split at q'
      · rename_i z ds
        cases hn : gJoin.strsD ds with
        | none => simp [hn] at q'
        | some ys =>
          rw [hn, Option.bind_some] at q'
          split at q'
          · rename_i hz
            cases q'
            refine h1 _ F H σ ρ _ E e1 _ fun v H1 G1 g1 b1 => ⟨⟨z, b1.str⟩, ?_⟩
            refine h2 _ G1 H1 σ ρ _ (E.grow g1) e2 _ fun w H2 G2 g2 b2 => ?_
            obtain ⟨p, vs, rfl, hp, hA⟩ := b2.list g2.sub
            rw [strsD_ok hn] at hA
            have ev := strs_dpa ys hA
            subst ev
            exact ⟨z, p, ys, b1.str, rfl, .inl (.inl (.inl hp)), Nat.le_trans hz (by decide), k _ H2 G2 (g1.trans g2) (rp_str _)⟩
          · cases q'
      · cases q'
theorem se_join {apos : Pos} (h1 : SemB X K B a t1 f1) (h2 : SemB X K B b t2 f2) (hs : starEach [b] X.env = [(false, eval b X.env)] := by rfl) (hbase : attributeBase a "join" X.env (eval a X.env) = eval a X.env := by rfl) (hline : (apos.endLine == pos.line) = true := by rfl) (hK : X.K = K := by rfl) :
    SemE X K B (.Call (.Attribute a "join" apos) [b] [] pos) (tM1 (rJoin K) t1 t2) (eOp gJoin f1 f2) := by
  subst hK
  exact ⟨pe_join h1.pe h2.pe hs hbase hline, join_ok h1.ok h2.ok⟩
end
/-! ### what is walked, comprehensions -/
structure SemI (X : Cx) (K : PySem.W.Frag) (B : Bs) (tg : Expr) (iter : Expr) (wi : TI) (f : SA) : Prop where
  pi : PI X tg iter wi
  ok : IOk K B wi f
structure SemIB (X : Cx) (K : PySem.W.Frag) (B : Bs) (tg : Expr) (iter : Expr) (wi : TI) (f : SA) : Prop where
  pi : PI X tg iter wi
  ok : IBOk K B wi f
structure SemTs (X : Cx) (K : PySem.W.Frag) (B : Bs) (ifs : List Expr) (t : TT) (f : STe) : Prop where
  pts : PTs X ifs t
  ok : TOk K B t f
section
variable {X : Cx} {K : PySem.W.Frag} {B : Bs} {W : XW} {tg e a b : Expr} {t : TE} {f : SE} {ta : TA} {sa : SA} {pos p : Pos} {wi : TI}
theorem SemI.toB (h : SemI X K B tg e wi sa) : SemIB X K B tg e wi sa := ⟨h.pi, h.ok.b⟩
theorem si_list (h : SemE X K B e t f) (hK : X.K = K := by rfl) : SemI X K B tg e (iList K t) (iL f) := by
  subst hK
  exact ⟨pi_list h.pe, iList_ok h.ok⟩
theorem si_listB (h : SemB X K B e t f) (hK : X.K = K := by rfl) : SemIB X K B tg e (iList K t) (iL f) := by
  subst hK
  exact ⟨pi_list h.pe, iListB_ok h.ok⟩
theorem si_tup (h : SemE X K B e t f) (hK : X.K = K := by rfl) : SemI X K B tg e (iTup K t) (iT f) := by
  subst hK
  exact ⟨pi_tup h.pe, iTup_ok h.ok⟩
theorem si_str (h : SemE X K B e t f) : SemI X K B tg e (iStr t) (iS f) := ⟨pi_str h.pe, iStr_ok h.ok⟩
theorem si_range1 (hm : X.mg "range" = none) (ha : SemAB X K B [a] ta sa) (hg : Gl X "range" := by rfl) (hs : starEach [a] X.env = [(false, eval a X.env)] := by rfl) : SemI X K B tg (.Call (.Name "range" p) [a] [] pos) (iRng1 ta) (iR1 sa) := ⟨pi_range1 hg hm ha.pa hs, iRng1_ok ha.ok⟩
theorem si_range2 (hm : X.mg "range" = none) (ha : SemAB X K B [a, b] ta sa) (hg : Gl X "range" := by rfl) (hs : starEach [a, b] X.env = [(false, eval a X.env), (false, eval b X.env)] := by rfl) (hs2 : starEach [b] X.env = [(false, eval b X.env)] := by rfl) : SemI X K B tg (.Call (.Name "range" p) [a, b] [] pos) (iRng2 ta) (iR2 sa) :=
  ⟨pi_range2 hg hm ha.pa hs hs2, iRng2_ok ha.ok⟩
theorem si_enum {elts : List Expr} {kk : Nat} {tpos : Pos} (hm : X.mg "enumerate" = none) (ha : SemA X K B [e] ta sa) (hg : Gl X "enumerate" := by rfl) (hs : starEach [e] X.env = [(false, eval e X.env)] := by rfl) (hK : X.K = K := by rfl) : SemI X K B (.Tuple elts kk tpos) (.Call (.Name "enumerate" p) [e] [] pos) (iEnum K ta) (iE sa) := by
  subst hK
  exact ⟨pi_enum hg hm ha.pa hs, iEnum_ok ha.ok⟩
theorem x_ib (h : SemI X K B tg e wi sa) : SemIB X K B tg e wi sa := h.toB
theorem sts_nil : SemTs X K B [] tYes tYesF := ⟨pts_nil, yes_ok⟩
theorem sts_one {tt : TT} {g : STe} (h : SemT X K B e tt g) : SemTs X K B [e] tt g := ⟨pts_one h.pt, h.ok⟩
theorem sl_lc {elt iter : Expr} {x : Str} {xp : Pos} {ifs : List Expr} {scope : Scope} {j : Nat} {tt : TT} {te : TE} {tst : STe} {el : SE} (hc : X.calm = true) (hN : X.N.Nodup) (hj : X.N[j]? = some x) (hi : SemIB X K B (.Name x xp) iter wi sa) (ok : BlkOk X.N X.env.scope scope [(x, j)])
    (ht : ∀ (s : Shared) (H : Hp) (C : Addr) (cl : List (Str × Addr)) (fp : List Addr), SemTs (X.blk s H scope (compEnvC scope cl C X.env) fp) K B ifs tt tst)
    (he : ∀ (s : Shared) (H : Hp) (C : Addr) (cl : List (Str × Addr)) (fp : List Addr), SemE (X.blk s H scope (compEnvC scope cl C X.env) fp) K B elt te el)
    (hgn : ∀ (s : Shared) (H : Hp) (C : Addr) (cl : List (Str × Addr)) (fp : List Addr), PG (X.blk s H scope (compEnvC scope cl C X.env) fp) (.Name x xp) (gName j))
    (hs : ∀ x, foldedSetIterable iter X.env x = pure x := by intro _; rfl) : SemL X K B (.ListComp elt [⟨.Name x xp, iter, ifs, 0⟩] scope pos) (tLc wi (gName j) tt te [j]) (lLc sa j tst el) :=
  ⟨pe_lc (own := [(x, j)]) hc hN hi.pi ok hgn (fun s H C cl fp => (ht s H C cl fp).pts) (fun s H C cl fp => (he s H C cl fp).pe) hs, lc_ok hi.ok (ht X.s_0 (fun _ => none) 0 [] []).ok (he X.s_0 (fun _ => none) 0 [] []).ok⟩
end
/-! ### statements -/
section
variable {X : Cx} {K : PySem.W.Frag} {B : Bs} {W : XW} {e a b : Expr} {st : Stmt} {rest : List Stmt} {t u : TS} {f g : SS} {te tx : TE} {fe fx : SE} {pos : Pos}
theorem ss_nil : SemSs X K B W [] tNext sNext := ⟨pss_nil, next_ok⟩
theorem ss_cons (h1 : SemS X K B W st t f) (h2 : SemSs X K B W rest u g) : SemSs X K B W (st :: rest) (tSeq t u) (sSeq f g) := ⟨pss_cons h1.ps h2.ps, seq_ok h1.ok h2.ok⟩
theorem ss_one (h1 : SemS X K B W st t f) : SemSs X K B W [st] t f := ⟨pss_one h1.ps, h1.ok⟩
theorem s_ret (h : SemE X K B e te fe) : SemS X K B W (.Return (some e) pos) (tRet te) (sRet fe) := ⟨ps_ret h.pe, ret_ok h.ok⟩
theorem s_retN : SemS X K B W (.Return none pos) tRetN sRetN := ⟨ps_retN, retN_ok⟩
theorem s_set (i : Nat) {x : Str} {pos' : Pos} (hN : X.N.Nodup) (he : SemE X K B e te fe) (hi : X.N[i]? = some x := by rfl) (hx : Loc X.env.scope x := by first | exact Or.inl rfl | exact Or.inr rfl) (hs : swapsWith e (some (.Name x pos')) pos.line X.env = pure false := by rfl)
    (hf : X.fn x = true ∨ X.env.scope.names.lookup x = some .local := by first | exact .inl rfl | exact .inr rfl) : SemS X K B W (.Assign [.Name x pos'] e pos) (tAsg te (gName i)) (sSet i fe) := ⟨ps_set hN hi hx he.pe hs hf, set_ok i he.ok⟩
theorem s_setL (i : Nat) {x : Str} {pos' : Pos} {sa : SA} (hN : X.N.Nodup) (he : SemL X K B e te sa) (hi : X.N[i]? = some x := by rfl) (hx : Loc X.env.scope x := by first | exact Or.inl rfl | exact Or.inr rfl) (hs : swapsWith e (some (.Name x pos')) pos.line X.env = pure false := by rfl)
    (hf : X.fn x = true ∨ X.env.scope.names.lookup x = some .local := by first | exact .inl rfl | exact .inr rfl) : SemS X K B W (.Assign [.Name x pos'] e pos) (tAsg te (gName i)) (sSetL i sa) := ⟨ps_set hN hi hx he.pe hs hf, setL_ok i he.ok⟩
theorem s_expr (he : SemE X K B e te fe) (hs : swapsWith e none pos.line X.env = pure false := by rfl) : SemS X K B W (.Expr e pos) (tDrop te) (sDrop fe) := ⟨ps_expr he.pe hs, drop_ok he.ok⟩
theorem s_if {tc : TT} {c : STe} {ss us : List Stmt} (h0 : SemT X K B e tc c) (h1 : SemSs X K B W ss t f) (h2 : SemSs X K B W us u g) : SemS X K B W (.If e ss us pos) (tIfS tc t u) (sIf c f g) := ⟨ps_if h0.pt h1.ps h2.ps, ifS_ok h0.ok h1.ok h2.ok⟩
theorem s_for {tg iter : Expr} {body : List Stmt} {wi : TI} {gg : TG} {sa : SA} {tgf : PyData → Rho → Option Rho} (hp : PassesOwn (model X.prog X.w) X.A X.env X.xe) (hc : X.calm = true) (hi : SemI X K B tg iter wi sa) (hg : PG X tg gg) (ht : TGOk K gg tgf) (hb : SemSs X K B W body t f)
    (hs : ∀ x, foldedSetIterable iter X.env x = pure x := by intro _; rfl) : SemS X K B W (.For tg iter body [] pos) (tFor wi gg t) (sFor sa tgf f) := ⟨ps_for hp hc hi.pi hg hb.ps hs, for_okS hi.ok ht hb.ok⟩
/-- xs.append(e), xs[i] = e: an own list's name -/
theorem s_app (i : Nat) {x : Str} {p apos cpos : Pos} (he : SemE X K B e te fe) (ps : PS X (.Expr (.Call (.Attribute (.Name x p) "append" apos) [e] [] cpos) pos) (tDrop (tBM K "list" rAppend (tVar i) (tCons te tNil)))) :
    SemS X K B W (.Expr (.Call (.Attribute (.Name x p) "append" apos) [e] [] cpos) pos) (tDrop (tBM K "list" rAppend (tVar i) (tCons te tNil))) (sApp i fe) := ⟨ps, app_okS i he.ok⟩
theorem s_put (i : Nat) {x : Str} {p p2 : Pos} (he : SemE X K B e te fe) (hx : SemE X K B a tx fx) (ps : PS X (.Assign [.Subscript (.Name x p) a p2] e pos) (tAsg te (gSub (tVar i) tx rSetL))) :
    SemS X K B W (.Assign [.Subscript (.Name x p) a p2] e pos) (tAsg te (gSub (tVar i) tx rSetL)) (sPut i fx fe) := ⟨ps, put_okS i he.ok hx.ok⟩
end
/-! ### functions of data -/
section
variable {X : Cx} {K : PySem.W.Frag} {B : Bs} {W : XW} {e : Expr} {st : Stmt} {te : TE} {sa : SA}
theorem s_setLcE (i : Nat) {x : Str} {p pos : Pos} (h : SemL X K B e te sa) (ps : PS X (.Assign [.Name x p] e pos) (tAsg te (gName i))) : SemS X K B W (.Assign [.Name x p] e pos) (tAsg te (gName i)) (sSet i (eList sa)) := ⟨ps, set_ok i h.toE.ok⟩
theorem s_setLcL (i : Nat) {x : Str} {p pos : Pos} (h : SemL X K B e te sa) (ps : PS X (.Assign [.Name x p] e pos) (tAsg te (gName i))) : SemS X K B W (.Assign [.Name x p] e pos) (tAsg te (gName i)) (sSetL i sa) := ⟨ps, setL_ok i h.ok⟩
end
abbrev noB : Bs := ⟨fun _ => none, fun _ => none, fun _ => none, none⟩
abbrev W0 : XW := fun _ _ _ => False
abbrev noH : Hp := fun _ => none
abbrev noR : Rg := fun _ => noH
def spPure (K : PySem.W.Frag) (F : List PyData → Option PyData) : Sp := fun vs H Q _ => ∃ (G : Hp) (ds : List PyData) (d : PyData), Same G H ∧ RpAll K G vs ds ∧ F ds = some d ∧ ∀ v H' G', Grow H G H' G' → Rp K G' v d → Q v H'
def rho0 (N : List Str) (ds : List PyData) : Rho := ds.map .val ++ List.replicate (N.length - ds.length) .no
def runF (N : List Str) (n : Nat) (b : SS) : List PyData → Option PyData := fun ds => if ds.length = n then (match b (rho0 N ds) with
  | .rt d _ => some d
  | .nx _ => some .none
  | .no => none
  | .ex _ _ => none
  | .ro _ _ => none) else none
theorem RpAll.two {K : PySem.W.Frag} {F : Hp} {vs : List V} {d e : PyData} (h : RpAll K F vs [d, e]) : ∃ v u, vs = [v, u] ∧ Rp K F v d ∧ Rp K F u e := by
  cases h with
  | cons r r2 => obtain ⟨u, rfl, r3⟩ := r2.one; exact ⟨_, _, rfl, r, r3⟩
theorem RpAll.three {K : PySem.W.Frag} {F : Hp} {vs : List V} {d e f : PyData} (h : RpAll K F vs [d, e, f]) : ∃ v u t, vs = [v, u, t] ∧ Rp K F v d ∧ Rp K F u e ∧ Rp K F t f := by
  cases h with
  | cons r r2 => obtain ⟨u, t, rfl, r3, r4⟩ := r2.two; exact ⟨_, _, _, rfl, r, r3, r4⟩
theorem Rp.s {K : PySem.W.Frag} {F : Hp} {v : V} {z : Str} (h : Rp K F v (.str z)) : v = .str z := Bp.str (H := F) (.inl h)
theorem RpAll.get {K : PySem.W.Frag} {F : Hp} : ∀ {vs : List V} {ds : List PyData} {i : Nat} {d : PyData}, RpAll K F vs ds → ds[i]? = some d → ∃ v, vs[i]? = some v ∧ Rp K F v d
  | [], [], _, _, _, e => by simp at e
  | [], _ :: _, _, _, h, _ => by cases h
  | _ :: _, [], _, _, h, _ => by cases h
  | v :: vs, d :: ds, 0, _, h, e => by
    cases h with
    | cons h1 h2 =>
      simp at e; subst e
      exact ⟨v, rfl, h1⟩
  | v :: vs, d :: ds, i + 1, _, h, e => by
    cases h with
    | cons h1 h2 =>
      obtain ⟨u, e1, e2⟩ := RpAll.get (i := i) h2 (by simpa using e)
      exact ⟨u, by simpa using e1, e2⟩
/-- what a function finds that reads an object -/
structure BsOk (K : PySem.W.Frag) (B : Bs) (G H : Hp) : Prop where
  bs : Same B.f G
  bh : Same B.h H
  bF : Apart B.h G
  bo : ∀ a o, B.bk a = some o → ObjAt K B.f B.h a o
theorem bsOk_no {K : PySem.W.Frag} {G H : Hp} : BsOk K noB G H := ⟨fun _ _ z => (nomatch z), fun _ _ z => (nomatch z), fun _ z => absurd rfl z, fun _ _ z => (nomatch z)⟩
theorem start_ok {K : PySem.W.Frag} {B : Bs} {G H : Hp} {N : List Str} {vs : List V} {ds : List PyData} (b : BsOk K B G H) (e : Same G H) (h : RpAll K G vs ds) : StOk K B ⟨noH, H, G⟩ noR G H (start N vs) (rho0 N ds) := by
  have hl := h.len
  have shape : ∀ (i : Nat) (x : Sl), (rho0 N ds)[i]? = some x → x = .no ∨ ∃ d, ds[i]? = some d ∧ x = .val d := fun i x q => by
    unfold rho0 at q
    rcases Nat.lt_or_ge i (ds.map Sl.val).length with hi | hi
    · rw [List.getElem?_append_left hi, List.getElem?_map] at q
      cases z : ds[i]? with
      | none => rw [z] at q; cases q
      | some d => rw [z] at q; cases q; exact .inr ⟨d, rfl, rfl⟩
    · rw [List.getElem?_append_right hi] at q
      have := List.mem_of_getElem? q
      rw [List.mem_replicate] at this
      exact .inl this.2
  have no : ∀ (i : Nat) (es : List PyData), (rho0 N ds)[i]? = some (.own es) → False := fun i es q => by
    rcases shape i _ q with z | ⟨d, _, z⟩ <;> cases z
  have no2 : ∀ (i : Nat) (o : ObjSt), (rho0 N ds)[i]? = some (.obj o) → False := fun i es q => by
    rcases shape i _ q with z | ⟨d, _, z⟩ <;> cases z
  refine ⟨⟨b.bs, b.bh, b.bF, b.bo, e, (fun _ _ _ z => nomatch z), (fun _ _ z => absurd rfl z), (fun _ _ z => absurd rfl z), (fun _ _ _ _ z => absurd rfl z), ?_, fun i d q => ?_, fun i es q => (no i es q).elim, fun i j es fs p _ q _ _ _ => no i es q, fun i o q => (no2 i o q).elim, fun a0 _ o a q _ => (no2 0 o q).elim⟩,
    ⟨fun _ _ _ z => z, fun _ z => z, Same.refl G, e, fun _ z _ => z⟩, fun i es p q _ => (no i es q).elim, fun _ _ z => absurd rfl z⟩
  · unfold rho0 L2.start
    simp [hl]
  · rcases shape i _ q with z | ⟨d', h1, z⟩
    · cases z
    · cases z
      obtain ⟨v, h2, h3⟩ := h.get h1
      refine ⟨v, ?_, h3⟩
      unfold L2.start
      rw [List.getElem?_append_left (by rw [List.length_map]; exact (List.getElem?_eq_some_iff.mp h2).1), List.getElem?_map, h2]
      rfl
theorem GrowM.pure {H G H' G' : Hp} (g : GrowM ⟨noH, H, G⟩ H' G') : Grow H G H' G' := ⟨fun a o h => g.h a o rfl h, g.f, g.sub, g.no⟩
def spB (K : PySem.W.Frag) (F : (Addr → Option ObjSt) → List PyData → Option PyData) : Sp := fun vs H Q _ => ∃ (B : Bs) (G : Hp) (ds : List PyData) (d : PyData), BsOk K B G H ∧ Same G H ∧ RpAll K G vs ds ∧ F B.bk ds = some d ∧ ∀ v H' G', Grow H G H' G' → Rp K G' v d → Q v H'
theorem sp_bodyB {K : PySem.W.Frag} {B : Bs} {N : List Str} {n : Nat} {b : SS} {t : TS} (k : SSOk K B W0 t b) {vs : List V} {H G : Hp} {ds : List PyData} {d : PyData} {Q : VK} (bo : BsOk K B G H) (e : Same G H) (hR : RpAll K G vs ds) (hF : runF N n b ds = some d) (hQ : ∀ v H' G', Grow H G H' G' → Rp K G' v d → Q v H') :
    t { nx := fun _ H' => Q .non H', rt := Q } (start N vs) H := by
  refine k ⟨noH, H, G⟩ noR G H _ _ _ (start_ok bo e hR) ?_
  unfold runF at hF
  split at hF
  · cases hb : b (rho0 N ds) with
    | no => rw [hb] at hF; cases hF
    | nx r =>
      rw [hb] at hF
      cases hF
      exact fun σ H' R' F' s _ => hQ .non H' F' s.gr.pure rp_non
    | rt d' r =>
      rw [hb] at hF
      cases hF
      exact fun v σ H' R' F' s _ r => hQ v H' F' s.gr.pure r
    | ex c r => rw [hb] at hF; cases hF
    | ro i r => rw [hb] at hF; cases hF
  · cases hF
theorem sp_body {K : PySem.W.Frag} {N : List Str} {n : Nat} {b : SS} {t : TS} (k : SSOk K noB W0 t b) {vs : List V} {H : Hp} {Q : VK} {E : XK} (h : spPure K (runF N n b) vs H Q E) : t { nx := fun _ H' => Q .non H', rt := Q } (start N vs) H := by
  obtain ⟨G, ds, d, e, hR, hF, hQ⟩ := h
  exact sp_bodyB k bsOk_no e hR hF hQ
theorem x_pe {X : Cx} {K : PySem.W.Frag} {e : Expr} {t : TE} {f : SE} (h : SemE X K noB e t f) : PE X e t := h.pe
theorem x_pt {X : Cx} {K : PySem.W.Frag} {e : Expr} {t : TT} {f : STe} (h : SemT X K noB e t f) : PT X e t := h.pt
theorem x_pi {X : Cx} {K : PySem.W.Frag} {tg e : Expr} {t : TI} {f : SA} (h : SemIB X K noB tg e t f) : PI X tg e t := h.pi
/-- the module's name x is a function of data, of level k -/
structure PF (P : Program) (w : World) (K : PySem.W.Frag) (mg : Str → Option Value) (base : Heap) (k : Nat) (x : Str) (F : List PyData → Option PyData) : Prop where
  ex : ∃ (f : Addr) (fd : FuncData) (ps : List Str), FnOk P w K mg base CX0 k f fd ps (spPure K F) ∧ mg x = some (.ref f) ∧ PySem.W.keepIn K (.ref f) = true ∧ Binds K fd ps []
theorem fn_mk {P : Program} {w : World} {K : PySem.W.Frag} {mg : Str → Option Value} {base : Heap} {k : Nat} {x : Str} {st : Stmt} {N ps : List Str} {b : SS} {f : Addr} {fd : FuncData} (F : FunD K x x (defArgs st) (defBody st) (defScope st) [] [] f fd) (S : FnScope N ps (defScope st))
    (body : ∀ (cdv : Value) (A : Around) (outer : List Env) (s : Shared) (H : Hp) (E : XK), Room k (A.deeper (envOfC x (defScope st) s.heap.objs.size f cdv)) → ∃ t, SemSs (cxOf CX0 P w K mg base N x (defScope st) f cdv A outer s H E).nox K noB W0 (defBody st) t b) :
    FnOk P w K mg base CX0 (k + 1) f fd ps (spPure K (runF N ps.length b)) := by
  refine F.ok S (fun vs H Q E h => ?_) (fun cdv A outer s H vs Q E hr h => ?_)
  · obtain ⟨G, ds, d, _, hR, hF, _⟩ := h
    unfold runF at hF
    split at hF
    · rename_i hl
      rw [hR.len]; exact hl
    · cases hF
  · obtain ⟨t, ht⟩ := body cdv A outer s H E hr
    exact ⟨t, ht.ps.nox, sp_body ht.ok h⟩
theorem pf_mk {P : Program} {w : World} {K : PySem.W.Frag} {mg : Str → Option Value} {base : Heap} {k : Nat} {x : Str} {st : Stmt} {N ps : List Str} {b : SS} {f : Addr} {fd : FuncData} (F : FunD K x x (defArgs st) (defBody st) (defScope st) [] [] f fd) (S : FnScope N ps (defScope st)) (hm : mg x = some (.ref f))
    (hb : ∀ (kV doc pm : Value) (an : Option Addr) (cdv ct : Value) (us : List Value), us.length = ps.length → bindArgs (PySem.W.fnOf x x (defArgs st) (defBody st) (defScope st) .none kV doc pm an cdv ct) ⟨us, []⟩ = pure (ps.zip us))
    (body : ∀ (cdv : Value) (A : Around) (outer : List Env) (s : Shared) (H : Hp) (E : XK), Room k (A.deeper (envOfC x (defScope st) s.heap.objs.size f cdv)) → ∃ t, SemSs (cxOf CX0 P w K mg base N x (defScope st) f cdv A outer s H E).nox K noB W0 (defBody st) t b) :
    PF P w K mg base (k + 1) x (runF N ps.length b) := ⟨f, fd, ps, fn_mk F S body, hm, F.kp, F.bindsN hb⟩
theorem hv_of {k : Nat} {A : Around} (hr : Room k A) : A.units + 65 < cLine := by have := hr.un; omega
theorem PF.imp {P : Program} {w : World} {K : PySem.W.Frag} {mg : Str → Option Value} {base : Heap} {k : Nat} {x : Str} {F F' : List PyData → Option PyData} (h : PF P w K mg base k x F) (hi : ∀ ds d, F' ds = some d → F ds = some d) : PF P w K mg base k x F' := by
  obtain ⟨f, fd, ps, h1, h2⟩ := h.ex
  refine ⟨f, fd, ps, h1.imp (fun vs H Q E ⟨G, ds, d, e, hR, hF, hQ⟩ => ⟨G, ds, d, e, hR, hi ds d hF, hQ⟩), h2⟩
section
variable {X : Cx} {K : PySem.W.Frag} {B : Bs} {W : XW} {e : Expr} {es : List Expr} {ta : TA} {sa : SA} {x : Str} {p pos : Pos} {k j : Nat} {F : List PyData → Option PyData}
theorem callP_ok (ha : AOk K B ta sa) : EOk K B (tCall (spPure K F) [] E0 ta) (eCall F sa) := fun Rg F' H σ ρ d E q Q kk => by
  cases e1 : sa ρ with
  | none => simp [eCall, e1] at q
  | some ds =>
    have q' : F ds = some d := by simpa [eCall, e1] using q
    refine ha _ F' H σ ρ ds E e1 _ fun vs H1 G1 g1 r1 => ?_
    rw [List.append_nil]
    exact ⟨G1, ds, d, g1.sub, r1, q', fun v H' G' g r => kk v H' G' (g1.trans g) r⟩
theorem BpAll.all {G H : Hp} (e : Same G H) : ∀ {vs : List V} {ds : List PyData}, BpAll K G H vs ds → RpAll K H vs ds
  | [], [], _ => .nil
  | [], _ :: _, h => by cases h
  | _ :: _, [], h => by cases h
  | v :: vs, d :: ds, h => by
    cases h with
    | cons h1 h2 => exact .cons (h1.all e) (BpAll.all e h2)
/-- own lists handed in for a moment: what comes back is a value without parts -/
theorem callPB_ok (ha : ABOk K B ta sa) : EOk K B (tCall (spPure K F) [] E0 ta) (eCall (fun ds => onlyS (F ds)) sa) := fun Rg F' H σ ρ d E q Q kk => by
  cases e1 : sa ρ with
  | none => simp [eCall, e1] at q
  | some ds =>
    have q' : onlyS (F ds) = some d := by simpa [eCall, e1] using q
    unfold onlyS at q'
    cases e2 : F ds with
    | none => simp [e2] at q'
    | some d' =>
      rw [e2, Option.bind_some] at q'
      split at q'
      · rename_i hs
        cases q'
        refine ha _ F' H σ ρ ds E e1 _ fun vs H1 G1 g1 r1 => ?_
        rw [List.append_nil]
        exact ⟨H1, ds, _, Same.refl H1, BpAll.all g1.sub r1, e2, fun v H' G' g r => kk v H' G1 (g1.trans ⟨g.h, Same.refl G1, g1.sub.trans g.h, fun _ z _ => z⟩) (rp_scal r hs)⟩
      · cases q'
theorem se_call (C : PF X.prog X.w K X.mg X.base k x F) (hr : Room j X.A) (ha : SemA X K B (e :: es) ta sa) (hk : k ≤ j := by decide) (hg : Gl X x := by rfl) (hdb : (x == ("__debug__" : Str)) = false := by decide)
    (he : starEach (e :: es) X.env = (false, eval e X.env) :: starEach es X.env := by rfl) (hpl : (backTo pos (starEach es X.env)).any (·.1) = false := by rfl) (hK : X.K = K := by rfl) : SemE X K B (.Call (.Name x p) (e :: es) [] pos) (tCall (spPure K F) [] E0 ta) (eCall F sa) := by
  subst hK
  obtain ⟨f, fd, ps, h1, h2, h3, h4⟩ := C.ex
  exact ⟨pe_call h1 (hr.mono hk) hg h2 h3 h4 .nil pass0 ha.pa hdb he hpl, callP_ok ha.ok⟩
theorem se_callB (C : PF X.prog X.w K X.mg X.base k x F) (hr : Room j X.A) (ha : SemAB X K B (e :: es) ta sa) (hk : k ≤ j := by decide) (hg : Gl X x := by rfl) (hdb : (x == ("__debug__" : Str)) = false := by decide)
    (he : starEach (e :: es) X.env = (false, eval e X.env) :: starEach es X.env := by rfl) (hpl : (backTo pos (starEach es X.env)).any (·.1) = false := by rfl) (hK : X.K = K := by rfl) : SemE X K B (.Call (.Name x p) (e :: es) [] pos) (tCall (spPure K F) [] E0 ta) (eCall (fun ds => onlyS (F ds)) sa) := by
  subst hK
  obtain ⟨f, fd, ps, h1, h2, h3, h4⟩ := C.ex
  exact ⟨pe_call h1 (hr.mono hk) hg h2 h3 h4 .nil pass0 ha.pa hdb he hpl, callPB_ok ha.ok⟩
end
/-- the law's own promise out of its function of data -/
theorem law_sp {K : PySem.W.Frag} {F : List PyData → Option PyData} {H : Hp} {a : Addr} {ns : List Int} (h : F [scrD ns] = some (.bool true)) (hS : SqL K H a (ns.map V.int)) : spPure K F [.ref a] H (fun v _ => v = .bl true) fun _ _ _ => False :=
  ⟨H, [scrD ns], .bool true, Same.refl H, .cons (.inr (.inr ⟨a, ns, rfl, rfl, hS⟩)) .nil, h, fun v H' G' _ r => r.bl⟩
end RT
/-! How the functions are reckoned: rows for simp. -/
namespace RT
open PySem PySem.Spec PyProof.Rows L2
def Out.thn : Out → (Rho → Out) → Out
  | .no, _ => .no
  | .nx r, g => g r
  | .rt d r, _ => .rt d r
  | .ex c r, _ => .ex c r
  | .ro i r, _ => .ro i r
def Out.res : Out → Option PyData
  | .no => none
  | .nx _ => some .none
  | .rt d _ => some d
  | .ex _ _ => none
  | .ro _ _ => none
section
variable {f f1 f2 f3 f4 : SE} {g : SA} {ρ : Rho} {t u : STe} {a b : SS} {c : Prop} [Decidable c]
@[simp] theorem thn_no (g : Rho → Out) : Out.thn .no g = .no := rfl
@[simp] theorem thn_nx (g : Rho → Out) (r : Rho) : Out.thn (.nx r) g = g r := rfl
@[simp] theorem thn_rt (g : Rho → Out) (d : PyData) (r : Rho) : Out.thn (.rt d r) g = .rt d r := rfl
@[simp] theorem thn_ro (g : Rho → Out) (i : Nat) (r : Rho) : Out.thn (.ro i r) g = .ro i r := rfl
@[simp] theorem thn_ex (g : Rho → Out) (c : Str) (r : Rho) : Out.thn (.ex c r) g = .ex c r := rfl
@[simp] theorem thn_ite (x y : Out) (g : Rho → Out) : Out.thn (if c then x else y) g = if c then x.thn g else y.thn g := by split <;> rfl
@[simp] theorem res_no : Out.res .no = none := rfl
@[simp] theorem res_nx (r : Rho) : Out.res (.nx r) = some .none := rfl
@[simp] theorem res_rt (d : PyData) (r : Rho) : Out.res (.rt d r) = some d := rfl
@[simp] theorem res_ex (c : Str) (r : Rho) : Out.res (.ex c r) = none := rfl
@[simp] theorem res_ite (x y : Out) : Out.res (if c then x else y) = if c then x.res else y.res := by split <;> rfl
@[simp] theorem bind_ite {α β : Type} (x y : Option α) (g : α → Option β) : (if c then x else y).bind g = if c then x.bind g else y.bind g := by split <;> rfl
@[simp] theorem map_ite {α β : Type} (x y : Option α) (g : α → β) : (if c then x else y).map g = if c then x.map g else y.map g := by split <;> rfl
theorem runF_eq (N : List Str) (n : Nat) (b : SS) (ds : List PyData) : runF N n b ds = if ds.length = n then (b (rho0 N ds)).res else none := by
  unfold runF
  split
  · cases b (rho0 N ds) <;> rfl
  · rfl
@[simp] theorem sSeq_eq : sSeq a b ρ = (a ρ).thn b := by unfold sSeq; cases a ρ <;> rfl
@[simp] theorem sNext_eq : sNext ρ = .nx ρ := rfl
def outV (o : Option PyData) (k : PyData → Out) : Out := match o with
  | some d => k d
  | none => .no
@[simp] theorem outV_some (d : PyData) (k : PyData → Out) : outV (some d) k = k d := rfl
@[simp] theorem outV_none (k : PyData → Out) : outV none k = .no := rfl
@[simp] theorem outV_ite (x y : Option PyData) (k : PyData → Out) : outV (if c then x else y) k = if c then outV x k else outV y k := by split <;> rfl
def outL (o : Option (List PyData)) (k : List PyData → Out) : Out := match o with
  | some d => k d
  | none => .no
@[simp] theorem outL_some (d : List PyData) (k : List PyData → Out) : outL (some d) k = k d := rfl
@[simp] theorem outL_none (k : List PyData → Out) : outL none k = .no := rfl
@[simp] theorem outL_ite (x y : Option (List PyData)) (k : List PyData → Out) : outL (if c then x else y) k = if c then outL x k else outL y k := by split <;> rfl
def outB (o : Option Bool) (k : Bool → Out) : Out := match o with
  | some d => k d
  | none => .no
@[simp] theorem outB_some (d : Bool) (k : Bool → Out) : outB (some d) k = k d := rfl
@[simp] theorem outB_none (k : Bool → Out) : outB none k = .no := rfl
@[simp] theorem outB_ite (x y : Option Bool) (k : Bool → Out) : outB (if c then x else y) k = if c then outB x k else outB y k := by split <;> rfl
@[simp] theorem sSet_eq (i : Nat) : sSet i f ρ = outV (f ρ) fun d => .nx (ρ.set i (.val d)) := by unfold sSet; cases f ρ <;> rfl
@[simp] theorem sSetL_eq (i : Nat) : sSetL i g ρ = outL (g ρ) fun d => .nx (ρ.set i (.own d)) := by unfold sSetL; cases g ρ <;> rfl
@[simp] theorem sDrop_eq : sDrop f ρ = outV (f ρ) fun _ => .nx ρ := by unfold sDrop; cases f ρ <;> rfl
@[simp] theorem sIf_eq : sIf t a b ρ = outB (t ρ) fun z => if z = true then a ρ else b ρ := by
  unfold sIf
  cases t ρ with
  | none => rfl
  | some z => cases z <;> rfl
@[simp] theorem sRet_eq : sRet f ρ = outV (f (ρ.map frz1)) (fun d => .rt d (ρ.map frz1)) := by unfold sRet; cases f (ρ.map frz1) <;> rfl
@[simp] theorem sRetN_eq : sRetN ρ = .rt .none ρ := rfl
@[simp] theorem frz1_own (ds : List PyData) : frz1 (.own ds) = .val (.list ds) := rfl
@[simp] theorem frz1_val (d : PyData) : frz1 (.val d) = .val d := rfl
@[simp] theorem frz1_no : frz1 .no = .no := rfl
@[simp] theorem sFor_eq (tg : PyData → Rho → Option Rho) : sFor g tg a ρ = outL (g ρ) fun ds => forF tg a ds ρ := by unfold sFor; cases g ρ <;> rfl
theorem forF_nil (tg : PyData → Rho → Option Rho) : forF tg a [] ρ = .nx ρ := rfl
theorem forF_cons1 (j : Nat) (d : PyData) (ds : List PyData) : forF (tg1 j) a (d :: ds) ρ = (a (ρ.set j (.val d))).thn (forF (tg1 j) a ds) := by
  simp only [forF, tg1]
  cases a (ρ.set j (.val d)) <;> rfl
/-- a slot -/
def slV : Option Sl → Option PyData
  | some (.val d) => some d
  | _ => none
def slB : Option Sl → Option PyData
  | some (.val d) => some d
  | some (.own ds) => some (.list ds)
  | _ => none
@[simp] theorem slV_val (d : PyData) : slV (some (.val d)) = some d := rfl
@[simp] theorem slB_val (d : PyData) : slB (some (.val d)) = some d := rfl
@[simp] theorem slB_own (d : List PyData) : slB (some (.own d)) = some (.list d) := rfl
@[simp] theorem eVar_eq (i : Nat) : eVar i ρ = slV ρ[i]? := by
  unfold eVar slV
  cases ρ[i]? with
  | none => rfl
  | some s => cases s <;> rfl
@[simp] theorem eVarB_eq (i : Nat) : eVarB i ρ = slB ρ[i]? := by
  unfold eVarB slB
  cases ρ[i]? with
  | none => rfl
  | some s => cases s <;> rfl
@[simp] theorem eC_eq (d : PyData) : eC d ρ = some d := rfl
@[simp] theorem eOp_eq (gg : PyData → PyData → Option PyData) : eOp gg f1 f2 ρ = (f1 ρ).bind fun x => (f2 ρ).bind fun y => gg x y := rfl
@[simp] theorem eUn_eq (gg : PyData → Option PyData) : eUn gg f1 ρ = (f1 ρ).bind gg := rfl
@[simp] theorem eNil_eq : eNil ρ = some [] := rfl
@[simp] theorem eCons_eq : eCons f g ρ = (f ρ).bind fun d => (g ρ).bind fun ds => some (d :: ds) := rfl
@[simp] theorem eTupD_eq : eTupD g ρ = (g ρ).bind fun ds => if ds.all dataD = true ∧ ds.length ≤ 1000 then some (.tuple ds) else none := rfl
@[simp] theorem eLstD_eq : eLstD g ρ = (g ρ).bind fun ds => if ds.all dataD = true ∧ ds.length ≤ 1000 then some ds else none := rfl
@[simp] theorem eList_eq : eList g ρ = (g ρ).map .list := rfl
@[simp] theorem eCall_eq (F : List PyData → Option PyData) : eCall F g ρ = (g ρ).bind F := rfl
@[simp] theorem eCallL_eq (F : List PyData → Option (List PyData)) : eCallL F g ρ = (g ρ).bind F := rfl
@[simp] theorem onlyS_eq (o : Option PyData) : onlyS o = o.bind fun d => if scalD d then some d else none := rfl
/-- a truth -/
def truD : PyData → Option Bool
  | .bool b => some b
  | _ => none
@[simp] theorem truD_bool (b : Bool) : truD (.bool b) = some b := rfl
@[simp] theorem bF_eq : bF f ρ = (f ρ).bind truD := by unfold bF truD; cases f ρ <;> rfl
@[simp] theorem tAndF_eq : tAndF t u ρ = (t ρ).bind fun b => if b = true then u ρ else some false := rfl
@[simp] theorem tOrF_eq : tOrF t u ρ = (t ρ).bind fun b => if b = true then some true else u ρ := rfl
@[simp] theorem tNotF_eq : tNotF t ρ = (t ρ).map (!·) := rfl
@[simp] theorem tYesF_eq : tYesF ρ = some true := rfl
@[simp] theorem eAndF_eq : eAndF f1 f2 ρ = ((f1 ρ).bind truD).bind fun b => if b = true then f2 ρ else some (.bool false) := by unfold eAndF; rw [bF_eq]
@[simp] theorem eOrF_eq : eOrF f1 f2 ρ = ((f1 ρ).bind truD).bind fun b => if b = true then some (.bool true) else f2 ρ := by unfold eOrF; rw [bF_eq]
@[simp] theorem eNotF_eq : eNotF f1 ρ = ((f1 ρ).bind truD).map fun b => .bool (!b) := by unfold eNotF; rw [bF_eq]
@[simp] theorem eIfF_eq : eIfF t f1 f2 ρ = (t ρ).bind fun b => if b = true then f1 ρ else f2 ρ := rfl
@[simp] theorem eChainF_eq (gg gg' : PyData → PyData → Option PyData) : eChainF gg gg' f1 f2 f3 ρ = (f1 ρ).bind fun x => (f2 ρ).bind fun y => ((gg x y).bind truD).bind fun z => if z = true then (f3 ρ).bind fun u => gg' y u else some (.bool false) := by
  unfold eChainF
  cases f1 ρ with
  | none => rfl
  | some x =>
    cases f2 ρ with
    | none => rfl
    | some y =>
      simp only [Option.bind_some]
      cases gg x y with
      | none => rfl
      | some z =>
        cases z with
        | bool b => cases b <;> rfl
        | _ => rfl
@[simp] theorem eChain3F_eq (gg gg' g2 : PyData → PyData → Option PyData) : eChain3F gg gg' g2 f1 f2 f3 f4 ρ = (f1 ρ).bind fun x => (f2 ρ).bind fun y => ((gg x y).bind truD).bind fun z => if z = true then (f3 ρ).bind fun u => ((gg' y u).bind truD).bind fun z => if z = true then (f4 ρ).bind fun u2 => g2 u u2 else some (.bool false) else some (.bool false) := by
  unfold eChain3F
  cases f1 ρ with
  | none => rfl
  | some x =>
    cases f2 ρ with
    | none => rfl
    | some y =>
      simp only [Option.bind_some]
      cases gg x y with
      | none => rfl
      | some z =>
        cases z with
        | bool b =>
          cases b with
          | false => rfl
          | true =>
            simp only [Option.bind_some, truD_bool, if_true]
            cases f3 ρ with
            | none => rfl
            | some u =>
              simp only [Option.bind_some]
              cases gg' y u with
              | none => rfl
              | some z =>
                cases z with
                | bool b => cases b <;> rfl
                | _ => rfl
        | _ => rfl
end
/-! ### operators -/
@[simp] theorem gAdd_int (i j : Int) : gAdd (.int i) (.int j) = some (.int (i + j)) := rfl
theorem gAdd_strE (x y : Str) : gAdd (.str x) (.str y) = if x.length + y.length ≤ LIM then some (.str (x ++ y)) else none := by
  unfold gAdd alt gAddI gI gAddS
  simp only
  split <;> rename_i h <;> split at h <;> simp_all [gAddL]
theorem gAdd_listE (x y : List PyData) : gAdd (.list x) (.list y) = if x.length + y.length ≤ LIM then some (.list (x ++ y)) else none := by
  unfold gAdd alt gAddI gI gAddS gAddL
  rfl
@[simp] theorem gAdd_str (x y : Str) (h : x.length + y.length ≤ LIM) : gAdd (.str x) (.str y) = some (.str (x ++ y)) := by rw [gAdd_strE, if_pos h]
@[simp] theorem gAdd_list (x y : List PyData) (h : x.length + y.length ≤ LIM) : gAdd (.list x) (.list y) = some (.list (x ++ y)) := by rw [gAdd_listE, if_pos h]
@[simp] theorem gMinus_int (i j : Int) : gMinus (.int i) (.int j) = some (.int (i - j)) := rfl
@[simp] theorem gMul_int (i j : Int) (h : cMul i j = true) : gMul (.int i) (.int j) = some (.int (i * j)) := by
  unfold gMul alt gMulI gI
  simp only [h, if_true]
@[simp] theorem gMul_list (x : List PyData) (k : Int) (h : k ≤ 1000000 ∧ -1000000 ≤ k ∧ x.length * k.toNat ≤ LIM) : gMul (.list x) (.int k) = some (.list (List.replicate k.toNat x).flatten) := by
  unfold gMul alt gMulI gI gMulL
  simp only [h, if_true]
  simp
@[simp] theorem gMul_str (x : Str) (k : Int) (h : x.length ≤ 1000 ∧ k ≤ 1000 ∧ -1000 ≤ k) : gMul (.str x) (.int k) = some (.str (Txt.mul x k)) := by
  unfold gMul alt gMulI gI gMulL gMulS
  simp only [h, if_true]
  simp
@[simp] theorem gFdiv_int (i j : Int) (h : cPos i j = true) : gFdiv (.int i) (.int j) = some (.int (i / j)) := by
  unfold gFdiv gI
  simp only [h, if_true]
@[simp] theorem gMod_int (i j : Int) (h : cPos i j = true) : gMod (.int i) (.int j) = some (.int (i % j)) := by
  unfold gMod gI
  simp only [h, if_true]
theorem cPos_of {i j : Int} (h1 : 0 < j) (h2 : j < 1073741824) : cPos i j = true := by simp [cPos, h1, h2]
theorem cMul_l {i j : Int} (h : i.natAbs ≤ 1000000000) : cMul i j = true := by simp [cMul, h]
theorem cMul_r {i j : Int} (h : j.natAbs ≤ 1000000000) : cMul i j = true := by simp [cMul, h]
@[simp] theorem cPos_def (i j : Int) : cPos i j = (decide (0 < j) && decide (j < 1073741824)) := rfl
@[simp] theorem gNeg_int (i : Int) : gNeg (.int i) = some (.int (-i)) := rfl
@[simp] theorem gLt_int (i j : Int) : gLt (.int i) (.int j) = some (.bool (decide (i < j))) := rfl
@[simp] theorem gLe_int (i j : Int) : gLe (.int i) (.int j) = some (.bool (decide (i ≤ j))) := rfl
@[simp] theorem gGt_int (i j : Int) : gGt (.int i) (.int j) = some (.bool (decide (j < i))) := rfl
@[simp] theorem gGe_int (i j : Int) : gGe (.int i) (.int j) = some (.bool (decide (j ≤ i))) := rfl
@[simp] theorem gEq_int (i j : Int) : gEq (.int i) (.int j) = some (.bool (i == j)) := rfl
@[simp] theorem gNe_int (i j : Int) : gNe (.int i) (.int j) = some (.bool (!(i == j))) := rfl
@[simp] theorem gEq_str (i j : Str) : gEq (.str i) (.str j) = some (.bool (i == j)) := rfl
@[simp] theorem gNe_str (i j : Str) : gNe (.str i) (.str j) = some (.bool (!(i == j))) := rfl
@[simp] theorem gEq_bool (i j : Bool) : gEq (.bool i) (.bool j) = some (.bool (i == j)) := rfl
@[simp] theorem gNe_bool (i j : Bool) : gNe (.bool i) (.bool j) = some (.bool (!(i == j))) := rfl
@[simp] theorem gEq_ns (i : Str) : gEq .none (.str i) = some (.bool false) := rfl
@[simp] theorem gIx_list (ds : List PyData) (i : Int) : gIx (.list ds) (.int i) = atI ds i := by
  unfold gIx alt gIx0 gIxS
  simp only
  split
  · rename_i h; exact h.symm
  · rename_i h; rw [h]
@[simp] theorem gIx_tuple (ds : List PyData) (i : Int) : gIx (.tuple ds) (.int i) = atI ds i := by
  unfold gIx alt gIx0 gIxS
  simp only
  split
  · rename_i h; exact h.symm
  · rename_i h; rw [h]
@[simp] theorem gIx_str (z : Str) (i : Int) (h : z.length ≤ LIM) : gIx (.str z) (.int i) = (atI z.cps.toList i).map fun c => .str ⟨#[c]⟩ := by
  unfold gIx alt gIx0 gIxS
  simp only [h, if_true]
  split
  · rename_i h; exact h.symm
  · rename_i h; rw [h]
@[simp] theorem gIx_scr (ns : List Int) (i : Int) : gIx (scrD ns) (.int i) = atI (ns.map .int) i := rfl
@[simp] theorem atI_0 {α : Type} (a : α) (l : List α) : atI (a :: l) 0 = some a := by
  unfold atI ixN
  simp
@[simp] theorem atI_1 {α : Type} (a b : α) (l : List α) : atI (a :: b :: l) 1 = some b := by
  have h : (1 : Int) < ((l.length : Int) + 1 + 1) := by omega
  unfold atI ixN
  simp [h]
@[simp] theorem atI_2 {α : Type} (a b c : α) (l : List α) : atI (a :: b :: c :: l) 2 = some c := by
  have h : (2 : Int) < ((l.length : Int) + 1 + 1 + 1) := by omega
  unfold atI ixN
  simp [h]
@[simp] theorem atI_3 {α : Type} (a b c d : α) (l : List α) : atI (a :: b :: c :: d :: l) 3 = some d := by
  have h : (3 : Int) < ((l.length : Int) + 1 + 1 + 1 + 1) := by omega
  unfold atI ixN
  simp [h]
theorem atI_pos {α : Type} (l : List α) (i : Int) (h : 0 ≤ i) : atI l i = l[i.toNat]? := by
  unfold atI ixN
  rw [if_pos h]
  by_cases h2 : i < (l.length : Int)
  · rw [if_pos h2]; rfl
  · rw [if_neg h2, List.getElem?_eq_none (by omega)]; rfl
@[simp] theorem dataD_int (i : Int) : dataD (.int i) = true := rfl
@[simp] theorem dataD_str (i : Str) : dataD (.str i) = true := rfl
@[simp] theorem dataD_bool (i : Bool) : dataD (.bool i) = true := rfl
@[simp] theorem dataD_none : dataD .none = true := rfl
@[simp] theorem dataD_list (l : List PyData) : dataD (.list l) = true := rfl
@[simp] theorem dataD_tuple (l : List PyData) : dataD (.tuple l) = true := rfl
@[simp] theorem scalD_int (i : Int) : scalD (.int i) = true := rfl
@[simp] theorem scalD_str (i : Str) : scalD (.str i) = true := rfl
@[simp] theorem scalD_bool (i : Bool) : scalD (.bool i) = true := rfl
@[simp] theorem scalD_none : scalD .none = true := rfl
@[simp] theorem gMax_int (i j : Int) : gMax [.int i, .int j] = some (.int (if j > i then j else i)) := rfl
@[simp] theorem gMin_int (i j : Int) : gMin [.int i, .int j] = some (.int (if j < i then j else i)) := rfl
@[simp] theorem gLen_list (ds : List PyData) : gLen [.list ds] = some (.int (ds.length : Nat)) := rfl
@[simp] theorem gLen_tuple (ds : List PyData) : gLen [.tuple ds] = some (.int (ds.length : Nat)) := rfl
@[simp] theorem gLen_scr (ns : List Int) : gLen [scrD ns] = some (.int (ns.length : Nat)) := by simp [gLen, scrD]
@[simp] theorem gLen_str (z : Str) (h : z.length ≤ LIM) : gLen [.str z] = some (.int (z.length : Nat)) := by simp [gLen, h]
@[simp] theorem gInt_int (i : Int) : gInt [.int i] = some (.int i) := rfl
@[simp] theorem gInt_bool (b : Bool) : gInt [.bool b] = some (.int (if b then 1 else 0)) := rfl
@[simp] theorem gListOf_list (ds : List PyData) : gListOf [.list ds] = some ds := rfl
@[simp] theorem gListOf_tuple (ds : List PyData) : gListOf [.tuple ds] = some ds := rfl
@[simp] theorem eIsi_eq (T : TyN) (f : SE) (ρ : Rho) : eIsi T f ρ = (f ρ).bind fun d => if dataD d = true then some (.bool (isiD T d)) else none := rfl
@[simp] theorem isi_bb (b : Bool) : isiD .bool (.bool b) = true := rfl
@[simp] theorem isi_bi (b : Int) : isiD .bool (.int b) = false := rfl
@[simp] theorem isi_bn : isiD .bool .none = false := rfl
@[simp] theorem isi_bs (b : Str) : isiD .bool (.str b) = false := rfl
@[simp] theorem isi_bt (b : List PyData) : isiD .bool (.tuple b) = false := rfl
@[simp] theorem isi_ib (b : Bool) : isiD .int (.bool b) = true := rfl
@[simp] theorem isi_ii (b : Int) : isiD .int (.int b) = true := rfl
@[simp] theorem isi_in : isiD .int .none = false := rfl
@[simp] theorem isi_is (b : Str) : isiD .int (.str b) = false := rfl
@[simp] theorem isi_it (b : List PyData) : isiD .int (.tuple b) = false := rfl
@[simp] theorem isi_ss (b : Str) : isiD .str (.str b) = true := rfl
@[simp] theorem isi_ll (b : List PyData) : isiD .list (.list b) = true := rfl
@[simp] theorem isi_tt (b : List PyData) : isiD .tuple (.tuple b) = true := rfl
/-! ### is -/
@[simp] theorem gIs_i (i : Int) (b : Bool) : gIs (.int i) (.bool b) = some (.bool false) := rfl
@[simp] theorem gIsNot_i (i : Int) (b : Bool) : gIsNot (.int i) (.bool b) = some (.bool true) := rfl
@[simp] theorem gIs_b (a b : Bool) : gIs (.bool a) (.bool b) = some (.bool (a == b)) := rfl
@[simp] theorem gIsNot_b (a b : Bool) : gIsNot (.bool a) (.bool b) = some (.bool (!(a == b))) := rfl
@[simp] theorem gIs_nn : gIs .none .none = some (.bool true) := rfl
@[simp] theorem gIs_bn (a : Bool) : gIs (.bool a) .none = some (.bool false) := rfl
@[simp] theorem gIs_in (a : Int) : gIs (.int a) .none = some (.bool false) := rfl
@[simp] theorem gIs_sn (a : Str) : gIs (.str a) .none = some (.bool false) := rfl
@[simp] theorem gIs_tn (a : List PyData) : gIs (.tuple a) .none = some (.bool false) := rfl
@[simp] theorem gIs_ln (a : List PyData) : gIs (.list a) .none = some (.bool false) := rfl
/-! ### the script's cells -/
def cell (ns : List Int) (k : Nat) : Int := (ns[k]?).getD 0
theorem cutA_one {α : Type} (l : List α) (k : Nat) : cutA l (some (k : Int)) (some ((k : Int) + 1)) = (l[k]?).toList := by
  unfold cutA
  have e1 : ((k : Int) + 1) = ((k + 1 : Nat) : Int) := by omega
  rw [HT.sIx_nat, e1, HT.sIx_nat]
  by_cases h : k < l.length
  · have h1 : min k l.length = k := by omega
    have h2 : min (k + 1) l.length - k = 1 := by omega
    rw [h1, h2, drop_cons_of (List.getElem?_eq_getElem h), List.getElem?_eq_getElem h]
    rfl
  · have h1 : min k l.length = l.length := by omega
    rw [h1, List.drop_length, List.getElem?_eq_none (by omega)]
    simp
theorem cell_ev (ns : List Int) (k : Nat) : (gAdd (.list (cutA (ns.map .int) (some (k : Int)) (some ((k : Int) + 1)))) (.list [.int 0])).bind (fun x => gIx x (.int 0)) = some (.int (cell ns k)) := by
  rw [cutA_one, List.getElem?_map]
  cases h : ns[k]? with
  | none => rw [gAdd_list _ _ (by simp [LIM])]; simp [cell, h]
  | some v => rw [gAdd_list _ _ (by simp [LIM])]; simp [cell, h]
/-! ### an item of a menu, at a remainder -/
theorem atI_mod {α : Type} (l : List α) (i : Int) (n : Int) (hn : n = (l.length : Int)) (h0 : 0 < n) : ∃ x, x ∈ l ∧ atI l (i % n) = some x := by
  have h1 := Int.emod_nonneg i (show n ≠ 0 by omega)
  have h2 := Int.emod_lt_of_pos i h0
  rw [atI_pos _ _ h1]
  have h3 : (i % n).toNat < l.length := by omega
  exact ⟨l[(i % n).toNat], List.getElem_mem h3, List.getElem?_eq_getElem h3⟩
/-! ### loops and comprehensions, the usual ones -/
theorem set_get {α : Type} {l : List α} {j : Nat} {x : α} (h : l[j]? = some x) : l.set j x = l := by
  obtain ⟨h1, h2⟩ := List.getElem?_eq_some_iff.mp h
  subst h2
  exact List.set_getElem_self h1
/-- a loop that looks for one and hands back at once -/
theorem forF_find {j : Nat} {body : SS} {ρ : Rho} {r : PyData} (p : PyData → Bool) : ∀ {ds : List PyData} {s : Sl}, j < ρ.length → (∀ d, d ∈ ds → body (ρ.set j (.val d)) = if p d = true then .rt r ((ρ.set j (.val d)).map frz1) else .nx (ρ.set j (.val d))) →
    ∃ s' r', forF (tg1 j) body ds (ρ.set j s) = if ds.any p = true then .rt r r' else .nx (ρ.set j s')
  | [], s, hj, h => ⟨s, [], by simp [forF]⟩
  | d :: ds, s, hj, h => by
    obtain ⟨s', r', e⟩ := forF_find p (ds := ds) (s := .val d) hj fun d' hd => h d' (List.mem_cons_of_mem _ hd)
    cases hp : p d with
    | true =>
      refine ⟨s', (ρ.set j (.val d)).map frz1, ?_⟩
      rw [forF_cons1, List.set_set, h d List.mem_cons_self]
      simp [hp]
    | false =>
      refine ⟨s', r', ?_⟩
      rw [forF_cons1, List.set_set, h d List.mem_cons_self]
      simp [hp, e]
theorem forF_find0 {j : Nat} {body : SS} {ρ : Rho} {r : PyData} (p : PyData → Bool) {ds : List PyData} (hj : j < ρ.length) (h : ∀ d, d ∈ ds → body (ρ.set j (.val d)) = if p d = true then .rt r ((ρ.set j (.val d)).map frz1) else .nx (ρ.set j (.val d))) :
    ∃ s' r', forF (tg1 j) body ds ρ = if ds.any p = true then .rt r r' else .nx (ρ.set j s') := by
  have e : ρ.set j ρ[j] = ρ := List.set_getElem_self hj
  obtain ⟨s', r', q⟩ := forF_find p (ds := ds) (s := ρ[j]) hj h
  rw [e] at q
  exact ⟨s', r', q⟩
/-- a comprehension without a test | with one -/
theorem lcF_map {j : Nat} {el : SE} {ρ : Rho} (g : PyData → PyData) : ∀ {ds : List PyData}, (∀ d, d ∈ ds → el (ρ.set j (.val d)) = some (g d) ∧ dataD (g d) = true) → lcF j tYesF el ρ ds = some (ds.map g)
  | [], _ => rfl
  | d :: ds, h => by
    have ih := lcF_map g (ds := ds) fun d' hd => h d' (List.mem_cons_of_mem _ hd)
    obtain ⟨h1, h2⟩ := h d List.mem_cons_self
    simp [lcF, h1, h2, ih]
theorem lcF_filter {j : Nat} {tst : STe} {el : SE} {ρ : Rho} (p : PyData → Bool) (g : PyData → PyData) : ∀ {ds : List PyData}, (∀ d, d ∈ ds → tst (ρ.set j (.val d)) = some (p d)) → (∀ d, d ∈ ds → p d = true → el (ρ.set j (.val d)) = some (g d) ∧ dataD (g d) = true) → lcF j tst el ρ ds = some ((ds.filter p).map g)
  | [], _, _ => rfl
  | d :: ds, h, h' => by
    have ih := lcF_filter p g (ds := ds) (fun d' hd => h d' (List.mem_cons_of_mem _ hd)) fun d' hd => h' d' (List.mem_cons_of_mem _ hd)
    have h1 := h d List.mem_cons_self
    cases hp : p d with
    | true =>
      obtain ⟨h2, h3⟩ := h' d List.mem_cons_self hp
      simp [lcF, h1, hp, h2, h3, ih]
    | false => simp [lcF, h1, hp, ih]
@[simp] theorem rangeD_len (lo : Int) (n : Nat) : (rangeD lo n).length = n := by simp [rangeD]
theorem mem_rangeD {lo : Int} {n : Nat} {d : PyData} (h : d ∈ rangeD lo n) : ∃ i : Nat, i < n ∧ d = .int (lo + i) := by
  unfold rangeD at h
  obtain ⟨i, h1, h2⟩ := List.mem_map.mp h
  exact ⟨i, by simpa using h1, h2.symm⟩
@[simp] theorem signsD_len (z : Str) : (signsD z).length = z.length := by simp [signsD, Str.length]
theorem mem_signsD {z : Str} {d : PyData} (h : d ∈ signsD z) : ∃ c, c ∈ z.cps.toList ∧ d = .str ⟨#[c]⟩ := by
  unfold signsD at h
  obtain ⟨c, h1, h2⟩ := List.mem_map.mp h
  exact ⟨c, h1, h2.symm⟩
@[simp] theorem lLc_eq (src : SA) (j : Nat) (t : STe) (f : SE) (ρ : Rho) : lLc src j t f ρ = (src ρ).bind fun ds => if ds.length ≤ LIM then lcF j t f ρ ds else none := rfl
@[simp] theorem iR1_eq (f : SA) (ρ : Rho) : iR1 f ρ = (f ρ).bind fun ds => match ds with
  | [.int j] => if j ≤ 1000000 ∧ -1000000 ≤ j then some (rangeD 0 j.toNat) else none
  | _ => none := rfl
@[simp] theorem iR2_eq (f : SA) (ρ : Rho) : iR2 f ρ = (f ρ).bind fun ds => match ds with
  | [.int i, .int j] => if (j ≤ 1000000 ∧ -1000000 ≤ j) ∧ i ≤ 1000000 ∧ -1000000 ≤ i then some (rangeD i (j - i).toNat) else none
  | _ => none := rfl
def lstD : PyData → Option (List PyData)
  | .list ds => if ds.length ≤ LIM then some ds else none
  | _ => none
@[simp] theorem lstD_list (ds : List PyData) (h : ds.length ≤ LIM) : lstD (.list ds) = some ds := by simp [lstD, h]
@[simp] theorem iL_eq (f : SE) (ρ : Rho) : iL f ρ = (f ρ).bind lstD := by unfold iL lstD; cases f ρ <;> rfl
def tupD : PyData → Option (List PyData)
  | .tuple ds => if ds.length ≤ LIM then some ds else none
  | _ => none
@[simp] theorem tupD_tup (ds : List PyData) (h : ds.length ≤ LIM) : tupD (.tuple ds) = some ds := by simp [tupD, h]
@[simp] theorem iT_eq (f : SE) (ρ : Rho) : iT f ρ = (f ρ).bind tupD := by unfold iT tupD; cases f ρ <;> rfl
def sgD : PyData → Option (List PyData)
  | .str z => if z.length ≤ LIM then some (signsD z) else none
  | _ => none
@[simp] theorem sgD_str (z : Str) (h : z.length ≤ LIM) : sgD (.str z) = some (signsD z) := by simp [sgD, h]
@[simp] theorem iS_eq (f : SE) (ρ : Rho) : iS f ρ = (f ρ).bind sgD := by unfold iS sgD; cases f ρ <;> rfl
/-- an own list's changes -/
def ownL : Option Sl → Option (List PyData)
  | some (.own ds) => some ds
  | _ => none
@[simp] theorem ownL_own (ds : List PyData) : ownL (some (.own ds)) = some ds := rfl
@[simp] theorem sApp_eq (i : Nat) (f : SE) (ρ : Rho) : sApp i f ρ = outL (ownL ρ[i]?) fun ds => outV (f ρ) fun d => if dataD d = true ∧ ds.length ≤ LIM then .nx (ρ.set i (.own (ds ++ [d]))) else .no := by
  unfold sApp
  cases h : ρ[i]? with
  | none => rfl
  | some s =>
    cases s with
    | own ds => cases f ρ <;> rfl
    | _ => rfl
def outI (o : Option PyData) (k : Int → Out) : Out := match o with
  | some (.int i) => k i
  | _ => .no
@[simp] theorem outI_int (i : Int) (k : Int → Out) : outI (some (.int i)) k = k i := rfl
def outN (o : Option Nat) (k : Nat → Out) : Out := match o with
  | some i => k i
  | none => .no
@[simp] theorem outN_some (i : Nat) (k : Nat → Out) : outN (some i) k = k i := rfl
@[simp] theorem sPut_eq (i : Nat) (ix f : SE) (ρ : Rho) : sPut i ix f ρ = outL (ownL ρ[i]?) fun ds => outV (f ρ) fun d => outI (ix ρ) fun k => outN (ixN ds.length k) fun j => if dataD d = true then .nx (ρ.set i (.own (ds.set j d))) else .no := by
  unfold sPut
  cases h : ρ[i]? with
  | none => rfl
  | some s =>
    cases s with
    | own ds =>
      cases f ρ with
      | none => rfl
      | some d =>
        cases ix ρ with
        | none => rfl
        | some k =>
          cases k with
          | int k =>
            show (match ixN ds.length k with
              | some j => _
              | none => Out.no) = outN (ixN ds.length k) _
            cases ixN ds.length k <;> rfl
          | _ => rfl
    | _ => rfl
theorem ixN_of {n : Nat} {i : Int} (h0 : 0 ≤ i) (h1 : i < n) : ixN n i = some i.toNat := by
  unfold ixN
  rw [if_pos h0, if_pos h1]
/-! ### joined texts -/
theorem gJoin_strs (z : Str) (ys : List Str) (h : (ys.map (·.length)).sum + ys.length * z.length ≤ LIM) : gJoin (.str z) (.list (ys.map .str)) = some (.str (Txt.join z ys)) := by
  unfold gJoin
  simp only [strsD_map, Option.bind_some, h, if_true]
end RT
/-! More words: what is never reached, texts split. -/
namespace RT
open PySem PySem.Spec PyProof.Rows L2
def sNo : SS := fun _ => .no
@[simp] theorem sNo_eq (ρ : Rho) : sNo ρ = .no := rfl
def gSplit : PyData → PyData → Option (List PyData)
  | .str a, .str b => if 0 < b.length ∧ a.length + 2 ≤ LIM then some ((Txt.split a b).map .str) else none
  | _, _ => none
@[simp] theorem gSplit_str (a b : Str) (h : 0 < b.length) (h2 : a.length + 2 ≤ LIM) : gSplit (.str a) (.str b) = some ((Txt.split a b).map .str) := by
  simp [gSplit, h, h2]
def lOp (g : PyData → PyData → Option (List PyData)) (f1 f2 : SE) : SA := fun ρ => (f1 ρ).bind fun x => (f2 ρ).bind fun y => g x y
@[simp] theorem lOp_eq (g : PyData → PyData → Option (List PyData)) (f1 f2 : SE) (ρ : Rho) : lOp g f1 f2 ρ = (f1 ρ).bind fun x => (f2 ρ).bind fun y => g x y := rfl
section
variable {X : Cx} {K : PySem.W.Frag} {B : Bs} {W : XW} {e a b : Expr} {t t1 t2 : TE} {f f1 f2 : SE} {ta : TA} {sa : SA} {pos p : Pos} {st : Stmt}
theorem s_never : SemS X K B W st tNever sNo := ⟨ps_never, fun _ _ _ _ _ _ _ _ h => h.elim⟩
abbrev rSplit : V → List V → Hp → VK → Prop := fun x xs H Q => ∃ a b, x = .str a ∧ xs = [.str b] ∧ (b.length == 0) = false ∧ a.length + 2 ≤ sizeLine ∧ rNewStrs (Txt.split a b) H Q
theorem dq_strs {F : Hp} : ∀ ns : List Str, DqAll K F (ns.map V.str) (ns.map PyData.str)
  | [] => .nil
  | n :: ns => .cons (.str n) (dq_strs ns)
theorem split_ok (h1 : BOk K B t1 f1) (h2 : BOk K B t2 f2) : LOk K B (tM1 rSplit t1 t2) (lOp gSplit f1 f2) := fun R F H σ ρ ds E q Q k => by
  cases e1 : f1 ρ with
  | none => simp [e1] at q
  | some x =>
    cases e2 : f2 ρ with
    | none => simp [e1, e2] at q
    | some y =>
      have q' : gSplit x y = some ds := by simpa [e1, e2] using q
      unfold gSplit at q'
      split at q'
      · rename_i z y
        split at q'
        · rename_i hz
          cases q'
          refine h1 R F H σ ρ _ E e1 _ fun v H1 G1 g1 b1 => ⟨⟨z, b1.str⟩, ?_⟩
          refine h2 R G1 H1 σ ρ _ (E.grow g1) e2 _ fun w H2 G2 g2 b2 => ?_
          refine ⟨z, y, b1.str, by rw [b2.str], by simpa using (show y.length ≠ 0 by omega), lim_line hz.2, fun p hp => ?_⟩
          exact k p _ _ G2 ((g1.trans g2).beside hp) ((g1.trans g2).h.free hp) ((g1.trans g2).sub.free hp) upd_same (dq_strs _)
        · cases q'
      · cases q'
theorem sl_split {apos : Pos} (h1 : SemB X K B a t1 f1) (h2 : SemB X K B b t2 f2) (hs : starEach [b] X.env = [(false, eval b X.env)] := by rfl) (hbase : attributeBase a "split" X.env (eval a X.env) = eval a X.env := by rfl) (hline : (apos.endLine == pos.line) = true := by rfl) :
    SemL X K B (.Call (.Attribute a "split" apos) [b] [] pos) (tM1 rSplit t1 t2) (lOp gSplit f1 f2) := ⟨pe_split h1.pe h2.pe hs hbase hline, split_ok h1.ok h2.ok⟩
end
end RT
/-! ### loops that carry a state; data that can be compared -/
namespace RT
open PySem PySem.Spec PyProof.Rows L2
theorem forF_list {j : Nat} {body : SS} (R : Nat → Rho) : ∀ {ds : List PyData} (n : Nat), (∀ k d, ds[k]? = some d → body ((R (n + k)).set j (.val d)) = .nx (R (n + k + 1))) → forF (tg1 j) body ds (R n) = .nx (R (n + ds.length))
  | [], n, _ => rfl
  | d :: ds, n, h => by
    have h0 := h 0 d rfl
    rw [Nat.add_zero] at h0
    rw [forF_cons1, h0, thn_nx]
    have := forF_list R (ds := ds) (n + 1) fun k d' hd => by
      have := h (k + 1) d' (by simpa using hd)
      rw [show n + 1 + k = n + (k + 1) by omega]
      exact this
    rw [this, List.length_cons]
    congr 2
    omega
theorem forF_range {j : Nat} {body : SS} (R : Nat → Rho) (n : Nat) (h : ∀ k : Nat, k < n → body ((R k).set j (.val (.int (k : Int)))) = .nx (R (k + 1))) : forF (tg1 j) body (rangeD 0 n) (R 0) = .nx (R n) := by
  have := forF_list (j := j) (body := body) R (ds := rangeD 0 n) 0 fun k d hd => by
    have hk : k < n := by
      have := (List.getElem?_eq_some_iff.mp hd).1
      simpa using this
    have hd' : d = .int (k : Int) := by
      simp [rangeD, hk] at hd
      exact hd.symm
    rw [hd', Nat.zero_add]
    exact h k hk
  rw [this, rangeD_len, Nat.zero_add]
mutual
/-- data that == may look at -/
def okD : PyData → Bool
  | .str x => PyData.canLay0 (.str x)
  | .list l => okDs l
  | .tuple l => okDs l
  | .dict _ => false
  | _ => true
def okDs : List PyData → Bool
  | [] => true
  | x :: l => okD x && okDs l
end
mutual
theorem okD_lay : ∀ d, okD d = true → d.canLay0 = true
  | .none, _ => by simp [PyData.canLay0]
  | .bool _, _ => by simp [PyData.canLay0]
  | .int _, _ => by simp [PyData.canLay0]
  | .str x, h => by simpa [okD] using h
  | .list l, h => by
    have := okDs_lay l (by simpa [okD] using h)
    simpa [PyData.canLay0] using this
  | .tuple l, h => by
    have := okDs_lay l (by simpa [okD] using h)
    simpa [PyData.canLay0] using this
  | .dict _, h => by simp [okD] at h
theorem okDs_lay : ∀ l, okDs l = true → PyData.canLayAll0 l = true
  | [], _ => by simp [PyData.canLayAll0]
  | x :: l, h => by
    have h' : okD x = true ∧ okDs l = true := by simpa [okDs] using h
    simp [PyData.canLayAll0, okD_lay x h'.1, okDs_lay l h'.2]
end
theorem okDs_all {l : List PyData} : okDs l = l.all okD := by
  induction l with
  | nil => rfl
  | cons x l ih => simp [okDs, ih]
theorem okD_data {d : PyData} (h : okD d = true) : dataD d = true := by
  cases d <;> first | rfl | simp [okD] at h
theorem gEq_same {l : List PyData} (h : okDs l = true) (hd : (PyData.list l).depth ≤ 64) : gEq (.list l) (.list l) = some (.bool true) := by
  have h1 := okD_lay (.list l) (by simpa [okD] using h)
  have h2 : SeqAt.shaped (.list l) = true := by simp [SeqAt.shaped, h1, hd]
  show gEqD (.list l) (.list l) = _
  unfold gEqD
  rw [if_pos ⟨rfl, rfl, h2, h2⟩, SeqAt.eqv_refl _ h1]
theorem gNe_same {l : List PyData} (h : okDs l = true) (hd : (PyData.list l).depth ≤ 64) : gNe (.list l) (.list l) = some (.bool false) := by
  have h1 := okD_lay (.list l) (by simpa [okD] using h)
  have h2 : SeqAt.shaped (.list l) = true := by simp [SeqAt.shaped, h1, hd]
  show gNeD (.list l) (.list l) = _
  unfold gNeD
  rw [if_pos ⟨rfl, rfl, h2, h2⟩, SeqAt.eqv_refl _ h1]
  rfl
theorem depthAll_le {n : Nat} : ∀ {l : List PyData}, (∀ d ∈ l, d.depth ≤ n) → PyData.depthAll l ≤ n
  | [], _ => by simp [PyData.depthAll]
  | d :: l, h => by
    have h1 := h d List.mem_cons_self
    have h2 := depthAll_le fun e he => h e (List.mem_cons_of_mem _ he)
    simp only [PyData.depthAll]
    omega
end RT
/-! Objects of the program: methods that read, that change, that raise. -/
namespace RT
open PySem PySem.Spec PyProof.Rows L2
/-! ### what a call may do -/
inductive Res where
  | no | ret (d : PyData) | exc (c : Str)
def Res.goes (r : Res) (A : PyData → Prop) (B : Str → Prop) : Prop := match r with
  | .no => False
  | .ret d => A d
  | .exc c => B c
def Res.ok : Res → Option PyData
  | .ret d => some d
  | _ => none
/-- what is raised, by the name of its own class -/
abbrev wx (K : PySem.W.Frag) (w : WX) : XW := fun c σ H => w (.ref (He.ga K c)) none σ H
abbrev WxNo : WX := fun _ _ _ _ => False
def EXOk (K : PySem.W.Frag) (B : Bs) (w : WX) (t : TE) (f : Rho → Res) : Prop := ∀ (R : Rg) (F H : Hp) (σ : L2.St) (ρ : Rho) (Q : VK), EnvOk K B R F H σ ρ →
  (f ρ).goes (fun d => ∀ v H' G, Grow H F H' G → Rp K G v d → Q v H') (fun c => ∀ H' G, Grow H F H' G → wx K w c σ H') → t σ H Q
structure SemX (X : Cx) (K : PySem.W.Frag) (B : Bs) (w : WX) (e : Expr) (t : TE) (f : Rho → Res) : Prop where
  pe : PE X e t
  ok : EXOk K B w t f
def sDropX (f : Rho → Res) : SS := fun ρ => match f ρ with
  | .no => .no
  | .ret _ => .nx ρ
  | .exc c => .ex c ρ
def sSetX (i : Nat) (f : Rho → Res) : SS := fun ρ => match f ρ with
  | .no => .no
  | .ret d => .nx (ρ.set i (.val d))
  | .exc c => .ex c ρ
def sEx (c : Str) : SS := fun ρ => .ex c ρ
section
variable {X : Cx} {K : PySem.W.Frag} {B : Bs} {w : WX} {e : Expr} {te : TE} {f : Rho → Res} {pos : Pos}
theorem dropX_ok (k : EXOk K B w te f) : SSOk K B (wx K w) (tDrop te) (sDropX f) := fun Z R F H σ ρ D s hg => by
  unfold sDropX at hg
  refine k R F H σ ρ _ s.env ?_
  cases e : f ρ with
  | no => rw [e] at hg; exact hg.elim
  | ret d => rw [e] at hg; exact fun v H' G g _ => hg σ H' R G (s.grow g) g.f
  | exc c => rw [e] at hg; exact fun H' G g => hg σ H' R G (s.grow g) g.f
theorem setX_ok (i : Nat) (k : EXOk K B w te f) : SSOk K B (wx K w) (tAsg te (gName i)) (sSetX i f) := fun Z R F H σ ρ D s hg => by
  unfold sSetX at hg
  refine k R F H σ ρ _ s.env ?_
  cases e : f ρ with
  | no => rw [e] at hg; exact hg.elim
  | ret d => rw [e] at hg; exact fun v H' G g r => hg _ H' R G ((s.grow g).setV i r) g.f
  | exc c => rw [e] at hg; exact fun H' G g => hg σ H' R G (s.grow g) g.f
theorem s_exprX (he : SemX X K B w e te f) (hs : swapsWith e none pos.line X.env = pure false := by rfl) : SemS X K B (wx K w) (.Expr e pos) (tDrop te) (sDropX f) := ⟨ps_expr he.pe hs, dropX_ok he.ok⟩
theorem s_setX (i : Nat) {x : Str} {pos' : Pos} (hN : X.N.Nodup) (he : SemX X K B w e te f) (hi : X.N[i]? = some x := by rfl) (hx : Loc X.env.scope x := by first | exact Or.inl rfl | exact Or.inr rfl) (hs : swapsWith e (some (.Name x pos')) pos.line X.env = pure false := by rfl)
    (hf : X.fn x = true ∨ X.env.scope.names.lookup x = some .local := by first | exact .inl rfl | exact .inr rfl) : SemS X K B (wx K w) (.Assign [.Name x pos'] e pos) (tAsg te (gName i)) (sSetX i f) := ⟨ps_set hN hi hx he.pe hs hf, setX_ok i he.ok⟩
/-- an own class of exceptions -/
structure ExT (K : PySem.W.Frag) (mg : Str → Option Value) (c : Str) : Prop where
  g : mg c = some (.ref (He.ga K c))
  x : PySem.W.excIn K (He.ga K c) He.veBase "ValueError.__new__" = true
  k : PySem.W.keepIn K (.ref (He.ga K c)) = true
  b : PySem.W.subIn K (.ref (He.ga K c)) (.type "BaseException") = some true
  t : PySem.W.typeIn K (.ref (He.ga K c)) = some (.type "type")
theorem s_raise {x m : Str} {j : Nat} {p p2 pos2 : Pos} (hc : X.calm = true) (tk : Takes X w) (T : ExT X.K X.mg x) (hg : Gl X x := by rfl) (hdb : (x == ("__debug__" : Str)) = false := by decide) (hK : X.K = K := by rfl) :
    SemS X K B (wx K w) (.Raise (some (.Call (.Name x p) [.Constant (.str m) j p2] [] pos)) none pos2) (fun _ σ H => w (.ref (He.ga K x)) none σ H) (sEx x) := by
  subst hK
  exact ⟨ps_raise hc tk (pmk_own PySem.F.excBase_ValueError T.x T.g T.k (raises_own T.b T.t) hg hdb), fun Z R F H σ ρ D s hg => hg σ H R F s (Same.refl F)⟩
end
/-! ### a method's call, what is raised wished at the caller's slots -/
def tMethS (C : Addr) (m : Str) (sp : Sp) (E : L2.St → XK) (ta : TE) (t : TA) : TE := fun σ H Q => ta σ H fun x H1 => ∃ a dx fs, x = .ref a ∧ H1 a = some (.ins C dx fs) ∧ fs.lookup m = none ∧ t σ H1 fun vs H2 => sp (x :: vs) H2 Q (E σ)
theorem pe_methW {X : Cx} {w : WX} {C f : Addr} {fd : FuncData} {ps : List Str} {m : Str} {k j : Nat} {sp : Sp} {o e : Expr} {es : List Expr} {ta : TE} {t : TA} {apos pos : Pos} {pl : Sem Bool} (tk : Takes X w) (ho : PE X o ta) (cl : Cls X.K C) (me : Meth X.K C m f)
    (G : FnOk X.prog X.w X.K X.mg X.base (L2.CX X.prog X.w) k f fd ps sp) (hr : Room j X.A) (hk : k ≤ j) (bd : Binds X.K fd ps []) (hp : PA X (e :: es) t)
    (h1 : starEach (e :: es) X.env = (false, eval e X.env) :: starEach es X.env := by rfl) (h2 : (backTo pos (starEach es X.env)).any (·.1) = false := by rfl)
    (h3 : eval (.Call (.Attribute o m apos) (e :: es) [] pos) X.env = (eval o X.env >>= fun ov => standAt apos.atName >>= fun _ => holding [ov] (getMethod ov m pl) >>= fun r => callWith pos r.1 r.2 (backTo pos (starEach (e :: es) X.env)) (backToKw pos (keywordEach [] X.env))) := by rfl) :
    PE X (.Call (.Attribute o m apos) (e :: es) [] pos) (tMethS C m sp (WE w) ta t) :=
  ⟨fun pins s σ H Q I h => PySem.W.methodCall_KW (pl := pl) (thn (ho.run pins s σ H _ I h) fun u s1 ⟨x, Ha, Ia, rx, a, dx, fs, ex, ea, lk, q⟩ => by
    cases ex
    cases rx
    exact getmeth_ok Ia ea cl me lk (PySem.W.callWith_K (first := [.ref a]) (h₀ := X.base) Ia.ok.mod.kin me.kp (thn (hp.run pos pins s1 σ Ha _ Ia q) fun us s2 ⟨vs, Hb, Ib, rv, q2⟩ => ⟨Ib.kIn, run_fnS (us := .ref a :: us) (vs := .ref a :: vs) G (hr.mono hk) bd (passAt tk σ) Ib (.cons rfl rv) q2⟩) h1 h2)) h3⟩
end RT
/-! Objects in slots: made, read, changed. -/
namespace RT
open PySem PySem.Spec PyProof.Rows L2
/-- a kind of objects -/
structure Kd (S : Type) where
  inj : S → ObjSt
  prj : ObjSt → Option S
  ok : ∀ {o : ObjSt} {s : S}, prj o = some s → o = inj s
  pi : ∀ s, prj (inj s) = some s
/-- of a class, with fields -/
structure KdC {S : Type} (kd : Kd S) (C : Str) (fl : List Str) : Prop where
  ins : ∀ {K : PySem.W.Frag} {F R : Hp} {a : Addr} {s : S}, ObjAt K F R a (kd.inj s) → ∃ dx fs, R a = some (.ins (He.ga K C) dx fs) ∧ ∀ n, n ∈ fs.map (·.1) → n ∈ fl
abbrev kB : Kd BookSt where
  inj := .book
  prj := fun o => match o with
    | .book β => some β
    | _ => none
  ok := fun {o s} h => by cases o <;> simp at h; subst h; rfl
  pi := fun _ => rfl
abbrev kD : Kd DealSt where
  inj := .deal
  prj := fun o => match o with
    | .deal δ => some δ
    | _ => none
  ok := fun {o s} h => by cases o <;> simp at h; subst h; rfl
  pi := fun _ => rfl
abbrev kW : Kd (List Cell) where
  inj := .row
  prj := fun o => match o with
    | .row δ => some δ
    | _ => none
  ok := fun {o s} h => by cases o <;> simp at h; subst h; rfl
  pi := fun _ => rfl
abbrev kT : Kd (List (Int × PyData)) where
  inj := .dct
  prj := fun o => match o with
    | .dct δ => some δ
    | _ => none
  ok := fun {o s} h => by cases o <;> simp at h; subst h; rfl
  pi := fun _ => rfl
abbrev kA : Kd ObjSt where
  inj := fun o => o
  prj := some
  ok := fun h => Option.some.inj h
  pi := fun _ => rfl
def flB : List Str := ["skills", "limits", "rests", "stretches", "needs"]
def flD : List Str := "limits" :: nmD
theorem kcB : KdC kB "Book" flB := ⟨fun {K F R a s} h => by
  obtain ⟨dx, dS, dL, dR, dT, dN, pe, sh, h⟩ := h
  exact ⟨dx, _, h.ob, fun n hn => hn⟩⟩
theorem kcD : KdC kD "Deal" flD := ⟨fun {K F R a s} h => by
  obtain ⟨dx, dL, as, h⟩ := h
  refine ⟨dx, _, h.ob, fun n hn => ?_⟩
  obtain ⟨⟨f, v⟩, hm, rfl⟩ := List.mem_map.mp hn
  rcases List.mem_cons.mp hm with e | hm
  · cases e; exact List.mem_cons_self
  · exact List.mem_cons_of_mem _ (List.of_mem_zip hm).1⟩
theorem lookup_no {α : Type} {m : Str} : ∀ {fs : List (Str × α)}, (fs.map (·.1)).all (fun f => !(m == f)) = true → fs.lookup m = none
  | [], _ => rfl
  | (f, v) :: fs, h => by
    simp only [List.map_cons, List.all_cons, Bool.and_eq_true, Bool.not_eq_true'] at h
    rw [List.lookup_cons, h.1]
    exact lookup_no h.2
/-- no field has the method's name -/
def noFl (fl : List Str) (m : Str) : Prop := fl.all (fun f => !(m == f)) = true
theorem noFl_sub {fl : List Str} {m : Str} {ns : List Str} (h : ∀ n, n ∈ ns → n ∈ fl) (hn : noFl fl m) : ns.all (fun f => !(m == f)) = true := by
  unfold noFl at hn
  rw [List.all_eq_true] at hn ⊢
  exact fun n hm => hn n (h n hm)
/-! ### promises -/
inductive RMG (S : Type) where
  | no | done (s : S) (d : PyData) | exc (c : Str)
abbrev RM := RMG BookSt
def RMG.goes {S : Type} (r : RMG S) (A : S → PyData → Prop) (B : Str → Prop) : Prop := match r with
  | .no => False
  | .done β d => A β d
  | .exc c => B c
/-- a reading method (or function): the object first -/
def spRG {S : Type} (K : PySem.W.Frag) (kd : Kd S) (Fr : S → List PyData → Res) : Sp := fun vs H Q E => ∃ (G R : Hp) (a : Addr) (β : S) (us : List V) (ds : List PyData), vs = .ref a :: us ∧ Same G H ∧ Same R H ∧ Apart R G ∧ ObjAt K G R a (kd.inj β) ∧ RpAll K G us ds ∧
  (Fr β ds).goes (fun d => ∀ v H' G', Grow H G H' G' → Rp K G' v d → Q v H') (fun c => ∀ H' G', Grow H G H' G' → E (.ref (He.ga K c)) none H')
/-- one that may change the object -/
def spMG {S : Type} (K : PySem.W.Frag) (kd : Kd S) (Fm : S → List PyData → RMG S) : Sp := fun vs H Q E => ∃ (G R : Hp) (a : Addr) (β : S) (us : List V) (ds : List PyData), vs = .ref a :: us ∧ Same G H ∧ Same R H ∧ Apart R G ∧ ObjAt K G R a (kd.inj β) ∧ RpAll K G us ds ∧
  (Fm β ds).goes (fun β' d => ∀ v H' G' R', GrowM ⟨R, H, G⟩ H' G' → Same R' H' → Apart R' G' → (∀ x, R' x ≠ none → R x ≠ none ∨ H x = none) → ObjAt K G' R' a (kd.inj β') → Rp K G' v d → Q v H') (fun c => ∀ H' G', Grow H G H' G' → E (.ref (He.ga K c)) none H')
/-- one that may change the object, others being read -/
def spMB (K : PySem.W.Frag) (Fm : (Addr → Option ObjSt) → ObjSt → List PyData → RMG ObjSt) : Sp := fun vs H Q E => ∃ (B : Bs) (G R : Hp) (a : Addr) (o : ObjSt) (us : List V) (ds : List PyData), vs = .ref a :: us ∧ Same G H ∧ Same R H ∧ Apart R G ∧ BsOk K B G H ∧ Apart R B.h ∧ ObjAt K G R a o ∧ RpAll K G us ds ∧
  (Fm B.bk o ds).goes (fun o' d => ∀ v H' G' R', GrowM ⟨R, H, G⟩ H' G' → Same R' H' → Apart R' G' → (∀ x, R' x ≠ none → R x ≠ none ∨ H x = none) → ObjAt K G' R' a o' → Rp K G' v d → Q v H') (fun c => ∀ H' G', Grow H G H' G' → E (.ref (He.ga K c)) none H')
def spR (K : PySem.W.Frag) (Fr : BookSt → List PyData → Res) : Sp := fun vs H Q E => ∃ (G R : Hp) (a : Addr) (β : BookSt) (us : List V) (ds : List PyData), vs = .ref a :: us ∧ Same G H ∧ Same R H ∧ Apart R G ∧ BookAt K G R a β ∧ RpAll K G us ds ∧
  (Fr β ds).goes (fun d => ∀ v H' G', Grow H G H' G' → Rp K G' v d → Q v H') (fun c => ∀ H' G', Grow H G H' G' → E (.ref (He.ga K c)) none H')
def spM (K : PySem.W.Frag) (Fm : BookSt → List PyData → RM) : Sp := fun vs H Q E => ∃ (G R : Hp) (a : Addr) (β : BookSt) (us : List V) (ds : List PyData), vs = .ref a :: us ∧ Same G H ∧ Same R H ∧ Apart R G ∧ BookAt K G R a β ∧ RpAll K G us ds ∧
  (Fm β ds).goes (fun β' d => ∀ v H' G' R', GrowM ⟨R, H, G⟩ H' G' → Same R' H' → Apart R' G' → (∀ x, R' x ≠ none → R x ≠ none ∨ H x = none) → BookAt K G' R' a β' → Rp K G' v d → Q v H') (fun c => ∀ H' G', Grow H G H' G' → E (.ref (He.ga K c)) none H')
theorem spR_eq (K : PySem.W.Frag) (Fr : BookSt → List PyData → Res) : spRG K kB Fr = spR K Fr := rfl
theorem spM_eq (K : PySem.W.Frag) (Fm : BookSt → List PyData → RM) : spMG K kB Fm = spM K Fm := rfl
def addrOf : PyData → Option Addr
  | .dict [(.int a, .none)] => some a.toNat
  | _ => none
theorem addrOf_ok {d : PyData} {a : Addr} (h : addrOf d = some a) {K : PySem.W.Frag} {F : Hp} {v : V} (r : Rp K F v d) : v = .ref a := by
  unfold addrOf at h
  split at h
  · rename_i i
    cases h
    rcases r with r | ⟨b, rfl, e⟩ | ⟨b, ns, _, e, _⟩
    · cases r
    · unfold refD at e
      cases e
      rfl
    · cases e
  · cases h
/-- the object that slot i names -/
def rcv {S : Type} (kd : Kd S) (bk : Addr → Option ObjSt) (ρ : Rho) (i : Nat) : Option S := match ρ[i]? with
  | some (.obj o) => kd.prj o
  | some (.val d) => ((addrOf d).bind bk).bind kd.prj
  | _ => none
theorem rcv_ok {S : Type} {kd : Kd S} {K : PySem.W.Frag} {B : Bs} {R : Rg} {F H : Hp} {σ : L2.St} {ρ : Rho} {i : Nat} {β : S} (E : EnvOk K B R F H σ ρ) (h : rcv kd B.bk ρ i = some β) : ∃ a R', σ[i]? = some (some (.ref a)) ∧ ObjAt K F R' a (kd.inj β) ∧ Same R' H ∧ Apart R' F := by
  unfold rcv at h
  split at h
  · rename_i o e
    have := kd.ok h
    subst this
    obtain ⟨a, h1, h2⟩ := E.obj i _ e
    exact ⟨a, R i, h1, h2, E.rh i, E.rF i⟩
  · rename_i d e
    cases ha : addrOf d with
    | none => rw [ha] at h; cases h
    | some a =>
      rw [ha, Option.bind_some] at h
      cases ho : B.bk a with
      | none => rw [ho] at h; cases h
      | some o =>
        rw [ho, Option.bind_some] at h
        have := kd.ok h
        subst this
        obtain ⟨v, h1, h2⟩ := E.val i d e
        have := addrOf_ok ha h2
        subst this
        exact ⟨a, B.h, h1, (E.bo a _ ho).mono E.bs (Same.refl _), E.bh, E.bF⟩
  · cases h
theorem BookAt.ins {K : PySem.W.Frag} {F R H : Hp} {a : Addr} {β : BookSt} (h : BookAt K F R a β) (e : Same R H) : ∃ dx dS dL dR dT dN, H a = some (.ins (He.ga K "Book") dx (bkFs dS dL dR dT dN)) := by
  obtain ⟨dx, dS, dL, dR, dT, dN, pe, sh, h⟩ := h
  exact ⟨dx, dS, dL, dR, dT, dN, e _ _ h.ob⟩
def xMeth {S : Type} (kd : Kd S) (bk : Addr → Option ObjSt) (i : Nat) (Fr : S → List PyData → Res) (sa : SA) : Rho → Res := fun ρ => match rcv kd bk ρ i, sa ρ with
  | some β, some ds => Fr β ds
  | _, _ => .no
def eMeth {S : Type} (kd : Kd S) (bk : Addr → Option ObjSt) (i : Nat) (Fr : S → List PyData → Res) (sa : SA) : SE := fun ρ => (xMeth kd bk i Fr sa ρ).ok
def bkNo (m : Str) : Prop := ∀ dS dL dR dT dN, (bkFs dS dL dR dT dN).lookup m = none
theorem bkNo_of {m : Str} (h : (["skills", "limits", "rests", "stretches", "needs"] : List Str).all (fun f => !(m == f)) = true) : bkNo m := fun dS dL dR dT dN => by
  simp only [List.all_cons, List.all_nil, Bool.and_true, Bool.and_eq_true, Bool.not_eq_true'] at h
  obtain ⟨h1, h2, h3, h4, h5⟩ := h
  simp [bkFs, List.lookup, h1, h2, h3, h4, h5]
section
variable {S : Type} {kd : Kd S} {C : Str} {fl : List Str} {X : Cx} {K : PySem.W.Frag} {B : Bs} {w : WX} {e : Expr} {ta : TA} {sa : SA} {i : Nat} {m : Str} {Fr : S → List PyData → Res}
theorem methX_ok (kc : KdC kd C fl) (hn : noFl fl m) (ha : AOk K B ta sa) : EXOk K B w (tMethS (He.ga K C) m (spRG K kd Fr) (WE w) (tVar i) ta) (xMeth kd B.bk i Fr sa) := fun R F H σ ρ Q E q => by
  unfold xMeth at q
  cases e1 : rcv kd B.bk ρ i with
  | none => rw [e1] at q; exact (show False from q).elim
  | some β =>
    cases e2 : sa ρ with
    | none => rw [e1, e2] at q; exact (show False from q).elim
    | some ds =>
      rw [e1, e2] at q
      obtain ⟨a, R', s1, bA, sR, ap⟩ := rcv_ok E e1
      obtain ⟨dx, fs, ho, hf⟩ := kc.ins bA
      refine ⟨.ref a, s1, a, dx, _, rfl, sR _ _ ho, lookup_no (noFl_sub hf hn), ?_⟩
      refine ha _ F H σ ρ ds E e2 _ fun vs H1 G1 g1 r1 => ?_
      refine ⟨G1, R', a, β, vs, ds, rfl, g1.sub, sR.trans g1.h, g1.apart sR ap, bA.mono g1.f (Same.refl _), r1, ?_⟩
      cases e3 : Fr β ds with
      | no => simp only [e3] at q; exact (show False from q).elim
      | ret d => simp only [e3] at q ⊢; exact fun v H' G' g r => q v H' G' (g1.trans g) r
      | exc c => simp only [e3] at q ⊢; exact fun H' G' g => q H' G' (g1.trans g)
theorem meth_okE (kc : KdC kd C fl) (hn : noFl fl m) (ha : AOk K B ta sa) : EOk K B (tMeth (He.ga K C) m (spRG K kd Fr) [] E0 (tVar i) ta) (eMeth kd B.bk i Fr sa) := fun R F H σ ρ d E q Q k => by
  unfold eMeth xMeth at q
  cases e1 : rcv kd B.bk ρ i with
  | none => rw [e1] at q; cases q
  | some β =>
    cases e2 : sa ρ with
    | none => rw [e1, e2] at q; cases q
    | some ds =>
      rw [e1, e2] at q
      obtain ⟨a, R', s1, bA, sR, ap⟩ := rcv_ok E e1
      obtain ⟨dx, fs, ho, hf⟩ := kc.ins bA
      refine ⟨.ref a, s1, a, dx, _, rfl, sR _ _ ho, lookup_no (noFl_sub hf hn), ?_⟩
      refine ha _ F H σ ρ ds E e2 _ fun vs H1 G1 g1 r1 => ?_
      rw [List.append_nil]
      refine ⟨G1, R', a, β, vs, ds, rfl, g1.sub, sR.trans g1.h, g1.apart sR ap, bA.mono g1.f (Same.refl _), r1, ?_⟩
      cases e3 : Fr β ds with
      | no => simp [e3, Res.ok] at q
      | ret d' =>
        simp [e3, Res.ok] at q
        subst q
        exact fun v H' G' g r => k v H' G' (g1.trans g) r
      | exc c => simp [e3, Res.ok] at q
end
/-! ### an object is made, changed -/
/-- a slot's object -/
def slO {S : Type} (kd : Kd S) : Option Sl → Option S
  | some (.obj o) => kd.prj o
  | _ => none
theorem slO_ok {S : Type} {kd : Kd S} {x : Option Sl} {s : S} (h : slO kd x = some s) : x = some (.obj (kd.inj s)) := by
  unfold slO at h
  split at h
  · rw [kd.ok h]
  · cases h
def updR (R : Rg) (i : Nat) (Rn : Hp) : Rg := fun j => if j = i then Rn else R j
theorem updR_same {R : Rg} {i : Nat} {Rn : Hp} : updR R i Rn i = Rn := if_pos rfl
theorem updR_ne {R : Rg} {i j : Nat} {Rn : Hp} (h : j ≠ i) : updR R i Rn j = R j := if_neg h
def sMkB (i : Nat) : SS := fun ρ => .nx (ρ.set i (.obj (.book ⟨[], []⟩)))
def sMut {S : Type} (kd : Kd S) (i : Nat) (Fm : S → List PyData → RMG S) (sa : SA) : SS := fun ρ => match slO kd ρ[i]?, sa ρ with
  | some β, some ds => (match Fm β ds with
    | .no => .no
    | .done β' _ => .nx (ρ.set i (.obj (kd.inj β')))
    | .exc c => .ex c ρ)
  | _, _ => .no
/-- x = o.m(..): slot j gets what comes back -/
def sMutS {S : Type} (kd : Kd S) (i j : Nat) (Fm : S → List PyData → RMG S) (sa : SA) : SS := fun ρ => match slO kd ρ[i]?, sa ρ with
  | some β, some ds => (match Fm β ds with
    | .no => .no
    | .done β' d => .nx ((ρ.set i (.obj (kd.inj β'))).set j (.val d))
    | .exc c => .ex c ρ)
  | _, _ => .no
theorem EnvOk.setO {K : PySem.W.Frag} {B : Bs} {R : Rg} {R' F G H H' : Hp} {σ : L2.St} {ρ : Rho} {i : Nat} {a : Addr} {o : ObjSt} {x : Option V} (E : EnvOk K B R F H σ ρ) (hx : i < ρ.length → (σ.set i x)[i]? = some (some (.ref a)))
    (f : Same F G) (sub : Same G H') (hB : Same B.h H') (bF : Apart B.h G) (rh : Same R' H') (rF : Apart R' G) (rB : Apart R' B.h) (oth : ∀ j, j ≠ i → Same (R j) H' ∧ Apart (R j) G ∧ Apart R' (R j)) (hO : ObjAt K G R' a o)
    (hoa : i = 0 → ∀ a0, B.o = some a0 → a = a0) (own : ∀ p vs, H p = some (.lst vs) → F p = none → (∀ j, R j p = none) → H' p = some (.lst vs) ∧ G p = none ∧ R' p = none) : EnvOk K B (updR R i R') G H' (σ.set i x) (ρ.set i (.obj o)) where
  bs := E.bs.trans f
  bh := hB
  bF := bF
  bo := E.bo
  ex := sub
  rh := fun j => by
    by_cases h : j = i
    · subst h; rw [updR_same]; exact rh
    · rw [updR_ne h]; exact (oth j h).1
  rF := fun j => by
    by_cases h : j = i
    · subst h; rw [updR_same]; exact rF
    · rw [updR_ne h]; exact (oth j h).2.1
  rB := fun j => by
    by_cases h : j = i
    · subst h; rw [updR_same]; exact rB
    · rw [updR_ne h]; exact E.rB j
  rr := fun j k hjk => by
    by_cases h : j = i
    · subst h
      rw [updR_same, updR_ne (Ne.symm hjk)]
      exact (oth k (Ne.symm hjk)).2.2
    · by_cases h2 : k = i
      · subst h2
        rw [updR_same, updR_ne hjk]
        exact (oth j hjk).2.2.sym
      · rw [updR_ne h, updR_ne h2]; exact E.rr j k hjk
  len := by simp [E.len]
  val := fun j d h => by
    by_cases hij : i = j
    · subst hij
      by_cases hj : i < ρ.length
      · rw [List.getElem?_set_self hj] at h
        cases h
      · rw [List.getElem?_eq_none (by simpa using hj)] at h
        cases h
    · rw [List.getElem?_set_ne hij] at h ⊢
      obtain ⟨v, h1, h2⟩ := E.val j d h
      exact ⟨v, h1, h2.mono f⟩
  own := fun j ds h => by
    by_cases hij : i = j
    · subst hij
      by_cases hj : i < ρ.length
      · rw [List.getElem?_set_self hj] at h
        cases h
      · rw [List.getElem?_eq_none (by simpa using hj)] at h
        cases h
    · rw [List.getElem?_set_ne hij] at h ⊢
      obtain ⟨p, vs, h1, h2, h3, h4, h5, h6⟩ := E.own j ds h
      obtain ⟨k1, k2, k3⟩ := own p vs h2 h4 h5
      refine ⟨p, vs, h1, k1, dpa_mono f ds h3, k2, fun k => ?_, h6⟩
      by_cases hk : k = i
      · subst hk; rw [updR_same]; exact k3
      · rw [updR_ne hk]; exact h5 k
  dis := fun j k ds es p hjk h1 h2 h3 h4 => by
    by_cases hij : i = j
    · subst hij
      by_cases hj : i < ρ.length
      · rw [List.getElem?_set_self hj] at h1
        cases h1
      · rw [List.getElem?_eq_none (by simpa using hj)] at h1
        cases h1
    · by_cases hik : i = k
      · subst hik
        by_cases hj : i < ρ.length
        · rw [List.getElem?_set_self hj] at h2
          cases h2
        · rw [List.getElem?_eq_none (by simpa using hj)] at h2
          cases h2
      · rw [List.getElem?_set_ne hij] at h1 h3
        rw [List.getElem?_set_ne hik] at h2 h4
        exact E.dis j k ds es p hjk h1 h2 h3 h4
  obj := fun j o' h => by
    by_cases hij : i = j
    · subst hij
      by_cases hj : i < ρ.length
      · rw [List.getElem?_set_self hj] at h
        cases h
        exact ⟨a, hx hj, by rw [updR_same]; exact hO⟩
      · rw [List.getElem?_eq_none (by simpa using hj)] at h
        cases h
    · rw [List.getElem?_set_ne hij] at h ⊢
      obtain ⟨b, h1, h2⟩ := E.obj j o' h
      exact ⟨b, h1, by rw [updR_ne (Ne.symm hij)]; exact h2.mono f (Same.refl _)⟩
  oa := fun a0 q o' a' h hs => by
    by_cases hij : i = 0
    · subst hij
      by_cases hj : 0 < ρ.length
      · rw [hx hj] at hs
        cases hs
        exact hoa rfl a0 q
      · rw [List.getElem?_eq_none (by simpa using hj)] at h
        cases h
    · rw [List.getElem?_set_ne hij] at h hs
      exact E.oa a0 q o' a' h hs
theorem frO {ρ : Rho} {σ : L2.St} {i : Nat} {o : ObjSt} {x : Option V} {h : Hp} (fr : ∀ (j : Nat) (ds : List PyData) (p : Addr), ρ[j]? = some (.own ds) → σ[j]? = some (some (.ref p)) → h p = none) :
    ∀ (j : Nat) (ds : List PyData) (p : Addr), (ρ.set i (.obj o))[j]? = some (.own ds) → (σ.set i x)[j]? = some (some (.ref p)) → h p = none := fun j ds p h1 h2 => by
  by_cases hij : i = j
  · subst hij
    by_cases hj : i < ρ.length
    · rw [List.getElem?_set_self hj] at h1
      cases h1
    · rw [List.getElem?_eq_none (by simpa using hj)] at h1
      cases h1
  · rw [List.getElem?_set_ne hij] at h1 h2
    exact fr j ds p h1 h2
theorem same_set {σ : L2.St} {i : Nat} {a : Addr} (hs : σ[i]? = some (some (V.ref a))) : σ.set i (some (.ref a)) = σ := by
  obtain ⟨h1, h2⟩ := List.getElem?_eq_some_iff.mp hs
  rw [← h2]
  exact List.set_getElem_self h1
/-- behind a change of the object -/
theorem StOk.mut {K : PySem.W.Frag} {B : Bs} {Z : St0} {R : Rg} {F H R' G' H' : Hp} {σ : L2.St} {ρ : Rho} {i : Nat} {a : Addr} {o' : ObjSt} (s : StOk K B Z R F H σ ρ) (hs : σ[i]? = some (some (.ref a)))
    (g : GrowM ⟨R i, H, F⟩ H' G') (rh : Same R' H') (rF : Apart R' G') (rn : ∀ x, R' x ≠ none → R i x ≠ none ∨ H x = none) (ho : i = 0 → ∀ a0, B.o = some a0 → a = a0) (bA : ObjAt K G' R' a o') : StOk K B Z (updR R i R') G' H' σ (ρ.set i (.obj o')) := by
  have e := same_set hs
  have zh : ∀ x, Z.h x ≠ none → H x ≠ none := s.gr.al
  have rz : ∀ x, Z.m x = none → Z.h x ≠ none → R i x = none := fun x h1 h2 => by
    cases hR : R i x with
    | none => rfl
    | some o => rcases s.fo i x (by rw [hR]; intro z; cases z) with h | h
                · exact absurd h1 h
                · exact absurd h h2
  refine ⟨?_, ⟨fun x o h1 h2 => ?_, fun x h => g.al x (zh x h), s.gr.f.trans g.f, g.sub, fun x h1 h2 => g.no x (s.gr.no x h1 h2) (zh x h2)⟩, ?_, fun j x h => ?_⟩
  · have := s.env.setO (i := i) (x := some (.ref a)) (R' := R') (G := G') (H' := H') (o := o') (fun hj => by rw [List.getElem?_set_self (by rw [← s.env.len]; exact hj)]) g.f g.sub
      (fun x o h => g.h x o (by cases hR : R i x with
        | none => exact hR
        | some u => have := s.env.rB i x (by rw [hR]; intro z; cases z); rw [this] at h; cases h) (s.env.bh x o h))
      (fun x h => g.no x (s.env.bF x h) fun z => h (s.env.bh.free z)) rh rF
      (fun x h => by
        rcases rn x h with z | z
        · exact s.env.rB i x z
        · exact s.env.bh.free z)
      (fun j hj => ⟨fun x o h => g.h x o (by cases hR : R i x with
        | none => exact hR
        | some u => have := s.env.rr i j (Ne.symm hj) x (by rw [hR]; intro z; cases z); rw [this] at h; cases h) (s.env.rh j x o h),
        fun x h => g.no x (s.env.rF j x h) fun z => h ((s.env.rh j).free z),
        fun x h => by
          rcases rn x h with z | z
          · exact s.env.rr i j (Ne.symm hj) x z
          · exact (s.env.rh j).free z⟩) bA ho
      (fun p vs h1 h2 h3 => ⟨g.h p _ (h3 i) h1, g.no p h2 (by show H p ≠ none; rw [h1]; intro z; cases z), by
        cases hR : R' p with
        | none => rfl
        | some u => rcases rn p (by rw [hR]; intro z; cases z) with z | z
                    · exact absurd (h3 i) z
                    · rw [h1] at z; cases z⟩)
    rw [e] at this
    exact this
  · have h0 : Z.h x ≠ none := by rw [h2]; intro z; cases z
    exact g.h x o (rz x h1 h0) (s.gr.h x o h1 h2)
  · have := frO (i := i) (o := o') (x := some (.ref a)) s.fr
    rw [e] at this
    exact this
  · by_cases hj : j = i
    · subst hj
      rw [updR_same] at h
      rcases rn x h with z | z
      · exact s.fo j x z
      · refine .inr ?_
        cases hz : Z.h x with
        | none => rfl
        | some u => exact absurd z (zh x (by rw [hz]; intro q; cases q))
    · rw [updR_ne hj] at h
      exact s.fo j x h
section
variable {S : Type} {kd : Kd S} {C : Str} {fl : List Str} {X : Cx} {K : PySem.W.Frag} {B : Bs} {w : WX} {e : Expr} {ta : TA} {sa : SA} {i j : Nat} {m : Str} {Fm : S → List PyData → RMG S}
theorem mut_sp {Z : St0} {R : Rg} {F H : Hp} {σ : L2.St} {ρ : Rho} {D : Ends} {W : XW} {E : XK} (s : StOk K B Z R F H σ ρ) (hg : Goes K B Z F D W (sMut kd i Fm sa ρ)) (hE : ∀ c H', W c σ H' → E (.ref (He.ga K c)) none H') :
    ∃ a R' ds β, σ[i]? = some (some (.ref a)) ∧ Same R' H ∧ ObjAt K F R' a (kd.inj β) ∧ sa ρ = some ds ∧ ∀ H1 G1 vs, Grow H F H1 G1 → RpAll K G1 vs ds → spMG K kd Fm (.ref a :: vs) H1 (fun _ H' => D.nx σ H') E := by
  unfold sMut at hg
  split at hg
  · rename_i β ds h1 h2
    have h0 := slO_ok h1
    obtain ⟨a, s1, bA⟩ := s.env.obj i _ h0
    refine ⟨a, R i, ds, β, s1, s.env.rh i, bA, h2, fun H1 G1 vs g1 r1 => ?_⟩
    have s' := s.grow g1
    refine ⟨G1, R i, a, β, vs, ds, rfl, g1.sub, s'.env.rh i, s'.env.rF i, bA.mono g1.f (Same.refl _), r1, ?_⟩
    cases e3 : Fm β ds with
    | no => simp only [e3] at hg; exact hg.elim
    | done β' d =>
      simp only [e3] at hg ⊢
      exact fun v H' G' R' g rh rF rn bA' r => hg σ H' _ G' (s'.mut s1 g rh rF rn (fun hi a0 q => by subst hi; exact s.env.oa a0 q _ a h0 s1) bA') (g1.f.trans g.f)
    | exc c =>
      simp only [e3] at hg ⊢
      exact fun H' G' g => hE c H' (hg σ H' R G' (s'.grow g) (g1.f.trans g.f))
  · exact hg.elim
theorem mutX_ok (kc : KdC kd C fl) (hn : noFl fl m) (ha : AOk K B ta sa) : SSOk K B (wx K w) (tDrop (tMethS (He.ga K C) m (spMG K kd Fm) (WE w) (tVar i) ta)) (sMut kd i Fm sa) := fun Z R F H σ ρ D s hg => by
  obtain ⟨a, R', ds, β, s1, sR, bA, hs, k⟩ := mut_sp (E := WE w σ) s hg fun c H' h => h
  obtain ⟨dx, fs, ho, hf⟩ := kc.ins bA
  exact ⟨.ref a, s1, a, dx, fs, rfl, sR _ _ ho, lookup_no (noFl_sub hf hn), ha _ F H σ ρ ds s.env hs _ fun vs H1 G1 g1 r1 => k H1 G1 vs g1 r1⟩
theorem mut_okS (kc : KdC kd C fl) (hn : noFl fl m) (ha : AOk K B ta sa) : SSOk K B W0 (tDrop (tMeth (He.ga K C) m (spMG K kd Fm) [] E0 (tVar i) ta)) (sMut kd i Fm sa) := fun Z R F H σ ρ D s hg => by
  obtain ⟨a, R', ds, β, s1, sR, bA, hs, k⟩ := mut_sp (E := E0) s hg fun c H' h => h
  obtain ⟨dx, fs, ho, hf⟩ := kc.ins bA
  refine ⟨.ref a, s1, a, dx, fs, rfl, sR _ _ ho, lookup_no (noFl_sub hf hn), ha _ F H σ ρ ds s.env hs _ fun vs H1 G1 g1 r1 => ?_⟩
  rw [List.append_nil]
  exact k H1 G1 vs g1 r1
/-- a mutating function: f(book, ..) -/
theorem mutF_ok (ha : AOk K B ta sa) : SSOk K B W0 (tDrop (tCall (spMG K kd Fm) [] E0 (tCons (tVar i) ta))) (sMut kd i Fm sa) := fun Z R F H σ ρ D s hg => by
  obtain ⟨a, R', ds, β, s1, sR, bA, hs, k⟩ := mut_sp (E := E0) s hg fun c H' h => h
  refine ⟨.ref a, s1, ha _ F H σ ρ ds s.env hs _ fun vs H1 G1 g1 r1 => ?_⟩
  show spMG K kd Fm ((.ref a :: vs) ++ []) H1 _ E0
  rw [List.append_nil]
  exact k H1 G1 vs g1 r1
theorem mutS_sp {Z : St0} {R : Rg} {F H : Hp} {σ : L2.St} {ρ : Rho} {D : Ends} {W : XW} {E : XK} (s : StOk K B Z R F H σ ρ) (hg : Goes K B Z F D W (sMutS kd i j Fm sa ρ)) (hE : ∀ c H', W c σ H' → E (.ref (He.ga K c)) none H') :
    ∃ a R' ds β, σ[i]? = some (some (.ref a)) ∧ Same R' H ∧ ObjAt K F R' a (kd.inj β) ∧ sa ρ = some ds ∧ ∀ H1 G1 vs, Grow H F H1 G1 → RpAll K G1 vs ds → spMG K kd Fm (.ref a :: vs) H1 (fun v H' => D.nx (σ.set j (some v)) H') E := by
  unfold sMutS at hg
  split at hg
  · rename_i β ds h1 h2
    have h0 := slO_ok h1
    obtain ⟨a, s1, bA⟩ := s.env.obj i _ h0
    refine ⟨a, R i, ds, β, s1, s.env.rh i, bA, h2, fun H1 G1 vs g1 r1 => ?_⟩
    have s' := s.grow g1
    refine ⟨G1, R i, a, β, vs, ds, rfl, g1.sub, s'.env.rh i, s'.env.rF i, bA.mono g1.f (Same.refl _), r1, ?_⟩
    cases e3 : Fm β ds with
    | no => simp only [e3] at hg; exact hg.elim
    | done β' d =>
      simp only [e3] at hg ⊢
      exact fun v H' G' R' g rh rF rn bA' r => hg _ H' _ G' ((s'.mut s1 g rh rF rn (fun hi a0 q => by subst hi; exact s.env.oa a0 q _ a h0 s1) bA').setV j r) (g1.f.trans g.f)
    | exc c =>
      simp only [e3] at hg ⊢
      exact fun H' G' g => hE c H' (hg σ H' R G' (s'.grow g) (g1.f.trans g.f))
  · exact hg.elim
theorem mutS_okS (kc : KdC kd C fl) (hn : noFl fl m) (ha : AOk K B ta sa) : SSOk K B W0 (tAsg (tMeth (He.ga K C) m (spMG K kd Fm) [] E0 (tVar i) ta) (gName j)) (sMutS kd i j Fm sa) := fun Z R F H σ ρ D s hg => by
  obtain ⟨a, R', ds, β, s1, sR, bA, hs, k⟩ := mutS_sp (E := E0) s hg fun c H' h => h
  obtain ⟨dx, fs, ho, hf⟩ := kc.ins bA
  refine ⟨.ref a, s1, a, dx, fs, rfl, sR _ _ ho, lookup_no (noFl_sub hf hn), ha _ F H σ ρ ds s.env hs _ fun vs H1 G1 g1 r1 => ?_⟩
  rw [List.append_nil]
  exact k H1 G1 vs g1 r1
end
def spInit (K : PySem.W.Frag) : Sp := fun vs H Q _ => ∃ p dx, vs = [.ref p] ∧ H p = some (.ins (He.ga K "Book") dx []) ∧ H dx = some (.own p) ∧
  ∀ H' R', (∀ b o, b ≠ p → H b = some o → H' b = some o) → Same R' H' → (∀ x, R' x ≠ none → x = p ∨ x = dx ∨ H x = none) → (∀ F, BookAt K F R' p ⟨[], []⟩) → Q .non H'
/-- a new object, laid beside -/
theorem StOk.newO {K : PySem.W.Frag} {B : Bs} {Z : St0} {R : Rg} {F H R' G' H' : Hp} {σ : L2.St} {ρ : Rho} {i : Nat} {a : Addr} {o' : ObjSt} (s : StOk K B Z R F H σ ρ) (hB : i = 0 → B.o = none) (g : Grow H F H' G') (rh : Same R' H') (rF : Apart R' G') (rn : ∀ x, R' x ≠ none → H x = none) (bA : ObjAt K G' R' a o') :
    StOk K B Z (updR R i R') G' H' (σ.set i (some (.ref a))) (ρ.set i (.obj o')) := by
  have s' := s.grow g
  refine ⟨?_, s'.gr, frO s'.fr, fun j x hx => ?_⟩
  · exact s.env.setO (fun hj => by rw [List.getElem?_set_self (by rw [← s.env.len]; exact hj)]) g.f g.sub s'.env.bh s'.env.bF rh rF (fun y hy => s.env.bh.free (rn y hy))
      (fun j hj => ⟨s'.env.rh j, s'.env.rF j, fun x hx => (s.env.rh j).free (rn x hx)⟩) bA (fun hi a0 q => by rw [hB hi] at q; cases q)
      fun p vs h1 h2 h3 => ⟨g.h p _ h1, g.no p h2 (by rw [h1]; intro z; cases z), by
        cases e : R' p with
        | none => rfl
        | some u => have := rn p (by rw [e]; intro z; cases z); rw [this] at h1; cases h1⟩
  · by_cases hj : j = i
    · subst hj
      rw [updR_same] at hx
      refine .inr ?_
      cases e : Z.h x with
      | none => rfl
      | some u => exact absurd (rn x hx) (s.gr.al x (by rw [e]; intro z; cases z))
    · rw [updR_ne hj] at hx
      exact s.fo j x hx
theorem mk_okS {K : PySem.W.Frag} {B : Bs} {W : XW} {i : Nat} (hB : B.o = none) : SSOk K B W (tAsg (tMake (He.ga K "Book") (spInit K) [] E0 tNil) (gName i)) (sMkB i) := fun Z R F H σ ρ D s hg => by
  intro x dx hx hdx hne
  have nx : ∀ b o, H b = some o → (upd (upd H dx (.own x)) x (.ins (He.ga K "Book") dx [])) b = some o := fun b o e => by
    rw [upd_ne (ne_of_none e hx), upd_ne (ne_of_none e hdx)]; exact e
  refine ⟨x, dx, rfl, upd_same, by rw [upd_ne hne]; exact upd_same, fun H' R' kp rh rn bA => ⟨rfl, ?_⟩⟩
  have hH : Same H H' := fun b o e => kp b o (ne_of_none e hx) (nx b o e)
  have rn' : ∀ y, R' y ≠ none → H y = none := fun y hy => by
    rcases rn y hy with rfl | rfl | z
    · exact hx
    · exact hdx
    · cases e : H y with
      | none => rfl
      | some o => rw [nx y o e] at z; cases z
  exact hg _ H' _ F (s.newO (fun _ => hB) ⟨hH, Same.refl F, s.env.ex.trans hH, fun _ z _ => z⟩ rh (fun y hy => s.env.ex.free (rn' y hy)) rn' (bA F)) (Same.refl F)
/-- what a changing method raises, it raises ahead of any change -/
def excOf {S : Type} (Fm : S → List PyData → RMG S) : S → List PyData → Res := fun β ds => match Fm β ds with
  | .exc c => .exc c
  | _ => .no
theorem spM_of_R {S : Type} {kd : Kd S} {K : PySem.W.Frag} {Fm : S → List PyData → RMG S} (vs : List V) (H : Hp) (Q : VK) (E : XK) (h : spRG K kd (excOf Fm) vs H Q E) : spMG K kd Fm vs H Q E := by
  obtain ⟨G, R, a, β, us, ds, e, h1, h2, h3, h4, h5, q⟩ := h
  refine ⟨G, R, a, β, us, ds, e, h1, h2, h3, h4, h5, ?_⟩
  unfold excOf at q
  cases e : Fm β ds with
  | no => simp only [e] at q; exact (show False from q).elim
  | done β' d => simp only [e] at q; exact (show False from q).elim
  | exc c => simp only [e] at q; exact q
/-- a reading function: f(book, ..), the object in slot i -/
def tCallB {S : Type} (K : PySem.W.Frag) (kd : Kd S) (Fr : S → List PyData → Res) (i : Nat) (ta : TA) : TE := tCall (spRG K kd Fr) [] E0 (tCons (tVar i) ta)
theorem callR_ok {S : Type} {kd : Kd S} {K : PySem.W.Frag} {B : Bs} {ta : TA} {sa : SA} {i : Nat} {Fr : S → List PyData → Res} (ha : AOk K B ta sa) : EOk K B (tCallB K kd Fr i ta) (eMeth kd B.bk i Fr sa) := fun R F H σ ρ d E q Q k => by
  unfold eMeth xMeth at q
  cases e1 : rcv kd B.bk ρ i with
  | none => rw [e1] at q; cases q
  | some β =>
    cases e2 : sa ρ with
    | none => rw [e1, e2] at q; cases q
    | some ds =>
      rw [e1, e2] at q
      obtain ⟨a, R', s1, bA, sR, ap⟩ := rcv_ok E e1
      refine ⟨.ref a, s1, ha _ F H σ ρ ds E e2 _ fun vs H1 G1 g1 r1 => ?_⟩
      show spRG K kd Fr ((.ref a :: vs) ++ []) H1 Q E0
      rw [List.append_nil]
      refine ⟨G1, R', a, β, vs, ds, rfl, g1.sub, sR.trans g1.h, g1.apart sR ap, bA.mono g1.f (Same.refl _), r1, ?_⟩
      cases e3 : Fr β ds with
      | no => simp [e3, Res.ok] at q
      | ret d' =>
        simp [e3, Res.ok] at q
        subst q
        exact fun v H' G' g r => k v H' G' (g1.trans g) r
      | exc c => simp [e3, Res.ok] at q
/-! ### own lists handed in for a moment beside an object -/
def Cp (K : PySem.W.Frag) (B : Bs) (R : Rg) (G H : Hp) (v : V) (d : PyData) : Prop := Rp K G v d ∨ ∃ p vs ds, v = .ref p ∧ d = .list ds ∧ H p = some (.lst vs) ∧ DqAll K G vs ds ∧ (∀ i, R i p = none) ∧ B.h p = none
inductive CpAll (K : PySem.W.Frag) (B : Bs) (R : Rg) (G H : Hp) : List V → List PyData → Prop
  | nil : CpAll K B R G H [] []
  | cons {v : V} {vs : List V} {d : PyData} {ds : List PyData} : Cp K B R G H v d → CpAll K B R G H vs ds → CpAll K B R G H (v :: vs) (d :: ds)
def CAOk (K : PySem.W.Frag) (B : Bs) (t : TA) (f : SA) : Prop := ∀ (R : Rg) (F H : Hp) (σ : L2.St) (ρ : Rho) (ds : List PyData), EnvOk K B R F H σ ρ → f ρ = some ds → ∀ Q : List V → Hp → Prop, (∀ vs H' G, Grow H F H' G → CpAll K B R G H' vs ds → Q vs H') → t σ H Q
structure SemCA (X : Cx) (K : PySem.W.Frag) (B : Bs) (es : List Expr) (t : TA) (f : SA) : Prop where
  pa : PA X es t
  ok : CAOk K B t f
theorem Cp.mono {K : PySem.W.Frag} {B : Bs} {R : Rg} {G G' H H' : Hp} {v : V} {d : PyData} (e : Same G G') (e' : Same H H') (h : Cp K B R G H v d) : Cp K B R G' H' v d :=
  h.imp (Rp.mono e) fun ⟨p, vs, ds, h1, h2, h3, h4, h5⟩ => ⟨p, vs, ds, h1, h2, e' _ _ h3, dpa_mono e _ h4, h5⟩
section
variable {X : Cx} {K : PySem.W.Frag} {B : Bs} {e : Expr} {es : List Expr} {t : TE} {ta : TA} {f : SE} {sa : SA}
theorem sca_nil : SemCA X K B [] tNil eNil := ⟨pa_nil, fun R F H σ ρ d E q Q k => by
  cases q
  exact k [] H F (Grow.refl E.ex) .nil⟩
theorem sca_e (h1 : SemE X K B e t f) (h2 : SemCA X K B es ta sa) (hs : starEach (e :: es) X.env = (false, eval e X.env) :: starEach es X.env := by rfl) : SemCA X K B (e :: es) (tCons t ta) (eCons f sa) := ⟨pa_cons h1.pe h2.pa hs, fun R F H σ ρ ds E q Q k => by
  cases hf : f ρ with
  | none => simp [eCons, hf] at q
  | some d =>
    cases hg : sa ρ with
    | none => simp [eCons, hf, hg] at q
    | some es =>
      simp [eCons, hf, hg] at q
      subst q
      exact h1.ok R F H σ ρ d E hf _ fun v H1 G1 g1 r1 => h2.ok R G1 H1 σ ρ es (E.grow g1) hg _ fun vs H2 G2 g2 r2 => k _ H2 G2 (g1.trans g2) (.cons (.inl (r1.mono g2.f)) r2)⟩
theorem sca_own (i : Nat) (hp : PE X e (tVar i)) (h2 : SemCA X K B es ta sa) (hs : starEach (e :: es) X.env = (false, eval e X.env) :: starEach es X.env := by rfl) : SemCA X K B (e :: es) (tCons (tVar i) ta) (eCons (eVarB i) sa) := ⟨pa_cons hp h2.pa hs, fun R F H σ ρ ds E q Q k => by
  have q : (eVarB i ρ).bind (fun d => (sa ρ).bind fun ds => some (d :: ds)) = some ds := q
  cases hf : eVarB i ρ with
  | none => rw [hf] at q; cases q
  | some d =>
    cases hg : sa ρ with
    | none => rw [hf, hg] at q; cases q
    | some es =>
      rw [hf, hg] at q
      cases q
      unfold eVarB at hf
      split at hf
      · rename_i d' h
        cases hf
        obtain ⟨v, h1, h3⟩ := E.val i _ h
        exact ⟨v, h1, h2.ok R F H σ ρ es E hg _ fun vs H2 G2 g2 r2 => k _ H2 G2 g2 (.cons (.inl (h3.mono g2.f)) r2)⟩
      · rename_i ds h
        cases hf
        obtain ⟨p, vs, h1, h3, h4, h5, h6, h7⟩ := E.own i _ h
        exact ⟨.ref p, h1, h2.ok R F H σ ρ es E hg _ fun us H2 G2 g2 r2 => k _ H2 G2 g2 (.cons (.inr ⟨p, vs, ds, rfl, rfl, g2.h _ _ h3, dpa_mono g2.f _ h4, h6, h7⟩) r2)⟩
      · cases hf⟩
end
/-- the heap without a part -/
def cutR (H R : Hp) : Hp := fun a => match R a with
  | none => H a
  | some _ => none
theorem cutR_same {H R G : Hp} (e : Same G H) (ap : Apart R G) : Same G (cutR H R) := fun a o h => by
  unfold cutR
  cases hR : R a with
  | none => exact e a o h
  | some u => have := ap a (by rw [hR]; intro z; cases z); rw [this] at h; cases h
theorem cutR_sub {H R : Hp} : Same (cutR H R) H := fun a o h => by
  unfold cutR at h
  split at h
  · exact h
  · cases h
theorem cutR_apart {H R : Hp} : Apart R (cutR H R) := fun a ha => by
  unfold cutR
  cases hR : R a with
  | none => exact absurd hR ha
  | some u => rfl
theorem CpAll.all {K : PySem.W.Frag} {B : Bs} {R : Rg} {G H R' : Hp} (e : Same G H) (ap : Apart R' G) (hR : ∀ p, (∀ i, R i p = none) → B.h p = none → R' p = none) : ∀ {vs : List V} {ds : List PyData}, CpAll K B R G H vs ds → RpAll K (cutR H R') vs ds
  | [], [], _ => .nil
  | [], _ :: _, h => by cases h
  | _ :: _, [], h => by cases h
  | v :: vs, d :: ds, h => by
    cases h with
    | cons h1 h2 =>
      refine .cons ?_ (CpAll.all e ap hR h2)
      rcases h1 with h1 | ⟨p, us, es, rfl, rfl, h3, h4, h5, h6⟩
      · exact h1.mono (cutR_same e ap)
      · refine .inl (.lst ?_ (dpa_mono (cutR_same e ap) _ h4))
        unfold cutR
        rw [hR p h5 h6]
        exact h3
/-- the object in slot i: where its region lies -/
theorem rcv_ok2 {S : Type} {kd : Kd S} {K : PySem.W.Frag} {B : Bs} {R : Rg} {F H : Hp} {σ : L2.St} {ρ : Rho} {i : Nat} {β : S} (E : EnvOk K B R F H σ ρ) (h : rcv kd B.bk ρ i = some β) : ∃ a R', σ[i]? = some (some (.ref a)) ∧ ObjAt K F R' a (kd.inj β) ∧ Same R' H ∧ Apart R' F ∧ ∀ p, (∀ i, R i p = none) → B.h p = none → R' p = none := by
  unfold rcv at h
  split at h
  · rename_i o e
    have := kd.ok h
    subst this
    obtain ⟨a, h1, h2⟩ := E.obj i _ e
    exact ⟨a, R i, h1, h2, E.rh i, E.rF i, fun p h _ => h i⟩
  · rename_i d e
    cases ha : addrOf d with
    | none => rw [ha] at h; cases h
    | some a =>
      rw [ha, Option.bind_some] at h
      cases ho : B.bk a with
      | none => rw [ho] at h; cases h
      | some o =>
        rw [ho, Option.bind_some] at h
        have := kd.ok h
        subst this
        obtain ⟨v, h1, h2⟩ := E.val i d e
        have := addrOf_ok ha h2
        subst this
        exact ⟨a, B.h, h1, (E.bo a _ ho).mono E.bs (Same.refl _), E.bh, E.bF, fun p _ h => h⟩
  · cases h
/-- own lists handed in for a moment, the object in slot i: what comes back is a value without parts -/
theorem callRB_ok {S : Type} {kd : Kd S} {K : PySem.W.Frag} {B : Bs} {ta : TA} {sa : SA} {i : Nat} {Fr : S → List PyData → Res} (ha : CAOk K B ta sa) : EOk K B (tCallB K kd Fr i ta) (fun ρ => onlyS (eMeth kd B.bk i Fr sa ρ)) := fun R F H σ ρ d E q Q k => by
  have q : (eMeth kd B.bk i Fr sa ρ).bind (fun d => if scalD d then some d else none) = some d := q
  unfold eMeth xMeth at q
  cases e1 : rcv kd B.bk ρ i with
  | none => rw [e1] at q; cases q
  | some β =>
    cases e2 : sa ρ with
    | none => rw [e1, e2] at q; cases q
    | some ds =>
      rw [e1, e2] at q
      obtain ⟨a, R', s1, bA, sR, ap, hR⟩ := rcv_ok2 E e1
      refine ⟨.ref a, s1, ha _ F H σ ρ ds E e2 _ fun vs H1 G1 g1 r1 => ?_⟩
      show spRG K kd Fr ((.ref a :: vs) ++ []) H1 Q E0
      rw [List.append_nil]
      have ap1 : Apart R' G1 := g1.apart sR ap
      refine ⟨cutR H1 R', R', a, β, vs, ds, rfl, cutR_sub, sR.trans g1.h, cutR_apart, bA.mono (g1.f.trans (cutR_same g1.sub ap1)) (Same.refl _), r1.all g1.sub ap1 hR, ?_⟩
      cases e3 : Fr β ds with
      | no => simp [e3, Res.ok] at q
      | ret d' =>
        simp only [e3, Res.ok, Option.bind_some] at q
        split at q
        · rename_i hs
          cases q
          exact fun v H' G' g r => k v H' G1 (g1.trans ⟨g.h, Same.refl G1, g1.sub.trans g.h, fun _ z _ => z⟩) (rp_scal r hs)
        · cases q
      | exc c => simp [e3, Res.ok] at q
end RT
/-! What a book's methods do; functions that are handed a book; try. -/
namespace RT
open PySem PySem.Spec PyProof.Rows L2
/-! ### the methods, plainly -/
def findP (β : BookSt) (n : Str) : Option Person := β.people.find? fun p => decide (p.name = n)
def findS (β : BookSt) (n : Str) : Option Shift := β.shifts.find? fun s => decide (s.name = n)
def meetsB (r s : Int × Int) : Bool := decide (r.1 < s.2) && decide (s.1 < r.2)
def mayB (p : Person) (s : Shift) (k : Str) : Bool := !(p.rests.any fun r => meetsB r (s.b, s.e)) && decide (k ∈ p.skills)
def postsB (β : BookSt) : List (Str × Str) := β.shifts.flatMap fun s => s.needs.map fun n => (s.name, n.1)
def postD (p : Str × Str) : PyData := .tuple [.str p.1, .str p.2]
def s0 (r : Res) : List PyData → Res
  | [] => r
  | _ => .no
def s1 (g : Str → Res) : List PyData → Res
  | [.str n] => g n
  | _ => .no
def s2 (g : Str → Str → Res) : List PyData → Res
  | [.str n, .str k] => g n k
  | _ => .no
def s3 (g : Str → Str → Str → Res) : List PyData → Res
  | [.str n, .str k, .str l] => g n k l
  | _ => .no
theorem s0_inv {r : Res} {ds : List PyData} {A : PyData → Prop} {B : Str → Prop} (q : (s0 r ds).goes A B) : ds = [] := by
  unfold s0 at q
  split at q
  · rfl
  · exact (show False from q).elim
theorem s1_inv {g : Str → Res} {ds : List PyData} {A : PyData → Prop} {B : Str → Prop} (q : (s1 g ds).goes A B) : ∃ n, ds = [.str n] := by
  unfold s1 at q
  split at q
  · exact ⟨_, rfl⟩
  · exact (show False from q).elim
theorem s2_inv {g : Str → Str → Res} {ds : List PyData} {A : PyData → Prop} {B : Str → Prop} (q : (s2 g ds).goes A B) : ∃ n k, ds = [.str n, .str k] := by
  unfold s2 at q
  split at q
  · exact ⟨_, _, rfl⟩
  · exact (show False from q).elim
theorem s3_inv {g : Str → Str → Str → Res} {ds : List PyData} {A : PyData → Prop} {B : Str → Prop} (q : (s3 g ds).goes A B) : ∃ n k l, ds = [.str n, .str k, .str l] := by
  unfold s3 at q
  split at q
  · exact ⟨_, _, _, rfl⟩
  · exact (show False from q).elim
def fr_people (β : BookSt) : List PyData → Res := s0 (.ret (.list (β.people.map fun p => .str p.name)))
def fr_shifts (β : BookSt) : List PyData → Res := s0 (.ret (.list (β.shifts.map fun p => .str p.name)))
def fr_posts (β : BookSt) : List PyData → Res := s0 (.ret (.list ((postsB β).map postD)))
def mis {α : Type} (o : Option α) (g : α → PyData) : Res := match o with
  | some p => .ret (g p)
  | none => .exc "Missing"
def fr_skills_of (β : BookSt) : List PyData → Res := s1 fun n => mis (findP β n) fun p => .list (p.skills.map .str)
def fr_rests_of (β : BookSt) : List PyData → Res := s1 fun n => mis (findP β n) fun p => .list (p.rests.map stD)
def fr_limit_of (β : BookSt) : List PyData → Res := s1 fun n => mis (findP β n) fun p => .int p.limit
def fr_stretch_of (β : BookSt) : List PyData → Res := s1 fun n => mis (findS β n) fun s => stD (s.b, s.e)
def needOf (s : Shift) (k : Str) : Option Int := (s.needs.find? fun n => decide (n.1 = k)).map (·.2)
def fr_count_of (β : BookSt) : List PyData → Res := s2 fun n k => mis ((findS β n).bind fun s => needOf s k) .int
def fr_may (β : BookSt) : List PyData → Res := s3 fun n s k => match findS β s with
  | none => .exc "Missing"
  | some sh => mis (findP β n) fun p => .bool (mayB p sh k)
/-! ### dicts by names -/
theorem valV_map {α : Type} (nm : α → Str) (v : α → V) (n : Str) : ∀ l : List α, valV (l.map fun x => ((Sum.inr (nm x) : Key), v x)) (Sum.inr n) = (l.find? fun x => decide (nm x = n)).map v
  | [] => rfl
  | x :: l => by
    rw [List.map_cons, List.find?_cons]
    by_cases h : nm x = n
    · rw [valV_pos (by show (Sum.inr (nm x) : Key) = Sum.inr n; rw [h]), decide_eq_true h]
      rfl
    · rw [valV_neg (by intro z; exact h (Sum.inr.inj z)), decide_eq_false h]
      exact valV_map nm v n l
theorem find_fst {α β : Type} (p : α → Bool) : ∀ l : List (α × β), ((l.find? fun x => p x.1).map (·.1)) = (l.map (·.1)).find? p
  | [] => rfl
  | x :: l => by
    rw [List.map_cons, List.find?_cons, List.find?_cons]
    cases p x.1 with
    | true => rfl
    | false => exact find_fst p l
section
variable {K : PySem.W.Frag} {F R : Hp} {a : Addr} {β : BookSt} {dx dS dL dR dT dN : Addr} {pe : PE3} {sh : SE3}
theorem BookIn.fp (b : BookIn K F R a β dx dS dL dR dT dN pe sh) (n : Str) : ((pe.find? fun x => decide (x.1.name = n)).map (·.1)) = findP β n := by
  have := find_fst (fun p : Person => decide (p.name = n)) pe
  rw [this, b.pn]
  rfl
theorem BookIn.fs (b : BookIn K F R a β dx dS dL dR dT dN pe sh) (n : Str) : ((sh.find? fun x => decide (x.1.name = n)).map (·.1)) = findS β n := by
  have := find_fst (fun p : Shift => decide (p.name = n)) sh
  rw [this, b.sn]
  rfl
theorem BookIn.person (b : BookIn K F R a β dx dS dL dR dT dN pe sh) {n : Str} {p : Person} (h : findP β n = some p) : ∃ x ∈ pe, x.1 = p ∧ x.1.name = n ∧ valV (kvS pe) (Sum.inr n) = some (.ref x.2.1) ∧ valV (kvL pe) (Sum.inr n) = some (.int p.limit) ∧ valV (kvR pe) (Sum.inr n) = some (.ref x.2.2) := by
  rw [← b.fp n] at h
  cases e : pe.find? fun x => decide (x.1.name = n) with
  | none => rw [e] at h; cases h
  | some x =>
    rw [e] at h
    have hx : x.1 = p := Option.some.inj h
    have hm := List.mem_of_find?_eq_some e
    have hn : x.1.name = n := of_decide_eq_true (by simpa using List.find?_some e)
    refine ⟨x, hm, hx, hn, ?_, ?_, ?_⟩
    · unfold kvS; rw [valV_map (fun x : Person × Addr × Addr => x.1.name) (fun x => V.ref x.2.1), e]; rfl
    · unfold kvL; rw [valV_map (fun x : Person × Addr × Addr => x.1.name) (fun x => V.int x.1.limit), e, ← hx]; rfl
    · unfold kvR; rw [valV_map (fun x : Person × Addr × Addr => x.1.name) (fun x => V.ref x.2.2), e]; rfl
theorem BookIn.noPerson (b : BookIn K F R a β dx dS dL dR dT dN pe sh) {n : Str} (h : findP β n = none) : valV (kvS pe) (Sum.inr n) = none ∧ valV (kvL pe) (Sum.inr n) = none ∧ valV (kvR pe) (Sum.inr n) = none := by
  rw [← b.fp n] at h
  have e : (pe.find? fun x => decide (x.1.name = n)) = none := by
    cases e : pe.find? fun x => decide (x.1.name = n) with
    | none => rfl
    | some x => rw [e] at h; cases h
  refine ⟨?_, ?_, ?_⟩
  · unfold kvS; rw [valV_map (fun x : Person × Addr × Addr => x.1.name) (fun x => V.ref x.2.1), e]; rfl
  · unfold kvL; rw [valV_map (fun x : Person × Addr × Addr => x.1.name) (fun x => V.int x.1.limit), e]; rfl
  · unfold kvR; rw [valV_map (fun x : Person × Addr × Addr => x.1.name) (fun x => V.ref x.2.2), e]; rfl
theorem BookIn.shift (b : BookIn K F R a β dx dS dL dR dT dN pe sh) {n : Str} {s : Shift} (h : findS β n = some s) : ∃ x ∈ sh, x.1 = s ∧ x.1.name = n ∧ valV (kvT sh) (Sum.inr n) = some (.ref x.2.1) ∧ valV (kvN sh) (Sum.inr n) = some (.ref x.2.2) := by
  rw [← b.fs n] at h
  cases e : sh.find? fun x => decide (x.1.name = n) with
  | none => rw [e] at h; cases h
  | some x =>
    rw [e] at h
    have hx : x.1 = s := Option.some.inj h
    have hm := List.mem_of_find?_eq_some e
    have hn : x.1.name = n := of_decide_eq_true (by simpa using List.find?_some e)
    refine ⟨x, hm, hx, hn, ?_, ?_⟩
    · unfold kvT; rw [valV_map (fun x : Shift × Addr × Addr => x.1.name) (fun x => V.ref x.2.1), e]; rfl
    · unfold kvN; rw [valV_map (fun x : Shift × Addr × Addr => x.1.name) (fun x => V.ref x.2.2), e]; rfl
theorem BookIn.noShift (b : BookIn K F R a β dx dS dL dR dT dN pe sh) {n : Str} (h : findS β n = none) : valV (kvT sh) (Sum.inr n) = none ∧ valV (kvN sh) (Sum.inr n) = none := by
  rw [← b.fs n] at h
  have e : (sh.find? fun x => decide (x.1.name = n)) = none := by
    cases e : sh.find? fun x => decide (x.1.name = n) with
    | none => rfl
    | some x => rw [e] at h; cases h
  refine ⟨?_, ?_⟩
  · unfold kvT; rw [valV_map (fun x : Shift × Addr × Addr => x.1.name) (fun x => V.ref x.2.1), e]; rfl
  · unfold kvN; rw [valV_map (fun x : Shift × Addr × Addr => x.1.name) (fun x => V.ref x.2.2), e]; rfl
end
/-! ### the class -/
structure BkT (K : PySem.W.Frag) (mg : Str → Option Value) : Prop where
  cl : Cls K (He.ga K "Book")
  nS : NoAttr K (He.ga K "Book") "skills"
  nL : NoAttr K (He.ga K "Book") "limits"
  nR : NoAttr K (He.ga K "Book") "rests"
  nT : NoAttr K (He.ga K "Book") "stretches"
  nN : NoAttr K (He.ga K "Book") "needs"
section
variable {K : PySem.W.Frag} {mg : Str → Option Value} {F R H : Hp} {a : Addr} {β : BookSt} {dx dS dL dR dT dN : Addr} {pe : PE3} {sh : SE3} {σ : L2.St} {Q : VK} {i : Nat}
theorem lk_S : (bkFs dS dL dR dT dN).lookup ("skills" : Str) = some (.ref dS) := by simp [bkFs, List.lookup]
theorem lk_L : (bkFs dS dL dR dT dN).lookup ("limits" : Str) = some (.ref dL) := by
  have h : (("limits" : Str) == "skills") = false := by decide +kernel
  simp [bkFs, List.lookup, h]
theorem lk_R : (bkFs dS dL dR dT dN).lookup ("rests" : Str) = some (.ref dR) := by
  have h : (("rests" : Str) == "skills") = false := by decide +kernel
  have h2 : (("rests" : Str) == "limits") = false := by decide +kernel
  simp [bkFs, List.lookup, h, h2]
theorem lk_T : (bkFs dS dL dR dT dN).lookup ("stretches" : Str) = some (.ref dT) := by
  have h : (("stretches" : Str) == "skills") = false := by decide +kernel
  have h2 : (("stretches" : Str) == "limits") = false := by decide +kernel
  have h3 : (("stretches" : Str) == "rests") = false := by decide +kernel
  simp [bkFs, List.lookup, h, h2, h3]
theorem lk_N : (bkFs dS dL dR dT dN).lookup ("needs" : Str) = some (.ref dN) := by
  have h : (("needs" : Str) == "skills") = false := by decide +kernel
  have h2 : (("needs" : Str) == "limits") = false := by decide +kernel
  have h3 : (("needs" : Str) == "rests") = false := by decide +kernel
  have h4 : (("needs" : Str) == "stretches") = false := by decide +kernel
  simp [bkFs, List.lookup, h, h2, h3, h4]
/-- self.f, the book in slot i -/
theorem rd_fld (T : BkT K mg) (hs : σ[i]? = some (some (.ref a))) (ho : H a = some (.ins (He.ga K "Book") dx (bkFs dS dL dR dT dN))) {f : Str} {v : V} (na : NoAttr K (He.ga K "Book") f) (lk : (bkFs dS dL dR dT dN).lookup f = some v) (q : Q v H) : tFld K (tVar i) f σ H Q :=
  ⟨_, hs, a, _, dx, _, v, rfl, ho, T.cl, na, lk, q⟩
end
/-! ### functions that are handed an object -/
def runO (N : List Str) (n : Nat) (b : SS) : ObjSt → List PyData → RMG ObjSt := fun o ds => if ds.length + 1 = n then (match b (.obj o :: rho0 (N.drop 1) ds) with
  | .rt d ρ => (match slO kA ρ[0]? with
    | some o' => .done o' d
    | none => .no)
  | .nx ρ => (match slO kA ρ[0]? with
    | some o' => .done o' .none
    | none => .no)
  | _ => .no) else .no
def RMG.prj {S : Type} (kd : Kd S) : RMG ObjSt → RMG S
  | .done o d => (match kd.prj o with
    | some s => .done s d
    | none => .no)
  | .exc c => .exc c
  | .no => .no
def runMG {S : Type} (kd : Kd S) (N : List Str) (n : Nat) (b : SS) : S → List PyData → RMG S := fun β ds => (runO N n b (kd.inj β) ds).prj kd
abbrev runM (N : List Str) (n : Nat) (b : SS) : BookSt → List PyData → RM := runMG kB N n b
def rg0 (R : Hp) : Rg := fun i => if i = 0 then R else noH
theorem rg0_0 (R : Hp) : rg0 R 0 = R := rfl
theorem rg0_s (R : Hp) (i : Nat) : rg0 R (i + 1) = noH := rfl
theorem rho0_shape {N : List Str} {ds : List PyData} {i : Nat} {x : Sl} (q : (rho0 N ds)[i]? = some x) : x = .no ∨ ∃ d, x = .val d := by
  unfold rho0 at q
  rcases Nat.lt_or_ge i (ds.map Sl.val).length with hi | hi
  · rw [List.getElem?_append_left hi, List.getElem?_map] at q
    cases z : ds[i]? with
    | none => rw [z] at q; cases q
    | some d => rw [z] at q; cases q; exact .inr ⟨d, rfl⟩
  · rw [List.getElem?_append_right hi] at q
    have := List.mem_of_getElem? q
    rw [List.mem_replicate] at this
    exact .inl this.2
theorem startO_ok {K : PySem.W.Frag} {B : Bs} {G H R : Hp} {a : Addr} {o : ObjSt} {N : List Str} {us : List V} {ds : List PyData} (b : BsOk K B G H) (apB : Apart R B.h) (e : Same G H) (eR : Same R H) (ap : Apart R G) (bA : ObjAt K G R a o) (h : RpAll K G us ds) (hN : 0 < N.length) :
    StOk K { B with o := some a } ⟨R, H, G⟩ (rg0 R) G H (start N (.ref a :: us)) (.obj o :: rho0 (N.drop 1) ds) := by
  have s := (start_ok (N := N.drop 1) b e h).env
  have es : start N (.ref a :: us) = some (.ref a) :: start (N.drop 1) us := by
    unfold L2.start
    rw [List.map_cons, List.cons_append, List.length_cons, List.length_drop]
    congr 3
    omega
  rw [es]
  refine ⟨⟨b.bs, b.bh, b.bF, b.bo, e, fun i => ?_, fun i => ?_, fun i => ?_, fun i j hij => ?_, ?_, fun i d q => ?_, fun i es' q => ?_, fun i j x y p _ q q2 _ _ => ?_, fun i o q => ?_, fun a0 q o a' h1 h2 => ?_⟩,
    ⟨fun _ _ _ z => z, fun _ z => z, Same.refl G, e, fun _ z _ => z⟩, fun i es' p q _ => ?_, fun i x z => ?_⟩
  · cases i with
    | zero => exact eR
    | succ i => exact fun _ _ z => nomatch z
  · cases i with
    | zero => exact ap
    | succ i => exact fun _ z => absurd rfl z
  · cases i with
    | zero => exact apB
    | succ i => exact fun _ z => absurd rfl z
  · cases i with
    | zero =>
      cases j with
      | zero => exact absurd rfl hij
      | succ j => exact fun _ _ => rfl
    | succ i => exact fun _ z => absurd rfl z
  · have := s.len
    simp only [List.length_cons] at this ⊢
    omega
  · cases i with
    | zero => simp at q
    | succ i => simpa using s.val i d (by simpa using q)
  · cases i with
    | zero => simp at q
    | succ i => rcases rho0_shape (show (rho0 (N.drop 1) ds)[i]? = some (.own es') by simpa using q) with z | ⟨d, z⟩ <;> cases z
  · cases i with
    | zero => simp at q
    | succ i => rcases rho0_shape (show (rho0 (N.drop 1) ds)[i]? = some (.own x) by simpa using q) with z | ⟨d, z⟩ <;> cases z
  · cases i with
    | zero =>
      simp at q
      subst q
      exact ⟨a, rfl, bA⟩
    | succ i => rcases rho0_shape (show (rho0 (N.drop 1) ds)[i]? = some (.obj o) by simpa using q) with z | ⟨d, z⟩ <;> cases z
  · cases q
    simp at h2
    exact h2.symm
  · cases i with
    | zero => simp at q
    | succ i => rcases rho0_shape (show (rho0 (N.drop 1) ds)[i]? = some (.own es') by simpa using q) with z | ⟨d, z⟩ <;> cases z
  · cases i with
    | zero => exact .inl z
    | succ i => exact absurd rfl z
/-- the body of a function that changes the object handed in, others being read -/
theorem sp_bodyO {K : PySem.W.Frag} {B : Bs} {N : List Str} {n : Nat} {b : SS} {t : TS} {G H R : Hp} {a : Addr} {o : ObjSt} {us : List V} {ds : List PyData} {Q : VK} {C : Str → Prop} {W : XW} (hN : 0 < N.length) (hB : BsOk K B G H) (apB : Apart R B.h) (e : Same G H) (eR : Same R H) (ap : Apart R G) (bA : ObjAt K G R a o) (r : RpAll K G us ds)
    (k : SSOk K { B with o := some a } W t b)
    (q : (runO N n b o ds).goes (fun o' d => ∀ v H' G' R', GrowM ⟨R, H, G⟩ H' G' → Same R' H' → Apart R' G' → (∀ x, R' x ≠ none → R x ≠ none ∨ H x = none) → ObjAt K G' R' a o' → Rp K G' v d → Q v H') C) : t { nx := fun _ H' => Q .non H', rt := Q } (start N (.ref a :: us)) H := by
  refine k ⟨R, H, G⟩ (rg0 R) G H _ _ _ (startO_ok hB apB e eR ap bA r hN) ?_
  have fin : ∀ {ρ : Rho} {o' : ObjSt} {σ : L2.St} {H' F' : Hp} {R' : Rg}, slO kA ρ[0]? = some o' → StOk K { B with o := some a } ⟨R, H, G⟩ R' F' H' σ ρ → GrowM ⟨R, H, G⟩ H' F' ∧ Same (R' 0) H' ∧ Apart (R' 0) F' ∧ (∀ x, R' 0 x ≠ none → R x ≠ none ∨ H x = none) ∧ ObjAt K F' (R' 0) a o' := fun {ρ o' σ H' F' R'} hb s => by
    have hb' := slO_ok hb
    obtain ⟨a', h1, h2⟩ := s.env.obj 0 _ hb'
    have := s.env.oa a rfl _ a' hb' h1
    subst this
    exact ⟨s.gr, s.env.rh 0, s.env.rF 0, s.fo 0, h2⟩
  unfold runO at q
  split at q
  · cases hb : b (.obj o :: rho0 (N.drop 1) ds) with
    | no => rw [hb] at q; exact (show False from q).elim
    | ex c r => rw [hb] at q; exact (show False from q).elim
    | ro i r => rw [hb] at q; exact (show False from q).elim
    | nx ρ =>
      rw [hb] at q
      cases h0 : slO kA ρ[0]? with
      | none => simp only [h0] at q; exact (show False from q).elim
      | some o' =>
        simp only [h0] at q
        exact fun σ H' R' F' s _ => by
          obtain ⟨x1, x2, x3, x4, x5⟩ := fin h0 s
          exact q .non H' F' _ x1 x2 x3 x4 x5 rp_non
    | rt d' ρ =>
      rw [hb] at q
      cases h0 : slO kA ρ[0]? with
      | none => simp only [h0] at q; exact (show False from q).elim
      | some o' =>
        simp only [h0] at q
        exact fun v σ H' R' F' s _ r => by
          obtain ⟨x1, x2, x3, x4, x5⟩ := fin h0 s
          exact q v H' F' _ x1 x2 x3 x4 x5 r
  · exact (show False from q).elim
theorem sp_bodyM {S : Type} {kd : Kd S} {K : PySem.W.Frag} {N : List Str} {n : Nat} {b : SS} {t : TS} {vs : List V} {H : Hp} {Q : VK} {E : XK} {W : XW} (hN : 0 < N.length)
    (k : ∀ a, SSOk K ⟨fun _ => none, fun _ => none, fun _ => none, some a⟩ W t b) (h : spMG K kd (runMG kd N n b) vs H Q E) : t { nx := fun _ H' => Q .non H', rt := Q } (start N vs) H := by
  obtain ⟨G, R, a, β, us, ds, rfl, e, eR, ap, bA, r, q⟩ := h
  refine sp_bodyO (n := n) (C := fun c => ∀ H' G', Grow H G H' G' → E (.ref (He.ga K c)) none H') hN (bsOk_no (G := G) (H := H)) (fun _ _ => rfl) e eR ap bA r (k a) ?_
  unfold runMG at q
  cases eq : runO N n b (kd.inj β) ds with
  | no => rw [eq] at q; exact q
  | exc c => rw [eq] at q; exact q
  | done o d =>
    rw [eq] at q
    unfold RMG.prj at q
    cases eo : kd.prj o with
    | none => simp only [eo] at q; exact (show False from q).elim
    | some s =>
      simp only [eo] at q
      rw [kd.ok eo]
      exact q
/-- others read: their states by addresses -/
def runMB (N : List Str) (n : Nat) (b : (Addr → Option ObjSt) → SS) : (Addr → Option ObjSt) → ObjSt → List PyData → RMG ObjSt := fun bk => runO N n (b bk)
theorem sp_bodyMB {K : PySem.W.Frag} {N : List Str} {n : Nat} {b : (Addr → Option ObjSt) → SS} {t : TS} {vs : List V} {H : Hp} {Q : VK} {E : XK} {W : XW} (hN : 0 < N.length)
    (k : ∀ (B : Bs), SSOk K B W t (b B.bk)) (h : spMB K (runMB N n b) vs H Q E) : t { nx := fun _ H' => Q .non H', rt := Q } (start N vs) H := by
  obtain ⟨B, G, R, a, o, us, ds, rfl, e, eR, ap, hB, apB, bA, r, q⟩ := h
  exact sp_bodyO (n := n) (b := b B.bk) hN hB apB e eR ap bA r (k { B with o := some a }) q
/-! ### reading functions -/
def only (a : Addr) (o : ObjSt) : Addr → Option ObjSt := fun b => if b = a then some o else none
theorem only_ok {K : PySem.W.Frag} {G R : Hp} {a : Addr} {o : ObjSt} (h : ObjAt K G R a o) : ∀ b o', only a o b = some o' → ObjAt K G R b o' := fun b o' hb => by
  have hb' : (if b = a then some o else none) = some o' := hb
  split at hb'
  · rename_i hh
    cases hb'
    subst hh
    exact h
  · cases hb'
theorem sp_bodyR {S : Type} {kd : Kd S} {K : PySem.W.Frag} {N : List Str} {n : Nat} {b : (Addr → Option ObjSt) → SS} {t : TS} {Fr : S → List PyData → Res} {vs : List V} {H : Hp} {Q : VK} {E : XK}
    (hF : ∀ a β ds, match Fr β ds with
      | .ret d => runF N n (b (only a (kd.inj β))) (refD a :: ds) = some d
      | .exc _ => False
      | .no => True)
    (k : ∀ B : Bs, SSOk K B W0 t (b B.bk)) (h : spRG K kd Fr vs H Q E) : t { nx := fun _ H' => Q .non H', rt := Q } (start N vs) H := by
  obtain ⟨G, R, a, β, us, ds, rfl, e, eR, ap, bA, r, q⟩ := h
  have hf := hF a β ds
  cases e3 : Fr β ds with
  | no => rw [e3] at q; exact (show False from q).elim
  | exc c => rw [e3] at hf; exact hf.elim
  | ret d =>
    rw [e3] at q hf
    have bo : BsOk K ⟨R, G, only a (kd.inj β), none⟩ G H := ⟨Same.refl G, eR, ap, only_ok bA⟩
    exact sp_bodyB (k ⟨R, G, only a (kd.inj β), none⟩) bo e (.cons (.inr (.inl ⟨a, rfl, rfl⟩)) r) hf q
/-! ### try -/
def sTry (f : SS) (cs : Str → Option Bool) (g : SS) : SS := fun ρ => match f ρ with
  | .ex c r => (match cs c with
    | some true => g r
    | some false => .ex c r
    | none => .no)
  | o => o
theorem try_ok {K : PySem.W.Frag} {B : Bs} {Wout : WX} {y : Str} {cs : Str → Option Bool} {tb : WX → TS} {ts : TS} {f g : SS} (hx : ∀ c b, cs c = some b → PySem.W.exmOne K (.ref (He.ga K c)) (.ref (He.ga K y)) = some b)
    (kb : ∀ w : WX, SSOk K B (wx K w) (tb w) f) (ks : SSOk K B (wx K Wout) ts g) : SSOk K B (wx K Wout) (fun D σ H => tb (wOnly K (.ref (He.ga K y)) (fun _ _ _ => ts) Wout D) D σ H) (sTry f cs g) := fun Z R F H σ ρ D s hg => by
  refine kb _ Z R F H σ ρ D s ?_
  unfold sTry at hg
  cases e : f ρ with
  | no => rw [e] at hg; exact hg
  | nx r => rw [e] at hg; exact hg
  | rt d r => rw [e] at hg; exact hg
  | ro i r => rw [e] at hg; exact hg
  | ex c r =>
    rw [e] at hg
    cases ec : cs c with
    | none => simp only [ec] at hg; exact hg.elim
    | some b =>
      cases b with
      | true =>
        simp only [ec] at hg
        exact fun σ' H' R' F' s' e' => ⟨true, hx c true ec, fun _ a _ => ks Z R' F' H' σ' r D s' (Goes.mono (o := g r) hg e'), fun z => Bool.noConfusion z⟩
      | false =>
        simp only [ec] at hg
        exact fun σ' H' R' F' s' e' => ⟨false, hx c false ec, fun z => Bool.noConfusion z, fun _ => hg σ' H' R' F' s' e'⟩
theorem s_try {X : Cx} {K : PySem.W.Frag} {B : Bs} {Wout : WX} {y : Str} {cs : Str → Option Bool} {tb : WX → TS} {ts : TS} {f g : SS} {body suite : List Stmt} {b0 : Stmt} {np pos pos' : Pos} (hs : X.stack = X.env :: X.outer) (hf : X.env.frame = some X.env.locals) (hc : Names X y (.ref (He.ga X.K y))) (tk : Takes X Wout)
    (hx : ∀ c b, cs c = some b → PySem.W.exmOne K (.ref (He.ga K c)) (.ref (He.ga K y)) = some b)
    (hb : ∀ (w : WX) (pn : List (Addr × Obj)) (xe : Value → Shared → Prop), Takes (X.tr pn xe) w → SemSs (X.tr pn xe) K B (wx K w) body (tb w) f)
    (hsu : ∀ (a : Addr) (pn : List (Addr × Obj)), SemSs (X.suite a pn) K B (wx K Wout) (b0 :: suite) ts g) (hK : X.K = K := by rfl) :
    SemS X K B (wx K Wout) (.Try body [.ExceptHandler (some (.Name y np)) none (b0 :: suite) pos'] [] [] pos) (fun D σ H => tb (wOnly X.K (.ref (He.ga X.K y)) (fun _ _ _ => ts) Wout D) D σ H) (sTry f cs g) := by
  subst hK
  exact ⟨ps_try_only hs hf hc tk (fun w pn xe t _ => (hb w pn xe t).ps) fun a oe cls d pn _ _ => (hsu a _).ps, try_ok hx (fun w => (hb w [] (fun _ _ => True) (fun _ _ _ => trivial)).ok) (hsu 0 []).ok⟩
end RT
/-! A book's parts, changed. -/
namespace RT
open PySem PySem.Spec PyProof.Rows L2
theorem nodup_inj {α β : Type} {f : α → β} : ∀ {l : List α} {x y : α}, (l.map f).Nodup → x ∈ l → y ∈ l → f x = f y → x = y
  | [], _, _, _, h, _, _ => absurd h List.not_mem_nil
  | z :: l, x, y, nd, hx, hy, e => by
    rw [List.map_cons, List.nodup_cons] at nd
    rcases List.mem_cons.mp hx with ex | hx1
    · rcases List.mem_cons.mp hy with ey | hy1
      · rw [ex, ey]
      · subst ex
        exact absurd (e ▸ List.mem_map_of_mem hy1) nd.1
    · rcases List.mem_cons.mp hy with ey | hy1
      · subst ey
        exact absurd (e ▸ List.mem_map_of_mem hx1) nd.1
      · exact nodup_inj nd.2 hx1 hy1 e
def restP (n : Str) (r : Int × Int) (q : Person) : Person := if q.name = n then { q with rests := q.rests ++ [r] } else q
def restB (β : BookSt) (n : Str) (r : Int × Int) : BookSt := { β with people := β.people.map (restP n r) }
theorem restP_name (n : Str) (r : Int × Int) (q : Person) : (restP n r q).name = q.name := by unfold restP; split <;> rfl
theorem restP_skills (n : Str) (r : Int × Int) (q : Person) : (restP n r q).skills = q.skills := by unfold restP; split <;> rfl
theorem restP_limit (n : Str) (r : Int × Int) (q : Person) : (restP n r q).limit = q.limit := by unfold restP; split <;> rfl
section
variable {K : PySem.W.Frag} {F G R : Hp} {a : Addr} {β : BookSt} {dx dS dL dR dT dN : Addr} {pe : PE3} {sh : SE3}
theorem BookIn.names (b : BookIn K F R a β dx dS dL dR dT dN pe sh) : (pe.map fun x => x.1.name).Nodup := by
  have := b.un
  rw [← b.pn, List.map_map] at this
  exact this
theorem BookIn.snames (b : BookIn K F R a β dx dS dL dR dT dN pe sh) : (sh.map fun x => x.1.name).Nodup := by
  have := b.us
  rw [← b.sn, List.map_map] at this
  exact this
theorem BookIn.rest (b : BookIn K F R a β dx dS dL dR dT dN pe sh) {n : Str} {x : Person × Addr × Addr} {r : Int × Int} {vs : List V} {v : V} (hx : x ∈ pe) (hn : x.1.name = n) (hl : R x.2.2 = some (.lst vs)) (hA : DqAll K F vs (x.1.rests.map stD)) (e : Same F G) (hv : Dq K G v (stD r)) (hz : x.1.rests.length < 1000) :
    BookIn K G (upd R x.2.2 (.lst (vs ++ [v]))) a (restB β n r) dx dS dL dR dT dN (pe.map fun y => (restP n r y.1, y.2)) sh := by
  have other : ∀ {y o}, R y = some o → (∀ l, o ≠ .lst l) → (upd R x.2.2 (.lst (vs ++ [v]))) y = some o := fun {y o} h hne => by
    rw [upd_ne (ne_of h hl (hne vs))]
    exact h
  have one : ∀ y ∈ pe, y.1.name = n → y = x := fun y hy h => nodup_inj (f := fun x : Person × Addr × Addr => x.1.name) b.names hy hx (h.trans hn.symm)
  refine { pn := ?_, sn := b.sn, ob := other b.ob (fun _ z => nomatch z), ow := other b.ow (fun _ z => nomatch z), cS := ?_, cL := ?_, cR := ?_, cT := other b.cT (fun _ z => nomatch z), cN := other b.cN (fun _ z => nomatch z), nd := b.nd, ps := ?_, pr := ?_, st := fun y hy => dp_mono e _ (b.st y hy), sc := fun y hy => other (b.sc y hy) (fun _ z => nomatch z), rn := ?_, rs := ?_, nn := b.nn, un := ?_, us := b.us, sz := ?_ }
  · unfold restB
    rw [← b.pn, List.map_map, List.map_map]
    rfl
  · rw [other b.cS (fun _ z => nomatch z)]
    unfold kvS
    rw [List.map_map]
    congr 2
    apply List.map_congr_left
    intro y _
    simp [restP_name]
  · rw [other b.cL (fun _ z => nomatch z)]
    unfold kvL
    rw [List.map_map]
    congr 2
    apply List.map_congr_left
    intro y _
    simp [restP_name, restP_limit]
  · rw [other b.cR (fun _ z => nomatch z)]
    unfold kvR
    rw [List.map_map]
    congr 2
    apply List.map_congr_left
    intro y _
    simp [restP_name]
  · intro y' hy'
    obtain ⟨y, hy, rfl⟩ := List.mem_map.mp hy'
    rw [upd_ne (b.rs y hy x hx), b.ps y hy]
    simp [restP_skills]
  · intro y' hy'
    obtain ⟨y, hy, rfl⟩ := List.mem_map.mp hy'
    by_cases h : y.1.name = n
    · have := one y hy h
      subst this
      refine ⟨vs ++ [v], upd_same, ?_⟩
      have e2 : (restP n r y.1).rests = y.1.rests ++ [r] := by unfold restP; rw [if_pos h]
      rw [e2, List.map_append]
      exact (dpa_mono e _ hA).append (.cons hv .nil)
    · obtain ⟨ws, h1, h2⟩ := b.pr y hy
      refine ⟨ws, ?_, ?_⟩
      · rw [upd_ne]
        · exact h1
        · intro z
          have := nodup_inj (f := fun x : Person × Addr × Addr => x.2.2) b.rn hy hx z
          exact h (this ▸ hn)
      · have e2 : (restP n r y.1).rests = y.1.rests := by unfold restP; rw [if_neg h]
        rw [e2]
        exact dpa_mono e _ h2
  · rw [List.map_map]
    exact b.rn
  · intro y' hy' z' hz'
    obtain ⟨y, hy, rfl⟩ := List.mem_map.mp hy'
    obtain ⟨z, hz, rfl⟩ := List.mem_map.mp hz'
    exact b.rs y hy z hz
  · have := b.un
    unfold restB
    rw [List.map_map]
    have e3 : ((fun p : Person => p.name) ∘ restP n r) = fun p => p.name := by funext q; exact restP_name n r q
    rw [e3]
    exact this
  · obtain ⟨s1, s2, s3, s4⟩ := b.sz
    refine ⟨by simpa [restB] using s1, s2, ?_, s4⟩
    intro p hp
    unfold restB at hp
    obtain ⟨q, hq, rfl⟩ := List.mem_map.mp hp
    obtain ⟨t1, t2⟩ := s3 q hq
    refine ⟨?_, by rw [restP_skills]; exact t2⟩
    unfold restP
    split
    · rename_i h
      have : ∃ y ∈ pe, y.1 = q := by
        rw [← b.pn] at hq
        obtain ⟨y, hy, e⟩ := List.mem_map.mp hq
        exact ⟨y, hy, e⟩
      obtain ⟨y, hy, rfl⟩ := this
      have := one y hy h
      subst this
      simp only [List.length_append, List.length_singleton]
      omega
    · exact t1
theorem BookIn.addP (b : BookIn K F R a β dx dS dL dR dT dN pe sh) {p : Person} {pS pR : Addr} {R' : Hp} (hf : findP β p.name = none) (e : Same F G) (nS : R pS = none) (nR : R pR = none) (nSR : pS ≠ pR) (hr : p.rests = []) (hz : p.skills.length ≤ 1000) (hz2 : β.people.length < 1000)
    (hdS : R' dS = some (.dK (kvS pe ++ [(Sum.inr p.name, .ref pS)]))) (hdL : R' dL = some (.dK (kvL pe ++ [(Sum.inr p.name, .int p.limit)]))) (hdR : R' dR = some (.dK (kvR pe ++ [(Sum.inr p.name, .ref pR)])))
    (hpS : R' pS = some (.lst (p.skills.map V.str))) (hpR : R' pR = some (.lst [])) (ho : ∀ y, y ≠ dS → y ≠ dL → y ≠ dR → R y ≠ none → R' y = R y) :
    BookIn K G R' a ⟨β.people ++ [p], β.shifts⟩ dx dS dL dR dT dN (pe ++ [(p, pS, pR)]) sh := by
  have keep : ∀ {y o}, R y = some o → (∀ l, o ≠ .dK l) → R' y = some o := fun {y o} h hne => by
    rw [ho y (ne_of h b.cS (hne _)) (ne_of h b.cL (hne _)) (ne_of h b.cR (hne _)) (by rw [h]; intro z; cases z)]
    exact h
  have nd := b.nd
  simp only [List.nodup_cons, List.mem_cons, List.not_mem_nil, or_false, not_or] at nd
  obtain ⟨⟨n1, n2, n3, n4⟩, ⟨n5, n6, n7⟩, ⟨n8, n9⟩, n10, _⟩ := nd
  have hn : p.name ∉ β.people.map (·.name) := fun hm => by
    obtain ⟨q, hq, hqe⟩ := List.mem_map.mp hm
    unfold findP at hf
    rw [List.find?_eq_none] at hf
    exact hf q hq (by simp [hqe])
  refine { pn := ?_, sn := b.sn, ob := keep b.ob (fun _ z => nomatch z), ow := keep b.ow (fun _ z => nomatch z), cS := by rw [hdS]; simp [kvS], cL := by rw [hdL]; simp [kvL], cR := by rw [hdR]; simp [kvR], cT := ?_, cN := ?_, nd := b.nd, ps := ?_, pr := ?_, st := fun y hy => dp_mono e _ (b.st y hy), sc := ?_, rn := ?_, rs := ?_, nn := b.nn, un := ?_, us := b.us, sz := ?_ }
  · rw [List.map_append, b.pn]; rfl
  · rw [ho dT (Ne.symm n3) (Ne.symm n6) (Ne.symm n8) (by rw [b.cT]; intro z; cases z)]; exact b.cT
  · rw [ho dN (Ne.symm n4) (Ne.symm n7) (Ne.symm n9) (by rw [b.cN]; intro z; cases z)]; exact b.cN
  · intro y hy
    rcases List.mem_append.mp hy with hy | hy
    · exact keep (b.ps y hy) (fun _ z => nomatch z)
    · obtain rfl := List.mem_singleton.mp hy
      exact hpS
  · intro y hy
    rcases List.mem_append.mp hy with hy | hy
    · obtain ⟨vs, h1, h2⟩ := b.pr y hy
      exact ⟨vs, keep h1 (fun _ z => nomatch z), dpa_mono e _ h2⟩
    · obtain rfl := List.mem_singleton.mp hy
      refine ⟨[], hpR, ?_⟩
      show DqAll K G [] (p.rests.map stD)
      rw [hr]
      exact .nil
  · intro y hy
    have := b.nn y hy
    simp only [List.mem_cons, List.not_mem_nil, or_false, not_or] at this
    rw [ho y.2.2 this.1 this.2.1 this.2.2.1 (by rw [b.sc y hy]; intro z; cases z)]
    exact b.sc y hy
  · rw [List.map_append, List.nodup_append]
    refine ⟨b.rn, by simp, fun u hu v hv => ?_⟩
    obtain ⟨y, hy, rfl⟩ := List.mem_map.mp hu
    simp at hv
    subst hv
    obtain ⟨vs, h1, _⟩ := b.pr y hy
    exact ne_of_none h1 nR
  · intro y hy z hz
    rcases List.mem_append.mp hy with hy | hy
    · rcases List.mem_append.mp hz with hz | hz
      · exact b.rs y hy z hz
      · obtain rfl := List.mem_singleton.mp hz
        exact ne_of_none (b.ps y hy) nR
    · obtain rfl := List.mem_singleton.mp hy
      rcases List.mem_append.mp hz with hz | hz
      · obtain ⟨vs, h1, _⟩ := b.pr z hz
        exact Ne.symm (ne_of_none h1 nS)
      · obtain rfl := List.mem_singleton.mp hz
        exact nSR
  · show ((β.people ++ [p]).map (·.name)).Nodup
    rw [List.map_append, List.nodup_append]
    refine ⟨b.un, by simp, fun u hu v hv => ?_⟩
    simp at hv
    subst hv
    rintro rfl
    exact hn hu
  · obtain ⟨t1, t2, t3, t4⟩ := b.sz
    refine ⟨by simp only [List.length_append, List.length_singleton]; omega, t2, ?_, t4⟩
    intro q hq
    rcases List.mem_append.mp hq with hq | hq
    · exact t3 q hq
    · obtain rfl := List.mem_singleton.mp hq
      exact ⟨by rw [hr]; simp, hz⟩
theorem BookIn.addS (b : BookIn K F R a β dx dS dL dR dT dN pe sh) {s : Shift} {t dC : Addr} {R' : Hp} (hf : findS β s.name = none) (e : Same F G) (nC : R dC = none) (hst : Dq K G (.ref t) (stD (s.b, s.e))) (hz : s.needs.length ≤ 1000) (hz2 : β.shifts.length < 1000)
    (hdT : R' dT = some (.dK (kvT sh ++ [(Sum.inr s.name, .ref t)]))) (hdN : R' dN = some (.dK (kvN sh ++ [(Sum.inr s.name, .ref dC)])))
    (hdC : R' dC = some (.dK (kvC s.needs))) (ho : ∀ y, y ≠ dT → y ≠ dN → R y ≠ none → R' y = R y) :
    BookIn K G R' a ⟨β.people, β.shifts ++ [s]⟩ dx dS dL dR dT dN pe (sh ++ [(s, t, dC)]) := by
  have keep : ∀ {y o}, R y = some o → (∀ l, o ≠ .dK l) → R' y = some o := fun {y o} h hne => by
    rw [ho y (ne_of h b.cT (hne _)) (ne_of h b.cN (hne _)) (by rw [h]; intro z; cases z)]
    exact h
  have nd := b.nd
  simp only [List.nodup_cons, List.mem_cons, List.not_mem_nil, or_false, not_or] at nd
  obtain ⟨⟨n1, n2, n3, n4⟩, ⟨n5, n6, n7⟩, ⟨n8, n9⟩, n10, _⟩ := nd
  have hn : s.name ∉ β.shifts.map (·.name) := fun hm => by
    obtain ⟨q, hq, hqe⟩ := List.mem_map.mp hm
    unfold findS at hf
    rw [List.find?_eq_none] at hf
    exact hf q hq (by simp [hqe])
  refine { pn := b.pn, sn := ?_, ob := keep b.ob (fun _ z => nomatch z), ow := keep b.ow (fun _ z => nomatch z), cS := ?_, cL := ?_, cR := ?_, cT := by rw [hdT]; simp [kvT], cN := by rw [hdN]; simp [kvN], nd := b.nd, ps := fun y hy => keep (b.ps y hy) (fun _ z => nomatch z), pr := ?_, st := ?_, sc := ?_, rn := b.rn, rs := b.rs, nn := ?_, un := b.un, us := ?_, sz := ?_ }
  · rw [List.map_append, b.sn]; rfl
  · rw [ho dS n3 n4 (by rw [b.cS]; intro z; cases z)]; exact b.cS
  · rw [ho dL n6 n7 (by rw [b.cL]; intro z; cases z)]; exact b.cL
  · rw [ho dR n8 n9 (by rw [b.cR]; intro z; cases z)]; exact b.cR
  · intro y hy
    obtain ⟨vs, h1, h2⟩ := b.pr y hy
    exact ⟨vs, keep h1 (fun _ z => nomatch z), dpa_mono e _ h2⟩
  · intro y hy
    rcases List.mem_append.mp hy with hy | hy
    · exact dp_mono e _ (b.st y hy)
    · obtain rfl := List.mem_singleton.mp hy
      exact hst
  · intro y hy
    rcases List.mem_append.mp hy with hy | hy
    · have := b.nn y hy
      simp only [List.mem_cons, List.not_mem_nil, or_false, not_or] at this
      rw [ho y.2.2 this.2.2.2.1 this.2.2.2.2 (by rw [b.sc y hy]; intro z; cases z)]
      exact b.sc y hy
    · obtain rfl := List.mem_singleton.mp hy
      exact hdC
  · intro y hy
    rcases List.mem_append.mp hy with hy | hy
    · exact b.nn y hy
    · obtain rfl := List.mem_singleton.mp hy
      simp only [List.mem_cons, List.not_mem_nil, or_false, not_or]
      exact ⟨Ne.symm (ne_of_none b.cS nC), Ne.symm (ne_of_none b.cL nC), Ne.symm (ne_of_none b.cR nC), Ne.symm (ne_of_none b.cT nC), Ne.symm (ne_of_none b.cN nC)⟩
  · show ((β.shifts ++ [s]).map (·.name)).Nodup
    rw [List.map_append, List.nodup_append]
    refine ⟨b.us, by simp, fun u hu v hv => ?_⟩
    simp at hv
    subst hv
    rintro rfl
    exact hn hu
  · obtain ⟨t1, t2, t3, t4⟩ := b.sz
    refine ⟨t1, by simp only [List.length_append, List.length_singleton]; omega, t3, ?_⟩
    intro q hq
    rcases List.mem_append.mp hq with hq | hq
    · exact t4 q hq
    · obtain rfl := List.mem_singleton.mp hq
      exact hz
end
end RT
/-! Words for books. -/
namespace RT
open PySem PySem.Spec PyProof.Rows L2
section
variable {S : Type}
structure MethRG (P : Program) (w : World) (K : PySem.W.Frag) (mg : Str → Option Value) (base : Heap) (k : Nat) (kd : Kd S) (C : Str) (m : Str) (Fr : S → List PyData → Res) : Prop where
  ex : ∃ (f : Addr) (fd : FuncData) (ps : List Str), FnOk P w K mg base (L2.CX P w) k f fd ps (spRG K kd Fr) ∧ Meth K (He.ga K C) m f ∧ Binds K fd ps []
  cl : Cls K (He.ga K C)
  no : ∃ fl, KdC kd C fl ∧ noFl fl m
structure MethMG (P : Program) (w : World) (K : PySem.W.Frag) (mg : Str → Option Value) (base : Heap) (k : Nat) (kd : Kd S) (C : Str) (m : Str) (Fm : S → List PyData → RMG S) : Prop where
  ex : ∃ (f : Addr) (fd : FuncData) (ps : List Str), FnOk P w K mg base (L2.CX P w) k f fd ps (spMG K kd Fm) ∧ Meth K (He.ga K C) m f ∧ Binds K fd ps []
  cl : Cls K (He.ga K C)
  no : ∃ fl, KdC kd C fl ∧ noFl fl m
/-- a reading function of the module -/
structure PFRG (P : Program) (w : World) (K : PySem.W.Frag) (mg : Str → Option Value) (base : Heap) (k : Nat) (kd : Kd S) (x : Str) (Fr : S → List PyData → Res) : Prop where
  ex : ∃ (f : Addr) (fd : FuncData) (ps : List Str), FnOk P w K mg base CX0 k f fd ps (spRG K kd Fr) ∧ mg x = some (.ref f) ∧ PySem.W.keepIn K (.ref f) = true ∧ Binds K fd ps []
/-- a changing one -/
structure PFMG (P : Program) (w : World) (K : PySem.W.Frag) (mg : Str → Option Value) (base : Heap) (k : Nat) (kd : Kd S) (x : Str) (Fm : S → List PyData → RMG S) : Prop where
  ex : ∃ (f : Addr) (fd : FuncData) (ps : List Str), FnOk P w K mg base CX0 k f fd ps (spMG K kd Fm) ∧ mg x = some (.ref f) ∧ PySem.W.keepIn K (.ref f) = true ∧ Binds K fd ps []
theorem MethMG.exc {P : Program} {w : World} {K : PySem.W.Frag} {mg : Str → Option Value} {base : Heap} {k : Nat} {kd : Kd S} {C m : Str} {Fm : S → List PyData → RMG S} (M : MethMG P w K mg base k kd C m Fm) : MethRG P w K mg base k kd C m (excOf Fm) := by
  obtain ⟨f, fd, ps, G, me, b⟩ := M.ex
  exact ⟨⟨f, fd, ps, G.imp spM_of_R, me, b⟩, M.cl, M.no⟩
end
abbrev MethR (P : Program) (w : World) (K : PySem.W.Frag) (mg : Str → Option Value) (base : Heap) (k : Nat) (m : Str) (Fr : BookSt → List PyData → Res) : Prop := MethRG P w K mg base k kB "Book" m Fr
abbrev MethM (P : Program) (w : World) (K : PySem.W.Frag) (mg : Str → Option Value) (base : Heap) (k : Nat) (m : Str) (Fm : BookSt → List PyData → RM) : Prop := MethMG P w K mg base k kB "Book" m Fm
abbrev PFR (P : Program) (w : World) (K : PySem.W.Frag) (mg : Str → Option Value) (base : Heap) (k : Nat) (x : Str) (Fr : BookSt → List PyData → Res) : Prop := PFRG P w K mg base k kB x Fr
abbrev PFM (P : Program) (w : World) (K : PySem.W.Frag) (mg : Str → Option Value) (base : Heap) (k : Nat) (x : Str) (Fm : BookSt → List PyData → RM) : Prop := PFMG P w K mg base k kB x Fm
section
variable {S : Type} {kd : Kd S} {C : Str} {X : Cx} {K : PySem.W.Frag} {B : Bs} {w : WX} {W : XW} {e : Expr} {es : List Expr} {ta : TA} {sa : SA} {x m : Str} {p ap pos pos2 : Pos} {k j : Nat} {Fr : S → List PyData → Res} {Fm : S → List PyData → RMG S}
theorem se_meth (i : Nat) {pl : Sem Bool} (M : MethRG X.prog X.w K X.mg X.base k kd C m Fr) (hr : Room j X.A) (ha : SemA X K B (e :: es) ta sa) (hp : PE X (.Name x p) (tVar i)) (hk : k ≤ j := by decide)
    (hst : starEach (e :: es) X.env = (false, eval e X.env) :: starEach es X.env := by rfl) (hpl : (backTo pos (starEach es X.env)).any (·.1) = false := by rfl)
    (ht : eval (.Call (.Attribute (.Name x p) m ap) (e :: es) [] pos) X.env = (do
      let ov ← eval (.Name x p) X.env
      standAt ap.atName
      let (f, first) ← holding [ov] (getMethod ov m pl)
      callWith pos f first (backTo pos (starEach (e :: es) X.env)) (backToKw pos (keywordEach [] X.env))) := by rfl) (hK : X.K = K := by rfl) :
    SemE X K B (.Call (.Attribute (.Name x p) m ap) (e :: es) [] pos) (tMeth (He.ga K C) m (spRG K kd Fr) [] E0 (tVar i) ta) (eMeth kd B.bk i Fr sa) := by
  subst hK
  obtain ⟨f, fd, ps, G, me, b⟩ := M.ex
  obtain ⟨fl, kc, no⟩ := M.no
  exact ⟨pe_meth hp M.cl me G (hr.mono hk) b .nil passL ha.pa hst hpl ht, meth_okE kc no ha.ok⟩
theorem se_meth0 (i : Nat) {pl : Sem Bool} (M : MethRG X.prog X.w K X.mg X.base k kd C m Fr) (hr : Room j X.A) (hp : PE X (.Name x p) (tVar i)) (hk : k ≤ j := by decide)
    (ht : eval (.Call (.Attribute (.Name x p) m ap) [] [] pos) X.env = (do
      let ov ← eval (.Name x p) X.env
      standAt ap.atName
      let (f, first) ← holding [ov] (getMethod ov m pl)
      callWith pos f first (backTo pos (starEach [] X.env)) (backToKw pos (keywordEach [] X.env))) := by rfl) (hK : X.K = K := by rfl) :
    SemE X K B (.Call (.Attribute (.Name x p) m ap) [] [] pos) (tMeth (He.ga K C) m (spRG K kd Fr) [] E0 (tVar i) tNil) (eMeth kd B.bk i Fr eNil) := by
  subst hK
  obtain ⟨f, fd, ps, G, me, b⟩ := M.ex
  obtain ⟨fl, kc, no⟩ := M.no
  exact ⟨pe_meth0 hp M.cl me G (hr.mono hk) b .nil passL ht, meth_okE kc no nil_ok⟩
theorem sx_meth (i : Nat) {pl : Sem Bool} (tk : Takes X w) (M : MethRG X.prog X.w K X.mg X.base k kd C m Fr) (hr : Room j X.A) (ha : SemA X K B (e :: es) ta sa) (hp : PE X (.Name x p) (tVar i)) (hk : k ≤ j := by decide)
    (hst : starEach (e :: es) X.env = (false, eval e X.env) :: starEach es X.env := by rfl) (hpl : (backTo pos (starEach es X.env)).any (·.1) = false := by rfl)
    (ht : eval (.Call (.Attribute (.Name x p) m ap) (e :: es) [] pos) X.env = (eval (.Name x p) X.env >>= fun ov => standAt ap.atName >>= fun _ => holding [ov] (getMethod ov m pl) >>= fun r => callWith pos r.1 r.2 (backTo pos (starEach (e :: es) X.env)) (backToKw pos (keywordEach [] X.env))) := by rfl) (hK : X.K = K := by rfl) :
    SemX X K B w (.Call (.Attribute (.Name x p) m ap) (e :: es) [] pos) (tMethS (He.ga K C) m (spRG K kd Fr) (WE w) (tVar i) ta) (xMeth kd B.bk i Fr sa) := by
  subst hK
  obtain ⟨f, fd, ps, G, me, b⟩ := M.ex
  obtain ⟨fl, kc, no⟩ := M.no
  exact ⟨pe_methW tk hp M.cl me G hr hk b ha.pa hst hpl ht, methX_ok kc no ha.ok⟩
/-- book.m(..) that changes it, a statement -/
theorem s_mut (i : Nat) {pl : Sem Bool} (M : MethMG X.prog X.w K X.mg X.base k kd C m Fm) (hr : Room j X.A) (ha : SemA X K B (e :: es) ta sa) (hp : PE X (.Name x p) (tVar i)) (hk : k ≤ j := by decide)
    (hst : starEach (e :: es) X.env = (false, eval e X.env) :: starEach es X.env := by rfl) (hpl : (backTo pos (starEach es X.env)).any (·.1) = false := by rfl)
    (ht : eval (.Call (.Attribute (.Name x p) m ap) (e :: es) [] pos) X.env = (do
      let ov ← eval (.Name x p) X.env
      standAt ap.atName
      let (f, first) ← holding [ov] (getMethod ov m pl)
      callWith pos f first (backTo pos (starEach (e :: es) X.env)) (backToKw pos (keywordEach [] X.env))) := by rfl)
    (hs : swapsWith (.Call (.Attribute (.Name x p) m ap) (e :: es) [] pos) none pos2.line X.env = pure false := by rfl) (hK : X.K = K := by rfl) :
    SemS X K B W0 (.Expr (.Call (.Attribute (.Name x p) m ap) (e :: es) [] pos) pos2) (tDrop (tMeth (He.ga K C) m (spMG K kd Fm) [] E0 (tVar i) ta)) (sMut kd i Fm sa) := by
  subst hK
  obtain ⟨f, fd, ps, G, me, b⟩ := M.ex
  obtain ⟨fl, kc, no⟩ := M.no
  exact ⟨ps_expr (pe_meth hp M.cl me G (hr.mono hk) b .nil passL ha.pa hst hpl ht) hs, mut_okS kc no ha.ok⟩
/-- y = book.m(..) that changes it -/
theorem s_mutS (i l : Nat) {pl : Sem Bool} {y : Str} {p3 : Pos} (M : MethMG X.prog X.w K X.mg X.base k kd C m Fm) (hr : Room j X.A) (hN : X.N.Nodup) (ha : SemA X K B (e :: es) ta sa) (hp : PE X (.Name x p) (tVar i)) (hl : X.N[l]? = some y := by rfl) (hk : k ≤ j := by decide)
    (hx : Loc X.env.scope y := by first | exact Or.inl rfl | exact Or.inr rfl)
    (hst : starEach (e :: es) X.env = (false, eval e X.env) :: starEach es X.env := by rfl) (hpl : (backTo pos (starEach es X.env)).any (·.1) = false := by rfl)
    (ht : eval (.Call (.Attribute (.Name x p) m ap) (e :: es) [] pos) X.env = (do
      let ov ← eval (.Name x p) X.env
      standAt ap.atName
      let (f, first) ← holding [ov] (getMethod ov m pl)
      callWith pos f first (backTo pos (starEach (e :: es) X.env)) (backToKw pos (keywordEach [] X.env))) := by rfl)
    (hs : swapsWith (.Call (.Attribute (.Name x p) m ap) (e :: es) [] pos) (some (.Name y p3)) pos2.line X.env = pure false := by rfl) (hf : X.fn y = true ∨ X.env.scope.names.lookup y = some .local := by first | exact .inl rfl | exact .inr rfl) (hK : X.K = K := by rfl) :
    SemS X K B W0 (.Assign [.Name y p3] (.Call (.Attribute (.Name x p) m ap) (e :: es) [] pos) pos2) (tAsg (tMeth (He.ga K C) m (spMG K kd Fm) [] E0 (tVar i) ta) (gName l)) (sMutS kd i l Fm sa) := by
  subst hK
  obtain ⟨f, fd, ps, G, me, b⟩ := M.ex
  obtain ⟨fl, kc, no⟩ := M.no
  exact ⟨ps_set hN hl hx (pe_meth hp M.cl me G (hr.mono hk) b .nil passL ha.pa hst hpl ht) hs hf, mutS_okS kc no ha.ok⟩
/-- f(book, ..) that reads -/
theorem se_callR (i : Nat) {y : Str} {p2 : Pos} (C : PFRG X.prog X.w K X.mg X.base k kd x Fr) (hr : Room j X.A) (ha : SemA X K B es ta sa) (hp : PE X (.Name y p2) (tVar i)) (hk : k ≤ j := by decide) (hg : Gl X x := by rfl) (hdb : (x == ("__debug__" : Str)) = false := by decide)
    (he : starEach (.Name y p2 :: es) X.env = (false, eval (.Name y p2) X.env) :: starEach es X.env := by rfl) (hpl : (backTo pos (starEach es X.env)).any (·.1) = false := by rfl) (hK : X.K = K := by rfl) :
    SemE X K B (.Call (.Name x p) (.Name y p2 :: es) [] pos) (tCallB K kd Fr i ta) (eMeth kd B.bk i Fr sa) := by
  subst hK
  obtain ⟨f, fd, ps, h1, h2, h3, h4⟩ := C.ex
  exact ⟨pe_call h1 (hr.mono hk) hg h2 h3 h4 .nil pass0 (pa_cons hp ha.pa he) hdb he hpl, callR_ok ha.ok⟩
/-- f(book, ..), own lists handed in for a moment -/
theorem se_callRB (i : Nat) {y : Str} {p2 : Pos} (C : PFRG X.prog X.w K X.mg X.base k kd x Fr) (hr : Room j X.A) (ha : SemCA X K B es ta sa) (hp : PE X (.Name y p2) (tVar i)) (hk : k ≤ j := by decide) (hg : Gl X x := by rfl) (hdb : (x == ("__debug__" : Str)) = false := by decide)
    (he : starEach (.Name y p2 :: es) X.env = (false, eval (.Name y p2) X.env) :: starEach es X.env := by rfl) (hpl : (backTo pos (starEach es X.env)).any (·.1) = false := by rfl) (hK : X.K = K := by rfl) :
    SemE X K B (.Call (.Name x p) (.Name y p2 :: es) [] pos) (tCallB K kd Fr i ta) (fun ρ => onlyS (eMeth kd B.bk i Fr sa ρ)) := by
  subst hK
  obtain ⟨f, fd, ps, h1, h2, h3, h4⟩ := C.ex
  exact ⟨pe_call h1 (hr.mono hk) hg h2 h3 h4 .nil pass0 (pa_cons hp ha.pa he) hdb he hpl, callRB_ok ha.ok⟩
/-- f(book, ..) that changes it, a statement -/
theorem s_callM (i : Nat) {y : Str} {p2 : Pos} (C : PFMG X.prog X.w K X.mg X.base k kd x Fm) (hr : Room j X.A) (ha : SemA X K B es ta sa) (hp : PE X (.Name y p2) (tVar i)) (hk : k ≤ j := by decide) (hg : Gl X x := by rfl) (hdb : (x == ("__debug__" : Str)) = false := by decide)
    (he : starEach (.Name y p2 :: es) X.env = (false, eval (.Name y p2) X.env) :: starEach es X.env := by rfl) (hpl : (backTo pos (starEach es X.env)).any (·.1) = false := by rfl)
    (hs : swapsWith (.Call (.Name x p) (.Name y p2 :: es) [] pos) none pos2.line X.env = pure false := by rfl) (hK : X.K = K := by rfl) :
    SemS X K B W0 (.Expr (.Call (.Name x p) (.Name y p2 :: es) [] pos) pos2) (tDrop (tCall (spMG K kd Fm) [] E0 (tCons (tVar i) ta))) (sMut kd i Fm sa) := by
  subst hK
  obtain ⟨f, fd, ps, h1, h2, h3, h4⟩ := C.ex
  exact ⟨ps_expr (pe_call h1 (hr.mono hk) hg h2 h3 h4 .nil pass0 (pa_cons hp ha.pa he) hdb he hpl) hs, mutF_ok ha.ok⟩
/-- x = Book() -/
theorem s_mkB (i : Nat) {y : Str} {p2 : Pos} (hB : B.o = none) (ps : PS X (.Assign [.Name x p] (.Call (.Name y p2) [] [] pos) pos2) (tAsg (tMake (He.ga K "Book") (spInit K) [] E0 tNil) (gName i))) :
    SemS X K B W (.Assign [.Name x p] (.Call (.Name y p2) [] [] pos) pos2) (tAsg (tMake (He.ga K "Book") (spInit K) [] E0 tNil) (gName i)) (sMkB i) := ⟨ps, mk_okS hB⟩
end
/-- own lists become data, then f -/
def sFrz (f : SS) : SS := fun ρ => f (ρ.map frz1)
@[simp] theorem sFrz_eq (f : SS) (ρ : Rho) : sFrz f ρ = f (ρ.map frz1) := rfl
theorem s_frz {X : Cx} {K : PySem.W.Frag} {B : Bs} {W : XW} {st : Stmt} {t : TS} {f : SS} (h : SemS X K B W st t f) : SemS X K B W st t (sFrz f) := ⟨h.ps, fun Z R F H σ ρ D s hg => by
  obtain ⟨F', e1, s'⟩ := s.frz
  exact h.ok Z R F' H σ _ D s' (Goes.mono hg e1)⟩
/-- a reading function: its derivation for any object that is read, its value where it is handed that one -/
theorem sp_run {S : Type} {kd : Kd S} {X : Cx} {K : PySem.W.Frag} {N : List Str} {n : Nat} {st : List Stmt} {b : (Addr → Option ObjSt) → SS} {Fr : S → List PyData → Res} {vs : List V} {H : Hp} {Q : VK} {E : XK}
    (k : ∀ B : Bs, ∃ t, SemSs X.nox K B W0 st t (b B.bk)) (hF : ∀ a β ds, match Fr β ds with
      | .ret d => runF N n (b (only a (kd.inj β))) (refD a :: ds) = some d
      | .exc _ => False
      | .no => True) (h : spRG K kd Fr vs H Q E) : ∃ t, PSs X st t ∧ t { nx := fun _ H' => Q .non H', rt := Q } (start N vs) H := by
  obtain ⟨G, R, a, β, us, ds, rfl, e, eR, ap, bA, r, q⟩ := h
  have hf := hF a β ds
  cases e3 : Fr β ds with
  | no => rw [e3] at q; exact (show False from q).elim
  | exc c => rw [e3] at hf; exact hf.elim
  | ret d =>
    rw [e3] at q hf
    have bo : BsOk K ⟨R, G, only a (kd.inj β), none⟩ G H := ⟨Same.refl G, eR, ap, only_ok bA⟩
    obtain ⟨t, ht⟩ := k ⟨R, G, only a (kd.inj β), none⟩
    exact ⟨t, ht.ps.nox, sp_bodyB ht.ok bo e (.cons (.inr (.inl ⟨a, rfl, rfl⟩)) r) hf q⟩
/-! ### rows to reckon -/
@[simp] theorem sMkB_eq (i : Nat) (ρ : Rho) : sMkB i ρ = .nx (ρ.set i (.obj (.book ⟨[], []⟩))) := rfl
section
variable {S : Type} {kd : Kd S}
def outM (o : RMG S) (k : S → PyData → Out) (kx : Str → Out) : Out := match o with
  | .no => .no
  | .done β d => k β d
  | .exc c => kx c
@[simp] theorem outM_done (β : S) (d : PyData) (k : S → PyData → Out) (kx : Str → Out) : outM (.done β d) k kx = k β d := rfl
@[simp] theorem outM_exc (c : Str) (k : S → PyData → Out) (kx : Str → Out) : outM (.exc c) k kx = kx c := rfl
@[simp] theorem slO_inj (β : S) : slO kd (some (.obj (kd.inj β))) = some β := kd.pi β
@[simp] theorem slO_book (β : BookSt) : slO kB (some (.obj (.book β))) = some β := rfl
@[simp] theorem slO_deal (β : DealSt) : slO kD (some (.obj (.deal β))) = some β := rfl
@[simp] theorem slO_row (β : List Cell) : slO kW (some (.obj (.row β))) = some β := rfl
@[simp] theorem slO_dct (β : List (Int × PyData)) : slO kT (some (.obj (.dct β))) = some β := rfl
@[simp] theorem slO_any (β : ObjSt) : slO kA (some (.obj β)) = some β := rfl
def outO (o : Option S) (k : S → Out) : Out := match o with
  | some β => k β
  | none => .no
@[simp] theorem outO_some (β : S) (k : S → Out) : outO (some β) k = k β := rfl
@[simp] theorem sMut_eq (i : Nat) (Fm : S → List PyData → RMG S) (sa : SA) (ρ : Rho) : sMut kd i Fm sa ρ = outO (slO kd ρ[i]?) fun β => outL (sa ρ) fun ds => outM (Fm β ds) (fun β' _ => .nx (ρ.set i (.obj (kd.inj β')))) (fun c => .ex c ρ) := by
  unfold sMut
  cases slO kd ρ[i]? with
  | none => rfl
  | some s =>
    cases sa ρ with
    | none => rfl
    | some ds =>
      simp only [outO_some, outL_some]
      cases Fm s ds <;> rfl
@[simp] theorem sMutS_eq (i j : Nat) (Fm : S → List PyData → RMG S) (sa : SA) (ρ : Rho) : sMutS kd i j Fm sa ρ = outO (slO kd ρ[i]?) fun β => outL (sa ρ) fun ds => outM (Fm β ds) (fun β' d => .nx ((ρ.set i (.obj (kd.inj β'))).set j (.val d))) (fun c => .ex c ρ) := by
  unfold sMutS
  cases slO kd ρ[i]? with
  | none => rfl
  | some s =>
    cases sa ρ with
    | none => rfl
    | some ds =>
      simp only [outO_some, outL_some]
      cases Fm s ds <;> rfl
theorem rcv_obj (bk : Addr → Option ObjSt) (ρ : Rho) (i : Nat) (o : ObjSt) (h : ρ[i]? = some (.obj o)) : rcv kd bk ρ i = kd.prj o := by unfold rcv; rw [h]
theorem rcv_ref (a : Addr) (o : ObjSt) (ρ : Rho) (i : Nat) (h : ρ[i]? = some (.val (refD a))) : rcv kd (only a o) ρ i = kd.prj o := by
  unfold rcv
  rw [h]
  simp [refD, addrOf, only]
theorem eMeth_eq (bk : Addr → Option ObjSt) (i : Nat) (Fr : S → List PyData → Res) (sa : SA) (ρ : Rho) : eMeth kd bk i Fr sa ρ = (rcv kd bk ρ i).bind fun β => (sa ρ).bind fun ds => (Fr β ds).ok := by
  unfold eMeth xMeth
  cases rcv kd bk ρ i with
  | none => rfl
  | some β => cases sa ρ <;> rfl
end
@[simp] theorem frz1_obj (o : ObjSt) : frz1 (.obj o) = .obj o := rfl
end RT
/-! A caught exception asked for its class; a head that looks at more. -/
namespace RT
open PySem PySem.Spec PyProof.Rows L2
theorem vals_refs : ∀ {ds : List Addr} {us : List Value}, Vals (ds.map V.ref) us → us = ds.map Value.ref
  | [], us, h => by cases h; rfl
  | d :: ds, us, h => by
    cases h with
    | cons r rs =>
      cases r
      rw [vals_refs rs]
      rfl
/-- isinstance(e, (C1, C2, ..)), e the exception that the suite holds -/
def rIsET (K : PySem.W.Frag) (D a : Addr) : List V → Hp → VK → Prop := fun xs H Q => ∃ (tp : Addr) (ds : List Addr) (b : Bool), xs = [.ref a, .ref tp] ∧ H tp = some (.tup (ds.map V.ref)) ∧ PySem.W.kitAny K (.ref D) (ds.map Value.ref) = some b ∧ Q (.bl b) H
theorem call_isET {X : Cx} {a D : Addr} {oe : Obj} {pn : List (Addr × Obj)} (C : ExcC X.K D) (hz : Zc (.ref D) none oe) (hf : ∃ vs, oe.data = .fields vs) : CallR (X.suite a ((a, oe) :: pn)) (.builtin "isinstance") (rIsET X.K D a) := fun pins s σ H xs us Q I r h => by
  obtain ⟨tp, ds, b, rfl, hT, e, q⟩ := h
  cases r with
  | cons rx rr =>
  cases rr with
  | cons rt rr =>
  cases rr
  cases rx
  cases rt
  obtain ⟨_, its, rv, o, k1, k2, n, k3⟩ := (show ObjOk X.prog X.w H s.heap tp (.tup (ds.map V.ref)) from I.hok tp _ hT)
  have ei := vals_refs rv
  subst ei
  obtain ⟨oc, od, dt, sl⟩ := o
  simp only at k2 k3
  subst k2 k3
  obtain ⟨hget, _⟩ := I.pin (a, oe) (List.mem_append.mpr (.inl List.mem_cons_self))
  obtain ⟨vs, hv⟩ := hf
  have J : PySem.W.InstAt s.heap a oe D none := by
    obtain ⟨oc2, od2, oda, osl⟩ := oe
    obtain ⟨h1, h2⟩ := hz
    dsimp only at h1 h2 hv
    subst h1 h2 hv
    exact ⟨hget, rfl, rfl, trivial⟩
  exact PySem.W.kia_tup (PySem.W.handS_kitx_exc C.hg C.hk C.hs C.hd C.ha C.hn C.ht C.hm) I.kIn J k1 e (fun z => nomatch z) fun tk => ⟨.bl b, H, I.kept (t' := tk) fun _ _ z => z, rfl, q⟩
/-- the facts of a class, looked at once -/
def excB (K : PySem.W.Frag) (D : Addr) : Bool := decide (PySem.W.findIn K (.ref D) "__getattribute__" = some (some (.builtin "BaseException.__getattribute__"))) && (decide (PySem.W.findIn K (.ref D) "__getattr__" = some none) && (decide (PySem.W.subIn K (.ref D) (.type "BaseException") = some true) &&
  (PySem.W.hasDictIn K D && (decide (PySem.W.findIn K (.ref D) "__class__" = some (some (.builtin "object.__class__"))) && (decide (PySem.W.specialIn K (.builtin "object.__class__") "__get__" = some (some (.builtin "getset_descriptor.__get__"))) && (decide (PySem.W.takesIn K (.builtin "object.__class__") = some true) && decide (PySem.W.mroIn K D (.type "object") = some true)))))))
theorem excB_ok {K : PySem.W.Frag} {D : Addr} (h : excB K D = true) : ExcC K D := by
  unfold excB at h
  simp only [Bool.and_eq_true, decide_eq_true_eq] at h
  obtain ⟨h1, h2, h3, h4, h5, h6, h7, h8⟩ := h
  exact ⟨h1, h2, h3, h4, h5, h6, h7, h8⟩
def kitB1 (K : PySem.W.Frag) (D : Addr) (c : Value) (b : Bool) : Bool := decide (PySem.W.kitOne K (.ref D) c = some b)
def kitBs (K : PySem.W.Frag) (D : Addr) (cs : List Value) (b : Bool) : Bool := decide (PySem.W.kitAny K (.ref D) cs = some b)
/-- a head's look at facts, defs, and one more thing -/
def hookP (n : Nat) (fa : List He.Fa) (fn : List He.DefD) (ex : PySem.W.Frag → Bool) : PySem.W.Hook where
  α := He.AlD × Bool
  obs := fun s => (He.obsDG n fa fn s.heap.get?, ex (He.frG s.heap.get? (He.asD s.heap.get? n)))
  val := fun _ => (He.valD fn, true)
  says := fun _ h => ∃ K : PySem.W.Frag, K.In h ∧ He.SaysD fa fn K ∧ ex K = true
  of := fun _ _ e => ⟨_, He.frG_in, congrArg Prod.fst e, congrArg Prod.snd e⟩
  keeps := fun _ _ _ h k => by
    obtain ⟨K, hK, c⟩ := h
    exact ⟨K, PySem.W.Frag.In.keeps hK k, c⟩
def obsP (n : Nat) (fa : List He.Fa) (fn : List He.DefD) (ex : PySem.W.Frag → Bool) (g : Addr → Option Obj) : He.AlD × Bool := (He.obsDG n fa fn g, ex (He.frG g (He.asD g n)))
theorem obsP_eq {n : Nat} {fa : List He.Fa} {fn : List He.DefD} {ex : PySem.W.Frag → Bool} {g : Addr → Option Obj} {s : Shared} (h : ∀ a, g a = s.heap.get? a) : obsP n fa fn ex g = (hookP n fa fn ex).obs s := by
  cases (funext h : g = s.heap.get?)
  rfl
end RT
/-! A walk along a locked dict's keys. -/
namespace RT
open PySem PySem.Spec PyProof.Rows L2
theorem for_keys {d : Addr} {o : Obj} {kvs : List (Key × V)} {g : TG} {tb : TS} {D : Ends} {σ : L2.St} {H : Hp} (Pv : Nat → L2.St → Hp → Prop) (h0 : Pv 0 σ H) (hl : ∀ i σ H, i ≤ kvs.length → Pv i σ H → H d = some (.frz o (.dK kvs)))
    (hs : ∀ i k v σ H, kvs[i]? = some (k, v) → Pv i σ H → g (kV k) σ H fun σ2 H2 => tb { D with nx := Pv (i + 1), ct := Pv (i + 1), bk := D.nx } σ2 H2) (hd : ∀ σ H, Pv kvs.length σ H → D.nx σ H) :
    ∃ W : Nat → Nat → L2.St → Hp → Prop, (∃ m, W 0 m σ H) ∧ ∀ i m σ H, W i m σ H →
      ((Itk d o kvs).stop i H ∧ D.nx σ H) ∨ ((Itk d o kvs).go i H ∧ ∃ N : L2.St → Hp → Prop, (∀ σ' H', N σ' H' → ∃ m', m' < m ∧ W (i + 1) m' σ' H') ∧ ∀ x H', (Itk d o kvs).yld i H x H' → g x σ H' fun σ2 H2 => tb { D with nx := N, ct := N, bk := D.nx } σ2 H2) := by
  refine ⟨fun i m σ H => m = kvs.length - i ∧ i ≤ kvs.length ∧ Pv i σ H, ⟨_, rfl, Nat.zero_le _, h0⟩, fun i m σ H w => ?_⟩
  obtain ⟨rfl, hi, p⟩ := w
  have hk := hl i σ H hi p
  rcases Nat.lt_or_ge i kvs.length with lt | ge
  · refine .inr ⟨⟨hk, lt⟩, Pv (i + 1), fun σ' H' q => ⟨kvs.length - (i + 1), by omega, rfl, lt, q⟩, fun x H' y => ?_⟩
    obtain ⟨rfl, k, v, e, rfl⟩ := y
    exact hs i k v σ H' e p
  · have e : i = kvs.length := Nat.le_antisymm hi ge
    subst e
    exact .inl ⟨⟨hk, Nat.le_refl _⟩, hd σ H p⟩
end RT
/-! Functions that hand back a new book. -/
namespace RT
open PySem PySem.Spec PyProof.Rows L2
section
variable {S : Type}
def spNew (K : PySem.W.Frag) (kd : Kd S) (Ff : List PyData → Option S) : Sp := fun vs H Q _ => ∃ (G : Hp) (ds : List PyData) (β : S), Same G H ∧ RpAll K G vs ds ∧ Ff ds = some β ∧
  ∀ a H' G' R', Grow H G H' G' → Same R' H' → Apart R' G' → (∀ x, R' x ≠ none → H x = none) → ObjAt K G' R' a (kd.inj β) → Q (.ref a) H'
def sRetO (i : Nat) : SS := fun ρ => match ρ[i]? with
  | some (.obj _) => .ro i ρ
  | _ => .no
def runNew (kd : Kd S) (N : List Str) (n : Nat) (b : SS) : List PyData → Option S := fun ds => if ds.length = n then (match b (rho0 N ds) with
  | .ro i ρ => slO kd ρ[i]?
  | _ => none) else none
def sSetB (i : Nat) (kd : Kd S) (Ff : List PyData → Option S) (sa : SA) : SS := fun ρ => match (sa ρ).bind Ff with
  | some β => .nx (ρ.set i (.obj (kd.inj β)))
  | none => .no
theorem retO_ok {K : PySem.W.Frag} {B : Bs} {W : XW} (i : Nat) : SSOk K B W (tRet (tVar i)) (sRetO i) := fun Z R F H σ ρ D s hg => by
  unfold sRetO at hg
  split at hg
  · rename_i o e
    obtain ⟨a, h1, _⟩ := s.env.obj i _ e
    exact ⟨.ref a, h1, hg (.ref a) σ H R F s h1 (Same.refl F)⟩
  · exact hg.elim
theorem sp_bodyN {kd : Kd S} {K : PySem.W.Frag} {N : List Str} {n : Nat} {b : SS} {t : TS} {vs : List V} {H : Hp} {Q : VK} {E : XK} (k : SSOk K noB W0 t b) (h : spNew K kd (runNew kd N n b) vs H Q E) : t { nx := fun _ H' => Q .non H', rt := Q } (start N vs) H := by
  obtain ⟨G, ds, β, e, hR, hF, hQ⟩ := h
  refine k ⟨noH, H, G⟩ noR G H _ _ _ (start_ok bsOk_no e hR) ?_
  unfold runNew at hF
  split at hF
  · cases hb : b (rho0 N ds) with
    | no => rw [hb] at hF; cases hF
    | nx r => rw [hb] at hF; cases hF
    | rt d r => rw [hb] at hF; cases hF
    | ex c r => rw [hb] at hF; cases hF
    | ro i r =>
      rw [hb] at hF
      have ho := slO_ok (show slO kd r[i]? = some β from hF)
      exact fun v σ H' R' F' s hv _ => by
        obtain ⟨a, h1, h2⟩ := s.env.obj i _ ho
        rw [h1] at hv
        cases hv
        exact hQ a H' F' (R' i) s.gr.pure (s.env.rh i) (s.env.rF i) (fun x hx => (s.fo i x hx).elim (fun z => absurd rfl z) id) h2
  · cases hF
theorem setB_ok {kd : Kd S} {K : PySem.W.Frag} {B : Bs} {W : XW} {ta : TA} {sa : SA} {Ff : List PyData → Option S} (i : Nat) (hB : B.o = none) (ha : AOk K B ta sa) : SSOk K B W (tAsg (tCall (spNew K kd Ff) [] E0 ta) (gName i)) (sSetB i kd Ff sa) := fun Z R F H σ ρ D s hg => by
  unfold sSetB at hg
  cases e1 : sa ρ with
  | none => rw [e1] at hg; exact hg.elim
  | some ds =>
    rw [e1, Option.bind_some] at hg
    cases e2 : Ff ds with
    | none => rw [e2] at hg; exact hg.elim
    | some β =>
      simp only [e2] at hg
      refine ha _ F H σ ρ ds s.env e1 _ fun vs H1 G1 g1 r1 => ?_
      show spNew K kd Ff (vs ++ []) H1 _ E0
      rw [List.append_nil]
      exact ⟨G1, ds, β, g1.sub, r1, e2, fun a H' G' R' g rh rF rn bA => hg _ H' _ G' ((s.grow g1).newO (fun _ => hB) g rh rF rn bA) (g1.f.trans g.f)⟩
/-- a function that hands back a new object -/
structure PFN (P : Program) (w : World) (K : PySem.W.Frag) (mg : Str → Option Value) (base : Heap) (k : Nat) (kd : Kd S) (x : Str) (Ff : List PyData → Option S) : Prop where
  ex : ∃ (f : Addr) (fd : FuncData) (ps : List Str), FnOk P w K mg base CX0 k f fd ps (spNew K kd Ff) ∧ mg x = some (.ref f) ∧ PySem.W.keepIn K (.ref f) = true ∧ Binds K fd ps []
end
section
variable {S : Type} {kd : Kd S} {X : Cx} {K : PySem.W.Frag} {B : Bs} {W : XW} {e : Expr} {es : List Expr} {ta : TA} {sa : SA} {x y : Str} {p p2 pos pos2 : Pos} {k j : Nat} {Ff : List PyData → Option S}
theorem s_retO (i : Nat) (hp : PE X e (tVar i)) : SemS X K B W (.Return (some e) pos) (tRet (tVar i)) (sRetO i) := ⟨ps_ret hp, retO_ok i⟩
theorem s_setB (i : Nat) (C : PFN X.prog X.w K X.mg X.base k kd x Ff) (hr : Room j X.A) (hB : B.o = none) (hN : X.N.Nodup) (ha : SemA X K B (e :: es) ta sa) (hi : X.N[i]? = some y := by rfl) (hk : k ≤ j := by decide) (hx : Loc X.env.scope y := by first | exact Or.inl rfl | exact Or.inr rfl)
    (hs : swapsWith (.Call (.Name x p) (e :: es) [] pos) (some (.Name y p2)) pos2.line X.env = pure false := by rfl) (hf : X.fn y = true ∨ X.env.scope.names.lookup y = some .local := by first | exact .inl rfl | exact .inr rfl)
    (hg : Gl X x := by rfl) (hdb : (x == ("__debug__" : Str)) = false := by decide) (he : starEach (e :: es) X.env = (false, eval e X.env) :: starEach es X.env := by rfl) (hpl : (backTo pos (starEach es X.env)).any (·.1) = false := by rfl) (hK : X.K = K := by rfl) :
    SemS X K B W (.Assign [.Name y p2] (.Call (.Name x p) (e :: es) [] pos) pos2) (tAsg (tCall (spNew K kd Ff) [] E0 ta) (gName i)) (sSetB i kd Ff sa) := by
  subst hK
  obtain ⟨f, fd, ps, h1, h2, h3, h4⟩ := C.ex
  exact ⟨ps_set hN hi hx (pe_call h1 (hr.mono hk) hg h2 h3 h4 .nil pass0 ha.pa hdb he hpl) hs hf, setB_ok i hB ha.ok⟩
end
/-- the object handed in, nothing read -/
abbrev oB (a : Addr) : Bs := ⟨fun _ => none, fun _ => none, fun _ => none, some a⟩
/-- a changing function: its derivation, whatever object is handed in (its reading must not name it) -/
theorem sp_runM {S : Type} {kd : Kd S} {X : Cx} {K : PySem.W.Frag} {N : List Str} {n : Nat} {st : List Stmt} {b : SS} {t : TS} {vs : List V} {H : Hp} {Q : VK} {E : XK} (hN : 0 < N.length)
    (k : ∀ a, SemSs X.nox K (oB a) W0 st t b) (h : spMG K kd (runMG kd N n b) vs H Q E) : ∃ t, PSs X st t ∧ t { nx := fun _ H' => Q .non H', rt := Q } (start N vs) H :=
  ⟨t, (k 0).ps.nox, sp_bodyM hN (fun a => (k a).ok) h⟩
theorem sp_runMB {X : Cx} {K : PySem.W.Frag} {N : List Str} {n : Nat} {st : List Stmt} {b : (Addr → Option ObjSt) → SS} {t : TS} {vs : List V} {H : Hp} {Q : VK} {E : XK} (hN : 0 < N.length)
    (k : ∀ B : Bs, SemSs X.nox K B W0 st t (b B.bk)) (h : spMB K (runMB N n b) vs H Q E) : ∃ t, PSs X st t ∧ t { nx := fun _ H' => Q .non H', rt := Q } (start N vs) H :=
  ⟨t, (k noB).ps.nox, sp_bodyMB hN (fun B => (k B).ok) h⟩
theorem sp_runN {S : Type} {kd : Kd S} {X : Cx} {K : PySem.W.Frag} {N : List Str} {n : Nat} {st : List Stmt} {b : SS} {t : TS} {vs : List V} {H : Hp} {Q : VK} {E : XK}
    (k : SemSs X.nox K noB W0 st t b) (h : spNew K kd (runNew kd N n b) vs H Q E) : ∃ t, PSs X st t ∧ t { nx := fun _ H' => Q .non H', rt := Q } (start N vs) H := ⟨t, k.ps.nox, sp_bodyN k.ok h⟩
theorem runO_len {N : List Str} {n : Nat} {b : SS} {o : ObjSt} {ds : List PyData} {A : ObjSt → PyData → Prop} {C : Str → Prop} (q : (runO N n b o ds).goes A C) : ds.length + 1 = n := by
  unfold runO at q
  split at q
  · assumption
  · exact (show False from q).elim
theorem runM_len {S : Type} {kd : Kd S} {N : List Str} {n : Nat} {b : SS} {β : S} {ds : List PyData} {A : S → PyData → Prop} {C : Str → Prop} (q : (runMG kd N n b β ds).goes A C) : ds.length + 1 = n := by
  unfold runMG runO at q
  split at q
  · assumption
  · exact (show False from q).elim
theorem runNew_len {S : Type} {kd : Kd S} {N : List Str} {n : Nat} {b : SS} {ds : List PyData} {β : S} (q : runNew kd N n b ds = some β) : ds.length = n := by
  unfold runNew at q
  split at q
  · assumption
  · cases q
theorem spR_len {S : Type} {kd : Kd S} {K : PySem.W.Frag} {N : List Str} {n : Nat} {b : (Addr → Option ObjSt) → SS} {Fr : S → List PyData → Res} {vs : List V} {H : Hp} {Q : VK} {E : XK}
    (hF : ∀ a β ds, match Fr β ds with
      | .ret d => runF N n (b (only a (kd.inj β))) (refD a :: ds) = some d
      | .exc _ => False
      | .no => True) (h : spRG K kd Fr vs H Q E) : vs.length = n := by
  obtain ⟨G, R, a, β, us, ds, rfl, h1, h2, h3, h4, h5, q⟩ := h
  have hf := hF a β ds
  cases e : Fr β ds with
  | no => rw [e] at q; exact (show False from q).elim
  | exc c => rw [e] at hf; exact hf.elim
  | ret d =>
    rw [e] at hf
    have hf' : runF N n (b (only a (kd.inj β))) (refD a :: ds) = some d := hf
    unfold runF at hf'
    split at hf'
    · rename_i hl
      rw [List.length_cons, h5.len]
      simpa using hl
    · cases hf'
end RT
/-! Own lists emptied, drawn out; lists of own lists; slices with a step. -/
namespace RT
open PySem PySem.Spec PyProof.Rows L2
def sClr (i : Nat) : SS := fun ρ => match ρ[i]? with
  | some (.own _) => .nx (ρ.set i (.own []))
  | _ => .no
def sExt (i : Nat) (f : SE) : SS := fun ρ => match ρ[i]?, f ρ with
  | some (.own ds), some (.list es) => if ds.length + es.length ≤ LIM then .nx (ρ.set i (.own (ds ++ es))) else .no
  | _, _ => .no
def sIns (i : Nat) (ix f : SE) : SS := fun ρ => match ρ[i]?, ix ρ, f ρ with
  | some (.own ds), some (.int k), some d => if dataD d = true ∧ ds.length ≤ LIM ∧ 0 ≤ k ∧ k ≤ LIM then .nx (ρ.set i (.own (ds.take k.toNat ++ [d] ++ ds.drop k.toNat))) else .no
  | _, _, _ => .no
def sPop0 (i j : Nat) : SS := fun ρ => match ρ[i]? with
  | some (.own (d :: ds)) => .nx ((ρ.set i (.own ds)).set j (.val d))
  | _ => .no
section
variable {X : Cx} {K : PySem.W.Frag} {B : Bs} {W : XW} {te tix : TE} {f ix : SE} {i j : Nat}
theorem lim_sz {n : Nat} (h : n ≤ LIM) : n ≤ sizeLine := Nat.le_trans h (by decide)
theorem clr_okS (i : Nat) : SSOk K B W (tDrop (tBM0 K "list" rClear (tVar i))) (sClr i) := fun Z R F H σ ρ D s hg => by
  unfold sClr at hg
  split at hg
  · rename_i ds h1
    obtain ⟨p, vs, e1, e2, e3, e4, _⟩ := s.env.own i ds h1
    exact ⟨.ref p, e1, .inl ⟨rfl, vs, .inl (.inl e2)⟩, p, vs, rfl, rfl, e2, hg _ _ R F (s.upd i h1 e1 .nil) (Same.refl F)⟩
  · exact hg.elim
theorem ext_okS (i : Nat) (k : BOk K B te f) : SSOk K B W (tDrop (tBM K "list" rExtend (tVar i) (tCons te tNil))) (sExt i f) := fun Z R F H σ ρ D s hg => by
  unfold sExt at hg
  split at hg
  · rename_i ds es h1 h2
    split at hg
    · rename_i hc
      obtain ⟨p, vs, e1, e2, e3, e4, _⟩ := s.env.own i ds h1
      refine ⟨.ref p, e1, .inl ⟨rfl, vs, .inl (.inl e2)⟩, ?_⟩
      refine k _ F H σ ρ _ s.env h2 _ fun v H' G g b => ?_
      obtain ⟨q, us, rfl, hq, hA⟩ := b.list g.sub
      refine ⟨p, q, vs, us, rfl, rfl, g.h _ _ e2, hq, ?_, ?_⟩
      · rw [e3.len, hA.len]; exact lim_sz hc
      · exact hg _ _ R G ((s.grow g).upd i h1 e1 ((dpa_mono g.f ds e3).append hA)) g.f
    · exact hg.elim
  · exact hg.elim
theorem ins_okS (i : Nat) (kx : EOk K B tix ix) (k : EOk K B te f) : SSOk K B W (tDrop (tBM K "list" (fun x vs H Q => ∃ (l : Addr) (xs : List V) (i : Int) (y : V), x = .ref l ∧ vs = [.int i, y] ∧ H l = some (.lst xs) ∧ xs.length < sizeLine ∧ 0 ≤ i ∧ i < 2 ^ 63 ∧ Q .non (upd H l (.lst (xs.take i.toNat ++ [y] ++ xs.drop i.toNat)))) (tVar i) (tCons tix (tCons te tNil)))) (sIns i ix f) := fun Z R F H σ ρ D s hg => by
  unfold sIns at hg
  split at hg
  · rename_i ds kk d h1 h2 h3
    split at hg
    · rename_i hc
      obtain ⟨p, vs, e1, e2, e3, e4, _⟩ := s.env.own i ds h1
      refine ⟨.ref p, e1, .inl ⟨rfl, vs, .inl (.inl e2)⟩, ?_⟩
      refine kx _ F H σ ρ _ s.env h2 _ fun u H1 G1 g1 r1 => ?_
      refine k _ G1 H1 σ ρ _ (s.env.grow g1) h3 _ fun v H2 G2 g2 r2 => ?_
      have eu := Bp.int (H := G1) (.inl r1)
      subst eu
      have g := g1.trans g2
      refine ⟨p, vs, kk, v, rfl, rfl, g.h _ _ e2, ?_, hc.2.2.1, ?_, ?_⟩
      · rw [e3.len]; exact Nat.lt_of_lt_of_le (show ds.length < LIM + 1 by omega) (by decide)
      · exact Int.lt_of_le_of_lt hc.2.2.2 (by decide)
      · have hA := dpa_mono g.f ds e3
        exact hg _ _ R G2 ((s.grow g).upd i h1 e1 (((hA.take _).append (.cons (r2.dp (by rintro l rfl; cases hc.1)) .nil)).append (hA.drop _))) g.f
    · exact hg.elim
  · exact hg.elim
theorem StOk.set2 {Z : St0} {R : Rg} {F H : Hp} {σ : L2.St} {ρ : Rho} {v : V} {d : PyData} (s : StOk K B Z R F H σ ρ) (j : Nat) (r : Rp K F v d) : StOk K B Z R F H (σ.set j (some v)) (ρ.set j (.val d)) := s.setV j r
theorem pop0_okS (i j : Nat) : SSOk K B W (tAsg (tBM K "list" rPopAt (tVar i) (tCons (tC (.int 0)) tNil)) (gName j)) (sPop0 i j) := fun Z R F H σ ρ D s hg => by
  unfold sPop0 at hg
  split at hg
  · rename_i d ds h1
    obtain ⟨p, vs, e1, e2, e3, e4, _⟩ := s.env.own i _ h1
    cases e3 with
    | @cons v vs _ _ hd htl =>
      refine ⟨.ref p, e1, .inl ⟨rfl, _, .inl (.inl e2)⟩, p, _, 0, 0, v, rfl, rfl, e2, by decide, by decide, ?_, rfl, ?_⟩
      · unfold seqIndex?
        simp
      · exact hg _ _ R F ((s.upd i h1 e1 htl).set2 j (.inl hd)) (Same.refl F)
  · exact hg.elim
end
@[simp] theorem sClr_eq (i : Nat) (ρ : Rho) : sClr i ρ = outL (ownL ρ[i]?) fun _ => .nx (ρ.set i (.own [])) := by
  unfold sClr
  cases ρ[i]? with
  | none => rfl
  | some s => cases s <;> rfl
@[simp] theorem sPop0_own (i j : Nat) (ρ : Rho) (d : PyData) (ds : List PyData) (h : ρ[i]? = some (.own (d :: ds))) : sPop0 i j ρ = .nx ((ρ.set i (.own ds)).set j (.val d)) := by
  unfold sPop0; rw [h]
def lisD : PyData → Option (List PyData)
  | .list ds => some ds
  | _ => none
@[simp] theorem lisD_list (ds : List PyData) : lisD (.list ds) = some ds := rfl
@[simp] theorem sExt_eq (i : Nat) (f : SE) (ρ : Rho) : sExt i f ρ = outL (ownL ρ[i]?) fun ds => outL ((f ρ).bind lisD) fun es => if ds.length + es.length ≤ LIM then .nx (ρ.set i (.own (ds ++ es))) else .no := by
  unfold sExt
  cases ρ[i]? with
  | none => rfl
  | some s =>
    cases s with
    | own ds =>
      cases f ρ with
      | none => rfl
      | some d => cases d <;> rfl
    | _ => rfl
theorem sIns_own (i : Nat) (ix f : SE) (ρ : Rho) (ds : List PyData) (k : Int) (d : PyData) (h1 : ρ[i]? = some (.own ds)) (h2 : ix ρ = some (.int k)) (h3 : f ρ = some d) (hd : dataD d = true) (hl : ds.length ≤ LIM) (h0 : 0 ≤ k) (hk : k ≤ LIM) :
    sIns i ix f ρ = .nx (ρ.set i (.own (ds.take k.toNat ++ [d] ++ ds.drop k.toNat))) := by
  unfold sIns
  rw [h1, h2, h3]
  simp [hd, hl, h0, hk]
/-! ### lists of own lists -/
def cellD : Cell → PyData
  | .dat d => d
  | .lst ds => .list ds
def eRow (i : Nat) (fa : SE) : SE := fun ρ => (slO kW ρ[i]?).bind fun cs => match fa ρ with
  | some (.int k) => (atI cs k).map cellD
  | _ => none
def eRowLen (i : Nat) : SE := fun ρ => (slO kW ρ[i]?).map fun cs => .int (cs.length : Nat)
theorem atI_some {α β : Type} {l : List α} {m : List β} {i : Int} {x : α} (hl : l.length = m.length) (h : atI l i = some x) : ∃ (j : Nat) (y : β), l[j]? = some x ∧ m[j]? = some y ∧ atI m i = some y := by
  unfold atI at h ⊢
  cases e : ixN l.length i with
  | none => rw [e] at h; cases h
  | some j =>
    rw [e, Option.bind_some] at h
    have hj : j < m.length := by
      have := (List.getElem?_eq_some_iff.mp h).1
      omega
    rw [← hl, e, Option.bind_some]
    exact ⟨j, m[j], h, List.getElem?_eq_getElem hj, List.getElem?_eq_getElem hj⟩
section
variable {X : Cx} {K : PySem.W.Frag} {B : Bs} {W : XW} {ta tb te : TE} {fa fb fe : SE} {i j : Nat}
theorem row_okB (i : Nat) (ka : BOk K B ta fa) : BOk K B (tOp (rIx K) (tVar i) ta) (eRow i fa) := fun R F H σ ρ d E q Q k => by
  unfold eRow at q
  cases ho : slO kW ρ[i]? with
  | none => rw [ho] at q; cases q
  | some cs =>
    rw [ho, Option.bind_some] at q
    split at q
    · rename_i kk hk
      obtain ⟨a, h1, vs, hr⟩ := E.obj i _ (slO_ok ho)
      refine ⟨.ref a, h1, ?_⟩
      refine ka _ F H σ ρ _ E hk _ fun u H1 G1 g1 b1 => ?_
      have eu := b1.int
      subst eu
      cases hc : atI cs kk with
      | none => rw [hc] at q; cases q
      | some c =>
        rw [hc] at q
        cases q
        obtain ⟨m, v, x1, x2, x3⟩ := atI_some hr.len.symm hc
        refine .inl ⟨a, vs, kk, v, rfl, rfl, .inl (.inl (g1.h _ _ (E.rh i _ _ hr.ob))), x3, k v H1 G1 g1 ?_⟩
        have hel := hr.el m v c x2 x1
        cases hel with
        | dat hd => exact .inl (.inl (dp_mono g1.f _ hd))
        | lst n1 n2 n3 => exact .inr ⟨_, _, _, rfl, rfl, g1.h _ _ (E.rh i _ _ n2), dpa_mono g1.f _ n3⟩
    · cases q
theorem rowLen_ok (i : Nat) : EOk K B (tCB (rLenA K) (tCons (tVar i) tNil)) (eRowLen i) := fun R F H σ ρ d E q Q k => by
  unfold eRowLen at q
  cases ho : slO kW ρ[i]? with
  | none => rw [ho] at q; cases q
  | some cs =>
    rw [ho] at q
    cases q
    obtain ⟨a, h1, vs, hr⟩ := E.obj i _ (slO_ok ho)
    exact ⟨.ref a, h1, .ref a, cs.length, rfl, .inl ⟨vs, .inl (.inl (E.rh i _ _ hr.ob)), hr.len.symm⟩, k _ H F (Grow.refl E.ex) (rp_int _)⟩
/-- o[k], k from nought, of a list -/
def rIxP (K : PySem.W.Frag) : V → V → Hp → VK → Prop := fun x y H Q => ∃ p xs i v, x = .ref p ∧ y = .int i ∧ SqL K H p xs ∧ 0 ≤ i ∧ xs[i.toNat]? = some v ∧ Q v H
theorem get_listP : PGet X (rIxP X.K) := by
  intro pins s σ H x y v u Q I rx ry h
  obtain ⟨p, xs, i, z, rfl, rfl, hq, h0, he, q⟩ := h
  cases rx
  obtain ⟨t, rfl⟩ := ry
  obtain ⟨its, r, pl, hz⟩ := I.list hq
  obtain ⟨w, ew, rw'⟩ := r.get he
  have hl := r.length
  have hn := line63
  have hj := (List.getElem?_eq_some_iff.mp he).1
  exact wpAny_getItem_list (Q := EP X pins σ Q) pl.isList h0 (by omega) (by simpa using ew) ⟨z, H, I, rw', q⟩
def augRow (cs : List Cell) (a b e : Int) : Option (List Cell) := match cs[a.toNat]? with
  | some (.lst ds) => (match ds[b.toNat]? with
    | some (.int x) => if 0 ≤ a ∧ 0 ≤ b then some (cs.set a.toNat (.lst (ds.set b.toNat (.int (x + e))))) else none
    | _ => none)
  | _ => none
/-- x[a][b] += e -/
def sAugRow (i : Nat) (fa fb fe : SE) : SS := fun ρ => match slO kW ρ[i]?, fa ρ, fb ρ, fe ρ with
  | some cs, some (.int a), some (.int b), some (.int e) => (match augRow cs a b e with
    | some cs' => .nx (ρ.set i (.obj (.row cs')))
    | none => .no)
  | _, _, _, _ => .no
theorem augRow_okS (i : Nat) (ka : EOk K B ta fa) (kb : EOk K B tb fb) (ke : EOk K B te fe) : SSOk K B W (tAugS (tOp (rIx K) (tVar i) ta) tb te (rIxP K) (ipI fun i j => i + j) rSetL) (sAugRow i fa fb fe) := fun Z R F H σ ρ D s hg => by
  unfold sAugRow at hg
  split at hg
  · rename_i cs a b e h1 h2 h3 h4
    split at hg
    · rename_i cs' hc
      unfold augRow at hc
      split at hc
      · rename_i ds hds
        split at hc
        · rename_i x hx
          split at hc
          · rename_i hab
            cases hc
            obtain ⟨r, o1, vs, hr⟩ := s.env.obj i _ (slO_ok h1)
            have hlt := (List.getElem?_eq_some_iff.mp hds).1
            have hvl : a.toNat < vs.length := by rw [hr.len]; exact hlt
            obtain ⟨v, hv⟩ : ∃ v, vs[a.toNat]? = some v := ⟨vs[a.toNat], List.getElem?_eq_getElem hvl⟩
            have hel := hr.el _ v _ hv hds
            cases hel with
            | @lst p us _ n1 n2 n3 =>
            refine ⟨.ref r, o1, ?_⟩
            refine ka _ F H σ ρ _ s.env h2 _ fun u H1 G1 g1 r1 => ?_
            have eu := Bp.int (H := G1) (.inl r1)
            subst eu
            refine .inl ⟨r, vs, a, .ref p, rfl, rfl, .inl (.inl (g1.h _ _ (s.env.rh i _ _ hr.ob))), ?_, ?_⟩
            · rw [atI_pos _ _ hab.1]; exact hv
            refine kb _ G1 H1 σ ρ _ (s.env.grow g1) h3 _ fun u H2 G2 g2 r2 => ?_
            have eu := Bp.int (H := G2) (.inl r2)
            subst eu
            have g12 := g1.trans g2
            obtain ⟨z, hz, hzr⟩ := n3.get hx
            cases hzr
            refine ⟨p, us, b, _, rfl, rfl, .inl (.inl (g12.h _ _ (s.env.rh i _ _ n2))), hab.2, hz, ?_⟩
            refine ke _ G2 H2 σ ρ _ (s.env.grow g12) h4 _ fun u H3 G3 g3 r3 => ?_
            have eu := Bp.int (H := G3) (.inl r3)
            subst eu
            refine ⟨x, e, rfl, rfl, ?_⟩
            have g := g12.trans g3
            have hbl := (List.getElem?_eq_some_iff.mp hz).1
            refine ⟨p, us, b, b.toNat, rfl, rfl, g.h _ _ (s.env.rh i _ _ n2), ?_, ?_⟩
            · unfold ixN
              rw [if_pos hab.2, if_pos (by omega)]
            have s' := s.grow g
            have np : ∀ {y : Addr} {o : HO}, R i y = none → H3 y = some o → y ≠ p := fun {y o} h _ hh => by rw [hh, n2] at h; cases h
            refine hg σ _ _ G3 (s'.mut (R' := upd (R i) p (.lst (us.set b.toNat (.int (x + e))))) o1 ⟨fun y o h1 h2 => ?_, fun y hy => ?_, Same.refl _, fun y o h => ?_, fun y h _ => h⟩ (fun y o h => ?_) (fun y hy => ?_) (fun y hy => .inl ?_) (fun hi a0 q => by subst hi; exact s.env.oa a0 q _ r (slO_ok h1) o1) ?_) g.f
            · rw [upd_ne (np h1 h2)]; exact h2
            · by_cases hyp : y = p
              · subst hyp; rw [upd_same]; intro z; cases z
              · rw [upd_ne hyp]; exact hy
            · have : y ≠ p := fun hh => by
                subst hh
                have := s'.env.rF i y (by rw [n2]; intro z; cases z)
                rw [this] at h; cases h
              rw [upd_ne this]; exact s'.env.ex _ _ h
            · by_cases hyp : y = p
              · subst hyp; rw [upd_same] at h ⊢; exact h
              · rw [upd_ne hyp] at h ⊢; exact s'.env.rh i _ _ h
            · refine s'.env.rF i y ?_
              by_cases hyp : y = p
              · subst hyp; rw [n2]; intro z; cases z
              · rw [upd_ne hyp] at hy; exact hy
            · by_cases hyp : y = p
              · subst hyp; rw [n2]; intro z; cases z
              · rw [upd_ne hyp] at hy; exact hy
            · refine ⟨vs, by rw [upd_ne (Ne.symm n1)]; exact hr.ob, by rw [List.length_set]; exact hr.len, fun m w c q1 q2 => ?_, fun m m2 pp ds2 es2 hmm q1 q2 q3 q4 => ?_⟩
              · by_cases hm : a.toNat = m
                · subst hm
                  rw [List.getElem?_set_self hlt] at q2
                  cases q2
                  rw [hv] at q1
                  cases q1
                  exact .lst n1 upd_same ((dpa_mono g.f _ n3).set (.int _) _)
                · rw [List.getElem?_set_ne hm] at q2
                  have hel2 := hr.el m w c q1 q2
                  cases hel2 with
                  | dat hd => exact .dat (dp_mono g.f _ hd)
                  | @lst p2 us2 ds2 m1 m2 m3 =>
                    refine .lst m1 ?_ (dpa_mono g.f _ m3)
                    rw [upd_ne]
                    · exact m2
                    · intro hh
                      subst hh
                      exact hr.dis _ _ _ _ _ hm hv hds q1 q2
              · have back : ∀ {m : Nat} {ds2 : List PyData}, (cs.set a.toNat (.lst (ds.set b.toNat (.int (x + e)))))[m]? = some (.lst ds2) → ∃ ds3, cs[m]? = some (.lst ds3) := fun {m ds2} q => by
                  by_cases hm : a.toNat = m
                  · subst hm; exact ⟨ds, hds⟩
                  · rw [List.getElem?_set_ne hm] at q; exact ⟨_, q⟩
                obtain ⟨d3, b1⟩ := back q2
                obtain ⟨d4, b2⟩ := back q4
                exact hr.dis m m2 pp d3 d4 hmm q1 b1 q3 b2
          · cases hc
        · cases hc
      · cases hc
    · exact hg.elim
  · exact hg.elim
/-- [[..] for x in ..]: a list of own lists -/
def rowsF (j : Nat) (el : SA) (ρ : Rho) : List PyData → Option (List Cell)
  | [] => some []
  | d :: ds => (el (ρ.set j (.val d))).bind fun e => (rowsF j el ρ ds).map (Cell.lst e :: ·)
def sMkRows (i : Nat) (src : SA) (j : Nat) (el : SA) : SS := fun ρ => match src ρ with
  | some ds => if ds.length ≤ LIM then (match rowsF j el ρ ds with
    | some cs => .nx (ρ.set i (.obj (.row cs)))
    | none => .no) else .no
  | none => .no
theorem mkRows_okS {wi : TI} {src el : SA} (hB : i = 0 → B.o = none) (hi : IBOk K B wi src) (he : LOk K B te el) : SSOk K B W (tAsg (tLc wi (gName j) tYes te [j]) (gName i)) (sMkRows i src j el) := fun Z R F H σ ρ D s hg => by
  unfold sMkRows at hg
  cases e0 : src ρ with
  | none => rw [e0] at hg; exact hg.elim
  | some ds =>
    simp only [e0] at hg
    split at hg
    · rename_i hlen
      cases eq : rowsF j el ρ ds with
      | none => rw [eq] at hg; exact hg.elim
      | some out =>
      rw [eq] at hg
      have E := s.env
      refine hi _ F H σ ρ ds E e0 _ fun J H1 G1 g1 w D' hD => ?_
      have E1 : EnvOk K B R G1 H1 σ ρ := E.grow g1
      have hG1 : G1 D' = none := g1.sub.free hD
      refine ⟨fun n m H' => m = ds.length - n ∧ n ≤ ds.length ∧ ∃ (G' : Hp) (acc : List V) (es rest : List Cell), Grow H1 G1 H' G' ∧ G' D' = none ∧ H' D' = some (.lst acc) ∧ acc.length = es.length ∧ es.length ≤ n ∧
          (∀ (k : Nat) (v : V) (c : Cell), acc[k]? = some v → es[k]? = some c → ∃ (p : Addr) (vs : List V) (xs : List PyData), v = .ref p ∧ c = .lst xs ∧ p ≠ D' ∧ H1 p = none ∧ G' p = none ∧ H' p = some (.lst vs) ∧ DqAll K G' vs xs) ∧
          (∀ (k l : Nat) (p : Addr), k ≠ l → acc[k]? = some (V.ref p) → acc[l]? = some (.ref p) → False) ∧ rowsF j el ρ (ds.drop n) = some rest ∧ out = es ++ rest,
        ⟨ds.length, by simp, Nat.zero_le _, G1, [], [], out, (Grow.refl g1.sub).beside hD, hG1, upd_same, rfl, Nat.le_refl _, fun k v c q => by simp at q, fun k l p _ q => by simp at q, eq, rfl⟩, ?_⟩
      rintro n m H' ⟨rfl, hile, G', acc, es, rest, g', hD', hacc, hal, hel, hA, hdis, hr, hout⟩
      have al : Same G1 G' ∧ Same G' H' ∧ Same H1 H' := ⟨g'.f, g'.sub, g'.h⟩
      by_cases hlt : n < ds.length
      · refine .inr ⟨w.go n G' H' al hlt, fun H2 => ∃ m', m' < ds.length - n ∧ (m' = ds.length - (n + 1) ∧ n + 1 ≤ ds.length ∧ ∃ (G' : Hp) (acc : List V) (es rest : List Cell), Grow H1 G1 H2 G' ∧ G' D' = none ∧ H2 D' = some (.lst acc) ∧ acc.length = es.length ∧ es.length ≤ n + 1 ∧
            (∀ (k : Nat) (v : V) (c : Cell), acc[k]? = some v → es[k]? = some c → ∃ (p : Addr) (vs : List V) (xs : List PyData), v = .ref p ∧ c = .lst xs ∧ p ≠ D' ∧ H1 p = none ∧ G' p = none ∧ H2 p = some (.lst vs) ∧ DqAll K G' vs xs) ∧
            (∀ (k l : Nat) (p : Addr), k ≠ l → acc[k]? = some (V.ref p) → acc[l]? = some (.ref p) → False) ∧ rowsF j el ρ (ds.drop (n + 1)) = some rest ∧ out = es ++ rest),
          fun H2 h => h, fun x H2 y => ?_⟩
        have hd : ds[n]? = some ds[n] := List.getElem?_eq_getElem hlt
        obtain ⟨G2, g2, r2⟩ := w.yld n G' H' x H2 _ al hd y
        rw [drop_cons_of hd] at hr
        have E2 : EnvOk K B R G2 H2 ((wipe σ [j]).set j (some x)) (ρ.set j (.val ds[n])) := by
          have z := (((E1.grow g').grow g2).setN j none).setV j r2
          have e : (ρ.set j .no).set j (.val ds[n]) = ρ.set j (.val ds[n]) := List.set_set ..
          rw [e] at z
          exact z
        refine ⟨wipe_back σ j (some x), ?_⟩
        show te _ H2 _
        cases ee : el (ρ.set j (.val ds[n])) with
        | none => simp [rowsF, ee] at hr
        | some e =>
          cases hrr : rowsF j el ρ (ds.drop (n + 1)) with
          | none => simp [rowsF, ee, hrr] at hr
          | some rest' =>
            have hr' : rest = .lst e :: rest' := by simpa [rowsF, ee, hrr] using hr.symm
            refine he _ G2 H2 _ _ e E2 ee _ fun p vs H4 G4 g4 p1 p2 p3 p4 => ?_
            have gg := (g'.trans g2).trans g4
            have gt := g2.trans g4
            have hD4 : H4 D' = some (.lst acc) := gt.h _ _ hacc
            have nD4 : G4 D' = none := gt.no D' hD' (by rw [hacc]; intro z; cases z)
            have pD : p ≠ D' := fun hh => by
              have := g2.h _ _ hacc
              rw [hh, this] at p1; cases p1
            refine ⟨acc, hD4, Nat.lt_of_lt_of_le (show acc.length < LIM + 1 by omega) (by decide), ds.length - (n + 1), by omega, rfl, hlt, G4, acc ++ [.ref p], es ++ [.lst e], rest', ⟨?_, gg.f, ?_, gg.no⟩, nD4, upd_same, by simp [hal], by simp; omega, ?_, ?_, rfl, by rw [hout, hr']; simp⟩
            · intro b o z
              rw [upd_ne (ne_of_none z hD)]
              exact gg.h b o z
            · intro b o z
              rw [upd_ne (ne_of_none z nD4)]
              exact gg.sub b o z
            · intro k v c q1 q2
              rcases Nat.lt_or_ge k acc.length with hk | hk
              · rw [List.getElem?_append_left hk] at q1
                rw [List.getElem?_append_left (by omega)] at q2
                obtain ⟨p', vs', xs', x1, x2, x3, x4, x5, x6, x7⟩ := hA k v c q1 q2
                refine ⟨p', vs', xs', x1, x2, x3, x4, gt.no p' x5 (by rw [x6]; intro z; cases z), ?_, dpa_mono gt.f _ x7⟩
                rw [upd_ne x3]
                exact gt.h _ _ x6
              · rw [List.getElem?_append_right hk] at q1
                rw [List.getElem?_append_right (by omega)] at q2
                have : k - acc.length = 0 := by
                  rcases Nat.eq_zero_or_pos (k - acc.length) with z | z
                  · exact z
                  · rw [List.getElem?_eq_none (by simp; omega)] at q1; cases q1
                have h2 : k - es.length = 0 := by omega
                rw [this] at q1
                rw [h2] at q2
                cases q1
                cases q2
                exact ⟨p, vs, e, rfl, rfl, pD, (g'.trans g2).h.free p1, p2, by rw [upd_ne pD]; exact p3, p4⟩
            · have old : ∀ k, acc[k]? = some (V.ref p) → False := fun k q => by
                have hk := (List.getElem?_eq_some_iff.mp q).1
                obtain ⟨c, hc⟩ : ∃ c, es[k]? = some c := ⟨es[k]'(by omega), List.getElem?_eq_getElem (by omega)⟩
                obtain ⟨p', vs', xs', x1, x2, x3, x4, x5, x6, x7⟩ := hA k _ c q hc
                cases x1
                have := g2.h _ _ x6
                rw [this] at p1; cases p1
              intro k l pp hkl q1 q2
              rcases Nat.lt_or_ge k acc.length with hk | hk
              · rw [List.getElem?_append_left hk] at q1
                rcases Nat.lt_or_ge l acc.length with hl | hl
                · rw [List.getElem?_append_left hl] at q2
                  exact hdis k l pp hkl q1 q2
                · rw [List.getElem?_append_right hl] at q2
                  rcases Nat.eq_zero_or_pos (l - acc.length) with z | z
                  · rw [z] at q2; cases q2; exact old k q1
                  · rw [List.getElem?_eq_none (by simp; omega)] at q2; cases q2
              · rw [List.getElem?_append_right hk] at q1
                rcases Nat.eq_zero_or_pos (k - acc.length) with z | z
                · rw [z] at q1
                  cases q1
                  rcases Nat.lt_or_ge l acc.length with hl | hl
                  · rw [List.getElem?_append_left hl] at q2
                    exact old l q2
                  · rw [List.getElem?_append_right hl] at q2
                    rcases Nat.eq_zero_or_pos (l - acc.length) with z2 | z2
                    · omega
                    · rw [List.getElem?_eq_none (by simp; omega)] at q2; cases q2
                · rw [List.getElem?_eq_none (by simp; omega)] at q1; cases q1
      · have e : n = ds.length := by omega
        subst e
        rw [List.drop_length] at hr
        cases hr
        rw [List.append_nil] at hout
        subst hout
        refine .inl ⟨w.stop G' H' al, ?_⟩
        -- the region: the list and its lists
        let S : Addr → Prop := fun y => y = D' ∨ V.ref y ∈ acc
        have mem : ∀ p, V.ref p ∈ acc → ∃ (k : Nat) (c : Cell) (vs : List V) (xs : List PyData), acc[k]? = some (.ref p) ∧ out[k]? = some c ∧ c = .lst xs ∧ p ≠ D' ∧ H1 p = none ∧ G' p = none ∧ H' p = some (.lst vs) ∧ DqAll K G' vs xs := fun p hp => by
          obtain ⟨k, hk⟩ := List.getElem?_of_mem hp
          have hkl := (List.getElem?_eq_some_iff.mp hk).1
          obtain ⟨c, hc⟩ : ∃ c, out[k]? = some c := ⟨out[k]'(by omega), List.getElem?_eq_getElem (by omega)⟩
          obtain ⟨p', vs', xs', x1, x2, x3, x4, x5, x6, x7⟩ := hA k _ c hk hc
          cases x1
          exact ⟨k, c, vs', xs', hk, hc, x2, x3, x4, x5, x6, x7⟩
        have hS : ∀ y, S y → H y = none ∧ G' y = none := fun y hy => by
          rcases hy with rfl | hy
          · exact ⟨g1.h.free hD, hD'⟩
          · obtain ⟨k, c, vs, xs, _, _, _, _, x4, x5, _⟩ := mem y hy
            exact ⟨g1.h.free x4, x5⟩
        have sub' : ∀ y o, (fun y => open Classical in if S y then H' y else none) y = some o → S y ∧ H' y = some o := fun y o h => by
          have h' : (open Classical in if S y then H' y else none) = some o := h
          split at h'
          · rename_i c; exact ⟨c, h'⟩
          · cases h'
        have inn : ∀ y o, S y → H' y = some o → (fun y => open Classical in if S y then H' y else none) y = some o := fun y o h1 h2 => by
          show (open Classical in if S y then H' y else none) = some o
          rw [if_pos h1]; exact h2
        refine hg _ H' _ G' (s.newO (R' := fun y => open Classical in if S y then H' y else none) hB (g1.trans g') (fun y o h => (sub' y o h).2) (fun y hy => ?_) (fun y hy => ?_) ?_) (g1.f.trans g'.f)
        · cases q : (fun y => open Classical in if S y then H' y else none) y with
          | none => exact absurd q hy
          | some o => exact (hS y (sub' y o q).1).2
        · cases q : (fun y => open Classical in if S y then H' y else none) y with
          | none => exact absurd q hy
          | some o => exact (hS y (sub' y o q).1).1
        · refine ⟨acc, inn _ _ (.inl rfl) hacc, hal, fun k v c q1 q2 => ?_, fun k l p ds2 es2 hkl q1 _ q3 _ => hdis k l p hkl q1 q3⟩
          obtain ⟨p', vs', xs', x1, x2, x3, x4, x5, x6, x7⟩ := hA k v c q1 q2
          subst x1 x2
          exact .lst x3 (inn _ _ (.inr (List.mem_of_getElem? q1)) x6) x7
    · exact hg.elim
end
end RT
/-! Slices with a step; words for what RV18 holds. -/
namespace RT
open PySem PySem.Spec PyProof.Rows L2
/-- xs[::k] -/
def pkIx (k : Int) (n : Nat) : List Nat := sliceRange (sliceBounds none none (some k) n).1 (sliceBounds none none (some k) n).2.1 (sliceBounds none none (some k) n).2.2
def pk {α : Type} (k : Int) (l : List α) : List α := (pkIx k l.length).filterMap (l[·]?)
theorem pkIx_len (k : Int) (hk : k ≠ 0) (n : Nat) : (pkIx k n).length ≤ n := by
  unfold pkIx
  refine sliceRange_length_le _ _ _ n (fun h => ?_) (fun h => ?_)
  · have h' : k > 0 := h
    simp [sliceBounds, h']
  · have h' : ¬ k > 0 := h
    simp [sliceBounds, h']
theorem pk_len {α : Type} (k : Int) (hk : k ≠ 0) (l : List α) : (pk k l).length ≤ l.length := Nat.le_trans (List.length_filterMap_le _ _) (pkIx_len k hk _)
theorem pk_mem {α : Type} {k : Int} {l : List α} {x : α} (h : x ∈ pk k l) : x ∈ l := by
  unfold pk at h
  obtain ⟨i, _, h2⟩ := List.mem_filterMap.mp h
  exact List.mem_of_getElem? h2
theorem pk_map {α β : Type} (k : Int) (f : α → β) (l : List α) : pk k (l.map f) = (pk k l).map f := by
  unfold pk
  rw [List.length_map, List.map_filterMap]
  congr 1
  funext i
  simp
theorem vals_pick {xs : List V} {its : List Value} (h : Vals xs its) : ∀ idx : List Nat, Vals (idx.filterMap (xs[·]?)) (idx.filterMap (its[·]?))
  | [] => .nil
  | i :: idx => by
    have ih := vals_pick h idx
    rw [List.filterMap_cons, List.filterMap_cons]
    cases e : xs[i]? with
    | none =>
      have : its[i]? = none := by
        rw [List.getElem?_eq_none_iff] at e ⊢
        rw [← h.length]; exact e
      rw [this]; exact ih
    | some v =>
      obtain ⟨w, ew, rw'⟩ := h.get e
      rw [ew]
      exact .cons rw' ih
theorem dq_pick {K : PySem.W.Frag} {F : Hp} {xs : List V} {ds : List PyData} (h : DqAll K F xs ds) : ∀ idx : List Nat, DqAll K F (idx.filterMap (xs[·]?)) (idx.filterMap (ds[·]?))
  | [] => .nil
  | i :: idx => by
    have ih := dq_pick h idx
    rw [List.filterMap_cons, List.filterMap_cons]
    cases e : xs[i]? with
    | none =>
      have : ds[i]? = none := by
        rw [List.getElem?_eq_none_iff] at e ⊢
        rw [← h.len]; exact e
      rw [this]; exact ih
    | some v =>
      obtain ⟨w, ew, rw'⟩ := h.getV e
      rw [ew]
      exact .cons rw' ih
def tStep (K : PySem.W.Frag) (k : Int) (te : TE) : TE := fun σ H Q => te σ H fun x H1 => ∃ a xs, x = .ref a ∧ SqL K H1 a xs ∧ ∀ p, H1 p = none → Q (.ref p) (upd H1 p (.lst (pk k xs)))
theorem pe_step {X : Cx} {e st : Expr} {te : TE} {tp : TO} {c : Int} {p3 pos : Pos} (hc : c ≠ 0) (he : PE X e te) (hst : PO X (some st) tp) (hv : ∀ σ H, tp σ H (fun o H4 => o = some c ∧ H4 = H))
    (hs : ∀ (a b : Addr), subscripted (.Slice none none (some st) p3) false (.ref a) (.ref b) = operate [.ref a, .ref b] (getItem (.ref a) (.ref b)) := by intro a b; with_unfolding_all rfl) : PE X (.Subscript e (.Slice none none (some st) p3) pos) (tStep X.K c te) := by
  refine ⟨fun pins s σ H Q I h => ?_⟩
  refine Subscript_ (thn (he.run pins s σ H _ I h) fun v s1 ⟨x, H1, I1, r1, q1⟩ => ?_)
  obtain ⟨a, xs, ex, hx, q⟩ := q1
  subst ex
  cases r1
  refine wpAny_Slice (thn (po_none.run pins s1 σ H1 (fun o H2 => o = none ∧ H2 = H1) I1 ⟨rfl, rfl⟩) fun vl s2 ⟨l, H2, I2, pl, el, e2⟩ => ?_)
  subst el e2
  refine thn (po_none.run pins s2 σ H2 (fun o H3 => o = none ∧ H3 = H2) I2 ⟨rfl, rfl⟩) fun vu s3 ⟨u, H3, I3, pu, eu, e3⟩ => ?_
  subst eu e3
  refine thn (hst.run pins s3 σ H3 (fun o H4 => o = some c ∧ H4 = H3) I3 (hv σ H3)) fun vs s4 ⟨o, H4, I4, ps, eo, e4⟩ => ?_
  subst eo e4
  have I5 : Inv X pins σ H4 { s4 with heap := s4.heap.push { cls := .type "slice", data := .fields #[vl, vu, vs] } } := I4.kept (t' := s4.toks) fun b ob q => Heap.get?_push_of_some _ q
  obtain ⟨its, r, ht, hz⟩ := I5.list hx
  have hlen := r.length
  show wpAny (model X.prog X.w) X.A (subscriptTail e (.Slice none none (some st) p3) (.ref a) (.ref s4.heap.objs.size)) (EP X pins σ Q) X.xe { s4 with heap := s4.heap.push { cls := .type "slice", data := .fields #[vl, vu, vs] } }
  refine tail_any (ops := [.ref a, .ref s4.heap.objs.size]) ht.isList.typeIs (PySem.slot_list_getitem.lookup) ?_ (hs _ _)
  refine wpAny_getItem_list_slice ht.isList (Heap.IsSliceOf.new _ vl vu vs) pl pu ps (by simpa using hc) ?_ (by rw [List.size_toArray]; omega)
  have ep : slicePick its.toArray none none (some c) = ((pkIx c xs.length).filterMap (its[·]?)).toArray := by
    unfold slicePick pkIx
    rw [List.size_toArray, ← hlen]
    congr 2
    funext i
    simp
  rw [ep]
  refine ⟨.ref _, _, I5.laid (t' := s4.toks) (o := .lst (pk c xs)) (fun b ob q => Heap.get?_push_of_some _ q) (Nat.le_refl _) ?_, rfl, q _ (I5.hok.fresh (Nat.le_refl _))⟩
  exact ⟨Nat.le_trans (pk_len c hc xs) hz, _, 0, vals_pick r _, Heap.get?_push_size _ rfl⟩
def lStep (k : Int) (f : SE) : SA := fun ρ => (f ρ).bind fun d => (lisD d).map (pk k)
@[simp] theorem lStep_eq (k : Int) (f : SE) (ρ : Rho) : lStep k f ρ = (f ρ).bind fun d => (lisD d).map (pk k) := rfl
section
variable {X : Cx} {K : PySem.W.Frag} {B : Bs} {W : XW} {e a b c : Expr} {es : List Expr} {te tx ta tb : TE} {fe fx fa fb f : SE} {sa el : SA} {i j : Nat} {x : Str} {p p2 pos pos2 : Pos}
theorem step_ok (k : Int) (h : BOk K B te f) : LOk K B (tStep K k te) (lStep k f) := fun R F H σ ρ ds E q Q kk => by
  unfold lStep at q
  cases e1 : f ρ with
  | none => rw [e1] at q; cases q
  | some d =>
    rw [e1, Option.bind_some] at q
    cases d with
    | list es =>
      cases q
      refine h R F H σ ρ _ E e1 _ fun v H1 G1 g1 b1 => ?_
      obtain ⟨p, vs, rfl, hp, hA⟩ := b1.list g1.sub
      refine ⟨p, vs, rfl, .inl (.inl hp), fun p' hp' => ?_⟩
      refine kk p' _ _ G1 (g1.beside hp') (g1.h.free hp') (g1.sub.free hp') upd_same ?_
      unfold pk
      rw [hA.len]
      exact dq_pick hA _
    | _ => cases q
theorem sl_step2 {kk : Nat} {p1 p3 : Pos} (h : SemB X K B e te f) (hK : X.K = K := by rfl) : SemL X K B (.Subscript e (.Slice none none (some (.Constant (.int 2) kk p1)) p3) pos) (tStep K 2 te) (lStep 2 f) := by
  subst hK
  exact ⟨pe_step (by decide) h.pe (po_some pe_int) (fun σ H => ⟨2, rfl, rfl, rfl⟩), step_ok 2 h.ok⟩
theorem sl_stepM {kk : Nat} {p1 p2 p3 : Pos} (h : SemB X K B e te f) (hK : X.K = K := by rfl) : SemL X K B (.Subscript e (.Slice none none (some (.UnaryOp .USub (.Constant (.int 1) kk p1) p2)) p3) pos) (tStep K (-1) te) (lStep (-1) f) := by
  subst hK
  exact ⟨pe_step (by decide) h.pe (po_some (pe_un un_neg pe_int)) (fun σ H => ⟨1, rfl, -1, rfl, rfl, rfl⟩), step_ok (-1) h.ok⟩
/-! ### words -/
theorem s_clr (i : Nat) {ap cp : Pos} (ps : PS X (.Expr (.Call (.Attribute (.Name x p) "clear" ap) [] [] cp) pos) (tDrop (tBM0 K "list" rClear (tVar i)))) : SemS X K B W (.Expr (.Call (.Attribute (.Name x p) "clear" ap) [] [] cp) pos) (tDrop (tBM0 K "list" rClear (tVar i))) (sClr i) := ⟨ps, clr_okS i⟩
theorem s_ext (i : Nat) {ap cp : Pos} (he : SemB X K B e te fe) (ps : PS X (.Expr (.Call (.Attribute (.Name x p) "extend" ap) [e] [] cp) pos) (tDrop (tBM K "list" rExtend (tVar i) (tCons te tNil)))) :
    SemS X K B W (.Expr (.Call (.Attribute (.Name x p) "extend" ap) [e] [] cp) pos) (tDrop (tBM K "list" rExtend (tVar i) (tCons te tNil))) (sExt i fe) := ⟨ps, ext_okS i he.ok⟩
theorem s_ins (i : Nat) {ap cp : Pos} (hx : SemE X K B a tx fx) (he : SemE X K B e te fe) (ps : PS X (.Expr (.Call (.Attribute (.Name x p) "insert" ap) [a, e] [] cp) pos) (tDrop (tBM K "list" (fun x vs H Q => ∃ (l : Addr) (xs : List V) (i : Int) (y : V), x = .ref l ∧ vs = [.int i, y] ∧ H l = some (.lst xs) ∧ xs.length < sizeLine ∧ 0 ≤ i ∧ i < 2 ^ 63 ∧ Q .non (upd H l (.lst (xs.take i.toNat ++ [y] ++ xs.drop i.toNat)))) (tVar i) (tCons tx (tCons te tNil))))) :
    SemS X K B W (.Expr (.Call (.Attribute (.Name x p) "insert" ap) [a, e] [] cp) pos) (tDrop (tBM K "list" (fun x vs H Q => ∃ (l : Addr) (xs : List V) (i : Int) (y : V), x = .ref l ∧ vs = [.int i, y] ∧ H l = some (.lst xs) ∧ xs.length < sizeLine ∧ 0 ≤ i ∧ i < 2 ^ 63 ∧ Q .non (upd H l (.lst (xs.take i.toNat ++ [y] ++ xs.drop i.toNat)))) (tVar i) (tCons tx (tCons te tNil)))) (sIns i fx fe) := ⟨ps, ins_okS i hx.ok he.ok⟩
/-- x[a], x a list of own lists -/
theorem sb_row (i : Nat) (hp : PE X (.Name x p) (tVar i)) (h2 : SemB X K B b tb fb) (hs : PlainIx b := by exact fun _ _ => rfl) (hK : X.K = K := by rfl) : SemB X K B (.Subscript (.Name x p) b pos) (tOp (rIx K) (tVar i) tb) (eRow i fb) := by
  subst hK
  exact ⟨pe_ix ix_seq hp h2.pe hs, row_okB i h2.ok⟩
theorem se_rowLen (i : Nat) {y : Str} {p2 : Pos} (hm : X.mg "len" = none) (hp : PE X (.Name y p2) (tVar i)) (hg : Gl X "len" := by rfl) (he : starEach [Expr.Name y p2] X.env = [(false, eval (.Name y p2) X.env)] := by rfl) (hpl : (backTo pos (starEach [] X.env)).any (·.1) = false := by rfl) (hK : X.K = K := by rfl) :
    SemE X K B (.Call (.Name "len" p) [.Name y p2] [] pos) (tCB (rLenA K) (tCons (tVar i) tNil)) (eRowLen i) := by
  subst hK
  exact ⟨pe_callB call_len hg hm (by decide +kernel) (pa_cons hp pa_nil he) (by decide) (by decide) he hpl, rowLen_ok i⟩
theorem s_augRow (i : Nat) {p3 : Pos} (ha : SemE X K B a ta fa) (hb : SemE X K B b tb fb) (he : SemE X K B e te fe) (ps : PS X (.AugAssign (.Subscript (.Subscript (.Name x p) a p2) b p3) .Add e pos) (tAugS (tOp (rIx K) (tVar i) ta) tb te (rIxP K) (ipI fun i j => i + j) rSetL)) :
    SemS X K B W (.AugAssign (.Subscript (.Subscript (.Name x p) a p2) b p3) .Add e pos) (tAugS (tOp (rIx K) (tVar i) ta) tb te (rIxP K) (ipI fun i j => i + j) rSetL) (sAugRow i fa fb fe) := ⟨ps, augRow_okS i ha.ok hb.ok he.ok⟩
theorem s_mkRows (i : Nat) {wi : TI} {y z : Str} {py xp spos : Pos} {scope : Scope} (hB : i = 0 → B.o = none) (hi : SemIB X K B (.Name z xp) e wi sa)
    (he : SemL (X.blk X.s_0 (fun _ => none) scope (compEnvC scope [] 0 X.env) []) K B a te el) (ps : PS X (.Assign [.Name y py] (.ListComp a [⟨.Name z xp, e, [], 0⟩] scope pos) spos) (tAsg (tLc wi (gName j) tYes te [j]) (gName i))) :
    SemS X K B W (.Assign [.Name y py] (.ListComp a [⟨.Name z xp, e, [], 0⟩] scope pos) spos) (tAsg (tLc wi (gName j) tYes te [j]) (gName i)) (sMkRows i sa j el) := ⟨ps, mkRows_okS hB hi.ok he.ok⟩
end
end RT
/-! Dicts by whole numbers; while; a call with two objects. -/
namespace RT
open PySem PySem.Spec PyProof.Rows L2
def lookI (l : List (Int × PyData)) (k : Int) : Option PyData := (l.find? fun x => decide (x.1 = k)).map (·.2)
def putI (l : List (Int × PyData)) (k : Int) (d : PyData) : List (Int × PyData) := if (l.any fun x => decide (x.1 = k)) = true then l.map (fun x => if x.1 = k then (x.1, d) else x) else l ++ [(k, d)]
def putV (l : List (Int × V)) (k : Int) (d : V) : List (Int × V) := if (l.any fun x => decide (x.1 = k)) = true then l.map (fun x => if x.1 = k then (x.1, d) else x) else l ++ [(k, d)]
section
variable {K : PySem.W.Frag} {F : Hp}
theorem kv_val {k : Int} : ∀ {kv : List (Int × V)} {l : List (Int × PyData)}, KvAll K F kv l → (lookI l k = none ∧ valV (kvI kv) (Sum.inl k) = none) ∨ ∃ v d, lookI l k = some d ∧ valV (kvI kv) (Sum.inl k) = some v ∧ Dq K F v d
  | _, _, .nil => .inl ⟨rfl, rfl⟩
  | (k', v) :: kv, (_, d) :: l, .cons h t => by
    by_cases e : k' = k
    · subst e
      exact .inr ⟨v, d, by simp [lookI], by unfold kvI; rw [List.map_cons, valV_pos rfl], h⟩
    · have e1 : lookI ((k', d) :: l) k = lookI l k := by simp [lookI, e]
      have e2 : valV (kvI ((k', v) :: kv)) (Sum.inl k) = valV (kvI kv) (Sum.inl k) := by
        unfold kvI; rw [List.map_cons, valV_neg (by intro z; exact e (Sum.inl.inj z))]
      rw [e1, e2]
      exact kv_val t
theorem KvAll.len : ∀ {kv : List (Int × V)} {l : List (Int × PyData)}, KvAll K F kv l → kv.length = l.length
  | _, _, .nil => rfl
  | _, _, .cons _ t => congrArg Nat.succ (KvAll.len t)
theorem KvAll.keys : ∀ {kv : List (Int × V)} {l : List (Int × PyData)}, KvAll K F kv l → kv.map (·.1) = l.map (·.1)
  | _, _, .nil => rfl
  | (k, _) :: _, _, .cons _ t => congrArg (k :: ·) (KvAll.keys t)
theorem KvAll.app {k : Int} {v : V} {d : PyData} (h : Dq K F v d) : ∀ {kv : List (Int × V)} {l : List (Int × PyData)}, KvAll K F kv l → KvAll K F (kv ++ [(k, v)]) (l ++ [(k, d)])
  | _, _, .nil => .cons h .nil
  | _, _, .cons h' t => .cons h' (KvAll.app h t)
theorem KvAll.rep {k : Int} {v : V} {d : PyData} (h : Dq K F v d) : ∀ {kv : List (Int × V)} {l : List (Int × PyData)}, KvAll K F kv l → KvAll K F (kv.map fun x => if x.1 = k then (x.1, v) else x) (l.map fun x => if x.1 = k then (x.1, d) else x)
  | _, _, .nil => .nil
  | (k', v') :: kv, (_, d') :: l, .cons h' t => by
    rw [List.map_cons, List.map_cons]
    by_cases e : k' = k
    · rw [if_pos e, if_pos e]; exact .cons h (KvAll.rep h t)
    · rw [if_neg e, if_neg e]; exact .cons h' (KvAll.rep h t)
theorem KvAll.any {k : Int} : ∀ {kv : List (Int × V)} {l : List (Int × PyData)}, KvAll K F kv l → (kv.any fun x => decide (x.1 = k)) = (l.any fun x => decide (x.1 = k))
  | _, _, .nil => rfl
  | _, _, .cons _ t => by rw [List.any_cons, List.any_cons, KvAll.any t]
theorem kv_put {k : Int} {v : V} {d : PyData} {kv : List (Int × V)} {l : List (Int × PyData)} (h : KvAll K F kv l) (hd : Dq K F v d) : KvAll K F (putV kv k v) (putI l k d) := by
  unfold putV putI
  rw [h.any]
  split
  · exact h.rep hd
  · exact h.app hd
theorem kvI_put (kv : List (Int × V)) (k : Int) (v : V) : putK (kvI kv) (Sum.inl k) v = kvI (putV kv k v) := by
  unfold putK putV kvI
  have e : ((kv.map fun n => ((Sum.inl n.1 : Key), n.2)).any fun x => decide (x.1 = Sum.inl k)) = (kv.any fun x => decide (x.1 = k)) := by
    rw [List.any_map]
    congr 1
    funext x
    simp
  rw [e]
  split
  · rw [List.map_map, List.map_map]
    apply List.map_congr_left
    intro x _
    by_cases h : x.1 = k
    · simp [h]
    · simp [h]
  · rw [List.map_append]; rfl
theorem putI_len (l : List (Int × PyData)) (k : Int) (d : PyData) : (putI l k d).length ≤ l.length + 1 := by
  unfold putI
  split
  · simp
  · simp
end
def sMkDct (i : Nat) : SS := fun ρ => .nx (ρ.set i (.obj (.dct [])))
/-- x = {k: v} -/
def sMkDct1 (i : Nat) (fk fv : SE) : SS := fun ρ => match fk ρ, fv ρ with
  | some (.int k), some d => if dataD d = true then .nx (ρ.set i (.obj (.dct [(k, d)]))) else .no
  | _, _ => .no
/-- x[k] = v -/
def sDSet (i : Nat) (fk fv : SE) : SS := fun ρ => match slO kT ρ[i]?, fk ρ, fv ρ with
  | some l, some (.int k), some d => if dataD d = true ∧ l.length ≤ LIM then .nx (ρ.set i (.obj (.dct (putI l k d)))) else .no
  | _, _, _ => .no
def eDKeys (bk : Addr → Option ObjSt) (i : Nat) : SA := fun ρ => (rcv kT bk ρ i).map fun l => l.map fun x => .int x.1
def eDGet (bk : Addr → Option ObjSt) (i : Nat) (fk : SE) : SE := fun ρ => (rcv kT bk ρ i).bind fun l => (fk ρ).bind fun d => match d with
  | .int k => lookI l k
  | _ => none
def eDNotIn (bk : Addr → Option ObjSt) (i : Nat) (fk : SE) : STe := fun ρ => (rcv kT bk ρ i).bind fun l => (fk ρ).bind fun d => match d with
  | .int k => some (!(lookI l k).isSome)
  | _ => none
section
variable {X : Cx} {K : PySem.W.Frag} {B : Bs} {W : XW} {tk tv te : TE} {fk fv f : SE} {i j : Nat}
theorem mkDct_okS (hB : i = 0 → B.o = none) : SSOk K B W (tAsg tDNewK (gName i)) (sMkDct i) := fun Z R F H σ ρ D s hg p hp => by
  have hF : F p = none := s.env.ex.free hp
  refine hg _ _ _ F (s.newO (R' := upd noH p (.dK [])) hB ((Grow.refl s.env.ex).beside hp) (fun y o h => ?_) (fun y hy => ?_) (fun y hy => ?_) ⟨[], upd_same, .nil⟩) (Same.refl F)
  · by_cases e : y = p
    · subst e; rw [upd_same] at h ⊢; exact h
    · rw [upd_ne e] at h; cases h
  · by_cases e : y = p
    · subst e; exact hF
    · exact absurd (upd_ne e) hy
  · by_cases e : y = p
    · subst e; exact hp
    · exact absurd (upd_ne e) hy
theorem dset_okS (kv : EOk K B tv fv) (kk : EOk K B tk fk) : SSOk K B W (tAsg tv (gSub (tVar i) tk rSetD)) (sDSet i fk fv) := fun Z R F H σ ρ D s hg => by
  unfold sDSet at hg
  split at hg
  · rename_i l k d h1 h2 h3
    split at hg
    · rename_i hc
      obtain ⟨a, o1, kvs, ha, hA⟩ := s.env.obj i _ (slO_ok h1)
      refine kv _ F H σ ρ d s.env h3 _ fun v H1 G1 g1 r1 => ⟨.ref a, o1, ?_⟩
      refine kk _ G1 H1 σ ρ _ (s.env.grow g1) h2 _ fun u H2 G2 g2 r2 => ?_
      have eu := Bp.int (H := G2) (.inl r2)
      subst eu
      have g := g1.trans g2
      have s' := s.grow g
      have hz : (kvI kvs).length < sizeLine := by
        unfold kvI
        rw [List.length_map, hA.len]
        exact Nat.lt_of_lt_of_le (show l.length < LIM + 1 by omega) (by decide)
      refine ⟨a, _, rfl, DPut.k (k := Sum.inl k) (g.h _ _ (s.env.rh i _ _ ha)) hz, ?_⟩
      have hd := (r1.mono g2.f).dp (by rintro l rfl; cases hc.1)
      rw [kvI_put]
      refine hg σ _ _ G2 (s'.mut (R' := upd (R i) a (.dK (kvI (putV kvs k v)))) o1 ⟨fun y o h1 h2 => ?_, fun y hy => ?_, Same.refl _, fun y o h => ?_, fun y h _ => h⟩ (fun y o h => ?_) (fun y hy => ?_) (fun y hy => .inl ?_) (fun hi a0 q => by subst hi; exact s.env.oa a0 q _ a (slO_ok h1) o1) ⟨_, upd_same, kv_put (hA.mono g.f) hd⟩) g.f
      · have h1' : R i y = none := h1
        have : y ≠ a := fun hh => by rw [hh, ha] at h1'; cases h1'
        rw [upd_ne this]; exact h2
      · by_cases hyp : y = a
        · subst hyp; rw [upd_same]; intro z; cases z
        · rw [upd_ne hyp]; exact hy
      · have : y ≠ a := fun hh => by
          subst hh
          have := s'.env.rF i y (by rw [ha]; intro z; cases z)
          rw [this] at h; cases h
        rw [upd_ne this]; exact s'.env.ex _ _ h
      · by_cases hyp : y = a
        · subst hyp; rw [upd_same] at h ⊢; exact h
        · rw [upd_ne hyp] at h ⊢; exact s'.env.rh i _ _ h
      · refine s'.env.rF i y ?_
        by_cases hyp : y = a
        · subst hyp; rw [ha]; intro z; cases z
        · rw [upd_ne hyp] at hy; exact hy
      · by_cases hyp : y = a
        · subst hyp; rw [ha]; intro z; cases z
        · rw [upd_ne hyp] at hy; exact hy
    · exact hg.elim
  · exact hg.elim
theorem mkDct1_okS (hB : i = 0 → B.o = none) (kk : EOk K B tk fk) (kv : EOk K B tv fv) : SSOk K B W (tAsg (tDisp [(tk, tv)]) (gName i)) (sMkDct1 i fk fv) := fun Z R F H σ ρ D s hg p hp => by
  unfold sMkDct1 at hg
  split at hg
  · rename_i k d h1 h2
    split at hg
    · rename_i hc
      have s0 := s.grow ((Grow.refl s.env.ex).beside (o := .dK []) hp)
      refine kk _ F _ σ ρ _ s0.env h1 _ fun u H1 G1 g1 r1 => ?_
      refine kv _ G1 H1 σ ρ _ (s0.env.grow g1) h2 _ fun v H2 G2 g2 r2 => ?_
      have eu := Bp.int (H := G1) (.inl r1)
      subst eu
      have g := g1.trans g2
      have e2 : H2 p = some (.dK []) := g.h _ _ upd_same
      have hF : F p = none := s.env.ex.free hp
      have hG : G2 p = none := g.no p hF (by rw [upd_same]; intro z; cases z)
      refine ⟨e2, [(Sum.inl k, v)], rfl, by simp, ?_⟩
      have em : mergeK [] [((Sum.inl k : Key), v)] = kvI [(k, v)] := rfl
      rw [em]
      have gr : Grow H F (upd H2 p (.dK (kvI [(k, v)]))) G2 := ⟨fun y o h => by
          have hne : y ≠ p := ne_of_none h hp
          rw [upd_ne hne]
          exact g.h _ _ (by rw [upd_ne hne]; exact h), g.f, fun y o h => by rw [upd_ne (ne_of_none h hG)]; exact g.sub _ _ h, fun y h1 h2 => g.no y h1 (by
          by_cases hyp : y = p
          · subst hyp; exact absurd hp h2
          · rw [upd_ne hyp]; exact h2)⟩
      refine hg _ _ _ G2 (s.newO (R' := upd noH p (.dK (kvI [(k, v)]))) hB gr (fun y o h => ?_) (fun y hy => ?_) (fun y hy => ?_) ⟨[(k, v)], upd_same, .cons (r2.dp (by rintro l rfl; cases hc)) .nil⟩) g.f
      · by_cases e : y = p
        · subst e; rw [upd_same] at h ⊢; exact h
        · rw [upd_ne e] at h; cases h
      · by_cases e : y = p
        · subst e; exact hG
        · exact absurd (upd_ne e) hy
      · by_cases e : y = p
        · subst e; exact hp
        · exact absurd (upd_ne e) hy
    · exact hg.elim
  · exact hg.elim
theorem dkeys_ok (i : Nat) : LOk K B (tCB rListD (tCons (tVar i) tNil)) (eDKeys B.bk i) := fun R F H σ ρ ds E q Q k => by
  unfold eDKeys at q
  cases ho : rcv kT B.bk ρ i with
  | none => rw [ho] at q; cases q
  | some l =>
    rw [ho] at q
    cases q
    obtain ⟨a, R', h1, ⟨kv, ha, hA⟩, sR, ap⟩ := rcv_ok E ho
    refine ⟨.ref a, h1, a, kvI kv, rfl, sR _ _ ha, fun p hp => ?_⟩
    have e : (kvI kv).map (fun kv => kV kv.1) = (l.map (·.1)).map V.int := by
      rw [← hA.keys]
      unfold kvI
      rw [List.map_map, List.map_map]
      rfl
    rw [e]
    have e2 : (l.map fun x => PyData.int x.1) = (l.map (·.1)).map PyData.int := by rw [List.map_map]; rfl
    refine k p _ _ F ((Grow.refl E.ex).beside hp) hp (E.ex.free hp) upd_same ?_
    show DqAll K F _ (l.map fun x => PyData.int x.1)
    rw [e2]
    exact dpa_ints _
theorem dget_ok (i : Nat) (kk : EOk K B tk fk) : EOk K B (tDGet (tVar i) tk) (eDGet B.bk i fk) := fun R F H σ ρ d E q Q k => by
  unfold eDGet at q
  cases ho : rcv kT B.bk ρ i with
  | none => rw [ho] at q; cases q
  | some l =>
    rw [ho, Option.bind_some] at q
    cases hk : fk ρ with
    | none => rw [hk] at q; cases q
    | some kd =>
      rw [hk, Option.bind_some] at q
      cases kd with
      | int n =>
        obtain ⟨a, R', h1, ⟨kv, ha, hA⟩, sR, ap⟩ := rcv_ok E ho
        refine ⟨.ref a, h1, ?_⟩
        refine kk _ F H σ ρ _ E hk _ fun u H1 G1 g1 r1 => ?_
        have eu := Bp.int (H := G1) (.inl r1)
        subst eu
        rcases kv_val (k := n) hA with ⟨z, _⟩ | ⟨v, d', z1, z2, z3⟩
        · have q' : lookI l n = some d := q
          rw [z] at q'; cases q'
        · have q' : lookI l n = some d := q
          rw [z1] at q'
          cases q'
          refine ⟨a, v, rfl, ?_, k v H1 G1 g1 (.inl (dp_mono g1.f _ z3))⟩
          rw [← z2]
          exact DGet.k (k := Sum.inl n) (g1.h _ _ (sR _ _ ha))
      | _ => cases q
theorem dnotin_ok (i : Nat) (kk : EOk K B tk fk) : TOk K B (tB (tDNotIn tk (tVar i))) (eDNotIn B.bk i fk) := fun R F H σ ρ b E q Q k => by
  unfold eDNotIn at q
  cases ho : rcv kT B.bk ρ i with
  | none => rw [ho] at q; cases q
  | some l =>
    rw [ho, Option.bind_some] at q
    cases hk : fk ρ with
    | none => rw [hk] at q; cases q
    | some kd =>
      rw [hk, Option.bind_some] at q
      cases kd with
      | int n =>
        have q' : some (!(lookI l n).isSome) = some b := q
        cases q'
        obtain ⟨a, R', h1, ⟨kv, ha, hA⟩, sR, ap⟩ := rcv_ok E ho
        refine kk _ F H σ ρ _ E hk _ fun u H1 G1 g1 r1 => ?_
        have eu := Bp.int (H := G1) (.inl r1)
        subst eu
        refine ⟨.ref a, h1, a, valV (kvI kv) (Sum.inl n), rfl, DGet.k (k := Sum.inl n) (g1.h _ _ (sR _ _ ha)), ?_⟩
        have e : (valV (kvI kv) (Sum.inl n)).isSome = (lookI l n).isSome := by
          rcases kv_val (k := n) hA with ⟨z1, z2⟩ | ⟨v, d', z1, z2, z3⟩
          · rw [z1, z2]; rfl
          · rw [z1, z2]; rfl
        rw [e]
        exact ⟨_, rfl, k H1 G1 g1⟩
      | _ => cases q
end
/-! ### while -/
def whF (t : STe) (body : SS) : Nat → Rho → Out
  | 0, _ => .no
  | n + 1, ρ => match t ρ with
    | none => .no
    | some b => if b = true then (match body ρ with
      | .nx r => whF t body n r
      | o => o) else .nx ρ
def sWhile (n : Nat) (t : STe) (body : SS) : SS := fun ρ => whF t body n ρ
theorem while_okS {K : PySem.W.Frag} {B : Bs} {W : XW} {tc : TT} {tb : TS} {t : STe} {body : SS} (n : Nat) (kt : TOk K B tc t) (kb : SSOk K B W tb body) : SSOk K B W (tWhile tc tb) (sWhile n t body) := fun Z R F H σ ρ D s hg => by
  refine ⟨fun m σ' H' => ∃ (R' : Rg) (F' : Hp) (ρ' : Rho), StOk K B Z R' F' H' σ' ρ' ∧ Same F F' ∧ Goes K B Z F' D W (whF t body m ρ'), ⟨n, R, F, ρ, s, Same.refl F, hg⟩, ?_⟩
  rintro m σ' H' ⟨R', F', ρ', s', e', hg'⟩
  cases m with
  | zero => exact hg'.elim
  | succ m =>
    unfold whF at hg'
    cases et : t ρ' with
    | none => simp only [et] at hg'; exact hg'.elim
    | some b =>
      simp only [et] at hg'
      refine kt _ F' H' σ' ρ' b s'.env et _ fun H1 G1 g1 => ?_
      cases b with
      | false =>
        rw [if_neg (by decide)] at hg' ⊢
        exact hg' σ' H1 R' G1 (s'.grow g1) g1.f
      | true =>
        rw [if_pos rfl] at hg' ⊢
        refine ⟨fun σ2 H2 => ∃ m', m' < m + 1 ∧ ∃ (R' : Rg) (F' : Hp) (ρ' : Rho), StOk K B Z R' F' H2 σ2 ρ' ∧ Same F F' ∧ Goes K B Z F' D W (whF t body m' ρ'), fun _ _ h => h, ?_⟩
        refine kb Z R' G1 H1 σ' ρ' _ (s'.grow g1) ?_
        cases eb : body ρ' with
        | no => simp only [eb] at hg'; exact hg'.elim
        | nx r =>
          simp only [eb] at hg'
          exact fun σ4 H4 R4 F4 s4 e4 => ⟨m, Nat.lt_succ_self m, R4, F4, r, s4, (e'.trans g1.f).trans e4, Goes.mono hg' (g1.f.trans e4)⟩
        | rt d r => simp only [eb] at hg'; exact Goes.mono (o := .rt d r) hg' g1.f
        | ex c r => simp only [eb] at hg'; exact Goes.mono (o := .ex c r) hg' g1.f
        | ro i r => simp only [eb] at hg'; exact Goes.mono (o := .ro i r) hg' g1.f
/-! ### words -/
section
variable {X : Cx} {K : PySem.W.Frag} {B : Bs} {W : XW} {e a b c : Expr} {tk tv te : TE} {fk fv f : SE} {i j : Nat} {x : Str} {p p2 pos pos2 : Pos}
theorem s_mkDct (i : Nat) (hB : i = 0 → B.o = none) (ps : PS X (.Assign [.Name x p] (.Dict [] [] pos) pos2) (tAsg tDNewK (gName i))) : SemS X K B W (.Assign [.Name x p] (.Dict [] [] pos) pos2) (tAsg tDNewK (gName i)) (sMkDct i) := ⟨ps, mkDct_okS hB⟩
theorem s_mkDct1 (i : Nat) (hB : i = 0 → B.o = none) (hk : SemE X K B a tk fk) (hv : SemE X K B b tv fv) (ps : PS X (.Assign [.Name x p] (.Dict [some a] [b] pos) pos2) (tAsg (tDisp [(tk, tv)]) (gName i))) : SemS X K B W (.Assign [.Name x p] (.Dict [some a] [b] pos) pos2) (tAsg (tDisp [(tk, tv)]) (gName i)) (sMkDct1 i fk fv) := ⟨ps, mkDct1_okS hB hk.ok hv.ok⟩
theorem s_dset (i : Nat) (hk : SemE X K B a tk fk) (hv : SemE X K B e tv fv) (ps : PS X (.Assign [.Subscript (.Name x p) a p2] e pos) (tAsg tv (gSub (tVar i) tk rSetD))) : SemS X K B W (.Assign [.Subscript (.Name x p) a p2] e pos) (tAsg tv (gSub (tVar i) tk rSetD)) (sDSet i fk fv) := ⟨ps, dset_okS hv.ok hk.ok⟩
theorem sl_dkeys (i : Nat) {y : Str} {p2 : Pos} (hm : X.mg "list" = none) (hp : PE X (.Name y p2) (tVar i)) (hc : X.calm = true := by rfl) (hg : Gl X "list" := by rfl) (he : starEach [Expr.Name y p2] X.env = [(false, eval (.Name y p2) X.env)] := by rfl) (hpl : (backTo pos (starEach [] X.env)).any (·.1) = false := by rfl) :
    SemL X K B (.Call (.Name "list" p) [.Name y p2] [] pos) (tCB rListD (tCons (tVar i) tNil)) (eDKeys B.bk i) :=
  ⟨pe_callTy (call_list_dK hc) hg hm (by decide +kernel) (pa_cons hp pa_nil he) (by decide) (by decide) he hpl, dkeys_ok i⟩
theorem se_dget (i : Nat) (hu : X.A.units + 1 < cLine) (hp : PE X (.Name x p) (tVar i)) (hk : SemE X K B a tk fk) (hs : NoSl a := by exact fun _ _ => rfl) : SemE X K B (.Subscript (.Name x p) a pos) (tDGet (tVar i) tk) (eDGet B.bk i fk) := ⟨pe_dget hu hp hk.pe hs, dget_ok i hk.ok⟩
theorem st_dnotin (i : Nat) (hu : X.A.units + 1 < cLine) (hp : PE X (.Name x p) (tVar i)) (hk : SemE X K B a tk fk) (h1 : behindInMarks .NotIn (.Name x p) = false := by rfl) : SemT X K B (.Compare a [.NotIn] [.Name x p] pos) (tB (tDNotIn tk (tVar i))) (eDNotIn B.bk i fk) := ⟨pt_cmp (pc_dnotin hu hk.pe hp) h1, dnotin_ok i hk.ok⟩
theorem s_while (n : Nat) {tc : TT} {tb : TS} {t : STe} {body : SS} {ss : List Stmt} (hp : PassesOwn (model X.prog X.w) X.A X.env X.xe) (ht : SemT X K B e tc t) (hb : SemSs X K B W ss tb body) : SemS X K B W (.While e ss [] pos) (tWhile tc tb) (sWhile n t body) := ⟨ps_while hp ht.pt hb.ps, while_okS n ht.ok hb.ok⟩
end
theorem hu1_of {k : Nat} {A : Around} (hr : Room k A) : A.units + 1 < cLine := by have := hr.un; omega
theorem x_peB {X : Cx} {K : PySem.W.Frag} {e : Expr} {t : TE} {f : SE} (h : SemB X K noB e t f) : PE X e t := h.pe
theorem x_peL {X : Cx} {K : PySem.W.Frag} {e : Expr} {t : TE} {f : SA} (h : SemL X K noB e t f) : PE X e t := h.pe
/-! ### rows to reckon -/
@[simp] theorem sMkDct_eq (i : Nat) (ρ : Rho) : sMkDct i ρ = .nx (ρ.set i (.obj (.dct []))) := rfl
theorem sDSet_at {i : Nat} {fk fv : SE} {ρ : Rho} {l : List (Int × PyData)} {k : Int} {d : PyData} (h1 : ρ[i]? = some (.obj (.dct l))) (h2 : fk ρ = some (.int k)) (h3 : fv ρ = some d) (hd : dataD d = true) (hl : l.length ≤ LIM) : sDSet i fk fv ρ = .nx (ρ.set i (.obj (.dct (putI l k d)))) := by
  unfold sDSet
  rw [h1, h2, h3]
  simp [hd, hl]
theorem eDKeys_obj (bk : Addr → Option ObjSt) (i : Nat) (ρ : Rho) (l : List (Int × PyData)) (h : ρ[i]? = some (.obj (.dct l))) : eDKeys bk i ρ = some (l.map fun x => .int x.1) := by
  unfold eDKeys
  rw [rcv_obj _ _ _ _ h]
  rfl
end RT
/-! A reading function's own value, whatever the address of the object is. -/
namespace RT
open PySem PySem.Spec PyProof.Rows L2
section
variable {S : Type}
open Classical in
noncomputable def frOf (kd : Kd S) (N : List Str) (n : Nat) (b : (Addr → Option ObjSt) → SS) : S → List PyData → Res := fun β ds =>
  if h : ∃ d, ∀ a, runF N n (b (only a (kd.inj β))) (refD a :: ds) = some d then .ret h.choose else .no
theorem frOf_ok (kd : Kd S) (N : List Str) (n : Nat) (b : (Addr → Option ObjSt) → SS) : ∀ a β ds, match frOf kd N n b β ds with
      | .ret d => runF N n (b (only a (kd.inj β))) (refD a :: ds) = some d
      | .exc _ => False
      | .no => True := fun a β ds => by
  unfold frOf
  by_cases h : ∃ d, ∀ a, runF N n (b (only a (kd.inj β))) (refD a :: ds) = some d
  · rw [dif_pos h]
    exact h.choose_spec a
  · rw [dif_neg h]
    trivial
theorem frOf_eq {kd : Kd S} {N : List Str} {n : Nat} {b : (Addr → Option ObjSt) → SS} {β : S} {ds : List PyData} {d : PyData} (h : ∀ a, runF N n (b (only a (kd.inj β))) (refD a :: ds) = some d) : frOf kd N n b β ds = .ret d := by
  unfold frOf
  have h' : ∃ d, ∀ a, runF N n (b (only a (kd.inj β))) (refD a :: ds) = some d := ⟨d, h⟩
  rw [dif_pos h']
  have := (h'.choose_spec 0).symm.trans (h 0)
  rw [Option.some.inj this]
end
end RT
/-! Loops and comprehensions by what holds of them; texts by their codes. -/
namespace RT
open PySem PySem.Spec PyProof.Rows L2
theorem forF_inv {j : Nat} {body : SS} (Inv : Nat → Rho → Prop) : ∀ {ds : List PyData} (n : Nat) {ρ : Rho}, Inv n ρ → (∀ k d ρ, ds[k]? = some d → Inv (n + k) ρ → ∃ ρ', body (ρ.set j (.val d)) = .nx ρ' ∧ Inv (n + k + 1) ρ') →
    ∃ ρ', forF (tg1 j) body ds ρ = .nx ρ' ∧ Inv (n + ds.length) ρ'
  | [], n, ρ, h, _ => ⟨ρ, rfl, h⟩
  | d :: ds, n, ρ, h, hs => by
    obtain ⟨ρ1, e1, i1⟩ := hs 0 d ρ rfl h
    obtain ⟨ρ2, e2, i2⟩ := forF_inv Inv (ds := ds) (n + 1) i1 fun k d' ρ hd hi => by
      have := hs (k + 1) d' ρ (by simpa using hd) (by rw [show n + (k + 1) = n + 1 + k by omega]; exact hi)
      rw [show n + (k + 1) + 1 = n + 1 + k + 1 by omega] at this
      exact this
    refine ⟨ρ2, ?_, ?_⟩
    · rw [forF_cons1, e1, thn_nx, e2]
    · rw [List.length_cons, show n + (ds.length + 1) = n + 1 + ds.length by omega]
      exact i2
theorem forF_inv0 {j : Nat} {body : SS} (Inv : Nat → Rho → Prop) {ds : List PyData} {ρ : Rho} (h : Inv 0 ρ) (hs : ∀ k d ρ, ds[k]? = some d → Inv k ρ → ∃ ρ', body (ρ.set j (.val d)) = .nx ρ' ∧ Inv (k + 1) ρ') :
    ∃ ρ', forF (tg1 j) body ds ρ = .nx ρ' ∧ Inv ds.length ρ' := by
  obtain ⟨ρ', e, i⟩ := forF_inv Inv 0 h fun k d ρ hd hi => by
    rw [Nat.zero_add] at hi ⊢
    exact hs k d ρ hd hi
  rw [Nat.zero_add] at i
  exact ⟨ρ', e, i⟩
theorem rangeD_get {n k : Nat} {d : PyData} (h : (rangeD 0 n)[k]? = some d) : k < n ∧ d = .int (k : Int) := by
  have hk : k < n := by
    have := (List.getElem?_eq_some_iff.mp h).1
    simpa using this
  refine ⟨hk, ?_⟩
  simp [rangeD, hk] at h
  exact h.symm
theorem forF_rng {j : Nat} {body : SS} (Inv : Nat → Rho → Prop) {n : Nat} {ρ : Rho} (h : Inv 0 ρ) (hs : ∀ k ρ, k < n → Inv k ρ → ∃ ρ', body (ρ.set j (.val (.int (k : Int)))) = .nx ρ' ∧ Inv (k + 1) ρ') : ∃ ρ', forF (tg1 j) body (rangeD 0 n) ρ = .nx ρ' ∧ Inv n ρ' := by
  obtain ⟨ρ', e, i⟩ := forF_inv0 (j := j) (body := body) (ds := rangeD 0 n) Inv h fun k d ρ hd hi => by
    obtain ⟨hk, rfl⟩ := rangeD_get hd
    exact hs k ρ hk hi
  rw [rangeD_len] at i
  exact ⟨ρ', e, i⟩
/-- a comprehension without a test, its items by what holds of them -/
theorem lcF_ex {α : Type} {j : Nat} {el : SE} {ρ : Rho} (enc : α → PyData) (P : PyData → α → Prop) : ∀ {ds : List PyData}, (∀ d, d ∈ ds → ∃ x, el (ρ.set j (.val d)) = some (enc x) ∧ dataD (enc x) = true ∧ P d x) →
    ∃ xs : List α, lcF j tYesF el ρ ds = some (xs.map enc) ∧ xs.length = ds.length ∧ ∀ (k : Nat) (d : PyData) (x : α), ds[k]? = some d → xs[k]? = some x → P d x
  | [], _ => ⟨[], rfl, rfl, fun k d x h => by simp at h⟩
  | d :: ds, h => by
    obtain ⟨x, e1, e2, hp⟩ := h d List.mem_cons_self
    obtain ⟨xs, e3, e4, hq⟩ := lcF_ex enc P (ds := ds) fun d' hd => h d' (List.mem_cons_of_mem _ hd)
    refine ⟨x :: xs, ?_, by simp [e4], fun k d' x' h1 h2 => ?_⟩
    · simp [lcF, e1, e2, e3]
    · cases k with
      | zero => simp at h1 h2; subst h1 h2; exact hp
      | succ k => exact hq k d' x' (by simpa using h1) (by simpa using h2)
/-- an item of a menu -/
def mnu {α : Type} (l : List α) (i : Int) : Option α := atI l (i % (l.length : Int))
theorem mnu_mem {α : Type} {l : List α} {i n : Int} (hn : n = (l.length : Int)) (h0 : 0 < n) : ∃ x, x ∈ l ∧ atI l (i % n) = some x := atI_mod l i n hn h0
/-! ### texts by codes -/
theorem cutS_S (l : List Nat) (lo hi : Option Int) : cutS (SX.S l) lo hi = SX.S (cutA l lo hi) := by
  unfold cutS cutA
  rw [SX.S_len]
theorem cutA_from {α : Type} (l : List α) (k : Nat) : cutA l (some (k : Int)) none = l.drop k := by
  unfold cutA
  rw [HT.sIx_nat]
  show (l.drop (min k l.length)).take (l.length - min k l.length) = l.drop k
  rw [List.take_of_length_le (by simp)]
  by_cases h : k ≤ l.length
  · rw [Nat.min_eq_left h]
  · rw [Nat.min_eq_right (by omega), List.drop_length, List.drop_eq_nil_of_le (by omega)]
theorem cutA_to {α : Type} (l : List α) (k : Nat) : cutA l none (some (k : Int)) = l.take k := by
  unfold cutA
  rw [HT.sIx_nat]
  show (l.drop 0).take (min k l.length - 0) = l.take k
  rw [List.drop_zero, Nat.sub_zero]
  by_cases h : k ≤ l.length
  · rw [Nat.min_eq_left h]
  · rw [Nat.min_eq_right (by omega), List.take_length, List.take_of_length_le (by omega)]
theorem cutA_fromI {α : Type} (l : List α) (i : Int) (h : 0 ≤ i) : cutA l (some i) none = l.drop i.toNat := by
  have := cutA_from l i.toNat
  rwa [Int.toNat_of_nonneg h] at this
theorem cutA_toI {α : Type} (l : List α) (i : Int) (h : 0 ≤ i) : cutA l none (some i) = l.take i.toNat := by
  have := cutA_to l i.toNat
  rwa [Int.toNat_of_nonneg h] at this
theorem cutA_init {α : Type} (l : List α) : cutA l none (some (-1)) = l.dropLast := by
  unfold cutA HT.sIx
  rw [List.dropLast_eq_take]
  cases l with
  | nil => rfl
  | cons x r =>
    simp
    omega
theorem cutA_lastL {α : Type} (l : List α) : cutA l (some (-1)) none = l.drop (l.length - 1) := by
  unfold cutA HT.sIx
  cases l with
  | nil => rfl
  | cons x r =>
    simp
    rw [List.take_of_length_le (by simp)]
    congr 1
    omega
theorem gAdd_S (a b : List Nat) (h : a.length + b.length ≤ LIM) : gAdd (.str (SX.S a)) (.str (SX.S b)) = some (.str (SX.S (a ++ b))) := by
  rw [gAdd_str _ _ (by rw [SX.S_len, SX.S_len]; exact h), SX.S_cat]
def strD : PyData → Option Str
  | .str z => if z.length ≤ LIM then some z else none
  | _ => none
theorem eSlS_S {f : SE} {a b : SO} {ρ : Rho} {l : List Nat} {lo hi : Option Int} (h1 : f ρ = some (.str (SX.S l))) (h2 : a ρ = some lo) (h3 : b ρ = some hi) (hl : l.length ≤ LIM) : eSlS f a b ρ = some (.str (SX.S (cutA l lo hi))) := by
  unfold eSlS
  rw [h1, h2, h3]
  simp only [Option.bind_some]
  rw [if_pos (by rw [SX.S_len]; exact hl), cutS_S]
end RT
/-! Functions that hand back a new book. -/
/-! Functions that hand back a new list; own lists handed in where a list of flat data comes back. -/
namespace RT
open PySem PySem.Spec PyProof.Rows L2
/-! ### data with no list in it -/
mutual
def flatD : PyData → Bool
  | .none => true
  | .bool _ => true
  | .int _ => true
  | .str _ => true
  | .tuple ds => flatDs ds
  | _ => false
def flatDs : List PyData → Bool
  | [] => true
  | d :: ds => flatD d && flatDs ds
end
theorem flatDs_all (ds : List PyData) : flatDs ds = ds.all flatD := by
  induction ds with
  | nil => rfl
  | cons d ds ih => rw [flatDs, ih]; rfl
section
variable {K : PySem.W.Frag} {G G' : Hp} (hG : ∀ a o, G a = some o → (∀ xs, o ≠ .lst xs) → G' a = some o)
include hG
mutual
theorem dq_flat : ∀ (d : PyData) {v : V}, flatD d = true → Dq K G v d → Dq K G' v d
  | .none, _, _, h => by cases h; exact .non
  | .bool b, _, _, h => by cases h; exact .bl b
  | .int i, _, _, h => by cases h; exact .int i
  | .str x, _, _, h => by cases h; exact .str x
  | .tuple ds, v, f, h => by
    have f' : flatDs ds = true := by simpa [flatD] using f
    cases h with
    | tup h1 h2 =>
      refine .tup ?_ (dqa_flat ds f' h2)
      rcases h1 with (h1 | ⟨o, h1⟩) | h1
      · exact .inl (.inl (hG _ _ h1 fun xs z => by cases z))
      · exact .inl (.inr ⟨o, hG _ _ h1 fun xs z => by cases z⟩)
      · exact .inr h1
  | .list ds, v, f, h => by simp [flatD] at f
  | .dict _, _, f, _ => by simp [flatD] at f
theorem dqa_flat : ∀ (ds : List PyData) {vs : List V}, flatDs ds = true → DqAll K G vs ds → DqAll K G' vs ds
  | [], _, _, h => by cases h; exact .nil
  | d :: ds, _, f, h => by
    rw [flatDs, Bool.and_eq_true] at f
    cases h with
    | cons h1 h2 => exact .cons (dq_flat d f.1 h1) (dqa_flat ds f.2 h2)
end
end
/-! ### a part of the heap with the lists beside it -/
def lstsOf (H : Hp) : Hp := fun a => match H a with
  | some (.lst xs) => some (.lst xs)
  | _ => none
def plusL (G H R : Hp) : Hp := fun a => match R a with
  | some _ => none
  | none => match G a with
    | some o => some o
    | none => lstsOf H a
theorem plusL_same {G H R : Hp} (ap : Apart R G) : Same G (plusL G H R) := fun a o h => by
  unfold plusL
  cases hR : R a with
  | none => simp only [h]
  | some u => have := ap a (by rw [hR]; intro z; cases z); rw [this] at h; cases h
theorem plusL_sub {G H R : Hp} (e : Same G H) : Same (plusL G H R) H := fun a o h => by
  unfold plusL at h
  split at h
  · cases h
  · split at h
    · rename_i o' h2
      cases h
      exact e _ _ h2
    · unfold lstsOf at h
      split at h
      · rename_i xs h3
        cases h
        exact h3
      · cases h
theorem plusL_apart {G H R : Hp} : Apart R (plusL G H R) := fun a ha => by
  unfold plusL
  cases hR : R a with
  | none => exact absurd hR ha
  | some u => rfl
theorem plusL_lst {G H R : Hp} {p : Addr} {xs : List V} (e : Same G H) (h : H p = some (.lst xs)) (hR : R p = none) : plusL G H R p = some (.lst xs) := by
  unfold plusL
  rw [hR]
  cases hG : G p with
  | none => simp [lstsOf, h]
  | some o =>
    have := e _ _ hG
    rw [h] at this
    cases this
    rfl
/-- what has come beside, the lists lent taken away -/
def lessL (G H G' : Hp) : Hp := fun a => match G a, H a with
  | none, some _ => none
  | _, _ => G' a
theorem lessL_flat {G H R H' G' : Hp} (e : Same G H) (g : Grow H (plusL G H R) H' G') : ∀ a o, G' a = some o → (∀ xs, o ≠ .lst xs) → lessL G H G' a = some o := fun a o h hn => by
  unfold lessL
  cases hG : G a with
  | some u => exact h
  | none =>
    cases hH : H a with
    | none => exact h
    | some u =>
      exfalso
      cases hp : plusL G H R a with
      | none =>
        have := g.no a hp (by rw [hH]; intro z; cases z)
        rw [this] at h
        cases h
      | some w =>
        have h2 := g.f _ _ hp
        rw [h2] at h
        cases h
        unfold plusL at hp
        split at hp
        · cases hp
        · rw [hG] at hp
          simp only at hp
          unfold lstsOf at hp
          split at hp
          · cases hp
            exact hn _ rfl
          · cases hp
theorem lessL_grow {G H R H' G' : Hp} (e : Same G H) (ap : Apart R G) (g : Grow H (plusL G H R) H' G') : Grow H G H' (lessL G H G') where
  h := g.h
  f := fun a o h => by
    have h2 := g.f _ _ (plusL_same (H := H) ap a o h)
    unfold lessL
    rw [h]
    exact h2
  sub := fun a o h => by
    unfold lessL at h
    split at h
    · cases h
    · exact g.sub _ _ h
  no := fun a h1 h2 => by
    unfold lessL
    rw [h1]
    cases hH : H a with
    | none => exact absurd hH h2
    | some u => rfl
theorem CpAll.allL {K : PySem.W.Frag} {B : Bs} {R : Rg} {G H R' : Hp} (e : Same G H) (ap : Apart R' G) (hR : ∀ p, (∀ i, R i p = none) → B.h p = none → R' p = none) : ∀ {vs : List V} {ds : List PyData}, CpAll K B R G H vs ds → RpAll K (plusL G H R') vs ds
  | [], [], _ => .nil
  | [], _ :: _, h => by cases h
  | _ :: _, [], h => by cases h
  | v :: vs, d :: ds, h => by
    cases h with
    | cons h1 h2 =>
      refine .cons ?_ (CpAll.allL e ap hR h2)
      rcases h1 with h1 | ⟨p, us, es, rfl, rfl, h3, h4, h5, h6⟩
      · exact h1.mono (plusL_same ap)
      · exact .inl (.lst (plusL_lst e h3 (hR p h5 h6)) (dpa_mono (plusL_same ap) _ h4))
theorem apart_noH {G : Hp} : Apart noH G := fun a ha => absurd rfl ha
theorem BpAll.allL {K : PySem.W.Frag} {G H : Hp} (e : Same G H) : ∀ {vs : List V} {ds : List PyData}, BpAll K G H vs ds → RpAll K (plusL G H noH) vs ds
  | [], [], _ => .nil
  | [], _ :: _, h => by cases h
  | _ :: _, [], h => by cases h
  | v :: vs, d :: ds, h => by
    cases h with
    | cons h1 h2 =>
      refine .cons ?_ (BpAll.allL e h2)
      rcases h1 with h1 | ⟨p, us, es, rfl, rfl, h3, h4⟩
      · exact h1.mono (plusL_same apart_noH)
      · exact .inl (.lst (plusL_lst e h3 rfl) (dpa_mono (plusL_same apart_noH) _ h4))
/-- a list of flat data -/
def flatL : PyData → Bool
  | .list es => flatDs es
  | _ => false
def onlyF (o : Option PyData) : Option PyData := o.bind fun d => if flatL d = true then some d else none
def onlyFs (o : Option (List PyData)) : Option (List PyData) := o.bind fun d => if flatDs d = true then some d else none
section
variable {K : PySem.W.Frag} {B : Bs} {ta : TA} {sa : SA}
/-- own lists handed in for a moment: a list of flat data comes back, to be read for a moment -/
theorem callPBF_ok {F : List PyData → Option PyData} (ha : ABOk K B ta sa) : BOk K B (tCall (spPure K F) [] E0 ta) (eCall (fun ds => onlyF (F ds)) sa) := fun Rg F' H σ ρ d E q Q kk => by
  cases e1 : sa ρ with
  | none => simp [eCall, e1] at q
  | some ds =>
    have q' : onlyF (F ds) = some d := by simpa [eCall, e1] using q
    unfold onlyF at q'
    cases e2 : F ds with
    | none => simp [e2] at q'
    | some d' =>
      rw [e2, Option.bind_some] at q'
      split at q'
      · rename_i hs
        cases q'
        refine ha _ F' H σ ρ ds E e1 _ fun vs H1 G1 g1 r1 => ?_
        rw [List.append_nil]
        refine ⟨plusL G1 H1 noH, ds, _, plusL_sub g1.sub, BpAll.allL g1.sub r1, e2, fun v H' G' g r => kk v H' _ (g1.trans (lessL_grow g1.sub apart_noH g)) ?_⟩
        cases d with
        | list es =>
          rcases r with r | ⟨a, _, z⟩ | ⟨a, ns, _, z, _⟩
          · cases r with
            | lst h1 h2 => exact .inr ⟨_, _, es, rfl, rfl, g.sub _ _ h1, dqa_flat (lessL_flat g1.sub g) es hs h2⟩
          · cases z
          · exact absurd z (by intro z; cases z)
        | _ => simp [flatL] at hs
      · cases q'
/-! ### functions that hand back a new list -/
def spNewL (K : PySem.W.Frag) (Ff : List PyData → Option (List PyData)) : Sp := fun vs H Q _ => ∃ (G : Hp) (ds es : List PyData), Same G H ∧ RpAll K G vs ds ∧ Ff ds = some es ∧
  ∀ p xs H' G', Grow H G H' G' → H p = none → G' p = none → H' p = some (.lst xs) → DqAll K G' xs es → Q (.ref p) H'
def spRL {S : Type} (K : PySem.W.Frag) (kd : Kd S) (Fr : S → List PyData → Option (List PyData)) : Sp := fun vs H Q _ => ∃ (G R : Hp) (a : Addr) (β : S) (us : List V) (ds es : List PyData), vs = .ref a :: us ∧ Same G H ∧ Same R H ∧ Apart R G ∧ ObjAt K G R a (kd.inj β) ∧ RpAll K G us ds ∧ Fr β ds = some es ∧
  ∀ p xs H' G', Grow H G H' G' → H p = none → G' p = none → H' p = some (.lst xs) → DqAll K G' xs es → Q (.ref p) H'
def sRetL (i : Nat) : SS := fun ρ => match ρ[i]? with
  | some (.own _) => .ro i ρ
  | _ => .no
def ownO : Option Sl → Option (List PyData)
  | some (.own es) => some es
  | _ => none
def runL (N : List Str) (n : Nat) (b : SS) : List PyData → Option (List PyData) := fun ds => if ds.length = n then (match b (rho0 N ds) with
  | .ro i ρ => ownO ρ[i]?
  | _ => none) else none
theorem retL_ok {W : XW} (i : Nat) : SSOk K B W (tRet (tVar i)) (sRetL i) := fun Z R F H σ ρ D s hg => by
  unfold sRetL at hg
  split at hg
  · rename_i o e
    obtain ⟨p, vs, h1, _⟩ := s.env.own i _ e
    exact ⟨.ref p, h1, hg (.ref p) σ H R F s h1 (Same.refl F)⟩
  · exact hg.elim
theorem sp_bodyBL {N : List Str} {n : Nat} {b : SS} {t : TS} (k : SSOk K B W0 t b) {vs : List V} {H G : Hp} {ds es : List PyData} {Q : VK} (bo : BsOk K B G H) (e : Same G H) (hR : RpAll K G vs ds) (hF : runL N n b ds = some es)
    (hQ : ∀ p xs H' G', Grow H G H' G' → H p = none → G' p = none → H' p = some (.lst xs) → DqAll K G' xs es → Q (.ref p) H') : t { nx := fun _ H' => Q .non H', rt := Q } (start N vs) H := by
  refine k ⟨noH, H, G⟩ noR G H _ _ _ (start_ok bo e hR) ?_
  unfold runL at hF
  split at hF
  · cases hb : b (rho0 N ds) with
    | no => rw [hb] at hF; cases hF
    | nx r => rw [hb] at hF; cases hF
    | rt d r => rw [hb] at hF; cases hF
    | ex c r => rw [hb] at hF; cases hF
    | ro i r =>
      rw [hb] at hF
      have ho : r[i]? = some (.own es) := by
        have hF' : ownO r[i]? = some es := hF
        unfold ownO at hF'
        split at hF'
        · rename_i es' h; cases hF'; exact h
        · cases hF'
      exact fun v σ H' R' F' s hv _ => by
        obtain ⟨p, vs, h1, h3, h4, h5, _⟩ := s.env.own i _ ho
        have hz := s.fr i _ p ho h1
        rw [h1] at hv
        cases hv
        exact hQ p vs H' F' s.gr.pure hz h5 h3 h4
  · cases hF
open Classical in
noncomputable def frLOf {S : Type} (kd : Kd S) (N : List Str) (n : Nat) (b : (Addr → Option ObjSt) → SS) : S → List PyData → Option (List PyData) := fun β ds =>
  if h : ∃ d, ∀ a, runL N n (b (only a (kd.inj β))) (refD a :: ds) = some d then some h.choose else none
theorem frLOf_ok {S : Type} {kd : Kd S} {N : List Str} {n : Nat} {b : (Addr → Option ObjSt) → SS} {β : S} {ds es : List PyData} (h : frLOf kd N n b β ds = some es) : ∀ a, runL N n (b (only a (kd.inj β))) (refD a :: ds) = some es := by
  unfold frLOf at h
  split at h
  · rename_i h2
    cases h
    exact h2.choose_spec
  · cases h
theorem frLOf_eq {S : Type} {kd : Kd S} {N : List Str} {n : Nat} {b : (Addr → Option ObjSt) → SS} {β : S} {ds es : List PyData} (h : ∀ a, runL N n (b (only a (kd.inj β))) (refD a :: ds) = some es) : frLOf kd N n b β ds = some es := by
  unfold frLOf
  have h' : ∃ d, ∀ a, runL N n (b (only a (kd.inj β))) (refD a :: ds) = some d := ⟨es, h⟩
  rw [dif_pos h']
  exact (h'.choose_spec 0).symm.trans (h 0)
theorem runL_len {N : List Str} {n : Nat} {b : SS} {ds es : List PyData} (q : runL N n b ds = some es) : ds.length = n := by
  unfold runL at q
  split at q
  · assumption
  · cases q
theorem sp_runL {X : Cx} {N : List Str} {n : Nat} {st : List Stmt} {b : SS} {vs : List V} {H : Hp} {Q : VK} {E : XK}
    (k : ∃ t, SemSs X.nox K noB W0 st t b) (h : spNewL K (runL N n b) vs H Q E) : ∃ t, PSs X st t ∧ t { nx := fun _ H' => Q .non H', rt := Q } (start N vs) H := by
  obtain ⟨G, ds, es, e, hR, hF, hQ⟩ := h
  obtain ⟨t, k⟩ := k
  exact ⟨t, k.ps.nox, sp_bodyBL k.ok bsOk_no e hR hF hQ⟩
theorem sp_runRL {S : Type} {kd : Kd S} {X : Cx} {N : List Str} {n : Nat} {st : List Stmt} {b : (Addr → Option ObjSt) → SS} {vs : List V} {H : Hp} {Q : VK} {E : XK}
    (k : ∀ B : Bs, ∃ t, SemSs X.nox K B W0 st t (b B.bk)) (h : spRL K kd (frLOf kd N n b) vs H Q E) : ∃ t, PSs X st t ∧ t { nx := fun _ H' => Q .non H', rt := Q } (start N vs) H := by
  obtain ⟨G, R, a, β, us, ds, es, rfl, e, eR, ap, bA, r, q, hQ⟩ := h
  have bo : BsOk K ⟨R, G, only a (kd.inj β), none⟩ G H := ⟨Same.refl G, eR, ap, only_ok bA⟩
  obtain ⟨t, k⟩ := k ⟨R, G, only a (kd.inj β), none⟩
  exact ⟨t, k.ps.nox, sp_bodyBL k.ok bo e (.cons (.inr (.inl ⟨a, rfl, rfl⟩)) r) (frLOf_ok q a) hQ⟩
theorem spNewL_len {N : List Str} {n : Nat} {b : SS} {vs : List V} {H : Hp} {Q : VK} {E : XK} (h : spNewL K (runL N n b) vs H Q E) : vs.length = n := by
  obtain ⟨G, ds, es, e, hR, hF, hQ⟩ := h
  rw [hR.len]
  exact runL_len hF
theorem spRL_len {S : Type} {kd : Kd S} {N : List Str} {n : Nat} {b : (Addr → Option ObjSt) → SS} {vs : List V} {H : Hp} {Q : VK} {E : XK} (h : spRL K kd (frLOf kd N n b) vs H Q E) : vs.length = n := by
  obtain ⟨G, R, a, β, us, ds, es, rfl, e, eR, ap, bA, r, q, hQ⟩ := h
  have := runL_len (frLOf_ok q a)
  rw [List.length_cons, r.len]
  simpa using this
structure PFL (P : Program) (w : World) (K : PySem.W.Frag) (mg : Str → Option Value) (base : Heap) (k : Nat) (x : Str) (Ff : List PyData → Option (List PyData)) : Prop where
  ex : ∃ (f : Addr) (fd : FuncData) (ps : List Str), FnOk P w K mg base CX0 k f fd ps (spNewL K Ff) ∧ mg x = some (.ref f) ∧ PySem.W.keepIn K (.ref f) = true ∧ Binds K fd ps []
structure PFRL {S : Type} (P : Program) (w : World) (K : PySem.W.Frag) (mg : Str → Option Value) (base : Heap) (k : Nat) (kd : Kd S) (x : Str) (Fr : S → List PyData → Option (List PyData)) : Prop where
  ex : ∃ (f : Addr) (fd : FuncData) (ps : List Str), FnOk P w K mg base CX0 k f fd ps (spRL K kd Fr) ∧ mg x = some (.ref f) ∧ PySem.W.keepIn K (.ref f) = true ∧ Binds K fd ps []
theorem callL_ok {Ff : List PyData → Option (List PyData)} (ha : AOk K B ta sa) : LOk K B (tCall (spNewL K Ff) [] E0 ta) (eCallL Ff sa) := fun R F H σ ρ es E q Q k => by
  unfold eCallL at q
  cases e1 : sa ρ with
  | none => rw [e1] at q; cases q
  | some ds =>
    rw [e1, Option.bind_some] at q
    refine ha _ F H σ ρ ds E e1 _ fun vs H1 G1 g1 r1 => ?_
    rw [List.append_nil]
    exact ⟨G1, ds, es, g1.sub, r1, q, fun p xs H' G' g h1 h2 h3 h4 => k p xs H' G' (g1.trans g) (g1.h.free h1) h2 h3 h4⟩
def eMethL {S : Type} (kd : Kd S) (bk : Addr → Option ObjSt) (i : Nat) (Fr : S → List PyData → Option (List PyData)) (sa : SA) : SA := fun ρ => (rcv kd bk ρ i).bind fun β => (sa ρ).bind fun ds => Fr β ds
theorem callRL_ok {S : Type} {kd : Kd S} {i : Nat} {Fr : S → List PyData → Option (List PyData)} (ha : AOk K B ta sa) : LOk K B (tCall (spRL K kd Fr) [] E0 (tCons (tVar i) ta)) (eMethL kd B.bk i Fr sa) := fun R F H σ ρ es E q Q k => by
  unfold eMethL at q
  cases e1 : rcv kd B.bk ρ i with
  | none => rw [e1] at q; cases q
  | some β =>
    cases e2 : sa ρ with
    | none => rw [e1, e2] at q; cases q
    | some ds =>
      rw [e1, e2, Option.bind_some, Option.bind_some] at q
      obtain ⟨a, R', s1, bA, sR, ap, hR⟩ := rcv_ok2 E e1
      refine ⟨.ref a, s1, ha _ F H σ ρ ds E e2 _ fun vs H1 G1 g1 r1 => ?_⟩
      show spRL K kd Fr ((.ref a :: vs) ++ []) H1 Q E0
      rw [List.append_nil]
      exact ⟨G1, R', a, β, vs, ds, es, rfl, g1.sub, sR.trans g1.h, g1.apart sR ap, bA.mono g1.f (Same.refl _), r1, q, fun p xs H' G' g h1 h2 h3 h4 => k p xs H' G' (g1.trans g) (g1.h.free h1) h2 h3 h4⟩
theorem callRLB_ok {S : Type} {kd : Kd S} {i : Nat} {Fr : S → List PyData → Option (List PyData)} (ha : CAOk K B ta sa) : LOk K B (tCall (spRL K kd Fr) [] E0 (tCons (tVar i) ta)) (fun ρ => onlyFs (eMethL kd B.bk i Fr sa ρ)) := fun R F H σ ρ es E q Q k => by
  have q : (eMethL kd B.bk i Fr sa ρ).bind (fun d => if flatDs d = true then some d else none) = some es := q
  unfold eMethL at q
  cases e1 : rcv kd B.bk ρ i with
  | none => rw [e1] at q; cases q
  | some β =>
    cases e2 : sa ρ with
    | none => rw [e1, e2] at q; cases q
    | some ds =>
      rw [e1, e2, Option.bind_some, Option.bind_some] at q
      cases e3 : Fr β ds with
      | none => rw [e3] at q; cases q
      | some es' =>
        rw [e3, Option.bind_some] at q
        split at q
        · rename_i hs
          cases q
          obtain ⟨a, R', s1, bA, sR, ap, hR⟩ := rcv_ok2 E e1
          refine ⟨.ref a, s1, ha _ F H σ ρ ds E e2 _ fun vs H1 G1 g1 r1 => ?_⟩
          show spRL K kd Fr ((.ref a :: vs) ++ []) H1 Q E0
          rw [List.append_nil]
          have ap1 : Apart R' G1 := g1.apart sR ap
          refine ⟨plusL G1 H1 R', R', a, β, vs, ds, es, rfl, plusL_sub g1.sub, sR.trans g1.h, plusL_apart, bA.mono (g1.f.trans (plusL_same ap1)) (Same.refl _), r1.allL g1.sub ap1 hR, e3, fun p xs H' G' g h1 h2 h3 h4 => ?_⟩
          refine k p xs H' _ (g1.trans (lessL_grow g1.sub ap1 g)) (g1.h.free h1) ?_ h3 (dqa_flat (lessL_flat g1.sub g) es hs h4)
          unfold lessL
          split
          · rfl
          · exact h2
        · cases q
/-- x + y, a new list -/
def lAdd (f1 f2 : SE) : SA := fun ρ => (eOp gAdd f1 f2 ρ).bind fun d => match d with
  | .list ds => some ds
  | _ => none
theorem addLL {G H : Hp} {x y : V} {d1 d2 : PyData} {es : List PyData} (e : Same G H) (b1 : Bp K G H x d1) (b2 : Bp K G H y d2) (q : gAdd d1 d2 = some (.list es)) {Q : VK}
    (k : ∀ p vs H' G', Grow H G H' G' → H p = none → G' p = none → H' p = some (.lst vs) → DqAll K G' vs es → Q (.ref p) H') : rAdd3 x y H Q := by
  cases d1 with
  | list i =>
    cases d2 with
    | list j =>
      have q' : (if i.length + j.length ≤ LIM then some (PyData.list (i ++ j)) else none) = some (.list es) := q
      split at q'
      · rename_i hc
        cases q'
        obtain ⟨p1, vs, rfl, h1, a1⟩ := b1.list e
        obtain ⟨p2, ws, rfl, h2, a2⟩ := b2.list e
        refine .inr (.inr ⟨p1, p2, vs, ws, rfl, rfl, h1, h2, lim_line (by rw [a1.len, a2.len]; exact hc), fun p hp => k p _ _ G ⟨Same.upd_new (Same.refl H) hp, Same.refl G, Same.upd_new e hp, fun _ h _ => h⟩ hp (e.free hp) upd_same (a1.append a2)⟩)
      · cases q'
    | _ => simp [gAdd, alt, gAddI, gI, gAddS, gAddL] at q
  | int i => cases d2 <;> simp [gAdd, alt, gAddI, gI, gAddS, gAddL, yesC] at q
  | str i =>
    cases d2 with
    | str j =>
      have q' : (if i.length + j.length ≤ LIM then some (PyData.str (i ++ j)) else none) = some (.list es) := by
        by_cases hc : i.length + j.length ≤ LIM
        · simp [gAdd, alt, gAddI, gI, gAddS, hc] at q
        · simp [gAdd, alt, gAddI, gI, gAddS, gAddL, hc] at q
      split at q' <;> cases q'
    | _ => simp [gAdd, alt, gAddI, gI, gAddS, gAddL] at q
  | _ => simp [gAdd, alt, gAddI, gI, gAddS, gAddL] at q
theorem addL_ok {t1 t2 : TE} {f1 f2 : SE} (h1 : BOk K B t1 f1) (h2 : BOk K B t2 f2) : LOk K B (tOp rAdd3 t1 t2) (lAdd f1 f2) := fun R F H σ ρ es E q Q k => by
  unfold lAdd eOp at q
  cases e1 : f1 ρ with
  | none => simp [e1] at q
  | some x =>
    cases e2 : f2 ρ with
    | none => simp [e1, e2] at q
    | some y =>
      rw [e1, e2, Option.bind_some, Option.bind_some] at q
      cases e3 : gAdd x y with
      | none => rw [e3] at q; cases q
      | some d =>
        rw [e3, Option.bind_some] at q
        cases d with
        | list ds =>
          cases q
          exact h1 R F H σ ρ x E e1 _ fun v H1 G1 g1 b1 => h2 R G1 H1 σ ρ y (E.grow g1) e2 _ fun u H2 G2 g2 b2 => addLL g2.sub (b1.mono g2.f g2.h) b2 e3 fun p vs H3 G3 g3 r1 r2 r3 r4 =>
            k p vs H3 G3 (g1.trans (g2.trans g3)) (g1.h.free (g2.h.free r1)) r2 r3 r4
        | _ => cases q
end
section
variable {S : Type} {kd : Kd S} {X : Cx} {K : PySem.W.Frag} {B : Bs} {W : XW} {e a b : Expr} {es : List Expr} {t1 t2 : TE} {f1 f2 : SE} {ta : TA} {sa : SA} {x y : Str} {p p2 pos pos2 : Pos} {k j : Nat} {F : List PyData → Option PyData} {Ff : List PyData → Option (List PyData)} {Fr : S → List PyData → Option (List PyData)}
theorem s_retL (i : Nat) (hp : PE X e (tVar i)) : SemS X K B W (.Return (some e) pos) (tRet (tVar i)) (sRetL i) := ⟨ps_ret hp, retL_ok i⟩
theorem sl_add (h1 : SemB X K B a t1 f1) (h2 : SemB X K B b t2 f2) : SemL X K B (.BinOp a .Add b pos) (tOp rAdd3 t1 t2) (lAdd f1 f2) := ⟨pe_op op_add3 h1.pe h2.pe, addL_ok h1.ok h2.ok⟩
theorem sb_callBF (C : PF X.prog X.w K X.mg X.base k x F) (hr : Room j X.A) (ha : SemAB X K B (e :: es) ta sa) (hk : k ≤ j := by decide) (hg : Gl X x := by rfl) (hdb : (x == ("__debug__" : Str)) = false := by decide)
    (he : starEach (e :: es) X.env = (false, eval e X.env) :: starEach es X.env := by rfl) (hpl : (backTo pos (starEach es X.env)).any (·.1) = false := by rfl) (hK : X.K = K := by rfl) : SemB X K B (.Call (.Name x p) (e :: es) [] pos) (tCall (spPure K F) [] E0 ta) (eCall (fun ds => onlyF (F ds)) sa) := by
  subst hK
  obtain ⟨f, fd, ps, h1, h2, h3, h4⟩ := C.ex
  exact ⟨pe_call h1 (hr.mono hk) hg h2 h3 h4 .nil pass0 ha.pa hdb he hpl, callPBF_ok ha.ok⟩
theorem sl_callL (C : PFL X.prog X.w K X.mg X.base k x Ff) (hr : Room j X.A) (ha : SemA X K B (e :: es) ta sa) (hk : k ≤ j := by decide) (hg : Gl X x := by rfl) (hdb : (x == ("__debug__" : Str)) = false := by decide)
    (he : starEach (e :: es) X.env = (false, eval e X.env) :: starEach es X.env := by rfl) (hpl : (backTo pos (starEach es X.env)).any (·.1) = false := by rfl) (hK : X.K = K := by rfl) : SemL X K B (.Call (.Name x p) (e :: es) [] pos) (tCall (spNewL K Ff) [] E0 ta) (eCallL Ff sa) := by
  subst hK
  obtain ⟨f, fd, ps, h1, h2, h3, h4⟩ := C.ex
  exact ⟨pe_call h1 (hr.mono hk) hg h2 h3 h4 .nil pass0 ha.pa hdb he hpl, callL_ok ha.ok⟩
theorem sl_callRL (i : Nat) (C : PFRL X.prog X.w K X.mg X.base k kd x Fr) (hr : Room j X.A) (ha : SemA X K B es ta sa) (hp : PE X (.Name y p2) (tVar i)) (hk : k ≤ j := by decide) (hg : Gl X x := by rfl) (hdb : (x == ("__debug__" : Str)) = false := by decide)
    (he : starEach (.Name y p2 :: es) X.env = (false, eval (.Name y p2) X.env) :: starEach es X.env := by rfl) (hpl : (backTo pos (starEach es X.env)).any (·.1) = false := by rfl) (hK : X.K = K := by rfl) :
    SemL X K B (.Call (.Name x p) (.Name y p2 :: es) [] pos) (tCall (spRL K kd Fr) [] E0 (tCons (tVar i) ta)) (eMethL kd B.bk i Fr sa) := by
  subst hK
  obtain ⟨f, fd, ps, h1, h2, h3, h4⟩ := C.ex
  exact ⟨pe_call h1 (hr.mono hk) hg h2 h3 h4 .nil pass0 (pa_cons hp ha.pa he) hdb he hpl, callRL_ok ha.ok⟩
theorem sl_callRLB (i : Nat) (C : PFRL X.prog X.w K X.mg X.base k kd x Fr) (hr : Room j X.A) (ha : SemCA X K B es ta sa) (hp : PE X (.Name y p2) (tVar i)) (hk : k ≤ j := by decide) (hg : Gl X x := by rfl) (hdb : (x == ("__debug__" : Str)) = false := by decide)
    (he : starEach (.Name y p2 :: es) X.env = (false, eval (.Name y p2) X.env) :: starEach es X.env := by rfl) (hpl : (backTo pos (starEach es X.env)).any (·.1) = false := by rfl) (hK : X.K = K := by rfl) :
    SemL X K B (.Call (.Name x p) (.Name y p2 :: es) [] pos) (tCall (spRL K kd Fr) [] E0 (tCons (tVar i) ta)) (fun ρ => onlyFs (eMethL kd B.bk i Fr sa ρ)) := by
  subst hK
  obtain ⟨f, fd, ps, h1, h2, h3, h4⟩ := C.ex
  exact ⟨pe_call h1 (hr.mono hk) hg h2 h3 h4 .nil pass0 (pa_cons hp ha.pa he) hdb he hpl, callRLB_ok ha.ok⟩
end
/-! ### one own list becomes data -/
theorem StOk.frzI {K : PySem.W.Frag} {B : Bs} {Z : St0} {R : Rg} {F H : Hp} {σ : L2.St} {ρ : Rho} (s : StOk K B Z R F H σ ρ) (j : Nat) {ds : List PyData} (hj : ρ[j]? = some (.own ds)) : ∃ F', Same F F' ∧ StOk K B Z R F' H σ (ρ.set j (.val (.list ds))) := by
  obtain ⟨p, vs, e1, e2, e3, e4, e5, e6⟩ := s.env.own j ds hj
  have hz := s.fr j ds p hj e1
  have jl : j < ρ.length := (List.getElem?_eq_some_iff.mp hj).1
  let F' : Hp := fun a => if a = p then some (.lst vs) else F a
  have sm : Same F F' := fun a o h => by
    show (if a = p then _ else F a) = some o
    by_cases ha : a = p
    · subst ha; rw [e4] at h; cases h
    · rw [if_neg ha]; exact h
  have sb : Same F' H := fun a o h => by
    have h' : (if a = p then some (.lst vs) else F a) = some o := h
    by_cases ha : a = p
    · subst ha; rw [if_pos rfl] at h'; rw [e2, h']
    · rw [if_neg ha] at h'; exact s.env.ex a o h'
  have oth : ∀ (i : Nat) (x : Sl), (ρ.set j (.val (.list ds)))[i]? = some x → (i = j ∧ x = .val (.list ds)) ∨ (i ≠ j ∧ ρ[i]? = some x) := fun i x h => by
    by_cases hi : i = j
    · subst hi
      rw [List.getElem?_set_self jl] at h
      cases h
      exact .inl ⟨rfl, rfl⟩
    · rw [List.getElem?_set_ne (Ne.symm hi)] at h
      exact .inr ⟨hi, h⟩
  refine ⟨F', sm, ⟨s.env.bs.trans sm, s.env.bh, fun a ha => ?_, s.env.bo, sb, s.env.rh, fun i a ha => ?_, s.env.rB, s.env.rr, by simp [s.env.len], fun i d h => ?_, fun i es h => ?_, fun i k es fs q hik h1 h2 h3 h4 => ?_, fun i o h => ?_, fun a0 q o a h h2 => ?_⟩, ⟨s.gr.h, s.gr.al, s.gr.f.trans sm, sb, fun a h1 h2 => ?_⟩, fun i es q h h2 => ?_, s.fo⟩
  · show (if a = p then _ else F a) = none
    by_cases hp : a = p
    · subst hp; exact absurd e6 ha
    · rw [if_neg hp]; exact s.env.bF a ha
  · show (if a = p then _ else F a) = none
    by_cases hp : a = p
    · subst hp; exact absurd (e5 i) ha
    · rw [if_neg hp]; exact s.env.rF i a ha
  · rcases oth i _ h with ⟨rfl, hx⟩ | ⟨hi, hx⟩
    · cases hx
      refine ⟨.ref p, e1, .inl (.lst ?_ (dpa_mono sm ds e3))⟩
      show (if p = p then _ else F p) = some (.lst vs)
      rw [if_pos rfl]
    · obtain ⟨v, h1, h2⟩ := s.env.val i d hx
      exact ⟨v, h1, h2.mono sm⟩
  · rcases oth i _ h with ⟨_, hx⟩ | ⟨hi, hx⟩
    · cases hx
    · obtain ⟨p', ws, h1, h2, h3, h4, h5⟩ := s.env.own i es hx
      refine ⟨p', ws, h1, h2, dpa_mono sm es h3, ?_, h5⟩
      show (if p' = p then _ else F p') = none
      by_cases hp : p' = p
      · subst hp
        exact (s.env.dis i j es ds p' hi hx hj h1 e1).elim
      · rw [if_neg hp]; exact h4
  · rcases oth i _ h1 with ⟨_, hx⟩ | ⟨_, hx⟩
    · cases hx
    · rcases oth k _ h2 with ⟨_, hy⟩ | ⟨_, hy⟩
      · cases hy
      · exact s.env.dis i k es fs q hik hx hy h3 h4
  · rcases oth i _ h with ⟨_, hx⟩ | ⟨_, hx⟩
    · cases hx
    · obtain ⟨a, h1, h2⟩ := s.env.obj i o hx
      exact ⟨a, h1, h2.mono sm (Same.refl (R i))⟩
  · rcases oth 0 _ h with ⟨_, hx⟩ | ⟨_, hx⟩
    · cases hx
    · exact s.env.oa a0 q o a hx h2
  · show (if a = p then _ else F a) = none
    by_cases hp : a = p
    · subst hp; exact absurd hz h2
    · rw [if_neg hp]; exact s.gr.no a h1 h2
  · rcases oth i _ h with ⟨_, hx⟩ | ⟨_, hx⟩
    · cases hx
    · exact s.fr i es q hx h2
def sFrzI (j : Nat) (f : SS) : SS := fun ρ => match ρ[j]? with
  | some (.own ds) => f (ρ.set j (.val (.list ds)))
  | _ => .no
theorem s_frzI {X : Cx} {K : PySem.W.Frag} {B : Bs} {W : XW} {st : Stmt} {t : TS} {f : SS} (j : Nat) (h : SemS X K B W st t f) : SemS X K B W st t (sFrzI j f) := ⟨h.ps, fun Z R F H σ ρ D s hg => by
  unfold sFrzI at hg
  split at hg
  · rename_i ds e
    obtain ⟨F', e1, s'⟩ := s.frzI j e
    exact h.ok Z R F' H σ _ D s' (Goes.mono hg e1)
  · exact hg.elim⟩
@[simp] theorem sFrzI_eq (j : Nat) (f : SS) (ρ : Rho) : sFrzI j f ρ = outL (ownL ρ[j]?) fun ds => f (ρ.set j (.val (.list ds))) := by
  unfold sFrzI
  cases ρ[j]? with
  | none => rfl
  | some x => cases x <;> rfl
@[simp] theorem sRetL_own {i : Nat} {ρ : Rho} {ds : List PyData} (h : ρ[i]? = some (.own ds)) : sRetL i ρ = .ro i ρ := by unfold sRetL; rw [h]
@[simp] theorem onlyF_list (es : List PyData) (h : flatDs es = true) : onlyF (some (.list es)) = some (.list es) := by
  show (if flatL (.list es) = true then _ else _) = _
  rw [if_pos (by exact h)]
@[simp] theorem onlyFs_some (es : List PyData) (h : flatDs es = true) : onlyFs (some es) = some es := by
  show (if flatDs es = true then _ else _) = _
  rw [if_pos h]
theorem lAdd_eq (f1 f2 : SE) (ρ : Rho) : lAdd f1 f2 ρ = ((f1 ρ).bind fun x => (f2 ρ).bind fun y => gAdd x y).bind lisD := by
  unfold lAdd eOp
  cases (f1 ρ).bind fun x => (f2 ρ).bind fun y => gAdd x y with
  | none => rfl
  | some d => cases d <;> rfl
theorem eMethL_eq {S : Type} {kd : Kd S} (bk : Addr → Option ObjSt) (i : Nat) (Fr : S → List PyData → Option (List PyData)) (sa : SA) (ρ : Rho) : eMethL kd bk i Fr sa ρ = (rcv kd bk ρ i).bind fun β => (sa ρ).bind fun ds => Fr β ds := rfl
theorem runL_eq {N : List Str} {n : Nat} {b : SS} {ds es : List PyData} {i : Nat} {ρ : Rho} (h : ds.length = n) (e : b (rho0 N ds) = .ro i ρ) (h0 : ρ[i]? = some (.own es)) : runL N n b ds = some es := by
  unfold runL
  simp only [h, if_true, e, h0]
  rfl
end RT
/-! Functions that hand back a new book. -/
/-! A deal's fields: read, changed. -/
namespace RT
open PySem PySem.Spec PyProof.Rows L2
structure DkT (K : PySem.W.Frag) : Prop where
  cl : Cls K (He.ga K "Deal")
  no : ∀ f, f ∈ flD → NoAttr K (He.ga K "Deal") f
theorem lk_Dl (dL : Addr) (as : List Addr) : (dlFs dL as).lookup ("limits" : Str) = some (.ref dL) := by simp [dlFs, List.lookup]
theorem lk_D {dL : Addr} {as : List Addr} {j : Nat} {f : Str} {p : Addr} (hf : nmD[j]? = some f) (hp : as[j]? = some p) : (dlFs dL as).lookup f = some (.ref p) := by
  have a1 : (("places" : Str) == "limits") = false := by decide +kernel
  have a2 : (("days" : Str) == "limits") = false := by decide +kernel
  have a3 : (("days" : Str) == "places") = false := by decide +kernel
  have a4 : (("able" : Str) == "limits") = false := by decide +kernel
  have a5 : (("able" : Str) == "places") = false := by decide +kernel
  have a6 : (("able" : Str) == "days") = false := by decide +kernel
  have a7 : (("who" : Str) == "limits") = false := by decide +kernel
  have a8 : (("who" : Str) == "places") = false := by decide +kernel
  have a9 : (("who" : Str) == "days") = false := by decide +kernel
  have a10 : (("who" : Str) == "able") = false := by decide +kernel
  match j, as, hf, hp with
  | 0, x :: _, hf, hp => simp [nmD] at hf hp; subst hf; subst hp; simp [dlFs, nmD, List.lookup, a1]
  | 1, _ :: x :: _, hf, hp => simp [nmD] at hf hp; subst hf; subst hp; simp [dlFs, nmD, List.lookup, a2, a3]
  | 2, _ :: _ :: x :: _, hf, hp => simp [nmD] at hf hp; subst hf; subst hp; simp [dlFs, nmD, List.lookup, a4, a5, a6]
  | 3, _ :: _ :: _ :: x :: _, hf, hp => simp [nmD] at hf hp; subst hf; subst hp; simp [dlFs, nmD, List.lookup, a7, a8, a9, a10]
  | j + 4, _, hf, _ => simp [nmD] at hf
/-- self.f, a list of the deal, read for a moment -/
def eFld (bk : Addr → Option ObjSt) (i j : Nat) : SE := fun ρ => (rcv kD bk ρ i).bind fun δ => (δ.ls[j]?).map .list
theorem fld_ok {K : PySem.W.Frag} {B : Bs} (T : DkT K) {i j : Nat} {f : Str} (hf : nmD[j]? = some f) : BOk K B (tFld K (tVar i) f) (eFld B.bk i j) := fun R F H σ ρ d E q Q k => by
  unfold eFld at q
  cases e1 : rcv kD B.bk ρ i with
  | none => rw [e1] at q; cases q
  | some δ =>
    rw [e1, Option.bind_some] at q
    cases e2 : δ.ls[j]? with
    | none => rw [e2] at q; cases q
    | some ds =>
      rw [e2] at q
      cases q
      obtain ⟨a, R', s1, bA, sR, ap, hR⟩ := rcv_ok2 E e1
      obtain ⟨dx, dL, as, h⟩ := (show DealAt K F R' a δ from bA)
      have hj : j < as.length := by rw [h.la]; exact (List.getElem?_eq_some_iff.mp e2).1
      obtain ⟨vs, h1, h2⟩ := h.ls j as[j] ds (List.getElem?_eq_getElem hj) e2
      exact ⟨.ref a, s1, a, _, dx, _, _, rfl, sR _ _ h.ob, T.cl, T.no f (List.mem_cons_of_mem _ (List.mem_of_getElem? hf)), lk_D hf (List.getElem?_eq_getElem hj), k _ H F (Grow.refl E.ex) (.inr ⟨as[j], vs, ds, rfl, rfl, sR _ _ h1, h2⟩)⟩
/-- self.limits[name] -/
def lookN (l : List (Str × Int)) (n : Str) : Option Int := (l.find? fun x => decide (x.1 = n)).map (·.2)
def putN (l : List (Str × Int)) (n : Str) (v : Int) : List (Str × Int) := if (l.any fun x => decide (x.1 = n)) = true then l.map (fun x => if x.1 = n then (x.1, v) else x) else l ++ [(n, v)]
def eLim (bk : Addr → Option ObjSt) (i : Nat) (f : SE) : SE := fun ρ => (rcv kD bk ρ i).bind fun δ => (f ρ).bind fun d => match d with
  | .str n => (lookN δ.limits n).map .int
  | _ => none
theorem lim_val (l : List (Str × Int)) (n : Str) : valV (kvD l) (Sum.inr n) = (lookN l n).map V.int := by
  unfold kvD lookN
  rw [valV_map]
  cases l.find? fun x => decide (x.1 = n) <;> rfl
theorem lim_ok {K : PySem.W.Frag} {B : Bs} (T : DkT K) {i : Nat} {tx : TE} {fx : SE} (hx : EOk K B tx fx) : EOk K B (tDGet (tFld K (tVar i) "limits") tx) (eLim B.bk i fx) := fun R F H σ ρ d E q Q k => by
  unfold eLim at q
  cases e1 : rcv kD B.bk ρ i with
  | none => rw [e1] at q; cases q
  | some δ =>
    rw [e1, Option.bind_some] at q
    cases e2 : fx ρ with
    | none => rw [e2] at q; cases q
    | some x =>
      rw [e2, Option.bind_some] at q
      cases x with
      | str n =>
        cases e3 : lookN δ.limits n with
        | none => simp [e3] at q
        | some v =>
          simp only [e3, Option.map_some, Option.some.injEq] at q
          subst q
          obtain ⟨a, R', s1, bA, sR, ap, hR⟩ := rcv_ok2 E e1
          obtain ⟨dx, dL, as, h⟩ := (show DealAt K F R' a δ from bA)
          refine ⟨.ref a, s1, a, _, dx, _, _, rfl, sR _ _ h.ob, T.cl, T.no _ List.mem_cons_self, lk_Dl dL as, ?_⟩
          refine hx R F H σ ρ _ E e2 _ fun u H2 G2 g2 r2 => ?_
          have hu := r2.s
          subst hu
          refine ⟨dL, .int v, rfl, ?_, k _ H2 G2 g2 (rp_int v)⟩
          have := DGet.k (k := Sum.inr n) (g2.h _ _ (sR _ _ h.cL))
          rw [lim_val, e3] at this
          exact this
      | _ => cases q
section
variable {X : Cx} {K : PySem.W.Frag} {B : Bs} {W : XW} {e e2 : Expr} {tx tv : TE} {fx fv : SE} {pos p2 : Pos} {i : Nat}
theorem sb_fld (T : DkT K) (i j : Nat) {f : Str} (hp : PE X e (tVar i)) (hf : nmD[j]? = some f := by rfl) (hb : attributeBase e f X.env (eval e X.env) = eval e X.env := by rfl) (hK : X.K = K := by rfl) : SemB X K B (.Attribute e f pos) (tFld K (tVar i) f) (eFld B.bk i j) := by
  subst hK
  exact ⟨pe_fld hp hb, fld_ok T hf⟩
theorem se_lim (T : DkT K) (i : Nat) (hu : X.A.units + 1 < cLine) (hx : SemE X K B e2 tx fx) (hp : PE X e (tVar i)) (hs : NoSl e2 := by exact fun _ _ => rfl) (hb : attributeBase e "limits" X.env (eval e X.env) = eval e X.env := by rfl) (hK : X.K = K := by rfl) :
    SemE X K B (.Subscript (.Attribute e "limits" p2) e2 pos) (tDGet (tFld K (tVar i) "limits") tx) (eLim B.bk i fx) := by
  subst hK
  exact ⟨pe_dget hu (pe_fld hp hb) hx.pe hs, lim_ok T hx.ok⟩
end
/-! ### changes -/
def setLs (δ : DealSt) (j : Nat) (ds : List PyData) : DealSt := ⟨δ.limits, δ.ls.set j ds⟩
theorem DealIn.fld {K : PySem.W.Frag} {F R : Hp} {a : Addr} {δ : DealSt} {dx dL : Addr} {as : List Addr} (h : DealIn K F R a δ dx dL as) {j : Nat} {p : Addr} {vs : List V} {es : List PyData} (hp : as[j]? = some p) (hv : DqAll K F vs es) (hj : j < δ.ls.length) : DealIn K F (upd R p (.lst vs)) a (setLs δ j es) dx dL as := by
  obtain ⟨us, hu, _⟩ := h.ls j p _ hp (List.getElem?_eq_getElem hj)
  have n1 : a ≠ p := fun e => by subst e; rw [h.ob] at hu; cases hu
  have n2 : dx ≠ p := fun e => by subst e; rw [h.ow] at hu; cases hu
  have n3 : dL ≠ p := fun e => by subst e; rw [h.cL] at hu; cases hu
  refine ⟨by rw [upd_ne n1]; exact h.ob, by rw [upd_ne n2]; exact h.ow, by rw [upd_ne n3]; exact h.cL, by unfold setLs; simpa using h.la, h.ll, fun j' p' ds h1 h2 => ?_, h.nd⟩
  by_cases e : j' = j
  · subst e
    rw [hp] at h1
    cases h1
    unfold setLs at h2
    rw [List.getElem?_set_self hj] at h2
    cases h2
    exact ⟨vs, upd_same, hv⟩
  · unfold setLs at h2
    rw [List.getElem?_set_ne (Ne.symm e)] at h2
    obtain ⟨ws, q1, q2⟩ := h.ls j' p' ds h1 h2
    refine ⟨ws, ?_, q2⟩
    rw [upd_ne]
    · exact q1
    · intro e2
      subst e2
      have l1 : j' < as.length := (List.getElem?_eq_some_iff.mp h1).1
      exact e ((List.getElem?_inj l1 h.nd).mp (h1.trans hp.symm))
/-- a list of the deal's region changes -/
theorem StOk.fld {K : PySem.W.Frag} {B : Bs} {Z : St0} {R : Rg} {F H : Hp} {σ : L2.St} {ρ : Rho} {i j : Nat} {a : Addr} {δ : DealSt} {dx dL p : Addr} {as : List Addr} {vs : List V} {es : List PyData} (s : StOk K B Z R F H σ ρ) (h0 : ρ[i]? = some (.obj (.deal δ))) (hs : σ[i]? = some (some (.ref a)))
    (h : DealIn K F (R i) a δ dx dL as) (hp : as[j]? = some p) (hj : j < δ.ls.length) (hv : DqAll K F vs es) : StOk K B Z (updR R i (L2.upd (R i) p (.lst vs))) F (L2.upd H p (.lst vs)) σ (ρ.set i (.obj (.deal (setLs δ j es)))) := by
  obtain ⟨us, hu, _⟩ := h.ls j p _ hp (List.getElem?_eq_getElem hj)
  have hRp : R i p ≠ none := by rw [hu]; intro z; cases z
  have hFp : F p = none := s.env.rF i p hRp
  refine s.mut hs ⟨fun x o h1 h2 => ?_, fun x h1 => ?_, Same.refl F, fun x o h1 => ?_, fun x h1 _ => h1⟩ (fun x o h1 => ?_) (fun x h1 => ?_) (fun x h1 => ?_) (fun hi a0 q => by subst hi; exact s.env.oa a0 q _ a h0 hs) ⟨dx, dL, as, h.fld hp hv hj⟩
  · rw [upd_ne (fun e => by subst e; exact hRp h1)]; exact h2
  · by_cases e : x = p
    · subst e; rw [upd_same]; intro z; cases z
    · rw [upd_ne e]; exact h1
  · rw [upd_ne (fun e => by subst e; rw [hFp] at h1; cases h1)]; exact s.env.ex x o h1
  · by_cases e : x = p
    · subst e; rw [upd_same] at h1 ⊢; exact h1
    · rw [upd_ne e] at h1 ⊢; exact s.env.rh i x o h1
  · by_cases e : x = p
    · subst e; exact hFp
    · rw [upd_ne e] at h1; exact s.env.rF i x h1
  · by_cases e : x = p
    · subst e; exact .inl hRp
    · rw [upd_ne e] at h1; exact .inl h1
/-- self.f.append(e) -/
def sFApp (i j : Nat) (f : SE) : SS := fun ρ => match slO kD ρ[i]?, f ρ with
  | some δ, some d => match δ.ls[j]? with
    | some ds => if dataD d = true ∧ ds.length ≤ LIM then .nx (ρ.set i (.obj (.deal (setLs δ j (ds ++ [d]))))) else .no
    | none => .no
  | _, _ => .no
theorem fapp_ok {K : PySem.W.Frag} {B : Bs} {W : XW} (T : DkT K) {te : TE} {f : SE} (i j : Nat) {nm : Str} (hf : nmD[j]? = some nm) (k : EOk K B te f) : SSOk K B W (tDrop (tBM K "list" rAppend (tFld K (tVar i) nm) (tCons te tNil))) (sFApp i j f) := fun Z R F H σ ρ D s hg => by
  unfold sFApp at hg
  split at hg
  · rename_i δ d h1 h2
    split at hg
    · rename_i ds e2
      split at hg
      · rename_i hc
        have h0 := slO_ok h1
        obtain ⟨a, s1, bA⟩ := s.env.obj i _ h0
        obtain ⟨dx, dL, as, h⟩ := (show DealAt K F (R i) a δ from bA)
        have hj : j < δ.ls.length := (List.getElem?_eq_some_iff.mp e2).1
        have hja : j < as.length := by rw [h.la]; exact hj
        obtain ⟨vs, q1, q2⟩ := h.ls j as[j] ds (List.getElem?_eq_getElem hja) e2
        have hH := s.env.rh i _ _ q1
        refine ⟨.ref a, s1, a, _, dx, _, _, rfl, s.env.rh i _ _ h.ob, T.cl, T.no nm (List.mem_cons_of_mem _ (List.mem_of_getElem? hf)), lk_D hf (List.getElem?_eq_getElem hja), .inl ⟨rfl, vs, .inl (.inl hH)⟩, ?_⟩
        refine k _ F H σ ρ d s.env h2 _ fun v H' G g r => ?_
        refine ⟨as[j], vs, v, rfl, rfl, g.h _ _ hH, Nat.lt_of_lt_of_le (show vs.length < LIM + 1 by rw [q2.len]; omega) (by decide), ?_⟩
        obtain ⟨dx', dL', as', h'⟩ := (show DealAt K G (R i) a δ from bA.mono g.f (Same.refl _))
        have s' := s.grow g
        have hd : DealIn K G (R i) a δ dx dL as := ⟨h.ob, h.ow, h.cL, h.la, h.ll, fun j p ds h1 h2 => let ⟨vs, q1, q2⟩ := h.ls j p ds h1 h2; ⟨vs, q1, dpa_mono g.f _ q2⟩, h.nd⟩
        exact hg _ _ _ G (s'.fld h0 s1 hd (List.getElem?_eq_getElem hja) hj ((dpa_mono g.f ds q2).append (.cons (r.dp (by rintro l rfl; cases hc.1)) .nil))) g.f
      · exact hg.elim
    · exact hg.elim
  · exact hg.elim
/-- self.f[x] = e -/
def sFPut (i j : Nat) (ix f : SE) : SS := fun ρ => match slO kD ρ[i]?, f ρ, ix ρ with
  | some δ, some d, some (.int kk) => (match δ.ls[j]? with
    | some ds => (match ixN ds.length kk with
      | some m => if dataD d = true then .nx (ρ.set i (.obj (.deal (setLs δ j (ds.set m d))))) else .no
      | none => .no)
    | none => .no)
  | _, _, _ => .no
theorem fput_ok {K : PySem.W.Frag} {B : Bs} {W : XW} (T : DkT K) {te tix : TE} {f ix : SE} (i j : Nat) {nm : Str} (hf : nmD[j]? = some nm) (k : EOk K B te f) (kx : EOk K B tix ix) : SSOk K B W (tAsg te (gSub (tFld K (tVar i) nm) tix rSetL)) (sFPut i j ix f) := fun Z R F H σ ρ D s hg => by
  unfold sFPut at hg
  split at hg
  · rename_i δ d kk h1 h2 h3
    split at hg
    · rename_i ds e2
      split at hg
      · rename_i m hm
        split at hg
        · rename_i hc
          have h0 := slO_ok h1
          obtain ⟨a, s1, bA⟩ := s.env.obj i _ h0
          obtain ⟨dx, dL, as, h⟩ := (show DealAt K F (R i) a δ from bA)
          have hj : j < δ.ls.length := (List.getElem?_eq_some_iff.mp e2).1
          have hja : j < as.length := by rw [h.la]; exact hj
          obtain ⟨vs, q1, q2⟩ := h.ls j as[j] ds (List.getElem?_eq_getElem hja) e2
          have hH := s.env.rh i _ _ q1
          have hO := s.env.rh i _ _ h.ob
          refine k _ F H σ ρ d s.env h2 _ fun v H' G g r => ⟨.ref a, s1, a, _, dx, _, _, rfl, g.h _ _ hO, T.cl, T.no nm (List.mem_cons_of_mem _ (List.mem_of_getElem? hf)), lk_D hf (List.getElem?_eq_getElem hja), ?_⟩
          refine kx _ G H' σ ρ _ (s.env.grow g) h3 _ fun u H2 G2 g2 r2 => ?_
          refine ⟨as[j], vs, kk, m, rfl, Bp.int (H := G2) (.inl r2), (g.trans g2).h _ _ hH, by rw [q2.len]; exact hm, ?_⟩
          have s' := (s.grow g).grow g2
          have hd : DealIn K G2 (R i) a δ dx dL as := ⟨h.ob, h.ow, h.cL, h.la, h.ll, fun j p ds h1 h2 => let ⟨vs, q1, q2⟩ := h.ls j p ds h1 h2; ⟨vs, q1, dpa_mono (g.f.trans g2.f) _ q2⟩, h.nd⟩
          exact hg _ _ _ G2 (s'.fld h0 s1 hd (List.getElem?_eq_getElem hja) hj ((dpa_mono (g.f.trans g2.f) ds q2).set ((r.mono g2.f).dp (by rintro l rfl; cases hc)) m)) (g.f.trans g2.f)
        · exact hg.elim
      · exact hg.elim
    · exact hg.elim
  · exact hg.elim
/-- self.limits[x] = e -/
theorem kvD_put (l : List (Str × Int)) (n : Str) (v : Int) : putK (kvD l) (Sum.inr n) (.int v) = kvD (putN l n v) := by
  unfold putK putN kvD
  have e : ((l.map fun n => ((Sum.inr n.1 : Key), V.int n.2)).any fun x => decide (x.1 = Sum.inr n)) = (l.any fun x => decide (x.1 = n)) := by
    rw [List.any_map]
    congr 1
    funext x
    simp
  rw [e]
  split
  · rw [List.map_map, List.map_map]
    apply List.map_congr_left
    intro x _
    by_cases h : x.1 = n
    · simp [h]
    · simp [h]
  · rw [List.map_append]; rfl
def sLPut (i : Nat) (ix f : SE) : SS := fun ρ => match slO kD ρ[i]?, f ρ, ix ρ with
  | some δ, some (.int v), some (.str n) => if δ.limits.length ≤ LIM then .nx (ρ.set i (.obj (.deal ⟨putN δ.limits n v, δ.ls⟩))) else .no
  | _, _, _ => .no
theorem lput_ok {K : PySem.W.Frag} {B : Bs} {W : XW} (T : DkT K) {te tix : TE} {f ix : SE} (i : Nat) (k : EOk K B te f) (kx : EOk K B tix ix) : SSOk K B W (sDPut (tFld K (tVar i) "limits") tix te) (sLPut i ix f) := fun Z R F H σ ρ D s hg => by
  unfold sLPut at hg
  split at hg
  · rename_i δ v n h1 h2 h3
    split at hg
    · rename_i hc
      have h0 := slO_ok h1
      obtain ⟨a, s1, bA⟩ := s.env.obj i _ h0
      obtain ⟨dx, dL, as, h⟩ := (show DealAt K F (R i) a δ from bA)
      have hO := s.env.rh i _ _ h.ob
      have hL := s.env.rh i _ _ h.cL
      refine k _ F H σ ρ _ s.env h2 _ fun u H' G g r => ?_
      have hu := Bp.int (H := G) (.inl r)
      subst hu
      refine ⟨.ref a, s1, a, _, dx, _, _, rfl, g.h _ _ hO, T.cl, T.no _ List.mem_cons_self, lk_Dl dL as, ?_⟩
      refine kx _ G H' σ ρ _ (s.env.grow g) h3 _ fun u H2 G2 g2 r2 => ?_
      have hu := r2.s
      subst hu
      refine ⟨dL, _, rfl, DPut.k (k := Sum.inr n) ((g.trans g2).h _ _ hL) (by
        have : (kvD δ.limits).length ≤ LIM := by unfold kvD; rw [List.length_map]; exact hc
        exact Nat.lt_of_le_of_lt this (by decide)), ?_⟩
      rw [kvD_put]
      have s' := (s.grow g).grow g2
      have hRp : R i dL ≠ none := by rw [h.cL]; intro z; cases z
      have hFp : G2 dL = none := s'.env.rF i dL hRp
      have n1 : a ≠ dL := fun e => by have := h.ob; rw [e, h.cL] at this; cases this
      have n2 : dx ≠ dL := fun e => by have := h.ow; rw [e, h.cL] at this; cases this
      refine hg _ _ _ G2 (s'.mut (R' := L2.upd (R i) dL (.dK (kvD (putN δ.limits n v)))) (G' := G2) s1 ⟨fun x o h1 h2 => ?_, fun x h1 => ?_, Same.refl G2, fun x o h1 => ?_, fun x h1 _ => h1⟩ (fun x o h1 => ?_) (fun x h1 => ?_) (fun x h1 => ?_) (fun hi a0 q => by subst hi; exact s.env.oa a0 q _ a h0 s1)
        (show DealAt K G2 _ a ⟨putN δ.limits n v, δ.ls⟩ from ⟨dx, dL, as, by rw [upd_ne n1]; exact h.ob, by rw [upd_ne n2]; exact h.ow, upd_same, h.la, h.ll, fun j p ds h1 h2 => ?_, h.nd⟩)) (g.f.trans g2.f)
      · rw [upd_ne (fun e => by subst e; exact hRp h1)]; exact h2
      · by_cases e : x = dL
        · subst e; rw [upd_same]; intro z; cases z
        · rw [upd_ne e]; exact h1
      · rw [upd_ne (fun e => by subst e; rw [hFp] at h1; cases h1)]; exact s'.env.ex x o h1
      · by_cases e : x = dL
        · subst e; rw [upd_same] at h1 ⊢; exact h1
        · rw [upd_ne e] at h1 ⊢; exact s'.env.rh i x o h1
      · by_cases e : x = dL
        · subst e; exact hFp
        · rw [upd_ne e] at h1; exact s'.env.rF i x h1
      · by_cases e : x = dL
        · subst e; exact .inl hRp
        · rw [upd_ne e] at h1; exact .inl h1
      · obtain ⟨vs, q1, q2⟩ := h.ls j p ds h1 h2
        have n3 : p ≠ dL := fun e => by rw [e, h.cL] at q1; cases q1
        exact ⟨vs, by rw [upd_ne n3]; exact q1, dpa_mono (g.f.trans g2.f) _ q2⟩
    · exact hg.elim
  · exact hg.elim
section
variable {X : Cx} {K : PySem.W.Frag} {B : Bs} {W : XW} {o e e2 value : Expr} {tx tv te : TE} {fx fv f : SE} {pos pos2 apos cpos p2 : Pos} {i j : Nat}
theorem s_fapp (T : DkT K) (i j : Nat) {nm : Str} (ha : SemE X K B e te f) (hp : PS X (.Expr (.Call (.Attribute (.Attribute o nm p2) "append" apos) [e] [] cpos) pos) (tDrop (tBM X.K "list" rAppend (tFld X.K (tVar i) nm) (tCons te tNil)))) (hf : nmD[j]? = some nm := by rfl) (hK : X.K = K := by rfl) :
    SemS X K B W (.Expr (.Call (.Attribute (.Attribute o nm p2) "append" apos) [e] [] cpos) pos) (tDrop (tBM K "list" rAppend (tFld K (tVar i) nm) (tCons te tNil))) (sFApp i j f) := by
  subst hK
  exact ⟨hp, fapp_ok T i j hf ha.ok⟩
theorem s_fput (T : DkT K) (i j : Nat) {nm : Str} (hv : SemE X K B value tv fv) (hx : SemE X K B e2 tx fx) (hp : PS X (.Assign [.Subscript (.Attribute o nm p2) e2 pos2] value pos) (tAsg tv (gSub (tFld X.K (tVar i) nm) tx rSetL))) (hf : nmD[j]? = some nm := by rfl) (hK : X.K = K := by rfl) :
    SemS X K B W (.Assign [.Subscript (.Attribute o nm p2) e2 pos2] value pos) (tAsg tv (gSub (tFld K (tVar i) nm) tx rSetL)) (sFPut i j fx fv) := by
  subst hK
  exact ⟨hp, fput_ok T i j hf hv.ok hx.ok⟩
theorem s_lput (T : DkT K) (i : Nat) (hu : X.A.units + 1 < cLine) (hv : SemE X K B value tv fv) (hx : SemE X K B e2 tx fx) (hp : PE X o (tVar i)) (hs : swapsWith value (some (.Subscript (.Attribute o "limits" p2) e2 pos2)) pos.line X.env = pure false := by rfl) (hb : attributeBase o "limits" X.env (eval o X.env) = eval o X.env := by rfl) (hK : X.K = K := by rfl) :
    SemS X K B W (.Assign [.Subscript (.Attribute o "limits" p2) e2 pos2] value pos) (sDPut (tFld K (tVar i) "limits") tx tv) (sLPut i fx fv) := by
  subst hK
  exact ⟨ps_dput hu (pe_fld hp hb) hx.pe hv.pe hs, lput_ok T i hv.ok hx.ok⟩
end
end RT
/-! Functions that hand back a new book. -/
/-! Objects that change while another is read; a deal made. -/
namespace RT
open PySem PySem.Spec PyProof.Rows L2
/-! ### changed, another one read -/
def sp2 (K : PySem.W.Frag) (Fm : ObjSt → ObjSt → List PyData → RMG ObjSt) : Sp := fun vs H Q E => ∃ (G R R2 : Hp) (a a2 : Addr) (o o2 : ObjSt) (us : List V) (ds : List PyData), vs = .ref a :: .ref a2 :: us ∧ Same G H ∧ Same R H ∧ Same R2 H ∧ Apart R G ∧ Apart R2 G ∧ Apart R R2 ∧ ObjAt K G R a o ∧ ObjAt K G R2 a2 o2 ∧ RpAll K G us ds ∧
  (Fm o2 o ds).goes (fun o' d => ∀ v H' G' R', GrowM ⟨R, H, G⟩ H' G' → Same R' H' → Apart R' G' → (∀ x, R' x ≠ none → R x ≠ none ∨ H x = none) → ObjAt K G' R' a o' → Rp K G' v d → Q v H') (fun c => ∀ H' G', Grow H G H' G' → E (.ref (He.ga K c)) none H')
open Classical in
noncomputable def moOf (N : List Str) (n : Nat) (b : (Addr → Option ObjSt) → SS) : ObjSt → ObjSt → List PyData → RMG ObjSt := fun o2 o ds =>
  if h : ∃ r : ObjSt × PyData, ∀ a, runO N n (b (only a o2)) o (refD a :: ds) = .done r.1 r.2 then .done h.choose.1 h.choose.2 else .no
theorem moOf_ok {N : List Str} {n : Nat} {b : (Addr → Option ObjSt) → SS} {o2 o o' : ObjSt} {ds : List PyData} {d : PyData} (h : moOf N n b o2 o ds = .done o' d) : ∀ a, runO N n (b (only a o2)) o (refD a :: ds) = .done o' d := by
  unfold moOf at h
  split at h
  · rename_i h2
    cases h
    exact h2.choose_spec
  · cases h
theorem moOf_eq {N : List Str} {n : Nat} {b : (Addr → Option ObjSt) → SS} {o2 o o' : ObjSt} {ds : List PyData} {d : PyData} (h : ∀ a, runO N n (b (only a o2)) o (refD a :: ds) = .done o' d) : moOf N n b o2 o ds = .done o' d := by
  unfold moOf
  have h' : ∃ r : ObjSt × PyData, ∀ a, runO N n (b (only a o2)) o (refD a :: ds) = .done r.1 r.2 := ⟨(o', d), h⟩
  rw [dif_pos h']
  have := (h'.choose_spec 0).symm.trans (h 0)
  injection this with e1 e2
  rw [e1, e2]
theorem sp_body2 {K : PySem.W.Frag} {N : List Str} {n : Nat} {b : (Addr → Option ObjSt) → SS} {t : TS} {vs : List V} {H : Hp} {Q : VK} {E : XK} {W : XW} (hN : 0 < N.length)
    (k : ∀ (B : Bs), SSOk K B W t (b B.bk)) (h : sp2 K (moOf N n b) vs H Q E) : t { nx := fun _ H' => Q .non H', rt := Q } (start N vs) H := by
  obtain ⟨G, R, R2, a, a2, o, o2, us, ds, rfl, e, eR, eR2, ap, ap2, apR, bA, bA2, r, q⟩ := h
  cases e3 : moOf N n b o2 o ds with
  | no => rw [e3] at q; exact (show False from q).elim
  | exc c =>
    unfold moOf at e3
    split at e3 <;> cases e3
  | done o' d =>
    rw [e3] at q
    have hf := moOf_ok e3 a2
    have hB : BsOk K ⟨R2, G, only a2 o2, none⟩ G H := ⟨Same.refl G, eR2, ap2, only_ok bA2⟩
    refine sp_bodyO (n := n) (b := b (only a2 o2)) (C := fun _ => True) hN hB apR e eR ap bA (.cons (.inr (.inl ⟨a2, rfl, rfl⟩)) r) (k { (⟨R2, G, only a2 o2, none⟩ : Bs) with o := some a }) ?_
    rw [hf]
    exact q
theorem sp2_len {K : PySem.W.Frag} {N : List Str} {n : Nat} {b : (Addr → Option ObjSt) → SS} {vs : List V} {H : Hp} {Q : VK} {E : XK} (h : sp2 K (moOf N n b) vs H Q E) : vs.length = n := by
  obtain ⟨G, R, R2, a, a2, o, o2, us, ds, rfl, e, eR, eR2, ap, ap2, apR, bA, bA2, r, q⟩ := h
  cases e3 : moOf N n b o2 o ds with
  | no => rw [e3] at q; exact (show False from q).elim
  | exc c =>
    unfold moOf at e3
    split at e3 <;> cases e3
  | done o' d =>
    have hf := moOf_ok e3 a2
    unfold runO at hf
    split at hf
    · rename_i hl
      rw [List.length_cons, List.length_cons, r.len]
      simpa using hl
    · cases hf
theorem sp_run2 {X : Cx} {K : PySem.W.Frag} {N : List Str} {n : Nat} {st : List Stmt} {b : (Addr → Option ObjSt) → SS} {t : TS} {vs : List V} {H : Hp} {Q : VK} {E : XK} (hN : 0 < N.length)
    (k : ∀ B : Bs, SemSs X.nox K B W0 st t (b B.bk)) (h : sp2 K (moOf N n b) vs H Q E) : ∃ t, PSs X st t ∧ t { nx := fun _ H' => Q .non H', rt := Q } (start N vs) H :=
  ⟨t, (k noB).ps.nox, sp_body2 hN (fun B => (k B).ok) h⟩
/-- a method that changes its object, its first argument an object that is read -/
structure Meth2 (P : Program) (w : World) (K : PySem.W.Frag) (mg : Str → Option Value) (base : Heap) (k : Nat) (C : Str) (m : Str) (Fm : ObjSt → ObjSt → List PyData → RMG ObjSt) : Prop where
  ex : ∃ (f : Addr) (fd : FuncData) (ps : List Str), FnOk P w K mg base (L2.CX P w) k f fd ps (sp2 K Fm) ∧ Meth K (He.ga K C) m f ∧ Binds K fd ps []
  cl : Cls K (He.ga K C)
def sMut2 {S : Type} (kd : Kd S) (i j : Nat) (Fm : ObjSt → ObjSt → List PyData → RMG ObjSt) (sa : SA) : SS := fun ρ => match slO kd ρ[i]?, slO kA ρ[j]?, sa ρ with
  | some s, some o2, some ds => (match Fm o2 (kd.inj s) ds with
    | .done o' _ => .nx (ρ.set i (.obj o'))
    | _ => .no)
  | _, _, _ => .no
theorem mut2_ok {S : Type} {kd : Kd S} {C : Str} {fl : List Str} {m : Str} {K : PySem.W.Frag} {B : Bs} {ta : TA} {sa : SA} {i j : Nat} {Fm : ObjSt → ObjSt → List PyData → RMG ObjSt} (kc : KdC kd C fl) (hn : noFl fl m) (hij : i ≠ j) (ha : AOk K B ta sa) :
    SSOk K B W0 (tDrop (tMeth (He.ga K C) m (sp2 K Fm) [] E0 (tVar i) (tCons (tVar j) ta))) (sMut2 kd i j Fm sa) := fun Z R F H σ ρ D s hg => by
  unfold sMut2 at hg
  split at hg
  · rename_i β o2 ds h1 h2 h3
    have h0 := slO_ok h1
    have h0' := slO_ok h2
    obtain ⟨a, s1, bA⟩ := s.env.obj i _ h0
    obtain ⟨a2, s2, bA2⟩ := s.env.obj j _ h0'
    obtain ⟨dx, fs, ho, hf⟩ := kc.ins bA
    refine ⟨.ref a, s1, a, dx, fs, rfl, s.env.rh i _ _ ho, lookup_no (noFl_sub hf hn), ?_⟩
    refine ⟨.ref a2, s2, ha _ F H σ ρ ds s.env h3 _ fun vs H1 G1 g1 r1 => ?_⟩
    show sp2 K Fm (.ref a :: ((.ref a2 :: vs) ++ [])) H1 _ E0
    rw [List.append_nil]
    have s' := s.grow g1
    cases e3 : Fm o2 (kd.inj β) ds with
    | no => simp only [e3] at hg; exact hg.elim
    | exc c => simp only [e3] at hg; exact hg.elim
    | done o' d =>
      simp only [e3] at hg
      refine ⟨G1, R i, R j, a, a2, kd.inj β, o2, vs, ds, rfl, g1.sub, s'.env.rh i, s'.env.rh j, s'.env.rF i, s'.env.rF j, s'.env.rr i j hij, bA.mono g1.f (Same.refl _), bA2.mono g1.f (Same.refl _), r1, ?_⟩
      rw [e3]
      exact fun v H' G' R' g rh rF rn bA' r => hg σ H' _ G' (s'.mut s1 g rh rF rn (fun hi a0 q => by subst hi; exact s.env.oa a0 q _ a h0 s1) bA') (g1.f.trans g.f)
  · exact hg.elim
/-! ### a deal from nothing -/
theorem putF_deal {dL p : Addr} : ∀ {as : List Addr} {f : Str}, as.length < 4 → nmD[as.length]? = some f → putF f (.ref p) (dlFs dL as) = dlFs dL (as ++ [p]) := by
  have a1 : ¬ (("limits" : Str) = "places") := by decide +kernel
  have a2 : ¬ (("limits" : Str) = "days") := by decide +kernel
  have a3 : ¬ (("places" : Str) = "days") := by decide +kernel
  have a4 : ¬ (("limits" : Str) = "able") := by decide +kernel
  have a5 : ¬ (("places" : Str) = "able") := by decide +kernel
  have a6 : ¬ (("days" : Str) = "able") := by decide +kernel
  have a7 : ¬ (("limits" : Str) = "who") := by decide +kernel
  have a8 : ¬ (("places" : Str) = "who") := by decide +kernel
  have a9 : ¬ (("days" : Str) = "who") := by decide +kernel
  have a10 : ¬ (("able" : Str) = "who") := by decide +kernel
  intro as f hl hf
  match as, hl, hf with
  | [], _, hf => simp [nmD] at hf; subst hf; simp [putF, dlFs, nmD, a1]
  | [_], _, hf => simp [nmD] at hf; subst hf; simp [putF, dlFs, nmD, a2, a3]
  | [_, _], _, hf => simp [nmD] at hf; subst hf; simp [putF, dlFs, nmD, a4, a5, a6]
  | [_, _, _], _, hf => simp [nmD] at hf; subst hf; simp [putF, dlFs, nmD, a7, a8, a9, a10]
/-- an object of the region written anew, beside a new one -/
theorem StOk.mutN {K : PySem.W.Frag} {B : Bs} {Z : St0} {R : Rg} {F H : Hp} {σ : L2.St} {ρ : Rho} {i : Nat} {a p : Addr} {o o' : ObjSt} {u w : HO} (s : StOk K B Z R F H σ ρ) (h0 : ρ[i]? = some (.obj o)) (hs : σ[i]? = some (some (.ref a))) (hp : H p = none) (ha : R i a ≠ none)
    (bA : ObjAt K F (L2.upd (L2.upd (R i) p u) a w) a o') : StOk K B Z (updR R i (L2.upd (L2.upd (R i) p u) a w)) F (L2.upd (L2.upd H p u) a w) σ (ρ.set i (.obj o')) := by
  have hFa : F a = none := s.env.rF i a ha
  have hFp : F p = none := by
    cases e : F p with
    | none => rfl
    | some x => have := s.env.ex p x e; rw [hp] at this; cases this
  refine s.mut hs ⟨fun x y h1 h2 => ?_, fun x h1 => ?_, Same.refl F, fun x y h1 => ?_, fun x h1 _ => h1⟩ (fun x y h1 => ?_) (fun x h1 => ?_) (fun x h1 => ?_) (fun hi a0 q => by subst hi; exact s.env.oa a0 q _ a h0 hs) bA
  · rw [upd_ne (fun e => by subst e; exact ha h1), upd_ne (fun e => by subst e; have h2' : H x = some y := h2; rw [hp] at h2'; cases h2')]
    exact h2
  · by_cases e : x = a
    · subst e; rw [upd_same]; intro z; cases z
    · rw [upd_ne e]
      by_cases e2 : x = p
      · subst e2; rw [upd_same]; intro z; cases z
      · rw [upd_ne e2]; exact h1
  · rw [upd_ne (fun e => by subst e; rw [hFa] at h1; cases h1), upd_ne (fun e => by subst e; rw [hFp] at h1; cases h1)]
    exact s.env.ex x y h1
  · by_cases e : x = a
    · subst e; rw [upd_same] at h1 ⊢; exact h1
    · rw [upd_ne e] at h1 ⊢
      by_cases e2 : x = p
      · subst e2; rw [upd_same] at h1 ⊢; exact h1
      · rw [upd_ne e2] at h1 ⊢; exact s.env.rh i x y h1
  · by_cases e : x = a
    · subst e; exact hFa
    · rw [upd_ne e] at h1
      by_cases e2 : x = p
      · subst e2; exact hFp
      · rw [upd_ne e2] at h1; exact s.env.rF i x h1
  · by_cases e : x = a
    · subst e; exact .inl ha
    · rw [upd_ne e] at h1
      by_cases e2 : x = p
      · subst e2; exact .inr hp
      · rw [upd_ne e2] at h1; exact .inl h1
/-- self.limits = {} -/
def sDInitL (i : Nat) : SS := fun ρ => match ρ[i]? with
  | some (.obj (.raw C)) => if C = "Deal" then .nx (ρ.set i (.obj (.deal ⟨[], []⟩))) else .no
  | _ => .no
theorem dInitL_ok {K : PySem.W.Frag} {B : Bs} {W : XW} (T : DkT K) (i : Nat) : SSOk K B W (sFld K (tVar i) tDNewK "limits") (sDInitL i) := fun Z R F H σ ρ D s hg => by
  unfold sDInitL at hg
  split at hg
  · rename_i C h0
    split at hg
    · rename_i hC
      subst hC
      obtain ⟨a, s1, dx, b1, b2⟩ := s.env.obj i _ h0
      intro p hp
      have hH := s.env.rh i _ _ b1
      have nap : a ≠ p := fun e => by rw [e, hp] at hH; cases hH
      have ndp : dx ≠ p := fun e => by have := s.env.rh i _ _ b2; rw [e, hp] at this; cases this
      have nad : dx ≠ a := fun e => by rw [e, b1] at b2; cases b2
      refine ⟨.ref a, s1, a, _, dx, [], rfl, by rw [upd_ne nap]; exact hH, T.cl, T.no _ List.mem_cons_self, by decide, ?_⟩
      refine hg σ _ _ F (s.mutN (o' := .deal ⟨[], []⟩) h0 s1 hp (by rw [b1]; intro z; cases z) (show DealAt K F _ a ⟨[], []⟩ from ⟨dx, p, [], upd_same, ?_, ?_, rfl, by decide, fun j q ds h1 h2 => by simp at h1, List.nodup_nil⟩)) (Same.refl F)
      · rw [upd_ne nad, upd_ne ndp]; exact b2
      · rw [upd_ne (Ne.symm nap), upd_same]; rfl
    · exact hg.elim
  · exact hg.elim
/-- self.f = [], the next one -/
def sDInitF (i j : Nat) : SS := fun ρ => match slO kD ρ[i]? with
  | some δ => if δ.ls.length = j then .nx (ρ.set i (.obj (.deal ⟨δ.limits, δ.ls ++ [[]]⟩))) else .no
  | none => .no
theorem dInitF_ok {K : PySem.W.Frag} {B : Bs} {W : XW} (T : DkT K) (i j : Nat) {f : Str} (hf : nmD[j]? = some f) : SSOk K B W (sFld K (tVar i) (tLst tNil) f) (sDInitF i j) := fun Z R F H σ ρ D s hg => by
  unfold sDInitF at hg
  split at hg
  · rename_i δ h1
    split at hg
    · rename_i hC
      have h0 := slO_ok h1
      obtain ⟨a, s1, bA⟩ := s.env.obj i _ h0
      obtain ⟨dx, dL, as, h⟩ := (show DealAt K F (R i) a δ from bA)
      have hj4 : j < 4 := (List.getElem?_eq_some_iff.mp hf).1
      have hla : as.length = j := h.la.trans hC
      refine ⟨by decide, fun p hp => ?_⟩
      have hH := s.env.rh i _ _ h.ob
      have old : ∀ x u, R i x = some u → x ≠ p := fun x u hx e => by have := s.env.rh i _ _ hx; rw [e, hp] at this; cases this
      have nap := old _ _ h.ob
      have ndp := old _ _ h.ow
      have nLp := old _ _ h.cL
      have nda : dx ≠ a := fun e => by have := h.ow; rw [e, h.ob] at this; cases this
      have nLa : dL ≠ a := fun e => by have := h.cL; rw [e, h.ob] at this; cases this
      have lf : (dlFs dL as).length < 1000 := by
        unfold dlFs
        simp only [List.length_cons, List.length_zip, nmD, List.length_map, List.length_nil]
        omega
      refine ⟨.ref a, s1, a, _, dx, dlFs dL as, rfl, by rw [upd_ne nap]; exact hH, T.cl, T.no _ (List.mem_cons_of_mem _ (List.mem_of_getElem? hf)), lf, ?_⟩
      rw [putF_deal (by omega) (by rw [hla]; exact hf)]
      have asp : p ∉ as := fun hm => by
        obtain ⟨k, hk, e⟩ := List.getElem_of_mem hm
        have hk' : k < δ.ls.length := by rw [← h.la]; exact hk
        obtain ⟨vs, q1, _⟩ := h.ls k p _ (by rw [List.getElem?_eq_getElem hk, e]) (List.getElem?_eq_getElem hk')
        exact old _ _ q1 rfl
      refine hg σ _ _ F (s.mutN (o' := .deal ⟨δ.limits, δ.ls ++ [[]]⟩) h0 s1 hp (by rw [h.ob]; intro z; cases z) (show DealAt K F _ a ⟨δ.limits, δ.ls ++ [[]]⟩ from ⟨dx, dL, as ++ [p], upd_same, ?_, ?_, by simp [h.la], by simp; omega, fun k q ds h2 h3 => ?_, ?_⟩)) (Same.refl F)
      · rw [upd_ne nda, upd_ne ndp]; exact h.ow
      · rw [upd_ne nLa, upd_ne nLp]; exact h.cL
      · by_cases hk : k < as.length
        · rw [List.getElem?_append_left hk] at h2
          rw [List.getElem?_append_left (by rw [← h.la]; exact hk)] at h3
          obtain ⟨vs, q1, q2⟩ := h.ls k q ds h2 h3
          have nq : q ≠ a := fun e => by rw [e, h.ob] at q1; cases q1
          exact ⟨vs, by rw [upd_ne nq, upd_ne (old _ _ q1)]; exact q1, q2⟩
        · have l2 := (List.getElem?_eq_some_iff.mp h2).1
          have hk2 : k = as.length := by simp at l2; omega
          subst hk2
          rw [List.getElem?_append_right (Nat.le_refl _)] at h2
          rw [h.la, List.getElem?_append_right (Nat.le_refl _)] at h3
          simp at h2 h3
          subst h2
          subst h3
          exact ⟨[], by rw [upd_ne (Ne.symm nap), upd_same], .nil⟩
      · rw [List.nodup_append]
        refine ⟨h.nd, by simp, fun x hx y hy e => ?_⟩
        rw [List.mem_singleton] at hy
        subst hy
        subst e
        exact asp hx
    · exact hg.elim
  · exact hg.elim
end RT
/-! Functions that hand back a new book. -/
/-! sorted(d) of any length; words for a deal's methods. -/
namespace L2
open PySem PySem.Spec PyProof.Rows
section
variable {X : Cx}
/-- sorted(d), the keys whole numbers -/
theorem sortedDI_any (hcalm : X.calm = true) : CallR X (.builtin "sorted") (fun xs H Q => ∃ (a : Addr) (kvs : List (Key × V)) (ks : List Int), xs = [.ref a] ∧ Rd H a (.dK kvs) ∧ kvs.map (·.1) = ks.map Sum.inl ∧ ks.length ≤ sizeLine ∧
    ∀ (ys : List Int) (p : Addr), ys.Perm ks → ys.Pairwise (· ≤ ·) → H p = none → Q (.ref p) (upd H p (.lst (ys.map V.int)))) := by
  rintro pins s σ H xs us Q I r ⟨a, kvs, ks, rfl, hd, hks, hz, q⟩
  obtain ⟨u, rfl, rx⟩ := vals1 r
  cases rx
  obtain ⟨z, lo, vs, rel, dd⟩ := dk_rd I.hok hd
  obtain ⟨ep, hat⟩ := dd.dictAt
  have hk : vs.map (·.1) = ks.map Sum.inl := rel.keys.symm.trans hks
  have hn : vs.length = ks.length := by simpa using congrArg List.length hk
  refine Calls.call_function_entry PyProof.Rows.kind_sorted PyProof.Rows.plain_sorted PyProof.Rows.entry_sorted (PyProof.Rows.args_sorted1 _) ?_
  unfold Builtin.«sorted»
  refine wpAny_bind (m := checkCount "sorted" 1 1 _) (wpAny_pure ?_)
  refine wpAny_bind (PySem.W.kdu_collect (A := X.A.in1) (PySem.W.kdl_dict (knd := mixKind X.prog X.w) (kvs := vs) (ep := ep) lo) (I.ok.hd hcalm) hat (by rw [hn]; exact hz) fun h' tk acc hkeep hacc => ?_)
  have la : acc.toList.length = ks.length := by rw [Array.length_toList, hacc.1, hn]
  have hint : IntsAre acc.toList ks := ints_each la fun j v e => by
    obtain ⟨k, x, e1, e2⟩ := hacc.2 j v (by rw [← Array.getElem?_toList]; exact e)
    have e3 : (ks.map Sum.inl)[j]? = some k := by rw [← hk, List.getElem?_map, e1]; rfl
    rw [List.getElem?_map] at e3
    obtain ⟨y, e4, rfl⟩ := Option.map_eq_some_iff.mp e3
    rcases keyIs_shape (show keyIs (Sum.inl y) v = true from e2) with ⟨i, t, ek, ev⟩ | ⟨_, _, ek, _⟩
    · cases ek
      exact ⟨y, t, e4, ev⟩
    · cases ek
  have I1 : Inv X pins σ H { s with heap := h', toks := tk } := I.kept hkeep
  refine wpAny_bind (wpAny_newList ?_ (by rw [la]; exact hz))
  have ho : (h'.push (seqObj "list" acc.toList.toArray 0)).get? h'.objs.size = some (seqObj "list" acc.toList.toArray 0) := Heap.get?_push_size _ rfl
  show wpAny _ _ _ _ _ { s with heap := h'.push (seqObj "list" acc.toList.toArray 0), toks := tk }
  refine wpAny_bind (wpAny_holding (wpAny_call_entry PyProof.Rows.slot_list_sort ⟨_, ho, rfl⟩ PyProof.Rows.entry_list_sort
    (SrtO.list_sort_ord (s := { s with heap := h'.push (seqObj "list" acc.toList.toArray 0), toks := tk }) SrtO.swo_int ho (by rw [la]; exact hz) (fun h2 => SrtO.ints_sortable hint h2) fun out h1 h2 => ⟨_, rfl, ?_⟩) (PyProof.Rows.args_list_sort _)))
  obtain ⟨k1, k2, k3⟩ := SrtO.ints_out hint h1 h2
  obtain ⟨e', he'⟩ := PyProof.Rows.sortedHeap_at (vs := acc.toList) (out := out.toArray) ho
  have hl : ((out.map SrtO.iv).map V.int).length ≤ sizeLine := by
    rw [List.length_map, k2.length_eq]
    exact hz
  refine wpAny_pure ⟨_, rfl, .ref h'.objs.size, upd H h'.objs.size (.lst ((out.map SrtO.iv).map V.int)), I1.laid (t' := tk) (fun b u e => ?_) (Nat.le_refl _)
    (show ObjOk X.prog X.w _ _ _ (.lst ((out.map SrtO.iv).map V.int)) from ⟨hl, out, e', vals_of_ints k1, he'⟩), rfl, q _ _ k2 k3 (I1.hok.fresh (Nat.le_refl _))⟩
  have hb : b < h'.objs.size := Heap.lt_size e
  rw [PyProof.Rows.sortedHeap_old (Nat.ne_of_lt hb) (by rw [size_push']; exact Nat.lt_succ_of_lt hb)]
  exact Heap.get?_push_of_some _ e
end
end L2
namespace RT
open PySem PySem.Spec PyProof.Rows L2
def sortI (l : List Int) : List Int := l.mergeSort fun a b => decide (a ≤ b)
theorem sortI_perm (l : List Int) : (sortI l).Perm l := List.mergeSort_perm l _
theorem sortI_le (l : List Int) : (sortI l).Pairwise (· ≤ ·) := by
  have := List.pairwise_mergeSort (le := fun (a b : Int) => decide (a ≤ b)) (fun a b c h1 h2 => by simp at *; omega) (fun a b => by simp; omega) l
  exact this.imp fun h => by simpa using h
theorem sortI_uniq {l ys : List Int} (h1 : ys.Perm l) (h2 : ys.Pairwise (· ≤ ·)) : ys = sortI l :=
  List.Perm.eq_of_pairwise (fun a b _ _ h h' => Int.le_antisymm h h') h2 (sortI_le l) (h1.trans (sortI_perm l).symm)
theorem sortI_mem {l : List Int} {x : Int} : x ∈ sortI l ↔ x ∈ l := (sortI_perm l).mem_iff
theorem sortI_len (l : List Int) : (sortI l).length = l.length := (sortI_perm l).length_eq
end RT
namespace RT
open PySem PySem.Spec PyProof.Rows L2
def rSortD : List V → Hp → VK → Prop := fun xs H Q => ∃ (a : Addr) (kvs : List (Key × V)) (ks : List Int), xs = [.ref a] ∧ Rd H a (.dK kvs) ∧ kvs.map (·.1) = ks.map Sum.inl ∧ ks.length ≤ sizeLine ∧
    ∀ (ys : List Int) (p : Addr), ys.Perm ks → ys.Pairwise (· ≤ ·) → H p = none → Q (.ref p) (upd H p (.lst (ys.map V.int)))
/-- sorted(d) -/
def eSortD (bk : Addr → Option ObjSt) (i : Nat) : SA := fun ρ => (rcv kT bk ρ i).bind fun l => if l.length ≤ LIM then some ((sortI (l.map (·.1))).map .int) else none
theorem sortD_ok {K : PySem.W.Frag} {B : Bs} (i : Nat) : LOk K B (tCB rSortD (tCons (tVar i) tNil)) (eSortD B.bk i) := fun R F H σ ρ ds E q Q k => by
  unfold eSortD at q
  cases ho : rcv kT B.bk ρ i with
  | none => rw [ho] at q; cases q
  | some l =>
    rw [ho, Option.bind_some] at q
    split at q
    · rename_i hl
      cases q
      obtain ⟨a, R', h1, ⟨kv, ha, hA⟩, sR, ap⟩ := rcv_ok E ho
      refine ⟨.ref a, h1, a, kvI kv, l.map (·.1), rfl, .inl (sR _ _ ha), ?_, by rw [List.length_map]; exact lim_line hl, fun ys p hp hs hH => ?_⟩
      · rw [← hA.keys]
        unfold kvI
        rw [List.map_map, List.map_map]
        rfl
      · rw [sortI_uniq hp hs]
        exact k p _ _ F ((Grow.refl E.ex).beside hH) hH (E.ex.free hH) upd_same (dpa_ints _)
    · cases q
section
variable {S : Type} {kd : Kd S} {X : Cx} {K : PySem.W.Frag} {B : Bs} {W : XW} {o e value : Expr} {es : List Expr} {ta : TA} {sa : SA} {x y f C m : Str} {p p2 ap pos pos2 : Pos} {i j k l : Nat} {Fm : ObjSt → ObjSt → List PyData → RMG ObjSt}
theorem sl_sortedD (i : Nat) {y : Str} {p2 : Pos} (hm : X.mg "sorted" = none) (hp : PE X (.Name y p2) (tVar i)) (hc : X.calm = true := by rfl) (hg : Gl X "sorted" := by rfl) (he : starEach [Expr.Name y p2] X.env = [(false, eval (.Name y p2) X.env)] := by rfl) (hpl : (backTo pos (starEach [] X.env)).any (·.1) = false := by rfl) :
    SemL X K B (.Call (.Name "sorted" p) [.Name y p2] [] pos) (tCB rSortD (tCons (tVar i) tNil)) (eSortD B.bk i) :=
  ⟨pe_callB (sortedDI_any hc) hg hm (by decide +kernel) (pa_cons hp pa_nil he) (by decide) (by decide) he hpl, sortD_ok i⟩
theorem s_mut2 (i j : Nat) {pl : Sem Bool} {fl : List Str} (M : Meth2 X.prog X.w K X.mg X.base k C m Fm) (kc : KdC kd C fl) (hn : noFl fl m) (hij : i ≠ j) (hr : Room l X.A) (ha : SemA X K B es ta sa) (hp : PE X (.Name x p) (tVar i)) (hq : PE X (.Name y p2) (tVar j)) (hk : k ≤ l := by decide)
    (hst : starEach (.Name y p2 :: es) X.env = (false, eval (.Name y p2) X.env) :: starEach es X.env := by rfl) (hpl : (backTo pos (starEach es X.env)).any (·.1) = false := by rfl)
    (ht : eval (.Call (.Attribute (.Name x p) m ap) (.Name y p2 :: es) [] pos) X.env = (do
      let ov ← eval (.Name x p) X.env
      standAt ap.atName
      let (f, first) ← holding [ov] (getMethod ov m pl)
      callWith pos f first (backTo pos (starEach (.Name y p2 :: es) X.env)) (backToKw pos (keywordEach [] X.env))) := by rfl)
    (hs : swapsWith (.Call (.Attribute (.Name x p) m ap) (.Name y p2 :: es) [] pos) none pos2.line X.env = pure false := by rfl) (hK : X.K = K := by rfl) :
    SemS X K B W0 (.Expr (.Call (.Attribute (.Name x p) m ap) (.Name y p2 :: es) [] pos) pos2) (tDrop (tMeth (He.ga K C) m (sp2 K Fm) [] E0 (tVar i) (tCons (tVar j) ta))) (sMut2 kd i j Fm sa) := by
  subst hK
  obtain ⟨f, fd, ps, G, me, b⟩ := M.ex
  exact ⟨ps_expr (pe_meth hp M.cl me G (hr.mono hk) b .nil passL (pa_cons hq ha.pa hst) hst hpl ht) hs, mut2_ok kc hn hij ha.ok⟩
theorem s_dInitL (T : DkT K) (i : Nat) (hp : PE X o (tVar i)) (hs : swapsWith (.Dict [] [] p2) (some (.Attribute o "limits" ap)) pos.line X.env = pure false := by rfl) (hK : X.K = K := by rfl) :
    SemS X K B W (.Assign [.Attribute o "limits" ap] (.Dict [] [] p2) pos) (sFld K (tVar i) tDNewK "limits") (sDInitL i) := by
  subst hK
  exact ⟨ps_fld hp pe_dnewK hs, dInitL_ok T i⟩
theorem s_dInitF (T : DkT K) (i j : Nat) (hp : PE X o (tVar i)) (hf : nmD[j]? = some f := by rfl) (hs : swapsWith (.List [] p2) (some (.Attribute o f ap)) pos.line X.env = pure false := by rfl) (hK : X.K = K := by rfl) :
    SemS X K B W (.Assign [.Attribute o f ap] (.List [] p2) pos) (sFld K (tVar i) (tLst tNil) f) (sDInitF i j) := by
  subst hK
  exact ⟨ps_fld hp (pe_lst pa_nil) hs, dInitF_ok T i j hf⟩
end
end RT
namespace RT
open PySem PySem.Spec PyProof.Rows L2
/-- y = Deal(book) -/
def sMkD (bk : Addr → Option ObjSt) (i j : Nat) (Fm : ObjSt → ObjSt → List PyData → RMG ObjSt) : SS := fun ρ => match rcv kB bk ρ j with
  | some β => (match Fm (.book β) (.raw "Deal") [] with
    | .done o' .none => .nx (ρ.set i (.obj o'))
    | _ => .no)
  | none => .no
theorem mkD_ok {K : PySem.W.Frag} {B : Bs} {W : XW} (i j : Nat) {Fm : ObjSt → ObjSt → List PyData → RMG ObjSt} (hB : i = 0 → B.o = none) : SSOk K B W (tAsg (tMake (He.ga K "Deal") (sp2 K Fm) [] E0 (tCons (tVar j) tNil)) (gName i)) (sMkD B.bk i j Fm) := fun Z R F H σ ρ D s hg => by
  unfold sMkD at hg
  cases e1 : rcv kB B.bk ρ j with
  | none => rw [e1] at hg; exact hg.elim
  | some β =>
    rw [e1] at hg
    cases e3 : Fm (.book β) (.raw "Deal") [] with
    | no => simp only [e3] at hg; exact hg.elim
    | exc c => simp only [e3] at hg; exact hg.elim
    | done o' d =>
      cases d with
      | none =>
        simp only [e3] at hg
        obtain ⟨a2, R2, s1, bA2, sR2, ap2, _⟩ := rcv_ok2 s.env e1
        refine ⟨.ref a2, s1, fun x dx hx hdx hne => ?_⟩
        have nx : ∀ b o, H b = some o → (L2.upd (L2.upd H dx (.own x)) x (.ins (He.ga K "Deal") dx [])) b = some o := fun b o e => by
          rw [upd_ne (ne_of_none e hx), upd_ne (ne_of_none e hdx)]; exact e
        show sp2 K Fm (.ref x :: ([.ref a2] ++ [])) _ _ _
        let R1 : Hp := L2.upd (L2.upd (fun _ => none) dx (.own x)) x (.ins (He.ga K "Deal") dx [])
        have r1 : ∀ b o, R1 b = some o → (b = x ∨ b = dx) := fun b o e => by
          have e' : (L2.upd (L2.upd (fun _ => none) dx (.own x)) x (.ins (He.ga K "Deal") dx []) : Hp) b = some o := e
          by_cases q1 : b = x
          · exact .inl q1
          · rw [upd_ne q1] at e'
            by_cases q2 : b = dx
            · exact .inr q2
            · rw [upd_ne q2] at e'; cases e'
        have r0 : ∀ b, H b ≠ none → R1 b = none := fun b hb => by
          cases e : R1 b with
          | none => rfl
          | some o =>
            rcases r1 b o e with rfl | rfl
            · exact absurd hx hb
            · exact absurd hdx hb
        have fr : ∀ b, R1 b ≠ none → H b = none := fun b hb => by
          cases e : R1 b with
          | none => exact absurd e hb
          | some o =>
            rcases r1 b o e with rfl | rfl
            · exact hx
            · exact hdx
        refine ⟨F, R1, R2, x, a2, .raw "Deal", .book β, [], [], rfl, fun b o e => nx b o (s.env.ex b o e), fun b o e => ?_, fun b o e => nx b o (sR2 b o e), fun b hb => s.env.ex.free (fr b hb), ap2, fun b hb => sR2.free (fr b hb), ⟨dx, upd_same, ?_⟩, bA2, .nil, ?_⟩
        · have e' : (L2.upd (L2.upd (fun _ => none) dx (.own x)) x (.ins (He.ga K "Deal") dx []) : Hp) b = some o := e
          by_cases q1 : b = x
          · subst q1; rw [upd_same] at e' ⊢; exact e'
          · rw [upd_ne q1] at e' ⊢
            by_cases q2 : b = dx
            · subst q2; rw [upd_same] at e' ⊢; exact e'
            · rw [upd_ne q2] at e'; cases e'
        · show (L2.upd (L2.upd (fun _ => none) dx (.own x)) x (.ins (He.ga K "Deal") dx []) : Hp) dx = _
          rw [upd_ne hne, upd_same]
        · rw [e3]
          intro v H' G' R' g rh rF rn bA r
          have hv : v = .non := by
            rcases r with r | ⟨_, _, z⟩ | ⟨_, _, _, z, _⟩
            · cases r; rfl
            · cases z
            · cases z
          have hH : Same H H' := fun b o e => g.h b o (r0 b (by rw [e]; intro z; cases z)) (nx b o e)
          have rn' : ∀ y, R' y ≠ none → H y = none := fun y hy => by
            rcases rn y hy with h1 | h1
            · exact fr y h1
            · cases e : H y with
              | none => rfl
              | some o => have := nx y o e; rw [h1] at this; cases this
          refine ⟨hv, hg _ H' _ G' (s.newO hB ⟨hH, g.f, g.sub, fun b h1 h2 => g.no b h1 ?_⟩ rh rF rn' bA) g.f⟩
          cases e : H b with
          | none => exact absurd e h2
          | some o =>
            intro z
            have z' : (L2.upd (L2.upd H dx (.own x)) x (.ins (He.ga K "Deal") dx []) : Hp) b = none := z
            rw [nx b o e] at z'
            cases z'
      | _ => simp only [e3] at hg; exact hg.elim
section
variable {X : Cx} {K : PySem.W.Frag} {B : Bs} {W : XW} {e : Expr} {x y : Str} {p p2 pos pos2 : Pos} {Fm : ObjSt → ObjSt → List PyData → RMG ObjSt}
theorem s_mkD (i j : Nat) (hB : i = 0 → B.o = none) (ps : PS X (.Assign [.Name x p] (.Call (.Name y p2) [e] [] pos) pos2) (tAsg (tMake (He.ga K "Deal") (sp2 K Fm) [] E0 (tCons (tVar j) tNil)) (gName i))) :
    SemS X K B W (.Assign [.Name x p] (.Call (.Name y p2) [e] [] pos) pos2) (tAsg (tMake (He.ga K "Deal") (sp2 K Fm) [] E0 (tCons (tVar j) tNil)) (gName i)) (sMkD B.bk i j Fm) := ⟨ps, mkD_ok i j hB⟩
end
end RT
/-! A walk along a deal's list, the regions standing still. -/
namespace RT
open PySem PySem.Spec PyProof.Rows L2
/-- a statement that goes on, no object's region touched -/
def SSOkR (K : PySem.W.Frag) (B : Bs) (t : TS) (f : SS) : Prop := ∀ (Z : St0) (R : Rg) (F H : Hp) (σ : L2.St) (ρ : Rho) (D : Ends), StOk K B Z R F H σ ρ →
  (match f ρ with
    | .nx r => ∀ σ H F', StOk K B Z R F' H σ r → Same F F' → D.nx σ H
    | _ => False) → t D σ H
theorem app_okR {K : PySem.W.Frag} {B : Bs} {te : TE} {f : SE} (i : Nat) (k : EOk K B te f) : SSOkR K B (tDrop (tBM K "list" rAppend (tVar i) (tCons te tNil))) (sApp i f) := fun Z R F H σ ρ D s hg => by
  unfold sApp at hg
  cases h1 : ρ[i]? with
  | none => simp [h1] at hg
  | some x =>
    cases x with
    | own ds =>
      cases h2 : f ρ with
      | none => simp [h1, h2] at hg
      | some d =>
        by_cases hc : dataD d = true ∧ ds.length ≤ LIM
        · simp only [h1, h2, hc, and_self, if_true] at hg
          obtain ⟨p, vs, e1, e2, e3, e4, _⟩ := s.env.own i ds h1
          refine ⟨.ref p, e1, .inl ⟨rfl, vs, .inl (.inl e2)⟩, ?_⟩
          refine k _ F H σ ρ d s.env h2 _ fun v H' G g r => ?_
          refine ⟨p, vs, v, rfl, rfl, g.h _ _ e2, Nat.lt_of_lt_of_le (show vs.length < LIM + 1 by rw [e3.len]; omega) (by decide), ?_⟩
          exact hg _ _ G ((s.grow g).upd i h1 e1 ((dpa_mono g.f ds e3).append (.cons (r.dp (by rintro l rfl; cases hc.1)) .nil))) g.f
        · simp only [h1, h2, hc, if_false] at hg
    | no => simp [h1] at hg
    | val d => simp [h1] at hg
    | obj o => simp [h1] at hg
def forX (tg : PyData → Rho → Option Rho) (body : SS) : List PyData → Rho → Out
  | [], ρ => .nx ρ
  | d :: ds, ρ => match tg d ρ with
    | none => .no
    | some r => match body r with
      | .nx r2 => forX tg body ds r2
      | _ => .no
def sForE (i j : Nat) (tg : PyData → Rho → Option Rho) (body : SS) : SS := fun ρ => match slO kD ρ[i]? with
  | some δ => (match δ.ls[j]? with
    | some ds => if ds.length ≤ LIM then forX tg body (enumD 0 ds) ρ else .no
    | none => .no)
  | none => .no
theorem forE_ok {K : PySem.W.Frag} {B : Bs} {W : XW} (T : DkT K) {g : TG} {tb : TS} {tg : PyData → Rho → Option Rho} {body : SS} (i j : Nat) {nm : Str} (hf : nmD[j]? = some nm) (ht : TGOk K g tg) (kb : SSOkR K B tb body) :
    SSOk K B W (tFor (iEnum K (tCons (tFld K (tVar i) nm) tNil)) g tb) (sForE i j tg body) := fun Z R F H σ ρ D s hg => by
  unfold sForE at hg
  split at hg
  · rename_i δ h1
    split at hg
    · rename_i es e2
      split at hg
      · rename_i hl
        have h0 := slO_ok h1
        obtain ⟨a, s1, bA⟩ := s.env.obj i _ h0
        obtain ⟨dx, dL, as, h⟩ := (show DealAt K F (R i) a δ from bA)
        have hj : j < δ.ls.length := (List.getElem?_eq_some_iff.mp e2).1
        have hja : j < as.length := by rw [h.la]; exact hj
        obtain ⟨vs, q1, hA⟩ := h.ls j as[j] es (List.getElem?_eq_getElem hja) e2
        have hH := s.env.rh i _ _ q1
        refine ⟨.ref a, s1, a, _, dx, _, _, rfl, s.env.rh i _ _ h.ob, T.cl, T.no nm (List.mem_cons_of_mem _ (List.mem_of_getElem? hf)), lk_D hf (List.getElem?_eq_getElem hja), as[j], vs, rfl, .inl (.inl hH), ?_⟩
        have w : WalksD K (fun G' H' => Same F G' ∧ Same G' H' ∧ Same (R i) H') (Ite K as[j]) (enumD 0 es) := by
          refine ⟨fun m G' H' al hi => ?_, fun m G' H' x H'' d al hd y => ?_, fun G' H' al => ⟨vs, .inl (.inl (al.2.2 _ _ q1)), by rw [hA.len, enumD_len]; exact Nat.le_refl _⟩⟩
          · rw [enumD_len] at hi
            obtain ⟨v, hv, _⟩ := hA.get (List.getElem?_eq_getElem hi)
            exact ⟨vs, v, .inl (.inl (al.2.2 _ _ q1)), hv⟩
          · obtain ⟨T', v, rfl, hT, rfl, y⟩ := y
            have hx := y vs (.inl (.inl (al.2.2 _ _ q1)))
            obtain ⟨d', hd', r⟩ := hA.getV hx
            rw [enumD_get, hd'] at hd
            have hd2 : d = .tuple [.int ((0 + m : Nat) : Nat), d'] := (Option.some.inj hd).symm
            have e00 : 0 + m = m := Nat.zero_add m
            rw [e00] at hd2
            subst hd2
            refine ⟨_, (Grow.refl al.2.1).new hT, .inl (.tup (.inl (.inl upd_same)) (.cons (.int _) (.cons ?_ .nil)))⟩
            exact dp_mono (al.1.trans (Same.upd_new (Same.refl G') (al.2.1.free hT))) d' r
        generalize hds : enumD 0 es = ds at hg w
        refine ⟨fun m k σ' H' => k = ds.length - m ∧ m ≤ ds.length ∧ ∃ (F' : Hp) (ρ' : Rho), StOk K B Z R F' H' σ' ρ' ∧ Same F F' ∧ Goes K B Z F' D W (forX tg body (ds.drop m) ρ'),
          ⟨ds.length, by simp, Nat.zero_le _, F, ρ, s, Same.refl F, hg⟩, ?_⟩
        rintro m k σ' H' ⟨rfl, hile, F', ρ', s', e', hg'⟩
        have al : Same F F' ∧ Same F' H' ∧ Same (R i) H' := ⟨e', s'.env.ex, s'.env.rh i⟩
        by_cases hlt : m < ds.length
        · have hd : ds[m]? = some ds[m] := List.getElem?_eq_getElem hlt
          rw [drop_cons_of hd] at hg'
          refine .inr ⟨w.go m F' H' al hlt, fun σ2 H2 => ∃ k', k' < ds.length - m ∧ (k' = ds.length - (m + 1) ∧ m + 1 ≤ ds.length ∧ ∃ (F' : Hp) (ρ' : Rho), StOk K B Z R F' H2 σ2 ρ' ∧ Same F F' ∧ Goes K B Z F' D W (forX tg body (ds.drop (m + 1)) ρ')),
            fun σ2 H2 h => h, fun x H2 y => ?_⟩
          obtain ⟨F2, g2, r2⟩ := w.yld m F' H' x H2 _ al hd y
          unfold forX at hg'
          cases et : tg ds[m] ρ' with
          | none => rw [et] at hg'; exact hg'.elim
          | some r =>
            rw [et] at hg'
            refine ht B Z R F2 H2 σ' ρ' r x _ (s'.grow g2) r2 et _ fun σ1 s3 => ?_
            refine kb Z R F2 H2 σ1 r _ s3 ?_
            cases eb : body r with
            | nx r2 =>
              simp only [eb] at hg' ⊢
              exact fun σ4 H4 F4 s4 e4 => ⟨_, by omega, rfl, hlt, F4, r2, s4, (e'.trans g2.f).trans e4, Goes.mono hg' (g2.f.trans e4)⟩
            | no => simp only [eb] at hg'; exact hg'.elim
            | rt d r2 => simp only [eb] at hg'; exact hg'.elim
            | ex c r2 => simp only [eb] at hg'; exact hg'.elim
            | ro i r2 => simp only [eb] at hg'; exact hg'.elim
        · have hm : m = ds.length := by omega
          subst hm
          rw [List.drop_length] at hg'
          exact .inl ⟨w.stop F' H' al, hg' _ H' R F' s' (Same.refl F')⟩
      · exact hg.elim
    · exact hg.elim
  · exact hg.elim
structure SemSR (X : Cx) (K : PySem.W.Frag) (B : Bs) (st : Stmt) (t : TS) (f : SS) : Prop where
  ps : PS X st t
  ok : SSOkR K B t f
section
variable {X : Cx} {K : PySem.W.Frag} {B : Bs} {W : XW} {o e : Expr} {te : TE} {fe : SE} {tg : Expr} {st : Stmt} {t : TS} {f : SS} {gg : TG} {tgf : PyData → Rho → Option Rho} {p pos : Pos}
theorem sr_app (i : Nat) {x : Str} {p apos cpos : Pos} (he : SemE X K B e te fe) (ps : PS X (.Expr (.Call (.Attribute (.Name x p) "append" apos) [e] [] cpos) pos) (tDrop (tBM K "list" rAppend (tVar i) (tCons te tNil)))) :
    SemSR X K B (.Expr (.Call (.Attribute (.Name x p) "append" apos) [e] [] cpos) pos) (tDrop (tBM K "list" rAppend (tVar i) (tCons te tNil))) (sApp i fe) := ⟨ps, app_okR i he.ok⟩
/-- for i, x in enumerate(d.f): one statement that touches no object -/
theorem s_forE (T : DkT K) (i j : Nat) {nm : Str} {elts : List Expr} {kk : Nat} {tpos p2 cpos : Pos} (hp : PassesOwn (model X.prog X.w) X.A X.env X.xe) (hc : X.calm = true) (hm : X.mg "enumerate" = none) (hv : PE X o (tVar i)) (hgt : PG X (.Tuple elts kk tpos) gg) (ht : TGOk K gg tgf) (hb : SemSR X K B st t f)
    (hf : nmD[j]? = some nm := by rfl) (hat : attributeBase o nm X.env (eval o X.env) = eval o X.env := by rfl) (hg : Gl X "enumerate" := by rfl) (hse : starEach [Expr.Attribute o nm p2] X.env = [(false, eval (.Attribute o nm p2) X.env)] := by rfl)
    (hs : ∀ x, foldedSetIterable (.Call (.Name "enumerate" p) [.Attribute o nm p2] [] cpos) X.env x = pure x := by intro _; rfl) (hK : X.K = K := by rfl) :
    SemS X K B W (.For (.Tuple elts kk tpos) (.Call (.Name "enumerate" p) [.Attribute o nm p2] [] cpos) [st] [] pos) (tFor (iEnum K (tCons (tFld K (tVar i) nm) tNil)) gg t) (sForE i j tgf f) := by
  subst hK
  exact ⟨ps_for hp hc (pi_enum hg hm (pa_cons (pe_fld hv hat) pa_nil hse) hse) hgt (pss_one hb.ps) hs, forE_ok T i j hf ht hb.ok⟩
end
theorem s_pop0 {X : Cx} {K : PySem.W.Frag} {B : Bs} {W : XW} (i j : Nat) {st : Stmt} (ps : PS X st (tAsg (tBM K "list" rPopAt (tVar i) (tCons (tC (.int 0)) tNil)) (gName j))) : SemS X K B W st (tAsg (tBM K "list" rPopAt (tVar i) (tCons (tC (.int 0)) tNil)) (gName j)) (sPop0 i j) := ⟨ps, pop0_okS i j⟩
end RT
namespace RK
open PySem PySem.Spec PyProof.Rows L2 RT
def topS (i : Nat) : Stmt := PySem.Challenge.pw_rota_k11_whole_small_deals.main.body.getD i (.Pass ⟨0, 0, 0, 0⟩)
abbrev s_is_whole : Stmt := topS 4
abbrev s_is_stretch : Stmt := topS 5
abbrev s_meets : Stmt := topS 6
abbrev s_day_of : Stmt := topS 7
abbrev s_in_one_day : Stmt := topS 8
abbrev s_dealt : Stmt := topS 11
abbrev s_is_name : Stmt := topS 22
abbrev s_cell : Stmt := topS 28
abbrev s_sign : Stmt := topS 29
abbrev s_name_by : Stmt := topS 30
abbrev s_small_parts : Stmt := topS 31
abbrev s_may : Stmt := topS 32
abbrev s_ways : Stmt := topS 33
abbrev s_held : Stmt := topS 34
abbrev s_law : Stmt := topS 35
abbrev m_deal_init : Stmt := inClass (topS 10) 0
abbrev m_deal_held : Stmt := inClass (topS 10) 1
abbrev m_deal_given_up : Stmt := inClass (topS 10) 2
abbrev m_deal_fill : Stmt := inClass (topS 10) 3
abbrev m_deal_change : Stmt := inClass (topS 10) 4
abbrev m_book_init : Stmt := inClass (topS 26) 0
abbrev m_book_add_person : Stmt := inClass (topS 26) 1
abbrev m_book_add_rest : Stmt := inClass (topS 26) 2
abbrev m_book_add_shift : Stmt := inClass (topS 26) 3
abbrev m_book_people : Stmt := inClass (topS 26) 4
abbrev m_book_shifts : Stmt := inClass (topS 26) 5
abbrev m_book_posts : Stmt := inClass (topS 26) 6
abbrev m_book_rests_of : Stmt := inClass (topS 26) 8
abbrev m_book_limit_of : Stmt := inClass (topS 26) 9
abbrev m_book_stretch_of : Stmt := inClass (topS 26) 10
abbrev m_book_count_of : Stmt := inClass (topS 26) 11
abbrev m_book_may : Stmt := inClass (topS 26) 12
/-- what the top has written -/
structure Txt (K : PySem.W.Frag) (mg : Str → Option Value) : Prop where
  f_is_whole : ∃ fd, FunD K "is_whole" "is_whole" (defArgs s_is_whole) (defBody s_is_whole) (defScope s_is_whole) [] [] (He.ga K "is_whole") fd
  g_is_whole : mg "is_whole" = some (.ref (He.ga K "is_whole"))
  f_is_stretch : ∃ fd, FunD K "is_stretch" "is_stretch" (defArgs s_is_stretch) (defBody s_is_stretch) (defScope s_is_stretch) [] [] (He.ga K "is_stretch") fd
  g_is_stretch : mg "is_stretch" = some (.ref (He.ga K "is_stretch"))
  f_meets : ∃ fd, FunD K "meets" "meets" (defArgs s_meets) (defBody s_meets) (defScope s_meets) [] [] (He.ga K "meets") fd
  g_meets : mg "meets" = some (.ref (He.ga K "meets"))
  f_day_of : ∃ fd, FunD K "day_of" "day_of" (defArgs s_day_of) (defBody s_day_of) (defScope s_day_of) [] [] (He.ga K "day_of") fd
  g_day_of : mg "day_of" = some (.ref (He.ga K "day_of"))
  f_in_one_day : ∃ fd, FunD K "in_one_day" "in_one_day" (defArgs s_in_one_day) (defBody s_in_one_day) (defScope s_in_one_day) [] [] (He.ga K "in_one_day") fd
  g_in_one_day : mg "in_one_day" = some (.ref (He.ga K "in_one_day"))
  f_dealt : ∃ fd, FunD K "dealt" "dealt" (defArgs s_dealt) (defBody s_dealt) (defScope s_dealt) [] [] (He.ga K "dealt") fd
  g_dealt : mg "dealt" = some (.ref (He.ga K "dealt"))
  f_is_name : ∃ fd, FunD K "is_name" "is_name" (defArgs s_is_name) (defBody s_is_name) (defScope s_is_name) [] [] (He.ga K "is_name") fd
  g_is_name : mg "is_name" = some (.ref (He.ga K "is_name"))
  f_cell : ∃ fd, FunD K "_law_cell" "_law_cell" (defArgs s_cell) (defBody s_cell) (defScope s_cell) [] [] (He.ga K "_law_cell") fd
  g_cell : mg "_law_cell" = some (.ref (He.ga K "_law_cell"))
  f_sign : ∃ fd, FunD K "_law_sign" "_law_sign" (defArgs s_sign) (defBody s_sign) (defScope s_sign) [] [] (He.ga K "_law_sign") fd
  g_sign : mg "_law_sign" = some (.ref (He.ga K "_law_sign"))
  f_name_by : ∃ fd, FunD K "_law_name_by" "_law_name_by" (defArgs s_name_by) (defBody s_name_by) (defScope s_name_by) [] [] (He.ga K "_law_name_by") fd
  g_name_by : mg "_law_name_by" = some (.ref (He.ga K "_law_name_by"))
  f_small_parts : ∃ fd, FunD K "_law_small_parts" "_law_small_parts" (defArgs s_small_parts) (defBody s_small_parts) (defScope s_small_parts) [] [] (He.ga K "_law_small_parts") fd
  g_small_parts : mg "_law_small_parts" = some (.ref (He.ga K "_law_small_parts"))
  f_may : ∃ fd, FunD K "_law_may" "_law_may" (defArgs s_may) (defBody s_may) (defScope s_may) [] [] (He.ga K "_law_may") fd
  g_may : mg "_law_may" = some (.ref (He.ga K "_law_may"))
  f_ways : ∃ fd, FunD K "_law_ways" "_law_ways" (defArgs s_ways) (defBody s_ways) (defScope s_ways) [] [] (He.ga K "_law_ways") fd
  g_ways : mg "_law_ways" = some (.ref (He.ga K "_law_ways"))
  f_held : ∃ fd, FunD K "_law_held" "_law_held" (defArgs s_held) (defBody s_held) (defScope s_held) [] [] (He.ga K "_law_held") fd
  g_held : mg "_law_held" = some (.ref (He.ga K "_law_held"))
  f_law : ∃ fd, FunD K "law" "law" (defArgs s_law) (defBody s_law) (defScope s_law) [] [] (He.ga K "law") fd
  g_law : mg "law" = some (.ref (He.ga K "law"))
  z_bool : mg "bool" = none
  z_enumerate : mg "enumerate" = none
  z_int : mg "int" = none
  z_isinstance : mg "isinstance" = none
  z_len : mg "len" = none
  z_list : mg "list" = none
  z_max : mg "max" = none
  z_min : mg "min" = none
  z_range : mg "range" = none
  z_sorted : mg "sorted" = none
  z_str : mg "str" = none
  z_sum : mg "sum" = none
  z_tuple : mg "tuple" = none
  c_DAY : ∃ tk, mg "DAY" = some (.int 24 tk)
  c_LAST : ∃ tk, mg "LAST" = some (.int 1000000 tk)
  c_MOST : ∃ tk, mg "MOST" = some (.int 20 tk)
  c_MOST_COUNT : ∃ tk, mg "MOST_COUNT" = some (.int 9 tk)
  c_MOST_DAYS : ∃ tk, mg "MOST_DAYS" = some (.int 31 tk)
  c_SIGNS : ∃ tk, mg "SIGNS" = some (.str "!\"#$&'()*+,-./0123456789:;<=>?@ABCDEFGHIJKLMNOPQRSTUVWXYZ[\\]^_`abcdefghijklmnopqrstuvwxyz{|}~" tk)
  cl_deal : Cls K (He.ga K "Deal")
  mk_deal : Mk K (He.ga K "Deal") (He.ma K (He.ga K "Deal") "__init__")
  gc_deal : mg "Deal" = some (.ref (He.ga K "Deal"))
  n_deal_limits : NoAttr K (He.ga K "Deal") "limits"
  n_deal_places : NoAttr K (He.ga K "Deal") "places"
  n_deal_days : NoAttr K (He.ga K "Deal") "days"
  n_deal_able : NoAttr K (He.ga K "Deal") "able"
  n_deal_who : NoAttr K (He.ga K "Deal") "who"
  cl_book : Cls K (He.ga K "Book")
  mk_book : Mk K (He.ga K "Book") (He.ma K (He.ga K "Book") "__init__")
  gc_book : mg "Book" = some (.ref (He.ga K "Book"))
  n_book_skills : NoAttr K (He.ga K "Book") "skills"
  n_book_limits : NoAttr K (He.ga K "Book") "limits"
  n_book_rests : NoAttr K (He.ga K "Book") "rests"
  n_book_stretches : NoAttr K (He.ga K "Book") "stretches"
  n_book_needs : NoAttr K (He.ga K "Book") "needs"
  f_deal_init : ∃ fd, FunD K "__init__" "Deal.__init__" (defArgs m_deal_init) (defBody m_deal_init) (defScope m_deal_init) [] [] (He.ma K (He.ga K "Deal") "__init__") fd
  f_deal_held : ∃ fd, FunD K "held" "Deal.held" (defArgs m_deal_held) (defBody m_deal_held) (defScope m_deal_held) [] [] (He.ma K (He.ga K "Deal") "held") fd
  me_deal_held : Meth K (He.ga K "Deal") "held" (He.ma K (He.ga K "Deal") "held")
  f_deal_given_up : ∃ fd, FunD K "given_up" "Deal.given_up" (defArgs m_deal_given_up) (defBody m_deal_given_up) (defScope m_deal_given_up) [] [] (He.ma K (He.ga K "Deal") "given_up") fd
  me_deal_given_up : Meth K (He.ga K "Deal") "given_up" (He.ma K (He.ga K "Deal") "given_up")
  f_deal_fill : ∃ fd, FunD K "fill" "Deal.fill" (defArgs m_deal_fill) (defBody m_deal_fill) (defScope m_deal_fill) [] [] (He.ma K (He.ga K "Deal") "fill") fd
  me_deal_fill : Meth K (He.ga K "Deal") "fill" (He.ma K (He.ga K "Deal") "fill")
  f_deal_change : ∃ fd, FunD K "change" "Deal.change" (defArgs m_deal_change) (defBody m_deal_change) (defScope m_deal_change) [] [] (He.ma K (He.ga K "Deal") "change") fd
  me_deal_change : Meth K (He.ga K "Deal") "change" (He.ma K (He.ga K "Deal") "change")
  f_book_init : ∃ fd, FunD K "__init__" "Book.__init__" (defArgs m_book_init) (defBody m_book_init) (defScope m_book_init) [] [] (He.ma K (He.ga K "Book") "__init__") fd
  f_book_add_person : ∃ fd, FunD K "add_person" "Book.add_person" (defArgs m_book_add_person) (defBody m_book_add_person) (defScope m_book_add_person) [] [] (He.ma K (He.ga K "Book") "add_person") fd
  me_book_add_person : Meth K (He.ga K "Book") "add_person" (He.ma K (He.ga K "Book") "add_person")
  f_book_add_rest : ∃ fd, FunD K "add_rest" "Book.add_rest" (defArgs m_book_add_rest) (defBody m_book_add_rest) (defScope m_book_add_rest) [] [] (He.ma K (He.ga K "Book") "add_rest") fd
  me_book_add_rest : Meth K (He.ga K "Book") "add_rest" (He.ma K (He.ga K "Book") "add_rest")
  f_book_add_shift : ∃ fd, FunD K "add_shift" "Book.add_shift" (defArgs m_book_add_shift) (defBody m_book_add_shift) (defScope m_book_add_shift) [] [] (He.ma K (He.ga K "Book") "add_shift") fd
  me_book_add_shift : Meth K (He.ga K "Book") "add_shift" (He.ma K (He.ga K "Book") "add_shift")
  f_book_people : ∃ fd, FunD K "people" "Book.people" (defArgs m_book_people) (defBody m_book_people) (defScope m_book_people) [] [] (He.ma K (He.ga K "Book") "people") fd
  me_book_people : Meth K (He.ga K "Book") "people" (He.ma K (He.ga K "Book") "people")
  f_book_shifts : ∃ fd, FunD K "shifts" "Book.shifts" (defArgs m_book_shifts) (defBody m_book_shifts) (defScope m_book_shifts) [] [] (He.ma K (He.ga K "Book") "shifts") fd
  me_book_shifts : Meth K (He.ga K "Book") "shifts" (He.ma K (He.ga K "Book") "shifts")
  f_book_posts : ∃ fd, FunD K "posts" "Book.posts" (defArgs m_book_posts) (defBody m_book_posts) (defScope m_book_posts) [] [] (He.ma K (He.ga K "Book") "posts") fd
  me_book_posts : Meth K (He.ga K "Book") "posts" (He.ma K (He.ga K "Book") "posts")
  f_book_rests_of : ∃ fd, FunD K "rests_of" "Book.rests_of" (defArgs m_book_rests_of) (defBody m_book_rests_of) (defScope m_book_rests_of) [] [] (He.ma K (He.ga K "Book") "rests_of") fd
  me_book_rests_of : Meth K (He.ga K "Book") "rests_of" (He.ma K (He.ga K "Book") "rests_of")
  f_book_limit_of : ∃ fd, FunD K "limit_of" "Book.limit_of" (defArgs m_book_limit_of) (defBody m_book_limit_of) (defScope m_book_limit_of) [] [] (He.ma K (He.ga K "Book") "limit_of") fd
  me_book_limit_of : Meth K (He.ga K "Book") "limit_of" (He.ma K (He.ga K "Book") "limit_of")
  f_book_stretch_of : ∃ fd, FunD K "stretch_of" "Book.stretch_of" (defArgs m_book_stretch_of) (defBody m_book_stretch_of) (defScope m_book_stretch_of) [] [] (He.ma K (He.ga K "Book") "stretch_of") fd
  me_book_stretch_of : Meth K (He.ga K "Book") "stretch_of" (He.ma K (He.ga K "Book") "stretch_of")
  f_book_count_of : ∃ fd, FunD K "count_of" "Book.count_of" (defArgs m_book_count_of) (defBody m_book_count_of) (defScope m_book_count_of) [] [] (He.ma K (He.ga K "Book") "count_of") fd
  me_book_count_of : Meth K (He.ga K "Book") "count_of" (He.ma K (He.ga K "Book") "count_of")
  f_book_may : ∃ fd, FunD K "may" "Book.may" (defArgs m_book_may) (defBody m_book_may) (defScope m_book_may) [] [] (He.ma K (He.ga K "Book") "may") fd
  me_book_may : Meth K (He.ga K "Book") "may" (He.ma K (He.ga K "Book") "may")
  e_BadCount : ExT K mg "BadCount"
  e_BadName : ExT K mg "BadName"
  e_BadStretch : ExT K mg "BadStretch"
  e_Missing : ExT K mg "Missing"
  e_Twice : ExT K mg "Twice"
  gh_RotaError : mg "RotaError" = some (.ref (He.ga K "RotaError"))
  x_BadName_RotaError : PySem.W.exmOne K (.ref (He.ga K "BadName")) (.ref (He.ga K "RotaError")) = some true
  x_BadStretch_RotaError : PySem.W.exmOne K (.ref (He.ga K "BadStretch")) (.ref (He.ga K "RotaError")) = some true
  x_BadCount_RotaError : PySem.W.exmOne K (.ref (He.ga K "BadCount")) (.ref (He.ga K "RotaError")) = some true
  x_Twice_RotaError : PySem.W.exmOne K (.ref (He.ga K "Twice")) (.ref (He.ga K "RotaError")) = some true
  x_Missing_RotaError : PySem.W.exmOne K (.ref (He.ga K "Missing")) (.ref (He.ga K "RotaError")) = some true
theorem Txt.bk {K : PySem.W.Frag} {mg : Str → Option Value} (T : Txt K mg) : BkT K mg := ⟨T.cl_book, T.n_book_skills, T.n_book_limits, T.n_book_rests, T.n_book_stretches, T.n_book_needs⟩
theorem Txt.dk {K : PySem.W.Frag} {mg : Str → Option Value} (T : Txt K mg) : DkT K := ⟨T.cl_deal, fun f hf => by
  simp only [flD, nmD, List.mem_cons, List.not_mem_nil, or_false] at hf
  rcases hf with rfl | rfl | rfl | rfl | rfl
  · exact T.n_deal_limits
  · exact T.n_deal_places
  · exact T.n_deal_days
  · exact T.n_deal_able
  · exact T.n_deal_who⟩
section
variable {P : Program} {w : World} {K : PySem.W.Frag} {mg : Str → Option Value} {base : Heap}
abbrev N_is_whole : List Str := ["thing"]
theorem sc_is_whole : FnScope N_is_whole ["thing"] (defScope s_is_whole) := ⟨rfl, rfl, rfl, by decide +kernel, rfl, by decide +kernel, by decide +kernel⟩
def b_is_whole : SS := (sRet (eAndF (eIsi .int (eVarB 0)) (eNotF (eIsi .bool (eVarB 0)))))
def F_is_whole : List PyData → Option PyData := runF N_is_whole 1 b_is_whole
theorem ok_is_whole (T : Txt K mg) : PF P w K mg base 1 "is_whole" F_is_whole := by
  obtain ⟨fd, F⟩ := T.f_is_whole
  refine pf_mk (k := 0) F sc_is_whole T.g_is_whole (fun _ _ _ _ _ _ us hl => match us, hl with | [_], _ => rfl) fun cdv A outer s H E hr => ?_
  have hu := hr.units
  have hv := hv_of hr
  exact ⟨_, ((ss_one (s_ret (se_and (se_isi .int T.z_isinstance T.z_int (sb_var 0)) (se_one (se_not (se_isi .bool T.z_isinstance T.z_bool (sb_var 0))))))))⟩

abbrev N_meets : List Str := ["one", "other"]
theorem sc_meets : FnScope N_meets ["one", "other"] (defScope s_meets) := ⟨rfl, rfl, rfl, by decide +kernel, rfl, by decide +kernel, by decide +kernel⟩
def b_meets : SS := (sRet (eAndF (eOp gLt (eOp gIx (eVarB 0) (eC (.int 0))) (eOp gIx (eVarB 1) (eC (.int 1)))) (eOp gLt (eOp gIx (eVarB 1) (eC (.int 0))) (eOp gIx (eVarB 0) (eC (.int 1))))))
def F_meets : List PyData → Option PyData := runF N_meets 2 b_meets
theorem ok_meets (T : Txt K mg) : PF P w K mg base 1 "meets" F_meets := by
  obtain ⟨fd, F⟩ := T.f_meets
  refine pf_mk (k := 0) F sc_meets T.g_meets (fun _ _ _ _ _ _ us hl => match us, hl with | [_, _], _ => rfl) fun cdv A outer s H E hr => ?_
  have hu := hr.units
  have hv := hv_of hr
  exact ⟨_, ((ss_one (s_ret (se_and (se_cmp lt_s op_lt (x_eb (se_ix (sb_var 0) (x_eb se_int))) (x_eb (se_ix (sb_var 1) (x_eb se_int))) (nomark _)) (se_one (se_cmp lt_s op_lt (x_eb (se_ix (sb_var 1) (x_eb se_int))) (x_eb (se_ix (sb_var 0) (x_eb se_int))) (nomark _)))))))⟩

abbrev N_day_of : List Str := ["stretch"]
theorem sc_day_of : FnScope N_day_of ["stretch"] (defScope s_day_of) := ⟨rfl, rfl, rfl, by decide +kernel, rfl, by decide +kernel, by decide +kernel⟩
def b_day_of : SS := (sRet (eOp gFdiv (eOp gIx (eVarB 0) (eC (.int 0))) (eC (.int 24))))
def F_day_of : List PyData → Option PyData := runF N_day_of 1 b_day_of
theorem ok_day_of (T : Txt K mg) : PF P w K mg base 1 "day_of" F_day_of := by
  obtain ⟨fd, F⟩ := T.f_day_of
  refine pf_mk (k := 0) F sc_day_of T.g_day_of (fun _ _ _ _ _ _ us hl => match us, hl with | [_], _ => rfl) fun cdv A outer s H E hr => ?_
  have hu := hr.units
  have hv := hv_of hr
  exact ⟨_, ((ss_one (s_ret (se_fdiv (x_eb (se_ix (sb_var 0) (x_eb se_int))) (x_eb (se_globI T.c_DAY))))))⟩

abbrev N_in_one_day : List Str := ["stretch"]
theorem sc_in_one_day : FnScope N_in_one_day ["stretch"] (defScope s_in_one_day) := ⟨rfl, rfl, rfl, by decide +kernel, rfl, by decide +kernel, by decide +kernel⟩
def b_in_one_day : SS := (sRet (eOp gEq (eOp gFdiv (eOp gMinus (eOp gIx (eVarB 0) (eC (.int 1))) (eC (.int 1))) (eC (.int 24))) (eOp gFdiv (eOp gIx (eVarB 0) (eC (.int 0))) (eC (.int 24)))))
def F_in_one_day : List PyData → Option PyData := runF N_in_one_day 1 b_in_one_day
theorem ok_in_one_day (T : Txt K mg) : PF P w K mg base 1 "in_one_day" F_in_one_day := by
  obtain ⟨fd, F⟩ := T.f_in_one_day
  refine pf_mk (k := 0) F sc_in_one_day T.g_in_one_day (fun _ _ _ _ _ _ us hl => match us, hl with | [_], _ => rfl) fun cdv A outer s H E hr => ?_
  have hu := hr.units
  have hv := hv_of hr
  exact ⟨_, ((ss_one (s_ret (se_cmp eq2_s (op_eq2 hu) (x_eb (se_fdiv (x_eb (se_sub (x_eb (se_ix (sb_var 0) (x_eb se_int))) (x_eb se_int))) (x_eb (se_globI T.c_DAY)))) (x_eb (se_fdiv (x_eb (se_ix (sb_var 0) (x_eb se_int))) (x_eb (se_globI T.c_DAY)))) (nomark _)))))⟩

abbrev N_is_name : List Str := ["text", "sign"]
theorem sc_is_name : FnScope N_is_name ["text"] (defScope s_is_name) := ⟨rfl, rfl, rfl, by decide +kernel, rfl, by decide +kernel, by decide +kernel⟩
def b_is_name : SS := (sSeq (sIf (tNotF (bF (eChainF gLe gLe (eC (.int 1)) (eCall gLen (eCons (eVarB 0) eNil)) (eC (.int 20))))) (sRet (eC (.bool false))) sNext)
  (sSeq (sFor (iS (eVar 0)) (tg1 1) (sIf (bF (eOp gNotIn (eVarB 1) (eC (.str "!\"#$&'()*+,-./0123456789:;<=>?@ABCDEFGHIJKLMNOPQRSTUVWXYZ[\\]^_`abcdefghijklmnopqrstuvwxyz{|}~")))) (sRet (eC (.bool false))) sNext))
  (sRet (eC (.bool true)))))
def F_is_name : List PyData → Option PyData := runF N_is_name 1 b_is_name
theorem ok_is_name (T : Txt K mg) : PF P w K mg base 1 "is_name" F_is_name := by
  obtain ⟨fd, F⟩ := T.f_is_name
  refine pf_mk (k := 0) F sc_is_name T.g_is_name (fun _ _ _ _ _ _ us hl => match us, hl with | [_], _ => rfl) fun cdv A outer s H E hr => ?_
  have hu := hr.units
  have hv := hv_of hr
  exact ⟨_, ((ss_cons (s_if (st_not (st_chain le_s op_le le_s op_le (x_eb se_int) (x_eb (se_cb len_s call_len T.z_len (x_abc (sb_var 0) sab_nil))) (x_eb (se_globI T.c_MOST)))) (ss_one (s_ret se_bool)) ss_nil)
    (ss_cons (s_for PassesOwn.never rfl (si_str (se_var 0)) (pg_name (i := 1) sc_is_name.nd rfl (by first | exact Or.inl rfl | exact Or.inr rfl)) (tg1_ok 1) (ss_one (s_if (st_cmp notIn2_s (op_notIn2 hv) (sb_var 1) (x_eb (se_globS T.c_SIGNS)) (by rfl)) (ss_one (s_ret se_bool)) ss_nil)))
    (ss_one (s_ret se_bool)))))⟩

abbrev N_cell : List Str := ["_law_script", "_law_k"]
theorem sc_cell : FnScope N_cell ["_law_script", "_law_k"] (defScope s_cell) := ⟨rfl, rfl, rfl, by decide +kernel, rfl, by decide +kernel, by decide +kernel⟩
def b_cell : SS := (sRet (eOp gIx (eOp gAdd (eList (lSl (eVarB 0) (oSome (eVarB 1)) (oSome (eOp gAdd (eVarB 1) (eC (.int 1)))))) (eList (eLstD (eCons (eC (.int 0)) eNil)))) (eC (.int 0))))
def F_cell : List PyData → Option PyData := runF N_cell 2 b_cell
theorem ok_cell (T : Txt K mg) : PF P w K mg base 1 "_law_cell" F_cell := by
  obtain ⟨fd, F⟩ := T.f_cell
  refine pf_mk (k := 0) F sc_cell T.g_cell (fun _ _ _ _ _ _ us hl => match us, hl with | [_, _], _ => rfl) fun cdv A outer s H E hr => ?_
  have hu := hr.units
  have hv := hv_of hr
  exact ⟨_, ((ss_one (s_ret (se_ix (x_eb (se_add (x_eb (x_le (sl_sl (sb_var 0) (so_some (sb_var 1)) (so_some (x_eb (se_add (sb_var 1) (x_eb se_int))))))) (x_eb (x_le (sl_lst (x_ac se_int sa_nil)))))) (x_eb se_int)))))⟩

abbrev N_sign : List Str := ["_law_cell_here", "_law_small", "_law_great"]
theorem sc_sign : FnScope N_sign ["_law_cell_here"] (defScope s_sign) := ⟨rfl, rfl, rfl, by decide +kernel, rfl, by decide +kernel, by decide +kernel⟩
def b_sign : SS := (sSeq (sSet 1 (eC (.str "abcdefghijklmnopqrstuvwxyz{|}~")))
  (sSeq (sSet 2 (eC (.str "@ABCDEFGHIJKLMNOPQRSTUVWXYZ[\\]^_`")))
  (sRet (eOp gIx (eOp gAdd (eOp gAdd (eC (.str "!\"#$&'()*+,-./0123456789:;<=>?")) (eVarB 2)) (eVarB 1)) (eOp gMod (eVarB 0) (eC (.int 93)))))))
def F_sign : List PyData → Option PyData := runF N_sign 1 b_sign
theorem ok_sign (T : Txt K mg) : PF P w K mg base 1 "_law_sign" F_sign := by
  obtain ⟨fd, F⟩ := T.f_sign
  refine pf_mk (k := 0) F sc_sign T.g_sign (fun _ _ _ _ _ _ us hl => match us, hl with | [_], _ => rfl) fun cdv A outer s H E hr => ?_
  have hu := hr.units
  have hv := hv_of hr
  exact ⟨_, ((ss_cons (s_set 1 sc_sign.nd se_str)
    (ss_cons (s_set 2 sc_sign.nd se_str)
    (ss_one (s_ret (se_ix (x_eb (se_add (x_eb (se_add (x_eb se_str) (sb_var 2))) (sb_var 1))) (x_eb (se_mod (sb_var 0) (x_eb se_int)))))))))⟩

abbrev N_may : List Str := ["_law_person", "_law_shift", "_law_skill", "_law_rest"]
theorem sc_may : FnScope N_may ["_law_person", "_law_shift", "_law_skill"] (defScope s_may) := ⟨rfl, rfl, rfl, by decide +kernel, rfl, by decide +kernel, by decide +kernel⟩
def b_may : SS := (sSeq (sFor (iL (eOp gIx (eVarB 0) (eC (.int 3)))) (tg1 3) (sIf (bF (eOp gLt (eCall gMax (eCons (eOp gIx (eVarB 3) (eC (.int 0))) (eCons (eOp gIx (eOp gIx (eVarB 1) (eC (.int 1))) (eC (.int 0))) eNil))) (eCall gMin (eCons (eOp gIx (eVarB 3) (eC (.int 1))) (eCons (eOp gIx (eOp gIx (eVarB 1) (eC (.int 1))) (eC (.int 1))) eNil))))) (sRet (eC (.bool false))) sNext))
  (sRet (eOp gIn (eVarB 2) (eOp gIx (eVarB 0) (eC (.int 1))))))
def F_may : List PyData → Option PyData := runF N_may 3 b_may
theorem ok_may (T : Txt K mg) : PF P w K mg base 1 "_law_may" F_may := by
  obtain ⟨fd, F⟩ := T.f_may
  refine pf_mk (k := 0) F sc_may T.g_may (fun _ _ _ _ _ _ us hl => match us, hl with | [_, _, _], _ => rfl) fun cdv A outer s H E hr => ?_
  have hu := hr.units
  have hv := hv_of hr
  exact ⟨_, ((ss_cons (s_for PassesOwn.never rfl (si_list (se_ix (sb_var 0) (x_eb se_int))) (pg_name (i := 3) sc_may.nd rfl (by first | exact Or.inl rfl | exact Or.inr rfl)) (tg1_ok 3) (ss_one (s_if (st_cmp lt_s op_lt (x_eb (se_cb max_s (call_max2 rfl) T.z_max (x_abc (x_eb (se_ix (sb_var 3) (x_eb se_int))) (x_abc (x_eb (se_ix (x_eb (se_ix (sb_var 1) (x_eb se_int))) (x_eb se_int))) sab_nil)))) (x_eb (se_cb min_s (call_min2 rfl) T.z_min (x_abc (x_eb (se_ix (sb_var 3) (x_eb se_int))) (x_abc (x_eb (se_ix (x_eb (se_ix (sb_var 1) (x_eb se_int))) (x_eb se_int))) sab_nil)))) (nomark _)) (ss_one (s_ret se_bool)) ss_nil)))
    (ss_one (s_ret (se_cmp in2_s (op_in2 hv) (sb_var 2) (x_eb (se_ix (sb_var 0) (x_eb se_int))) (by rfl))))))⟩

abbrev N_held : List Str := ["_law_way", "_law_person", "_law_one"]
theorem sc_held : FnScope N_held ["_law_way", "_law_person"] (defScope s_held) := ⟨rfl, rfl, rfl, by decide +kernel, rfl, by decide +kernel, by decide +kernel⟩
def b_held : SS := (sRet (eList (lLc (iL (eVarB 0)) 2 (bF (eOp gEq (eOp gIx (eOp gIx (eVarB 2) (eC (.int 1))) (eC (.int 0))) (eOp gIx (eVarB 1) (eC (.int 0))))) (eOp gIx (eVarB 2) (eC (.int 0))))))
def F_held : List PyData → Option PyData := runF N_held 2 b_held
theorem ok_held (T : Txt K mg) : PF P w K mg base 1 "_law_held" F_held := by
  obtain ⟨fd, F⟩ := T.f_held
  refine pf_mk (k := 0) F sc_held T.g_held (fun _ _ _ _ _ _ us hl => match us, hl with | [_, _], _ => rfl) fun cdv A outer s H E hr => ?_
  have hu := hr.units
  have hv := hv_of hr
  exact ⟨_, ((ss_one (s_ret (x_le (sl_lc (j := 2) rfl sc_held.nd rfl (si_listB (sb_var 0)) (blkOk_by (N := N_held) (sc := defScope s_held) (own := [("_law_one", 2)]) (by decide +kernel)) (fun _ _ _ _ _ => (sts_one (st_cmp eq2_s (op_eq2 hu) (x_eb (se_ix (x_eb (se_ix (sb_var 2) (x_eb se_int))) (x_eb se_int))) (x_eb (se_ix (sb_var 1) (x_eb se_int))) (nomark _)))) (fun _ _ _ _ _ => (se_ix (sb_var 2) (x_eb se_int))) (fun _ _ _ _ _ => pg_name sc_held.nd rfl (Or.inl rfl)))))))⟩

abbrev N_is_stretch : List Str := ["pair"]
theorem sc_is_stretch : FnScope N_is_stretch ["pair"] (defScope s_is_stretch) := ⟨rfl, rfl, rfl, by decide +kernel, rfl, by decide +kernel, by decide +kernel⟩
def b_is_stretch : SS := (sSeq (sIf (tOrF (bF (eOp gNe (eCall gLen (eCons (eVarB 0) eNil)) (eC (.int 2)))) (tOrF (tNotF (bF (eCall F_is_whole (eCons (eOp gIx (eVarB 0) (eC (.int 0))) eNil)))) (tNotF (bF (eCall F_is_whole (eCons (eOp gIx (eVarB 0) (eC (.int 1))) eNil)))))) (sRet (eC (.bool false))) sNext)
  (sRet (eChain3F gLe gLt gLe (eC (.int 0)) (eOp gIx (eVarB 0) (eC (.int 0))) (eOp gIx (eVarB 0) (eC (.int 1))) (eC (.int 1000000)))))
def F_is_stretch : List PyData → Option PyData := runF N_is_stretch 1 b_is_stretch
theorem ok_is_stretch (T : Txt K mg) : PF P w K mg base 2 "is_stretch" F_is_stretch := by
  obtain ⟨fd, F⟩ := T.f_is_stretch
  refine pf_mk (k := 1) F sc_is_stretch T.g_is_stretch (fun _ _ _ _ _ _ us hl => match us, hl with | [_], _ => rfl) fun cdv A outer s H E hr => ?_
  have hu := hr.units
  have hv := hv_of hr
  exact ⟨_, ((ss_cons (s_if (x_wt (sw_or (st_cmp ne2_s (op_ne2 hu) (x_eb (se_cb len_s call_len T.z_len (x_abc (sb_var 0) sab_nil))) (x_eb se_int) (nomark _)) (sw_or (st_not (st_val (se_call (ok_is_whole T) hr (x_ac (se_ix (sb_var 0) (x_eb se_int)) sa_nil)))) (sw_or1 (st_not (st_val (se_call (ok_is_whole T) hr (x_ac (se_ix (sb_var 0) (x_eb se_int)) sa_nil)))))))) (ss_one (s_ret se_bool)) ss_nil)
    (ss_one (s_ret (se_chain3 le_s op_le lt_s op_lt le_s op_le (x_eb se_int) (x_eb (se_ix (sb_var 0) (x_eb se_int))) (x_eb (se_ix (sb_var 0) (x_eb se_int))) (x_eb (se_globI T.c_LAST)))))))⟩

abbrev N_name_by : List Str := ["_law_place", "_law_cell_here", "_law_tail", "_law_k"]
theorem sc_name_by : FnScope N_name_by ["_law_place", "_law_cell_here"] (defScope s_name_by) := ⟨rfl, rfl, rfl, by decide +kernel, rfl, by decide +kernel, by decide +kernel⟩
def b_name_by : SS := (sSeq (sSet 2 (eList (lLc (iR1 (eCons (eOp gMod (eVarB 1) (eC (.int 20))) eNil)) 3 tYesF (eCall F_sign (eCons (eOp gAdd (eOp gFdiv (eVarB 1) (eC (.int 20))) (eOp gMul (eOp gMul (eC (.int 5)) (eVarB 3)) (eOp gMod (eVarB 1) (eC (.int 7))))) eNil)))))
  (sRet (eOp gAdd (eOp gJoin (eC (.str "")) (eVarB 2)) (eCall F_sign (eCons (eVar 0) eNil)))))
def F_name_by : List PyData → Option PyData := runF N_name_by 2 b_name_by
theorem ok_name_by (T : Txt K mg) : PF P w K mg base 2 "_law_name_by" F_name_by := by
  obtain ⟨fd, F⟩ := T.f_name_by
  refine pf_mk (k := 1) F sc_name_by T.g_name_by (fun _ _ _ _ _ _ us hl => match us, hl with | [_, _], _ => rfl) fun cdv A outer s H E hr => ?_
  have hu := hr.units
  have hv := hv_of hr
  exact ⟨_, ((ss_cons (s_setLcE 2 (by exact (sl_lc (j := 3) rfl sc_name_by.nd rfl (x_ib (si_range1 T.z_range (x_abc (x_eb (se_mod (sb_var 1) (x_eb se_int))) sab_nil))) (blkOk_by (N := N_name_by) (sc := defScope s_name_by) (own := [("_law_k", 3)]) (by decide +kernel)) (fun _ _ _ _ _ => sts_nil) (fun _ _ _ _ _ => (se_call (ok_sign T) hr (x_ac (se_add (x_eb (se_fdiv (sb_var 1) (x_eb se_int))) (x_eb (se_mul (x_eb (se_mul (x_eb se_int) (sb_var 3))) (x_eb (se_mod (sb_var 1) (x_eb se_int)))))) sa_nil))) (fun _ _ _ _ _ => pg_name sc_name_by.nd rfl (Or.inl rfl)))) (by exact (ps_setLc (i := 2) (own := [("_law_k", 3)]) (g := gName 3) rfl sc_name_by.nd rfl rfl (sw_true rfl rfl rfl (by decide +kernel)) (x_pi (K := K) (x_ib (si_range1 T.z_range (x_abc (x_eb (se_mod (sb_var 1) (x_eb se_int))) sab_nil)))) (blkOk_by (N := N_name_by) (sc := defScope s_name_by) (own := [("_law_k", 3)]) (by decide +kernel)) (fun _ _ _ _ _ => pg_name sc_name_by.nd rfl (Or.inl rfl)) (fun _ _ _ _ _ => pts_nil) (fun _ _ _ _ _ => (x_pe (K := K) (se_call (ok_sign T) hr (x_ac (se_add (x_eb (se_fdiv (sb_var 1) (x_eb se_int))) (x_eb (se_mul (x_eb (se_mul (x_eb se_int) (sb_var 3))) (x_eb (se_mod (sb_var 1) (x_eb se_int)))))) sa_nil)))))))
    (ss_one (s_ret (se_add (x_eb (se_join (x_eb se_str) (sb_var 2))) (x_eb (se_call (ok_sign T) hr (x_ac (se_var 0) sa_nil))))))))⟩

abbrev N_ways : List Str := ["_law_places", "_law_people", "_law_ways_here", "_law_place", "_law_longer", "_law_way", "_law_person", "_law_own", "_law_shift"]
theorem sc_ways : FnScope N_ways ["_law_places", "_law_people"] (defScope s_ways) := ⟨rfl, rfl, rfl, by decide +kernel, rfl, by decide +kernel, by decide +kernel⟩
def b_ways : SS := (sSeq (sSet 2 (eList (eLstD (eCons (eList (eLstD eNil)) eNil))))
  (sSeq (sFor (iL (eVar 0)) (tg1 3) (sSeq (sSetL 4 (eLstD eNil))
  (sSeq (sFor (iL (eVar 2)) (tg1 5) (sFor (iL (eVar 1)) (tg1 6) (sSeq (sSet 7 (eList (lLc (iL (eCall F_held (eCons (eVar 5) (eCons (eVar 6) eNil)))) 8 tYesF (eOp gFdiv (eOp gIx (eOp gIx (eVarB 8) (eC (.int 1))) (eC (.int 0))) (eC (.int 24))))))
  (sIf (tAndF (bF (eCall F_may (eCons (eVar 6) (eCons (eOp gIx (eVarB 3) (eC (.int 0))) (eCons (eOp gIx (eVarB 3) (eC (.int 1))) eNil))))) (tAndF (bF (eOp gNotIn (eOp gFdiv (eOp gIx (eOp gIx (eOp gIx (eVarB 3) (eC (.int 0))) (eC (.int 1))) (eC (.int 0))) (eC (.int 24))) (eVarB 7))) (bF (eOp gLt (eCall gLen (eCons (eVarB 7) eNil)) (eOp gIx (eVarB 6) (eC (.int 2))))))) (sApp 4 (eOp gAdd (eVarB 5) (eList (eLstD (eCons (eTupD (eCons (eOp gIx (eVarB 3) (eC (.int 0))) (eCons (eVar 6) eNil))) eNil))))) sNext))))
  (sFrzI 4 (sSet 2 (eVar 4))))))
  (sRet (eVar 2))))
def F_ways : List PyData → Option PyData := runF N_ways 2 b_ways
theorem ok_ways (T : Txt K mg) : PF P w K mg base 2 "_law_ways" F_ways := by
  obtain ⟨fd, F⟩ := T.f_ways
  refine pf_mk (k := 1) F sc_ways T.g_ways (fun _ _ _ _ _ _ us hl => match us, hl with | [_, _], _ => rfl) fun cdv A outer s H E hr => ?_
  have hu := hr.units
  have hv := hv_of hr
  exact ⟨_, ((ss_cons (s_set 2 sc_ways.nd (x_le (sl_lst (x_ac (x_le (sl_lst sa_nil)) sa_nil))))
    (ss_cons (s_for PassesOwn.never rfl (si_list (se_var 0)) (pg_name (i := 3) sc_ways.nd rfl (by first | exact Or.inl rfl | exact Or.inr rfl)) (tg1_ok 3) (ss_cons (s_setL 4 sc_ways.nd (sl_lst sa_nil))
    (ss_cons (s_for PassesOwn.never rfl (si_list (se_var 2)) (pg_name (i := 5) sc_ways.nd rfl (by first | exact Or.inl rfl | exact Or.inr rfl)) (tg1_ok 5) (ss_one (s_for PassesOwn.never rfl (si_list (se_var 1)) (pg_name (i := 6) sc_ways.nd rfl (by first | exact Or.inl rfl | exact Or.inr rfl)) (tg1_ok 6) (ss_cons (s_setLcE 7 (by exact (sl_lc (j := 8) rfl sc_ways.nd rfl (si_listB (x_eb (se_call (ok_held T) hr (x_ac (se_var 5) (x_ac (se_var 6) sa_nil))))) (blkOk_by (N := N_ways) (sc := defScope s_ways) (own := [("_law_shift", 8)]) (by decide +kernel)) (fun _ _ _ _ _ => sts_nil) (fun _ _ _ _ _ => (se_fdiv (x_eb (se_ix (x_eb (se_ix (sb_var 8) (x_eb se_int))) (x_eb se_int))) (x_eb se_int))) (fun _ _ _ _ _ => pg_name sc_ways.nd rfl (Or.inl rfl)))) (by exact (ps_setLc (i := 7) (own := [("_law_shift", 8)]) (g := gName 8) rfl sc_ways.nd rfl rfl (sw_true rfl rfl rfl (by decide +kernel)) (x_pi (K := K) (si_listB (x_eb (se_call (ok_held T) hr (x_ac (se_var 5) (x_ac (se_var 6) sa_nil)))))) (blkOk_by (N := N_ways) (sc := defScope s_ways) (own := [("_law_shift", 8)]) (by decide +kernel)) (fun _ _ _ _ _ => pg_name sc_ways.nd rfl (Or.inl rfl)) (fun _ _ _ _ _ => pts_nil) (fun _ _ _ _ _ => (x_pe (K := K) (se_fdiv (x_eb (se_ix (x_eb (se_ix (sb_var 8) (x_eb se_int))) (x_eb se_int))) (x_eb se_int)))))))
    (ss_one (s_if (x_wt (sw_and (st_val (se_call (ok_may T) hr (x_ac (se_var 6) (x_ac (se_ix (sb_var 3) (x_eb se_int)) (x_ac (se_ix (sb_var 3) (x_eb se_int)) sa_nil))))) (sw_and (st_cmp notIn2_s (op_notIn2 hv) (x_eb (se_fdiv (x_eb (se_ix (x_eb (se_ix (x_eb (se_ix (sb_var 3) (x_eb se_int))) (x_eb se_int))) (x_eb se_int))) (x_eb se_int))) (sb_var 7) (by rfl)) (sw_and1 (st_cmp lt_s op_lt (x_eb (se_cb len_s call_len T.z_len (x_abc (sb_var 7) sab_nil))) (x_eb (se_ix (sb_var 6) (x_eb se_int))) (nomark _)))))) (ss_one (s_app 4 (se_add (sb_var 5) (x_eb (x_le (sl_lst (x_ac (se_tup (x_ac (se_ix (sb_var 3) (x_eb se_int)) (x_ac (se_var 6) sa_nil))) sa_nil))))) (by exact (ps_expr (pe_bm PySem.F.plainAttrs_list PySem.F.slot_list_append PySem.F.type_list_append mt_append (pv 4) (pa_cons (x_pe (K := K) (se_add (sb_var 5) (x_eb (x_le (sl_lst (x_ac (se_tup (x_ac (se_ix (sb_var 3) (x_eb se_int)) (x_ac (se_var 6) sa_nil))) sa_nil)))))) pa_nil)))))) ss_nil))))))
    (ss_one (s_frzI 4 (s_set 2 sc_ways.nd (se_var 4)))))))
    (ss_one (s_ret (se_var 2))))))⟩

abbrev N_small_parts : List Str := ["_law_script", "_law_first", "_law_skills", "_law_people", "_law_k", "_law_cell_here", "_law_own", "_law_rests", "_law_shifts", "_law_begin", "_law_both", "_law_needs"]
theorem sc_small_parts : FnScope N_small_parts ["_law_script"] (defScope s_small_parts) := ⟨rfl, rfl, rfl, by decide +kernel, rfl, by decide +kernel, by decide +kernel⟩
def b_small_parts : SS := (sSeq (sSet 1 (eCall F_cell (eCons (eVar 0) (eCons (eC (.int 0)) eNil))))
  (sSeq (sSet 2 (eList (eLstD (eCons (eCall F_name_by (eCons (eC (.int 90)) (eCons (eVar 1) eNil))) (eCons (eCall F_name_by (eCons (eC (.int 91)) (eCons (eOp gFdiv (eVarB 1) (eC (.int 3))) eNil))) eNil)))))
  (sSeq (sSetL 3 (eLstD eNil))
  (sSeq (sFor (iR1 (eCons (eOp gIx (eList (eLstD (eCons (eC (.int 2)) (eCons (eC (.int 3)) (eCons (eC (.int 1)) (eCons (eC (.int 2)) (eCons (eC (.int 3)) (eCons (eC (.int 0)) eNil)))))))) (eOp gMod (eVarB 1) (eC (.int 6)))) eNil)) (tg1 4) (sSeq (sSet 5 (eCall F_cell (eCons (eVar 0) (eCons (eOp gAdd (eC (.int 1)) (eVarB 4)) eNil))))
  (sSeq (sSet 6 (eOp gIx (eList (eLstD (eCons (eList (eLstD (eCons (eOp gIx (eVarB 2) (eC (.int 0))) (eCons (eOp gIx (eVarB 2) (eC (.int 1))) eNil)))) (eCons (eList (eLstD (eCons (eOp gIx (eVarB 2) (eC (.int 0))) eNil))) (eCons (eList (eLstD (eCons (eOp gIx (eVarB 2) (eC (.int 1))) eNil))) (eCons (eList (eLstD (eCons (eOp gIx (eVarB 2) (eC (.int 1))) (eCons (eOp gIx (eVarB 2) (eC (.int 0))) eNil)))) eNil)))))) (eOp gMod (eVarB 5) (eC (.int 4)))))
  (sSeq (sSet 7 (eOp gIx (eList (eLstD (eCons (eList (eLstD eNil)) (eCons (eList (eLstD eNil)) (eCons (eList (eLstD (eCons (eTupD (eCons (eC (.int 6)) (eCons (eC (.int 7)) eNil))) eNil))) (eCons (eList (eLstD (eCons (eTupD (eCons (eC (.int 20)) (eCons (eC (.int 30)) eNil))) eNil))) (eCons (eList (eLstD (eCons (eTupD (eCons (eC (.int 40)) (eCons (eC (.int 41)) eNil))) eNil))) eNil))))))) (eOp gMod (eOp gFdiv (eVarB 5) (eC (.int 8))) (eC (.int 5)))))
  (sApp 3 (eTupD (eCons (eCall F_name_by (eCons (eVar 4) (eCons (eVar 5) eNil))) (eCons (eVar 6) (eCons (eOp gAdd (eC (.int 1)) (eOp gMod (eOp gFdiv (eVarB 5) (eC (.int 4))) (eC (.int 2)))) (eCons (eVar 7) eNil))))))))))
  (sSeq (sSetL 8 (eLstD eNil))
  (sSeq (sFor (iR1 (eCons (eOp gMod (eOp gFdiv (eVarB 1) (eC (.int 6))) (eC (.int 3))) eNil)) (tg1 4) (sSeq (sSet 5 (eCall F_cell (eCons (eVar 0) (eCons (eOp gAdd (eC (.int 5)) (eVarB 4)) eNil))))
  (sSeq (sSet 9 (eOp gAdd (eOp gMul (eC (.int 24)) (eOp gMod (eVarB 5) (eC (.int 2)))) (eOp gMul (eC (.int 4)) (eOp gMod (eOp gFdiv (eVarB 5) (eC (.int 2))) (eC (.int 4))))))
  (sSeq (sSet 10 (eList (eLstD (eCons (eTupD (eCons (eOp gIx (eVarB 2) (eC (.int 0))) (eCons (eC (.int 1)) eNil))) (eCons (eTupD (eCons (eOp gIx (eVarB 2) (eC (.int 1))) (eCons (eC (.int 1)) eNil))) eNil)))))
  (sSeq (sSet 11 (eOp gIx (eList (eLstD (eCons (eList (eLstD (eCons (eTupD (eCons (eOp gIx (eVarB 2) (eC (.int 0))) (eCons (eC (.int 1)) eNil))) eNil))) (eCons (eList (eLstD (eCons (eTupD (eCons (eOp gIx (eVarB 2) (eC (.int 1))) (eCons (eC (.int 2)) eNil))) eNil))) (eCons (eVar 10) (eCons (eList (eLstD (eCons (eOp gIx (eVarB 10) (eC (.int 1))) (eCons (eOp gIx (eVarB 10) (eC (.int 0))) eNil)))) (eCons (eList (eLstD (eCons (eTupD (eCons (eOp gIx (eVarB 2) (eC (.int 0))) (eCons (eC (.int 2)) eNil))) eNil))) (eCons (eVar 10) eNil)))))))) (eOp gMod (eOp gFdiv (eVarB 5) (eC (.int 8))) (eC (.int 6)))))
  (sApp 8 (eTupD (eCons (eCall F_name_by (eCons (eOp gAdd (eC (.int 40)) (eVarB 4)) (eCons (eVar 5) eNil))) (eCons (eTupD (eCons (eVar 9) (eCons (eOp gAdd (eVarB 9) (eC (.int 12))) eNil))) (eCons (eVar 11) eNil))))))))))
  (sRet (eTupD (eCons (eVar 3) (eCons (eVar 8) eNil))))))))))
def F_small_parts : List PyData → Option PyData := runF N_small_parts 1 b_small_parts
theorem ok_small_parts (T : Txt K mg) : PF P w K mg base 3 "_law_small_parts" F_small_parts := by
  obtain ⟨fd, F⟩ := T.f_small_parts
  refine pf_mk (k := 2) F sc_small_parts T.g_small_parts (fun _ _ _ _ _ _ us hl => match us, hl with | [_], _ => rfl) fun cdv A outer s H E hr => ?_
  have hu := hr.units
  have hv := hv_of hr
  exact ⟨_, ((ss_cons (s_set 1 sc_small_parts.nd (se_call (ok_cell T) hr (x_ac (se_var 0) (x_ac se_int sa_nil))))
    (ss_cons (s_set 2 sc_small_parts.nd (x_le (sl_lst (x_ac (se_call (ok_name_by T) hr (x_ac se_int (x_ac (se_var 1) sa_nil))) (x_ac (se_call (ok_name_by T) hr (x_ac se_int (x_ac (se_fdiv (sb_var 1) (x_eb se_int)) sa_nil))) sa_nil)))))
    (ss_cons (s_setL 3 sc_small_parts.nd (sl_lst sa_nil))
    (ss_cons (s_for PassesOwn.never rfl (si_range1 T.z_range (x_abc (x_eb (se_ix (x_eb (x_le (sl_lst (x_ac se_int (x_ac se_int (x_ac se_int (x_ac se_int (x_ac se_int (x_ac se_int sa_nil))))))))) (x_eb (se_mod (sb_var 1) (x_eb se_int))))) sab_nil)) (pg_name (i := 4) sc_small_parts.nd rfl (by first | exact Or.inl rfl | exact Or.inr rfl)) (tg1_ok 4) (ss_cons (s_set 5 sc_small_parts.nd (se_call (ok_cell T) hr (x_ac (se_var 0) (x_ac (se_add (x_eb se_int) (sb_var 4)) sa_nil))))
    (ss_cons (s_set 6 sc_small_parts.nd (se_ix (x_eb (x_le (sl_lst (x_ac (x_le (sl_lst (x_ac (se_ix (sb_var 2) (x_eb se_int)) (x_ac (se_ix (sb_var 2) (x_eb se_int)) sa_nil)))) (x_ac (x_le (sl_lst (x_ac (se_ix (sb_var 2) (x_eb se_int)) sa_nil))) (x_ac (x_le (sl_lst (x_ac (se_ix (sb_var 2) (x_eb se_int)) sa_nil))) (x_ac (x_le (sl_lst (x_ac (se_ix (sb_var 2) (x_eb se_int)) (x_ac (se_ix (sb_var 2) (x_eb se_int)) sa_nil)))) sa_nil))))))) (x_eb (se_mod (sb_var 5) (x_eb se_int)))))
    (ss_cons (s_set 7 sc_small_parts.nd (se_ix (x_eb (x_le (sl_lst (x_ac (x_le (sl_lst sa_nil)) (x_ac (x_le (sl_lst sa_nil)) (x_ac (x_le (sl_lst (x_ac (se_tup (x_ac se_int (x_ac se_int sa_nil))) sa_nil))) (x_ac (x_le (sl_lst (x_ac (se_tup (x_ac se_int (x_ac se_int sa_nil))) sa_nil))) (x_ac (x_le (sl_lst (x_ac (se_tup (x_ac se_int (x_ac se_int sa_nil))) sa_nil))) sa_nil)))))))) (x_eb (se_mod (x_eb (se_fdiv (sb_var 5) (x_eb se_int))) (x_eb se_int)))))
    (ss_one (s_app 3 (se_tup (x_ac (se_call (ok_name_by T) hr (x_ac (se_var 4) (x_ac (se_var 5) sa_nil))) (x_ac (se_var 6) (x_ac (se_add (x_eb se_int) (x_eb (se_mod (x_eb (se_fdiv (sb_var 5) (x_eb se_int))) (x_eb se_int)))) (x_ac (se_var 7) sa_nil))))) (by exact (ps_expr (pe_bm PySem.F.plainAttrs_list PySem.F.slot_list_append PySem.F.type_list_append mt_append (pv 3) (pa_cons (x_pe (K := K) (se_tup (x_ac (se_call (ok_name_by T) hr (x_ac (se_var 4) (x_ac (se_var 5) sa_nil))) (x_ac (se_var 6) (x_ac (se_add (x_eb se_int) (x_eb (se_mod (x_eb (se_fdiv (sb_var 5) (x_eb se_int))) (x_eb se_int)))) (x_ac (se_var 7) sa_nil)))))) pa_nil))))))))))
    (ss_cons (s_setL 8 sc_small_parts.nd (sl_lst sa_nil))
    (ss_cons (s_for PassesOwn.never rfl (si_range1 T.z_range (x_abc (x_eb (se_mod (x_eb (se_fdiv (sb_var 1) (x_eb se_int))) (x_eb se_int))) sab_nil)) (pg_name (i := 4) sc_small_parts.nd rfl (by first | exact Or.inl rfl | exact Or.inr rfl)) (tg1_ok 4) (ss_cons (s_set 5 sc_small_parts.nd (se_call (ok_cell T) hr (x_ac (se_var 0) (x_ac (se_add (x_eb se_int) (sb_var 4)) sa_nil))))
    (ss_cons (s_set 9 sc_small_parts.nd (se_add (x_eb (se_mul (x_eb se_int) (x_eb (se_mod (sb_var 5) (x_eb se_int))))) (x_eb (se_mul (x_eb se_int) (x_eb (se_mod (x_eb (se_fdiv (sb_var 5) (x_eb se_int))) (x_eb se_int)))))))
    (ss_cons (s_set 10 sc_small_parts.nd (x_le (sl_lst (x_ac (se_tup (x_ac (se_ix (sb_var 2) (x_eb se_int)) (x_ac se_int sa_nil))) (x_ac (se_tup (x_ac (se_ix (sb_var 2) (x_eb se_int)) (x_ac se_int sa_nil))) sa_nil)))))
    (ss_cons (s_set 11 sc_small_parts.nd (se_ix (x_eb (x_le (sl_lst (x_ac (x_le (sl_lst (x_ac (se_tup (x_ac (se_ix (sb_var 2) (x_eb se_int)) (x_ac se_int sa_nil))) sa_nil))) (x_ac (x_le (sl_lst (x_ac (se_tup (x_ac (se_ix (sb_var 2) (x_eb se_int)) (x_ac se_int sa_nil))) sa_nil))) (x_ac (se_var 10) (x_ac (x_le (sl_lst (x_ac (se_ix (sb_var 10) (x_eb se_int)) (x_ac (se_ix (sb_var 10) (x_eb se_int)) sa_nil)))) (x_ac (x_le (sl_lst (x_ac (se_tup (x_ac (se_ix (sb_var 2) (x_eb se_int)) (x_ac se_int sa_nil))) sa_nil))) (x_ac (se_var 10) sa_nil))))))))) (x_eb (se_mod (x_eb (se_fdiv (sb_var 5) (x_eb se_int))) (x_eb se_int)))))
    (ss_one (s_app 8 (se_tup (x_ac (se_call (ok_name_by T) hr (x_ac (se_add (x_eb se_int) (sb_var 4)) (x_ac (se_var 5) sa_nil))) (x_ac (se_tup (x_ac (se_var 9) (x_ac (se_add (sb_var 9) (x_eb se_int)) sa_nil))) (x_ac (se_var 11) sa_nil)))) (by exact (ps_expr (pe_bm PySem.F.plainAttrs_list PySem.F.slot_list_append PySem.F.type_list_append mt_append (pv 8) (pa_cons (x_pe (K := K) (se_tup (x_ac (se_call (ok_name_by T) hr (x_ac (se_add (x_eb se_int) (sb_var 4)) (x_ac (se_var 5) sa_nil))) (x_ac (se_tup (x_ac (se_var 9) (x_ac (se_add (sb_var 9) (x_eb se_int)) sa_nil))) (x_ac (se_var 11) sa_nil))))) pa_nil)))))))))))
    (ss_one (s_ret (se_tup (x_ac (se_var 3) (x_ac (se_var 8) sa_nil))))))))))))⟩

end
end RK
namespace RK
open PySem PySem.Spec PyProof.Rows L2 RT
/-! ### reading methods of the book -/
section
variable {P : Program} {w : World} {K : PySem.W.Frag} {mg : Str → Option Value} {base : Heap}
theorem scB_rests_of : FnScope ["self", "name"] ["self", "name"] (defScope m_book_rests_of) := ⟨rfl, rfl, rfl, by decide +kernel, rfl, by decide +kernel, by decide +kernel⟩
theorem okB_rests_of (T : Txt K mg) {f : Addr} {fd : FuncData} (F : FunD K "rests_of" "Book.rests_of" (defArgs m_book_rests_of) (defBody m_book_rests_of) (defScope m_book_rests_of) [] [] f fd) : FnOk P w K mg base (L2.CX P w) 1 f fd ["self", "name"] (spR K fr_rests_of) := by
  refine F.ok scB_rests_of (fun vs H Q E h => ?_) (fun cdv A outer s H vs Q E hr h => ?_)
  · obtain ⟨G, R, a, β, us, ds, rfl, h1, h2, h3, h4, h5, q⟩ := h
    obtain ⟨n, rfl⟩ := s1_inv q
    rw [List.length_cons, h5.len]; rfl
  · obtain ⟨G, R, a, β, us, ds, rfl, h1, h2, h3, h4, h5, q⟩ := h
    have hu := hu_of hr
    obtain ⟨n, rfl⟩ := s1_inv q
    obtain ⟨dx, dS, dL, dR, dT, dN, pe, sh, b⟩ := h4
    obtain ⟨v, rfl, r⟩ := h5.one
    have := Bp.str (H := H) (.inl r)
    subst this
    have T' := T.bk
    have ob := h2 _ _ b.ob
    have cR := h2 _ _ b.cR
    refine ⟨_, pss_cons (ps_if (pt_cmp (pc_dnotin hu (pv 1) (pe_fld (pv 0) rfl))) (pss_one (ps_raise rfl (takes_of rfl rfl rfl rfl) (pmk_own PySem.F.excBase_ValueError T.e_Missing.x T.e_Missing.g T.e_Missing.k (raises_own T.e_Missing.b T.e_Missing.t) rfl))) pss_nil)
      (pss_one (ps_ret (pe_callTy call_list_of (by rfl) T.z_list (by decide +kernel) (pa_cons (pe_dget hu (pe_fld (pv 0) rfl) (pv 1) (fun _ _ => rfl)) pa_nil) (by decide) (by decide)))), ?_⟩
    refine ⟨_, rfl, _, rfl, a, _, dx, _, _, rfl, ob, T'.cl, T'.nR, lk_R, dR, _, rfl, DGet.k (k := Sum.inr n) cR, _, rfl, ?_⟩
    have q' : (mis (findP β n) fun p => .list (p.rests.map stD)).goes _ _ := q
    cases hp : findP β n with
    | none =>
      rw [hp] at q'
      rw [(b.noPerson hp).2.2]
      refine iteT ?_
      exact q' H G (Grow.refl h1)
    | some p =>
      rw [hp] at q'
      obtain ⟨x, hx, e1, e2, e3, e4, e5⟩ := b.person hp
      rw [e5]
      refine iteF ?_
      obtain ⟨vs, l1, l2⟩ := b.pr x hx
      refine ⟨_, rfl, a, _, dx, _, _, rfl, ob, T'.cl, T'.nR, lk_R, _, rfl, dR, _, rfl, by rw [← e5]; exact DGet.k (k := Sum.inr n) cR, x.2.2, vs, rfl, .inl (SqL.of (h2 _ _ l1)), fun l hl => ?_⟩
      rw [e1] at l2
      exact q' (.ref l) _ _ ((Grow.refl h1).new hl) (.inl (.lst upd_same (dpa_mono (Same.upd_new (Same.refl G) (h1.free hl)) _ l2)))
end
section
variable {P : Program} {w : World} {K : PySem.W.Frag} {mg : Str → Option Value} {base : Heap}
theorem scB_stretch_of : FnScope ["self", "shift"] ["self", "shift"] (defScope m_book_stretch_of) := ⟨rfl, rfl, rfl, by decide +kernel, rfl, by decide +kernel, by decide +kernel⟩
theorem okB_stretch_of (T : Txt K mg) {f : Addr} {fd : FuncData} (F : FunD K "stretch_of" "Book.stretch_of" (defArgs m_book_stretch_of) (defBody m_book_stretch_of) (defScope m_book_stretch_of) [] [] f fd) : FnOk P w K mg base (L2.CX P w) 1 f fd ["self", "shift"] (spR K fr_stretch_of) := by
  refine F.ok scB_stretch_of (fun vs H Q E h => ?_) (fun cdv A outer s H vs Q E hr h => ?_)
  · obtain ⟨G, R, a, β, us, ds, rfl, h1, h2, h3, h4, h5, q⟩ := h
    obtain ⟨n, rfl⟩ := s1_inv q
    rw [List.length_cons, h5.len]; rfl
  · obtain ⟨G, R, a, β, us, ds, rfl, h1, h2, h3, h4, h5, q⟩ := h
    have hu := hu_of hr
    obtain ⟨n, rfl⟩ := s1_inv q
    obtain ⟨dx, dS, dL, dR, dT, dN, pe, sh, b⟩ := h4
    obtain ⟨v, rfl, r⟩ := h5.one
    have := r.s
    subst this
    have T' := T.bk
    have ob := h2 _ _ b.ob
    have cT := h2 _ _ b.cT
    refine ⟨_, pss_cons (ps_if (pt_cmp (pc_dnotin hu (pv 1) (pe_fld (pv 0) rfl))) (pss_one (ps_raise rfl (takes_of rfl rfl rfl rfl) (pmk_own PySem.F.excBase_ValueError T.e_Missing.x T.e_Missing.g T.e_Missing.k (raises_own T.e_Missing.b T.e_Missing.t) rfl))) pss_nil)
      (pss_one (ps_ret (pe_dget hu (pe_fld (pv 0) rfl) (pv 1) (fun _ _ => rfl)))), ?_⟩
    refine ⟨_, rfl, _, rfl, a, _, dx, _, _, rfl, ob, T'.cl, T'.nT, lk_T, dT, _, rfl, DGet.k (k := Sum.inr n) cT, _, rfl, ?_⟩
    have q' : (mis (findS β n) fun s => stD (s.b, s.e)).goes _ _ := q
    cases hp : findS β n with
    | none =>
      rw [hp] at q'
      rw [(b.noShift hp).1]
      refine iteT ?_
      exact q' H G (Grow.refl h1)
    | some s =>
      rw [hp] at q'
      obtain ⟨x, hx, e1, e2, e3, e4⟩ := b.shift hp
      rw [e3]
      refine iteF ?_
      have hs := b.st x hx
      rw [e1] at hs
      exact ⟨_, rfl, a, _, dx, _, _, rfl, ob, T'.cl, T'.nT, lk_T, _, rfl, dT, _, rfl, by rw [← e3]; exact DGet.k (k := Sum.inr n) cT, q' _ H G (Grow.refl h1) (.inl hs)⟩
theorem F_meets_eq (a b c d : Int) : F_meets [stD (a, b), stD (c, d)] = some (.bool (meetsB (a, b) (c, d))) := by
  unfold F_meets
  rw [runF_eq]
  simp [b_meets, rho0, stD, meetsB]
  split <;> simp_all <;> omega
theorem scB_may : FnScope ["self", "name", "shift", "skill", "stretch", "rest"] ["self", "name", "shift", "skill"] (defScope m_book_may) := ⟨rfl, rfl, rfl, by decide +kernel, rfl, by decide +kernel, by decide +kernel⟩
theorem inV_strs (k : Str) (l : List Str) : inV (.str k) (l.map V.str) = decide (k ∈ l) := by
  unfold inV
  induction l with
  | nil => rfl
  | cons z l ih =>
    rw [List.map_cons, List.any_cons, ih]
    have : eqV (V.str z) (V.str k) = (z == k) := rfl
    rw [this]
    by_cases h : z = k
    · subst h
      simp
    · have h2 : ¬ k = z := fun e => h e.symm
      simp [h, h2]
theorem okB_may (T : Txt K mg) {f : Addr} {fd : FuncData} (F : FunD K "may" "Book.may" (defArgs m_book_may) (defBody m_book_may) (defScope m_book_may) [] [] f fd) : FnOk P w K mg base (L2.CX P w) 2 f fd ["self", "name", "shift", "skill"] (spR K fr_may) := by
  obtain ⟨fdR, FR⟩ := T.f_book_rests_of
  obtain ⟨fdT, FT⟩ := T.f_book_stretch_of
  have GR : FnOk P w K mg base (L2.CX P w) 1 _ fdR ["self", "name"] (spR K fr_rests_of) := okB_rests_of T FR
  have GT : FnOk P w K mg base (L2.CX P w) 1 _ fdT ["self", "shift"] (spR K fr_stretch_of) := okB_stretch_of T FT
  have bR : Binds K fdR ["self", "name"] [] := FR.bindsN fun _ _ _ _ _ _ us hl => match us, hl with | [_, _], _ => rfl
  have bT : Binds K fdT ["self", "shift"] [] := FT.bindsN fun _ _ _ _ _ _ us hl => match us, hl with | [_, _], _ => rfl
  obtain ⟨fm, fdm, psm, GM, gm, km, bm⟩ := (ok_meets (P := P) (w := w) (base := base) T).ex
  refine F.ok scB_may (fun vs H Q E h => ?_) (fun cdv A outer s H vs Q E hr h => ?_)
  · obtain ⟨G, R, a, β, us, ds, rfl, h1, h2, h3, h4, h5, q⟩ := h
    obtain ⟨n, k, l, rfl⟩ := s3_inv q
    rw [List.length_cons, h5.len]; rfl
  · obtain ⟨G, R, a, β, us, ds, rfl, h1, h2, h3, h4, h5, q⟩ := h
    have hu := hu_of hr
    obtain ⟨n, sn, k, rfl⟩ := s3_inv q
    obtain ⟨v1, v2, v3, rfl, r1, r2, r3⟩ := h5.three
    have := r1.s
    subst this
    have := r2.s
    subst this
    have := r3.s
    subst this
    have T' := T.bk
    have hm : bkNo "rests_of" := bkNo_of (by decide +kernel)
    have hm2 : bkNo "stretch_of" := bkNo_of (by decide +kernel)
    have B0 := h4
    obtain ⟨dx, dS, dL, dR, dT, dN, pe, sh, b⟩ := h4
    have ob := h2 _ _ b.ob
    have cS := h2 _ _ b.cS
    have tk : Takes (cxOf (L2.CX P w) P w K mg base ["self", "name", "shift", "skill", "stretch", "rest"] "Book.may" (defScope m_book_may) f cdv A outer s H E) (fun cls d _ H => E cls d H) := takes_of rfl rfl rfl rfl
    refine ⟨_, pss_cons (ps_set (i := 4) scB_may.nd rfl (Or.inl rfl) (pe_methW tk (pv 0) T.cl_book T.me_book_stretch_of GT hr (by decide) bT (pa_cons (pv 2) pa_nil)))
      (pss_cons (ps_for (passes_of rfl) rfl (pi_list (pe_methW tk (pv 0) T.cl_book T.me_book_rests_of GR hr (by decide) bR (pa_cons (pv 1) pa_nil))) (pg_name (i := 5) scB_may.nd rfl (Or.inl rfl))
        (pss_one (ps_if (pt_val (pe_call GM hr (by rfl) gm km bm .nil pass0 (pa_cons (pv 5) (pa_cons (pv 4) pa_nil)))) (pss_one (ps_ret pe_bl)) pss_nil)))
      (pss_one (ps_ret (pe_cmpR op_in_seq (pv 3) (pe_dget hu (pe_fld (pv 0) rfl) (pv 1) (fun _ _ => rfl)) (by rfl))))), ?_⟩
    refine ⟨_, rfl, a, dx, _, rfl, ob, hm2 _ _ _ _ _, _, rfl, ?_⟩
    refine ⟨G, R, a, β, _, [.str sn], rfl, h1, h2, h3, B0, .cons (.inl (.str sn)) .nil, ?_⟩
    show (mis (findS β sn) fun s => stD (s.b, s.e)).goes _ _
    have q2 : (match findS β sn with
      | none => .exc "Missing"
      | some sh => mis (findP β n) fun p => .bool (mayB p sh k) : Res).goes _ _ := q
    cases hS : findS β sn with
    | none =>
      rw [hS] at q2
      exact q2
    | some s0 =>
      rw [hS] at q2
      intro v4 H1 G1 g1 r4
      show gName 4 v4 _ H1 _
      refine ⟨_, rfl, a, dx, _, rfl, g1.h _ _ ob, hm _ _ _ _ _, _, rfl, ?_⟩
      refine ⟨G1, R, a, β, _, [.str n], rfl, g1.sub, h2.trans g1.h, g1.apart h2 h3, B0.mono g1.f (Same.refl R), .cons (.inl (.str n)) .nil, ?_⟩
      show (mis (findP β n) fun p => .list (p.rests.map stD)).goes _ _
      have q3 : (mis (findP β n) fun p => .bool (mayB p s0 k)).goes _ _ := q2
      cases hP : findP β n with
      | none =>
        rw [hP] at q3
        exact fun H' G' g => q3 H' G' (g1.trans g)
      | some p0 =>
        rw [hP] at q3
        have q4 : ∀ v H' G', Grow H G H' G' → Rp K G' v (.bool (mayB p0 s0 k)) → Q v H' := q3
        intro v H2 G2 g2 rv
        obtain ⟨p, vs, rfl, hp2, hA⟩ := Bp.list (G := G2) (H := H2) g2.sub (.inl rv)
        have g12 := g1.trans g2
        refine ⟨p, rfl, ⟨vs, SqL.of hp2⟩, for_list (K := K) (a := p) (xs := vs) (fun i σ H3 => ∃ (G3 : Hp) (o5 : Option V), σ = [some (.ref a), some (.str n), some (.str sn), some (.str k), some v4, o5] ∧ Grow H2 G2 H3 G3 ∧ (p0.rests.take i).any (fun r => meetsB r (s0.b, s0.e)) = false)
          ⟨G2, none, rfl, Grow.refl g2.sub, rfl⟩ (fun i σ H _ ⟨_, _, _, g, _⟩ => SqL.of (g.h _ _ hp2)) ?_ ?_⟩
        · rintro i x σ H3 hi ⟨G3, o5, rfl, g3, hj⟩
          obtain ⟨dd, hd, rx⟩ := hA.getV hi
          obtain ⟨r, hr, rfl⟩ : ∃ r, p0.rests[i]? = some r ∧ dd = stD r := by
            rw [List.getElem?_map] at hd
            cases e : p0.rests[i]? with
            | none => rw [e] at hd; cases hd
            | some r => rw [e] at hd; exact ⟨r, rfl, (Option.some.inj hd).symm⟩
          refine ⟨_, rfl, _, rfl, G3, [stD r, stD (s0.b, s0.e)], .bool (meetsB r (s0.b, s0.e)), g3.sub, .cons ((Rp.mono g3.f (.inl rx))) (.cons (r4.mono (g2.f.trans g3.f)) .nil), F_meets_eq _ _ _ _, fun v5 H4 G4 g4 r5 => ?_⟩
          refine ⟨_, r5.bl, ?_⟩
          cases hmm : meetsB r (s0.b, s0.e) with
          | true =>
            refine iteT ?_
            have e : mayB p0 s0 k = false := by
              have : (p0.rests.any fun r => meetsB r (s0.b, s0.e)) = true := List.any_eq_true.mpr ⟨r, List.mem_of_getElem? hr, hmm⟩
              simp [mayB, this]
            rw [e] at q4
            exact q4 _ H4 G4 ((g12.trans g3).trans g4) (rp_bool _)
          | false =>
            refine iteF ?_
            refine ⟨G4, _, rfl, g3.trans g4, ?_⟩
            rw [List.take_add_one, hr]
            simp [hj, hmm]
        · rintro σ H3 ⟨G3, o5, rfl, g3, hj⟩
          have hl : vs.length = p0.rests.length := by rw [hA.len, List.length_map]
          rw [hl, List.take_length] at hj
          obtain ⟨x, hx, e1, e2, e3, e4, e5⟩ := b.person hP
          have g13 := g12.trans g3
          have e : mayB p0 s0 k = decide (k ∈ p0.skills) := by simp [mayB, hj]
          rw [e] at q4
          refine ⟨_, rfl, _, rfl, a, _, dx, _, _, rfl, g13.h _ _ ob, T'.cl, T'.nS, lk_S, _, rfl, dS, _, rfl, by rw [← e3]; exact DGet.k (k := Sum.inr n) (g13.h _ _ cS), x.2.1, x.1.skills.map V.str, rfl, .inl (SqL.of (g13.h _ _ (h2 _ _ (b.ps x hx)))), rfl, by simp [flatV], ?_⟩
          have : inV (.str k) (x.1.skills.map V.str) = decide (k ∈ p0.skills) := by rw [inV_strs, e1]
          show Q (.bl (inV (.str k) (x.1.skills.map V.str))) H3
          rw [this]
          exact q4 _ H3 G3 g13 (rp_bool _)
end
section
variable {P : Program} {w : World} {K : PySem.W.Frag} {mg : Str → Option Value} {base : Heap}
theorem scB_limit_of : FnScope ["self", "name"] ["self", "name"] (defScope m_book_limit_of) := ⟨rfl, rfl, rfl, by decide +kernel, rfl, by decide +kernel, by decide +kernel⟩
theorem okB_limit_of (T : Txt K mg) {f : Addr} {fd : FuncData} (F : FunD K "limit_of" "Book.limit_of" (defArgs m_book_limit_of) (defBody m_book_limit_of) (defScope m_book_limit_of) [] [] f fd) : FnOk P w K mg base (L2.CX P w) 1 f fd ["self", "name"] (spR K fr_limit_of) := by
  refine F.ok scB_limit_of (fun vs H Q E h => ?_) (fun cdv A outer s H vs Q E hr h => ?_)
  · obtain ⟨G, R, a, β, us, ds, rfl, h1, h2, h3, h4, h5, q⟩ := h
    obtain ⟨n, rfl⟩ := s1_inv q
    rw [List.length_cons, h5.len]; rfl
  · obtain ⟨G, R, a, β, us, ds, rfl, h1, h2, h3, h4, h5, q⟩ := h
    have hu := hu_of hr
    obtain ⟨n, rfl⟩ := s1_inv q
    obtain ⟨dx, dS, dL, dR, dT, dN, pe, sh, b⟩ := h4
    obtain ⟨v, rfl, r⟩ := h5.one
    have := r.s
    subst this
    have T' := T.bk
    have ob := h2 _ _ b.ob
    have cL := h2 _ _ b.cL
    refine ⟨_, pss_cons (ps_if (pt_cmp (pc_dnotin hu (pv 1) (pe_fld (pv 0) rfl))) (pss_one (ps_raise rfl (takes_of rfl rfl rfl rfl) (pmk_own PySem.F.excBase_ValueError T.e_Missing.x T.e_Missing.g T.e_Missing.k (raises_own T.e_Missing.b T.e_Missing.t) rfl))) pss_nil)
      (pss_one (ps_ret (pe_dget hu (pe_fld (pv 0) rfl) (pv 1) (fun _ _ => rfl)))), ?_⟩
    refine ⟨_, rfl, _, rfl, a, _, dx, _, _, rfl, ob, T'.cl, T'.nL, lk_L, dL, _, rfl, DGet.k (k := Sum.inr n) cL, _, rfl, ?_⟩
    have q' : (mis (findP β n) fun p => .int p.limit).goes _ _ := q
    cases hp : findP β n with
    | none =>
      rw [hp] at q'
      rw [(b.noPerson hp).2.1]
      refine iteT ?_
      exact q' H G (Grow.refl h1)
    | some p =>
      rw [hp] at q'
      obtain ⟨x, hx, e1, e2, e3, e4, e5⟩ := b.person hp
      rw [e4]
      refine iteF ?_
      exact ⟨_, rfl, a, _, dx, _, _, rfl, ob, T'.cl, T'.nL, lk_L, _, rfl, dL, _, rfl, by rw [← e4]; exact DGet.k (k := Sum.inr n) cL, q' _ H G (Grow.refl h1) (rp_int _)⟩
theorem scB_people : FnScope ["self"] ["self"] (defScope m_book_people) := ⟨rfl, rfl, rfl, by decide +kernel, rfl, by decide +kernel, by decide +kernel⟩
theorem okB_people (T : Txt K mg) {f : Addr} {fd : FuncData} (F : FunD K "people" "Book.people" (defArgs m_book_people) (defBody m_book_people) (defScope m_book_people) [] [] f fd) : FnOk P w K mg base (L2.CX P w) 1 f fd ["self"] (spR K fr_people) := by
  refine F.ok scB_people (fun vs H Q E h => ?_) (fun cdv A outer s H vs Q E hr h => ?_)
  · obtain ⟨G, R, a, β, us, ds, rfl, h1, h2, h3, h4, h5, q⟩ := h
    have := s0_inv q
    subst this
    rw [List.length_cons, h5.len]; rfl
  · obtain ⟨G, R, a, β, us, ds, rfl, h1, h2, h3, h4, h5, q⟩ := h
    have := s0_inv q
    subst this
    cases h5
    obtain ⟨dx, dS, dL, dR, dT, dN, pe, sh, b⟩ := h4
    have T' := T.bk
    have ob := h2 _ _ b.ob
    have cS := h2 _ _ b.cS
    refine ⟨_, pss_one (ps_ret (pe_callTy (call_list_dK rfl) (by rfl) T.z_list (by decide +kernel) (pa_cons (pe_fld (pv 0) rfl) pa_nil) (by decide) (by decide))), ?_⟩
    refine ⟨_, rfl, a, _, dx, _, _, rfl, ob, T'.cl, T'.nS, lk_S, dS, kvS pe, rfl, cS, fun l hl => ?_⟩
    have e : (kvS pe).map (fun kv => kV kv.1) = (β.people.map fun p => p.name).map V.str := by
      unfold kvS
      rw [← b.pn, List.map_map, List.map_map, List.map_map]
      rfl
    rw [e]
    have q' : ∀ v H' G', Grow H G H' G' → Rp K G' v (.list (β.people.map fun p => .str p.name)) → Q v H' := q
    refine q' (.ref l) _ _ ((Grow.refl h1).new hl) (.inl (.lst upd_same ?_))
    have e2 : (β.people.map fun p => PyData.str p.name) = (β.people.map fun p => p.name).map PyData.str := by rw [List.map_map]; rfl
    rw [e2]
    exact dq_strs _
theorem scB_shifts : FnScope ["self"] ["self"] (defScope m_book_shifts) := ⟨rfl, rfl, rfl, by decide +kernel, rfl, by decide +kernel, by decide +kernel⟩
theorem okB_shifts (T : Txt K mg) {f : Addr} {fd : FuncData} (F : FunD K "shifts" "Book.shifts" (defArgs m_book_shifts) (defBody m_book_shifts) (defScope m_book_shifts) [] [] f fd) : FnOk P w K mg base (L2.CX P w) 1 f fd ["self"] (spR K fr_shifts) := by
  refine F.ok scB_shifts (fun vs H Q E h => ?_) (fun cdv A outer s H vs Q E hr h => ?_)
  · obtain ⟨G, R, a, β, us, ds, rfl, h1, h2, h3, h4, h5, q⟩ := h
    have := s0_inv q
    subst this
    rw [List.length_cons, h5.len]; rfl
  · obtain ⟨G, R, a, β, us, ds, rfl, h1, h2, h3, h4, h5, q⟩ := h
    have := s0_inv q
    subst this
    cases h5
    obtain ⟨dx, dS, dL, dR, dT, dN, pe, sh, b⟩ := h4
    have T' := T.bk
    have ob := h2 _ _ b.ob
    have cN := h2 _ _ b.cN
    refine ⟨_, pss_one (ps_ret (pe_callTy (call_list_dK rfl) (by rfl) T.z_list (by decide +kernel) (pa_cons (pe_fld (pv 0) rfl) pa_nil) (by decide) (by decide))), ?_⟩
    refine ⟨_, rfl, a, _, dx, _, _, rfl, ob, T'.cl, T'.nN, lk_N, dN, kvN sh, rfl, cN, fun l hl => ?_⟩
    have e : (kvN sh).map (fun kv => kV kv.1) = (β.shifts.map fun p => p.name).map V.str := by
      unfold kvN
      rw [← b.sn, List.map_map, List.map_map, List.map_map]
      rfl
    rw [e]
    have q' : ∀ v H' G', Grow H G H' G' → Rp K G' v (.list (β.shifts.map fun p => .str p.name)) → Q v H' := q
    refine q' (.ref l) _ _ ((Grow.refl h1).new hl) (.inl (.lst upd_same ?_))
    have e2 : (β.shifts.map fun p => PyData.str p.name) = (β.shifts.map fun p => p.name).map PyData.str := by rw [List.map_map]; rfl
    rw [e2]
    exact dq_strs _
theorem scB_count_of : FnScope ["self", "shift", "skill"] ["self", "shift", "skill"] (defScope m_book_count_of) := ⟨rfl, rfl, rfl, by decide +kernel, rfl, by decide +kernel, by decide +kernel⟩
theorem valV_kvC (s : Shift) (k : Str) : valV (kvC s.needs) (Sum.inr k) = (needOf s k).map V.int := by
  unfold kvC needOf
  rw [valV_map (fun x : Str × Int => x.1) (fun x => V.int x.2), Option.map_map]
  rfl
theorem okB_count_of (T : Txt K mg) {f : Addr} {fd : FuncData} (F : FunD K "count_of" "Book.count_of" (defArgs m_book_count_of) (defBody m_book_count_of) (defScope m_book_count_of) [] [] f fd) : FnOk P w K mg base (L2.CX P w) 1 f fd ["self", "shift", "skill"] (spR K fr_count_of) := by
  refine F.ok scB_count_of (fun vs H Q E h => ?_) (fun cdv A outer s H vs Q E hr h => ?_)
  · obtain ⟨G, R, a, β, us, ds, rfl, h1, h2, h3, h4, h5, q⟩ := h
    obtain ⟨n, k, rfl⟩ := s2_inv q
    rw [List.length_cons, h5.len]; rfl
  · obtain ⟨G, R, a, β, us, ds, rfl, h1, h2, h3, h4, h5, q⟩ := h
    have hu := hu_of hr
    obtain ⟨n, k, rfl⟩ := s2_inv q
    obtain ⟨dx, dS, dL, dR, dT, dN, pe, sh, b⟩ := h4
    obtain ⟨v, u, rfl, r, r2⟩ := h5.two
    have := r.s
    subst this
    have := r2.s
    subst this
    have T' := T.bk
    have ob := h2 _ _ b.ob
    have cN := h2 _ _ b.cN
    refine ⟨_, pss_cons (ps_if (pw_or (pt_cmp (pc_dnotin hu (pv 1) (pe_fld (pv 0) rfl))) (pw_or1 (pt_cmp (pc_dnotin hu (pv 2) (pe_dget hu (pe_fld (pv 0) rfl) (pv 1) (fun _ _ => rfl)))))).pt (pss_one (ps_raise rfl (takes_of rfl rfl rfl rfl) (pmk_own PySem.F.excBase_ValueError T.e_Missing.x T.e_Missing.g T.e_Missing.k (raises_own T.e_Missing.b T.e_Missing.t) rfl))) pss_nil)
      (pss_one (ps_ret (pe_dget hu (pe_dget hu (pe_fld (pv 0) rfl) (pv 1) (fun _ _ => rfl)) (pv 2) (fun _ _ => rfl)))), ?_⟩
    refine ⟨_, rfl, _, rfl, a, _, dx, _, _, rfl, ob, T'.cl, T'.nN, lk_N, dN, _, rfl, DGet.k (k := Sum.inr n) cN, _, rfl, ?_⟩
    have q' : (mis ((findS β n).bind fun s => needOf s k) .int).goes _ _ := q
    cases hp : findS β n with
    | none =>
      rw [hp] at q'
      rw [(b.noShift hp).2]
      refine iteT ?_
      exact q' H G (Grow.refl h1)
    | some s0 =>
      rw [hp] at q'
      obtain ⟨x, hx, e1, e2, e3, e4⟩ := b.shift hp
      rw [e4]
      refine iteF ?_
      have hc := h2 _ _ (b.sc x hx)
      rw [e1] at hc
      refine ⟨_, rfl, _, rfl, a, _, dx, _, _, rfl, ob, T'.cl, T'.nN, lk_N, _, rfl, dN, .ref x.2.2, rfl, by rw [← e4]; exact DGet.k (k := Sum.inr n) cN, ?_⟩
      refine ⟨x.2.2, _, rfl, DGet.k (k := Sum.inr k) hc, _, rfl, ?_⟩
      rw [valV_kvC]
      cases hk : needOf s0 k with
      | none =>
        have q2 : (mis (needOf s0 k) PyData.int).goes _ _ := q'
        rw [hk] at q2
        refine iteT ?_
        exact q2 H G (Grow.refl h1)
      | some c =>
        have q2 : (mis (needOf s0 k) PyData.int).goes _ _ := q'
        rw [hk] at q2
        refine iteF ?_
        refine ⟨_, rfl, a, _, dx, _, _, rfl, ob, T'.cl, T'.nN, lk_N, _, rfl, dN, .ref x.2.2, rfl, by rw [← e4]; exact DGet.k (k := Sum.inr n) cN, ?_⟩
        refine ⟨_, rfl, x.2.2, .int c, rfl, ?_, q2 _ H G (Grow.refl h1) (rp_int _)⟩
        have : valV (kvC s0.needs) (Sum.inr k) = some (.int c) := by rw [valV_kvC, hk]; rfl
        rw [← this]
        exact DGet.k (k := Sum.inr k) hc
end
section
variable {P : Program} {w : World} {K : PySem.W.Frag} {mg : Str → Option Value} {base : Heap}
theorem upd_comm2 {H : Hp} {a b : Addr} {o u : HO} (h : a ≠ b) : upd (upd H a o) b u = upd (upd H b u) a o := by
  funext c
  unfold upd
  by_cases h1 : c = b
  · rw [if_pos h1, if_neg (fun z => h (z.symm.trans h1)), if_pos h1]
  · rw [if_neg h1]
    by_cases h2 : c = a
    · rw [if_pos h2, if_pos h2]
    · rw [if_neg h2, if_neg h2, if_neg h1]
theorem upd_back {H : Hp} {a : Addr} {o u : HO} (h : H a = some u) : upd (upd H a o) a u = H := by
  funext c
  unfold upd
  by_cases h1 : c = a
  · rw [if_pos h1, h1, h]
  · rw [if_neg h1, if_neg h1]
theorem scB_posts : FnScope ["self", "found", "shift", "skill"] ["self"] (defScope m_book_posts) := ⟨rfl, rfl, rfl, by decide +kernel, rfl, by decide +kernel, by decide +kernel⟩
theorem okB_posts (T : Txt K mg) {f : Addr} {fd : FuncData} (F : FunD K "posts" "Book.posts" (defArgs m_book_posts) (defBody m_book_posts) (defScope m_book_posts) [] [] f fd) : FnOk P w K mg base (L2.CX P w) 1 f fd ["self"] (spR K fr_posts) := by
  refine F.ok scB_posts (fun vs H Q E h => ?_) (fun cdv A outer s H vs Q E hr h => ?_)
  · obtain ⟨G, R, a, β, us, ds, rfl, h1, h2, h3, h4, h5, q⟩ := h
    have := s0_inv q
    subst this
    rw [List.length_cons, h5.len]; rfl
  · obtain ⟨G, R, a, β, us, ds, rfl, h1, h2, h3, h4, h5, q⟩ := h
    have hu := hu_of hr
    have := s0_inv q
    subst this
    cases h5
    obtain ⟨dx, dS, dL, dR, dT, dN, pe, sh, b⟩ := h4
    have T' := T.bk
    have ob := h2 _ _ b.ob
    have cN := h2 _ _ b.cN
    refine ⟨_, pss_cons (ps_set (i := 1) scB_posts.nd rfl (Or.inl rfl) (pe_lst pa_nil))
      (pss_cons (ps_lock (ps_for (passes_of rfl) rfl (pi_keys (pe_fld (pv 0) rfl)) (pg_name (i := 2) scB_posts.nd rfl (Or.inl rfl))
        (pss_one (ps_lock (ps_for (passes_of rfl) rfl (pi_keys (pe_dget hu (pe_fld (pv 0) rfl) (pv 2) (fun _ _ => rfl))) (pg_name (i := 3) scB_posts.nd rfl (Or.inl rfl))
          (pss_one (ps_expr (pe_bm PySem.F.plainAttrs_list PySem.F.slot_list_append PySem.F.type_list_append mt_append (pv 1) (pa_cons (pe_tup (pa_cons (pv 2) (pa_cons (pv 3) pa_nil))) pa_nil)))))))))
      (pss_one (ps_ret (pv 1)))), ?_⟩
    refine ⟨by decide, fun p hp => ?_⟩
    have adN := ne_of ob cN (by intro z; cases z)
    have apa := ne_of_none ob hp
    have pN := ne_of_none cN hp
    refine ⟨dN, .dK (kvN sh), by rw [upd_ne pN]; exact cN, trivial, fun od => ?_⟩
    refine ⟨_, rfl, a, _, dx, _, _, rfl, by rw [upd_ne adN, upd_ne apa]; exact ob, T'.cl, T'.nN, lk_N, dN, od, rfl, .inl ⟨kvN sh, upd_same, ?_⟩⟩
    refine for_keys (d := dN) (o := od) (kvs := kvN sh) (fun i σ H3 => ∃ (Hu Gu : Hp) (acc : List V) (s2 s3 : Option V), σ = [some (.ref a), some (.ref p), s2, s3] ∧ H3 = upd Hu dN (.frz od (.dK (kvN sh))) ∧ Grow H G Hu Gu ∧ Hu p = some (.lst acc) ∧ Gu p = none ∧ acc.length ≤ 1000 * i ∧
      DqAll K Gu acc (((sh.take i).flatMap fun x => x.1.needs.map fun n => (x.1.name, n.1)).map postD))
      ⟨upd H p (.lst []), G, [], none, none, rfl, rfl, (Grow.refl h1).beside hp, upd_same, h1.free hp, Nat.zero_le _, .nil⟩ (fun i σ H3 _ h => by obtain ⟨_, _, _, _, _, _, rfl, _⟩ := h; exact upd_same) ?_ ?_
    · rintro i k v σ H3 hi ⟨Hu, Gu, acc, s2, s3, rfl, rfl, g, hpu, gpu, hl, hA⟩
      unfold kvN at hi
      rw [List.getElem?_map] at hi
      cases hx : sh[i]? with
      | none => rw [hx] at hi; cases hi
      | some x =>
      rw [hx] at hi
      cases hi
      have hxm := List.mem_of_getElem? hx
      have hc := g.h _ _ (h2 _ _ (b.sc x hxm))
      have cNu := g.h _ _ cN
      have obu := g.h _ _ ob
      have nCN : x.2.2 ≠ dN := fun z => b.nn x hxm (by rw [z]; simp)
      have nCp : x.2.2 ≠ p := ne_of hc hpu (by intro z; cases z)
      have naC := ne_of obu hc (by intro z; cases z)
      obtain ⟨y, hy, y1, y2, y3, y4⟩ := b.shift (n := x.1.name) (s := x.1) (by
        have nodup := b.us
        unfold findS
        rw [← b.sn] at nodup ⊢
        cases hf : (sh.map (·.1)).find? fun s => decide (s.name = x.1.name) with
        | none => rw [List.find?_eq_none] at hf; exact absurd (decide_eq_true rfl) (hf x.1 (List.mem_map_of_mem hxm))
        | some z =>
          have e1 := List.mem_of_find?_eq_some hf
          have e2 : z.name = x.1.name := of_decide_eq_true (by simpa using List.find?_some hf)
          rw [nodup_inj nodup e1 (List.mem_map_of_mem hxm) e2])
      have exy : y = x := nodup_inj (f := fun x : Shift × Addr × Addr => x.1.name) b.snames hy hxm (by rw [y1])
      subst exy
      refine ⟨y.2.2, .dK (kvC y.1.needs), by rw [upd_ne nCN]; exact hc, trivial, fun od2 => ?_⟩
      refine ⟨_, rfl, a, _, dx, _, _, rfl, by rw [upd_ne naC, upd_ne adN]; exact obu, T'.cl, T'.nN, lk_N, _, rfl, dN, .ref y.2.2, rfl, .inl ⟨kvN sh, Sum.inr y.1.name, .inr ⟨od, by rw [upd_ne (Ne.symm nCN)]; exact upd_same⟩, rfl, y4.symm⟩, y.2.2, od2, rfl, .inl ⟨kvC y.1.needs, upd_same, ?_⟩⟩
      refine for_keys (d := y.2.2) (o := od2) (kvs := kvC y.1.needs) (fun j σ H4 => ∃ (Hv Gv : Hp) (acc : List V) (s3 : Option V), σ = [some (.ref a), some (.ref p), some (.str y.1.name), s3] ∧ H4 = upd (upd Hv dN (.frz od (.dK (kvN sh)))) y.2.2 (.frz od2 (.dK (kvC y.1.needs))) ∧ Grow H G Hv Gv ∧ Hv p = some (.lst acc) ∧ Gv p = none ∧ acc.length ≤ 1000 * i + j ∧
        DqAll K Gv acc ((((sh.take i).flatMap fun x => x.1.needs.map fun n => (x.1.name, n.1)) ++ (y.1.needs.take j).map fun n => (y.1.name, n.1)).map postD))
        ⟨Hu, Gu, acc, _, rfl, rfl, g, hpu, gpu, hl, by simpa using hA⟩ (fun j σ H3 _ h => by obtain ⟨_, _, _, _, _, rfl, _⟩ := h; exact upd_same) ?_ ?_
      · rintro j k v σ H4 hj ⟨Hv, Gv, acc2, s3', rfl, rfl, g2, hpv, gpv, hl2, hA2⟩
        unfold kvC at hj
        rw [List.getElem?_map] at hj
        cases hn : y.1.needs[j]? with
        | none => rw [hn] at hj; cases hj
        | some nd =>
        rw [hn] at hj
        cases hj
        have npN : p ≠ dN := Ne.symm pN
        have npC : p ≠ y.2.2 := Ne.symm nCp
        have hp4 : (upd (upd Hv dN (.frz od (.dK (kvN sh)))) y.2.2 (.frz od2 (.dK (kvC y.1.needs)))) p = some (.lst acc2) := by rw [upd_ne npC, upd_ne npN]; exact hpv
        refine ⟨.ref p, rfl, .inl ⟨rfl, acc2, SqL.of hp4⟩, _, rfl, _, rfl, by show 2 ≤ sizeLine; decide, fun t ht => ?_⟩
        have htC : t ≠ y.2.2 := fun z => by rw [z, upd_same] at ht; cases ht
        rw [upd_ne htC] at ht
        have htN : t ≠ dN := fun z => by rw [z, upd_same] at ht; cases ht
        rw [upd_ne htN] at ht
        have htp : p ≠ t := ne_of_none hpv ht
        have jl : j < y.1.needs.length := (List.getElem?_eq_some_iff.mp hn).1
        have il : i < sh.length := (List.getElem?_eq_some_iff.mp hx).1
        have s1000 := (b.sz.2.2.2 y.1 (by rw [← b.sn]; exact List.mem_map_of_mem hxm))
        have s1000' : sh.length ≤ 1000 := by
          have := congrArg List.length b.sn
          rw [List.length_map] at this
          rw [this]
          exact b.sz.2.1
        refine ⟨p, acc2, .ref t, rfl, rfl, by rw [upd_ne htp]; exact hp4, Nat.lt_of_le_of_lt (show acc2.length ≤ 2000000 by omega) (by decide), ?_⟩
        have gn := g2.new (o := .tup [.str y.1.name, .str nd.1]) ht
        refine ⟨upd (upd Hv t (.tup [.str y.1.name, .str nd.1])) p (.lst (acc2 ++ [.ref t])), upd Gv t (.tup [.str y.1.name, .str nd.1]), acc2 ++ [.ref t], _, rfl, ?_, ⟨fun c o e => ?_, gn.f, fun c o e => ?_, gn.no⟩, upd_same, ?_, ?_, ?_⟩
        · rw [upd_comm2 (a := y.2.2) (b := t) (Ne.symm htC), upd_comm2 (a := dN) (b := t) (Ne.symm htN), upd_comm2 (a := y.2.2) (b := p) nCp, upd_comm2 (a := dN) (b := p) pN]
          rfl
        · rw [upd_ne (ne_of_none e hp)]; exact gn.h c o e
        · rw [upd_ne (ne_of_none e (by rw [upd_ne htp]; exact gpv))]; exact gn.sub c o e
        · rw [upd_ne htp]; exact gpv
        · rw [List.length_append, List.length_singleton]; omega
        · have e : ((((sh.take i).flatMap fun x => x.1.needs.map fun n => (x.1.name, n.1)) ++ (y.1.needs.take (j + 1)).map fun n => (y.1.name, n.1)).map postD) = ((((sh.take i).flatMap fun x => x.1.needs.map fun n => (x.1.name, n.1)) ++ (y.1.needs.take j).map fun n => (y.1.name, n.1)).map postD) ++ [postD (y.1.name, nd.1)] := by
            rw [List.take_add_one, hn]
            simp only [Option.toList_some, List.map_append, List.map_cons, List.map_nil, List.append_assoc]
          rw [e]
          refine (dpa_mono (Same.upd_new (Same.refl Gv) (g2.sub.free ht)) _ hA2).append (.cons ?_ .nil)
          exact .tup (.inl (.inl upd_same)) (.cons (.str _) (.cons (.str _) .nil))
      · rintro σ H4 ⟨Hv, Gv, acc2, s3', rfl, rfl, g2, hpv, gpv, hl2, hA2⟩
        have hl3 : (kvC y.1.needs).length = y.1.needs.length := by unfold kvC; rw [List.length_map]
        have s1000 := (b.sz.2.2.2 y.1 (by rw [← b.sn]; exact List.mem_map_of_mem hxm))
        refine ⟨upd_same, Hv, Gv, acc2, _, _, rfl, ?_, g2, hpv, gpv, by omega, ?_⟩
        · rw [upd_back]
          rw [upd_ne nCN]
          exact g2.h _ _ (h2 _ _ (b.sc y hxm))
        · rw [hl3, List.take_length] at hA2
          rw [List.take_add_one, hx]
          simpa using hA2
    · rintro σ H3 ⟨Hu, Gu, acc, s2, s3, rfl, rfl, g, hpu, gpu, hl, hA⟩
      refine ⟨upd_same, _, rfl, ?_⟩
      rw [upd_back (g.h _ _ cN)]
      have hl3 : (kvN sh).length = sh.length := by unfold kvN; rw [List.length_map]
      rw [hl3, List.take_length] at hA
      have q' : ∀ v H' G', Grow H G H' G' → Rp K G' v (.list ((postsB β).map postD)) → Q v H' := q
      refine q' (.ref p) Hu (upd Gu p (.lst acc)) (g.within hp gpu hpu) (.inl (.lst upd_same ?_))
      have e : postsB β = sh.flatMap fun x => x.1.needs.map fun n => (x.1.name, n.1) := by
        unfold postsB
        rw [← b.sn, List.flatMap_map]
      rw [e]
      exact dpa_mono (Same.upd_new (Same.refl Gu) gpu) _ hA
end
end RK
namespace RK
open PySem PySem.Spec PyProof.Rows L2 RT
/-! ### methods that change the book -/
section
variable {P : Program} {w : World} {K : PySem.W.Frag} {mg : Str → Option Value} {base : Heap}
theorem putF_book (dS dL dR dT dN : Addr) : putF "needs" (.ref dN) (putF "stretches" (.ref dT) (putF "rests" (.ref dR) (putF "limits" (.ref dL) (putF "skills" (.ref dS) [])))) = bkFs dS dL dR dT dN := by
  have h : ∀ {a b : Str} {v : V}, (a == b) = false → ¬ a = b := fun h e => by rw [e] at h; simp at h
  have h1 : ¬ (("skills" : Str) = "limits") := by decide +kernel
  have h2 : ¬ (("skills" : Str) = "rests") := by decide +kernel
  have h3 : ¬ (("skills" : Str) = "stretches") := by decide +kernel
  have h4 : ¬ (("skills" : Str) = "needs") := by decide +kernel
  have h5 : ¬ (("limits" : Str) = "rests") := by decide +kernel
  have h6 : ¬ (("limits" : Str) = "stretches") := by decide +kernel
  have h7 : ¬ (("limits" : Str) = "needs") := by decide +kernel
  have h8 : ¬ (("rests" : Str) = "stretches") := by decide +kernel
  have h9 : ¬ (("rests" : Str) = "needs") := by decide +kernel
  have h10 : ¬ (("stretches" : Str) = "needs") := by decide +kernel
  simp [putF, bkFs, h1, h2, h3, h4, h5, h6, h7, h8, h9, h10]
theorem putF_lt {f : Str} {v : V} {n : Nat} : ∀ {fs : List (Str × V)}, fs.length < n → (putF f v fs).length < n + 1
  | [], h => by simp only [putF, List.length_cons, List.length_nil] at h ⊢; omega
  | (g, x) :: r, h => by
    simp only [putF]
    split
    · simp only [List.length_cons] at h ⊢; omega
    · have := putF_lt (f := f) (v := v) (n := n - 1) (fs := r) (by simp only [List.length_cons] at h; omega)
      simp only [List.length_cons] at h ⊢; omega
theorem scB_init : FnScope ["self"] ["self"] (defScope m_book_init) := ⟨rfl, rfl, rfl, by decide +kernel, rfl, by decide +kernel, by decide +kernel⟩
theorem okB_init (T : Txt K mg) {f : Addr} {fd : FuncData} (F : FunD K "__init__" "Book.__init__" (defArgs m_book_init) (defBody m_book_init) (defScope m_book_init) [] [] f fd) : FnOk P w K mg base CX0 1 f fd ["self"] (spInit K) := by
  refine F.ok scB_init (fun vs H Q E h => ?_) (fun cdv A outer s H vs Q E hr h => ?_)
  · obtain ⟨p, dx, rfl, _⟩ := h
    rfl
  · obtain ⟨p, dx, rfl, hp, hx, k⟩ := h
    have T' := T.bk
    refine ⟨_, pss_cons (ps_fld (pv 0) pe_dnewK rfl) (pss_cons (ps_fld (pv 0) pe_dnewK rfl) (pss_cons (ps_fld (pv 0) pe_dnewK rfl) (pss_cons (ps_fld (pv 0) pe_dnewK rfl) (pss_one (ps_fld (pv 0) pe_dnewK rfl))))), ?_⟩
    have npx : p ≠ dx := ne_of hp hx (by intro z; cases z)
    intro dS hS
    have nS : p ≠ dS := ne_of_none hp hS
    refine ⟨_, rfl, p, _, dx, [], rfl, by rw [upd_ne nS]; exact hp, T'.cl, T'.nS, by decide, ?_⟩
    intro dL hL
    have nL : p ≠ dL := ne_of_none (H := upd (upd H dS (.dK [])) p _) upd_same hL
    refine ⟨_, rfl, p, _, dx, _, rfl, by rw [upd_ne nL]; exact upd_same, T'.cl, T'.nL, Nat.lt_of_lt_of_le (putF_lt (n := 1) (by decide)) (by decide), ?_⟩
    intro dR hR
    have nR : p ≠ dR := ne_of_none (H := upd (upd (upd (upd H dS (.dK [])) p _) dL (.dK [])) p _) upd_same hR
    refine ⟨_, rfl, p, _, dx, _, rfl, by rw [upd_ne nR]; exact upd_same, T'.cl, T'.nR, Nat.lt_of_lt_of_le (putF_lt (n := 2) (putF_lt (n := 1) (by decide))) (by decide), ?_⟩
    intro dT hT
    have nT : p ≠ dT := ne_of_none (H := upd (upd (upd (upd (upd (upd H dS (.dK [])) p _) dL (.dK [])) p _) dR (.dK [])) p _) upd_same hT
    refine ⟨_, rfl, p, _, dx, _, rfl, by rw [upd_ne nT]; exact upd_same, T'.cl, T'.nT, Nat.lt_of_lt_of_le (putF_lt (n := 3) (putF_lt (n := 2) (putF_lt (n := 1) (by decide)))) (by decide), ?_⟩
    intro dN hN
    have nN : p ≠ dN := ne_of_none (H := upd (upd (upd (upd (upd (upd (upd (upd H dS (.dK [])) p _) dL (.dK [])) p _) dR (.dK [])) p _) dT (.dK [])) p _) upd_same hN
    refine ⟨_, rfl, p, _, dx, _, rfl, by rw [upd_ne nN]; exact upd_same, T'.cl, T'.nN, Nat.lt_of_lt_of_le (putF_lt (n := 4) (putF_lt (n := 3) (putF_lt (n := 2) (putF_lt (n := 1) (by decide))))) (by decide), ?_⟩
    have a1 : H dL = none ∧ dL ≠ dS := by
      rw [upd_ne (Ne.symm nL)] at hL
      by_cases e : dL = dS
      · rw [e, upd_same] at hL; cases hL
      · rw [upd_ne e] at hL; exact ⟨hL, e⟩
    have a2 : H dR = none ∧ dR ≠ dS ∧ dR ≠ dL := by
      rw [upd_ne (Ne.symm nR)] at hR
      by_cases e : dR = dL
      · rw [e, upd_same] at hR; cases hR
      · rw [upd_ne e, upd_ne (Ne.symm nR)] at hR
        by_cases e2 : dR = dS
        · rw [e2, upd_same] at hR; cases hR
        · rw [upd_ne e2] at hR; exact ⟨hR, e2, e⟩
    have a3 : H dT = none ∧ dT ≠ dS ∧ dT ≠ dL ∧ dT ≠ dR := by
      rw [upd_ne (Ne.symm nT)] at hT
      by_cases e : dT = dR
      · rw [e, upd_same] at hT; cases hT
      · rw [upd_ne e, upd_ne (Ne.symm nT)] at hT
        by_cases e2 : dT = dL
        · rw [e2, upd_same] at hT; cases hT
        · rw [upd_ne e2, upd_ne (Ne.symm nT)] at hT
          by_cases e3 : dT = dS
          · rw [e3, upd_same] at hT; cases hT
          · rw [upd_ne e3] at hT; exact ⟨hT, e3, e2, e⟩
    have a4 : H dN = none ∧ dN ≠ dS ∧ dN ≠ dL ∧ dN ≠ dR ∧ dN ≠ dT := by
      rw [upd_ne (Ne.symm nN)] at hN
      by_cases e : dN = dT
      · rw [e, upd_same] at hN; cases hN
      · rw [upd_ne e, upd_ne (Ne.symm nN)] at hN
        by_cases e2 : dN = dR
        · rw [e2, upd_same] at hN; cases hN
        · rw [upd_ne e2, upd_ne (Ne.symm nN)] at hN
          by_cases e3 : dN = dL
          · rw [e3, upd_same] at hN; cases hN
          · rw [upd_ne e3, upd_ne (Ne.symm nN)] at hN
            by_cases e4 : dN = dS
            · rw [e4, upd_same] at hN; cases hN
            · rw [upd_ne e4] at hN; exact ⟨hN, e4, e3, e2, e⟩
    obtain ⟨hL0, b1⟩ := a1
    obtain ⟨hR0, b2, b3⟩ := a2
    obtain ⟨hT0, b4, b5, b6⟩ := a3
    obtain ⟨hN0, b7, b8, b9, b10⟩ := a4
    have cS : dx ≠ dS := ne_of_none hx hS
    have cL : dx ≠ dL := ne_of_none hx hL0
    have cR : dx ≠ dR := ne_of_none hx hR0
    have cT : dx ≠ dT := ne_of_none hx hT0
    have cN : dx ≠ dN := ne_of_none hx hN0
    rw [putF_book]
    refine k _ (upd (upd (upd (upd (upd (upd (upd (fun _ => none) dx (.own p)) dS (.dK [])) dL (.dK [])) dR (.dK [])) dT (.dK [])) dN (.dK [])) p (.ins (He.ga K "Book") dx (bkFs dS dL dR dT dN))) (fun b o hb e => ?_) (fun b o e => ?_) (fun b e => ?_) (fun F => ?_)
    · have h1 := ne_of_none e hS
      have h2 := ne_of_none e hL0
      have h3 := ne_of_none e hR0
      have h4 := ne_of_none e hT0
      have h5 := ne_of_none e hN0
      simp only [upd, hb, h1, h2, h3, h4, h5, if_false]
      exact e
    · unfold upd at e ⊢
      by_cases q0 : b = p
      · rw [if_pos q0] at e ⊢; exact e
      · rw [if_neg q0] at e ⊢
        by_cases q5 : b = dN
        · rw [if_pos q5] at e ⊢; exact e
        · rw [if_neg q5] at e ⊢
          rw [if_neg q0]
          by_cases q4 : b = dT
          · rw [if_pos q4] at e ⊢; exact e
          · rw [if_neg q4] at e ⊢
            rw [if_neg q0]
            by_cases q3 : b = dR
            · rw [if_pos q3] at e ⊢; exact e
            · rw [if_neg q3] at e ⊢
              rw [if_neg q0]
              by_cases q2 : b = dL
              · rw [if_pos q2] at e ⊢; exact e
              · rw [if_neg q2] at e ⊢
                rw [if_neg q0]
                by_cases q1 : b = dS
                · rw [if_pos q1] at e ⊢; exact e
                · rw [if_neg q1] at e ⊢
                  by_cases q6 : b = dx
                  · rw [if_pos q6] at e
                    rw [q6, hx]
                    exact e
                  · rw [if_neg q6] at e; cases e
    · unfold upd at e
      by_cases q0 : b = p
      · exact .inl q0
      · by_cases q6 : b = dx
        · exact .inr (.inl q6)
        · refine .inr (.inr ?_)
          by_cases q5 : b = dN
          · rw [q5]; exact hN0
          · by_cases q4 : b = dT
            · rw [q4]; exact hT0
            · by_cases q3 : b = dR
              · rw [q3]; exact hR0
              · by_cases q2 : b = dL
                · rw [q2]; exact hL0
                · by_cases q1 : b = dS
                  · rw [q1]; exact hS
                  · exact absurd (by rw [if_neg q0, if_neg q5, if_neg q4, if_neg q3, if_neg q2, if_neg q1, if_neg q6]) e
    · refine ⟨dx, dS, dL, dR, dT, dN, [], [], { pn := rfl, sn := rfl, ob := upd_same, ow := ?_, cS := ?_, cL := ?_, cR := ?_, cT := ?_, cN := ?_, nd := ?_, ps := fun _ h => absurd h List.not_mem_nil, pr := fun _ h => absurd h List.not_mem_nil, st := fun _ h => absurd h List.not_mem_nil, sc := fun _ h => absurd h List.not_mem_nil, rn := List.nodup_nil, rs := fun _ h => absurd h List.not_mem_nil, nn := fun _ h => absurd h List.not_mem_nil, un := List.nodup_nil, us := List.nodup_nil, sz := ⟨by decide, by decide, fun _ h => absurd h List.not_mem_nil, fun _ h => absurd h List.not_mem_nil⟩ }⟩
      · simp [upd, Ne.symm npx, cS, cL, cR, cT, cN]
      · simp [upd, Ne.symm nS, Ne.symm b1, Ne.symm b2, Ne.symm b4, Ne.symm b7, kvS]
      · simp [upd, Ne.symm nL, Ne.symm b3, Ne.symm b5, Ne.symm b8, kvL]
      · simp [upd, Ne.symm nR, Ne.symm b6, Ne.symm b9, kvR]
      · simp [upd, Ne.symm nT, Ne.symm b10, kvT]
      · simp [upd, Ne.symm nN, kvN]
      · simp [Ne.symm b1, Ne.symm b2, Ne.symm b4, Ne.symm b7, Ne.symm b3, Ne.symm b5, Ne.symm b8, Ne.symm b6, Ne.symm b9, Ne.symm b10]
end
end RK
namespace RK
open PySem PySem.Spec PyProof.Rows L2 RT
section
variable {P : Program} {w : World} {K : PySem.W.Frag} {mg : Str → Option Value} {base : Heap}
/-- whether a value is a stretch; which -/
def isSt (d : PyData) : Option (Option (Int × Int)) := match F_is_stretch [d] with
  | some (.bool false) => some none
  | some (.bool true) => (match d with
    | .tuple [.int x, .int y] => some (some (x, y))
    | _ => none)
  | _ => none
theorem isSt_none {d : PyData} (h : isSt d = some none) : F_is_stretch [d] = some (.bool false) := by
  unfold isSt at h
  split at h
  · assumption
  · split at h <;> cases h
  · cases h
theorem isSt_some {d : PyData} {r : Int × Int} (h : isSt d = some (some r)) : F_is_stretch [d] = some (.bool true) ∧ d = stD r := by
  unfold isSt at h
  split at h
  · cases h
  · split at h
    · cases h
      exact ⟨by assumption, rfl⟩
    · cases h
  · cases h
def ms (g : Str → PyData → RM) : List PyData → RM
  | [.str n, d] => g n d
  | _ => .no
theorem ms_inv {g : Str → PyData → RM} {ds : List PyData} {A : BookSt → PyData → Prop} {B : Str → Prop} (q : (ms g ds).goes A B) : ∃ n d, ds = [.str n, d] := by
  unfold ms at q
  split at q
  · exact ⟨_, _, rfl⟩
  · exact (show False from q).elim
def addRest (β : BookSt) (n : Str) (d : PyData) : RM := match findP β n with
  | none => .exc "Missing"
  | some p => match isSt d with
    | none => .no
    | some none => .exc "BadStretch"
    | some (some r) => if p.rests.length < 1000 then .done (restB β n r) .none else .no
def fm_add_rest (β : BookSt) : List PyData → RM := ms (addRest β)
theorem scB_add_rest : FnScope ["self", "name", "stretch"] ["self", "name", "stretch"] (defScope m_book_add_rest) := ⟨rfl, rfl, rfl, by decide +kernel, rfl, by decide +kernel, by decide +kernel⟩
theorem okB_add_rest (T : Txt K mg) {f : Addr} {fd : FuncData} (F : FunD K "add_rest" "Book.add_rest" (defArgs m_book_add_rest) (defBody m_book_add_rest) (defScope m_book_add_rest) [] [] f fd) : FnOk P w K mg base (L2.CX P w) 3 f fd ["self", "name", "stretch"] (spM K fm_add_rest) := by
  obtain ⟨fm, fdm, psm, GM, gm, km, bm⟩ := (ok_is_stretch (P := P) (w := w) (base := base) T).ex
  refine F.ok scB_add_rest (fun vs H Q E h => ?_) (fun cdv A outer s H vs Q E hr h => ?_)
  · obtain ⟨G, R, a, β, us, ds, rfl, h1, h2, h3, h4, h5, q⟩ := h
    obtain ⟨n, d, rfl⟩ := ms_inv q
    rw [List.length_cons, h5.len]; rfl
  · obtain ⟨G, R, a, β, us, ds, rfl, h1, h2, h3, h4, h5, q⟩ := h
    have hu := hu_of hr
    obtain ⟨n, d, rfl⟩ := ms_inv q
    obtain ⟨v1, v2, rfl, r1, r2⟩ := h5.two
    have := r1.s
    subst this
    have T' := T.bk
    obtain ⟨dx, dS, dL, dR, dT, dN, pe, sh, b⟩ := h4
    have ob := h2 _ _ b.ob
    have cR := h2 _ _ b.cR
    refine ⟨_, pss_cons (ps_if (pt_cmp (pc_dnotin hu (pv 1) (pe_fld (pv 0) rfl))) (pss_one (ps_raise rfl (takes_of rfl rfl rfl rfl) (pmk_own PySem.F.excBase_ValueError T.e_Missing.x T.e_Missing.g T.e_Missing.k (raises_own T.e_Missing.b T.e_Missing.t) rfl))) pss_nil)
      (pss_cons (ps_if (pt_not (pt_val (pe_call GM hr (by rfl) gm km bm .nil pass0 (pa_cons (pv 2) pa_nil)))) (pss_one (ps_raise rfl (takes_of rfl rfl rfl rfl) (pmk_own PySem.F.excBase_ValueError T.e_BadStretch.x T.e_BadStretch.g T.e_BadStretch.k (raises_own T.e_BadStretch.b T.e_BadStretch.t) rfl))) pss_nil)
      (pss_one (ps_expr (pe_bm PySem.F.plainAttrs_list PySem.F.slot_list_append PySem.F.type_list_append mt_append (pe_dget hu (pe_fld (pv 0) rfl) (pv 1) (fun _ _ => rfl)) (pa_cons (pv 2) pa_nil))))), ?_⟩
    refine ⟨_, rfl, _, rfl, a, _, dx, _, _, rfl, ob, T'.cl, T'.nR, lk_R, dR, _, rfl, DGet.k (k := Sum.inr n) cR, _, rfl, ?_⟩
    have q1 : (addRest β n d).goes _ _ := q
    unfold addRest at q1
    cases hp : findP β n with
    | none =>
      rw [hp] at q1
      rw [(b.noPerson hp).2.2]
      refine iteT ?_
      exact q1 H G (Grow.refl h1)
    | some p =>
      rw [hp] at q1
      obtain ⟨x, hx, e1, e2, e3, e4, e5⟩ := b.person hp
      rw [e5]
      refine iteF ?_
      obtain ⟨vs, l1, l2⟩ := b.pr x hx
      cases hs : isSt d with
      | none => simp only [hs] at q1; exact (show False from q1).elim
      | some o =>
        cases o with
        | none =>
          simp only [hs] at q1
          refine ⟨_, rfl, G, [d], .bool false, h1, .cons r2 .nil, isSt_none hs, fun v5 H4 G4 g4 r5 => ?_⟩
          refine ⟨_, r5.bl, ?_⟩
          exact q1 H4 G4 g4
        | some r =>
          simp only [hs] at q1
          by_cases hlen : p.rests.length < 1000
          · rw [if_pos hlen] at q1
            obtain ⟨i1, rfl⟩ := isSt_some hs
            refine ⟨_, rfl, G, [stD r], .bool true, h1, .cons r2 .nil, i1, fun v5 H4 G4 g4 r5 => ?_⟩
            refine ⟨_, r5.bl, ?_⟩
            have hx2 := g4.h _ _ (h2 _ _ l1)
            refine ⟨_, rfl, a, _, dx, _, _, rfl, g4.h _ _ ob, T'.cl, T'.nR, lk_R, _, rfl, dR, .ref x.2.2, rfl, by rw [← e5]; exact DGet.k (k := Sum.inr n) (g4.h _ _ cR), ?_⟩
            refine ⟨.inl ⟨rfl, vs, SqL.of hx2⟩, ?_⟩
            refine ⟨_, rfl, x.2.2, vs, v2, rfl, rfl, hx2, ?_, ?_⟩
            · have : vs.length = x.1.rests.length := by rw [l2.len, List.length_map]
              rw [this, e1]
              exact Nat.lt_of_lt_of_le hlen (by decide)
            · have hv : Dq K G4 v2 (stD r) := (r2.mono g4.f).dp
              have nG : G4 x.2.2 = none := g4.apart h2 h3 _ (by rw [l1]; intro z; cases z)
              have B := b.rest (n := n) (r := r) (v := v2) hx e2 l1 l2 g4.f hv (by rw [e1]; exact hlen)
              refine q1 .non _ G4 (upd R x.2.2 (.lst (vs ++ [v2]))) ⟨fun y o hy hz => ?_, fun y hy => ?_, g4.f, fun y o hy => ?_, g4.no⟩ (fun y o hy => ?_) (fun y hy => ?_) (fun y hy => ?_) ⟨dx, dS, dL, dR, dT, dN, _, sh, B⟩ rp_non
              · rw [upd_ne (fun z => by rw [z] at hy; have hy' : R x.2.2 = none := hy; rw [l1] at hy'; cases hy')]
                exact g4.h y o hz
              · by_cases z : y = x.2.2
                · rw [z, upd_same]; intro q; cases q
                · rw [upd_ne z]; intro q; exact hy (g4.h.free q)
              · rw [upd_ne (ne_of_none hy nG)]
                exact g4.sub y o hy
              · by_cases z : y = x.2.2
                · rw [z, upd_same] at hy ⊢; exact hy
                · rw [upd_ne z] at hy ⊢; exact g4.h y o (h2 y o hy)
              · by_cases z : y = x.2.2
                · rw [z]; exact nG
                · rw [upd_ne z] at hy; exact g4.apart h2 h3 y hy
              · by_cases z : y = x.2.2
                · rw [z, l1]; exact .inl (by intro q; cases q)
                · rw [upd_ne z] at hy; exact .inl hy
          · rw [if_neg hlen] at q1; exact (show False from q1).elim
end
end RK
namespace RK
open PySem PySem.Spec PyProof.Rows L2 RT
section
variable {P : Program} {w : World} {K : PySem.W.Frag} {mg : Str → Option Value} {base : Heap}
def nameB (k : Str) : Option Bool := match F_is_name [.str k] with
  | some (.bool b) => some b
  | _ => none
theorem nameB_ok {k : Str} {b : Bool} (h : nameB k = some b) : F_is_name [.str k] = some (.bool b) := by
  unfold nameB at h
  split at h
  · cases h; assumption
  · cases h
/-- what the walk along skills ends with: an error's class, or none -/
def skErr : List Str → List Str → Option (Option Str)
  | _, [] => some none
  | seen, k :: l => match nameB k with
    | none => none
    | some false => some (some "BadName")
    | some true => if k ∈ seen then some (some "Twice") else skErr (seen ++ [k]) l
/-- a whole number within bounds -/
def numOk (m : Int) (d : PyData) : Option (Option Int) := match F_is_whole [d] with
  | some (.bool false) => some none
  | some (.bool true) => (match d with
    | .int i => some (if 1 ≤ i ∧ i ≤ m then some i else none)
    | _ => none)
  | _ => none
def addPerson (β : BookSt) (n : Str) (sk : List PyData) (d : PyData) : RM := match nameB n with
  | none => .no
  | some false => .exc "BadName"
  | some true => match gJoin.strsD sk with
    | none => .no
    | some l => if l.length ≤ 1000 ∧ β.people.length < 1000 then (match skErr [] l with
      | none => .no
      | some (some c) => .exc c
      | some none => match numOk 31 d with
        | none => .no
        | some none => .exc "BadCount"
        | some (some i) => match findP β n with
          | some _ => .exc "Twice"
          | none => .done ⟨β.people ++ [⟨n, l, i, []⟩], β.shifts⟩ .none) else .no
def fm_add_person (β : BookSt) : List PyData → RM
  | [.str n, .list sk, d] => addPerson β n sk d
  | _ => .no
theorem fm_add_person_inv {β : BookSt} {ds : List PyData} {A : BookSt → PyData → Prop} {B : Str → Prop} (q : (fm_add_person β ds).goes A B) : ∃ n sk d, ds = [.str n, .list sk, d] := by
  unfold fm_add_person at q
  split at q
  · exact ⟨_, _, _, rfl⟩
  · exact (show False from q).elim
def kvSeen (l : List Str) : List (Key × V) := l.map fun k => (Sum.inr k, V.bl true)
theorem kvSeen_val (k : Str) (l : List Str) : (valV (kvSeen l) (Sum.inr k)).isSome = decide (k ∈ l) := by
  unfold kvSeen
  rw [valV_map (fun x : Str => x) (fun _ => V.bl true)]
  induction l with
  | nil => rfl
  | cons z l ih =>
    rw [List.find?_cons]
    by_cases h : z = k
    · simp [h]
    · have h2 : ¬ k = z := fun e => h e.symm
      rw [decide_eq_false h]
      simp only [ih, List.mem_cons, h2, false_or]
theorem scB_add_person : FnScope ["self", "name", "skills", "limit", "seen", "skill"] ["self", "name", "skills", "limit"] (defScope m_book_add_person) := ⟨rfl, rfl, rfl, by decide +kernel, rfl, by decide +kernel, by decide +kernel⟩
theorem okB_add_person (T : Txt K mg) {f : Addr} {fd : FuncData} (F : FunD K "add_person" "Book.add_person" (defArgs m_book_add_person) (defBody m_book_add_person) (defScope m_book_add_person) [] [] f fd) : FnOk P w K mg base (L2.CX P w) 2 f fd ["self", "name", "skills", "limit"] (spM K fm_add_person) := by
  obtain ⟨fm, fdm, psm, GM, gm, km, bm⟩ := (ok_is_name (P := P) (w := w) (base := base) T).ex
  obtain ⟨fw, fdw, psw, GW, gw, kw, bw⟩ := (ok_is_whole (P := P) (w := w) (base := base) T).ex
  refine F.ok scB_add_person (fun vs H Q E h => ?_) (fun cdv A outer s H vs Q E hr h => ?_)
  · obtain ⟨G, R, a, β, us, ds, rfl, h1, h2, h3, h4, h5, q⟩ := h
    obtain ⟨n, sk, d, rfl⟩ := fm_add_person_inv q
    rw [List.length_cons, h5.len]; rfl
  · obtain ⟨G, R, a, β, us, ds, rfl, h1, h2, h3, h4, h5, q⟩ := h
    have hu := hu_of hr
    obtain ⟨n, sk, d, rfl⟩ := fm_add_person_inv q
    obtain ⟨v1, v2, v3, rfl, r1, r2, r3⟩ := h5.three
    have := r1.s
    subst this
    have T' := T.bk
    obtain ⟨dx, dS, dL, dR, dT, dN, pe, sh, b⟩ := h4
    have ob := h2 _ _ b.ob
    have cS := h2 _ _ b.cS
    have cL := h2 _ _ b.cL
    have cR := h2 _ _ b.cR
    have q1 : (addPerson β n sk d).goes _ _ := q
    unfold addPerson at q1
    refine ⟨_, pss_cons (ps_if (pt_not (pt_val (pe_call GM hr (by rfl) gm km bm .nil pass0 (pa_cons (pv 1) pa_nil)))) (pss_one (ps_raise rfl (takes_of rfl rfl rfl rfl) (pmk_own PySem.F.excBase_ValueError T.e_BadName.x T.e_BadName.g T.e_BadName.k (raises_own T.e_BadName.b T.e_BadName.t) rfl))) pss_nil)
      (pss_cons (ps_set (i := 4) scB_add_person.nd rfl (Or.inl rfl) pe_dnewK)
      (pss_cons (ps_for (passes_of rfl) rfl (pi_list (pv 2)) (pg_name (i := 5) scB_add_person.nd rfl (Or.inl rfl))
        (pss_cons (ps_if (pt_not (pt_val (pe_call GM hr (by rfl) gm km bm .nil pass0 (pa_cons (pv 5) pa_nil)))) (pss_one (ps_raise rfl (takes_of rfl rfl rfl rfl) (pmk_own PySem.F.excBase_ValueError T.e_BadName.x T.e_BadName.g T.e_BadName.k (raises_own T.e_BadName.b T.e_BadName.t) rfl))) pss_nil)
        (pss_cons (ps_if (pt_cmp (pc_din hu (pv 5) (pv 4))) (pss_one (ps_raise rfl (takes_of rfl rfl rfl rfl) (pmk_own PySem.F.excBase_ValueError T.e_Twice.x T.e_Twice.g T.e_Twice.k (raises_own T.e_Twice.b T.e_Twice.t) rfl))) pss_nil)
        (pss_one (ps_dput hu (pv 4) (pv 5) pe_bl rfl)))))
      (pss_cons (ps_if (pw_or (pt_not (pt_val (pe_call GW hr (by rfl) gw kw bw .nil pass0 (pa_cons (pv 3) pa_nil)))) (pw_or1 (pt_not (pt_chain op_le op_le pe_int (pv 3) (x_pe (K := K) (se_globI T.c_MOST_DAYS)))))).pt (pss_one (ps_raise rfl (takes_of rfl rfl rfl rfl) (pmk_own PySem.F.excBase_ValueError T.e_BadCount.x T.e_BadCount.g T.e_BadCount.k (raises_own T.e_BadCount.b T.e_BadCount.t) rfl))) pss_nil)
      (pss_cons (ps_if (pt_cmp (pc_din hu (pv 1) (pe_fld (pv 0) rfl))) (pss_one (ps_raise rfl (takes_of rfl rfl rfl rfl) (pmk_own PySem.F.excBase_ValueError T.e_Twice.x T.e_Twice.g T.e_Twice.k (raises_own T.e_Twice.b T.e_Twice.t) rfl))) pss_nil)
      (pss_cons (ps_dput hu (pe_fld (pv 0) rfl) (pv 1) (pe_callTy call_list_of (by rfl) T.z_list (by decide +kernel) (pa_cons (pv 2) pa_nil) (by decide) (by decide)) rfl)
      (pss_cons (ps_dput hu (pe_fld (pv 0) rfl) (pv 1) (pv 3) rfl)
      (pss_one (ps_dput hu (pe_fld (pv 0) rfl) (pv 1) (pe_lst pa_nil) rfl)))))))), ?_⟩
    -- the name
    cases hn : nameB n with
    | none => rw [hn] at q1; exact (show False from q1).elim
    | some bn =>
    rw [hn] at q1
    refine ⟨_, rfl, G, [.str n], .bool bn, h1, .cons (.inl (.str n)) .nil, nameB_ok hn, fun v5 H1 G1 g1 r5 => ?_⟩
    refine ⟨_, r5.bl, ?_⟩
    cases bn with
    | false => exact q1 H1 G1 g1
    | true =>
    refine iteF ?_
    -- seen
    intro dsn hdsn
    cases hl : gJoin.strsD sk with
    | none => simp only [hl] at q1; exact (show False from q1).elim
    | some l =>
    simp only [hl] at q1
    have esk := strsD_ok hl
    subst esk
    by_cases hz' : ¬ (l.length ≤ 1000 ∧ β.people.length < 1000)
    · rw [if_neg hz'] at q1; exact (show False from q1).elim
    have hz := Decidable.not_not.mp hz'
    rw [if_pos hz] at q1
    obtain ⟨p2, ws, rfl, hp2, hA⟩ := Bp.list (G := G) (H := H) h1 (.inl r2)
    have := strs_dpa l hA
    subst this
    have gd : Grow H G (upd H1 dsn (.dK [])) G1 := g1.beside hdsn
    have nG : G1 dsn = none := g1.sub.free hdsn
    have nH : H dsn = none := g1.h.free hdsn
    refine ⟨_, rfl, p2, rfl, ⟨_, SqL.of (gd.h _ _ hp2)⟩, for_list (K := K) (a := p2) (xs := l.map V.str) (fun i σ H3 => ∃ (G3 : Hp) (o5 : Option V), σ = [some (.ref a), some (.str n), some (.ref p2), some v3, some (.ref dsn), o5] ∧ Grow H G H3 G3 ∧ G3 dsn = none ∧ H3 dsn = some (.dK (kvSeen (l.take i))) ∧ skErr [] l = skErr (l.take i) (l.drop i))
      ⟨G1, none, rfl, gd, nG, upd_same, rfl⟩ (fun i σ H _ ⟨_, _, _, g, _⟩ => SqL.of (g.h _ _ hp2)) ?_ ?_⟩
    · rintro i x σ H3 hi ⟨G3, o5, rfl, g3, nG3, hds, hsk⟩
      rw [List.getElem?_map] at hi
      cases hli : l[i]? with
      | none => rw [hli] at hi; cases hi
      | some k =>
      rw [hli] at hi
      cases hi
      rw [drop_cons_of hli] at hsk
      cases hnk : nameB k with
      | none =>
        rw [hsk] at q1
        simp only [skErr, hnk] at q1
        exact (show False from q1).elim
      | some bk =>
      refine ⟨_, rfl, G3, [.str k], .bool bk, g3.sub, .cons (.inl (.str k)) .nil, nameB_ok hnk, fun v6 H4 G4 g4 r6 => ?_⟩
      refine ⟨_, r6.bl, ?_⟩
      cases bk with
      | false =>
        rw [hsk] at q1
        simp only [skErr, hnk] at q1
        exact q1 H4 G4 (g3.trans g4)
      | true =>
      refine iteF ?_
      have hds4 := g4.h _ _ hds
      refine ⟨_, rfl, _, rfl, dsn, _, rfl, DGet.k (k := Sum.inr k) hds4, _, rfl, ?_⟩
      rw [kvSeen_val]
      by_cases hm : k ∈ l.take i
      · rw [decide_eq_true hm]
        refine iteT ?_
        rw [hsk] at q1
        simp only [skErr, hnk, if_pos hm] at q1
        exact q1 H4 G4 (g3.trans g4)
      · rw [decide_eq_false hm]
        refine iteF ?_
        have hv : valV (kvSeen (l.take i)) (Sum.inr k) = none := by
          have := kvSeen_val k (l.take i)
          rw [decide_eq_false hm] at this
          cases e : valV (kvSeen (l.take i)) (Sum.inr k) with
          | none => rfl
          | some u => rw [e] at this; cases this
        have hlen : (kvSeen (l.take i)).length < sizeLine := by
          have : (kvSeen (l.take i)).length ≤ l.length := by unfold kvSeen; rw [List.length_map, List.length_take]; omega
          exact Nat.lt_of_le_of_lt (Nat.le_trans this hz.1) (by decide)
        refine ⟨_, rfl, _, rfl, dsn, _, rfl, DPut.k (k := Sum.inr k) hds4 hlen, ?_⟩
        have nG4 : G4 dsn = none := g4.no _ nG3 (by rw [hds]; intro z; cases z)
        have g34 := g3.trans g4
        refine ⟨G4, _, rfl, ⟨fun y o e => ?_, g34.f, fun y o e => ?_, g34.no⟩, nG4, ?_, ?_⟩
        · rw [upd_ne (ne_of_none e nH)]; exact g34.h y o e
        · rw [upd_ne (ne_of_none e nG4)]; exact g34.sub y o e
        · rw [upd_same, putK_new _ hv, List.take_add_one, hli]
          simp [kvSeen]
        · rw [hsk]
          simp only [skErr, hnk, if_neg hm]
          rw [List.take_add_one, hli]
          rfl
    · rintro σ H3 ⟨G3, o5, rfl, g3, nG3, hds, hsk⟩
      rw [List.length_map, List.take_length, List.drop_length] at hsk
      rw [hsk] at q1
      simp only [skErr] at q1
      -- the limit
      cases hw : numOk 31 d with
      | none => simp only [hw] at q1; exact (show False from q1).elim
      | some o =>
      have hW : ∃ bw : Bool, F_is_whole [d] = some (.bool bw) ∧ (bw = false → o = none) ∧ (bw = true → ∃ i, d = .int i ∧ o = if 1 ≤ i ∧ i ≤ 31 then some i else none) := by
        unfold numOk at hw
        split at hw
        · exact ⟨false, by assumption, fun _ => (Option.some.inj hw).symm, fun z => Bool.noConfusion z⟩
        · split at hw
          · rename_i i hh
            exact ⟨true, by assumption, fun z => Bool.noConfusion z, fun _ => ⟨i, rfl, (Option.some.inj hw).symm⟩⟩
          · cases hw
        · cases hw
      obtain ⟨bw', hW1, hW2, hW3⟩ := hW
      refine ⟨_, rfl, G3, [d], .bool bw', g3.sub, .cons (r3.mono g3.f) .nil, hW1, fun v7 H4 G4 g4 r7 => ?_⟩
      refine ⟨_, r7.bl, ?_⟩
      have g34 := g3.trans g4
      cases bw' with
      | false =>
        rw [hW2 rfl] at hw
        simp only [hw] at q1
        refine iteT ?_
        exact q1 H4 G4 g34
      | true =>
      obtain ⟨i, rfl, ho⟩ := hW3 rfl
      refine iteF ?_
      have e3 := Bp.int (H := H) (.inl r3)
      subst e3
      refine ⟨_, rfl, _, _, rfl, rfl, _, rfl, ?_⟩
      by_cases b1 : 1 ≤ i
      case neg =>
        rw [decide_eq_false b1]
        refine iteF ?_
        refine ⟨_, rfl, ?_⟩
        have : o = none := by rw [ho, if_neg (fun z => b1 z.1)]
        rw [this] at hw
        simp only [hw] at q1
        exact q1 H4 G4 g34
      rw [decide_eq_true b1]
      refine iteT ?_
      refine ⟨_, _, rfl, rfl, _, rfl, ?_⟩
      by_cases b2 : i ≤ 31
      case neg =>
        rw [decide_eq_false b2]
        refine iteT ?_
        have : o = none := by rw [ho, if_neg (fun z => b2 z.2)]
        rw [this] at hw
        simp only [hw] at q1
        exact q1 H4 G4 g34
      rw [decide_eq_true b2]
      refine iteF ?_
      have eo : o = some i := by rw [ho, if_pos ⟨b1, b2⟩]
      rw [eo] at hw
      simp only [hw] at q1
      have ob4 := g34.h _ _ ob
      have cS4 := g34.h _ _ cS
      have cL4 := g34.h _ _ cL
      have cR4 := g34.h _ _ cR
      refine ⟨_, rfl, _, rfl, a, _, dx, _, _, rfl, ob4, T'.cl, T'.nS, lk_S, dS, _, rfl, DGet.k (k := Sum.inr n) cS4, _, rfl, ?_⟩
      cases hp : findP β n with
      | some p =>
        rw [hp] at q1
        obtain ⟨x, hx, e1, e2, e3, e4, e5⟩ := b.person hp
        rw [e3]
        refine iteT ?_
        exact q1 H4 G4 g34
      | none =>
      rw [hp] at q1
      obtain ⟨vS, vL, vR⟩ := b.noPerson hp
      rw [vS]
      refine iteF ?_
      have lpe : pe.length < 1000 := by
        have := congrArg List.length b.pn
        rw [List.length_map] at this
        omega
      have nd := b.nd
      simp only [List.nodup_cons, List.mem_cons, List.not_mem_nil, or_false, not_or] at nd
      obtain ⟨⟨n1, n2, n3, n4⟩, ⟨n5, n6, n7⟩, ⟨n8, n9⟩, n10, _⟩ := nd
      refine ⟨_, rfl, p2, l.map V.str, rfl, .inl (SqL.of (g34.h _ _ hp2)), fun pS hpS => ?_⟩
      have aS := ne_of_none ob4 hpS
      have dSS := ne_of_none cS4 hpS
      have dLS := ne_of_none cL4 hpS
      have dRS := ne_of_none cR4 hpS
      refine ⟨_, rfl, a, _, dx, _, _, rfl, by rw [upd_ne aS]; exact ob4, T'.cl, T'.nS, lk_S, _, rfl, dS, _, rfl, DPut.k (k := Sum.inr n) (by rw [upd_ne dSS]; exact cS4) (Nat.lt_trans (by unfold kvS; rw [List.length_map]; exact lpe) (by decide)), ?_⟩
      rw [putK_new _ vS]
      have adS := ne_of ob4 cS4 (by intro z; cases z)
      have adL := ne_of ob4 cL4 (by intro z; cases z)
      have adR := ne_of ob4 cR4 (by intro z; cases z)
      refine ⟨_, rfl, _, rfl, a, _, dx, _, _, rfl, by rw [upd_ne adS, upd_ne aS]; exact ob4, T'.cl, T'.nL, lk_L, _, rfl, dL, _, rfl, DPut.k (k := Sum.inr n) (by rw [upd_ne (Ne.symm n1), upd_ne dLS]; exact cL4) (Nat.lt_trans (by unfold kvL; rw [List.length_map]; exact lpe) (by decide)), ?_⟩
      rw [putK_new _ vL]
      refine ⟨by decide, fun pR hpR => ?_⟩
      have hpR1 : pR ≠ dL := fun z => by rw [z, upd_same] at hpR; cases hpR
      rw [upd_ne hpR1] at hpR
      have hpR2 : pR ≠ dS := fun z => by rw [z, upd_same] at hpR; cases hpR
      rw [upd_ne hpR2] at hpR
      have hpR3 : pR ≠ pS := fun z => by rw [z, upd_same] at hpR; cases hpR
      rw [upd_ne hpR3] at hpR
      have aR := ne_of_none ob4 hpR
      have dRR := ne_of_none cR4 hpR
      refine ⟨_, rfl, a, _, dx, _, _, rfl, by rw [upd_ne aR, upd_ne adL, upd_ne adS, upd_ne aS]; exact ob4, T'.cl, T'.nR, lk_R, _, rfl, dR, _, rfl, DPut.k (k := Sum.inr n) (by rw [upd_ne dRR, upd_ne (Ne.symm n5), upd_ne (Ne.symm n2), upd_ne dRS]; exact cR4) (Nat.lt_trans (by unfold kvR; rw [List.length_map]; exact lpe) (by decide)), ?_⟩
      rw [putK_new _ vR]
      have hS0 : H pS = none := g34.h.free hpS
      have hR0 : H pR = none := g34.h.free hpR
      have B := b.addP (p := ⟨n, l, i, []⟩) (pS := pS) (pR := pR) (R' := upd (upd (upd (upd (upd R pS (.lst (l.map V.str))) dS (.dK (kvS pe ++ [(Sum.inr n, .ref pS)]))) dL (.dK (kvL pe ++ [(Sum.inr n, .int i)]))) pR (.lst [])) dR (.dK (kvR pe ++ [(Sum.inr n, .ref pR)]))) hp g34.f (h2.free hS0) (h2.free hR0) (Ne.symm hpR3) rfl hz.1 hz.2
        (by rw [upd_ne n2, upd_ne (Ne.symm hpR2), upd_ne n1, upd_same]) (by rw [upd_ne n5, upd_ne (Ne.symm hpR1), upd_same]) upd_same
        (by rw [upd_ne (Ne.symm dRS), upd_ne (Ne.symm hpR3), upd_ne (Ne.symm dLS), upd_ne (Ne.symm dSS), upd_same]) (by rw [upd_ne (Ne.symm dRR), upd_same])
        (fun y y1 y2 y3 y4 => by
          have z1 : y ≠ pS := fun z => y4 (by rw [z]; exact h2.free hS0)
          have z2 : y ≠ pR := fun z => y4 (by rw [z]; exact h2.free hR0)
          rw [upd_ne y3, upd_ne z2, upd_ne y2, upd_ne y1, upd_ne z1])
      have gG : ∀ {y}, H4 y = none → G4 y = none := fun h => g34.sub.free h
      have gp := g34.apart h2 h3
      have rS : R dS ≠ none := by rw [b.cS]; intro z; cases z
      have rL : R dL ≠ none := by rw [b.cL]; intro z; cases z
      have rR : R dR ≠ none := by rw [b.cR]; intro z; cases z
      refine q1 .non _ G4 _ ⟨fun y o hy hz2 => ?_, fun y hy => ?_, g34.f, fun y o hy => ?_, g34.no⟩ (fun y o hy => ?_) (fun y hy => ?_) (fun y hy => ?_) ⟨dx, dS, dL, dR, dT, dN, _, sh, B⟩ rp_non
      · have hy' : R y = none := hy
        have hz3 : H y = some o := hz2
        rw [upd_ne (fun z : y = dR => rR (by rw [← z]; exact hy')), upd_ne (ne_of_none hz3 hR0), upd_ne (fun z : y = dL => rL (by rw [← z]; exact hy')), upd_ne (fun z : y = dS => rS (by rw [← z]; exact hy')), upd_ne (ne_of_none hz3 hS0)]
        exact g34.h y o hz3
      · have h4 : H4 y ≠ none := fun z => hy (g34.h.free z)
        unfold upd
        split
        · intro z; cases z
        · split
          · intro z; cases z
          · split
            · intro z; cases z
            · split
              · intro z; cases z
              · split
                · intro z; cases z
                · exact h4
      · rw [upd_ne (ne_of_none hy (gp dR rR)), upd_ne (ne_of_none hy (gG hpR)), upd_ne (ne_of_none hy (gp dL rL)), upd_ne (ne_of_none hy (gp dS rS)), upd_ne (ne_of_none hy (gG hpS))]
        exact g34.sub y o hy
      · unfold upd at hy ⊢
        by_cases z1 : y = dR
        · rw [if_pos z1] at hy ⊢; exact hy
        · rw [if_neg z1] at hy ⊢
          by_cases z2 : y = pR
          · rw [if_pos z2] at hy ⊢; exact hy
          · rw [if_neg z2] at hy ⊢
            by_cases z3 : y = dL
            · rw [if_pos z3] at hy ⊢; exact hy
            · rw [if_neg z3] at hy ⊢
              by_cases z4 : y = dS
              · rw [if_pos z4] at hy ⊢; exact hy
              · rw [if_neg z4] at hy ⊢
                by_cases z5 : y = pS
                · rw [if_pos z5] at hy ⊢; exact hy
                · rw [if_neg z5] at hy ⊢
                  exact g34.h y o (h2 y o hy)
      · by_cases z1 : y = dR
        · rw [z1]; exact gp dR rR
        · rw [upd_ne z1] at hy
          by_cases z2 : y = pR
          · rw [z2]; exact gG hpR
          · rw [upd_ne z2] at hy
            by_cases z3 : y = dL
            · rw [z3]; exact gp dL rL
            · rw [upd_ne z3] at hy
              by_cases z4 : y = dS
              · rw [z4]; exact gp dS rS
              · rw [upd_ne z4] at hy
                by_cases z5 : y = pS
                · rw [z5]; exact gG hpS
                · rw [upd_ne z5] at hy
                  exact gp y hy
      · by_cases z1 : y = dR
        · exact .inl (by rw [z1]; exact rR)
        · rw [upd_ne z1] at hy
          by_cases z2 : y = pR
          · exact .inr (by rw [z2]; exact hR0)
          · rw [upd_ne z2] at hy
            by_cases z3 : y = dL
            · exact .inl (by rw [z3]; exact rL)
            · rw [upd_ne z3] at hy
              by_cases z4 : y = dS
              · exact .inl (by rw [z4]; exact rS)
              · rw [upd_ne z4] at hy
                by_cases z5 : y = pS
                · exact .inr (by rw [z5]; exact hS0)
                · rw [upd_ne z5] at hy
                  exact .inl hy
end
end RK
namespace RK
open PySem PySem.Spec PyProof.Rows L2 RT
section
variable {P : Program} {w : World} {K : PySem.W.Frag} {mg : Str → Option Value} {base : Heap}
def needsOf : List PyData → Option (List (Str × PyData))
  | [] => some []
  | .tuple [.str k, c] :: l => (needsOf l).map ((k, c) :: ·)
  | _ :: _ => none
def needD (p : Str × PyData) : PyData := .tuple [.str p.1, p.2]
theorem needsOf_ok : ∀ {ds : List PyData} {l : List (Str × PyData)}, needsOf ds = some l → ds = l.map needD
  | [], l, h => by cases h; rfl
  | .tuple [.str k, c] :: ds, l, h => by
    cases e : needsOf ds with
    | none => simp [needsOf, e] at h
    | some m =>
      simp [needsOf, e] at h
      subst h
      rw [needsOf_ok e]; rfl
  | .none :: _, _, h => by cases h
  | .bool _ :: _, _, h => by cases h
  | .int _ :: _, _, h => by cases h
  | .str _ :: _, _, h => by cases h
  | .list _ :: _, _, h => by cases h
  | .dict _ :: _, _, h => by cases h
  | .tuple [] :: _, _, h => by cases h
  | .tuple [_] :: _, _, h => by simp [needsOf] at h
  | .tuple (_ :: _ :: _ :: _) :: _, _, h => by simp [needsOf] at h
  | .tuple [.none, _] :: _, _, h => by cases h
  | .tuple [.bool _, _] :: _, _, h => by cases h
  | .tuple [.int _, _] :: _, _, h => by cases h
  | .tuple [.list _, _] :: _, _, h => by cases h
  | .tuple [.tuple _, _] :: _, _, h => by cases h
  | .tuple [.dict _, _] :: _, _, h => by cases h
/-- what the walk along the needs ends with -/
def ndErr : List (Str × Int) → List (Str × PyData) → Option (Sum Str (List (Str × Int)))
  | acc, [] => some (.inr acc)
  | acc, (k, c) :: l => match nameB k with
    | none => none
    | some false => some (.inl "BadName")
    | some true => if k ∈ acc.map (·.1) then some (.inl "Twice") else match numOk 9 c with
      | none => none
      | some none => some (.inl "BadCount")
      | some (some i) => ndErr (acc ++ [(k, i)]) l
def oneDay (r : Int × Int) : Option Bool := match F_in_one_day [stD r] with
  | some (.bool b) => some b
  | _ => none
theorem oneDay_ok {r : Int × Int} {b : Bool} (h : oneDay r = some b) : F_in_one_day [stD r] = some (.bool b) := by
  unfold oneDay at h
  split at h
  · cases h; assumption
  · cases h
def addShift (β : BookSt) (n : Str) (d : PyData) (nd : List PyData) : RM := match nameB n with
  | none => .no
  | some false => .exc "BadName"
  | some true => match isSt d with
    | none => .no
    | some none => .exc "BadStretch"
    | some (some r) => match oneDay r with
      | none => .no
      | some false => .exc "BadStretch"
      | some true => match needsOf nd with
        | none => .no
        | some l => if l.length ≤ 1000 ∧ β.shifts.length < 1000 then (match ndErr [] l with
          | none => .no
          | some (.inl c) => .exc c
          | some (.inr cs) => match findS β n with
            | some _ => .exc "Twice"
            | none => .done ⟨β.people, β.shifts ++ [⟨n, r.1, r.2, cs⟩]⟩ .none) else .no
def fm_add_shift (β : BookSt) : List PyData → RM
  | [.str n, d, .list nd] => addShift β n d nd
  | _ => .no
theorem fm_add_shift_inv {β : BookSt} {ds : List PyData} {A : BookSt → PyData → Prop} {B : Str → Prop} (q : (fm_add_shift β ds).goes A B) : ∃ n d nd, ds = [.str n, d, .list nd] := by
  unfold fm_add_shift at q
  split at q
  · exact ⟨_, _, _, rfl⟩
  · exact (show False from q).elim
theorem kvC_val (k : Str) (l : List (Str × Int)) : (valV (kvC l) (Sum.inr k)).isSome = decide (k ∈ l.map (·.1)) := by
  unfold kvC
  rw [valV_map (fun x : Str × Int => x.1) (fun x => V.int x.2)]
  induction l with
  | nil => rfl
  | cons z l ih =>
    rw [List.find?_cons]
    by_cases h : z.1 = k
    · simp [h]
    · have h2 : ¬ k = z.1 := fun e => h e.symm
      rw [decide_eq_false h]
      simp only [ih, List.map_cons, List.mem_cons, h2, false_or]
theorem scB_add_shift : FnScope ["self", "name", "stretch", "needs", "counts", "need"] ["self", "name", "stretch", "needs"] (defScope m_book_add_shift) := ⟨rfl, rfl, rfl, by decide +kernel, rfl, by decide +kernel, by decide +kernel⟩
theorem okB_add_shift (T : Txt K mg) {f : Addr} {fd : FuncData} (F : FunD K "add_shift" "Book.add_shift" (defArgs m_book_add_shift) (defBody m_book_add_shift) (defScope m_book_add_shift) [] [] f fd) : FnOk P w K mg base (L2.CX P w) 3 f fd ["self", "name", "stretch", "needs"] (spM K fm_add_shift) := by
  obtain ⟨fm, fdm, psm, GM, gm, km, bm⟩ := (ok_is_name (P := P) (w := w) (base := base) T).ex
  obtain ⟨fw, fdw, psw, GW, gw, kw, bw⟩ := (ok_is_whole (P := P) (w := w) (base := base) T).ex
  obtain ⟨fs, fds, pss', GS, gs, ks, bs⟩ := (ok_is_stretch (P := P) (w := w) (base := base) T).ex
  obtain ⟨fo, fdo, pso, GO, go, ko, bo⟩ := (ok_in_one_day (P := P) (w := w) (base := base) T).ex
  refine F.ok scB_add_shift (fun vs H Q E h => ?_) (fun cdv A outer s H vs Q E hr h => ?_)
  · obtain ⟨G, R, a, β, us, ds, rfl, h1, h2, h3, h4, h5, q⟩ := h
    obtain ⟨n, d, nd, rfl⟩ := fm_add_shift_inv q
    rw [List.length_cons, h5.len]; rfl
  · obtain ⟨G, R, a, β, us, ds, rfl, h1, h2, h3, h4, h5, q⟩ := h
    have hu := hu_of hr
    obtain ⟨n, d, ndl, rfl⟩ := fm_add_shift_inv q
    obtain ⟨v1, v2, v3, rfl, r1, r2, r3⟩ := h5.three
    have := r1.s
    subst this
    have T' := T.bk
    obtain ⟨dx, dS, dL, dR, dT, dN, pe, sh, b⟩ := h4
    have ob := h2 _ _ b.ob
    have cT := h2 _ _ b.cT
    have cN := h2 _ _ b.cN
    have q1 : (addShift β n d ndl).goes _ _ := q
    unfold addShift at q1
    have hr1 : Room 1 _ := hr.mono (by decide)
    refine ⟨_, pss_cons (ps_if (pt_not (pt_val (pe_call GM hr1 (by rfl) gm km bm .nil pass0 (pa_cons (pv 1) pa_nil)))) (pss_one (ps_raise rfl (takes_of rfl rfl rfl rfl) (pmk_own PySem.F.excBase_ValueError T.e_BadName.x T.e_BadName.g T.e_BadName.k (raises_own T.e_BadName.b T.e_BadName.t) rfl))) pss_nil)
      (pss_cons (ps_if (pw_or (pt_not (pt_val (pe_call GS hr (by rfl) gs ks bs .nil pass0 (pa_cons (pv 2) pa_nil)))) (pw_or1 (pt_not (pt_val (pe_call GO hr1 (by rfl) go ko bo .nil pass0 (pa_cons (pv 2) pa_nil)))))).pt (pss_one (ps_raise rfl (takes_of rfl rfl rfl rfl) (pmk_own PySem.F.excBase_ValueError T.e_BadStretch.x T.e_BadStretch.g T.e_BadStretch.k (raises_own T.e_BadStretch.b T.e_BadStretch.t) rfl))) pss_nil)
      (pss_cons (ps_set (i := 4) scB_add_shift.nd rfl (Or.inl rfl) pe_dnewK)
      (pss_cons (ps_for (passes_of rfl) rfl (pi_list (pv 3)) (pg_name (i := 5) scB_add_shift.nd rfl (Or.inl rfl))
        (pss_cons (ps_if (pt_not (pt_val (pe_call GM hr1 (by rfl) gm km bm .nil pass0 (pa_cons (pe_ix ix_tup (pv 5) pe_int (fun _ _ => rfl)) pa_nil)))) (pss_one (ps_raise rfl (takes_of rfl rfl rfl rfl) (pmk_own PySem.F.excBase_ValueError T.e_BadName.x T.e_BadName.g T.e_BadName.k (raises_own T.e_BadName.b T.e_BadName.t) rfl))) pss_nil)
        (pss_cons (ps_if (pt_cmp (pc_din hu (pe_ix ix_tup (pv 5) pe_int (fun _ _ => rfl)) (pv 4))) (pss_one (ps_raise rfl (takes_of rfl rfl rfl rfl) (pmk_own PySem.F.excBase_ValueError T.e_Twice.x T.e_Twice.g T.e_Twice.k (raises_own T.e_Twice.b T.e_Twice.t) rfl))) pss_nil)
        (pss_cons (ps_if (pw_or (pt_not (pt_val (pe_call GW hr1 (by rfl) gw kw bw .nil pass0 (pa_cons (pe_ix ix_tup (pv 5) pe_int (fun _ _ => rfl)) pa_nil)))) (pw_or1 (pt_not (pt_chain op_le op_le pe_int (pe_ix ix_tup (pv 5) pe_int (fun _ _ => rfl)) (x_pe (K := K) (se_globI T.c_MOST_COUNT)))))).pt (pss_one (ps_raise rfl (takes_of rfl rfl rfl rfl) (pmk_own PySem.F.excBase_ValueError T.e_BadCount.x T.e_BadCount.g T.e_BadCount.k (raises_own T.e_BadCount.b T.e_BadCount.t) rfl))) pss_nil)
        (pss_one (ps_dput hu (pv 4) (pe_ix ix_tup (pv 5) pe_int (fun _ _ => rfl)) (pe_ix ix_tup (pv 5) pe_int (fun _ _ => rfl)) rfl))))))
      (pss_cons (ps_if (pt_cmp (pc_din hu (pv 1) (pe_fld (pv 0) rfl))) (pss_one (ps_raise rfl (takes_of rfl rfl rfl rfl) (pmk_own PySem.F.excBase_ValueError T.e_Twice.x T.e_Twice.g T.e_Twice.k (raises_own T.e_Twice.b T.e_Twice.t) rfl))) pss_nil)
      (pss_cons (ps_dput hu (pe_fld (pv 0) rfl) (pv 1) (pv 2) rfl)
      (pss_one (ps_dput hu (pe_fld (pv 0) rfl) (pv 1) (pv 4) rfl))))))), ?_⟩
    -- the name
    cases hn : nameB n with
    | none => rw [hn] at q1; exact (show False from q1).elim
    | some bn =>
    rw [hn] at q1
    refine ⟨_, rfl, G, [.str n], .bool bn, h1, .cons (.inl (.str n)) .nil, nameB_ok hn, fun v5 H1 G1 g1 r5 => ?_⟩
    refine ⟨_, r5.bl, ?_⟩
    cases bn with
    | false => exact q1 H1 G1 g1
    | true =>
    refine iteF ?_
    -- the stretch
    cases hs : isSt d with
    | none => simp only [hs] at q1; exact (show False from q1).elim
    | some os =>
    cases os with
    | none =>
      simp only [hs] at q1
      refine ⟨_, rfl, G1, [d], .bool false, g1.sub, .cons (r2.mono g1.f) .nil, isSt_none hs, fun v5 H2 G2 g2 r5 => ?_⟩
      refine ⟨_, r5.bl, ?_⟩
      refine iteT ?_
      exact q1 H2 G2 (g1.trans g2)
    | some r =>
    simp only [hs] at q1
    obtain ⟨i1, rfl⟩ := isSt_some hs
    refine ⟨_, rfl, G1, [stD r], .bool true, g1.sub, .cons (r2.mono g1.f) .nil, i1, fun v5 H2 G2 g2 r5 => ?_⟩
    refine ⟨_, r5.bl, ?_⟩
    refine iteF ?_
    cases hd : oneDay r with
    | none => simp only [hd] at q1; exact (show False from q1).elim
    | some bd =>
    simp only [hd] at q1
    have g12 := g1.trans g2
    refine ⟨_, rfl, G2, [stD r], .bool bd, g12.sub, .cons (r2.mono g12.f) .nil, oneDay_ok hd, fun v6 H3 G3 g3 r6 => ?_⟩
    refine ⟨_, r6.bl, ?_⟩
    have g13 := g12.trans g3
    cases bd with
    | false => exact q1 H3 G3 g13
    | true =>
    refine iteF ?_
    -- counts
    intro dC hdC
    cases hl : needsOf ndl with
    | none => simp only [hl] at q1; exact (show False from q1).elim
    | some l =>
    simp only [hl] at q1
    have esk := needsOf_ok hl
    subst esk
    by_cases hz' : ¬ (l.length ≤ 1000 ∧ β.shifts.length < 1000)
    · rw [if_neg hz'] at q1; exact (show False from q1).elim
    have hz := Decidable.not_not.mp hz'
    rw [if_pos hz] at q1
    obtain ⟨p2, ws, rfl, hp2, hA⟩ := Bp.list (G := G) (H := H) h1 (.inl r3)
    have gd : Grow H G (upd H3 dC (.dK [])) G3 := g13.beside hdC
    have nG : G3 dC = none := g13.sub.free hdC
    have nH : H dC = none := g13.h.free hdC
    have hwl : ws.length = l.length := by rw [hA.len, List.length_map]
    refine ⟨_, rfl, p2, rfl, ⟨_, SqL.of (gd.h _ _ hp2)⟩, for_list (K := K) (a := p2) (xs := ws) (fun i σ H5 => ∃ (G5 : Hp) (o5 : Option V) (acc : List (Str × Int)), σ = [some (.ref a), some (.str n), some v2, some (.ref p2), some (.ref dC), o5] ∧ Grow H G H5 G5 ∧ G5 dC = none ∧ H5 dC = some (.dK (kvC acc)) ∧ acc.length = i ∧ ndErr [] l = ndErr acc (l.drop i))
      ⟨G3, none, [], rfl, gd, nG, upd_same, rfl, rfl⟩ (fun i σ H _ ⟨_, _, _, _, g, _⟩ => SqL.of (g.h _ _ hp2)) ?_ ?_⟩
    · rintro i x σ H5 hi ⟨G5, o5, acc, rfl, g5, nG5, hds, hac, hsk⟩
      obtain ⟨dd, hdd, rx⟩ := hA.getV hi
      rw [List.getElem?_map] at hdd
      cases hli : l[i]? with
      | none => rw [hli] at hdd; cases hdd
      | some kc =>
      rw [hli] at hdd
      have ed : needD kc = dd := Option.some.inj hdd
      subst ed
      obtain ⟨k, c⟩ := kc
      obtain ⟨t, us', rfl, ht, hus⟩ := Bp.tuple (G := G5) (H := H5) g5.sub (.inl ((Rp.mono g5.f (.inl rx)) : Rp K G5 x (.tuple [.str k, c])))
      cases hus with
      | @cons u1 _ _ _ y1 hus2 =>
      cases hus2 with
      | @cons u2 _ _ _ y2 hus3 =>
      cases hus3
      cases y1
      rw [drop_cons_of hli] at hsk
      cases hnk : nameB k with
      | none =>
        rw [hsk] at q1
        simp only [ndErr, hnk] at q1
        exact (show False from q1).elim
      | some bk =>
      refine ⟨_, rfl, t, [.str k, u2], 0, .str k, rfl, rfl, ht, rfl, G5, [.str k], .bool bk, g5.sub, .cons (.inl (.str k)) .nil, nameB_ok hnk, fun v6 H6 G6 g6 r6 => ?_⟩
      refine ⟨_, r6.bl, ?_⟩
      have g56 := g5.trans g6
      cases bk with
      | false =>
        rw [hsk] at q1
        simp only [ndErr, hnk] at q1
        exact q1 H6 G6 g56
      | true =>
      refine iteF ?_
      have ht6 : SqT K H6 t [.str k, u2] := same_t g6.h ht
      have hds6 := g6.h _ _ hds
      refine ⟨_, rfl, t, [.str k, u2], 0, .str k, rfl, rfl, ht6, rfl, _, rfl, dC, _, rfl, DGet.k (k := Sum.inr k) hds6, _, rfl, ?_⟩
      rw [kvC_val]
      by_cases hm : k ∈ acc.map (·.1)
      · rw [decide_eq_true hm]
        refine iteT ?_
        rw [hsk] at q1
        simp only [ndErr, hnk, if_pos hm] at q1
        exact q1 H6 G6 g56
      · rw [decide_eq_false hm]
        refine iteF ?_
        cases hw : numOk 9 c with
        | none =>
          rw [hsk] at q1
          simp only [ndErr, hnk, if_neg hm, hw] at q1
          exact (show False from q1).elim
        | some o =>
        have hW : ∃ bw : Bool, F_is_whole [c] = some (.bool bw) ∧ (bw = false → o = none) ∧ (bw = true → ∃ i, c = .int i ∧ o = if 1 ≤ i ∧ i ≤ 9 then some i else none) := by
          unfold numOk at hw
          split at hw
          · exact ⟨false, by assumption, fun _ => (Option.some.inj hw).symm, fun z => Bool.noConfusion z⟩
          · split at hw
            · rename_i i hh
              exact ⟨true, by assumption, fun z => Bool.noConfusion z, fun _ => ⟨i, rfl, (Option.some.inj hw).symm⟩⟩
            · cases hw
          · cases hw
        obtain ⟨bw', hW1, hW2, hW3⟩ := hW
        refine ⟨_, rfl, t, [.str k, u2], 1, u2, rfl, rfl, ht6, rfl, G6, [c], .bool bw', g56.sub, .cons (.inl (dp_mono g6.f _ y2)) .nil, hW1, fun v7 H7 G7 g7 r7 => ?_⟩
        refine ⟨_, r7.bl, ?_⟩
        have g57 := g56.trans g7
        have bad : o = none → ∀ H' G', Grow H G H' G' → E (.ref (He.ga K "BadCount")) none H' := fun eo => by
          rw [hsk] at q1
          rw [eo] at hw
          simp only [ndErr, hnk, if_neg hm, hw] at q1
          exact q1
        cases bw' with
        | false =>
          refine iteT ?_
          exact bad (hW2 rfl) H7 G7 g57
        | true =>
        obtain ⟨j, rfl, ho⟩ := hW3 rfl
        cases y2
        refine iteF ?_
        have ht7 : SqT K H7 t [.str k, .int j] := same_t g7.h ht6
        refine ⟨_, rfl, t, [.str k, .int j], 1, .int j, rfl, rfl, ht7, rfl, _, _, rfl, rfl, _, rfl, ?_⟩
        by_cases b1 : 1 ≤ j
        case neg =>
          rw [decide_eq_false b1]
          refine iteF ?_
          refine ⟨_, rfl, ?_⟩
          exact bad (by rw [ho, if_neg (fun z => b1 z.1)]) H7 G7 g57
        rw [decide_eq_true b1]
        refine iteT ?_
        refine ⟨_, _, rfl, rfl, _, rfl, ?_⟩
        by_cases b2 : j ≤ 9
        case neg =>
          rw [decide_eq_false b2]
          refine iteT ?_
          exact bad (by rw [ho, if_neg (fun z => b2 z.2)]) H7 G7 g57
        rw [decide_eq_true b2]
        refine iteF ?_
        have eo : o = some j := by rw [ho, if_pos ⟨b1, b2⟩]
        rw [eo] at hw
        have hv : valV (kvC acc) (Sum.inr k) = none := by
          have := kvC_val k acc
          rw [decide_eq_false hm] at this
          cases e : valV (kvC acc) (Sum.inr k) with
          | none => rfl
          | some u => rw [e] at this; cases this
        have hil : i < l.length := (List.getElem?_eq_some_iff.mp hli).1
        have hlen : (kvC acc).length < sizeLine := by
          have : (kvC acc).length ≤ 1000 := by unfold kvC; rw [List.length_map, hac]; omega
          exact Nat.lt_of_le_of_lt this (by decide)
        have hds7 := g7.h _ _ hds6
        refine ⟨_, rfl, t, [.str k, .int j], 1, .int j, rfl, rfl, ht7, rfl, _, rfl, _, rfl, t, [.str k, .int j], 0, .str k, rfl, rfl, ht7, rfl, dC, _, rfl, DPut.k (k := Sum.inr k) hds7 hlen, ?_⟩
        have nG7 : G7 dC = none := (g6.trans g7).no _ nG5 (by rw [hds]; intro z; cases z)
        refine ⟨G7, _, acc ++ [(k, j)], rfl, ⟨fun y o e => ?_, g57.f, fun y o e => ?_, g57.no⟩, nG7, ?_, ?_, ?_⟩
        · rw [upd_ne (ne_of_none e nH)]; exact g57.h y o e
        · rw [upd_ne (ne_of_none e nG7)]; exact g57.sub y o e
        · rw [upd_same, putK_new _ hv]
          simp [kvC]
        · rw [List.length_append, hac]; rfl
        · rw [hsk]
          simp only [ndErr, hnk, if_neg hm, hw]
    · rintro σ H5 ⟨G5, o5, acc, rfl, g5, nG5, hds, hac, hsk⟩
      rw [hwl] at hsk hac
      rw [List.drop_length] at hsk
      rw [hsk] at q1
      simp only [ndErr] at q1
      have ob5 := g5.h _ _ ob
      have cT5 := g5.h _ _ cT
      have cN5 := g5.h _ _ cN
      obtain ⟨t2, us2, rfl, ht2, _⟩ := Bp.tuple (G := G) (H := H) h1 (.inl r2)
      have hst : Dq K G (.ref t2) (stD r) := r2.dp
      refine ⟨_, rfl, _, rfl, a, _, dx, _, _, rfl, ob5, T'.cl, T'.nN, lk_N, dN, _, rfl, DGet.k (k := Sum.inr n) cN5, _, rfl, ?_⟩
      cases hp : findS β n with
      | some p =>
        rw [hp] at q1
        obtain ⟨x, hx, e1, e2, e3, e4⟩ := b.shift hp
        rw [e4]
        refine iteT ?_
        exact q1 H5 G5 g5
      | none =>
      rw [hp] at q1
      obtain ⟨vT, vN⟩ := b.noShift hp
      rw [vN]
      refine iteF ?_
      have lsh : sh.length < 1000 := by
        have := congrArg List.length b.sn
        rw [List.length_map] at this
        omega
      have nd := b.nd
      simp only [List.nodup_cons, List.mem_cons, List.not_mem_nil, or_false, not_or] at nd
      obtain ⟨⟨n1, n2, n3, n4⟩, ⟨n5, n6, n7⟩, ⟨n8, n9⟩, n10, _⟩ := nd
      have adT := ne_of ob5 cT5 (by intro z; cases z)
      refine ⟨_, rfl, _, rfl, a, _, dx, _, _, rfl, ob5, T'.cl, T'.nT, lk_T, _, rfl, dT, _, rfl, DPut.k (k := Sum.inr n) cT5 (Nat.lt_trans (by unfold kvT; rw [List.length_map]; exact lsh) (by decide)), ?_⟩
      rw [putK_new _ vT]
      refine ⟨_, rfl, _, rfl, a, _, dx, _, _, rfl, by rw [upd_ne adT]; exact ob5, T'.cl, T'.nN, lk_N, _, rfl, dN, _, rfl, DPut.k (k := Sum.inr n) (by rw [upd_ne (Ne.symm n10)]; exact cN5) (Nat.lt_trans (by unfold kvN; rw [List.length_map]; exact lsh) (by decide)), ?_⟩
      rw [putK_new _ vN]
      have rT : R dT ≠ none := by rw [b.cT]; intro z; cases z
      have rN : R dN ≠ none := by rw [b.cN]; intro z; cases z
      have dCT : dT ≠ dC := ne_of_none cT nH
      have dCN : dN ≠ dC := ne_of_none cN nH
      have rC : R dC = none := h2.free nH
      have B := b.addS (s := ⟨n, r.1, r.2, acc⟩) (t := t2) (dC := dC) (R' := upd (upd (upd R dC (.dK (kvC acc))) dT (.dK (kvT sh ++ [(Sum.inr n, .ref t2)]))) dN (.dK (kvN sh ++ [(Sum.inr n, .ref dC)]))) hp g5.f rC (dp_mono g5.f _ hst) (by rw [hac]; exact hz.1) hz.2
        (by rw [upd_ne n10, upd_same]) upd_same (by rw [upd_ne (Ne.symm dCN), upd_ne (Ne.symm dCT), upd_same])
        (fun y y1 y2 y3 => by
          have z1 : y ≠ dC := fun z => y3 (by rw [z]; exact rC)
          rw [upd_ne y2, upd_ne y1, upd_ne z1])
      have gp := g5.apart h2 h3
      refine q1 .non _ G5 _ ⟨fun y o hy hz2 => ?_, fun y hy => ?_, g5.f, fun y o hy => ?_, g5.no⟩ (fun y o hy => ?_) (fun y hy => ?_) (fun y hy => ?_) ⟨dx, dS, dL, dR, dT, dN, pe, _, B⟩ rp_non
      · have hy' : R y = none := hy
        have hz3 : H y = some o := hz2
        rw [upd_ne (fun z : y = dN => rN (by rw [← z]; exact hy')), upd_ne (fun z : y = dT => rT (by rw [← z]; exact hy'))]
        exact g5.h y o hz3
      · have h4 : H5 y ≠ none := fun z => hy (g5.h.free z)
        unfold upd
        split
        · intro z; cases z
        · split
          · intro z; cases z
          · exact h4
      · rw [upd_ne (ne_of_none hy (gp dN rN)), upd_ne (ne_of_none hy (gp dT rT))]
        exact g5.sub y o hy
      · unfold upd at hy ⊢
        by_cases z1 : y = dN
        · rw [if_pos z1] at hy ⊢; exact hy
        · rw [if_neg z1] at hy ⊢
          by_cases z2 : y = dT
          · rw [if_pos z2] at hy ⊢; exact hy
          · rw [if_neg z2] at hy ⊢
            by_cases z3 : y = dC
            · rw [if_pos z3] at hy
              rw [z3, hds]; exact hy
            · rw [if_neg z3] at hy
              exact g5.h y o (h2 y o hy)
      · by_cases z1 : y = dN
        · rw [z1]; exact gp dN rN
        · rw [upd_ne z1] at hy
          by_cases z2 : y = dT
          · rw [z2]; exact gp dT rT
          · rw [upd_ne z2] at hy
            by_cases z3 : y = dC
            · rw [z3]; exact nG5
            · rw [upd_ne z3] at hy
              exact gp y hy
      · by_cases z1 : y = dN
        · exact .inl (by rw [z1]; exact rN)
        · rw [upd_ne z1] at hy
          by_cases z2 : y = dT
          · exact .inl (by rw [z2]; exact rT)
          · rw [upd_ne z2] at hy
            by_cases z3 : y = dC
            · exact .inr (by rw [z3]; exact nH)
            · rw [upd_ne z3] at hy
              exact .inl hy
end
end RK
namespace RK
open PySem PySem.Spec PyProof.Rows L2 RT
section
variable {P : Program} {w : World} {K : PySem.W.Frag} {mg : Str → Option Value} {base : Heap}
theorem noB_of {m : Str} (h : noFl flB m) : ∃ fl, KdC kB "Book" fl ∧ noFl fl m := ⟨flB, kcB, h⟩
theorem mr_may (T : Txt K mg) : MethR P w K mg base 2 "may" fr_may := by
  obtain ⟨fd, F⟩ := T.f_book_may
  exact ⟨⟨_, fd, _, okB_may T F, T.me_book_may, F.bindsN fun _ _ _ _ _ _ us hl => match us, hl with | [_, _, _, _], _ => rfl⟩, T.cl_book, noB_of (by unfold noFl; decide +kernel)⟩
theorem mr_rests_of (T : Txt K mg) : MethR P w K mg base 1 "rests_of" fr_rests_of := by
  obtain ⟨fd, F⟩ := T.f_book_rests_of
  exact ⟨⟨_, fd, _, okB_rests_of T F, T.me_book_rests_of, F.bindsN fun _ _ _ _ _ _ us hl => match us, hl with | [_, _], _ => rfl⟩, T.cl_book, noB_of (by unfold noFl; decide +kernel)⟩
theorem mr_stretch_of (T : Txt K mg) : MethR P w K mg base 1 "stretch_of" fr_stretch_of := by
  obtain ⟨fd, F⟩ := T.f_book_stretch_of
  exact ⟨⟨_, fd, _, okB_stretch_of T F, T.me_book_stretch_of, F.bindsN fun _ _ _ _ _ _ us hl => match us, hl with | [_, _], _ => rfl⟩, T.cl_book, noB_of (by unfold noFl; decide +kernel)⟩
theorem mr_limit_of (T : Txt K mg) : MethR P w K mg base 1 "limit_of" fr_limit_of := by
  obtain ⟨fd, F⟩ := T.f_book_limit_of
  exact ⟨⟨_, fd, _, okB_limit_of T F, T.me_book_limit_of, F.bindsN fun _ _ _ _ _ _ us hl => match us, hl with | [_, _], _ => rfl⟩, T.cl_book, noB_of (by unfold noFl; decide +kernel)⟩
theorem mr_people (T : Txt K mg) : MethR P w K mg base 1 "people" fr_people := by
  obtain ⟨fd, F⟩ := T.f_book_people
  exact ⟨⟨_, fd, _, okB_people T F, T.me_book_people, F.bindsN fun _ _ _ _ _ _ us hl => match us, hl with | [_], _ => rfl⟩, T.cl_book, noB_of (by unfold noFl; decide +kernel)⟩
theorem mr_shifts (T : Txt K mg) : MethR P w K mg base 1 "shifts" fr_shifts := by
  obtain ⟨fd, F⟩ := T.f_book_shifts
  exact ⟨⟨_, fd, _, okB_shifts T F, T.me_book_shifts, F.bindsN fun _ _ _ _ _ _ us hl => match us, hl with | [_], _ => rfl⟩, T.cl_book, noB_of (by unfold noFl; decide +kernel)⟩
theorem mr_posts (T : Txt K mg) : MethR P w K mg base 1 "posts" fr_posts := by
  obtain ⟨fd, F⟩ := T.f_book_posts
  exact ⟨⟨_, fd, _, okB_posts T F, T.me_book_posts, F.bindsN fun _ _ _ _ _ _ us hl => match us, hl with | [_], _ => rfl⟩, T.cl_book, noB_of (by unfold noFl; decide +kernel)⟩
theorem mr_count_of (T : Txt K mg) : MethR P w K mg base 1 "count_of" fr_count_of := by
  obtain ⟨fd, F⟩ := T.f_book_count_of
  exact ⟨⟨_, fd, _, okB_count_of T F, T.me_book_count_of, F.bindsN fun _ _ _ _ _ _ us hl => match us, hl with | [_, _, _], _ => rfl⟩, T.cl_book, noB_of (by unfold noFl; decide +kernel)⟩
theorem mm_add_person (T : Txt K mg) : MethM P w K mg base 2 "add_person" fm_add_person := by
  obtain ⟨fd, F⟩ := T.f_book_add_person
  exact ⟨⟨_, fd, _, okB_add_person T F, T.me_book_add_person, F.bindsN fun _ _ _ _ _ _ us hl => match us, hl with | [_, _, _, _], _ => rfl⟩, T.cl_book, noB_of (by unfold noFl; decide +kernel)⟩
theorem mm_add_rest (T : Txt K mg) : MethM P w K mg base 3 "add_rest" fm_add_rest := by
  obtain ⟨fd, F⟩ := T.f_book_add_rest
  exact ⟨⟨_, fd, _, okB_add_rest T F, T.me_book_add_rest, F.bindsN fun _ _ _ _ _ _ us hl => match us, hl with | [_, _, _], _ => rfl⟩, T.cl_book, noB_of (by unfold noFl; decide +kernel)⟩
theorem mm_add_shift (T : Txt K mg) : MethM P w K mg base 3 "add_shift" fm_add_shift := by
  obtain ⟨fd, F⟩ := T.f_book_add_shift
  exact ⟨⟨_, fd, _, okB_add_shift T F, T.me_book_add_shift, F.bindsN fun _ _ _ _ _ _ us hl => match us, hl with | [_, _, _, _], _ => rfl⟩, T.cl_book, noB_of (by unfold noFl; decide +kernel)⟩
theorem pe_book {X : Cx} {p pos : Pos} {j : Nat} (T : Txt X.K X.mg) (hr : Room j X.A) (hj : 2 ≤ j) (hg : Gl X "Book" := by rfl) : PE X (.Call (.Name "Book" p) [] [] pos) (tMake (He.ga X.K "Book") (spInit X.K) [] E0 tNil) := by
  obtain ⟨fd, F⟩ := T.f_book_init
  have b : Binds X.K fd ["self"] [] := F.bindsN fun _ _ _ _ _ _ us hl => match us, hl with | [_], _ => rfl
  exact pe_make0 T.mk_book (okB_init (P := X.prog) (w := X.w) (base := X.base) T F) (hr.mono hj) hg T.gc_book b .nil pass0
end
end RK
namespace RK
open PySem PySem.Spec PyProof.Rows L2 RT
theorem F_cell_eq (ns : List Int) (k : Nat) : F_cell [scrD ns, .int (k : Nat)] = some (.int (cell ns k)) := by
  have h := cell_ev ns k
  unfold F_cell
  rw [runF_eq]
  simp [b_cell, rho0, scrD, lSl, oSome, cutA_one] at h ⊢
  rw [h]
  rfl
def sg1 : Str := "!\"#$&'()*+,-./0123456789:;<=>?"
def sg2 : Str := "@ABCDEFGHIJKLMNOPQRSTUVWXYZ[\\]^_`"
def sg3 : Str := "abcdefghijklmnopqrstuvwxyz{|}~"
def sgs : Str := sg1 ++ sg2 ++ sg3
theorem sgs_len : sgs.length = 93 := by decide +kernel
theorem sg1_len : sg1.length = 30 := by decide +kernel
theorem sg2_len : sg2.length = 33 := by decide +kernel
theorem sg3_len : sg3.length = 30 := by decide +kernel
def sg (c : Int) : Nat := (sgs.cps.toList[(c % 93).toNat]?).getD 0
theorem sg_at (c : Int) : atI sgs.cps.toList (c % 93) = some (sg c) ∧ sg c ∈ sgs.cps.toList := by
  have hl : sgs.cps.toList.length = 93 := by
    have h := sgs_len
    simpa [Str.length] using h
  obtain ⟨x, h1, h2⟩ := atI_mod sgs.cps.toList c 93 (by rw [hl]; rfl) (by decide)
  have e : sg c = x := by
    rw [atI_pos _ _ (Int.emod_nonneg _ (by decide))] at h2
    unfold sg
    rw [h2]; rfl
  rw [e]
  exact ⟨h2, h1⟩
theorem F_sign_eq (c : Int) : F_sign [.int c] = some (.str ⟨#[sg c]⟩) := by
  have e1 : gAdd (.str sg1) (.str sg2) = some (.str (sg1 ++ sg2)) := by
    rw [gAdd_strE, if_pos (by rw [sg1_len, sg2_len]; decide)]
  have e2 : gAdd (.str (sg1 ++ sg2)) (.str sg3) = some (.str sgs) := by
    rw [gAdd_strE, if_pos (by decide +kernel)]
    rfl
  have e3 : gIx (.str sgs) (.int (c % 93)) = some (.str ⟨#[sg c]⟩) := by
    rw [gIx_str _ _ (by rw [sgs_len]; decide), (sg_at c).1]
    rfl
  unfold F_sign
  rw [runF_eq]
  simp [b_sign, rho0]
  rw [show ("!\"#$&'()*+,-./0123456789:;<=>?" : Str) = sg1 from rfl, show ("@ABCDEFGHIJKLMNOPQRSTUVWXYZ[\\]^_`" : Str) = sg2 from rfl, show ("abcdefghijklmnopqrstuvwxyz{|}~" : Str) = sg3 from rfl, e1]
  simp [e2, e3]
def SGN : Str := "!\"#$&'()*+,-./0123456789:;<=>?@ABCDEFGHIJKLMNOPQRSTUVWXYZ[\\]^_`abcdefghijklmnopqrstuvwxyz{|}~"
/-- whether a text is a name -/
def isName (z : Str) : Bool := decide (1 ≤ z.length) && decide (z.length ≤ 20) && z.cps.toList.all fun c => decide (c ∈ SGN.cps.toList)
theorem gNotIn_sign (c : Nat) (z : Str) : gNotIn (.str ⟨#[c]⟩) (.str z) = some (.bool (!decide (c ∈ z.cps.toList))) := rfl
theorem F_is_name_eq (z : Str) (hz : z.length ≤ LIM) : F_is_name [.str z] = some (.bool (isName z)) := by
  unfold F_is_name
  rw [runF_eq]
  obtain ⟨s', r', e⟩ := forF_find0 (j := 1) (ρ := [.val (.str z), .no]) (r := .bool false) (body := (sIf (bF (eOp gNotIn (eVarB 1) (eC (.str "!\"#$&'()*+,-./0123456789:;<=>?@ABCDEFGHIJKLMNOPQRSTUVWXYZ[\\]^_`abcdefghijklmnopqrstuvwxyz{|}~")))) (sRet (eC (.bool false))) sNext))
    (fun d => match d with | .str x => !x.cps.toList.all fun c => decide (c ∈ SGN.cps.toList) | _ => true) (ds := signsD z) (by simp) (fun d hd => by
      obtain ⟨c, _, rfl⟩ := mem_signsD hd
      rw [show ("!\"#$&'()*+,-./0123456789:;<=>?@ABCDEFGHIJKLMNOPQRSTUVWXYZ[\\]^_`abcdefghijklmnopqrstuvwxyz{|}~" : Str) = SGN from rfl]
      simp [gNotIn_sign])
  have e2 : ((signsD z).any fun d => match d with | .str x => !x.cps.toList.all fun c => decide (c ∈ SGN.cps.toList) | _ => true) = !z.cps.toList.all fun c => decide (c ∈ SGN.cps.toList) := by
    unfold signsD
    rw [List.any_map, List.all_eq_not_any_not, Bool.not_not]
    congr 1
    funext c
    simp
  rw [e2] at e
  unfold isName
  generalize (z.cps.toList.all fun c => decide (c ∈ SGN.cps.toList)) = b at e ⊢
  simp [b_is_name, rho0, N_is_name, sgD_str z hz, hz, e]
  cases b <;> simp <;> (repeat' split) <;> simp_all <;> omega
/-! joined signs -/
theorem join_ones : ∀ cs : List Nat, Txt.join "" (cs.map fun c => (⟨#[c]⟩ : Str)) = ⟨cs.toArray⟩ := by
  intro cs
  rw [TL.join_eq]
  have h : ∀ cs : List Nat, (Str.join "" (cs.map fun c => (⟨#[c]⟩ : Str))).cps.toList = cs := by
    intro cs
    induction cs with
    | nil => rfl
    | cons c r ih =>
      cases r with
      | nil => rfl
      | cons d r =>
        show ((⟨#[c]⟩ : Str) ++ "" ++ Str.join "" ((d :: r).map fun c => (⟨#[c]⟩ : Str))).cps.toList = _
        have e : ∀ x y : Str, (x ++ y).cps.toList = x.cps.toList ++ y.cps.toList := fun x y => by
          show (x.cps ++ y.cps).toList = _
          simp
        rw [e, e, ih]
        rfl
  have e := h cs
  cases hh : Str.join "" (cs.map fun c => (⟨#[c]⟩ : Str)) with
  | mk a =>
    rw [hh] at e
    rw [← e]

theorem sg_mem (c : Int) : sg c ∈ SGN.cps.toList := by
  have h := (sg_at c).2
  rw [show SGN.cps.toList = sgs.cps.toList from by decide +kernel]
  exact h
theorem isName_codes (cs : List Nat) : isName ⟨cs.toArray⟩ = (decide (1 ≤ cs.length) && decide (cs.length ≤ 20) && cs.all fun c => decide (c ∈ SGN.cps.toList)) := by
  simp [isName, Str.length]
theorem gJoin_ones (cs : List Nat) (h : cs.length ≤ LIM) : gJoin (.str "") (.list (cs.map fun c => PyData.str ⟨#[c]⟩)) = some (.str ⟨cs.toArray⟩) := by
  have e := gJoin_strs "" (cs.map fun c => (⟨#[c]⟩ : Str)) (by
    rw [List.map_map]
    have : ((cs.map ((·.length) ∘ fun c => (⟨#[c]⟩ : Str))).sum) = cs.length := by
      induction cs with
      | nil => rfl
      | cons c r ih => 
        have := ih (by simp at h ⊢; omega)
        simp [Str.length] at this ⊢
        omega
    rw [this]
    simpa [Str.length, show (Str.ofString "").cps.size = 0 from rfl] using h)
  rw [join_ones, List.map_map] at e
  exact e
/-! names by a place and a cell -/
def nameC (p c : Int) : List Nat := (List.range (c % 20).toNat).map (fun (k : Nat) => sg (c / 20 + 5 * (k : Int) * (c % 7))) ++ [sg p]
theorem nameC_len (p c : Int) : 1 ≤ (nameC p c).length ∧ (nameC p c).length ≤ 20 := by
  have h1 := Int.emod_nonneg c (show (20 : Int) ≠ 0 by decide)
  have h2 := Int.emod_lt_of_pos c (show (0 : Int) < 20 by decide)
  simp only [nameC, List.length_append, List.length_map, List.length_range, List.length_singleton]
  omega
theorem nameC_mem {p c : Int} {x : Nat} (h : x ∈ nameC p c) : x ∈ SGN.cps.toList := by
  simp only [nameC, List.mem_append, List.mem_map, List.mem_singleton] at h
  rcases h with ⟨i, _, rfl⟩ | rfl <;> exact sg_mem _
theorem SGN_rng {x : Nat} (h : x ∈ SGN.cps.toList) : 33 ≤ x ∧ x ≤ 126 := by
  have : (SGN.cps.toList.all fun x => decide (33 ≤ x) && decide (x ≤ 126)) = true := by decide +kernel
  rw [List.all_eq_true] at this
  simpa using this x h
def nameS (p c : Int) : Str := ⟨(nameC p c).toArray⟩
theorem nameS_ok (p c : Int) : isName (nameS p c) = true := by
  have h := nameC_len p c
  unfold nameS
  rw [isName_codes, decide_eq_true h.1, decide_eq_true h.2, Bool.true_and, Bool.true_and, List.all_eq_true]
  intro x hx
  exact decide_eq_true (nameC_mem hx)
theorem F_name_by_eq (p c : Int) : F_name_by [.int p, .int c] = some (.str (nameS p c)) := by
  have n0 := Int.emod_nonneg c (show (20 : Int) ≠ 0 by decide)
  have n1 := Int.emod_lt_of_pos c (show (0 : Int) < 20 by decide)
  have e : lcF 3 tYesF (eCall F_sign (eCons (eOp gAdd (eOp gFdiv (eVarB 1) (eC (.int 20))) (eOp gMul (eOp gMul (eC (.int 5)) (eVarB 3)) (eOp gMod (eVarB 1) (eC (.int 7))))) eNil)) [.val (.int p), .val (.int c), .no, .no] (rangeD 0 (c % 20).toNat) = some (((List.range (c % 20).toNat).map fun (k : Nat) => sg (c / 20 + 5 * (k : Int) * (c % 7))).map fun c => PyData.str ⟨#[c]⟩) := by
    rw [lcF_map (fun d => match d with | .int i => .str ⟨#[sg (c / 20 + 5 * i * (c % 7))]⟩ | _ => .none)]
    · congr 1
      simp [rangeD]
    · intro d hd
      obtain ⟨i, hi, rfl⟩ := mem_rangeD hd
      have m1 : gMul (.int 5) (.int (0 + (i : Int))) = some (.int (5 * (0 + (i : Int)))) := gMul_int _ _ (cMul_l (by decide))
      have m2 : gMul (.int (5 * (0 + (i : Int)))) (.int (c % 7)) = some (.int (5 * (0 + (i : Int)) * (c % 7))) := gMul_int _ _ (cMul_l (by omega))
      rw [Int.zero_add] at m1 m2 ⊢
      simp [m1, m2, F_sign_eq]
  have gj := gJoin_ones ((List.range (c % 20).toNat).map fun (k : Nat) => sg (c / 20 + 5 * (k : Int) * (c % 7))) (by simp [LIM]; omega)
  have b1 : c % 20 ≤ 1000000 := by omega
  have b2 : -1000000 ≤ c % 20 := by omega
  have b3 : (c % 20).toNat ≤ LIM := by unfold LIM; omega
  have ga : gAdd (.str ⟨((List.range (c % 20).toNat).map fun (k : Nat) => sg (c / 20 + 5 * (k : Int) * (c % 7))).toArray⟩) (.str ⟨#[sg p]⟩) = some (.str (nameS p c)) := by
    rw [gAdd_str]
    · congr 2
      exact SX.S_cat _ _
    · simp [Str.length, LIM]; omega
  unfold F_name_by
  rw [runF_eq]
  simp only [List.map_map] at e gj
  simp [b_name_by, rho0, N_name_by, b1, b2, b3, e, gj, F_sign_eq, ga]
def ndD (n : Str × Int) : PyData := .tuple [.str n.1, .int n.2]
def perD (p : Person) : PyData := .tuple [.str p.name, .list (p.skills.map .str), .int p.limit, .list (p.rests.map stD)]
def shD (s : Shift) : PyData := .tuple [.str s.name, stD (s.b, s.e), .list (s.needs.map ndD)]
structure GP (p : Person) : Prop where
  nm : isName p.name = true
  sk : ∀ k ∈ p.skills, isName k = true
  nd : p.skills.Nodup
  sl : p.skills.length ≤ 15
  lim : 1 ≤ p.limit ∧ p.limit ≤ 31
  rs : ∀ r ∈ p.rests, 0 ≤ r.1 ∧ r.1 < r.2 ∧ r.2 ≤ 1000000
  rl : p.rests.length ≤ 3
structure GS (s : Shift) : Prop where
  nm : isName s.name = true
  st : 0 ≤ s.b ∧ s.b < s.e ∧ s.e ≤ 1000000
  day : (s.e - 1) / 24 = s.b / 24
  nk : ∀ n ∈ s.needs, isName n.1 = true ∧ 1 ≤ n.2 ∧ n.2 ≤ 9
  nd : (s.needs.map (·.1)).Nodup
  nl : s.needs.length ≤ 6
theorem gIn_strsN (neg : Bool) (k : Str) (o : List Str) : alt (gInF neg) (alt (gInL neg) (gInS neg)) (.str k) (.list (o.map .str)) = some (.bool (if neg then !decide (k ∈ o) else decide (k ∈ o))) := by
  have hs : (o.map PyData.str).all scalD = true := by rw [List.all_map]; simp [List.all_eq_true]
  have he : ((o.map PyData.str).any fun z => eqFl z (.str k)) = decide (k ∈ o) := by
    rw [List.any_map, Bool.eq_iff_iff, List.any_eq_true, decide_eq_true_eq]
    constructor
    · rintro ⟨x, hx, h⟩
      have : x = k := by simpa [eqFl] using h
      exact this ▸ hx
    · intro h
      exact ⟨k, h, by simp [eqFl]⟩
  have h1 : gInF neg (.str k) (.list (o.map .str)) = some (.bool (if neg then !decide (k ∈ o) else decide (k ∈ o))) := by
    unfold gInF
    simp only [he]
    rw [if_pos ⟨rfl, hs⟩]
  unfold alt
  rw [h1]
theorem gIn_strs (k : Str) (o : List Str) : gIn (.str k) (.list (o.map .str)) = some (.bool (decide (k ∈ o))) := gIn_strsN false k o
theorem gNotIn_strs (k : Str) (o : List Str) : gNotIn (.str k) (.list (o.map .str)) = some (.bool (!decide (k ∈ o))) := gIn_strsN true k o
theorem strs_data (l : List Str) : (l.map PyData.str).all dataD = true := by
  rw [List.all_map, List.all_eq_true]
  intro x _
  rfl
structure GM (ps : List Person) (ss : List Shift) : Prop where
  pn : (ps.map (·.name)).Nodup
  sn : (ss.map (·.name)).Nodup
  gp : ∀ p ∈ ps, GP p
  gs : ∀ s ∈ ss, GS s
  pl : ps.length ≤ 36
  sl : ss.length ≤ 14
/-! ### methods of a book at good data -/
theorem skErr_ok : ∀ (l seen : List Str), (∀ k ∈ l, nameB k = some true) → (seen ++ l).Nodup → skErr seen l = some none
  | [], _, _, _ => rfl
  | k :: l, seen, h, nd => by
    have h1 := h k List.mem_cons_self
    have hk : k ∉ seen := fun hm => by
      rw [List.nodup_append] at nd
      exact nd.2.2 k hm k List.mem_cons_self rfl
    have nd2 : (seen ++ [k] ++ l).Nodup := by
      rw [List.append_assoc]
      exact nd
    simp only [skErr, h1, if_neg hk]
    exact skErr_ok l (seen ++ [k]) (fun x hx => h x (List.mem_cons_of_mem _ hx)) nd2
theorem F_is_whole_int (i : Int) : F_is_whole [.int i] = some (.bool true) := by
  unfold F_is_whole; rw [runF_eq]; simp [b_is_whole, rho0]
theorem numOk_int (m i : Int) : numOk m (.int i) = some (if 1 ≤ i ∧ i ≤ m then some i else none) := by
  unfold numOk; rw [F_is_whole_int]
theorem st2 (x y : Int) : F_is_stretch [stD (x, y)] = some (.bool (decide (0 ≤ x) && decide (x < y) && decide (y ≤ 1000000))) := by
  unfold F_is_stretch stD; rw [runF_eq]
  by_cases h1 : 0 ≤ x <;> by_cases h2 : x < y <;> by_cases h3 : y ≤ 1000000 <;> simp [b_is_stretch, rho0, F_is_whole_int, h1, h2, h3]
theorem isSt_st (x y : Int) : isSt (stD (x, y)) = some (if 0 ≤ x ∧ x < y ∧ y ≤ 1000000 then some (x, y) else none) := by
  unfold isSt
  rw [st2]
  by_cases h1 : 0 ≤ x <;> by_cases h2 : x < y <;> by_cases h3 : y ≤ 1000000 <;> simp [h1, h2, h3, stD]
theorem oneDay_eq (x y : Int) : oneDay (x, y) = some ((y - 1) / 24 == x / 24) := by
  unfold oneDay F_in_one_day stD; rw [runF_eq]
  simp [b_in_one_day, rho0]
theorem gEq_nil (l : List PyData) (h : okDs l = true) (hd : (PyData.list l).depth ≤ 64) : gEq (.list l) (.list []) = some (.bool l.isEmpty) := by
  have h1 := okD_lay (.list l) (by simpa [okD] using h)
  have h2 : SeqAt.shaped (.list l) = true := by simp [SeqAt.shaped, h1, hd]
  have h3 : SeqAt.shaped (.list []) = true := by decide
  show gEqD (.list l) (.list []) = _
  unfold gEqD
  rw [if_pos ⟨rfl, rfl, h2, h3⟩]
  cases l <;> simp [PyData.eqv, PyData.eqvAll]
theorem okDs_st (rs : List (Int × Int)) : okDs (rs.map stD) = true ∧ (PyData.list (rs.map stD)).depth ≤ 64 := by
  refine ⟨?_, ?_⟩
  · rw [okDs_all, List.all_map, List.all_eq_true]
    intro r _
    simp [stD, okD, okDs]
  · have : PyData.depthAll (rs.map stD) ≤ 1 := depthAll_le fun d hd => by
      obtain ⟨r, _, rfl⟩ := List.mem_map.mp hd
      simp [stD, PyData.depth, PyData.depthAll]
    simp only [PyData.depth]
    omega
theorem nameB_of {z : Str} (h : isName z = true) : nameB z = some true := by
  have hl : z.length ≤ LIM := by
    unfold isName at h
    simp only [Bool.and_eq_true, decide_eq_true_eq] at h
    exact Nat.le_trans h.1.2 (by decide)
  unfold nameB
  rw [F_is_name_eq _ hl, h]
theorem SGN_small : ∀ c ∈ SGN.cps.toList, c < 0x110000 := by
  have : (SGN.cps.toList.all fun x => decide (x < 0x110000)) = true := by decide +kernel
  rw [List.all_eq_true] at this
  exact fun c hc => by simpa using this c hc
theorem okD_name {z : Str} (h : isName z = true) : okD (.str z) = true := by
  unfold isName at h
  simp only [Bool.and_eq_true, List.all_eq_true, decide_eq_true_eq] at h
  have : ∀ c ∈ z.cps.toList, c < 0x110000 := fun c hc => SGN_small c (h.2 c hc)
  show z.cps.all (fun c => decide (c < 0x110000)) = true
  rw [← Array.all_toList, List.all_eq_true]
  intro c hc
  exact decide_eq_true (this c hc)
theorem findP_none {ps : List Person} {ss : List Shift} {n : Str} (h : ∀ p ∈ ps, p.name ≠ n) : findP ⟨ps, ss⟩ n = none := by
  unfold findP
  rw [List.find?_eq_none]
  intro p hp
  simpa using h p hp
theorem findS_none {ps : List Person} {ss : List Shift} {n : Str} (h : ∀ s ∈ ss, s.name ≠ n) : findS ⟨ps, ss⟩ n = none := by
  unfold findS
  rw [List.find?_eq_none]
  intro p hp
  simpa using h p hp
theorem findP_at {ps : List Person} {ss : List Shift} (nd : (ps.map (·.name)).Nodup) {p : Person} (hp : p ∈ ps) : findP ⟨ps, ss⟩ p.name = some p := by
  unfold findP
  cases e : ps.find? fun q => decide (q.name = p.name) with
  | none =>
    rw [List.find?_eq_none] at e
    have := e p hp
    simp at this
  | some q =>
    have h1 := List.find?_some e
    have h2 := List.mem_of_find?_eq_some e
    have : q.name = p.name := by simpa using h1
    rw [nodup_inj nd h2 hp this]
theorem findS_at {ps : List Person} {ss : List Shift} (nd : (ss.map (·.name)).Nodup) {p : Shift} (hp : p ∈ ss) : findS ⟨ps, ss⟩ p.name = some p := by
  unfold findS
  cases e : ss.find? fun q => decide (q.name = p.name) with
  | none =>
    rw [List.find?_eq_none] at e
    have := e p hp
    simp at this
  | some q =>
    have h1 := List.find?_some e
    have h2 := List.mem_of_find?_eq_some e
    have : q.name = p.name := by simpa using h1
    rw [nodup_inj nd h2 hp this]
def bare (p : Person) : Person := { p with rests := [] }
theorem fm_person_ok {ps : List Person} {ss : List Shift} {p : Person} (g : GP p) (hn : ∀ q ∈ ps, q.name ≠ p.name) (hl : ps.length < 1000) : fm_add_person ⟨ps, ss⟩ [.str p.name, .list (p.skills.map .str), .int p.limit] = .done ⟨ps ++ [bare p], ss⟩ .none := by
  have sk := skErr_ok p.skills [] (fun k hk => nameB_of (g.sk k hk)) (by rw [List.nil_append]; exact g.nd)
  have gg : p.skills.length ≤ 1000 ∧ ps.length < 1000 := ⟨Nat.le_trans g.sl (by decide), hl⟩
  show addPerson _ _ _ _ = _
  unfold addPerson
  simp only [nameB_of g.nm, strsD_map, sk, numOk_int, if_pos g.lim, if_pos gg, findP_none hn]
  rfl
theorem ndErr_ok : ∀ (l acc : List (Str × Int)), (∀ n ∈ l, isName n.1 = true ∧ 1 ≤ n.2 ∧ n.2 ≤ 9) → ((acc ++ l).map (·.1)).Nodup → ndErr acc (l.map fun n => (n.1, .int n.2)) = some (.inr (acc ++ l))
  | [], acc, _, _ => by simp [ndErr]
  | n :: l, acc, h, nd => by
    obtain ⟨h1, h2⟩ := h n List.mem_cons_self
    have hk : n.1 ∉ acc.map (·.1) := fun hm => by
      rw [List.map_append, List.nodup_append] at nd
      exact nd.2.2 n.1 hm n.1 (by simp) rfl
    have ih := ndErr_ok l (acc ++ [n]) (fun x hx => h x (List.mem_cons_of_mem _ hx)) (by rw [List.append_assoc]; exact nd)
    rw [List.append_assoc] at ih
    simp only [List.map_cons, ndErr, nameB_of h1, if_neg hk, numOk_int, if_pos h2]
    exact ih
theorem needsOf_map : ∀ l : List (Str × Int), needsOf (l.map ndD) = some (l.map fun n => (n.1, .int n.2))
  | [] => rfl
  | n :: l => by
    show (needsOf (l.map ndD)).map _ = _
    rw [needsOf_map l]
    rfl
theorem fm_shift_ok {ps : List Person} {ss : List Shift} {s : Shift} (g : GS s) (hn : ∀ q ∈ ss, q.name ≠ s.name) (hl : ss.length < 1000) : fm_add_shift ⟨ps, ss⟩ [.str s.name, stD (s.b, s.e), .list (s.needs.map ndD)] = .done ⟨ps, ss ++ [s]⟩ .none := by
  have hd' : oneDay (s.b, s.e) = some true := by rw [oneDay_eq, g.day]; simp
  have gg : (s.needs.map fun n => (n.1, PyData.int n.2)).length ≤ 1000 ∧ ss.length < 1000 := ⟨by rw [List.length_map]; exact Nat.le_trans g.nl (by decide), hl⟩
  have nd := ndErr_ok s.needs [] g.nk (by rw [List.nil_append]; exact g.nd)
  show addShift _ _ _ _ = _
  unfold addShift
  simp only [nameB_of g.nm, isSt_st, if_pos g.st, hd', needsOf_map, nd, if_pos gg, findS_none hn, List.nil_append]
/-- rests more of a person -/
def restsB (β : BookSt) (n : Str) (rs : List (Int × Int)) : BookSt := { β with people := β.people.map fun q => if q.name = n then { q with rests := q.rests ++ rs } else q }
theorem restsB_nil (β : BookSt) (n : Str) : restsB β n [] = β := by
  unfold restsB
  cases β with
  | mk ps ss =>
    congr 1
    conv => rhs; rw [← List.map_id ps]
    apply List.map_congr_left
    intro q _
    split <;> simp
theorem restsB_cons (β : BookSt) (n : Str) (r : Int × Int) (rs : List (Int × Int)) : restsB (restB β n r) n rs = restsB β n (r :: rs) := by
  unfold restsB restB
  simp only [List.map_map]
  congr 1
  apply List.map_congr_left
  intro q _
  by_cases h : q.name = n
  · simp [restP, h]
  · simp [restP, h]
theorem restsB_mid (L M : List Person) (ss : List Shift) (p : Person) (h : ∀ q ∈ L ++ M, q.name ≠ p.name) : restsB ⟨L ++ bare p :: M, ss⟩ p.name p.rests = ⟨L ++ p :: M, ss⟩ := by
  have id_on : ∀ l : List Person, (∀ q ∈ l, q.name ≠ p.name) → (l.map fun q => if q.name = p.name then { q with rests := q.rests ++ p.rests } else q) = l := fun l hl => by
    conv => rhs; rw [← List.map_id l]
    apply List.map_congr_left
    intro q hq
    rw [if_neg (hl q hq)]
    rfl
  unfold restsB
  simp only [List.map_append, List.map_cons]
  rw [id_on L fun q hq => h q (List.mem_append_left _ hq), id_on M fun q hq => h q (List.mem_append_right _ hq)]
  congr 2
  simp [bare]
theorem fm_rest_ok {β : BookSt} {n : Str} {p : Person} {r : Int × Int} (hp : findP β n = some p) (hr : 0 ≤ r.1 ∧ r.1 < r.2 ∧ r.2 ≤ 1000000) (hl : p.rests.length < 1000) : fm_add_rest β [.str n, stD r] = .done (restB β n r) .none := by
  obtain ⟨x, y⟩ := r
  show addRest _ _ _ = _
  unfold addRest
  rw [hp, isSt_st, if_pos hr]
  simp only [if_pos hl]
theorem findP_rest {β : BookSt} {n : Str} {p : Person} (r : Int × Int) (hp : findP β n = some p) : findP (restB β n r) n = some { p with rests := p.rests ++ [r] } := by
  unfold findP restB at *
  rw [List.find?_map]
  have e : ((fun p : Person => decide (p.name = n)) ∘ restP n r) = fun p => decide (p.name = n) := by
    funext q
    simp [restP_name]
  have hn : p.name = n := by simpa using List.find?_some hp
  rw [e, hp]
  simp [restP, hn]
theorem runMG_nx {S : Type} {kd : Kd S} {N : List Str} {n : Nat} {b : SS} {β s : S} {ds : List PyData} (h : ds.length + 1 = n) {ρ : Rho} (e : b (.obj (kd.inj β) :: rho0 (N.drop 1) ds) = .nx ρ) (h0 : ρ[0]? = some (.obj (kd.inj s))) : runMG kd N n b β ds = .done s .none := by
  unfold runMG runO
  simp only [h, if_true, e, h0, slO_any, RMG.prj, kd.pi]
theorem nodup_ne {α β : Type} {f : α → β} {Q L : List α} {p : α} (nd : ((Q ++ p :: L).map f).Nodup) : ∀ q ∈ Q, f q ≠ f p := fun q hq e => by
  rw [List.map_append, List.nodup_append] at nd
  exact nd.2.2 (f q) (List.mem_map_of_mem hq) (f p) (by simp) e
theorem lay_name {z : Str} (h : isName z = true) : (PyData.str z).canLay0 = true := by
  have := okD_name h
  rwa [okD] at this
theorem okDs_per {ps : List Person} (h : ∀ p ∈ ps, GP p) : okDs (ps.map perD) = true ∧ (PyData.list (ps.map perD)).depth ≤ 64 := by
  refine ⟨?_, ?_⟩
  · rw [okDs_all, List.all_map, List.all_eq_true]
    intro p hp
    have g := h p hp
    have h1 : okDs (p.skills.map .str) = true := by
      rw [okDs_all, List.all_map, List.all_eq_true]
      intro k hk
      exact okD_name (g.sk k hk)
    have h2 := (okDs_st p.rests).1
    have h3 := lay_name g.nm
    show okD (perD p) = true
    unfold perD
    rw [okD]
    simp only [okDs, h3, okD, h1, h2, Bool.true_and, Bool.and_true]
  · have : PyData.depthAll (ps.map perD) ≤ 10 := depthAll_le fun d hd => by
      obtain ⟨p, _, rfl⟩ := List.mem_map.mp hd
      have d1 : PyData.depthAll (p.skills.map .str) ≤ 1 := depthAll_le fun d hd => by
        obtain ⟨r, _, rfl⟩ := List.mem_map.mp hd
        simp [PyData.depth]
      have d2 : PyData.depthAll (p.rests.map stD) ≤ 2 := depthAll_le fun d hd => by
        obtain ⟨r, _, rfl⟩ := List.mem_map.mp hd
        simp [stD, PyData.depth, PyData.depthAll]
      simp only [perD, PyData.depth, PyData.depthAll]
      omega
    simp only [PyData.depth]
    omega
theorem okDs_sh {ss : List Shift} (h : ∀ p ∈ ss, GS p) : okDs (ss.map shD) = true ∧ (PyData.list (ss.map shD)).depth ≤ 64 := by
  refine ⟨?_, ?_⟩
  · rw [okDs_all, List.all_map, List.all_eq_true]
    intro p hp
    have g := h p hp
    have h1 : okDs (p.needs.map ndD) = true := by
      rw [okDs_all, List.all_map, List.all_eq_true]
      intro k hk
      show okD (ndD k) = true
      unfold ndD
      rw [okD]
      simp only [okDs, lay_name (g.nk k hk).1, okD, Bool.true_and]
    have h3 := lay_name g.nm
    show okD (shD p) = true
    unfold shD stD
    rw [okD]
    simp only [okDs, h3, okD, h1, Bool.true_and, Bool.and_true]
  · have : PyData.depthAll (ss.map shD) ≤ 10 := depthAll_le fun d hd => by
      obtain ⟨p, _, rfl⟩ := List.mem_map.mp hd
      have d1 : PyData.depthAll (p.needs.map ndD) ≤ 2 := depthAll_le fun d hd => by
        obtain ⟨r, _, rfl⟩ := List.mem_map.mp hd
        simp [ndD, PyData.depth, PyData.depthAll]
      simp only [shD, stD, PyData.depth, PyData.depthAll]
      omega
    simp only [PyData.depth]
    omega
theorem isEmpty_map {α β : Type} (f : α → β) (l : List α) : (l.map f).isEmpty = l.isEmpty := by cases l <;> rfl
theorem gNe_nil (l : List PyData) (h : okDs l = true) (hd : (PyData.list l).depth ≤ 64) : gNe (.list l) (.list []) = some (.bool (!l.isEmpty)) := by
  have h1 := okD_lay (.list l) (by simpa [okD] using h)
  have h2 : SeqAt.shaped (.list l) = true := by simp [SeqAt.shaped, h1, hd]
  have h3 : SeqAt.shaped (.list []) = true := by decide
  show gNeD (.list l) (.list []) = _
  unfold gNeD
  rw [if_pos ⟨rfl, rfl, h2, h3⟩]
  cases l <;> simp [PyData.eqv, PyData.eqvAll]
theorem atI_last {α : Type} {l : List α} {x : α} (h : l.getLast? = some x) : atI l (-1) = some x := by
  have hl : 0 < l.length := by
    cases l with
    | nil => simp at h
    | cons a r => simp
  unfold atI ixN
  rw [if_neg (by decide), if_pos (by omega), Option.bind_some]
  rw [List.getLast?_eq_getElem?] at h
  rw [← h]
  congr 1
  omega
theorem atI_head {α : Type} {l : List α} {x : α} (h : l.head? = some x) : atI l 0 = some x := by
  cases l with
  | nil => simp at h
  | cons a r => simp at h ⊢; exact h
theorem lcF_mapped {α : Type} {j : Nat} {tst : STe} {el : SE} {ρ : Rho} (f : α → PyData) (p : α → Bool) (g : α → PyData) : ∀ {l : List α}, (∀ x, x ∈ l → tst (ρ.set j (.val (f x))) = some (p x)) → (∀ x, x ∈ l → p x = true → el (ρ.set j (.val (f x))) = some (g x) ∧ dataD (g x) = true) → lcF j tst el ρ (l.map f) = some ((l.filter p).map g)
  | [], _, _ => rfl
  | x :: l, h, h' => by
    have ih := lcF_mapped f p g (l := l) (fun y hy => h y (List.mem_cons_of_mem _ hy)) fun y hy => h' y (List.mem_cons_of_mem _ hy)
    have h1 := h x List.mem_cons_self
    cases hp : p x with
    | true =>
      obtain ⟨h2, h3⟩ := h' x List.mem_cons_self hp
      simp [lcF, h1, hp, h2, h3, ih]
    | false => simp [lcF, h1, hp, ih]
theorem lcF_mappedT {α : Type} {j : Nat} {el : SE} {ρ : Rho} (f : α → PyData) (g : α → PyData) : ∀ {l : List α}, (∀ x, x ∈ l → el (ρ.set j (.val (f x))) = some (g x) ∧ dataD (g x) = true) → lcF j tYesF el ρ (l.map f) = some (l.map g)
  | [], _ => rfl
  | x :: l, h => by
    have ih := lcF_mappedT f g (l := l) fun y hy => h y (List.mem_cons_of_mem _ hy)
    obtain ⟨h2, h3⟩ := h x List.mem_cons_self
    simp [lcF, h2, h3, ih]
theorem gIn_intsN (neg : Bool) (k : Int) (o : List Int) : alt (gInF neg) (alt (gInL neg) (gInS neg)) (.int k) (.list (o.map .int)) = some (.bool (if neg then !decide (k ∈ o) else decide (k ∈ o))) := by
  have hs : (o.map PyData.int).all scalD = true := by rw [List.all_map]; simp [List.all_eq_true]
  have he : ((o.map PyData.int).any fun z => eqFl z (.int k)) = decide (k ∈ o) := by
    rw [List.any_map, Bool.eq_iff_iff, List.any_eq_true, decide_eq_true_eq]
    constructor
    · rintro ⟨x, hx, h⟩
      have : x = k := by simpa [eqFl] using h
      exact this ▸ hx
    · intro h
      exact ⟨k, h, by simp [eqFl]⟩
  have h1 : gInF neg (.int k) (.list (o.map .int)) = some (.bool (if neg then !decide (k ∈ o) else decide (k ∈ o))) := by
    unfold gInF
    simp only [he]
    rw [if_pos ⟨rfl, hs⟩]
  unfold alt
  rw [h1]
theorem gNotIn_ints (k : Int) (o : List Int) : gNotIn (.int k) (.list (o.map .int)) = some (.bool (!decide (k ∈ o))) := gIn_intsN true k o
theorem eqv_postD (p q : Str × Str) : PyData.eqv (postD q) (postD p) = decide (q = p) := by
  obtain ⟨a, b⟩ := p
  obtain ⟨c, d⟩ := q
  simp only [postD, PyData.eqv, PyData.eqvAll, Bool.and_true]
  rw [Bool.eq_iff_iff]
  simp
def okP (p : Str × Str) : Prop := okD (.str p.1) = true ∧ okD (.str p.2) = true
theorem shaped_post {p : Str × Str} (h : okP p) : SeqAt.shaped (postD p) = true := by
  have h1 : (postD p).canLay0 = true := by
    have := okD_lay (postD p) (by simp only [postD, okD, okDs, Bool.and_true]; have := h.1; have := h.2; simp only [okD] at *; simp [*])
    exact this
  have h2 : (postD p).depth ≤ 64 := by simp [postD, PyData.depth, PyData.depthAll]
  simp [SeqAt.shaped, h1, h2]
theorem shaped_posts {T : List (Str × Str)} (h : ∀ p ∈ T, okP p) : SeqAt.shaped (.list (T.map postD)) = true := by
  have h1 : (PyData.list (T.map postD)).canLay0 = true := by
    refine okD_lay _ ?_
    rw [okD, okDs_all, List.all_map, List.all_eq_true]
    intro p hp
    have := h p hp
    show okD (postD p) = true
    simp only [postD, okD, okDs, Bool.and_true]
    have h1 := this.1
    have h2 := this.2
    simp only [okD] at h1 h2
    simp [h1, h2]
  have h2 : (PyData.list (T.map postD)).depth ≤ 64 := by
    have : PyData.depthAll (T.map postD) ≤ 5 := depthAll_le fun d hd => by
      obtain ⟨p, _, rfl⟩ := List.mem_map.mp hd
      simp [postD, PyData.depth, PyData.depthAll]
    simp only [PyData.depth]
    omega
  simp [SeqAt.shaped, h1, h2]
theorem gIn_posts {p : Str × Str} {T : List (Str × Str)} (hp : okP p) (hT : ∀ p ∈ T, okP p) : gIn (postD p) (.list (T.map postD)) = some (.bool (decide (p ∈ T))) := by
  have h0 : gInF false (postD p) (.list (T.map postD)) = none := by
    unfold gInF postD
    simp [scalD]
  have he : ((T.map postD).any fun z => PyData.eqv z (postD p)) = decide (p ∈ T) := by
    rw [List.any_map, Bool.eq_iff_iff, List.any_eq_true, decide_eq_true_eq]
    constructor
    · rintro ⟨x, hx, h⟩
      have h' : PyData.eqv (postD x) (postD p) = true := h
      rw [eqv_postD, decide_eq_true_eq] at h'
      exact h' ▸ hx
    · intro h
      exact ⟨p, h, by show PyData.eqv (postD p) (postD p) = true; rw [eqv_postD]; simp⟩
  have h1 : gInL false (postD p) (.list (T.map postD)) = some (.bool (decide (p ∈ T))) := by
    have s1 := shaped_post hp
    have s2 := shaped_posts hT
    have s3 : dataD (postD p) = true := rfl
    simp only [gInL, s1, s2, s3, and_self, if_true, he]
    rfl
  unfold gIn alt
  rw [h0]
  simp only [h1]
/-- the posts with their shifts -/
abbrev SN := Shift × (Str × Int)
def allN (ss : List Shift) : List SN := ss.flatMap fun s => s.needs.map fun n => (s, n)
def keyN (x : SN) : Str × Str := (x.1.name, x.2.1)
theorem postsB_eq (ps : List Person) (ss : List Shift) : postsB ⟨ps, ss⟩ = (allN ss).map keyN := by
  unfold postsB allN
  simp only [List.map_flatMap, List.map_map]
  rfl
theorem allN_mem {ss : List Shift} {x : SN} (h : x ∈ allN ss) : x.1 ∈ ss ∧ x.2 ∈ x.1.needs := by
  unfold allN at h
  obtain ⟨s, hs, hx⟩ := List.mem_flatMap.mp h
  obtain ⟨n, hn, rfl⟩ := List.mem_map.mp hx
  exact ⟨hs, hn⟩
theorem allN_len {ss : List Shift} (h : ∀ s ∈ ss, GS s) (hl : ss.length ≤ 14) : (allN ss).length ≤ 84 := by
  have : ∀ l : List Shift, (∀ s ∈ l, GS s) → (allN l).length ≤ 6 * l.length := by
    intro l
    induction l with
    | nil => intro _; simp [allN]
    | cons s l ih =>
      intro h
      have h1 := ih fun x hx => h x (List.mem_cons_of_mem _ hx)
      have h2 := (h s List.mem_cons_self).nl
      unfold allN at h1 ⊢
      simp only [List.flatMap_cons, List.length_append, List.length_map, List.length_cons] at h1 ⊢
      omega
  have := this ss h
  omega
def wantP (ss : List Shift) (T : List (Str × Str)) : Int := (((allN ss).filter fun x => decide (keyN x ∈ T)).map fun x => x.2.2).sum
def dayS (s : Shift) : Int := s.b / 24
def dayStep (p : Person) (T : List (Str × Str)) (acc : List Int) (x : SN) : List Int := if keyN x ∈ T ∧ mayB p x.1 x.2.1 = true ∧ dayS x.1 ∉ acc then acc ++ [dayS x.1] else acc
def daysP (p : Person) (ss : List Shift) (T : List (Str × Str)) : List Int := (allN ss).foldl (dayStep p T) []
def minI (i j : Int) : Int := if j < i then j else i
def roomP (ps : List Person) (ss : List Shift) (T : List (Str × Str)) : Int := (ps.map fun p => minI p.limit (daysP p ss T).length).sum
theorem gSum_ints (l : List Int) : gSum [.list (l.map .int)] = some (.int l.sum) := by
  simp only [gSum, intsD_map, Option.map_some]
theorem okP_need {s : Shift} (g : GS s) {n : Str × Int} (hn : n ∈ s.needs) : okP (s.name, n.1) := ⟨okD_name g.nm, okD_name (g.nk n hn).1⟩
theorem needOf_at {s : Shift} (nd : (s.needs.map (·.1)).Nodup) {n : Str × Int} (hn : n ∈ s.needs) : needOf s n.1 = some n.2 := by
  unfold needOf
  cases e : s.needs.find? fun q => decide (q.1 = n.1) with
  | none =>
    rw [List.find?_eq_none] at e
    have := e n hn
    simp at this
  | some q =>
    have h1 := List.find?_some e
    have h2 := List.mem_of_find?_eq_some e
    have : q.1 = n.1 := by simpa using h1
    rw [nodup_inj nd h2 hn this]
    rfl
section
variable {ps : List Person} {ss : List Shift} (g : GM ps ss)
include g
theorem count_at {x : SN} (hx : x ∈ allN ss) : fr_count_of ⟨ps, ss⟩ [.str x.1.name, .str x.2.1] = .ret (.int x.2.2) := by
  obtain ⟨h1, h2⟩ := allN_mem hx
  simp [fr_count_of, s2, findS_at g.sn h1, needOf_at (g.gs _ h1).nd h2, mis]
theorem may_at {p : Person} (hp : p ∈ ps) {x : SN} (hx : x ∈ allN ss) : fr_may ⟨ps, ss⟩ [.str p.name, .str x.1.name, .str x.2.1] = .ret (.bool (mayB p x.1 x.2.1)) := by
  obtain ⟨h1, h2⟩ := allN_mem hx
  simp [fr_may, s3, findS_at g.sn h1, findP_at g.pn hp, mis]
theorem stretch_at {x : SN} (hx : x ∈ allN ss) : fr_stretch_of ⟨ps, ss⟩ [.str x.1.name] = .ret (stD (x.1.b, x.1.e)) := by
  obtain ⟨h1, h2⟩ := allN_mem hx
  simp [fr_stretch_of, s1, findS_at g.sn h1, mis]
theorem limit_at {p : Person} (hp : p ∈ ps) : fr_limit_of ⟨ps, ss⟩ [.str p.name] = .ret (.int p.limit) := by
  simp [fr_limit_of, s1, findP_at g.pn hp, mis]
theorem posts_at : fr_posts ⟨ps, ss⟩ [] = .ret (.list (((allN ss).map keyN).map postD)) := by
  simp [fr_posts, s0, postsB_eq]
theorem people_at : fr_people ⟨ps, ss⟩ [] = .ret (.list ((ps.map (·.name)).map .str)) := by
  simp [fr_people, s0]
end
theorem day_of_at (s : Shift) : F_day_of [stD (s.b, s.e)] = some (.int (dayS s)) := by
  unfold F_day_of
  rw [runF_eq]
  simp [b_day_of, rho0, stD, dayS]
theorem bookAt (a : Addr) (β : BookSt) (ρ : Rho) (i : Nat) (h : ρ[i]? = some (.val (refD a))) : rcv kB (only a (.book β)) ρ i = some β := by
  rw [rcv_ref a _ ρ i h]
section
variable {ps : List Person} {ss : List Shift} (g : GM ps ss)
include g
theorem postsI_at (a : Addr) (ρ : Rho) (h : ρ[0]? = some (.val (refD a))) : eMeth kB (only a (.book ⟨ps, ss⟩)) 0 fr_posts eNil ρ = some (.list ((allN ss).map fun x => postD (keyN x))) := by
  rw [eMeth_eq, bookAt a _ ρ 0 h, Option.bind_some, eNil_eq, Option.bind_some, posts_at g]
  simp only [List.map_map, Res.ok, Function.comp_def]
theorem allN_lim : (allN ss).length ≤ LIM := Nat.le_trans (allN_len g.gs g.sl) (by decide)
theorem okP_at {x : SN} (hx : x ∈ allN ss) : okP (keyN x) := okP_need (g.gs _ (allN_mem hx).1) (allN_mem hx).2
end
theorem sgs_nodup : sgs.cps.toList.Nodup := by decide +kernel
theorem sg_inj {a b : Int} (ha : 0 ≤ a ∧ a < 93) (hb : 0 ≤ b ∧ b < 93) (h : sg a = sg b) : a = b := by
  have hl : sgs.cps.toList.length = 93 := by
    have h := sgs_len
    simpa [Str.length] using h
  have ea : a % 93 = a := Int.emod_eq_of_lt ha.1 ha.2
  have eb : b % 93 = b := Int.emod_eq_of_lt hb.1 hb.2
  unfold sg at h
  rw [ea, eb] at h
  have la : a.toNat < sgs.cps.toList.length := by omega
  have lb : b.toNat < sgs.cps.toList.length := by omega
  rw [List.getElem?_eq_getElem la, List.getElem?_eq_getElem lb] at h
  have := (List.getElem_inj (h₀ := la) (h₁ := lb) sgs_nodup).mp (by simpa using h)
  omega
end RK
namespace RK
open PySem PySem.Spec PyProof.Rows L2 RT
/-! ### a deal, plainly: places, days, who may, who does -/
structure DM where
  lim : List (Str × Int)
  pl : List (Str × Str)
  dy : List Int
  ab : List (List Str)
  wh : List (Option Str)
def limM (m : DM) (n : Str) : Int := (lookN m.lim n).getD 0
def heldM (m : DM) (n : Str) : List Nat := (List.range m.wh.length).filter fun i => decide (m.wh[i]? = some (some n))
def sameM (m : DM) (n : Str) (p : Nat) : List Nat := (heldM m n).filter fun o => decide (m.dy[o]? = m.dy[p]?)
def givenM (m : DM) (n : Str) (p : Nat) : List Nat :=
  if sameM m n p ≠ [] then sameM m n p else if ((heldM m n).length : Int) < limM m n then [] else heldM m n
/-- the search's tree: a place, and from where by whom -/
abbrev Came := List (Nat × Option (Nat × Str))
def inCame (c : Came) (p : Nat) : Bool := c.any fun x => decide (x.1 = p)
/-- one person's places taken in -/
def takeIn (p : Nat) (n : Str) : List Nat → Came × List Nat → Came × List Nat
  | [], a => a
  | o :: os, a => takeIn p n os (if inCame a.1 o = true then a else (a.1 ++ [(o, some (p, n))], a.2 ++ [o]))
/-- along the names that may: a way that is free, or more places to look at -/
def alongM (m : DM) (p : Nat) : List Str → Came × List Nat → (Nat × Str) ⊕ (Came × List Nat)
  | [], a => .inr a
  | n :: ns, a => if givenM m n p = [] then .inl (p, n) else alongM m p ns (takeIn p n (givenM m n p) a)
theorem takeIn_mono (p : Nat) (n : Str) : ∀ (os : List Nat) (a : Came × List Nat) (x : Nat), inCame a.1 x = true → inCame (takeIn p n os a).1 x = true
  | [], _, _, h => h
  | o :: os, a, x, h => by
    refine takeIn_mono p n os _ x ?_
    split
    · exact h
    · unfold inCame at h ⊢
      rw [List.any_append, h]
      rfl
theorem takeIn_all (p : Nat) (n : Str) : ∀ (os : List Nat) (a : Came × List Nat) (x : Nat), x ∈ os → inCame (takeIn p n os a).1 x = true
  | o :: os, a, x, h => by
    rcases List.mem_cons.mp h with rfl | h
    · refine takeIn_mono p n os _ x ?_
      split
      · assumption
      · unfold inCame
        rw [List.any_append]
        simp
    · exact takeIn_all p n os _ x h
/-! ### a change along a path: how many each holds -/
def chg : List (Option Str) → List (Nat × Str) → List (Option Str)
  | wh, [] => wh
  | wh, (p, n) :: r => chg (wh.set p (some n)) r
/-- each place but the last is held by the next one's person; the last by none -/
def chain (wh : List (Option Str)) : List (Nat × Str) → Prop
  | [] => True
  | [(p, _)] => wh[p]? = some none
  | (p, _) :: (p', n') :: r => wh[p]? = some (some n') ∧ chain wh ((p', n') :: r)
theorem chain_lt {wh : List (Option Str)} : ∀ {π : List (Nat × Str)}, chain wh π → ∀ x ∈ π, x.1 < wh.length
  | [], _, x, h => by cases h
  | [(p, n)], c, x, h => by
    rw [List.mem_singleton] at h
    subst h
    exact (List.getElem?_eq_some_iff.mp c).1
  | (p, n) :: (p', n') :: r, c, x, h => by
    rcases List.mem_cons.mp h with rfl | h
    · exact (List.getElem?_eq_some_iff.mp c.1).1
    · exact chain_lt c.2 x h
theorem chain_set {wh : List (Option Str)} {q : Nat} {v : Option Str} : ∀ {π : List (Nat × Str)}, q ∉ π.map (·.1) → chain wh π → chain (wh.set q v) π
  | [], _, _ => trivial
  | [(p, n)], h, c => by
    have : q ≠ p := fun e => h (by simp [e])
    show (wh.set q v)[p]? = some none
    rw [List.getElem?_set_ne this]
    exact c
  | (p, n) :: (p', n') :: r, h, c => by
    have : q ≠ p := fun e => h (by simp [e])
    refine ⟨?_, chain_set (fun hm => h (List.mem_cons_of_mem _ hm)) c.2⟩
    rw [List.getElem?_set_ne this]
    exact c.1
theorem count_set' (wh : List (Option Str)) (p : Nat) (v w x : Option Str) (h : wh[p]? = some w) : (wh.set p v).count x + (if w = x then 1 else 0) = wh.count x + (if v = x then 1 else 0) := by
  induction wh generalizing p with
  | nil => simp at h
  | cons a l ih =>
    cases p with
    | zero =>
      simp only [List.getElem?_cons_zero, Option.some.injEq] at h
      subst h
      simp only [List.set_cons_zero, List.count_cons]
      by_cases h1 : a = x <;> by_cases h2 : v = x <;> simp [h1, h2]
    | succ p =>
      have := ih p (by simpa using h)
      simp only [List.set_cons_succ, List.count_cons]
      omega
theorem chg_count (x : Str) : ∀ (π : List (Nat × Str)) (wh : List (Option Str)), (π.map (·.1)).Nodup → chain wh π → (chg wh π).count (some x) = wh.count (some x) + (match π with | [] => 0 | (_, n) :: _ => if n = x then 1 else 0)
  | [], wh, _, _ => rfl
  | [(p, n)], wh, _, c => by
    have := count_set' wh p (some n) none (some x) c
    show (wh.set p (some n)).count (some x) = _
    simp at this ⊢
    exact this
  | (p, n) :: (p', n') :: r, wh, nd, c => by
    rw [List.map_cons, List.nodup_cons] at nd
    have ih := chg_count x ((p', n') :: r) (wh.set p (some n)) nd.2 (chain_set nd.1 c.2)
    have := count_set' wh p (some n) (some n') (some x) c.1
    show (chg (wh.set p (some n)) ((p', n') :: r)).count (some x) = _
    rw [ih]
    simp only [Option.some.injEq] at this
    simp only
    omega
/-- who holds a place after the change -/
theorem chg_get : ∀ (π : List (Nat × Str)) (wh : List (Option Str)) (i : Nat), (π.map (·.1)).Nodup → (∀ x ∈ π, x.1 < wh.length) → (chg wh π)[i]? = match π.find? fun x => decide (x.1 = i) with
    | some (_, n) => some (some n)
    | none => wh[i]?
  | [], wh, i, _, _ => rfl
  | (p, n) :: r, wh, i, nd, hl => by
    rw [List.map_cons, List.nodup_cons] at nd
    show (chg (wh.set p (some n)) r)[i]? = _
    rw [chg_get r (wh.set p (some n)) i nd.2 (fun x hx => by rw [List.length_set]; exact hl x (List.mem_cons_of_mem _ hx)), List.find?_cons]
    have hp := hl (p, n) List.mem_cons_self
    by_cases h : p = i
    · subst h
      have : r.find? (fun x => decide (x.1 = p)) = none := by
        rw [List.find?_eq_none]
        intro x hx
        have : x.1 ≠ p := fun e => nd.1 (List.mem_map.mpr ⟨x, hx, e⟩)
        simp [this]
      rw [this]
      simp only [decide_true, if_true]
      rw [List.getElem?_set_self hp]
    · simp only [h, decide_false]
      cases r.find? (fun x => decide (x.1 = i)) with
      | none => rw [List.getElem?_set_ne h]
      | some y => rfl
/-! ### days stay apart along a change -/
theorem on_path : ∀ {π : List (Nat × Str)} {x : Nat × Str}, x ∈ π → π.head? = some x ∨ ∃ a, (a, x) ∈ π.zip π.tail
  | y :: r, x, h => by
    rcases List.mem_cons.mp h with rfl | h
    · exact .inl rfl
    · right
      cases r with
      | nil => cases h
      | cons z r =>
        rcases on_path h with e | ⟨a, ha⟩
        · simp at e
          subst e
          exact ⟨y, by simp⟩
        · exact ⟨a, by
            simp only [List.tail_cons, List.zip_cons_cons, List.mem_cons] at ha ⊢
            exact .inr ha⟩
theorem succ_one : ∀ {π : List (Nat × Str)}, (π.map (·.1)).Nodup → ∀ {a b x y : Nat × Str}, (a, x) ∈ π.zip π.tail → (b, y) ∈ π.zip π.tail → a.1 = b.1 → x = y
  | [], _, _, _, _, _, h, _, _ => by cases h
  | [z], _, _, _, _, _, h, _, _ => by simp at h
  | z :: w :: r, nd, a, b, x, y, h1, h2, e => by
    simp only [List.tail_cons, List.zip_cons_cons, List.mem_cons, Prod.mk.injEq] at h1 h2
    rw [List.map_cons, List.nodup_cons] at nd
    have inn : ∀ {c u : Nat × Str}, (c, u) ∈ (w :: r).zip r → c.1 ∈ (w :: r).map (·.1) := fun h => List.mem_map_of_mem (List.of_mem_zip h).1
    rcases h1 with ⟨rfl, rfl⟩ | h1
    · rcases h2 with ⟨rfl, rfl⟩ | h2
      · rfl
      · exact absurd (e ▸ inn h2) nd.1
    · rcases h2 with ⟨rfl, rfl⟩ | h2
      · exact absurd (e ▸ inn h1) nd.1
      · exact succ_one nd.2 h1 h2 e
theorem held_mem {m : DM} {n : Str} {i : Nat} : i ∈ heldM m n ↔ m.wh[i]? = some (some n) := by
  unfold heldM
  rw [List.mem_filter, List.mem_range, decide_eq_true_eq]
  constructor
  · exact fun h => h.2
  · exact fun h => ⟨(List.getElem?_eq_some_iff.mp h).1, h⟩
theorem same_mem {m : DM} {n : Str} {p i : Nat} : i ∈ sameM m n p ↔ m.wh[i]? = some (some n) ∧ m.dy[i]? = m.dy[p]? := by
  unfold sameM
  rw [List.mem_filter, held_mem, decide_eq_true_eq]
def apartD (dy : List Int) (wh : List (Option Str)) : Prop := ∀ (i j : Nat) (n : Str), i ≠ j → wh[i]? = some (some n) → wh[j]? = some (some n) → dy[i]? ≠ dy[j]?
/-- a way of the search: its edges -/
structure WayOk (m : DM) (π : List (Nat × Str)) : Prop where
  nd : (π.map (·.1)).Nodup
  ch : chain m.wh π
  free : ∀ p n, π.head? = some (p, n) → givenM m n p = []
  edge : ∀ a x, (a, x) ∈ π.zip π.tail → a.1 ∈ givenM m x.2 x.1
  lim : ∀ a b x y, (a, x) ∈ π.zip π.tail → (b, y) ∈ π.zip π.tail → x.2 = y.2 → sameM m x.2 x.1 = [] → sameM m y.2 y.1 = [] → x.1 = y.1
theorem given_nil {m : DM} {n : Str} {p : Nat} (h : givenM m n p = []) : sameM m n p = [] ∧ (((heldM m n).length : Int) < limM m n ∨ heldM m n = []) := by
  unfold givenM at h
  split at h
  · rename_i h1; exact absurd h h1
  · rename_i h1
    refine ⟨by simpa using h1, ?_⟩
    split at h
    · rename_i h2; exact .inl h2
    · exact .inr h
theorem given_same {m : DM} {n : Str} {p i : Nat} (h : i ∈ givenM m n p) (hs : sameM m n p ≠ []) : i ∈ sameM m n p := by
  unfold givenM at h
  rw [if_pos hs] at h
  exact h
theorem given_held {m : DM} {n : Str} {p i : Nat} (h : i ∈ givenM m n p) : i ∈ heldM m n := by
  unfold givenM at h
  split at h
  · unfold sameM at h
    exact (List.mem_filter.mp h).1
  · split at h
    · cases h
    · exact h
theorem change_apart {m : DM} {π : List (Nat × Str)} (w : WayOk m π) (ha : apartD m.dy m.wh) : apartD m.dy (chg m.wh π) := by
  intro i j n hij hi hj hd
  rw [chg_get π m.wh i w.nd (chain_lt w.ch)] at hi
  rw [chg_get π m.wh j w.nd (chain_lt w.ch)] at hj
  have on : ∀ {k : Nat} {y : Nat × Str}, π.find? (fun x => decide (x.1 = k)) = some y → y ∈ π ∧ y.1 = k := fun h => ⟨List.mem_of_find?_eq_some h, by simpa using List.find?_some h⟩
  have off : ∀ {k : Nat}, π.find? (fun x => decide (x.1 = k)) = none → ∀ y ∈ π, y.1 ≠ k := fun h y hy e => by
    rw [List.find?_eq_none] at h
    have := h y hy
    simp [e] at this
  -- a place on the way, another off it
  have mix : ∀ {i j : Nat}, (i, n) ∈ π → (∀ y ∈ π, y.1 ≠ j) → m.wh[j]? = some (some n) → m.dy[i]? = m.dy[j]? → False := fun {i j} h1 h2 h3 h4 => by
    have hs : j ∈ sameM m n i := same_mem.mpr ⟨h3, h4.symm⟩
    have hne : sameM m n i ≠ [] := fun e => by rw [e] at hs; cases hs
    rcases on_path h1 with e | ⟨a, e⟩
    · exact hne (given_nil (w.free _ _ e)).1
    · have := same_mem.mp (given_same (w.edge _ _ e) hne)
      have haj : a.1 ≠ j := h2 a (List.of_mem_zip e).1
      exact ha a.1 j n haj this.1 h3 (this.2.trans h4)
  cases e1 : π.find? (fun x => decide (x.1 = i)) with
  | none =>
    rw [e1] at hi
    cases e2 : π.find? (fun x => decide (x.1 = j)) with
    | none =>
      rw [e2] at hj
      exact ha i j n hij hi hj hd
    | some y =>
      rw [e2] at hj
      obtain ⟨h1, h2⟩ := on e2
      have hy : y = (j, n) := Prod.ext h2 (by simpa using hj)
      rw [hy] at h1
      exact mix h1 (off e1) hi hd.symm
  | some x =>
    rw [e1] at hi
    obtain ⟨h1, h2⟩ := on e1
    have hx : x = (i, n) := Prod.ext h2 (by simpa using hi)
    rw [hx] at h1
    cases e2 : π.find? (fun x => decide (x.1 = j)) with
    | none =>
      rw [e2] at hj
      exact mix h1 (off e2) hj hd
    | some y =>
      rw [e2] at hj
      obtain ⟨h3, h4⟩ := on e2
      have hy : y = (j, n) := Prod.ext h4 (by simpa using hj)
      rw [hy] at h3
      have es : sameM m n i = sameM m n j := by
        unfold sameM
        rw [hd]
      by_cases hs : sameM m n i = []
      · have hs2 : sameM m n j = [] := es ▸ hs
        -- by the limit
        have full : ∀ {p : Nat} {a : Nat × Str}, (a, (p, n)) ∈ π.zip π.tail → sameM m n p = [] → ¬ ((heldM m n).length : Int) < limM m n ∧ heldM m n ≠ [] := fun {p a} h hs => by
          have hg := w.edge _ _ h
          refine ⟨fun hl => ?_, fun hn => ?_⟩
          · have : givenM m n p = [] := by
              unfold givenM
              rw [if_neg (by simpa using hs), if_pos hl]
            have hg' : a.1 ∈ givenM m n p := hg
            rw [this] at hg'
            cases hg'
          · have := given_held hg
            have this' : a.1 ∈ heldM m n := this
            rw [hn] at this'
            cases this'
        rcases on_path h1 with q1 | ⟨a, q1⟩
        · rcases on_path h3 with q2 | ⟨b, q2⟩
          · rw [q1] at q2
            cases q2
            exact hij rfl
          · obtain ⟨f1, f2⟩ := full q2 hs2
            rcases (given_nil (w.free _ _ q1)).2 with z | z
            · exact f1 z
            · exact f2 z
        · rcases on_path h3 with q2 | ⟨b, q2⟩
          · obtain ⟨f1, f2⟩ := full q1 hs
            rcases (given_nil (w.free _ _ q2)).2 with z | z
            · exact f1 z
            · exact f2 z
          · exact hij (w.lim a b (i, n) (j, n) q1 q2 rfl hs hs2)
      · have hs2 : sameM m n j ≠ [] := es ▸ hs
        rcases on_path h1 with q1 | ⟨a, q1⟩
        · exact hs (given_nil (w.free _ _ q1)).1
        · rcases on_path h3 with q2 | ⟨b, q2⟩
          · exact hs2 (given_nil (w.free _ _ q2)).1
          · have g1 := same_mem.mp (given_same (w.edge _ _ q1) hs)
            have g2 := same_mem.mp (given_same (w.edge _ _ q2) hs2)
            by_cases hab : a.1 = b.1
            · have := succ_one w.nd q1 q2 hab
              cases this
              exact hij rfl
            · exact ha a.1 b.1 n hab g1.1 g2.1 (g1.2.trans (hd.trans g2.2.symm))
/-! ### the search -/
inductive Srch where
  | more (c : Came) (w : List Nat) | found (c : Came) (p : Nat) (n : Str)
def alongC (m : DM) (p : Nat) : List Str → Came → List Nat → Srch
  | [], c, w => .more c w
  | n :: ns, c, w => if givenM m n p = [] then .found c p n else alongC m p ns (takeIn p n (givenM m n p) (c, w)).1 (takeIn p n (givenM m n p) (c, w)).2
/-- who may at a place -/
def abM (m : DM) (p : Nat) : List Str := (m.ab[p]?).getD []
def searchM (m : DM) : Nat → Came → List Nat → Srch
  | 0, c, w => .more c w
  | _ + 1, c, [] => .more c []
  | k + 1, c, p :: w => match alongC m p (abM m p) c w with
    | .more c' w' => searchM m k c' w'
    | .found c' p' n' => .found c' p' n'
def parM (c : Came) (p : Nat) : Option (Option (Nat × Str)) := (c.find? fun x => decide (x.1 = p)).map (·.2)
/-- what stands of the tree: Q, the places looked at in full or in part -/
structure TreeOk (m : DM) (first : Nat) (c : Came) : Prop where
  nd : (c.map (·.1)).Nodup
  hd : c.head? = some (first, none)
  edge : ∀ o p n, (o, some (p, n)) ∈ c → o ∈ givenM m n p ∧ n ∈ abM m p ∧ p ∈ c.map (·.1)
  one : ∀ o, (o, none) ∈ c → o = first
  lim : ∀ o o' p p' n, (o, some (p, n)) ∈ c → (o', some (p', n)) ∈ c → sameM m n p = [] → sameM m n p' = [] → p = p'
  ord : ∀ (i : Nat) (o p : Nat) (n : Str), c[i]? = some (o, some (p, n)) → ∃ j, j < i ∧ (c[j]?).map (·.1) = some p
theorem inCame_iff {c : Came} {p : Nat} : inCame c p = true ↔ p ∈ c.map (·.1) := by
  unfold inCame
  rw [List.any_eq_true, List.mem_map]
  constructor
  · rintro ⟨x, hx, h⟩; exact ⟨x, hx, by simpa using h⟩
  · rintro ⟨x, hx, h⟩; exact ⟨x, hx, by simpa using h⟩
/-- one more place taken in -/
theorem TreeOk.add {m : DM} {first : Nat} {c : Came} (t : TreeOk m first c) {o p : Nat} {n : Str} (ho : o ∉ c.map (·.1)) (hg : o ∈ givenM m n p) (hn : n ∈ abM m p) (hp : p ∈ c.map (·.1))
    (hl : sameM m n p = [] → ∀ o' p', (o', some (p', n)) ∈ c → sameM m n p' = [] → p = p') : TreeOk m first (c ++ [(o, some (p, n))]) := by
  have hc : c ≠ [] := fun e => by have := t.hd; rw [e] at this; cases this
  refine ⟨?_, ?_, fun o' p' n' h => ?_, fun o' h => ?_, fun o1 o2 p1 p2 n1 h1 h2 s1 s2 => ?_, fun i o' p' n' h => ?_⟩
  · rw [List.map_append, List.nodup_append]
    refine ⟨t.nd, by simp, fun x hx y hy e => ?_⟩
    simp at hy
    subst hy
    subst e
    exact ho hx
  · rw [List.head?_append, t.hd]
    rfl
  · rcases List.mem_append.mp h with h | h
    · obtain ⟨h1, h2, h3⟩ := t.edge _ _ _ h
      exact ⟨h1, h2, by rw [List.map_append]; exact List.mem_append_left _ h3⟩
    · simp at h
      obtain ⟨rfl, rfl, rfl⟩ := h
      exact ⟨hg, hn, by rw [List.map_append]; exact List.mem_append_left _ hp⟩
  · rcases List.mem_append.mp h with h | h
    · exact t.one _ h
    · simp at h
  · rcases List.mem_append.mp h1 with k1 | k1
    · rcases List.mem_append.mp h2 with k2 | k2
      · exact t.lim _ _ _ _ _ k1 k2 s1 s2
      · simp at k2
        obtain ⟨-, rfl, rfl⟩ := k2
        exact (hl s2 _ _ k1 s1).symm
    · simp at k1
      obtain ⟨-, rfl, rfl⟩ := k1
      rcases List.mem_append.mp h2 with k2 | k2
      · exact hl s1 _ _ k2 s2
      · simp at k2
        exact k2.2.symm
  · by_cases hi : i < c.length
    · rw [List.getElem?_append_left hi] at h
      obtain ⟨j, hj, e⟩ := t.ord i o' p' n' h
      exact ⟨j, hj, by rw [List.getElem?_append_left (by omega)]; exact e⟩
    · rw [List.getElem?_append_right (by omega)] at h
      have hi2 : i - c.length = 0 := by
        have := (List.getElem?_eq_some_iff.mp h).1
        simp at this
        omega
      rw [hi2] at h
      simp at h
      obtain ⟨rfl, rfl, rfl⟩ := h
      obtain ⟨x, hx, rfl⟩ := List.mem_map.mp hp
      obtain ⟨j, hj⟩ := List.getElem?_of_mem hx
      have hjl := (List.getElem?_eq_some_iff.mp hj).1
      exact ⟨j, by omega, by rw [List.getElem?_append_left hjl, hj]; rfl⟩
/-! ### the way out of the tree -/
def pathM (c : Came) : Nat → Nat × Str → List (Nat × Str)
  | 0, x => [x]
  | k + 1, x => x :: (match parM c x.1 with
    | some (some q) => pathM c k q
    | _ => [])
/-- where a place stands in the tree -/
def posM (c : Came) (p : Nat) : Nat := c.findIdx fun x => decide (x.1 = p)
theorem par_get {c : Came} {p : Nat} {v : Option (Nat × Str)} (h : parM c p = some v) : (p, v) ∈ c ∧ c[posM c p]? = some (p, v) := by
  unfold parM at h
  obtain ⟨⟨q, w⟩, h1, h2⟩ := Option.map_eq_some_iff.mp h
  simp at h2
  subst h2
  have hp := List.find?_some h1
  simp at hp
  subst hp
  refine ⟨List.mem_of_find?_eq_some h1, ?_⟩
  unfold posM
  rw [List.find?_eq_some_iff_getElem] at h1
  obtain ⟨-, i, hi, he, hb⟩ := h1
  have : c.findIdx (fun x => decide (x.1 = q)) = i := by
    rw [List.findIdx_eq hi]
    refine ⟨by simp [he], fun j hj => ?_⟩
    have := hb j hj
    simpa using this
  rw [this, List.getElem?_eq_getElem hi, he]
theorem par_some {c : Came} {p : Nat} (h : p ∈ c.map (·.1)) : ∃ v, parM c p = some v := by
  unfold parM
  cases e : c.find? fun x => decide (x.1 = p) with
  | some x => exact ⟨x.2, rfl⟩
  | none =>
    rw [List.find?_eq_none] at e
    obtain ⟨x, hx, e2⟩ := List.mem_map.mp h
    have := e x hx
    simp [e2] at this
theorem par_lt {m : DM} {first : Nat} {c : Came} (t : TreeOk m first c) {p : Nat} {q : Nat × Str} (h : parM c p = some (some q)) : posM c q.1 < posM c p := by
  obtain ⟨h1, h2⟩ := par_get h
  obtain ⟨j, hj, e⟩ := t.ord _ _ _ _ h2
  refine Nat.lt_of_le_of_lt ?_ hj
  unfold posM
  obtain ⟨x, hx, ex⟩ := Option.map_eq_some_iff.mp e
  obtain ⟨hjl, hx'⟩ := List.getElem?_eq_some_iff.mp hx
  rcases Nat.lt_or_ge j (c.findIdx fun x => decide (x.1 = q.1)) with h3 | h3
  · have := List.not_of_lt_findIdx h3
    rw [hx', ex] at this
    simp at this
  · exact h3
theorem path_head (c : Came) (k : Nat) (x : Nat × Str) : ∃ r, pathM c k x = x :: r := by
  cases k with
  | zero => exact ⟨[], rfl⟩
  | succ k => exact ⟨_, rfl⟩
section
variable {m : DM} {first : Nat} {c : Came} (t : TreeOk m first c)
include t
theorem path_pos : ∀ (k : Nat) (x : Nat × Str), (∀ y ∈ (pathM c k x).tail, posM c y.1 < posM c x.1) ∧ ((pathM c k x).map (·.1)).Nodup
  | 0, x => ⟨fun y h => (by cases h), by simp [pathM]⟩
  | k + 1, x => by
    unfold pathM
    cases e : parM c x.1 with
    | none => exact ⟨fun y h => (by cases h), by simp⟩
    | some v =>
      cases v with
      | none => exact ⟨fun y h => (by cases h), by simp⟩
      | some q =>
        obtain ⟨h1, h2⟩ := path_pos k q
        have hl := par_lt t e
        obtain ⟨r, hr⟩ := path_head c k q
        have all : ∀ y ∈ pathM c k q, posM c y.1 < posM c x.1 := fun y hy => by
          rw [hr] at hy h1
          rcases List.mem_cons.mp hy with rfl | hy
          · exact hl
          · exact Nat.lt_trans (h1 y hy) hl
        refine ⟨all, ?_⟩
        show ((x :: pathM c k q).map (·.1)).Nodup
        rw [List.map_cons, List.nodup_cons]
        refine ⟨fun hm => ?_, h2⟩
        obtain ⟨y, hy, ey⟩ := List.mem_map.mp hm
        have := all y hy
        rw [ey] at this
        exact Nat.lt_irrefl _ this
theorem path_zip : ∀ (k : Nat) (x : Nat × Str) (a y : Nat × Str), (a, y) ∈ (pathM c k x).zip (pathM c k x).tail → parM c a.1 = some (some y)
  | 0, x, a, y, h => by simp [pathM] at h
  | k + 1, x, a, y, h => by
    unfold pathM at h
    cases e : parM c x.1 with
    | none => rw [e] at h; simp at h
    | some v =>
      cases v with
      | none => rw [e] at h; simp at h
      | some q =>
        rw [e] at h
        obtain ⟨r, hr⟩ := path_head c k q
        simp only [List.tail_cons] at h
        rw [hr, List.zip_cons_cons] at h
        rcases List.mem_cons.mp h with h | h
        · cases h
          exact e
        · refine path_zip k q a y ?_
          rw [hr]
          exact h
theorem pos_zero {p : Nat} (hp : p ∈ c.map (·.1)) (h : posM c p = 0) : p = first := by
  obtain ⟨v, hv⟩ := par_some hp
  obtain ⟨h1, h2⟩ := par_get hv
  rw [h] at h2
  have hd := t.hd
  rw [List.head?_eq_getElem?, h2] at hd
  cases hd
  rfl
theorem path_chain (hw : m.wh[first]? = some none) : ∀ (k : Nat) (x : Nat × Str), x.1 ∈ c.map (·.1) → posM c x.1 ≤ k → chain m.wh (pathM c k x)
  | 0, x, hx, hk => by
    have := pos_zero t hx (by omega)
    show m.wh[x.1]? = some none
    rw [this]
    exact hw
  | k + 1, x, hx, hk => by
    obtain ⟨v, hv⟩ := par_some hx
    unfold pathM
    rw [hv]
    cases v with
    | none =>
      have := t.one _ (par_get hv).1
      show m.wh[x.1]? = some none
      rw [this]
      exact hw
    | some q =>
      obtain ⟨h1, h2, h3⟩ := t.edge _ _ _ (par_get hv).1
      have hl := par_lt t hv
      have ih := path_chain hw k q h3 (by omega)
      obtain ⟨r, hr⟩ := path_head c k q
      show chain m.wh (x :: pathM c k q)
      rw [hr] at ih ⊢
      exact ⟨held_mem.mp (given_held h1), ih⟩
theorem path_way (hw : m.wh[first]? = some none) {p : Nat} {n : Str} (hp : p ∈ c.map (·.1)) (hf : givenM m n p = []) {k : Nat} (hk : posM c p ≤ k) : WayOk m (pathM c k (p, n)) where
  nd := (path_pos t k (p, n)).2
  ch := path_chain t hw k (p, n) hp hk
  free := fun p' n' h => by
    obtain ⟨r, hr⟩ := path_head c k (p, n)
    rw [hr] at h
    cases h
    exact hf
  edge := fun a x h => (t.edge _ _ _ (par_get (path_zip t k _ a x h)).1).1
  lim := fun a b x y h1 h2 e s1 s2 => by
    have g1 := (par_get (path_zip t k _ a x h1)).1
    have g2 := (par_get (path_zip t k _ b y h2)).1
    obtain ⟨xp, xn⟩ := x
    obtain ⟨yp, yn⟩ := y
    simp only at e
    subst e
    exact t.lim _ _ _ _ _ g1 g2 s1 s2
end
/-! ### the search keeps the tree -/
def fullL (m : DM) (c : Came) : Prop := ∀ o p n, (o, some (p, n)) ∈ c → sameM m n p = [] → ∀ q ∈ heldM m n, q ∈ c.map (·.1)
theorem takeIn_sub (p : Nat) (n : Str) (os : List Nat) (a : Came × List Nat) {x : Nat} (h : x ∈ a.1.map (·.1)) : x ∈ (takeIn p n os a).1.map (·.1) :=
  inCame_iff.mp (takeIn_mono p n os a x (inCame_iff.mpr h))
theorem takeIn_old (p : Nat) (n : Str) : ∀ (os : List Nat) (a : Came × List Nat), (∀ o ∈ os, o ∈ a.1.map (·.1)) → takeIn p n os a = a
  | [], a, _ => rfl
  | o :: os, a, h => by
    unfold takeIn
    rw [if_pos (inCame_iff.mpr (h o List.mem_cons_self))]
    exact takeIn_old p n os a fun x hx => h x (List.mem_cons_of_mem _ hx)
theorem takeIn_w (p : Nat) (n : Str) : ∀ (os : List Nat) (a : Came × List Nat), (∀ x ∈ a.2, x ∈ (takeIn p n os a).2) ∧ (∀ x ∈ (takeIn p n os a).1.map (·.1), x ∈ a.1.map (·.1) ∨ x ∈ (takeIn p n os a).2) ∧ ((∀ x ∈ a.2, x ∈ a.1.map (·.1)) → ∀ x ∈ (takeIn p n os a).2, x ∈ (takeIn p n os a).1.map (·.1))
  | [], a => ⟨fun x h => h, fun x h => .inl h, fun h => h⟩
  | o :: os, a => by
    unfold takeIn
    by_cases ho : inCame a.1 o = true
    · rw [if_pos ho]
      exact takeIn_w p n os a
    · rw [if_neg ho]
      obtain ⟨h1, h2, h3⟩ := takeIn_w p n os (a.1 ++ [(o, some (p, n))], a.2 ++ [o])
      refine ⟨fun x hx => h1 x (List.mem_append_left _ hx), fun x hx => ?_, fun hw => h3 fun x hx => ?_⟩
      · rcases h2 x hx with h | h
        · rw [List.map_append] at h
          rcases List.mem_append.mp h with h | h
          · exact .inl h
          · simp at h
            subst h
            exact .inr (h1 x (List.mem_append_right _ (by simp)))
        · exact .inr h
      · rw [List.map_append]
        rcases List.mem_append.mp hx with h | h
        · exact List.mem_append_left _ (hw x h)
        · refine List.mem_append_right _ ?_
          simp at h ⊢
          exact h
theorem takeIn_edges (p : Nat) (n : Str) : ∀ (os : List Nat) (a : Came × List Nat) (x : Nat × Option (Nat × Str)), x ∈ (takeIn p n os a).1 → x ∈ a.1 ∨ x.2 = some (p, n)
  | [], a, x, h => .inl h
  | o :: os, a, x, h => by
    unfold takeIn at h
    rcases takeIn_edges p n os _ x h with h | h
    · split at h
      · exact .inl h
      · rcases List.mem_append.mp h with h | h
        · exact .inl h
        · simp at h
          exact .inr (by rw [h])
    · exact .inr h
theorem takeIn_tree {m : DM} {first : Nat} {p : Nat} {n : Str} (hn : n ∈ abM m p) : ∀ (os : List Nat) (a : Came × List Nat), TreeOk m first a.1 → (∀ o ∈ os, o ∈ givenM m n p) → p ∈ a.1.map (·.1) →
    (sameM m n p = [] → ∀ o' p', (o', some (p', n)) ∈ a.1 → sameM m n p' = [] → p = p') → TreeOk m first (takeIn p n os a).1
  | [], a, t, _, _, _ => t
  | o :: os, a, t, ho, hp, hl => by
    unfold takeIn
    by_cases h : inCame a.1 o = true
    · rw [if_pos h]
      exact takeIn_tree hn os a t (fun x hx => ho x (List.mem_cons_of_mem _ hx)) hp hl
    · rw [if_neg h]
      have ho' : o ∉ a.1.map (·.1) := fun hm => h (inCame_iff.mpr hm)
      refine takeIn_tree hn os _ (t.add ho' (ho o List.mem_cons_self) hn hp hl) (fun x hx => ho x (List.mem_cons_of_mem _ hx)) (by rw [List.map_append]; exact List.mem_append_left _ hp) fun hs o' p' he hs' => ?_
      rcases List.mem_append.mp he with he | he
      · exact hl hs o' p' he hs'
      · simp at he
        exact he.2.symm
/-- one person's places, as a whole -/
theorem take_ok {m : DM} {first : Nat} {p : Nat} {n : Str} {a : Came × List Nat} (t : TreeOk m first a.1) (f : fullL m a.1) (hn : n ∈ abM m p) (hp : p ∈ a.1.map (·.1)) :
    TreeOk m first (takeIn p n (givenM m n p) a).1 ∧ fullL m (takeIn p n (givenM m n p) a).1 := by
  by_cases hex : sameM m n p = [] ∧ ∃ o' p', (o', some (p', n)) ∈ a.1 ∧ sameM m n p' = []
  · obtain ⟨hs, o', p', he, hs'⟩ := hex
    rw [takeIn_old p n (givenM m n p) a fun o ho => f o' p' n he hs' o (given_held ho)]
    exact ⟨t, f⟩
  · refine ⟨takeIn_tree hn _ a t (fun _ h => h) hp fun hs o' p' he hs' => absurd ⟨hs, o', p', he, hs'⟩ hex, fun o q x he hs y hy => ?_⟩
    rcases takeIn_edges p n _ a _ he with he' | he'
    · exact takeIn_sub p n _ a (f o q x he' hs y hy)
    · cases he'
      have hg : givenM m n p = heldM m n ∨ givenM m n p = [] := by
        unfold givenM
        rw [if_neg (by simpa using hs)]
        split
        · exact .inr rfl
        · exact .inl rfl
      rcases hg with hg | hg
      · exact inCame_iff.mp (takeIn_all p n _ a y (by rw [hg]; exact hy))
      · rw [hg] at he ⊢
        exact f o p n he hs y hy
def closedAt (m : DM) (c : Came) (p : Nat) : Prop := ∀ n ∈ abM m p, givenM m n p ≠ [] ∧ ∀ o ∈ givenM m n p, o ∈ c.map (·.1)
structure SrchOk (m : DM) (first : Nat) (c : Came) (w : List Nat) : Prop where
  t : TreeOk m first c
  f : fullL m c
  sub : ∀ x ∈ w, x ∈ c.map (·.1)
  done : ∀ x ∈ c.map (·.1), x ∈ w ∨ closedAt m c x
theorem closedAt.mono {m : DM} {c c' : Came} {p : Nat} (h : closedAt m c p) (hs : ∀ x ∈ c.map (·.1), x ∈ c'.map (·.1)) : closedAt m c' p := fun n hn => ⟨(h n hn).1, fun o ho => hs o ((h n hn).2 o ho)⟩
def foundOk (m : DM) (first : Nat) (c : Came) (p : Nat) (n : Str) : Prop := TreeOk m first c ∧ p ∈ c.map (·.1) ∧ givenM m n p = [] ∧ n ∈ abM m p
/-- along the names that may at p: what has been looked at stays -/
theorem along_ok {m : DM} {first p : Nat} : ∀ (ns : List Str) (c : Came) (w : List Nat), (∀ n ∈ ns, n ∈ abM m p) → TreeOk m first c → fullL m c → p ∈ c.map (·.1) → (∀ x ∈ w, x ∈ c.map (·.1)) →
    match alongC m p ns c w with
    | .found c' p' n' => foundOk m first c' p' n'
    | .more c' w' => TreeOk m first c' ∧ fullL m c' ∧ (∀ x ∈ w', x ∈ c'.map (·.1)) ∧ (∀ x ∈ w, x ∈ w') ∧ (∀ x ∈ c.map (·.1), x ∈ c'.map (·.1)) ∧ (∀ x ∈ c'.map (·.1), x ∈ c.map (·.1) ∨ x ∈ w') ∧ ∀ n ∈ ns, givenM m n p ≠ [] ∧ ∀ o ∈ givenM m n p, o ∈ c'.map (·.1)
  | [], c, w, _, t, f, _, hw => ⟨t, f, hw, fun _ h => h, fun _ h => h, fun _ h => .inl h, fun n h => by cases h⟩
  | n :: ns, c, w, hn, t, f, hp, hw => by
    unfold alongC
    by_cases hg : givenM m n p = []
    · rw [if_pos hg]
      exact ⟨t, hp, hg, hn n List.mem_cons_self⟩
    · rw [if_neg hg]
      obtain ⟨t', f'⟩ := take_ok (a := (c, w)) t f (hn n List.mem_cons_self) hp
      obtain ⟨w1, w2, w3⟩ := takeIn_w p n (givenM m n p) (c, w)
      have hsub : ∀ x ∈ c.map (·.1), x ∈ (takeIn p n (givenM m n p) (c, w)).1.map (·.1) := fun x hx => takeIn_sub p n _ (c, w) hx
      have ih := along_ok ns (takeIn p n (givenM m n p) (c, w)).1 (takeIn p n (givenM m n p) (c, w)).2 (fun x hx => hn x (List.mem_cons_of_mem _ hx)) t' f' (hsub p hp) (w3 hw)
      generalize alongC m p ns (takeIn p n (givenM m n p) (c, w)).1 (takeIn p n (givenM m n p) (c, w)).2 = res at ih
      cases res with
      | found c' p' n' => exact ih
      | more c' w' =>
        obtain ⟨i1, i2, i3, i4, i5, i6, i7⟩ := ih
        refine ⟨i1, i2, i3, fun x hx => i4 x (w1 x hx), fun x hx => i5 x (hsub x hx), fun x hx => ?_, fun k hk => ?_⟩
        · rcases i6 x hx with h | h
          · rcases w2 x h with h | h
            · exact .inl h
            · exact .inr (i4 x h)
          · exact .inr h
        · rcases List.mem_cons.mp hk with rfl | hk
          · exact ⟨hg, fun o ho => i5 o (inCame_iff.mp (takeIn_all p k _ (c, w) o ho))⟩
          · exact i7 k hk
theorem search_ok {m : DM} {first : Nat} : ∀ (k : Nat) (c : Came) (w : List Nat), SrchOk m first c w →
    match searchM m k c w with
    | .found c' p' n' => foundOk m first c' p' n'
    | .more c' w' => SrchOk m first c' w'
  | 0, c, w, s => s
  | k + 1, c, [], s => s
  | k + 1, c, p :: w, s => by
    unfold searchM
    have hp := s.sub p List.mem_cons_self
    have ha := along_ok (abM m p) c w (fun _ h => h) s.t s.f hp fun x hx => s.sub x (List.mem_cons_of_mem _ hx)
    generalize alongC m p (abM m p) c w = res at ha
    cases res with
    | found c' p' n' => exact ha
    | more c' w' =>
      obtain ⟨i1, i2, i3, i4, i5, i6, i7⟩ := ha
      refine search_ok k c' w' ⟨i1, i2, i3, fun x hx => ?_⟩
      rcases i6 x hx with h | h
      · rcases s.done x h with h2 | h2
        · rcases List.mem_cons.mp h2 with rfl | h2
          · exact .inr i7
          · exact .inl (i4 x h2)
        · exact .inr (h2.mono i5)
      · exact .inl h
/-- where the search begins -/
theorem search_0 (m : DM) (first : Nat) : SrchOk m first [(first, none)] [first] where
  t := ⟨by simp, rfl, fun o p n h => by simp at h, fun o h => by simpa using h, fun o o' p p' n h => by simp at h, fun i o p n h => by
    cases i with
    | zero => simp at h
    | succ i => simp at h⟩
  f := fun o p n h => by simp at h
  sub := fun x hx => by simpa using hx
  done := fun x hx => .inl (by simpa using hx)
/-! ### the search ends -/
theorem nodup_le : ∀ (N : Nat) (l : List Nat), l.Nodup → (∀ x ∈ l, x < N) → l.length ≤ N
  | 0, l, _, h => by
    cases l with
    | nil => exact Nat.le_refl _
    | cons a l => exact absurd (h a List.mem_cons_self) (Nat.not_lt_zero _)
  | N + 1, l, nd, h => by
    have ih := nodup_le N (l.erase N) (nd.erase N) fun x hx => by
      have hm := nd.mem_erase_iff.mp hx
      have := h x hm.2
      have := hm.1
      omega
    have := List.length_erase (a := N) (l := l)
    split at this <;> omega
theorem takeIn_len (p : Nat) (n : Str) : ∀ (os : List Nat) (a : Came × List Nat), (takeIn p n os a).1.length + a.2.length = a.1.length + (takeIn p n os a).2.length
  | [], a => rfl
  | o :: os, a => by
    unfold takeIn
    by_cases h : inCame a.1 o = true
    · rw [if_pos h]; exact takeIn_len p n os a
    · rw [if_neg h]
      have := takeIn_len p n os (a.1 ++ [(o, some (p, n))], a.2 ++ [o])
      simp only [List.length_append, List.length_singleton] at this
      omega
theorem along_len {m : DM} {p : Nat} : ∀ (ns : List Str) (c : Came) (w : List Nat), match alongC m p ns c w with
    | .found _ _ _ => True
    | .more c' w' => c'.length + w.length = c.length + w'.length
  | [], c, w => rfl
  | n :: ns, c, w => by
    unfold alongC
    by_cases hg : givenM m n p = []
    · rw [if_pos hg]; trivial
    · rw [if_neg hg]
      have h1 := takeIn_len p n (givenM m n p) (c, w)
      have ih := along_len (m := m) (p := p) ns (takeIn p n (givenM m n p) (c, w)).1 (takeIn p n (givenM m n p) (c, w)).2
      generalize alongC m p ns (takeIn p n (givenM m n p) (c, w)).1 (takeIn p n (givenM m n p) (c, w)).2 = res at ih
      cases res with
      | found c' p' n' => trivial
      | more c' w' =>
        simp only at ih h1 ⊢
        omega
theorem tree_lt {m : DM} {first : Nat} {c : Came} (t : TreeOk m first c) (hf : first < m.wh.length) : ∀ x ∈ c.map (·.1), x < m.wh.length := fun x hx => by
  obtain ⟨⟨o, v⟩, hm, rfl⟩ := List.mem_map.mp hx
  cases v with
  | none => rw [t.one _ hm]; exact hf
  | some q =>
    have := held_mem.mp (given_held (t.edge _ _ _ hm).1)
    exact (List.getElem?_eq_some_iff.mp this).1
theorem tree_len {m : DM} {first : Nat} {c : Came} (t : TreeOk m first c) (hf : first < m.wh.length) : c.length ≤ m.wh.length := by
  have := nodup_le m.wh.length (c.map (·.1)) t.nd (tree_lt t hf)
  rwa [List.length_map] at this
theorem search_end {m : DM} {first : Nat} (hf : first < m.wh.length) : ∀ (k : Nat) (c : Came) (w : List Nat), SrchOk m first c w → (m.wh.length - c.length) + w.length ≤ k →
    match searchM m k c w with
    | .found _ _ _ => True
    | .more _ w' => w' = []
  | 0, c, w, s, h => by
    show w = []
    exact List.eq_nil_of_length_eq_zero (by omega)
  | k + 1, c, [], s, h => rfl
  | k + 1, c, p :: w, s, h => by
    unfold searchM
    have hp := s.sub p List.mem_cons_self
    have ha := along_ok (abM m p) c w (fun _ h => h) s.t s.f hp fun x hx => s.sub x (List.mem_cons_of_mem _ hx)
    have hl := along_len (m := m) (p := p) (abM m p) c w
    generalize alongC m p (abM m p) c w = res at ha hl
    cases res with
    | found c' p' n' => trivial
    | more c' w' =>
      obtain ⟨i1, i2, i3, i4, i5, i6, i7⟩ := ha
      have l1 := tree_len i1 hf
      have l0 := tree_len s.t hf
      simp only [List.length_cons] at h hl
      refine search_end hf k c' w' ⟨i1, i2, i3, fun x hx => ?_⟩ (by omega)
      rcases i6 x hx with h | h
      · rcases s.done x h with h2 | h2
        · rcases List.mem_cons.mp h2 with rfl | h2
          · exact .inr i7
          · exact .inl (i4 x h2)
        · exact .inr (h2.mono i5)
      · exact .inl h
/-! ### limits are kept -/
theorem held_len (m : DM) (n : Str) : (heldM m n).length = m.wh.count (some n) := by
  unfold heldM
  rw [← List.countP_eq_length_filter]
  have : ∀ wh : List (Option Str), (List.range wh.length).countP (fun i => decide (wh[i]? = some (some n))) = wh.count (some n) := by
    intro wh
    induction wh with
    | nil => rfl
    | cons a l ih =>
      rw [List.length_cons, List.range_succ_eq_map, List.countP_cons, List.countP_map, List.count_cons]
      have e : ((fun i => decide ((a :: l)[i]? = some (some n))) ∘ Nat.succ) = fun i => decide (l[i]? = some (some n)) := by
        funext i
        simp
      rw [e, ih]
      by_cases h : a = some n <;> simp [h]
  exact this m.wh
def limOk (m : DM) : Prop := ∀ n, (heldM m n).length = 0 ∨ ((heldM m n).length : Int) ≤ limM m n
theorem change_lim {m : DM} {π : List (Nat × Str)} (w : WayOk m π) (hl : limOk m) (h1 : ∀ p n, π.head? = some (p, n) → 1 ≤ limM m n) : limOk { m with wh := chg m.wh π } := fun x => by
  have hc := chg_count x π m.wh w.nd w.ch
  have e1 := held_len m x
  have e2 := held_len { m with wh := chg m.wh π } x
  have hlm : limM { m with wh := chg m.wh π } x = limM m x := rfl
  rw [hlm]
  simp only at e2
  cases π with
  | nil =>
    simp only at hc
    rw [e2, hc, Nat.add_zero, ← e1]
    exact hl x
  | cons y r =>
    obtain ⟨p, n⟩ := y
    simp only at hc
    by_cases h : n = x
    · subst h
      have hf := (given_nil (w.free p n rfl)).2
      have h2 := h1 p n rfl
      right
      rw [e2, hc, if_pos rfl, ← e1]
      rcases hf with hf | hf
      · omega
      · rw [hf]
        simp
        omega
    · rw [e2, hc, if_neg h, Nat.add_zero, ← e1]
      exact hl x
/-! ### the search fails: what each holds of the places reached -/
theorem nodup_sub {α : Type} [DecidableEq α] : ∀ {l1 l2 : List α}, l1.Nodup → (∀ x ∈ l1, x ∈ l2) → l1.length ≤ l2.length
  | [], _, _, _ => Nat.zero_le _
  | a :: l1, l2, nd, h => by
    rw [List.nodup_cons] at nd
    have ha := h a List.mem_cons_self
    have ih := nodup_sub (l2 := l2.erase a) nd.2 fun x hx => by
      have hne : x ≠ a := fun e => nd.1 (e ▸ hx)
      exact (List.mem_erase_of_ne hne).mpr (h x (List.mem_cons_of_mem _ hx))
    have hl := List.length_erase_of_mem ha
    have := List.length_pos_of_mem ha
    simp only [List.length_cons]
    omega
/-- the places of R that n holds -/
def heldR (m : DM) (R : List Nat) (n : Str) : List Nat := R.filter fun x => decide (m.wh[x]? = some (some n))
theorem held_nodup (m : DM) (n : Str) : (heldM m n).Nodup := List.Nodup.sublist List.filter_sublist List.nodup_range
theorem room_person {m : DM} {c : Came} (hc : ∀ p ∈ c.map (·.1), closedAt m c p) (n : Str) (days : List Int) (hnd : days.Nodup) (hd : ∀ d ∈ days, ∃ p ∈ c.map (·.1), n ∈ abM m p ∧ m.dy[p]? = some d) :
    limM m n ≤ ((heldR m (c.map (·.1)) n).length : Int) ∨ days.length ≤ (heldR m (c.map (·.1)) n).length := by
  by_cases hex : ∃ p ∈ c.map (·.1), n ∈ abM m p ∧ sameM m n p = []
  · obtain ⟨p, hp, hn, hs⟩ := hex
    left
    obtain ⟨h1, h2⟩ := hc p hp n hn
    have hl : ¬ ((heldM m n).length : Int) < limM m n := fun hl => h1 (by
      unfold givenM
      rw [if_neg (by simpa using hs), if_pos hl])
    have hg : givenM m n p = heldM m n := by
      unfold givenM
      rw [if_neg (by simpa using hs), if_neg hl]
    rw [hg] at h2
    have := nodup_sub (held_nodup m n) (l2 := heldR m (c.map (·.1)) n) fun x hx => by
      unfold heldR
      rw [List.mem_filter, decide_eq_true_eq]
      exact ⟨h2 x hx, held_mem.mp hx⟩
    omega
  · right
    have hsub : ∀ d ∈ days.map some, d ∈ (heldR m (c.map (·.1)) n).map fun x => m.dy[x]? := fun d hd' => by
      obtain ⟨d', hd1, rfl⟩ := List.mem_map.mp hd'
      obtain ⟨p, hp, hn, he⟩ := hd d' hd1
      have hs : sameM m n p ≠ [] := fun e => hex ⟨p, hp, hn, e⟩
      obtain ⟨h1, h2⟩ := hc p hp n hn
      have hg : givenM m n p = sameM m n p := by unfold givenM; rw [if_pos hs]
      rw [hg] at h2
      obtain ⟨o, ho⟩ := List.exists_mem_of_ne_nil _ hs
      have hm := same_mem.mp ho
      refine List.mem_map.mpr ⟨o, ?_, by rw [hm.2, he]⟩
      unfold heldR
      rw [List.mem_filter, decide_eq_true_eq]
      exact ⟨h2 o ho, hm.1⟩
    have hnd' : (days.map some).Nodup := by
      rw [List.nodup_iff_pairwise_ne, List.pairwise_map]
      exact (List.nodup_iff_pairwise_ne.mp hnd).imp fun h e => h (Option.some.inj e)
    have := nodup_sub hnd' hsub
    simpa using this
/-- all held but the first: the persons' shares make up the rest -/
theorem heldR_sum (m : DM) : ∀ (R : List Nat) (names : List Str), names.Nodup → (∀ x ∈ R, ∃ n ∈ names, m.wh[x]? = some (some n)) → ((names.map fun n => (heldR m R n).length).sum) = R.length
  | [], names, _, _ => by
    have : ∀ l : List Str, (l.map fun n => (heldR m [] n).length).sum = 0 := by
      intro l
      induction l with
      | nil => rfl
      | cons a l ih => rw [List.map_cons, List.sum_cons, ih]; rfl
    exact this names
  | x :: R, names, nd, h => by
    have ih := heldR_sum m R names nd fun y hy => h y (List.mem_cons_of_mem _ hy)
    obtain ⟨n, hn, hx⟩ := h x List.mem_cons_self
    have key : ∀ l : List Str, l.Nodup → (l.map fun k => (heldR m (x :: R) k).length).sum = (l.map fun k => (heldR m R k).length).sum + (if n ∈ l then 1 else 0) := by
      intro l
      induction l with
      | nil => intro _; rfl
      | cons a l ihl =>
        intro ndl
        rw [List.nodup_cons] at ndl
        have e : (heldR m (x :: R) a).length = (heldR m R a).length + (if a = n then 1 else 0) := by
          unfold heldR
          rw [List.filter_cons]
          by_cases h : a = n
          · subst h
            rw [if_pos (by simpa using hx), if_pos rfl]
            rfl
          · have : ¬ m.wh[x]? = some (some a) := fun e => by
              rw [hx] at e
              exact h (Option.some.inj (Option.some.inj e)).symm
            rw [if_neg (by simpa using this), if_neg h]
            rfl
        rw [List.map_cons, List.map_cons, List.sum_cons, List.sum_cons, ihl ndl.2, e]
        by_cases h1 : a = n
        · subst h1
          simp [ndl.1]
          omega
        · have : (n ∈ a :: l) ↔ n ∈ l := by
            constructor
            · intro hm
              rcases List.mem_cons.mp hm with e | hm
              · exact absurd e.symm h1
              · exact hm
            · exact List.mem_cons_of_mem _
          simp only [this, h1, if_false]
          omega
    rw [key names nd, ih, if_pos hn]
    rfl
/-! ### one place more is filled -/
structure ValidM (m : DM) (k : Nat) : Prop where
  ap : apartD m.dy m.wh
  li : limOk m
  able : ∀ i n, m.wh[i]? = some (some n) → n ∈ abM m i
  fil : ∀ i, i < k → ∃ n, m.wh[i]? = some (some n)
  un : ∀ i, k ≤ i → i < m.wh.length → m.wh[i]? = some none
  pos : ∀ i n, n ∈ abM m i → 1 ≤ limM m n
theorem chg_length : ∀ (π : List (Nat × Str)) (wh : List (Option Str)), (chg wh π).length = wh.length
  | [], wh => rfl
  | (p, n) :: r, wh => by
    show (chg (wh.set p (some n)) r).length = _
    rw [chg_length r, List.length_set]
theorem path_last {m : DM} {first : Nat} {c : Came} (t : TreeOk m first c) : ∀ (k : Nat) (x : Nat × Str), x.1 ∈ c.map (·.1) → posM c x.1 ≤ k → first ∈ (pathM c k x).map (·.1)
  | 0, x, hx, hk => by
    have := pos_zero t hx (by omega)
    simp [pathM, this]
  | k + 1, x, hx, hk => by
    obtain ⟨v, hv⟩ := par_some hx
    unfold pathM
    rw [hv]
    cases v with
    | none =>
      have := t.one _ (par_get hv).1
      simp [this]
    | some q =>
      obtain ⟨h1, h2, h3⟩ := t.edge _ _ _ (par_get hv).1
      have hl := par_lt t hv
      have ih := path_last t k q h3 (by omega)
      show first ∈ (x :: pathM c k q).map (·.1)
      rw [List.map_cons]
      exact List.mem_cons_of_mem _ ih
theorem fill_valid {m : DM} {k : Nat} (v : ValidM m k) (hk : k < m.wh.length) {c : Came} {p : Nat} {n : Str} (f : foundOk m k c p n) {j : Nat} (hj : posM c p ≤ j) : ValidM { m with wh := chg m.wh (pathM c j (p, n)) } (k + 1) := by
  obtain ⟨t, hp, hf, hn⟩ := f
  have hw : m.wh[k]? = some none := v.un k (Nat.le_refl _) hk
  have w := path_way t hw hp hf hj
  have hab : ∀ i, abM { m with wh := chg m.wh (pathM c j (p, n)) } i = abM m i := fun i => rfl
  have hlm : ∀ x, limM { m with wh := chg m.wh (pathM c j (p, n)) } x = limM m x := fun x => rfl
  have get := fun i => chg_get (pathM c j (p, n)) m.wh i w.nd (chain_lt w.ch)
  have on : ∀ {i : Nat} {y : Nat × Str}, (pathM c j (p, n)).find? (fun x => decide (x.1 = i)) = some y → y ∈ pathM c j (p, n) ∧ y.1 = i := fun h => ⟨List.mem_of_find?_eq_some h, by simpa using List.find?_some h⟩
  have onAb : ∀ y ∈ pathM c j (p, n), y.2 ∈ abM m y.1 := fun y hy => by
    rcases on_path hy with e | ⟨a, e⟩
    · obtain ⟨r, hr⟩ := path_head c j (p, n)
      rw [hr] at e
      cases e
      exact hn
    · exact (t.edge _ _ _ (par_get (path_zip t j _ a y e)).1).2.1
  refine ⟨change_apart w v.ap, change_lim w v.li fun p' n' h => ?_, fun i x h => ?_, fun i hi => ?_, fun i hi hl => ?_, fun i x h => v.pos i x h⟩
  · obtain ⟨r, hr⟩ := path_head c j (p, n)
    rw [hr] at h
    cases h
    exact v.pos p n hn
  · have h' : (chg m.wh (pathM c j (p, n)))[i]? = some (some x) := h
    rw [get i] at h'
    cases e : (pathM c j (p, n)).find? (fun x => decide (x.1 = i)) with
    | none =>
      rw [e] at h'
      exact v.able i x h'
    | some y =>
      rw [e] at h'
      obtain ⟨h1, h2⟩ := on e
      have := onAb y h1
      rw [h2] at this
      have e2 : y.2 = x := by simpa using h'
      rw [e2] at this
      exact this
  · show ∃ x, (chg m.wh (pathM c j (p, n)))[i]? = some (some x)
    rw [get i]
    cases e : (pathM c j (p, n)).find? (fun x => decide (x.1 = i)) with
    | some y => exact ⟨y.2, rfl⟩
    | none =>
      have hne : i ≠ k := fun hik => by
        have := path_last t j (p, n) hp hj
        obtain ⟨y, hy, ey⟩ := List.mem_map.mp this
        rw [List.find?_eq_none] at e
        have := e y hy
        rw [ey, hik] at this
        simp at this
      exact v.fil i (by omega)
  · have hl' : i < m.wh.length := by
      have : i < (chg m.wh (pathM c j (p, n))).length := hl
      rwa [chg_length] at this
    show (chg m.wh (pathM c j (p, n)))[i]? = some none
    rw [get i]
    cases e : (pathM c j (p, n)).find? (fun x => decide (x.1 = i)) with
    | none => exact v.un i (by omega) hl'
    | some y =>
      exfalso
      obtain ⟨h1, h2⟩ := on e
      -- a place on the way stands in the tree: the first, or one that is held
      have hc : m.wh[i]? = some none := v.un i (by omega) hl'
      rcases on_path h1 with q | ⟨a, q⟩
      · obtain ⟨r, hr⟩ := path_head c j (p, n)
        rw [hr] at q
        cases q
        obtain ⟨u, hu⟩ := par_some hp
        cases u with
        | none =>
          have := t.one _ (par_get hu).1
          simp at h2
          omega
        | some q' =>
          have := held_mem.mp (given_held (t.edge _ _ _ (par_get hu).1).1)
          simp at h2
          rw [h2, hc] at this
          cases this
      · have h3 := (t.edge _ _ _ (par_get (path_zip t j _ a y q)).1).2.2
        rw [h2] at h3
        obtain ⟨u, hu⟩ := par_some h3
        cases u with
        | none =>
          have := t.one _ (par_get hu).1
          omega
        | some q' =>
          have := held_mem.mp (given_held (t.edge _ _ _ (par_get hu).1).1)
          rw [hc] at this
          cases this
/-! ### the deal of a book -/
def plN (ss : List Shift) : List SN := (allN ss).flatMap fun x => List.replicate x.2.2.toNat x
def ableN (ps : List Person) (x : SN) : List Str := (ps.filter fun p => mayB p x.1 x.2.1).map (·.name)
def mW (ps : List Person) (ss : List Shift) (wh : List (Option Str)) : DM := ⟨ps.map fun p => (p.name, p.limit), (plN ss).map keyN, (plN ss).map fun x => dayS x.1, (plN ss).map (ableN ps), wh⟩
theorem plN_mem {ss : List Shift} {x : SN} (h : x ∈ plN ss) : x ∈ allN ss := by
  unfold plN at h
  rw [List.mem_flatMap] at h
  obtain ⟨y, hy, h2⟩ := h
  rw [List.mem_replicate] at h2
  rw [h2.2]
  exact hy
theorem count_rep (q : SN → Bool) : ∀ (L : List SN), (∀ x ∈ L, 0 ≤ x.2.2) → ((L.filter q).map fun x => x.2.2).sum = ((((L.flatMap fun x => List.replicate x.2.2.toNat x).filter q).length : Nat) : Int)
  | [], _ => rfl
  | x :: L, h => by
    have ih := count_rep q L fun y hy => h y (List.mem_cons_of_mem _ hy)
    have hx := h x List.mem_cons_self
    rw [List.flatMap_cons, List.filter_append, List.length_append, List.filter_replicate, List.filter_cons]
    by_cases hq : q x = true
    · rw [if_pos hq, if_pos hq, List.map_cons, List.sum_cons, ih, List.length_replicate]
      omega
    · rw [if_neg hq, if_neg hq, ih]
      simp
theorem range_filter_len {α : Type} (q : α → Bool) (l : List α) : ((List.range l.length).filter fun i => (l[i]?).any q).length = (l.filter q).length := by
  rw [← List.countP_eq_length_filter, ← List.countP_eq_length_filter]
  induction l with
  | nil => rfl
  | cons a l ih =>
    rw [List.length_cons, List.range_succ_eq_map, List.countP_cons, List.countP_map, List.countP_cons]
    have e : ((fun i => ((a :: l)[i]?).any q) ∘ Nat.succ) = fun i => (l[i]?).any q := by
      funext i
      simp
    rw [e, ih]
    simp
theorem days_mem (p : Person) (T : List (Str × Str)) (d : Int) : ∀ (L : List SN) (acc : List Int), d ∈ L.foldl (dayStep p T) acc ↔ d ∈ acc ∨ ∃ x ∈ L, keyN x ∈ T ∧ mayB p x.1 x.2.1 = true ∧ dayS x.1 = d
  | [], acc => by simp
  | x :: L, acc => by
    rw [List.foldl_cons, days_mem p T d L]
    unfold dayStep
    constructor
    · rintro (h | ⟨y, hy, h⟩)
      · split at h
        · rename_i hc
          rcases List.mem_append.mp h with h | h
          · exact .inl h
          · rw [List.mem_singleton] at h
            exact .inr ⟨x, List.mem_cons_self, hc.1, hc.2.1, h.symm⟩
        · exact .inl h
      · exact .inr ⟨y, List.mem_cons_of_mem _ hy, h⟩
    · rintro (h | ⟨y, hy, h1, h2, h3⟩)
      · left
        split
        · exact List.mem_append_left _ h
        · exact h
      · rcases List.mem_cons.mp hy with rfl | hy
        · left
          by_cases hc : dayS y.1 ∈ acc
          · rw [if_neg (fun h => h.2.2 hc)]
            exact h3 ▸ hc
          · rw [if_pos ⟨h1, h2, hc⟩, h3]
            exact List.mem_append_right _ List.mem_cons_self
        · exact .inr ⟨y, hy, h1, h2, h3⟩
theorem days_nodup (p : Person) (T : List (Str × Str)) : ∀ (L : List SN) (acc : List Int), acc.Nodup → (L.foldl (dayStep p T) acc).Nodup
  | [], acc, h => h
  | x :: L, acc, h => by
    rw [List.foldl_cons]
    refine days_nodup p T L _ ?_
    unfold dayStep
    split
    · rename_i hc
      rw [List.nodup_append]
      refine ⟨h, by simp, fun a ha b hb e => ?_⟩
      rw [List.mem_singleton] at hb
      exact hc.2.2 (hb ▸ e ▸ ha)
    · exact h
theorem sum_leI {α : Type} (f h : α → Int) : ∀ l : List α, (∀ x ∈ l, f x ≤ h x) → (l.map f).sum ≤ (l.map h).sum
  | [], _ => Int.le_refl _
  | x :: l, hx => by
    have ih := sum_leI f h l fun y hy => hx y (List.mem_cons_of_mem _ hy)
    have := hx x List.mem_cons_self
    rw [List.map_cons, List.map_cons, List.sum_cons, List.sum_cons]
    omega
theorem sum_castI {α : Type} (f : α → Nat) : ∀ l : List α, (((l.map f).sum : Nat) : Int) = (l.map fun x => ((f x : Nat) : Int)).sum
  | [] => rfl
  | x :: l => by
    have ih := sum_castI f l
    rw [List.map_cons, List.map_cons, List.sum_cons, List.sum_cons, ← ih]
    omega
theorem abM_at {ps : List Person} {ss : List Shift} {wh : List (Option Str)} {i : Nat} {x : SN} (h : (plN ss)[i]? = some x) : abM (mW ps ss wh) i = ableN ps x := by
  show ((((plN ss).map (ableN ps))[i]?).getD []) = _
  rw [List.getElem?_map, h]
  rfl
theorem able_mem {ps : List Person} {x : SN} {n : Str} : n ∈ ableN ps x ↔ ∃ p ∈ ps, mayB p x.1 x.2.1 = true ∧ p.name = n := by
  unfold ableN
  rw [List.mem_map]
  constructor
  · rintro ⟨p, hp, h⟩
    rw [List.mem_filter] at hp
    exact ⟨p, hp.1, hp.2, h⟩
  · rintro ⟨p, hp, h1, h⟩
    exact ⟨p, List.mem_filter.mpr ⟨hp, h1⟩, h⟩
theorem abM_mem {ps : List Person} {ss : List Shift} {wh : List (Option Str)} {i : Nat} {n : Str} (h : n ∈ abM (mW ps ss wh) i) : ∃ x, (plN ss)[i]? = some x ∧ ∃ p ∈ ps, mayB p x.1 x.2.1 = true ∧ p.name = n := by
  cases e : (plN ss)[i]? with
  | none =>
    have : abM (mW ps ss wh) i = [] := by
      show ((((plN ss).map (ableN ps))[i]?).getD []) = _
      rw [List.getElem?_map, e]
      rfl
    rw [this] at h
    cases h
  | some x =>
    rw [abM_at e] at h
    exact ⟨x, rfl, able_mem.mp h⟩
theorem dy_at {ps : List Person} {ss : List Shift} {wh : List (Option Str)} {i : Nat} {x : SN} (h : (plN ss)[i]? = some x) : (mW ps ss wh).dy[i]? = some (dayS x.1) := by
  show ((plN ss).map fun x => dayS x.1)[i]? = _
  rw [List.getElem?_map, h]
  rfl
section
variable {ps : List Person} {ss : List Shift} (g : GM ps ss)
include g
theorem keyN_inj {x y : SN} (hx : x ∈ allN ss) (hy : y ∈ allN ss) (h : keyN x = keyN y) : x = y := by
  obtain ⟨h1, h2⟩ := allN_mem hx
  obtain ⟨h3, h4⟩ := allN_mem hy
  have e1 : x.1 = y.1 := nodup_inj g.sn h1 h3 (congrArg Prod.fst h)
  have e2 : x.2 = y.2 := nodup_inj (g.gs _ h1).nd h2 (by rw [e1]; exact h4) (congrArg Prod.snd h)
  exact Prod.ext e1 e2
theorem cnt_at {x : SN} (hx : x ∈ allN ss) : 1 ≤ x.2.2 ∧ x.2.2 ≤ 9 := by
  obtain ⟨h1, h2⟩ := allN_mem hx
  exact ((g.gs _ h1).nk _ h2).2
theorem wantP_len (T : List (Str × Str)) : wantP ss T = ((((plN ss).filter fun x => decide (keyN x ∈ T)).length : Nat) : Int) := count_rep _ _ fun x hx => by
  have := cnt_at g hx
  omega
theorem plN_len : (plN ss).length ≤ 756 := by
  have key : ∀ L : List SN, (∀ x ∈ L, x.2.2 ≤ 9) → (L.flatMap fun x => List.replicate x.2.2.toNat x).length ≤ 9 * L.length := by
    intro L
    induction L with
    | nil => intro _; exact Nat.le_refl _
    | cons x L ih =>
      intro h
      have := ih fun y hy => h y (List.mem_cons_of_mem _ hy)
      have hx := h x List.mem_cons_self
      rw [List.flatMap_cons, List.length_append, List.length_replicate, List.length_cons]
      omega
  have h1 := key (allN ss) fun x hx => (cnt_at g hx).2
  have h2 := allN_len g.gs g.sl
  unfold plN
  omega
theorem look_at {p : Person} (hp : p ∈ ps) : lookN (ps.map fun p => (p.name, p.limit)) p.name = some p.limit := by
  unfold lookN
  rw [List.find?_map]
  have : ps.find? ((fun x : Str × Int => decide (x.1 = p.name)) ∘ fun p => (p.name, p.limit)) = some p := findP_at (ss := ss) g.pn hp
  rw [this]
  rfl
theorem lim_at {p : Person} (hp : p ∈ ps) (wh : List (Option Str)) : limM (mW ps ss wh) p.name = p.limit := by
  unfold limM
  show (lookN (ps.map fun p => (p.name, p.limit)) p.name).getD 0 = _
  rw [look_at g hp]
  rfl
theorem valid_0 : ValidM (mW ps ss (List.replicate (plN ss).length none)) 0 where
  ap := fun i j n _ h => by
    have := List.mem_of_getElem? (show (List.replicate (plN ss).length (none : Option Str))[i]? = some (some n) from h)
    rw [List.mem_replicate] at this
    cases this.2
  li := fun n => by
    left
    rw [held_len]
    show (List.replicate (plN ss).length (none : Option Str)).count (some n) = 0
    rw [List.count_eq_zero, List.mem_replicate]
    rintro ⟨_, h⟩
    cases h
  able := fun i n h => by
    have := List.mem_of_getElem? (show (List.replicate (plN ss).length (none : Option Str))[i]? = some (some n) from h)
    rw [List.mem_replicate] at this
    cases this.2
  fil := fun i h => absurd h (Nat.not_lt_zero _)
  un := fun i _ h => by
    have h' : i < (plN ss).length := by
      have : i < (List.replicate (plN ss).length (none : Option Str)).length := h
      rwa [List.length_replicate] at this
    show (List.replicate (plN ss).length (none : Option Str))[i]? = some none
    rw [List.getElem?_replicate, if_pos h']
  pos := fun i n h => by
    obtain ⟨x, _, p, hp, _, rfl⟩ := abM_mem h
    rw [lim_at g hp]
    exact (g.gp p hp).lim.1
/-- where nobody is found: more is wanted of the posts reached than there is room -/
theorem short_ok {wh : List (Option Str)} (hl : wh.length = (plN ss).length) {k : Nat} (hk : k < wh.length) (v : ValidM (mW ps ss wh) k) {c : Came} (s : SrchOk (mW ps ss wh) k c []) {T : List (Str × Str)}
    (hT : ∀ key, key ∈ T ↔ ∃ r ∈ c.map (·.1), ∃ x, (plN ss)[r]? = some x ∧ keyN x = key) : roomP ps ss T < wantP ss T := by
  have hc : ∀ p ∈ c.map (·.1), closedAt (mW ps ss wh) c p := fun p hp => (s.done p hp).resolve_left (by simp)
  obtain ⟨c', rfl⟩ : ∃ c', c = (k, none) :: c' := by
    have := s.t.hd
    cases c with
    | nil => cases this
    | cons x c' => simp at this; exact ⟨c', by rw [this]⟩
  have nd := s.t.nd
  rw [List.map_cons, List.nodup_cons] at nd
  have held : ∀ x ∈ c'.map (·.1), ∃ n ∈ ps.map (·.name), (mW ps ss wh).wh[x]? = some (some n) := by
    intro x hx
    obtain ⟨⟨o, w⟩, hm, rfl⟩ := List.mem_map.mp hx
    cases w with
    | none =>
      have : o = k := s.t.one o (List.mem_cons_of_mem _ hm)
      exact absurd (this ▸ hx) nd.1
    | some q =>
      have h1 := held_mem.mp (given_held (s.t.edge _ _ _ (List.mem_cons_of_mem _ hm)).1)
      obtain ⟨x, _, p, hp, _, e⟩ := abM_mem (v.able o q.2 h1)
      exact ⟨q.2, List.mem_map.mpr ⟨p, hp, e⟩, h1⟩
  have hr : roomP ps ss T ≤ (((c'.map (·.1)).length : Nat) : Int) := by
    rw [← heldR_sum (mW ps ss wh) (c'.map (·.1)) (ps.map (·.name)) g.pn held, List.map_map, sum_castI]
    unfold roomP
    refine sum_leI _ _ _ fun p hp => ?_
    show minI p.limit (daysP p ss T).length ≤ (((heldR (mW ps ss wh) (c'.map (·.1)) p.name).length : Nat) : Int)
    have e : heldR (mW ps ss wh) (((k, none) :: c').map (·.1)) p.name = heldR (mW ps ss wh) (c'.map (·.1)) p.name := by
      unfold heldR
      rw [List.map_cons, List.filter_cons, if_neg]
      have := v.un k (Nat.le_refl _) hk
      simp only [this]
      simp
    have := room_person hc p.name (daysP p ss T) (days_nodup _ _ _ _ (by simp)) fun d hd => by
      rcases (days_mem p T d (allN ss) []).mp hd with h | ⟨x, hx, h1, h2, h3⟩
      · cases h
      · obtain ⟨r, hr, y, hy, e⟩ := (hT _).mp h1
        have := keyN_inj g (plN_mem (List.mem_of_getElem? hy)) hx e
        subst this
        exact ⟨r, hr, by rw [abM_at hy]; exact able_mem.mpr ⟨p, hp, h2, rfl⟩, by rw [dy_at hy, h3]⟩
    rw [e, lim_at g hp] at this
    unfold minI
    split <;> omega
  have hw : (((((k, none) :: c').map (·.1)).length : Nat) : Int) ≤ wantP ss T := by
    rw [wantP_len g T, ← range_filter_len]
    have := nodup_sub s.t.nd (l2 := (List.range (plN ss).length).filter fun i => ((plN ss)[i]?).any fun x => decide (keyN x ∈ T)) fun r hr => by
      have hlt : r < wh.length := tree_lt s.t hk r hr
      rw [hl] at hlt
      rw [List.mem_filter, List.mem_range, List.getElem?_eq_getElem hlt]
      refine ⟨hlt, ?_⟩
      simp only [Option.any_some, decide_eq_true_eq]
      exact (hT _).mpr ⟨r, hr, _, List.getElem?_eq_getElem hlt, rfl⟩
    omega
  simp only [List.length_map, List.length_cons] at hr hw
  omega
/-- a whole valid deal: of no posts is more wanted than there is room -/
theorem valid_room {wh : List (Option Str)} (hl : wh.length = (plN ss).length) (v : ValidM (mW ps ss wh) wh.length) (T : List (Str × Str)) : wantP ss T ≤ roomP ps ss T := by
  have hJ : ∀ i ∈ (List.range (plN ss).length).filter (fun i => ((plN ss)[i]?).any fun x => decide (keyN x ∈ T)), ∃ x, (plN ss)[i]? = some x ∧ keyN x ∈ T := by
    intro i hi
    rw [List.mem_filter, List.mem_range] at hi
    obtain ⟨hlt, hi⟩ := hi
    rw [List.getElem?_eq_getElem hlt] at hi ⊢
    exact ⟨_, rfl, by simpa using hi⟩
  have held : ∀ i ∈ (List.range (plN ss).length).filter (fun i => ((plN ss)[i]?).any fun x => decide (keyN x ∈ T)), ∃ n ∈ ps.map (·.name), (mW ps ss wh).wh[i]? = some (some n) := by
    intro i hi
    have hlt : i < wh.length := by
      rw [List.mem_filter, List.mem_range] at hi
      rw [hl]
      exact hi.1
    obtain ⟨n, hn⟩ := v.fil i hlt
    obtain ⟨x, _, p, hp, _, e⟩ := abM_mem (v.able i n hn)
    exact ⟨n, List.mem_map.mpr ⟨p, hp, e⟩, hn⟩
  rw [wantP_len g T, ← range_filter_len, ← heldR_sum (mW ps ss wh) _ (ps.map (·.name)) g.pn held, List.map_map, sum_castI]
  unfold roomP
  refine sum_leI _ _ _ fun p hp => ?_
  have hnd : (heldR (mW ps ss wh) ((List.range (plN ss).length).filter (fun i => ((plN ss)[i]?).any fun x => decide (keyN x ∈ T))) p.name).Nodup := (List.nodup_range.sublist List.filter_sublist).sublist List.filter_sublist
  have hin : ∀ x ∈ heldR (mW ps ss wh) ((List.range (plN ss).length).filter (fun i => ((plN ss)[i]?).any fun x => decide (keyN x ∈ T))) p.name, (∃ y, (plN ss)[x]? = some y ∧ keyN y ∈ T) ∧ wh[x]? = some (some p.name) := by
    intro x hx
    unfold heldR at hx
    rw [List.mem_filter] at hx
    exact ⟨hJ x hx.1, of_decide_eq_true hx.2⟩
  have h1 : (heldR (mW ps ss wh) ((List.range (plN ss).length).filter (fun i => ((plN ss)[i]?).any fun x => decide (keyN x ∈ T))) p.name).length ≤ (heldM (mW ps ss wh) p.name).length := nodup_sub hnd fun x hx => held_mem.mpr (hin x hx).2
  have h2 := v.li p.name
  rw [lim_at g hp] at h2
  have h4 := (g.gp p hp).lim.1
  have h3 : ((heldR (mW ps ss wh) ((List.range (plN ss).length).filter (fun i => ((plN ss)[i]?).any fun x => decide (keyN x ∈ T))) p.name).map fun i => (mW ps ss wh).dy[i]?).length ≤ ((daysP p ss T).map some).length := by
    refine nodup_sub ?_ ?_
    · rw [List.nodup_iff_pairwise_ne, List.pairwise_map]
      refine List.Pairwise.imp_of_mem ?_ (List.nodup_iff_pairwise_ne.mp hnd)
      intro i j hi hj hij
      exact v.ap i j p.name hij (hin i hi).2 (hin j hj).2
    · intro d hd
      obtain ⟨i, hi, rfl⟩ := List.mem_map.mp hd
      obtain ⟨⟨y, hy, hyT⟩, hw⟩ := hin i hi
      rw [dy_at hy]
      refine List.mem_map.mpr ⟨dayS y.1, ?_, rfl⟩
      have := v.able i p.name hw
      rw [abM_at hy] at this
      obtain ⟨q, hq, hm, e⟩ := able_mem.mp this
      have : q = p := nodup_inj g.pn hq hp e
      subst this
      exact (days_mem q T _ (allN ss) []).mpr (.inr ⟨y, plN_mem (List.mem_of_getElem? hy), hyT, hm, rfl⟩)
  rw [List.length_map, List.length_map] at h3
  show (((heldR (mW ps ss wh) ((List.range (plN ss).length).filter (fun i => ((plN ss)[i]?).any fun x => decide (keyN x ∈ T))) p.name).length : Nat) : Int) ≤ minI p.limit (daysP p ss T).length
  unfold minI
  split <;> omega
end
end RK
namespace RK
open PySem PySem.Spec PyProof.Rows L2 RT
noncomputable section
variable {P : Program} {w : World} {K : PySem.W.Frag} {mg : Str → Option Value} {base : Heap}
abbrev s_deal_init : Stmt := m_deal_init
abbrev N_deal_init : List Str := ["self", "book", "name", "post", "able", "turn"]
theorem sc_deal_init : FnScope N_deal_init ["self", "book"] (defScope s_deal_init) := ⟨rfl, rfl, rfl, by decide +kernel, rfl, by decide +kernel, by decide +kernel⟩
def b_deal_init (bk : Addr → Option ObjSt) : SS := (sSeq (sDInitL 0)
  (sSeq (sDInitF 0 0)
  (sSeq (sDInitF 0 1)
  (sSeq (sDInitF 0 2)
  (sSeq (sDInitF 0 3)
  (sSeq (sFor (iL (eMeth kB bk 1 fr_people eNil)) (tg1 2) (sLPut 0 (eVar 2) (eMeth kB bk 1 fr_limit_of (eCons (eVar 2) eNil))))
  (sFor (iL (eMeth kB bk 1 fr_posts eNil)) (tg1 3) (sSeq (sSet 4 (eList (lLc (iL (eMeth kB bk 1 fr_people eNil)) 2 (bF (eMeth kB bk 1 fr_may (eCons (eVar 2) (eCons (eOp gIx (eVarB 3) (eC (.int 0))) (eCons (eOp gIx (eVarB 3) (eC (.int 1))) eNil))))) (eVar 2))))
  (sFor (iR1 (eCons (eMeth kB bk 1 fr_count_of (eCons (eOp gIx (eVarB 3) (eC (.int 0))) (eCons (eOp gIx (eVarB 3) (eC (.int 1))) eNil))) eNil)) (tg1 5) (sSeq (sFApp 0 0 (eVar 3))
  (sSeq (sFApp 0 1 (eCall F_day_of (eCons (eMeth kB bk 1 fr_stretch_of (eCons (eOp gIx (eVarB 3) (eC (.int 0))) eNil)) eNil)))
  (sSeq (sFApp 0 2 (eVar 4))
  (sFApp 0 3 (eC .none))))))))))))))
noncomputable def f2_deal := moOf N_deal_init 2 b_deal_init
theorem okD_init (T : Txt K mg) {f : Addr} {fd : FuncData} (F : FunD K "__init__" "Deal.__init__" (defArgs m_deal_init) (defBody m_deal_init) (defScope m_deal_init) [] [] f fd) : FnOk P w K mg base CX0 3 f fd ["self", "book"] (sp2 K f2_deal) := by
  refine F.ok sc_deal_init (fun vs H Q E h => sp2_len h) (fun cdv A outer s H vs Q E hr h => ?_)
  have hu := hr.units
  have hv := hv_of hr
  exact sp_run2 (n := 2) (b := b_deal_init) (by decide) (fun B => (ss_cons (s_dInitL T.dk 0 (pv 0))
    (ss_cons (s_dInitF T.dk 0 0 (pv 0))
    (ss_cons (s_dInitF T.dk 0 1 (pv 0))
    (ss_cons (s_dInitF T.dk 0 2 (pv 0))
    (ss_cons (s_dInitF T.dk 0 3 (pv 0))
    (ss_cons (s_for PassesOwn.never rfl (si_list (se_meth0 1 (mr_people T) hr (pv 1))) (pg_name (i := 2) sc_deal_init.nd rfl (by first | exact Or.inl rfl | exact Or.inr rfl)) (tg1_ok 2) (ss_one (s_lput T.dk 0 (hu1_of hr) (se_meth 1 (mr_limit_of T) hr (x_ac (se_var 2) sa_nil) (pv 1)) (se_var 2) (pv 0))))
    (ss_one (s_for PassesOwn.never rfl (si_list (se_meth0 1 (mr_posts T) hr (pv 1))) (pg_name (i := 3) sc_deal_init.nd rfl (by first | exact Or.inl rfl | exact Or.inr rfl)) (tg1_ok 3) (ss_cons (s_setLcE 4 (by exact (sl_lc (j := 2) rfl sc_deal_init.nd rfl (si_listB (x_eb (se_meth0 1 (mr_people T) hr (pv 1)))) (blkOk_by (N := N_deal_init) (sc := defScope s_deal_init) (own := [("name", 2)]) (by decide +kernel)) (fun _ _ _ _ _ => (sts_one (st_val (se_meth 1 (mr_may T) hr (x_ac (se_var 2) (x_ac (se_ix (sb_var 3) (x_eb se_int)) (x_ac (se_ix (sb_var 3) (x_eb se_int)) sa_nil))) (pv 1))))) (fun _ _ _ _ _ => (se_var 2)) (fun _ _ _ _ _ => pg_name sc_deal_init.nd rfl (Or.inl rfl)))) (by exact (ps_setLc (i := 4) (own := [("name", 2)]) (g := gName 2) rfl sc_deal_init.nd rfl rfl (sw_true rfl rfl rfl (by decide +kernel)) (x_pi (K := K) (si_listB (x_eb (se_meth0 1 (mr_people T) hr (pv 1))))) (blkOk_by (N := N_deal_init) (sc := defScope s_deal_init) (own := [("name", 2)]) (by decide +kernel)) (fun _ _ _ _ _ => pg_name sc_deal_init.nd rfl (Or.inl rfl)) (fun _ _ _ _ _ => (pts_one (x_pt (K := K) (st_val (se_meth 1 (mr_may T) hr (x_ac (se_var 2) (x_ac (se_ix (sb_var 3) (x_eb se_int)) (x_ac (se_ix (sb_var 3) (x_eb se_int)) sa_nil))) (pv 1)))))) (fun _ _ _ _ _ => (x_pe (K := K) (se_var 2))))))
    (ss_one (s_for PassesOwn.never rfl (si_range1 T.z_range (x_abc (x_eb (se_meth 1 (mr_count_of T) hr (x_ac (se_ix (sb_var 3) (x_eb se_int)) (x_ac (se_ix (sb_var 3) (x_eb se_int)) sa_nil)) (pv 1))) sab_nil)) (pg_name (i := 5) sc_deal_init.nd rfl (by first | exact Or.inl rfl | exact Or.inr rfl)) (tg1_ok 5) (ss_cons (s_fapp T.dk 0 0 (se_var 3) (by exact (ps_expr (pe_bm PySem.F.plainAttrs_list PySem.F.slot_list_append PySem.F.type_list_append mt_append (pe_fld (pv 0) rfl) (pa_cons (x_pe (K := K) (se_var 3)) pa_nil)))))
    (ss_cons (s_fapp T.dk 0 1 (se_call (ok_day_of T) hr (x_ac (se_meth 1 (mr_stretch_of T) hr (x_ac (se_ix (sb_var 3) (x_eb se_int)) sa_nil) (pv 1)) sa_nil)) (by exact (ps_expr (pe_bm PySem.F.plainAttrs_list PySem.F.slot_list_append PySem.F.type_list_append mt_append (pe_fld (pv 0) rfl) (pa_cons (x_pe (K := K) (se_call (ok_day_of T) hr (x_ac (se_meth 1 (mr_stretch_of T) hr (x_ac (se_ix (sb_var 3) (x_eb se_int)) sa_nil) (pv 1)) sa_nil))) pa_nil)))))
    (ss_cons (s_fapp T.dk 0 2 (se_var 4) (by exact (ps_expr (pe_bm PySem.F.plainAttrs_list PySem.F.slot_list_append PySem.F.type_list_append mt_append (pe_fld (pv 0) rfl) (pa_cons (x_pe (K := K) (se_var 4)) pa_nil)))))
    (ss_one (s_fapp T.dk 0 3 se_none (by exact (ps_expr (pe_bm PySem.F.plainAttrs_list PySem.F.slot_list_append PySem.F.type_list_append mt_append (pe_fld (pv 0) rfl) (pa_cons (x_pe (K := K) se_none) pa_nil))))))))))))))))))))) h
theorem pe_deal {X : Cx} {e : Expr} {p pos : Pos} {i j : Nat} (T : Txt X.K X.mg) (hr : Room j X.A) (hp : PE X e (tVar i)) (hj : 4 ≤ j := by decide) (hg : Gl X "Deal" := by rfl) (he : starEach [e] X.env = [(false, eval e X.env)] := by rfl) (hpl : (backTo pos (starEach [] X.env)).any (·.1) = false := by rfl) : PE X (.Call (.Name "Deal" p) [e] [] pos) (tMake (He.ga X.K "Deal") (sp2 X.K f2_deal) [] E0 (tCons (tVar i) tNil)) := by
  obtain ⟨fd, F⟩ := T.f_deal_init
  have b : Binds X.K fd ["self", "book"] [] := F.bindsN fun _ _ _ _ _ _ us hl => match us, hl with | [_, _], _ => rfl
  exact pe_make T.mk_deal (okD_init (P := X.prog) (w := X.w) (base := X.base) T F) (hr.mono hj) hg T.gc_deal b .nil pass0 (pa_cons hp pa_nil he) (by decide) he hpl
abbrev s_deal_held : Stmt := m_deal_held
abbrev N_deal_held : List Str := ["self", "name", "place"]
theorem sc_deal_held : FnScope N_deal_held ["self", "name"] (defScope s_deal_held) := ⟨rfl, rfl, rfl, by decide +kernel, rfl, by decide +kernel, by decide +kernel⟩
def b_deal_held (bk : Addr → Option ObjSt) : SS := (sRet (eList (lLc (iR1 (eCons (eCall gLen (eCons (eFld bk 0 3) eNil)) eNil)) 2 (bF (eOp gEq (eOp gIx (eFld bk 0 3) (eVarB 2)) (eVarB 1))) (eVar 2))))
noncomputable def fr_held : DealSt → List PyData → Res := frOf kD N_deal_held 2 b_deal_held
theorem mr_held (T : Txt K mg) : MethRG P w K mg base 1 kD "Deal" "held" fr_held := by
  have hF := frOf_ok kD N_deal_held 2 b_deal_held
  obtain ⟨fd, F⟩ := T.f_deal_held
  refine ⟨⟨_, fd, ["self", "name"], ?_, T.me_deal_held, F.bindsN fun _ _ _ _ _ _ us hl => match us, hl with | [_, _], _ => rfl⟩, T.cl_deal, flD, kcD, by unfold noFl; decide +kernel⟩
  refine F.ok sc_deal_held (fun vs H Q E h => spR_len hF h) (fun cdv A outer s H vs Q E hr h => ?_)
  have hu := hr.units
  have hv := hv_of hr
  exact sp_run (kd := kD) (n := 2) (b := b_deal_held) (fun B => ⟨_, (ss_one (s_ret (x_le (sl_lc (j := 2) rfl sc_deal_held.nd rfl (x_ib (si_range1 T.z_range (x_abc (x_eb (se_cb len_s call_len T.z_len (x_abc (sb_fld T.dk 0 3 (pv 0)) sab_nil))) sab_nil))) (blkOk_by (N := N_deal_held) (sc := defScope s_deal_held) (own := [("place", 2)]) (by decide +kernel)) (fun _ _ _ _ _ => (sts_one (st_cmp eq2_s (op_eq2 hu) (x_eb (se_ix (sb_fld T.dk 0 3 (pv 0)) (sb_var 2))) (sb_var 1) (nomark _)))) (fun _ _ _ _ _ => (se_var 2)) (fun _ _ _ _ _ => pg_name sc_deal_held.nd rfl (Or.inl rfl))))))⟩) hF h
abbrev s_deal_given_up : Stmt := m_deal_given_up
abbrev N_deal_given_up : List Str := ["self", "name", "place", "own", "same", "other"]
theorem sc_deal_given_up : FnScope N_deal_given_up ["self", "name", "place"] (defScope s_deal_given_up) := ⟨rfl, rfl, rfl, by decide +kernel, rfl, by decide +kernel, by decide +kernel⟩
def b_deal_given_up (bk : Addr → Option ObjSt) : SS := (sSeq (sSet 3 (eMeth kD bk 0 fr_held (eCons (eVar 1) eNil)))
  (sSeq (sSet 4 (eList (lLc (iL (eVarB 3)) 5 (bF (eOp gEq (eOp gIx (eFld bk 0 1) (eVarB 5)) (eOp gIx (eFld bk 0 1) (eVarB 2)))) (eVar 5))))
  (sSeq (sIf (bF (eOp gNe (eVarB 4) (eList (eLstD eNil)))) (sRet (eVar 4)) sNext)
  (sSeq (sIf (bF (eOp gLt (eCall gLen (eCons (eVarB 3) eNil)) (eLim bk 0 (eVar 1)))) (sRet (eList (eLstD eNil))) sNext)
  (sRet (eVar 3))))))
noncomputable def fr_given_up : DealSt → List PyData → Res := frOf kD N_deal_given_up 3 b_deal_given_up
theorem mr_given_up (T : Txt K mg) : MethRG P w K mg base 2 kD "Deal" "given_up" fr_given_up := by
  have hF := frOf_ok kD N_deal_given_up 3 b_deal_given_up
  obtain ⟨fd, F⟩ := T.f_deal_given_up
  refine ⟨⟨_, fd, ["self", "name", "place"], ?_, T.me_deal_given_up, F.bindsN fun _ _ _ _ _ _ us hl => match us, hl with | [_, _, _], _ => rfl⟩, T.cl_deal, flD, kcD, by unfold noFl; decide +kernel⟩
  refine F.ok sc_deal_given_up (fun vs H Q E h => spR_len hF h) (fun cdv A outer s H vs Q E hr h => ?_)
  have hu := hr.units
  have hv := hv_of hr
  exact sp_run (kd := kD) (n := 3) (b := b_deal_given_up) (fun B => ⟨_, (ss_cons (s_set 3 sc_deal_given_up.nd (se_meth 0 (mr_held T) hr (x_ac (se_var 1) sa_nil) (pv 0)))
    (ss_cons (s_setLcE 4 (by exact (sl_lc (j := 5) rfl sc_deal_given_up.nd rfl (si_listB (sb_var 3)) (blkOk_by (N := N_deal_given_up) (sc := defScope s_deal_given_up) (own := [("other", 5)]) (by decide +kernel)) (fun _ _ _ _ _ => (sts_one (st_cmp eq2_s (op_eq2 hu) (x_eb (se_ix (sb_fld T.dk 0 1 (pv 0)) (sb_var 5))) (x_eb (se_ix (sb_fld T.dk 0 1 (pv 0)) (sb_var 2))) (nomark _)))) (fun _ _ _ _ _ => (se_var 5)) (fun _ _ _ _ _ => pg_name sc_deal_given_up.nd rfl (Or.inl rfl)))) (by exact (ps_setLc (i := 4) (own := [("other", 5)]) (g := gName 5) rfl sc_deal_given_up.nd rfl rfl (sw_true rfl rfl rfl (by decide +kernel)) (x_pi (K := K) (si_listB (sb_var 3))) (blkOk_by (N := N_deal_given_up) (sc := defScope s_deal_given_up) (own := [("other", 5)]) (by decide +kernel)) (fun _ _ _ _ _ => pg_name sc_deal_given_up.nd rfl (Or.inl rfl)) (fun _ _ _ _ _ => (pts_one (x_pt (K := K) (st_cmp eq2_s (op_eq2 hu) (x_eb (se_ix (sb_fld T.dk 0 1 (pv 0)) (sb_var 5))) (x_eb (se_ix (sb_fld T.dk 0 1 (pv 0)) (sb_var 2))) (nomark _))))) (fun _ _ _ _ _ => (x_pe (K := K) (se_var 5))))))
    (ss_cons (s_if (st_cmp ne2_s (op_ne2 hu) (sb_var 4) (x_eb (x_le (sl_lst sa_nil))) (nomark _)) (ss_one (s_ret (se_var 4))) ss_nil)
    (ss_cons (s_if (st_cmp lt_s op_lt (x_eb (se_cb len_s call_len T.z_len (x_abc (sb_var 3) sab_nil))) (x_eb (se_lim T.dk 0 (hu1_of hr) (se_var 1) (pv 0))) (nomark _)) (ss_one (s_ret (x_le (sl_lst sa_nil)))) ss_nil)
    (ss_one (s_ret (se_var 3)))))))⟩) hF h
abbrev s_deal_change : Stmt := m_deal_change
abbrev N_deal_change : List Str := ["self", "came", "place", "name", "way"]
theorem sc_deal_change : FnScope N_deal_change ["self", "came", "place", "name"] (defScope s_deal_change) := ⟨rfl, rfl, rfl, by decide +kernel, rfl, by decide +kernel, by decide +kernel⟩
def b_deal_change (bk : Addr → Option ObjSt) : SS := (sWhile 2000 (bF (eC (.bool true))) (sSeq (sFPut 0 3 (eVar 2) (eVar 3))
  (sSeq (sSet 4 (eDGet bk 1 (eVar 2)))
  (sSeq (sIf (bF (eOp gIs (eVarB 4) (eC .none))) sRetN sNext)
  (sSeq (sSet 2 (eOp gIx (eVarB 4) (eC (.int 0))))
  (sSet 3 (eOp gIx (eVarB 4) (eC (.int 1)))))))))
noncomputable def f2_change := moOf N_deal_change 4 b_deal_change
theorem m2_change (T : Txt K mg) : Meth2 P w K mg base 1 "Deal" "change" f2_change := by
  obtain ⟨fd, F⟩ := T.f_deal_change
  refine ⟨⟨_, fd, ["self", "came", "place", "name"], ?_, T.me_deal_change, F.bindsN fun _ _ _ _ _ _ us hl => match us, hl with | [_, _, _, _], _ => rfl⟩, T.cl_deal⟩
  refine F.ok sc_deal_change (fun vs H Q E h => sp2_len h) (fun cdv A outer s H vs Q E hr h => ?_)
  have hu := hr.units
  have hv := hv_of hr
  exact sp_run2 (n := 4) (b := b_deal_change) (by decide) (fun B => (ss_one (s_while 2000 PassesOwn.never (st_val se_bool) (ss_cons (s_fput T.dk 0 3 (se_var 3) (se_var 2) (by exact (ps_asg (x_pe (K := K) (se_var 3)) (pg_sub (pe_fld (pv 0) rfl) (x_pe (K := K) (se_var 2)) set_list (fun _ => rfl)))))
    (ss_cons (s_set 4 sc_deal_change.nd (se_dget 1 (hu1_of hr) (pv 1) (se_var 2)))
    (ss_cons (s_if (st_cmp is_s op_isP (sb_var 4) (x_eb se_none) (nomark _)) (ss_one s_retN) ss_nil)
    (ss_cons (s_set 2 sc_deal_change.nd (se_ix (sb_var 4) (x_eb se_int)))
    (ss_one (s_set 3 sc_deal_change.nd (se_ix (sb_var 4) (x_eb se_int))))))))))) h
abbrev s_deal_fill : Stmt := m_deal_fill
abbrev N_deal_fill : List Str := ["self", "first", "came", "waiting", "place", "name", "others", "other"]
theorem sc_deal_fill : FnScope N_deal_fill ["self", "first"] (defScope s_deal_fill) := ⟨rfl, rfl, rfl, by decide +kernel, rfl, by decide +kernel, by decide +kernel⟩
def b_deal_fill : SS := (sSeq (sMkDct1 2 (eVar 1) (eC .none))
  (sSeq (sSetL 3 (eLstD (eCons (eVar 1) eNil)))
  (sSeq (sWhile 2000 (bF (eOp gNe (eVarB 3) (eList (eLstD eNil)))) (sSeq (sPop0 3 4)
  (sFor (iL (eOp gIx (eFld noB.bk 0 2) (eVarB 4))) (tg1 5) (sSeq (sSet 6 (eMeth kD noB.bk 0 fr_given_up (eCons (eVar 5) (eCons (eVar 4) eNil))))
  (sSeq (sIf (bF (eOp gEq (eVarB 6) (eList (eLstD eNil)))) (sSeq (sMut2 kD 0 2 f2_change (eCons (eVar 4) (eCons (eVar 5) eNil)))
  (sRet (eList (eLstD eNil)))) sNext)
  (sFor (iL (eVar 6)) (tg1 7) (sIf (eDNotIn noB.bk 2 (eVar 7)) (sSeq (sDSet 2 (eVar 7) (eTupD (eCons (eVar 4) (eCons (eVar 5) eNil))))
  (sApp 3 (eVar 7))) sNext)))))))
  (sRet (eList (eSortD noB.bk 2))))))
noncomputable def fm_fill := runMG kD N_deal_fill 2 b_deal_fill
theorem mm_fill (T : Txt K mg) : MethMG P w K mg base 3 kD "Deal" "fill" fm_fill := by
  obtain ⟨fd, F⟩ := T.f_deal_fill
  refine ⟨⟨_, fd, ["self", "first"], ?_, T.me_deal_fill, F.bindsN fun _ _ _ _ _ _ us hl => match us, hl with | [_, _], _ => rfl⟩, T.cl_deal, flD, kcD, by unfold noFl; decide +kernel⟩
  refine F.ok sc_deal_fill (fun vs H Q E h => ?_) (fun cdv A outer s H vs Q E hr h => ?_)
  · obtain ⟨G, R, a, β, us, ds, rfl, h1, h2, h3, h4, h5, q⟩ := h
    have := runM_len q
    rw [List.length_cons, h5.len, this]; rfl
  · have hu := hr.units
    have hv := hv_of hr
    exact sp_runM (n := 2) (b := b_deal_fill) (by decide) (fun a => ((ss_cons (s_mkDct1 2 (by intro z; cases z) (se_var 1) se_none (by exact (ps_set (i := 2) sc_deal_fill.nd rfl (by first | exact Or.inl rfl | exact Or.inr rfl) (pe_disp (pps_cons (x_pe (K := K) (se_var 1)) (x_pe (K := K) se_none) pps_nil) rfl rfl (by decide) (by decide)))))
    (ss_cons (s_setL 3 sc_deal_fill.nd (sl_lst (x_ac (se_var 1) sa_nil)))
    (ss_cons (s_while 2000 PassesOwn.never (st_cmp ne2_s (op_ne2 hu) (sb_var 3) (x_eb (x_le (sl_lst sa_nil))) (nomark _)) (ss_cons (s_pop0 3 4 (by exact (ps_set (i := 4) sc_deal_fill.nd rfl (by first | exact Or.inl rfl | exact Or.inr rfl) (pe_bm PySem.F.plainAttrs_list PySem.F.slot_list_pop PySem.F.type_list_pop mt_popAt (pv 3) (pa_cons (x_pe (K := K) se_int) pa_nil)))))
    (ss_one (s_for PassesOwn.never rfl (si_list (se_ix (sb_fld T.dk 0 2 (pv 0)) (sb_var 4))) (pg_name (i := 5) sc_deal_fill.nd rfl (by first | exact Or.inl rfl | exact Or.inr rfl)) (tg1_ok 5) (ss_cons (s_set 6 sc_deal_fill.nd (se_meth 0 (mr_given_up T) hr (x_ac (se_var 5) (x_ac (se_var 4) sa_nil)) (pv 0)))
    (ss_cons (s_if (st_cmp eq2_s (op_eq2 hu) (sb_var 6) (x_eb (x_le (sl_lst sa_nil))) (nomark _)) (ss_cons (s_mut2 (kd := kD) 0 2 (m2_change T) kcD (by unfold noFl; decide +kernel) (by decide) hr (x_ac (se_var 4) (x_ac (se_var 5) sa_nil)) (pv 0) (pv 2))
    (ss_one (s_ret (x_le (sl_lst sa_nil))))) ss_nil)
    (ss_one (s_for PassesOwn.never rfl (si_list (se_var 6)) (pg_name (i := 7) sc_deal_fill.nd rfl (by first | exact Or.inl rfl | exact Or.inr rfl)) (tg1_ok 7) (ss_one (s_if (st_dnotin 2 (hu1_of hr) (pv 2) (se_var 7)) (ss_cons (s_dset 2 (se_var 7) (se_tup (x_ac (se_var 4) (x_ac (se_var 5) sa_nil))) (by exact (ps_asg (x_pe (K := K) (se_tup (x_ac (se_var 4) (x_ac (se_var 5) sa_nil)))) (pg_sub (pv 2) (x_pe (K := K) (se_var 7)) (set_dict (hu1_of hr)) (fun _ => rfl)))))
    (ss_one (s_app 3 (se_var 7) (by exact (ps_expr (pe_bm PySem.F.plainAttrs_list PySem.F.slot_list_append PySem.F.type_list_append mt_append (pv 3) (pa_cons (x_pe (K := K) (se_var 7)) pa_nil))))))) ss_nil))))))))))
    (ss_one (s_ret (x_le (sl_sortedD 2 T.z_sorted (pv 2)))))))))) h
end
end RK
namespace RK
open PySem PySem.Spec PyProof.Rows L2 RT
noncomputable section
variable {P : Program} {w : World} {K : PySem.W.Frag} {mg : Str → Option Value} {base : Heap}
abbrev N_dealt : List Str := ["book", "deal", "place", "reached", "short", "other", "post", "rows"]
theorem sc_dealt : FnScope N_dealt ["book"] (defScope s_dealt) := ⟨rfl, rfl, rfl, by decide +kernel, rfl, by decide +kernel, by decide +kernel⟩
def b_dealt (bk : Addr → Option ObjSt) : SS := (sSeq (sMkD bk 1 0 f2_deal)
  (sSeq (sFor (iR1 (eCons (eCall gLen (eCons (eFld bk 1 0) eNil)) eNil)) (tg1 2) (sSeq (sMutS kD 1 3 fm_fill (eCons (eVar 2) eNil))
  (sIf (bF (eOp gNe (eVarB 3) (eList (eLstD eNil)))) (sSeq (sSet 4 (eList (lLc (iL (eVarB 3)) 5 tYesF (eOp gIx (eFld bk 1 0) (eVarB 5)))))
  (sRet (eTupD (eCons (eC (.str "short")) (eCons (eList (lLc (iL (eMeth kB bk 0 fr_posts eNil)) 6 (bF (eOp gIn (eVarB 6) (eVarB 4))) (eVar 6))) eNil))))) sNext)))
  (sSeq (sSetL 7 (eLstD eNil))
  (sSeq (sForE 1 0 (tg2 2 6) (sApp 7 (eTupD (eCons (eOp gIx (eVarB 6) (eC (.int 0))) (eCons (eOp gIx (eVarB 6) (eC (.int 1))) (eCons (eOp gIx (eFld bk 1 3) (eVarB 2)) eNil))))))
  (sRet (eTupD (eCons (eC (.str "rota")) (eCons (eVar 7) eNil))))))))
noncomputable def fr_dealt : BookSt → List PyData → Res := frOf kB N_dealt 1 b_dealt
theorem pr_dealt (T : Txt K mg) : PFR P w K mg base 5 "dealt" fr_dealt := by
  have hF := frOf_ok kB N_dealt 1 b_dealt
  obtain ⟨fd, F⟩ := T.f_dealt
  refine ⟨_, fd, ["book"], ?_, T.g_dealt, F.kp, F.bindsN fun _ _ _ _ _ _ us hl => match us, hl with | [_], _ => rfl⟩
  refine F.ok sc_dealt (fun vs H Q E h => spR_len hF h) (fun cdv A outer s H vs Q E hr h => ?_)
  have hu := hr.units
  have hv := hv_of hr
  exact sp_run (kd := kB) (n := 1) (b := b_dealt) (fun B => ⟨_, (ss_cons (s_mkD 1 0 (by intro z; cases z) (by exact (ps_set (i := 1) sc_dealt.nd rfl (by first | exact Or.inl rfl | exact Or.inr rfl) (pe_deal T hr (pv 0)))))
    (ss_cons (s_for PassesOwn.never rfl (si_range1 T.z_range (x_abc (x_eb (se_cb len_s call_len T.z_len (x_abc (sb_fld T.dk 1 0 (pv 1)) sab_nil))) sab_nil)) (pg_name (i := 2) sc_dealt.nd rfl (by first | exact Or.inl rfl | exact Or.inr rfl)) (tg1_ok 2) (ss_cons (s_mutS 1 3 (mm_fill T) hr sc_dealt.nd (x_ac (se_var 2) sa_nil) (pv 1))
    (ss_one (s_if (st_cmp ne2_s (op_ne2 hu) (sb_var 3) (x_eb (x_le (sl_lst sa_nil))) (nomark _)) (ss_cons (s_set 4 sc_dealt.nd (x_le (sl_lc (j := 5) rfl sc_dealt.nd rfl (si_listB (sb_var 3)) (blkOk_by (N := N_dealt) (sc := defScope s_dealt) (own := [("other", 5)]) (by decide +kernel)) (fun _ _ _ _ _ => sts_nil) (fun _ _ _ _ _ => (se_ix (sb_fld T.dk 1 0 (pv 1)) (sb_var 5))) (fun _ _ _ _ _ => pg_name sc_dealt.nd rfl (Or.inl rfl)))))
    (ss_one (s_ret (se_tup (x_ac se_str (x_ac (x_le (sl_lc (j := 6) rfl sc_dealt.nd rfl (si_listB (x_eb (se_meth0 0 (mr_posts T) hr (pv 0)))) (blkOk_by (N := N_dealt) (sc := defScope s_dealt) (own := [("post", 6)]) (by decide +kernel)) (fun _ _ _ _ _ => (sts_one (st_cmp in2_s (op_in2 hv) (sb_var 6) (sb_var 4) (by rfl)))) (fun _ _ _ _ _ => (se_var 6)) (fun _ _ _ _ _ => pg_name sc_dealt.nd rfl (Or.inl rfl)))) sa_nil)))))) ss_nil))))
    (ss_cons (s_setL 7 sc_dealt.nd (sl_lst sa_nil))
    (ss_cons (s_forE T.dk 1 0 PassesOwn.never rfl T.z_enumerate (pv 1) (pg_tup (by rfl) (pgs_cons (pg_name (i := 2) sc_dealt.nd rfl (by first | exact Or.inl rfl | exact Or.inr rfl)) (pgs_cons (pg_name (i := 6) sc_dealt.nd rfl (by first | exact Or.inl rfl | exact Or.inr rfl)) pgs_nil))) (tg2_ok 2 6) (sr_app 7 (se_tup (x_ac (se_ix (sb_var 6) (x_eb se_int)) (x_ac (se_ix (sb_var 6) (x_eb se_int)) (x_ac (se_ix (sb_fld T.dk 1 3 (pv 1)) (sb_var 2)) sa_nil)))) (by exact (ps_expr (pe_bm PySem.F.plainAttrs_list PySem.F.slot_list_append PySem.F.type_list_append mt_append (pv 7) (pa_cons (x_pe (K := K) (se_tup (x_ac (se_ix (sb_var 6) (x_eb se_int)) (x_ac (se_ix (sb_var 6) (x_eb se_int)) (x_ac (se_ix (sb_fld T.dk 1 3 (pv 1)) (sb_var 2)) sa_nil))))) pa_nil))))))
    (ss_one (s_ret (se_tup (x_ac se_str (x_ac (se_var 7) sa_nil)))))))))⟩) hF h
end
end RK
namespace RK
open PySem PySem.Spec PyProof.Rows L2 RT
/-! ### the deal's data -/
def natD (i : Nat) : PyData := .int (i : Int)
def whD : Option Str → PyData
  | none => .none
  | some n => .str n
def abD (l : List Str) : PyData := .list (l.map .str)
def dealD (m : DM) : DealSt := ⟨m.lim, [m.pl.map postD, m.dy.map .int, m.ab.map abD, m.wh.map whD]⟩
def wayD : Option (Nat × Str) → PyData
  | none => .none
  | some q => .tuple [natD q.1, .str q.2]
def cameD (c : Came) : List (Int × PyData) := c.map fun x => ((x.1 : Int), wayD x.2)
theorem okDs_nats (l : List Nat) : okDs (l.map natD) = true ∧ (PyData.list (l.map natD)).depth ≤ 64 := by
  refine ⟨?_, ?_⟩
  · rw [okDs_all, List.all_map, List.all_eq_true]
    intro r _
    simp [natD, okD]
  · have : PyData.depthAll (l.map natD) ≤ 1 := depthAll_le fun d hd => by
      obtain ⟨r, _, rfl⟩ := List.mem_map.mp hd
      simp [natD, PyData.depth]
    simp only [PyData.depth]
    omega
theorem eFld_eq (bk : Addr → Option ObjSt) (i j : Nat) (ρ : Rho) : eFld bk i j ρ = (rcv kD bk ρ i).bind fun δ => (δ.ls[j]?).map .list := rfl
theorem eLim_eq (bk : Addr → Option ObjSt) (i : Nat) (f : SE) (ρ : Rho) : eLim bk i f ρ = (rcv kD bk ρ i).bind fun δ => (f ρ).bind fun d => match d with
  | .str n => (lookN δ.limits n).map .int
  | _ => none := rfl
theorem dealAt (a : Addr) (δ : DealSt) (ρ : Rho) (i : Nat) (h : ρ[i]? = some (.val (refD a))) : rcv kD (only a (.deal δ)) ρ i = some δ := by
  rw [rcv_ref a _ ρ i h]
theorem dctAt (a : Addr) (l : List (Int × PyData)) (ρ : Rho) (i : Nat) (h : ρ[i]? = some (.val (refD a))) : rcv kT (only a (.dct l)) ρ i = some l := by
  rw [rcv_ref a _ ρ i h]
theorem dealOb (bk : Addr → Option ObjSt) (δ : DealSt) (ρ : Rho) (i : Nat) (h : ρ[i]? = some (.obj (.deal δ))) : rcv kD bk ρ i = some δ := by
  rw [rcv_obj _ _ _ _ h]
theorem dctOb (bk : Addr → Option ObjSt) (l : List (Int × PyData)) (ρ : Rho) (i : Nat) (h : ρ[i]? = some (.obj (.dct l))) : rcv kT bk ρ i = some l := by
  rw [rcv_obj _ _ _ _ h]
theorem rng_nat (n : Nat) : rangeD 0 n = (List.range n).map natD := by
  unfold rangeD natD
  simp
theorem at_nat {α : Type} (l : List α) (i : Nat) : atI l (i : Int) = l[i]? := by
  rw [atI_pos _ _ (by omega)]
  simp
theorem ixN_nat {n i : Nat} (h : i < n) : ixN n (i : Int) = some i := by
  unfold ixN
  rw [if_pos (by omega), if_pos (by omega)]
  simp
theorem gEq_who (o : Option Str) (n : Str) : gEq (whD o) (.str n) = some (.bool (decide (o = some n))) := by
  cases o with
  | none => rfl
  | some k =>
    show gEq (.str k) (.str n) = _
    rw [gEq_str]
    by_cases h : k = n <;> simp [h]
theorem held_ok (m : DM) (n : Str) (hl : m.wh.length ≤ 1000) : fr_held (dealD m) [.str n] = .ret (.list ((heldM m n).map natD)) := by
  refine frOf_eq fun a => ?_
  rw [runF_eq]
  have hk : only a (kD.inj (dealD m)) = only a (.deal (dealD m)) := rfl
  have hr : rho0 N_deal_held [refD a, .str n] = [.val (refD a), .val (.str n), .no] := by simp [rho0, N_deal_held]
  have f3 : ∀ s2, eFld (only a (.deal (dealD m))) 0 3 [.val (refD a), .val (.str n), s2] = some (.list (m.wh.map whD)) := fun s2 => by
    rw [eFld_eq, dealAt a _ _ 0 rfl]
    rfl
  have hi : iR1 (eCons (eCall gLen (eCons (eFld (only a (.deal (dealD m))) 0 3) eNil)) eNil) [.val (refD a), .val (.str n), .no] = some ((List.range m.wh.length).map natD) := by
    have hc : ((m.wh.length : Nat) : Int) ≤ 1000000 ∧ (-1000000 : Int) ≤ ((m.wh.length : Nat) : Int) := by omega
    rw [iR1_eq, eCons_eq, eCall_eq, eCons_eq, f3]
    simp [hc, rng_nat]
  have lc : lcF 2 (bF (eOp gEq (eOp gIx (eFld (only a (.deal (dealD m))) 0 3) (eVarB 2)) (eVarB 1))) (eVar 2) [.val (refD a), .val (.str n), .no] ((List.range m.wh.length).map natD) = some ((heldM m n).map natD) := by
    rw [lcF_mapped natD (fun i => decide (m.wh[i]? = some (some n))) natD]
    · rfl
    · intro i hi
      have hi' := List.mem_range.mp hi
      have ha : atI (m.wh.map whD) (i : Int) = some (whD m.wh[i]) := by
        rw [at_nat, List.getElem?_map, List.getElem?_eq_getElem hi']
        rfl
      show bF (eOp gEq (eOp gIx (eFld (only a (.deal (dealD m))) 0 3) (eVarB 2)) (eVarB 1)) [.val (refD a), .val (.str n), .val (natD i)] = _
      rw [bF_eq, eOp_eq, eOp_eq, f3]
      have hv : eVarB 2 [.val (refD a), .val (.str n), .val (natD i)] = some (.int (i : Int)) := rfl
      have hv1 : eVarB 1 [.val (refD a), .val (.str n), .val (natD i)] = some (.str n) := rfl
      rw [hv, hv1, Option.bind_some, Option.bind_some, gIx_list, ha, Option.bind_some, Option.bind_some, gEq_who, Option.bind_some, List.getElem?_eq_getElem hi']
      simp
    · intro i _ _
      exact ⟨rfl, rfl⟩
  have ll : ((List.range m.wh.length).map natD).length ≤ LIM := by
    rw [List.length_map, List.length_range]
    exact Nat.le_trans hl (by decide)
  have hb : b_deal_held (only a (kD.inj (dealD m))) (rho0 N_deal_held [refD a, .str n]) = .rt (.list ((heldM m n).map natD)) [.val (refD a), .val (.str n), .no] := by
    unfold b_deal_held
    have hm : ([.val (refD a), .val (.str n), .no] : Rho).map frz1 = [.val (refD a), .val (.str n), .no] := rfl
    rw [hk, hr, sRet_eq, hm, eList_eq, lLc_eq, hi, Option.bind_some, if_pos ll, lc]
    rfl
  show (if (2 : Nat) = 2 then _ else _) = _
  rw [if_pos rfl, hb]
  rfl
theorem held_lt {m : DM} {n : Str} {i : Nat} (h : i ∈ heldM m n) : i < m.wh.length := (List.getElem?_eq_some_iff.mp (held_mem.mp h)).1
theorem held_le (m : DM) (n : Str) : (heldM m n).length ≤ m.wh.length := by
  unfold heldM
  refine Nat.le_trans (List.length_filter_le _ _) ?_
  rw [List.length_range]
  exact Nat.le_refl _
theorem isEmpty_iff {α : Type} (l : List α) : (!l.isEmpty) = decide (l ≠ []) := by cases l <;> simp
theorem given_ok (m : DM) (n : Str) (p : Nat) (hl : m.wh.length ≤ 1000) (hd : m.dy.length = m.wh.length) (hp : p < m.wh.length) {L : Int} (hL : lookN m.lim n = some L) : fr_given_up (dealD m) [.str n, natD p] = .ret (.list ((givenM m n p).map natD)) := by
  refine frOf_eq fun a => ?_
  rw [runF_eq]
  have hk : only a (kD.inj (dealD m)) = only a (.deal (dealD m)) := rfl
  have hr : rho0 N_deal_given_up [refD a, .str n, natD p] = [.val (refD a), .val (.str n), .val (natD p), .no, .no, .no] := by simp [rho0, N_deal_given_up]
  have hH := held_ok m n hl
  have ll : (heldM m n).length ≤ LIM := Nat.le_trans (held_le m n) (Nat.le_trans hl (by decide))
  have f1 : ∀ s3 s4 s5, eFld (only a (.deal (dealD m))) 0 1 [.val (refD a), .val (.str n), .val (natD p), s3, s4, s5] = some (.list (m.dy.map .int)) := fun s3 s4 s5 => by
    rw [eFld_eq, dealAt a _ _ 0 rfl]
    rfl
  have a3 : sSet 3 (eMeth kD (only a (.deal (dealD m))) 0 fr_held (eCons (eVar 1) eNil)) [.val (refD a), .val (.str n), .val (natD p), .no, .no, .no] = .nx [.val (refD a), .val (.str n), .val (natD p), .val (.list ((heldM m n).map natD)), .no, .no] := by
    rw [sSet_eq, eMeth_eq, dealAt a _ _ 0 rfl, Option.bind_some]
    simp [hH, Res.ok]
  have dp : atI (m.dy.map PyData.int) (p : Int) = some (.int (m.dy[p]'(by omega))) := by
    rw [at_nat, List.getElem?_map, List.getElem?_eq_getElem (by omega)]
    rfl
  have lc : lcF 5 (bF (eOp gEq (eOp gIx (eFld (only a (.deal (dealD m))) 0 1) (eVarB 5)) (eOp gIx (eFld (only a (.deal (dealD m))) 0 1) (eVarB 2)))) (eVar 5) [.val (refD a), .val (.str n), .val (natD p), .val (.list ((heldM m n).map natD)), .no, .no] ((heldM m n).map natD) = some ((sameM m n p).map natD) := by
    rw [lcF_mapped natD (fun o => decide (m.dy[o]? = m.dy[p]?)) natD]
    · rfl
    · intro i hi
      have hi' : i < m.dy.length := by rw [hd]; exact held_lt hi
      have ha : atI (m.dy.map PyData.int) (i : Int) = some (.int m.dy[i]) := by
        rw [at_nat, List.getElem?_map, List.getElem?_eq_getElem hi']
        rfl
      show bF _ [.val (refD a), .val (.str n), .val (natD p), .val (.list ((heldM m n).map natD)), .no, .val (natD i)] = _
      have v5 : eVarB 5 [.val (refD a), .val (.str n), .val (natD p), .val (.list ((heldM m n).map natD)), .no, .val (natD i)] = some (.int (i : Int)) := rfl
      have v2 : eVarB 2 [.val (refD a), .val (.str n), .val (natD p), .val (.list ((heldM m n).map natD)), .no, .val (natD i)] = some (.int (p : Int)) := rfl
      rw [bF_eq, eOp_eq, eOp_eq, eOp_eq, f1, v5, v2]
      simp only [Option.bind_some, gIx_list, ha, dp, gEq_int, truD_bool]
      rw [List.getElem?_eq_getElem hi', List.getElem?_eq_getElem (show p < m.dy.length by omega)]
      by_cases h : m.dy[i] = m.dy[p]'(by omega) <;> simp [h]
    · intro i _ _
      exact ⟨rfl, rfl⟩
  have a4 : sSet 4 (eList (lLc (iL (eVarB 3)) 5 (bF (eOp gEq (eOp gIx (eFld (only a (.deal (dealD m))) 0 1) (eVarB 5)) (eOp gIx (eFld (only a (.deal (dealD m))) 0 1) (eVarB 2)))) (eVar 5))) [.val (refD a), .val (.str n), .val (natD p), .val (.list ((heldM m n).map natD)), .no, .no] = .nx [.val (refD a), .val (.str n), .val (natD p), .val (.list ((heldM m n).map natD)), .val (.list ((sameM m n p).map natD)), .no] := by
    have i3 : iL (eVarB 3) [.val (refD a), .val (.str n), .val (natD p), .val (.list ((heldM m n).map natD)), .no, .no] = some ((heldM m n).map natD) := by
      simp [ll]
    rw [sSet_eq, eList_eq, lLc_eq, i3, Option.bind_some, if_pos (by rw [List.length_map]; exact ll), lc]
    rfl
  have os := okDs_nats (sameM m n p)
  have ne := gNe_nil ((sameM m n p).map natD) os.1 os.2
  rw [isEmpty_map, isEmpty_iff] at ne
  have lim : limM m n = L := by
    unfold limM
    rw [hL]
    rfl
  have hb : ∃ ρ, b_deal_given_up (only a (kD.inj (dealD m))) (rho0 N_deal_given_up [refD a, .str n, natD p]) = .rt (.list ((givenM m n p).map natD)) ρ := by
    unfold b_deal_given_up
    rw [hk, hr, sSeq_eq, a3, thn_nx, sSeq_eq, a4, thn_nx, sSeq_eq, sIf_eq]
    have t1 : bF (eOp gNe (eVarB 4) (eList (eLstD eNil))) [.val (refD a), .val (.str n), .val (natD p), .val (.list ((heldM m n).map natD)), .val (.list ((sameM m n p).map natD)), .no] = some (decide (sameM m n p ≠ [])) := by
      simp [ne]
    rw [t1, outB_some]
    unfold givenM
    by_cases h1 : sameM m n p ≠ []
    · rw [if_pos (by simpa using h1), if_pos h1]
      exact ⟨_, by rw [sRet_eq]; rfl⟩
    · rw [if_neg (by simpa using h1), if_neg h1, sNext_eq, thn_nx, sSeq_eq, sIf_eq]
      have t2 : bF (eOp gLt (eCall gLen (eCons (eVarB 3) eNil)) (eLim (only a (.deal (dealD m))) 0 (eVar 1))) [.val (refD a), .val (.str n), .val (natD p), .val (.list ((heldM m n).map natD)), .val (.list ((sameM m n p).map natD)), .no] = some (decide (((heldM m n).length : Int) < limM m n)) := by
        rw [bF_eq, eOp_eq, eLim_eq, dealAt a _ _ 0 rfl]
        have : lookN (dealD m).limits n = some L := hL
        simp [this, lim]
      rw [t2, outB_some]
      by_cases h2 : ((heldM m n).length : Int) < limM m n
      · rw [if_pos (by simpa using h2), if_pos h2]
        exact ⟨_, by rw [sRet_eq]; rfl⟩
      · rw [if_neg (by simpa using h2), if_neg h2, sNext_eq, thn_nx]
        exact ⟨_, by rw [sRet_eq]; rfl⟩
  obtain ⟨ρ, hb⟩ := hb
  show (if (3 : Nat) = 3 then _ else _) = _
  rw [if_pos rfl, hb]
  rfl
/-! ### a change along the tree's path -/
theorem lookI_came (c : Came) (p : Nat) : lookI (cameD c) (p : Int) = (parM c p).map wayD := by
  unfold lookI cameD parM
  rw [List.find?_map]
  have e : ((fun x : Int × PyData => decide (x.1 = (p : Int))) ∘ fun x : Nat × Option (Nat × Str) => ((x.1 : Int), wayD x.2)) = fun x => decide (x.1 = p) := by
    funext x
    show decide ((x.1 : Int) = (p : Int)) = decide (x.1 = p)
    by_cases h : x.1 = p
    · simp [h]
    · have : ¬ (x.1 : Int) = (p : Int) := by omega
      simp [h, this]
  rw [e]
  cases c.find? fun x => decide (x.1 = p) <;> rfl
theorem whF_t {t : STe} {body : SS} {n : Nat} {ρ : Rho} (ht : t ρ = some true) : whF t body (n + 1) ρ = (body ρ).thn (whF t body n) := by
  unfold whF
  rw [ht]
  cases body ρ <;> rfl
theorem whF_f {t : STe} {body : SS} {n : Nat} {ρ : Rho} (ht : t ρ = some false) : whF t body (n + 1) ρ = .nx ρ := by
  unfold whF
  rw [ht]
  rfl
def rhoC (m : DM) (wh : List (Option Str)) (a : Addr) (p : Nat) (n : Str) (s4 : Sl) : Rho := [.obj (.deal (dealD { m with wh := wh })), .val (refD a), .val (natD p), .val (.str n), s4]
abbrev chgBody (bk : Addr → Option ObjSt) : SS := (sSeq (sFPut 0 3 (eVar 2) (eVar 3))
  (sSeq (sSet 4 (eDGet bk 1 (eVar 2)))
  (sSeq (sIf (bF (eOp gIs (eVarB 4) (eC .none))) sRetN sNext)
  (sSeq (sSet 2 (eOp gIx (eVarB 4) (eC (.int 0))))
  (sSet 3 (eOp gIx (eVarB 4) (eC (.int 1))))))))
theorem fput_who {m : DM} {wh : List (Option Str)} {a : Addr} {p : Nat} {n : Str} {s4 : Sl} (hp : p < wh.length) : sFPut 0 3 (eVar 2) (eVar 3) (rhoC m wh a p n s4) = .nx (rhoC m (wh.set p (some n)) a p n s4) := by
  unfold sFPut rhoC
  have h0 : slO kD ([Sl.obj (.deal (dealD { m with wh := wh })), .val (refD a), .val (natD p), .val (.str n), s4] : Rho)[0]? = some (dealD { m with wh := wh }) := rfl
  have h3 : eVar 3 ([Sl.obj (.deal (dealD { m with wh := wh })), .val (refD a), .val (natD p), .val (.str n), s4] : Rho) = some (.str n) := rfl
  have h2 : eVar 2 ([Sl.obj (.deal (dealD { m with wh := wh })), .val (refD a), .val (natD p), .val (.str n), s4] : Rho) = some (.int (p : Int)) := rfl
  have h1 : (dealD { m with wh := wh }).ls[3]? = some (wh.map whD) := rfl
  have hx : ixN (wh.map whD).length (p : Int) = some p := ixN_nat (by rw [List.length_map]; exact hp)
  rw [h0, h3, h2]
  simp only [h1, hx]
  rw [if_pos (show dataD (.str n) = true from rfl)]
  have : setLs (dealD { m with wh := wh }) 3 ((wh.map whD).set p (.str n)) = dealD { m with wh := wh.set p (some n) } := by
    unfold setLs dealD
    simp only [List.map_set]
    rfl
  rw [this]
  rfl
theorem change_loop {m : DM} {first : Nat} {c : Came} (t : TreeOk m first c) (a : Addr) : ∀ (k fuel : Nat) (wh : List (Option Str)) (p : Nat) (n : Str) (s4 : Sl), p ∈ c.map (·.1) → posM c p ≤ k → k < fuel → (∀ x ∈ c.map (·.1), x < wh.length) →
    ∃ ρ, whF (bF (eC (.bool true))) (chgBody (only a (.dct (cameD c)))) fuel (rhoC m wh a p n s4) = .rt .none ρ ∧ ρ[0]? = some (.obj (.deal (dealD { m with wh := chg wh (pathM c k (p, n)) }))) := by
  intro k
  induction k with
  | zero =>
    intro fuel wh p n s4 hp hk hf hc
    obtain ⟨fuel, rfl⟩ : ∃ f, fuel = f + 1 := ⟨fuel - 1, by omega⟩
    have hp0 := pos_zero t hp (by omega)
    have hpar : parM c p = some none := by
      obtain ⟨v, hv⟩ := par_some hp
      cases v with
      | none => exact hv
      | some q => exact absurd (par_lt t hv) (by omega)
    have hd : eDGet (only a (.dct (cameD c))) 1 (eVar 2) (rhoC m (wh.set p (some n)) a p n s4) = some .none := by
      unfold eDGet
      rw [dctAt a _ _ 1 rfl, Option.bind_some]
      show lookI (cameD c) (p : Int) = _
      rw [lookI_came, hpar]
      rfl
    refine ⟨rhoC m (wh.set p (some n)) a p n (.val .none), ?_, rfl⟩
    have ht : bF (eC (.bool true)) (rhoC m wh a p n s4) = some true := rfl
    rw [whF_t ht]
    have hb : chgBody (only a (.dct (cameD c))) (rhoC m wh a p n s4) = .rt .none (rhoC m (wh.set p (some n)) a p n (.val .none)) := by
      unfold chgBody
      rw [sSeq_eq, fput_who (hc p hp), thn_nx, sSeq_eq, sSet_eq, hd]
      rfl
    rw [hb, thn_rt]
  | succ k ih =>
    intro fuel wh p n s4 hp hk hf hc
    obtain ⟨fuel, rfl⟩ : ∃ f, fuel = f + 1 := ⟨fuel - 1, by omega⟩
    obtain ⟨v, hv⟩ := par_some hp
    have hd : eDGet (only a (.dct (cameD c))) 1 (eVar 2) (rhoC m (wh.set p (some n)) a p n s4) = some (wayD v) := by
      unfold eDGet
      rw [dctAt a _ _ 1 rfl, Option.bind_some]
      show lookI (cameD c) (p : Int) = _
      rw [lookI_came, hv]
      rfl
    have ht : bF (eC (.bool true)) (rhoC m wh a p n s4) = some true := rfl
    cases v with
    | none =>
      refine ⟨rhoC m (wh.set p (some n)) a p n (.val .none), ?_, ?_⟩
      · rw [whF_t ht]
        have hb : chgBody (only a (.dct (cameD c))) (rhoC m wh a p n s4) = .rt .none (rhoC m (wh.set p (some n)) a p n (.val .none)) := by
          unfold chgBody
          rw [sSeq_eq, fput_who (hc p hp), thn_nx, sSeq_eq, sSet_eq, hd]
          rfl
        rw [hb, thn_rt]
      · have : pathM c (k + 1) (p, n) = [(p, n)] := by
          unfold pathM
          rw [hv]
        rw [this]
        rfl
    | some q =>
      obtain ⟨h1, h2, h3⟩ := t.edge _ _ _ (par_get hv).1
      have hlt := par_lt t hv
      obtain ⟨ρ, e, h0⟩ := ih fuel (wh.set p (some n)) q.1 q.2 (.val (wayD (some q))) h3 (by omega) (by omega) (fun x hx => by rw [List.length_set]; exact hc x hx)
      refine ⟨ρ, ?_, ?_⟩
      · rw [whF_t ht]
        have hb : chgBody (only a (.dct (cameD c))) (rhoC m wh a p n s4) = .nx (rhoC m (wh.set p (some n)) a q.1 q.2 (.val (wayD (some q)))) := by
          unfold chgBody
          rw [sSeq_eq, fput_who (hc p hp), thn_nx, sSeq_eq, sSet_eq, hd]
          simp [wayD, rhoC, natD]
        rw [hb, thn_nx]
        exact e
      · have : pathM c (k + 1) (p, n) = (p, n) :: pathM c k q := by
          show (p, n) :: (match parM c p with
            | some (some q) => pathM c k q
            | _ => []) = _
          rw [hv]
        rw [this]
        exact h0
theorem change_ok {m : DM} {first : Nat} {c : Came} (t : TreeOk m first c) (hf : first < m.wh.length) (hl : m.wh.length ≤ 1000) {p : Nat} {n : Str} (hp : p ∈ c.map (·.1)) : f2_change (.dct (cameD c)) (.deal (dealD m)) [natD p, .str n] = .done (.deal (dealD { m with wh := chg m.wh (pathM c 1000 (p, n)) })) .none := by
  refine moOf_eq fun a => ?_
  have hpos : posM c p ≤ 1000 := by
    have h1 : posM c p ≤ c.length := List.findIdx_le_length
    have h2 := tree_len t hf
    omega
  obtain ⟨ρ, e, h0⟩ := change_loop t a 1000 2000 m.wh p n .no hp hpos (by omega) (tree_lt t hf)
  unfold runO
  rw [if_pos (show [refD a, natD p, PyData.str n].length + 1 = 4 from rfl)]
  have hb : b_deal_change (only a (.dct (cameD c))) (.obj (.deal (dealD m)) :: rho0 (N_deal_change.drop 1) (refD a :: [natD p, .str n])) = .rt .none ρ := by
    have hr : (Sl.obj (.deal (dealD m)) :: rho0 (N_deal_change.drop 1) (refD a :: [natD p, .str n])) = rhoC m m.wh a p n .no := by
      simp [rho0, N_deal_change, rhoC]
    rw [hr]
    exact e
  rw [hb]
  simp only [h0]
  rfl
end RK
namespace RK
open PySem PySem.Spec PyProof.Rows L2 RT
/-! ### the search in the program -/
def rhoF (m : DM) (first : Nat) (c : Came) (w : List Nat) (s4 s5 s6 s7 : Sl) : Rho := [.obj (.deal (dealD m)), .val (natD first), .obj (.dct (cameD c)), .own (w.map natD), s4, s5, s6, s7]
theorem look_in (c : Came) (o : Nat) : (lookI (cameD c) (o : Int)).isSome = inCame c o := by
  rw [lookI_came]
  unfold parM inCame
  rw [Option.isSome_map, Option.isSome_map]
  cases h : c.find? fun x => decide (x.1 = o) with
  | none =>
    rw [List.find?_eq_none] at h
    symm
    show _ = false
    rw [List.any_eq_false]
    exact h
  | some x =>
    symm
    show _ = true
    rw [List.any_eq_true]
    exact ⟨x, List.mem_of_find?_eq_some h, List.find?_some (p := fun x : Nat × Option (Nat × Str) => decide (x.1 = o)) h⟩
theorem putI_came {c : Came} {o : Nat} (h : inCame c o = false) (v : Option (Nat × Str)) : putI (cameD c) (o : Int) (wayD v) = cameD (c ++ [(o, v)]) := by
  unfold putI
  have e : ((cameD c).any fun x => decide (x.1 = (o : Int))) = false := by
    unfold cameD inCame at *
    rw [List.any_map, List.any_eq_false]
    rw [List.any_eq_false] at h
    intro x hx
    have := h x hx
    have h2 : ¬ x.1 = o := by simpa using this
    show ¬ decide ((x.1 : Int) = (o : Int)) = true
    have : ¬ (x.1 : Int) = (o : Int) := by omega
    simp [this]
  rw [e]
  unfold cameD
  simp
abbrev body7 : SS := sIf (eDNotIn noB.bk 2 (eVar 7)) (sSeq (sDSet 2 (eVar 7) (eTupD (eCons (eVar 4) (eCons (eVar 5) eNil)))) (sApp 3 (eVar 7))) sNext
theorem take_loop (m : DM) (first p : Nat) (n : Str) (s6 : Sl) : ∀ (os : List Nat) (a : Came × List Nat) (s7 : Sl), a.1.length + os.length ≤ 100000 → a.2.length + os.length ≤ 100000 →
    ∃ s7', forF (tg1 7) body7 (os.map natD) (rhoF m first a.1 a.2 (.val (natD p)) (.val (.str n)) s6 s7) = .nx (rhoF m first (takeIn p n os a).1 (takeIn p n os a).2 (.val (natD p)) (.val (.str n)) s6 s7')
  | [], a, s7, _, _ => ⟨s7, rfl⟩
  | o :: os, a, s7, h1, h2 => by
    have hn : eDNotIn noB.bk 2 (eVar 7) (rhoF m first a.1 a.2 (.val (natD p)) (.val (.str n)) s6 (.val (natD o))) = some (!inCame a.1 o) := by
      unfold eDNotIn
      rw [dctOb _ (cameD a.1) _ 2 rfl, Option.bind_some]
      show some (!(lookI (cameD a.1) (o : Int)).isSome) = _
      rw [look_in]
    have st : body7 (rhoF m first a.1 a.2 (.val (natD p)) (.val (.str n)) s6 (.val (natD o))) = .nx (rhoF m first (if inCame a.1 o = true then a else (a.1 ++ [(o, some (p, n))], a.2 ++ [o])).1 (if inCame a.1 o = true then a else (a.1 ++ [(o, some (p, n))], a.2 ++ [o])).2 (.val (natD p)) (.val (.str n)) s6 (.val (natD o))) := by
      unfold body7
      rw [sIf_eq, hn, outB_some]
      cases hc : inCame a.1 o with
      | true => rfl
      | false =>
        have ds : sDSet 2 (eVar 7) (eTupD (eCons (eVar 4) (eCons (eVar 5) eNil))) (rhoF m first a.1 a.2 (.val (natD p)) (.val (.str n)) s6 (.val (natD o))) = .nx (rhoF m first (a.1 ++ [(o, some (p, n))]) a.2 (.val (natD p)) (.val (.str n)) s6 (.val (natD o))) := by
          refine (sDSet_at (l := cameD a.1) (k := (o : Int)) (d := wayD (some (p, n))) rfl rfl ?_ rfl ?_).trans ?_
          · simp [rhoF, wayD, natD]
          · unfold cameD
            rw [List.length_map]
            unfold LIM
            omega
          · rw [putI_came hc]
            rfl
        rw [if_pos (by rfl), sSeq_eq, ds, thn_nx, sApp_eq]
        have lw : (a.2.map natD).length ≤ LIM := by
          rw [List.length_map]
          unfold LIM
          omega
        simp [rhoF, natD] at lw ⊢
        exact lw
    have hl : (if inCame a.1 o = true then a else (a.1 ++ [(o, some (p, n))], a.2 ++ [o])).1.length ≤ a.1.length + 1 ∧ (if inCame a.1 o = true then a else (a.1 ++ [(o, some (p, n))], a.2 ++ [o])).2.length ≤ a.2.length + 1 := by
      split <;> simp
    simp only [List.length_cons] at h1 h2
    obtain ⟨s7', e⟩ := take_loop m first p n s6 os (if inCame a.1 o = true then a else (a.1 ++ [(o, some (p, n))], a.2 ++ [o])) (.val (natD o)) (by omega) (by omega)
    refine ⟨s7', ?_⟩
    rw [List.map_cons, forF_cons1]
    show ((body7 (rhoF m first a.1 a.2 (.val (natD p)) (.val (.str n)) s6 (.val (natD o)))).thn _) = _
    rw [st, thn_nx, e]
    rfl
/-- what stands of a deal that is searched -/
structure DealOk (m : DM) : Prop where
  hl : m.wh.length ≤ 756
  hd : m.dy.length = m.wh.length
  ha : m.ab.length = m.wh.length
  hL : ∀ i n, n ∈ abM m i → ∃ L, lookN m.lim n = some L
  hn : ∀ l ∈ m.ab, l.length ≤ 1000
noncomputable abbrev body5 : SS := sSeq (sSet 6 (eMeth kD noB.bk 0 fr_given_up (eCons (eVar 5) (eCons (eVar 4) eNil))))
  (sSeq (sIf (bF (eOp gEq (eVarB 6) (eList (eLstD eNil)))) (sSeq (sMut2 kD 0 2 f2_change (eCons (eVar 4) (eCons (eVar 5) eNil)))
  (sRet (eList (eLstD eNil)))) sNext)
  (sFor (iL (eVar 6)) (tg1 7) body7))
theorem given_le (m : DM) (n : Str) (p : Nat) : (givenM m n p).length ≤ m.wh.length := by
  unfold givenM
  have h := held_le m n
  have h2 : (sameM m n p).length ≤ (heldM m n).length := by
    unfold sameM
    exact List.length_filter_le _ _
  split
  · omega
  · split
    · simp
    · exact h
theorem mut2_at {m : DM} {first : Nat} {c : Came} (t : TreeOk m first c) (hf : first < m.wh.length) (hl : m.wh.length ≤ 1000) {p : Nat} {n : Str} (hp : p ∈ c.map (·.1)) (w : List Nat) (s6 s7 : Sl) :
    sMut2 kD 0 2 f2_change (eCons (eVar 4) (eCons (eVar 5) eNil)) (rhoF m first c w (.val (natD p)) (.val (.str n)) s6 s7) = .nx (rhoF { m with wh := chg m.wh (pathM c 1000 (p, n)) } first c w (.val (natD p)) (.val (.str n)) s6 s7) := by
  unfold sMut2
  have h0 : slO kD (rhoF m first c w (.val (natD p)) (.val (.str n)) s6 s7)[0]? = some (dealD m) := rfl
  have h2 : slO kA (rhoF m first c w (.val (natD p)) (.val (.str n)) s6 s7)[2]? = some (.dct (cameD c)) := rfl
  have hs : eCons (eVar 4) (eCons (eVar 5) eNil) (rhoF m first c w (.val (natD p)) (.val (.str n)) s6 s7) = some [natD p, .str n] := rfl
  have hc := change_ok t hf hl hp (n := n)
  have hi : kD.inj (dealD m) = .deal (dealD m) := rfl
  rw [h0, h2, hs]
  simp only [hi, hc]
  rfl
theorem along_loop {m : DM} (D : DealOk m) {first : Nat} (hf : first < m.wh.length) {p : Nat} (hp' : p < m.wh.length) : ∀ (ns : List Str) (c : Came) (w : List Nat) (s5 s6 s7 : Sl), (∀ n ∈ ns, n ∈ abM m p) → TreeOk m first c → fullL m c → p ∈ c.map (·.1) → w.length ≤ c.length →
    match alongC m p ns c w with
    | .more c' w' => ∃ s5' s6' s7', forF (tg1 5) body5 (ns.map .str) (rhoF m first c w (.val (natD p)) s5 s6 s7) = .nx (rhoF m first c' w' (.val (natD p)) s5' s6' s7')
    | .found c' p' n' => ∃ ρ, forF (tg1 5) body5 (ns.map .str) (rhoF m first c w (.val (natD p)) s5 s6 s7) = .rt (.list []) ρ ∧ ρ[0]? = some (.obj (.deal (dealD { m with wh := chg m.wh (pathM c' 1000 (p', n')) })))
  | [], c, w, s5, s6, s7, _, _, _, _, _ => ⟨s5, s6, s7, rfl⟩
  | n :: ns, c, w, s5, s6, s7, hn, t, f, hp, hw => by
    obtain ⟨L, hL⟩ := D.hL p n (hn n List.mem_cons_self)
    have hl := D.hl
    have gv := given_ok m n p (by omega) D.hd hp' hL
    have gl := given_le m n p
    have cl := tree_len t hf
    have on := okDs_nats (givenM m n p)
    have ge := gEq_nil ((givenM m n p).map natD) on.1 on.2
    rw [isEmpty_map] at ge
    have a6 : sSet 6 (eMeth kD noB.bk 0 fr_given_up (eCons (eVar 5) (eCons (eVar 4) eNil))) (rhoF m first c w (.val (natD p)) (.val (.str n)) s6 s7) = .nx (rhoF m first c w (.val (natD p)) (.val (.str n)) (.val (.list ((givenM m n p).map natD))) s7) := by
      rw [sSet_eq, eMeth_eq, dealOb _ (dealD m) _ 0 rfl, Option.bind_some]
      have : eCons (eVar 5) (eCons (eVar 4) eNil) (rhoF m first c w (.val (natD p)) (.val (.str n)) s6 s7) = some [.str n, natD p] := rfl
      rw [this, Option.bind_some, gv]
      rfl
    have tst : bF (eOp gEq (eVarB 6) (eList (eLstD eNil))) (rhoF m first c w (.val (natD p)) (.val (.str n)) (.val (.list ((givenM m n p).map natD))) s7) = some (givenM m n p).isEmpty := by
      have v6 : eVarB 6 (rhoF m first c w (.val (natD p)) (.val (.str n)) (.val (.list ((givenM m n p).map natD))) s7) = some (.list ((givenM m n p).map natD)) := rfl
      have ve : eList (eLstD eNil) (rhoF m first c w (.val (natD p)) (.val (.str n)) (.val (.list ((givenM m n p).map natD))) s7) = some (.list []) := by simp
      rw [bF_eq, eOp_eq, v6, ve, Option.bind_some, Option.bind_some, ge]
      rfl
    have unf : forF (tg1 5) body5 ((n :: ns).map .str) (rhoF m first c w (.val (natD p)) s5 s6 s7) = (body5 (rhoF m first c w (.val (natD p)) (.val (.str n)) s6 s7)).thn (forF (tg1 5) body5 (ns.map .str)) := by
      rw [List.map_cons, forF_cons1]
      rfl
    unfold alongC
    by_cases hg : givenM m n p = []
    · rw [if_pos hg]
      have he : (givenM m n p).isEmpty = true := by rw [hg]; rfl
      rw [he] at tst
      have hb : body5 (rhoF m first c w (.val (natD p)) (.val (.str n)) s6 s7) = .rt (.list []) ((rhoF { m with wh := chg m.wh (pathM c 1000 (p, n)) } first c w (.val (natD p)) (.val (.str n)) (.val (.list ((givenM m n p).map natD))) s7).map frz1) := by
        unfold body5
        rw [sSeq_eq, a6, thn_nx, sSeq_eq, sIf_eq, tst, outB_some, if_pos rfl, sSeq_eq, mut2_at t hf (by omega) hp, thn_nx, sRet_eq]
        have ve : eList (eLstD eNil) ((rhoF { m with wh := chg m.wh (pathM c 1000 (p, n)) } first c w (.val (natD p)) (.val (.str n)) (.val (.list ((givenM m n p).map natD))) s7).map frz1) = some (.list []) := by simp
        rw [ve, outV_some, thn_rt]
      refine ⟨(rhoF { m with wh := chg m.wh (pathM c 1000 (p, n)) } first c w (.val (natD p)) (.val (.str n)) (.val (.list ((givenM m n p).map natD))) s7).map frz1, ?_, rfl⟩
      rw [unf, hb, thn_rt]
    · rw [if_neg hg]
      have he : (givenM m n p).isEmpty = false := by
        cases h : givenM m n p with
        | nil => exact absurd h hg
        | cons a l => rfl
      rw [he] at tst
      obtain ⟨t', f'⟩ := take_ok (a := (c, w)) t f (hn n List.mem_cons_self) hp
      have tl := takeIn_len p n (givenM m n p) (c, w)
      have tsub := takeIn_sub p n (givenM m n p) (c, w) hp
      have cl' := tree_len t' hf
      obtain ⟨s7', e7⟩ := take_loop m first p n (.val (.list ((givenM m n p).map natD))) (givenM m n p) (c, w) s7 (by simp only; omega) (by simp only; omega)
      have i6 : iL (eVar 6) (rhoF m first c w (.val (natD p)) (.val (.str n)) (.val (.list ((givenM m n p).map natD))) s7) = some ((givenM m n p).map natD) := by
        rw [iL_eq]
        show lstD (.list ((givenM m n p).map natD)) = _
        exact lstD_list _ (by rw [List.length_map]; unfold LIM; omega)
      have hb : body5 (rhoF m first c w (.val (natD p)) (.val (.str n)) s6 s7) = .nx (rhoF m first (takeIn p n (givenM m n p) (c, w)).1 (takeIn p n (givenM m n p) (c, w)).2 (.val (natD p)) (.val (.str n)) (.val (.list ((givenM m n p).map natD))) s7') := by
        unfold body5
        rw [sSeq_eq, a6, thn_nx, sSeq_eq, sIf_eq, tst, outB_some, if_neg (by simp), sNext_eq, thn_nx, sFor_eq, i6, outL_some]
        exact e7
      have hwl : (takeIn p n (givenM m n p) (c, w)).2.length ≤ (takeIn p n (givenM m n p) (c, w)).1.length := by
        simp only at tl
        omega
      have ih := along_loop D hf hp' ns (takeIn p n (givenM m n p) (c, w)).1 (takeIn p n (givenM m n p) (c, w)).2 (.val (.str n)) (.val (.list ((givenM m n p).map natD))) s7' (fun x hx => hn x (List.mem_cons_of_mem _ hx)) t' f' tsub hwl
      rw [unf, hb, thn_nx]
      exact ih
theorem along_srch {m : DM} {first p : Nat} {c : Came} {w : List Nat} (s : SrchOk m first c (p :: w)) : match alongC m p (abM m p) c w with
    | .found c' p' n' => foundOk m first c' p' n'
    | .more c' w' => SrchOk m first c' w' ∧ c'.length + w.length = c.length + w'.length := by
  have hp := s.sub p List.mem_cons_self
  have ha := along_ok (abM m p) c w (fun _ h => h) s.t s.f hp fun x hx => s.sub x (List.mem_cons_of_mem _ hx)
  have hl := along_len (m := m) (p := p) (abM m p) c w
  generalize alongC m p (abM m p) c w = res at ha hl
  cases res with
  | found c' p' n' => exact ha
  | more c' w' =>
    obtain ⟨i1, i2, i3, i4, i5, i6, i7⟩ := ha
    refine ⟨⟨i1, i2, i3, fun x hx => ?_⟩, hl⟩
    rcases i6 x hx with h | h
    · rcases s.done x h with h2 | h2
      · rcases List.mem_cons.mp h2 with rfl | h2
        · exact .inr i7
        · exact .inl (i4 x h2)
      · exact .inr (h2.mono i5)
    · exact .inl h
noncomputable abbrev bodyW : SS := sSeq (sPop0 3 4) (sFor (iL (eOp gIx (eFld noB.bk 0 2) (eVarB 4))) (tg1 5) body5)
abbrev testW : STe := bF (eOp gNe (eVarB 3) (eList (eLstD eNil)))
theorem test_at (m : DM) (first : Nat) (c : Came) (w : List Nat) (s4 s5 s6 s7 : Sl) : testW (rhoF m first c w s4 s5 s6 s7) = some (!w.isEmpty) := by
  have on := okDs_nats w
  have ne := gNe_nil (w.map natD) on.1 on.2
  rw [isEmpty_map] at ne
  have v3 : eVarB 3 (rhoF m first c w s4 s5 s6 s7) = some (.list (w.map natD)) := rfl
  have ve : eList (eLstD eNil) (rhoF m first c w s4 s5 s6 s7) = some (.list []) := by simp
  unfold testW
  rw [bF_eq, eOp_eq, v3, ve, Option.bind_some, Option.bind_some, ne]
  rfl
theorem fill_loop {m : DM} (D : DealOk m) {first : Nat} (hf : first < m.wh.length) : ∀ (k : Nat) (c : Came) (w : List Nat) (s4 s5 s6 s7 : Sl), SrchOk m first c w → (m.wh.length - c.length) + w.length < k → w.length ≤ c.length →
    match searchM m k c w with
    | .more c' _ => ∃ s4' s5' s6' s7', whF testW bodyW k (rhoF m first c w s4 s5 s6 s7) = .nx (rhoF m first c' [] s4' s5' s6' s7')
    | .found c' p' n' => ∃ ρ, whF testW bodyW k (rhoF m first c w s4 s5 s6 s7) = .rt (.list []) ρ ∧ ρ[0]? = some (.obj (.deal (dealD { m with wh := chg m.wh (pathM c' 1000 (p', n')) })))
  | 0, c, w, _, _, _, _, _, h, _ => absurd h (Nat.not_lt_zero _)
  | k + 1, c, [], s4, s5, s6, s7, s, h, _ => ⟨s4, s5, s6, s7, whF_f (by rw [test_at]; rfl)⟩
  | k + 1, c, p :: w, s4, s5, s6, s7, s, h, hw => by
    have ht : testW (rhoF m first c (p :: w) s4 s5 s6 s7) = some true := by rw [test_at]; rfl
    rw [whF_t ht]
    have hp := s.sub p List.mem_cons_self
    have hp' : p < m.wh.length := tree_lt s.t hf p hp
    have cl := tree_len s.t hf
    have hl := D.hl
    have ap : abM m p = m.ab[p]'(by rw [D.ha]; exact hp') := by
      unfold abM
      rw [List.getElem?_eq_getElem (by rw [D.ha]; exact hp')]
      rfl
    have iw : iL (eOp gIx (eFld noB.bk 0 2) (eVarB 4)) (rhoF m first c w (.val (natD p)) s5 s6 s7) = some ((abM m p).map .str) := by
      have f2 : eFld noB.bk 0 2 (rhoF m first c w (.val (natD p)) s5 s6 s7) = some (.list (m.ab.map abD)) := by
        rw [eFld_eq, dealOb _ (dealD m) _ 0 rfl]
        rfl
      have v4 : eVarB 4 (rhoF m first c w (.val (natD p)) s5 s6 s7) = some (.int (p : Int)) := rfl
      rw [iL_eq, eOp_eq, f2, v4, Option.bind_some, Option.bind_some, gIx_list, at_nat, List.getElem?_map, List.getElem?_eq_getElem (by rw [D.ha]; exact hp'), ap]
      exact lstD_list _ (by
        rw [List.length_map]
        have := D.hn _ (List.getElem_mem (h := by rw [D.ha]; exact hp') : m.ab[p]'(by rw [D.ha]; exact hp') ∈ m.ab)
        unfold LIM
        omega)
    have pop : sPop0 3 4 (rhoF m first c (p :: w) s4 s5 s6 s7) = .nx (rhoF m first c w (.val (natD p)) s5 s6 s7) := rfl
    have hb : bodyW (rhoF m first c (p :: w) s4 s5 s6 s7) = forF (tg1 5) body5 ((abM m p).map .str) (rhoF m first c w (.val (natD p)) s5 s6 s7) := by
      unfold bodyW
      rw [sSeq_eq, pop, thn_nx, sFor_eq, iw, outL_some]
    rw [hb]
    simp only [List.length_cons] at h hw
    have al := along_loop D hf hp' (abM m p) c w s5 s6 s7 (fun _ h => h) s.t s.f hp (by omega)
    have as := along_srch s
    unfold searchM
    generalize alongC m p (abM m p) c w = res at al as
    cases res with
    | found c' p' n' =>
      obtain ⟨ρ, e, h0⟩ := al
      exact ⟨ρ, by rw [e]; rfl, h0⟩
    | more c' w' =>
      obtain ⟨s5', s6', s7', e⟩ := al
      obtain ⟨s', el⟩ := as
      have cl' := tree_len s'.t hf
      rw [e, thn_nx]
      exact fill_loop D hf k c' w' (.val (natD p)) s5' s6' s7' s' (by omega) (by omega)
theorem fill_ok {m : DM} (D : DealOk m) {first : Nat} (hf : first < m.wh.length) :
    match searchM m 2000 [(first, none)] [first] with
    | .more c _ => SrchOk m first c [] ∧ fm_fill (dealD m) [natD first] = .done (dealD m) (.list ((sortI (c.map fun x => (x.1 : Int))).map .int))
    | .found c p n => foundOk m first c p n ∧ fm_fill (dealD m) [natD first] = .done (dealD { m with wh := chg m.wh (pathM c 1000 (p, n)) }) (.list []) := by
  have hl := D.hl
  have s0 := search_0 m first
  have so := search_ok 2000 _ _ s0
  have se := search_end hf 2000 _ _ s0 (by simp; omega)
  have fl := fill_loop D hf 2000 _ _ .no .no .no .no s0 (by simp; omega) (by simp)
  have a2 : sMkDct1 2 (eVar 1) (eC .none) (.obj (kD.inj (dealD m)) :: rho0 (N_deal_fill.drop 1) [natD first]) = .nx [.obj (.deal (dealD m)), .val (natD first), .obj (.dct (cameD [(first, none)])), .no, .no, .no, .no, .no] := rfl
  have a3 : sSetL 3 (eLstD (eCons (eVar 1) eNil)) [.obj (.deal (dealD m)), .val (natD first), .obj (.dct (cameD [(first, none)])), .no, .no, .no, .no, .no] = .nx (rhoF m first [(first, none)] [first] .no .no .no .no) := by
    simp [rhoF, natD]
  have hb : b_deal_fill (.obj (kD.inj (dealD m)) :: rho0 (N_deal_fill.drop 1) [natD first]) = (whF testW bodyW 2000 (rhoF m first [(first, none)] [first] .no .no .no .no)).thn (sRet (eList (eSortD noB.bk 2))) := by
    unfold b_deal_fill
    rw [sSeq_eq, a2, thn_nx, sSeq_eq, a3, thn_nx, sSeq_eq]
    rfl
  generalize searchM m 2000 [(first, none)] [first] = res at so se fl
  cases res with
  | found c p n =>
    obtain ⟨ρ, e, h0⟩ := fl
    refine ⟨so, ?_⟩
    unfold fm_fill runMG runO
    rw [if_pos (show [natD first].length + 1 = 2 from rfl), hb, e, thn_rt]
    simp only [h0]
    rfl
  | more c w =>
    obtain ⟨s4, s5, s6, s7, e⟩ := fl
    have hw : w = [] := se
    subst hw
    have cl := tree_len so.t hf
    refine ⟨so, ?_⟩
    have er : sRet (eList (eSortD noB.bk 2)) (rhoF m first c [] s4 s5 s6 s7) = .rt (.list ((sortI (c.map fun x => (x.1 : Int))).map .int)) ((rhoF m first c [] s4 s5 s6 s7).map frz1) := by
      have v : eSortD noB.bk 2 ((rhoF m first c [] s4 s5 s6 s7).map frz1) = some ((sortI (c.map fun x => (x.1 : Int))).map .int) := by
        unfold eSortD
        rw [dctOb _ (cameD c) _ 2 rfl, Option.bind_some, if_pos (by unfold cameD LIM; rw [List.length_map]; omega)]
        have : (cameD c).map (·.1) = c.map fun x => (x.1 : Int) := by
          unfold cameD
          rw [List.map_map]
          rfl
        rw [this]
      rw [sRet_eq, eList_eq, v]
      rfl
    unfold fm_fill runMG runO
    rw [if_pos (show [natD first].length + 1 = 2 from rfl), hb, e, thn_nx, er]
    rfl
end RK
namespace RK
open PySem PySem.Spec PyProof.Rows L2 RT
/-! ### a deal made of a book -/
def dealL (ps : List Person) (Q : List Person) (L : List SN) : DealSt := ⟨Q.map fun p => (p.name, p.limit), [L.map fun x => postD (keyN x), L.map fun x => .int (dayS x.1), L.map fun x => abD (ableN ps x), L.map fun _ => .none]⟩
def rhoI (a : Addr) (δ : DealSt) (s2 s3 s4 s5 : Sl) : Rho := [.obj (.deal δ), .val (refD a), s2, s3, s4, s5]
theorem putN_new {l : List (Str × Int)} {n : Str} {v : Int} (h : ∀ x ∈ l, x.1 ≠ n) : putN l n v = l ++ [(n, v)] := by
  unfold putN
  have : (l.any fun x => decide (x.1 = n)) = false := by
    rw [List.any_eq_false]
    intro x hx
    simpa using h x hx
  rw [this]
  rfl
theorem sFApp_at {i j : Nat} {f : SE} {ρ : Rho} {δ : DealSt} {ds : List PyData} {d : PyData} (h1 : ρ[i]? = some (.obj (.deal δ))) (h2 : f ρ = some d) (h3 : δ.ls[j]? = some ds) (hd : dataD d = true) (hl : ds.length ≤ LIM) : sFApp i j f ρ = .nx (ρ.set i (.obj (.deal (setLs δ j (ds ++ [d]))))) := by
  unfold sFApp
  have : slO kD ρ[i]? = some δ := by rw [h1]; rfl
  rw [this, h2]
  simp only [h3]
  rw [if_pos ⟨hd, hl⟩]
theorem fapp_I {a : Addr} {j : Nat} {f : SE} {δ : DealSt} {ds : List PyData} {d : PyData} {s2 s3 s4 s5 : Sl} (h2 : f (rhoI a δ s2 s3 s4 s5) = some d) (h3 : δ.ls[j]? = some ds) (hd : dataD d = true) (hl : ds.length ≤ LIM) : sFApp 0 j f (rhoI a δ s2 s3 s4 s5) = .nx (rhoI a (setLs δ j (ds ++ [d])) s2 s3 s4 s5) := sFApp_at rfl h2 h3 hd hl
section
variable {ps : List Person} {ss : List Shift} (g : GM ps ss)
include g
theorem peopleI_at (a : Addr) (i : Nat) (ρ : Rho) (h : ρ[i]? = some (.val (refD a))) : iL (eMeth kB (only a (.book ⟨ps, ss⟩)) i fr_people eNil) ρ = some (ps.map fun p => .str p.name) := by
  rw [iL_eq, eMeth_eq, bookAt a _ _ i h, Option.bind_some, eNil_eq, Option.bind_some, people_at g]
  simp only [List.map_map, Res.ok, Function.comp_def, Option.bind_some]
  exact lstD_list _ (by rw [List.length_map]; have := g.pl; unfold LIM; omega)
theorem postsL_at (a : Addr) (i : Nat) (ρ : Rho) (h : ρ[i]? = some (.val (refD a))) : iL (eMeth kB (only a (.book ⟨ps, ss⟩)) i fr_posts eNil) ρ = some ((allN ss).map fun x => postD (keyN x)) := by
  rw [iL_eq, eMeth_eq, bookAt a _ ρ i h, Option.bind_some, eNil_eq, Option.bind_some, posts_at g]
  simp only [List.map_map, Res.ok, Function.comp_def, Option.bind_some]
  exact lstD_list _ (by rw [List.length_map]; exact allN_lim g)
theorem init_people (a : Addr) : ∀ (L Q : List Person) (s2 : Sl), Q ++ L = ps → ∃ s2', forF (tg1 2) (sLPut 0 (eVar 2) (eMeth kB (only a (.book ⟨ps, ss⟩)) 1 fr_limit_of (eCons (eVar 2) eNil))) (L.map fun p => .str p.name) (rhoI a (dealL ps Q []) s2 .no .no .no) = .nx (rhoI a (dealL ps ps []) s2' .no .no .no)
  | [], Q, s2, h => ⟨s2, by rw [List.append_nil] at h; rw [h]; rfl⟩
  | p :: L, Q, s2, h => by
    have hp : p ∈ ps := by rw [← h]; simp
    obtain ⟨s2', e⟩ := init_people a L (Q ++ [p]) (.val (.str p.name)) (by rw [← h]; simp)
    refine ⟨s2', ?_⟩
    rw [List.map_cons, forF_cons1]
    have lm := limit_at g hp
    have v : eMeth kB (only a (.book ⟨ps, ss⟩)) 1 fr_limit_of (eCons (eVar 2) eNil) (rhoI a (dealL ps Q []) (.val (.str p.name)) .no .no .no) = some (.int p.limit) := by
      rw [eMeth_eq, bookAt a _ _ 1 rfl, Option.bind_some]
      have : eCons (eVar 2) eNil (rhoI a (dealL ps Q []) (.val (.str p.name)) .no .no .no) = some [.str p.name] := rfl
      rw [this, Option.bind_some, lm]
      rfl
    have st : sLPut 0 (eVar 2) (eMeth kB (only a (.book ⟨ps, ss⟩)) 1 fr_limit_of (eCons (eVar 2) eNil)) (rhoI a (dealL ps Q []) (.val (.str p.name)) .no .no .no) = .nx (rhoI a (dealL ps (Q ++ [p]) []) (.val (.str p.name)) .no .no .no) := by
      unfold sLPut
      have h0 : slO kD (rhoI a (dealL ps Q []) (.val (.str p.name)) .no .no .no)[0]? = some (dealL ps Q []) := rfl
      have h2 : eVar 2 (rhoI a (dealL ps Q []) (.val (.str p.name)) .no .no .no) = some (.str p.name) := rfl
      rw [h0, h2, v]
      have hl : (dealL ps Q []).limits.length ≤ LIM := by
        show (Q.map fun p => (p.name, p.limit)).length ≤ LIM
        rw [List.length_map]
        have := g.pl
        rw [← h] at this
        simp at this
        unfold LIM
        omega
      simp only
      rw [if_pos hl]
      have hn : putN (dealL ps Q []).limits p.name p.limit = (Q ++ [p]).map fun p => (p.name, p.limit) := by
        rw [putN_new]
        · simp [dealL]
        · intro x hx
          obtain ⟨q, hq, rfl⟩ := List.mem_map.mp (show x ∈ Q.map fun p => (p.name, p.limit) from hx)
          have nd := g.pn
          rw [← h] at nd
          exact nodup_ne nd q hq
      rw [hn]
      rfl
    show ((sLPut 0 _ _ (rhoI a (dealL ps Q []) (.val (.str p.name)) .no .no .no)).thn _) = _
    rw [st, thn_nx, e]
abbrev body5i (a : Addr) (ps : List Person) (ss : List Shift) : SS := sSeq (sFApp 0 0 (eVar 3))
  (sSeq (sFApp 0 1 (eCall F_day_of (eCons (eMeth kB (only a (.book ⟨ps, ss⟩)) 1 fr_stretch_of (eCons (eOp gIx (eVarB 3) (eC (.int 0))) eNil)) eNil)))
  (sSeq (sFApp 0 2 (eVar 4))
  (sFApp 0 3 (eC .none))))
theorem init_place (a : Addr) {x : SN} (hx : x ∈ allN ss) (L : List SN) (hL : L.length ≤ 100000) (s2 s5 : Sl) : body5i a ps ss (rhoI a (dealL ps ps L) s2 (.val (postD (keyN x))) (.val (abD (ableN ps x))) s5) = .nx (rhoI a (dealL ps ps (L ++ [x])) s2 (.val (postD (keyN x))) (.val (abD (ableN ps x))) s5) := by
  have ll : ∀ {f : SN → PyData}, (L.map f).length ≤ LIM := fun {f} => by
    rw [List.length_map]
    unfold LIM
    omega
  have fs := stretch_at g hx
  have fd := day_of_at x.1
  have v : ∀ δ, eCall F_day_of (eCons (eMeth kB (only a (.book ⟨ps, ss⟩)) 1 fr_stretch_of (eCons (eOp gIx (eVarB 3) (eC (.int 0))) eNil)) eNil) (rhoI a δ s2 (.val (postD (keyN x))) (.val (abD (ableN ps x))) s5) = some (.int (dayS x.1)) := fun δ => by
    rw [eCall_eq, eCons_eq, eMeth_eq, bookAt a _ _ 1 rfl, Option.bind_some]
    simp [rhoI, postD, keyN, fs, fd, Res.ok]
  unfold body5i
  rw [sSeq_eq, fapp_I (δ := dealL ps ps L) (d := postD (keyN x)) (ds := L.map fun x : SN => postD (keyN x)) rfl rfl rfl ll, thn_nx, sSeq_eq]
  rw [fapp_I (δ := setLs (dealL ps ps L) 0 ((L.map fun x : SN => postD (keyN x)) ++ [postD (keyN x)])) (d := PyData.int (dayS x.1)) (ds := L.map fun x : SN => PyData.int (dayS x.1)) (v _) rfl rfl ll, thn_nx, sSeq_eq]
  rw [fapp_I (δ := setLs (setLs (dealL ps ps L) 0 ((L.map fun x : SN => postD (keyN x)) ++ [postD (keyN x)])) 1 ((L.map fun x : SN => PyData.int (dayS x.1)) ++ [PyData.int (dayS x.1)])) (d := abD (ableN ps x)) (ds := L.map fun x : SN => abD (ableN ps x)) rfl rfl rfl ll, thn_nx]
  rw [fapp_I (δ := setLs (setLs (setLs (dealL ps ps L) 0 ((L.map fun x : SN => postD (keyN x)) ++ [postD (keyN x)])) 1 ((L.map fun x : SN => PyData.int (dayS x.1)) ++ [PyData.int (dayS x.1)])) 2 ((L.map fun x : SN => abD (ableN ps x)) ++ [abD (ableN ps x)])) (d := PyData.none) (ds := L.map fun _ => PyData.none) rfl rfl rfl ll]
  have : setLs (setLs (setLs (setLs (dealL ps ps L) 0 ((L.map fun x : SN => postD (keyN x)) ++ [postD (keyN x)])) 1 ((L.map fun x : SN => PyData.int (dayS x.1)) ++ [PyData.int (dayS x.1)])) 2 ((L.map fun x : SN => abD (ableN ps x)) ++ [abD (ableN ps x)])) 3 ((L.map fun _ => PyData.none) ++ [PyData.none]) = dealL ps ps (L ++ [x]) := by
    simp [dealL, setLs]
  rw [this]
theorem init_places (a : Addr) {x : SN} (hx : x ∈ allN ss) (s2 : Sl) : ∀ (ds : List PyData) (L : List SN) (s5 : Sl), L.length + ds.length ≤ 100000 → ∃ s5', forF (tg1 5) (body5i a ps ss) ds (rhoI a (dealL ps ps L) s2 (.val (postD (keyN x))) (.val (abD (ableN ps x))) s5) = .nx (rhoI a (dealL ps ps (L ++ List.replicate ds.length x)) s2 (.val (postD (keyN x))) (.val (abD (ableN ps x))) s5')
  | [], L, s5, _ => ⟨s5, by simp [forF_nil]⟩
  | d :: ds, L, s5, h => by
    simp only [List.length_cons] at h
    obtain ⟨s5', e⟩ := init_places a hx s2 ds (L ++ [x]) (.val d) (by simp; omega)
    refine ⟨s5', ?_⟩
    rw [forF_cons1]
    show ((body5i a ps ss (rhoI a (dealL ps ps L) s2 (.val (postD (keyN x))) (.val (abD (ableN ps x))) (.val d))).thn _) = _
    rw [init_place g a hx L (by omega), thn_nx, e, List.length_cons, List.replicate_succ]
    simp
abbrev body3i (a : Addr) (ps : List Person) (ss : List Shift) : SS := sSeq (sSet 4 (eList (lLc (iL (eMeth kB (only a (.book ⟨ps, ss⟩)) 1 fr_people eNil)) 2 (bF (eMeth kB (only a (.book ⟨ps, ss⟩)) 1 fr_may (eCons (eVar 2) (eCons (eOp gIx (eVarB 3) (eC (.int 0))) (eCons (eOp gIx (eVarB 3) (eC (.int 1))) eNil))))) (eVar 2))))
  (sFor (iR1 (eCons (eMeth kB (only a (.book ⟨ps, ss⟩)) 1 fr_count_of (eCons (eOp gIx (eVarB 3) (eC (.int 0))) (eCons (eOp gIx (eVarB 3) (eC (.int 1))) eNil))) eNil)) (tg1 5) (body5i a ps ss))
theorem init_post (a : Addr) {x : SN} (hx : x ∈ allN ss) (L : List SN) (hL : L.length ≤ 10000) (s2 s4 s5 : Sl) : ∃ s4' s5', body3i a ps ss (rhoI a (dealL ps ps L) s2 (.val (postD (keyN x))) s4 s5) = .nx (rhoI a (dealL ps ps (L ++ List.replicate x.2.2.toNat x)) s2 (.val (postD (keyN x))) s4' s5') := by
  have cn := cnt_at g hx
  have lc : lcF 2 (bF (eMeth kB (only a (.book ⟨ps, ss⟩)) 1 fr_may (eCons (eVar 2) (eCons (eOp gIx (eVarB 3) (eC (.int 0))) (eCons (eOp gIx (eVarB 3) (eC (.int 1))) eNil))))) (eVar 2) (rhoI a (dealL ps ps L) s2 (.val (postD (keyN x))) s4 s5) (ps.map fun p => .str p.name) = some ((ableN ps x).map .str) := by
    rw [lcF_mapped (fun p => .str p.name) (fun p => mayB p x.1 x.2.1) (fun p => .str p.name)]
    · unfold ableN
      rw [List.map_map]
      rfl
    · intro p hp
      have m := may_at g hp hx
      show bF _ (rhoI a (dealL ps ps L) (.val (.str p.name)) (.val (postD (keyN x))) s4 s5) = _
      rw [bF_eq, eMeth_eq, bookAt a _ _ 1 rfl, Option.bind_some]
      simp [rhoI, postD, keyN, m, Res.ok]
    · intro p _ _
      exact ⟨rfl, rfl⟩
  have a4 : sSet 4 (eList (lLc (iL (eMeth kB (only a (.book ⟨ps, ss⟩)) 1 fr_people eNil)) 2 (bF (eMeth kB (only a (.book ⟨ps, ss⟩)) 1 fr_may (eCons (eVar 2) (eCons (eOp gIx (eVarB 3) (eC (.int 0))) (eCons (eOp gIx (eVarB 3) (eC (.int 1))) eNil))))) (eVar 2))) (rhoI a (dealL ps ps L) s2 (.val (postD (keyN x))) s4 s5) = .nx (rhoI a (dealL ps ps L) s2 (.val (postD (keyN x))) (.val (abD (ableN ps x))) s5) := by
    have hl : (ps.map fun p => PyData.str p.name).length ≤ LIM := by
      rw [List.length_map]
      have := g.pl
      unfold LIM
      omega
    rw [sSet_eq, eList_eq, lLc_eq, peopleI_at g a 1 _ rfl, Option.bind_some, if_pos hl, lc]
    rfl
  have i5 : iR1 (eCons (eMeth kB (only a (.book ⟨ps, ss⟩)) 1 fr_count_of (eCons (eOp gIx (eVarB 3) (eC (.int 0))) (eCons (eOp gIx (eVarB 3) (eC (.int 1))) eNil))) eNil) (rhoI a (dealL ps ps L) s2 (.val (postD (keyN x))) (.val (abD (ableN ps x))) s5) = some (rangeD 0 x.2.2.toNat) := by
    have c := count_at g hx
    have v : eMeth kB (only a (.book ⟨ps, ss⟩)) 1 fr_count_of (eCons (eOp gIx (eVarB 3) (eC (.int 0))) (eCons (eOp gIx (eVarB 3) (eC (.int 1))) eNil)) (rhoI a (dealL ps ps L) s2 (.val (postD (keyN x))) (.val (abD (ableN ps x))) s5) = some (.int x.2.2) := by
      rw [eMeth_eq, bookAt a _ _ 1 rfl, Option.bind_some]
      simp [rhoI, postD, keyN, c, Res.ok]
    rw [iR1_eq, eCons_eq, v]
    show (if x.2.2 ≤ 1000000 ∧ -1000000 ≤ x.2.2 then some (rangeD 0 x.2.2.toNat) else none) = _
    rw [if_pos (by omega)]
  obtain ⟨s5', e⟩ := init_places g a hx s2 (rangeD 0 x.2.2.toNat) L s5 (by rw [rangeD_len]; omega)
  refine ⟨.val (abD (ableN ps x)), s5', ?_⟩
  unfold body3i
  rw [sSeq_eq, a4, thn_nx, sFor_eq, i5, outL_some, e, rangeD_len]
theorem init_posts (a : Addr) : ∀ (M : List SN) (L : List SN) (s3 s4 s5 s2 : Sl), (∀ x ∈ M, x ∈ allN ss) → L.length + 9 * M.length ≤ 10000 → ∃ s3' s4' s5', forF (tg1 3) (body3i a ps ss) (M.map fun x => postD (keyN x)) (rhoI a (dealL ps ps L) s2 s3 s4 s5) = .nx (rhoI a (dealL ps ps (L ++ M.flatMap fun x => List.replicate x.2.2.toNat x)) s2 s3' s4' s5')
  | [], L, s3, s4, s5, s2, _, _ => ⟨s3, s4, s5, by simp [forF_nil]⟩
  | x :: M, L, s3, s4, s5, s2, hM, h => by
    have hx := hM x List.mem_cons_self
    have cn := cnt_at g hx
    simp only [List.length_cons] at h
    obtain ⟨u4, u5, e1⟩ := init_post g a hx L (by omega) s2 s4 s5
    obtain ⟨s3', s4', s5', e⟩ := init_posts a M (L ++ List.replicate x.2.2.toNat x) (.val (postD (keyN x))) u4 u5 s2 (fun y hy => hM y (List.mem_cons_of_mem _ hy)) (by rw [List.length_append, List.length_replicate]; omega)
    refine ⟨s3', s4', s5', ?_⟩
    rw [List.map_cons, forF_cons1]
    show ((body3i a ps ss (rhoI a (dealL ps ps L) s2 (.val (postD (keyN x))) s4 s5)).thn _) = _
    rw [e1, thn_nx, e, List.flatMap_cons, List.append_assoc]
theorem deal_ok : f2_deal (.book ⟨ps, ss⟩) (.raw "Deal") [] = .done (.deal (dealD (mW ps ss (List.replicate (plN ss).length none)))) .none := by
  refine moOf_eq fun a => ?_
  have al := allN_len g.gs g.sl
  obtain ⟨s2, e1⟩ := init_people g a ps [] .no rfl
  obtain ⟨s3, s4, s5, e2⟩ := init_posts g a (allN ss) [] .no .no .no s2 (fun _ h => h) (by simp; omega)
  have eq : dealL ps ps ([] ++ (allN ss).flatMap fun x => List.replicate x.2.2.toNat x) = dealD (mW ps ss (List.replicate (plN ss).length none)) := by
    rw [List.nil_append]
    show dealL ps ps (plN ss) = _
    unfold dealL dealD mW
    simp only [List.map_map, List.map_replicate]
    have : (plN ss).map (fun _ => PyData.none) = List.replicate (plN ss).length (whD none) := List.map_const' ..
    rw [this]
    rfl
  rw [eq] at e2
  unfold runO
  rw [if_pos (show [refD a].length + 1 = 2 from rfl)]
  have hb : b_deal_init (only a (.book ⟨ps, ss⟩)) (.obj (.raw "Deal") :: rho0 (N_deal_init.drop 1) (refD a :: [])) = .nx (rhoI a (dealD (mW ps ss (List.replicate (plN ss).length none))) s2 s3 s4 s5) := by
    have hr : (Sl.obj (.raw "Deal") :: rho0 (N_deal_init.drop 1) (refD a :: [])) = [.obj (.raw "Deal"), .val (refD a), .no, .no, .no, .no] := by
      simp [rho0, N_deal_init]
    have a0 : sDInitL 0 [.obj (.raw "Deal"), .val (refD a), .no, .no, .no, .no] = .nx [.obj (.deal ⟨[], []⟩), .val (refD a), .no, .no, .no, .no] := rfl
    have a1 : sDInitF 0 0 [.obj (.deal ⟨[], []⟩), .val (refD a), .no, .no, .no, .no] = .nx [.obj (.deal ⟨[], [[]]⟩), .val (refD a), .no, .no, .no, .no] := rfl
    have a2 : sDInitF 0 1 [.obj (.deal ⟨[], [[]]⟩), .val (refD a), .no, .no, .no, .no] = .nx [.obj (.deal ⟨[], [[], []]⟩), .val (refD a), .no, .no, .no, .no] := rfl
    have a3 : sDInitF 0 2 [.obj (.deal ⟨[], [[], []]⟩), .val (refD a), .no, .no, .no, .no] = .nx [.obj (.deal ⟨[], [[], [], []]⟩), .val (refD a), .no, .no, .no, .no] := rfl
    have a4 : sDInitF 0 3 [.obj (.deal ⟨[], [[], [], []]⟩), .val (refD a), .no, .no, .no, .no] = .nx (rhoI a (dealL ps [] []) .no .no .no .no) := rfl
    unfold b_deal_init
    rw [hr, sSeq_eq, a0, thn_nx, sSeq_eq, a1, thn_nx, sSeq_eq, a2, thn_nx, sSeq_eq, a3, thn_nx, sSeq_eq, a4, thn_nx, sSeq_eq, sFor_eq, peopleI_at g a 1 _ rfl, outL_some, e1, thn_nx, sFor_eq, postsL_at g a 1 _ rfl, outL_some]
    exact e2
  rw [hb]
  rfl
end
end RK
namespace RK
open PySem PySem.Spec PyProof.Rows L2 RT
/-! ### dealt -/
def rhoD (a : Addr) (m : DM) (s2 s3 s4 s5 s6 s7 : Sl) : Rho := [.val (refD a), .obj (.deal (dealD m)), s2, s3, s4, s5, s6, s7]
def keyAt (ss : List Shift) (i : Int) : Str × Str := (((plN ss)[i.toNat]?).map keyN).getD ("", "")
def rowR (x : SN × Option Str) : PyData := .tuple [.str x.1.1.name, .str x.1.2.1, whD x.2]
/-- what dealt tells -/
inductive Dealt (ps : List Person) (ss : List Shift) : PyData → Prop
  | rota (wh : List (Option Str)) : wh.length = (plN ss).length → ValidM (mW ps ss wh) wh.length → Dealt ps ss (.tuple [.str "rota", .list (((plN ss).zip wh).map rowR)])
  | short (S : List (Str × Str)) : (((allN ss).map keyN).filter fun k => decide (k ∈ S)) ≠ [] → roomP ps ss (((allN ss).map keyN).filter fun k => decide (k ∈ S)) < wantP ss (((allN ss).map keyN).filter fun k => decide (k ∈ S)) →
      Dealt ps ss (.tuple [.str "short", .list ((((allN ss).map keyN).filter fun k => decide (k ∈ S)).map postD)])
noncomputable abbrev bodyD (a : Addr) (ps : List Person) (ss : List Shift) : SS := sSeq (sMutS kD 1 3 fm_fill (eCons (eVar 2) eNil))
  (sIf (bF (eOp gNe (eVarB 3) (eList (eLstD eNil)))) (sSeq (sSet 4 (eList (lLc (iL (eVarB 3)) 5 tYesF (eOp gIx (eFld (only a (.book ⟨ps, ss⟩)) 1 0) (eVarB 5)))))
  (sRet (eTupD (eCons (eC (.str "short")) (eCons (eList (lLc (iL (eMeth kB (only a (.book ⟨ps, ss⟩)) 0 fr_posts eNil)) 6 (bF (eOp gIn (eVarB 6) (eVarB 4))) (eVar 6))) eNil))))) sNext)
theorem mutS_at {a : Addr} {m : DM} {k : Nat} {δ : DealSt} {d : PyData} (h : fm_fill (dealD m) [natD k] = .done δ d) (s3 s4 s5 s6 s7 : Sl) : sMutS kD 1 3 fm_fill (eCons (eVar 2) eNil) (rhoD a m (.val (natD k)) s3 s4 s5 s6 s7) = .nx [.val (refD a), .obj (.deal δ), .val (natD k), .val d, s4, s5, s6, s7] := by
  unfold sMutS
  have h1 : slO kD (rhoD a m (.val (natD k)) s3 s4 s5 s6 s7)[1]? = some (dealD m) := rfl
  have h2 : eCons (eVar 2) eNil (rhoD a m (.val (natD k)) s3 s4 s5 s6 s7) = some [natD k] := rfl
  rw [h1, h2]
  simp only [h]
  rfl
theorem okDs_ints (l : List Int) : okDs (l.map .int) = true ∧ (PyData.list (l.map .int)).depth ≤ 64 := by
  refine ⟨?_, ?_⟩
  · rw [okDs_all, List.all_map, List.all_eq_true]
    intro r _
    simp [okD]
  · have : PyData.depthAll (l.map .int) ≤ 1 := depthAll_le fun d hd => by
      obtain ⟨r, _, rfl⟩ := List.mem_map.mp hd
      simp [PyData.depth]
    simp only [PyData.depth]
    omega
section
variable {ps : List Person} {ss : List Shift} (g : GM ps ss)
include g
theorem dealOk (wh : List (Option Str)) (hl : wh.length = (plN ss).length) : DealOk (mW ps ss wh) where
  hl := by
    show wh.length ≤ 756
    rw [hl]
    exact plN_len g
  hd := by
    show ((plN ss).map fun x => dayS x.1).length = wh.length
    rw [List.length_map, hl]
  ha := by
    show ((plN ss).map (ableN ps)).length = wh.length
    rw [List.length_map, hl]
  hL := fun i n h => by
    obtain ⟨x, _, p, hp, _, rfl⟩ := abM_mem h
    exact ⟨p.limit, look_at g hp⟩
  hn := fun l h => by
    obtain ⟨x, _, rfl⟩ := List.mem_map.mp (show l ∈ (plN ss).map (ableN ps) from h)
    unfold ableN
    rw [List.length_map]
    have h1 := List.length_filter_le (fun p => mayB p x.1 x.2.1) ps
    have := g.pl
    omega
theorem chg_mW (wh : List (Option Str)) (π : List (Nat × Str)) : ({ mW ps ss wh with wh := chg (mW ps ss wh).wh π } : DM) = mW ps ss (chg wh π) := rfl
/-- one place's turn -/
theorem dealt_step {wh : List (Option Str)} (hl : wh.length = (plN ss).length) {k : Nat} (hk : k < wh.length) (v : ValidM (mW ps ss wh) k) :
    (∃ wh', wh'.length = (plN ss).length ∧ ValidM (mW ps ss wh') (k + 1) ∧ ∀ a s3 s4 s5 s6 s7, ∃ s3', bodyD a ps ss (rhoD a (mW ps ss wh) (.val (natD k)) s3 s4 s5 s6 s7) = .nx (rhoD a (mW ps ss wh') (.val (natD k)) s3' s4 s5 s6 s7)) ∨
    ∃ d, Dealt ps ss d ∧ ∀ a s3 s4 s5 s6 s7, ∃ ρ, bodyD a ps ss (rhoD a (mW ps ss wh) (.val (natD k)) s3 s4 s5 s6 s7) = .rt d ρ := by
  have D := dealOk g wh hl
  have f := fill_ok D (first := k) hk
  have al := allN_len g.gs g.sl
  have pl := plN_len g
  generalize searchM (mW ps ss wh) 2000 [(k, none)] [k] = res at f
  cases res with
  | found c p n =>
    obtain ⟨fo, fe⟩ := f
    left
    have hpos : posM c p ≤ 1000 := by
      have h1 : posM c p ≤ c.length := List.findIdx_le_length
      have h2 := tree_len fo.1 hk
      have h3 : (mW ps ss wh).wh.length = (plN ss).length := hl
      omega
    have v' := fill_valid v hk fo hpos
    rw [chg_mW g] at v'
    rw [chg_mW g] at fe
    refine ⟨chg wh (pathM c 1000 (p, n)), by rw [chg_length, hl], v', fun a s3 s4 s5 s6 s7 => ⟨.val (.list []), ?_⟩⟩
    unfold bodyD
    rw [sSeq_eq, mutS_at fe, thn_nx, sIf_eq]
    have t : bF (eOp gNe (eVarB 3) (eList (eLstD eNil))) [.val (refD a), .obj (.deal (dealD (mW ps ss (chg wh (pathM c 1000 (p, n)))))), .val (natD k), .val (.list []), s4, s5, s6, s7] = some false := by
      have ne := gNe_nil [] rfl (by decide)
      have v3 : eVarB 3 ([.val (refD a), .obj (.deal (dealD (mW ps ss (chg wh (pathM c 1000 (p, n)))))), .val (natD k), .val (.list []), s4, s5, s6, s7] : Rho) = some (.list []) := rfl
      have ve : eList (eLstD eNil) ([.val (refD a), .obj (.deal (dealD (mW ps ss (chg wh (pathM c 1000 (p, n)))))), .val (natD k), .val (.list []), s4, s5, s6, s7] : Rho) = some (.list []) := by simp
      rw [bF_eq, eOp_eq, v3, ve, Option.bind_some, Option.bind_some, ne]
      rfl
    rw [t, outB_some]
    rfl
  | more c w =>
    obtain ⟨so, fe⟩ := f
    right
    have cl := tree_len so.t hk
    have hwl : (mW ps ss wh).wh.length = (plN ss).length := hl
    generalize hR : sortI (c.map fun x => (x.1 : Int)) = R at fe
    have hRl : R.length = c.length := by rw [← hR, sortI_len, List.length_map]
    have hRm : ∀ i, i ∈ R ↔ ∃ r : Nat, r ∈ c.map (·.1) ∧ i = (r : Int) := fun i => by
      rw [← hR, sortI_mem, List.mem_map]
      constructor
      · rintro ⟨x, hx, rfl⟩
        exact ⟨x.1, List.mem_map_of_mem hx, rfl⟩
      · rintro ⟨r, hr, rfl⟩
        obtain ⟨x, hx, rfl⟩ := List.mem_map.mp hr
        exact ⟨x, hx, rfl⟩
    have hkey : ∀ i ∈ R, ∃ x, (plN ss)[i.toNat]? = some x ∧ keyAt ss i = keyN x ∧ 0 ≤ i := fun i hi => by
      obtain ⟨r, hr, rfl⟩ := (hRm i).mp hi
      have hlt : r < (plN ss).length := by rw [← hwl]; exact tree_lt so.t hk r hr
      refine ⟨(plN ss)[r], ?_, ?_, by omega⟩
      · rw [Int.toNat_natCast, List.getElem?_eq_getElem hlt]
      · unfold keyAt
        rw [Int.toNat_natCast, List.getElem?_eq_getElem hlt]
        rfl
    have hTm : ∀ key, key ∈ (((allN ss).map keyN).filter fun k => decide (k ∈ R.map (keyAt ss))) ↔ ∃ r ∈ c.map (·.1), ∃ x, (plN ss)[r]? = some x ∧ keyN x = key := fun key => by
      rw [List.mem_filter, decide_eq_true_eq, List.mem_map, List.mem_map]
      constructor
      · rintro ⟨_, i, hi, rfl⟩
        obtain ⟨x, hx, e, _⟩ := hkey i hi
        obtain ⟨r, hr, rfl⟩ := (hRm i).mp hi
        rw [Int.toNat_natCast] at hx
        exact ⟨r, hr, x, hx, e.symm⟩
      · rintro ⟨r, hr, x, hx, rfl⟩
        refine ⟨⟨x, plN_mem (List.mem_of_getElem? hx), rfl⟩, (r : Int), (hRm _).mpr ⟨r, hr, rfl⟩, ?_⟩
        obtain ⟨y, hy, e, _⟩ := hkey (r : Int) ((hRm _).mpr ⟨r, hr, rfl⟩)
        rw [Int.toNat_natCast, hx] at hy
        cases hy
        exact e
    have sh := short_ok g hl hk v so hTm
    have hne : (((allN ss).map keyN).filter fun k => decide (k ∈ R.map (keyAt ss))) ≠ [] := fun e => by
      have hd : k ∈ c.map (·.1) := by
        have := so.t.hd
        cases c with
        | nil => cases this
        | cons x c => simp at this; subst this; exact List.mem_cons_self
      have hlt : k < (plN ss).length := by rw [← hl]; exact hk
      have := (hTm (keyN (plN ss)[k])).mpr ⟨k, hd, _, List.getElem?_eq_getElem hlt, rfl⟩
      rw [e] at this
      cases this
    refine ⟨_, .short (R.map (keyAt ss)) hne sh, fun a s3 s4 s5 s6 s7 => ⟨[.val (refD a), .obj (.deal (dealD (mW ps ss wh))), .val (natD k), .val (.list (R.map .int)), .val (.list ((R.map (keyAt ss)).map postD)), s5, s6, s7].map frz1, ?_⟩⟩
    unfold bodyD
    rw [sSeq_eq, mutS_at fe, thn_nx, sIf_eq]
    have RL : R.length ≤ LIM := by unfold LIM; omega
    have t : bF (eOp gNe (eVarB 3) (eList (eLstD eNil))) [.val (refD a), .obj (.deal (dealD (mW ps ss wh))), .val (natD k), .val (.list (R.map .int)), s4, s5, s6, s7] = some true := by
      have on := okDs_ints R
      have ne := gNe_nil (R.map .int) on.1 on.2
      rw [isEmpty_map] at ne
      have re : R.isEmpty = false := by
        cases R with
        | nil =>
          have := so.t.hd
          cases c with
          | nil => cases this
          | cons x c => simp at hRl
        | cons x l => rfl
      rw [re] at ne
      have v3 : eVarB 3 ([.val (refD a), .obj (.deal (dealD (mW ps ss wh))), .val (natD k), .val (.list (R.map .int)), s4, s5, s6, s7] : Rho) = some (.list (R.map .int)) := rfl
      have ve : eList (eLstD eNil) ([.val (refD a), .obj (.deal (dealD (mW ps ss wh))), .val (natD k), .val (.list (R.map .int)), s4, s5, s6, s7] : Rho) = some (.list []) := by simp
      rw [bF_eq, eOp_eq, v3, ve, Option.bind_some, Option.bind_some, ne]
      rfl
    rw [t, outB_some, if_pos rfl]
    have lc : lcF 5 tYesF (eOp gIx (eFld (only a (.book ⟨ps, ss⟩)) 1 0) (eVarB 5)) [.val (refD a), .obj (.deal (dealD (mW ps ss wh))), .val (natD k), .val (.list (R.map .int)), s4, s5, s6, s7] (R.map .int) = some ((R.map (keyAt ss)).map postD) := by
      rw [lcF_mappedT .int (fun i => postD (keyAt ss i)), List.map_map]
      · rfl
      · intro i hi
        refine ⟨?_, rfl⟩
        obtain ⟨x, hx, e, h0⟩ := hkey i hi
        show eOp gIx (eFld (only a (.book ⟨ps, ss⟩)) 1 0) (eVarB 5) [.val (refD a), .obj (.deal (dealD (mW ps ss wh))), .val (natD k), .val (.list (R.map .int)), s4, .val (.int i), s6, s7] = _
        have f0 : eFld (only a (.book ⟨ps, ss⟩)) 1 0 [.val (refD a), .obj (.deal (dealD (mW ps ss wh))), .val (natD k), .val (.list (R.map .int)), s4, .val (.int i), s6, s7] = some (.list (((plN ss).map keyN).map postD)) := by
          rw [eFld_eq, dealOb _ (dealD (mW ps ss wh)) _ 1 rfl]
          rfl
        have v5 : eVarB 5 ([.val (refD a), .obj (.deal (dealD (mW ps ss wh))), .val (natD k), .val (.list (R.map .int)), s4, .val (.int i), s6, s7] : Rho) = some (.int i) := rfl
        rw [eOp_eq, f0, v5, Option.bind_some, Option.bind_some, gIx_list, atI_pos _ _ h0, List.getElem?_map, List.getElem?_map, hx, e]
        rfl
    have i3 : iL (eVarB 3) [.val (refD a), .obj (.deal (dealD (mW ps ss wh))), .val (natD k), .val (.list (R.map .int)), s4, s5, s6, s7] = some (R.map .int) := by
      rw [iL_eq]
      exact lstD_list _ (by rw [List.length_map]; exact RL)
    have a4 : sSet 4 (eList (lLc (iL (eVarB 3)) 5 tYesF (eOp gIx (eFld (only a (.book ⟨ps, ss⟩)) 1 0) (eVarB 5)))) [.val (refD a), .obj (.deal (dealD (mW ps ss wh))), .val (natD k), .val (.list (R.map .int)), s4, s5, s6, s7] = .nx [.val (refD a), .obj (.deal (dealD (mW ps ss wh))), .val (natD k), .val (.list (R.map .int)), .val (.list ((R.map (keyAt ss)).map postD)), s5, s6, s7] := by
      rw [sSet_eq, eList_eq, lLc_eq, i3, Option.bind_some, if_pos (by rw [List.length_map]; exact RL), lc]
      rfl
    rw [sSeq_eq, a4, thn_nx, sRet_eq]
    have okS : ∀ q ∈ R.map (keyAt ss), okP q := fun q hq => by
      obtain ⟨i, hi, rfl⟩ := List.mem_map.mp hq
      obtain ⟨x, hx, e, _⟩ := hkey i hi
      rw [e]
      exact okP_at g (plN_mem (List.mem_of_getElem? hx))
    have fz : ([.val (refD a), .obj (.deal (dealD (mW ps ss wh))), .val (natD k), .val (.list (R.map .int)), .val (.list ((R.map (keyAt ss)).map postD)), s5, s6, s7] : Rho).map frz1 = [.val (refD a), .obj (.deal (dealD (mW ps ss wh))), .val (natD k), .val (.list (R.map .int)), .val (.list ((R.map (keyAt ss)).map postD)), frz1 s5, frz1 s6, frz1 s7] := rfl
    have lc2 : lcF 6 (bF (eOp gIn (eVarB 6) (eVarB 4))) (eVar 6) [.val (refD a), .obj (.deal (dealD (mW ps ss wh))), .val (natD k), .val (.list (R.map .int)), .val (.list ((R.map (keyAt ss)).map postD)), frz1 s5, frz1 s6, frz1 s7] ((allN ss).map fun x => postD (keyN x)) = some ((((allN ss).map keyN).filter fun k => decide (k ∈ R.map (keyAt ss))).map postD) := by
      rw [lcF_mapped (fun x => postD (keyN x)) (fun x => decide (keyN x ∈ R.map (keyAt ss))) (fun x => postD (keyN x))]
      · rw [List.filter_map, List.map_map]
        rfl
      · intro x hx
        have gi := gIn_posts (okP_at g hx) okS
        show bF (eOp gIn (eVarB 6) (eVarB 4)) [.val (refD a), .obj (.deal (dealD (mW ps ss wh))), .val (natD k), .val (.list (R.map .int)), .val (.list ((R.map (keyAt ss)).map postD)), frz1 s5, .val (postD (keyN x)), frz1 s7] = _
        have v6 : eVarB 6 ([.val (refD a), .obj (.deal (dealD (mW ps ss wh))), .val (natD k), .val (.list (R.map .int)), .val (.list ((R.map (keyAt ss)).map postD)), frz1 s5, .val (postD (keyN x)), frz1 s7] : Rho) = some (postD (keyN x)) := rfl
        have v4 : eVarB 4 ([.val (refD a), .obj (.deal (dealD (mW ps ss wh))), .val (natD k), .val (.list (R.map .int)), .val (.list ((R.map (keyAt ss)).map postD)), frz1 s5, .val (postD (keyN x)), frz1 s7] : Rho) = some (.list ((R.map (keyAt ss)).map postD)) := rfl
        rw [bF_eq, eOp_eq, v6, v4, Option.bind_some, Option.bind_some, gi]
        rfl
      · intro x _ _
        exact ⟨rfl, rfl⟩
    have ve : eTupD (eCons (eC (.str "short")) (eCons (eList (lLc (iL (eMeth kB (only a (.book ⟨ps, ss⟩)) 0 fr_posts eNil)) 6 (bF (eOp gIn (eVarB 6) (eVarB 4))) (eVar 6))) eNil)) [.val (refD a), .obj (.deal (dealD (mW ps ss wh))), .val (natD k), .val (.list (R.map .int)), .val (.list ((R.map (keyAt ss)).map postD)), frz1 s5, frz1 s6, frz1 s7] = some (.tuple [.str "short", .list ((((allN ss).map keyN).filter fun k => decide (k ∈ R.map (keyAt ss))).map postD)]) := by
      rw [eTupD_eq, eCons_eq, eCons_eq, eList_eq, lLc_eq, postsL_at g a 0 _ rfl, Option.bind_some, if_pos (by rw [List.length_map]; exact allN_lim g), lc2]
      rfl
    rw [fz, ve]
    rfl
theorem dealt_loop : ∀ (r k : Nat) (wh : List (Option Str)), wh.length = (plN ss).length → k + r = wh.length → ValidM (mW ps ss wh) k →
    (∃ wh', wh'.length = (plN ss).length ∧ ValidM (mW ps ss wh') wh'.length ∧ ∀ a s2 s3 s4 s5 s6 s7, ∃ s2' s3', forF (tg1 2) (bodyD a ps ss) ((List.range' k r).map natD) (rhoD a (mW ps ss wh) s2 s3 s4 s5 s6 s7) = .nx (rhoD a (mW ps ss wh') s2' s3' s4 s5 s6 s7)) ∨
    ∃ d, Dealt ps ss d ∧ ∀ a s2 s3 s4 s5 s6 s7, ∃ ρ, forF (tg1 2) (bodyD a ps ss) ((List.range' k r).map natD) (rhoD a (mW ps ss wh) s2 s3 s4 s5 s6 s7) = .rt d ρ
  | 0, k, wh, hl, hk, v => .inl ⟨wh, hl, by rw [← hk]; exact v, fun a s2 s3 s4 s5 s6 s7 => ⟨s2, s3, rfl⟩⟩
  | r + 1, k, wh, hl, hk, v => by
    have unf : ∀ a s2 s3 s4 s5 s6 s7, forF (tg1 2) (bodyD a ps ss) ((List.range' k (r + 1)).map natD) (rhoD a (mW ps ss wh) s2 s3 s4 s5 s6 s7) = (bodyD a ps ss (rhoD a (mW ps ss wh) (.val (natD k)) s3 s4 s5 s6 s7)).thn (forF (tg1 2) (bodyD a ps ss) ((List.range' (k + 1) r).map natD)) := fun a s2 s3 s4 s5 s6 s7 => by
      rw [List.range'_succ, List.map_cons, forF_cons1]
      rfl
    rcases dealt_step g hl (k := k) (by omega) v with ⟨wh', hl', v', e⟩ | ⟨d, hd, e⟩
    · rcases dealt_loop r (k + 1) wh' hl' (by omega) v' with ⟨w2, l2, v2, e2⟩ | ⟨d, hd, e2⟩
      · refine .inl ⟨w2, l2, v2, fun a s2 s3 s4 s5 s6 s7 => ?_⟩
        obtain ⟨s3', e⟩ := e a s3 s4 s5 s6 s7
        obtain ⟨u2, u3, e2⟩ := e2 a (.val (natD k)) s3' s4 s5 s6 s7
        exact ⟨u2, u3, by rw [unf, e, thn_nx, e2]⟩
      · refine .inr ⟨d, hd, fun a s2 s3 s4 s5 s6 s7 => ?_⟩
        obtain ⟨s3', e⟩ := e a s3 s4 s5 s6 s7
        obtain ⟨ρ, e2⟩ := e2 a (.val (natD k)) s3' s4 s5 s6 s7
        exact ⟨ρ, by rw [unf, e, thn_nx, e2]⟩
    · refine .inr ⟨d, hd, fun a s2 s3 s4 s5 s6 s7 => ?_⟩
      obtain ⟨ρ, e⟩ := e a s3 s4 s5 s6 s7
      exact ⟨ρ, by rw [unf, e, thn_rt]⟩
abbrev bodyR (a : Addr) (ps : List Person) (ss : List Shift) : SS := sApp 7 (eTupD (eCons (eOp gIx (eVarB 6) (eC (.int 0))) (eCons (eOp gIx (eVarB 6) (eC (.int 1))) (eCons (eOp gIx (eFld (only a (.book ⟨ps, ss⟩)) 1 3) (eVarB 2)) eNil))))
theorem rows_loop (a : Addr) (wh : List (Option Str)) (s3 s4 s5 : Sl) : ∀ (L : List SN) (W : List (Option Str)) (i : Nat) (acc : List PyData) (s2 s6 : Sl), L.length = W.length → (∀ j, j < L.length → wh[i + j]? = W[j]?) → acc.length + L.length ≤ 100000 →
    ∃ s2' s6', forX (tg2 2 6) (bodyR a ps ss) (enumD i (L.map fun x => postD (keyN x))) (rhoD a (mW ps ss wh) s2 s3 s4 s5 s6 (.own acc)) = .nx (rhoD a (mW ps ss wh) s2' s3 s4 s5 s6' (.own (acc ++ (L.zip W).map rowR)))
  | [], W, i, acc, s2, s6, _, _, _ => ⟨s2, s6, by simp [enumD, forX]⟩
  | x :: L, [], i, acc, s2, s6, h, _, _ => by simp at h
  | x :: L, w :: W, i, acc, s2, s6, h, hw, hl => by
    simp only [List.length_cons] at h hl
    have h0 := hw 0 (by simp)
    simp only [Nat.add_zero, List.getElem?_cons_zero] at h0
    have lt := (List.getElem?_eq_some_iff.mp h0).1
    have st : bodyR a ps ss (rhoD a (mW ps ss wh) (.val (.int (i : Int))) s3 s4 s5 (.val (postD (keyN x))) (.own acc)) = .nx (rhoD a (mW ps ss wh) (.val (.int (i : Int))) s3 s4 s5 (.val (postD (keyN x))) (.own (acc ++ [rowR (x, w)]))) := by
      have f3 : eFld (only a (.book ⟨ps, ss⟩)) 1 3 (rhoD a (mW ps ss wh) (.val (.int (i : Int))) s3 s4 s5 (.val (postD (keyN x))) (.own acc)) = some (.list (wh.map whD)) := by
        rw [eFld_eq, dealOb _ (dealD (mW ps ss wh)) _ 1 rfl]
        rfl
      have v2 : eVarB 2 (rhoD a (mW ps ss wh) (.val (.int (i : Int))) s3 s4 s5 (.val (postD (keyN x))) (.own acc)) = some (.int (i : Int)) := rfl
      have v6 : eVarB 6 (rhoD a (mW ps ss wh) (.val (.int (i : Int))) s3 s4 s5 (.val (postD (keyN x))) (.own acc)) = some (postD (keyN x)) := rfl
      have dw : dataD (whD w) = true := by cases w <;> rfl
      have ve : eTupD (eCons (eOp gIx (eVarB 6) (eC (.int 0))) (eCons (eOp gIx (eVarB 6) (eC (.int 1))) (eCons (eOp gIx (eFld (only a (.book ⟨ps, ss⟩)) 1 3) (eVarB 2)) eNil))) (rhoD a (mW ps ss wh) (.val (.int (i : Int))) s3 s4 s5 (.val (postD (keyN x))) (.own acc)) = some (rowR (x, w)) := by
        rw [eTupD_eq, eCons_eq, eCons_eq, eCons_eq, eOp_eq, eOp_eq, eOp_eq, v6, f3, v2]
        simp only [Option.bind_some, gIx_list, at_nat, List.getElem?_map, h0, Option.map_some, eC_eq]
        simp [postD, keyN, rowR, dw]
      have ow : ownL (rhoD a (mW ps ss wh) (.val (.int (i : Int))) s3 s4 s5 (.val (postD (keyN x))) (.own acc))[7]? = some acc := rfl
      unfold bodyR
      rw [sApp_eq, ow, outL_some, ve, outV_some, if_pos ⟨rfl, by unfold LIM; omega⟩]
      rfl
    obtain ⟨s2', s6', e⟩ := rows_loop a wh s3 s4 s5 L W (i + 1) (acc ++ [rowR (x, w)]) (.val (.int (i : Int))) (.val (postD (keyN x))) (by omega) (fun j hj => by
      have := hw (j + 1) (by simp; omega)
      rw [List.getElem?_cons_succ] at this
      rw [← this]
      congr 1
      omega) (by simp; omega)
    refine ⟨s2', s6', ?_⟩
    rw [List.map_cons]
    unfold enumD forX
    have tg : tg2 2 6 (.tuple [.int (i : Nat), postD (keyN x)]) (rhoD a (mW ps ss wh) s2 s3 s4 s5 s6 (.own acc)) = some (rhoD a (mW ps ss wh) (.val (.int (i : Int))) s3 s4 s5 (.val (postD (keyN x))) (.own acc)) := rfl
    rw [tg]
    simp only [st]
    rw [e]
    simp
theorem dealt_ok : ∃ d, fr_dealt ⟨ps, ss⟩ [] = .ret d ∧ Dealt ps ss d := by
  have pl := plN_len g
  have v0 := valid_0 g
  have lp := dealt_loop g (plN ss).length 0 (List.replicate (plN ss).length none) (by rw [List.length_replicate]) (by rw [List.length_replicate, Nat.zero_add]) v0
  have hr : ∀ a : Addr, rho0 N_dealt [refD a] = [.val (refD a), .no, .no, .no, .no, .no, .no, .no] := fun a => by simp [rho0, N_dealt]
  have a1 : ∀ a : Addr, sMkD (only a (.book ⟨ps, ss⟩)) 1 0 f2_deal [.val (refD a), .no, .no, .no, .no, .no, .no, .no] = .nx (rhoD a (mW ps ss (List.replicate (plN ss).length none)) .no .no .no .no .no .no) := fun a => by
    unfold sMkD
    rw [bookAt a _ _ 0 rfl]
    simp only [deal_ok g]
    rfl
  have i2 : ∀ (a : Addr) (wh : List (Option Str)), iR1 (eCons (eCall gLen (eCons (eFld (only a (.book ⟨ps, ss⟩)) 1 0) eNil)) eNil) (rhoD a (mW ps ss wh) .no .no .no .no .no .no) = some ((List.range' 0 (plN ss).length).map natD) := fun a wh => by
    have f0 : eFld (only a (.book ⟨ps, ss⟩)) 1 0 (rhoD a (mW ps ss wh) .no .no .no .no .no .no) = some (.list (((plN ss).map keyN).map postD)) := by
      rw [eFld_eq, dealOb _ (dealD (mW ps ss wh)) _ 1 rfl]
      rfl
    have hc : (((plN ss).length : Nat) : Int) ≤ 1000000 ∧ (-1000000 : Int) ≤ (((plN ss).length : Nat) : Int) := by omega
    rw [iR1_eq, eCons_eq, eCall_eq, eCons_eq, f0, ← List.range_eq_range']
    simp [hc, rng_nat]
  have unf : ∀ a : Addr, b_dealt (only a (kB.inj ⟨ps, ss⟩)) (rho0 N_dealt [refD a]) = (forF (tg1 2) (bodyD a ps ss) ((List.range' 0 (plN ss).length).map natD) (rhoD a (mW ps ss (List.replicate (plN ss).length none)) .no .no .no .no .no .no)).thn (sSeq (sSetL 7 (eLstD eNil)) (sSeq (sForE 1 0 (tg2 2 6) (bodyR a ps ss)) (sRet (eTupD (eCons (eC (.str "rota")) (eCons (eVar 7) eNil)))))) := fun a => by
    show b_dealt (only a (.book ⟨ps, ss⟩)) (rho0 N_dealt [refD a]) = _
    unfold b_dealt
    rw [hr, sSeq_eq, a1, thn_nx, sSeq_eq, sFor_eq, i2, outL_some]
  rcases lp with ⟨wh, hl, v, e⟩ | ⟨d, hd, e⟩
  · refine ⟨_, frOf_eq fun a => ?_, .rota wh hl v⟩
    obtain ⟨s2, s3, e⟩ := e a .no .no .no .no .no .no
    obtain ⟨s2', s6', e2⟩ := rows_loop g a wh s3 .no .no (plN ss) wh 0 [] s2 .no hl.symm (fun j _ => by rw [Nat.zero_add]) (by simp; omega)
    have a7 : sSetL 7 (eLstD eNil) (rhoD a (mW ps ss wh) s2 s3 .no .no .no .no) = .nx (rhoD a (mW ps ss wh) s2 s3 .no .no .no (.own [])) := by
      have : eLstD eNil (rhoD a (mW ps ss wh) s2 s3 .no .no .no .no) = some [] := by simp
      rw [sSetL_eq, this]
      rfl
    have fe : sForE 1 0 (tg2 2 6) (bodyR a ps ss) (rhoD a (mW ps ss wh) s2 s3 .no .no .no (.own [])) = .nx (rhoD a (mW ps ss wh) s2' s3 .no .no s6' (.own (((plN ss).zip wh).map rowR))) := by
      unfold sForE
      have h1 : slO kD (rhoD a (mW ps ss wh) s2 s3 .no .no .no (.own []))[1]? = some (dealD (mW ps ss wh)) := rfl
      have h2 : (dealD (mW ps ss wh)).ls[0]? = some ((plN ss).map fun x => postD (keyN x)) := by
        show some (((plN ss).map keyN).map postD) = _
        rw [List.map_map]
        rfl
      rw [h1]
      simp only [h2]
      rw [if_pos (by rw [List.length_map]; unfold LIM; omega), e2, List.nil_append]
    have rt : sRet (eTupD (eCons (eC (.str "rota")) (eCons (eVar 7) eNil))) (rhoD a (mW ps ss wh) s2' s3 .no .no s6' (.own (((plN ss).zip wh).map rowR))) = .rt (.tuple [.str "rota", .list (((plN ss).zip wh).map rowR)]) ((rhoD a (mW ps ss wh) s2' s3 .no .no s6' (.own (((plN ss).zip wh).map rowR))).map frz1) := by
      have v7 : eVar 7 ((rhoD a (mW ps ss wh) s2' s3 .no .no s6' (.own (((plN ss).zip wh).map rowR))).map frz1) = some (.list (((plN ss).zip wh).map rowR)) := rfl
      rw [sRet_eq, eTupD_eq, eCons_eq, eCons_eq, v7]
      simp
    rw [runF_eq, if_pos (show [refD a].length = 1 from rfl), unf, e, thn_nx, sSeq_eq, a7, thn_nx, sSeq_eq, fe, thn_nx, rt]
    rfl
  · refine ⟨d, frOf_eq fun a => ?_, hd⟩
    obtain ⟨ρ, e⟩ := e a .no .no .no .no .no .no
    rw [runF_eq, if_pos (show [refD a].length = 1 from rfl), unf, e, thn_rt]
    rfl
end
end RK
namespace RK
open PySem PySem.Spec PyProof.Rows L2 RT
theorem mayL (p : Person) (g : GP p) (s : Shift) (gs : GS s) (k : Str) : F_may [perD p, shD s, .str k] = some (.bool (mayB p s k)) := by
  have ll : p.rests.length ≤ LIM := Nat.le_trans g.rl (by decide)
  obtain ⟨s', r', e⟩ := forF_find0 (j := 3) (ρ := [.val (perD p), .val (shD s), .val (.str k), .no]) (r := .bool false) (body := (sIf (bF (eOp gLt (eCall gMax (eCons (eOp gIx (eVarB 3) (eC (.int 0))) (eCons (eOp gIx (eOp gIx (eVarB 1) (eC (.int 1))) (eC (.int 0))) eNil))) (eCall gMin (eCons (eOp gIx (eVarB 3) (eC (.int 1))) (eCons (eOp gIx (eOp gIx (eVarB 1) (eC (.int 1))) (eC (.int 1))) eNil))))) (sRet (eC (.bool false))) sNext))
    (fun d => match d with
      | .tuple [.int x, .int y] => meetsB (x, y) (s.b, s.e)
      | _ => false) (ds := p.rests.map stD) (by simp) (fun d hd => by
      obtain ⟨r, hr, rfl⟩ := List.mem_map.mp hd
      obtain ⟨x, y⟩ := r
      have hr' := g.rs _ hr
      have st := gs.st
      have key : decide ((if s.b > x then s.b else x) < (if s.e < y then s.e else y)) = meetsB (x, y) (s.b, s.e) := by
        unfold meetsB
        simp only at hr'
        rw [Bool.eq_iff_iff]
        simp only [Bool.and_eq_true, decide_eq_true_eq]
        split <;> split <;> omega
      rw [sIf_eq]
      have t1 : bF (eOp gLt (eCall gMax (eCons (eOp gIx (eVarB 3) (eC (.int 0))) (eCons (eOp gIx (eOp gIx (eVarB 1) (eC (.int 1))) (eC (.int 0))) eNil))) (eCall gMin (eCons (eOp gIx (eVarB 3) (eC (.int 1))) (eCons (eOp gIx (eOp gIx (eVarB 1) (eC (.int 1))) (eC (.int 1))) eNil)))) (([.val (perD p), .val (shD s), .val (.str k), .no] : Rho).set 3 (.val (stD (x, y)))) = some (meetsB (x, y) (s.b, s.e)) := by
        rw [← key]
        simp [perD, shD, stD]
      rw [t1, outB_some]
      simp only [stD]
      by_cases hm : meetsB (x, y) (s.b, s.e) = true
      · simp [hm]
      · simp [hm])
  have ea : ((p.rests.map stD).any fun d => match d with
      | .tuple [.int x, .int y] => meetsB (x, y) (s.b, s.e)
      | _ => false) = p.rests.any fun r => meetsB r (s.b, s.e) := by
    rw [List.any_map]
    rfl
  rw [ea] at e
  have gi := gIn_strs k p.skills
  unfold F_may
  rw [runF_eq]
  have hb : b_may (rho0 N_may [perD p, shD s, .str k]) = (if (p.rests.any fun r => meetsB r (s.b, s.e)) = true then .rt (.bool false) r' else .rt (.bool (decide (k ∈ p.skills))) ([.val (perD p), .val (shD s), .val (.str k), frz1 s'])) := by
    unfold b_may
    rw [sSeq_eq, sFor_eq]
    have i1 : iL (eOp gIx (eVarB 0) (eC (.int 3))) (rho0 N_may [perD p, shD s, .str k]) = some (p.rests.map stD) := by
      simp [rho0, N_may, perD, ll]
    have r0 : rho0 N_may [perD p, shD s, .str k] = [.val (perD p), .val (shD s), .val (.str k), .no] := rfl
    rw [i1, outL_some, r0, e]
    split
    · rw [thn_rt]
    · rw [thn_nx]
      simp [perD, gi]
  rw [hb]
  unfold mayB
  generalize (p.rests.any fun r => meetsB r (s.b, s.e)) = q
  cases q <;> simp
/-! ### k11: all ways -/
def yD (y : Shift × Person) : PyData := .tuple [shD y.1, perD y.2]
def wyD (w : List (Shift × Person)) : PyData := .list (w.map yD)
def heldW (w : List (Shift × Person)) (p : Person) : List Shift := (w.filter fun y => decide (y.2.name = p.name)).map (·.1)
def plD (x : SN) : PyData := .tuple [shD x.1, .str x.2.1]
def okW (w : List (Shift × Person)) (x : SN) (p : Person) : Bool := mayB p x.1 x.2.1 && !decide (dayS x.1 ∈ (heldW w p).map dayS) && decide (((heldW w p).length : Int) < p.limit)
def stepW1 (x : SN) (ps : List Person) (w : List (Shift × Person)) : List (List (Shift × Person)) := (ps.filter (okW w x)).map fun p => w ++ [(x.1, p)]
def stepW (ps : List Person) (W : List (List (Shift × Person))) (x : SN) : List (List (Shift × Person)) := W.flatMap (stepW1 x ps)
def waysM (ps : List Person) (L : List SN) : List (List (Shift × Person)) := L.foldl (stepW ps) [[]]
theorem F_held_eq (w : List (Shift × Person)) (p : Person) (hl : w.length ≤ 1000) : F_held [wyD w, perD p] = some (.list ((heldW w p).map shD)) := by
  have lc : lcF 2 (bF (eOp gEq (eOp gIx (eOp gIx (eVarB 2) (eC (.int 1))) (eC (.int 0))) (eOp gIx (eVarB 1) (eC (.int 0))))) (eOp gIx (eVarB 2) (eC (.int 0))) [.val (wyD w), .val (perD p), .no] (w.map yD) = some ((heldW w p).map shD) := by
    rw [lcF_mapped yD (fun y => decide (y.2.name = p.name)) (fun y => shD y.1)]
    · unfold heldW
      rw [List.map_map]
      rfl
    · intro y _
      by_cases h : y.2.name = p.name <;> simp [yD, perD, h]
    · intro y _ _
      exact ⟨by simp [yD], rfl⟩
  have ll : (w.map yD).length ≤ LIM := by
    rw [List.length_map]
    unfold LIM
    omega
  unfold F_held
  rw [runF_eq]
  have i0 : iL (eVarB 0) [.val (wyD w), .val (perD p), .no] = some (w.map yD) := by
    rw [iL_eq]
    exact lstD_list _ ll
  have hb : b_held (rho0 N_held [wyD w, perD p]) = .rt (.list ((heldW w p).map shD)) [.val (wyD w), .val (perD p), .no] := by
    have hr : rho0 N_held [wyD w, perD p] = [.val (wyD w), .val (perD p), .no] := by simp [rho0, N_held]
    have hm : ([.val (wyD w), .val (perD p), .no] : Rho).map frz1 = [.val (wyD w), .val (perD p), .no] := rfl
    unfold b_held
    rw [hr, sRet_eq, hm, eList_eq, lLc_eq, i0, Option.bind_some, if_pos ll, lc]
    rfl
  rw [if_pos (show [wyD w, perD p].length = 2 from rfl), hb]
  rfl
def rhoW (L : List SN) (P : List Person) (W : List (List (Shift × Person))) (x : SN) (acc : List PyData) (s5 s6 s7 s8 : Sl) : Rho := [.val (.list (L.map plD)), .val (.list (P.map perD)), .val (.list (W.map wyD)), .val (plD x), .own acc, s5, s6, s7, s8]
abbrev body6 : SS := sSeq (sSet 7 (eList (lLc (iL (eCall F_held (eCons (eVar 5) (eCons (eVar 6) eNil)))) 8 tYesF (eOp gFdiv (eOp gIx (eOp gIx (eVarB 8) (eC (.int 1))) (eC (.int 0))) (eC (.int 24))))))
  (sIf (tAndF (bF (eCall F_may (eCons (eVar 6) (eCons (eOp gIx (eVarB 3) (eC (.int 0))) (eCons (eOp gIx (eVarB 3) (eC (.int 1))) eNil))))) (tAndF (bF (eOp gNotIn (eOp gFdiv (eOp gIx (eOp gIx (eOp gIx (eVarB 3) (eC (.int 0))) (eC (.int 1))) (eC (.int 0))) (eC (.int 24))) (eVarB 7))) (bF (eOp gLt (eCall gLen (eCons (eVarB 7) eNil)) (eOp gIx (eVarB 6) (eC (.int 2))))))) (sApp 4 (eOp gAdd (eVarB 5) (eList (eLstD (eCons (eTupD (eCons (eOp gIx (eVarB 3) (eC (.int 0))) (eCons (eVar 6) eNil))) eNil))))) sNext)
theorem ways6 (L : List SN) (P : List Person) (W : List (List (Shift × Person))) (x : SN) (gs : GS x.1) (w : List (Shift × Person)) (hw : w.length ≤ 1000) (p : Person) (gp : GP p) (acc : List PyData) (ha : acc.length ≤ 10000) (s7 s8 : Sl) :
    ∃ s7', body6 (rhoW L P W x acc (.val (wyD w)) (.val (perD p)) s7 s8) = .nx (rhoW L P W x (acc ++ if okW w x p = true then [wyD (w ++ [(x.1, p)])] else []) (.val (wyD w)) (.val (perD p)) s7' s8) := by
  have hd := F_held_eq w p hw
  have hwl : (heldW w p).length ≤ 1000 := by
    unfold heldW
    rw [List.length_map]
    exact Nat.le_trans (List.length_filter_le _ _) hw
  have lc : lcF 8 tYesF (eOp gFdiv (eOp gIx (eOp gIx (eVarB 8) (eC (.int 1))) (eC (.int 0))) (eC (.int 24))) (rhoW L P W x acc (.val (wyD w)) (.val (perD p)) s7 s8) ((heldW w p).map shD) = some (((heldW w p).map dayS).map .int) := by
    rw [lcF_mappedT shD (fun s => .int (dayS s)), List.map_map]
    · rfl
    · intro s _
      refine ⟨?_, rfl⟩
      simp [rhoW, shD, stD, dayS]
  have i7 : iL (eCall F_held (eCons (eVar 5) (eCons (eVar 6) eNil))) (rhoW L P W x acc (.val (wyD w)) (.val (perD p)) s7 s8) = some ((heldW w p).map shD) := by
    have : eCons (eVar 5) (eCons (eVar 6) eNil) (rhoW L P W x acc (.val (wyD w)) (.val (perD p)) s7 s8) = some [wyD w, perD p] := rfl
    rw [iL_eq, eCall_eq, this, Option.bind_some, hd]
    exact lstD_list _ (by rw [List.length_map]; unfold LIM; omega)
  have a7 : sSet 7 (eList (lLc (iL (eCall F_held (eCons (eVar 5) (eCons (eVar 6) eNil)))) 8 tYesF (eOp gFdiv (eOp gIx (eOp gIx (eVarB 8) (eC (.int 1))) (eC (.int 0))) (eC (.int 24))))) (rhoW L P W x acc (.val (wyD w)) (.val (perD p)) s7 s8) = .nx (rhoW L P W x acc (.val (wyD w)) (.val (perD p)) (.val (.list (((heldW w p).map dayS).map .int))) s8) := by
    rw [sSet_eq, eList_eq, lLc_eq, i7, Option.bind_some, if_pos (by rw [List.length_map]; unfold LIM; omega), lc]
    rfl
  have t1 : bF (eCall F_may (eCons (eVar 6) (eCons (eOp gIx (eVarB 3) (eC (.int 0))) (eCons (eOp gIx (eVarB 3) (eC (.int 1))) eNil)))) (rhoW L P W x acc (.val (wyD w)) (.val (perD p)) (.val (.list (((heldW w p).map dayS).map .int))) s8) = some (mayB p x.1 x.2.1) := by
    have : eCons (eVar 6) (eCons (eOp gIx (eVarB 3) (eC (.int 0))) (eCons (eOp gIx (eVarB 3) (eC (.int 1))) eNil)) (rhoW L P W x acc (.val (wyD w)) (.val (perD p)) (.val (.list (((heldW w p).map dayS).map .int))) s8) = some [perD p, shD x.1, .str x.2.1] := by simp [rhoW, plD]
    rw [bF_eq, eCall_eq, this, Option.bind_some, mayL p gp x.1 gs]
    rfl
  have t2 : bF (eOp gNotIn (eOp gFdiv (eOp gIx (eOp gIx (eOp gIx (eVarB 3) (eC (.int 0))) (eC (.int 1))) (eC (.int 0))) (eC (.int 24))) (eVarB 7)) (rhoW L P W x acc (.val (wyD w)) (.val (perD p)) (.val (.list (((heldW w p).map dayS).map .int))) s8) = some (!decide (dayS x.1 ∈ (heldW w p).map dayS)) := by
    have gn := gNotIn_ints (dayS x.1) ((heldW w p).map dayS)
    have v7 : eVarB 7 (rhoW L P W x acc (.val (wyD w)) (.val (perD p)) (.val (.list (((heldW w p).map dayS).map .int))) s8) = some (.list (((heldW w p).map dayS).map .int)) := rfl
    have vd : eOp gFdiv (eOp gIx (eOp gIx (eOp gIx (eVarB 3) (eC (.int 0))) (eC (.int 1))) (eC (.int 0))) (eC (.int 24)) (rhoW L P W x acc (.val (wyD w)) (.val (perD p)) (.val (.list (((heldW w p).map dayS).map .int))) s8) = some (.int (dayS x.1)) := by
      simp [rhoW, plD, shD, stD, dayS]
    rw [bF_eq, eOp_eq, vd, v7, Option.bind_some, Option.bind_some, gn]
    rfl
  have t3 : bF (eOp gLt (eCall gLen (eCons (eVarB 7) eNil)) (eOp gIx (eVarB 6) (eC (.int 2)))) (rhoW L P W x acc (.val (wyD w)) (.val (perD p)) (.val (.list (((heldW w p).map dayS).map .int))) s8) = some (decide (((heldW w p).length : Int) < p.limit)) := by
    simp [rhoW, perD]
  have v : eOp gAdd (eVarB 5) (eList (eLstD (eCons (eTupD (eCons (eOp gIx (eVarB 3) (eC (.int 0))) (eCons (eVar 6) eNil))) eNil))) (rhoW L P W x acc (.val (wyD w)) (.val (perD p)) (.val (.list (((heldW w p).map dayS).map .int))) s8) = some (wyD (w ++ [(x.1, p)])) := by
    have v5 : eVarB 5 (rhoW L P W x acc (.val (wyD w)) (.val (perD p)) (.val (.list (((heldW w p).map dayS).map .int))) s8) = some (.list (w.map yD)) := rfl
    have ve : eList (eLstD (eCons (eTupD (eCons (eOp gIx (eVarB 3) (eC (.int 0))) (eCons (eVar 6) eNil))) eNil)) (rhoW L P W x acc (.val (wyD w)) (.val (perD p)) (.val (.list (((heldW w p).map dayS).map .int))) s8) = some (.list [yD (x.1, p)]) := by
      simp [rhoW, plD, yD, perD, shD]
    rw [eOp_eq, v5, ve, Option.bind_some, Option.bind_some, gAdd_list _ _ (by rw [List.length_map]; simp; unfold LIM; omega)]
    unfold wyD
    rw [List.map_append]
    rfl
  refine ⟨.val (.list (((heldW w p).map dayS).map .int)), ?_⟩
  unfold body6
  rw [sSeq_eq, a7, thn_nx, sIf_eq, tAndF_eq, t1, Option.bind_some, tAndF_eq, t2, Option.bind_some, t3]
  unfold okW
  cases c1 : mayB p x.1 x.2.1 with
  | false => simp
  | true =>
    by_cases c2 : dayS x.1 ∈ (heldW w p).map dayS
    · simp [c2]
    · by_cases c3 : ((heldW w p).length : Int) < p.limit
      · have ow : ownL (rhoW L P W x acc (.val (wyD w)) (.val (perD p)) (.val (.list (((heldW w p).map dayS).map .int))) s8)[4]? = some acc := rfl
        simp only [c2, c3, decide_true, decide_false, Bool.not_false, Bool.and_self, if_true, outB_some]
        rw [sApp_eq, ow, outL_some, v, outV_some, if_pos ⟨rfl, by unfold LIM; omega⟩]
        rfl
      · simp [c2, c3]
theorem ways5 (L : List SN) (P : List Person) (W : List (List (Shift × Person))) (x : SN) (gs : GS x.1) (w : List (Shift × Person)) (hw : w.length ≤ 1000) : ∀ (Q : List Person) (acc : List PyData) (s6 s7 s8 : Sl), (∀ p ∈ Q, GP p) → acc.length + Q.length ≤ 10000 →
    ∃ s6' s7', forF (tg1 6) body6 (Q.map perD) (rhoW L P W x acc (.val (wyD w)) s6 s7 s8) = .nx (rhoW L P W x (acc ++ (stepW1 x Q w).map wyD) (.val (wyD w)) s6' s7' s8)
  | [], acc, s6, s7, s8, _, _ => ⟨s6, s7, by simp [forF_nil, stepW1]⟩
  | p :: Q, acc, s6, s7, s8, hQ, hl => by
    simp only [List.length_cons] at hl
    obtain ⟨u7, e1⟩ := ways6 L P W x gs w hw p (hQ p List.mem_cons_self) acc (by omega) s7 s8
    obtain ⟨s6', s7', e⟩ := ways5 L P W x gs w hw Q (acc ++ if okW w x p = true then [wyD (w ++ [(x.1, p)])] else []) (.val (perD p)) u7 s8 (fun q hq => hQ q (List.mem_cons_of_mem _ hq)) (by split <;> simp <;> omega)
    refine ⟨s6', s7', ?_⟩
    rw [List.map_cons, forF_cons1]
    show ((body6 (rhoW L P W x acc (.val (wyD w)) (.val (perD p)) s7 s8)).thn _) = _
    rw [e1, thn_nx, e]
    unfold stepW1
    rw [List.filter_cons]
    by_cases h : okW w x p = true <;> simp [h]
theorem stepW1_len (x : SN) (Q : List Person) (w : List (Shift × Person)) : (stepW1 x Q w).length ≤ Q.length := by
  unfold stepW1
  rw [List.length_map]
  exact List.length_filter_le _ _
theorem stepW_len (ps : List Person) (x : SN) : ∀ W : List (List (Shift × Person)), (stepW ps W x).length ≤ ps.length * W.length
  | [] => by simp [stepW]
  | w :: W => by
    have h1 := stepW1_len x ps w
    have h2 := stepW_len ps x W
    unfold stepW at h2 ⊢
    rw [List.flatMap_cons, List.length_append, List.length_cons, Nat.mul_succ]
    omega
theorem ways4 (L : List SN) (P : List Person) (hP : ∀ p ∈ P, GP p) (hPl : P.length ≤ 3) (W0 : List (List (Shift × Person))) (x : SN) (gs : GS x.1) : ∀ (W : List (List (Shift × Person))) (acc : List PyData) (s5 s6 s7 s8 : Sl), (∀ w ∈ W, w.length ≤ 1000) → acc.length + 3 * W.length ≤ 10000 →
    ∃ s5' s6' s7', forF (tg1 5) (sFor (iL (eVar 1)) (tg1 6) body6) (W.map wyD) (rhoW L P W0 x acc s5 s6 s7 s8) = .nx (rhoW L P W0 x (acc ++ (stepW P W x).map wyD) s5' s6' s7' s8)
  | [], acc, s5, s6, s7, s8, _, _ => ⟨s5, s6, s7, by simp [forF_nil, stepW]⟩
  | w :: W, acc, s5, s6, s7, s8, hW, hl => by
    simp only [List.length_cons] at hl
    have h1 := stepW1_len x P w
    obtain ⟨u6, u7, e1⟩ := ways5 L P W0 x gs w (hW w List.mem_cons_self) P acc s6 s7 s8 hP (by omega)
    obtain ⟨s5', s6', s7', e⟩ := ways4 L P hP hPl W0 x gs W (acc ++ (stepW1 x P w).map wyD) (.val (wyD w)) u6 u7 s8 (fun q hq => hW q (List.mem_cons_of_mem _ hq)) (by rw [List.length_append, List.length_map]; omega)
    refine ⟨s5', s6', s7', ?_⟩
    rw [List.map_cons, forF_cons1]
    show ((sFor (iL (eVar 1)) (tg1 6) body6 (rhoW L P W0 x acc (.val (wyD w)) s6 s7 s8)).thn _) = _
    have i1 : iL (eVar 1) (rhoW L P W0 x acc (.val (wyD w)) s6 s7 s8) = some (P.map perD) := by
      rw [iL_eq]
      exact lstD_list _ (by rw [List.length_map]; unfold LIM; omega)
    rw [sFor_eq, i1, outL_some, e1, thn_nx, e]
    unfold stepW
    rw [List.flatMap_cons]
    simp
theorem waysM_wlen (ps : List Person) : ∀ (L : List SN) (W : List (List (Shift × Person))) (k : Nat), (∀ w ∈ W, w.length = k) → ∀ w ∈ L.foldl (stepW ps) W, w.length = k + L.length
  | [], W, k, h, w, hw => h w hw
  | x :: L, W, k, h, w, hw => by
    have := waysM_wlen ps L (stepW ps W x) (k + 1) (fun v hv => by
      unfold stepW stepW1 at hv
      rw [List.mem_flatMap] at hv
      obtain ⟨u, hu, hv⟩ := hv
      obtain ⟨p, _, rfl⟩ := List.mem_map.mp hv
      rw [List.length_append, h u hu]
      rfl) w hw
    rw [this, List.length_cons]
    omega
/-- W has at most 3 ^ k ways, k ≤ 4 -/
def pw3 : Nat → Nat
  | 0 => 1
  | k + 1 => 3 * pw3 k
theorem pw3_le {k : Nat} (h : k ≤ 4) : pw3 k ≤ 81 := by
  match k, h with
  | 0, _ => decide
  | 1, _ => decide
  | 2, _ => decide
  | 3, _ => decide
  | 4, _ => decide
theorem ways3 (L0 : List SN) (P : List Person) (hP : ∀ p ∈ P, GP p) (hPl : P.length ≤ 3) : ∀ (L : List SN) (W : List (List (Shift × Person))) (k : Nat) (s3 s4 s5 s6 s7 : Sl), (∀ x ∈ L, GS x.1) → k + L.length ≤ 4 → W.length ≤ pw3 k → (∀ w ∈ W, w.length = k) →
    ∃ s3' s4' s5' s6' s7', forF (tg1 3) (sSeq (sSetL 4 (eLstD eNil)) (sSeq (sFor (iL (eVar 2)) (tg1 5) (sFor (iL (eVar 1)) (tg1 6) body6)) (sFrzI 4 (sSet 2 (eVar 4))))) (L.map plD) [.val (.list (L0.map plD)), .val (.list (P.map perD)), .val (.list (W.map wyD)), s3, s4, s5, s6, s7, .no] = .nx [.val (.list (L0.map plD)), .val (.list (P.map perD)), .val (.list ((L.foldl (stepW P) W).map wyD)), s3', s4', s5', s6', s7', .no] ∧ (L.foldl (stepW P) W).length ≤ pw3 (k + L.length)
  | [], W, k, s3, s4, s5, s6, s7, _, _, hW, _ => ⟨s3, s4, s5, s6, s7, rfl, hW⟩
  | x :: L, W, k, s3, s4, s5, s6, s7, hL, hk, hW, hw => by
    simp only [List.length_cons] at hk
    have wl : W.length ≤ 81 := Nat.le_trans hW (pw3_le (by omega))
    obtain ⟨u5, u6, u7, e1⟩ := ways4 L0 P hP hPl W x (hL x List.mem_cons_self) W [] s5 s6 s7 .no (fun w h => by rw [hw w h]; omega) (by simp; omega)
    have hW' : (stepW P W x).length ≤ pw3 (k + 1) := by
      have h1 := stepW_len P x W
      have h2 : P.length * W.length ≤ 3 * W.length := Nat.mul_le_mul_right _ hPl
      show _ ≤ 3 * pw3 k
      omega
    obtain ⟨s3', s4', s5', s6', s7', e, hl⟩ := ways3 L0 P hP hPl L (stepW P W x) (k + 1) (.val (plD x)) (.val (.list ((stepW P W x).map wyD))) u5 u6 u7 (fun y hy => hL y (List.mem_cons_of_mem _ hy)) (by omega) hW' (fun v hv => by
      have := waysM_wlen P [x] W k hw v hv
      simpa using this)
    refine ⟨s3', s4', s5', s6', s7', ?_, by
      rw [List.length_cons, show k + (L.length + 1) = k + 1 + L.length by omega]
      exact hl⟩
    rw [List.map_cons, forF_cons1]
    have a4 : sSetL 4 (eLstD eNil) [.val (.list (L0.map plD)), .val (.list (P.map perD)), .val (.list (W.map wyD)), .val (plD x), s4, s5, s6, s7, .no] = .nx (rhoW L0 P W x [] s5 s6 s7 .no) := by simp [rhoW]
    have i2 : iL (eVar 2) (rhoW L0 P W x [] s5 s6 s7 .no) = some (W.map wyD) := by
      rw [iL_eq]
      exact lstD_list _ (by rw [List.length_map]; unfold LIM; omega)
    have a2 : sFrzI 4 (sSet 2 (eVar 4)) (rhoW L0 P W x ([] ++ (stepW P W x).map wyD) u5 u6 u7 .no) = .nx [.val (.list (L0.map plD)), .val (.list (P.map perD)), .val (.list ((stepW P W x).map wyD)), .val (plD x), .val (.list ((stepW P W x).map wyD)), u5, u6, u7, .no] := by
      rw [List.nil_append]
      simp [rhoW]
    show ((sSeq _ _ [.val (.list (L0.map plD)), .val (.list (P.map perD)), .val (.list (W.map wyD)), .val (plD x), s4, s5, s6, s7, .no]).thn _) = _
    rw [sSeq_eq, a4, thn_nx, sSeq_eq, sFor_eq, i2, outL_some, e1, thn_nx, a2, thn_nx]
    exact e
theorem F_ways_eq (L : List SN) (P : List Person) (hP : ∀ p ∈ P, GP p) (hPl : P.length ≤ 3) (hL : ∀ x ∈ L, GS x.1) (hLl : L.length ≤ 4) : F_ways [.list (L.map plD), .list (P.map perD)] = some (.list ((waysM P L).map wyD)) ∧ (waysM P L).length ≤ 81 := by
  obtain ⟨s3', s4', s5', s6', s7', e, hl⟩ := ways3 L P hP hPl L [[]] 0 .no .no .no .no .no hL (by omega) (by simp [pw3]) (by simp)
  refine ⟨?_, Nat.le_trans hl (by rw [Nat.zero_add]; exact pw3_le hLl)⟩
  unfold F_ways
  rw [runF_eq, if_pos (show [PyData.list (L.map plD), .list (P.map perD)].length = 2 from rfl)]
  have hr : rho0 N_ways [.list (L.map plD), .list (P.map perD)] = [.val (.list (L.map plD)), .val (.list (P.map perD)), .no, .no, .no, .no, .no, .no, .no] := by simp [rho0, N_ways]
  have a2 : sSet 2 (eList (eLstD (eCons (eList (eLstD eNil)) eNil))) [.val (.list (L.map plD)), .val (.list (P.map perD)), .no, .no, .no, .no, .no, .no, .no] = .nx [.val (.list (L.map plD)), .val (.list (P.map perD)), .val (.list (([[]] : List (List (Shift × Person))).map wyD)), .no, .no, .no, .no, .no, .no] := by simp [wyD]
  have i0 : iL (eVar 0) [.val (.list (L.map plD)), .val (.list (P.map perD)), .val (.list (([[]] : List (List (Shift × Person))).map wyD)), .no, .no, .no, .no, .no, .no] = some (L.map plD) := by
    rw [iL_eq]
    exact lstD_list _ (by rw [List.length_map]; unfold LIM; omega)
  have hb : ∃ ρ, b_ways (rho0 N_ways [.list (L.map plD), .list (P.map perD)]) = .rt (.list ((waysM P L).map wyD)) ρ := by
    unfold b_ways
    rw [hr, sSeq_eq, a2, thn_nx, sSeq_eq, sFor_eq, i0, outL_some, e, thn_nx, sRet_eq]
    exact ⟨_, rfl⟩
  obtain ⟨ρ, hb⟩ := hb
  rw [hb]
  rfl
end RK
namespace RK
open PySem PySem.Spec PyProof.Rows L2 RT
/-! ### a way is a whole valid deal -/
structure GoodW (ps : List Person) (L : List SN) (w : List (Shift × Person)) : Prop where
  len : w.length = L.length
  fit : ∀ (i : Nat) (x : SN) (y : Shift × Person), L[i]? = some x → w[i]? = some y → y.1 = x.1 ∧ y.2 ∈ ps ∧ mayB y.2 x.1 x.2.1 = true
  ap : ∀ (i j : Nat) (y z : Shift × Person), i ≠ j → w[i]? = some y → w[j]? = some z → y.2.name = z.2.name → dayS y.1 ≠ dayS z.1
  lim : ∀ p ∈ ps, ((heldW w p).length : Int) ≤ p.limit
theorem heldW_app (w : List (Shift × Person)) (y : Shift × Person) (p : Person) : heldW (w ++ [y]) p = heldW w p ++ if y.2.name = p.name then [y.1] else [] := by
  unfold heldW
  rw [List.filter_append, List.map_append]
  by_cases h : y.2.name = p.name <;> simp [h]
theorem get_snoc {α : Type} {l : List α} {x y : α} {i : Nat} (h : (l ++ [x])[i]? = some y) : (i < l.length ∧ l[i]? = some y) ∨ (i = l.length ∧ y = x) := by
  by_cases hi : i < l.length
  · rw [List.getElem?_append_left hi] at h
    exact .inl ⟨hi, h⟩
  · rw [List.getElem?_append_right (by omega)] at h
    have h2 := (List.getElem?_eq_some_iff.mp h).1
    simp at h2
    have : i - l.length = 0 := by omega
    rw [this] at h
    simp at h
    exact .inr ⟨by omega, h.symm⟩
theorem heldW_mem {w : List (Shift × Person)} {p : Person} {s : Shift} : s ∈ heldW w p ↔ ∃ (i : Nat) (y : Shift × Person), w[i]? = some y ∧ y.2.name = p.name ∧ y.1 = s := by
  unfold heldW
  rw [List.mem_map]
  constructor
  · rintro ⟨y, hy, rfl⟩
    rw [List.mem_filter, decide_eq_true_eq] at hy
    obtain ⟨i, hi⟩ := List.getElem?_of_mem hy.1
    exact ⟨i, y, hi, hy.2, rfl⟩
  · rintro ⟨i, y, hi, hn, rfl⟩
    exact ⟨y, List.mem_filter.mpr ⟨List.mem_of_getElem? hi, by simpa using hn⟩, rfl⟩
section
variable {ps : List Person} (nd : (ps.map (·.name)).Nodup)
include nd
theorem GoodW.snoc {L : List SN} {w : List (Shift × Person)} (h : GoodW ps L w) {x : SN} {p : Person} (hp : p ∈ ps) (ok : okW w x p = true) : GoodW ps (L ++ [x]) (w ++ [(x.1, p)]) := by
  unfold okW at ok
  simp only [Bool.and_eq_true, Bool.not_eq_true', decide_eq_false_iff_not, decide_eq_true_eq] at ok
  obtain ⟨⟨o1, o2⟩, o3⟩ := ok
  have nin : ∀ (i : Nat) (y : Shift × Person), w[i]? = some y → y.2.name = p.name → dayS y.1 ≠ dayS x.1 := fun i y hi hn e => o2 (List.mem_map.mpr ⟨y.1, heldW_mem.mpr ⟨i, y, hi, hn, rfl⟩, e⟩)
  refine ⟨by simp [h.len], fun i x' y hx hy => ?_, fun i j y z hij hy hz hn => ?_, fun q hq => ?_⟩
  · rcases get_snoc hx with ⟨l1, e1⟩ | ⟨l1, e1⟩
    · rcases get_snoc hy with ⟨l2, e2⟩ | ⟨l2, e2⟩
      · exact h.fit i x' y e1 e2
      · have := h.len
        omega
    · rcases get_snoc hy with ⟨l2, e2⟩ | ⟨l2, e2⟩
      · have := h.len
        omega
      · subst e1 e2
        exact ⟨rfl, hp, o1⟩
  · rcases get_snoc hy with ⟨l1, e1⟩ | ⟨l1, e1⟩
    · rcases get_snoc hz with ⟨l2, e2⟩ | ⟨l2, e2⟩
      · exact h.ap i j y z hij e1 e2 hn
      · subst e2
        exact nin i y e1 hn
    · rcases get_snoc hz with ⟨l2, e2⟩ | ⟨l2, e2⟩
      · subst e1
        exact fun e => nin j z e2 hn.symm e.symm
      · omega
  · rw [heldW_app]
    have := h.lim q hq
    by_cases hn : p.name = q.name
    · have : p = q := nodup_inj nd hp hq hn
      subst this
      simp
      omega
    · simp [hn]
      exact this
theorem ways_good : ∀ (L L0 : List SN) (W : List (List (Shift × Person))), (∀ w ∈ W, GoodW ps L0 w) → ∀ w ∈ L.foldl (stepW ps) W, GoodW ps (L0 ++ L) w
  | [], L0, W, h, w, hw => by
    rw [List.append_nil]
    exact h w hw
  | x :: L, L0, W, h, w, hw => by
    have := ways_good L (L0 ++ [x]) (stepW ps W x) (fun v hv => by
      unfold stepW stepW1 at hv
      rw [List.mem_flatMap] at hv
      obtain ⟨u, hu, hv⟩ := hv
      obtain ⟨p, hp, rfl⟩ := List.mem_map.mp hv
      rw [List.mem_filter] at hp
      exact (h u hu).snoc nd hp.1 hp.2) w hw
    rw [List.append_assoc] at this
    exact this
theorem good_ways : ∀ (L L0 : List SN) (W : List (List (Shift × Person))) (w : List (Shift × Person)), GoodW ps (L0 ++ L) w → w.take L0.length ∈ W → w ∈ L.foldl (stepW ps) W
  | [], L0, W, w, h, hm => by
    have := h.len
    rw [List.append_nil] at this
    rw [← this, List.take_length] at hm
    exact hm
  | x :: L, L0, W, w, h, hm => by
    have hl := h.len
    simp only [List.length_append, List.length_cons] at hl
    have hlt : L0.length < w.length := by omega
    have hx : (L0 ++ x :: L)[L0.length]? = some x := by simp
    obtain ⟨f1, f2, f3⟩ := h.fit L0.length x w[L0.length] hx (List.getElem?_eq_getElem hlt)
    have ht : w.take (L0 ++ [x]).length = w.take L0.length ++ [w[L0.length]] := by
      rw [List.length_append, List.length_singleton, List.take_succ, List.getElem?_eq_getElem hlt]
      rfl
    have he : w[L0.length] = (x.1, w[L0.length].2) := Prod.ext f1 rfl
    refine good_ways L (L0 ++ [x]) (stepW ps W x) w (by rw [List.append_assoc]; exact h) ?_
    rw [ht]
    unfold stepW stepW1
    rw [List.mem_flatMap]
    refine ⟨_, hm, List.mem_map.mpr ⟨w[L0.length].2, List.mem_filter.mpr ⟨f2, ?_⟩, by rw [← he]⟩⟩
    unfold okW
    simp only [Bool.and_eq_true, Bool.not_eq_true', decide_eq_false_iff_not, decide_eq_true_eq]
    refine ⟨⟨f3, fun hd => ?_⟩, ?_⟩
    · obtain ⟨s, hs, e⟩ := List.mem_map.mp hd
      obtain ⟨i, y, hi, hn, rfl⟩ := heldW_mem.mp hs
      have hil : i < L0.length := by
        have := (List.getElem?_eq_some_iff.mp hi).1
        rw [List.length_take] at this
        omega
      rw [List.getElem?_take_of_lt hil] at hi
      have := h.ap i L0.length y w[L0.length] (by omega) hi (List.getElem?_eq_getElem hlt) hn
      rw [f1] at this
      exact this e
    · have h1 := h.lim _ f2
      have h2 : (heldW (w.take L0.length ++ [w[L0.length]]) w[L0.length].2).length ≤ (heldW w w[L0.length].2).length := by
        have sl : (w.take L0.length ++ [w[L0.length]]).Sublist w := by
          rw [← ht]
          exact List.take_sublist _ _
        unfold heldW
        exact ((sl.filter _).map _).length_le
      rw [heldW_app, if_pos rfl, List.length_append, List.length_singleton] at h2
      omega
end
theorem heldW_count (w : List (Shift × Person)) (p : Person) : (heldW w p).length = (w.map fun y => some y.2.name).count (some p.name) := by
  induction w with
  | nil => rfl
  | cons y w ih =>
    unfold heldW at ih ⊢
    rw [List.filter_cons, List.map_cons, List.count_cons]
    by_cases h : y.2.name = p.name
    · simp [h] at ih ⊢
      exact ih
    · simp [h] at ih ⊢
      exact ih
section
variable {ps : List Person} {ss : List Shift} (g : GM ps ss)
include g
theorem good_valid {w : List (Shift × Person)} (h : GoodW ps (plN ss) w) : (w.map fun y => some y.2.name).length = (plN ss).length ∧ ValidM (mW ps ss (w.map fun y => some y.2.name)) (w.map fun y => some y.2.name).length := by
  have hl : (w.map fun y => some y.2.name).length = (plN ss).length := by rw [List.length_map, h.len]
  have get : ∀ {i : Nat} {n : Str}, (w.map fun y => some y.2.name)[i]? = some (some n) → ∃ y x, w[i]? = some y ∧ y.2.name = n ∧ (plN ss)[i]? = some x := fun {i n} e => by
    rw [List.getElem?_map] at e
    obtain ⟨y, hy, e⟩ := Option.map_eq_some_iff.mp e
    have hi : i < (plN ss).length := by
      rw [← h.len]
      exact (List.getElem?_eq_some_iff.mp hy).1
    exact ⟨y, (plN ss)[i], hy, Option.some.inj e, List.getElem?_eq_getElem hi⟩
  refine ⟨hl, ⟨fun i j n hij hi hj => ?_, fun n => ?_, fun i n hi => ?_, fun i hi => ?_, fun i h1 h2 => absurd h2 (Nat.not_lt.mpr h1), fun i n hi => ?_⟩⟩
  · obtain ⟨y, x, hy, ey, hx⟩ := get hi
    obtain ⟨z, x', hz, ez, hx'⟩ := get hj
    rw [dy_at hx, dy_at hx']
    have := h.ap i j y z hij hy hz (ey.trans ez.symm)
    rw [(h.fit i x y hx hy).1, (h.fit j x' z hx' hz).1] at this
    exact fun e => this (Option.some.inj e)
  · rw [held_len]
    show (w.map fun y => some y.2.name).count (some n) = 0 ∨ _
    by_cases hc : (w.map fun y => some y.2.name).count (some n) = 0
    · exact .inl hc
    · right
      have hm : some n ∈ w.map fun y => some y.2.name := List.count_pos_iff.mp (by omega)
      obtain ⟨y, hy, e⟩ := List.mem_map.mp hm
      obtain ⟨i, hi⟩ := List.getElem?_of_mem hy
      have hlt : i < (plN ss).length := by
        rw [← h.len]
        exact (List.getElem?_eq_some_iff.mp hi).1
      have hp := (h.fit i _ y (List.getElem?_eq_getElem hlt) hi).2.1
      have en : y.2.name = n := Option.some.inj e
      rw [← en, lim_at g hp]
      have := h.lim y.2 hp
      rw [heldW_count] at this
      exact this
  · obtain ⟨y, x, hy, ey, hx⟩ := get hi
    rw [abM_at hx]
    have := h.fit i x y hx hy
    exact able_mem.mpr ⟨y.2, this.2.1, this.2.2, ey⟩
  · rw [List.length_map] at hi
    refine ⟨w[i].2.name, ?_⟩
    show (w.map fun y => some y.2.name)[i]? = _
    rw [List.getElem?_map, List.getElem?_eq_getElem hi]
    rfl
  · obtain ⟨x, _, p, hp, _, rfl⟩ := abM_mem hi
    rw [lim_at g hp]
    exact (g.gp p hp).lim.1
omit g in
theorem named : ∀ (L : List SN) (wh : List (Option Str)), L.length = wh.length → (∀ i, i < wh.length → ∃ p ∈ ps, wh[i]? = some (some p.name)) → ∃ w : List (Shift × Person), w.length = L.length ∧ (w.map fun y => some y.2.name) = wh ∧ ∀ (i : Nat) (x : SN) (y : Shift × Person), L[i]? = some x → w[i]? = some y → y.1 = x.1 ∧ y.2 ∈ ps
  | [], [], _, _ => ⟨[], rfl, rfl, fun i x y h => by simp at h⟩
  | [], _ :: _, h, _ => by simp at h
  | _ :: _, [], h, _ => by simp at h
  | x :: L, o :: wh, h, hw => by
    obtain ⟨w, h1, h2, h3⟩ := named L wh (by simpa using h) fun i hi => by
      obtain ⟨p, hp, e⟩ := hw (i + 1) (by simpa using hi)
      exact ⟨p, hp, by simpa using e⟩
    obtain ⟨p, hp, e⟩ := hw 0 (by simp)
    simp at e
    refine ⟨(x.1, p) :: w, by simp [h1], by simp [h2, e], fun i x' y hx hy => ?_⟩
    cases i with
    | zero =>
      simp at hx hy
      subst hx hy
      exact ⟨rfl, hp⟩
    | succ i => exact h3 i x' y (by simpa using hx) (by simpa using hy)
theorem valid_good {wh : List (Option Str)} (hl : wh.length = (plN ss).length) (v : ValidM (mW ps ss wh) wh.length) : ∃ w, GoodW ps (plN ss) w := by
  obtain ⟨w, h1, h2, h3⟩ := named (ps := ps) (plN ss) wh hl.symm fun i hi => by
    obtain ⟨n, hn⟩ := v.fil i hi
    obtain ⟨x, _, p, hp, _, e⟩ := abM_mem (v.able i n hn)
    exact ⟨p, hp, by rw [e]; exact hn⟩
  have get : ∀ {i : Nat} {y : Shift × Person}, w[i]? = some y → wh[i]? = some (some y.2.name) ∧ ∃ x, (plN ss)[i]? = some x := fun {i y} hy => by
    have hi : i < (plN ss).length := by
      rw [← h1]
      exact (List.getElem?_eq_some_iff.mp hy).1
    refine ⟨?_, (plN ss)[i], List.getElem?_eq_getElem hi⟩
    rw [← h2, List.getElem?_map, hy]
    rfl
  refine ⟨w, ⟨h1, fun i x y hx hy => ?_, fun i j y z hij hy hz hn => ?_, fun p hp => ?_⟩⟩
  · obtain ⟨a1, a2⟩ := h3 i x y hx hy
    refine ⟨a1, a2, ?_⟩
    have := v.able i _ (get hy).1
    rw [abM_at hx] at this
    obtain ⟨q, hq, hm, e⟩ := able_mem.mp this
    have : q = y.2 := nodup_inj g.pn hq a2 e
    subst this
    exact hm
  · obtain ⟨a1, x, hx⟩ := get hy
    obtain ⟨b1, x', hx'⟩ := get hz
    have := v.ap i j y.2.name hij a1 (by rw [hn]; exact b1)
    rw [dy_at hx, dy_at hx'] at this
    rw [(h3 i x y hx hy).1, (h3 j x' z hx' hz).1]
    exact fun e => this (by rw [e])
  · rw [heldW_count, h2]
    have := v.li p.name
    rw [held_len, lim_at g hp] at this
    have h4 := (g.gp p hp).lim.1
    have : (mW ps ss wh).wh.count (some p.name) = wh.count (some p.name) := rfl
    omega
/-- a rota is told just where some way is whole -/
theorem dealt_ways {d : PyData} (h : Dealt ps ss d) : (waysM ps (plN ss) ≠ [] ∧ ∃ rows : List PyData, d = .tuple [.str "rota", .list rows] ∧ rows.length = (plN ss).length) ∨ (waysM ps (plN ss) = [] ∧ ∃ T : List PyData, d = .tuple [.str "short", .list T] ∧ 0 < T.length ∧ T.length ≤ 84) := by
  cases h with
  | rota wh hl v =>
    left
    obtain ⟨w, hw⟩ := valid_good g hl v
    have := good_ways g.pn (plN ss) [] [[]] w hw (by simp)
    refine ⟨fun e => ?_, _, rfl, by simp [hl]⟩
    have e' : (plN ss).foldl (stepW ps) [[]] = [] := e
    rw [e'] at this
    cases this
  | short S hne hlt =>
    right
    refine ⟨?_, _, rfl, ?_, ?_⟩
    · cases hw : waysM ps (plN ss) with
      | nil => rfl
      | cons w W =>
        exfalso
        have hm : w ∈ (plN ss).foldl (stepW ps) [[]] := by
          show w ∈ waysM ps (plN ss)
          rw [hw]
          exact List.mem_cons_self
        have gw := ways_good g.pn (plN ss) [] [[]] (fun u hu => by
          rw [List.mem_singleton] at hu
          subst hu
          refine ⟨rfl, fun i x y h => by simp at h, fun i j y z _ h => by simp at h, fun p hp => ?_⟩
          have := (g.gp p hp).lim.1
          show (0 : Int) ≤ p.limit
          omega) w hm
        obtain ⟨hl, v⟩ := good_valid g gw
        have := valid_room g hl v (((allN ss).map keyN).filter fun k => decide (k ∈ S))
        omega
    · rw [List.length_map]
      exact List.length_pos_iff.mpr hne
    · rw [List.length_map]
      have h1 := List.length_filter_le (fun k => decide (k ∈ S)) ((allN ss).map keyN)
      rw [List.length_map] at h1
      exact Nat.le_trans h1 (allN_len g.gs g.sl)
end
end RK
namespace RK
open PySem PySem.Spec PyProof.Rows L2 RT
/-! ### k11: the small parts -/
theorem pickE {α : Type} (enc : α → PyData) {l : List α} {i n : Int} (hn : n = (l.length : Int)) (h0 : 0 < n) : ∃ x, x ∈ l ∧ atI (l.map enc) (i % n) = some (enc x) := by
  obtain ⟨x, h1, h2⟩ := atI_mod (l.map enc) i n (by rw [List.length_map]; exact hn) h0
  obtain ⟨y, hy, rfl⟩ := List.mem_map.mp h1
  exact ⟨y, hy, h2⟩
theorem nameS_inj {p p' c c' : Int} (hp : 0 ≤ p ∧ p < 93) (hp' : 0 ≤ p' ∧ p' < 93) (h : nameS p c = nameS p' c') : p = p' := by
  have h1 : nameC p c = nameC p' c' := by
    have := congrArg (fun s : Str => s.cps.toList) h
    simpa [nameS] using this
  have h2 : (nameC p c).getLast? = (nameC p' c').getLast? := by rw [h1]
  unfold nameC at h2
  rw [List.getLast?_concat, List.getLast?_concat] at h2
  exact sg_inj hp hp' (Option.some.inj h2)
theorem nodup_nameS (a : Int) (c : Nat → Int) (n : Nat) (h : 0 ≤ a ∧ a + n < 93) : ((List.range n).map fun (i : Nat) => nameS (a + (i : Int)) (c i)).Nodup := by
  rw [List.nodup_iff_pairwise_ne, List.pairwise_map]
  refine List.Pairwise.imp_of_mem ?_ (List.nodup_iff_pairwise_ne.mp List.nodup_range)
  intro i j hi hj hij e
  have h1 := List.mem_range.mp hi
  have h2 := List.mem_range.mp hj
  have := nameS_inj (p := a + (i : Int)) (p' := a + (j : Int)) (by omega) (by omega) e
  omega
def menO (s0 s1 : Str) : List (List Str) := [[s0, s1], [s0], [s1], [s1, s0]]
def menR : List (List (Int × Int)) := [[], [], [(6, 7)], [(20, 30)], [(40, 41)]]
def menN (s0 s1 : Str) : List (List (Str × Int)) := [[(s0, 1)], [(s1, 2)], [(s0, 1), (s1, 1)], [(s1, 1), (s0, 1)], [(s0, 2)], [(s0, 1), (s1, 1)]]
def rhoS (ns : List Int) (f : Int) (s0 s1 : Str) (s3 s4 s5 s6 s7 s8 s9 s10 s11 : Sl) : Rho := [.val (scrD ns), .val (.int f), .val (.list [.str s0, .str s1]), s3, s4, s5, s6, s7, s8, s9, s10, s11]
section
variable (ns : List Int) (f : Int) {s0 s1 : Str} (n0 : isName s0 = true) (n1 : isName s1 = true) (hne : s0 ≠ s1)
include n0 n1 hne
theorem small_people (n : Nat) (hn : n ≤ 3) (s4 s5 s6 s7 : Sl) :
    ∃ ρ', forF (tg1 4) (sSeq (sSet 5 (eCall F_cell (eCons (eVar 0) (eCons (eOp gAdd (eC (.int 1)) (eVarB 4)) eNil))))
  (sSeq (sSet 6 (eOp gIx (eList (eLstD (eCons (eList (eLstD (eCons (eOp gIx (eVarB 2) (eC (.int 0))) (eCons (eOp gIx (eVarB 2) (eC (.int 1))) eNil)))) (eCons (eList (eLstD (eCons (eOp gIx (eVarB 2) (eC (.int 0))) eNil))) (eCons (eList (eLstD (eCons (eOp gIx (eVarB 2) (eC (.int 1))) eNil))) (eCons (eList (eLstD (eCons (eOp gIx (eVarB 2) (eC (.int 1))) (eCons (eOp gIx (eVarB 2) (eC (.int 0))) eNil)))) eNil)))))) (eOp gMod (eVarB 5) (eC (.int 4)))))
  (sSeq (sSet 7 (eOp gIx (eList (eLstD (eCons (eList (eLstD eNil)) (eCons (eList (eLstD eNil)) (eCons (eList (eLstD (eCons (eTupD (eCons (eC (.int 6)) (eCons (eC (.int 7)) eNil))) eNil))) (eCons (eList (eLstD (eCons (eTupD (eCons (eC (.int 20)) (eCons (eC (.int 30)) eNil))) eNil))) (eCons (eList (eLstD (eCons (eTupD (eCons (eC (.int 40)) (eCons (eC (.int 41)) eNil))) eNil))) eNil))))))) (eOp gMod (eOp gFdiv (eVarB 5) (eC (.int 8))) (eC (.int 5)))))
  (sApp 3 (eTupD (eCons (eCall F_name_by (eCons (eVar 4) (eCons (eVar 5) eNil))) (eCons (eVar 6) (eCons (eOp gAdd (eC (.int 1)) (eOp gMod (eOp gFdiv (eVarB 5) (eC (.int 4))) (eC (.int 2)))) (eCons (eVar 7) eNil))))))))) (rangeD 0 n) (rhoS ns f s0 s1 (.own []) s4 s5 s6 s7 .no .no .no .no) = .nx ρ' ∧
      ∃ (ps : List Person) (s4 s5 s6 s7 : Sl), ρ' = rhoS ns f s0 s1 (.own (ps.map perD)) s4 s5 s6 s7 .no .no .no .no ∧ ps.map (·.name) = (List.range n).map (fun (i : Nat) => nameS (0 + (i : Int)) (cell ns (1 + i))) ∧ ∀ p ∈ ps, GP p := by
  refine forF_rng (fun k ρ => ∃ (ps : List Person) (s4 s5 s6 s7 : Sl), ρ = rhoS ns f s0 s1 (.own (ps.map perD)) s4 s5 s6 s7 .no .no .no .no ∧ ps.map (·.name) = (List.range k).map (fun (i : Nat) => nameS (0 + (i : Int)) (cell ns (1 + i))) ∧ ∀ p ∈ ps, GP p) ⟨[], _, _, _, _, rfl, rfl, fun _ h => absurd h List.not_mem_nil⟩ ?_
  rintro k _ hkn ⟨ps, t4, t5, t6, t7, rfl, hp, gp⟩
  have fc := F_cell_eq ns (1 + k)
  rw [show ((1 + k : Nat) : Int) = 1 + (k : Int) by omega] at fc
  generalize hc : cell ns (1 + k) = c at fc
  obtain ⟨own, ho, eo⟩ := pickE (fun l : List Str => PyData.list (l.map .str)) (l := menO s0 s1) (i := c) (n := 4) rfl (by decide)
  obtain ⟨rs, hr, er⟩ := pickE (fun l : List (Int × Int) => PyData.list (l.map stD)) (l := menR) (i := c / 8) (n := 5) rfl (by decide)
  have nb := F_name_by_eq (k : Int) c
  have m0 := Int.emod_nonneg (c / 4) (show (2 : Int) ≠ 0 by decide)
  have m1 := Int.emod_lt_of_pos (c / 4) (show (0 : Int) < 2 by decide)
  have hl : ps.length = k := by
    have := congrArg List.length hp
    simpa using this
  have ll : (ps.map perD).length ≤ LIM := by rw [List.length_map, hl]; unfold LIM; omega
  refine ⟨rhoS ns f s0 s1 (.own ((ps ++ [(⟨nameS k c, own, 1 + c / 4 % 2, rs⟩ : Person)]).map perD)) (.val (.int (k : Int))) (.val (.int c)) (.val (.list (own.map .str))) (.val (.list (rs.map stD))) .no .no .no .no, ?_, _, _, _, _, _, rfl, ?_, ?_⟩
  · have a5 : sSet 5 (eCall F_cell (eCons (eVar 0) (eCons (eOp gAdd (eC (.int 1)) (eVarB 4)) eNil))) (rhoS ns f s0 s1 (.own (ps.map perD)) (.val (.int (k : Int))) t5 t6 t7 .no .no .no .no) = .nx (rhoS ns f s0 s1 (.own (ps.map perD)) (.val (.int (k : Int))) (.val (.int c)) t6 t7 .no .no .no .no) := by simp [rhoS, fc]
    have a6 : sSet 6 (eOp gIx (eList (eLstD (eCons (eList (eLstD (eCons (eOp gIx (eVarB 2) (eC (.int 0))) (eCons (eOp gIx (eVarB 2) (eC (.int 1))) eNil)))) (eCons (eList (eLstD (eCons (eOp gIx (eVarB 2) (eC (.int 0))) eNil))) (eCons (eList (eLstD (eCons (eOp gIx (eVarB 2) (eC (.int 1))) eNil))) (eCons (eList (eLstD (eCons (eOp gIx (eVarB 2) (eC (.int 1))) (eCons (eOp gIx (eVarB 2) (eC (.int 0))) eNil)))) eNil)))))) (eOp gMod (eVarB 5) (eC (.int 4)))) (rhoS ns f s0 s1 (.own (ps.map perD)) (.val (.int (k : Int))) (.val (.int c)) t6 t7 .no .no .no .no) = .nx (rhoS ns f s0 s1 (.own (ps.map perD)) (.val (.int (k : Int))) (.val (.int c)) (.val (.list (own.map .str))) t7 .no .no .no .no) := by
      simp only [menO, List.map_cons, List.map_nil] at eo
      simp [rhoS, eo]
    have a7 : sSet 7 (eOp gIx (eList (eLstD (eCons (eList (eLstD eNil)) (eCons (eList (eLstD eNil)) (eCons (eList (eLstD (eCons (eTupD (eCons (eC (.int 6)) (eCons (eC (.int 7)) eNil))) eNil))) (eCons (eList (eLstD (eCons (eTupD (eCons (eC (.int 20)) (eCons (eC (.int 30)) eNil))) eNil))) (eCons (eList (eLstD (eCons (eTupD (eCons (eC (.int 40)) (eCons (eC (.int 41)) eNil))) eNil))) eNil))))))) (eOp gMod (eOp gFdiv (eVarB 5) (eC (.int 8))) (eC (.int 5)))) (rhoS ns f s0 s1 (.own (ps.map perD)) (.val (.int (k : Int))) (.val (.int c)) (.val (.list (own.map .str))) t7 .no .no .no .no) = .nx (rhoS ns f s0 s1 (.own (ps.map perD)) (.val (.int (k : Int))) (.val (.int c)) (.val (.list (own.map .str))) (.val (.list (rs.map stD))) .no .no .no .no) := by
      simp only [menR, List.map_cons, List.map_nil, stD] at er
      simp [rhoS, er, stD]
    have a3 : sApp 3 (eTupD (eCons (eCall F_name_by (eCons (eVar 4) (eCons (eVar 5) eNil))) (eCons (eVar 6) (eCons (eOp gAdd (eC (.int 1)) (eOp gMod (eOp gFdiv (eVarB 5) (eC (.int 4))) (eC (.int 2)))) (eCons (eVar 7) eNil))))) (rhoS ns f s0 s1 (.own (ps.map perD)) (.val (.int (k : Int))) (.val (.int c)) (.val (.list (own.map .str))) (.val (.list (rs.map stD))) .no .no .no .no) = .nx (rhoS ns f s0 s1 (.own ((ps ++ [(⟨nameS k c, own, 1 + c / 4 % 2, rs⟩ : Person)]).map perD)) (.val (.int (k : Int))) (.val (.int c)) (.val (.list (own.map .str))) (.val (.list (rs.map stD))) .no .no .no .no) := by
      rw [List.length_map] at ll
      simp [rhoS, nb, perD, ll]
    show (sSeq _ _ (rhoS ns f s0 s1 (.own (ps.map perD)) (.val (.int (k : Int))) t5 t6 t7 .no .no .no .no)) = _
    rw [sSeq_eq, a5, thn_nx, sSeq_eq, a6, thn_nx, sSeq_eq, a7, thn_nx, a3]
  · rw [List.map_append, hp, List.range_succ, List.map_append]
    simp [hc]
  · intro p hpm
    rcases List.mem_append.mp hpm with h | h
    · exact gp p h
    · rw [List.mem_singleton] at h
      subst h
      have hown : (∀ k ∈ own, isName k = true) ∧ own.Nodup ∧ own.length ≤ 15 := by
        unfold menO at ho
        simp only [List.mem_cons, List.not_mem_nil, or_false] at ho
        rcases ho with rfl | rfl | rfl | rfl
        · exact ⟨fun k hk => by simp at hk; rcases hk with rfl | rfl <;> assumption, by simp [hne], by simp⟩
        · exact ⟨fun k hk => by simp at hk; subst hk; assumption, by simp, by simp⟩
        · exact ⟨fun k hk => by simp at hk; subst hk; assumption, by simp, by simp⟩
        · exact ⟨fun k hk => by simp at hk; rcases hk with rfl | rfl <;> assumption, by simp [Ne.symm hne], by simp⟩
      have hrs : (∀ r ∈ rs, 0 ≤ r.1 ∧ r.1 < r.2 ∧ r.2 ≤ 1000000) ∧ rs.length ≤ 3 := by
        have : ∀ l ∈ menR, (∀ r ∈ l, 0 ≤ r.1 ∧ r.1 < r.2 ∧ r.2 ≤ 1000000) ∧ l.length ≤ 3 := by decide
        exact this rs hr
      exact ⟨nameS_ok _ _, hown.1, hown.2.1, hown.2.2, by show 1 ≤ 1 + c / 4 % 2 ∧ 1 + c / 4 % 2 ≤ 31; omega, hrs.1, hrs.2⟩
def cntS (s : Shift) : Nat := (s.needs.map fun n => n.2.toNat).sum
theorem small_shifts (P : List PyData) (n : Nat) (hn : n ≤ 2) (s4 s5 s6 s7 : Sl) :
    ∃ ρ', forF (tg1 4) (sSeq (sSet 5 (eCall F_cell (eCons (eVar 0) (eCons (eOp gAdd (eC (.int 5)) (eVarB 4)) eNil))))
  (sSeq (sSet 9 (eOp gAdd (eOp gMul (eC (.int 24)) (eOp gMod (eVarB 5) (eC (.int 2)))) (eOp gMul (eC (.int 4)) (eOp gMod (eOp gFdiv (eVarB 5) (eC (.int 2))) (eC (.int 4))))))
  (sSeq (sSet 10 (eList (eLstD (eCons (eTupD (eCons (eOp gIx (eVarB 2) (eC (.int 0))) (eCons (eC (.int 1)) eNil))) (eCons (eTupD (eCons (eOp gIx (eVarB 2) (eC (.int 1))) (eCons (eC (.int 1)) eNil))) eNil)))))
  (sSeq (sSet 11 (eOp gIx (eList (eLstD (eCons (eList (eLstD (eCons (eTupD (eCons (eOp gIx (eVarB 2) (eC (.int 0))) (eCons (eC (.int 1)) eNil))) eNil))) (eCons (eList (eLstD (eCons (eTupD (eCons (eOp gIx (eVarB 2) (eC (.int 1))) (eCons (eC (.int 2)) eNil))) eNil))) (eCons (eVar 10) (eCons (eList (eLstD (eCons (eOp gIx (eVarB 10) (eC (.int 1))) (eCons (eOp gIx (eVarB 10) (eC (.int 0))) eNil)))) (eCons (eList (eLstD (eCons (eTupD (eCons (eOp gIx (eVarB 2) (eC (.int 0))) (eCons (eC (.int 2)) eNil))) eNil))) (eCons (eVar 10) eNil)))))))) (eOp gMod (eOp gFdiv (eVarB 5) (eC (.int 8))) (eC (.int 6)))))
  (sApp 8 (eTupD (eCons (eCall F_name_by (eCons (eOp gAdd (eC (.int 40)) (eVarB 4)) (eCons (eVar 5) eNil))) (eCons (eTupD (eCons (eVar 9) (eCons (eOp gAdd (eVarB 9) (eC (.int 12))) eNil))) (eCons (eVar 11) eNil))))))))) (rangeD 0 n) (rhoS ns f s0 s1 (.own P) s4 s5 s6 s7 (.own []) .no .no .no) = .nx ρ' ∧
      ∃ (ss : List Shift) (s4 s5 s9 s10 s11 : Sl), ρ' = rhoS ns f s0 s1 (.own P) s4 s5 s6 s7 (.own (ss.map shD)) s9 s10 s11 ∧ ss.map (·.name) = (List.range n).map (fun (i : Nat) => nameS (40 + (i : Int)) (cell ns (5 + i))) ∧ ∀ s ∈ ss, GS s ∧ cntS s ≤ 2 := by
  refine forF_rng (fun k ρ => ∃ (ss : List Shift) (s4 s5 s9 s10 s11 : Sl), ρ = rhoS ns f s0 s1 (.own P) s4 s5 s6 s7 (.own (ss.map shD)) s9 s10 s11 ∧ ss.map (·.name) = (List.range k).map (fun (i : Nat) => nameS (40 + (i : Int)) (cell ns (5 + i))) ∧ ∀ s ∈ ss, GS s ∧ cntS s ≤ 2) ⟨[], _, _, _, _, _, rfl, rfl, fun _ h => absurd h List.not_mem_nil⟩ ?_
  rintro k _ hkn ⟨ss, t4, t5, t9, t10, t11, rfl, hp, gp⟩
  have fc := F_cell_eq ns (5 + k)
  rw [show ((5 + k : Nat) : Int) = 5 + (k : Int) by omega] at fc
  generalize hc : cell ns (5 + k) = c at fc
  obtain ⟨nd, hr, er⟩ := pickE (fun l : List (Str × Int) => PyData.list (l.map ndD)) (l := menN s0 s1) (i := c / 8) (n := 6) rfl (by decide)
  have nb := F_name_by_eq (40 + (k : Int)) c
  have b0 := Int.emod_nonneg c (show (2 : Int) ≠ 0 by decide)
  have b1 := Int.emod_lt_of_pos c (show (0 : Int) < 2 by decide)
  have b2 := Int.emod_nonneg (c / 2) (show (4 : Int) ≠ 0 by decide)
  have b3 := Int.emod_lt_of_pos (c / 2) (show (0 : Int) < 4 by decide)
  have mu1 : gMul (.int 24) (.int (c % 2)) = some (.int (24 * (c % 2))) := gMul_int _ _ (cMul_l (by decide))
  have mu2 : gMul (.int 4) (.int (c / 2 % 4)) = some (.int (4 * (c / 2 % 4))) := gMul_int _ _ (cMul_l (by decide))
  generalize hb : 24 * (c % 2) + 4 * (c / 2 % 4) = b
  have hl : ss.length = k := by
    have := congrArg List.length hp
    simpa using this
  have ll : (ss.map shD).length ≤ LIM := by rw [List.length_map, hl]; unfold LIM; omega
  refine ⟨rhoS ns f s0 s1 (.own P) (.val (.int (k : Int))) (.val (.int c)) s6 s7 (.own ((ss ++ [(⟨nameS (40 + (k : Int)) c, b, b + 12, nd⟩ : Shift)]).map shD)) (.val (.int b)) (.val (.list [ndD (s0, 1), ndD (s1, 1)])) (.val (.list (nd.map ndD))), ?_, _, _, _, _, _, _, rfl, ?_, ?_⟩
  · have a5 : sSet 5 (eCall F_cell (eCons (eVar 0) (eCons (eOp gAdd (eC (.int 5)) (eVarB 4)) eNil))) (rhoS ns f s0 s1 (.own P) (.val (.int (k : Int))) t5 s6 s7 (.own (ss.map shD)) t9 t10 t11) = .nx (rhoS ns f s0 s1 (.own P) (.val (.int (k : Int))) (.val (.int c)) s6 s7 (.own (ss.map shD)) t9 t10 t11) := by simp [rhoS, fc]
    have a9 : sSet 9 (eOp gAdd (eOp gMul (eC (.int 24)) (eOp gMod (eVarB 5) (eC (.int 2)))) (eOp gMul (eC (.int 4)) (eOp gMod (eOp gFdiv (eVarB 5) (eC (.int 2))) (eC (.int 4))))) (rhoS ns f s0 s1 (.own P) (.val (.int (k : Int))) (.val (.int c)) s6 s7 (.own (ss.map shD)) t9 t10 t11) = .nx (rhoS ns f s0 s1 (.own P) (.val (.int (k : Int))) (.val (.int c)) s6 s7 (.own (ss.map shD)) (.val (.int b)) t10 t11) := by
      simp [rhoS, mu1, mu2, hb]
    have a10 : sSet 10 (eList (eLstD (eCons (eTupD (eCons (eOp gIx (eVarB 2) (eC (.int 0))) (eCons (eC (.int 1)) eNil))) (eCons (eTupD (eCons (eOp gIx (eVarB 2) (eC (.int 1))) (eCons (eC (.int 1)) eNil))) eNil)))) (rhoS ns f s0 s1 (.own P) (.val (.int (k : Int))) (.val (.int c)) s6 s7 (.own (ss.map shD)) (.val (.int b)) t10 t11) = .nx (rhoS ns f s0 s1 (.own P) (.val (.int (k : Int))) (.val (.int c)) s6 s7 (.own (ss.map shD)) (.val (.int b)) (.val (.list [ndD (s0, 1), ndD (s1, 1)])) t11) := by
      simp [rhoS, ndD]
    have a11 : sSet 11 (eOp gIx (eList (eLstD (eCons (eList (eLstD (eCons (eTupD (eCons (eOp gIx (eVarB 2) (eC (.int 0))) (eCons (eC (.int 1)) eNil))) eNil))) (eCons (eList (eLstD (eCons (eTupD (eCons (eOp gIx (eVarB 2) (eC (.int 1))) (eCons (eC (.int 2)) eNil))) eNil))) (eCons (eVar 10) (eCons (eList (eLstD (eCons (eOp gIx (eVarB 10) (eC (.int 1))) (eCons (eOp gIx (eVarB 10) (eC (.int 0))) eNil)))) (eCons (eList (eLstD (eCons (eTupD (eCons (eOp gIx (eVarB 2) (eC (.int 0))) (eCons (eC (.int 2)) eNil))) eNil))) (eCons (eVar 10) eNil)))))))) (eOp gMod (eOp gFdiv (eVarB 5) (eC (.int 8))) (eC (.int 6)))) (rhoS ns f s0 s1 (.own P) (.val (.int (k : Int))) (.val (.int c)) s6 s7 (.own (ss.map shD)) (.val (.int b)) (.val (.list [ndD (s0, 1), ndD (s1, 1)])) t11) = .nx (rhoS ns f s0 s1 (.own P) (.val (.int (k : Int))) (.val (.int c)) s6 s7 (.own (ss.map shD)) (.val (.int b)) (.val (.list [ndD (s0, 1), ndD (s1, 1)])) (.val (.list (nd.map ndD)))) := by
      simp only [menN, List.map_cons, List.map_nil, ndD] at er
      simp [rhoS, er, ndD]
    have a8 : sApp 8 (eTupD (eCons (eCall F_name_by (eCons (eOp gAdd (eC (.int 40)) (eVarB 4)) (eCons (eVar 5) eNil))) (eCons (eTupD (eCons (eVar 9) (eCons (eOp gAdd (eVarB 9) (eC (.int 12))) eNil))) (eCons (eVar 11) eNil)))) (rhoS ns f s0 s1 (.own P) (.val (.int (k : Int))) (.val (.int c)) s6 s7 (.own (ss.map shD)) (.val (.int b)) (.val (.list [ndD (s0, 1), ndD (s1, 1)])) (.val (.list (nd.map ndD)))) = .nx (rhoS ns f s0 s1 (.own P) (.val (.int (k : Int))) (.val (.int c)) s6 s7 (.own ((ss ++ [(⟨nameS (40 + (k : Int)) c, b, b + 12, nd⟩ : Shift)]).map shD)) (.val (.int b)) (.val (.list [ndD (s0, 1), ndD (s1, 1)])) (.val (.list (nd.map ndD)))) := by
      rw [List.length_map] at ll
      simp [rhoS, nb, shD, stD, ll]
    show (sSeq _ _ (rhoS ns f s0 s1 (.own P) (.val (.int (k : Int))) t5 s6 s7 (.own (ss.map shD)) t9 t10 t11)) = _
    rw [sSeq_eq, a5, thn_nx, sSeq_eq, a9, thn_nx, sSeq_eq, a10, thn_nx, sSeq_eq, a11, thn_nx, a8]
  · rw [List.map_append, hp, List.range_succ, List.map_append]
    simp [hc]
  · intro s hs
    rcases List.mem_append.mp hs with h | h
    · exact gp s h
    · rw [List.mem_singleton] at h
      subst h
      have hnd : (∀ n ∈ nd, isName n.1 = true ∧ 1 ≤ n.2 ∧ n.2 ≤ 9) ∧ (nd.map (·.1)).Nodup ∧ nd.length ≤ 6 ∧ (nd.map fun n => n.2.toNat).sum ≤ 2 := by
        unfold menN at hr
        simp only [List.mem_cons, List.not_mem_nil, or_false] at hr
        rcases hr with rfl | rfl | rfl | rfl | rfl | rfl
        · exact ⟨fun n hn => by simp at hn; subst hn; exact ⟨n0, by simp, by simp⟩, by simp, by simp, by simp⟩
        · exact ⟨fun n hn => by simp at hn; subst hn; exact ⟨n1, by simp, by simp⟩, by simp, by simp, by simp⟩
        · exact ⟨fun n hn => by simp at hn; rcases hn with rfl | rfl; exact ⟨n0, by simp, by simp⟩; exact ⟨n1, by simp, by simp⟩, by simp [hne], by simp, by simp⟩
        · exact ⟨fun n hn => by simp at hn; rcases hn with rfl | rfl; exact ⟨n1, by simp, by simp⟩; exact ⟨n0, by simp, by simp⟩, by simp [Ne.symm hne], by simp, by simp⟩
        · exact ⟨fun n hn => by simp at hn; subst hn; exact ⟨n0, by simp, by simp⟩, by simp, by simp, by simp⟩
        · exact ⟨fun n hn => by simp at hn; rcases hn with rfl | rfl; exact ⟨n0, by simp, by simp⟩; exact ⟨n1, by simp, by simp⟩, by simp [hne], by simp, by simp⟩
      have hday : (b + 12 - 1) / 24 = b / 24 := by
        rw [← hb]
        have hu : c % 2 = 0 ∨ c % 2 = 1 := by omega
        have hv : c / 2 % 4 = 0 ∨ c / 2 % 4 = 1 ∨ c / 2 % 4 = 2 ∨ c / 2 % 4 = 3 := by omega
        rcases hu with e | e <;> rcases hv with e2 | e2 | e2 | e2 <;> rw [e, e2] <;> decide
      exact ⟨⟨nameS_ok _ _, by show 0 ≤ b ∧ b < b + 12 ∧ b + 12 ≤ 1000000; omega, by show (b + 12 - 1) / 24 = b / 24; exact hday, hnd.1, hnd.2.1, hnd.2.2.1⟩, hnd.2.2.2⟩
end
theorem plN_cnt : ∀ ss : List Shift, (∀ s ∈ ss, cntS s ≤ 2) → (plN ss).length ≤ 2 * ss.length
  | [], _ => Nat.le_refl _
  | s :: ss, h => by
    have ih := plN_cnt ss fun x hx => h x (List.mem_cons_of_mem _ hx)
    have hs := h s List.mem_cons_self
    have e : (plN (s :: ss)).length = cntS s + (plN ss).length := by
      unfold plN allN cntS
      rw [List.flatMap_cons, List.flatMap_append, List.length_append, List.flatMap_map]
      congr 1
      generalize s.needs = nd
      induction nd with
      | nil => rfl
      | cons n nd ih => rw [List.flatMap_cons, List.length_append, List.length_replicate, List.map_cons, List.sum_cons, ih]
    rw [e, List.length_cons]
    omega
theorem F_small_ok (ns : List Int) : ∃ ps ss, F_small_parts [scrD ns] = some (.tuple [.list (ps.map perD), .list (ss.map shD)]) ∧ GM ps ss ∧ ps.length ≤ 3 ∧ (plN ss).length ≤ 4 := by
  have f0 := F_cell_eq ns 0
  generalize hf : cell ns 0 = f at f0
  have hne : nameS 90 f ≠ nameS 91 (f / 3) := fun e => by
    have := nameS_inj (by decide) (by decide) e
    exact absurd this (by decide)
  obtain ⟨n, hn, en⟩ := pickE PyData.int (l := [2, 3, 1, 2, 3, 0]) (i := f) (n := 6) rfl (by decide)
  have hn3 : 0 ≤ n ∧ n ≤ 3 := by
    have : ∀ x ∈ ([2, 3, 1, 2, 3, 0] : List Int), 0 ≤ x ∧ x ≤ 3 := by decide
    exact this n hn
  have k0 := Int.emod_nonneg (f / 6) (show (3 : Int) ≠ 0 by decide)
  have k1 := Int.emod_lt_of_pos (f / 6) (show (0 : Int) < 3 by decide)
  obtain ⟨_, e1, ps, u4, u5, u6, u7, rfl, hp, gp⟩ := small_people ns f (nameS_ok 90 f) (nameS_ok 91 (f / 3)) hne n.toNat (by omega) .no .no .no .no
  obtain ⟨_, e2, ss, v4, v5, v9, v10, v11, rfl, hs, gs⟩ := small_shifts ns f (nameS_ok 90 f) (nameS_ok 91 (f / 3)) hne (ps.map perD) (f / 6 % 3).toNat (by omega) u4 u5 u6 u7
  have pl : ps.length = n.toNat := by
    have := congrArg List.length hp
    simpa using this
  have sl : ss.length = (f / 6 % 3).toNat := by
    have := congrArg List.length hs
    simpa using this
  refine ⟨ps, ss, ?_, ⟨?_, ?_, gp, fun s h => (gs s h).1, by omega, by omega⟩, by omega, ?_⟩
  · have nb0 := F_name_by_eq 90 f
    have nb1 := F_name_by_eq 91 (f / 3)
    have r0 : rho0 N_small_parts [scrD ns] = [.val (scrD ns), .no, .no, .no, .no, .no, .no, .no, .no, .no, .no, .no] := by simp [rho0, N_small_parts]
    have a1 : sSet 1 (eCall F_cell (eCons (eVar 0) (eCons (eC (.int 0)) eNil))) [.val (scrD ns), .no, .no, .no, .no, .no, .no, .no, .no, .no, .no, .no] = .nx [.val (scrD ns), .val (.int f), .no, .no, .no, .no, .no, .no, .no, .no, .no, .no] := by
      have c' : F_cell [scrD ns, .int 0] = some (.int f) := f0
      simp [c']
    have a2 : sSet 2 (eList (eLstD (eCons (eCall F_name_by (eCons (eC (.int 90)) (eCons (eVar 1) eNil))) (eCons (eCall F_name_by (eCons (eC (.int 91)) (eCons (eOp gFdiv (eVarB 1) (eC (.int 3))) eNil))) eNil)))) [.val (scrD ns), .val (.int f), .no, .no, .no, .no, .no, .no, .no, .no, .no, .no] = .nx (rhoS ns f (nameS 90 f) (nameS 91 (f / 3)) .no .no .no .no .no .no .no .no .no) := by
      simp [rhoS, nb0, nb1]
    have a3 : sSetL 3 (eLstD eNil) (rhoS ns f (nameS 90 f) (nameS 91 (f / 3)) .no .no .no .no .no .no .no .no .no) = .nx (rhoS ns f (nameS 90 f) (nameS 91 (f / 3)) (.own []) .no .no .no .no .no .no .no .no) := by simp [rhoS]
    have i4 : iR1 (eCons (eOp gIx (eList (eLstD (eCons (eC (.int 2)) (eCons (eC (.int 3)) (eCons (eC (.int 1)) (eCons (eC (.int 2)) (eCons (eC (.int 3)) (eCons (eC (.int 0)) eNil)))))))) (eOp gMod (eVarB 1) (eC (.int 6)))) eNil) (rhoS ns f (nameS 90 f) (nameS 91 (f / 3)) (.own []) .no .no .no .no .no .no .no .no) = some (rangeD 0 n.toNat) := by
      simp only [List.map_cons, List.map_nil] at en
      have hc : n ≤ 1000000 ∧ -1000000 ≤ n := by omega
      simp [rhoS, en, hc]
    have a8 : sSetL 8 (eLstD eNil) (rhoS ns f (nameS 90 f) (nameS 91 (f / 3)) (.own (ps.map perD)) u4 u5 u6 u7 .no .no .no .no) = .nx (rhoS ns f (nameS 90 f) (nameS 91 (f / 3)) (.own (ps.map perD)) u4 u5 u6 u7 (.own []) .no .no .no) := by simp [rhoS]
    have i8 : iR1 (eCons (eOp gMod (eOp gFdiv (eVarB 1) (eC (.int 6))) (eC (.int 3))) eNil) (rhoS ns f (nameS 90 f) (nameS 91 (f / 3)) (.own (ps.map perD)) u4 u5 u6 u7 (.own []) .no .no .no) = some (rangeD 0 (f / 6 % 3).toNat) := by
      have hc : f / 6 % 3 ≤ 1000000 ∧ -1000000 ≤ f / 6 % 3 := by omega
      simp [rhoS, hc]
    unfold F_small_parts
    rw [runF_eq, if_pos (show [scrD ns].length = 1 from rfl)]
    have hb : ∃ ρ, b_small_parts (rho0 N_small_parts [scrD ns]) = .rt (.tuple [.list (ps.map perD), .list (ss.map shD)]) ρ := by
      unfold b_small_parts
      rw [r0, sSeq_eq, a1, thn_nx, sSeq_eq, a2, thn_nx, sSeq_eq, a3, thn_nx, sSeq_eq, sFor_eq, i4, outL_some, e1, thn_nx, sSeq_eq, a8, thn_nx, sSeq_eq, sFor_eq, i8, outL_some, e2, thn_nx, sRet_eq]
      have v3 : eVar 3 ((rhoS ns f (nameS 90 f) (nameS 91 (f / 3)) (.own (ps.map perD)) v4 v5 u6 u7 (.own (ss.map shD)) v9 v10 v11).map frz1) = some (.list (ps.map perD)) := rfl
      have v8 : eVar 8 ((rhoS ns f (nameS 90 f) (nameS 91 (f / 3)) (.own (ps.map perD)) v4 v5 u6 u7 (.own (ss.map shD)) v9 v10 v11).map frz1) = some (.list (ss.map shD)) := rfl
      rw [eTupD_eq, eCons_eq, eCons_eq, v3, v8]
      exact ⟨_, rfl⟩
    obtain ⟨ρ, hb⟩ := hb
    rw [hb]
    rfl
  · rw [hp]
    exact nodup_nameS 0 (fun i => cell ns (1 + i)) n.toNat (by omega)
  · rw [hs]
    exact nodup_nameS 40 (fun i => cell ns (5 + i)) _ (by omega)
  · have := plN_cnt ss fun s h => (gs s h).2
    omega
end RK
namespace RK
open PySem PySem.Spec PyProof.Rows L2 RT
noncomputable section
variable {P : Program} {w : World} {K : PySem.W.Frag} {mg : Str → Option Value} {base : Heap}
abbrev N_law : List Str := ["_law_script", "_law_made", "_law_book", "_law_person", "_law_rest", "_law_places", "_law_shift", "_law_need", "_law_found"]
theorem sc_law : FnScope N_law ["_law_script"] (defScope s_law) := ⟨rfl, rfl, rfl, by decide +kernel, rfl, by decide +kernel, by decide +kernel⟩
def b_law : SS := (sSeq (sSet 1 (eCall F_small_parts (eCons (eVar 0) eNil)))
  (sSeq (sMkB 2)
  (sSeq (sFor (iL (eOp gIx (eVarB 1) (eC (.int 0)))) (tg1 3) (sSeq (sMut kB 2 fm_add_person (eCons (eOp gIx (eVarB 3) (eC (.int 0))) (eCons (eList (eCallL gListOf (eCons (eOp gIx (eVarB 3) (eC (.int 1))) eNil))) (eCons (eOp gIx (eVarB 3) (eC (.int 2))) eNil))))
  (sFor (iL (eOp gIx (eVarB 3) (eC (.int 3)))) (tg1 4) (sMut kB 2 fm_add_rest (eCons (eOp gIx (eVarB 3) (eC (.int 0))) (eCons (eVar 4) eNil))))))
  (sSeq (sSet 5 (eList (eLstD eNil)))
  (sSeq (sFor (iL (eOp gIx (eVarB 1) (eC (.int 1)))) (tg1 6) (sSeq (sMut kB 2 fm_add_shift (eCons (eOp gIx (eVarB 6) (eC (.int 0))) (eCons (eOp gIx (eVarB 6) (eC (.int 1))) (eCons (eList (eCallL gListOf (eCons (eOp gIx (eVarB 6) (eC (.int 2))) eNil))) eNil))))
  (sFor (iL (eOp gIx (eVarB 6) (eC (.int 2)))) (tg1 7) (sSet 5 (eOp gAdd (eVarB 5) (eOp gMul (eList (eLstD (eCons (eTupD (eCons (eVar 6) (eCons (eOp gIx (eVarB 7) (eC (.int 0))) eNil))) eNil))) (eOp gIx (eVarB 7) (eC (.int 1)))))))))
  (sSeq (sSet 8 (eMeth kB noB.bk 2 fr_dealt eNil))
  (sSeq (sIf (tOrF (tNotF (bF (eIsi .tuple (eVarB 8)))) (tOrF (bF (eOp gNe (eCall gLen (eCons (eVarB 8) eNil)) (eC (.int 2)))) (tNotF (bF (eIsi .list (eOp gIx (eVarB 8) (eC (.int 1)))))))) (sRet (eC (.bool false))) sNext)
  (sSeq (sIf (bF (eOp gNe (eCall F_ways (eCons (eVar 5) (eCons (eOp gIx (eVarB 1) (eC (.int 0))) eNil))) (eList (eLstD eNil)))) (sRet (eAndF (eOp gEq (eOp gIx (eVarB 8) (eC (.int 0))) (eC (.str "rota"))) (eOp gEq (eCall gLen (eCons (eOp gIx (eVarB 8) (eC (.int 1))) eNil)) (eCall gLen (eCons (eVarB 5) eNil))))) sNext)
  (sRet (eAndF (eOp gEq (eOp gIx (eVarB 8) (eC (.int 0))) (eC (.str "short"))) (eOp gGt (eCall gLen (eCons (eOp gIx (eVarB 8) (eC (.int 1))) eNil)) (eC (.int 0)))))))))))))
def F_law : List PyData → Option PyData := runF N_law 1 b_law
theorem okf_law (T : Txt K mg) {f : Addr} {fd : FuncData} (F : FunD K "law" "law" (defArgs s_law) (defBody s_law) (defScope s_law) [] [] f fd) : FnOk P w K mg base CX0 6 f fd ["_law_script"] (spPure K F_law) := by
  refine fn_mk (k := 5) F sc_law fun cdv A outer s H E hr => ?_
  have hu := hr.units
  have hv := hv_of hr
  exact ⟨_, ((ss_cons (s_set 1 sc_law.nd (se_call (ok_small_parts T) hr (x_ac (se_var 0) sa_nil)))
    (ss_cons (s_mkB 2 rfl (by exact (ps_set (i := 2) sc_law.nd rfl (Or.inl rfl) (pe_book T hr (by decide)))))
    (ss_cons (s_for PassesOwn.never rfl (si_list (se_ix (sb_var 1) (x_eb se_int))) (pg_name (i := 3) sc_law.nd rfl (by first | exact Or.inl rfl | exact Or.inr rfl)) (tg1_ok 3) (ss_cons (s_mut 2 (mm_add_person T) hr (x_ac (se_ix (sb_var 3) (x_eb se_int)) (x_ac (x_le (sl_ct listOf_s call_list_of T.z_list (x_abc (x_eb (se_ix (sb_var 3) (x_eb se_int))) sab_nil))) (x_ac (se_ix (sb_var 3) (x_eb se_int)) sa_nil))) (pv 2))
    (ss_one (s_for PassesOwn.never rfl (si_list (se_ix (sb_var 3) (x_eb se_int))) (pg_name (i := 4) sc_law.nd rfl (by first | exact Or.inl rfl | exact Or.inr rfl)) (tg1_ok 4) (ss_one (s_mut 2 (mm_add_rest T) hr (x_ac (se_ix (sb_var 3) (x_eb se_int)) (x_ac (se_var 4) sa_nil)) (pv 2)))))))
    (ss_cons (s_set 5 sc_law.nd (x_le (sl_lst sa_nil)))
    (ss_cons (s_for PassesOwn.never rfl (si_list (se_ix (sb_var 1) (x_eb se_int))) (pg_name (i := 6) sc_law.nd rfl (by first | exact Or.inl rfl | exact Or.inr rfl)) (tg1_ok 6) (ss_cons (s_mut 2 (mm_add_shift T) hr (x_ac (se_ix (sb_var 6) (x_eb se_int)) (x_ac (se_ix (sb_var 6) (x_eb se_int)) (x_ac (x_le (sl_ct listOf_s call_list_of T.z_list (x_abc (x_eb (se_ix (sb_var 6) (x_eb se_int))) sab_nil))) sa_nil))) (pv 2))
    (ss_one (s_for PassesOwn.never rfl (si_list (se_ix (sb_var 6) (x_eb se_int))) (pg_name (i := 7) sc_law.nd rfl (by first | exact Or.inl rfl | exact Or.inr rfl)) (tg1_ok 7) (ss_one (s_set 5 sc_law.nd (se_add (sb_var 5) (x_eb (se_mul (x_eb (x_le (sl_lst (x_ac (se_tup (x_ac (se_var 6) (x_ac (se_ix (sb_var 7) (x_eb se_int)) sa_nil))) sa_nil)))) (x_eb (se_ix (sb_var 7) (x_eb se_int))))))))))))
    (ss_cons (s_set 8 sc_law.nd (se_callR 2 (pr_dealt T) hr sa_nil (pv 2)))
    (ss_cons (s_if (x_wt (sw_or (st_not (st_val (se_isi .tuple T.z_isinstance T.z_tuple (sb_var 8)))) (sw_or (st_cmp ne2_s (op_ne2 hu) (x_eb (se_cb len_s call_len T.z_len (x_abc (sb_var 8) sab_nil))) (x_eb se_int) (nomark _)) (sw_or1 (st_not (st_val (se_isi .list T.z_isinstance T.z_list (x_eb (se_ix (sb_var 8) (x_eb se_int)))))))))) (ss_one (s_ret se_bool)) ss_nil)
    (ss_cons (s_if (st_cmp ne2_s (op_ne2 hu) (x_eb (se_call (ok_ways T) hr (x_ac (se_var 5) (x_ac (se_ix (sb_var 1) (x_eb se_int)) sa_nil)))) (x_eb (x_le (sl_lst sa_nil))) (nomark _)) (ss_one (s_ret (se_and (se_cmp eq2_s (op_eq2 hu) (x_eb (se_ix (sb_var 8) (x_eb se_int))) (x_eb se_str) (nomark _)) (se_one (se_cmp eq2_s (op_eq2 hu) (x_eb (se_cb len_s call_len T.z_len (x_abc (x_eb (se_ix (sb_var 8) (x_eb se_int))) sab_nil))) (x_eb (se_cb len_s call_len T.z_len (x_abc (sb_var 5) sab_nil))) (nomark _)))))) ss_nil)
    (ss_one (s_ret (se_and (se_cmp eq2_s (op_eq2 hu) (x_eb (se_ix (sb_var 8) (x_eb se_int))) (x_eb se_str) (nomark _)) (se_one (se_cmp gt_s op_gt (x_eb (se_cb len_s call_len T.z_len (x_abc (x_eb (se_ix (sb_var 8) (x_eb se_int))) sab_nil))) (x_eb se_int) (nomark _)))))))))))))))⟩
end
end RK
namespace RK
open PySem PySem.Spec PyProof.Rows L2 RT
abbrev lawLevel : Nat := 6
/-! ### k11: the law -/
def rhoL (ns : List Int) (made : PyData) (β : BookSt) (s3 s4 s5 s6 s7 : Sl) : Rho := [.val (scrD ns), .val made, .obj (.book β), s3, s4, s5, s6, s7, .no]
section
variable (ns : List Int) (made : PyData)
theorem law_rests (p : Person) : ∀ (rs : List (Int × Int)) (β : BookSt) (q : Person) (s4 s5 s6 s7 : Sl), findP β p.name = some q → (∀ r ∈ rs, 0 ≤ r.1 ∧ r.1 < r.2 ∧ r.2 ≤ 1000000) → q.rests.length + rs.length < 1000 →
    ∃ s4', forF (tg1 4) (sMut kB 2 fm_add_rest (eCons (eOp gIx (eVarB 3) (eC (.int 0))) (eCons (eVar 4) eNil))) (rs.map stD) (rhoL ns made β (.val (perD p)) s4 s5 s6 s7) = .nx (rhoL ns made (restsB β p.name rs) (.val (perD p)) s4' s5 s6 s7)
  | [], β, q, s4, s5, s6, s7, _, _, _ => ⟨s4, by rw [restsB_nil]; rfl⟩
  | r :: rs, β, q, s4, s5, s6, s7, hq, hr, hl => by
    have h1 := fm_rest_ok hq (hr r List.mem_cons_self) (by simp at hl; omega)
    obtain ⟨s4', e⟩ := law_rests p rs (restB β p.name r) _ (.val (stD r)) s5 s6 s7 (findP_rest r hq) (fun x hx => hr x (List.mem_cons_of_mem _ hx)) (by simp at hl ⊢; omega)
    refine ⟨s4', ?_⟩
    rw [List.map_cons, forF_cons1]
    have st : sMut kB 2 fm_add_rest (eCons (eOp gIx (eVarB 3) (eC (.int 0))) (eCons (eVar 4) eNil)) (rhoL ns made β (.val (perD p)) (.val (stD r)) s5 s6 s7) = .nx (rhoL ns made (restB β p.name r) (.val (perD p)) (.val (stD r)) s5 s6 s7) := by
      simp [rhoL, perD, h1]
    show ((sMut kB 2 _ _ (rhoL ns made β (.val (perD p)) (.val (stD r)) s5 s6 s7)).thn _) = _
    rw [st, thn_nx, e, restsB_cons]
theorem law_people : ∀ (L Q : List Person) (s3 s4 : Sl), ((Q ++ L).map (·.name)).Nodup → (∀ p ∈ L, GP p) → (Q ++ L).length < 1000 →
    ∃ s3' s4', forF (tg1 3) (sSeq (sMut kB 2 fm_add_person (eCons (eOp gIx (eVarB 3) (eC (.int 0))) (eCons (eList (eCallL gListOf (eCons (eOp gIx (eVarB 3) (eC (.int 1))) eNil))) (eCons (eOp gIx (eVarB 3) (eC (.int 2))) eNil))))
  (sFor (iL (eOp gIx (eVarB 3) (eC (.int 3)))) (tg1 4) (sMut kB 2 fm_add_rest (eCons (eOp gIx (eVarB 3) (eC (.int 0))) (eCons (eVar 4) eNil))))) (L.map perD) (rhoL ns made ⟨Q, []⟩ s3 s4 .no .no .no) = .nx (rhoL ns made ⟨Q ++ L, []⟩ s3' s4' .no .no .no)
  | [], Q, s3, s4, _, _, _ => ⟨s3, s4, by rw [List.append_nil]; rfl⟩
  | p :: L, Q, s3, s4, nd, gp, hl => by
    have g := gp p List.mem_cons_self
    have hQ : ∀ q ∈ Q, q.name ≠ p.name := nodup_ne nd
    have hql : Q.length < 1000 := by simp at hl; omega
    have h1 := fm_person_ok (ss := []) g hQ hql
    have hf : findP ⟨Q ++ [bare p], []⟩ p.name = some (bare p) := by
      have nd' : ((Q ++ [bare p]).map (·.name)).Nodup := by
        rw [List.map_append, List.map_cons] at nd
        rw [List.map_append]
        have := (List.nodup_append.mp nd)
        rw [List.nodup_append]
        refine ⟨this.1, by simp, fun a ha b hb e => ?_⟩
        simp at hb
        subst hb
        exact this.2.2 a ha p.name (by simp) e
      exact findP_at (p := bare p) nd' (by simp)
    obtain ⟨u4, e1⟩ := law_rests ns made p p.rests ⟨Q ++ [bare p], []⟩ (bare p) s4 .no .no .no hf g.rs (by have := g.rl; simp [bare]; omega)
    have hb : restsB ⟨Q ++ [bare p], []⟩ p.name p.rests = ⟨Q ++ [p], []⟩ := restsB_mid Q [] [] p fun q hq => hQ q (by simpa using hq)
    rw [hb] at e1
    obtain ⟨s3', s4', e⟩ := law_people L (Q ++ [p]) (.val (perD p)) u4 (by rw [List.append_assoc]; exact nd) (fun q hq => gp q (List.mem_cons_of_mem _ hq)) (by rw [List.append_assoc]; exact hl)
    refine ⟨s3', s4', ?_⟩
    rw [List.map_cons, forF_cons1]
    have a1 : sMut kB 2 fm_add_person (eCons (eOp gIx (eVarB 3) (eC (.int 0))) (eCons (eList (eCallL gListOf (eCons (eOp gIx (eVarB 3) (eC (.int 1))) eNil))) (eCons (eOp gIx (eVarB 3) (eC (.int 2))) eNil))) (rhoL ns made ⟨Q, []⟩ (.val (perD p)) s4 .no .no .no) = .nx (rhoL ns made ⟨Q ++ [bare p], []⟩ (.val (perD p)) s4 .no .no .no) := by
      have gl := gListOf_list (p.skills.map .str)
      simp [rhoL, perD, gl, h1]
    have i3 : iL (eOp gIx (eVarB 3) (eC (.int 3))) (rhoL ns made ⟨Q ++ [bare p], []⟩ (.val (perD p)) s4 .no .no .no) = some (p.rests.map stD) := by
      have : p.rests.length ≤ LIM := Nat.le_trans g.rl (by decide)
      simp [rhoL, perD, this]
    show ((sSeq _ _ (rhoL ns made ⟨Q, []⟩ (.val (perD p)) s4 .no .no .no)).thn _) = _
    rw [sSeq_eq, a1, thn_nx, sFor_eq, i3, outL_some, e1, thn_nx, e]
    simp
theorem law_needs (β : BookSt) (s : Shift) (s3 s4 : Sl) : ∀ (N : List (Str × Int)) (M : List SN) (s7 : Sl), (∀ n ∈ N, 1 ≤ n.2 ∧ n.2 ≤ 9) → M.length + 9 * N.length ≤ 10000 →
    ∃ s7', forF (tg1 7) (sSet 5 (eOp gAdd (eVarB 5) (eOp gMul (eList (eLstD (eCons (eTupD (eCons (eVar 6) (eCons (eOp gIx (eVarB 7) (eC (.int 0))) eNil))) eNil))) (eOp gIx (eVarB 7) (eC (.int 1)))))) (N.map ndD) (rhoL ns made β s3 s4 (.val (.list (M.map plD))) (.val (shD s)) s7) = .nx (rhoL ns made β s3 s4 (.val (.list ((M ++ (N.map fun n => ((s, n) : SN)).flatMap fun x => List.replicate x.2.2.toNat x).map plD))) (.val (shD s)) s7')
  | [], M, s7, _, _ => ⟨s7, by simp [forF_nil]⟩
  | n :: N, M, s7, hN, hl => by
    obtain ⟨h1, h2⟩ := hN n List.mem_cons_self
    simp only [List.length_cons] at hl
    obtain ⟨s7', e⟩ := law_needs β s s3 s4 N (M ++ List.replicate n.2.toNat ((s, n) : SN)) (.val (ndD n)) (fun m hm => hN m (List.mem_cons_of_mem _ hm)) (by rw [List.length_append, List.length_replicate]; omega)
    refine ⟨s7', ?_⟩
    rw [List.map_cons, forF_cons1]
    have fl : (List.replicate n.2.toNat [plD (s, n)]).flatten = (List.replicate n.2.toNat ((s, n) : SN)).map plD := by
      rw [List.map_replicate]
      induction n.2.toNat with
      | zero => rfl
      | succ k ih => rw [List.replicate_succ, List.flatten_cons, ih, List.replicate_succ]; rfl
    have mu : gMul (.list [plD (s, n)]) (.int n.2) = some (.list ((List.replicate n.2.toNat ((s, n) : SN)).map plD)) := by
      rw [gMul_list _ _ ⟨by omega, by omega, by simp; unfold LIM; omega⟩, fl]
    have st : sSet 5 (eOp gAdd (eVarB 5) (eOp gMul (eList (eLstD (eCons (eTupD (eCons (eVar 6) (eCons (eOp gIx (eVarB 7) (eC (.int 0))) eNil))) eNil))) (eOp gIx (eVarB 7) (eC (.int 1))))) (rhoL ns made β s3 s4 (.val (.list (M.map plD))) (.val (shD s)) (.val (ndD n))) = .nx (rhoL ns made β s3 s4 (.val (.list ((M ++ List.replicate n.2.toNat ((s, n) : SN)).map plD))) (.val (shD s)) (.val (ndD n))) := by
      have v5 : eVarB 5 (rhoL ns made β s3 s4 (.val (.list (M.map plD))) (.val (shD s)) (.val (ndD n))) = some (.list (M.map plD)) := rfl
      have vl : eList (eLstD (eCons (eTupD (eCons (eVar 6) (eCons (eOp gIx (eVarB 7) (eC (.int 0))) eNil))) eNil)) (rhoL ns made β s3 s4 (.val (.list (M.map plD))) (.val (shD s)) (.val (ndD n))) = some (.list [plD (s, n)]) := by
        simp [rhoL, ndD, plD, shD]
      have vk : eOp gIx (eVarB 7) (eC (.int 1)) (rhoL ns made β s3 s4 (.val (.list (M.map plD))) (.val (shD s)) (.val (ndD n))) = some (.int n.2) := by
        simp [rhoL, ndD]
      rw [sSet_eq, eOp_eq, v5, eOp_eq, vl, vk, Option.bind_some, Option.bind_some, Option.bind_some, mu, Option.bind_some, gAdd_list _ _ (by rw [List.length_map, List.length_map, List.length_replicate]; unfold LIM; omega), List.map_append]
      rfl
    show ((sSet 5 _ (rhoL ns made β s3 s4 (.val (.list (M.map plD))) (.val (shD s)) (.val (ndD n)))).thn _) = _
    rw [st, thn_nx, e]
    simp
theorem plN_snoc (T : List Shift) (s : Shift) : plN (T ++ [s]) = plN T ++ (s.needs.map fun n => ((s, n) : SN)).flatMap fun x => List.replicate x.2.2.toNat x := by
  unfold plN allN
  simp
theorem law_shifts (ps : List Person) (s3 s4 : Sl) : ∀ (L T : List Shift) (s6 s7 : Sl), ((T ++ L).map (·.name)).Nodup → (∀ s ∈ L, GS s) → (T ++ L).length < 1000 → (plN T).length + 54 * L.length ≤ 10000 →
    ∃ s6' s7', forF (tg1 6) (sSeq (sMut kB 2 fm_add_shift (eCons (eOp gIx (eVarB 6) (eC (.int 0))) (eCons (eOp gIx (eVarB 6) (eC (.int 1))) (eCons (eList (eCallL gListOf (eCons (eOp gIx (eVarB 6) (eC (.int 2))) eNil))) eNil))))
  (sFor (iL (eOp gIx (eVarB 6) (eC (.int 2)))) (tg1 7) (sSet 5 (eOp gAdd (eVarB 5) (eOp gMul (eList (eLstD (eCons (eTupD (eCons (eVar 6) (eCons (eOp gIx (eVarB 7) (eC (.int 0))) eNil))) eNil))) (eOp gIx (eVarB 7) (eC (.int 1)))))))) (L.map shD) (rhoL ns made ⟨ps, T⟩ s3 s4 (.val (.list ((plN T).map plD))) s6 s7) = .nx (rhoL ns made ⟨ps, T ++ L⟩ s3 s4 (.val (.list ((plN (T ++ L)).map plD))) s6' s7')
  | [], T, s6, s7, _, _, _, _ => ⟨s6, s7, by rw [List.append_nil]; rfl⟩
  | s :: L, T, s6, s7, nd, gs, hl, hp => by
    have g := gs s List.mem_cons_self
    have hT : ∀ q ∈ T, q.name ≠ s.name := nodup_ne nd
    have htl : T.length < 1000 := by simp at hl; omega
    have h1 := fm_shift_ok (ps := ps) g hT htl
    simp only [List.length_cons] at hp
    have nl := g.nl
    obtain ⟨u7, e1⟩ := law_needs ns made ⟨ps, T ++ [s]⟩ s s3 s4 s.needs (plN T) s7 (fun n hn => (g.nk n hn).2) (by omega)
    rw [← plN_snoc] at e1
    have pl1 : (plN (T ++ [s])).length ≤ (plN T).length + 54 := by
      rw [plN_snoc, List.length_append]
      have key : ∀ N : List (Str × Int), (∀ n ∈ N, n.2 ≤ 9) → ((N.map fun n => ((s, n) : SN)).flatMap fun x => List.replicate x.2.2.toNat x).length ≤ 9 * N.length := by
        intro N
        induction N with
        | nil => intro _; exact Nat.le_refl _
        | cons n N ih =>
          intro h
          have h1 := ih fun m hm => h m (List.mem_cons_of_mem _ hm)
          have h2 := h n List.mem_cons_self
          rw [List.map_cons, List.flatMap_cons, List.length_append, List.length_replicate, List.length_cons]
          show n.2.toNat + _ ≤ _
          omega
      have := key s.needs fun n hn => (g.nk n hn).2.2
      omega
    obtain ⟨s6', s7', e⟩ := law_shifts ps s3 s4 L (T ++ [s]) (.val (shD s)) u7 (by rw [List.append_assoc]; exact nd) (fun q hq => gs q (List.mem_cons_of_mem _ hq)) (by rw [List.append_assoc]; exact hl) (by omega)
    refine ⟨s6', s7', ?_⟩
    rw [List.map_cons, forF_cons1]
    have a1 : sMut kB 2 fm_add_shift (eCons (eOp gIx (eVarB 6) (eC (.int 0))) (eCons (eOp gIx (eVarB 6) (eC (.int 1))) (eCons (eList (eCallL gListOf (eCons (eOp gIx (eVarB 6) (eC (.int 2))) eNil))) eNil))) (rhoL ns made ⟨ps, T⟩ s3 s4 (.val (.list ((plN T).map plD))) (.val (shD s)) s7) = .nx (rhoL ns made ⟨ps, T ++ [s]⟩ s3 s4 (.val (.list ((plN T).map plD))) (.val (shD s)) s7) := by
      have gl := gListOf_list (s.needs.map ndD)
      simp [rhoL, shD, gl, h1]
    have i3 : iL (eOp gIx (eVarB 6) (eC (.int 2))) (rhoL ns made ⟨ps, T ++ [s]⟩ s3 s4 (.val (.list ((plN T).map plD))) (.val (shD s)) s7) = some (s.needs.map ndD) := by
      have : s.needs.length ≤ LIM := Nat.le_trans g.nl (by decide)
      simp [rhoL, shD, this]
    show ((sSeq _ _ (rhoL ns made ⟨ps, T⟩ s3 s4 (.val (.list ((plN T).map plD))) (.val (shD s)) s7)).thn _) = _
    rw [sSeq_eq, a1, thn_nx, sFor_eq, i3, outL_some, e1, thn_nx, e]
    simp
end
theorem okDs_ways {W : List (List (Shift × Person))} (h : ∀ w ∈ W, ∀ y ∈ w, GS y.1 ∧ GP y.2) : okDs (W.map wyD) = true ∧ (PyData.list (W.map wyD)).depth ≤ 64 := by
  have dsh : ∀ s, PyData.depth (shD s) ≤ 10 := fun p => by
    have d1 : PyData.depthAll (p.needs.map ndD) ≤ 2 := depthAll_le fun d hd => by
      obtain ⟨r, _, rfl⟩ := List.mem_map.mp hd
      simp [ndD, PyData.depth, PyData.depthAll]
    simp only [shD, stD, PyData.depth, PyData.depthAll]
    omega
  have dpe : ∀ s, PyData.depth (perD s) ≤ 10 := fun p => by
    have d1 : PyData.depthAll (p.skills.map .str) ≤ 2 := depthAll_le fun d hd => by
      obtain ⟨r, _, rfl⟩ := List.mem_map.mp hd
      simp [PyData.depth]
    have d2 : PyData.depthAll (p.rests.map stD) ≤ 2 := depthAll_le fun d hd => by
      obtain ⟨r, _, rfl⟩ := List.mem_map.mp hd
      simp [stD, PyData.depth, PyData.depthAll]
    simp only [perD, PyData.depth, PyData.depthAll]
    omega
  refine ⟨?_, ?_⟩
  · rw [okDs_all, List.all_map, List.all_eq_true]
    intro w hw
    show okDs (w.map yD) = true
    rw [okDs_all, List.all_map, List.all_eq_true]
    intro y hy
    obtain ⟨h1, h2⟩ := h w hw y hy
    have o1 := (okDs_sh (ss := [y.1]) (fun s hs => by rw [List.mem_singleton] at hs; subst hs; exact h1)).1
    have o2 := (okDs_per (ps := [y.2]) (fun s hs => by rw [List.mem_singleton] at hs; subst hs; exact h2)).1
    simp only [List.map_cons, List.map_nil, okDs, Bool.and_true] at o1 o2
    show okDs [shD y.1, perD y.2] = true
    simp only [okDs, o1, o2, Bool.and_true]
  · have : PyData.depthAll (W.map wyD) ≤ 20 := depthAll_le fun d hd => by
      obtain ⟨w, _, rfl⟩ := List.mem_map.mp hd
      have : PyData.depthAll (w.map yD) ≤ 15 := depthAll_le fun d hd => by
        obtain ⟨y, _, rfl⟩ := List.mem_map.mp hd
        have a := dsh y.1
        have b := dpe y.2
        simp only [yD, PyData.depth, PyData.depthAll]
        omega
      unfold wyD
      simp only [PyData.depth]
      omega
    simp only [PyData.depth]
    omega
theorem law_true (ns : List Int) (h : ns.length ≤ 63) : F_law [scrD ns] = some (.bool true) := by
  obtain ⟨ps, ss, hm, g, pl, nl⟩ := F_small_ok ns
  generalize hmd : PyData.tuple [.list (ps.map perD), .list (ss.map shD)] = made at hm
  have sl := g.sl
  obtain ⟨s3, s4, e3⟩ := law_people ns made ps [] .no .no g.pn g.gp (by simp; omega)
  obtain ⟨s6, s7, e6⟩ := law_shifts ns made ps s3 s4 ss [] .no .no g.sn g.gs (by simp; omega) (by simp [plN, allN]; omega)
  rw [List.nil_append] at e3 e6
  obtain ⟨d, hd, dd⟩ := dealt_ok g
  have hGS : ∀ x ∈ plN ss, GS x.1 := fun x hx => g.gs _ (allN_mem (plN_mem hx)).1
  obtain ⟨hw, hwl⟩ := F_ways_eq (plN ss) ps g.gp pl hGS nl
  have ok := okDs_ways (W := waysM ps (plN ss)) fun w hw y hy => by
    have gw := ways_good g.pn (plN ss) [] [[]] (fun u hu => by
      rw [List.mem_singleton] at hu
      subst hu
      refine ⟨rfl, fun i x y h => by simp at h, fun i j y z _ h => by simp at h, fun p hp => ?_⟩
      have := (g.gp p hp).lim.1
      show (0 : Int) ≤ p.limit
      omega) w hw
    obtain ⟨i, hi⟩ := List.getElem?_of_mem hy
    have hlt : i < (plN ss).length := by
      have h1 := gw.len
      have h2 := (List.getElem?_eq_some_iff.mp hi).1
      rw [List.nil_append] at h1
      omega
    obtain ⟨f1, f2, _⟩ := gw.fit i (plN ss)[i] y (by rw [List.nil_append]; exact List.getElem?_eq_getElem hlt) hi
    exact ⟨by rw [f1]; exact hGS _ (List.getElem_mem hlt), g.gp _ f2⟩
  have ne := gNe_nil ((waysM ps (plN ss)).map wyD) ok.1 ok.2
  rw [isEmpty_map] at ne
  have lP : ps.length ≤ LIM := Nat.le_trans g.pl (by decide)
  have lS : ss.length ≤ LIM := Nat.le_trans g.sl (by decide)
  have hb : ∃ ρ, b_law (rho0 N_law [scrD ns]) = .rt (.bool true) ρ := by
    have r0 : rho0 N_law [scrD ns] = [.val (scrD ns), .no, .no, .no, .no, .no, .no, .no, .no] := by simp [rho0, N_law]
    have a1 : sSet 1 (eCall F_small_parts (eCons (eVar 0) eNil)) [.val (scrD ns), .no, .no, .no, .no, .no, .no, .no, .no] = .nx [.val (scrD ns), .val made, .no, .no, .no, .no, .no, .no, .no] := by simp [hm]
    have a2 : sMkB 2 [.val (scrD ns), .val made, .no, .no, .no, .no, .no, .no, .no] = .nx (rhoL ns made ⟨[], []⟩ .no .no .no .no .no) := rfl
    have i3 : iL (eOp gIx (eVarB 1) (eC (.int 0))) (rhoL ns made ⟨[], []⟩ .no .no .no .no .no) = some (ps.map perD) := by
      rw [← hmd]
      simp [rhoL, lP]
    have a5 : sSet 5 (eList (eLstD eNil)) (rhoL ns made ⟨ps, []⟩ s3 s4 .no .no .no) = .nx (rhoL ns made ⟨ps, []⟩ s3 s4 (.val (.list ((plN []).map plD))) .no .no) := by
      simp [rhoL, plN, allN]
    have i6 : iL (eOp gIx (eVarB 1) (eC (.int 1))) (rhoL ns made ⟨ps, []⟩ s3 s4 (.val (.list ((plN []).map plD))) .no .no) = some (ss.map shD) := by
      rw [← hmd]
      simp [rhoL, lS]
    have a8 : sSet 8 (eMeth kB noB.bk 2 fr_dealt eNil) (rhoL ns made ⟨ps, ss⟩ s3 s4 (.val (.list ((plN ss).map plD))) s6 s7) = .nx [.val (scrD ns), .val made, .obj (.book ⟨ps, ss⟩), s3, s4, .val (.list ((plN ss).map plD)), s6, s7, .val d] := by
      have rc : rcv kB noB.bk (rhoL ns made ⟨ps, ss⟩ s3 s4 (.val (.list ((plN ss).map plD))) s6 s7) 2 = some ⟨ps, ss⟩ := by
        rw [rcv_obj _ _ _ _ (show (rhoL ns made ⟨ps, ss⟩ s3 s4 (.val (.list ((plN ss).map plD))) s6 s7)[2]? = some (.obj (.book ⟨ps, ss⟩)) from rfl)]
      rw [sSet_eq, eMeth_eq, rc, Option.bind_some, eNil_eq, Option.bind_some, hd]
      rfl
    unfold b_law
    rw [r0, sSeq_eq, a1, thn_nx, sSeq_eq, a2, thn_nx, sSeq_eq, sFor_eq, i3, outL_some, e3, thn_nx, sSeq_eq, a5, thn_nx, sSeq_eq, sFor_eq, i6, outL_some, e6, thn_nx, sSeq_eq, a8, thn_nx, sSeq_eq]
    have vm : eCall F_ways (eCons (eVar 5) (eCons (eOp gIx (eVarB 1) (eC (.int 0))) eNil)) [.val (scrD ns), .val made, .obj (.book ⟨ps, ss⟩), s3, s4, .val (.list ((plN ss).map plD)), s6, s7, .val d] = some (.list ((waysM ps (plN ss)).map wyD)) := by
      have : eCons (eVar 5) (eCons (eOp gIx (eVarB 1) (eC (.int 0))) eNil) [.val (scrD ns), .val made, .obj (.book ⟨ps, ss⟩), s3, s4, .val (.list ((plN ss).map plD)), s6, s7, .val d] = some [.list ((plN ss).map plD), .list (ps.map perD)] := by
        rw [← hmd]
        simp
      rw [eCall_eq, this, Option.bind_some, hw]
    have tw : bF (eOp gNe (eCall F_ways (eCons (eVar 5) (eCons (eOp gIx (eVarB 1) (eC (.int 0))) eNil))) (eList (eLstD eNil))) [.val (scrD ns), .val made, .obj (.book ⟨ps, ss⟩), s3, s4, .val (.list ((plN ss).map plD)), s6, s7, .val d] = some (!(waysM ps (plN ss)).isEmpty) := by
      have ve : eList (eLstD eNil) [.val (scrD ns), .val made, .obj (.book ⟨ps, ss⟩), s3, s4, .val (.list ((plN ss).map plD)), s6, s7, .val d] = some (.list []) := by simp
      rw [bF_eq, eOp_eq, vm, ve, Option.bind_some, Option.bind_some, ne]
      rfl
    have gl5 : (plN ss).length ≤ LIM := by unfold LIM; omega
    rcases dealt_ways g dd with ⟨w1, rows, rfl, rl⟩ | ⟨w1, T, rfl, tl, tl2⟩
    · have we : (waysM ps (plN ss)).isEmpty = false := by
        cases hW : waysM ps (plN ss) with
        | nil => exact absurd hW w1
        | cons a l => rfl
      rw [we] at tw
      have t0 : tOrF (tNotF (bF (eIsi .tuple (eVarB 8)))) (tOrF (bF (eOp gNe (eCall gLen (eCons (eVarB 8) eNil)) (eC (.int 2)))) (tNotF (bF (eIsi .list (eOp gIx (eVarB 8) (eC (.int 1))))))) [.val (scrD ns), .val made, .obj (.book ⟨ps, ss⟩), s3, s4, .val (.list ((plN ss).map plD)), s6, s7, .val (.tuple [.str "rota", .list rows])] = some false := by
        simp
      rw [sIf_eq, t0, outB_some, if_neg (by simp), sNext_eq, thn_nx, sSeq_eq, sIf_eq, tw, outB_some]
      have v : eAndF (eOp gEq (eOp gIx (eVarB 8) (eC (.int 0))) (eC (.str "rota"))) (eOp gEq (eCall gLen (eCons (eOp gIx (eVarB 8) (eC (.int 1))) eNil)) (eCall gLen (eCons (eVarB 5) eNil))) (([.val (scrD ns), .val made, .obj (.book ⟨ps, ss⟩), s3, s4, .val (.list ((plN ss).map plD)), s6, s7, .val (.tuple [.str "rota", .list rows])] : Rho).map frz1) = some (.bool true) := by
        simp [rl]
      rw [if_pos (show (!false) = true from rfl), sRet_eq, v]
      exact ⟨_, rfl⟩
    · have we : (waysM ps (plN ss)).isEmpty = true := by rw [w1]; rfl
      rw [we] at tw
      have t0 : tOrF (tNotF (bF (eIsi .tuple (eVarB 8)))) (tOrF (bF (eOp gNe (eCall gLen (eCons (eVarB 8) eNil)) (eC (.int 2)))) (tNotF (bF (eIsi .list (eOp gIx (eVarB 8) (eC (.int 1))))))) [.val (scrD ns), .val made, .obj (.book ⟨ps, ss⟩), s3, s4, .val (.list ((plN ss).map plD)), s6, s7, .val (.tuple [.str "short", .list T])] = some false := by
        simp
      rw [sIf_eq, t0, outB_some, if_neg (by simp), sNext_eq, thn_nx, sSeq_eq, sIf_eq, tw, outB_some]
      have tp : (0 : Int) < (T.length : Nat) := by omega
      have v : eAndF (eOp gEq (eOp gIx (eVarB 8) (eC (.int 0))) (eC (.str "short"))) (eOp gGt (eCall gLen (eCons (eOp gIx (eVarB 8) (eC (.int 1))) eNil)) (eC (.int 0))) (([.val (scrD ns), .val made, .obj (.book ⟨ps, ss⟩), s3, s4, .val (.list ((plN ss).map plD)), s6, s7, .val (.tuple [.str "short", .list T])] : Rho).map frz1) = some (.bool true) := by
        simp [tl]
      rw [if_neg (by simp), sNext_eq, thn_nx, sRet_eq, v]
      exact ⟨_, rfl⟩
  obtain ⟨ρ, hb⟩ := hb
  unfold F_law
  rw [runF_eq, if_pos (show [scrD ns].length = 1 from rfl), hb]
  rfl
end RK
namespace RK
open PySem PySem.Spec PyProof.Rows L2 RT
def d_is_whole : He.DefD := ⟨("is_whole", none), "is_whole", "is_whole", defArgs s_is_whole, defBody s_is_whole, defScope s_is_whole, [], []⟩
def d_is_stretch : He.DefD := ⟨("is_stretch", none), "is_stretch", "is_stretch", defArgs s_is_stretch, defBody s_is_stretch, defScope s_is_stretch, [], []⟩
def d_meets : He.DefD := ⟨("meets", none), "meets", "meets", defArgs s_meets, defBody s_meets, defScope s_meets, [], []⟩
def d_day_of : He.DefD := ⟨("day_of", none), "day_of", "day_of", defArgs s_day_of, defBody s_day_of, defScope s_day_of, [], []⟩
def d_in_one_day : He.DefD := ⟨("in_one_day", none), "in_one_day", "in_one_day", defArgs s_in_one_day, defBody s_in_one_day, defScope s_in_one_day, [], []⟩
def d_dealt : He.DefD := ⟨("dealt", none), "dealt", "dealt", defArgs s_dealt, defBody s_dealt, defScope s_dealt, [], []⟩
def d_is_name : He.DefD := ⟨("is_name", none), "is_name", "is_name", defArgs s_is_name, defBody s_is_name, defScope s_is_name, [], []⟩
def d_cell : He.DefD := ⟨("_law_cell", none), "_law_cell", "_law_cell", defArgs s_cell, defBody s_cell, defScope s_cell, [], []⟩
def d_sign : He.DefD := ⟨("_law_sign", none), "_law_sign", "_law_sign", defArgs s_sign, defBody s_sign, defScope s_sign, [], []⟩
def d_name_by : He.DefD := ⟨("_law_name_by", none), "_law_name_by", "_law_name_by", defArgs s_name_by, defBody s_name_by, defScope s_name_by, [], []⟩
def d_small_parts : He.DefD := ⟨("_law_small_parts", none), "_law_small_parts", "_law_small_parts", defArgs s_small_parts, defBody s_small_parts, defScope s_small_parts, [], []⟩
def d_may : He.DefD := ⟨("_law_may", none), "_law_may", "_law_may", defArgs s_may, defBody s_may, defScope s_may, [], []⟩
def d_ways : He.DefD := ⟨("_law_ways", none), "_law_ways", "_law_ways", defArgs s_ways, defBody s_ways, defScope s_ways, [], []⟩
def d_held : He.DefD := ⟨("_law_held", none), "_law_held", "_law_held", defArgs s_held, defBody s_held, defScope s_held, [], []⟩
def d_law : He.DefD := ⟨("law", none), "law", "law", defArgs s_law, defBody s_law, defScope s_law, [], []⟩
def d_deal_init : He.DefD := ⟨("Deal", some "__init__"), "__init__", "Deal.__init__", defArgs m_deal_init, defBody m_deal_init, defScope m_deal_init, [], []⟩
def d_deal_held : He.DefD := ⟨("Deal", some "held"), "held", "Deal.held", defArgs m_deal_held, defBody m_deal_held, defScope m_deal_held, [], []⟩
def d_deal_given_up : He.DefD := ⟨("Deal", some "given_up"), "given_up", "Deal.given_up", defArgs m_deal_given_up, defBody m_deal_given_up, defScope m_deal_given_up, [], []⟩
def d_deal_fill : He.DefD := ⟨("Deal", some "fill"), "fill", "Deal.fill", defArgs m_deal_fill, defBody m_deal_fill, defScope m_deal_fill, [], []⟩
def d_deal_change : He.DefD := ⟨("Deal", some "change"), "change", "Deal.change", defArgs m_deal_change, defBody m_deal_change, defScope m_deal_change, [], []⟩
def d_book_init : He.DefD := ⟨("Book", some "__init__"), "__init__", "Book.__init__", defArgs m_book_init, defBody m_book_init, defScope m_book_init, [], []⟩
def d_book_add_person : He.DefD := ⟨("Book", some "add_person"), "add_person", "Book.add_person", defArgs m_book_add_person, defBody m_book_add_person, defScope m_book_add_person, [], []⟩
def d_book_add_rest : He.DefD := ⟨("Book", some "add_rest"), "add_rest", "Book.add_rest", defArgs m_book_add_rest, defBody m_book_add_rest, defScope m_book_add_rest, [], []⟩
def d_book_add_shift : He.DefD := ⟨("Book", some "add_shift"), "add_shift", "Book.add_shift", defArgs m_book_add_shift, defBody m_book_add_shift, defScope m_book_add_shift, [], []⟩
def d_book_people : He.DefD := ⟨("Book", some "people"), "people", "Book.people", defArgs m_book_people, defBody m_book_people, defScope m_book_people, [], []⟩
def d_book_shifts : He.DefD := ⟨("Book", some "shifts"), "shifts", "Book.shifts", defArgs m_book_shifts, defBody m_book_shifts, defScope m_book_shifts, [], []⟩
def d_book_posts : He.DefD := ⟨("Book", some "posts"), "posts", "Book.posts", defArgs m_book_posts, defBody m_book_posts, defScope m_book_posts, [], []⟩
def d_book_rests_of : He.DefD := ⟨("Book", some "rests_of"), "rests_of", "Book.rests_of", defArgs m_book_rests_of, defBody m_book_rests_of, defScope m_book_rests_of, [], []⟩
def d_book_limit_of : He.DefD := ⟨("Book", some "limit_of"), "limit_of", "Book.limit_of", defArgs m_book_limit_of, defBody m_book_limit_of, defScope m_book_limit_of, [], []⟩
def d_book_stretch_of : He.DefD := ⟨("Book", some "stretch_of"), "stretch_of", "Book.stretch_of", defArgs m_book_stretch_of, defBody m_book_stretch_of, defScope m_book_stretch_of, [], []⟩
def d_book_count_of : He.DefD := ⟨("Book", some "count_of"), "count_of", "Book.count_of", defArgs m_book_count_of, defBody m_book_count_of, defScope m_book_count_of, [], []⟩
def d_book_may : He.DefD := ⟨("Book", some "may"), "may", "Book.may", defArgs m_book_may, defBody m_book_may, defScope m_book_may, [], []⟩
def fn : List He.DefD := [d_is_whole, d_is_stretch, d_meets, d_day_of, d_in_one_day, d_dealt, d_is_name, d_cell, d_sign, d_name_by, d_small_parts, d_may, d_ways, d_held, d_law, d_deal_init, d_deal_held, d_deal_given_up, d_deal_fill, d_deal_change, d_book_init, d_book_add_person, d_book_add_rest, d_book_add_shift, d_book_people, d_book_shifts, d_book_posts, d_book_rests_of, d_book_limit_of, d_book_stretch_of, d_book_count_of, d_book_may]
def fa : List He.Fa := [.glo "is_whole", .glo "is_stretch", .glo "meets", .glo "day_of", .glo "in_one_day", .glo "dealt", .glo "is_name", .glo "_law_cell", .glo "_law_sign", .glo "_law_name_by", .glo "_law_small_parts", .glo "_law_may", .glo "_law_ways", .glo "_law_held", .glo "law", .free "bool", .free "enumerate", .free "int", .free "isinstance", .free "len", .free "list", .free "max", .free "min", .free "range", .free "sorted", .free "str", .free "sum", .free "tuple", .int "DAY" 24, .int "LAST" 1000000, .int "MOST" 20, .int "MOST_COUNT" 9, .int "MOST_DAYS" 31, .str "SIGNS" "!\"#$&'()*+,-./0123456789:;<=>?@ABCDEFGHIJKLMNOPQRSTUVWXYZ[\\]^_`abcdefghijklmnopqrstuvwxyz{|}~", .cls "Deal", .mkr "Deal", .glo "Deal", .noat "Deal" "limits", .noat "Deal" "places", .noat "Deal" "days", .noat "Deal" "able", .noat "Deal" "who", .cls "Book", .mkr "Book", .glo "Book", .noat "Book" "skills", .noat "Book" "limits", .noat "Book" "rests", .noat "Book" "stretches", .noat "Book" "needs", .meth "Deal" "held", .meth "Deal" "given_up", .meth "Deal" "fill", .meth "Deal" "change", .meth "Book" "add_person", .meth "Book" "add_rest", .meth "Book" "add_shift", .meth "Book" "people", .meth "Book" "shifts", .meth "Book" "posts", .meth "Book" "rests_of", .meth "Book" "limit_of", .meth "Book" "stretch_of", .meth "Book" "count_of", .meth "Book" "may", .glo "BadCount", .exc "BadCount", .glo "BadName", .exc "BadName", .glo "BadStretch", .exc "BadStretch", .glo "Missing", .exc "Missing", .glo "Twice", .exc "Twice", .glo "RotaError", .exm "BadName" "RotaError" true, .exm "BadStretch" "RotaError" true, .exm "BadCount" "RotaError" true, .exm "Twice" "RotaError" true, .exm "Missing" "RotaError" true]
abbrev R : PySem.W.OpenRow := PySem.W.OpenLaw.row PySem.Challenge.rw_rota_k11_whole_small_deals
abbrev hk : PySem.W.Hook := He.hookD 5 fa fn
def ob (s : PySem.W.SharedT) : He.AlD := He.obsDG 5 fa fn (HandSHeadRun.getT s)
theorem ob_eq (s : PySem.W.SharedT) : ob s = hk.obs s.abs := He.obsDG_eq (HandSHeadRun.getT_eq s)
abbrev loose : List Str := [("_wall" : Str), ("LAST" : Str), ("DAY" : Str), ("is_whole" : Str), ("is_stretch" : Str), ("meets" : Str), ("day_of" : Str), ("in_one_day" : Str), ("Deal" : Str), ("dealt" : Str), ("RotaError" : Str), ("BadName" : Str), ("BadStretch" : Str), ("BadCount" : Str), ("Twice" : Str), ("Missing" : Str), ("MOST" : Str), ("SIGNS" : Str), ("is_name" : Str), ("MOST_DAYS" : Str), ("MOST_COUNT" : Str), ("Book" : Str), ("_law_cell" : Str), ("_law_sign" : Str), ("_law_name_by" : Str), ("_law_small_parts" : Str), ("_law_may" : Str), ("_law_ways" : Str), ("_law_held" : Str)]
theorem run (w : World) : HandSHeadRun.RunEq R (PySem.W.view R.prog [35]) hk ob 16000 loose w := by
  intro os
  kernel_rfl
theorem txt {K : PySem.W.Frag} {h : Heap} {mg : Str → Option Value} (X : K.In h) (G : h.Ns mainGlobals mg) (c : He.SaysD fa fn K) : Txt K mg where
  f_is_whole := c.def_ 0 (d := d_is_whole) rfl
  g_is_whole := He.glo_ok X G (c.fact 0 (f := .glo "is_whole") rfl)
  f_is_stretch := c.def_ 1 (d := d_is_stretch) rfl
  g_is_stretch := He.glo_ok X G (c.fact 1 (f := .glo "is_stretch") rfl)
  f_meets := c.def_ 2 (d := d_meets) rfl
  g_meets := He.glo_ok X G (c.fact 2 (f := .glo "meets") rfl)
  f_day_of := c.def_ 3 (d := d_day_of) rfl
  g_day_of := He.glo_ok X G (c.fact 3 (f := .glo "day_of") rfl)
  f_in_one_day := c.def_ 4 (d := d_in_one_day) rfl
  g_in_one_day := He.glo_ok X G (c.fact 4 (f := .glo "in_one_day") rfl)
  f_dealt := c.def_ 5 (d := d_dealt) rfl
  g_dealt := He.glo_ok X G (c.fact 5 (f := .glo "dealt") rfl)
  f_is_name := c.def_ 6 (d := d_is_name) rfl
  g_is_name := He.glo_ok X G (c.fact 6 (f := .glo "is_name") rfl)
  f_cell := c.def_ 7 (d := d_cell) rfl
  g_cell := He.glo_ok X G (c.fact 7 (f := .glo "_law_cell") rfl)
  f_sign := c.def_ 8 (d := d_sign) rfl
  g_sign := He.glo_ok X G (c.fact 8 (f := .glo "_law_sign") rfl)
  f_name_by := c.def_ 9 (d := d_name_by) rfl
  g_name_by := He.glo_ok X G (c.fact 9 (f := .glo "_law_name_by") rfl)
  f_small_parts := c.def_ 10 (d := d_small_parts) rfl
  g_small_parts := He.glo_ok X G (c.fact 10 (f := .glo "_law_small_parts") rfl)
  f_may := c.def_ 11 (d := d_may) rfl
  g_may := He.glo_ok X G (c.fact 11 (f := .glo "_law_may") rfl)
  f_ways := c.def_ 12 (d := d_ways) rfl
  g_ways := He.glo_ok X G (c.fact 12 (f := .glo "_law_ways") rfl)
  f_held := c.def_ 13 (d := d_held) rfl
  g_held := He.glo_ok X G (c.fact 13 (f := .glo "_law_held") rfl)
  f_law := c.def_ 14 (d := d_law) rfl
  g_law := He.glo_ok X G (c.fact 14 (f := .glo "law") rfl)
  z_bool := He.free_ok X G (c.fact 15 (f := .free "bool") rfl)
  z_enumerate := He.free_ok X G (c.fact 16 (f := .free "enumerate") rfl)
  z_int := He.free_ok X G (c.fact 17 (f := .free "int") rfl)
  z_isinstance := He.free_ok X G (c.fact 18 (f := .free "isinstance") rfl)
  z_len := He.free_ok X G (c.fact 19 (f := .free "len") rfl)
  z_list := He.free_ok X G (c.fact 20 (f := .free "list") rfl)
  z_max := He.free_ok X G (c.fact 21 (f := .free "max") rfl)
  z_min := He.free_ok X G (c.fact 22 (f := .free "min") rfl)
  z_range := He.free_ok X G (c.fact 23 (f := .free "range") rfl)
  z_sorted := He.free_ok X G (c.fact 24 (f := .free "sorted") rfl)
  z_str := He.free_ok X G (c.fact 25 (f := .free "str") rfl)
  z_sum := He.free_ok X G (c.fact 26 (f := .free "sum") rfl)
  z_tuple := He.free_ok X G (c.fact 27 (f := .free "tuple") rfl)
  c_DAY := He.int_ok X G (c.fact 28 (f := .int "DAY" 24) rfl)
  c_LAST := He.int_ok X G (c.fact 29 (f := .int "LAST" 1000000) rfl)
  c_MOST := He.int_ok X G (c.fact 30 (f := .int "MOST" 20) rfl)
  c_MOST_COUNT := He.int_ok X G (c.fact 31 (f := .int "MOST_COUNT" 9) rfl)
  c_MOST_DAYS := He.int_ok X G (c.fact 32 (f := .int "MOST_DAYS" 31) rfl)
  c_SIGNS := He.str_ok X G (c.fact 33 (f := .str "SIGNS" "!\"#$&'()*+,-./0123456789:;<=>?@ABCDEFGHIJKLMNOPQRSTUVWXYZ[\\]^_`abcdefghijklmnopqrstuvwxyz{|}~") rfl)
  cl_deal := He.cls_ok (c.fact 34 (f := .cls "Deal") rfl)
  mk_deal := He.mkr_ok (c.fact 35 (f := .mkr "Deal") rfl)
  gc_deal := He.glo_ok X G (c.fact 36 (f := .glo "Deal") rfl)
  n_deal_limits := He.noat_ok (c.fact 37 (f := .noat "Deal" "limits") rfl)
  n_deal_places := He.noat_ok (c.fact 38 (f := .noat "Deal" "places") rfl)
  n_deal_days := He.noat_ok (c.fact 39 (f := .noat "Deal" "days") rfl)
  n_deal_able := He.noat_ok (c.fact 40 (f := .noat "Deal" "able") rfl)
  n_deal_who := He.noat_ok (c.fact 41 (f := .noat "Deal" "who") rfl)
  cl_book := He.cls_ok (c.fact 42 (f := .cls "Book") rfl)
  mk_book := He.mkr_ok (c.fact 43 (f := .mkr "Book") rfl)
  gc_book := He.glo_ok X G (c.fact 44 (f := .glo "Book") rfl)
  n_book_skills := He.noat_ok (c.fact 45 (f := .noat "Book" "skills") rfl)
  n_book_limits := He.noat_ok (c.fact 46 (f := .noat "Book" "limits") rfl)
  n_book_rests := He.noat_ok (c.fact 47 (f := .noat "Book" "rests") rfl)
  n_book_stretches := He.noat_ok (c.fact 48 (f := .noat "Book" "stretches") rfl)
  n_book_needs := He.noat_ok (c.fact 49 (f := .noat "Book" "needs") rfl)
  f_deal_init := c.def_ 15 (d := d_deal_init) rfl
  f_deal_held := c.def_ 16 (d := d_deal_held) rfl
  me_deal_held := He.meth_ok (c.fact 50 (f := .meth "Deal" "held") rfl)
  f_deal_given_up := c.def_ 17 (d := d_deal_given_up) rfl
  me_deal_given_up := He.meth_ok (c.fact 51 (f := .meth "Deal" "given_up") rfl)
  f_deal_fill := c.def_ 18 (d := d_deal_fill) rfl
  me_deal_fill := He.meth_ok (c.fact 52 (f := .meth "Deal" "fill") rfl)
  f_deal_change := c.def_ 19 (d := d_deal_change) rfl
  me_deal_change := He.meth_ok (c.fact 53 (f := .meth "Deal" "change") rfl)
  f_book_init := c.def_ 20 (d := d_book_init) rfl
  f_book_add_person := c.def_ 21 (d := d_book_add_person) rfl
  me_book_add_person := He.meth_ok (c.fact 54 (f := .meth "Book" "add_person") rfl)
  f_book_add_rest := c.def_ 22 (d := d_book_add_rest) rfl
  me_book_add_rest := He.meth_ok (c.fact 55 (f := .meth "Book" "add_rest") rfl)
  f_book_add_shift := c.def_ 23 (d := d_book_add_shift) rfl
  me_book_add_shift := He.meth_ok (c.fact 56 (f := .meth "Book" "add_shift") rfl)
  f_book_people := c.def_ 24 (d := d_book_people) rfl
  me_book_people := He.meth_ok (c.fact 57 (f := .meth "Book" "people") rfl)
  f_book_shifts := c.def_ 25 (d := d_book_shifts) rfl
  me_book_shifts := He.meth_ok (c.fact 58 (f := .meth "Book" "shifts") rfl)
  f_book_posts := c.def_ 26 (d := d_book_posts) rfl
  me_book_posts := He.meth_ok (c.fact 59 (f := .meth "Book" "posts") rfl)
  f_book_rests_of := c.def_ 27 (d := d_book_rests_of) rfl
  me_book_rests_of := He.meth_ok (c.fact 60 (f := .meth "Book" "rests_of") rfl)
  f_book_limit_of := c.def_ 28 (d := d_book_limit_of) rfl
  me_book_limit_of := He.meth_ok (c.fact 61 (f := .meth "Book" "limit_of") rfl)
  f_book_stretch_of := c.def_ 29 (d := d_book_stretch_of) rfl
  me_book_stretch_of := He.meth_ok (c.fact 62 (f := .meth "Book" "stretch_of") rfl)
  f_book_count_of := c.def_ 30 (d := d_book_count_of) rfl
  me_book_count_of := He.meth_ok (c.fact 63 (f := .meth "Book" "count_of") rfl)
  f_book_may := c.def_ 31 (d := d_book_may) rfl
  me_book_may := He.meth_ok (c.fact 64 (f := .meth "Book" "may") rfl)
  e_BadCount := ⟨He.glo_ok X G (c.fact 65 (f := .glo "BadCount") rfl), (He.exc_ok (c.fact 66 (f := .exc "BadCount") rfl)).1, (He.exc_ok (c.fact 66 (f := .exc "BadCount") rfl)).2.1, (He.exc_ok (c.fact 66 (f := .exc "BadCount") rfl)).2.2.1, (He.exc_ok (c.fact 66 (f := .exc "BadCount") rfl)).2.2.2⟩
  e_BadName := ⟨He.glo_ok X G (c.fact 67 (f := .glo "BadName") rfl), (He.exc_ok (c.fact 68 (f := .exc "BadName") rfl)).1, (He.exc_ok (c.fact 68 (f := .exc "BadName") rfl)).2.1, (He.exc_ok (c.fact 68 (f := .exc "BadName") rfl)).2.2.1, (He.exc_ok (c.fact 68 (f := .exc "BadName") rfl)).2.2.2⟩
  e_BadStretch := ⟨He.glo_ok X G (c.fact 69 (f := .glo "BadStretch") rfl), (He.exc_ok (c.fact 70 (f := .exc "BadStretch") rfl)).1, (He.exc_ok (c.fact 70 (f := .exc "BadStretch") rfl)).2.1, (He.exc_ok (c.fact 70 (f := .exc "BadStretch") rfl)).2.2.1, (He.exc_ok (c.fact 70 (f := .exc "BadStretch") rfl)).2.2.2⟩
  e_Missing := ⟨He.glo_ok X G (c.fact 71 (f := .glo "Missing") rfl), (He.exc_ok (c.fact 72 (f := .exc "Missing") rfl)).1, (He.exc_ok (c.fact 72 (f := .exc "Missing") rfl)).2.1, (He.exc_ok (c.fact 72 (f := .exc "Missing") rfl)).2.2.1, (He.exc_ok (c.fact 72 (f := .exc "Missing") rfl)).2.2.2⟩
  e_Twice := ⟨He.glo_ok X G (c.fact 73 (f := .glo "Twice") rfl), (He.exc_ok (c.fact 74 (f := .exc "Twice") rfl)).1, (He.exc_ok (c.fact 74 (f := .exc "Twice") rfl)).2.1, (He.exc_ok (c.fact 74 (f := .exc "Twice") rfl)).2.2.1, (He.exc_ok (c.fact 74 (f := .exc "Twice") rfl)).2.2.2⟩
  gh_RotaError := He.glo_ok X G (c.fact 75 (f := .glo "RotaError") rfl)
  x_BadName_RotaError := He.exm_ok (c.fact 76 (f := .exm "BadName" "RotaError" true) rfl)
  x_BadStretch_RotaError := He.exm_ok (c.fact 77 (f := .exm "BadStretch" "RotaError" true) rfl)
  x_BadCount_RotaError := He.exm_ok (c.fact 78 (f := .exm "BadCount" "RotaError" true) rfl)
  x_Twice_RotaError := He.exm_ok (c.fact 79 (f := .exm "Twice" "RotaError" true) rfl)
  x_Missing_RotaError := He.exm_ok (c.fact 80 (f := .exm "Missing" "RotaError" true) rfl)
theorem facts {P : Program} {w : World} {K : PySem.W.Frag} {h : Heap} {mg : Str → Option Value} {f : Addr} (X : K.In h) (G : h.Ns mainGlobals mg) (hfa : mg ("law" : Str) = some (.ref f)) (c : He.SaysD fa fn K) :
    ∃ fd : FuncData, (∀ (s : Shared) (v : Value), BindsTo s fd ⟨[v], []⟩ [("_law_script", v)]) ∧ ∀ base : Heap, K.In base → base.Ns mainGlobals mg → FnOk P w K mg base CX0 lawLevel f fd ["_law_script"] (spPure K F_law) := by
  have T := txt X G c
  obtain ⟨fd, F⟩ := T.f_law
  have e := hfa.symm.trans T.g_law
  cases e
  have b := FunD.bindsA (ps := ["_law_script"]) F fun _ _ _ _ _ _ us hl => match us, hl with | [_], _ => rfl
  exact ⟨fd, fun s v => b s [v] rfl, fun base _ _ => okf_law T F⟩
end RK
open PySem PySem.W PySem.Calls PyProof.Rows
set_option maxRecDepth 100000 in
set_option maxHeartbeats 0 in
theorem PySem.Challenge.cw_rota_k11_whole_small_deals_holds : PySem.Challenge.rw_rota_k11_whole_small_deals.Holds := by
  w_on; o_law
  refine HandSHeadRun.head_any (r := OpenLaw.row PySem.Challenge.rw_rota_k11_whole_small_deals) (q := view (OpenLaw.row PySem.Challenge.rw_rota_k11_whole_small_deals).prog [35]) (H := RK.hk) (ob := RK.ob) (M := 16000) (loose := RK.loose) (d := HandSHeadRun.topDef (OpenLaw.row PySem.Challenge.rw_rota_k11_whole_small_deals).prog 35) (kwd := []) RK.ob_eq
    (by kernel_rfl) (fun s => by kernel_rfl) RK.run (by kernel_rfl) (by kernel_rfl) (by kernel_rfl) (by rfl) (by first | assumption | decide +kernel) (by decide +kernel) ⟨rfl, rfl, rfl, rfl, rfl, by decide +kernel⟩ ?hw ?hc
  case hw => w_witness2
  case hc =>
    refine L2.walk_ofE (l := PySem.Challenge.rw_rota_k11_whole_small_deals) (n := 63) (k := RK.lawLevel) (x := "_law_script") (CX := L2.CX0) rfl (by decide) (by kernel_rfl) ⟨rfl, by decide, by decide⟩ ?F (fun _ _ _ _ z => z)
    intro w mg fa h Y G hmg0
    obtain ⟨K, KX, c⟩ := Y
    have hmg : mg ("law" : PySem.Str) = some (.ref fa) := by
      have e : (HandSHeadRun.topDef (OpenLaw.row PySem.Challenge.rw_rota_k11_whole_small_deals).prog 35).name = ("law" : PySem.Str) := by kernel_rfl
      rw [← e]
      exact hmg0
    obtain ⟨fd, hb, hF⟩ := RK.facts (P := (PySem.Challenge.rw_rota_k11_whole_small_deals).prog) (w := w) KX G hmg c
    exact ⟨K, fd, RT.spPure K RK.F_law, KX, hb, fun H a ns hl _ hS => RT.law_sp (RK.law_true ns hl) hS, hF⟩
