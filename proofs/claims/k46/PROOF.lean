import PyProof.Rows.All
import Wide.All
import OpenK.AllK
import Wide.FinOn
import HandS.ForMost
import HandS.Style
import HandS.IsInst
import HandS.Zip
import HandS.Exc
import HandS.ExcOwn
import HandS.CallSlots
import HandS.Defaults
import HandS.HeadHook1
import HandS.Nested
import HandS.Text
import PyProof.SumWalkG
import HandS.TupAny
import HandS.Flow
import HandS.ExcInit
import HandS.ExcField
import HandS.Small
import HandS.Dict
import HandS.More
import HandS.Strs
import HandS.StrSplit
import HandS.Codes
import HandS.Iter
import HandS.CallLocal
import HandS.Head2
import HandS.HeadHook2
import HandS.HeadEnd
import PyProof.P3Eq
import HandS.Head0
import HandS.Head1
import KE.KStateDown
import PySem.Challenge.RW_signferry_k46_escapes_written
set_option Elab.async false
set_option linter.all false
set_option maxRecDepth 100000
set_option maxHeartbeats 4000000
/-! # Av: values by what they hold, over the hand layer -/
namespace Av
open PySem PySem.Spec PyProof.Rows L2

/-- a value by what it holds: tuples and frozen lists by their items, all other objects by their address -/
inductive Dat where
  | non | bl (b : Bool) | int (i : Int) | str (s : Str) | tup (ds : List Dat) | lst (ds : List Dat) | kls (ds : List Dat) | ref (a : Addr) | ty (n : String) | gf (x : Str)
  deriving Inhabited

/-- a tuple at a: tracked, or of the written part -/
def TpAt (K : PySem.W.Frag) (H : Hp) (a : Addr) (xs : List V) : Prop :=
  H a = some (.tup xs) ∨ ∃ (o : Obj) (its : Array Value) (n : Nat), K.lookup a = some o ∧ o.cls = .type "tuple" ∧ o.data = .seq its n ∧ its.size ≤ sizeLine ∧ Vals xs its.toList
theorem TpAt.sq {K : PySem.W.Frag} {H : Hp} {a : Addr} {xs : List V} (h : TpAt K H a xs) : SqT K H a xs := by
  rcases h with h | h
  · exact .inl (.inl h)
  · exact .inr h
/-- a frozen list at a -/
def FzAt (H : Hp) (a : Addr) (xs : List V) : Prop := ∃ o, H a = some (.frz o (.lst xs))
/-- a list that is never written: frozen, or of the written part -/
def KlAt (K : PySem.W.Frag) (H : Hp) (a : Addr) (xs : List V) : Prop :=
  FzAt H a xs ∨ ∃ (o : Obj) (its : Array Value) (n : Nat), K.lookup a = some o ∧ o.cls = .type "list" ∧ o.dict = none ∧ o.data = .seq its n ∧ its.size ≤ sizeLine ∧ Vals xs its.toList
theorem FzAt.sq {K : PySem.W.Frag} {H : Hp} {a : Addr} {xs : List V} (h : FzAt H a xs) : SqL K H a xs := .inl (.inr h)

mutual
inductive Rep (K : PySem.W.Frag) (H : Hp) : V → Dat → Prop
  | non : Rep K H .non .non
  | bl (b : Bool) : Rep K H (.bl b) (.bl b)
  | int (i : Int) : Rep K H (.int i) (.int i)
  | str (x : Str) : Rep K H (.str x) (.str x)
  | ref (a : Addr) : Rep K H (.ref a) (.ref a)
  | ty (n : String) : Rep K H (.ty n) (.ty n)
  | gf (x : Str) : Rep K H (.ref (He.ga K x)) (.gf x)
  | tup {a : Addr} {xs : List V} {ds : List Dat} : TpAt K H a xs → Reps K H xs ds → Rep K H (.ref a) (.tup ds)
  | lst {a : Addr} {xs : List V} {ds : List Dat} : FzAt H a xs → Reps K H xs ds → Rep K H (.ref a) (.lst ds)
  | kls {a : Addr} {xs : List V} {ds : List Dat} : KlAt K H a xs → Reps K H xs ds → Rep K H (.ref a) (.kls ds)
inductive Reps (K : PySem.W.Frag) (H : Hp) : List V → List Dat → Prop
  | nil : Reps K H [] []
  | cons {v : V} {vs : List V} {d : Dat} {ds : List Dat} : Rep K H v d → Reps K H vs ds → Reps K H (v :: vs) (d :: ds)
end

/-- what is never written stays -/
structure Stab (H H' : Hp) : Prop where
  tup : ∀ b xs, H b = some (.tup xs) → H' b = some (.tup xs)
  frz : ∀ b o u, H b = some (.frz o u) → H' b = some (.frz o u)
  ext : ∀ b φ, H b = some (.ext φ) → H' b = some (.ext φ)
theorem Stab.refl (H : Hp) : Stab H H := ⟨fun _ _ h => h, fun _ _ _ h => h, fun _ _ h => h⟩
theorem Stab.trans {H H1 H2 : Hp} (a : Stab H H1) (b : Stab H1 H2) : Stab H H2 := ⟨fun c xs h => b.tup c xs (a.tup c xs h), fun c o u h => b.frz c o u (a.frz c o u h), fun c φ h => b.ext c φ (a.ext c φ h)⟩
theorem Stab.new {H : Hp} {p : Addr} {o : HO} (h : H p = none) : Stab H (upd H p o) :=
  ⟨fun b xs e => by rw [upd_ne (ne_of_none e h)]; exact e, fun b o u e => by rw [upd_ne (ne_of_none e h)]; exact e, fun b φ e => by rw [upd_ne (ne_of_none e h)]; exact e⟩
/-- an object that may be written -/
def Soft (u : HO) : Prop := (∀ xs, u ≠ .tup xs) ∧ (∀ o v, u ≠ .frz o v) ∧ (∀ φ, u ≠ .ext φ) ∧ ∀ ps, u ≠ .tbl ps
theorem Soft.lst {xs : List V} : Soft (.lst xs) := ⟨fun _ z => (by cases z), fun _ _ z => (by cases z), fun _ z => (by cases z), fun _ z => by cases z⟩
theorem Stab.mut {H : Hp} {p : Addr} {o u : HO} (h : H p = some u) (h1 : Soft u) : Stab H (upd H p o) :=
  ⟨fun b xs e => by rw [upd_ne (ne_of e h fun z => h1.1 xs z.symm)]; exact e, fun b o v e => by rw [upd_ne (ne_of e h fun z => h1.2.1 o v z.symm)]; exact e, fun b φ e => by rw [upd_ne (ne_of e h fun z => h1.2.2.1 φ z.symm)]; exact e⟩
theorem Stab.lst {H : Hp} {p : Addr} {o : HO} {xs : List V} (h : H p = some (.lst xs)) : Stab H (upd H p o) := Stab.mut h Soft.lst
theorem Stab.of_same {H H' : Hp} (h : Same H H') : Stab H H' := ⟨fun b xs e => h b _ e, fun b o u e => h b _ e, fun b φ e => h b _ e⟩

theorem TpAt.mono {K : PySem.W.Frag} {H H' : Hp} {a : Addr} {xs : List V} (s : Stab H H') (h : TpAt K H a xs) : TpAt K H' a xs := by
  rcases h with h | h
  · exact .inl (s.tup _ _ h)
  · exact .inr h
theorem FzAt.mono {H H' : Hp} {a : Addr} {xs : List V} (s : Stab H H') (h : FzAt H a xs) : FzAt H' a xs := by
  obtain ⟨o, h⟩ := h
  exact ⟨o, s.frz _ _ _ h⟩
theorem KlAt.mono {K : PySem.W.Frag} {H H' : Hp} {a : Addr} {xs : List V} (s : Stab H H') (h : KlAt K H a xs) : KlAt K H' a xs := h.imp (fun z => z.mono s) id
theorem KlAt.sq {K : PySem.W.Frag} {H : Hp} {a : Addr} {xs : List V} (h : KlAt K H a xs) : SqL K H a xs := by
  rcases h with h | h
  · exact h.sq
  · exact .inr h
mutual
theorem Rep.mono {K : PySem.W.Frag} {H H' : Hp} (s : Stab H H') {v : V} {d : Dat} : Rep K H v d → Rep K H' v d
  | .non => .non
  | .bl b => .bl b
  | .int i => .int i
  | .str x => .str x
  | .ref a => .ref a
  | .ty n => .ty n
  | .gf x => .gf x
  | .tup h r => .tup (h.mono s) (Reps.mono s r)
  | .lst h r => .lst (h.mono s) (Reps.mono s r)
  | .kls h r => .kls (h.mono s) (Reps.mono s r)
theorem Reps.mono {K : PySem.W.Frag} {H H' : Hp} (s : Stab H H') {vs : List V} {ds : List Dat} : Reps K H vs ds → Reps K H' vs ds
  | .nil => .nil
  | .cons h r => .cons (Rep.mono s h) (Reps.mono s r)
end
section
variable {K : PySem.W.Frag} {H H' : Hp}
theorem Reps.length {vs : List V} {ds : List Dat} (h : Reps K H vs ds) : vs.length = ds.length := by
  induction ds generalizing vs with
  | nil => cases h; rfl
  | cons d ds ih => cases h with | cons a r => rw [List.length_cons, List.length_cons, ih r]
theorem Reps.append {vs ws : List V} {ds es : List Dat} (h : Reps K H vs ds) (h2 : Reps K H ws es) : Reps K H (vs ++ ws) (ds ++ es) := by
  induction ds generalizing vs with
  | nil => cases h; exact h2
  | cons d ds ih => cases h with | cons a r => exact .cons a (ih r)
theorem Reps.one {v : V} {d : Dat} (h : Rep K H v d) : Reps K H [v] [d] := .cons h .nil
theorem Reps.get : ∀ {ds : List Dat} {vs : List V} {i : Nat} {d : Dat}, Reps K H vs ds → ds[i]? = some d → ∃ v, vs[i]? = some v ∧ Rep K H v d
  | [], _, _, _, _, e => by simp at e
  | d :: ds, _, 0, _, .cons a r, e => by
    simp only [List.getElem?_cons_zero, Option.some.injEq] at e
    subst e
    exact ⟨_, rfl, a⟩
  | d :: ds, _, i + 1, _, .cons a r, e => by
    simp only [List.getElem?_cons_succ] at e ⊢
    exact Reps.get r e
theorem Reps.getV : ∀ {ds : List Dat} {vs : List V} {i : Nat} {v : V}, Reps K H vs ds → vs[i]? = some v → ∃ d, ds[i]? = some d ∧ Rep K H v d
  | [], _, _, _, .nil, e => by simp at e
  | d :: ds, _, 0, _, .cons a r, e => by
    simp only [List.getElem?_cons_zero, Option.some.injEq] at e
    subst e
    exact ⟨_, rfl, a⟩
  | d :: ds, _, i + 1, _, .cons a r, e => by
    simp only [List.getElem?_cons_succ] at e ⊢
    exact Reps.getV r e
theorem Reps.drop : ∀ {ds : List Dat} {vs : List V} (n : Nat), Reps K H vs ds → Reps K H (vs.drop n) (ds.drop n)
  | _, _, 0, h => h
  | [], _, n + 1, .nil => .nil
  | d :: ds, _, n + 1, .cons a r => Reps.drop n r
theorem Reps.take : ∀ {ds : List Dat} {vs : List V} (n : Nat), Reps K H vs ds → Reps K H (vs.take n) (ds.take n)
  | _, _, 0, h => .nil
  | [], _, n + 1, .nil => .nil
  | d :: ds, _, n + 1, .cons a r => .cons a (Reps.take n r)
theorem Reps.set {v : V} {d : Dat} (h : Rep K H v d) : ∀ {ds : List Dat} {vs : List V} (i : Nat), Reps K H vs ds → Reps K H (vs.set i v) (ds.set i d)
  | [], _, _, .nil => .nil
  | _ :: _, _, 0, .cons _ r => .cons h r
  | _ :: _, _, i + 1, .cons a r => .cons a (Reps.set h i r)
theorem Reps.rep (n : Nat) {ds : List Dat} {vs : List V} (h : Reps K H vs ds) : Reps K H (List.replicate n vs).flatten (List.replicate n ds).flatten := by
  induction n with
  | zero => exact .nil
  | succ n ih =>
    rw [List.replicate_succ, List.replicate_succ, List.flatten_cons, List.flatten_cons]
    exact h.append ih
theorem Reps.reverse {ds : List Dat} {vs : List V} (h : Reps K H vs ds) : Reps K H vs.reverse ds.reverse := by
  induction ds generalizing vs with
  | nil => cases h; exact .nil
  | cons d ds ih =>
    cases h with
    | cons a r =>
      rw [List.reverse_cons, List.reverse_cons]
      exact (ih r).append (.one a)
theorem Reps.eraseIdx : ∀ {ds : List Dat} {vs : List V} (i : Nat), Reps K H vs ds → Reps K H (vs.eraseIdx i) (ds.eraseIdx i)
  | [], _, _, .nil => .nil
  | _ :: _, _, 0, .cons _ r => r
  | _ :: _, _, i + 1, .cons a r => .cons a (Reps.eraseIdx i r)
/-- ints -/
theorem Rep.int_inv {v : V} {i : Int} (h : Rep K H v (.int i)) : v = .int i := by cases h; rfl
theorem Reps.ints {ns : List Int} {vs : List V} (h : Reps K H vs (ns.map Dat.int)) : vs = ns.map V.int := by
  induction ns generalizing vs with
  | nil => cases h; rfl
  | cons n ns ih =>
    cases h with
    | cons a r => cases a; rw [List.map_cons, ih r]
end

/-! ### the heap of what may change -/
inductive AO where
  | lst (ds : List Dat)
  | dk (kvs : List (Key × Dat))
  | ins (C : Str) (fs : List (Str × Dat))
abbrev AG := Addr → Option AO
def gu (G : AG) (a : Addr) (o : AO) : AG := fun b => if b = a then some o else G b
def gx (G : AG) (a : Addr) : AG := fun b => if b = a then none else G b
theorem gu_same {G : AG} {a : Addr} {o : AO} : gu G a o a = some o := by unfold gu; rw [if_pos rfl]
theorem gu_ne {G : AG} {a b : Addr} {o : AO} (h : b ≠ a) : gu G a o b = G b := by unfold gu; rw [if_neg h]
theorem gx_same {G : AG} {a : Addr} : gx G a a = none := by unfold gx; rw [if_pos rfl]
theorem gx_ne {G : AG} {a b : Addr} (h : b ≠ a) : gx G a b = G b := by unfold gx; rw [if_neg h]
theorem gu_gu {G : AG} {a : Addr} {o u : AO} : gu (gu G a o) a u = gu G a u := by
  funext b; unfold gu; split <;> rfl
theorem gx_gu {G : AG} {a : Addr} {o : AO} : gx (gu G a o) a = gx G a := by
  funext b; unfold gx gu; split <;> rfl
theorem gx_none {G : AG} {a : Addr} (h : G a = none) : gx G a = G := by
  funext b
  unfold gx
  split
  · rename_i e; rw [e, h]
  · rfl
theorem gx_gu_new {G : AG} {a : Addr} {o : AO} (h : G a = none) : gx (gu G a o) a = G := by rw [gx_gu, gx_none h]
/-- less is known -/
def Sub (G G' : AG) : Prop := ∀ a o, G a = some o → G' a = some o
theorem Sub.refl (G : AG) : Sub G G := fun _ _ h => h
theorem Sub.trans {G G1 G2 : AG} (a : Sub G G1) (b : Sub G1 G2) : Sub G G2 := fun c o h => b c o (a c o h)
theorem Sub.new {G : AG} {a : Addr} {o : AO} (h : G a = none) : Sub G (gu G a o) := fun b u e => by
  have : b ≠ a := fun z => by rw [z, h] at e; cases e
  rw [gu_ne this]; exact e
theorem Sub.gx {G : AG} {a : Addr} : Sub (gx G a) G := fun b u e => by
  by_cases h : b = a
  · rw [h, gx_same] at e; cases e
  · rw [gx_ne h] at e; exact e
theorem Sub.free {G G' : AG} {a : Addr} (s : Sub G G') (h : G' a = none) : G a = none := by
  cases e : G a with
  | none => rfl
  | some o => rw [s a o e] at h; cases h
abbrev KRel (K : PySem.W.Frag) (H : Hp) {κ : Type} : List (κ × V) → List (κ × Dat) → Prop := Paired fun (p : κ × V) (q : κ × Dat) => p.1 = q.1 ∧ Rep K H p.2 q.2
theorem KRel.mono {K : PySem.W.Frag} {H H' : Hp} (s : Stab H H') {κ : Type} {l : List (κ × V)} {m : List (κ × Dat)} (h : KRel K H l m) : KRel K H' l m := Paired.mapP h fun _ _ z => ⟨z.1, z.2.mono s⟩
def AOk (K : PySem.W.Frag) (H : Hp) (a : Addr) : AO → Prop
  | .lst ds => ∃ vs, H a = some (.lst vs) ∧ Reps K H vs ds
  | .dk kvs => ∃ vk, H a = some (.dK vk) ∧ KRel K H vk kvs
  | .ins C fs => ∃ dx vf, H a = some (.ins (He.ga K C) dx vf) ∧ KRel K H vf fs
theorem AOk.some {K : PySem.W.Frag} {H : Hp} {a : Addr} {o : AO} (h : AOk K H a o) : ∃ u, H a = some u ∧ Soft u := by
  cases o with
  | lst ds => obtain ⟨vs, e, _⟩ := h; exact ⟨_, e, .lst⟩
  | dk kvs => obtain ⟨vs, e, _⟩ := h; exact ⟨_, e, ⟨fun _ z => (by cases z), fun _ _ z => (by cases z), fun _ z => (by cases z), fun _ z => by cases z⟩⟩
  | ins C fs => obtain ⟨dx, vs, e, _⟩ := h; exact ⟨_, e, ⟨fun _ z => (by cases z), fun _ _ z => (by cases z), fun _ z => (by cases z), fun _ z => by cases z⟩⟩
theorem AOk.mono {K : PySem.W.Frag} {H H' : Hp} {a : Addr} {o : AO} (s : Stab H H') (e : H' a = H a) (h : AOk K H a o) : AOk K H' a o := by
  cases o with
  | lst ds => obtain ⟨vs, q, r⟩ := h; exact ⟨vs, e.trans q, r.mono s⟩
  | dk kvs => obtain ⟨vs, q, r⟩ := h; exact ⟨vs, e.trans q, KRel.mono s r⟩
  | ins C fs => obtain ⟨dx, vs, q, r⟩ := h; exact ⟨dx, vs, e.trans q, KRel.mono s r⟩
/-- the tables of code objects that lambdas and inner defs are made by -/
class Tb where
  T : List NdefX.NTab
variable [Tb]
theorem tabs_upd {T : List NdefX.NTab} {H : Hp} {p : Addr} {o : HO} (t : NdefX.TabsN T H) (h1 : ∀ ps, H p ≠ some (.tbl ps)) (h2 : ∀ φ, H p ≠ some (.ext φ)) : NdefX.TabsN T (upd H p o) := fun q hq => by
  obtain ⟨ps, e, e2, e3⟩ := t q hq
  refine ⟨ps, by rw [upd_ne fun z => h1 ps (by rw [← z]; exact e)]; exact e, e2, fun pos cv hc => ?_⟩
  obtain ⟨c, e4, e5⟩ := e3 pos cv hc
  exact ⟨c, e4, by rw [upd_ne fun z => h2 _ (by rw [← z]; exact e5)]; exact e5⟩
theorem tabs_new {T : List NdefX.NTab} {H : Hp} {p : Addr} {o : HO} (t : NdefX.TabsN T H) (h : H p = none) : NdefX.TabsN T (upd H p o) := tabs_upd t (fun ps z => by rw [h] at z; cases z) fun φ z => by rw [h] at z; cases z
theorem tabs_soft {T : List NdefX.NTab} {H : Hp} {p : Addr} {o u : HO} (t : NdefX.TabsN T H) (h : H p = some u) (s : Soft u) : NdefX.TabsN T (upd H p o) :=
  tabs_upd t (fun ps z => by rw [h] at z; exact s.2.2.2 ps (Option.some.inj z)) fun φ z => by rw [h] at z; exact s.2.2.1 φ (Option.some.inj z)
structure RelG (K : PySem.W.Frag) (G : AG) (H : Hp) : Prop where
  g : ∀ a o, G a = some o → AOk K H a o
  t : NdefX.TabsN Tb.T H
section
variable {K : PySem.W.Frag} {G G' : AG} {H H' : Hp} {p : Addr}
theorem RelG.sub (s : Sub G' G) (h : RelG K G H) : RelG K G' H := ⟨fun a o e => h.g a o (s a o e), h.t⟩
theorem RelG.free (h : RelG K G H) (e : H p = none) : G p = none := by
  cases q : G p with
  | none => rfl
  | some o => obtain ⟨u, z, _⟩ := (h.g p o q).some; rw [e] at z; cases z
theorem RelG.new {o : HO} {u : AO} (h : RelG K G H) (e : H p = none) (n : AOk K (upd H p o) p u) : RelG K (gu G p u) (upd H p o) := ⟨fun a w q => by
  by_cases ha : a = p
  · subst ha; rw [gu_same] at q; cases q; exact n
  · rw [gu_ne ha] at q
    exact (h.g a w q).mono (.new e) (upd_ne ha), tabs_new h.t e⟩
/-- something new that is not told -/
theorem RelG.newT {o : HO} (h : RelG K G H) (e : H p = none) : RelG K G (upd H p o) := ⟨fun a w q => by
  have ha : a ≠ p := fun z => by rw [z, h.free e] at q; cases q
  exact (h.g a w q).mono (.new e) (upd_ne ha), tabs_new h.t e⟩
theorem RelG.set {o : HO} {u v : AO} (h : RelG K G H) (e : G p = some u) (n : AOk K (upd H p o) p v) : RelG K (gu G p v) (upd H p o) := by
  obtain ⟨z, e1, e2⟩ := (h.g p u e).some
  refine ⟨fun a w q => ?_, tabs_soft h.t e1 e2⟩
  by_cases ha : a = p
  · subst ha; rw [gu_same] at q; cases q; exact n
  · rw [gu_ne ha] at q
    exact (h.g a w q).mono (.mut e1 e2) (upd_ne ha)
theorem RelG.stabSet {o : HO} {u : AO} (h : RelG K G H) (e : G p = some u) : Stab H (upd H p o) := by
  obtain ⟨z, e1, e2⟩ := (h.g p u e).some
  exact .mut e1 e2
theorem RelG.lst {ds : List Dat} (h : RelG K G H) (e : G p = some (.lst ds)) : ∃ vs, H p = some (.lst vs) ∧ Reps K H vs ds := h.g p _ e
end

/-! ### the names' values -/
abbrev Env' := List (Option Dat)
def RelE (K : PySem.W.Frag) (H : Hp) (ρ : Env') (σ : L2.St) : Prop := ρ.length = σ.length ∧ ∀ (i : Nat) (d : Dat), ρ[i]? = some (some d) → ∃ v, σ[i]? = some (some v) ∧ Rep K H v d
section
variable {K : PySem.W.Frag} {H H' : Hp} {ρ : Env'} {σ : L2.St}
theorem RelE.mono (s : Stab H H') (h : RelE K H ρ σ) : RelE K H' ρ σ := ⟨h.1, fun i d e => by obtain ⟨v, q, r⟩ := h.2 i d e; exact ⟨v, q, r.mono s⟩⟩
theorem RelE.set {i : Nat} {v : V} {d : Dat} (h : RelE K H ρ σ) (r : Rep K H v d) : RelE K H (ρ.set i (some d)) (σ.set i (some v)) := by
  refine ⟨by rw [List.length_set, List.length_set, h.1], fun j e q => ?_⟩
  by_cases hj : i = j
  · subst hj
    by_cases hl : i < ρ.length
    · rw [List.getElem?_set_self hl] at q
      cases q
      exact ⟨v, by rw [List.getElem?_set_self (by rw [← h.1]; exact hl)], r⟩
    · rw [List.getElem?_eq_none (by rw [List.length_set]; omega)] at q
      cases q
  · rw [List.getElem?_set_ne hj] at q
    obtain ⟨w, z, r'⟩ := h.2 j e q
    exact ⟨w, by rw [List.getElem?_set_ne hj]; exact z, r'⟩
theorem RelE.wipe1 {i : Nat} (h : RelE K H ρ σ) : RelE K H (ρ.set i none) (σ.set i none) := by
  refine ⟨by rw [List.length_set, List.length_set, h.1], fun j e q => ?_⟩
  by_cases hj : i = j
  · subst hj
    by_cases hl : i < ρ.length
    · rw [List.getElem?_set_self hl] at q
      cases q
    · rw [List.getElem?_eq_none (by rw [List.length_set]; omega)] at q
      cases q
  · rw [List.getElem?_set_ne hj] at q
    obtain ⟨w, z, r'⟩ := h.2 j e q
    exact ⟨w, by rw [List.getElem?_set_ne hj]; exact z, r'⟩
end
def wipeD (ρ : Env') : List Nat → Env'
  | [] => ρ
  | v :: vs => (wipeD ρ vs).set v none
theorem RelE.wipe {K : PySem.W.Frag} {H : Hp} {ρ : Env'} {σ : L2.St} (h : RelE K H ρ σ) : ∀ vs : List Nat, RelE K H (wipeD ρ vs) (L2.wipe σ vs)
  | [] => h
  | _ :: vs => (RelE.wipe h vs).wipe1
end Av


set_option Elab.async false
set_option linter.all false
set_option maxRecDepth 100000
set_option maxHeartbeats 4000000
/-! # Av1: a small language for the bodies, and what each of its words asks -/
namespace Av
open PySem PySem.Spec PyProof.Rows L2

abbrev AQ := Dat → AG → Prop
/-- what is raised: the class by its name, the fields -/
abbrev AX := Str → List (Str × Dat) → AG → Prop
abbrev Con := List Dat → AG → AQ → AX → Prop
structure FnE where
  con : Con
  ar : Nat
  dfl : List Dat := []
  len : ∀ ds G Q X, con ds G Q X → ds.length = ar
structure Gam where
  fn : Str → Option FnE
  gl : Str → Option Dat
  /-- class, name: an attribute that the class itself does not have -/
  at_ : Str → Str → Bool := fun _ _ => false
  /-- class, method -/
  ms : Str → Str → Option FnE := fun _ _ => none
  /-- class: its __init__ -/
  mke : Str → Option FnE := fun _ => none
  /-- an exception's class: its fields, in the order of its parameters -/
  xc : Str → Option (List Str) := fun _ => none
  /-- a dict of the module, never written -/
  dc : Str → Option (List (Key × Dat)) := fun _ => none

inductive BO where | add | sub | mul | fdiv | mod | pow | shl | shr | band
  deriving DecidableEq
inductive CO where | lt | le | gt | ge | eq | ne | isn | isnt | mem | nmem
  deriving DecidableEq
inductive BF where | len | int | tuple | list | isinst | all | any | sum1 | sum2 | min2 | max2 | ord
  deriving DecidableEq
inductive MF where | append | extend | pop | popAt | clear | reverse
  deriving DecidableEq
/-- methods of texts -/
inductive SM where | lower | upper | split | startswith | endswith
  deriving DecidableEq
inductive TGt where | nm (i : Nat) | tp (is : List Nat)

mutual
inductive E where
  | var (i : Nat)
  | cst (d : Dat)
  | glo (x : Str)
  | bin (z : Bool) (o : BO) (a b : E)
  | neg (a : E)
  | cmp (o : CO) (a b : E)
  | cmp2 (o o' : CO) (a b c : E)
  | andV (a b : E)
  | orV (a b : E)
  | notV (a : E)
  | ite (c : T) (a b : E)
  | tup (es : List E)
  | lst (z : Bool) (es : List E)
  | ix (a b : E)
  | slAll (z : Bool) (a : E) | slFrom (z : Bool) (a lo : E) | slTo (z : Bool) (a hi : E) | sl (z : Bool) (a lo hi : E) | rev (a : E)
  | call (f : Str) (es : List E)
  | blt (z : Bool) (f : BF) (es : List E)
  | meth (m : MF) (o : E) (es : List E)
  | lc (z : Bool) (e : E) (g : TGt) (it : I) (own : List Nat)
  | lcIf (z : Bool) (e : E) (g : TGt) (it : I) (t : T) (own : List Nat)
  | frz (a : E)
  | one (a : E)
  | att (a : E) (f : Str)
  | mcall (C m : Str) (o : E) (es : List E)
  | new (C : Str) (es : List E)
  | dlit (es : List E)
  | dix (a b : E)
  | dget1 (a b : E)
  | dget2 (a b c : E)
  | dead
  | gin (n : Bool) (x : Str) (a : E)
  | gix (x : Str) (a : E)
  | gget1 (x : Str) (a : E)
  | gget2 (x : Str) (a b : E)
  | callV (i : Nat) (es : List E)
  | din (n : Bool) (a b : E)
  | sin (n : Bool) (a b : E)
  | smeth (z : Bool) (m : SM) (o : E) (es : List E)
  | six (a b : E)
inductive T where
  | and_ (a b : T) | or_ (a b : T) | not_ (a : T) | ite (c a b : T) | one (a : T)
  | cmp (o : CO) (a b : E)
  | cmp2 (o o' : CO) (a b c : E)
  | val (a : E)
  | gin (n : Bool) (x : Str) (a : E)
  | din (n : Bool) (a b : E)
  | sin (n : Bool) (a b : E)
inductive I where
  | gkeys (x : Str)
  | str (a : E)
  | rng1 (a : E) | rng2 (a b : E) | seq (a : E) | zip (a b : E) | enum (a : E)
end

inductive S where
  | set (i : Nat) (e : E)
  | setTp (is : List Nat) (e : E)
  | par2 (i j : Nat) (a b : E)
  | par3 (i j k : Nat) (a b c : E)
  | expr (e : E)
  | ret (e : E)
  | retN
  | if_ (c : T) (a b : List S)
  | while_ (c : T) (b : List S)
  | for_ (g : TGt) (it : I) (b : List S)
  | setIx (o i e : E)
  | aug (i : Nat) (o : BO) (e : E)
  | setAtt (o : E) (f : Str) (e : E)
  | dset (o i e : E)
  | raise (C : Str) (es : List E)
  | pass | brk | cont
  | dead
  | sub_

/-! ### values -/
/-- the items of a list -/
def lstOf (G : AG) : Dat → Option (List Dat)
  | .lst ds => some ds
  | .ref a => match G a with
    | some (.lst ds) => some ds
    | _ => none
  | _ => none
/-- the items of a list or a tuple -/
def seqOf (G : AG) : Dat → Option (List Dat)
  | .tup ds => some ds
  | .kls ds => some ds
  | d => lstOf G d
def rdOf (G : AG) : Dat → Option (List Dat)
  | .tup ds => some ds
  | d => lstOf G d
def newL (ds : List Dat) (G : AG) (Q : AQ) : Prop := ds.length ≤ sizeLine ∧ ∀ p, G p = none → Q (.ref p) (gu G p (.lst ds))
/-- .. that is never written: it is its items -/
def nw (z : Bool) (ds : List Dat) (G : AG) (Q : AQ) : Prop := if z = true then ds.length ≤ sizeLine ∧ Q (.lst ds) G else newL ds G Q
def binW (z : Bool) : BO → Dat → Dat → AG → AQ → Prop
  | .add, .int i, .int j, G, Q => Q (.int (i + j)) G
  | .add, .str a, .str b, G, Q => a.length + b.length ≤ sizeLine ∧ Q (.str (a ++ b)) G
  | .add, .tup a, .tup b, G, Q => a.length + b.length ≤ sizeLine ∧ Q (.tup (a ++ b)) G
  | .add, x, y, G, Q => ∃ a b, lstOf G x = some a ∧ lstOf G y = some b ∧ nw z (a ++ b) G Q
  | .sub, .int i, .int j, G, Q => Q (.int (i - j)) G
  | .mul, .int i, .int j, G, Q => CMul i j ∧ Q (.int (i * j)) G
  | .mul, .str x, .int k, G, Q => (-(2 ^ 63) ≤ k ∧ k ≤ 1) ∧ Q (.str (if k < 1 then Str.empty else x)) G
  | .mul, x, .int k, G, Q => ∃ a, lstOf G x = some a ∧ -(2 ^ 63) ≤ k ∧ k < 2 ^ 63 ∧ nw z (List.replicate k.toNat a).flatten G Q
  | .fdiv, .int i, .int j, G, Q => CDiv i j ∧ Q (.int (i / j)) G
  | .mod, .int i, .int j, G, Q => 0 < j ∧ Q (.int (i % j)) G
  | .pow, .int i, .int j, G, Q => CPow i j ∧ Q (.int (i ^ j.toNat)) G
  | .shl, .int i, .int j, G, Q => CPow i j ∧ Q (.int (i * 2 ^ j.toNat)) G
  | .shr, .int i, .int j, G, Q => 0 ≤ j ∧ Q (.int (i / 2 ^ j.toNat)) G
  | .band, .int i, .int j, G, Q => Q (.int (Builtin.bitAnd i j)) G
  | _, _, _, _, _ => False

/- what a value holds, all of it, read through the heap of what may change -/
mutual
inductive Deep (G : AG) : Dat → PyData → Prop
  | non : Deep G .non .none
  | bl (b : Bool) : Deep G (.bl b) (.bool b)
  | int (i : Int) : Deep G (.int i) (.int i)
  | str (x : Str) : Deep G (.str x) (.str x)
  | tup {ds : List Dat} {ps : List PyData} : Deeps G ds ps → Deep G (.tup ds) (.tuple ps)
  | lst {ds : List Dat} {ps : List PyData} : Deeps G ds ps → Deep G (.lst ds) (.list ps)
  | ref {a : Addr} {ds : List Dat} {ps : List PyData} : G a = some (.lst ds) → Deeps G ds ps → Deep G (.ref a) (.list ps)
inductive Deeps (G : AG) : List Dat → List PyData → Prop
  | nil : Deeps G [] []
  | cons {d : Dat} {ds : List Dat} {p : PyData} {ps : List PyData} : Deep G d p → Deeps G ds ps → Deeps G (d :: ds) (p :: ps)
end
/-- texts -/
def strD : Dat → Option Str
  | .str x => some x
  | _ => none
/-- flat values, and when two are equal -/
def flatD : Dat → Bool
  | .non => true | .bl _ => true | .int _ => true | .str _ => true
  | _ => false
def toV : Dat → V
  | .non => .non | .bl b => .bl b | .int i => .int i | .str s => .str s | .ref a => .ref a | .ty n => .ty n
  | .tup _ => .non | .lst _ => .non | .kls _ => .non | .gf _ => .non
def eqW (n : Bool) (x y : Dat) (G : AG) (Q : AQ) : Prop := ((flatD x && flatD y && L2.scal (toV x) (toV y)) = true ∧ Q (.bl (if n then !decide (toV x = toV y) else decide (toV x = toV y))) G) ∨ ∃ p q, Deep G x p ∧ Deep G y q ∧ SeqAt.shaped p = true ∧ SeqAt.shaped q = true ∧ Q (.bl (if n then !PyData.eqv p q else PyData.eqv p q)) G
def eqF (x y : Dat) : Bool := eqV (toV x) (toV y)
def memW (n : Bool) (x y : Dat) (G : AG) (Q : AQ) : Prop :=
  ∃ ds, seqOf G y = some ds ∧ flatD x = true ∧ ds.all flatD = true ∧ Q (.bl (if n then !ds.any (fun d => eqF d x) else ds.any (fun d => eqF d x))) G
def isNonD : Dat → Bool
  | .non => true
  | _ => false
def cmpW : CO → Dat → Dat → AG → AQ → Prop
  | .lt, .int i, .int j, G, Q => Q (.bl (decide (i < j))) G
  | .le, .int i, .int j, G, Q => Q (.bl (decide (i ≤ j))) G
  | .gt, .int i, .int j, G, Q => Q (.bl (decide (j < i))) G
  | .ge, .int i, .int j, G, Q => Q (.bl (decide (j ≤ i))) G
  | .eq, x, y, G, Q => eqW false x y G Q
  | .ne, x, y, G, Q => eqW true x y G Q
  | .isn, x, .non, G, Q => Q (.bl (isNonD x)) G
  | .isnt, x, .non, G, Q => Q (.bl (!isNonD x)) G
  | .mem, x, y, G, Q => memW false x y G Q
  | .nmem, x, y, G, Q => memW true x y G Q
  | _, _, _, _, _ => False
def truW : Dat → AG → (Bool → AG → Prop) → Prop
  | .non, G, Q => Q false G
  | .bl b, G, Q => Q b G
  | .int i, G, Q => Q (i != 0) G
  | .str s, G, Q => s.length ≤ sizeLine ∧ Q (s.length != 0) G
  | .tup ds, G, Q => Q (!ds.isEmpty) G
  | x, G, Q => ∃ ds, lstOf G x = some ds ∧ Q (!ds.isEmpty) G
def boolW (Q : Bool → AG → Prop) : Dat → AG → Prop
  | .bl b, G => Q b G
  | _, _ => False
def ixW : Dat → Dat → AG → AQ → Prop
  | x, .int i, G, Q => ∃ ds d, seqOf G x = some ds ∧ atI ds i = some d ∧ Q d G
  | _, _, _, _ => False
def cutD (ds : List Dat) (lo hi : Option Int) : List Dat := (ds.drop (HT.sIx ds.length 0 lo)).take (HT.sIx ds.length ds.length hi - HT.sIx ds.length 0 lo)
def slW (z : Bool) : Dat → Option Int → Option Int → AG → AQ → Prop
  | .tup ds, lo, hi, G, Q => Q (.tup (cutD ds lo hi)) G
  | x, lo, hi, G, Q => ∃ ds, lstOf G x = some ds ∧ nw z (cutD ds lo hi) G Q
def intK (Q : Int → AG → Prop) : Dat → AG → Prop
  | .int i, G => Q i G
  | _, _ => False
/-- a value's type among the built-in ones -/
def tyOf (G : AG) : Dat → Option String
  | .non => some "NoneType"
  | .bl _ => some "bool" | .int _ => some "int" | .str _ => some "str" | .tup _ => some "tuple" | .lst _ => some "list"
  | .ref a => match G a with
    | some (.lst _) => some "list"
    | some (.dk _) => some "dict"
    | _ => none
  | .ty _ => none
  | .kls _ => none
  | .gf _ => none
def allTy : List Dat → Bool
  | [] => true
  | .ty _ :: r => allTy r
  | _ :: _ => false
def isiAny (t : String) : List Dat → Option Bool
  | [] => some false
  | .ty n :: r => match kitB t n with
    | some true => if allTy r = true then some true else none
    | some false => isiAny t r
    | none => none
  | _ :: _ => none
def isiW (x : Dat) : Dat → AG → AQ → Prop
  | .ty n, G, Q => ∃ t b, tyOf G x = some t ∧ kitB t n = some b ∧ Q (.bl b) G
  | .tup cs, G, Q => ∃ t b, tyOf G x = some t ∧ isiAny t cs = some b ∧ Q (.bl b) G
  | _, _, _ => False
def blsOf : List Dat → Option (List Bool)
  | [] => some []
  | .bl b :: r => (blsOf r).map (b :: ·)
  | _ :: _ => none
def intsOf : List Dat → Option (List Int)
  | [] => some []
  | .int b :: r => (intsOf r).map (b :: ·)
  | _ :: _ => none
def tupsOf : List Dat → Option (List (List Dat))
  | [] => some []
  | .tup b :: r => (tupsOf r).map (b :: ·)
  | _ :: _ => none
def lstsOf (G : AG) : List Dat → Option (List (List Dat))
  | [] => some []
  | d :: r => match lstOf G d, lstsOf G r with
    | some b, some ls => some (b :: ls)
    | _, _ => none
def sumW (z : Bool) (rows : List Dat) : Dat → AG → AQ → Prop
  | .tup t0, G, Q => ∃ ls, tupsOf rows = some ls ∧ t0.length + ls.flatten.length ≤ sizeLine ∧ Q (.tup (t0 ++ ls.flatten)) G
  | d, G, Q => ∃ s0 ls, lstOf G d = some s0 ∧ lstsOf G rows = some ls ∧ s0.length + ls.flatten.length ≤ sizeLine ∧ if ls = [] then Q d G else nw z (s0 ++ ls.flatten) G Q
def bltW (z : Bool) : BF → List Dat → AG → AQ → Prop
  | .len, [x], G, Q => ∃ ds, seqOf G x = some ds ∧ Q (.int ds.length) G
  | .int, [.int i], G, Q => Q (.int i) G
  | .int, [.bl b], G, Q => Q (.int (if b then 1 else 0)) G
  | .tuple, [x], G, Q => ∃ ds, seqOf G x = some ds ∧ Q (.tup ds) G
  | .list, [x], G, Q => ∃ ds, seqOf G x = some ds ∧ nw z ds G Q
  | .isinst, [x, c], G, Q => isiW x c G Q
  | .all, [x], G, Q => ∃ ds bs, lstOf G x = some ds ∧ blsOf ds = some bs ∧ Q (.bl (bs.all id)) G
  | .any, [x], G, Q => ∃ ds bs, lstOf G x = some ds ∧ blsOf ds = some bs ∧ Q (.bl (bs.any id)) G
  | .sum1, [x], G, Q => ∃ ds ns, lstOf G x = some ds ∧ intsOf ds = some ns ∧ Q (.int ns.sum) G
  | .sum2, [x, y], G, Q => ∃ rows, lstOf G x = some rows ∧ sumW z rows y G Q
  | .min2, [.int i, .int j], G, Q => Q (.int (if j < i then j else i)) G
  | .max2, [.int i, .int j], G, Q => Q (.int (if j > i then j else i)) G
  | .ord, [.str x], G, Q => x.length = 1 ∧ Q (.int (x.cps.getD 0 0 : Nat)) G
  | _, _, _, _ => False
def sIn (x y : Str) : Bool := !(Builtin.Str.occurrences y x 0 y.length 1).isEmpty
def strsD (l : List Str) : List Dat := l.map Dat.str
def smW (z : Bool) : SM → Str → List Dat → AG → AQ → Prop
  | .lower, a, [], G, Q => a.length ≤ 5592405 ∧ Q (.str (Txt.lower a)) G
  | .upper, a, [], G, Q => a.length ≤ 5592405 ∧ Q (.str (Txt.upper a)) G
  | .split, a, [.str b], G, Q => ((b.length == 0) = false ∧ a.length + 2 ≤ sizeLine) ∧ nw z (strsD (Txt.split a b)) G Q
  | .startswith, a, [.str b], G, Q => Q (.bl (Txt.startswith a b)) G
  | .endswith, a, [.str b], G, Q => Q (.bl (Txt.endswith a b)) G
  | _, _, _, _, _ => False
def signsD (x : Str) : List Dat := x.cps.toList.map fun c => .str ⟨#[c]⟩
/-- the dict that a value is -/
def dkOf (G : AG) : Dat → Option (List (Key × Dat))
  | .ref a => match G a with
    | some (.dk kvs) => some kvs
    | _ => none
  | _ => none
def keyDat : Key → Dat
  | .inl i => .int i
  | .inr x => .str x
def negB (n b : Bool) : Bool := if n then !b else b
def methW : MF → Dat → List Dat → AG → AQ → Prop
  | .append, .ref p, [y], G, Q => ∃ ds, G p = some (.lst ds) ∧ ds.length < sizeLine ∧ Q .non (gu G p (.lst (ds ++ [y])))
  | .extend, .ref p, [y], G, Q => ∃ ds es, G p = some (.lst ds) ∧ rdOf G y = some es ∧ ds.length + es.length ≤ sizeLine ∧ Q .non (gu G p (.lst (ds ++ es)))
  | .pop, .ref p, [], G, Q => ∃ ds y, G p = some (.lst ds) ∧ ds[ds.length - 1]? = some y ∧ Q y (gu G p (.lst ds.dropLast))
  | .popAt, .ref p, [.int i], G, Q => ∃ ds k y, G p = some (.lst ds) ∧ -(2 ^ 63) ≤ i ∧ i < 2 ^ 63 ∧ seqIndex? i ds.length = some k ∧ ds[k]? = some y ∧ Q y (gu G p (.lst (ds.eraseIdx k)))
  | .clear, .ref p, [], G, Q => ∃ ds, G p = some (.lst ds) ∧ Q .non (gu G p (.lst []))
  | .reverse, .ref p, [], G, Q => ∃ ds, G p = some (.lst ds) ∧ Q .non (gu G p (.lst ds.reverse))
  | _, _, _, _, _ => False
def frzW (d : Dat) (G : AG) (Q : AQ) : Prop :=
  match d with
  | .ref p => match G p with
    | some (.lst ds) => Q (.lst ds) (gx G p)
    | _ => Q (.ref p) G
  | d => Q d G
/-- dicts -/
def keyD : Dat → Option Key
  | .int i => some (.inl i)
  | .str x => some (.inr x)
  | _ => none
def lookD (kvs : List (Key × Dat)) (k : Key) : Option Dat := (kvs.find? fun q => decide (q.1 = k)).map (·.2)
def putKD (kvs : List (Key × Dat)) (k : Key) (v : Dat) : List (Key × Dat) := if (kvs.any fun q => decide (q.1 = k)) = true then kvs.map (fun q => if q.1 = k then (q.1, v) else q) else kvs ++ [(k, v)]
def mergeD (kvs more : List (Key × Dat)) : List (Key × Dat) := more.foldl (fun acc q => putKD acc q.1 q.2) kvs
def pairsOf : List Dat → Option (List (Key × Dat))
  | [] => some []
  | k :: v :: r => match keyD k, pairsOf r with
    | some x, some kvs => some ((x, v) :: kvs)
    | _, _ => none
  | _ => none
def dlitW (ds : List Dat) (G : AG) (Q : AQ) : Prop := ∃ kvs, pairsOf ds = some kvs ∧ kvs.length ≤ 15 ∧ ∀ p, G p = none → Q (.ref p) (gu G p (.dk (mergeD [] kvs)))
def dixW : Dat → Dat → AG → AQ → Prop
  | .ref p, k, G, Q => ∃ kvs x v, G p = some (.dk kvs) ∧ keyD k = some x ∧ lookD kvs x = some v ∧ Q v G
  | _, _, _, _ => False
def dgetW (o : Dat) (d : Dat) (k : Dat) (G : AG) (Q : AQ) : Prop := match o with
  | .ref p => ∃ kvs x, G p = some (.dk kvs) ∧ keyD k = some x ∧ Q ((lookD kvs x).getD d) G
  | _ => False
def isDk (G : AG) : Dat → Prop
  | .ref p => ∃ kvs, G p = some (.dk kvs)
  | _ => False
def dsetW : Dat → Dat → Dat → AG → (AG → Prop) → Prop
  | .ref p, k, v, G, Q => ∃ kvs x, G p = some (.dk kvs) ∧ keyD k = some x ∧ kvs.length < sizeLine ∧ Q (gu G p (.dk (putKD kvs x v)))
  | _, _, _, _, _ => False
def attW (Γ : Gam) (f : Str) : Dat → AG → AQ → Prop
  | .ref p, G, Q => ∃ C fs d, G p = some (.ins C fs) ∧ Γ.at_ C f = true ∧ fs.lookup f = some d ∧ Q d G
  | _, _, _ => False
def insW (C m : Str) : Dat → AG → Prop
  | .ref p, G => ∃ fs, G p = some (.ins C fs) ∧ fs.lookup m = none
  | _, _ => False
/-- an attribute put -/
def putD (f : Str) (v : Dat) : List (Str × Dat) → List (Str × Dat)
  | [] => [(f, v)]
  | (g, x) :: r => if g = f then (g, v) :: r else (g, x) :: putD f v r
def satW (Γ : Gam) (f : Str) (v : Dat) : Dat → AG → (AG → Prop) → Prop
  | .ref p, G, Q => ∃ C fs, G p = some (.ins C fs) ∧ Γ.at_ C f = true ∧ fs.length < 1000 ∧ Q (gu G p (.ins C (putD f v fs)))
  | _, _, _ => False
/-- a target -/
def setAll : List Nat → List Dat → Env' → Env'
  | i :: is, d :: ds, ρ => setAll is ds (ρ.set i (some d))
  | _, _, ρ => ρ
def tgW : TGt → Dat → Env' → (Env' → Prop) → Prop
  | .nm i, d, ρ, k => k (ρ.set i (some d))
  | .tp is, .tup ds, ρ, k => ds.length = is.length ∧ k (setAll is ds ρ)
  | .tp _, _, _, _ => False
/-- the lists that a loop walks stand as they stood -/
abbrev Gd := List (Addr × List Dat)
def gdOk (G : AG) : Gd → Prop
  | [] => True
  | (a, ds) :: r => G a = some (.lst ds) ∧ gdOk G r
def seqG (x : Dat) (G : AG) (Q : List Dat → Gd → AG → Prop) : Prop :=
  match x with
  | .tup ds => Q ds [] G
  | .lst ds => Q ds [] G
  | .kls ds => Q ds [] G
  | .ref a => ∃ ds, G a = some (.lst ds) ∧ Q ds [(a, ds)] G
  | _ => False
def lstG (x : Dat) (G : AG) (Q : List Dat → Gd → AG → Prop) : Prop :=
  match x with
  | .lst ds => Q ds [] G
  | .ref a => ∃ ds, G a = some (.lst ds) ∧ Q ds [(a, ds)] G
  | _ => False
/-- zip of two lists, of two tuples -/
def zipD : List Dat → List Dat → List Dat
  | x :: xs, y :: ys => .tup [x, y] :: zipD xs ys
  | _, _ => []
def zipG (x y : Dat) (G : AG) (Q : List Dat → Gd → AG → Prop) : Prop :=
  match x, y with
  | .tup xs, .tup ys => Q (zipD xs ys) [] G
  | x, y => lstG x G fun xs gx G1 => lstG y G1 fun ys gy G2 => Q (zipD xs ys) (gx ++ gy) G2
def rngD (lo : Int) (n : Nat) : List Dat := (List.range n).map fun (k : Nat) => Dat.int (lo + (k : Int))
def enumD : Nat → List Dat → List Dat
  | _, [] => []
  | k, d :: ds => .tup [.int k, d] :: enumD (k + 1) ds
/-- a comprehension's turns -/
def lcW (z : Bool) (elt : Env' → AG → AQ → Prop) (g : TGt) (own : List Nat) (gd : Gd) (ρ : Env') (Q : AQ) : List Dat → List Dat → AG → Prop
  | [], acc, G => gdOk G gd ∧ if z = true then Q (.lst acc) G else ∀ p, G p = none → Q (.ref p) (gu G p (.lst acc))
  | d :: ds, acc, G => gdOk G gd ∧ tgW g d (wipeD ρ own) fun ρ1 => elt ρ1 G fun y G2 => acc.length < sizeLine ∧ lcW z elt g own gd ρ Q ds (acc ++ [y]) G2
def lcIfW (z : Bool) (tst : Env' → AG → (Bool → AG → Prop) → Prop) (elt : Env' → AG → AQ → Prop) (g : TGt) (own : List Nat) (gd : Gd) (ρ : Env') (Q : AQ) : List Dat → List Dat → AG → Prop
  | [], acc, G => gdOk G gd ∧ if z = true then Q (.lst acc) G else ∀ p, G p = none → Q (.ref p) (gu G p (.lst acc))
  | d :: ds, acc, G => gdOk G gd ∧ tgW g d (wipeD ρ own) fun ρ1 => tst ρ1 G fun b G1 =>
      if b = true then elt ρ1 G1 fun y G2 => acc.length < sizeLine ∧ lcIfW z tst elt g own gd ρ Q ds (acc ++ [y]) G2 else lcIfW z tst elt g own gd ρ Q ds acc G1
def noX : AX := fun _ _ _ => False

mutual
def wE (Γ : Gam) : E → Env' → AG → AQ → AX → Prop
  | .var i, ρ, G, Q, _ => match ρ[i]? with
    | some (some d) => Q d G
    | _ => False
  | .cst d, _, G, Q, _ => Q d G
  | .glo x, _, G, Q, _ => match Γ.gl x with
    | some d => Q d G
    | none => False
  | .bin z o a b, ρ, G, Q, X => wE Γ a ρ G (fun x G1 => wE Γ b ρ G1 (fun y G2 => binW z o x y G2 Q) X) X
  | .neg a, ρ, G, Q, X => wE Γ a ρ G (intK fun i G1 => Q (.int (-i)) G1) X
  | .cmp o a b, ρ, G, Q, X => wE Γ a ρ G (fun x G1 => wE Γ b ρ G1 (fun y G2 => cmpW o x y G2 Q) X) X
  | .cmp2 o o' a b c, ρ, G, Q, X => wE Γ a ρ G (fun x G1 => wE Γ b ρ G1 (fun y G2 => cmpW o x y G2 (boolW fun k G3 =>
      if k = true then wE Γ c ρ G3 (fun z G4 => cmpW o' y z G4 Q) X else Q (.bl false) G3)) X) X
  | .andV a b, ρ, G, Q, X => wE Γ a ρ G (fun x G1 => truW x G1 fun k G2 => if k = true then wE Γ b ρ G2 Q X else Q x G2) X
  | .orV a b, ρ, G, Q, X => wE Γ a ρ G (fun x G1 => truW x G1 fun k G2 => if k = true then Q x G2 else wE Γ b ρ G2 Q X) X
  | .notV a, ρ, G, Q, X => wE Γ a ρ G (fun x G1 => truW x G1 fun k G2 => Q (.bl (!k)) G2) X
  | .ite c a b, ρ, G, Q, X => wT Γ c ρ G (fun k G1 => if k = true then wE Γ a ρ G1 Q X else wE Γ b ρ G1 Q X) X
  | .tup es, ρ, G, Q, X => wEs Γ es ρ G (fun ds G1 => ds.length ≤ sizeLine ∧ Q (.tup ds) G1) X
  | .lst z es, ρ, G, Q, X => wEs Γ es ρ G (fun ds G1 => nw z ds G1 Q) X
  | .ix a b, ρ, G, Q, X => wE Γ a ρ G (fun x G1 => wE Γ b ρ G1 (fun y G2 => ixW x y G2 Q) X) X
  | .slAll z a, ρ, G, Q, X => wE Γ a ρ G (fun x G1 => slW z x none none G1 Q) X
  | .slFrom z a lo, ρ, G, Q, X => wE Γ a ρ G (fun x G1 => wE Γ lo ρ G1 (intK fun i G2 => slW z x (some i) none G2 Q) X) X
  | .slTo z a hi, ρ, G, Q, X => wE Γ a ρ G (fun x G1 => wE Γ hi ρ G1 (intK fun i G2 => slW z x none (some i) G2 Q) X) X
  | .sl z a lo hi, ρ, G, Q, X => wE Γ a ρ G (fun x G1 => wE Γ lo ρ G1 (intK fun i G2 => wE Γ hi ρ G2 (intK fun j G3 => slW z x (some i) (some j) G3 Q) X) X) X
  | .rev a, ρ, G, Q, X => wE Γ a ρ G (fun x G1 => ∃ ds, lstOf G1 x = some ds ∧ ds.length ≤ sizeLine ∧ Q (.lst ds.reverse) G1) X
  | .call f es, ρ, G, Q, X => match Γ.fn f with
    | some F => (F.ar ≤ es.length + F.dfl.length ∧ es.length ≤ F.ar) ∧ wEs Γ es ρ G (fun ds G1 => F.con (ds ++ F.dfl.drop (es.length + F.dfl.length - F.ar)) G1 Q X) X
    | none => False
  | .blt z f es, ρ, G, Q, X => wEs Γ es ρ G (fun ds G1 => bltW z f ds G1 Q) X
  | .meth m o es, ρ, G, Q, X => wE Γ o ρ G (fun x G1 => (∃ ds, lstOf G1 x = some ds) ∧ wEs Γ es ρ G1 (fun ds G2 => methW m x ds G2 Q) X) X
  | .lc z e g it own, ρ, G, Q, X => wI Γ it ρ G (fun ds gd G1 => lcW z (fun ρ1 G Q => wE Γ e ρ1 G Q noX) g own gd ρ Q ds [] G1) X
  | .lcIf z e g it t own, ρ, G, Q, X => wI Γ it ρ G (fun ds gd G1 => lcIfW z (fun ρ1 G Q => wT Γ t ρ1 G Q noX) (fun ρ1 G Q => wE Γ e ρ1 G Q noX) g own gd ρ Q ds [] G1) X
  | .frz a, ρ, G, Q, X => wE Γ a ρ G (fun x G1 => frzW x G1 Q) X
  | .one a, ρ, G, Q, X => wE Γ a ρ G Q X
  | .att a f, ρ, G, Q, X => wE Γ a ρ G (fun x G1 => attW Γ f x G1 Q) X
  | .mcall C m o es, ρ, G, Q, X => match Γ.ms C m with
    | some F => (F.ar ≤ es.length + 1 + F.dfl.length ∧ es.length + 1 ≤ F.ar) ∧ wE Γ o ρ G (fun x G1 => insW C m x G1 ∧ wEs Γ es ρ G1 (fun ds G2 => F.con (x :: (ds ++ F.dfl.drop (es.length + 1 + F.dfl.length - F.ar))) G2 Q X) X) X
    | none => False
  | .new C es, ρ, G, Q, X => match Γ.mke C with
    | some F => (F.ar ≤ es.length + 1 + F.dfl.length ∧ es.length + 1 ≤ F.ar) ∧ wEs Γ es ρ G (fun ds G1 => ∀ p, G1 p = none → F.con (.ref p :: (ds ++ F.dfl.drop (es.length + 1 + F.dfl.length - F.ar))) (gu G1 p (.ins C [])) (fun d G2 => d = .non ∧ Q (.ref p) G2) X) X
    | none => False
  | .dlit es, ρ, G, Q, X => wEs Γ es ρ G (fun ds G1 => dlitW ds G1 Q) X
  | .dix a b, ρ, G, Q, X => wE Γ a ρ G (fun x G1 => wE Γ b ρ G1 (fun y G2 => dixW x y G2 Q) X) X
  | .dget1 a b, ρ, G, Q, X => wE Γ a ρ G (fun x G1 => isDk G1 x ∧ wE Γ b ρ G1 (fun y G2 => dgetW x .non y G2 Q) X) X
  | .dget2 a b c, ρ, G, Q, X => wE Γ a ρ G (fun x G1 => isDk G1 x ∧ wE Γ b ρ G1 (fun y G2 => wE Γ c ρ G2 (fun z G3 => dgetW x z y G3 Q) X) X) X
  | .dead, _, _, _, _ => False
  | .gin n x a, ρ, G, Q, X => match Γ.dc x with
    | some kv => wE Γ a ρ G (fun y G1 => ∃ k, keyD y = some k ∧ Q (.bl (negB n (lookD kv k).isSome)) G1) X
    | none => False
  | .gix x a, ρ, G, Q, X => match Γ.dc x with
    | some kv => wE Γ a ρ G (fun y G1 => ∃ k d, keyD y = some k ∧ lookD kv k = some d ∧ Q d G1) X
    | none => False
  | .gget1 x a, ρ, G, Q, X => match Γ.dc x with
    | some kv => wE Γ a ρ G (fun y G1 => ∃ k, keyD y = some k ∧ Q ((lookD kv k).getD .non) G1) X
    | none => False
  | .gget2 x a b, ρ, G, Q, X => match Γ.dc x with
    | some kv => wE Γ a ρ G (fun y G1 => wE Γ b ρ G1 (fun z G2 => ∃ k, keyD y = some k ∧ Q ((lookD kv k).getD z) G2) X) X
    | none => False
  | .callV i es, ρ, G, Q, X => match ρ[i]? with
    | some (some (.gf f)) => (match Γ.fn f with
      | some F => (F.ar ≤ es.length + F.dfl.length ∧ es.length ≤ F.ar) ∧ wEs Γ es ρ G (fun ds G1 => F.con (ds ++ F.dfl.drop (es.length + F.dfl.length - F.ar)) G1 Q X) X
      | none => False)
    | _ => False
  | .din n a b, ρ, G, Q, X => wE Γ a ρ G (fun y G1 => wE Γ b ρ G1 (fun x G2 => ∃ kv k, dkOf G2 x = some kv ∧ keyD y = some k ∧ Q (.bl (negB n (lookD kv k).isSome)) G2) X) X
  | .sin n a b, ρ, G, Q, X => wE Γ a ρ G (fun x G1 => wE Γ b ρ G1 (fun y G2 => ∃ s t, strD x = some s ∧ strD y = some t ∧ Q (.bl (negB n (sIn s t))) G2) X) X
  | .smeth z m o es, ρ, G, Q, X => wE Γ o ρ G (fun x G1 => ∃ s, strD x = some s ∧ wEs Γ es ρ G1 (fun ds G2 => smW z m s ds G2 Q) X) X
  | .six a b, ρ, G, Q, X => wE Γ a ρ G (fun x G1 => wE Γ b ρ G1 (fun y G2 => ∃ s i c, strD x = some s ∧ y = .int i ∧ s.length ≤ sizeLine ∧ L2.atI s.cps.toList i = some c ∧ Q (.str ⟨#[c]⟩) G2) X) X
def wEs (Γ : Gam) : List E → Env' → AG → (List Dat → AG → Prop) → AX → Prop
  | [], _, G, Q, _ => Q [] G
  | e :: es, ρ, G, Q, X => wE Γ e ρ G (fun d G1 => wEs Γ es ρ G1 (fun ds G2 => Q (d :: ds) G2) X) X
def wT (Γ : Gam) : T → Env' → AG → (Bool → AG → Prop) → AX → Prop
  | .and_ a b, ρ, G, Q, X => wT Γ a ρ G (fun k G1 => if k = true then wT Γ b ρ G1 Q X else Q false G1) X
  | .or_ a b, ρ, G, Q, X => wT Γ a ρ G (fun k G1 => if k = true then Q true G1 else wT Γ b ρ G1 Q X) X
  | .not_ a, ρ, G, Q, X => wT Γ a ρ G (fun k G1 => Q (!k) G1) X
  | .ite c a b, ρ, G, Q, X => wT Γ c ρ G (fun k G1 => if k = true then wT Γ a ρ G1 Q X else wT Γ b ρ G1 Q X) X
  | .one a, ρ, G, Q, X => wT Γ a ρ G Q X
  | .cmp o a b, ρ, G, Q, X => wE Γ a ρ G (fun x G1 => wE Γ b ρ G1 (fun y G2 => cmpW o x y G2 (boolW Q)) X) X
  | .cmp2 o o' a b c, ρ, G, Q, X => wE Γ a ρ G (fun x G1 => wE Γ b ρ G1 (fun y G2 => cmpW o x y G2 (boolW fun k G3 =>
      if k = true then wE Γ c ρ G3 (fun z G4 => cmpW o' y z G4 (boolW Q)) X else Q false G3)) X) X
  | .val a, ρ, G, Q, X => wE Γ a ρ G (fun x G1 => truW x G1 Q) X
  | .gin n x a, ρ, G, Q, X => match Γ.dc x with
    | some kv => wE Γ a ρ G (fun y G1 => ∃ k, keyD y = some k ∧ Q (negB n (lookD kv k).isSome) G1) X
    | none => False
  | .din n a b, ρ, G, Q, X => wE Γ a ρ G (fun y G1 => wE Γ b ρ G1 (fun x G2 => ∃ kv k, dkOf G2 x = some kv ∧ keyD y = some k ∧ Q (negB n (lookD kv k).isSome) G2) X) X
  | .sin n a b, ρ, G, Q, X => wE Γ a ρ G (fun x G1 => wE Γ b ρ G1 (fun y G2 => ∃ s t, strD x = some s ∧ strD y = some t ∧ Q (negB n (sIn s t)) G2) X) X
def wI (Γ : Gam) : I → Env' → AG → (List Dat → Gd → AG → Prop) → AX → Prop
  | .gkeys x, _, G, Q, _ => match Γ.dc x with
    | some kv => Q (kv.map fun q => keyDat q.1) [] G
    | none => False
  | .str a, ρ, G, Q, X => wE Γ a ρ G (fun x G1 => ∃ s, strD x = some s ∧ Q (signsD s) [] G1) X
  | .rng1 a, ρ, G, Q, X => wE Γ a ρ G (intK fun n G1 => -(2 ^ 62) ≤ n ∧ n < 2 ^ 62 ∧ Q (rngD 0 n.toNat) [] G1) X
  | .rng2 a b, ρ, G, Q, X => wE Γ a ρ G (intK fun m G1 => wE Γ b ρ G1 (intK fun n G2 => (-(2 ^ 62) ≤ m ∧ m < 2 ^ 62 ∧ -(2 ^ 62) ≤ n ∧ n < 2 ^ 62) ∧ Q (rngD m (n - m).toNat) [] G2) X) X
  | .seq a, ρ, G, Q, X => wE Γ a ρ G (fun x G1 => seqG x G1 Q) X
  | .zip a b, ρ, G, Q, X => wE Γ a ρ G (fun x G1 => wE Γ b ρ G1 (fun y G2 => zipG x y G2 Q) X) X
  | .enum a, ρ, G, Q, X => wE Γ a ρ G (fun x G1 => lstG x G1 fun xs gx G2 => Q (enumD 0 xs) gx G2) X
end

structure AEnds where
  nx : Env' → AG → Prop
  rt : Dat → AG → Prop
  bk : Env' → AG → Prop := fun _ _ => False
  ct : Env' → AG → Prop := fun _ _ => False
  ex : Env' → AX := fun _ => noX
/-- a loop's turns -/
def forW (body : Env' → AG → AEnds → Prop) (g : TGt) (gd : Gd) (A : AEnds) : List Dat → Env' → AG → Prop
  | [], ρ, G => gdOk G gd ∧ A.nx ρ G
  | d :: ds, ρ, G => gdOk G gd ∧ tgW g d ρ fun ρ1 => body ρ1 G { A with nx := forW body g gd A ds, ct := forW body g gd A ds, bk := A.nx }
/-- o[i] = e -/
def setW : Dat → Dat → Dat → AG → (AG → Prop) → Prop
  | .ref p, .int k, v, G, Q => ∃ ds j, G p = some (.lst ds) ∧ ixN ds.length k = some j ∧ Q (gu G p (.lst (ds.set j v)))
  | _, _, _, _, _ => False
def augW : BO → Dat → Dat → AG → AQ → Prop
  | .add, .int i, .int j, G, Q => Q (.int (i + j)) G
  | .sub, .int i, .int j, G, Q => Q (.int (i - j)) G
  | _, _, _, _, _ => False
mutual
def wS (Γ : Gam) : S → Env' → AG → AEnds → Prop
  | .set i e, ρ, G, A => wE Γ e ρ G (fun d G1 => A.nx (ρ.set i (some d)) G1) (A.ex ρ)
  | .setTp is e, ρ, G, A => wE Γ e ρ G (fun d G1 => tgW (.tp is) d ρ fun ρ1 => A.nx ρ1 G1) (A.ex ρ)
  | .par2 i j a b, ρ, G, A => wE Γ a ρ G (fun x G1 => wE Γ b ρ G1 (fun y G2 => A.nx ((ρ.set i (some x)).set j (some y)) G2) (A.ex ρ)) (A.ex ρ)
  | .par3 i j k a b c, ρ, G, A => wE Γ a ρ G (fun x G1 => wE Γ b ρ G1 (fun y G2 => wE Γ c ρ G2 (fun z G3 => A.nx (((ρ.set i (some x)).set j (some y)).set k (some z)) G3) (A.ex ρ)) (A.ex ρ)) (A.ex ρ)
  | .expr e, ρ, G, A => wE Γ e ρ G (fun _ G1 => A.nx ρ G1) (A.ex ρ)
  | .ret e, ρ, G, A => wE Γ e ρ G A.rt (A.ex ρ)
  | .retN, _, G, A => A.rt .non G
  | .if_ c a b, ρ, G, A => wT Γ c ρ G (fun k G1 => if k = true then wSs Γ a ρ G1 A else wSs Γ b ρ G1 A) (A.ex ρ)
  | .while_ c b, ρ, G, A => ∃ W : Nat → Env' → AG → Prop, (∃ m, W m ρ G) ∧ ∀ m ρ G, W m ρ G →
      wT Γ c ρ G (fun k G1 => if k = true then wSs Γ b ρ G1 { A with nx := fun ρ' G' => ∃ m', m' < m ∧ W m' ρ' G', ct := fun ρ' G' => ∃ m', m' < m ∧ W m' ρ' G', bk := A.nx } else A.nx ρ G1) (A.ex ρ)
  | .for_ g it b, ρ, G, A => wI Γ it ρ G (fun ds gd G1 => forW (fun ρ G A => wSs Γ b ρ G A) g gd A ds ρ G1) (A.ex ρ)
  | .setIx o i e, ρ, G, A => wE Γ e ρ G (fun v G1 => wE Γ o ρ G1 (fun x G2 => wE Γ i ρ G2 (fun k G3 => setW x k v G3 fun G4 => A.nx ρ G4) (A.ex ρ)) (A.ex ρ)) (A.ex ρ)
  | .setAtt o f e, ρ, G, A => wE Γ e ρ G (fun v G1 => wE Γ o ρ G1 (fun x G2 => satW Γ f v x G2 fun G3 => A.nx ρ G3) (A.ex ρ)) (A.ex ρ)
  | .raise C es, ρ, G, A => match es with
    | [] => Γ.xc C = some [] ∧ A.ex ρ C [] G
    | _ => ∃ fl, Γ.xc C = some fl ∧ fl ≠ [] ∧ wEs Γ es ρ G (fun ds G1 => ds.length = fl.length ∧ A.ex ρ C (fl.zip ds).reverse G1) (A.ex ρ)
  | .dset o i e, ρ, G, A => wE Γ e ρ G (fun v G1 => wE Γ o ρ G1 (fun x G2 => wE Γ i ρ G2 (fun k G3 => dsetW x k v G3 fun G4 => A.nx ρ G4) (A.ex ρ)) (A.ex ρ)) (A.ex ρ)
  | .aug i o e, ρ, G, A => match ρ[i]? with
    | some (some x) => wE Γ e ρ G (fun y G1 => augW o x y G1 fun z G2 => A.nx (ρ.set i (some z)) G2) (A.ex ρ)
    | _ => False
  | .pass, ρ, G, A => A.nx ρ G
  | .brk, ρ, G, A => A.bk ρ G
  | .cont, ρ, G, A => A.ct ρ G
  | .dead, _, _, _ => False
  | .sub_, ρ, G, A => ∃ G', Sub G' G ∧ A.nx ρ G'
def wSs (Γ : Gam) : List S → Env' → AG → AEnds → Prop
  | [], ρ, G, A => A.nx ρ G
  | s :: ss, ρ, G, A => wS Γ s ρ G { A with nx := fun ρ' G' => wSs Γ ss ρ' G' A }
end
end Av


set_option Elab.async false
set_option linter.all false
set_option maxRecDepth 100000
set_option maxHeartbeats 4000000
/-! # Av2: how the two heaps go together; the rules by values -/
namespace Av
open PySem PySem.Spec PyProof.Rows L2

variable [Tb]
/-- what is tracked but not told stands (tables may grow), and is not told -/
def Fra (G : AG) (H : Hp) (G' : AG) (H' : Hp) : Prop := ∀ a o, H a = some o → (∀ ps, o ≠ .tbl ps) → G a = none → H' a = some o ∧ G' a = none
section
variable {K : PySem.W.Frag} {G G' G1 G2 : AG} {H H' H1 H2 : Hp} {p : Addr}
theorem Fra.refl : Fra G H G H := fun _ _ h _ n => ⟨h, n⟩
theorem Fra.trans (a : Fra G H G1 H1) (b : Fra G1 H1 G2 H2) : Fra G H G2 H2 := fun c o h t n => let ⟨h1, n1⟩ := a c o h t n; b c o h1 t n1
theorem RelG.noTup (r : RelG K G H) {b : Addr} {xs : List V} (e : H b = some (.tup xs)) : G b = none := by
  cases q : G b with
  | none => rfl
  | some o =>
    obtain ⟨u, z, h1⟩ := (r.g b o q).some
    rw [e] at z
    exact absurd (Option.some.inj z).symm (h1.1 xs)
theorem RelG.noFrz (r : RelG K G H) {b : Addr} {o : Obj} {u : HO} (e : H b = some (.frz o u)) : G b = none := by
  cases q : G b with
  | none => rfl
  | some w =>
    obtain ⟨v, z, h2⟩ := (r.g b w q).some
    rw [e] at z
    exact absurd (Option.some.inj z).symm (h2.2.1 o u)
theorem RelG.noExt (r : RelG K G H) {b : Addr} {φ : Heap → Prop} (e : H b = some (.ext φ)) : G b = none := by
  cases q : G b with
  | none => rfl
  | some w =>
    obtain ⟨v, z, h2⟩ := (r.g b w q).some
    rw [e] at z
    exact absurd (Option.some.inj z).symm (h2.2.2.1 φ)
theorem Fra.stab (f : Fra G H G' H') (r : RelG K G H) : Stab H H' := ⟨fun b xs e => (f b _ e (fun _ z => (by cases z)) (r.noTup e)).1, fun b o u e => (f b _ e (fun _ z => (by cases z)) (r.noFrz e)).1, fun b φ e => (f b _ e (fun _ z => (by cases z)) (r.noExt e)).1⟩
theorem Fra.newT {o : HO} (h : H p = none) : Fra G H G (upd H p o) := fun a u e _ n => ⟨by rw [upd_ne (ne_of_none e h)]; exact e, n⟩
theorem Fra.new {o : HO} {u : AO} (h : H p = none) : Fra G H (gu G p u) (upd H p o) := fun a w e _ n => by
  have d := ne_of_none e h
  exact ⟨by rw [upd_ne d]; exact e, by rw [gu_ne d]; exact n⟩
theorem Fra.set {o : HO} {u v : AO} (e : G p = some u) : Fra G H (gu G p v) (upd H p o) := fun a w q _ n => by
  have d : a ≠ p := fun z => by rw [z, e] at n; cases n
  exact ⟨by rw [upd_ne d]; exact q, by rw [gu_ne d]; exact n⟩
theorem Fra.sub (s : Sub G' G) : Fra G H G' H := fun a o h _ n => ⟨h, s.free n⟩
theorem Fra.free (f : Fra G H G' H') {u : HO} (h : H p = some u) (t : ∀ ps, u ≠ .tbl ps) (n : G p = none) : G' p = none := (f p u h t n).2
end

/-! ### what is wanted behind -/
def PostE (K : PySem.W.Frag) (G : AG) (H : Hp) (Qa : AQ) (Q : VK) : Prop := ∀ d G' v H', Fra G H G' H' → RelG K G' H' → Rep K H' v d → Qa d G' → Q v H'
def RelX (K : PySem.W.Frag) (H : Hp) : Option Addr → List (Str × Dat) → Prop
  | none, fs => fs = []
  | some d, fs => ∃ vf, H d = some (.xd vf) ∧ KRel K H vf fs
def PostX (K : PySem.W.Frag) (G : AG) (H : Hp) (Ea : AX) (W : XK) : Prop := ∀ c fs G' dx H', Fra G H G' H' → RelG K G' H' → RelX K H' dx fs → Ea c fs G' → W (.ref (He.ga K c)) dx H'
section
variable {K : PySem.W.Frag} {G G1 : AG} {H H1 : Hp} {Qa : AQ} {Ea : AX} {Q : VK} {W : XK}
theorem PostE.fra (f : Fra G H G1 H1) (p : PostE K G H Qa Q) : PostE K G1 H1 Qa Q := fun d G' v H' f2 => p d G' v H' (f.trans f2)
theorem PostX.fra (f : Fra G H G1 H1) (p : PostX K G H Ea W) : PostX K G1 H1 Ea W := fun c fs G' dx H' f2 => p c fs G' dx H' (f.trans f2)
end

/-- .. and of a new list that is never written -/
structure PostZ (K : PySem.W.Frag) (G : AG) (H : Hp) (Qa : AQ) (Q : VK) : Prop where
  p : PostE K G H Qa Q
  z : ∀ (G' : AG) (H' : Hp) (ds : List Dat) (vs : List V) (a : Addr), Fra G H G' H' → H' a = none → RelG K G' H' → Reps K H' vs ds → Qa (.lst ds) G' → Q (.ref a) (upd H' a (.lst vs))
/-- the list may be frozen behind the step -/
def Qz (Q : VK) : VK := fun v H => Q v H ∨ ∃ a vs, v = .ref a ∧ H a = some (.lst vs) ∧ ∀ o, Q v (upd H a (.frz o (.lst vs)))
theorem upd_upd {H : Hp} {p : Addr} {o u : HO} : upd (upd H p o) p u = upd H p u := by
  funext b
  by_cases h : b = p
  · subst h; rw [upd_same, upd_same]
  · rw [upd_ne h, upd_ne h, upd_ne h]
theorem postZ {K : PySem.W.Frag} {G : AG} {H : Hp} {Qa : AQ} {Q : VK} (p : PostE K G H Qa Q) : PostZ K G H Qa (Qz Q) := by
  refine ⟨fun d G' v H' f g r q => .inl (p d G' v H' f g r q), fun G' H' ds vs a f ha rg r q => .inr ⟨a, vs, rfl, upd_same, fun o => ?_⟩⟩
  rw [upd_upd]
  exact p (.lst ds) G' (.ref a) _ (f.trans (.newT ha)) (rg.newT ha) (.lst ⟨o, upd_same⟩ (r.mono (.new ha))) q
theorem PostZ.fra {K : PySem.W.Frag} {G G1 : AG} {H H1 : Hp} {Qa : AQ} {Q : VK} (f : Fra G H G1 H1) (p : PostZ K G H Qa Q) : PostZ K G1 H1 Qa Q :=
  ⟨p.p.fra f, fun G' H' ds vs a f2 => p.z G' H' ds vs a (f.trans f2)⟩
/-! ### operators by values -/
def OpA (K : PySem.W.Frag) (r : R2) (rA : Dat → Dat → AG → AQ → Prop) : Prop :=
  ∀ (H : Hp) (x y : V) (d e : Dat) (G : AG) (Qa : AQ) (Q : VK), Rep K H x d → Rep K H y e → RelG K G H → rA d e G Qa → PostZ K G H Qa Q → r x y H Q
theorem rep_newL {K : PySem.W.Frag} {G : AG} {H : Hp} {Qa : AQ} {Q : VK} {ds : List Dat} {vs : List V} (rg : RelG K G H) (r : Reps K H vs ds) {z : Bool} (h : nw z ds G Qa) (p : PostZ K G H Qa Q) : ∀ a, H a = none → Q (.ref a) (upd H a (.lst vs)) := fun a ha => by
  unfold nw at h
  cases z with
  | true =>
    rw [if_pos rfl] at h
    exact p.z G H ds vs a .refl ha rg r h.2
  | false =>
    rw [if_neg (by simp)] at h
    exact p.p (.ref a) (gu G a (.lst ds)) (.ref a) _ (.new ha) (rg.new ha ⟨vs, upd_same, r.mono (.new ha)⟩) (.ref a) (h.2 a (rg.free ha))
theorem nw_len {z : Bool} {ds : List Dat} {G : AG} {Q : AQ} (h : nw z ds G Q) : ds.length ≤ sizeLine := by
  unfold nw at h
  cases z with
  | true => exact (by rw [if_pos rfl] at h; exact h.1)
  | false => exact (by rw [if_neg (by simp)] at h; exact h.1)
/-- a list that is read -/
theorem lstOf_rd {K : PySem.W.Frag} {G : AG} {H : Hp} {x : V} {d : Dat} {ds : List Dat} (rg : RelG K G H) (r : Rep K H x d) (e : lstOf G d = some ds) : ∃ a vs, x = .ref a ∧ Rd H a (.lst vs) ∧ Reps K H vs ds := by
  cases d with
  | lst es =>
    cases e
    cases r with
    | lst h q => obtain ⟨o, h⟩ := h; exact ⟨_, _, rfl, .inr ⟨o, h⟩, q⟩
  | ref a =>
    cases r
    cases q : G a with
    | none => simp only [lstOf, q] at e; cases e
    | some o =>
      simp only [lstOf, q] at e
      cases o with
      | lst es =>
        cases e
        obtain ⟨vs, h, r⟩ := rg.lst q
        exact ⟨a, vs, rfl, .inl h, r⟩
      | _ => cases e
  | _ => cases e
theorem seqOf_rd {K : PySem.W.Frag} {G : AG} {H : Hp} {x : V} {d : Dat} {ds : List Dat} (rg : RelG K G H) (r : Rep K H x d) (e : seqOf G d = some ds) : ∃ a vs, x = .ref a ∧ (SqL K H a vs ∨ SqT K H a vs) ∧ Reps K H vs ds := by
  cases d with
  | tup es =>
    cases e
    cases r with
    | tup h q => exact ⟨_, _, rfl, .inr h.sq, q⟩
  | kls es =>
    cases e
    cases r with
    | kls h q => exact ⟨_, _, rfl, .inl h.sq, q⟩
  | lst es =>
    obtain ⟨a, vs, h1, h2, h3⟩ := lstOf_rd rg r e
    exact ⟨a, vs, h1, .inl (.inl h2), h3⟩
  | ref a =>
    obtain ⟨a, vs, h1, h2, h3⟩ := lstOf_rd rg r e
    exact ⟨a, vs, h1, .inl (.inl h2), h3⟩
  | _ => cases e
/-- the object of a list that is read -/
theorem lstRd {X : Cx} {pins : List (Addr × Obj)} {σ : L2.St} {H : Hp} {s : Shared} {l : Addr} {xs : List V} (I : Inv X pins σ H s) (h : Rd H l (.lst xs)) :
    xs.length ≤ sizeLine ∧ ∃ (its : List Value) (n : Nat), Vals xs its ∧ xs.length = its.length ∧ s.heap.get? l = some { cls := .type "list", data := .seq its.toArray n } := by
  obtain ⟨z, its, n, r, e⟩ := h.ok I.hok
  exact ⟨z, its, n, r, r.length, e⟩
/-- list + list, both read -/
def rCatR : R2 := fun x y H Q => ∃ l b xs zs, x = .ref l ∧ y = .ref b ∧ Rd H l (.lst xs) ∧ Rd H b (.lst zs) ∧ xs.length + zs.length ≤ sizeLine ∧ ∀ p, H p = none → Q (.ref p) (upd H p (.lst (xs ++ zs)))
theorem op_catR {X : Cx} : OpR X (binaryOp .Add) rCatR := by
  intro pins s σ H x y v u Q I rx ry h
  obtain ⟨l, b, xs, zs, rfl, rfl, hl, hb, hz, q⟩ := h
  cases rx
  cases ry
  obtain ⟨_, i1, n1, r1, l1, e1⟩ := lstRd I hl
  obtain ⟨_, i2, n2, r2, l2, e2⟩ := lstRd I hb
  refine PySem.P.add_list e1 e2 ?_ (by simp only [List.size_toArray]; omega)
  rw [show i1.toArray ++ i2.toArray = (i1 ++ i2).toArray by simp]
  exact ⟨.ref _, _, I.lnew (t' := s.toks) (r1.append r2) (by simp only [List.length_append]; omega), rfl, q _ I.fresh⟩
/-- tuple + tuple -/
def rCatTup (K : PySem.W.Frag) : R2 := fun x y H Q => ∃ a b xs ys, x = .ref a ∧ y = .ref b ∧ SqT K H a xs ∧ SqT K H b ys ∧ xs.length + ys.length ≤ sizeLine ∧ (xs = [] → Q (.ref b) H) ∧ (xs ≠ [] → ys = [] → Q (.ref a) H) ∧ (xs ≠ [] → ys ≠ [] → ∀ p, H p = none → Q (.ref p) (upd H p (.tup (xs ++ ys))))
theorem cat_nil {prog : Program} {w : World} {A : Around} {E : Value → Shared → Prop} {s : Shared} {t b : Addr} {ws : List Value} {Q : Value → Shared → Prop} (ht : IsTup s.heap t ([] : List Value).toArray) (hb : IsTup s.heap b ws.toArray) (h : Q (.ref b) s) :
    wpAny (model prog w) A (binaryOp .Add (.ref t) (.ref b)) Q E s := by
  obtain ⟨⟨c1, d1, t1, l1⟩, e1, hc1, n1, hd1⟩ := id ht
  obtain ⟨⟨c2, d2, t2, l2⟩, e2, hc2, n2, hd2⟩ := id hb
  cases (show c1 = .type "tuple" from hc1)
  cases (show c2 = .type "tuple" from hc2)
  cases (show t1 = .seq _ n1 from hd1)
  cases (show t2 = .seq _ n2 from hd2)
  exact concat_meets ⟨_, e1, rfl⟩ ⟨_, e2, rfl⟩ noFill_tuple_add seq_tuple_add PySem.F.slot_tuple_add PySem.F.entry_tuple_add (PySem.F.args_tuple_add_2 _ _)
    (tuple_addW0 t b _ ws.toArray n1 n2 d1 d2 l1 l2 (by simp)) ⟨e1, e2, h⟩
theorem op_catTup {X : Cx} : OpR X (binaryOp .Add) (rCatTup X.K) := by
  intro pins s σ H x y v u Q I rx ry h
  obtain ⟨a, b, xs, ys, rfl, rfl, ha, hb, hz, q0, q1, q2⟩ := h
  cases rx
  cases ry
  obtain ⟨i1, r1, t1, _⟩ := I.tuple ha
  obtain ⟨i2, r2, t2, _⟩ := I.tuple hb
  have l1 := r1.length
  have l2 := r2.length
  by_cases hx : xs = []
  · subst hx
    cases r1
    exact cat_nil t1 t2 ⟨.ref b, H, I, rfl, q0 rfl⟩
  · refine HT.cat_tup t1 t2 (fun z => hx (r1.nil_iff.mp z)) (fun z => ⟨.ref a, H, I, rfl, q1 hx (r2.nil_iff.mp z)⟩) (fun z => ?_) (by omega)
    exact ⟨.ref _, _, I.laid (t' := s.toks) (o := .tup (xs ++ ys)) (fun _ _ z => Heap.get?_push_of_some _ z) (Nat.le_refl _) ⟨by rw [List.length_append]; exact hz, _, r1.append r2, _, Heap.get?_push_size _ rfl, rfl, 0, rfl⟩, rfl,
      q2 hx (fun e => z (r2.nil_iff.mpr e)) _ I.fresh⟩

/-! ### values -/
section
variable {K : PySem.W.Frag} {H : Hp} {x : V}
theorem rep_i {i : Int} (r : Rep K H x (.int i)) : x = .int i := by cases r; rfl
theorem rep_s {i : Str} (r : Rep K H x (.str i)) : x = .str i := by cases r; rfl
theorem rep_b {i : Bool} (r : Rep K H x (.bl i)) : x = .bl i := by cases r; rfl
theorem rep_n (r : Rep K H x .non) : x = .non := by cases r; rfl
theorem rep_r {a : Addr} (r : Rep K H x (.ref a)) : x = .ref a := by cases r; rfl
theorem rep_ty {n : String} (r : Rep K H x (.ty n)) : x = .ty n := by cases r; rfl
theorem rep_t {ds : List Dat} (r : Rep K H x (.tup ds)) : ∃ a vs, x = .ref a ∧ TpAt K H a vs ∧ Reps K H vs ds := by
  cases r with
  | tup h q => exact ⟨_, _, rfl, h, q⟩
end
theorem PostE.val {K : PySem.W.Frag} {G : AG} {H : Hp} {Qa : AQ} {Q : VK} (p : PostE K G H Qa Q) (rg : RelG K G H) {v : V} {d : Dat} (r : Rep K H v d) (q : Qa d G) : Q v H := p d G v H .refl rg r q
/-- a new tuple -/
theorem PostE.newT {K : PySem.W.Frag} {G : AG} {H : Hp} {Qa : AQ} {Q : VK} (p : PostE K G H Qa Q) (rg : RelG K G H) {vs : List V} {ds : List Dat} (r : Reps K H vs ds) (q : Qa (.tup ds) G) : ∀ a, H a = none → Q (.ref a) (upd H a (.tup vs)) := fun a ha =>
  p (.tup ds) G (.ref a) _ (.newT ha) (rg.newT ha) (.tup (.inl upd_same) (r.mono (.new ha))) q
theorem PostZ.val {K : PySem.W.Frag} {G : AG} {H : Hp} {Qa : AQ} {Q : VK} (p : PostZ K G H Qa Q) (rg : RelG K G H) {v : V} {d : Dat} (r : Rep K H v d) (q : Qa d G) : Q v H := p.p.val rg r q
theorem PostZ.newT {K : PySem.W.Frag} {G : AG} {H : Hp} {Qa : AQ} {Q : VK} (p : PostZ K G H Qa Q) (rg : RelG K G H) {vs : List V} {ds : List Dat} (r : Reps K H vs ds) (q : Qa (.tup ds) G) : ∀ a, H a = none → Q (.ref a) (upd H a (.tup vs)) := p.p.newT rg r q

/-! ### binary operators -/
def BO.op : BO → Operator
  | .add => .Add | .sub => .Sub | .mul => .Mult | .fdiv => .FloorDiv | .mod => .Mod | .pow => .Pow | .shl => .LShift | .shr => .RShift | .band => .BitAnd
theorem cutNil {ds : List Dat} {vs : List V} {K : PySem.W.Frag} {H : Hp} (r : Reps K H vs ds) : vs = [] ↔ ds = [] := by
  have e := r.length
  cases vs <;> cases ds <;> simp_all
theorem add_tups {K : PySem.W.Frag} {G : AG} {H : Hp} {Qa : AQ} {Q : VK} {x y : V} {a b : List Dat} (rx : Rep K H x (.tup a)) (ry : Rep K H y (.tup b)) (rg : RelG K G H) (hz : a.length + b.length ≤ sizeLine) (q : Qa (.tup (a ++ b)) G) (p : PostZ K G H Qa Q) : rCatTup K x y H Q := by
  obtain ⟨l, xs, rfl, h1, r1⟩ := rep_t rx
  obtain ⟨m, ys, rfl, h2, r2⟩ := rep_t ry
  refine ⟨l, m, xs, ys, rfl, rfl, h1.sq, h2.sq, by rw [r1.length, r2.length]; exact hz, fun e => ?_, fun _ e => ?_, fun _ _ => p.newT rg (r1.append r2) q⟩
  · have e1 := (cutNil r1).mp e
    subst e1
    exact p.val rg ry q
  · have e1 := (cutNil r2).mp e
    subst e1
    rw [List.append_nil] at q
    exact p.val rg rx q
def rAddA (K : PySem.W.Frag) : R2 := fun x y H Q => rI0 (fun i j => .int (i + j)) x y H Q ∨ (∃ i j, x = .str i ∧ y = .str j ∧ i.length + j.length ≤ sizeLine ∧ Q (.str (i ++ j)) H) ∨ rCatTup K x y H Q ∨ rCatR x y H Q
theorem rAddA_ok {X : Cx} : OpR X (binaryOp .Add) (rAddA X.K) := op_add.or (op_add_str.or (op_catTup.or op_catR))
theorem add_lsts {K : PySem.W.Frag} {G : AG} {H : Hp} {Qa : AQ} {Q : VK} {x y : V} {d e : Dat} {z : Bool} (rx : Rep K H x d) (ry : Rep K H y e) (rg : RelG K G H) (h : ∃ a b, lstOf G d = some a ∧ lstOf G e = some b ∧ nw z (a ++ b) G Qa) (p : PostZ K G H Qa Q) : rCatR x y H Q := by
  obtain ⟨a, b, h1, h2, h3⟩ := h
  obtain ⟨l, vs, rfl, k1, r1⟩ := lstOf_rd rg rx h1
  obtain ⟨m, ws, rfl, k2, r2⟩ := lstOf_rd rg ry h2
  have hz := nw_len h3
  rw [List.length_append] at hz
  exact ⟨l, m, vs, ws, rfl, rfl, k1, k2, by rw [r1.length, r2.length]; exact hz, rep_newL rg (r1.append r2) h3 p⟩
theorem opA_add {K : PySem.W.Frag} {z : Bool} : OpA K (rAddA K) (binW z .add) := by
  intro H x y d e G Qa Q rx ry rg h p
  have no : ∀ {a b : List Dat}, lstOf G d = some a → lstOf G e = some b → nw z (a ++ b) G Qa → rAddA K x y H Q := fun h1 h2 h3 => .inr (.inr (.inr (add_lsts rx ry rg ⟨_, _, h1, h2, h3⟩ p)))
  cases d with
  | int i =>
    cases e with
    | int j => cases rep_i rx; cases rep_i ry; exact .inl ⟨i, j, rfl, rfl, p.val rg (.int _) h⟩
    | _ => obtain ⟨a, b, h1, h2, h3⟩ := h; exact no h1 h2 h3
  | str i =>
    cases e with
    | str j => cases rep_s rx; cases rep_s ry; exact .inr (.inl ⟨i, j, rfl, rfl, h.1, p.val rg (.str _) h.2⟩)
    | _ => obtain ⟨a, b, h1, h2, h3⟩ := h; exact no h1 h2 h3
  | tup i =>
    cases e with
    | tup j => exact .inr (.inr (.inl (add_tups rx ry rg h.1 h.2 p)))
    | _ => obtain ⟨a, b, h1, h2, h3⟩ := h; exact no h1 h2 h3
  | _ => obtain ⟨a, b, h1, h2, h3⟩ := h; exact no h1 h2 h3
/-- list * int, read -/
def rRepR : R2 := fun x y H Q => ∃ l k xs, x = .ref l ∧ y = .int k ∧ Rd H l (.lst xs) ∧ -(2 ^ 63) ≤ k ∧ k < 2 ^ 63 ∧ xs.length * k.toNat ≤ sizeLine ∧ ∀ p, H p = none → Q (.ref p) (upd H p (.lst (List.replicate k.toNat xs).flatten))
theorem op_repR {X : Cx} : OpR X (binaryOp .Mult) rRepR := by
  intro pins s σ H x y v u Q I rx ry h
  obtain ⟨l, k, xs, rfl, rfl, hl, h1, h2, hz, q⟩ := h
  cases rx
  obtain ⟨t, rfl⟩ := ry
  obtain ⟨z, its, n, r, el, e⟩ := lstRd I hl
  have a1 : its.toArray.size * k.toNat ≤ sizeLine := by simp only [List.size_toArray]; rw [← el]; exact hz
  have a2 : ¬ its.toArray.size * k.toNat > (2 ^ 63 - 1) / 8 := by
    have b : (sizeLine : Nat) ≤ (2 ^ 63 - 1) / 8 := by decide
    omega
  have a3 : ¬ (!Builtin.List.listFitsIndex k) = true := by
    rw [fitsIndex_both h1 h2]
    simp
  have a4 : ¬ Builtin.List.listTooLong (its.toArray.size * k.toNat) = true := by
    rw [notLongL a1]
    simp
  have a5 : List.foldl (fun x1 x2 => x1 ++ x2) #[] (List.replicate (if its.toArray.isEmpty = true then 0 else k.toNat) its.toArray) = (List.replicate k.toNat its).flatten.toArray := by
    have f0 : ∀ m : Nat, List.foldl (fun x1 x2 => x1 ++ x2) #[] (List.replicate m its.toArray) = (List.replicate m its).flatten.toArray := fun m => by
      have b := foldl_rep its m []
      rw [List.nil_append] at b
      exact b
    rw [f0]
    cases its with
    | nil => simp
    | cons a q => rw [if_neg (by simp)]
  refine wpAny_binaryOp_repeat_ref (T := "list") (U := "int") (by decide) ⟨_, e, rfl⟩ (fun s' => typeIs_int s' k t) noFill_list_mul F.fills_int_mul F.slot_int_rmul repeat_list F.slot_int_index.lookup
    (call_meets F.slot_int_rmul (typeIs_int s k t) F.entry_int_rmul (F.args_int_rmul_2 _ _) (int___rmul___int_list k t l its.toArray n)
      ⟨e, rfl, ⟨_, e, rfl⟩, call_meets F.slot_list_mul ⟨_, e, rfl⟩ F.entry_list_mul (F.args_list_mul_2 _ _) (AutoListH.list___mul___list_int_3 l its.toArray n k t a3 a2 a4) ⟨e, ?_⟩⟩)
  rw [a5]
  exact ⟨.ref _, _, I.lnew (t' := s.toks) (r.rep k.toNat) (by rw [PyProof.Rows.lm_len_rep_flat, Nat.mul_comm]; exact hz), rfl, q _ I.fresh⟩
/-- a text, at most once -/
def rMulS : R2 := fun x y H Q => ∃ a k, x = .str a ∧ y = .int k ∧ -(2 ^ 63) ≤ k ∧ k ≤ 1 ∧ Q (.str (if k < 1 then Str.empty else a)) H
theorem op_mulS {X : Cx} : OpR X (binaryOp .Mult) rMulS := by
  intro pins s σ H x y v u Q I rx ry ⟨a, k, e1, e2, h1, h2, q⟩
  subst e1 e2
  obtain ⟨t, rfl⟩ := rx
  obtain ⟨t', rfl⟩ := ry
  have n1 : ¬ k < -(2 ^ 63) := by omega
  have n2 : ¬ k ≥ 2 ^ 63 := by omega
  have one : ¬ k < 1 → k = 1 := fun z => by omega
  refine PySem.P.mul_str (by rw [decide_eq_false n1, decide_eq_false n2]; rfl) (fun z e => ?_) (fun z e => ?_) ?_
  · rw [one z] at e; cases e
  · rw [one z] at e; cases e
  · by_cases h : k < 1
    · rw [if_pos h] at q ⊢
      exact ⟨by decide, .str Str.empty, H, I.tok _, ⟨_, rfl⟩, q⟩
    · rw [if_neg h] at q ⊢
      rw [one h]
      exact ⟨.str a, H, I.tok _, ⟨_, rfl⟩, q⟩
def rMulA : R2 := fun x y H Q => rI CMul (fun i j => .int (i * j)) x y H Q ∨ rRepR x y H Q ∨ rMulS x y H Q
theorem rMulA_ok {X : Cx} : OpR X (binaryOp .Mult) rMulA := op_mul.or (op_repR.or op_mulS)
theorem len_rep {α : Type} (n : Nat) (l : List α) : (List.replicate n l).flatten.length = l.length * n := by
  simp [List.length_flatten, Nat.mul_comm]
theorem opA_mul {K : PySem.W.Frag} {z : Bool} : OpA K rMulA (binW z .mul) := by
  intro H x y d e G Qa Q rx ry rg h p
  have no : ∀ {k : Int}, e = .int k → (∃ a, lstOf G d = some a ∧ -(2 ^ 63) ≤ k ∧ k < 2 ^ 63 ∧ nw z (List.replicate k.toNat a).flatten G Qa) → rMulA x y H Q := fun {k} he hq => by
    subst he
    obtain ⟨a, h1, h2, h3, h4⟩ := hq
    cases rep_i ry
    obtain ⟨l, vs, rfl, k1, r1⟩ := lstOf_rd rg rx h1
    have hz := nw_len h4
    rw [len_rep] at hz
    exact .inr (.inl ⟨l, k, vs, rfl, rfl, k1, h2, h3, by rw [r1.length]; exact hz, rep_newL rg (r1.rep _) h4 p⟩)
  cases d with
  | int i =>
    cases e with
    | int j => cases rep_i rx; cases rep_i ry; exact .inl ⟨i, j, rfl, rfl, h.1, p.val rg (.int _) h.2⟩
    | _ => exact False.elim h
  | str a =>
    cases e with
    | int j => cases rep_s rx; cases rep_i ry; exact .inr (.inr ⟨a, j, rfl, rfl, h.1.1, h.1.2, p.val rg (.str _) h.2⟩)
    | _ => exact False.elim h
  | _ =>
    cases e with
    | int j => exact no rfl h
    | _ => exact False.elim h
theorem opA_I {K : PySem.W.Frag} {C : Int → Int → Prop} {g : Int → Int → Int} {rA : Dat → Dat → AG → AQ → Prop} (e : ∀ d e G Q, rA d e G Q → ∃ i j, d = .int i ∧ e = .int j ∧ C i j ∧ Q (.int (g i j)) G) : OpA K (rI C fun i j => .int (g i j)) rA := by
  intro H x y d e' G Qa Q rx ry rg h p
  obtain ⟨i, j, rfl, rfl, h1, h2⟩ := e _ _ _ _ h
  cases rep_i rx
  cases rep_i ry
  exact ⟨i, j, rfl, rfl, h1, p.val rg (.int _) h2⟩
theorem rI0_I {g : Int → Int → V} {x y : V} {H : Hp} {Q : VK} (h : rI (fun _ _ => True) g x y H Q) : rI0 g x y H Q := by
  obtain ⟨i, j, h1, h2, _, h3⟩ := h
  exact ⟨i, j, h1, h2, h3⟩
theorem OpA.imp {K : PySem.W.Frag} {r r' : R2} {rA : Dat → Dat → AG → AQ → Prop} (f : ∀ x y H Q, r x y H Q → r' x y H Q) (h : OpA K r rA) : OpA K r' rA := fun H x y d e G Qa Q rx ry rg q p => f _ _ _ _ (h H x y d e G Qa Q rx ry rg q p)
theorem bin_ok (X : Cx) (z : Bool) (o : BO) : ∃ r, OpR X (binaryOp o.op) r ∧ OpA X.K r (binW z o) := by
  cases o with
  | add => exact ⟨_, rAddA_ok, opA_add⟩
  | sub => exact ⟨_, op_sub, .imp (fun _ _ _ _ => rI0_I) (opA_I (C := fun _ _ => True) (g := fun i j => i - j) fun d e G Q h => by cases d <;> cases e <;> first | exact ⟨_, _, rfl, rfl, trivial, h⟩ | exact False.elim h)⟩
  | mul => exact ⟨_, rMulA_ok, opA_mul⟩
  | fdiv => exact ⟨_, op_fdiv, opA_I fun d e G Q h => by cases d <;> cases e <;> first | exact ⟨_, _, rfl, rfl, h.1, h.2⟩ | exact False.elim h⟩
  | mod => exact ⟨_, op_mod, opA_I fun d e G Q h => by cases d <;> cases e <;> first | exact ⟨_, _, rfl, rfl, h.1, h.2⟩ | exact False.elim h⟩
  | pow => exact ⟨_, op_pow, opA_I fun d e G Q h => by cases d <;> cases e <;> first | exact ⟨_, _, rfl, rfl, h.1, h.2⟩ | exact False.elim h⟩
  | shl => exact ⟨_, op_shl, opA_I fun d e G Q h => by cases d <;> cases e <;> first | exact ⟨_, _, rfl, rfl, h.1, h.2⟩ | exact False.elim h⟩
  | shr => exact ⟨_, op_shr, opA_I fun d e G Q h => by cases d <;> cases e <;> first | exact ⟨_, _, rfl, rfl, h.1, h.2⟩ | exact False.elim h⟩
  | band => exact ⟨_, op_and, .imp (fun _ _ _ _ => rI0_I) (opA_I (C := fun _ _ => True) (g := fun i j => Builtin.bitAnd i j) fun d e G Q h => by cases d <;> cases e <;> first | exact ⟨_, _, rfl, rfl, trivial, h⟩ | exact False.elim h)⟩
end Av


set_option Elab.async false
set_option linter.all false
set_option maxRecDepth 100000
set_option maxHeartbeats 4000000
/-! # AvSum: sum(list, start) of lists, of tuples -/
namespace Av
open PySem PySem.Spec PyProof.Rows L2
variable [Tb]
abbrev sm (X : Cx) : Cx := { X with A := X.A.in1, xe := fun _ _ => False }
section
variable {X : Cx} {pins : List (Addr × Obj)} {σ : L2.St} {H : Hp} {s : Shared}
theorem inv_sm (I : Inv X pins σ H s) : Inv (sm X) pins σ H s :=
  ⟨⟨I.ok.mod, I.ok.kind, I.ok.glob, I.ok.blt, I.ok.above, I.ok.inj, I.ok.has, I.ok.cab, I.ok.hd, I.ok.frames, I.ok.stk, I.ok.exf, I.ok.bs, I.ok.bsz, I.ok.noex, I.ok.exfs, I.ok.funs, I.ok.frf⟩, I.os, I.bare, I.base, I.loc, I.cell, I.free, I.freeC, I.pin, I.hok, I.len⟩
theorem sm_inv (I : Inv (sm X) pins σ H s) : Inv X pins σ H s :=
  ⟨⟨I.ok.mod, I.ok.kind, I.ok.glob, I.ok.blt, I.ok.above, I.ok.inj, I.ok.has, I.ok.cab, I.ok.hd, I.ok.frames, I.ok.stk, I.ok.exf, I.ok.bs, I.ok.bsz, I.ok.noex, I.ok.exfs, I.ok.funs, I.ok.frf⟩, I.os, I.bare, I.base, I.loc, I.cell, I.free, I.freeC, I.pin, I.hok, I.len⟩
theorem args_sum2 (a b : Value) : argsOk "sum" ⟨[a, b], []⟩ := by unfold argsOk; kernel_rfl
def sumObj (u : Value) (c : Nat) : Obj := { cls := .type "list", dict := none, data := .seq #[u] c, slots := #[] }
theorem sum_go {r : R2} {a it S : Addr} {n : Nat} {W : Nat → V → Hp → Prop} {Q : VK} (hr : OpR (sm X) (binaryOp .Add) r) (hc : X.calm = true) (hS : it ≠ S)
    (hW : ∀ i t H, W i t H → (∃ b, t = .ref b) ∧ ∃ xs, SqL X.K H a xs ∧ xs.length = n ∧ (n ≤ i → Q t H) ∧ ∀ x, xs[i]? = some x → r t x H fun t' H' => W (i + 1) t' H') :
    ∀ (k i : Nat) (s : Shared) (H : Hp) (t : V) (u : Value) (c : Nat), n - i = k → Inv (sm X) pins σ H s → (∀ b ∈ [it, S], FpOk (sm X) pins H b) → s.heap.IsListIter it a i → s.heap.get? S = some (sumObj u c) → RelV t u → W i t H →
      codeAny (model X.prog X.w) X.A (.builtin "sum.loop" ⟨[.ref it, .ref S, rawInt 2, rawInt 0], []⟩) (fun f s' => ∃ v, f = .ok (.ret v) ∧ EP (sm X) pins σ Q v s') s := by
  intro k
  induction k with
  | zero =>
    intro i s H t u c hk I hf hit hSo rt w
    obtain ⟨⟨b, rfl⟩, xs, h1, h2, h3, _⟩ := hW i t H w
    cases rt
    obtain ⟨its, rv, p, _⟩ := I.list h1
    obtain ⟨f0, f1, f2, f3, f4, f5⟩ := hf it (by simp)
    have hl := rv.length
    refine codeAny_builtin PySem.F.entry_sum_loop ?_
    rw [Around.under_plainId PySem.F.plain_sum_loop _]
    show wpAny _ X.A.in1 (seqItems? (.ref S) >>= _) _ _ s
    refine wpAny_bind (wpAny_seqItems hSo rfl ?_)
    show wpAny _ X.A.in1 (tryCatch (pyNext (.ref it)) _ >>= _) _ _ s
    refine wpAny_bind (wpAny_tryCatch (wpAny_pyNext_list_end (I.ok.hd hc) hit p.isList (by simp; omega) fun h' eb => ?_))
    exact wpAny_pure ⟨.ref b, rfl, .ref b, H, I.turned (t' := s.toks) (fun b o hb e => eb b o hb e) f0 f1 f3 f4 f5, rfl, h3 (by omega)⟩
  | succ k ih =>
    intro i s H t u c hk I hf hit hSo rt w
    obtain ⟨⟨b, rfl⟩, xs, h1, h2, _, h4⟩ := hW i t H w
    cases rt
    obtain ⟨its, rv, p, _⟩ := I.list h1
    obtain ⟨f0, f1, f2, f3, f4, f5⟩ := hf it (by simp)
    have hlt : i < xs.length := by omega
    obtain ⟨x, hx⟩ : ∃ x, xs[i]? = some x := ⟨xs[i], List.getElem?_eq_getElem hlt⟩
    obtain ⟨v, hv, rx⟩ := rv.get hx
    refine codeAny_builtin PySem.F.entry_sum_loop ?_
    rw [Around.under_plainId PySem.F.plain_sum_loop _]
    show wpAny _ X.A.in1 (seqItems? (.ref S) >>= _) _ _ s
    refine wpAny_bind (wpAny_seqItems hSo rfl ?_)
    show wpAny _ X.A.in1 (tryCatch (pyNext (.ref it)) _ >>= _) _ _ s
    refine wpAny_bind (wpAny_tryCatch (wpAny_pyNext_list_item hit p.isList (x := v) (by simpa using hv) fun h' hit' sb => ?_))
    have I1 : Inv (sm X) pins σ H { s with heap := h' } := I.turned (t' := s.toks) (fun b o hb e => (sb.2 b hb).trans e) f0 f1 f3 f4 f5
    have hSo1 : h'.get? S = some (sumObj (.ref b) c) := (sb.2 S (Ne.symm hS)).trans hSo
    obtain ⟨oi, ei, ci, di⟩ := id hit'
    have I2 := I1.pinned (fp := [it, S]) hf fun q hq => by
      rcases List.mem_cons.mp hq with e | hq
      · subst e
        exact ⟨oi, ei, fun z e => by rw [di] at e; cases e⟩
      · cases List.mem_singleton.mp hq
        exact ⟨_, hSo1, fun z e => by cases e⟩
    show wpAny _ X.A.in1 ((holding [v] (binaryOp .Add (.ref b) v)).attempt >>= _) _ _ _
    refine wpAny_bind (wpAny_attempt (wpAny_holding ?_))
    refine wpAny_mono (hr _ { s with heap := h' } σ H (.ref b) x (.ref b) v _ I2 rfl rx (h4 x hx)) ?_ fun _ _ z => False.elim z
    rintro z s2 ⟨t', H2, I3, rt', w'⟩
    have pS := I3.pin (S, sumObj (.ref b) c) (List.mem_append_right _ (List.mem_append_right _ (mem_pinsAt (by simp) hSo1)))
    have pI := I3.pin (it, oi) (List.mem_append_right _ (List.mem_append_right _ (mem_pinsAt (by simp) ei)))
    have I4 : Inv (sm X) pins σ H2 s2 := I3.unpinned
    have hf2 : ∀ q ∈ [it, S], FpOk (sm X) pins H2 q := fun q hq => by
      refine ⟨?_, (hf q hq).2⟩
      rcases List.mem_cons.mp hq with e | hq
      · subst e; exact pI.2.1
      · cases List.mem_singleton.mp hq
        exact pS.2.1
    obtain ⟨g0, g1, g2, g3, g4, g5⟩ := hf2 S (by simp)
    have eS : s2.heap.get? S = some { cls := .type "list", dict := none, data := .seq #[.ref b] c, slots := #[] } := pS.1
    show wpAny _ X.A.in1 (updateSeq S (fun _ => #[z]) >>= _) _ _ _
    refine wpAny_bind ?_
    refine wpAny_updateSeq eS rfl ?_
    have e2 := Heap.get?_update_self (Obj.mapSeq fun _ => #[z]) eS rfl
    refine wpAny_bind (wpAny_letGo ?_)
    refine wpAny_bind ?_
    refine wpAny_updateSeq e2 rfl (wpAny_pure ⟨plainId_quiet PySem.F.plain_sum_loop _, ?_⟩)
    have e3 := Heap.get?_update_self (Obj.mapSeq fun _ => #[z]) e2 rfl
    have kp : ∀ (q : Addr) (o : Obj), q ≠ S → s2.heap.get? q = some o → ((s2.heap.update S (Obj.mapSeq fun _ => #[z])).update S (Obj.mapSeq fun _ => #[z])).get? q = some o := fun q o hq e =>
      (Heap.get?_update_other _ _ (Ne.symm hq)).trans ((Heap.get?_update_other _ _ (Ne.symm hq)).trans e)
    refine ih (i + 1) _ H2 t' z _ (by omega) (I4.turned (t' := s2.toks) (fun q o hq e => kp q o hq e) g0 g1 g3 g4 g5) hf2 ⟨oi, kp it oi hS pI.1, ci, di⟩ e3 rt' w'
/-- sum(xs, t), t a list or a tuple -/
def rSum2 (r : R2) (K : PySem.W.Frag) : List V → Hp → VK → Prop := fun vs H Q => ∃ a b xs T, vs = [.ref a, .ref b] ∧ SqL K H a xs ∧ (T = "list" ∧ (∃ ys, Rd H b (.lst ys)) ∨ T = "tuple" ∧ ∃ ys, SqT K H b ys) ∧
  ∃ W : Nat → V → Hp → Prop, W 0 (.ref b) H ∧ ∀ i t H, W i t H → (∃ b, t = .ref b) ∧ ∃ xs', SqL K H a xs' ∧ xs'.length = xs.length ∧ (xs.length ≤ i → Q t H) ∧ ∀ x, xs'[i]? = some x → r t x H fun t' H' => W (i + 1) t' H'
theorem cr_sum2 {r : R2} (hr : OpR (sm X) (binaryOp .Add) r) (hc : X.calm = true) : CallR X (.builtin "sum") (rSum2 r X.K) := by
  intro pins s σ H vs us Q I rv h
  obtain ⟨a, b, xs, T, rfl, h1, h2, W, w0, hW⟩ := h
  obtain ⟨u1, u2, rfl, r1, r2⟩ := rv.two
  cases r1
  cases r2
  obtain ⟨its, rl, p, _⟩ := I.list h1
  refine call_function_tree PySem.F.kind_sum PySem.F.plain_sum PySem.F.entry_sum (args_sum2 _ _) ?_
  unfold Builtin.«sum»
  simp only [List.length_cons, List.length_nil]
  rw [if_neg (by decide)]
  refine wpAny_bind (wpAny_of_eq (show Builtin.Builtins.bindParams "sum" ["start"] 0 ⟨[.ref b], []⟩ = pure [some (.ref b)] from rfl) ?_)
  refine wpAny_bind (wpAny_pyIter_list p.isList ?_)
  have I1 : Inv (sm X) pins σ H { s with heap := s.heap.push { cls := .type "list_iterator", data := .fields #[.ref a, .int 0 0] } } := (inv_sm I).kept (t' := s.toks) fun q o e => Heap.get?_push_of_some _ e
  have tl : ∀ U : String, isSubtype (.type "list") (.type U) = pure false → isSubtype (.type "tuple") (.type U) = pure false → ∀ (Qk : Bool → Shared → Prop), Qk false { s with heap := s.heap.push { cls := .type "list_iterator", data := .fields #[.ref a, .int 0 0] } } →
      wpAny (model X.prog X.w) X.A.in1 (isInstance (.ref b) (.type U)) Qk X.xe { s with heap := s.heap.push { cls := .type "list_iterator", data := .fields #[.ref a, .int 0 0] } } := fun U e1 e2 Qk q => by
    rcases h2 with ⟨_, ys, h2⟩ | ⟨_, ys, h2⟩
    · obtain ⟨_, i2, n2, _, _, e⟩ := lstRd I1 h2
      exact wpAny_isInstance (T := "list") (b := false) ⟨_, e, rfl⟩ e1 q
    · obtain ⟨i2, _, ⟨⟨oc, od, dt, sl⟩, e, hcl, n2, hd⟩, _⟩ := I1.tuple h2
      cases (show oc = .type "tuple" from hcl)
      exact wpAny_isInstance (T := "tuple") (b := false) ⟨_, e, rfl⟩ e2 q
  refine wpAny_bind (wpAny_pure ?_)
  simp only [List.forIn_cons, List.forIn_nil]
  refine wpAny_bind (wpAny_bind (wpAny_bind (tl "str" PySem.F.sub_list_str PySem.F.sub_tuple_str _ ?_)))
  simp only [Bool.false_eq_true, if_false]
  refine wpAny_pure (wpAny_bind (wpAny_bind (tl "bytes" PySem.F.sub_list_bytes PySem.F.sub_tuple_bytes _ ?_)))
  simp only [Bool.false_eq_true, if_false]
  refine wpAny_pure (wpAny_bind (wpAny_bind (tl "bytearray" PySem.F.sub_list_bytearray PySem.F.sub_tuple_bytearray _ ?_)))
  simp only [Bool.false_eq_true, if_false]
  refine wpAny_pure (wpAny_pure ?_)
  refine wpAny_bind (wpAny_newObj_type ?_)
  have sz : ({ s with heap := s.heap.push { cls := .type "list_iterator", data := .fields #[.ref a, .int 0 0] } } : Shared).heap.objs.size = s.heap.objs.size + 1 := Array.size_push ..
  have it0 : (s.heap.push { cls := .type "list_iterator", data := .fields #[.ref a, .int 0 0] }).IsListIter s.heap.objs.size a 0 := ⟨_, Heap.get?_push_size _ rfl, rfl, rfl⟩
  have fI : FpOk (sm X) pins H s.heap.objs.size := (inv_sm I).fpOk (Nat.le_refl _) (I.hok.fresh (Nat.le_refl _))
  have fS : FpOk (sm X) pins H (s.heap.push { cls := .type "list_iterator", data := .fields #[.ref a, .int 0 0] }).objs.size := I1.fpOk (Nat.le_refl _) (I1.hok.fresh (Nat.le_refl _))
  refine wpAny_pure ⟨plainId_quiet PySem.F.plain_sum_loop _, ?_⟩
  refine codeAny_mono (sum_go hr hc (Nat.ne_of_lt (Heap.lt_size it0.choose_spec.1)) hW (xs.length - 0) 0 _ H (.ref b) (.ref b) 0 rfl (I1.kept (t' := s.toks) fun q o e => Heap.get?_push_of_some _ e) ?_ (it0.at fun o e => Heap.get?_push_of_some _ e) (Heap.get?_push_size _ rfl) rfl w0) ?_
  · intro q hq
    rcases List.mem_cons.mp hq with e | hq
    · subst e; exact fI
    · cases List.mem_singleton.mp hq
      exact fS
  · rintro f s' ⟨v, rfl, t', H', I', rt, q⟩
    exact ⟨t', H', sm_inv I', rt, q⟩
end
end Av


set_option Elab.async false
set_option linter.all false
set_option maxRecDepth 100000
set_option maxHeartbeats 4000000
/-! # Av3: comparisons, truth, subscripts, slices, built-ins, methods by values -/
namespace Av
open PySem PySem.Spec PyProof.Rows L2
variable [Tb]

/-! ### equality -/
mutual
theorem deep_dp {K : PySem.W.Frag} {G : AG} {H : Hp} (rg : RelG K G H) : ∀ {d : Dat} {p : PyData} {x : V}, Deep G d p → Rep K H x d → Dp K H x p
  | _, _, _, .non, .non => .non
  | _, _, _, .bl b, .bl _ => .bl b
  | _, _, _, .int b, .int _ => .int b
  | _, _, _, .str b, .str _ => .str b
  | _, _, _, .tup h, .tup a r => .tup a.sq (deeps_dp rg h r)
  | _, _, _, .lst h, .lst a r => .lst a.sq (deeps_dp rg h r)
  | _, _, _, .ref e h, r => by
    cases rep_r r
    obtain ⟨vs, h1, h2⟩ := rg.lst e
    exact .lst (.inl (.inl h1)) (deeps_dp rg h h2)
theorem deeps_dp {K : PySem.W.Frag} {G : AG} {H : Hp} (rg : RelG K G H) : ∀ {ds : List Dat} {ps : List PyData} {xs : List V}, Deeps G ds ps → Reps K H xs ds → DpAll K H xs ps
  | _, _, _, .nil, .nil => .nil
  | _, _, _, .cons a b, .cons c d => .cons (deep_dp rg a c) (deeps_dp rg b d)
end
def CO.op : CO → CmpOp
  | .lt => .Lt | .le => .LtE | .gt => .Gt | .ge => .GtE | .eq => .Eq | .ne => .NotEq | .isn => .Is | .isnt => .IsNot | .mem => .In | .nmem => .NotIn
theorem strD_inv {K : PySem.W.Frag} {H : Hp} {v : V} {d : Dat} {s : Str} (r : Rep K H v d) (e : strD d = some s) : v = .str s ∧ d = .str s := by
  cases d with
  | str x => cases e; exact ⟨rep_s r, rfl⟩
  | _ => cases e
theorem dec_strV (a b : Str) : decide (V.str a = V.str b) = decide (a = b) := by
  by_cases h : a = b
  · subst h; simp
  · simp [h]
theorem flat_rep {K : PySem.W.Frag} {H : Hp} {x : V} {d : Dat} (r : Rep K H x d) (f : flatD d = true) : x = toV d ∧ flatV x = true := by
  cases r <;> first | exact ⟨rfl, rfl⟩ | cases f
theorem opA_eq {K : PySem.W.Frag} : OpA K (fun x y H Q => rEq x y H Q ∨ rEqD K x y H Q) (cmpW .eq) := by
  intro H x y d e G Qa Q rx ry rg h p
  rcases h with ⟨h1, h3⟩ | ⟨a, b, h1, h2, h3, h4, h5⟩
  · simp only [Bool.and_eq_true] at h1
    obtain ⟨rfl, _⟩ := flat_rep rx h1.1.1
    obtain ⟨rfl, _⟩ := flat_rep ry h1.1.2
    exact .inl ⟨h1.2, p.val rg (.bl _) h3⟩
  · exact .inr ⟨a, b, deep_dp rg h1 rx, deep_dp rg h2 ry, h3, h4, p.val rg (.bl _) h5⟩
theorem opA_ne {K : PySem.W.Frag} : OpA K (fun x y H Q => rNe x y H Q ∨ rNeD K x y H Q) (cmpW .ne) := by
  intro H x y d e G Qa Q rx ry rg h p
  rcases h with ⟨h1, h3⟩ | ⟨a, b, h1, h2, h3, h4, h5⟩
  · simp only [Bool.and_eq_true] at h1
    obtain ⟨rfl, _⟩ := flat_rep rx h1.1.1
    obtain ⟨rfl, _⟩ := flat_rep ry h1.1.2
    exact .inl ⟨h1.2, p.val rg (.bl _) h3⟩
  · exact .inr ⟨a, b, deep_dp rg h1 rx, deep_dp rg h2 ry, h3, h4, p.val rg (.bl _) h5⟩
theorem flats_rep {K : PySem.W.Frag} {H : Hp} : ∀ {ds : List Dat} {xs : List V}, Reps K H xs ds → ds.all flatD = true → xs = ds.map toV ∧ xs.all flatV = true
  | [], _, .nil, _ => ⟨rfl, rfl⟩
  | d :: ds, _, .cons a r, f => by
    rw [List.all_cons, Bool.and_eq_true] at f
    obtain ⟨h1, h2⟩ := flat_rep a f.1
    obtain ⟨h3, h4⟩ := flats_rep r f.2
    exact ⟨by rw [List.map_cons, ← h1, ← h3], by rw [List.all_cons, h2, h4] <;> rfl⟩
theorem opA_mem {K : PySem.W.Frag} {n : Bool} {rA : Dat → Dat → AG → AQ → Prop} (e : ∀ x y G Q, rA x y G Q → memW n x y G Q) : OpA K (rIn K n) rA := by
  intro H x y d e' G Qa Q rx ry rg h p
  obtain ⟨ds, h1, h2, h3, h4⟩ := e _ _ _ _ h
  obtain ⟨a, vs, rfl, h5, h6⟩ := seqOf_rd rg ry h1
  obtain ⟨f1, f2⟩ := flat_rep rx h2
  obtain ⟨f3, f4⟩ := flats_rep h6 h3
  refine ⟨a, vs, rfl, h5, f2, f4, ?_⟩
  have q : inV x vs = ds.any fun d' => eqF d' d := by
    unfold inV
    rw [f3, f1, List.any_map]
    rfl
  rw [q]
  exact p.val rg (.bl _) h4
theorem opA_B {K : PySem.W.Frag} {g : Int → Int → Bool} {rA : Dat → Dat → AG → AQ → Prop} (e : ∀ d e G Q, rA d e G Q → ∃ i j, d = .int i ∧ e = .int j ∧ Q (.bl (g i j)) G) : OpA K (rI0 fun i j => .bl (g i j)) rA := by
  intro H x y d e' G Qa Q rx ry rg h p
  obtain ⟨i, j, rfl, rfl, h2⟩ := e _ _ _ _ h
  cases rep_i rx
  cases rep_i ry
  exact ⟨i, j, rfl, rfl, p.val rg (.bl _) h2⟩
theorem non_dec {K : PySem.W.Frag} {H : Hp} {x : V} {d : Dat} (r : Rep K H x d) : decide (x = .non) = isNonD d := by
  cases r <;> first | rfl | exact decide_eq_false (fun z => by cases z)
theorem cmp_ok (X : Cx) (hu : X.A.units + 64 < cLine) (o : CO) : ∃ r, OpR X (compareOp o.op) r ∧ OpA X.K r (cmpW o) := by
  cases o with
  | lt => exact ⟨_, op_lt, opA_B fun d e G Q h => by cases d <;> cases e <;> first | exact ⟨_, _, rfl, rfl, h⟩ | exact False.elim h⟩
  | le => exact ⟨_, op_le, opA_B fun d e G Q h => by cases d <;> cases e <;> first | exact ⟨_, _, rfl, rfl, h⟩ | exact False.elim h⟩
  | gt => exact ⟨_, op_gt, opA_B fun d e G Q h => by cases d <;> cases e <;> first | exact ⟨_, _, rfl, rfl, h⟩ | exact False.elim h⟩
  | ge => exact ⟨_, op_ge, opA_B fun d e G Q h => by cases d <;> cases e <;> first | exact ⟨_, _, rfl, rfl, h⟩ | exact False.elim h⟩
  | eq => exact ⟨_, op_eq.or (op_eqD hu), opA_eq⟩
  | ne => exact ⟨_, op_ne.or (op_neD hu), opA_ne⟩
  | isn =>
    refine ⟨_, op_isN, fun H x y d e G Qa Q rx ry rg h p => ?_⟩
    cases e with
    | non => cases rep_n ry; exact ⟨rfl, by rw [non_dec rx]; exact p.val rg (.bl _) h⟩
    | _ => exact False.elim h
  | isnt =>
    refine ⟨_, op_notN, fun H x y d e G Qa Q rx ry rg h p => ?_⟩
    cases e with
    | non =>
      cases rep_n ry
      refine ⟨rfl, ?_⟩
      rw [non_dec rx]
      exact p.val rg (.bl _) h
    | _ => exact False.elim h
  | mem => exact ⟨_, op_in_seq, opA_mem fun _ _ _ _ h => h⟩
  | nmem => exact ⟨_, op_notIn_seq, opA_mem fun _ _ _ _ h => h⟩

/-! ### truth -/
theorem emp {K : PySem.W.Frag} {H : Hp} {vs : List V} {ds : List Dat} (r : Reps K H vs ds) : (!vs.isEmpty) = !ds.isEmpty := by
  cases r <;> rfl
theorem tru_A {K : PySem.W.Frag} {H : Hp} {x : V} {d : Dat} {G : AG} {Qa : Bool → AG → Prop} {Q : Bool → Hp → Prop} (rx : Rep K H x d) (rg : RelG K G H) (h : truW d G Qa) (p : ∀ k, Qa k G → Q k H) : ∃ k, TruV K x H k ∧ Q k H := by
  cases d with
  | non => cases rep_n rx; exact ⟨false, rfl, p _ h⟩
  | bl b => cases rep_b rx; exact ⟨b, rfl, p _ h⟩
  | int i => cases rep_i rx; exact ⟨_, rfl, p _ h⟩
  | str z =>
    cases rep_s rx
    have e : ((z.length : Int) != 0) = (z.length != 0) := by
      have q : ((z.length : Int) == 0) = (z.length == 0) := by rw [Bool.eq_iff_iff]; simp
      simp only [bne, q]
    exact ⟨_, ⟨h.1, rfl⟩, by rw [e]; exact p _ h.2⟩
  | tup ds =>
    obtain ⟨a, vs, rfl, h1, h2⟩ := rep_t rx
    exact ⟨_, .inr (.inl ⟨vs, h1.sq, rfl⟩), by rw [emp h2]; exact p _ h⟩
  | _ =>
    obtain ⟨ds, h1, h2⟩ := h
    obtain ⟨a, vs, rfl, h3, h4⟩ := lstOf_rd rg rx h1
    exact ⟨_, .inl ⟨vs, .inl h3, rfl⟩, by rw [emp h4]; exact p _ h2⟩

/-! ### subscripts, slices -/
theorem atI_rep {K : PySem.W.Frag} {H : Hp} {vs : List V} {ds : List Dat} {i : Int} {d : Dat} (r : Reps K H vs ds) (e : atI ds i = some d) : ∃ v, atI vs i = some v ∧ Rep K H v d := by
  unfold atI at e ⊢
  rw [r.length]
  cases q : ixN ds.length i with
  | none => rw [q] at e; cases e
  | some j =>
    rw [q] at e
    obtain ⟨v, h1, h2⟩ := r.get (i := j) e
    exact ⟨v, h1, h2⟩
theorem opA_ix {K : PySem.W.Frag} : OpA K (rIx K) ixW := by
  intro H x y d e G Qa Q rx ry rg h p
  cases e with
  | int i =>
    cases rep_i ry
    obtain ⟨ds, d', h1, h2, h3⟩ := h
    obtain ⟨a, vs, rfl, h5, h6⟩ := seqOf_rd rg rx h1
    obtain ⟨v, h7, h8⟩ := atI_rep h6 h2
    rcases h5 with h5 | h5
    · exact .inl ⟨a, vs, i, v, rfl, rfl, h5, h7, p.val rg h8 h3⟩
    · exact .inr (.inl ⟨a, vs, i, v, rfl, rfl, h5, h7, p.val rg h8 h3⟩)
  | _ => exact False.elim h
theorem cut_rep {K : PySem.W.Frag} {H : Hp} {vs : List V} {ds : List Dat} (r : Reps K H vs ds) (lo hi : Option Int) : Reps K H (cutV vs lo hi) (cutD ds lo hi) := by
  unfold cutV cutD
  rw [r.length]
  exact (r.drop _).take _
def rSlAny (K : PySem.W.Frag) : V → Option Int → Option Int → Hp → VK → Prop := fun x lo hi H Q => rSlL K x lo hi H Q ∨ rSlA K x lo hi H Q
theorem sl_any {X : Cx} : SlR X (rSlAny X.K) := sl_list.or sl_tupA
theorem sIx_nn (n d : Nat) (o : Option Int) (hd : d ≤ n) : HT.sIx n d o ≤ n := HT.sIx_le n d hd o
theorem slA_ok {K : PySem.W.Frag} {H : Hp} {x : V} {d : Dat} {G : AG} {Qa : AQ} {Q : VK} {lo hi : Option Int} (rx : Rep K H x d) (rg : RelG K G H) {z : Bool} (h : slW z d lo hi G Qa) (p : PostZ K G H Qa Q) : rSlAny K x lo hi H Q := by
  have no : (∃ ds, lstOf G d = some ds ∧ nw z (cutD ds lo hi) G Qa) → rSlAny K x lo hi H Q := fun hq => by
    obtain ⟨ds, h1, h2⟩ := hq
    obtain ⟨a, vs, rfl, k1, r1⟩ := lstOf_rd rg rx h1
    exact .inl ⟨a, vs, rfl, .inl k1, rep_newL rg (cut_rep r1 lo hi) h2 p⟩
  cases d with
  | tup ds =>
    obtain ⟨a, vs, rfl, h1, h2⟩ := rep_t rx
    refine .inr ⟨a, vs, rfl, h1.sq, fun hw => ?_, fun _ => p.newT rg (cut_rep h2 lo hi) h⟩
    have e : cutD ds lo hi = ds := by
      unfold cutD
      rw [← h2.length, hw.1, hw.2]
      rw [List.drop_zero, Nat.sub_zero, h2.length, List.take_length]
    have h' : Qa (.tup ds) G := by
      have q : Qa (.tup (cutD ds lo hi)) G := h
      rw [e] at q
      exact q
    exact p.val rg rx h'
  | _ => exact no h

/-! ### built-ins -/
def BF.nm : BF → Str
  | .len => "len" | .int => "int" | .tuple => "tuple" | .list => "list" | .isinst => "isinstance" | .all => "all" | .any => "any" | .sum1 => "sum" | .sum2 => "sum" | .min2 => "min" | .max2 => "max" | .ord => "ord"
def BF.val : BF → Value
  | .len => .builtin "len" | .int => .type "int" | .tuple => .type "tuple" | .list => .type "list" | .isinst => .builtin "isinstance" | .all => .builtin "all" | .any => .builtin "any" | .sum1 => .builtin "sum" | .sum2 => .builtin "sum"
  | .min2 => .builtin "min" | .max2 => .builtin "max" | .ord => .builtin "ord"
def BltA (K : PySem.W.Frag) (r : List V → Hp → VK → Prop) (rA : List Dat → AG → AQ → Prop) : Prop :=
  ∀ (H : Hp) (xs : List V) (ds : List Dat) (G : AG) (Qa : AQ) (Q : VK), Reps K H xs ds → RelG K G H → rA ds G Qa → PostZ K G H Qa Q → r xs H Q
theorem reps1 {K : PySem.W.Frag} {H : Hp} {xs : List V} {d : Dat} (r : Reps K H xs [d]) : ∃ x, xs = [x] ∧ Rep K H x d := by
  cases r with
  | cons a b => cases b; exact ⟨_, rfl, a⟩
theorem reps2 {K : PySem.W.Frag} {H : Hp} {xs : List V} {d e : Dat} (r : Reps K H xs [d, e]) : ∃ x y, xs = [x, y] ∧ Rep K H x d ∧ Rep K H y e := by
  cases r with
  | cons a b =>
    obtain ⟨y, rfl, h⟩ := reps1 b
    exact ⟨_, _, rfl, a, h⟩
theorem bls_rep {K : PySem.W.Frag} {H : Hp} : ∀ {ds : List Dat} {vs : List V} {bs : List Bool}, Reps K H vs ds → blsOf ds = some bs → vs = bs.map V.bl
  | [], _, _, .nil, e => by cases e; rfl
  | d :: ds, _, bs, .cons a r, e => by
    cases d with
    | bl b =>
      cases q : blsOf ds with
      | none => simp only [blsOf, q] at e; cases e
      | some cs =>
        simp only [blsOf, q] at e
        cases e
        cases rep_b a
        rw [List.map_cons, bls_rep r q]
    | _ => cases e
theorem ints_rep {K : PySem.W.Frag} {H : Hp} : ∀ {ds : List Dat} {vs : List V} {bs : List Int}, Reps K H vs ds → intsOf ds = some bs → vs = bs.map V.int
  | [], _, _, .nil, e => by cases e; rfl
  | d :: ds, _, bs, .cons a r, e => by
    cases d with
    | int b =>
      cases q : intsOf ds with
      | none => simp only [intsOf, q] at e; cases e
      | some cs =>
        simp only [intsOf, q] at e
        cases e
        cases rep_i a
        rw [List.map_cons, ints_rep r q]
    | _ => cases e
/-- a value's type, by what is known -/
theorem ty_rep {K : PySem.W.Frag} {G : AG} {H : Hp} {x : V} {d : Dat} {t : String} (rx : Rep K H x d) (rg : RelG K G H) (e : tyOf G d = some t) : TyX K H x (.type t) := by
  cases d with
  | non => cases rep_n rx; cases e; exact .base .non
  | bl b => cases rep_b rx; cases e; exact .base (.bl b)
  | int b => cases rep_i rx; cases e; exact .base (.int b)
  | str b => cases rep_s rx; cases e; exact .base (.str b)
  | tup ds =>
    cases e
    obtain ⟨a, vs, rfl, h1, _⟩ := rep_t rx
    rcases h1 with h1 | ⟨o, _, _, h1, h2, _⟩
    · exact .base (.tup h1)
    · exact .kTuple h1 h2
  | lst ds =>
    cases e
    cases rx with
    | lst h _ => obtain ⟨o, h⟩ := h; exact .base (.frz h)
  | ref a =>
    cases rep_r rx
    cases q : G a with
    | none => simp only [tyOf, q] at e; cases e
    | some o =>
      cases o with
      | lst ds =>
        simp only [tyOf, q] at e
        cases e
        obtain ⟨vs, h1, _⟩ := rg.lst q
        exact .base (.lst h1)
      | dk kvs =>
        simp only [tyOf, q] at e
        cases e
        obtain ⟨vk, h1, _⟩ := (show AOk K H a (.dk kvs) from rg.g a _ q)
        exact .base (.dK h1)
      | ins C fs => simp only [tyOf, q] at e; cases e
  | ty n => cases e
  | kls n => cases e
  | gf n => cases e
theorem allTy_ok {K : PySem.W.Frag} {H : Hp} : ∀ {cs : List Dat} {vs : List V}, allTy cs = true → Reps K H vs cs → ∃ us, Paired ClsV vs us
  | [], _, _, .nil => ⟨[], .nil⟩
  | d :: cs, _, e, .cons a r => by
    cases d with
    | ty n =>
      cases rep_ty a
      obtain ⟨us, h⟩ := allTy_ok (cs := cs) e r
      exact ⟨_, .cons (.ty n) h⟩
    | _ => cases e
theorem isiAny_ok {K : PySem.W.Frag} {H : Hp} {t : String} : ∀ {cs : List Dat} {vs : List V} {b : Bool}, isiAny t cs = some b → Reps K H vs cs → ∃ us, Paired ClsV vs us ∧ PySem.W.kitAny K (.type t) us = some b
  | [], _, _, e, .nil => by cases e; exact ⟨[], .nil, kitAny_nil⟩
  | d :: cs, _, b, e, .cons a r => by
    cases d with
    | ty n =>
      cases rep_ty a
      cases q : kitB t n with
      | none => simp only [isiAny, q] at e; cases e
      | some k =>
        cases k with
        | true =>
          simp only [isiAny, q] at e
          by_cases hq : allTy cs = true
          · rw [if_pos hq] at e
            cases e
            obtain ⟨us, h1⟩ := allTy_ok hq r
            exact ⟨_, .cons (.ty n) h1, kitAny_cons (kit_ty q) (fun z => by cases z) (fun _ => rfl)⟩
          · rw [if_neg hq] at e
            cases e
        | false =>
          simp only [isiAny, q] at e
          obtain ⟨us, h1, h2⟩ := isiAny_ok e r
          exact ⟨_, .cons (.ty n) h1, kitAny_cons (kit_ty q) (fun _ => h2) (fun z => by cases z)⟩
    | _ => cases e
/-- isinstance -/
def rIsiA (K : PySem.W.Frag) : List V → Hp → VK → Prop := fun xs H Q => rIsi K xs H Q ∨ rIsiT K xs H Q ∨ rIsiK K xs H Q
theorem call_isiA {X : Cx} : CallR X (.builtin "isinstance") (rIsiA X.K) := call_isi.or (call_isiT.or call_isiK)
theorem blt1 {f : BF} {ds : List Dat} {G : AG} {Q : AQ} {z : Bool} (h : bltW z f ds G Q) (hf : f = .len ∨ f = .int ∨ f = .tuple ∨ f = .list ∨ f = .all ∨ f = .any ∨ f = .sum1) : ∃ x, ds = [x] := by
  rcases hf with rfl | rfl | rfl | rfl | rfl | rfl | rfl <;>
  · match ds, h with
    | [x], _ => exact ⟨x, rfl⟩
    | [], h => exact False.elim h
    | a :: _ :: _, h => cases a <;> exact False.elim h
theorem blt2 {f : BF} {ds : List Dat} {G : AG} {Q : AQ} {z : Bool} (h : bltW z f ds G Q) (hf : f = .isinst ∨ f = .min2 ∨ f = .max2 ∨ f = .sum2) : ∃ x y, ds = [x, y] := by
  rcases hf with rfl | rfl | rfl | rfl <;>
  · match ds, h with
    | [x, y], _ => exact ⟨x, y, rfl⟩
    | [], h => exact False.elim h
    | [a], h => cases a <;> exact False.elim h
    | a :: b :: _ :: _, h => cases a <;> cases b <;> exact False.elim h
theorem bltA_isi {K : PySem.W.Frag} {z : Bool} : BltA K (rIsiA K) (bltW z .isinst) := by
  intro H xs ds G Qa Q r rg h p
  obtain ⟨d, c, rfl⟩ := blt2 h (.inl rfl)
  obtain ⟨x, y, rfl, r1, r2⟩ := reps2 r
  cases c with
  | ty n =>
    cases rep_ty r2
    obtain ⟨t, b, h1, h2, h3⟩ := h
    exact .inl ⟨x, .ty n, .type t, .type n, b, rfl, .ty n, ty_rep r1 rg h1, kit_ty h2, p.val rg (.bl _) h3⟩
  | tup cs =>
    obtain ⟨a, vs, rfl, h4, h5⟩ := rep_t r2
    obtain ⟨t, b, h1, h2, h3⟩ := h
    obtain ⟨us, h6, h7⟩ := isiAny_ok (K := K) h2 h5
    rcases h4 with h4 | ⟨o, its, n, h4, h8, h9, h10, h11⟩
    · exact .inr (.inl ⟨x, a, vs, .type t, us, b, rfl, h4, h6, ty_rep r1 rg h1, h7, p.val rg (.bl _) h3⟩)
    · obtain ⟨oc, od, dt, sl⟩ := o
      cases (show oc = .type "tuple" from h8)
      cases (show dt = .seq its n from h9)
      have e := ClsV.all h6 h11
      have e2 : its = us.toArray := by rw [← e]
      rw [e2] at h4
      exact .inr (.inr ⟨x, a, od, us, n, sl, .type t, b, rfl, h4, ty_rep r1 rg h1, h7, p.val rg (.bl _) h3⟩)
  | _ => exact False.elim h
theorem bltA_len {K : PySem.W.Frag} {z : Bool} : BltA K (fun xs H Q => ∃ x n, xs = [x] ∧ LenV K x H n ∧ Q (.int n) H) (bltW z .len) := by
  intro H xs ds G Qa Q r rg h p
  obtain ⟨d, rfl⟩ := blt1 h (.inl rfl)
  obtain ⟨x, rfl, r1⟩ := reps1 r
  obtain ⟨es, h1, h2⟩ := h
  obtain ⟨a, vs, rfl, h3, h4⟩ := seqOf_rd rg r1 h1
  refine ⟨.ref a, vs.length, rfl, ?_, by rw [h4.length]; exact p.val rg (.int _) h2⟩
  rcases h3 with h3 | h3
  · exact .inl ⟨vs, h3, rfl⟩
  · exact .inr ⟨vs, h3, rfl⟩
theorem bltA_int {K : PySem.W.Frag} {z : Bool} : BltA K (fun xs H Q => (∃ i, xs = [.int i] ∧ Q (.int i) H) ∨ ∃ k, xs = [.bl k] ∧ Q (.int (if k then 1 else 0)) H) (bltW z .int) := by
  intro H xs ds G Qa Q r rg h p
  obtain ⟨d, rfl⟩ := blt1 h (.inr (.inl rfl))
  obtain ⟨x, rfl, r1⟩ := reps1 r
  cases d with
  | int i => cases rep_i r1; exact .inl ⟨i, rfl, p.val rg (.int _) h⟩
  | bl i => cases rep_b r1; exact .inr ⟨i, rfl, p.val rg (.int _) h⟩
  | _ => exact False.elim h
theorem bltA_tuple {K : PySem.W.Frag} {z : Bool} : BltA K (fun xs H Q => ∃ p ys, xs = [.ref p] ∧ ((SqL K H p ys ∧ ∀ l, H l = none → Q (.ref l) (upd H l (.tup ys))) ∨ (SqT K H p ys ∧ Q (.ref p) H))) (bltW z .tuple) := by
  intro H xs ds G Qa Q r rg h p
  obtain ⟨d, rfl⟩ := blt1 h (.inr (.inr (.inl rfl)))
  obtain ⟨x, rfl, r1⟩ := reps1 r
  obtain ⟨es, h1, h2⟩ := h
  have lq : lstOf G d = some es → ∃ p ys, [x] = [V.ref p] ∧ ((SqL K H p ys ∧ ∀ l, H l = none → Q (.ref l) (upd H l (.tup ys))) ∨ (SqT K H p ys ∧ Q (.ref p) H)) := fun e => by
    obtain ⟨a, vs, rfl, h3, h4⟩ := lstOf_rd rg r1 e
    exact ⟨a, vs, rfl, .inl ⟨.inl h3, p.newT rg h4 h2⟩⟩
  cases d with
  | tup es =>
    cases h1
    obtain ⟨a, vs, rfl, h3, h4⟩ := rep_t r1
    exact ⟨a, vs, rfl, .inr ⟨h3.sq, p.val rg r1 h2⟩⟩
  | kls es =>
    cases h1
    cases r1 with
    | kls h3 h4 => exact ⟨_, _, rfl, .inl ⟨h3.sq, p.newT rg h4 h2⟩⟩
  | lst es => exact lq h1
  | ref a => exact lq h1
  | _ => cases h1
theorem bltA_list {K : PySem.W.Frag} {z : Bool} : BltA K (fun xs H Q => ∃ p ys, xs = [.ref p] ∧ (SqL K H p ys ∨ SqT K H p ys) ∧ ∀ l, H l = none → Q (.ref l) (upd H l (.lst ys))) (bltW z .list) := by
  intro H xs ds G Qa Q r rg h p
  obtain ⟨d, rfl⟩ := blt1 h (.inr (.inr (.inr (.inl rfl))))
  obtain ⟨x, rfl, r1⟩ := reps1 r
  obtain ⟨es, h1, h2⟩ := h
  obtain ⟨a, vs, rfl, h3, h4⟩ := seqOf_rd rg r1 h1
  exact ⟨a, vs, rfl, h3, rep_newL rg h4 h2 p⟩
theorem bltA_all {K : PySem.W.Frag} {z : Bool} : BltA K (rAll K) (bltW z .all) := by
  intro H xs ds G Qa Q r rg h p
  obtain ⟨d, rfl⟩ := blt1 h (.inr (.inr (.inr (.inr (.inl rfl)))))
  obtain ⟨x, rfl, r1⟩ := reps1 r
  obtain ⟨es, bs, h1, h2, h3⟩ := h
  obtain ⟨a, vs, rfl, h4, h5⟩ := lstOf_rd rg r1 h1
  cases bls_rep h5 h2
  exact ⟨a, bs, rfl, .inl h4, p.val rg (.bl _) h3⟩
theorem bltA_any {K : PySem.W.Frag} {z : Bool} : BltA K (rAny K) (bltW z .any) := by
  intro H xs ds G Qa Q r rg h p
  obtain ⟨d, rfl⟩ := blt1 h (.inr (.inr (.inr (.inr (.inr (.inl rfl))))))
  obtain ⟨x, rfl, r1⟩ := reps1 r
  obtain ⟨es, bs, h1, h2, h3⟩ := h
  obtain ⟨a, vs, rfl, h4, h5⟩ := lstOf_rd rg r1 h1
  cases bls_rep h5 h2
  exact ⟨a, bs, rfl, .inl h4, p.val rg (.bl _) h3⟩
theorem bltA_sum1 {K : PySem.W.Frag} {z : Bool} : BltA K (rSum K) (bltW z .sum1) := by
  intro H xs ds G Qa Q r rg h p
  obtain ⟨d, rfl⟩ := blt1 h (.inr (.inr (.inr (.inr (.inr (.inr rfl))))))
  obtain ⟨x, rfl, r1⟩ := reps1 r
  obtain ⟨es, bs, h1, h2, h3⟩ := h
  obtain ⟨a, vs, rfl, h4, h5⟩ := lstOf_rd rg r1 h1
  cases ints_rep h5 h2
  exact ⟨a, bs, rfl, .inl h4, p.val rg (.int _) h3⟩
theorem bltA_min2 {K : PySem.W.Frag} {z : Bool} : BltA K (fun xs H Q => ∃ i j, xs = [.int i, .int j] ∧ Q (.int (if j < i then j else i)) H) (bltW z .min2) := by
  intro H xs ds G Qa Q r rg h p
  obtain ⟨d, e, rfl⟩ := blt2 h (.inr (.inl rfl))
  obtain ⟨x, y, rfl, r1, r2⟩ := reps2 r
  cases d <;> cases e <;> first | exact False.elim h | skip
  cases rep_i r1
  cases rep_i r2
  exact ⟨_, _, rfl, p.val rg (.int _) h⟩
theorem bltA_max2 {K : PySem.W.Frag} {z : Bool} : BltA K (fun xs H Q => ∃ i j, xs = [.int i, .int j] ∧ Q (.int (if j > i then j else i)) H) (bltW z .max2) := by
  intro H xs ds G Qa Q r rg h p
  obtain ⟨d, e, rfl⟩ := blt2 h (.inr (.inr (.inl rfl)))
  obtain ⟨x, y, rfl, r1, r2⟩ := reps2 r
  cases d <;> cases e <;> first | exact False.elim h | skip
  cases rep_i r1
  cases rep_i r2
  exact ⟨_, _, rfl, p.val rg (.int _) h⟩
theorem take_flat {ls : List (List Dat)} {i : Nat} {b : List Dat} (h : ls[i]? = some b) : (ls.take (i + 1)).flatten = (ls.take i).flatten ++ b := by
  obtain ⟨h1, h2⟩ := List.getElem?_eq_some_iff.mp h
  rw [List.take_succ, h, List.flatten_append]
  simp
theorem flat_le {ls : List (List Dat)} (i : Nat) : (ls.take i).flatten.length ≤ ls.flatten.length := by
  conv => rhs; rw [← List.take_append_drop i ls, List.flatten_append, List.length_append]
  omega
theorem tupsOf_get : ∀ {rows : List Dat} {ls : List (List Dat)}, tupsOf rows = some ls → rows = ls.map Dat.tup
  | [], ls, h => by cases h; rfl
  | d :: r, ls, h => by
    cases d with
    | tup b =>
      cases q : tupsOf r with
      | none => simp only [tupsOf, q] at h; cases h
      | some l2 =>
        simp only [tupsOf, q] at h
        cases h
        rw [List.map_cons, tupsOf_get q]
    | _ => cases h
theorem lstsOf_get {G : AG} : ∀ {rows : List Dat} {ls : List (List Dat)}, lstsOf G rows = some ls → rows.length = ls.length ∧ ∀ (i : Nat) (d : Dat), rows[i]? = some d → ∃ b, ls[i]? = some b ∧ lstOf G d = some b
  | [], ls, h => by cases h; exact ⟨rfl, fun i d e => by simp at e⟩
  | x :: r, ls, h => by
    unfold lstsOf at h
    split at h
    · rename_i b l2 e1 e2
      cases h
      obtain ⟨h1, h2⟩ := lstsOf_get e2
      refine ⟨congrArg (· + 1) h1, fun i d e => ?_⟩
      cases i with
      | zero =>
        simp only [List.getElem?_cons_zero, Option.some.injEq] at e
        subst e
        exact ⟨b, rfl, e1⟩
      | succ i => exact h2 i d e
    · cases h
theorem bltA_sum2T {K : PySem.W.Frag} {H : Hp} {a : Addr} {xs : List V} {rows : List Dat} {t0 : List Dat} {y : V} {G : AG} {Qa : AQ} {Q : VK} (rg : RelG K G H) (hl : SqL K H a xs) (r1 : Reps K H xs rows) (hst : ∀ H', Fra G H G H' → RelG K G H' → ∃ xs', SqL K H' a xs' ∧ Reps K H' xs' rows) (r2 : Rep K H y (.tup t0))
    (h : ∃ ls, tupsOf rows = some ls ∧ t0.length + ls.flatten.length ≤ sizeLine ∧ Qa (.tup (t0 ++ ls.flatten)) G) (p : PostE K G H Qa Q) : rSum2 (rCatTup K) K [.ref a, y] H Q := by
  obtain ⟨ls, e, hz, q⟩ := h
  have e := tupsOf_get e
  obtain ⟨b, ys, rfl, h3, _⟩ := rep_t r2
  have lr : rows.length = ls.length := by rw [e, List.length_map]
  refine ⟨a, b, xs, "tuple", rfl, hl, .inr ⟨rfl, ys, h3.sq⟩, fun i t H' => Fra G H G H' ∧ RelG K G H' ∧ Rep K H' t (.tup (t0 ++ (ls.take i).flatten)), ⟨.refl, rg, by simpa using r2⟩, ?_⟩
  rintro i t H' ⟨f, g, rt⟩
  obtain ⟨c, zs, rfl, _, _⟩ := rep_t rt
  obtain ⟨xs', q1, q2⟩ := hst H' f g
  have l1 := r1.length
  have l2 := q2.length
  refine ⟨⟨c, rfl⟩, xs', q1, by omega, fun hi => ?_, fun x hx => ?_⟩
  · rw [List.take_of_length_le (by omega)] at rt
    exact p _ _ _ _ f g rt q
  · obtain ⟨d, hd, rd⟩ := q2.getV hx
    rw [e, List.getElem?_map] at hd
    cases eb : ls[i]? with
    | none => rw [eb] at hd; cases hd
    | some bb =>
      rw [eb] at hd
      cases hd
      have l1 := flat_le (ls := ls) (i + 1)
      rw [take_flat eb] at l1
      rw [List.length_append] at l1
      refine add_tups (Qa := fun d G' => d = .tup ((t0 ++ (ls.take i).flatten) ++ bb) ∧ G' = G) rt rd g (by rw [List.length_append]; omega) ⟨rfl, rfl⟩ ⟨fun d G' v H2 f2 g2 r2 hq => ?_, fun _ _ _ _ _ _ _ _ _ hq => nomatch hq.1⟩
      obtain ⟨rfl, rfl⟩ := hq
      refine ⟨f.trans f2, g2, ?_⟩
      rw [take_flat eb, ← List.append_assoc]
      exact r2
theorem bltA_sum2L {K : PySem.W.Frag} {H : Hp} {a : Addr} {xs : List V} {rows : List Dat} {d0 : Dat} {y : V} {G : AG} {Qa : AQ} {Q : VK} {z : Bool} (rg : RelG K G H) (hl : SqL K H a xs) (r1 : Reps K H xs rows) (hst : ∀ H', Fra G H G H' → RelG K G H' → ∃ xs', SqL K H' a xs' ∧ Reps K H' xs' rows) (r2 : Rep K H y d0)
    (h : ∃ s0 ls, lstOf G d0 = some s0 ∧ lstsOf G rows = some ls ∧ s0.length + ls.flatten.length ≤ sizeLine ∧ if ls = [] then Qa d0 G else nw z (s0 ++ ls.flatten) G Qa) (p : PostZ K G H Qa Q) : rSum2 rCatR K [.ref a, y] H Q := by
  obtain ⟨s0, ls, e0, e, hz, q⟩ := h
  obtain ⟨ln, e⟩ := lstsOf_get e
  obtain ⟨b, ys, rfl, h3, r3⟩ := lstOf_rd rg r2 e0
  have lx : xs.length = ls.length := by rw [r1.length, ln]
  refine ⟨a, b, xs, "list", rfl, hl, .inl ⟨rfl, ys, h3⟩, fun i t H' => i ≤ ls.length ∧ (Fra G H G H' ∧ RelG K G H') ∧ ∃ l vs, t = .ref l ∧ Rd H' l (.lst vs) ∧ Reps K H' vs (s0 ++ (ls.take i).flatten) ∧
    ((i = 0 ∧ l = b ∧ H' = H) ∨ (0 < i ∧ ∃ H1, H1 l = none ∧ H' = upd H1 l (.lst vs) ∧ Fra G H G H1 ∧ RelG K G H1 ∧ Reps K H1 vs (s0 ++ (ls.take i).flatten))), ⟨Nat.zero_le _, ⟨.refl, rg⟩, b, ys, rfl, h3, by simpa using r3, .inl ⟨rfl, rfl, rfl⟩⟩, ?_⟩
  rintro i t H' ⟨hi0, ⟨f, g⟩, l, vs, rfl, hr, rv, h4⟩
  obtain ⟨xs', q1, q2⟩ := hst H' f g
  have l1 := r1.length
  have l2 := q2.length
  refine ⟨⟨l, rfl⟩, xs', q1, by omega, fun hi => ?_, fun x hx => ?_⟩
  · rw [List.take_of_length_le (by omega)] at rv h4
    rcases h4 with ⟨rfl, rfl, rfl⟩ | ⟨hpos, H1, k1, rfl, k2, k3, k4⟩
    · have : ls = [] := List.length_eq_zero_iff.mp (by omega)
      subst this
      rw [if_pos rfl] at q
      exact p.val rg r2 q
    · have hn : ls ≠ [] := fun z => by rw [z] at hi0; simp at hi0; omega
      rw [if_neg hn] at q
      exact rep_newL k3 k4 q (p.fra k2) l k1
  · obtain ⟨d, hd, rd⟩ := q2.getV hx
    obtain ⟨bb, eb, ed⟩ := e i d hd
    obtain ⟨c, zs, rfl, k1, k2⟩ := lstOf_rd g rd ed
    have l1 := flat_le (ls := ls) (i + 1)
    rw [take_flat eb] at l1
    rw [List.length_append] at l1
    have lv := rv.length
    have lz := k2.length
    rw [List.length_append] at lv
    have hlt := (List.getElem?_eq_some_iff.mp eb).1
    refine ⟨l, c, vs, zs, rfl, rfl, hr, k1, by omega, fun u hu => ⟨hlt, ⟨f.trans (.newT hu), g.newT hu⟩, u, vs ++ zs, rfl, .inl upd_same, ?_, .inr ⟨by omega, H', hu, rfl, f, g, ?_⟩⟩⟩
    · rw [take_flat eb, ← List.append_assoc]
      exact (rv.append k2).mono (.new hu)
    · rw [take_flat eb, ← List.append_assoc]
      exact rv.append k2
theorem bltA_sum2 {K : PySem.W.Frag} {z : Bool} : BltA K (fun vs H Q => rSum2 rCatR K vs H Q ∨ rSum2 (rCatTup K) K vs H Q) (bltW z .sum2) := by
  intro H xs ds G Qa Q r rg h p
  obtain ⟨d, e, rfl⟩ := blt2 h (.inr (.inr (.inr rfl)))
  obtain ⟨x, y, rfl, r1, r2⟩ := reps2 r
  obtain ⟨rows, h1, h2⟩ := h
  obtain ⟨a, vs, rfl, k1, k2⟩ := lstOf_rd rg r1 h1
  have src : ∀ H', Fra G H G H' → RelG K G H' → ∃ xs', SqL K H' a xs' ∧ Reps K H' xs' rows := fun H' f g => by
    obtain ⟨b, ws, e1, e2, e3⟩ := lstOf_rd g (r1.mono (f.stab rg)) h1
    cases e1
    exact ⟨ws, .inl e2, e3⟩
  cases e with
  | tup t0 => exact .inr (bltA_sum2T rg (.inl k1) k2 src r2 h2 p.p)
  | _ => exact .inl (bltA_sum2L rg (.inl k1) k2 src r2 h2 p)
theorem bltA_ord {K : PySem.W.Frag} {z : Bool} : BltA K (fun xs H Q => ∃ x, xs = [.str x] ∧ x.length = 1 ∧ Q (.int (x.cps.getD 0 0 : Nat)) H) (bltW z .ord) := by
  intro H xs ds G Qa Q r rg h p
  match ds, h with
  | [.str x], h =>
    obtain ⟨y, rfl, r1⟩ := reps1 r
    cases rep_s r1
    exact ⟨x, rfl, h.1, p.val rg (.int _) h.2⟩
theorem blt_ok (X : Cx) (hc : X.calm = true) (z : Bool) (f : BF) : ∃ r, CallR X f.val r ∧ BltA X.K r (bltW z f) := by
  cases f with
  | len => exact ⟨_, call_len, bltA_len⟩
  | int => exact ⟨_, call_int1, bltA_int⟩
  | tuple => exact ⟨_, call_tuple_of, bltA_tuple⟩
  | list => exact ⟨_, call_list_of, bltA_list⟩
  | isinst => exact ⟨_, call_isiA, bltA_isi⟩
  | all => exact ⟨_, cr_all hc, bltA_all⟩
  | any => exact ⟨_, cr_any hc, bltA_any⟩
  | sum1 => exact ⟨_, cr_sum hc, bltA_sum1⟩
  | sum2 => exact ⟨_, (cr_sum2 (r := rCatR) op_catR hc).or (cr_sum2 op_catTup hc), bltA_sum2⟩
  | min2 => exact ⟨_, call_min2 hc, bltA_min2⟩
  | max2 => exact ⟨_, call_max2 hc, bltA_max2⟩
  | ord => exact ⟨_, call_ord, bltA_ord⟩

/-! ### methods -/
def MF.nm : MF → Str
  | .append => "append" | .extend => "extend" | .pop => "pop" | .popAt => "pop" | .clear => "clear" | .reverse => "reverse"
def MetA (K : PySem.W.Frag) (T : String) (r : V → List V → Hp → VK → Prop) (rA : Dat → List Dat → AG → AQ → Prop) : Prop :=
  ∀ (H : Hp) (x : V) (d : Dat) (xs : List V) (ds : List Dat) (G : AG) (Qa : AQ) (Q : VK), Rep K H x d → Reps K H xs ds → RelG K G H → rA d ds G Qa → PostE K G H Qa Q → r x xs H Q
theorem PostE.setL {K : PySem.W.Frag} {G : AG} {H : Hp} {Qa : AQ} {Q : VK} (p : PostE K G H Qa Q) (rg : RelG K G H) {l : Addr} {ds es : List Dat} {vs ws : List V} {v : V} {d : Dat} (e : G l = some (.lst ds)) (h : H l = some (.lst vs)) (rv : Rep K H v d) (r : Reps K H ws es) (q : Qa d (gu G l (.lst es))) :
    Q v (upd H l (.lst ws)) := p d (gu G l (.lst es)) v _ (.set e) (rg.set e (show AOk K _ l (.lst es) from ⟨ws, upd_same, r.mono (.lst h)⟩)) (rv.mono (.lst h)) q
/-- l.extend(any sequence) -/
def rExtR (K : PySem.W.Frag) : V → List V → Hp → VK → Prop := fun x vs H Q => ∃ l b xs zs, x = .ref l ∧ vs = [.ref b] ∧ H l = some (.lst xs) ∧ (Rd H b (.lst zs) ∨ SqT K H b zs) ∧ xs.length + zs.length ≤ sizeLine ∧ Q .non (upd H l (.lst (xs ++ zs)))
theorem ext_tup (l : Addr) (ia : Array Value) (n : Nat) (b : Addr) (ib : Array Value) (n2 : Nat) (db : Option Addr) (sb : Array (Option Value)) (h0 : ¬(!ia.isEmpty && Builtin.List.listTooLong (ia.size + ib.size)) = true) (h1 : ia.size ≤ sizeLine) (h2 : ia.size + ib.size ≤ sizeLine + 1) :
    Meets (Builtin.«list.extend» ⟨[.ref l, .ref b], []⟩) (fun _ R s => s.heap.get? l = some { cls := .type "list", dict := none, data := .seq ia n, slots := #[] } ∧ s.heap.get? b = some { cls := .type "tuple", dict := db, data := .seq ib n2, slots := sb } ∧
      R (.ok (.ret Value.none)) { s with heap := s.heap.update l (Obj.mapSeq fun x => x ++ ib), toks := s.toks }) := by
  refine .of_wp fun prog w A R s h => ?_
  obtain ⟨hp, g, d, tk, os⟩ := s
  obtain ⟨hl, hb, h⟩ := h
  have f1 := AutoSeq1.idx_int
  have f2 := AutoSeq1.sub_tuple_tuple
  have f3 := AutoSeq1.sub_list_list
  have f4 := AutoSeq1.sub_tuple_list
  have f5 := AutoSeq1.sub_list_tuple
  have hz : (ia ++ ib).size ≤ sizeLine + 1 := by rw [Array.size_append]; exact h2
  wp_walk using (wpAny_updateSeq hl rfl (hz := h1) (_hz' := hz)), wpAny_loadPart' hl, wpAny_loadPart' hb
  exact ⟨_, rfl, h⟩
theorem mt_extR {X : Cx} : MtM X "list.extend" (rExtR X.K) := by
  intro pins s σ H x vs v us Q I rx rv h
  obtain ⟨l, b, xs, zs, rfl, rfl, hl, hb, hz, q⟩ := h
  cases rx
  obtain ⟨u, rfl, ru⟩ := rv.one
  cases ru
  obtain ⟨z, its, n, r, el, e⟩ := I.lstM hl
  have fin : ∀ i2 : List Value, Vals zs i2 → EP X pins σ Q Value.none { s with heap := s.heap.update l (Obj.mapSeq (· ++ i2.toArray)), toks := s.toks } := fun i2 r2 =>
    ⟨.non, _, I.lset (its' := its ++ i2) hl e (by simp) (r.append r2) (by simp only [List.length_append]; omega), rfl, q⟩
  have lng : ∀ i2 : List Value, Vals zs i2 → ¬ (!its.toArray.isEmpty && Builtin.List.listTooLong (its.toArray.size + i2.toArray.size)) = true := fun i2 r2 => by
    have e2 := r2.length
    rw [notLongL (by simp only [List.size_toArray]; omega), Bool.and_false]
    simp
  rcases hb with hb | hb
  · obtain ⟨_, i2, n2, r2, l2, e2⟩ := lstRd I hb
    exact call_meets F.slot_list_extend ⟨_, e, rfl⟩ F.entry_list_extend (F.args_list_extend_2 _ _)
      (AutoSeq1.list_extend_list_list_0 l its.toArray n b i2.toArray n2 (lng i2 r2) (by simp only [List.size_toArray]; omega) (by simp only [List.size_toArray]; omega)) ⟨e, e2, fin i2 r2⟩
  · obtain ⟨i2, r2, ⟨⟨oc, od, dt, sl⟩, e2, hc, n2, hd⟩, _⟩ := I.tuple hb
    have l2 := r2.length
    cases (show oc = .type "tuple" from hc)
    cases (show dt = .seq i2.toArray n2 from hd)
    exact call_meets F.slot_list_extend ⟨_, e, rfl⟩ F.entry_list_extend (F.args_list_extend_2 _ _)
      (ext_tup l its.toArray n b i2.toArray n2 od sl (lng i2 r2) (by simp only [List.size_toArray]; omega) (by simp only [List.size_toArray]; omega)) ⟨e, e2, fin i2 r2⟩
theorem metA_append {K : PySem.W.Frag} : MetA K "list" rAppend (methW .append) := by
  intro H x d xs ds G Qa Q rx r rg h p
  cases d with
  | ref a =>
    match ds, h with
    | [], h => exact False.elim h
    | _ :: _ :: _, h => exact False.elim h
    | [y], h =>
      cases rep_r rx
      obtain ⟨u, rfl, ru⟩ := reps1 r
      obtain ⟨es, h1, h2, h3⟩ := h
      obtain ⟨vs, h4, h5⟩ := rg.lst h1
      exact ⟨a, vs, u, rfl, rfl, h4, by rw [h5.length]; exact h2, p.setL rg h1 h4 .non (h5.append (.one ru)) h3⟩
  | _ => exact False.elim h
theorem metA_extend {K : PySem.W.Frag} : MetA K "list" (rExtR K) (methW .extend) := by
  intro H x d xs ds G Qa Q rx r rg h p
  cases d with
  | ref a =>
    match ds, h with
    | [], h => exact False.elim h
    | _ :: _ :: _, h => exact False.elim h
    | [y], h =>
      cases rep_r rx
      obtain ⟨u, rfl, ru⟩ := reps1 r
      obtain ⟨es, fs, h1, h2, h3, h6⟩ := h
      obtain ⟨vs, h4, h5⟩ := rg.lst h1
      have sq : ∃ b zs, u = .ref b ∧ (Rd H b (.lst zs) ∨ SqT K H b zs) ∧ Reps K H zs fs := by
        cases y with
        | tup es =>
          cases h2
          obtain ⟨b, zs, rfl, k1, k2⟩ := rep_t ru
          exact ⟨b, zs, rfl, .inr k1.sq, k2⟩
        | lst es =>
          obtain ⟨b, zs, rfl, k1, k2⟩ := lstOf_rd rg ru h2
          exact ⟨b, zs, rfl, .inl k1, k2⟩
        | ref c =>
          obtain ⟨b, zs, rfl, k1, k2⟩ := lstOf_rd rg ru h2
          exact ⟨b, zs, rfl, .inl k1, k2⟩
        | _ => cases h2
      obtain ⟨b, zs, rfl, k1, k2⟩ := sq
      exact ⟨a, b, vs, zs, rfl, rfl, h4, k1, by rw [h5.length, k2.length]; exact h3, p.setL rg h1 h4 .non (h5.append k2) h6⟩
  | _ => exact False.elim h
theorem reps_last {K : PySem.W.Frag} {H : Hp} : ∀ {vs : List V} {ds : List Dat}, Reps K H vs ds → Reps K H vs.dropLast ds.dropLast
  | _, _, .nil => .nil
  | _, _, .cons a .nil => .nil
  | _, _, .cons a (.cons b r) => .cons a (reps_last (.cons b r))
theorem metA_pop {K : PySem.W.Frag} : MetA K "list" rPop (methW .pop) := by
  intro H x d xs ds G Qa Q rx r rg h p
  cases d with
  | ref a =>
    match ds, h with
    | _ :: _, h => exact False.elim h
    | [], h =>
      cases rep_r rx
      cases r
      obtain ⟨es, y, h1, h2, h3⟩ := h
      obtain ⟨vs, h4, h5⟩ := rg.lst h1
      obtain ⟨v, h6, h7⟩ := h5.get h2
      exact ⟨a, vs, v, rfl, rfl, h4, by rw [h5.length]; exact h6, p.setL rg h1 h4 h7 (reps_last h5) h3⟩
  | _ => exact False.elim h
theorem metA_popAt {K : PySem.W.Frag} : MetA K "list" rPopAt (methW .popAt) := by
  intro H x d xs ds G Qa Q rx r rg h p
  cases d with
  | ref a =>
    match ds, h with
    | [], h => exact False.elim h
    | c :: _ :: _, h => cases c <;> exact False.elim h
    | [.int i], h =>
      cases rep_r rx
      obtain ⟨u, rfl, ru⟩ := reps1 r
      cases rep_i ru
      obtain ⟨es, k, y, h1, h2, h3, h8, h9, h10⟩ := h
      obtain ⟨vs, h4, h5⟩ := rg.lst h1
      obtain ⟨v, h6, h7⟩ := h5.get h9
      exact ⟨a, vs, i, k, v, rfl, rfl, h4, h2, h3, by rw [h5.length]; exact h8, h6, p.setL rg h1 h4 h7 (h5.eraseIdx k) h10⟩
    | [.non], h | [.bl _], h | [.str _], h | [.tup _], h | [.lst _], h | [.ref _], h | [.ty _], h => exact False.elim h
  | _ => exact False.elim h
theorem metA_clear {K : PySem.W.Frag} : MetA K "list" rClear (methW .clear) := by
  intro H x d xs ds G Qa Q rx r rg h p
  cases d with
  | ref a =>
    match ds, h with
    | _ :: _, h => exact False.elim h
    | [], h =>
      cases rep_r rx
      cases r
      obtain ⟨es, h1, h3⟩ := h
      obtain ⟨vs, h4, h5⟩ := rg.lst h1
      exact ⟨a, vs, rfl, rfl, h4, p.setL rg h1 h4 .non .nil h3⟩
  | _ => exact False.elim h
theorem metA_reverse {K : PySem.W.Frag} : MetA K "list" rReverse (methW .reverse) := by
  intro H x d xs ds G Qa Q rx r rg h p
  cases d with
  | ref a =>
    match ds, h with
    | _ :: _, h => exact False.elim h
    | [], h =>
      cases rep_r rx
      cases r
      obtain ⟨es, h1, h3⟩ := h
      obtain ⟨vs, h4, h5⟩ := rg.lst h1
      exact ⟨a, vs, rfl, rfl, h4, p.setL rg h1 h4 .non h5.reverse h3⟩
  | _ => exact False.elim h
/-- a method by values: which arguments it takes, the type that it belongs to -/
structure MetOk (X : Cx) (m : MF) : Prop where
  ok : ∃ (T id : String) (r : V → List V → Hp → VK → Prop), PlainAttrs T ∧ Slot T m.nm id ∧ typeOf (.builtin id) = pure (.type "method_descriptor") ∧ MtR X id r ∧ MetA X.K T r (methW m) ∧
    ∀ (H : Hp) (x : V) (d : Dat) (ds : List Dat) (G : AG) (Qa : AQ), Rep X.K H x d → RelG X.K G H → methW m d ds G Qa → tyV X.K T x H
end Av


set_option Elab.async false
set_option linter.all false
set_option maxRecDepth 100000
set_option maxHeartbeats 4000000
/-! # Av4: the words of Av1 over the hand layer's judgements -/
namespace Av
open PySem PySem.Spec PyProof.Rows L2
variable [Tb]

theorem PE.imp {X : Cx} {e : Expr} {t t' : TE} (h : PE X e t) (f : ∀ σ H Q, t' σ H Q → t σ H Q) : PE X e t' := ⟨fun pins s σ H Q I q => h.run pins s σ H Q I (f σ H Q q)⟩
theorem PT.imp {X : Cx} {e : Expr} {t t' : TT} (h : PT X e t) (f : ∀ σ H Q, t' σ H Q → t σ H Q) : PT X e t' := ⟨fun pins s σ H Q I q => h.run pins s σ H Q I (f σ H Q q)⟩
theorem PW.imp {X : Cx} {e : Expr} {t t' : TT} (h : PW X e t) (f : ∀ σ H Q, t' σ H Q → t σ H Q) : PW X e t' := ⟨fun wh pins s σ H Q I q => h.run wh pins s σ H Q I (f σ H Q q)⟩
theorem PA.imp {X : Cx} {es : List Expr} {t t' : TA} (h : PA X es t) (f : ∀ σ H Q, t' σ H Q → t σ H Q) : PA X es t' := ⟨fun pos pins s σ H Q I q => h.run pos pins s σ H Q I (f σ H Q q)⟩
theorem PI.imp {X : Cx} {tg e : Expr} {t t' : TI} (h : PI X tg e t) (f : ∀ σ H Q, t' σ H Q → t σ H Q) : PI X tg e t' := ⟨fun pins s σ H Q I q => h.run pins s σ H Q I (f σ H Q q)⟩
theorem PS.imp {X : Cx} {st : Stmt} {t t' : TS} (h : PS X st t) (f : ∀ D σ H, t' D σ H → t D σ H) : PS X st t' := ⟨fun pins s σ H D I q => h.run pins s σ H D I (f D σ H q)⟩
theorem PSs.imp {X : Cx} {st : List Stmt} {t t' : TS} (h : PSs X st t) (f : ∀ D σ H, t' D σ H → t D σ H) : PSs X st t' := ⟨fun pins s σ H D I q => h.run pins s σ H D I (f D σ H q)⟩

section
variable {X : Cx}
/-! ### what is frozen -/
theorem Inv.frozen {pins : List (Addr × Obj)} {σ : L2.St} {H : Hp} {s : Shared} {l : Addr} {vs : List V} {o : Obj} (I : Inv X pins σ H s) (h : H l = some (.lst vs)) (ho : s.heap.get? l = some o) : Inv X pins σ (upd H l (.frz o (.lst vs))) s := by
  have ne : ∀ {b u}, H b = some u → u ≠ .lst vs → b ≠ l := fun e d z => by rw [z, h] at e; exact d (Option.some.inj e).symm
  have nn : ∀ {b}, H b = none → b ≠ l := fun e z => by rw [z, h] at e; cases e
  have u : Un X.fs [] H (upd H l (.frz o (.lst vs))) s.heap s.heap := by
    refine ⟨fun _ _ q _ _ _ => q, fun b ob q _ _ _ => ⟨ob.slots, q⟩, fun b ob q n _ => by rw [upd_ne (nn n)]; exact n, fun b ob q _ => ⟨ob, q⟩, fun b xs q => by rw [upd_ne (ne q (by simp))]; exact q,
      fun b ob w q => by rw [upd_ne (ne q (by simp))]; exact q, fun b ps q => ⟨#[], by rw [upd_ne (ne q (by simp)), q]; simp⟩⟩
  have k : HOk X.prog X.w (upd H l (.frz o (.lst vs))) s.heap := fun b w q => by
    by_cases hb : b = l
    · subst hb
      rw [upd_same] at q
      cases q
      exact ⟨ho, I.hok b _ h⟩
    · rw [upd_ne hb] at q
      exact (I.hok b w q).stay (fun _ _ _ z => z) (fun c z => by rw [upd_ne (ne z (by simp))]; exact z) fun c xs z => by rw [upd_ne (ne z (by simp))]; exact z
  exact I.un (h' := s.heap) (t' := s.toks) u k
theorem pe_z {e : Expr} {t : TE} (h : PE X e t) : PE X e fun σ H Q => t σ H (Qz Q) := by
  refine ⟨fun pins s σ H Q I q => thn (h.run pins s σ H _ I q) ?_⟩
  rintro u s1 ⟨v, H1, I1, rv, q | ⟨a, vs, rfl, ha, q⟩⟩
  · exact ⟨v, H1, I1, rv, q⟩
  · obtain ⟨z, its, n, _, _, ho⟩ := I1.lstM ha
    exact ⟨.ref a, _, Inv.frozen I1 ha ho, rv, q _⟩
end
theorem postB {K : PySem.W.Frag} {G : AG} {H : Hp} {Qa : AQ} {Q : VK} (p : PostE K G H Qa Q) (no : ∀ ds G, ¬ Qa (.lst ds) G) : PostZ K G H Qa Q := ⟨p, fun G' _ ds _ _ _ _ _ _ q => absurd q (no ds G')⟩
/-- a transformer of Av1 over the layer's: from told states to tracked ones -/
def Lf (K : PySem.W.Frag) (W : WX) {α β : Type} (R : Hp → β → α → Prop) (w : Env' → AG → (α → AG → Prop) → AX → Prop) : L2.St → Hp → (β → Hp → Prop) → Prop := fun σ H Q =>
  ∃ ρ G Qa Ea, RelE K H ρ σ ∧ RelG K G H ∧ w ρ G Qa Ea ∧ (∀ d G' v H', Fra G H G' H' → RelG K G' H' → R H' v d → Qa d G' → Q v H') ∧ PostX K G H Ea fun c dx H' => W c dx σ H'
abbrev LfE (K : PySem.W.Frag) (W : WX) (w : Env' → AG → AQ → AX → Prop) : TE := Lf K W (Rep K) w
abbrev LfA (K : PySem.W.Frag) (W : WX) (w : Env' → AG → (List Dat → AG → Prop) → AX → Prop) : TA := Lf K W (Reps K) w
abbrev LfT (K : PySem.W.Frag) (W : WX) (w : Env' → AG → (Bool → AG → Prop) → AX → Prop) : TT := Lf K W (fun _ b c => b = c) w
section
variable {X : Cx} {W : WX} {a b c : Expr} {pos : Pos} {w1 w2 w3 : Env' → AG → AQ → AX → Prop}

/-! ### operators, comparisons -/
theorem se_op {op : Operator} {r : R2} {rA : Dat → Dat → AG → AQ → Prop} (ho : OpR X (binaryOp op) r) (hA : OpA X.K r rA) (h1 : PE X a (LfE X.K W w1)) (h2 : PE X b (LfE X.K W w2)) :
    PE X (.BinOp a op b pos) (LfE X.K W fun ρ G Q E => w1 ρ G (fun x G1 => w2 ρ G1 (fun y G2 => rA x y G2 Q) E) E) :=
  PE.imp (pe_z (pe_op ho h1 h2)) fun _ _ _ ⟨ρ, G, Qa, Ea, hE, hG, hw, hp, hx⟩ => ⟨ρ, G, _, Ea, hE, hG, hw, fun d G1 v H1 f g r1 q => ⟨ρ, G1, _, Ea, hE.mono (f.stab hG), g, q,
    fun e G2 u H2 f2 g2 r2 q2 => hA H2 v u d e G2 Qa _ (r1.mono (f2.stab g)) r2 g2 q2 (postZ fun d' G' v' H' f3 => hp d' G' v' H' ((f.trans f2).trans f3)), hx.fra f⟩, hx⟩
theorem se_cmp {op : CmpOp} {r : R2} {rA : Dat → Dat → AG → AQ → Prop} (ho : OpR X (compareOp op) r) (hA : OpA X.K r rA) (hm : behindInMarks op b = false) (h1 : PE X a (LfE X.K W w1)) (h2 : PE X b (LfE X.K W w2)) :
    PE X (.Compare a [op] [b] pos) (LfE X.K W fun ρ G Q E => w1 ρ G (fun x G1 => w2 ρ G1 (fun y G2 => rA x y G2 Q) E) E) :=
  PE.imp (pe_z (pe_cmpR ho h1 h2 hm)) fun _ _ _ ⟨ρ, G, Qa, Ea, hE, hG, hw, hp, hx⟩ => ⟨ρ, G, _, Ea, hE, hG, hw, fun d G1 v H1 f g r1 q => ⟨ρ, G1, _, Ea, hE.mono (f.stab hG), g, q,
    fun e G2 u H2 f2 g2 r2 q2 => hA H2 v u d e G2 Qa _ (r1.mono (f2.stab g)) r2 g2 q2 (postZ fun d' G' v' H' f3 => hp d' G' v' H' ((f.trans f2).trans f3)), hx.fra f⟩, hx⟩
theorem boolW_inv {Q : Bool → AG → Prop} {d : Dat} {G : AG} (h : boolW Q d G) : ∃ k, d = .bl k ∧ Q k G := by
  cases d with
  | bl k => exact ⟨k, rfl, h⟩
  | _ => exact False.elim h
theorem st_cmp {op : CmpOp} {r : R2} {rA : Dat → Dat → AG → AQ → Prop} (ho : OpR X (compareOp op) r) (hA : OpA X.K r rA) (hm : behindInMarks op b = false) (h1 : PE X a (LfE X.K W w1)) (h2 : PE X b (LfE X.K W w2)) :
    PT X (.Compare a [op] [b] pos) (LfT X.K W fun ρ G Q E => w1 ρ G (fun x G1 => w2 ρ G1 (fun y G2 => rA x y G2 (boolW Q)) E) E) :=
  PT.imp (pt_cmpR ho h1 h2 hm) fun _ _ _ ⟨ρ, G, Qa, Ea, hE, hG, hw, hp, hx⟩ => ⟨ρ, G, _, Ea, hE, hG, hw, fun d G1 v H1 f g r1 q => ⟨ρ, G1, _, Ea, hE.mono (f.stab hG), g, q,
    fun e G2 u H2 f2 g2 r2 q2 => hA H2 v u d e G2 (boolW Qa) _ (r1.mono (f2.stab g)) r2 g2 q2 (postB (fun d' G' v' H' f3 g3 r3 q3 => by
      obtain ⟨k, e, q4⟩ := boolW_inv q3
      subst e
      exact ⟨k, rep_b r3, hp k G' k H' ((f.trans f2).trans f3) g3 rfl q4⟩) fun _ _ z => z), hx.fra f⟩, hx⟩
theorem se_cmp2 {op op' : CmpOp} {r r' : R2} {rA rA' : Dat → Dat → AG → AQ → Prop} (ho : OpR X (compareOp op) r) (hA : OpA X.K r rA) (ho' : OpR X (compareOp op') r') (hA' : OpA X.K r' rA') (hm : behindInMarks op' c = false)
    (h1 : PE X a (LfE X.K W w1)) (h2 : PE X b (LfE X.K W w2)) (h3 : PE X c (LfE X.K W w3)) :
    PE X (.Compare a [op, op'] [b, c] pos) (LfE X.K W fun ρ G Q E => w1 ρ G (fun x G1 => w2 ρ G1 (fun y G2 => rA x y G2 (boolW fun k G3 => if k = true then w3 ρ G3 (fun z G4 => rA' y z G4 Q) E else Q (.bl false) G3)) E) E) := by
  refine PE.imp (pe_z (pe_chain ho ho' h1 h2 h3 ?_)) ?_
  · exact hm
  · rintro σ H Q ⟨ρ, G, Qa, Ea, hE, hG, hw, hp, hx⟩
    refine ⟨ρ, G, _, Ea, hE, hG, hw, fun d G1 v H1 f g r1 q => ⟨ρ, G1, _, Ea, hE.mono (f.stab hG), g, q, fun e G2 u H2 f2 g2 r2 q2 => ?_, hx.fra f⟩, hx⟩
    refine hA H2 v u d e G2 _ _ (r1.mono (f2.stab g)) r2 g2 q2 (postB (fun d' G3 v' H3 f3 g3 r3 q3 => ?_) fun _ _ z => z)
    obtain ⟨k, e3, q4⟩ := boolW_inv q3
    subst e3
    refine ⟨k, rep_b r3, ?_⟩
    have f03 := (f.trans f2).trans f3
    cases k with
    | true =>
      rw [if_pos rfl] at q4 ⊢
      exact ⟨ρ, G3, _, Ea, hE.mono (f03.stab hG), g3, q4, fun z G4 t H4 f4 g4 r4 q5 => hA' H4 u t e z G4 Qa _ (r2.mono ((f3.trans f4).stab g2)) r4 g4 q5 (postZ fun d' G' v' H' f5 => hp d' G' v' H' ((f03.trans f4).trans f5)), hx.fra f03⟩
    | false =>
      rw [if_neg (by simp)] at q4 ⊢
      exact .inl (hp _ _ _ _ f03 g3 (.bl false) q4)
theorem st_cmp2 {op op' : CmpOp} {r r' : R2} {rA rA' : Dat → Dat → AG → AQ → Prop} (ho : OpR X (compareOp op) r) (hA : OpA X.K r rA) (ho' : OpR X (compareOp op') r') (hA' : OpA X.K r' rA') (hm : behindInMarks op' c = false)
    (h1 : PE X a (LfE X.K W w1)) (h2 : PE X b (LfE X.K W w2)) (h3 : PE X c (LfE X.K W w3)) :
    PT X (.Compare a [op, op'] [b, c] pos) (LfT X.K W fun ρ G Q E => w1 ρ G (fun x G1 => w2 ρ G1 (fun y G2 => rA x y G2 (boolW fun k G3 => if k = true then w3 ρ G3 (fun z G4 => rA' y z G4 (boolW Q)) E else Q false G3)) E) E) := by
  refine PT.imp (pt_chain ho ho' h1 h2 h3 ?_) ?_
  · exact hm
  · rintro σ H Q ⟨ρ, G, Qa, Ea, hE, hG, hw, hp, hx⟩
    refine ⟨ρ, G, _, Ea, hE, hG, hw, fun d G1 v H1 f g r1 q => ⟨ρ, G1, _, Ea, hE.mono (f.stab hG), g, q, fun e G2 u H2 f2 g2 r2 q2 => ?_, hx.fra f⟩, hx⟩
    refine hA H2 v u d e G2 _ _ (r1.mono (f2.stab g)) r2 g2 q2 (postB (fun d' G3 v' H3 f3 g3 r3 q3 => ?_) fun _ _ z => z)
    obtain ⟨k, e3, q4⟩ := boolW_inv q3
    subst e3
    refine ⟨k, rep_b r3, ?_⟩
    have f03 := (f.trans f2).trans f3
    cases k with
    | true =>
      rw [if_pos rfl] at q4 ⊢
      exact ⟨ρ, G3, _, Ea, hE.mono (f03.stab hG), g3, q4, fun z G4 t H4 f4 g4 r4 q5 => hA' H4 u t e z G4 (boolW Qa) _ (r2.mono ((f3.trans f4).stab g2)) r4 g4 q5 (postB (fun d' G' v' H' f5 g5 r5 q6 => by
        obtain ⟨b, e4, q7⟩ := boolW_inv q6
        subst e4
        exact ⟨b, rep_b r5, hp b G' b H' ((f03.trans f4).trans f5) g5 rfl q7⟩) fun _ _ z => z), hx.fra f03⟩
    | false =>
      rw [if_neg (by simp)] at q4 ⊢
      exact ⟨false, rfl, hp _ _ _ _ f03 g3 rfl q4⟩
/-! ### and, or, not, if: by truth -/
variable {rest : List Expr} {wt wt1 wt2 : Env' → AG → (Bool → AG → Prop) → AX → Prop}
theorem truK {K : PySem.W.Frag} {H : Hp} {x : V} {d : Dat} {G : AG} {Qa : Bool → AG → Prop} (rx : Rep K H x d) (rg : RelG K G H) (h : truW d G Qa) : ∃ k, TruV K x H k ∧ Qa k G := tru_A (Q := fun k _ => Qa k G) rx rg h fun _ q => q
theorem se_and (h1 : PE X a (LfE X.K W w1)) (h2 : PE X (.BoolOp .And (b :: rest) pos) (LfE X.K W w2)) :
    PE X (.BoolOp .And (a :: b :: rest) pos) (LfE X.K W fun ρ G Q E => w1 ρ G (fun x G1 => truW x G1 fun k G2 => if k = true then w2 ρ G2 Q E else Q x G2) E) := by
  refine PE.imp (pe_andT h1 h2) ?_
  rintro σ H Q ⟨ρ, G, Qa, Ea, hE, hG, hw, hp, hx⟩
  refine ⟨ρ, G, _, Ea, hE, hG, hw, fun d G1 v H1 f g r1 q => ?_, hx⟩
  obtain ⟨k, h3, h4⟩ := truK r1 g q
  refine ⟨k, h3, ?_⟩
  cases k with
  | true =>
    rw [if_pos rfl] at h4 ⊢
    exact ⟨ρ, G1, _, Ea, hE.mono (f.stab hG), g, h4, fun d' G' v' H' f3 => hp d' G' v' H' (f.trans f3), hx.fra f⟩
  | false =>
    rw [if_neg (by simp)] at h4 ⊢
    exact hp _ _ _ _ f g r1 h4
theorem se_or (h1 : PE X a (LfE X.K W w1)) (h2 : PE X (.BoolOp .Or (b :: rest) pos) (LfE X.K W w2)) :
    PE X (.BoolOp .Or (a :: b :: rest) pos) (LfE X.K W fun ρ G Q E => w1 ρ G (fun x G1 => truW x G1 fun k G2 => if k = true then Q x G2 else w2 ρ G2 Q E) E) := by
  refine PE.imp (pe_orT h1 h2) ?_
  rintro σ H Q ⟨ρ, G, Qa, Ea, hE, hG, hw, hp, hx⟩
  refine ⟨ρ, G, _, Ea, hE, hG, hw, fun d G1 v H1 f g r1 q => ?_, hx⟩
  obtain ⟨k, h3, h4⟩ := truK r1 g q
  refine ⟨k, h3, ?_⟩
  cases k with
  | true =>
    rw [if_pos rfl] at h4 ⊢
    exact hp _ _ _ _ f g r1 h4
  | false =>
    rw [if_neg (by simp)] at h4 ⊢
    exact ⟨ρ, G1, _, Ea, hE.mono (f.stab hG), g, h4, fun d' G' v' H' f3 => hp d' G' v' H' (f.trans f3), hx.fra f⟩
theorem se_not (h1 : PE X a (LfE X.K W w1)) : PE X (.UnaryOp .Not a pos) (LfE X.K W fun ρ G Q E => w1 ρ G (fun x G1 => truW x G1 fun k G2 => Q (.bl (!k)) G2) E) := by
  refine PE.imp (pe_notT h1) ?_
  rintro σ H Q ⟨ρ, G, Qa, Ea, hE, hG, hw, hp, hx⟩
  refine ⟨ρ, G, _, Ea, hE, hG, hw, fun d G1 v H1 f g r1 q => ?_, hx⟩
  obtain ⟨k, h3, h4⟩ := truK r1 g q
  exact ⟨k, h3, hp _ _ _ _ f g (.bl _) h4⟩
theorem se_ite (h0 : PT X c (LfT X.K W wt)) (h1 : PE X a (LfE X.K W w1)) (h2 : PE X b (LfE X.K W w2)) :
    PE X (.IfExp c a b pos) (LfE X.K W fun ρ G Q E => wt ρ G (fun k G1 => if k = true then w1 ρ G1 Q E else w2 ρ G1 Q E) E) := by
  refine PE.imp (pe_ifExp h0 h1 h2) ?_
  rintro σ H Q ⟨ρ, G, Qa, Ea, hE, hG, hw, hp, hx⟩
  refine ⟨ρ, G, _, Ea, hE, hG, hw, fun d G1 v H1 f g r1 q => ?_, hx⟩
  cases r1
  cases d with
  | true =>
    rw [if_pos rfl] at q ⊢
    exact ⟨ρ, G1, _, Ea, hE.mono (f.stab hG), g, q, fun d' G' v' H' f3 => hp d' G' v' H' (f.trans f3), hx.fra f⟩
  | false =>
    rw [if_neg (by simp)] at q ⊢
    exact ⟨ρ, G1, _, Ea, hE.mono (f.stab hG), g, q, fun d' G' v' H' f3 => hp d' G' v' H' (f.trans f3), hx.fra f⟩
/-! ### tests -/
theorem st_val (h1 : PE X a (LfE X.K W w1)) (he : ∀ whole, isTrue a X.env whole = (do let v ← whole; standAt a.pos; holding [v] (truthy v))) : PT X a (LfT X.K W fun ρ G Q E => w1 ρ G (fun x G1 => truW x G1 Q) E) := by
  refine PT.imp (pt_truth h1 he) ?_
  rintro σ H Q ⟨ρ, G, Qa, Ea, hE, hG, hw, hp, hx⟩
  refine ⟨ρ, G, _, Ea, hE, hG, hw, fun d G1 v H1 f g r1 q => ?_, hx⟩
  obtain ⟨k, h3, h4⟩ := truK r1 g q
  exact ⟨k, h3, hp _ _ _ _ f g rfl h4⟩
theorem st_not (h1 : PT X a (LfT X.K W wt)) : PT X (.UnaryOp .Not a pos) (LfT X.K W fun ρ G Q E => wt ρ G (fun k G1 => Q (!k) G1) E) := by
  refine PT.imp (pt_not h1) ?_
  rintro σ H Q ⟨ρ, G, Qa, Ea, hE, hG, hw, hp, hx⟩
  exact ⟨ρ, G, _, Ea, hE, hG, hw, fun d G1 v H1 f g r1 q => by cases r1; exact hp _ _ _ _ f g rfl q, hx⟩
theorem st_and (h1 : PT X a (LfT X.K W wt1)) (h2 : PW X (.BoolOp .And (b :: rest) pos) (LfT X.K W wt2)) :
    PW X (.BoolOp .And (a :: b :: rest) pos) (LfT X.K W fun ρ G Q E => wt1 ρ G (fun k G1 => if k = true then wt2 ρ G1 Q E else Q false G1) E) := by
  refine PW.imp (pw_and h1 h2) ?_
  rintro σ H Q ⟨ρ, G, Qa, Ea, hE, hG, hw, hp, hx⟩
  refine ⟨ρ, G, _, Ea, hE, hG, hw, fun d G1 v H1 f g r1 q => ?_, hx⟩
  cases r1
  cases d with
  | true =>
    rw [if_pos rfl] at q ⊢
    exact ⟨ρ, G1, _, Ea, hE.mono (f.stab hG), g, q, fun d' G' v' H' f3 => hp d' G' v' H' (f.trans f3), hx.fra f⟩
  | false =>
    rw [if_neg (by simp)] at q ⊢
    exact hp _ _ _ _ f g rfl q
theorem st_or (h1 : PT X a (LfT X.K W wt1)) (h2 : PW X (.BoolOp .Or (b :: rest) pos) (LfT X.K W wt2)) :
    PW X (.BoolOp .Or (a :: b :: rest) pos) (LfT X.K W fun ρ G Q E => wt1 ρ G (fun k G1 => if k = true then Q true G1 else wt2 ρ G1 Q E) E) := by
  refine PW.imp (pw_or h1 h2) ?_
  rintro σ H Q ⟨ρ, G, Qa, Ea, hE, hG, hw, hp, hx⟩
  refine ⟨ρ, G, _, Ea, hE, hG, hw, fun d G1 v H1 f g r1 q => ?_, hx⟩
  cases r1
  cases d with
  | true =>
    rw [if_pos rfl] at q ⊢
    exact hp _ _ _ _ f g rfl q
  | false =>
    rw [if_neg (by simp)] at q ⊢
    exact ⟨ρ, G1, _, Ea, hE.mono (f.stab hG), g, q, fun d' G' v' H' f3 => hp d' G' v' H' (f.trans f3), hx.fra f⟩
/-! ### displays, subscripts, slices -/
variable {es : List Expr} {wa : Env' → AG → (List Dat → AG → Prop) → AX → Prop}
theorem se_tup {k : Nat} (h : PA X es (LfA X.K W wa)) : PE X (.Tuple es k pos) (LfE X.K W fun ρ G Q E => wa ρ G (fun ds G1 => ds.length ≤ sizeLine ∧ Q (.tup ds) G1) E) := by
  refine PE.imp (pe_tup h) ?_
  rintro σ H Q ⟨ρ, G, Qa, Ea, hE, hG, hw, hp, hx⟩
  refine ⟨ρ, G, _, Ea, hE, hG, hw, fun d G1 v H1 f g r1 q => ⟨by rw [r1.length]; exact q.1, ?_⟩, hx⟩
  exact PostE.newT (fun d' G' v' H' f3 => hp d' G' v' H' (f.trans f3)) g r1 q.2
theorem se_lst {z : Bool} (h : PA X es (LfA X.K W wa)) : PE X (.List es pos) (LfE X.K W fun ρ G Q E => wa ρ G (fun ds G1 => nw z ds G1 Q) E) := by
  refine PE.imp (pe_z (pe_lst h)) ?_
  rintro σ H Q ⟨ρ, G, Qa, Ea, hE, hG, hw, hp, hx⟩
  refine ⟨ρ, G, _, Ea, hE, hG, hw, fun d G1 v H1 f g r1 q => ⟨by rw [r1.length]; exact nw_len q, ?_⟩, hx⟩
  exact rep_newL g r1 q (postZ fun d' G' v' H' f3 => hp d' G' v' H' (f.trans f3))
theorem se_ix (hs : PlainIx b) (h1 : PE X a (LfE X.K W w1)) (h2 : PE X b (LfE X.K W w2)) :
    PE X (.Subscript a b pos) (LfE X.K W fun ρ G Q E => w1 ρ G (fun x G1 => w2 ρ G1 (fun y G2 => ixW x y G2 Q) E) E) :=
  PE.imp (pe_z (pe_ix ix_seq h1 h2 hs)) fun _ _ _ ⟨ρ, G, Qa, Ea, hE, hG, hw, hp, hx⟩ => ⟨ρ, G, _, Ea, hE, hG, hw, fun d G1 v H1 f g r1 q => ⟨ρ, G1, _, Ea, hE.mono (f.stab hG), g, q,
    fun e G2 u H2 f2 g2 r2 q2 => opA_ix H2 v u d e G2 Qa _ (r1.mono (f2.stab g)) r2 g2 q2 (postZ fun d' G' v' H' f3 => hp d' G' v' H' ((f.trans f2).trans f3)), hx.fra f⟩, hx⟩
theorem intK_inv {Q : Int → AG → Prop} {d : Dat} {G : AG} (h : intK Q d G) : ∃ k, d = .int k ∧ Q k G := by
  cases d with
  | int k => exact ⟨k, rfl, h⟩
  | _ => exact False.elim h
/-- a part of a slice -/
abbrev LfO (K : PySem.W.Frag) (W : WX) (w : Env' → AG → (Option Int → AG → Prop) → AX → Prop) : TO := Lf K W (fun _ b c => b = c) w
theorem so_none : PO X none (LfO X.K W fun _ G Q _ => Q none G) := ⟨fun pins s σ H Q I ⟨ρ, G, Qa, Ea, hE, hG, hw, hp, hx⟩ => po_none.run pins s σ H Q I (hp none G none H .refl hG rfl hw)⟩
theorem so_some (h1 : PE X a (LfE X.K W w1)) : PO X (some a) (LfO X.K W fun ρ G Q E => w1 ρ G (intK fun i G1 => Q (some i) G1) E) := by
  refine ⟨fun pins s σ H Q I ⟨ρ, G, Qa, Ea, hE, hG, hw, hp, hx⟩ => (po_some h1).run pins s σ H Q I ⟨ρ, G, _, Ea, hE, hG, hw, fun d G1 v H1 f g r1 q => ?_, hx⟩⟩
  obtain ⟨i, rfl, q1⟩ := intK_inv q
  exact ⟨i, rep_i r1, hp _ _ _ _ f g rfl q1⟩
theorem se_sl {z : Bool} {lo hi : Option Expr} {p2 : Pos} {wl wh : Env' → AG → (Option Int → AG → Prop) → AX → Prop} (h1 : PE X a (LfE X.K W w1)) (h2 : PO X lo (LfO X.K W wl)) (h3 : PO X hi (LfO X.K W wh)) :
    PE X (.Subscript a (.Slice lo hi none p2) pos) (LfE X.K W fun ρ G Q E => w1 ρ G (fun x G1 => wl ρ G1 (fun i G2 => wh ρ G2 (fun j G3 => slW z x i j G3 Q) E) E) E) := by
  refine PE.imp (pe_z (pe_slice sl_any h1 h2 h3)) ?_
  rintro σ H Q ⟨ρ, G, Qa, Ea, hE, hG, hw, hp, hx⟩
  refine ⟨ρ, G, _, Ea, hE, hG, hw, fun d G1 v H1 f g r1 q => ⟨ρ, G1, _, Ea, hE.mono (f.stab hG), g, q, fun i G2 u H2 f2 g2 r2 q2 => ?_, hx.fra f⟩, hx⟩
  cases r2
  refine ⟨ρ, G2, _, Ea, hE.mono ((f.trans f2).stab hG), g2, q2, fun j G3 t H3 f3 g3 r3 q3 => ?_, hx.fra (f.trans f2)⟩
  cases r3
  exact slA_ok (r1.mono ((f2.trans f3).stab g)) g3 q3 (postZ fun d' G' v' H' f4 => hp d' G' v' H' (((f.trans f2).trans f3).trans f4))
/-! ### arguments -/
theorem sa_nil : PA X [] (LfA X.K W fun _ G Q _ => Q [] G) := PA.imp pa_nil fun _ _ _ ⟨ρ, G, Qa, Ea, hE, hG, hw, hp, hx⟩ => hp [] G [] _ .refl hG .nil hw
theorem sa_cons (hs : starEach (a :: es) X.env = (false, eval a X.env) :: starEach es X.env) (h1 : PE X a (LfE X.K W w1)) (h2 : PA X es (LfA X.K W wa)) :
    PA X (a :: es) (LfA X.K W fun ρ G Q E => w1 ρ G (fun d G1 => wa ρ G1 (fun ds G2 => Q (d :: ds) G2) E) E) :=
  PA.imp (pa_cons h1 h2 hs) fun _ _ _ ⟨ρ, G, Qa, Ea, hE, hG, hw, hp, hx⟩ => ⟨ρ, G, _, Ea, hE, hG, hw, fun d G1 v H1 f g r1 q => ⟨ρ, G1, _, Ea, hE.mono (f.stab hG), g, q,
    fun e G2 u H2 f2 g2 r2 q2 => hp _ _ _ _ (f.trans f2) g2 (.cons (r1.mono (f2.stab g)) r2) q2, hx.fra f⟩, hx⟩
/-! ### names, constants -/
theorem se_var {i : Nat} {x : Str} (hN : X.N[i]? = some x) (hv : Vis X.env.scope x) (hd : (x == ("__debug__" : Str)) = false) (hcd : (x == ("__classdict__" : Str)) = false) :
    PE X (.Name x pos) (LfE X.K W fun ρ G Q _ => match ρ[i]? with | some (some d) => Q d G | _ => False) := by
  refine PE.imp (pe_var hN hv hd hcd) ?_
  rintro σ H Q ⟨ρ, G, Qa, Ea, hE, hG, hw, hp, hx⟩
  cases e : ρ[i]? with
  | none => rw [e] at hw; exact False.elim hw
  | some o =>
    cases o with
    | none => rw [e] at hw; exact False.elim hw
    | some d =>
      rw [e] at hw
      obtain ⟨v, h1, h2⟩ := hE.2 i d e
      exact ⟨v, h1, hp d G v H .refl hG h2 hw⟩
theorem se_c {v : V} {d : Dat} (h : PE X a (tC v)) (r : ∀ H, Rep X.K H v d) : PE X a (LfE X.K W fun _ G Q _ => Q d G) :=
  PE.imp h fun _ H _ ⟨ρ, G, Qa, Ea, hE, hG, hw, hp, hx⟩ => hp d G v H .refl hG (r H) hw
theorem se_neg (h1 : PE X a (LfE X.K W w1)) : PE X (.UnaryOp .USub a pos) (LfE X.K W fun ρ G Q E => w1 ρ G (intK fun i G1 => Q (.int (-i)) G1) E) :=
  PE.imp (pe_un un_neg h1) fun _ _ _ ⟨ρ, G, Qa, Ea, hE, hG, hw, hp, hx⟩ => ⟨ρ, G, _, Ea, hE, hG, hw, fun d G1 v H1 f g r1 q => by
    obtain ⟨i, rfl, q1⟩ := intK_inv q
    exact ⟨i, rep_i r1, hp _ _ _ _ f g (.int _) q1⟩, hx⟩
theorem frzW_inv {Q : AQ} {d : Dat} {G : AG} (h : frzW d G Q) : (∃ p ds, d = .ref p ∧ G p = some (.lst ds) ∧ Q (.lst ds) (gx G p)) ∨ Q d G := by
  unfold frzW at h
  split at h
  · split at h
    · exact .inl ⟨_, _, rfl, by assumption, h⟩
    · exact .inr h
  · exact .inr h
theorem frz_step {K : PySem.W.Frag} {G : AG} {H : Hp} {p : Addr} {ds : List Dat} {vs : List V} {o : Obj} (g : RelG K G H) (e : G p = some (.lst ds)) (h : H p = some (.lst vs)) (r : Reps K H vs ds) :
    Fra G H (gx G p) (upd H p (.frz o (.lst vs))) ∧ RelG K (gx G p) (upd H p (.frz o (.lst vs))) ∧ Rep K (upd H p (.frz o (.lst vs))) (.ref p) (.lst ds) := by
  refine ⟨fun a u q _ n => ?_, ⟨fun a w q => ?_, tabs_soft g.t h Soft.lst⟩, .lst ⟨o, upd_same⟩ (r.mono (.lst h))⟩
  · have d : a ≠ p := fun z => by rw [z, e] at n; cases n
    exact ⟨by rw [upd_ne d]; exact q, by rw [gx_ne d]; exact n⟩
  · have d : a ≠ p := fun z => by rw [z, gx_same] at q; cases q
    rw [gx_ne d] at q
    exact (g.g a w q).mono (.lst h) (upd_ne d)
theorem se_frz (h1 : PE X a (LfE X.K W w1)) : PE X a (LfE X.K W fun ρ G Q E => w1 ρ G (fun x G1 => frzW x G1 Q) E) := by
  refine ⟨fun pins s σ H Q I ⟨ρ, G, Qa, Ea, hE, hG, hw, hp, hx⟩ => ?_⟩
  refine thn (h1.run pins s σ H (fun v H1 => ∃ d G1, Fra G H G1 H1 ∧ RelG X.K G1 H1 ∧ Rep X.K H1 v d ∧ frzW d G1 Qa) I ⟨ρ, G, _, Ea, hE, hG, hw, fun d G1 v H1 f g r q => ⟨d, G1, f, g, r, q⟩, hx⟩) ?_
  rintro u s1 ⟨v, H1, I1, rv, d, G1, f, g, r, q⟩
  rcases frzW_inv q with ⟨p, ds, rfl, e, q1⟩ | q1
  · cases rep_r r
    obtain ⟨vs, h2, h3⟩ := g.lst e
    obtain ⟨z, its, n, _, _, ho⟩ := I1.lstM h2
    obtain ⟨f2, g2, r2⟩ := frz_step (o := { cls := .type "list", data := .seq its.toArray n }) g e h2 h3
    exact ⟨.ref p, _, Inv.frozen I1 h2 ho, rv, hp _ _ _ _ (f.trans f2) g2 r2 q1⟩
  · exact ⟨v, H1, I1, rv, hp _ _ _ _ f g r q1⟩
end
end Av


set_option Elab.async false
set_option linter.all false
set_option maxRecDepth 100000
set_option maxHeartbeats 4000000
/-! # AvX0: raising own exceptions, by the layer's judgements -/
namespace Av
open PySem PySem.Spec PyProof.Rows L2
variable [Tb]

section
variable {X : Cx} {C : Addr} {bmB : List Value} {B newId initId : String}
/-- X() of an own class without own __init__ -/
theorem pmk_bare {x : Str} {p pos : Pos} (F : ExcBaseFacts B newId initId bmB) (q : PySem.W.excIn X.K C bmB newId = true) (gC : X.mg x = some (.ref C)) (kC : PySem.W.keepIn X.K (.ref C) = true) (r : Raises X (.ref C)) (hg : Gl X x) (hdb : (x == ("__debug__" : Str)) = false) :
    PMk X (.Call (.Name x p) [] [] pos) (fun _ H Q => Q (.ref C) none H) := by
  intro pins s σ H Q I h
  refine wpAny_Call_Name_kw (ld_glob I hg gC ?_ hdb)
  refine PySem.W.callWith_K0 I.kIn kC ?_
  obtain ⟨bm, N, nm, qn, bs, hdct, sn, sub, ab, col, dd, k0, k1, k2, k3, k5, mN, hC, hN, hni, T⟩ := exc_obj I.kIn q
  refine wpAny_call_exc_subT F T hC hN hni (fun h' e hm => ?_) (Nat.zero_le _)
  exact mk_of I hm r h (I.hok.gone hm.new)
/-- the fields that are put one behind another -/
theorem exo_put {H : Hp} {a d : Addr} {C : Addr} {fs gs : List (Str × V)} (hd : d ≠ a) : upd (upd (upd H d (exd d fs)) a (exo a C (some d))) d (exd d gs) = upd (upd H d (exd d gs)) a (exo a C (some d)) := by
  funext b
  unfold upd
  by_cases h1 : b = d
  · subst h1; simp [hd]
  · simp [h1]
theorem upd_id {H : Hp} {d : Addr} {o : HO} (h : H d = some o) : upd H d o = H := by
  funext b
  by_cases hb : b = d
  · subst hb; rw [upd_same, h]
  · rw [upd_ne hb]
/-- self.f = p, .. -/
def xiB (N : List Str) (sc : Scope) : Nat → List Str → List Stmt → Bool
  | _, [], [] => true
  | i, f :: fl, .Assign [.Attribute (.Name x _) g _] (.Name y _) _ :: r => (f == g) && (N[0]? == some x) && (N[i]? == some y) && decide (sc.names.lookup x = some .local) && decide (sc.names.lookup y = some .local) && !(x == ("__debug__" : Str)) && !(x == ("__classdict__" : Str)) && !(y == ("__debug__" : Str)) && !(y == ("__classdict__" : Str)) && xiB N sc (i + 1) fl r
  | _, _, _ => false
theorem xi_more (hk : OexC X.K C) : ∀ (fl : List Str) (i : Nat) (sts : List Stmt), xiB X.N X.env.scope i fl sts = true → (∀ f ∈ fl, PySem.W.findIn X.K (.ref C) f = some none) →
    PSs X sts fun D σ H => ∃ a d fs ws, d ≠ a ∧ σ[0]? = some (some (.ref a)) ∧ ws.length = fl.length ∧ (∀ j v, ws[j]? = some v → σ[i + j]? = some (some v)) ∧ H a = some (exo a C (some d)) ∧ H d = some (exd d fs) ∧ fs.length + fl.length ≤ 900 ∧ D.nx σ (upd H d (exd d ((fl.zip ws).reverse ++ fs)))
  | [], i, [], _, _ => PSs.imp pss_nil fun D σ H ⟨a, d, fs, ws, hda, h0, hl, h1, h2, h3, h4, h5⟩ => by
      have : ws = [] := List.length_eq_zero_iff.mp hl
      subst this
      have h6 : D.nx σ (upd H d (exd d fs)) := h5
      rw [upd_id h3] at h6
      exact h6
  | f :: fl, i, st :: sts, h, hn => by
      unfold xiB at h
      split at h
      · rename_i q1 q2
        cases q1
      · rename_i i2 _ _ _ _ _ _ _ _ _ _ _ _ _ e1 e2
        cases e1
        cases e2
        simp only [Bool.and_eq_true, Bool.not_eq_true', beq_iff_eq, decide_eq_true_eq] at h
        obtain ⟨⟨⟨⟨⟨⟨⟨⟨⟨rfl, g1⟩, g2⟩, g3⟩, g4⟩, g5⟩, g6⟩, g7⟩, g8⟩, g9⟩ := h
        have ih := xi_more hk fl (i2 + 1) _ g9 fun x hx => hn x (List.mem_cons_of_mem _ hx)
        refine PSs.imp (pss_cons (ps_ost (pe_var g1 (.inl g3) g5 g6) (pe_var g2 (.inl g4) g7 g8) rfl) ih) fun D σ H ⟨a, d, fs, ws, hda, h0, hl, h1, h2, h3, h4, h5⟩ => ?_
        cases ws with
        | nil => cases hl
        | cons v ws =>
          refine ⟨v, h1 0 v rfl, .ref a, h0, a, C, rfl, hk, hn _ (List.mem_cons_self ..), .inr ⟨d, fs, h2, h3, by simp at h4; omega, ?_⟩⟩
          refine ⟨a, d, _, ws, hda, h0, by simpa using hl, fun j u hu => by have := h1 (j + 1) u hu; rw [show i2 + 1 + j = i2 + (j + 1) by omega]; exact this, by rw [upd_ne (Ne.symm hda)]; exact h2, upd_same, by simp at h4 ⊢; omega, ?_⟩
          rw [L2.upd_upd]
          simpa using h5
      · cases h
  | [], _, _ :: _, h, _ => by unfold xiB at h; cases h
  | _ :: _, _, [], h, _ => by unfold xiB at h; cases h
theorem xi_first (hk : OexC X.K C) : ∀ (fl : List Str) (i : Nat) (sts : List Stmt), fl ≠ [] → fl.length ≤ 900 → xiB X.N X.env.scope i fl sts = true → (∀ f ∈ fl, PySem.W.findIn X.K (.ref C) f = some none) →
    PSs X sts fun D σ H => ∃ a ws, σ[0]? = some (some (.ref a)) ∧ ws.length = fl.length ∧ (∀ j v, ws[j]? = some v → σ[i + j]? = some (some v)) ∧ H a = some (exo a C none) ∧ ∀ d, H d = none → d ≠ a → D.nx σ (upd (upd H d (exd d (fl.zip ws).reverse)) a (exo a C (some d)))
  | [], _, _, h0, _, _, _ => absurd rfl h0
  | f :: fl, i, [], _, _, h, _ => by unfold xiB at h; cases h
  | f :: fl, i, st :: sts, _, h9, h, hn => by
      unfold xiB at h
      split at h
      · rename_i q1 q2
        cases q1
      · rename_i i2 _ _ _ _ _ _ _ _ _ _ _ _ _ e1 e2
        cases e1
        cases e2
        simp only [Bool.and_eq_true, Bool.not_eq_true', beq_iff_eq, decide_eq_true_eq] at h
        obtain ⟨⟨⟨⟨⟨⟨⟨⟨⟨rfl, g1⟩, g2⟩, g3⟩, g4⟩, g5⟩, g6⟩, g7⟩, g8⟩, g9⟩ := h
        have ih := xi_more hk fl (i2 + 1) _ g9 fun x hx => hn x (List.mem_cons_of_mem _ hx)
        refine PSs.imp (pss_cons (ps_ost (pe_var g1 (.inl g3) g5 g6) (pe_var g2 (.inl g4) g7 g8) rfl) ih) fun D σ H ⟨a, ws, h0, hl, h1, h2, h5⟩ => ?_
        cases ws with
        | nil => cases hl
        | cons v ws =>
          refine ⟨v, h1 0 v rfl, .ref a, h0, a, C, rfl, hk, hn _ (List.mem_cons_self ..), .inl ⟨h2, fun d hd hda => ?_⟩⟩
          refine ⟨a, d, _, ws, hda, h0, by simpa using hl, fun j u hu => by have := h1 (j + 1) u hu; rw [show i2 + 1 + j = i2 + (j + 1) by omega]; exact this, upd_same, by rw [upd_ne hda]; exact upd_same, by simp at h9 ⊢; omega, ?_⟩
          rw [exo_put hda]
          simpa using h5 d hd hda
      · cases h
/-- an __init__ of nothing but self.f = p -/
def spXi (K : PySem.W.Frag) (C : Addr) (fl : List Str) : Sp := fun vs H Q _ => ∃ a ws, vs = .ref a :: ws ∧ ws.length = fl.length ∧ H a = some (exo a C none) ∧ ∀ d, H d = none → d ≠ a → Q .non (upd (upd H d (exd d (fl.zip ws).reverse)) a (exo a C (some d)))
theorem start_get {N : List Str} {vs : List V} {i : Nat} {v : V} (h : vs[i]? = some v) : (L2.start N vs)[i]? = some (some v) := by
  unfold L2.start
  have hl := (List.getElem?_eq_some_iff.mp h).1
  rw [List.getElem?_append_left (by rw [List.length_map]; exact hl), List.getElem?_map, h]
  rfl
theorem xi_ok {P : Program} {w : World} {K : PySem.W.Frag} {mg : Str → Option Value} {base : Heap} {N ps fl : List Str} {x qual : Str} {params : Arguments} {body : List Stmt} {scope : Scope} {f : Addr} {fd : FuncData} (FD : FunD K x qual params body scope [] [] f fd) (S : FnScope N ps scope) (hl : ps.length = fl.length + 1)
    (hk : OexC K C) (hb : xiB N scope 1 fl body = true) (hn : ∀ f ∈ fl, PySem.W.findIn K (.ref C) f = some none) (h0 : fl ≠ []) (h9 : fl.length ≤ 900) : FnOk P w K mg base (L2.CX P w) 1 f fd ps (spXi K C fl) := by
  refine FD.ok S (fun vs H Q E h => by obtain ⟨a, ws, rfl, h1, _⟩ := h; rw [List.length_cons, h1, hl]) fun cdv A outer s H vs Q E hr hsp => ?_
  obtain ⟨a, ws, rfl, hw, ha, hq⟩ := hsp
  refine ⟨_, xi_first (X := cxOf (L2.CX P w) P w K mg base N qual scope f cdv A outer s H E) hk fl 1 body h0 h9 hb hn, a, ws, start_get rfl, hw, fun j v hv => ?_, ha, fun d hd hda => hq d hd hda⟩
  exact start_get (by rw [Nat.add_comm]; exact hv)
end
end Av


set_option Elab.async false
set_option linter.all false
set_option maxRecDepth 100000
set_option maxHeartbeats 4000000
/-! # AvG: dicts of the module, by their names -/
namespace Av
open PySem PySem.Spec PyProof.Rows L2
variable [Tb]

/-- the module's dict at d: what it holds -/
structure KdAt (K : PySem.W.Frag) (P : Program) (w : World) (d : Addr) (vk : List (Key × V)) : Prop where
  at_ : ∃ (o : Obj) (es : Array DictEntry) (ep : Nat) (vs : List (Key × Value)), K.lookup d = some o ∧ o.ExactDict ∧ o.data = .dict es ep ∧ PySem.KeysOf (mixKind P w) es ∧ PySem.Pairs (mixKind P w) es.toList vs ∧ (vs.map (·.1)).Nodup ∧ KV vk vs
  low : (d == sysModules) = false
section
variable {X : Cx} {pins : List (Addr × Obj)} {σ : L2.St} {H : Hp} {s : Shared} {d : Addr} {vk : List (Key × V)}
theorem KdAt.of (h : KdAt X.K X.prog X.w d vk) (I : Inv X pins σ H s) : ∃ vs, KV vk vs ∧ s.heap.DictOf (mixKind X.prog X.w) d vs := by
  obtain ⟨⟨o, es, ep, vs, h1, h2, h3, h4, h5, h6, h7⟩, _⟩ := h
  exact ⟨vs, h7, o, es, ep, I.kIn _ _ h1, h2, h3, h4, h5, h6⟩
/-- x in D -/
def rKdIn (n : Bool) (vk : List (Key × V)) (d : Addr) : V → V → Hp → VK → Prop := fun x y H Q => ∃ k, y = .ref d ∧ x = kV k ∧ Q (.bl (if n then !(valV vk k).isSome else (valV vk k).isSome)) H
theorem op_kdIn (h : KdAt X.K X.prog X.w d vk) : OpR X (compareOp .In) (rKdIn false vk d) := by
  intro pins s σ H x y v u Q I rx ry ⟨k, e1, e2, q⟩
  subst e1 e2
  cases ry
  obtain ⟨vs, rel, dd⟩ := h.of I
  refine wpAny_in_of (kV_is rx) h.low dd.mapOf ?_
  rw [← (rel.val k).isSome_eq]
  exact ⟨.bl _, H, I.tok _, rfl, q⟩
theorem op_kdNotIn (h : KdAt X.K X.prog X.w d vk) : OpR X (compareOp .NotIn) (rKdIn true vk d) := by
  intro pins s σ H x y v u Q I rx ry ⟨k, e1, e2, q⟩
  subst e1 e2
  cases ry
  obtain ⟨vs, rel, dd⟩ := h.of I
  refine wpAny_notIn_of (kV_is rx) h.low dd.mapOf ?_
  rw [← (rel.val k).isSome_eq]
  exact ⟨.bl _, H, I.tok _, rfl, q⟩
/-- D[x] -/
theorem kd_item {A : Around} {E : Value → Shared → Prop} {k : Key} {v : V} {u : Value} {Q : Value → Shared → Prop} (h : KdAt X.K X.prog X.w d vk) (I : Inv X pins σ H s) (ry : RelV (kV k) u) (l : valV vk k = some v) (hq : ∀ w' s', Inv X pins σ H s' → RelV v w' → Q w' s') :
    wpAny (model X.prog X.w) A (getItem (.ref d) u) Q E s := by
  obtain ⟨vs, rel, dd⟩ := h.of I
  obtain ⟨w', hw, rw'⟩ := RelO.some_of (v := v) (o := valueAt vs k) (by rw [← l]; exact rel.val k)
  exact wpAny_getItem_of (kV_is ry) dd.mapOf hw (hq w' _ (I.tok _) rw')
theorem kd_get1 {A : Around} {E : Value → Shared → Prop} {k : Key} {u : Value} {Q : Value → Shared → Prop} (h : KdAt X.K X.prog X.w d vk) (I : Inv X pins σ H s) (ry : RelV (kV k) u) (hq : ∀ w' s', Inv X pins σ H s' → RelV ((valV vk k).getD .non) w' → Q w' s') :
    wpAny (model X.prog X.w) A (call (.builtin "dict.get") [.ref d, u]) Q E s := by
  obtain ⟨vs, rel, dd⟩ := h.of I
  refine call_meetsIn PySem.F.slot_dict_get dd.typeIs PySem.F.entry_dict_get (PySem.F.args_dict_get_2 _ _) (meets_dict_get (mixKind X.prog X.w) d (kV_is ry) h.low) ⟨_, dd.mapOf, hq _ _ (I.tok _) ?_⟩
  exact (rel.val k).getD rfl
theorem kd_get2 {A : Around} {E : Value → Shared → Prop} {k : Key} {u r : Value} {z : V} {Q : Value → Shared → Prop} (h : KdAt X.K X.prog X.w d vk) (I : Inv X pins σ H s) (ry : RelV (kV k) u) (rd : RelV z r) (hq : ∀ w' s', Inv X pins σ H s' → RelV ((valV vk k).getD z) w' → Q w' s') :
    wpAny (model X.prog X.w) A (call (.builtin "dict.get") [.ref d, u, r]) Q E s := by
  obtain ⟨vs, rel, dd⟩ := h.of I
  refine call_meetsIn PySem.F.slot_dict_get dd.typeIs PySem.F.entry_dict_get (PySem.F.args_dict_get_3 _ _ _) (meets_dict_get_default (mixKind X.prog X.w) d (kV_is ry) h.low r) ⟨_, dd.mapOf, hq _ _ (I.tok _) ?_⟩
  exact (rel.val k).getD rd
end
section
variable {X : Cx} {D x : Str} {p pos apos cpos : Pos} {d : Addr} {vk : List (Key × V)} {a b : Expr} {t t2 : TE}
theorem pe_gname (hg : Gl X D) (hm : X.mg D = some (.ref d)) (hdb : (D == ("__debug__" : Str)) = false) : PE X (.Name D p) (tC (.ref d)) :=
  ⟨fun pins s σ H Q I q => ld_glob I hg hm ⟨.ref d, H, I, rfl, q⟩ hdb⟩
def tKdIx (vk : List (Key × V)) (t : TE) : TE := fun σ H Q => t σ H fun y H1 => ∃ k v, y = kV k ∧ valV vk k = some v ∧ Q v H1
theorem pe_kdIx (h : KdAt X.K X.prog X.w d vk) (hg : Gl X D) (hm : X.mg D = some (.ref d)) (hdb : (D == ("__debug__" : Str)) = false) (hi : PE X a t) (hs : NoSl a) : PE X (.Subscript (.Name D p) a pos) (tKdIx vk t) := by
  refine ⟨fun pins s σ H Q I q => ?_⟩
  refine subD_of PySem.F.slot_dict_getitem.lookup hs (thn ((pe_gname (p := p) hg hm hdb).run pins s σ H (fun v H1 => v = .ref d ∧ H1 = H) I ⟨rfl, rfl⟩) fun u s1 ⟨v, H1, I1, rv, e1, e2⟩ => ?_)
  subst e1 e2
  cases rv
  refine thn (hi.run pins s1 σ _ _ I1 q) fun iv s2 ⟨y, H2, I2, ry, k, v, e, l, q2⟩ => ?_
  subst e
  obtain ⟨vs, rel, dd⟩ := h.of I2
  exact ⟨dd.typeIs, kd_item h I2 ry l fun w' s3 I3 rw' => ⟨v, H2, I3, rw', q2⟩⟩
def tKdG1 (vk : List (Key × V)) (t : TE) : TE := fun σ H Q => t σ H fun y H1 => ∃ k, y = kV k ∧ Q ((valV vk k).getD .non) H1
def tKdG2 (vk : List (Key × V)) (t t2 : TE) : TE := fun σ H Q => t σ H fun y H1 => t2 σ H1 fun z H2 => ∃ k, y = kV k ∧ Q ((valV vk k).getD z) H2
theorem kd_noDict {pins : List (Addr × Obj)} {σ : L2.St} {H : Hp} {s : Shared} (h : KdAt X.K X.prog X.w d vk) (I : Inv X pins σ H s) : s.TypeIs (.ref d) "dict" ∧ ∀ b, Value.ref d = .ref b → ∃ ob, s.heap.get? b = some ob ∧ ob.dict = none := by
  obtain ⟨vs, rel, dd⟩ := h.of I
  refine ⟨dd.typeIs, fun b q => ?_⟩
  cases q
  obtain ⟨ob, _, _, h1, h2, _⟩ := dd
  exact ⟨ob, h1, h2.2.1⟩
theorem pe_kdG1 (h : KdAt X.K X.prog X.w d vk) (hg : Gl X D) (hm : X.mg D = some (.ref d)) (hdb : (D == ("__debug__" : Str)) = false) (he : PE X a t) (m : M1 X (.Name D p) "get" apos a cpos) : PE X (.Call (.Attribute (.Name D p) "get" apos) [a] [] cpos) (tKdG1 vk t) := by
  refine ⟨fun pins s σ H Q I q => ?_⟩
  refine wpAny_Call_method m.base m.few m.line PySem.F.plainAttrs_dict PySem.F.slot_dict_get PySem.F.type_dict_get (thn ((pe_gname (p := p) hg hm hdb).run pins s σ H (fun v H1 => v = .ref d ∧ H1 = H) I ⟨rfl, rfl⟩) fun u s1 ⟨v, H1, I1, rv, e1, e2⟩ => ?_)
  subst e1 e2
  cases rv
  obtain ⟨t1, t2⟩ := kd_noDict h I1
  refine ⟨t1, t2, ?_⟩
  rw [m.trees]
  refine Calls.callWith_builtin rfl (Calls.evalArgs_plain (Calls.spliced_cons (thn (he.run pins s1 σ _ _ I1 q) fun iv s2 ⟨y, H2, I2, ry, k, e, q2⟩ => Calls.spliced_nil ?_)))
  subst e
  exact kd_get1 h I2 ry fun w' s3 I3 rw' => ⟨_, H2, I3, rw', q2⟩
theorem pe_kdG2 (h : KdAt X.K X.prog X.w d vk) (hg : Gl X D) (hm : X.mg D = some (.ref d)) (hdb : (D == ("__debug__" : Str)) = false) (he : PE X a t) (hf : PE X b t2) (m : M2 X (.Name D p) "get" apos a b cpos) : PE X (.Call (.Attribute (.Name D p) "get" apos) [a, b] [] cpos) (tKdG2 vk t t2) := by
  refine ⟨fun pins s σ H Q I q => ?_⟩
  refine wpAny_Call_method m.base m.few m.line PySem.F.plainAttrs_dict PySem.F.slot_dict_get PySem.F.type_dict_get (thn ((pe_gname (p := p) hg hm hdb).run pins s σ H (fun v H1 => v = .ref d ∧ H1 = H) I ⟨rfl, rfl⟩) fun u s1 ⟨v, H1, I1, rv, e1, e2⟩ => ?_)
  subst e1 e2
  cases rv
  obtain ⟨t1, t3⟩ := kd_noDict h I1
  refine ⟨t1, t3, ?_⟩
  rw [m.trees]
  refine Calls.callWith_builtin rfl (Calls.evalArgs_plain (Calls.spliced_cons (thn (he.run pins s1 σ _ _ I1 q) fun iv s2 ⟨y, H2, I2, ry, q2⟩ =>
    Calls.spliced_cons (thn (hf.run pins s2 σ H2 _ I2 q2) fun fv s3 ⟨z, H3, I3, rz, k, e, q3⟩ => Calls.spliced_nil ?_))))
  subst e
  exact kd_get2 h I3 ry rz fun w' s4 I4 rw' => ⟨_, H3, I4, rw', q3⟩
end
/-! ### its keys, walked -/
def ItK (vk : List (Key × V)) : It := ⟨fun i _ => i < vk.length, fun i H x H' => H' = H ∧ ∃ k v, vk[i]? = some (k, v) ∧ x = kV k, fun i _ => vk.length ≤ i⟩
section
variable {P : Program} {w : World} {K : PySem.W.Frag} {tg : Expr} {d : Addr} {vk : List (Key × V)}
theorem KdAt.lit {X : Cx} {pins : List (Addr × Obj)} {σ : L2.St} {H : Hp} {s : Shared} {o : Obj} {es : Array DictEntry} {ep : Nat} (h : KdAt X.K X.prog X.w d vk) (e : X.K.lookup d = some o) (hd : o.data = .dict es ep) (I : Inv X pins σ H s) :
    s.heap.get? d = some o ∧ o.ExactDict ∧ es.size = vk.length ∧ ∃ vs, KV vk vs ∧ s.heap.DictAt (mixKind X.prog X.w) d vs ep := by
  obtain ⟨⟨o', es', ep', vs, h1, h2, h3, h4, h5, h6, h7⟩, _⟩ := h
  rw [e] at h1
  cases h1
  obtain ⟨q1, q2⟩ := dict_ep hd h3
  subst q1 q2
  have g := I.kIn _ _ e
  have l1 := h5.length
  have l2 : vk.length = vs.length := Paired.length h7
  rw [Array.length_toList] at l1
  exact ⟨g, h2, by omega, vs, h7, o, _, g, h2, hd, h4, h5, h6⟩
theorem turn_kd {o : Obj} {es : Array DictEntry} {ep : Nat} (it : Addr) (h : KdAt K P w d vk) (e : K.lookup d = some o) (hod : o.data = .dict es ep) : Turn P w K tg (ItK vk) [it] it (fun i h => h.IsKeyIter it d i vk.length ep) where
  mem := List.mem_singleton.mpr rfl
  obj := fun i hp st b hb => by
    cases List.mem_singleton.mp hb
    obtain ⟨oi, e, c, dd⟩ := st
    exact ⟨oi, e, fun v z => by rw [dd] at z; cases z⟩
  keep := fun i hp hp' st k => st.at fun oi e => k it (List.mem_singleton.mpr rfl) oi e
  item := by
    intro X hP hw hK hc i pins s σ H E I hf st hi
    subst hP hw hK
    obtain ⟨f0, f1, f2, f3, f4, f5⟩ := hf it (List.mem_singleton.mpr rfl)
    obtain ⟨hgd, hx, hsz, vs, kv, hm⟩ := h.lit e hod I
    have hi : i < vk.length := hi
    obtain ⟨⟨k, v⟩, hkv⟩ : ∃ q, vk[i]? = some q := ⟨vk[i], List.getElem?_eq_getElem hi⟩
    obtain ⟨u, hu, ru⟩ := kv_get kv hkv
    have hl : vk.length = vs.length := Paired.length kv
    rw [hl] at st
    refine wpAny_pyNext_dict_item st hm hu fun key h' hkey st' sb => ?_
    have I1 : Inv X pins σ H { s with heap := h' } := I.turned (t' := s.toks) (fun b ob hb e => (sb.2 b hb).trans e) f0 f1 f3 f4 f5
    obtain ⟨oi, e6, c, dd⟩ := id st'
    have rk : RelV (kV k) key := relV_key hkey
    refine ⟨key, rfl, go_of (s := { s with heap := h' }) e6 c dd (by decide) ⟨kV k, H, I1, rk, ⟨rfl, k, v, hkv, rfl⟩, ?_, fun b hb => (hf b hb).1⟩⟩
    show h'.IsKeyIter it d (i + 1) vk.length _
    rw [hl]
    exact st'
  done := by
    intro X hP hw hK hc i pins s σ H E I hf st hi
    subst hP hw hK
    obtain ⟨f0, f1, f2, f3, f4, f5⟩ := hf it (List.mem_singleton.mpr rfl)
    obtain ⟨hgd, hx, hsz, vs, kv, hm⟩ := h.lit e hod I
    exact next_key_end (I.ok.hd hc) st hgd hod hsz hi fun h' eb => ⟨rfl, I.turned (t' := s.toks) (fun b ob hb e => eb b ob hb e) f0 f1 f3 f4 f5⟩
  self := fun A i s Q E st h => wpAny_pyIter_keyiter st h
theorem pi_kd {X : Cx} {D : Str} {p : Pos} (h : KdAt X.K X.prog X.w d vk) (hg : Gl X D) (hm : X.mg D = some (.ref d)) (hdb : (D == ("__debug__" : Str)) = false) : PI X tg (.Name D p) (fun _ H R => R (ItK vk) H) := by
  refine ⟨fun pins s σ H R I q => ?_⟩
  refine thn ((pe_gname (p := p) hg hm hdb).run pins s σ H (fun v H1 => v = .ref d ∧ H1 = H) I ⟨rfl, rfl⟩) fun u s1 ⟨v, H1, I1, rv, e1, e2⟩ => ?_
  subst e1 e2
  cases rv
  obtain ⟨o, es, ep, _, h1, h2, h3, _⟩ := h.at_
  obtain ⟨hgd, hx, hsz, vs, kv, hm'⟩ := h.lit h1 h3 I1
  refine iter_keys h.low hgd hx h3 (pi_one (tk := s1.toks) I1 _ (turn_kd _ h h1 h3) ⟨_, Heap.get?_push_size _ rfl, rfl, ?_⟩ q)
  rw [hsz]
  rfl
end
end Av


set_option Elab.async false
set_option linter.all false
set_option maxRecDepth 100000
set_option maxHeartbeats 4000000
/-! # Av5: calls, methods, what is walked, comprehensions -/
namespace Av
open PySem PySem.Spec PyProof.Rows L2
variable [Tb]

/-- a def's promise by its contract -/
def spOf (K : PySem.W.Frag) (F : FnE) : Sp := fun vs H Q E => ∃ ds G Qa Ea, Reps K H vs ds ∧ RelG K G H ∧ F.con ds G Qa Ea ∧ PostE K G H Qa Q ∧ PostX K G H Ea E
theorem spOf_len {K : PySem.W.Frag} {F : FnE} {vs : List V} {H : Hp} {Q : VK} {E : XK} (h : spOf K F vs H Q E) : vs.length = F.ar := by
  obtain ⟨ds, G, Qa, Ea, h1, _, h2, _⟩ := h
  rw [h1.length]
  exact F.len _ _ _ _ h2
/-- a class that is raised: without fields and without own __init__, or with an __init__ of nothing but self.f = p -/
def XcOk (P : Program) (w : World) (K : PySem.W.Frag) (mg : Str → Option Value) (base : Heap) (k : Nat) (C : Addr) (fl : List Str) : Prop :=
  (fl = [] ∧ PySem.W.excIn K C He.veBase "ValueError.__new__" = true ∧ PySem.W.keepIn K (.ref C) = true ∧ PySem.W.subIn K (.ref C) (.type "BaseException") = some true ∧ PySem.W.typeIn K (.ref C) = some (.type "type")) ∨
  (fl ≠ [] ∧ fl.length ≤ 900 ∧ OexC K C ∧ ∃ a fd ps j, j + 1 ≤ k ∧ PySem.W.findIn K (.ref C) "__init__" = some (some (.ref a)) ∧ PySem.W.typeIn K (.ref a) = some (.type "function") ∧ FnOk P w K mg base (L2.CX P w) j a fd ps (spXi K C fl) ∧ Binds K fd ps [])
/-- what the table of names says is so -/
structure TbOk (P : Program) (w : World) (K : PySem.W.Frag) (mg : Str → Option Value) (base : Heap) (Γ : Gam) (k : Nat) : Prop where
  fn : ∀ f F, Γ.fn f = some F → ∃ a fd ps, FnOk P w K mg base (L2.CX P w) k a fd ps (spOf K F) ∧ mg f = some (.ref a) ∧ PySem.W.keepIn K (.ref a) = true ∧
    ∀ m, F.ar ≤ m + F.dfl.length → m ≤ F.ar → ∃ ds dvs, Binds K fd ps ds ∧ Vals dvs ds ∧ ∀ H, Reps K H dvs (F.dfl.drop (m + F.dfl.length - F.ar))
  gl : ∀ x d, Γ.gl x = some d → ∃ u v, RelV v u ∧ (∀ H, Rep K H v d) ∧ (mg x = some u ∨ (mg x = none ∧ bootBuiltins x = some u))
  blt : ∀ f : BF, mg f.nm = none
  at_ : ∀ C f, Γ.at_ C f = true → Cls K (He.ga K C) ∧ NoAttr K (He.ga K C) f
  ms : ∀ C m F, Γ.ms C m = some F → ∃ a fd ps, FnOk P w K mg base (L2.CX P w) k a fd ps (spOf K F) ∧ Cls K (He.ga K C) ∧ Meth K (He.ga K C) m a ∧
    ∀ m, F.ar ≤ m + 1 + F.dfl.length → m + 1 ≤ F.ar → ∃ ds dvs, Binds K fd ps ds ∧ Vals dvs ds ∧ ∀ H, Reps K H dvs (F.dfl.drop (m + 1 + F.dfl.length - F.ar))
  mke : ∀ C F, Γ.mke C = some F → ∃ a fd ps j, j + 1 ≤ k ∧ FnOk P w K mg base (L2.CX P w) j a fd ps (spOf K F) ∧ Mk K (He.ga K C) a ∧ mg C = some (.ref (He.ga K C)) ∧
    ∀ m, F.ar ≤ m + 1 + F.dfl.length → m + 1 ≤ F.ar → ∃ ds dvs, Binds K fd ps ds ∧ Vals dvs ds ∧ ∀ H, Reps K H dvs (F.dfl.drop (m + 1 + F.dfl.length - F.ar))
  xc : ∀ C fl, Γ.xc C = some fl → mg C = some (.ref (He.ga K C)) ∧ XcOk P w K mg base k (He.ga K C) fl
  dc : ∀ x kvs, Γ.dc x = some kvs → ∃ d vk, mg x = some (.ref d) ∧ KdAt K P w d vk ∧ ∀ H, KRel K H vk kvs
  fa : ∀ f F, Γ.fn f = some F → mg f = some (.ref (He.ga K f))
  rng : mg "range" = none
  zip : mg "zip" = none
  enum : mg "enumerate" = none
structure Oc (X : Cx) (W : WX) (Γ : Gam) (k : Nat) : Prop where
  room : Room k X.A
  nd : X.N.Nodup
  calm : X.calm = true
  tk : Takes X W
  tb : TbOk X.prog X.w X.K X.mg X.base Γ k
section
variable {X : Cx} {W : WX} {Γ : Gam} {k : Nat} {a b c : Expr} {pos p : Pos} {es : List Expr} {w1 w2 : Env' → AG → AQ → AX → Prop} {wa : Env' → AG → (List Dat → AG → Prop) → AX → Prop}
/-- f(), with what is raised wished for at the slots -/
theorem pe_callSD0 {CX : CXT} {f : Addr} {fd : FuncData} {ps : List Str} {sp : Sp} {dvs : List V} {ds : List Value} {E : L2.St → XK} {x : Str} (F : FnOk X.prog X.w X.K X.mg X.base CX k f fd ps sp) (hr : Room k X.A) (hg : Gl X x) (hm : X.mg x = some (.ref f)) (hk : PySem.W.keepIn X.K (.ref f) = true)
    (hb : Binds X.K fd ps ds) (hd : Vals dvs ds) (hx : ∀ σ, PassesAt CX X σ (E σ)) (hdb : (x == ("__debug__" : Str)) = false) : PE X (.Call (.Name x p) [] [] pos) (tCallSD sp dvs E tNil) := by
  refine ⟨fun pins s σ H Q I h => ?_⟩
  refine wpAny_Call_Name_kw (ld_glob I hg hm ?_ hdb)
  exact PySem.W.callWith_K0 I.kIn hk (run_fnSD (us := []) F hr hb hd (hx σ) I .nil h)
theorem se_call0 (oc : Oc X W Γ k) {f : Str} {F : FnE} (hF : Γ.fn f = some F) (hg : Gl X f) (hdb : (f == ("__debug__" : Str)) = false) (h1 : F.ar ≤ 0 + F.dfl.length) :
    PE X (.Call (.Name f p) [] [] pos) (LfE X.K W fun ρ G Q E => F.con ([] ++ F.dfl.drop (0 + F.dfl.length - F.ar)) G Q E) := by
  obtain ⟨a, fd, ps, hok, hm, hk, hbind⟩ := oc.tb.fn f F hF
  obtain ⟨ds, dvs, hb, hv, hd⟩ := hbind 0 h1 (Nat.zero_le _)
  exact PE.imp (pe_callSD0 (E := WE W) hok oc.room hg hm hk hb hv (fun σ => passAt oc.tk σ) hdb) fun σ H Q ⟨ρ, G, Qa, Ea, hE, hG, hw, hp, hx⟩ => ⟨_, G, Qa, Ea, hd H, hG, hw, hp, hx⟩
theorem call_imp {F : FnE} {dvs : List V} {n : Nat} (hd : ∀ H, Reps X.K H dvs (F.dfl.drop n)) {t : TA} (ht : ∀ σ H Q, LfA X.K W wa σ H Q → t σ H Q) (σ : L2.St) (H : Hp) (Q : VK)
    (h : LfE X.K W (fun ρ G Q E => wa ρ G (fun ds G1 => F.con (ds ++ F.dfl.drop n) G1 Q E) E) σ H Q) : tCallSD (spOf X.K F) dvs (WE W) t σ H Q := by
  obtain ⟨ρ, G, Qa, Ea, hE, hG, hw, hp, hx⟩ := h
  exact ht _ _ _ ⟨ρ, G, _, Ea, hE, hG, hw, fun d G1 v H1 f g r q => ⟨_, G1, Qa, Ea, r.append (hd H1), g, q, fun d' G' v' H' f3 => hp d' G' v' H' (f.trans f3), hx.fra f⟩, hx⟩
theorem se_call (oc : Oc X W Γ k) {f : Str} {F : FnE} (hF : Γ.fn f = some F) (hg : Gl X f) (hdb : (f == ("__debug__" : Str)) = false) (h1 : F.ar ≤ (a :: es).length + F.dfl.length) (h2 : (a :: es).length ≤ F.ar) (ha : PA X (a :: es) (LfA X.K W wa))
    (he1 : starEach (a :: es) X.env = (false, eval a X.env) :: starEach es X.env) (he2 : (backTo pos (starEach es X.env)).any (·.1) = false) :
    PE X (.Call (.Name f p) (a :: es) [] pos) (LfE X.K W fun ρ G Q E => wa ρ G (fun ds G1 => F.con (ds ++ F.dfl.drop ((a :: es).length + F.dfl.length - F.ar)) G1 Q E) E) := by
  obtain ⟨q, fd, ps, hok, hm, hk, hbind⟩ := oc.tb.fn f F hF
  obtain ⟨ds, dvs, hb, hv, hd⟩ := hbind (a :: es).length h1 h2
  exact PE.imp (pe_callSD (E := WE W) hok oc.room hg hm hk hb hv (fun σ => passAt oc.tk σ) ha hdb he1 he2) (call_imp hd fun _ _ _ z => z)
/-! ### built-ins -/
theorem boot_bf (f : BF) : bootBuiltins f.nm = some f.val := by cases f <;> decide +kernel
theorem bf_n (f : BF) : f.nm ≠ ("__name__" : Str) ∧ (f.nm == ("__debug__" : Str)) = false := by cases f <;> exact ⟨by decide, by decide⟩
theorem blt_imp {r : List V → Hp → VK → Prop} {rA : List Dat → AG → AQ → Prop} (hA : BltA X.K r rA) (σ : L2.St) (H : Hp) (Q : VK) (h : LfE X.K W (fun ρ G Q E => wa ρ G (fun ds G1 => rA ds G1 Q) E) σ H Q) : tCB r (LfA X.K W wa) σ H (Qz Q) := by
  obtain ⟨ρ, G, Qa, Ea, hE, hG, hw, hp, hx⟩ := h
  exact ⟨ρ, G, _, Ea, hE, hG, hw, fun d G1 v H1 f g r1 q => hA H1 v d G1 Qa _ r1 g q (postZ fun d' G' v' H' f3 => hp d' G' v' H' (f.trans f3)), hx⟩
theorem se_blt (oc : Oc X W Γ k) {z : Bool} {f : BF} (hg : Gl X f.nm) (ha : PA X (a :: es) (LfA X.K W wa))
    (he1 : starEach (a :: es) X.env = (false, eval a X.env) :: starEach es X.env) (he2 : (backTo pos (starEach es X.env)).any (·.1) = false) :
    PE X (.Call (.Name f.nm p) (a :: es) [] pos) (LfE X.K W fun ρ G Q E => wa ρ G (fun ds G1 => bltW z f ds G1 Q) E) := by
  obtain ⟨r, hc, hA⟩ := blt_ok X oc.calm z f
  have h1 := boot_bf f
  have h2 := bf_n f
  have h3 := oc.tb.blt f
  cases f <;> first
    | exact PE.imp (pe_z (pe_callB hc hg h3 h1 ha h2.1 h2.2 he1 he2)) (blt_imp hA)
    | exact PE.imp (pe_z (pe_callTy hc hg h3 h1 ha h2.1 h2.2 he1 he2)) (blt_imp hA)
/-! ### methods of lists -/
theorem met_ok (X : Cx) (m : MF) : ∃ id r, Slot "list" m.nm id ∧ typeOf (.builtin id) = pure (.type "method_descriptor") ∧ MtR X id r ∧ MetA X.K "list" r (methW m) := by
  cases m with
  | append => exact ⟨_, _, F.slot_list_append, rfl, mt_append, metA_append⟩
  | extend => exact ⟨_, _, F.slot_list_extend, rfl, mt_extR, metA_extend⟩
  | pop => exact ⟨_, _, F.slot_list_pop, rfl, mt_pop, metA_pop⟩
  | popAt => exact ⟨_, _, F.slot_list_pop, rfl, mt_popAt, metA_popAt⟩
  | clear => exact ⟨_, _, F.slot_list_clear, rfl, mt_clear, metA_clear⟩
  | reverse => exact ⟨_, _, F.slot_list_reverse, rfl, mt_reverse, metA_reverse⟩
theorem tyV_lst {K : PySem.W.Frag} {G : AG} {H : Hp} {x : V} {d : Dat} (rg : RelG K G H) (r : Rep K H x d) (h : ∃ ds, lstOf G d = some ds) : tyV K "list" x H := by
  obtain ⟨ds, e⟩ := h
  obtain ⟨q, vs, rfl, h3, _⟩ := lstOf_rd rg r e
  exact .inl ⟨rfl, vs, .inl h3⟩
theorem se_meth {m : MF} {apos : Pos} (h1 : PE X b (LfE X.K W w1)) (ha : PA X (a :: es) (LfA X.K W wa))
    (hbase : attributeBase b m.nm X.env (eval b X.env) = eval b X.env)
    (hfew : ((backTo pos (starEach (a :: es) X.env)).all (fun x => !x.1) && (backToKw pos (keywordEach [] X.env)).all (fun x => x.1.isSome)
      && decide ((a :: es).length + ([] : List Keyword).length + (if ([] : List Keyword).isEmpty then 0 else 1) < 30)) = true)
    (hline : (apos.endLine == pos.line) = true) (he1 : starEach (a :: es) X.env = (false, eval a X.env) :: starEach es X.env) (he2 : (backTo pos (starEach es X.env)).any (·.1) = false) :
    PE X (.Call (.Attribute b m.nm apos) (a :: es) [] pos) (LfE X.K W fun ρ G Q E => w1 ρ G (fun x G1 => (∃ ds, lstOf G1 x = some ds) ∧ wa ρ G1 (fun ds G2 => methW m x ds G2 Q) E) E) := by
  obtain ⟨id, r, k1, k2, k3, k4⟩ := met_ok X m
  refine PE.imp (pe_bm F.plainAttrs_list k1 k2 k3 h1 ha hbase hfew hline he1 he2) ?_
  rintro σ H Q ⟨ρ, G, Qa, Ea, hE, hG, hw, hp, hx⟩
  refine ⟨ρ, G, _, Ea, hE, hG, hw, fun d G1 v H1 f g r1 q => ⟨tyV_lst g r1 q.1, ρ, G1, _, Ea, hE.mono (f.stab hG), g, q.2, fun e G2 u H2 f2 g2 r2 q2 => ?_, hx.fra f⟩, hx⟩
  exact k4 H2 v d u e G2 Qa Q (r1.mono (f2.stab g)) r2 g2 q2 fun d' G' v' H' f3 => hp d' G' v' H' ((f.trans f2).trans f3)
theorem se_meth0 {m : MF} {apos : Pos} (h1 : PE X b (LfE X.K W w1)) (hbase : attributeBase b m.nm X.env (eval b X.env) = eval b X.env) (hline : (apos.endLine == pos.line) = true) :
    PE X (.Call (.Attribute b m.nm apos) [] [] pos) (LfE X.K W fun ρ G Q E => w1 ρ G (fun x G1 => (∃ ds, lstOf G1 x = some ds) ∧ methW m x [] G1 Q) E) := by
  obtain ⟨id, r, k1, k2, k3, k4⟩ := met_ok X m
  refine PE.imp (pe_bm0 F.plainAttrs_list k1 k2 k3 h1 hbase hline) ?_
  rintro σ H Q ⟨ρ, G, Qa, Ea, hE, hG, hw, hp, hx⟩
  refine ⟨ρ, G, _, Ea, hE, hG, hw, fun d G1 v H1 f g r1 q => ⟨tyV_lst g r1 q.1, ?_⟩, hx⟩
  exact k4 H1 v d [] [] G1 Qa Q r1 .nil g q.2 fun d' G' v' H' f3 => hp d' G' v' H' (f.trans f3)
/-! ### global values -/
theorem se_glo (oc : Oc X W Γ k) {x : Str} (hg : Gl X x) (hn : x ≠ "__name__") (hd : (x == ("__debug__" : Str)) = false) : PE X (.Name x pos) (LfE X.K W fun ρ G Q _ => match Γ.gl x with | some d => Q d G | none => False) := by
  refine ⟨fun pins s σ H Q I ⟨ρ, G, Qa, Ea, hE, hG, hw, hp, hx⟩ => ?_⟩
  cases e : Γ.gl x with
  | none => rw [e] at hw; exact False.elim hw
  | some d =>
    rw [e] at hw
    obtain ⟨u, v, rv, rd, h⟩ := oc.tb.gl x d e
    rcases h with h | ⟨h, h'⟩
    · exact ld_glob I hg h ⟨v, H, I, rv, hp d G v H .refl hG (rd H) hw⟩ hd
    · exact ld_blt I hg h h' ⟨v, H, I, rv, hp d G v H .refl hG (rd H) hw⟩ hn hd
end
end Av


set_option Elab.async false
set_option linter.all false
set_option maxRecDepth 100000
set_option maxHeartbeats 4000000
/-! # AvCls: instances -/
namespace Av
open PySem PySem.Spec PyProof.Rows L2
variable [Tb]

theorem kr_look {K : PySem.W.Frag} {H : Hp} {f : Str} {d : Dat} : ∀ {vf : List (Str × V)} {fs : List (Str × Dat)}, KRel K H vf fs → fs.lookup f = some d → ∃ v, vf.lookup f = some v ∧ Rep K H v d
  | _, _, .nil, e => by cases e
  | (g, v) :: vf, (g', d') :: fs, .cons h r, e => by
    obtain ⟨rfl, h⟩ := h
    have e2 : (match f == g with | true => some d' | false => fs.lookup f) = some d := e
    show ∃ u, (match f == g with | true => some v | false => vf.lookup f) = some u ∧ Rep K H u d
    cases q : (f == g) with
    | true => rw [q] at e2; cases e2; exact ⟨v, rfl, h⟩
    | false => rw [q] at e2; exact kr_look r e2
theorem kr_none {K : PySem.W.Frag} {H : Hp} {f : Str} : ∀ {vf : List (Str × V)} {fs : List (Str × Dat)}, KRel K H vf fs → fs.lookup f = none → vf.lookup f = none
  | _, _, .nil, _ => rfl
  | (g, v) :: vf, (g', d') :: fs, .cons h r, e => by
    obtain ⟨rfl, h⟩ := h
    have e2 : (match f == g with | true => some d' | false => fs.lookup f) = none := e
    show (match f == g with | true => some v | false => vf.lookup f) = none
    cases q : (f == g) with
    | true => rw [q] at e2; cases e2
    | false => rw [q] at e2; exact kr_none r e2
theorem kr_len {K : PySem.W.Frag} {H : Hp} : ∀ {vf : List (Str × V)} {fs : List (Str × Dat)}, KRel K H vf fs → vf.length = fs.length
  | _, _, .nil => rfl
  | _, _, .cons _ r => congrArg (· + 1) (kr_len r)
theorem kr_put {K : PySem.W.Frag} {H : Hp} {f : Str} {v : V} {d : Dat} (h : Rep K H v d) : ∀ {vf : List (Str × V)} {fs : List (Str × Dat)}, KRel K H vf fs → KRel K H (putF f v vf) (putD f d fs)
  | _, _, .nil => .cons ⟨rfl, h⟩ .nil
  | (g, u) :: vf, (g', e) :: fs, .cons h1 r => by
    obtain ⟨rfl, h2⟩ := h1
    show KRel K H (if g = f then (g, v) :: vf else (g, u) :: putF f v vf) (if g = f then (g, d) :: fs else (g, e) :: putD f d fs)
    by_cases q : g = f
    · rw [if_pos q, if_pos q]; exact .cons ⟨rfl, h⟩ r
    · rw [if_neg q, if_neg q]; exact .cons ⟨rfl, h2⟩ (kr_put h r)
theorem RelG.ins {K : PySem.W.Frag} {G : AG} {H : Hp} {p : Addr} {C : Str} {fs : List (Str × Dat)} (g : RelG K G H) (e : G p = some (.ins C fs)) : ∃ dx vf, H p = some (.ins (He.ga K C) dx vf) ∧ KRel K H vf fs := g.g p _ e
theorem attW_inv {Γ : Gam} {f : Str} {x : Dat} {G : AG} {Q : AQ} (h : attW Γ f x G Q) : ∃ p C fs d, x = .ref p ∧ G p = some (.ins C fs) ∧ Γ.at_ C f = true ∧ fs.lookup f = some d ∧ Q d G := by
  cases x with
  | ref p => obtain ⟨C, fs, d, h⟩ := h; exact ⟨p, C, fs, d, rfl, h⟩
  | _ => exact False.elim h
theorem satW_inv {Γ : Gam} {f : Str} {v x : Dat} {G : AG} {Q : AG → Prop} (h : satW Γ f v x G Q) : ∃ p C fs, x = .ref p ∧ G p = some (.ins C fs) ∧ Γ.at_ C f = true ∧ fs.length < 1000 ∧ Q (gu G p (.ins C (putD f v fs))) := by
  cases x with
  | ref p => obtain ⟨C, fs, h⟩ := h; exact ⟨p, C, fs, rfl, h⟩
  | _ => exact False.elim h
theorem insW_inv {C m : Str} {x : Dat} {G : AG} (h : insW C m x G) : ∃ p fs, x = .ref p ∧ G p = some (.ins C fs) ∧ fs.lookup m = none := by
  cases x with
  | ref p => obtain ⟨fs, h⟩ := h; exact ⟨p, fs, rfl, h⟩
  | _ => exact False.elim h
section
variable {X : Cx} {W : WX} {Γ : Gam} {k : Nat} {a o : Expr} {pos p apos : Pos} {es : List Expr} {w1 : Env' → AG → AQ → AX → Prop} {wa : Env' → AG → (List Dat → AG → Prop) → AX → Prop}
theorem se_att (oc : Oc X W Γ k) {f : Str} (h1 : PE X a (LfE X.K W w1)) (hb : attributeBase a f X.env (eval a X.env) = eval a X.env) : PE X (.Attribute a f pos) (LfE X.K W fun ρ G Q E => w1 ρ G (fun x G1 => attW Γ f x G1 Q) E) := by
  refine PE.imp (pe_fld h1 hb) ?_
  rintro σ H Q ⟨ρ, G, Qa, Ea, hE, hG, hw, hp, hx⟩
  refine ⟨ρ, G, _, Ea, hE, hG, hw, fun d G1 v H1 fr g r q => ?_, hx⟩
  obtain ⟨b, C, fs, e, rfl, k1, k2, k3, k4⟩ := attW_inv q
  cases rep_r r
  obtain ⟨dx, vf, k5, k6⟩ := g.ins k1
  obtain ⟨u, k7, k8⟩ := kr_look k6 k3
  obtain ⟨c1, c2⟩ := oc.tb.at_ C f k2
  exact ⟨b, _, dx, vf, u, rfl, k5, c1, c2, k7, hp _ _ _ _ fr g k8 k4⟩
/-- o.m(..), what is raised wished for at the slots -/
def tMethS (C : Addr) (m : Str) (sp : Sp) (dvs : List V) (E : L2.St → XK) (to : TE) (t : TA) : TE := fun σ H Q => to σ H fun x H1 => ∃ b dx fs, x = .ref b ∧ H1 b = some (.ins C dx fs) ∧ fs.lookup m = none ∧ t σ H1 fun vs H2 => sp (x :: (vs ++ dvs)) H2 Q (E σ)
theorem pe_methSD {CX : CXT} {C f : Addr} {m : Str} {fd : FuncData} {ps : List Str} {sp : Sp} {dvs : List V} {ds : List Value} {E : L2.St → XK} {to : TE} {t : TA} {e : Expr} {pl : Sem Bool} (he : PE X o to) (c : Cls X.K C) (hm : Meth X.K C m f) (F : FnOk X.prog X.w X.K X.mg X.base CX k f fd ps sp) (hr : Room k X.A)
    (hb : Binds X.K fd ps ds) (hd : Vals dvs ds) (hx : ∀ σ, PassesAt CX X σ (E σ)) (ha : PA X (e :: es) t) (hst : starEach (e :: es) X.env = (false, eval e X.env) :: starEach es X.env) (hpl : (backTo pos (starEach es X.env)).any (·.1) = false)
    (ht : eval (.Call (.Attribute o m apos) (e :: es) [] pos) X.env = (do
      let w ← eval o X.env
      standAt apos.atName
      let (g, one) ← holding [w] (getMethod w m pl)
      callWith pos g one (backTo pos (starEach (e :: es) X.env)) (backToKw pos (keywordEach [] X.env)))) : PE X (.Call (.Attribute o m apos) (e :: es) [] pos) (tMethS C m sp dvs E to t) := by
  refine ⟨fun pins s σ H Q I h => ?_⟩
  refine PySem.W.methodCall_KW (pl := pl) (thn (he.run pins s σ H _ I h) fun u s1 ⟨x, H1, I1, rx, b, dx, fs, ex, eb, l, q⟩ => ?_) ht
  subst ex
  obtain rfl : u = Value.ref b := rx
  refine getmeth_ok I1 eb c hm l ?_
  refine PySem.W.callWith_K (first := [.ref b]) (h₀ := X.base) I.ok.mod.kin hm.kp (thn (ha.run pos pins s1 σ H1 _ I1 q) fun us s2 ⟨vs, H2, I2, r, q2⟩ => ⟨I2.kIn, ?_⟩) hst hpl
  exact run_fnSD (us := .ref b :: us) (vs := .ref b :: vs) F hr hb hd (hx σ) I2 (.cons rfl r) q2
theorem pe_methSD0 {CX : CXT} {C f : Addr} {m : Str} {fd : FuncData} {ps : List Str} {sp : Sp} {dvs : List V} {ds : List Value} {E : L2.St → XK} {to : TE} {pl : Sem Bool} (he : PE X o to) (c : Cls X.K C) (hm : Meth X.K C m f) (F : FnOk X.prog X.w X.K X.mg X.base CX k f fd ps sp) (hr : Room k X.A)
    (hb : Binds X.K fd ps ds) (hd : Vals dvs ds) (hx : ∀ σ, PassesAt CX X σ (E σ))
    (ht : eval (.Call (.Attribute o m apos) [] [] pos) X.env = (do
      let w ← eval o X.env
      standAt apos.atName
      let (g, one) ← holding [w] (getMethod w m pl)
      callWith pos g one (backTo pos (starEach [] X.env)) (backToKw pos (keywordEach [] X.env)))) : PE X (.Call (.Attribute o m apos) [] [] pos) (tMethS C m sp dvs E to tNil) := by
  refine ⟨fun pins s σ H Q I h => ?_⟩
  refine PySem.W.methodCall_KW (pl := pl) (thn (he.run pins s σ H _ I h) fun u s1 ⟨x, H1, I1, rx, b, dx, fs, ex, eb, l, q⟩ => ?_) ht
  subst ex
  obtain rfl : u = Value.ref b := rx
  refine getmeth_ok I1 eb c hm l ?_
  exact PySem.W.callWith_K0 (first := [.ref b]) I1.kIn hm.kp (run_fnSD (us := [.ref b]) (vs := [.ref b]) F hr hb hd (hx σ) I1 (.cons rfl .nil) q)
theorem ms_imp {F : FnE} {C m : Str} {dvs : List V} {n : Nat} {to : Env' → AG → AQ → AX → Prop} {t : TA} (hd : ∀ H, Reps X.K H dvs (F.dfl.drop n)) (ht : ∀ σ H Q, LfA X.K W wa σ H Q → t σ H Q) (σ : L2.St) (H : Hp) (Q : VK)
    (h : LfE X.K W (fun ρ G Q E => to ρ G (fun x G1 => insW C m x G1 ∧ wa ρ G1 (fun ds G2 => F.con (x :: (ds ++ F.dfl.drop n)) G2 Q E) E) E) σ H Q) : tMethS (He.ga X.K C) m (spOf X.K F) dvs (WE W) (LfE X.K W to) t σ H Q := by
  obtain ⟨ρ, G, Qa, Ea, hE, hG, hw, hp, hx⟩ := h
  refine ⟨ρ, G, _, Ea, hE, hG, hw, fun d G1 v H1 f g r q => ?_, hx⟩
  obtain ⟨b, fs, rfl, k1, k2⟩ := insW_inv q.1
  cases rep_r r
  obtain ⟨dx, vf, k3, k4⟩ := g.ins k1
  refine ⟨b, dx, vf, rfl, k3, kr_none k4 k2, ht _ _ _ ⟨ρ, G1, _, Ea, hE.mono (f.stab hG), g, q.2, fun ds G2 vs H2 f2 g2 r2 q2 => ?_, hx.fra f⟩⟩
  exact ⟨_, G2, Qa, Ea, .cons (.ref b) (r2.append (hd H2)), g2, q2, fun d' G' v' H' f3 => hp d' G' v' H' ((f.trans f2).trans f3), hx.fra (f.trans f2)⟩
theorem se_mcall (oc : Oc X W Γ k) {C m : Str} {F : FnE} {e : Expr} {pl : Sem Bool} (hF : Γ.ms C m = some F) (h1 : F.ar ≤ (e :: es).length + 1 + F.dfl.length) (h2 : (e :: es).length + 1 ≤ F.ar) (ho : PE X o (LfE X.K W w1)) (ha : PA X (e :: es) (LfA X.K W wa))
    (hst : starEach (e :: es) X.env = (false, eval e X.env) :: starEach es X.env) (hpl : (backTo pos (starEach es X.env)).any (·.1) = false)
    (ht : eval (.Call (.Attribute o m apos) (e :: es) [] pos) X.env = (do
      let w ← eval o X.env
      standAt apos.atName
      let (g, one) ← holding [w] (getMethod w m pl)
      callWith pos g one (backTo pos (starEach (e :: es) X.env)) (backToKw pos (keywordEach [] X.env)))) :
    PE X (.Call (.Attribute o m apos) (e :: es) [] pos) (LfE X.K W fun ρ G Q E => w1 ρ G (fun x G1 => insW C m x G1 ∧ wa ρ G1 (fun ds G2 => F.con (x :: (ds ++ F.dfl.drop ((e :: es).length + 1 + F.dfl.length - F.ar))) G2 Q E) E) E) := by
  obtain ⟨a, fd, ps, hok, hc, hm, hbind⟩ := oc.tb.ms C m F hF
  obtain ⟨ds, dvs, hb, hv, hd⟩ := hbind (e :: es).length h1 h2
  exact PE.imp (pe_methSD (E := WE W) ho hc hm hok oc.room hb hv (fun σ => passAt oc.tk σ) ha hst hpl ht) (ms_imp hd fun _ _ _ z => z)
theorem se_mcall0 (oc : Oc X W Γ k) {C m : Str} {F : FnE} {pl : Sem Bool} (hF : Γ.ms C m = some F) (h1 : F.ar ≤ 0 + 1 + F.dfl.length) (h2 : 0 + 1 ≤ F.ar) (ho : PE X o (LfE X.K W w1))
    (ht : eval (.Call (.Attribute o m apos) [] [] pos) X.env = (do
      let w ← eval o X.env
      standAt apos.atName
      let (g, one) ← holding [w] (getMethod w m pl)
      callWith pos g one (backTo pos (starEach [] X.env)) (backToKw pos (keywordEach [] X.env)))) :
    PE X (.Call (.Attribute o m apos) [] [] pos) (LfE X.K W fun ρ G Q E => w1 ρ G (fun x G1 => insW C m x G1 ∧ F.con (x :: ([] ++ F.dfl.drop (0 + 1 + F.dfl.length - F.ar))) G1 Q E) E) := by
  obtain ⟨a, fd, ps, hok, hc, hm, hbind⟩ := oc.tb.ms C m F hF
  obtain ⟨ds, dvs, hb, hv, hd⟩ := hbind 0 h1 h2
  exact PE.imp (pe_methSD0 (E := WE W) ho hc hm hok oc.room hb hv (fun σ => passAt oc.tk σ) ht)
    (ms_imp (wa := fun _ G Q _ => Q [] G) hd fun _ _ _ ⟨ρ, G, Qa, Ea, hE, hG, hw, hp, hx⟩ => hp [] G [] _ .refl hG .nil hw)
/-! ### C(..) -/
def tMakeS (C : Addr) (sp : Sp) (dvs : List V) (E : L2.St → XK) (t : TA) : TE := fun σ H Q => t σ H fun vs H1 => ∀ x dx, H1 x = none → H1 dx = none → dx ≠ x →
  sp (.ref x :: (vs ++ dvs)) (upd (upd H1 dx (.own x)) x (.ins C dx [])) (fun v H2 => v = .non ∧ Q (.ref x) H2) (E σ)
theorem run_makeSD {CX : CXT} {C f : Addr} {fd : FuncData} {ps : List Str} {sp : Sp} {dvs : List V} {ds : List Value} {E : L2.St → XK} {pins : List (Addr × Obj)} {σ : L2.St} {H : Hp} {s : Shared} {Q : VK} {us : List Value} {vs : List V} (M : Mk X.K C f) (F : FnOk X.prog X.w X.K X.mg X.base CX k f fd ps sp) (hr : Room (k + 1) X.A)
    (hb : Binds X.K fd ps ds) (hd : Vals dvs ds) (hx : PassesAt CX X σ (E σ)) (I : Inv X pins σ H s) (r : Vals vs us)
    (h : ∀ x dx, H x = none → H dx = none → dx ≠ x → sp (.ref x :: (vs ++ dvs)) (upd (upd H dx (.own x)) x (.ins C dx [])) (fun v H2 => v = .non ∧ Q (.ref x) H2) (E σ)) :
    wpAny (model X.prog X.w) X.A (call (.ref C) us) (EP X pins σ Q) X.xe s := by
  have q0 := h (s.heap.objs.size + 1) s.heap.objs.size (I.hok.fresh (Nat.le_succ _)) (I.hok.fresh (Nat.le_refl _)) (Nat.ne_of_lt (Nat.lt_succ_self _))
  have J := Inv.made (C := C) I
  have rr : Vals (V.ref (s.heap.objs.size + 1) :: (vs ++ dvs)) (Value.ref (s.heap.objs.size + 1) :: (us ++ ds)) := .cons rfl (r.append hd)
  have ll : (Value.ref (s.heap.objs.size + 1) :: us ++ ds).length = ps.length := by
    have z := rr.length
    rw [F.len _ _ _ _ q0] at z
    exact z.symm
  refine wpAny_call (make_map (f := f) I.kIn M.makes M.init (beq_iff_eq.mp M.fn) (codeAny_mono (F.run _ X.stack _ _ ⟨Value.ref (s.heap.objs.size + 1) :: us, []⟩ (Value.ref (s.heap.objs.size + 1) :: (us ++ ds)) _ _ (E σ) (hr.make C us []) (J.env0.make C us []) (hb _ (Value.ref (s.heap.objs.size + 1) :: us) J.kIn ll) rr q0) fun res s' hq => ?_))
  cases res with
  | error e => exact hx pins _ _ e s' J hq
  | ok fl =>
    cases fl with
    | ret u =>
      obtain ⟨v, H', J3, rv, ev, q3⟩ := J.after hq
      subst ev
      exact ⟨rv, ⟨V.ref (s.heap.objs.size + 1), H', J3, rfl, q3⟩⟩
    | next => exact False.elim hq
    | brk => exact False.elim hq
    | cont => exact False.elim hq
theorem FnOk.room {P : Program} {w : World} {K : PySem.W.Frag} {mg : Str → Option Value} {base : Heap} {CX : CXT} {f : Addr} {fd : FuncData} {ps : List Str} {sp : Sp} {j : Nat} (F : FnOk P w K mg base CX j f fd ps sp) {k : Nat} (h : j ≤ k) : FnOk P w K mg base CX k f fd ps sp := F.mono h
theorem mk_imp {F : FnE} {C : Str} {dvs : List V} {n : Nat} {t : TA} (hd : ∀ H, Reps X.K H dvs (F.dfl.drop n)) (ht : ∀ σ H Q, LfA X.K W wa σ H Q → t σ H Q) (σ : L2.St) (H : Hp) (Q : VK)
    (h : LfE X.K W (fun ρ G Q E => wa ρ G (fun ds G1 => ∀ p, G1 p = none → F.con (.ref p :: (ds ++ F.dfl.drop n)) (gu G1 p (.ins C [])) (fun d G2 => d = .non ∧ Q (.ref p) G2) E) E) σ H Q) : tMakeS (He.ga X.K C) (spOf X.K F) dvs (WE W) t σ H Q := by
  obtain ⟨ρ, G, Qa, Ea, hE, hG, hw, hp, hx⟩ := h
  refine ht _ _ _ ⟨ρ, G, _, Ea, hE, hG, hw, fun ds G1 vs H1 f g r q x dx hx1 hdx hne => ?_, hx⟩
  have g1 := g.newT (o := .own x) hdx
  have e1 : (upd H1 dx (.own x)) x = none := by rw [upd_ne (Ne.symm hne)]; exact hx1
  have n1 : G1 x = none := g.free hx1
  have f1 : Fra G1 H1 (gu G1 x (.ins C [])) (upd (upd H1 dx (.own x)) x (.ins (He.ga X.K C) dx [])) := (Fra.newT hdx).trans (.new e1)
  have g2 : RelG X.K (gu G1 x (.ins C [])) (upd (upd H1 dx (.own x)) x (.ins (He.ga X.K C) dx [])) := g1.new e1 (show AOk X.K _ x (.ins C []) from ⟨dx, [], upd_same, .nil⟩)
  refine ⟨_, _, _, Ea, .cons (.ref x) ((r.mono (f1.stab g)).append (hd _)), g2, q x n1, fun d' G' v' H' f3 g3 r3 q3 => ?_, hx.fra (f.trans f1)⟩
  obtain ⟨rfl, q3⟩ := q3
  exact ⟨rep_n r3, hp _ _ _ _ ((f.trans f1).trans f3) g3 (.ref x) q3⟩
theorem se_new (oc : Oc X W Γ k) {C : Str} {F : FnE} {e : Expr} (hF : Γ.mke C = some F) (hg : Gl X C) (hdb : (C == ("__debug__" : Str)) = false) (h1 : F.ar ≤ (e :: es).length + 1 + F.dfl.length) (h2 : (e :: es).length + 1 ≤ F.ar) (ha : PA X (e :: es) (LfA X.K W wa))
    (hst : starEach (e :: es) X.env = (false, eval e X.env) :: starEach es X.env) (hpl : (backTo pos (starEach es X.env)).any (·.1) = false) :
    PE X (.Call (.Name C p) (e :: es) [] pos) (LfE X.K W fun ρ G Q E => wa ρ G (fun ds G1 => ∀ p, G1 p = none → F.con (.ref p :: (ds ++ F.dfl.drop ((e :: es).length + 1 + F.dfl.length - F.ar))) (gu G1 p (.ins C [])) (fun d G2 => d = .non ∧ Q (.ref p) G2) E) E) := by
  obtain ⟨a, fd, ps, j, hj, hok, hM, hm, hbind⟩ := oc.tb.mke C F hF
  obtain ⟨ds, dvs, hb, hv, hd⟩ := hbind (e :: es).length h1 h2
  refine PE.imp (t := tMakeS (He.ga X.K C) (spOf X.K F) dvs (WE W) (LfA X.K W wa)) ⟨fun pins s σ H Q I h => ?_⟩ (mk_imp hd fun _ _ _ z => z)
  refine wpAny_Call_Name_kw (ld_glob I hg hm ?_ hdb)
  refine PySem.W.callWith_K (h₀ := X.base) I.ok.mod.kin hM.kp (thn (ha.run pos pins s σ H _ I h) fun us s1 ⟨vs, H1, I1, r, q⟩ => ⟨I1.kIn, ?_⟩) hst hpl
  exact run_makeSD hM hok (oc.room.mono hj) hb hv (passAt oc.tk σ) I1 r q
theorem se_new0 (oc : Oc X W Γ k) {C : Str} {F : FnE} (hF : Γ.mke C = some F) (hg : Gl X C) (hdb : (C == ("__debug__" : Str)) = false) (h1 : F.ar ≤ 0 + 1 + F.dfl.length) (h2 : 0 + 1 ≤ F.ar) :
    PE X (.Call (.Name C p) [] [] pos) (LfE X.K W fun ρ G Q E => ∀ p, G p = none → F.con (.ref p :: ([] ++ F.dfl.drop (0 + 1 + F.dfl.length - F.ar))) (gu G p (.ins C [])) (fun d G2 => d = .non ∧ Q (.ref p) G2) E) := by
  obtain ⟨a, fd, ps, j, hj, hok, hM, hm, hbind⟩ := oc.tb.mke C F hF
  obtain ⟨ds, dvs, hb, hv, hd⟩ := hbind 0 h1 h2
  refine PE.imp (t := tMakeS (He.ga X.K C) (spOf X.K F) dvs (WE W) tNil) ⟨fun pins s σ H Q I h => ?_⟩ (mk_imp (wa := fun _ G Q _ => Q [] G) hd fun _ _ _ ⟨ρ, G, Qa, Ea, hE, hG, hw, hp, hx⟩ => hp [] G [] _ .refl hG .nil hw)
  refine wpAny_Call_Name_kw (ld_glob I hg hm ?_ hdb)
  exact PySem.W.callWith_K0 I.kIn hM.kp (run_makeSD (us := []) hM hok (oc.room.mono hj) hb hv (passAt oc.tk σ) I .nil h)
end
end Av


set_option Elab.async false
set_option linter.all false
set_option maxRecDepth 100000
set_option maxHeartbeats 4000000
/-! # AvD: dicts -/
namespace Av
open PySem PySem.Spec PyProof.Rows L2
variable [Tb]

theorem keyD_rep {K : PySem.W.Frag} {H : Hp} {v : V} {d : Dat} {x : Key} (r : Rep K H v d) (e : keyD d = some x) : v = kV x := by
  cases d with
  | int i => cases rep_i r; cases e; rfl
  | str i => cases rep_s r; cases e; rfl
  | _ => cases e
theorem kd_look {K : PySem.W.Frag} {H : Hp} {x : Key} : ∀ {vk : List (Key × V)} {kvs : List (Key × Dat)}, KRel K H vk kvs → (∀ d, lookD kvs x = some d → ∃ v, valV vk x = some v ∧ Rep K H v d) ∧ (lookD kvs x = none → valV vk x = none)
  | _, _, .nil => ⟨(fun d e => by cases e), fun _ => rfl⟩
  | (k, v) :: vk, (k', d') :: kvs, .cons h r => by
    obtain ⟨rfl, h⟩ := h
    obtain ⟨i1, i2⟩ := kd_look (x := x) r
    by_cases q : k = x
    · have e1 : lookD ((k, d') :: kvs) x = some d' := by simp [lookD, List.find?_cons, q]
      have e2 : valV ((k, v) :: vk) x = some v := valV_pos q
      rw [e1, e2]
      exact ⟨(fun d e => by cases e; exact ⟨v, rfl, h⟩), fun e => by cases e⟩
    · have e1 : lookD ((k, d') :: kvs) x = lookD kvs x := by simp [lookD, List.find?_cons, q]
      have e2 : valV ((k, v) :: vk) x = valV vk x := valV_neg q
      rw [e1, e2]
      exact ⟨i1, i2⟩
theorem kd_any {K : PySem.W.Frag} {H : Hp} {x : Key} : ∀ {vk : List (Key × V)} {kvs : List (Key × Dat)}, KRel K H vk kvs → (vk.any fun q => decide (q.1 = x)) = (kvs.any fun q => decide (q.1 = x))
  | _, _, .nil => rfl
  | (k, v) :: vk, (k', d') :: kvs, .cons h r => by
    obtain ⟨rfl, h⟩ := h
    rw [List.any_cons, List.any_cons, kd_any r]
theorem kd_map {K : PySem.W.Frag} {H : Hp} {x : Key} {v : V} {d : Dat} (h : Rep K H v d) : ∀ {vk : List (Key × V)} {kvs : List (Key × Dat)}, KRel K H vk kvs → KRel K H (vk.map fun q => if q.1 = x then (q.1, v) else q) (kvs.map fun q => if q.1 = x then (q.1, d) else q)
  | _, _, .nil => .nil
  | (k, u) :: vk, (k', e) :: kvs, .cons h1 r => by
    obtain ⟨rfl, h2⟩ := h1
    rw [List.map_cons, List.map_cons]
    refine .cons ?_ (kd_map h r)
    by_cases q : k = x
    · simp only [q, if_true]; exact ⟨trivial, h⟩
    · simp only [q, if_false]; exact ⟨trivial, h2⟩
theorem kd_app {K : PySem.W.Frag} {H : Hp} {x : Key} {v : V} {d : Dat} (h : Rep K H v d) : ∀ {vk : List (Key × V)} {kvs : List (Key × Dat)}, KRel K H vk kvs → KRel K H (vk ++ [(x, v)]) (kvs ++ [(x, d)])
  | _, _, .nil => .cons ⟨rfl, h⟩ .nil
  | _ :: _, _ :: _, .cons h1 r => .cons h1 (kd_app h r)
theorem kd_put {K : PySem.W.Frag} {H : Hp} {x : Key} {v : V} {d : Dat} (h : Rep K H v d) {vk : List (Key × V)} {kvs : List (Key × Dat)} (r : KRel K H vk kvs) : KRel K H (putK vk x v) (putKD kvs x d) := by
  unfold putK putKD
  rw [kd_any r]
  split
  · exact kd_map h r
  · exact kd_app h r
theorem kd_merge {K : PySem.W.Frag} {H : Hp} : ∀ {vm : List (Key × V)} {more : List (Key × Dat)} {vk : List (Key × V)} {kvs : List (Key × Dat)}, KRel K H vm more → KRel K H vk kvs → KRel K H (mergeK vk vm) (mergeD kvs more)
  | _, _, _, _, .nil, r => r
  | (k, v) :: vm, (k', d) :: more, vk, kvs, .cons h1 r1, r => by
    obtain ⟨rfl, h⟩ := h1
    show KRel K H (mergeK (putK vk k v) vm) (mergeD (putKD kvs k d) more)
    exact kd_merge r1 (kd_put h r)
theorem kd_len {K : PySem.W.Frag} {H : Hp} : ∀ {vk : List (Key × V)} {kvs : List (Key × Dat)}, KRel K H vk kvs → vk.length = kvs.length
  | _, _, .nil => rfl
  | _, _, .cons _ r => congrArg (· + 1) (kd_len r)
theorem RelG.dk {K : PySem.W.Frag} {G : AG} {H : Hp} {p : Addr} {kvs : List (Key × Dat)} (g : RelG K G H) (e : G p = some (.dk kvs)) : ∃ vk, H p = some (.dK vk) ∧ KRel K H vk kvs := g.g p _ e
theorem dixW_inv {x y : Dat} {G : AG} {Q : AQ} (h : dixW x y G Q) : ∃ p kvs k v, x = .ref p ∧ G p = some (.dk kvs) ∧ keyD y = some k ∧ lookD kvs k = some v ∧ Q v G := by
  cases x with
  | ref p => obtain ⟨kvs, k, v, h⟩ := h; exact ⟨p, kvs, k, v, rfl, h⟩
  | _ => exact False.elim h
theorem dgetW_inv {x z y : Dat} {G : AG} {Q : AQ} (h : dgetW x z y G Q) : ∃ p kvs k, x = .ref p ∧ G p = some (.dk kvs) ∧ keyD y = some k ∧ Q ((lookD kvs k).getD z) G := by
  cases x with
  | ref p => obtain ⟨kvs, k, h⟩ := h; exact ⟨p, kvs, k, rfl, h⟩
  | _ => exact False.elim h
theorem isDk_inv {x : Dat} {G : AG} (h : isDk G x) : ∃ p kvs, x = .ref p ∧ G p = some (.dk kvs) := by
  cases x with
  | ref p => obtain ⟨kvs, h⟩ := h; exact ⟨p, kvs, rfl, h⟩
  | _ => exact False.elim h
theorem dsetW_inv {x k v : Dat} {G : AG} {Q : AG → Prop} (h : dsetW x k v G Q) : ∃ p kvs y, x = .ref p ∧ G p = some (.dk kvs) ∧ keyD k = some y ∧ kvs.length < sizeLine ∧ Q (gu G p (.dk (putKD kvs y v))) := by
  cases x with
  | ref p => obtain ⟨kvs, y, h⟩ := h; exact ⟨p, kvs, y, rfl, h⟩
  | _ => exact False.elim h
section
variable {X : Cx} {W : WX} {Γ : Gam} {k : Nat} {a b c o e f : Expr} {pos p apos : Pos} {w1 w2 w3 : Env' → AG → AQ → AX → Prop}
theorem Oc.u1 (oc : Oc X W Γ k) : X.A.units + 1 < cLine := Nat.lt_of_le_of_lt (Nat.add_le_add_left (by decide) _) oc.room.units
theorem se_dix (oc : Oc X W Γ k) (hs : NoSl b) (h1 : PE X a (LfE X.K W w1)) (h2 : PE X b (LfE X.K W w2)) : PE X (.Subscript a b pos) (LfE X.K W fun ρ G Q E => w1 ρ G (fun x G1 => w2 ρ G1 (fun y G2 => dixW x y G2 Q) E) E) := by
  refine PE.imp (pe_dget oc.u1 h1 h2 hs) ?_
  rintro σ H Q ⟨ρ, G, Qa, Ea, hE, hG, hw, hp, hx⟩
  refine ⟨ρ, G, _, Ea, hE, hG, hw, fun d G1 v H1 f g r1 q => ⟨ρ, G1, _, Ea, hE.mono (f.stab hG), g, q, fun e G2 u H2 f2 g2 r2 q2 => ?_, hx.fra f⟩, hx⟩
  obtain ⟨p, kvs, kk, dv, rfl, k1, k2, k3, k4⟩ := dixW_inv q2
  cases rep_r r1
  cases keyD_rep r2 k2
  obtain ⟨vk, k5, k6⟩ := g2.dk k1
  obtain ⟨v', k7, k8⟩ := (kd_look k6).1 dv k3
  exact ⟨p, v', rfl, .inl ⟨vk, kk, .inl k5, rfl, k7.symm⟩, hp _ _ _ _ (f.trans f2) g2 k8 k4⟩
theorem isD_of {K : PySem.W.Frag} {G : AG} {H : Hp} {p : Addr} {kvs : List (Key × Dat)} (g : RelG K G H) (e : G p = some (.dk kvs)) : IsD H p := by
  obtain ⟨vk, h, _⟩ := g.dk e
  exact .inl ⟨vk, .inl h⟩
theorem dget_ok {K : PySem.W.Frag} {G : AG} {H : Hp} {p : Addr} {y : V} {dy z : Dat} {vz : V} {kvs : List (Key × Dat)} {kk : Key} (g : RelG K G H) (k1 : G p = some (.dk kvs)) (ry : Rep K H y dy) (k2 : keyD dy = some kk) (rz : Rep K H vz z) :
    ∃ ov, DGet H p y ov ∧ Rep K H (ov.getD vz) ((lookD kvs kk).getD z) := by
  cases keyD_rep ry k2
  obtain ⟨vk, k5, k6⟩ := g.dk k1
  refine ⟨valV vk kk, .inl ⟨vk, kk, .inl k5, rfl, rfl⟩, ?_⟩
  cases e : lookD kvs kk with
  | none => rw [(kd_look k6).2 e]; exact rz
  | some d =>
    obtain ⟨v', k7, k8⟩ := (kd_look k6).1 d e
    rw [k7]
    exact k8
theorem se_dget1 (oc : Oc X W Γ k) (h1 : PE X o (LfE X.K W w1)) (h2 : PE X e (LfE X.K W w2)) (m : M1 X o "get" apos e pos) : PE X (.Call (.Attribute o "get" apos) [e] [] pos) (LfE X.K W fun ρ G Q E => w1 ρ G (fun x G1 => isDk G1 x ∧ w2 ρ G1 (fun y G2 => dgetW x .non y G2 Q) E) E) := by
  refine PE.imp (pe_dget1 oc.u1 h1 h2 m) ?_
  rintro σ H Q ⟨ρ, G, Qa, Ea, hE, hG, hw, hp, hx⟩
  refine ⟨ρ, G, _, Ea, hE, hG, hw, fun d G1 v H1 f g r1 q => ?_, hx⟩
  obtain ⟨p, kv0, rfl, k0⟩ := isDk_inv q.1
  cases rep_r r1
  refine ⟨p, rfl, isD_of g k0, ρ, G1, _, Ea, hE.mono (f.stab hG), g, q.2, fun e G2 u H2 f2 g2 r2 q2 => ?_, hx.fra f⟩
  obtain ⟨p', kvs, kk, e1, k1, k2, k4⟩ := dgetW_inv q2
  cases e1
  obtain ⟨ov, h3, h4⟩ := dget_ok g2 k1 r2 k2 (.non : Rep X.K H2 .non .non)
  exact ⟨ov, h3, hp _ _ _ _ (f.trans f2) g2 h4 k4⟩
theorem se_dget2 (oc : Oc X W Γ k) (h1 : PE X o (LfE X.K W w1)) (h2 : PE X e (LfE X.K W w2)) (h3 : PE X f (LfE X.K W w3)) (m : M2 X o "get" apos e f pos) :
    PE X (.Call (.Attribute o "get" apos) [e, f] [] pos) (LfE X.K W fun ρ G Q E => w1 ρ G (fun x G1 => isDk G1 x ∧ w2 ρ G1 (fun y G2 => w3 ρ G2 (fun z G3 => dgetW x z y G3 Q) E) E) E) := by
  refine PE.imp (pe_dget2 oc.u1 h1 h2 h3 m) ?_
  rintro σ H Q ⟨ρ, G, Qa, Ea, hE, hG, hw, hp, hx⟩
  refine ⟨ρ, G, _, Ea, hE, hG, hw, fun d G1 v H1 f g r1 q => ?_, hx⟩
  obtain ⟨p, kv0, rfl, k0⟩ := isDk_inv q.1
  cases rep_r r1
  refine ⟨p, rfl, isD_of g k0, ρ, G1, _, Ea, hE.mono (f.stab hG), g, q.2, fun e G2 u H2 f2 g2 r2 q2 => ⟨ρ, G2, _, Ea, hE.mono ((f.trans f2).stab hG), g2, q2, fun e3 G3 t H3 f3 g3 r3 q3 => ?_, hx.fra (f.trans f2)⟩, hx.fra f⟩
  obtain ⟨p', kvs, kk, e1, k1, k2, k4⟩ := dgetW_inv q3
  cases e1
  obtain ⟨ov, h3, h4⟩ := dget_ok g3 k1 (r2.mono (f3.stab g2)) k2 r3
  exact ⟨ov, h3, hp _ _ _ _ ((f.trans f2).trans f3) g3 h4 k4⟩
/-! ### displays -/
/-- keys and values, one behind another -/
inductive Alt : List (Option Expr) → List Expr → List Expr → Prop
  | nil : Alt [] [] []
  | cons {k v : Expr} {ks : List (Option Expr)} {vs xs : List Expr} : Alt ks vs xs → Alt (some k :: ks) (v :: vs) (k :: v :: xs)
def DspOk (X : Cx) (pos : Pos) (ks : List (Option Expr)) (vs : List Expr) (t : L2.St → Hp → (List (V × V) → Hp → Prop) → Prop) : Prop :=
  ∀ (pins : List (Addr × Obj)) (s : Shared) (σ : L2.St) (H : Hp) (Q : List (V × V) → Hp → Prop), Inv X pins σ H s → t σ H Q →
    wpAny (model X.prog X.w) X.A (evalPairs (pairTrees ks vs X.env pos)) (fun us s' => ∃ ps H', Inv X pins σ H' s' ∧ VV ps us ∧ Q ps H') X.xe s
def pairUp : List V → List (V × V)
  | k :: v :: r => (k, v) :: pairUp r
  | _ => []
theorem dsp_nil : DspOk X pos [] [] fun _ H Q => Q [] H := fun pins s σ H Q I h => pairTrees_nil_walk ⟨[], H, I, .nil, h⟩
theorem dsp_cons {ks : List (Option Expr)} {vs : List Expr} {tk tv : TE} {t : L2.St → Hp → (List (V × V) → Hp → Prop) → Prop} (hk : PE X a tk) (hv : PE X b tv) (hr : DspOk X pos ks vs t) :
    DspOk X pos (some a :: ks) (b :: vs) fun σ H Q => tk σ H fun x H1 => tv σ H1 fun y H2 => t σ H2 fun ps H3 => Q ((x, y) :: ps) H3 := fun pins s σ H Q I h =>
  pairTrees_cons_walk (thn (hk.run pins s σ H _ I h) fun u s1 ⟨x, H1, I1, rx, q1⟩ => thn (hv.run pins s1 σ H1 _ I1 q1) fun w2 s2 ⟨y, H2, I2, ry, q2⟩ =>
    thn (hr pins s2 σ H2 _ I2 q2) fun ws s3 ⟨ps, H3, I3, rel, q3⟩ => ⟨(x, y) :: ps, H3, I3, .cons ⟨rx, ry⟩ rel, q3⟩)
theorem pe_dsp {keys : List (Option Expr)} {values : List Expr} {t : L2.St → Hp → (List (V × V) → Hp → Prop) → Prop} (h : DspOk X pos keys values t) (hall : keys.all (·.isSome) = true) (hl : keys.length = values.length) (h0 : keys ≠ []) (h15 : keys.length ≤ 15) :
    PE X (.Dict keys values pos) (fun σ H Q => ∀ p, H p = none → t σ (upd H p (.dK [])) fun ps H2 => H2 p = some (.dK []) ∧ ∃ kvs : List (Key × V), ps = kvs.map (fun kv => (kV kv.1, kv.2)) ∧ kvs.length ≤ 15 ∧ Q (.ref p) (upd H2 p (.dK (mergeK [] kvs)))) := by
  refine ⟨fun pins s σ H Q I q => ?_⟩
  have fr := I.hok.fresh (Nat.le_refl s.heap.objs.size)
  have J := I.laid (a := s.heap.objs.size) (o := .dK []) (h' := s.heap.push { cls := .type "dict", data := .dict #[] }) (t' := s.toks) (fun _ _ z => Heap.get?_push_of_some _ z) (Nat.le_refl _) (dk_empty s.heap I.big)
  refine wpAny_Dict_walk (knd := mixKind X.prog X.w) hall hl h0 h15 (thn (h pins _ σ _ _ J (q _ fr)) fun ws s2 ⟨ps, H2, I2, rel, e, kvs, ep, lk, q2⟩ => ?_)
  subst ep
  obtain ⟨rs, cc, rk⟩ := carries_of (P := X.prog) (w := X.w) rel
  obtain ⟨zz, hd, vs0, r0, dd⟩ := dk_of I2.hok e
  cases r0
  refine ⟨rs, cc, dd, fun h' dd' hs => ⟨.ref s.heap.objs.size, _, ?_, rfl, q2⟩⟩
  have hz : (mergeK [] kvs).length ≤ sizeLine := by
    have h1 := length_mergeK kvs []
    rw [List.length_nil] at h1
    rw [sizeLine_eq]; omega
  have he : ∃ q, h'.get? s.heap.objs.size = some q := let ⟨q, _, _, hq, _⟩ := dd'; ⟨q, hq⟩
  exact d_write I2 (by rw [e]; exact True.intro) hs he (dk_new hz hd (rk.merge .nil) dd')
theorem pairsOf_rep {K : PySem.W.Frag} {H : Hp} : ∀ {ds : List Dat} {kvs : List (Key × Dat)} {vs : List V}, pairsOf ds = some kvs → Reps K H vs ds → ∃ vk : List (Key × V), pairUp vs = vk.map (fun kv => (kV kv.1, kv.2)) ∧ KRel K H vk kvs
  | [], _, _, e, .nil => by cases e; exact ⟨[], rfl, .nil⟩
  | [_], _, _, e, _ => by cases e
  | k :: d :: r, kvs, _, e, .cons h1 (.cons h2 h3) => by
    unfold pairsOf at e
    split at e
    · rename_i x kv2 e1 e2
      cases e
      obtain ⟨vk, k1, k2⟩ := pairsOf_rep e2 h3
      cases keyD_rep h1 e1
      exact ⟨(x, _) :: vk, by show _ :: pairUp _ = _; rw [k1]; rfl, .cons ⟨rfl, h2⟩ k2⟩
    · cases e
theorem Soft.dK {xs : List (Key × V)} : Soft (.dK xs) := ⟨fun _ z => (by cases z), fun _ _ z => (by cases z), fun _ z => (by cases z), fun _ z => by cases z⟩
theorem RelG.updD {K : PySem.W.Frag} {G : AG} {H : Hp} {D : Addr} {xs ys : List (Key × V)} (g : RelG K G H) (n : G D = none) (h : H D = some (.dK xs)) : RelG K G (upd H D (.dK ys)) := ⟨fun a w q => by
  have d : a ≠ D := fun z => by rw [z, n] at q; cases q
  exact (g.g a w q).mono (.mut h Soft.dK) (upd_ne d), tabs_soft g.t h Soft.dK⟩
/-- the pairs of a display as one list of arguments -/
def LfD (K : PySem.W.Frag) (W : WX) (w : Env' → AG → (List Dat → AG → Prop) → AX → Prop) : L2.St → Hp → (List (V × V) → Hp → Prop) → Prop := fun σ H Q =>
  ∃ ρ G Qa Ea, RelE K H ρ σ ∧ RelG K G H ∧ w ρ G Qa Ea ∧ (∀ ds G' vs H', Fra G H G' H' → RelG K G' H' → Reps K H' vs ds → Qa ds G' → Q (pairUp vs) H') ∧ PostX K G H Ea fun c dx H' => W c dx σ H'
theorem sd_nil : DspOk X pos [] [] (LfD X.K W fun _ G Q _ => Q [] G) := fun pins s σ H Q I ⟨ρ, G, Qa, Ea, hE, hG, hw, hp, hx⟩ => dsp_nil pins s σ H Q I (hp [] G [] H .refl hG .nil hw)
theorem sd_cons {ks : List (Option Expr)} {vs : List Expr} {wa : Env' → AG → (List Dat → AG → Prop) → AX → Prop} (h1 : PE X a (LfE X.K W w1)) (h2 : PE X b (LfE X.K W w2)) (h3 : DspOk X pos ks vs (LfD X.K W wa)) :
    DspOk X pos (some a :: ks) (b :: vs) (LfD X.K W fun ρ G Q E => w1 ρ G (fun x G1 => w2 ρ G1 (fun y G2 => wa ρ G2 (fun ds G3 => Q (x :: y :: ds) G3) E) E) E) := fun pins s σ H Q I ⟨ρ, G, Qa, Ea, hE, hG, hw, hp, hx⟩ =>
  dsp_cons h1 h2 h3 pins s σ H Q I ⟨ρ, G, _, Ea, hE, hG, hw, fun d G1 v H1 f g r q => ⟨ρ, G1, _, Ea, hE.mono (f.stab hG), g, q, fun d2 G2 u H2 f2 g2 r2 q2 => ⟨ρ, G2, _, Ea, hE.mono ((f.trans f2).stab hG), g2, q2,
    fun ds G3 ws H3 f3 g3 r3 q3 => hp _ _ _ _ ((f.trans f2).trans f3) g3 (.cons (r.mono ((f2.trans f3).stab g)) (.cons (r2.mono (f3.stab g2)) r3)) q3, hx.fra (f.trans f2)⟩, hx.fra f⟩, hx⟩
theorem se_dlit {keys : List (Option Expr)} {values : List Expr} {wa : Env' → AG → (List Dat → AG → Prop) → AX → Prop} (h : DspOk X pos keys values (LfD X.K W wa)) (hall : keys.all (·.isSome) = true) (hl : keys.length = values.length) (h0 : keys ≠ []) (h15 : keys.length ≤ 15) :
    PE X (.Dict keys values pos) (LfE X.K W fun ρ G Q E => wa ρ G (fun ds G1 => dlitW ds G1 Q) E) := by
  refine PE.imp (pe_dsp h hall hl h0 h15) ?_
  rintro σ H Q ⟨ρ, G, Qa, Ea, hE, hG, hw, hp, hx⟩ p hp0
  have f0 : Fra G H G (upd H p (.dK [])) := .newT hp0
  refine ⟨ρ, G, _, Ea, hE.mono (.new hp0), hG.newT hp0, hw, fun ds G1 vs H1 f g r q => ?_, hx.fra f0⟩
  have n0 : G p = none := hG.free hp0
  obtain ⟨e1, n1⟩ := f p _ upd_same (fun _ z => by cases z) n0
  obtain ⟨kvs, k1, k2, k3⟩ := q
  obtain ⟨vk, k4, k5⟩ := pairsOf_rep k1 r
  refine ⟨e1, vk, k4, by rw [kd_len k5]; exact k2, hp (.ref p) (gu G1 p (.dk (mergeD [] kvs))) (.ref p) _ (fun a o q t n => ?_) ⟨fun a o q => ?_, tabs_soft g.t e1 Soft.dK⟩ (.ref p) (k3 p n1)⟩
  · have d : a ≠ p := fun z => by rw [z, hp0] at q; cases q
    obtain ⟨h6, n6⟩ := (f0.trans f) a o q t n
    exact ⟨by rw [upd_ne d]; exact h6, by rw [gu_ne d]; exact n6⟩
  · by_cases ha : a = p
    · subst ha
      rw [gu_same] at q
      cases q
      exact ⟨_, upd_same, KRel.mono (.mut e1 Soft.dK) (kd_merge k5 .nil)⟩
    · rw [gu_ne ha] at q
      exact (g.g a o q).mono (.mut e1 Soft.dK) (upd_ne ha)
theorem se_dlit0 : PE X (.Dict [] [] pos) (LfE X.K W fun _ G Q _ => dlitW [] G Q) := by
  refine PE.imp pe_dnewK ?_
  rintro σ H Q ⟨ρ, G, Qa, Ea, hE, hG, ⟨kvs, k1, _, k3⟩, hp, hx⟩ p hp0
  cases k1
  exact hp (.ref p) (gu G p (.dk [])) (.ref p) _ (.new hp0) (hG.new hp0 (show AOk X.K _ p (.dk []) from ⟨[], upd_same, .nil⟩)) (.ref p) (k3 p (hG.free hp0))
end
end Av


set_option Elab.async false
set_option linter.all false
set_option maxRecDepth 100000
set_option maxHeartbeats 4000000
/-! # AvX: raise -/
namespace Av
open PySem PySem.Spec PyProof.Rows L2
variable [Tb]
theorem kr_zip {K : PySem.W.Frag} {H : Hp} : ∀ {fl : List Str} {vs : List V} {ds : List Dat}, Reps K H vs ds → KRel K H (fl.zip vs) (fl.zip ds)
  | [], _, _, _ => .nil
  | _ :: _, _, _, .nil => .nil
  | f :: fl, _, _, .cons a r => .cons ⟨rfl, a⟩ (kr_zip r)
theorem kr_app {K : PySem.W.Frag} {H : Hp} {x : Str} {v : V} {d : Dat} (h : Rep K H v d) : ∀ {vk : List (Str × V)} {kvs : List (Str × Dat)}, KRel K H vk kvs → KRel K H (vk ++ [(x, v)]) (kvs ++ [(x, d)])
  | _, _, .nil => .cons ⟨rfl, h⟩ .nil
  | _ :: _, _ :: _, .cons h1 r => .cons h1 (kr_app h r)
theorem kr_rev {K : PySem.W.Frag} {H : Hp} : ∀ {vk : List (Str × V)} {kvs : List (Str × Dat)}, KRel K H vk kvs → KRel K H vk.reverse kvs.reverse
  | _, _, .nil => .nil
  | (k, v) :: vk, (k', d) :: kvs, .cons h r => by
    obtain ⟨rfl, h⟩ := h
    rw [List.reverse_cons, List.reverse_cons]
    exact kr_app h (kr_rev r)
section
variable {X : Cx} {W : WX} {Γ : Gam} {k : Nat} {e : Expr} {es : List Expr} {pos p : Pos} {wa : Env' → AG → (List Dat → AG → Prop) → AX → Prop}
/-- C(..), to be raised -/
theorem mk_raise (oc : Oc X W Γ k) {C : Str} {fl : List Str} (hF : Γ.xc C = some fl) (h0 : fl ≠ []) (hg : Gl X C) (hdb : (C == ("__debug__" : Str)) = false) (ha : PA X (e :: es) (LfA X.K W wa))
    (hst : starEach (e :: es) X.env = (false, eval e X.env) :: starEach es X.env) (hpl : (backTo pos (starEach es X.env)).any (·.1) = false) :
    PMk X (.Call (.Name C p) (e :: es) [] pos) (fun σ H Q => ∃ ρ G Ex, RelE X.K H ρ σ ∧ RelG X.K G H ∧ wa ρ G (fun ds G1 => ds.length = fl.length ∧ Ex C (fl.zip ds).reverse G1) Ex ∧ (PostX X.K G H Ex Q) ∧ PostX X.K G H Ex fun c dx H' => W c dx σ H') := by
  obtain ⟨hm, hc⟩ := oc.tb.xc C fl hF
  rcases hc with ⟨h, _⟩ | ⟨_, h9, hO, a, fd, ps, j, hj, hi, ht, hok, hb⟩
  · exact absurd h h0
  have base := pmk_oex (X := X) (x := C) (p := p) (pos := pos) (dvs := []) (ds := []) hO hi ht hok (oc.room.mono hj) hb .nil (passes_call (X := X) (W := fun _ _ _ _ => False) (fun _ _ ⟨_, _, _, _, _, _, _, _, _, _, _, _, _, _, _, _, w⟩ => False.elim w) fun _ _ _ _ z => z) hg hm ha hdb hst hpl
  intro pins s σ H Q I ⟨ρ, G, Ex, hE, hG, hw, hq, hx⟩
  refine base pins s σ H Q I ⟨ρ, G, _, Ex, hE, hG, hw, fun ds G1 vs H1 f g r q => ?_, hx⟩
  have lv : vs.length = fl.length := by rw [r.length]; exact q.1
  refine ⟨by omega, fun a hn => ⟨a, vs, by simp, lv, upd_same, fun d hd hda => ⟨rfl, d, (fl.zip vs).reverse, upd_same, by rw [upd_ne hda]; exact upd_same, ?_, ?_⟩⟩⟩
  · rw [upd_ne hda] at hd; exact hd
  · have hd1 : H1 d = none := by rw [upd_ne hda] at hd; exact hd
    have e1 : upd (del (upd (upd (upd H1 a (exo a (He.ga X.K C) none)) d (exd d (fl.zip vs).reverse)) a (exo a (He.ga X.K C) (some d))) a) d (.xd (fl.zip vs).reverse) = upd H1 d (.xd (fl.zip vs).reverse) := by
      funext b
      unfold upd del
      by_cases h1 : b = d
      · simp [h1]
      · by_cases h2 : b = a
        · subst h2; simp [h1, hn]
        · simp [h1, h2]
    rw [e1]
    exact hq C _ G1 (some d) _ (f.trans (.newT hd1)) (g.newT hd1) ⟨_, upd_same, kr_rev (kr_zip (r.mono (.new hd1)))⟩ q.2
theorem mk_raise0 (oc : Oc X W Γ k) {C : Str} (hF : Γ.xc C = some []) (hg : Gl X C) (hdb : (C == ("__debug__" : Str)) = false) :
    PMk X (.Call (.Name C p) [] [] pos) (fun _ H Q => ∃ G Ex, RelG X.K G H ∧ Ex C [] G ∧ PostX X.K G H Ex Q) := by
  obtain ⟨hm, hc⟩ := oc.tb.xc C [] hF
  rcases hc with ⟨_, h1, h2, h3, h4⟩ | ⟨h, _⟩
  · intro pins s σ H Q I ⟨G, Ex, hG, hw, hq⟩
    exact pmk_bare F.excBase_ValueError h1 hm h2 (raises_own h3 h4) hg hdb pins s σ H Q I (hq C [] G none H .refl hG rfl hw)
  · exact absurd rfl h
end
end Av


set_option Elab.async false
set_option linter.all false
set_option maxRecDepth 100000
set_option maxHeartbeats 4000000
/-! # Av6: what is walked, targets, comprehensions -/
namespace Av
open PySem PySem.Spec PyProof.Rows L2
variable [Tb]

/-- what walks the items ds -/
structure ItOk (K : PySem.W.Frag) (H0 : Hp) (J : It) (ds : List Dat) (gd : Gd) : Prop where
  go : ∀ i H G, Stab H0 H → RelG K G H → gdOk G gd → i < ds.length → J.go i H
  stop : ∀ i H G, Stab H0 H → RelG K G H → gdOk G gd → ds.length ≤ i → J.stop i H
  yld : ∀ i H G x H', Stab H0 H → RelG K G H → gdOk G gd → i < ds.length → J.yld i H x H' → ∃ d, ds[i]? = some d ∧ Fra G H G H' ∧ RelG K G H' ∧ Rep K H' x d
def Src (K : PySem.W.Frag) (T : Hp → Addr → List V → Prop) (H0 : Hp) (a : Addr) (ds : List Dat) (gd : Gd) : Prop := ∀ H G, Stab H0 H → RelG K G H → gdOk G gd → ∃ xs, T H a xs ∧ Reps K H xs ds
section
variable {K : PySem.W.Frag} {H H0 : Hp} {G : AG} {a b : Addr} {ds es : List Dat} {gd ge : Gd} {T : Hp → Addr → List V → Prop}
theorem gdOk_app : ∀ {gd ge : Gd}, gdOk G (gd ++ ge) ↔ gdOk G gd ∧ gdOk G ge
  | [], ge => ⟨fun h => ⟨trivial, h⟩, fun h => h.2⟩
  | (a, d) :: r, ge => by
    show (G a = some (.lst d) ∧ gdOk G (r ++ ge)) ↔ (G a = some (.lst d) ∧ gdOk G r) ∧ gdOk G ge
    rw [gdOk_app, and_assoc]
theorem Src.mono (h : Src K T H0 a ds gd) (s : Stab H0 H) : Src K T H a ds gd := fun H' G' s' => h H' G' (s.trans s')
theorem lstG_src {v : V} {x : Dat} {Q : List Dat → Gd → AG → Prop} (r : Rep K H v x) (h : lstG x G Q) : ∃ a ds gd, v = .ref a ∧ Q ds gd G ∧ gdOk G gd ∧ Src K (SqL K) H a ds gd := by
  cases x with
  | lst ds =>
    cases r with
    | lst h1 q => exact ⟨_, ds, [], rfl, h, trivial, fun H' G' s _ _ => ⟨_, (h1.mono s).sq, q.mono s⟩⟩
  | ref a =>
    cases rep_r r
    obtain ⟨ds, e, q⟩ := h
    refine ⟨a, ds, [(a, ds)], rfl, q, ⟨e, trivial⟩, fun H' G' s rg gk => ?_⟩
    obtain ⟨vs, h1, h2⟩ := rg.lst gk.1
    exact ⟨vs, .inl (.inl h1), h2⟩
  | _ => exact False.elim h
theorem seqG_src {v : V} {x : Dat} {Q : List Dat → Gd → AG → Prop} (r : Rep K H v x) (h : seqG x G Q) : ∃ a ds gd, v = .ref a ∧ Q ds gd G ∧ gdOk G gd ∧ (Src K (SqL K) H a ds gd ∨ Src K (SqT K) H a ds gd) := by
  cases x with
  | tup ds =>
    obtain ⟨a, vs, rfl, h1, q⟩ := rep_t r
    exact ⟨_, ds, [], rfl, h, trivial, .inr fun H' G' s _ _ => ⟨_, (h1.mono s).sq, q.mono s⟩⟩
  | kls ds =>
    cases r with
    | kls h1 q => exact ⟨_, ds, [], rfl, h, trivial, .inl fun H' G' s _ _ => ⟨_, (h1.mono s).sq, q.mono s⟩⟩
  | lst ds =>
    obtain ⟨a, es, gd, h1, h2, h3, h4⟩ := lstG_src (Q := Q) r h
    exact ⟨a, es, gd, h1, h2, h3, .inl h4⟩
  | ref a =>
    obtain ⟨a, es, gd, h1, h2, h3, h4⟩ := lstG_src (Q := Q) r h
    exact ⟨a, es, gd, h1, h2, h3, .inl h4⟩
  | _ => exact False.elim h
theorem Reps.lt {vs : List V} {i : Nat} (r : Reps K H vs ds) (h : i < ds.length) : ∃ v d, vs[i]? = some v ∧ ds[i]? = some d ∧ Rep K H v d := by
  obtain ⟨v, h1, h2⟩ := r.get (List.getElem?_eq_getElem h)
  exact ⟨v, _, h1, List.getElem?_eq_getElem h, h2⟩
theorem it_list (h : Src K (SqL K) H0 a ds gd) : ItOk K H0 (Itl K a) ds gd := by
  refine ⟨fun i H G s rg gk hi => ?_, fun i H G s rg gk hi => ?_, fun i H G x H' s rg gk hi hy => ?_⟩
  · obtain ⟨xs, h1, h2⟩ := h H G s rg gk
    obtain ⟨v, d, h3, _⟩ := h2.lt hi
    exact ⟨xs, v, h1, h3⟩
  · obtain ⟨xs, h1, h2⟩ := h H G s rg gk
    exact ⟨xs, h1, by rw [h2.length]; exact hi⟩
  · obtain ⟨xs, h1, h2⟩ := h H G s rg gk
    obtain ⟨v, d, h3, h4, h5⟩ := h2.lt hi
    obtain ⟨rfl, h6⟩ := hy
    have e := h6 xs h1
    rw [h3] at e
    cases e
    exact ⟨d, h4, .refl, rg, h5⟩
theorem it_tup (h : Src K (SqT K) H0 a ds gd) : ItOk K H0 (Itt K a) ds gd := by
  refine ⟨fun i H G s rg gk hi => ?_, fun i H G s rg gk hi => ?_, fun i H G x H' s rg gk hi hy => ?_⟩
  · obtain ⟨xs, h1, h2⟩ := h H G s rg gk
    obtain ⟨v, d, h3, _⟩ := h2.lt hi
    exact ⟨xs, v, h1, h3⟩
  · obtain ⟨xs, h1, h2⟩ := h H G s rg gk
    exact ⟨xs, h1, by rw [h2.length]; exact hi⟩
  · obtain ⟨xs, h1, h2⟩ := h H G s rg gk
    obtain ⟨v, d, h3, h4, h5⟩ := h2.lt hi
    obtain ⟨rfl, h6⟩ := hy
    have e := h6 xs h1
    rw [h3] at e
    cases e
    exact ⟨d, h4, .refl, rg, h5⟩
theorem it_rng {lo : Int} {n : Nat} : ItOk K H0 (Itr lo n) (rngD lo n) [] := by
  have hl : (rngD lo n).length = n := by unfold rngD; rw [List.length_map, List.length_range]
  refine ⟨fun i H G s rg gk hi => by rw [hl] at hi; exact hi, fun i H G s rg gk hi => by rw [hl] at hi; exact hi, fun i H G x H' s rg gk hi hy => ?_⟩
  obtain ⟨rfl, rfl⟩ := hy
  rw [hl] at hi
  refine ⟨.int (lo + i), ?_, .refl, rg, .int _⟩
  unfold rngD
  rw [List.getElem?_map, List.getElem?_range hi]
  rfl
theorem enumD_get : ∀ {ds : List Dat} {k i : Nat} {d : Dat}, ds[i]? = some d → (enumD k ds)[i]? = some (.tup [.int ((k + i : Nat) : Int), d])
  | [], _, _, _, e => by simp at e
  | x :: ds, k, 0, d, e => by
    simp only [List.getElem?_cons_zero, Option.some.injEq] at e
    subst e
    rfl
  | x :: ds, k, i + 1, d, e => by
    simp only [List.getElem?_cons_succ] at e
    have h := enumD_get (k := k + 1) e
    rw [show k + (i + 1) = k + 1 + i by omega, ← h]
    rfl
theorem enumD_len : ∀ {ds : List Dat} {k : Nat}, (enumD k ds).length = ds.length
  | [], _ => rfl
  | x :: ds, k => by
    show (enumD (k + 1) ds).length + 1 = ds.length + 1
    rw [enumD_len]
theorem it_enum (h : Src K (SqL K) H0 a ds gd) : ItOk K H0 (Ite K a) (enumD 0 ds) gd := by
  refine ⟨fun i H G s rg gk hi => ?_, fun i H G s rg gk hi => ?_, fun i H G x H' s rg gk hi hy => ?_⟩
  all_goals rw [enumD_len] at hi
  all_goals obtain ⟨xs, h1, h2⟩ := h H G s rg gk
  · obtain ⟨v, d, h3, _⟩ := h2.lt hi
    exact ⟨xs, v, h1, h3⟩
  · exact ⟨xs, h1, by rw [h2.length]; exact hi⟩
  · obtain ⟨v, d, h3, h4, h5⟩ := h2.lt hi
    obtain ⟨t, y, rfl, hn, rfl, h6⟩ := hy
    have e := h6 xs h1
    rw [h3] at e
    cases e
    refine ⟨.tup [.int ((0 + i : Nat) : Int), d], enumD_get h4, .newT hn, rg.newT hn, .tup (.inl upd_same) (.cons ?_ (.one (h5.mono (.new hn))))⟩
    rw [Nat.zero_add]
    exact .int _
theorem zipD_get {d e : Dat} : ∀ (ds es : List Dat) (i : Nat), ds[i]? = some d → es[i]? = some e → (zipD ds es)[i]? = some (.tup [d, e])
  | [], _, _, h, _ => by simp at h
  | _ :: _, [], _, _, h => by simp at h
  | x :: ds, y :: es, 0, h1, h2 => by
    simp only [List.getElem?_cons_zero, Option.some.injEq] at h1 h2
    subst h1 h2
    rfl
  | x :: ds, y :: es, i + 1, h1, h2 => by
    have k1 : ds[i]? = some d := h1
    have k2 : es[i]? = some e := h2
    have q := zipD_get ds es i k1 k2
    rw [← q]
    rfl
theorem zipD_len : ∀ {ds es : List Dat}, (zipD ds es).length = min ds.length es.length
  | [], _ => by simp [zipD]
  | _ :: _, [] => by simp [zipD]
  | x :: ds, y :: es => by
    show (zipD ds es).length + 1 = _
    rw [zipD_len, List.length_cons, List.length_cons]
    omega
theorem it_zipL (h : Src K (SqL K) H0 a ds gd) (h' : Src K (SqL K) H0 b es ge) : ItOk K H0 (Itz K a b) (zipD ds es) (gd ++ ge) := by
  refine ⟨fun i H G s rg gk hi => ?_, fun i H G s rg gk hi => ?_, fun i H G x H' s rg gk hi hy => ?_⟩
  all_goals rw [zipD_len] at hi
  all_goals obtain ⟨gk1, gk2⟩ := gdOk_app.mp gk
  all_goals obtain ⟨xs, h1, h2⟩ := h H G s rg gk1
  all_goals obtain ⟨ys, k1, k2⟩ := h' H G s rg gk2
  · obtain ⟨v, d, h3, _⟩ := h2.lt (i := i) (by omega)
    obtain ⟨u, e, k3, _⟩ := k2.lt (i := i) (by omega)
    exact ⟨xs, ys, v, u, h1, k1, h3, k3⟩
  · exact ⟨xs, ys, h1, k1, by rw [h2.length, k2.length]; omega⟩
  · obtain ⟨v, d, h3, h4, h5⟩ := h2.lt (i := i) (by omega)
    obtain ⟨u, e, k3, k4, k5⟩ := k2.lt (i := i) (by omega)
    obtain ⟨t, y, z, rfl, hn, rfl, h6, k6⟩ := hy
    have e1 := h6 xs h1
    have e2 := k6 ys k1
    rw [h3] at e1
    rw [k3] at e2
    cases e1
    cases e2
    exact ⟨.tup [d, e], zipD_get _ _ _ h4 k4, .newT hn, rg.newT hn, .tup (.inl upd_same) (.cons (h5.mono (.new hn)) (.one (k5.mono (.new hn))))⟩
theorem it_zipT (h : Src K (SqT K) H0 a ds gd) (h' : Src K (SqT K) H0 b es ge) : ItOk K H0 (RZ.ItzT K a b) (zipD ds es) (gd ++ ge) := by
  refine ⟨fun i H G s rg gk hi => ?_, fun i H G s rg gk hi => ?_, fun i H G x H' s rg gk hi hy => ?_⟩
  all_goals rw [zipD_len] at hi
  all_goals obtain ⟨gk1, gk2⟩ := gdOk_app.mp gk
  all_goals obtain ⟨xs, h1, h2⟩ := h H G s rg gk1
  all_goals obtain ⟨ys, k1, k2⟩ := h' H G s rg gk2
  · obtain ⟨v, d, h3, _⟩ := h2.lt (i := i) (by omega)
    obtain ⟨u, e, k3, _⟩ := k2.lt (i := i) (by omega)
    exact ⟨xs, ys, v, u, h1, k1, h3, k3⟩
  · exact ⟨xs, ys, h1, k1, by rw [h2.length, k2.length]; omega⟩
  · obtain ⟨v, d, h3, h4, h5⟩ := h2.lt (i := i) (by omega)
    obtain ⟨u, e, k3, k4, k5⟩ := k2.lt (i := i) (by omega)
    obtain ⟨t, y, z, rfl, hn, rfl, h6, k6⟩ := hy
    have e1 := h6 xs h1
    have e2 := k6 ys k1
    rw [h3] at e1
    rw [k3] at e2
    cases e1
    cases e2
    exact ⟨.tup [d, e], zipD_get _ _ _ h4 k4, .newT hn, rg.newT hn, .tup (.inl upd_same) (.cons (h5.mono (.new hn)) (.one (k5.mono (.new hn))))⟩
end
/-- an iterable, lifted -/
def LfI (K : PySem.W.Frag) (W : WX) (w : Env' → AG → (List Dat → Gd → AG → Prop) → AX → Prop) : TI := fun σ H R =>
  ∃ ρ G Qa Ea, RelE K H ρ σ ∧ RelG K G H ∧ w ρ G Qa Ea ∧ (∀ ds gd G' J H', Fra G H G' H' → RelG K G' H' → gdOk G' gd → ItOk K H' J ds gd → Qa ds gd G' → R J H') ∧ PostX K G H Ea fun c dx H' => W c dx σ H'
section
variable {X : Cx} {W : WX} {tg a b : Expr} {pos p tpos : Pos} {w1 w2 : Env' → AG → AQ → AX → Prop}
/-- a list or a tuple, walked -/
def iAny (K : PySem.W.Frag) (te : TE) : TI := fun σ H R => te σ H fun x H1 => ∃ a, x = .ref a ∧ ((∃ xs, SqL K H1 a xs) ∧ R (Itl K a) H1 ∨ (∃ xs, SqT K H1 a xs) ∧ R (Itt K a) H1)
theorem pi_any {te : TE} (h : PE X a te) : PI X tg a (iAny X.K te) := by
  refine ⟨fun pins s σ H R I hw => thn (h.run pins s σ H _ I hw) fun u s1 hq => ?_⟩
  obtain ⟨x, H1, I1, r1, l, rfl, q⟩ := hq
  cases r1
  have fin : ∀ {o : Obj}, ∀ b ∈ [s1.heap.objs.size], FpOk X pins H1 b := fun c hc => by
    cases List.mem_singleton.mp hc
    exact I1.fpOk (Nat.le_refl _) (I1.hok.fresh (Nat.le_refl _))
  rcases q with ⟨⟨xs, hx⟩, q⟩ | ⟨⟨xs, hx⟩, q⟩
  · obtain ⟨its, rv, hp, _⟩ := I1.list hx
    exact wpAny_pyIter_list hp.isList ⟨_, [s1.heap.objs.size], _, _, H1, rfl, I1.kept (t' := s1.toks) fun _ _ z => Heap.get?_push_of_some _ z, turn_list l _, ⟨_, Heap.get?_push_size _ rfl, rfl, rfl⟩, fin (o := default), q⟩
  · obtain ⟨its, rv, hp, _⟩ := I1.tuple hx
    exact wpAny_pyIter_tuple (show s1.heap.IsTuple l its.toArray from hp) ⟨_, [s1.heap.objs.size], _, _, H1, rfl, I1.kept (t' := s1.toks) fun _ _ z => Heap.get?_push_of_some _ z, turn_tuple l _, ⟨_, Heap.get?_push_size _ rfl, rfl, rfl⟩, fin (o := default), q⟩
theorem si_seq (h : PE X a (LfE X.K W w1)) : PI X tg a (LfI X.K W fun ρ G Q E => w1 ρ G (fun x G1 => seqG x G1 Q) E) := by
  refine PI.imp (pi_any h) ?_
  rintro σ H R ⟨ρ, G, Qa, Ea, hE, hG, hw, hp, hx⟩
  refine ⟨ρ, G, _, Ea, hE, hG, hw, fun d G1 v H1 f g r q => ?_, hx⟩
  obtain ⟨l, ds, gd, rfl, h1, h2, h3⟩ := seqG_src r q
  refine ⟨l, rfl, ?_⟩
  rcases h3 with h3 | h3
  · obtain ⟨xs, h4, _⟩ := h3 H1 G1 (.refl _) g h2
    exact .inl ⟨⟨xs, h4⟩, hp _ _ _ _ _ f g h2 (it_list h3) h1⟩
  · obtain ⟨xs, h4, _⟩ := h3 H1 G1 (.refl _) g h2
    exact .inr ⟨⟨xs, h4⟩, hp _ _ _ _ _ f g h2 (it_tup h3) h1⟩
theorem arg1 (h : PE X a (LfE X.K W w1)) (hs : starEach [a] X.env = [(false, eval a X.env)]) : PA X [a] (LfA X.K W fun ρ G Q E => w1 ρ G (fun d G1 => Q [d] G1) E) := sa_cons (es := []) hs h sa_nil
theorem arg2 (h : PE X a (LfE X.K W w1)) (h2 : PE X b (LfE X.K W w2)) (hs : starEach [a, b] X.env = (false, eval a X.env) :: starEach [b] X.env) (hs2 : starEach [b] X.env = [(false, eval b X.env)]) :
    PA X [a, b] (LfA X.K W fun ρ G Q E => w1 ρ G (fun d G1 => w2 ρ G1 (fun e G2 => Q [d, e] G2) E) E) := sa_cons (es := [b]) hs h (arg1 h2 hs2)
theorem si_rng1 (hg : Gl X "range") (hm : X.mg "range" = none) (h : PE X a (LfE X.K W w1)) (hs : starEach [a] X.env = [(false, eval a X.env)]) :
    PI X tg (.Call (.Name "range" p) [a] [] pos) (LfI X.K W fun ρ G Q E => w1 ρ G (intK fun n G1 => -(2 ^ 62) ≤ n ∧ n < 2 ^ 62 ∧ Q (rngD 0 n.toNat) [] G1) E) := by
  refine PI.imp (pi_range1 hg hm (arg1 h hs) hs) ?_
  rintro σ H R ⟨ρ, G, Qa, Ea, hE, hG, hw, hp, hx⟩
  refine ⟨ρ, G, fun ds G1 => match ds with | [d] => intK (fun n G1 => -(2 ^ 62) ≤ n ∧ n < 2 ^ 62 ∧ Qa (rngD 0 n.toNat) [] G1) d G1 | _ => False, Ea, hE, hG, hw, ?_, hx⟩
  intro ds G1 v H1 f g r q
  match ds, q with
  | [d], q =>
    obtain ⟨i, rfl, h1, h2, h3⟩ := intK_inv q
    obtain ⟨x, rfl, rx⟩ := reps1 r
    cases rep_i rx
    exact ⟨i, rfl, h1, h2, hp _ [] _ _ _ f g trivial it_rng h3⟩
theorem si_rng2 (hg : Gl X "range") (hm : X.mg "range" = none) (h : PE X a (LfE X.K W w1)) (h2 : PE X b (LfE X.K W w2)) (hs : starEach [a, b] X.env = [(false, eval a X.env), (false, eval b X.env)]) (hs2 : starEach [b] X.env = [(false, eval b X.env)]) :
    PI X tg (.Call (.Name "range" p) [a, b] [] pos) (LfI X.K W fun ρ G Q E => w1 ρ G (intK fun m G1 => w2 ρ G1 (intK fun n G2 => (-(2 ^ 62) ≤ m ∧ m < 2 ^ 62 ∧ -(2 ^ 62) ≤ n ∧ n < 2 ^ 62) ∧ Q (rngD m (n - m).toNat) [] G2) E) E) := by
  refine ⟨fun pins s σ H R I ⟨ρ, G, Qa, Ea, hE, hG, hw, hp, hx⟩ => ?_⟩
  refine (pi_range2 (tg := tg) hg hm (pa_cons h (pa_cons h2 pa_nil hs2) (by rw [hs, hs2])) hs hs2).run pins s σ H R I ?_
  refine ⟨ρ, G, _, Ea, hE, hG, hw, fun d G1 v H1 f g r q => ?_, hx⟩
  obtain ⟨i, rfl, q⟩ := intK_inv q
  cases rep_i r
  refine ⟨ρ, G1, _, Ea, hE.mono (f.stab hG), g, q, fun e G2 u H2 f2 g2 r2 q2 => ?_, hx.fra f⟩
  obtain ⟨j, rfl, q1, q3⟩ := intK_inv q2
  cases rep_i r2
  exact ⟨i, j, rfl, q1, hp _ [] _ _ _ (f.trans f2) g2 trivial it_rng q3⟩
theorem si_enum {elts : List Expr} {kk : Nat} (hg : Gl X "enumerate") (hm : X.mg "enumerate" = none) (h : PE X a (LfE X.K W w1)) (hs : starEach [a] X.env = [(false, eval a X.env)]) :
    PI X (.Tuple elts kk tpos) (.Call (.Name "enumerate" p) [a] [] pos) (LfI X.K W fun ρ G Q E => w1 ρ G (fun x G1 => lstG x G1 fun xs gx G2 => Q (enumD 0 xs) gx G2) E) := by
  refine PI.imp (pi_enum hg hm (pa_cons h pa_nil hs) hs) ?_
  rintro σ H R ⟨ρ, G, Qa, Ea, hE, hG, hw, hp, hx⟩
  refine ⟨ρ, G, _, Ea, hE, hG, hw, fun d G1 v H1 f g r q => ?_, hx⟩
  obtain ⟨l, ds, gd, rfl, h1, h2, h3⟩ := lstG_src r q
  obtain ⟨xs, h4, _⟩ := h3 H1 G1 (.refl _) g h2
  exact ⟨l, xs, rfl, h4, hp _ _ _ _ _ f g h2 (it_enum h3) h1⟩
theorem zipG_src {K : PySem.W.Frag} {H : Hp} {G : AG} {v u : V} {x y : Dat} {Q : List Dat → Gd → AG → Prop} (r : Rep K H v x) (r2 : Rep K H u y) (h : zipG x y G Q) :
    ∃ a b ds es gd ge, v = .ref a ∧ u = .ref b ∧ Q (zipD ds es) (gd ++ ge) G ∧ gdOk G (gd ++ ge) ∧ ((Src K (SqL K) H a ds gd ∧ Src K (SqL K) H b es ge) ∨ (Src K (SqT K) H a ds gd ∧ Src K (SqT K) H b es ge)) := by
  have no : (lstG x G fun xs gx G1 => lstG y G1 fun ys gy G2 => Q (zipD xs ys) (gx ++ gy) G2) → ∃ a b ds es gd ge, v = .ref a ∧ u = .ref b ∧ Q (zipD ds es) (gd ++ ge) G ∧ gdOk G (gd ++ ge) ∧ ((Src K (SqL K) H a ds gd ∧ Src K (SqL K) H b es ge) ∨ (Src K (SqT K) H a ds gd ∧ Src K (SqT K) H b es ge)) := fun hq => by
    obtain ⟨a, ds, gd, rfl, h1, h2, h3⟩ := lstG_src r hq
    obtain ⟨b, es, ge, rfl, k1, k2, k3⟩ := lstG_src r2 h1
    exact ⟨a, b, ds, es, gd, ge, rfl, rfl, k1, gdOk_app.mpr ⟨h2, k2⟩, .inl ⟨h3, k3⟩⟩
  cases x with
  | tup ds =>
    cases y with
    | tup es =>
      obtain ⟨a, vs, rfl, h1, q⟩ := rep_t r
      obtain ⟨b, us, rfl, h2, q2⟩ := rep_t r2
      exact ⟨a, b, ds, es, [], [], rfl, rfl, h, trivial, .inr ⟨fun H' G' s _ _ => ⟨_, (h1.mono s).sq, q.mono s⟩, fun H' G' s _ _ => ⟨_, (h2.mono s).sq, q2.mono s⟩⟩⟩
    | _ => exact no h
  | _ => exact no h
theorem si_zip {elts : List Expr} {kk : Nat} (hg : Gl X "zip") (hm : X.mg "zip" = none) (h : PE X a (LfE X.K W w1)) (h2 : PE X b (LfE X.K W w2)) (hs : starEach [a, b] X.env = (false, eval a X.env) :: starEach [b] X.env) (hs2 : starEach [b] X.env = [(false, eval b X.env)]) :
    PI X (.Tuple elts kk tpos) (.Call (.Name "zip" p) [a, b] [] pos) (LfI X.K W fun ρ G Q E => w1 ρ G (fun x G1 => w2 ρ G1 (fun y G2 => zipG x y G2 Q) E) E) := by
  refine PI.imp (RZ.pi_zipA hg hm (pa_cons h (pa_cons h2 pa_nil hs2) hs) hs (by rw [hs2]; rfl)) ?_
  rintro σ H R ⟨ρ, G, Qa, Ea, hE, hG, hw, hp, hx⟩
  refine ⟨ρ, G, _, Ea, hE, hG, hw, fun d G1 v H1 f g r q => ⟨ρ, G1, _, Ea, hE.mono (f.stab hG), g, q, fun e G2 u H2 f2 g2 r2 q2 => ?_, hx.fra f⟩, hx⟩
  obtain ⟨l, m, ds, es, gd, ge, rfl, rfl, h1, h3, h4⟩ := zipG_src (r.mono (f2.stab g)) r2 q2
  obtain ⟨k1, k2⟩ := gdOk_app.mp h3
  rcases h4 with ⟨h4, h5⟩ | ⟨h4, h5⟩
  · obtain ⟨xs, x1, _⟩ := h4 H2 G2 (.refl _) g2 k1
    obtain ⟨ys, y1, _⟩ := h5 H2 G2 (.refl _) g2 k2
    exact ⟨l, m, xs, ys, rfl, .inl ⟨x1, y1, hp _ _ _ _ _ (f.trans f2) g2 h3 (it_zipL h4 h5) h1⟩⟩
  · obtain ⟨xs, x1, _⟩ := h4 H2 G2 (.refl _) g2 k1
    obtain ⟨ys, y1, _⟩ := h5 H2 G2 (.refl _) g2 k2
    exact ⟨l, m, xs, ys, rfl, .inr ⟨x1, y1, hp _ _ _ _ _ (f.trans f2) g2 h3 (it_zipT h4 h5) h1⟩⟩

/-! ### targets -/
def tgIx : TGt → List Nat
  | .nm i => [i]
  | .tp is => is
/-- a target, lifted -/
def LfG (K : PySem.W.Frag) (g : TGt) : TG := fun v σ H Q => ∃ ρ G d k, RelE K H ρ σ ∧ RelG K G H ∧ Rep K H v d ∧ tgW g d ρ k ∧ ∀ ρ' σ', RelE K H ρ' σ' → (∀ vs : List Nat, (∀ i ∈ tgIx g, i ∈ vs) → L2.wipe σ' vs = L2.wipe σ vs) → k ρ' → Q σ' H
theorem wipe_get {σ : L2.St} {j : Nat} : ∀ vs : List Nat, (L2.wipe σ vs)[j]? = if j ∈ vs then (σ[j]?).map (fun _ => none) else σ[j]?
  | [] => by simp [L2.wipe]
  | v :: vs => by
    have ih := wipe_get (σ := σ) (j := j) vs
    show ((L2.wipe σ vs).set v none)[j]? = _
    by_cases hj : v = j
    · subst hj
      rw [List.getElem?_set_self', ih]
      by_cases hm : v ∈ vs
      · rw [if_pos hm, if_pos (List.mem_cons_self ..)]
        cases σ[v]? <;> rfl
      · rw [if_neg hm, if_pos (List.mem_cons_self ..)]
        rfl
    · rw [List.getElem?_set_ne hj, ih]
      by_cases hm : j ∈ vs
      · rw [if_pos hm, if_pos (List.mem_cons_of_mem _ hm)]
      · rw [if_neg hm, if_neg (fun z => by rcases List.mem_cons.mp z with z | z; exact hj z.symm; exact hm z)]
theorem wipe_set {σ : L2.St} {i : Nat} {x : Option V} {vs : List Nat} (h : i ∈ vs) : L2.wipe (σ.set i x) vs = L2.wipe σ vs := by
  refine List.ext_getElem? fun j => ?_
  rw [wipe_get, wipe_get]
  by_cases hj : i = j
  · subst hj
    rw [if_pos h, if_pos h, List.getElem?_set_self']
    cases σ[i]? <;> rfl
  · rw [List.getElem?_set_ne hj]
theorem sg_nm {i : Nat} {x : Str} (hN : X.N.Nodup) (hi : X.N[i]? = some x) (hx : Loc X.env.scope x) (hf : X.fn x = true ∨ X.env.scope.names.lookup x = some .local) : PG X (.Name x pos) (LfG X.K (.nm i)) := by
  refine ⟨fun pins s σ H v u Q I r ⟨ρ, G, d, k, hE, hG, rv, hk, hq⟩ => ?_⟩
  exact (pg_name hN hi hx hf).run pins s σ H v u Q I r (hq _ _ (hE.set rv) (fun vs hv => wipe_set (hv i (List.mem_singleton.mpr rfl))) hk)
def gAll : List Nat → TGs
  | [] => gNil
  | i :: is => gCons (gName i) (gAll is)
/-- names of the frame, at their places -/
def nmsOk (X : Cx) : List Expr → List Nat → Prop
  | [], [] => True
  | .Name x _ :: ts, i :: is => (X.N[i]? = some x ∧ Loc X.env.scope x ∧ (X.fn x = true ∨ X.env.scope.names.lookup x = some .local)) ∧ nmsOk X ts is
  | _, _ => False
theorem nmsOk_each (X : Cx) : ∀ {ts : List Expr} {is : List Nat}, nmsOk X ts is → X.N.Nodup → (assignEach ts X.env).length = is.length ∧ (assignEach ts X.env).findIdx? (·.1) = none ∧ PGs X ts (gAll is)
  | [], [], _, _ => ⟨rfl, rfl, pgs_nil⟩
  | .Name x q :: ts, i :: is, h, hN => by
    obtain ⟨h1, h2, h3⟩ := nmsOk_each X h.2 hN
    refine ⟨congrArg (· + 1) h1, ?_, pgs_cons (pg_name hN h.1.1 h.1.2.1 h.1.2.2) h3⟩
    show List.findIdx? (·.1) ((false, assign (.Name x q) X.env) :: assignEach ts X.env) = none
    rw [List.findIdx?_cons, h2]
    rfl
theorem gAll_set {K : PySem.W.Frag} {H : Hp} {Q : L2.St → Hp → Prop} : ∀ {is : List Nat} {vs : List V} {ds : List Dat} {ρ : Env'} {σ : L2.St}, RelE K H ρ σ → Reps K H vs ds → ds.length = is.length →
    (∀ σ', RelE K H (setAll is ds ρ) σ' → (∀ ws : List Nat, (∀ i ∈ is, i ∈ ws) → L2.wipe σ' ws = L2.wipe σ ws) → Q σ' H) → gAll is vs σ H Q
  | [], _, _, ρ, σ, hE, .nil, _, h => ⟨rfl, h σ hE fun _ _ => rfl⟩
  | i :: is, _, _, ρ, σ, hE, .cons a r, hl, h => ⟨_, _, rfl, gAll_set (hE.set a) r (by simpa using hl) fun σ' h1 h2 => h σ' h1 fun ws hw => by
      rw [h2 ws fun j hj => hw j (List.mem_cons_of_mem _ hj), wipe_set (hw i (List.mem_cons_self ..))]⟩
theorem sg_tp {ts : List Expr} {is : List Nat} {kk : Nat} (hc : X.calm = true) (hN : X.N.Nodup) (h : nmsOk X ts is) : PG X (.Tuple ts kk pos) (LfG X.K (.tp is)) := by
  obtain ⟨h1, h2, h3⟩ := nmsOk_each X h hN
  refine ⟨fun pins s σ H v u Q I r ⟨ρ, G, d, k, hE, hG, rv, hk, hq⟩ => ?_⟩
  refine (pg_tup hc h3 h1 h2).run pins s σ H v u Q I r ?_
  cases d with
  | tup ds =>
    obtain ⟨a, vs, rfl, k1, k2⟩ := rep_t rv
    obtain ⟨k3, k4⟩ := hk
    exact ⟨a, vs, rfl, k1.sq, by rw [k2.length, k3], gAll_set hE k2 k3 fun σ' e1 e2 => hq _ σ' e1 e2 k4⟩
  | _ => exact False.elim hk
end
end Av


set_option Elab.async false
set_option linter.all false
set_option maxRecDepth 100000
set_option maxHeartbeats 4000000
/-! # AvT: texts, dicts of the module, defs held by local names -/
namespace Av
open PySem PySem.Spec PyProof.Rows L2
variable [Tb]
theorem dkOf_inv {K : PySem.W.Frag} {G : AG} {H : Hp} {v : V} {d : Dat} {kv : List (Key × Dat)} (g : RelG K G H) (r : Rep K H v d) (e : dkOf G d = some kv) : ∃ p vk, v = .ref p ∧ H p = some (.dK vk) ∧ KRel K H vk kv := by
  cases d with
  | ref p =>
    cases rep_r r
    unfold dkOf at e
    cases q : G p with
    | none => simp only [q] at e; cases e
    | some o =>
      cases o with
      | dk kvs => simp only [q] at e; cases e; obtain ⟨vk, h1, h2⟩ := g.dk q; exact ⟨p, vk, rfl, h1, h2⟩
      | lst ds => simp only [q] at e; cases e
      | ins C fs => simp only [q] at e; cases e
  | _ => cases e
theorem kd_some {K : PySem.W.Frag} {H : Hp} {x : Key} {vk : List (Key × V)} {kvs : List (Key × Dat)} (r : KRel K H vk kvs) : (valV vk x).isSome = (lookD kvs x).isSome := by
  obtain ⟨h1, h2⟩ := kd_look (x := x) r
  cases e : lookD kvs x with
  | none => rw [h2 e]; rfl
  | some d => obtain ⟨v, h3, _⟩ := h1 d e; rw [h3]; rfl
theorem kd_getD {K : PySem.W.Frag} {H : Hp} {x : Key} {vk : List (Key × V)} {kvs : List (Key × Dat)} {z : V} {dz : Dat} (r : KRel K H vk kvs) (rz : Rep K H z dz) : Rep K H ((valV vk x).getD z) ((lookD kvs x).getD dz) := by
  obtain ⟨h1, h2⟩ := kd_look (x := x) r
  cases e : lookD kvs x with
  | none => rw [h2 e]; exact rz
  | some d => obtain ⟨v, h3, h4⟩ := h1 d e; rw [h3]; exact h4
section
variable {X : Cx} {W : WX} {Γ : Gam} {k : Nat} {a b o e : Expr} {es : List Expr} {D : Str} {pos p apos cpos : Pos} {w1 w2 w3 : Env' → AG → AQ → AX → Prop} {wa : Env' → AG → (List Dat → AG → Prop) → AX → Prop}

/-! ### dicts of the module -/
abbrev gopE (n : Bool) : CmpOp := if n then .NotIn else .In
theorem op_kd {d : Addr} {vk : List (Key × V)} (h : KdAt X.K X.prog X.w d vk) (n : Bool) : OpR X (compareOp (gopE n)) (rKdIn n vk d) := by
  cases n with
  | false => exact op_kdIn h
  | true => exact op_kdNotIn h
theorem mk_op (n : Bool) (y : Str) (p : Pos) : behindInMarks (gopE n) (.Name y p) = false := by cases n <;> rfl
theorem rKd_ok {d : Addr} {vk : List (Key × V)} {n : Bool} {kk : Key} {H : Hp} {Q : VK} {kvs : List (Key × Dat)} (r : KRel X.K H vk kvs) (q : Q (.bl (negB n (lookD kvs kk).isSome)) H) : rKdIn n vk d (kV kk) (.ref d) H Q := by
  refine ⟨kk, rfl, rfl, ?_⟩
  rw [kd_some r]
  cases n <;> exact q
theorem keyV {K : PySem.W.Frag} {H : Hp} {v : V} {d : Dat} {x : Key} (r : Rep K H v d) (e : keyD d = some x) : v = kV x := keyD_rep r e
theorem se_gin (oc : Oc X W Γ k) {n : Bool} {kv : List (Key × Dat)} (hd : Γ.dc D = some kv) (hg : Gl X D) (hdb : (D == ("__debug__" : Str)) = false) (h1 : PE X a (LfE X.K W w1)) :
    PE X (.Compare a [gopE n] [.Name D p] pos) (LfE X.K W fun ρ G Q E => w1 ρ G (fun y G1 => ∃ kk, keyD y = some kk ∧ Q (.bl (negB n (lookD kv kk).isSome)) G1) E) := by
  obtain ⟨d, vk, hm, hk, hr⟩ := oc.tb.dc D kv hd
  refine PE.imp (pe_cmpR (op_kd hk n) h1 (pe_gname (p := p) hg hm hdb) (mk_op n D p)) ?_
  rintro σ H Q ⟨ρ, G, Qa, Ea, hE, hG, hw, hp, hx⟩
  refine ⟨ρ, G, _, Ea, hE, hG, hw, fun y G1 v H1 f g r ⟨kk, e, q⟩ => ?_, hx⟩
  cases keyV r e
  exact rKd_ok (hr H1) (hp _ _ _ _ f g (.bl _) q)
theorem st_gin (oc : Oc X W Γ k) {n : Bool} {kv : List (Key × Dat)} (hd : Γ.dc D = some kv) (hg : Gl X D) (hdb : (D == ("__debug__" : Str)) = false) (h1 : PE X a (LfE X.K W w1)) :
    PT X (.Compare a [gopE n] [.Name D p] pos) (LfT X.K W fun ρ G Q E => w1 ρ G (fun y G1 => ∃ kk, keyD y = some kk ∧ Q (negB n (lookD kv kk).isSome) G1) E) := by
  obtain ⟨d, vk, hm, hk, hr⟩ := oc.tb.dc D kv hd
  refine PT.imp (pt_cmpR (op_kd hk n) h1 (pe_gname (p := p) hg hm hdb) (mk_op n D p)) ?_
  rintro σ H Q ⟨ρ, G, Qa, Ea, hE, hG, hw, hp, hx⟩
  refine ⟨ρ, G, _, Ea, hE, hG, hw, fun y G1 v H1 f g r ⟨kk, e, q⟩ => ?_, hx⟩
  cases keyV r e
  exact rKd_ok (Q := fun v H' => ∃ k, v = .bl k ∧ Q k H') (hr H1) ⟨_, rfl, hp _ _ _ _ f g rfl q⟩
theorem se_gix (oc : Oc X W Γ k) {kv : List (Key × Dat)} (hd : Γ.dc D = some kv) (hg : Gl X D) (hdb : (D == ("__debug__" : Str)) = false) (hs : NoSl a) (h1 : PE X a (LfE X.K W w1)) :
    PE X (.Subscript (.Name D p) a pos) (LfE X.K W fun ρ G Q E => w1 ρ G (fun y G1 => ∃ kk d, keyD y = some kk ∧ lookD kv kk = some d ∧ Q d G1) E) := by
  obtain ⟨d, vk, hm, hk, hr⟩ := oc.tb.dc D kv hd
  refine PE.imp (pe_kdIx hk hg hm hdb h1 hs) ?_
  rintro σ H Q ⟨ρ, G, Qa, Ea, hE, hG, hw, hp, hx⟩
  refine ⟨ρ, G, _, Ea, hE, hG, hw, fun y G1 v H1 f g r ⟨kk, dv, e, l, q⟩ => ?_, hx⟩
  obtain ⟨v', h3, h4⟩ := (kd_look (hr H1)).1 dv l
  exact ⟨kk, v', keyV r e, h3, hp _ _ _ _ f g h4 q⟩
theorem se_gget1 (oc : Oc X W Γ k) {kv : List (Key × Dat)} (hd : Γ.dc D = some kv) (hg : Gl X D) (hdb : (D == ("__debug__" : Str)) = false) (h1 : PE X a (LfE X.K W w1)) (m : M1 X (.Name D p) "get" apos a cpos) :
    PE X (.Call (.Attribute (.Name D p) "get" apos) [a] [] cpos) (LfE X.K W fun ρ G Q E => w1 ρ G (fun y G1 => ∃ kk, keyD y = some kk ∧ Q ((lookD kv kk).getD .non) G1) E) := by
  obtain ⟨d, vk, hm, hk, hr⟩ := oc.tb.dc D kv hd
  refine PE.imp (pe_kdG1 hk hg hm hdb h1 m) ?_
  rintro σ H Q ⟨ρ, G, Qa, Ea, hE, hG, hw, hp, hx⟩
  refine ⟨ρ, G, _, Ea, hE, hG, hw, fun y G1 v H1 f g r ⟨kk, e, q⟩ => ?_, hx⟩
  exact ⟨kk, keyV r e, hp _ _ _ _ f g (kd_getD (hr H1) .non) q⟩
theorem se_gget2 (oc : Oc X W Γ k) {kv : List (Key × Dat)} (hd : Γ.dc D = some kv) (hg : Gl X D) (hdb : (D == ("__debug__" : Str)) = false) (h1 : PE X a (LfE X.K W w1)) (h2 : PE X b (LfE X.K W w2)) (m : M2 X (.Name D p) "get" apos a b cpos) :
    PE X (.Call (.Attribute (.Name D p) "get" apos) [a, b] [] cpos) (LfE X.K W fun ρ G Q E => w1 ρ G (fun y G1 => w2 ρ G1 (fun z G2 => ∃ kk, keyD y = some kk ∧ Q ((lookD kv kk).getD z) G2) E) E) := by
  obtain ⟨d, vk, hm, hk, hr⟩ := oc.tb.dc D kv hd
  refine PE.imp (pe_kdG2 hk hg hm hdb h1 h2 m) ?_
  rintro σ H Q ⟨ρ, G, Qa, Ea, hE, hG, hw, hp, hx⟩
  refine ⟨ρ, G, _, Ea, hE, hG, hw, fun y G1 v H1 f g r q => ⟨ρ, G1, _, Ea, hE.mono (f.stab hG), g, q, fun z G2 u H2 f2 g2 r2 ⟨kk, e, q2⟩ => ?_, hx.fra f⟩, hx⟩
  exact ⟨kk, (keyV r e), hp _ _ _ _ (f.trans f2) g2 (kd_getD (hr H2) r2) q2⟩
theorem keyDat_rep {K : PySem.W.Frag} {H : Hp} (x : Key) : Rep K H (kV x) (keyDat x) := by
  cases x with
  | inl i => exact .int i
  | inr s => exact .str s
theorem it_kd {K : PySem.W.Frag} {H0 : Hp} {vk : List (Key × V)} {kv : List (Key × Dat)} (h : ∀ H, KRel K H vk kv) : ItOk K H0 (ItK vk) (kv.map fun q => keyDat q.1) [] := by
  have hl : (kv.map fun q => keyDat q.1).length = vk.length := by rw [List.length_map]; exact (kd_len (h H0)).symm
  refine ⟨fun i H G s rg gk hi => by rw [hl] at hi; exact hi, fun i H G s rg gk hi => by rw [hl] at hi; exact hi, fun i H G x H' s rg gk hi hy => ?_⟩
  obtain ⟨rfl, kk, v, e, rfl⟩ := hy
  have r := h H'
  have key : ∀ {vk : List (Key × V)} {kv : List (Key × Dat)} {i : Nat}, KRel K H' vk kv → vk[i]? = some (kk, v) → (kv.map fun q => keyDat q.1)[i]? = some (keyDat kk) := by
    intro vk kv i r
    induction r generalizing i with
    | nil => intro e; simp at e
    | @cons p q l m hpq hr ih =>
      intro e
      cases i with
      | zero =>
        simp only [List.getElem?_cons_zero, Option.some.injEq] at e
        subst e
        simp only [List.map_cons, List.getElem?_cons_zero]
        rw [← hpq.1]
      | succ j =>
        simp only [List.getElem?_cons_succ] at e
        simp only [List.map_cons, List.getElem?_cons_succ]
        exact ih e
  exact ⟨keyDat kk, key r e, .refl, rg, keyDat_rep kk⟩
theorem si_gkeys (oc : Oc X W Γ k) {tg : Expr} {kv : List (Key × Dat)} (hd : Γ.dc D = some kv) (hg : Gl X D) (hdb : (D == ("__debug__" : Str)) = false) : PI X tg (.Name D p) (LfI X.K W fun _ G Q _ => Q (kv.map fun q => keyDat q.1) [] G) := by
  obtain ⟨d, vk, hm, hk, hr⟩ := oc.tb.dc D kv hd
  refine PI.imp (pi_kd hk hg hm hdb) ?_
  rintro σ H R ⟨ρ, G, Qa, Ea, hE, hG, hw, hp, hx⟩
  exact hp _ [] _ _ _ .refl hG trivial (it_kd hr) hw
/-! ### texts -/
theorem it_str {K : PySem.W.Frag} {H0 : Hp} {x : Str} : ItOk K H0 (Its x) (signsD x) [] := by
  have hl : (signsD x).length = x.cps.size := by unfold signsD; rw [List.length_map, Array.length_toList]
  refine ⟨fun i H G s rg gk hi => by rw [hl] at hi; exact hi, fun i H G s rg gk hi => by rw [hl] at hi; exact hi, fun i H G y H' s rg gk hi hy => ?_⟩
  obtain ⟨rfl, c, e, rfl⟩ := hy
  refine ⟨.str ⟨#[c]⟩, ?_, .refl, rg, .str _⟩
  unfold signsD
  rw [List.getElem?_map, Array.getElem?_toList, e]
  rfl
theorem si_str {tg : Expr} (h1 : PE X a (LfE X.K W w1)) : PI X tg a (LfI X.K W fun ρ G Q E => w1 ρ G (fun x G1 => ∃ s, strD x = some s ∧ Q (signsD s) [] G1) E) := by
  refine PI.imp (pi_str h1) ?_
  rintro σ H R ⟨ρ, G, Qa, Ea, hE, hG, hw, hp, hx⟩
  refine ⟨ρ, G, _, Ea, hE, hG, hw, fun y G1 v H1 f g r ⟨s, e, q⟩ => ?_, hx⟩
  obtain ⟨rfl, _⟩ := strD_inv r e
  exact ⟨s, rfl, hp (signsD s) [] _ _ _ f g trivial it_str q⟩
def rSin (n : Bool) : R2 := fun x y H Q => ∃ i j, x = .str i ∧ y = .str j ∧ Q (.bl (negB n (sIn i j))) H
theorem op_sin (n : Bool) : OpR X (compareOp (gopE n)) (rSin n) := by
  cases n with
  | false => exact op_in_str
  | true => exact op_notIn_str
theorem mk_op2 (n : Bool) {b : Expr} (h : behindInMarks .In b = false) : behindInMarks (gopE n) b = false := by cases n <;> exact h
theorem se_sin {n : Bool} (hm : behindInMarks .In b = false) (h1 : PE X a (LfE X.K W w1)) (h2 : PE X b (LfE X.K W w2)) :
    PE X (.Compare a [gopE n] [b] pos) (LfE X.K W fun ρ G Q E => w1 ρ G (fun x G1 => w2 ρ G1 (fun y G2 => ∃ s t, strD x = some s ∧ strD y = some t ∧ Q (.bl (negB n (sIn s t))) G2) E) E) := by
  refine PE.imp (pe_cmpR (op_sin n) h1 h2 (mk_op2 n hm)) ?_
  rintro σ H Q ⟨ρ, G, Qa, Ea, hE, hG, hw, hp, hx⟩
  refine ⟨ρ, G, _, Ea, hE, hG, hw, fun y G1 v H1 f g r q => ⟨ρ, G1, _, Ea, hE.mono (f.stab hG), g, q, fun z G2 u H2 f2 g2 r2 ⟨s, t, e1, e2, q2⟩ => ?_, hx.fra f⟩, hx⟩
  obtain ⟨rfl, _⟩ := strD_inv r e1
  obtain ⟨rfl, _⟩ := strD_inv r2 e2
  exact ⟨s, t, rfl, rfl, hp _ _ _ _ (f.trans f2) g2 (.bl _) q2⟩
theorem st_sin {n : Bool} (hm : behindInMarks .In b = false) (h1 : PE X a (LfE X.K W w1)) (h2 : PE X b (LfE X.K W w2)) :
    PT X (.Compare a [gopE n] [b] pos) (LfT X.K W fun ρ G Q E => w1 ρ G (fun x G1 => w2 ρ G1 (fun y G2 => ∃ s t, strD x = some s ∧ strD y = some t ∧ Q (negB n (sIn s t)) G2) E) E) := by
  refine PT.imp (pt_cmpR (op_sin n) h1 h2 (mk_op2 n hm)) ?_
  rintro σ H Q ⟨ρ, G, Qa, Ea, hE, hG, hw, hp, hx⟩
  refine ⟨ρ, G, _, Ea, hE, hG, hw, fun y G1 v H1 f g r q => ⟨ρ, G1, _, Ea, hE.mono (f.stab hG), g, q, fun z G2 u H2 f2 g2 r2 ⟨s, t, e1, e2, q2⟩ => ?_, hx.fra f⟩, hx⟩
  obtain ⟨rfl, _⟩ := strD_inv r e1
  obtain ⟨rfl, _⟩ := strD_inv r2 e2
  exact ⟨s, t, rfl, rfl, _, rfl, hp _ _ _ _ (f.trans f2) g2 rfl q2⟩
/-! ### a key in a dict -/
theorem se_din (oc : Oc X W Γ k) {n : Bool} (h1 : PE X a (LfE X.K W w1)) (h2 : PE X b (LfE X.K W w2)) : PC X (gopE n) a b (LfE X.K W fun ρ G Q E => w1 ρ G (fun y G1 => w2 ρ G1 (fun x G2 => ∃ kv kk, dkOf G2 x = some kv ∧ keyD y = some kk ∧ Q (.bl (negB n (lookD kv kk).isSome)) G2) E) E) := by
  have main : ∀ (σ : L2.St) (H : Hp) (Q : VK), LfE X.K W (fun ρ G Q E => w1 ρ G (fun y G1 => w2 ρ G1 (fun x G2 => ∃ kv kk, dkOf G2 x = some kv ∧ keyD y = some kk ∧ Q (.bl (negB n (lookD kv kk).isSome)) G2) E) E) σ H Q →
      LfE X.K W w1 σ H fun y H1 => LfE X.K W w2 σ H1 fun x H2 => ∃ p ov, x = .ref p ∧ DGet H2 p y ov ∧ Q (.bl (negB n ov.isSome)) H2 := by
    rintro σ H Q ⟨ρ, G, Qa, Ea, hE, hG, hw, hp, hx⟩
    refine ⟨ρ, G, _, Ea, hE, hG, hw, fun y G1 v H1 f g r q => ⟨ρ, G1, _, Ea, hE.mono (f.stab hG), g, q, fun z G2 u H2 f2 g2 r2 ⟨kv, kk, e1, e2, q2⟩ => ?_, hx.fra f⟩, hx⟩
    obtain ⟨p, vk, rfl, h3, h4⟩ := dkOf_inv g2 r2 e1
    cases keyV r e2
    refine ⟨p, valV vk kk, rfl, .inl ⟨vk, kk, .inl h3, rfl, rfl⟩, hp _ _ _ _ (f.trans f2) g2 (.bl _) ?_⟩
    rw [kd_some h4]
    exact q2
  cases n with
  | false => exact ⟨fun pins s σ H Q I q => (pc_din oc.u1 h1 h2).run pins s σ H Q I (main σ H Q q)⟩
  | true => exact ⟨fun pins s σ H Q I q => (pc_dnotin oc.u1 h1 h2).run pins s σ H Q I (main σ H Q q)⟩
/-! ### a def held by a local name -/
theorem pe_callSDL {CX : CXT} {i : Nat} {f : Addr} {fd : FuncData} {ps : List Str} {sp : Sp} {dvs : List V} {ds : List Value} {E : L2.St → XK} {x : Str} {t : TA} (F : FnOk X.prog X.w X.K X.mg X.base CX k f fd ps sp) (hr : Room k X.A) (hN : X.N[i]? = some x) (hv : Vis X.env.scope x)
    (hk : PySem.W.keepIn X.K (.ref f) = true) (hb : Binds X.K fd ps ds) (hd : Vals dvs ds) (hx : ∀ σ, PassesAt CX X σ (E σ)) (ha : PA X (e :: es) t) (hdb : (x == ("__debug__" : Str)) = false) (hcd : (x == ("__classdict__" : Str)) = false)
    (he : starEach (e :: es) X.env = (false, eval e X.env) :: starEach es X.env) (hpl : (backTo pos (starEach es X.env)).any (·.1) = false) :
    PE X (.Call (.Name x p) (e :: es) [] pos) (fun σ H Q => σ[i]? = some (some (.ref f)) ∧ tCallSD sp dvs E t σ H Q) := by
  refine ⟨fun pins s σ H Q I ⟨hs, ht⟩ => ?_⟩
  refine wpAny_Call_Name_kw (thn ((pe_var (pos := p) hN hv hdb hcd).run pins s σ H (fun v H1 => v = .ref f ∧ H1 = H) I ⟨.ref f, hs, rfl, rfl⟩) fun u s1 ⟨v, H1, I1, r1, q1, q2⟩ => ?_)
  subst q1 q2
  cases r1
  refine PySem.W.callWith_K (h₀ := X.base) I.ok.mod.kin hk (thn (ha.run pos pins s1 σ _ _ I1 ht) fun us s2 ⟨vs, H2, I2, r, q⟩ => ⟨I2.kIn, ?_⟩) he hpl
  exact run_fnSD F hr hb hd (hx σ) I2 r q
theorem se_callV (oc : Oc X W Γ k) {i : Nat} {x : Str} (hN : X.N[i]? = some x) (hv : Vis X.env.scope x) (hdb : (x == ("__debug__" : Str)) = false) (hcd : (x == ("__classdict__" : Str)) = false) (ha : PA X (e :: es) (LfA X.K W wa))
    (he1 : starEach (e :: es) X.env = (false, eval e X.env) :: starEach es X.env) (he2 : (backTo pos (starEach es X.env)).any (·.1) = false) :
    PE X (.Call (.Name x p) (e :: es) [] pos) (LfE X.K W fun ρ G Q E => match ρ[i]? with
      | some (some (.gf f)) => (match Γ.fn f with
        | some F => (F.ar ≤ (e :: es).length + F.dfl.length ∧ (e :: es).length ≤ F.ar) ∧ wa ρ G (fun ds G1 => F.con (ds ++ F.dfl.drop ((e :: es).length + F.dfl.length - F.ar)) G1 Q E) E
        | none => False)
      | _ => False) := by
  refine ⟨fun pins s σ H Q I ⟨ρ, G, Qa, Ea, hE, hG, hw, hp, hx⟩ => ?_⟩
  dsimp only at hw
  cases q : ρ[i]? with
  | none => rw [q] at hw; exact False.elim hw
  | some o =>
    cases o with
    | none => rw [q] at hw; exact False.elim hw
    | some d =>
      cases d with
      | gf f =>
        rw [q] at hw
        cases hF : Γ.fn f with
        | none => simp only [hF] at hw
        | some F =>
          simp only [hF] at hw
          obtain ⟨⟨h1, h2⟩, hw⟩ := hw
          obtain ⟨v, hs, rv⟩ := hE.2 i _ q
          obtain ⟨a, fd, ps, hok, hm, hk, hbind⟩ := oc.tb.fn f F hF
          have e0 := oc.tb.fa f F hF
          rw [hm] at e0
          cases e0
          cases rv
          obtain ⟨ds, dvs, hb, hvv, hd⟩ := hbind (e :: es).length h1 h2
          refine (pe_callSDL (E := WE W) hok oc.room hN hv hk hb hvv (fun σ => passAt oc.tk σ) ha hdb hcd he1 he2).run pins s σ H Q I ⟨hs, ?_⟩
          exact call_imp hd (fun _ _ _ z => z) σ H Q ⟨ρ, G, Qa, Ea, hE, hG, hw, hp, hx⟩
      | _ => rw [q] at hw; exact False.elim hw
/-! ### methods of texts -/
def SM.nm : SM → Str
  | .lower => "lower" | .upper => "upper" | .split => "split" | .startswith => "startswith" | .endswith => "endswith"
def SmA (K : PySem.W.Frag) (z : Bool) (m : SM) (r : V → List V → Hp → VK → Prop) : Prop :=
  ∀ (H : Hp) (a : Str) (xs : List V) (ds : List Dat) (G : AG) (Qa : AQ) (Q : VK), Reps K H xs ds → RelG K G H → smW z m a ds G Qa → PostZ K G H Qa Q → r (.str a) xs H Q
theorem strsD_rep {K : PySem.W.Frag} {H : Hp} : ∀ l : List Str, Reps K H (l.map V.str) (strsD l)
  | [] => .nil
  | x :: l => .cons (.str x) (strsD_rep l)
theorem sm_ok (X : Cx) (z : Bool) (m : SM) : ∃ id r, Slot "str" m.nm id ∧ typeOf (.builtin id) = pure (.type "method_descriptor") ∧ MtR X id r ∧ SmA X.K z m r := by
  cases m with
  | lower =>
    refine ⟨_, _, F.slot_str_lower, rfl, mt_lower, fun H a xs ds G Qa Q r g h p => ?_⟩
    match ds, h with
    | [], h => cases r; exact ⟨a, rfl, rfl, h.1, p.val g (.str _) h.2⟩
  | upper =>
    refine ⟨_, _, F.slot_str_upper, rfl, mt_upper, fun H a xs ds G Qa Q r g h p => ?_⟩
    match ds, h with
    | [], h => cases r; exact ⟨a, rfl, rfl, h.1, p.val g (.str _) h.2⟩
  | split =>
    refine ⟨_, _, F.slot_str_split, rfl, mt_split, fun H a xs ds G Qa Q r g h p => ?_⟩
    match ds, h with
    | [.str b], h =>
      obtain ⟨y, rfl, r1⟩ := reps1 r
      cases rep_s r1
      exact ⟨a, b, rfl, rfl, h.1.1, h.1.2, rep_newL g (strsD_rep _) h.2 p⟩
  | startswith =>
    refine ⟨_, _, F.slot_str_startswith, rfl, mt_startswith, fun H a xs ds G Qa Q r g h p => ?_⟩
    match ds, h with
    | [.str b], h =>
      obtain ⟨y, rfl, r1⟩ := reps1 r
      cases rep_s r1
      exact ⟨a, b, rfl, rfl, p.val g (.bl _) h⟩
  | endswith =>
    refine ⟨_, _, F.slot_str_endswith, rfl, mt_endswith, fun H a xs ds G Qa Q r g h p => ?_⟩
    match ds, h with
    | [.str b], h =>
      obtain ⟨y, rfl, r1⟩ := reps1 r
      cases rep_s r1
      exact ⟨a, b, rfl, rfl, p.val g (.bl _) h⟩
theorem se_smeth {z : Bool} {m : SM} (h1 : PE X b (LfE X.K W w1)) (ha : PA X (a :: es) (LfA X.K W wa))
    (hbase : attributeBase b m.nm X.env (eval b X.env) = eval b X.env)
    (hfew : ((backTo pos (starEach (a :: es) X.env)).all (fun x => !x.1) && (backToKw pos (keywordEach [] X.env)).all (fun x => x.1.isSome)
      && decide ((a :: es).length + ([] : List Keyword).length + (if ([] : List Keyword).isEmpty then 0 else 1) < 30)) = true)
    (hline : (apos.endLine == pos.line) = true) (he1 : starEach (a :: es) X.env = (false, eval a X.env) :: starEach es X.env) (he2 : (backTo pos (starEach es X.env)).any (·.1) = false) :
    PE X (.Call (.Attribute b m.nm apos) (a :: es) [] pos) (LfE X.K W fun ρ G Q E => w1 ρ G (fun x G1 => ∃ s, strD x = some s ∧ wa ρ G1 (fun ds G2 => smW z m s ds G2 Q) E) E) := by
  obtain ⟨id, r, k1, k2, k3, k4⟩ := sm_ok X z m
  refine PE.imp (pe_z (pe_bm F.plainAttrs_str k1 k2 k3 h1 ha hbase hfew hline he1 he2)) ?_
  rintro σ H Q ⟨ρ, G, Qa, Ea, hE, hG, hw, hp, hx⟩
  refine ⟨ρ, G, _, Ea, hE, hG, hw, fun d G1 v H1 f g r1 ⟨s, e, q⟩ => ?_, hx⟩
  obtain ⟨rfl, _⟩ := strD_inv r1 e
  exact ⟨rfl, ρ, G1, _, Ea, hE.mono (f.stab hG), g, q, fun e G2 u H2 f2 g2 r2 q2 => k4 H2 s u e G2 Qa _ r2 g2 q2 (postZ fun d' G' v' H' f3 => hp d' G' v' H' ((f.trans f2).trans f3)), hx.fra f⟩
theorem se_smeth0 {z : Bool} {m : SM} (h1 : PE X b (LfE X.K W w1)) (hbase : attributeBase b m.nm X.env (eval b X.env) = eval b X.env) (hline : (apos.endLine == pos.line) = true) :
    PE X (.Call (.Attribute b m.nm apos) [] [] pos) (LfE X.K W fun ρ G Q E => w1 ρ G (fun x G1 => ∃ s, strD x = some s ∧ smW z m s [] G1 Q) E) := by
  obtain ⟨id, r, k1, k2, k3, k4⟩ := sm_ok X z m
  refine PE.imp (pe_z (pe_bm0 F.plainAttrs_str k1 k2 k3 h1 hbase hline)) ?_
  rintro σ H Q ⟨ρ, G, Qa, Ea, hE, hG, hw, hp, hx⟩
  refine ⟨ρ, G, _, Ea, hE, hG, hw, fun d G1 v H1 f g r1 ⟨s, e, q⟩ => ?_, hx⟩
  obtain ⟨rfl, _⟩ := strD_inv r1 e
  exact ⟨rfl, k4 H1 s [] [] G1 Qa _ .nil g q (postZ fun d' G' v' H' f3 => hp d' G' v' H' (f.trans f3))⟩
theorem se_six (hs : PlainIx b) (h1 : PE X a (LfE X.K W w1)) (h2 : PE X b (LfE X.K W w2)) :
    PE X (.Subscript a b pos) (LfE X.K W fun ρ G Q E => w1 ρ G (fun x G1 => w2 ρ G1 (fun y G2 => ∃ s i c, strD x = some s ∧ y = .int i ∧ s.length ≤ sizeLine ∧ L2.atI s.cps.toList i = some c ∧ Q (.str ⟨#[c]⟩) G2) E) E) := by
  refine PE.imp (pe_ix ix_str h1 h2 hs) ?_
  rintro σ H Q ⟨ρ, G, Qa, Ea, hE, hG, hw, hp, hx⟩
  refine ⟨ρ, G, _, Ea, hE, hG, hw, fun y G1 v H1 f g r q => ⟨ρ, G1, _, Ea, hE.mono (f.stab hG), g, q, fun z G2 u H2 f2 g2 r2 ⟨s, i, c, e1, e2, e3, e4, q2⟩ => ?_, hx.fra f⟩, hx⟩
  obtain ⟨rfl, _⟩ := strD_inv r e1
  subst e2
  cases rep_i r2
  exact ⟨s, i, c, rfl, rfl, e3, e4, hp _ _ _ _ (f.trans f2) g2 (.str _) q2⟩
/-! ### a list, back to front -/
theorem se_rev {k0 : Nat} {p1 p2 p3 : Pos} (h1 : PE X a (LfE X.K W w1)) : PE X (.Subscript a (.Slice none none (some (.UnaryOp .USub (.Constant (.int 1) k0 p1) p2)) p3) pos) (LfE X.K W fun ρ G Q E => w1 ρ G (fun x G1 => ∃ ds, lstOf G1 x = some ds ∧ ds.length ≤ sizeLine ∧ Q (.lst ds.reverse) G1) E) := by
  refine PE.imp (pe_z (pe_revL h1)) ?_
  rintro σ H Q ⟨ρ, G, Qa, Ea, hE, hG, hw, hp, hx⟩
  refine ⟨ρ, G, _, Ea, hE, hG, hw, fun y G1 v H1 f g r ⟨ds, e, hz, q⟩ => ?_, hx⟩
  obtain ⟨l, vs, rfl, k1, r1⟩ := lstOf_rd g r e
  have sq : SqL X.K H1 l vs := .inl k1
  exact ⟨l, vs, rfl, sq, rep_newL (z := true) g r1.reverse (show nw true ds.reverse G1 Qa from ⟨by rw [List.length_reverse]; exact hz, q⟩) (postZ fun d' G' v' H' f3 => hp d' G' v' H' (f.trans f3))⟩
end
end Av


set_option Elab.async false
set_option linter.all false
set_option maxRecDepth 100000
set_option maxHeartbeats 4000000
/-! # Av7: comprehensions -/
namespace Av
open PySem PySem.Spec PyProof.Rows L2
variable [Tb]
section
variable {K : PySem.W.Frag} {G G1 : AG} {H H1 : Hp} {D : Addr}
theorem RelG.updU {xs ys : List V} (g : RelG K G H) (n : G D = none) (h : H D = some (.lst xs)) : RelG K G (upd H D (.lst ys)) := ⟨fun a w q => by
  have d : a ≠ D := fun z => by rw [z, n] at q; cases q
  exact (g.g a w q).mono (.lst h) (upd_ne d), tabs_soft g.t h Soft.lst⟩
theorem Fra.updU {xs ys : List V} (f : Fra G1 H1 G H) (e : H1 D = none) (h : H D = some (.lst xs)) : Fra G1 H1 G (upd H D (.lst ys)) := fun a o q t n => by
  have d : a ≠ D := fun z => by rw [z, e] at q; cases q
  obtain ⟨h1, h2⟩ := f a o q t n
  exact ⟨by rw [upd_ne d]; exact h1, h2⟩
end
theorem wipe_wipe {σ : L2.St} {vs : List Nat} : L2.wipe (L2.wipe σ vs) vs = L2.wipe σ vs := by
  refine List.ext_getElem? fun j => ?_
  rw [wipe_get, wipe_get]
  by_cases h : j ∈ vs
  · rw [if_pos h, if_pos h]
    cases σ[j]? <;> rfl
  · rw [if_neg h]
abbrev WF : WX := fun _ _ _ _ => False
theorem takesF {X : Cx} : Takes X WF := fun _ _ ⟨_, _, _, _, _, _, _, _, _, _, _, _, _, _, _, _, w⟩ => False.elim w
theorem postX_no {K : PySem.W.Frag} {G : AG} {H : Hp} {W : XK} : PostX K G H noX W := fun _ _ _ _ _ _ _ _ z => False.elim z
theorem Oc.blk {X : Cx} {W : WX} {Γ : Gam} {k : Nat} (oc : Oc X W Γ k) (s : Shared) (H : Hp) (scope : Scope) (env : Env) (fp : List Addr) : Oc (X.blk s H scope env fp) WF Γ k :=
  ⟨oc.room, oc.nd, oc.calm, takesF, oc.tb⟩
abbrev WfE := Env' → AG → AQ → AX → Prop
abbrev WfT := Env' → AG → (Bool → AG → Prop) → AX → Prop
abbrev WfI := Env' → AG → (List Dat → Gd → AG → Prop) → AX → Prop
/-- a comprehension's transformer from its parts -/
def lcG (z : Bool) (wi : WfI) (wt : WfT) (we : WfE) (g : TGt) (own : List Nat) : WfE := fun ρ G Q E => wi ρ G (fun ds gd G1 => lcIfW z (fun ρ1 G Q => wt ρ1 G Q noX) (fun ρ1 G Q => we ρ1 G Q noX) g own gd ρ Q ds [] G1) E
theorem lcW_if {z : Bool} {elt : Env' → AG → AQ → Prop} {g : TGt} {own : List Nat} {gd : Gd} {ρ : Env'} {Q : AQ} : ∀ (ds acc : List Dat) (G : AG), lcIfW z (fun _ G Q => Q true G) elt g own gd ρ Q ds acc G = lcW z elt g own gd ρ Q ds acc G
  | [], _, _ => rfl
  | d :: ds, acc, G => by
    simp only [lcIfW, lcW, if_true]
    have ih := fun acc G => lcW_if (z := z) (elt := elt) (g := g) (own := own) (gd := gd) (ρ := ρ) (Q := Q) ds acc G
    simp only [ih]
section
variable {X : Cx} {W : WX} {Γ : Gam} {k : Nat} {own : List (Str × Nat)} {g : TGt} {wi : WfI} {wt : WfT} {we : WfE} {tt : TT}
theorem lc_imp {z : Bool} (hix : ∀ i ∈ tgIx g, i ∈ own.map (·.2)) (σ : L2.St) (H : Hp) (Q Q' : VK) (hq : ∀ v H, Qz Q v H → Q' v H)
    (htt : ∀ (σ : L2.St) (H : Hp) (Q : Bool → Hp → Prop) ρ G Qa, RelE X.K H ρ σ → RelG X.K G H → wt ρ G Qa noX → (∀ b G' H', Fra G H G' H' → RelG X.K G' H' → Qa b G' → Q b H') → tt σ H Q)
    (h : LfE X.K W (lcG z wi wt we g (own.map (·.2))) σ H Q) : tLc (LfI X.K W wi) (LfG X.K g) tt (LfE X.K WF we) (own.map (·.2)) σ H Q' := by
  obtain ⟨ρ, G, Qa, Ea, hE, hG, hw, hp, hx⟩ := h
  refine ⟨ρ, G, _, Ea, hE, hG, hw, fun ds gd G1 J H1 f1 g1 gk1 it q1 D hD => ?_, hx⟩
  have nD1 : G1 D = none := g1.free hD
  refine ⟨fun i m H2 => m = ds.length - i ∧ i ≤ ds.length ∧ ∃ G2 acc accV, RelG X.K G2 H2 ∧ G2 D = none ∧ H2 D = some (.lst accV) ∧ Reps X.K H2 accV acc ∧ Fra G1 H1 G2 H2 ∧ lcIfW z (fun ρ1 G Q => wt ρ1 G Q noX) (fun ρ1 G Q => we ρ1 G Q noX) g (own.map (·.2)) gd ρ Qa (ds.drop i) acc G2,
    ⟨ds.length, by simp, Nat.zero_le _, G1, [], [], g1.newT hD, nD1, upd_same, .nil, .newT hD, q1⟩, ?_⟩
  rintro i m H2 ⟨rfl, hi, G2, acc, accV, g2, n2, h2, r2, f2, w2⟩
  have st2 : Stab H1 H2 := f2.stab g1
  by_cases hlt : i < ds.length
  · rw [List.drop_eq_getElem_cons hlt] at w2
    obtain ⟨gk, w2⟩ := w2
    refine .inr ⟨it.go i H2 G2 st2 g2 gk hlt, fun H' => ∃ G3 acc accV, RelG X.K G3 H' ∧ G3 D = none ∧ H' D = some (.lst accV) ∧ Reps X.K H' accV acc ∧ Fra G1 H1 G3 H' ∧ lcIfW z (fun ρ1 G Q => wt ρ1 G Q noX) (fun ρ1 G Q => we ρ1 G Q noX) g (own.map (·.2)) gd ρ Qa (ds.drop (i + 1)) acc G3,
      fun H' q => ⟨ds.length - (i + 1), by omega, rfl, hlt, q⟩, fun x H3 hy => ?_⟩
    obtain ⟨d, hd, f3, g3, rx⟩ := it.yld i H2 G2 x H3 st2 g2 gk hlt hy
    rw [List.getElem?_eq_getElem hlt] at hd
    cases hd
    have f13 := f2.trans f3
    refine ⟨wipeD ρ (own.map (·.2)), G2, _, _, (hE.mono ((f1.trans f13).stab hG)).wipe _, g3, rx, w2, fun ρ1 σ1 e1 hwp w3 => ⟨(hwp _ hix).trans wipe_wipe, ?_⟩⟩
    obtain ⟨h3, n3⟩ := f3 D _ h2 (fun _ z => by cases z) n2
    have r3 := r2.mono (f3.stab g2)
    refine htt σ1 H3 _ ρ1 G2 _ e1 g3 w3 fun b G4 H4 f4 g4 w4 => ?_
    obtain ⟨h4, n4⟩ := f4 D _ h3 (fun _ z => by cases z) n3
    cases b with
    | false =>
      rw [if_neg (by simp)] at w4 ⊢
      exact ⟨G4, acc, accV, g4, n4, h4, r3.mono (f4.stab g3), f13.trans f4, w4⟩
    | true =>
      rw [if_pos rfl] at w4 ⊢
      refine ⟨ρ1, G4, _, noX, e1.mono (f4.stab g3), g4, w4, fun y G5 v H5 f5 g5 r5 w5 => ?_, postX_no⟩
      obtain ⟨h5, n5⟩ := f5 D _ h4 (fun _ z => by cases z) n4
      have r4 := (r3.mono (f4.stab g3)).mono (f5.stab g4)
      refine ⟨accV, h5, by rw [r4.length]; exact w5.1, G5, acc ++ [y], accV ++ [v], g5.updU n5 h5, n5, upd_same, (r4.append (.one r5)).mono (.lst h5), ((f13.trans f4).trans f5).updU hD h5, w5.2⟩
  · have e : i = ds.length := by omega
    subst e
    rw [List.drop_length] at w2
    obtain ⟨gk, w2⟩ := w2
    refine .inl ⟨it.stop _ H2 G2 st2 g2 gk (Nat.le_refl _), ?_⟩
    have f12 := f1.trans f2
    cases z with
    | true =>
      rw [if_pos rfl] at w2
      refine hq _ _ (.inr ⟨D, accV, rfl, h2, fun o => hp (.lst acc) G2 (.ref D) _ (fun a u q t n => ?_) ⟨fun a u q => ?_, tabs_soft g2.t h2 Soft.lst⟩ (.lst ⟨o, upd_same⟩ (r2.mono (.lst h2))) w2⟩)
      · obtain ⟨h6, n6⟩ := f1 a u q t n
        obtain ⟨h7, n7⟩ := f2 a u h6 t n6
        have d : a ≠ D := fun z => by rw [z, hD] at h6; cases h6
        exact ⟨by rw [upd_ne d]; exact h7, n7⟩
      · have d : a ≠ D := fun z => by rw [z, n2] at q; cases q
        exact (g2.g a u q).mono (.lst h2) (upd_ne d)
    | false =>
    rw [if_neg (by simp)] at w2
    refine hq _ _ (.inl (hp (.ref D) (gu G2 D (.lst acc)) (.ref D) H2 (fun a o q t n => ?_) ⟨fun a o q => ?_, g2.t⟩ (.ref D) (w2 D n2)))
    · obtain ⟨h6, n6⟩ := f1 a o q t n
      obtain ⟨h7, n7⟩ := f2 a o h6 t n6
      have d : a ≠ D := fun z => by rw [z, hD] at h6; cases h6
      exact ⟨h7, by rw [gu_ne d]; exact n7⟩
    · by_cases ha : a = D
      · subst ha
        rw [gu_same] at q
        cases q
        exact ⟨accV, h2, r2⟩
      · rw [gu_ne ha] at q
        exact g2.g a o q
theorem yes_imp (K : PySem.W.Frag) (σ : L2.St) (H : Hp) (Q : Bool → Hp → Prop) (ρ : Env') (G : AG) (Qa : Bool → AG → Prop) (hE : RelE K H ρ σ) (hG : RelG K G H) (hw : Qa true G) (hp : ∀ b G' H', Fra G H G' H' → RelG K G' H' → Qa b G' → Q b H') : tYes σ H Q := hp true G H .refl hG hw
theorem tst_imp (K : PySem.W.Frag) (σ : L2.St) (H : Hp) (Q : Bool → Hp → Prop) (ρ : Env') (G : AG) (Qa : Bool → AG → Prop) (hE : RelE K H ρ σ) (hG : RelG K G H) (hw : wt ρ G Qa noX) (hp : ∀ b G' H', Fra G H G' H' → RelG K G' H' → Qa b G' → Q b H') : LfT K WF wt σ H Q :=
  ⟨ρ, G, Qa, noX, hE, hG, hw, fun d G' v H' f g r q => by cases r; exact hp d G' H' f g q, postX_no⟩
variable {elt tg iter : Expr} {ifs : List Expr} {scope : Scope} {pos : Pos}
theorem se_lcG {z : Bool} (oc : Oc X W Γ k) (hi : PI X tg iter (LfI X.K W wi)) (ok : BlkOk X.N X.env.scope scope own) (hix : ∀ i ∈ tgIx g, i ∈ own.map (·.2))
    (hg : ∀ (s : Shared) (H : Hp) (C : Addr) (cl : List (Str × Addr)) (fp : List Addr), PG (X.blk s H scope (compEnvC scope cl C X.env) fp) tg (LfG X.K g))
    (ht : ∀ (s : Shared) (H : Hp) (C : Addr) (cl : List (Str × Addr)) (fp : List Addr), PTs (X.blk s H scope (compEnvC scope cl C X.env) fp) ifs tt)
    (he : ∀ (s : Shared) (H : Hp) (C : Addr) (cl : List (Str × Addr)) (fp : List Addr), PE (X.blk s H scope (compEnvC scope cl C X.env) fp) elt (LfE X.K WF we)) (hs : ∀ x, foldedSetIterable iter X.env x = pure x)
    (htt : ∀ (σ : L2.St) (H : Hp) (Q : Bool → Hp → Prop) ρ G Qa, RelE X.K H ρ σ → RelG X.K G H → wt ρ G Qa noX → (∀ b G' H', Fra G H G' H' → RelG X.K G' H' → Qa b G' → Q b H') → tt σ H Q) :
    PE X (.ListComp elt [⟨tg, iter, ifs, 0⟩] scope pos) (LfE X.K W (lcG z wi wt we g (own.map (·.2)))) :=
  PE.imp (pe_z (pe_lc oc.calm oc.nd hi ok hg ht he hs)) fun σ H Q h => lc_imp hix σ H Q _ (fun _ _ z => z) htt h
end
end Av


set_option Elab.async false
set_option linter.all false
set_option maxRecDepth 100000
set_option maxHeartbeats 4000000
/-! # Av8: statements -/
namespace Av
open PySem PySem.Spec PyProof.Rows L2
variable [Tb]

/-- the told ends and the tracked ones -/
structure Ln (K : PySem.W.Frag) (W : WX) (G : AG) (H : Hp) (A : AEnds) (D : Ends) : Prop where
  nx : ∀ ρ' G' σ' H', Fra G H G' H' → RelE K H' ρ' σ' → RelG K G' H' → A.nx ρ' G' → D.nx σ' H'
  rt : PostE K G H A.rt D.rt
  bk : ∀ ρ' G' σ' H', Fra G H G' H' → RelE K H' ρ' σ' → RelG K G' H' → A.bk ρ' G' → D.bk σ' H'
  ct : ∀ ρ' G' σ' H', Fra G H G' H' → RelE K H' ρ' σ' → RelG K G' H' → A.ct ρ' G' → D.ct σ' H'
  ex : ∀ ρ' G' σ' H', Fra G H G' H' → RelE K H' ρ' σ' → PostX K G' H' (A.ex ρ') fun c dx H'' => W c dx σ' H''
section
variable {K : PySem.W.Frag} {W : WX} {G G1 : AG} {H H1 : Hp} {A : AEnds} {D : Ends}
theorem Ln.fra (l : Ln K W G H A D) (f : Fra G H G1 H1) : Ln K W G1 H1 A D :=
  ⟨fun a b c d f2 => l.nx a b c d (f.trans f2), l.rt.fra f, fun a b c d f2 => l.bk a b c d (f.trans f2), fun a b c d f2 => l.ct a b c d (f.trans f2), fun a b c d f2 => l.ex a b c d (f.trans f2)⟩
theorem Ln.x (l : Ln K W G H A D) {ρ : Env'} {σ : L2.St} (h : RelE K H ρ σ) : PostX K G H (A.ex ρ) fun c dx H'' => W c dx σ H'' := l.ex ρ G σ H .refl h
theorem Ln.with (l : Ln K W G H A D) (n : Env' → AG → Prop) (n' : L2.St → Hp → Prop) (h : ∀ ρ' G' σ' H', Fra G H G' H' → RelE K H' ρ' σ' → RelG K G' H' → n ρ' G' → n' σ' H') : Ln K W G H { A with nx := n } { D with nx := n' } := ⟨h, l.rt, l.bk, l.ct, l.ex⟩
end
abbrev WfS := Env' → AG → AEnds → Prop
def LfS (K : PySem.W.Frag) (W : WX) (w : WfS) : TS := fun D σ H => ∃ ρ G A, RelE K H ρ σ ∧ RelG K G H ∧ w ρ G A ∧ Ln K W G H A D
section
variable {X : Cx} {W : WX} {e e1 e2 : Expr} {st : Stmt} {pos : Pos} {we w1 w2 w3 : WfE} {wt : WfT} {wi : WfI} {ws wr : WfS} {a b : List Stmt}
theorem sss_nil : PSs X [] (LfS X.K W fun ρ G A => A.nx ρ G) := PSs.imp pss_nil fun D σ H ⟨ρ, G, A, hE, hG, hw, l⟩ => l.nx ρ G σ H .refl hE hG hw
theorem sss_cons (h1 : PS X st (LfS X.K W ws)) (h2 : PSs X b (LfS X.K W wr)) : PSs X (st :: b) (LfS X.K W fun ρ G A => ws ρ G { A with nx := fun ρ' G' => wr ρ' G' A }) :=
  PSs.imp (pss_cons h1 h2) fun D σ H ⟨ρ, G, A, hE, hG, hw, l⟩ => ⟨ρ, G, _, hE, hG, hw, l.with _ _ fun ρ' G' σ' H' f hE' hG' q => ⟨ρ', G', A, hE', hG', q, l.fra f⟩⟩
theorem ss_set {i : Nat} {x : Str} {pos' : Pos} (hN : X.N.Nodup) (hi : X.N[i]? = some x) (hx : Loc X.env.scope x) (he : PE X e (LfE X.K W we)) (hs : swapsWith e (some (.Name x pos')) pos.line X.env = pure false)
    (hf : X.fn x = true ∨ X.env.scope.names.lookup x = some .local) : PS X (.Assign [.Name x pos'] e pos) (LfS X.K W fun ρ G A => we ρ G (fun d G1 => A.nx (ρ.set i (some d)) G1) (A.ex ρ)) :=
  PS.imp (ps_set hN hi hx he hs hf) fun D σ H ⟨ρ, G, A, hE, hG, hw, l⟩ => ⟨ρ, G, _, _, hE, hG, hw, fun d G1 v H1 f g r q => l.nx _ G1 _ H1 f ((hE.mono (f.stab hG)).set r) g q, l.x hE⟩
theorem ps_z {te : TE} {i : Nat} (h : PS X st (tAsg te (gName i))) : PS X st fun D σ H => ∀ Q' : VK, (∀ v H1, Qz (fun x H1 => D.nx (σ.set i (some x)) H1) v H1 → Q' v H1) → te σ H Q' := by
  refine ⟨fun pins s σ H D I hq => ?_⟩
  refine thn (h.run pins s σ H { D with nx := fun σ' H' => D.nx σ' H' ∨ ∃ a vs, H' a = some (.lst vs) ∧ ∀ o, D.nx σ' (upd H' a (.frz o (.lst vs))) } I ?_) fun fl s1 q => ?_
  · refine hq _ fun v H1 q => ?_
    rcases q with q | ⟨a, vs, rfl, ha, q⟩
    · exact .inl q
    · exact .inr ⟨a, vs, ha, q⟩
  · cases fl with
    | brk => exact q
    | cont => exact q
    | ret v => exact q
    | next =>
      obtain ⟨σ1, H1, I1, q | ⟨a, vs, ha, q⟩⟩ := q
      · exact ⟨σ1, H1, I1, q⟩
      · obtain ⟨z, its, n, _, _, ho⟩ := I1.lstM ha
        exact ⟨σ1, _, Inv.frozen I1 ha ho, q _⟩
/-- a comprehension that is stored -/
theorem ss_setLc {z : Bool} {Γ : Gam} {k i : Nat} {y : Str} {py spos : Pos} {own : List (Str × Nat)} {g : TGt} {tt : TT} {elt tg iter : Expr} {ifs : List Expr} {scope : Scope} (oc : Oc X W Γ k) (hy : X.N[i]? = some y) (hyl : X.env.scope.names.lookup y = some .local)
    (hsw : swapsWith (.ListComp elt [⟨tg, iter, ifs, 0⟩] scope pos) (some (.Name y py)) spos.line X.env = pure true) (hi : PI X tg iter (LfI X.K W wi)) (ok : BlkOk X.N X.env.scope scope own) (hix : ∀ i ∈ tgIx g, i ∈ own.map (·.2))
    (hg : ∀ (s : Shared) (H : Hp) (C : Addr) (cl : List (Str × Addr)) (fp : List Addr), PG (X.blk s H scope (compEnvC scope cl C X.env) fp) tg (LfG X.K g))
    (ht : ∀ (s : Shared) (H : Hp) (C : Addr) (cl : List (Str × Addr)) (fp : List Addr), PTs (X.blk s H scope (compEnvC scope cl C X.env) fp) ifs tt)
    (he : ∀ (s : Shared) (H : Hp) (C : Addr) (cl : List (Str × Addr)) (fp : List Addr), PE (X.blk s H scope (compEnvC scope cl C X.env) fp) elt (LfE X.K WF we)) (hs : ∀ x, foldedSetIterable iter X.env x = pure x)
    (htt : ∀ (σ : L2.St) (H : Hp) (Q : Bool → Hp → Prop) ρ G Qa, RelE X.K H ρ σ → RelG X.K G H → wt ρ G Qa noX → (∀ b G' H', Fra G H G' H' → RelG X.K G' H' → Qa b G' → Q b H') → tt σ H Q) :
    PS X (.Assign [.Name y py] (.ListComp elt [⟨tg, iter, ifs, 0⟩] scope pos) spos) (LfS X.K W fun ρ G A => lcG z wi wt we g (own.map (·.2)) ρ G (fun d G1 => A.nx (ρ.set i (some d)) G1) (A.ex ρ)) :=
  PS.imp (ps_z (ps_setLc oc.calm oc.nd hy hyl hsw hi ok hg ht he hs)) fun D σ H ⟨ρ, G, A, hE, hG, hw, l⟩ Q' hq => lc_imp hix σ H _ Q' hq htt ⟨ρ, G, _, _, hE, hG, hw, fun d G1 v H1 f g r q => l.nx _ G1 _ H1 f ((hE.mono (f.stab hG)).set r) g q, l.x hE⟩
theorem set_inj {ρ : Env'} {i : Nat} {d d' : Dat} (h : i < ρ.length) (e : ρ.set i (some d) = ρ.set i (some d')) : d = d' := by
  have q := congrArg (fun l : Env' => l[i]?) e
  simp only [List.getElem?_set_self h, Option.some.injEq] at q
  exact q
theorem ss_frz {i : Nat} {x : Str} (hi : X.N[i]? = some x) (h : PS X st (LfS X.K W fun ρ G A => we ρ G (fun d G1 => A.nx (ρ.set i (some d)) G1) (A.ex ρ))) :
    PS X st (LfS X.K W fun ρ G A => we ρ G (fun d G1 => frzW d G1 fun d' G2 => A.nx (ρ.set i (some d')) G2) (A.ex ρ)) := by
  refine ⟨fun pins s σ H D I ⟨ρ, G, A, hE, hG, hw, l⟩ => ?_⟩
  have hlt : i < ρ.length := by
    rw [hE.1, I.len]
    exact (List.getElem?_eq_some_iff.mp hi).1
  let n1 : Env' → AG → Prop := fun ρ' G1 => ∃ d, ρ' = ρ.set i (some d) ∧ frzW d G1 fun d' G2 => A.nx (ρ.set i (some d')) G2
  have eq : (fun d G1 => n1 (ρ.set i (some d)) G1) = (fun d G1 => frzW d G1 fun d' G2 => A.nx (ρ.set i (some d')) G2) := by
    funext d G1
    exact propext ⟨fun ⟨d', e, q⟩ => by rw [set_inj hlt e]; exact q, fun q => ⟨d, rfl, q⟩⟩
  let n2 : L2.St → Hp → Prop := fun σ' H' => ∃ ρ' G', Fra G H G' H' ∧ RelE X.K H' ρ' σ' ∧ RelG X.K G' H' ∧ n1 ρ' G'
  refine thn (h.run pins s σ H { D with nx := n2 } I ⟨ρ, G, { A with nx := n1 }, hE, hG, ?_, l.with n1 n2 fun ρ' G' σ' H' f a b c => ⟨ρ', G', f, a, b, c⟩⟩) fun fl s1 q => ?_
  · show we ρ G (fun d G1 => n1 (ρ.set i (some d)) G1) (A.ex ρ)
    rw [eq]
    exact hw
  · cases fl with
    | brk => exact q
    | cont => exact q
    | ret v => exact q
    | next =>
      obtain ⟨σ1, H1, I1, ρ1, G1, f1, e1, g1, d, rfl, q⟩ := q
      obtain ⟨v, hv, rv⟩ := e1.2 i d (List.getElem?_set_self hlt)
      have fin : ∀ d' G2 H2, Fra G1 H1 G2 H2 → RelG X.K G2 H2 → Rep X.K H2 v d' → A.nx (ρ.set i (some d')) G2 → D.nx σ1 H2 := fun d' G2 H2 f2 g2 r2 q2 => by
        refine l.nx _ G2 σ1 H2 (f1.trans f2) ⟨by rw [List.length_set, ← e1.1, List.length_set], fun j c hj => ?_⟩ g2 q2
        by_cases hij : i = j
        · subst hij
          rw [List.getElem?_set_self hlt] at hj
          cases hj
          exact ⟨v, hv, r2⟩
        · rw [List.getElem?_set_ne hij] at hj
          obtain ⟨u, h1, h2⟩ := e1.2 j c (by rw [List.getElem?_set_ne hij]; exact hj)
          exact ⟨u, h1, h2.mono (f2.stab g1)⟩
      rcases frzW_inv q with ⟨p, ds, rfl, ep, q1⟩ | q1
      · cases rep_r rv
        obtain ⟨vs, h2, h3⟩ := g1.lst ep
        obtain ⟨z, its, n, _, _, ho⟩ := I1.lstM h2
        obtain ⟨f2, g2, r2⟩ := frz_step (o := { cls := .type "list", data := .seq its.toArray n }) g1 ep h2 h3
        exact ⟨σ1, _, Inv.frozen I1 h2 ho, fin _ _ _ f2 g2 r2 q1⟩
      · exact ⟨σ1, H1, I1, fin _ _ _ .refl g1 rv q1⟩
theorem ss_setTp {ts : List Expr} {is : List Nat} {kk : Nat} {pt : Pos} (hc : X.calm = true) (hN : X.N.Nodup) (h : nmsOk X ts is) (he : PE X e (LfE X.K W we)) (hs : swapsWithSole [.Tuple ts kk pt] e pos.line X.env = pure false)
    (hw : swappedStores [.Tuple ts kk pt] e X.env = pure none) : PS X (.Assign [.Tuple ts kk pt] e pos) (LfS X.K W fun ρ G A => we ρ G (fun d G1 => tgW (.tp is) d ρ fun ρ1 => A.nx ρ1 G1) (A.ex ρ)) :=
  PS.imp (ps_asg he (sg_tp (pos := pt) hc hN h) hs hw rfl) fun D σ H ⟨ρ, G, A, hE, hG, hq, l⟩ => ⟨ρ, G, _, _, hE, hG, hq, fun d G1 v H1 f g r q => ⟨ρ, G1, d, _, hE.mono (f.stab hG), g, r, q, fun ρ' σ' e' _ q' => l.nx ρ' G1 σ' H1 f e' g q'⟩, l.x hE⟩
theorem ss_par2 {i j : Nat} {x y : Str} {a b : Expr} {px py pt : Pos} {kt k2 pt2} (hc : X.calm = true) (hN : X.N.Nodup) (hi : X.N[i]? = some x) (hj : X.N[j]? = some y) (hij : i ≠ j)
    (hx : X.env.scope.names.lookup x = some .local) (hy : X.env.scope.names.lookup y = some .local) (h1 : PE X a (LfE X.K W w1)) (h2 : PE X b (LfE X.K W w2)) (hs1 : starEach [a, b] X.env = (false, eval a X.env) :: starEach [b] X.env) (hs2 : starEach [b] X.env = [(false, eval b X.env)])
    (hw : swappedStores [.Tuple [.Name x px, .Name y py] kt pt] (.Tuple [a, b] k2 pt2) X.env = pure (some [x, y]))
    (hs : swapsWithSole [.Tuple [.Name x px, .Name y py] kt pt] (.Tuple [a, b] k2 pt2) pos.line X.env = pure false) :
    PS X (.Assign [.Tuple [.Name x px, .Name y py] kt pt] (.Tuple [a, b] k2 pt2) pos) (LfS X.K W fun ρ G A => w1 ρ G (fun x G1 => w2 ρ G1 (fun y G2 => A.nx ((ρ.set i (some x)).set j (some y)) G2) (A.ex ρ)) (A.ex ρ)) :=
  PS.imp (ps_par hc hN hi hj hij hx hy (pa_cons h1 (pa_cons h2 pa_nil hs2) hs1) hw hs) fun D σ H ⟨ρ, G, A, hE, hG, hq, l⟩ => ⟨ρ, G, _, _, hE, hG, hq, fun d G1 v H1 f g r q => ⟨ρ, G1, _, _, hE.mono (f.stab hG), g, q,
    fun d2 G2 u H2 f2 g2 r2 q2 => ⟨v, u, rfl, l.nx _ G2 _ H2 (f.trans f2) (((hE.mono ((f.trans f2).stab hG)).set (r.mono (f2.stab g))).set r2) g2 q2⟩, (l.fra f).x (hE.mono (f.stab hG))⟩, l.x hE⟩
theorem ss_par3 {i j m : Nat} {x y z : Str} {a b c : Expr} {px py pz pt : Pos} {kt k2 pt2} (hc : X.calm = true) (hN : X.N.Nodup) (hi : X.N[i]? = some x) (hj : X.N[j]? = some y) (hm : X.N[m]? = some z) (hij : i ≠ j) (him : i ≠ m) (hjm : j ≠ m)
    (hx : X.env.scope.names.lookup x = some .local) (hy : X.env.scope.names.lookup y = some .local) (hz : X.env.scope.names.lookup z = some .local) (h1 : PE X a (LfE X.K W w1)) (h2 : PE X b (LfE X.K W w2)) (h3 : PE X c (LfE X.K W w3))
    (hs1 : starEach [a, b, c] X.env = (false, eval a X.env) :: starEach [b, c] X.env) (hs2 : starEach [b, c] X.env = (false, eval b X.env) :: starEach [c] X.env) (hs3 : starEach [c] X.env = [(false, eval c X.env)])
    (hw : swappedStores [.Tuple [.Name x px, .Name y py, .Name z pz] kt pt] (.Tuple [a, b, c] k2 pt2) X.env = pure (some [x, y, z]))
    (hs : swapsWithSole [.Tuple [.Name x px, .Name y py, .Name z pz] kt pt] (.Tuple [a, b, c] k2 pt2) pos.line X.env = pure false) :
    PS X (.Assign [.Tuple [.Name x px, .Name y py, .Name z pz] kt pt] (.Tuple [a, b, c] k2 pt2) pos) (LfS X.K W fun ρ G A => w1 ρ G (fun x G1 => w2 ρ G1 (fun y G2 => w3 ρ G2 (fun z G3 => A.nx (((ρ.set i (some x)).set j (some y)).set m (some z)) G3) (A.ex ρ)) (A.ex ρ)) (A.ex ρ)) :=
  PS.imp (ps_par3 hc hN hi hj hm hij him hjm hx hy hz (pa_cons h1 (pa_cons h2 (pa_cons h3 pa_nil hs3) hs2) hs1) hw hs) fun D σ H ⟨ρ, G, A, hE, hG, hq, l⟩ => ⟨ρ, G, _, _, hE, hG, hq, fun d G1 v H1 f g r q => ⟨ρ, G1, _, _, hE.mono (f.stab hG), g, q,
    fun d2 G2 u H2 f2 g2 r2 q2 => ⟨ρ, G2, _, _, hE.mono ((f.trans f2).stab hG), g2, q2, fun d3 G3 t H3 f3 g3 r3 q3 => ⟨v, u, t, rfl, l.nx _ G3 _ H3 ((f.trans f2).trans f3) ((((hE.mono (((f.trans f2).trans f3).stab hG)).set (r.mono ((f2.trans f3).stab g))).set (r2.mono (f3.stab g2))).set r3) g3 q3⟩,
      (l.fra (f.trans f2)).x (hE.mono ((f.trans f2).stab hG))⟩, (l.fra f).x (hE.mono (f.stab hG))⟩, l.x hE⟩
theorem ss_expr (he : PE X e (LfE X.K W we)) (hs : swapsWith e none pos.line X.env = pure false) : PS X (.Expr e pos) (LfS X.K W fun ρ G A => we ρ G (fun _ G1 => A.nx ρ G1) (A.ex ρ)) :=
  PS.imp (ps_expr he hs) fun D σ H ⟨ρ, G, A, hE, hG, hw, l⟩ => ⟨ρ, G, _, _, hE, hG, hw, fun d G1 v H1 f g r q => l.nx _ G1 _ H1 f (hE.mono (f.stab hG)) g q, l.x hE⟩
theorem ss_ret (he : PE X e (LfE X.K W we)) : PS X (.Return (some e) pos) (LfS X.K W fun ρ G A => we ρ G A.rt (A.ex ρ)) :=
  PS.imp (ps_ret he) fun D σ H ⟨ρ, G, A, hE, hG, hw, l⟩ => ⟨ρ, G, _, _, hE, hG, hw, l.rt, l.x hE⟩
theorem ss_retN : PS X (.Return none pos) (LfS X.K W fun ρ G A => A.rt .non G) := PS.imp ps_retN fun D σ H ⟨ρ, G, A, hE, hG, hw, l⟩ => l.rt.val hG .non hw
theorem ss_pass : PS X (.Pass pos) (LfS X.K W fun ρ G A => A.nx ρ G) := PS.imp ps_pass fun D σ H ⟨ρ, G, A, hE, hG, hw, l⟩ => l.nx ρ G σ H .refl hE hG hw
theorem ss_doc {x j pos'} : PS X (.Expr (.Constant (.str x) j pos') pos) (LfS X.K W fun ρ G A => A.nx ρ G) := PS.imp ps_doc fun D σ H ⟨ρ, G, A, hE, hG, hw, l⟩ => l.nx ρ G σ H .refl hE hG hw
theorem ss_brk : PS X (.Break pos) (LfS X.K W fun ρ G A => A.bk ρ G) := PS.imp ps_break fun D σ H ⟨ρ, G, A, hE, hG, hw, l⟩ => l.bk ρ G σ H .refl hE hG hw
theorem ss_cont : PS X (.Continue pos) (LfS X.K W fun ρ G A => A.ct ρ G) := PS.imp ps_continue fun D σ H ⟨ρ, G, A, hE, hG, hw, l⟩ => l.ct ρ G σ H .refl hE hG hw
theorem ss_if (hc : PT X e (LfT X.K W wt)) (ha : PSs X a (LfS X.K W ws)) (hb : PSs X b (LfS X.K W wr)) : PS X (.If e a b pos) (LfS X.K W fun ρ G A => wt ρ G (fun k G1 => if k = true then ws ρ G1 A else wr ρ G1 A) (A.ex ρ)) := by
  refine PS.imp (ps_if hc ha hb) fun D σ H ⟨ρ, G, A, hE, hG, hw, l⟩ => ⟨ρ, G, _, _, hE, hG, hw, fun d G1 v H1 f g r q => ?_, l.x hE⟩
  cases r
  cases d with
  | true =>
    rw [if_pos rfl] at q ⊢
    exact ⟨ρ, G1, A, hE.mono (f.stab hG), g, q, l.fra f⟩
  | false =>
    rw [if_neg (by simp)] at q ⊢
    exact ⟨ρ, G1, A, hE.mono (f.stab hG), g, q, l.fra f⟩
theorem ss_while (hp : PassesOwn (model X.prog X.w) X.A X.env X.xe) (hc : PT X e (LfT X.K W wt)) (ha : PSs X a (LfS X.K W ws)) :
    PS X (.While e a [] pos) (LfS X.K W fun ρ G A => ∃ V : Nat → Env' → AG → Prop, (∃ m, V m ρ G) ∧ ∀ m ρ G, V m ρ G →
      wt ρ G (fun k G1 => if k = true then ws ρ G1 { A with nx := fun ρ' G' => ∃ m', m' < m ∧ V m' ρ' G', ct := fun ρ' G' => ∃ m', m' < m ∧ V m' ρ' G', bk := A.nx } else A.nx ρ G1) (A.ex ρ)) := by
  refine PS.imp (ps_while hp hc ha) fun D σ H ⟨ρ, G, A, hE, hG, ⟨V, ⟨m0, v0⟩, hV⟩, l⟩ => ?_
  refine ⟨fun m σ1 H1 => ∃ ρ1 G1, Fra G H G1 H1 ∧ RelE X.K H1 ρ1 σ1 ∧ RelG X.K G1 H1 ∧ V m ρ1 G1, ⟨m0, ρ, G, .refl, hE, hG, v0⟩, ?_⟩
  rintro m σ1 H1 ⟨ρ1, G1, f1, e1, g1, v1⟩
  refine ⟨ρ1, G1, _, _, e1, g1, hV m ρ1 G1 v1, fun d G2 v H2 f2 g2 r q => ?_, (l.fra f1).x e1⟩
  cases r
  cases d with
  | true =>
    rw [if_pos rfl] at q ⊢
    refine ⟨fun σ' H' => ∃ m', m' < m ∧ ∃ ρ' G', Fra G H G' H' ∧ RelE X.K H' ρ' σ' ∧ RelG X.K G' H' ∧ V m' ρ' G', fun σ' H' z => z, ρ1, G2, _, e1.mono (f2.stab g1), g2, q, ?_⟩
    have l2 := l.fra (f1.trans f2)
    have nxt : ∀ ρ' G' σ' H', Fra G2 H2 G' H' → RelE X.K H' ρ' σ' → RelG X.K G' H' → (∃ m', m' < m ∧ V m' ρ' G') → ∃ m', m' < m ∧ ∃ ρ' G', Fra G H G' H' ∧ RelE X.K H' ρ' σ' ∧ RelG X.K G' H' ∧ V m' ρ' G' :=
      fun ρ' G' σ' H' f' a b ⟨m', h1, h2⟩ => ⟨m', h1, ρ', G', (f1.trans f2).trans f', a, b, h2⟩
    exact ⟨nxt, l2.rt, l2.nx, nxt, l2.ex⟩
  | false =>
    rw [if_neg (by simp)] at q ⊢
    exact l.nx ρ1 G2 σ1 H2 (f1.trans f2) (e1.mono (f2.stab g1)) g2 q
theorem ss_for {tg iter : Expr} {g : TGt} (hp : PassesOwn (model X.prog X.w) X.A X.env X.xe) (hc : X.calm = true) (hi : PI X tg iter (LfI X.K W wi)) (hg : PG X tg (LfG X.K g)) (hb : PSs X a (LfS X.K W ws)) (hs : ∀ x, foldedSetIterable iter X.env x = pure x) :
    PS X (.For tg iter a [] pos) (LfS X.K W fun ρ G A => wi ρ G (fun ds gd G1 => forW ws g gd A ds ρ G1) (A.ex ρ)) := by
  refine PS.imp (ps_for hp hc hi hg hb hs) fun D σ H ⟨ρ, G, A, hE, hG, hw, l⟩ => ⟨ρ, G, _, _, hE, hG, hw, fun ds gd G1 J H1 f1 g1 gk1 it q1 => ?_, l.x hE⟩
  refine ⟨fun i m σ2 H2 => m = ds.length - i ∧ i ≤ ds.length ∧ ∃ ρ2 G2, Fra G1 H1 G2 H2 ∧ RelE X.K H2 ρ2 σ2 ∧ RelG X.K G2 H2 ∧ forW ws g gd A (ds.drop i) ρ2 G2, ⟨ds.length, by simp, Nat.zero_le _, ρ, G1, .refl, hE.mono (f1.stab hG), g1, q1⟩, ?_⟩
  rintro i m σ2 H2 ⟨rfl, hi', ρ2, G2, f2, e2, g2, w2⟩
  have st2 := f2.stab g1
  by_cases hlt : i < ds.length
  · rw [List.drop_eq_getElem_cons hlt] at w2
    obtain ⟨gk, w2⟩ := w2
    refine .inr ⟨it.go i H2 G2 st2 g2 gk hlt, fun σ' H' => ∃ ρ' G', Fra G1 H1 G' H' ∧ RelE X.K H' ρ' σ' ∧ RelG X.K G' H' ∧ forW ws g gd A (ds.drop (i + 1)) ρ' G', fun σ' H' q => ⟨ds.length - (i + 1), by omega, rfl, hlt, q⟩, fun x H3 hy => ?_⟩
    obtain ⟨d, hd, f3, g3, rx⟩ := it.yld i H2 G2 x H3 st2 g2 gk hlt hy
    rw [List.getElem?_eq_getElem hlt] at hd
    cases hd
    have f13 := f2.trans f3
    refine ⟨ρ2, G2, _, _, e2.mono (f3.stab g2), g3, rx, w2, fun ρ3 σ3 e3 _ w3 => ⟨ρ3, G2, _, e3, g3, w3, ?_⟩⟩
    have l3 := l.fra (f1.trans f13)
    have nxt : ∀ ρ' G' σ' H', Fra G2 H3 G' H' → RelE X.K H' ρ' σ' → RelG X.K G' H' → forW ws g gd A (ds.drop (i + 1)) ρ' G' → ∃ ρ' G', Fra G1 H1 G' H' ∧ RelE X.K H' ρ' σ' ∧ RelG X.K G' H' ∧ forW ws g gd A (ds.drop (i + 1)) ρ' G' :=
      fun ρ' G' σ' H' f' a b c => ⟨ρ', G', f13.trans f', a, b, c⟩
    exact ⟨nxt, l3.rt, l3.nx, nxt, l3.ex⟩
  · have e : i = ds.length := by omega
    subst e
    rw [List.drop_length] at w2
    exact .inl ⟨it.stop _ H2 G2 st2 g2 w2.1 (Nat.le_refl _), l.nx ρ2 G2 σ2 H2 (f1.trans f2) e2 g2 w2.2⟩
theorem setW_inv {x k v : Dat} {G : AG} {Q : AG → Prop} (h : setW x k v G Q) : ∃ p i ds j, x = .ref p ∧ k = .int i ∧ G p = some (.lst ds) ∧ ixN ds.length i = some j ∧ Q (gu G p (.lst (ds.set j v))) := by
  cases x <;> cases k <;> first | exact False.elim h | skip
  obtain ⟨ds, j, h1, h2, h3⟩ := h
  exact ⟨_, _, ds, j, rfl, rfl, h1, h2, h3⟩
theorem ss_setIx {o i : Expr} {pt : Pos} (he : PE X e (LfE X.K W w1)) (ho : PE X o (LfE X.K W w2)) (hi : PE X i (LfE X.K W w3)) (hs : swapsWithSole [.Subscript o i pt] e pos.line X.env = pure false) (hw : swappedStores [.Subscript o i pt] e X.env = pure none)
    (h1 : (assignEach [.Subscript o i pt] X.env).map (·.2) = [assign (.Subscript o i pt) X.env])
    (ha : ∀ v, assign (.Subscript o i pt) X.env v = (do
      let ov ← holding [v] (eval o X.env)
      let iv ← holding [v, ov] (eval i X.env)
      standAt pt
      holding [v, ov, iv] (setItem ov iv v)
      release [v, ov, iv] [])) :
    PS X (.Assign [.Subscript o i pt] e pos) (LfS X.K W fun ρ G A => w1 ρ G (fun v G1 => w2 ρ G1 (fun x G2 => w3 ρ G2 (fun k G3 => setW x k v G3 fun G4 => A.nx ρ G4) (A.ex ρ)) (A.ex ρ)) (A.ex ρ)) := by
  refine PS.imp (ps_asg he (pg_sub ho hi set_list ha) hs hw h1) fun D σ H ⟨ρ, G, A, hE, hG, hq, l⟩ => ⟨ρ, G, _, _, hE, hG, hq, fun d G1 v H1 f g r q => ⟨ρ, G1, _, _, hE.mono (f.stab hG), g, q,
    fun d2 G2 u H2 f2 g2 r2 q2 => ⟨ρ, G2, _, _, hE.mono ((f.trans f2).stab hG), g2, q2, fun d3 G3 t H3 f3 g3 r3 q3 => ?_, (l.fra (f.trans f2)).x (hE.mono ((f.trans f2).stab hG))⟩, (l.fra f).x (hE.mono (f.stab hG))⟩, l.x hE⟩
  obtain ⟨p, m, ds, j, rfl, rfl, k1, k2, k3⟩ := setW_inv q3
  cases rep_r (r2.mono (f3.stab g2))
  cases rep_i r3
  obtain ⟨vs, h4, h5⟩ := g3.lst k1
  have rv := r.mono ((f2.trans f3).stab g)
  have f4 := (f.trans f2).trans f3
  have f5 : Fra G3 H3 (gu G3 p (.lst (ds.set j d))) (upd H3 p (.lst (vs.set j v))) := .set k1
  refine ⟨p, vs, m, j, rfl, rfl, h4, by rw [h5.length]; exact k2, l.nx ρ _ σ _ (f4.trans f5) (hE.mono ((f4.trans f5).stab hG)) (g3.set k1 (show AOk X.K _ p (.lst (ds.set j d)) from ⟨_, upd_same, (h5.set rv j).mono (.lst h4)⟩)) k3⟩
theorem ss_setAtt {Γ : Gam} {k : Nat} {o : Expr} {f : Str} {pt : Pos} (oc : Oc X W Γ k) (he : PE X e (LfE X.K W w1)) (ho : PE X o (LfE X.K W w2)) (hs : swapsWith e (some (.Attribute o f pt)) pos.line X.env = pure false) :
    PS X (.Assign [.Attribute o f pt] e pos) (LfS X.K W fun ρ G A => w1 ρ G (fun v G1 => w2 ρ G1 (fun x G2 => satW Γ f v x G2 fun G3 => A.nx ρ G3) (A.ex ρ)) (A.ex ρ)) := by
  refine PS.imp (ps_fld ho he hs) fun D σ H ⟨ρ, G, A, hE, hG, hq, l⟩ => ⟨ρ, G, _, _, hE, hG, hq, fun d G1 v H1 fr g r q => ⟨ρ, G1, _, _, hE.mono (fr.stab hG), g, q, fun d2 G2 u H2 f2 g2 r2 q2 => ?_, (l.fra fr).x (hE.mono (fr.stab hG))⟩, l.x hE⟩
  obtain ⟨p, C, fs, rfl, k1, k2, k3, k4⟩ := satW_inv q2
  cases rep_r r2
  obtain ⟨dx, vf, k5, k6⟩ := g2.ins k1
  obtain ⟨c1, c2⟩ := oc.tb.at_ C f k2
  have f12 := fr.trans f2
  have f3 : Fra G2 H2 (gu G2 p (.ins C (putD f d fs))) (upd H2 p (.ins (He.ga X.K C) dx (putF f v vf))) := .set k1
  have st := g2.stabSet (o := .ins (He.ga X.K C) dx (putF f v vf)) k1
  have rv := r.mono (f2.stab g)
  exact ⟨p, _, dx, vf, rfl, k5, c1, c2, by rw [kr_len k6]; exact k3, l.nx ρ _ σ _ (f12.trans f3) (hE.mono ((f12.trans f3).stab hG)) (g2.set k1 (show AOk X.K _ p (.ins C (putD f d fs)) from ⟨dx, _, upd_same, KRel.mono st (kr_put rv k6)⟩)) k4⟩
theorem ss_dset {Γ : Gam} {k : Nat} {o i : Expr} {pt : Pos} (oc : Oc X W Γ k) (he : PE X e (LfE X.K W w1)) (ho : PE X o (LfE X.K W w2)) (hi : PE X i (LfE X.K W w3)) (hs : swapsWith e (some (.Subscript o i pt)) pos.line X.env = pure false) :
    PS X (.Assign [.Subscript o i pt] e pos) (LfS X.K W fun ρ G A => w1 ρ G (fun v G1 => w2 ρ G1 (fun x G2 => w3 ρ G2 (fun k G3 => dsetW x k v G3 fun G4 => A.nx ρ G4) (A.ex ρ)) (A.ex ρ)) (A.ex ρ)) := by
  refine PS.imp (ps_dput oc.u1 ho hi he hs) fun D σ H ⟨ρ, G, A, hE, hG, hq, l⟩ => ⟨ρ, G, _, _, hE, hG, hq, fun d G1 v H1 f g r q => ⟨ρ, G1, _, _, hE.mono (f.stab hG), g, q,
    fun d2 G2 u H2 f2 g2 r2 q2 => ⟨ρ, G2, _, _, hE.mono ((f.trans f2).stab hG), g2, q2, fun d3 G3 t H3 f3 g3 r3 q3 => ?_, (l.fra (f.trans f2)).x (hE.mono ((f.trans f2).stab hG))⟩, (l.fra f).x (hE.mono (f.stab hG))⟩, l.x hE⟩
  obtain ⟨p, kvs, y, rfl, k1, k2, k3, k4⟩ := dsetW_inv q3
  cases rep_r (r2.mono (f3.stab g2))
  cases keyD_rep r3 k2
  obtain ⟨vk, k5, k6⟩ := g3.dk k1
  have rv := r.mono ((f2.trans f3).stab g)
  have st := g3.stabSet (o := .dK (putK vk y v)) k1
  have f5 : Fra G3 H3 (gu G3 p (.dk (putKD kvs y d))) (upd H3 p (.dK (putK vk y v))) := .set k1
  have f6 := ((f.trans f2).trans f3).trans f5
  exact ⟨p, _, rfl, .inl ⟨vk, y, k5, rfl, by rw [kd_len k6]; exact k3, rfl⟩, l.nx ρ _ σ _ f6 (hE.mono (f6.stab hG)) (g3.set k1 (show AOk X.K _ p (.dk (putKD kvs y d)) from ⟨_, upd_same, KRel.mono st (kd_put rv k6)⟩)) k4⟩
theorem ss_raise {Γ : Gam} {k : Nat} {C : Str} {es : List Expr} {p pc : Pos} {wa : Env' → AG → (List Dat → AG → Prop) → AX → Prop} (oc : Oc X W Γ k) (hg : Gl X C) (hdb : (C == ("__debug__" : Str)) = false) (ha : PA X (e :: es) (LfA X.K W wa))
    (hst : starEach (e :: es) X.env = (false, eval e X.env) :: starEach es X.env) (hpl : (backTo pc (starEach es X.env)).any (·.1) = false) :
    PS X (.Raise (some (.Call (.Name C p) (e :: es) [] pc)) none pos) (LfS X.K W fun ρ G A => ∃ fl, Γ.xc C = some fl ∧ fl ≠ [] ∧ wa ρ G (fun ds G1 => ds.length = fl.length ∧ A.ex ρ C (fl.zip ds).reverse G1) (A.ex ρ)) := by
  refine ⟨fun pins s σ H D I ⟨ρ, G, A, hE, hG, ⟨fl, hF, h0, hq⟩, l⟩ => ?_⟩
  have hm := mk_raise (p := p) (pos := pc) oc hF h0 hg hdb ha hst hpl
  exact (ps_raise oc.calm oc.tk hm).run pins s σ H D I ⟨ρ, G, A.ex ρ, hE, hG, hq, l.x hE, l.x hE⟩
theorem ss_raise0 {Γ : Gam} {k : Nat} {C : Str} {p pc : Pos} (oc : Oc X W Γ k) (hg : Gl X C) (hdb : (C == ("__debug__" : Str)) = false) :
    PS X (.Raise (some (.Call (.Name C p) [] [] pc)) none pos) (LfS X.K W fun ρ G A => Γ.xc C = some [] ∧ A.ex ρ C [] G) := by
  refine ⟨fun pins s σ H D I ⟨ρ, G, A, hE, hG, ⟨hF, hq⟩, l⟩ => ?_⟩
  have hm := mk_raise0 (p := p) (pos := pc) oc hF hg hdb
  exact (ps_raise oc.calm oc.tk hm).run pins s σ H D I ⟨G, A.ex ρ, hG, hq, l.x hE⟩
theorem ss_aug {i : Nat} {x : Str} {o : BO} {pos' : Pos} (hN : X.N.Nodup) (hi : X.N[i]? = some x) (hx : Loc X.env.scope x) (he : PE X e (LfE X.K W we)) (ho : o = .add ∨ o = .sub) (hf : X.fn x = true ∨ X.env.scope.names.lookup x = some .local) :
    PS X (.AugAssign (.Name x pos') o.op e pos) (LfS X.K W fun ρ G A => match ρ[i]? with
      | some (some x) => we ρ G (fun y G1 => augW o x y G1 fun z G2 => A.nx (ρ.set i (some z)) G2) (A.ex ρ)
      | _ => False) := by
  have main : ∀ (g : Int → Int → Int), PIp X o.op (ipI g) → (∀ x y G Q, augW o x y G Q → ∃ i j, x = .int i ∧ y = .int j ∧ Q (.int (g i j)) G) → PS X (.AugAssign (.Name x pos') o.op e pos) (LfS X.K W fun ρ G A => match ρ[i]? with
      | some (some x) => we ρ G (fun y G1 => augW o x y G1 fun z G2 => A.nx (ρ.set i (some z)) G2) (A.ex ρ)
      | _ => False) := fun g hg hq => by
    refine PS.imp (ps_aug hN hi hx he hg hf) fun D σ H ⟨ρ, G, A, hE, hG, hw, l⟩ => ?_
    dsimp only at hw
    cases e1 : ρ[i]? with
    | none => rw [e1] at hw; exact False.elim hw
    | some od =>
      cases od with
      | none => rw [e1] at hw; exact False.elim hw
      | some d =>
        rw [e1] at hw
        obtain ⟨v, h1, h2⟩ := hE.2 i d e1
        refine ⟨v, h1, ρ, G, _, _, hE, hG, hw, fun y G1 u H1 f g1 r q => ?_, l.x hE⟩
        obtain ⟨m, n, rfl, rfl, q2⟩ := hq _ _ _ _ q
        cases rep_i h2
        cases rep_i r
        exact ⟨m, n, rfl, rfl, l.nx _ G1 _ H1 f ((hE.mono (f.stab hG)).set (.int _)) g1 q2⟩
  rcases ho with rfl | rfl
  · exact main _ ip_add fun x y G Q h => by cases x <;> cases y <;> first | exact ⟨_, _, rfl, rfl, h⟩ | exact False.elim h
  · exact main _ ip_sub fun x y G Q h => by cases x <;> cases y <;> first | exact ⟨_, _, rfl, rfl, h⟩ | exact False.elim h
end
end Av


set_option Elab.async false
set_option linter.all false
set_option maxRecDepth 100000
set_option maxHeartbeats 4000000
/-! # Av9: a checker of bodies against words, and what it says -/
namespace Av
open PySem PySem.Spec PyProof.Rows L2
variable [Tb]

structure Ck where
  N : List Str
  sc : Scope
  top : Bool
def visB (sc : Scope) (x : Str) : Bool := match sc.names.lookup x with
  | some .local => true
  | some .cell => true
  | some .free => true
  | _ => false
def glB (sc : Scope) (x : Str) : Bool := match sc.names.lookup x with
  | some .globalImplicit => true
  | _ => false
def lclB (sc : Scope) (x : Str) : Bool := match sc.names.lookup x with
  | some .local => true
  | _ => false
def celB (sc : Scope) (x : Str) : Bool := match sc.names.lookup x with
  | some .cell => true
  | _ => false
def okNm (x : Str) : Bool := !(x == ("__debug__" : Str)) && !(x == ("__classdict__" : Str)) && !(x == ("__name__" : Str))
def varB (C : Ck) (i : Nat) (x : Str) : Bool := (C.N[i]? == some x) && visB C.sc x && okNm x
def gloB (C : Ck) (x : Str) : Bool := glB C.sc x && okNm x
def locB (C : Ck) (i : Nat) (x : Str) : Bool := (C.N[i]? == some x) && (lclB C.sc x || (celB C.sc x && C.top))
def noStar : Expr → Bool
  | .Starred .. => false
  | _ => true
def noComp : Expr → Bool
  | .ListComp .. => false | .SetComp .. => false | .DictComp .. => false
  | _ => true
def noTup : Expr → Bool
  | .Tuple .. => false | .List .. => false
  | _ => true
def noSet : Expr → Bool
  | .Set .. => false
  | _ => true
def noSlice : Expr → Bool
  | .Slice .. => false
  | _ => true
/-- not super() -/
def noCall : Expr → Bool
  | .Call (.Name id _) [] [] _ => !(id == ("super" : Str))
  | _ => true
def noSuper : Expr → Bool
  | .Name .. => true
  | .Attribute .. => true
  | .Subscript .. => true
  | _ => false
def isTup : Expr → Bool
  | .Tuple .. => true
  | _ => false
/-- a test by truth -/
def valB : Expr → Bool
  | .UnaryOp .. => false | .BoolOp .. => false | .IfExp .. => false | .Compare .. => false
  | _ => true
def cstB : Dat → Const → Bool
  | .int i, .int j => i == j
  | .str i, .str j => i == j
  | .bl i, .bool j => i == j
  | .non, .none => true
  | _, _ => false
def ownN (N : List Str) (own : List Nat) : List (Str × Nat) := own.filterMap fun i => (N[i]?).map fun x => (x, i)
def namesB (C : Ck) : List Expr → List Nat → Bool
  | [], [] => true
  | .Name x _ :: ts, i :: is => locB C i x && namesB C ts is
  | _, _ => false
def corG (C : Ck) : TGt → Expr → Bool
  | .nm i, .Name x _ => locB C i x
  | .tp is, .Tuple ts _ _ => namesB C ts is
  | _, _ => false
def Ck.into (C : Ck) (scope : Scope) : Ck := ⟨C.N, relS scope C.sc, false⟩
def lcB (C : Ck) (g : TGt) (own : List Nat) (scope : Scope) (tg iter : Expr) : Bool :=
  ((ownN C.N own).map (·.2) == own) && blkC C.N C.sc scope (ownN C.N own) && (tgIx g).all (fun i => own.contains i) && corG (C.into scope) g tg && noSet iter

mutual
def corE (C : Ck) : E → Expr → Bool
  | .var i, x => match x with
    | .Name x _ => varB C i x
    | _ => false
  | .cst d, x => match x with
    | .Constant c _ _ => cstB d c
    | _ => false
  | .glo n, x => match x with
    | .Name y _ => (n == y) && gloB C y
    | _ => false
  | .bin _ o a b, x => match x with
    | .BinOp l op r _ => (op == o.op) && corE C a l && corE C b r
    | _ => false
  | .neg a, x => match x with
    | .UnaryOp .USub x _ => corE C a x
    | _ => false
  | .cmp o a b, x => match x with
    | .Compare l [op] [r] _ => (op == o.op) && noSet r && corE C a l && corE C b r
    | _ => false
  | .cmp2 o o' a b c, x => match x with
    | .Compare l [op, op'] [r, r'] _ => (op == o.op) && (op' == o'.op) && noSet r' && corE C a l && corE C b r && corE C c r'
    | _ => false
  | .andV a b, x => match x with
    | .BoolOp .And (x :: y :: rest) p => corE C a x && corE C b (.BoolOp .And (y :: rest) p)
    | _ => false
  | .orV a b, x => match x with
    | .BoolOp .Or (x :: y :: rest) p => corE C a x && corE C b (.BoolOp .Or (y :: rest) p)
    | _ => false
  | .one a, x => match x with
    | .BoolOp _ [x] _ => corE C a x
    | _ => false
  | .notV a, x => match x with
    | .UnaryOp .Not x _ => corE C a x
    | _ => false
  | .ite c a b, x => match x with
    | .IfExp t x y _ => corT C c t && corE C a x && corE C b y
    | _ => false
  | .tup es, x => match x with
    | .Tuple xs _ _ => corEs C es xs
    | _ => false
  | .lst _ es, x => match x with
    | .List xs _ => corEs C es xs
    | _ => false
  | .ix a b, x => match x with
    | .Subscript x y _ => noSlice y && corE C a x && corE C b y
    | _ => false
  | .slAll _ a, x => match x with
    | .Subscript x (.Slice none none none _) _ => corE C a x
    | _ => false
  | .slFrom _ a lo, x => match x with
    | .Subscript x (.Slice (some y) none none _) _ => corE C a x && corE C lo y
    | _ => false
  | .slTo _ a hi, x => match x with
    | .Subscript x (.Slice none (some z) none _) _ => corE C a x && corE C hi z
    | _ => false
  | .sl _ a lo hi, x => match x with
    | .Subscript x (.Slice (some y) (some z) none _) _ => corE C a x && corE C lo y && corE C hi z
    | _ => false
  | .call f [], x => match x with
    | .Call (.Name g _) [] [] _ => (f == g) && gloB C g
    | _ => false
  | .call f es, x => match x with
    | .Call (.Name g _) (x :: xs) [] _ => (f == g) && gloB C g && corEs C es (x :: xs)
    | _ => false
  | .blt _ f es, x => match x with
    | .Call (.Name g _) (x :: xs) [] _ => (g == f.nm) && gloB C g && corEs C es (x :: xs)
    | _ => false
  | .meth m o [], x => match x with
    | .Call (.Attribute x nm ap) [] [] cp => (nm == m.nm) && noCall x && (ap.endLine == cp.line) && corE C o x
    | _ => false
  | .meth m o es, x => match x with
    | .Call (.Attribute x nm ap) (y :: ys) [] cp => (nm == m.nm) && noCall x && (ap.endLine == cp.line) && decide (ys.length < 20) && corE C o x && corEs C es (y :: ys)
    | _ => false
  | .lc _ e g it own, x => match x with
    | .ListComp elt [⟨tg, iter, [], 0⟩] scope _ => lcB C g own scope tg iter && corI C it tg iter && corE (C.into scope) e elt
    | _ => false
  | .lcIf _ e g it t own, x => match x with
    | .ListComp elt [⟨tg, iter, [c], 0⟩] scope _ => lcB C g own scope tg iter && corI C it tg iter && corE (C.into scope) e elt && corT (C.into scope) t c
    | _ => false
  | .rev a, x => match x with
    | .Subscript y (.Slice none none (some (.UnaryOp .USub (.Constant (.int i) _ _) _)) _) _ => (i == 1) && corE C a y
    | _ => false
  | .att a f, x => match x with
    | .Attribute y g _ => (g == f) && noCall y && corE C a y
    | _ => false
  | .mcall _ m o [], x => match x with
    | .Call (.Attribute y g ap) [] [] cp => (g == m) && noCall y && (ap.endLine == cp.line) && corE C o y
    | _ => false
  | .mcall _ m o es, x => match x with
    | .Call (.Attribute y g ap) (z :: zs) [] cp => (g == m) && noCall y && (ap.endLine == cp.line) && decide ((z :: zs).length < 20) && corE C o y && corEs C es (z :: zs)
    | _ => false
  | .dlit es, x => match x with
    | .Dict ks vs _ => corD C es ks vs && decide (ks.length ≤ 15)
    | _ => false
  | .dix a b, x => match x with
    | .Subscript y z _ => noSlice z && corE C a y && corE C b z
    | _ => false
  | .dget1 a b, x => match x with
    | .Call (.Attribute y nm ap) [z] [] cp => (nm == ("get" : Str)) && noCall y && (ap.endLine == cp.line) && noStar z && corE C a y && corE C b z
    | _ => false
  | .dget2 a b c, x => match x with
    | .Call (.Attribute y nm ap) [z, t] [] cp => (nm == ("get" : Str)) && noCall y && (ap.endLine == cp.line) && noStar z && noStar t && corE C a y && corE C b z && corE C c t
    | _ => false
  | .new n [], x => match x with
    | .Call (.Name g _) [] [] _ => (n == g) && gloB C g
    | _ => false
  | .new n es, x => match x with
    | .Call (.Name g _) (z :: zs) [] _ => (n == g) && gloB C g && corEs C es (z :: zs)
    | _ => false
  | .frz a, z => corE C a z
  | .dead, _ => true
  | .gin n d a, x => match x with
    | .Compare l [op] [.Name y _] _ => (op == gopE n) && (d == y) && gloB C y && corE C a l
    | _ => false
  | .gix d a, x => match x with
    | .Subscript (.Name y _) z _ => (d == y) && gloB C y && noSlice z && corE C a z
    | _ => false
  | .gget1 d a, x => match x with
    | .Call (.Attribute (.Name y _) nm ap) [z] [] cp => (nm == ("get" : Str)) && (d == y) && gloB C y && (ap.endLine == cp.line) && noStar z && corE C a z
    | _ => false
  | .gget2 d a b, x => match x with
    | .Call (.Attribute (.Name y _) nm ap) [z, t] [] cp => (nm == ("get" : Str)) && (d == y) && gloB C y && (ap.endLine == cp.line) && noStar z && noStar t && corE C a z && corE C b t
    | _ => false
  | .callV i es, x => match x with
    | .Call (.Name y _) (z :: zs) [] _ => varB C i y && corEs C es (z :: zs)
    | _ => false
  | .din n a b, x => match x with
    | .Compare l [op] [r] _ => (op == gopE n) && noSet r && corE C a l && corE C b r
    | _ => false
  | .sin n a b, x => match x with
    | .Compare l [op] [r] _ => (op == gopE n) && noSet r && corE C a l && corE C b r
    | _ => false
  | .smeth _ m o [], x => match x with
    | .Call (.Attribute x nm ap) [] [] cp => (nm == m.nm) && noCall x && (ap.endLine == cp.line) && corE C o x
    | _ => false
  | .smeth _ m o es, x => match x with
    | .Call (.Attribute x nm ap) (y :: ys) [] cp => (nm == m.nm) && noCall x && (ap.endLine == cp.line) && decide (ys.length < 20) && corE C o x && corEs C es (y :: ys)
    | _ => false
  | .six a b, x => match x with
    | .Subscript x y _ => noSlice y && corE C a x && corE C b y
    | _ => false
def corEs (C : Ck) : List E → List Expr → Bool
  | [], [] => true
  | e :: es, x :: xs => noStar x && corE C e x && corEs C es xs
  | _, _ => false
def corD (C : Ck) : List E → List (Option Expr) → List Expr → Bool
  | [], [], [] => true
  | k :: v :: es, some x :: ks, y :: vs => corE C k x && corE C v y && corD C es ks vs
  | _, _, _ => false
def corT (C : Ck) : T → Expr → Bool
  | .and_ a b, x => match x with
    | .BoolOp .And (x :: y :: rest) p => corT C a x && corT C b (.BoolOp .And (y :: rest) p)
    | _ => false
  | .or_ a b, x => match x with
    | .BoolOp .Or (x :: y :: rest) p => corT C a x && corT C b (.BoolOp .Or (y :: rest) p)
    | _ => false
  | .one a, x => match x with
    | .BoolOp .And [x] _ => corT C a x
    | .BoolOp .Or [x] _ => corT C a x
    | _ => false
  | .not_ a, x => match x with
    | .UnaryOp .Not x _ => corT C a x
    | _ => false
  | .cmp o a b, x => match x with
    | .Compare l [op] [r] _ => (op == o.op) && noSet r && corE C a l && corE C b r
    | _ => false
  | .cmp2 o o' a b c, x => match x with
    | .Compare l [op, op'] [r, r'] _ => (op == o.op) && (op' == o'.op) && noSet r' && corE C a l && corE C b r && corE C c r'
    | _ => false
  | .val a, z => valB z && corE C a z
  | .gin n d a, x => match x with
    | .Compare l [op] [.Name y _] _ => (op == gopE n) && (d == y) && gloB C y && corE C a l
    | _ => false
  | .din n a b, x => match x with
    | .Compare l [op] [r] _ => (op == gopE n) && noSet r && corE C a l && corE C b r
    | _ => false
  | .sin n a b, x => match x with
    | .Compare l [op] [r] _ => (op == gopE n) && noSet r && corE C a l && corE C b r
    | _ => false
  | .ite _ _ _, _ => false
def corI (C : Ck) : I → Expr → Expr → Bool
  | .gkeys d, tg, x => match x with
    | .Name y _ => (d == y) && gloB C y
    | _ => false
  | .str a, tg, x => corE C a x
  | .rng1 a, tg, x => match x with
    | .Call (.Name g _) [x] [] _ => (g == ("range" : Str)) && gloB C g && noStar x && corE C a x
    | _ => false
  | .rng2 a b, tg, x => match x with
    | .Call (.Name g _) [x, y] [] _ => (g == ("range" : Str)) && gloB C g && noStar x && noStar y && corE C a x && corE C b y
    | _ => false
  | .zip a b, tg, x => match x with
    | .Call (.Name g _) [x, y] [] _ => isTup tg && (g == ("zip" : Str)) && gloB C g && noStar x && noStar y && corE C a x && corE C b y
    | _ => false
  | .enum a, tg, x => match x with
    | .Call (.Name g _) [x] [] _ => isTup tg && (g == ("enumerate" : Str)) && gloB C g && noStar x && corE C a x
    | _ => false
  | .seq a, tg, z => corE C a z
end

/-! ### what the parts say -/
section
variable {X : Cx} {C : Ck} {x y : Expr} {pos : Pos}
theorem beqS {x y : Str} (h : (x == y) = true) : x = y := by simpa using h
theorem star1 {env : Env} {r : List Expr} (h : noStar x = true) : starEach (x :: r) env = (false, eval x env) :: starEach r env := by
  cases x <;> first | rfl | cases h
theorem plain_star {env : Env} : ∀ {r : List Expr}, r.all noStar = true → (backTo pos (starEach r env)).any (·.1) = false
  | [], _ => rfl
  | x :: r, h => by
    rw [List.all_cons, Bool.and_eq_true] at h
    rw [star1 h.1]
    show (false || _) = false
    rw [Bool.false_or]
    exact plain_star h.2
theorem plain_few {env : Env} : ∀ {r : List Expr}, r.all noStar = true → (backTo pos (starEach r env)).all (fun x => !x.1) = true
  | [], _ => rfl
  | x :: r, h => by
    rw [List.all_cons, Bool.and_eq_true] at h
    rw [star1 h.1]
    show (true && _) = true
    rw [Bool.true_and]
    exact plain_few h.2
theorem sw_no {t : Option Expr} {l : Nat} {env : Env} (h : noComp x = true) : swapsWith x t l env = pure false := by
  cases x <;> first | rfl | cases h
theorem fold_no {env : Env} (h : noSet x = true) : ∀ v, foldedSetIterable x env v = pure v := by
  intro v
  cases x <;> first | rfl | cases h
theorem marks_no {op : CmpOp} (h : noSet x = true) : behindInMarks op x = false := by
  cases x <;> first | rfl | cases h
theorem plain_ix (h : noSlice x = true) : PlainIx x := by
  intro o i
  cases x <;> first | rfl | cases h
theorem base_no {nm : Str} {env : Env} (h : noCall x = true) : attributeBase x nm env (eval x env) = eval x env := by
  unfold noCall at h
  split at h
  · rename_i id _ _
    have e : (id != ("super" : Str)) = true := h
    unfold attributeBase
    dsimp only
    rw [e]
    simp only [Bool.true_or, if_true]
  · rename_i no
    cases x <;> first | rfl | skip
    rename_i f as ks p
    cases f <;> first | rfl | skip
    cases as <;> first | rfl | skip
    cases ks <;> first | rfl | skip
    exact absurd rfl (no _ _ _)
theorem val_no {env : Env} (h : valB x = true) : ∀ whole, isTrue x env whole = (do let v ← whole; standAt x.pos; holding [v] (truthy v)) := by
  intro w
  cases x <;> first | rfl | cases h
theorem swap_no {t : Expr} {env : Env} (h : noTup x = true) : swappedStores [t] x env = pure none := by
  cases x <;> first | (cases t <;> rfl) | cases h
structure CkOk (X : Cx) (C : Ck) : Prop where
  n : C.N = X.N
  sc : X.env.scope = C.sc
  fn : C.top = true → ∀ x, X.fn x = true
variable (k : CkOk X C)
theorem gl_of {x : Str} (k : CkOk X C) (h : gloB C x = true) : Gl X x ∧ (x == ("__debug__" : Str)) = false ∧ x ≠ ("__name__" : Str) := by
  unfold gloB glB okNm at h
  simp only [Bool.and_eq_true, Bool.not_eq_true'] at h
  obtain ⟨h1, ⟨h2, h3⟩, h4⟩ := h
  refine ⟨?_, h2, fun z => by rw [z] at h4; simp at h4⟩
  show X.env.scope.names.lookup x = some .globalImplicit
  rw [k.sc]
  split at h1
  · assumption
  · cases h1
theorem vis_of {x : Str} {i : Nat} (k : CkOk X C) (h : varB C i x = true) : X.N[i]? = some x ∧ Vis X.env.scope x ∧ (x == ("__debug__" : Str)) = false ∧ (x == ("__classdict__" : Str)) = false := by
  unfold varB visB okNm at h
  simp only [Bool.and_eq_true, Bool.not_eq_true', beq_iff_eq] at h
  obtain ⟨⟨h1, h2⟩, ⟨h3, h4⟩, h5⟩ := h
  refine ⟨by rw [← k.n]; exact h1, ?_, h3, h4⟩
  unfold Vis
  rw [k.sc]
  split at h2
  · exact .inl (by assumption)
  · exact .inr (.inl (by assumption))
  · exact .inr (.inr (by assumption))
  · cases h2
theorem loc_of {x : Str} {i : Nat} (k : CkOk X C) (h : locB C i x = true) : X.N[i]? = some x ∧ L2.Loc X.env.scope x ∧ (X.fn x = true ∨ X.env.scope.names.lookup x = some .local) := by
  unfold locB lclB celB at h
  simp only [Bool.and_eq_true, Bool.or_eq_true, beq_iff_eq] at h
  obtain ⟨h1, h2⟩ := h
  refine ⟨by rw [← k.n]; exact h1, ?_⟩
  unfold L2.Loc
  rw [k.sc]
  rcases h2 with h2 | ⟨h2, h3⟩
  · split at h2
    · rename_i e
      exact ⟨.inl e, .inr e⟩
    · cases h2
  · split at h2
    · rename_i e
      exact ⟨.inr e, .inl (k.fn h3 x)⟩
    · cases h2
theorem lcl_of {x : Str} (k : CkOk X C) (h : lclB C.sc x = true) : X.env.scope.names.lookup x = some .local := by
  unfold lclB at h
  rw [k.sc]
  split at h
  · assumption
  · cases h
theorem names_of (k : CkOk X C) : ∀ {ts : List Expr} {is : List Nat}, namesB C ts is = true → nmsOk X ts is
  | [], [], _ => trivial
  | t :: ts, i :: is, h => by
    cases t with
    | Name x p =>
      simp only [namesB, Bool.and_eq_true] at h
      exact ⟨loc_of k h.1, names_of k h.2⟩
    | _ => cases h
  | [], _ :: _, h => by cases h
  | t :: _, [], h => by cases t <;> cases h
theorem corG_ok (k : CkOk X C) {g : TGt} {tg : Expr} (hc : X.calm = true) (hN : X.N.Nodup) (h : corG C g tg = true) : PG X tg (LfG X.K g) := by
  cases g with
  | nm i =>
    cases tg with
    | Name x p =>
      obtain ⟨h1, h2, h3⟩ := loc_of k h
      exact sg_nm hN h1 h2 h3
    | _ => cases h
  | tp is =>
    cases tg with
    | Tuple ts kk p => exact sg_tp hc hN (names_of k h)
    | _ => cases h
theorem into_ok (k : CkOk X C) (s : Shared) (H : Hp) (scope : Scope) (cl : List (Str × Addr)) (c : Addr) (fp : List Addr) : CkOk (X.blk s H scope (compEnvC scope cl c X.env) fp) (C.into scope) :=
  ⟨k.n, by show relabel scope X.env = relS scope C.sc; rw [← k.sc]; rfl, fun z => by cases z⟩
theorem lcB_ok (k : CkOk X C) {g : TGt} {own : List Nat} {scope : Scope} {tg iter : Expr} (hc : X.calm = true) (hN : X.N.Nodup) (h : lcB C g own scope tg iter = true) : ∃ on : List (Str × Nat), on.map (·.2) = own ∧ BlkOk X.N X.env.scope scope on ∧ (∀ i ∈ tgIx g, i ∈ on.map (·.2)) ∧
    (∀ (s : Shared) (H : Hp) (c : Addr) (cl : List (Str × Addr)) (fp : List Addr), PG (X.blk s H scope (compEnvC scope cl c X.env) fp) tg (LfG X.K g)) ∧ ∀ x, foldedSetIterable iter X.env x = pure x := by
  unfold lcB at h
  simp only [Bool.and_eq_true, beq_iff_eq, List.all_eq_true, List.contains_iff_mem] at h
  obtain ⟨⟨⟨⟨h1, h2⟩, h3⟩, h4⟩, h5⟩ := h
  refine ⟨ownN C.N own, h1, blkOk_by (by rw [← k.n, k.sc]; exact h2), fun i hi => by rw [h1]; exact h3 i hi, fun s H c cl fp => corG_ok (into_ok k s H scope cl c fp) (X := X.blk s H scope (compEnvC scope cl c X.env) fp) hc hN h4, fold_no h5⟩
end
end Av


set_option Elab.async false
set_option linter.all false
set_option maxRecDepth 100000
set_option maxHeartbeats 4000000
/-! # Av10: a body that fits its words does what they say (values) -/
namespace Av
open PySem PySem.Spec PyProof.Rows L2
variable [Tb]

section
variable {X : Cx} {W : WX} {x : Expr} {pos : Pos}
theorem pe_never {w : WfE} (h : ∀ ρ G Q E, ¬ w ρ G Q E) : PE X x (LfE X.K W w) := ⟨fun _ _ _ _ _ _ ⟨ρ, G, Q, E, _, _, hw, _⟩ => absurd hw (h ρ G Q E)⟩
theorem pt_never {w : WfT} (h : ∀ ρ G Q E, ¬ w ρ G Q E) : PT X x (LfT X.K W w) := ⟨fun _ _ _ _ _ _ ⟨ρ, G, Q, E, _, _, hw, _⟩ => absurd hw (h ρ G Q E)⟩
theorem pi_never {tg : Expr} {w : WfI} (h : ∀ ρ G Q E, ¬ w ρ G Q E) : PI X tg x (LfI X.K W w) := ⟨fun _ _ _ _ _ _ ⟨ρ, G, Q, E, _, _, hw, _⟩ => absurd hw (h ρ G Q E)⟩
theorem st_din {Γ : Gam} {k : Nat} {a b : Expr} {w1 w2 : WfE} {n : Bool} (oc : Oc X W Γ k) (hm : behindInMarks (gopE n) b = false) (h1 : PE X a (LfE X.K W w1)) (h2 : PE X b (LfE X.K W w2)) :
    PT X (.Compare a [gopE n] [b] pos) (LfT X.K W fun ρ G Q E => w1 ρ G (fun y G1 => w2 ρ G1 (fun x G2 => ∃ kv kk, dkOf G2 x = some kv ∧ keyD y = some kk ∧ Q (negB n (lookD kv kk).isSome) G2) E) E) := by
  refine PT.imp (pt_cmp (se_din (n := n) oc h1 h2) hm) ?_
  rintro σ H Q ⟨ρ, G, Qa, Ea, hE, hG, hw, hp, hx⟩
  refine ⟨ρ, G, boolW Qa, Ea, hE, hG, hw, fun d G1 v H1 f g r q => ?_, hx⟩
  obtain ⟨kb, e, q⟩ := boolW_inv q
  subst e
  exact ⟨kb, rep_b r, hp _ _ _ _ f g rfl q⟩
theorem cst_ok {d : Dat} {c : Const} {j : Nat} (h : cstB d c = true) : PE X (.Constant c j pos) (LfE X.K W fun _ G Q _ => Q d G) := by
  unfold cstB at h
  split at h
  · cases beq_iff_eq.mp h; exact se_c pe_int fun _ => .int _
  · cases beq_iff_eq.mp h; exact se_c pe_str fun _ => .str _
  · cases beq_iff_eq.mp h; exact se_c pe_bl fun _ => .bl _
  · exact se_c pe_non fun _ => .non
  · cases h
theorem pe_one {op : BoolOp} {t : TE} (h : PE X x t) : PE X (.BoolOp op [x] pos) t := ⟨fun pins s σ H Q I q => h.run pins s σ H Q I q⟩
theorem corEs_len {C : Ck} : ∀ {es : List E} {xs : List Expr}, corEs C es xs = true → es.length = xs.length ∧ xs.all noStar = true
  | [], [], _ => ⟨rfl, rfl⟩
  | e :: es, x :: xs, h => by
    unfold corEs at h
    simp only [Bool.and_eq_true] at h
    obtain ⟨h1, h2⟩ := corEs_len h.2
    exact ⟨by rw [List.length_cons, List.length_cons, h1], by rw [List.all_cons, h.1.1, h2]; rfl⟩
  | [], _ :: _, h => by unfold corEs at h; cases h
  | _ :: _, [], h => by unfold corEs at h; cases h
theorem all_cons1 {x : Expr} {xs : List Expr} (h : (x :: xs).all noStar = true) : noStar x = true ∧ xs.all noStar = true := by
  rw [List.all_cons, Bool.and_eq_true] at h
  exact h
theorem few_ok {y : Expr} {ys : List Expr} {env : Env} (h : (y :: ys).all noStar = true) (hl : ys.length < 20) :
    ((backTo pos (starEach (y :: ys) env)).all (fun x => !x.1) && (backToKw pos (keywordEach [] env)).all (fun x => x.1.isSome)
      && decide ((y :: ys).length + ([] : List Keyword).length + (if ([] : List Keyword).isEmpty then 0 else 1) < 30)) = true := by
  rw [plain_few h]
  show decide (ys.length + 1 + 0 + 0 < 30) = true
  exact decide_eq_true (by omega)
theorem meth_eq {o : Expr} {m : Str} {apos : Pos} {env : Env} {xs : List Expr} (h : noCall o = true) (hl : (apos.endLine == pos.line) = true) (hs : xs.all noStar = true) (hn : xs.length < 20) : eval (.Call (.Attribute o m apos) xs [] pos) env = (do
      let w ← eval o env
      standAt apos.atName
      let (g, one) ← holding [w] (getMethod w m (do return (← importBound o env).getD true))
      callWith pos g one (backTo pos (starEach xs env)) (backToKw pos (keywordEach [] env))) := by
  have e1 : eval (.Call (.Attribute o m apos) xs [] pos) env = (do
      let w ← attributeBase o m env (eval o env)
      standAt apos.atName
      methodCall o m apos pos env w (xs.length + 0) (backTo pos (starEach xs env)) (backToKw pos (keywordEach [] env))) := rfl
  have few : methodCallForm (xs.length + 0) (backTo pos (starEach xs env)) (backToKw pos (keywordEach [] env)) = true := by
    unfold methodCallForm
    rw [plain_few hs]
    show decide (xs.length + 0 + 0 < 30) = true
    exact decide_eq_true (by omega)
  have e2 : ∀ w, methodCall o m apos pos env w (xs.length + 0) (backTo pos (starEach xs env)) (backToKw pos (keywordEach [] env)) = (do
      let (g, one) ← holding [w] (getMethod w m (do return (← importBound o env).getD true))
      callWith pos g one (backTo pos (starEach xs env)) (backToKw pos (keywordEach [] env))) := fun w => by
    unfold methodCall calleeOf methodCallPos
    rw [few, hl]
    simp only [if_true, Bool.not_true, Bool.or_true, pure_bind]
  rw [e1, base_no h]
  simp only [e2]
theorem corD_len {C : Ck} : ∀ {es : List E} {ks : List (Option Expr)} {vs : List Expr}, corD C es ks vs = true → ks.length = vs.length ∧ ks.all (·.isSome) = true
  | [], [], [], _ => ⟨rfl, rfl⟩
  | k :: v :: es, some x :: ks, y :: vs, h => by
    unfold corD at h
    simp only [Bool.and_eq_true] at h
    obtain ⟨h1, h2⟩ := corD_len h.2
    exact ⟨by rw [List.length_cons, List.length_cons, h1], by rw [List.all_cons, h2]; rfl⟩
  | [], [], _ :: _, h => by unfold corD at h; cases h
  | [], _ :: _, _, h => by unfold corD at h; cases h
  | [_], _, _, h => by unfold corD at h; cases h
  | _ :: _ :: _, [], _, h => by unfold corD at h; cases h
  | _ :: _ :: _, none :: _, _, h => by unfold corD at h; cases h
  | _ :: _ :: _, some _ :: _, [], h => by unfold corD at h; cases h
theorem few1 {xs : List Expr} {env : Env} (h : xs.all noStar = true) (hl : xs.length < 20) : ((backTo pos (starEach xs env)).all (fun x => !x.1) && (backToKw pos (keywordEach [] env)).all (fun x => x.1.isSome)
      && decide (xs.length + ([] : List Keyword).length + (if ([] : List Keyword).isEmpty then 0 else 1) < 30)) = true := by
  rw [plain_few h]
  show decide (xs.length + 0 + 0 < 30) = true
  exact decide_eq_true (by omega)
theorem m1_ok {X : Cx} {o e : Expr} {m : Str} {apos : Pos} (h : noCall o = true) (hl : (apos.endLine == pos.line) = true) (hs : noStar e = true) : M1 X o m apos e pos :=
  ⟨base_no h, few1 (xs := [e]) (by rw [List.all_cons, hs]; rfl) (show 1 < 20 by decide), hl, by rw [star1 hs]; rfl⟩
theorem m2_ok {X : Cx} {o e f : Expr} {m : Str} {apos : Pos} (h : noCall o = true) (hl : (apos.endLine == pos.line) = true) (hs : noStar e = true) (hs2 : noStar f = true) : M2 X o m apos e f pos :=
  ⟨base_no h, few1 (xs := [e, f]) (by rw [List.all_cons, List.all_cons, hs, hs2]; rfl) (show 2 < 20 by decide), hl, by rw [star1 hs, star1 hs2]; rfl⟩
theorem nosl_ok {i : Expr} (h : noSlice i = true) : NoSl i := plain_ix h
end
mutual
theorem okE {Γ : Gam} {k : Nat} : ∀ (e : E) {X : Cx} {W : WX} {C : Ck} (x : Expr), Oc X W Γ k → CkOk X C → corE C e x = true → PE X x (LfE X.K W (wE Γ e))
  | .var i, X, W, C, x, oc, ck, h => by
    unfold corE at h
    split at h
    · obtain ⟨h1, h2, h3, h4⟩ := vis_of ck h
      exact se_var h1 h2 h3 h4
    · cases h
  | .cst d, X, W, C, x, oc, ck, h => by
    unfold corE at h
    split at h
    · exact cst_ok h
    · cases h
  | .glo n, X, W, C, x, oc, ck, h => by
    unfold corE at h
    split at h
    · simp only [Bool.and_eq_true] at h
      cases beqS h.1
      obtain ⟨h1, h2, h3⟩ := gl_of ck h.2
      exact se_glo oc h1 h3 h2
    · cases h
  | .bin z o a b, X, W, C, x, oc, ck, h => by
    unfold corE at h
    split at h
    · simp only [Bool.and_eq_true, beq_iff_eq] at h
      obtain ⟨⟨rfl, h1⟩, h2⟩ := h
      obtain ⟨r, k1, k2⟩ := bin_ok X z o
      exact se_op k1 k2 (okE a _ oc ck h1) (okE b _ oc ck h2)
    · cases h
  | .neg a, X, W, C, x, oc, ck, h => by
    unfold corE at h
    split at h
    · exact se_neg (okE a _ oc ck h)
    · cases h
  | .cmp o a b, X, W, C, x, oc, ck, h => by
    unfold corE at h
    split at h
    · simp only [Bool.and_eq_true, beq_iff_eq] at h
      obtain ⟨⟨⟨rfl, h0⟩, h1⟩, h2⟩ := h
      obtain ⟨r, k1, k2⟩ := cmp_ok X oc.room.units o
      exact se_cmp k1 k2 (marks_no h0) (okE a _ oc ck h1) (okE b _ oc ck h2)
    · cases h
  | .cmp2 o o' a b c, X, W, C, x, oc, ck, h => by
    unfold corE at h
    split at h
    · simp only [Bool.and_eq_true, beq_iff_eq] at h
      obtain ⟨⟨⟨⟨⟨rfl, rfl⟩, h0⟩, h1⟩, h2⟩, h3⟩ := h
      obtain ⟨r, k1, k2⟩ := cmp_ok X oc.room.units o
      obtain ⟨r', k1', k2'⟩ := cmp_ok X oc.room.units o'
      exact se_cmp2 k1 k2 k1' k2' (marks_no h0) (okE a _ oc ck h1) (okE b _ oc ck h2) (okE c _ oc ck h3)
    · cases h
  | .andV a b, X, W, C, x, oc, ck, h => by
    unfold corE at h
    split at h
    · simp only [Bool.and_eq_true] at h
      exact se_and (okE a _ oc ck h.1) (okE b _ oc ck h.2)
    · cases h
  | .orV a b, X, W, C, x, oc, ck, h => by
    unfold corE at h
    split at h
    · simp only [Bool.and_eq_true] at h
      exact se_or (okE a _ oc ck h.1) (okE b _ oc ck h.2)
    · cases h
  | .one a, X, W, C, x, oc, ck, h => by
    unfold corE at h
    split at h
    · exact pe_one (okE a _ oc ck h)
    · cases h
  | .notV a, X, W, C, x, oc, ck, h => by
    unfold corE at h
    split at h
    · exact se_not (okE a _ oc ck h)
    · cases h
  | .ite c a b, X, W, C, x, oc, ck, h => by
    unfold corE at h
    split at h
    · simp only [Bool.and_eq_true] at h
      exact se_ite (okT c _ oc ck h.1.1).1 (okE a _ oc ck h.1.2) (okE b _ oc ck h.2)
    · cases h
  | .tup es, X, W, C, x, oc, ck, h => by
    unfold corE at h
    split at h
    · exact se_tup (okEs es _ oc ck h)
    · cases h
  | .lst z es, X, W, C, x, oc, ck, h => by
    unfold corE at h
    split at h
    · exact se_lst (okEs es _ oc ck h)
    · cases h
  | .ix a b, X, W, C, x, oc, ck, h => by
    unfold corE at h
    split at h
    · simp only [Bool.and_eq_true] at h
      exact se_ix (plain_ix h.1.1) (okE a _ oc ck h.1.2) (okE b _ oc ck h.2)
    · cases h
  | .slAll z a, X, W, C, x, oc, ck, h => by
    unfold corE at h
    split at h
    · exact se_sl (okE a _ oc ck h) so_none so_none
    · cases h
  | .slFrom z a lo, X, W, C, x, oc, ck, h => by
    unfold corE at h
    split at h
    · simp only [Bool.and_eq_true] at h
      exact se_sl (okE a _ oc ck h.1) (so_some (okE lo _ oc ck h.2)) so_none
    · cases h
  | .slTo z a hi, X, W, C, x, oc, ck, h => by
    unfold corE at h
    split at h
    · simp only [Bool.and_eq_true] at h
      exact se_sl (okE a _ oc ck h.1) so_none (so_some (okE hi _ oc ck h.2))
    · cases h
  | .sl z a lo hi, X, W, C, x, oc, ck, h => by
    unfold corE at h
    split at h
    · simp only [Bool.and_eq_true] at h
      exact se_sl (okE a _ oc ck h.1.1) (so_some (okE lo _ oc ck h.1.2)) (so_some (okE hi _ oc ck h.2))
    · cases h
  | .rev a, X, W, C, x, oc, ck, h => by
    unfold corE at h
    split at h
    · simp only [Bool.and_eq_true, beq_iff_eq] at h
      obtain ⟨rfl, h1⟩ := h
      exact se_rev (okE a _ oc ck h1)
    · cases h
  | .call f es, X, W, C, x, oc, ck, h => by
    cases hF : Γ.fn f with
    | none => exact pe_never fun ρ G Q E hw => by unfold wE at hw; rw [hF] at hw; exact hw
    | some F =>
      by_cases ha : F.ar ≤ es.length + F.dfl.length ∧ es.length ≤ F.ar
      · cases es with
        | nil =>
          unfold corE at h
          split at h
          · simp only [Bool.and_eq_true] at h
            cases beqS h.1
            obtain ⟨h1, h2, h3⟩ := gl_of ck h.2
            refine PE.imp (se_call0 oc hF h1 h2 ha.1) ?_
            rintro σ H Q ⟨ρ, G, Qa, Ea, hE, hG, hw, hp, hx⟩
            unfold wE at hw
            rw [hF] at hw
            exact ⟨ρ, G, Qa, Ea, hE, hG, hw.2, hp, hx⟩
          · cases h
        | cons e es =>
          unfold corE at h
          split at h
          · simp only [Bool.and_eq_true] at h
            cases beqS h.1.1
            obtain ⟨h1, h2, h3⟩ := gl_of ck h.1.2
            obtain ⟨l1, l2⟩ := corEs_len h.2
            obtain ⟨l3, l4⟩ := all_cons1 l2
            have hq := okEs (e :: es) _ oc ck h.2
            rw [l1] at ha
            refine PE.imp (se_call oc hF h1 h2 ha.1 ha.2 hq (star1 l3) (plain_star l4)) ?_
            rintro σ H Q ⟨ρ, G, Qa, Ea, hE, hG, hw, hp, hx⟩
            unfold wE at hw
            rw [hF] at hw
            rw [← l1]
            exact ⟨ρ, G, Qa, Ea, hE, hG, hw.2, hp, hx⟩
          · cases h
      · exact pe_never fun ρ G Q E hw => by unfold wE at hw; rw [hF] at hw; exact ha hw.1
  | .blt z f es, X, W, C, x, oc, ck, h => by
    unfold corE at h
    split at h
    · simp only [Bool.and_eq_true] at h
      cases beqS h.1.1
      obtain ⟨h1, h2, h3⟩ := gl_of ck h.1.2
      obtain ⟨l1, l2⟩ := corEs_len h.2
      obtain ⟨l3, l4⟩ := all_cons1 l2
      exact se_blt oc h1 (okEs es _ oc ck h.2) (star1 l3) (plain_star l4)
    · cases h
  | .meth m o es, X, W, C, x, oc, ck, h => by
    cases es with
    | nil =>
      unfold corE at h
      split at h
      · simp only [Bool.and_eq_true] at h
        cases beqS h.1.1.1
        exact se_meth0 (okE o _ oc ck h.2) (base_no h.1.1.2) h.1.2
      · cases h
    | cons e es =>
      unfold corE at h
      split at h
      · simp only [Bool.and_eq_true, decide_eq_true_eq] at h
        cases beqS h.1.1.1.1.1
        obtain ⟨l1, l2⟩ := corEs_len h.2
        obtain ⟨l3, l4⟩ := all_cons1 l2
        exact se_meth (okE o _ oc ck h.1.2) (okEs (e :: es) _ oc ck h.2) (base_no h.1.1.1.1.2) (few_ok l2 h.1.1.2) h.1.1.1.2 (star1 l3) (plain_star l4)
      · cases h
  | .lc z e g it own, X, W, C, x, oc, ck, h => by
    unfold corE at h
    split at h
    · simp only [Bool.and_eq_true] at h
      obtain ⟨on, rfl, k1, k2, k3, k4⟩ := lcB_ok ck oc.calm oc.nd h.1.1
      refine PE.imp (se_lcG (z := z) (wt := fun _ G Q _ => Q true G) oc (okI it _ _ oc ck h.1.2) k1 k2 k3 (fun s H c cl fp => pts_nil) (fun s H c cl fp => okE e _ (oc.blk s H _ _ fp) (into_ok ck s H _ cl c fp) h.2) k4 (fun σ H Q ρ G Qa a b c d => yes_imp _ σ H Q ρ G Qa a b c d)) ?_
      rintro σ H Q ⟨ρ, G, Qa, Ea, hE, hG, hw, hp, hx⟩
      refine ⟨ρ, G, Qa, Ea, hE, hG, ?_, hp, hx⟩
      unfold wE at hw
      unfold lcG
      simp only [lcW_if]
      exact hw
    · cases h
  | .lcIf z e g it t own, X, W, C, x, oc, ck, h => by
    unfold corE at h
    split at h
    · simp only [Bool.and_eq_true] at h
      obtain ⟨on, rfl, k1, k2, k3, k4⟩ := lcB_ok ck oc.calm oc.nd h.1.1.1
      exact se_lcG (z := z) (wt := wT Γ t) oc (okI it _ _ oc ck h.1.1.2) k1 k2 k3 (fun s H c cl fp => pts_one (okT t _ (oc.blk s H _ _ fp) (into_ok ck s H _ cl c fp) h.2).1) (fun s H c cl fp => okE e _ (oc.blk s H _ _ fp) (into_ok ck s H _ cl c fp) h.1.2) k4
        (fun σ H Q ρ G Qa a b c d => tst_imp _ σ H Q ρ G Qa a b c d)
    · cases h
  | .frz a, X, W, C, x, oc, ck, h => by
    unfold corE at h
    exact se_frz (okE a _ oc ck h)
  | .att a f, X, W, C, x, oc, ck, h => by
    unfold corE at h
    split at h
    · simp only [Bool.and_eq_true] at h
      cases beqS h.1.1
      exact se_att oc (okE a _ oc ck h.2) (base_no h.1.2)
    · cases h
  | .mcall n m o es, X, W, C, x, oc, ck, h => by
    cases hF : Γ.ms n m with
    | none => exact pe_never fun ρ G Q E hw => by unfold wE at hw; rw [hF] at hw; exact hw
    | some F =>
      by_cases ha : F.ar ≤ es.length + 1 + F.dfl.length ∧ es.length + 1 ≤ F.ar
      · cases es with
        | nil =>
          unfold corE at h
          split at h
          · simp only [Bool.and_eq_true] at h
            cases beqS h.1.1.1
            refine PE.imp (se_mcall0 oc hF ha.1 ha.2 (okE o _ oc ck h.2) (meth_eq h.1.1.2 h.1.2 rfl (Nat.zero_lt_succ _))) ?_
            rintro σ H Q ⟨ρ, G, Qa, Ea, hE, hG, hw, hp, hx⟩
            unfold wE at hw
            rw [hF] at hw
            exact ⟨ρ, G, Qa, Ea, hE, hG, hw.2, hp, hx⟩
          · cases h
        | cons e es =>
          unfold corE at h
          split at h
          · simp only [Bool.and_eq_true] at h
            cases beqS h.1.1.1.1.1
            obtain ⟨l1, l2⟩ := corEs_len h.2
            obtain ⟨l3, l4⟩ := all_cons1 l2
            have hq := okEs (e :: es) _ oc ck h.2
            rw [l1] at ha
            refine PE.imp (se_mcall oc hF ha.1 ha.2 (okE o _ oc ck h.1.2) hq (star1 l3) (plain_star l4) (meth_eq h.1.1.1.1.2 h.1.1.1.2 l2 (of_decide_eq_true h.1.1.2))) ?_
            rintro σ H Q ⟨ρ, G, Qa, Ea, hE, hG, hw, hp, hx⟩
            unfold wE at hw
            rw [hF] at hw
            rw [← l1]
            exact ⟨ρ, G, Qa, Ea, hE, hG, hw.2, hp, hx⟩
          · cases h
      · exact pe_never fun ρ G Q E hw => by unfold wE at hw; rw [hF] at hw; exact ha hw.1
  | .new n es, X, W, C, x, oc, ck, h => by
    cases hF : Γ.mke n with
    | none => exact pe_never fun ρ G Q E hw => by unfold wE at hw; rw [hF] at hw; exact hw
    | some F =>
      by_cases ha : F.ar ≤ es.length + 1 + F.dfl.length ∧ es.length + 1 ≤ F.ar
      · cases es with
        | nil =>
          unfold corE at h
          split at h
          · simp only [Bool.and_eq_true] at h
            cases beqS h.1
            obtain ⟨h1, h2, h3⟩ := gl_of ck h.2
            refine PE.imp (se_new0 oc hF h1 h2 ha.1 ha.2) ?_
            rintro σ H Q ⟨ρ, G, Qa, Ea, hE, hG, hw, hp, hx⟩
            unfold wE at hw
            rw [hF] at hw
            exact ⟨ρ, G, Qa, Ea, hE, hG, hw.2, hp, hx⟩
          · cases h
        | cons e es =>
          unfold corE at h
          split at h
          · simp only [Bool.and_eq_true] at h
            cases beqS h.1.1
            obtain ⟨h1, h2, h3⟩ := gl_of ck h.1.2
            obtain ⟨l1, l2⟩ := corEs_len h.2
            obtain ⟨l3, l4⟩ := all_cons1 l2
            have hq := okEs (e :: es) _ oc ck h.2
            rw [l1] at ha
            refine PE.imp (se_new oc hF h1 h2 ha.1 ha.2 hq (star1 l3) (plain_star l4)) ?_
            rintro σ H Q ⟨ρ, G, Qa, Ea, hE, hG, hw, hp, hx⟩
            unfold wE at hw
            rw [hF] at hw
            rw [← l1]
            exact ⟨ρ, G, Qa, Ea, hE, hG, hw.2, hp, hx⟩
          · cases h
      · exact pe_never fun ρ G Q E hw => by unfold wE at hw; rw [hF] at hw; exact ha hw.1
  | .dlit es, X, W, C, x, oc, ck, h => by
    unfold corE at h
    split at h
    · rename_i ks vs q
      simp only [Bool.and_eq_true, decide_eq_true_eq] at h
      obtain ⟨l1, l2⟩ := corD_len h.1
      by_cases h0 : ks = []
      · subst h0
        have : vs = [] := List.length_eq_zero_iff.mp l1.symm
        subst this
        cases es with
        | nil => exact se_dlit0
        | cons a r =>
          cases r with
          | nil => have := h.1; unfold corD at this; cases this
          | cons => have := h.1; unfold corD at this; cases this
      · exact se_dlit (okD es ks vs oc ck h.1) l2 l1 h0 h.2
    · cases h
  | .dix a b, X, W, C, x, oc, ck, h => by
    unfold corE at h
    split at h
    · simp only [Bool.and_eq_true] at h
      exact se_dix oc (nosl_ok h.1.1) (okE a _ oc ck h.1.2) (okE b _ oc ck h.2)
    · cases h
  | .dget1 a b, X, W, C, x, oc, ck, h => by
    unfold corE at h
    split at h
    · simp only [Bool.and_eq_true] at h
      cases beqS h.1.1.1.1.1
      exact se_dget1 oc (okE a _ oc ck h.1.2) (okE b _ oc ck h.2) (m1_ok h.1.1.1.1.2 h.1.1.1.2 h.1.1.2)
    · cases h
  | .dget2 a b c, X, W, C, x, oc, ck, h => by
    unfold corE at h
    split at h
    · simp only [Bool.and_eq_true] at h
      cases beqS h.1.1.1.1.1.1.1
      exact se_dget2 oc (okE a _ oc ck h.1.1.2) (okE b _ oc ck h.1.2) (okE c _ oc ck h.2) (m2_ok h.1.1.1.1.1.1.2 h.1.1.1.1.1.2 h.1.1.1.1.2 h.1.1.1.2)
    · cases h
  | .dead, X, W, C, x, oc, ck, h => pe_never fun ρ G Q E hw => by unfold wE at hw; exact hw
  | .gin n d a, X, W, C, x, oc, ck, h => by
    cases hd : Γ.dc d with
    | none => exact pe_never fun ρ G Q E hw => by unfold wE at hw; rw [hd] at hw; exact hw
    | some kv =>
      unfold corE at h
      split at h
      · simp only [Bool.and_eq_true, beq_iff_eq] at h
        obtain ⟨⟨⟨rfl, h0⟩, h1⟩, h2⟩ := h
        subst h0
        obtain ⟨g1, g2, g3⟩ := gl_of ck h1
        refine PE.imp (se_gin oc hd g1 g2 (okE a _ oc ck h2)) fun σ H Q ⟨ρ, G, Qa, Ea, hE, hG, hw, hp, hx⟩ => ⟨ρ, G, Qa, Ea, hE, hG, ?_, hp, hx⟩
        unfold wE at hw
        rw [hd] at hw
        exact hw
      · cases h
  | .gix d a, X, W, C, x, oc, ck, h => by
    cases hd : Γ.dc d with
    | none => exact pe_never fun ρ G Q E hw => by unfold wE at hw; rw [hd] at hw; exact hw
    | some kv =>
      unfold corE at h
      split at h
      · simp only [Bool.and_eq_true, beq_iff_eq] at h
        obtain ⟨⟨⟨h0, h1⟩, h3⟩, h2⟩ := h
        subst h0
        obtain ⟨g1, g2, g3⟩ := gl_of ck h1
        refine PE.imp (se_gix oc hd g1 g2 (nosl_ok h3) (okE a _ oc ck h2)) fun σ H Q ⟨ρ, G, Qa, Ea, hE, hG, hw, hp, hx⟩ => ⟨ρ, G, Qa, Ea, hE, hG, ?_, hp, hx⟩
        unfold wE at hw
        rw [hd] at hw
        exact hw
      · cases h
  | .gget1 d a, X, W, C, x, oc, ck, h => by
    cases hd : Γ.dc d with
    | none => exact pe_never fun ρ G Q E hw => by unfold wE at hw; rw [hd] at hw; exact hw
    | some kv =>
      unfold corE at h
      split at h
      · simp only [Bool.and_eq_true, beq_iff_eq] at h
        obtain ⟨⟨⟨⟨⟨rfl, h0⟩, h1⟩, h3⟩, h4⟩, h2⟩ := h
        subst h0
        obtain ⟨g1, g2, g3⟩ := gl_of ck h1
        refine PE.imp (se_gget1 oc hd g1 g2 (okE a _ oc ck h2) (m1_ok rfl (beq_iff_eq.mpr h3) h4)) fun σ H Q ⟨ρ, G, Qa, Ea, hE, hG, hw, hp, hx⟩ => ⟨ρ, G, Qa, Ea, hE, hG, ?_, hp, hx⟩
        unfold wE at hw
        rw [hd] at hw
        exact hw
      · cases h
  | .gget2 d a b, X, W, C, x, oc, ck, h => by
    cases hd : Γ.dc d with
    | none => exact pe_never fun ρ G Q E hw => by unfold wE at hw; rw [hd] at hw; exact hw
    | some kv =>
      unfold corE at h
      split at h
      · simp only [Bool.and_eq_true, beq_iff_eq] at h
        obtain ⟨⟨⟨⟨⟨⟨⟨rfl, h0⟩, h1⟩, h3⟩, h4⟩, h5⟩, h2⟩, h6⟩ := h
        subst h0
        obtain ⟨g1, g2, g3⟩ := gl_of ck h1
        refine PE.imp (se_gget2 oc hd g1 g2 (okE a _ oc ck h2) (okE b _ oc ck h6) (m2_ok rfl (beq_iff_eq.mpr h3) h4 h5)) fun σ H Q ⟨ρ, G, Qa, Ea, hE, hG, hw, hp, hx⟩ => ⟨ρ, G, Qa, Ea, hE, hG, ?_, hp, hx⟩
        unfold wE at hw
        rw [hd] at hw
        exact hw
      · cases h
  | .callV i es, X, W, C, x, oc, ck, h => by
    unfold corE at h
    split at h
    · simp only [Bool.and_eq_true] at h
      obtain ⟨v1, v2, v3, v4⟩ := vis_of ck h.1
      obtain ⟨l1, l2⟩ := corEs_len h.2
      obtain ⟨l3, l4⟩ := all_cons1 l2
      refine PE.imp (se_callV oc v1 v2 v3 v4 (okEs es _ oc ck h.2) (star1 l3) (plain_star l4)) fun σ H Q ⟨ρ, G, Qa, Ea, hE, hG, hw, hp, hx⟩ => ⟨ρ, G, Qa, Ea, hE, hG, ?_, hp, hx⟩
      unfold wE at hw
      rw [l1] at hw
      exact hw
    · cases h
  | .din n a b, X, W, C, x, oc, ck, h => by
    unfold corE at h
    split at h
    · simp only [Bool.and_eq_true, beq_iff_eq] at h
      obtain ⟨⟨⟨rfl, h0⟩, h1⟩, h2⟩ := h
      exact pe_cmp (se_din oc (okE a _ oc ck h1) (okE b _ oc ck h2)) (marks_no h0)
    · cases h
  | .sin n a b, X, W, C, x, oc, ck, h => by
    unfold corE at h
    split at h
    · simp only [Bool.and_eq_true, beq_iff_eq] at h
      obtain ⟨⟨⟨rfl, h0⟩, h1⟩, h2⟩ := h
      exact se_sin (marks_no h0) (okE a _ oc ck h1) (okE b _ oc ck h2)
    · cases h
  | .smeth z m o es, X, W, C, x, oc, ck, h => by
    cases es with
    | nil =>
      unfold corE at h
      split at h
      · simp only [Bool.and_eq_true] at h
        cases beqS h.1.1.1
        exact se_smeth0 (okE o _ oc ck h.2) (base_no h.1.1.2) h.1.2
      · cases h
    | cons e es =>
      unfold corE at h
      split at h
      · simp only [Bool.and_eq_true, decide_eq_true_eq] at h
        cases beqS h.1.1.1.1.1
        obtain ⟨l1, l2⟩ := corEs_len h.2
        obtain ⟨l3, l4⟩ := all_cons1 l2
        exact se_smeth (okE o _ oc ck h.1.2) (okEs (e :: es) _ oc ck h.2) (base_no h.1.1.1.1.2) (few_ok l2 h.1.1.2) h.1.1.1.2 (star1 l3) (plain_star l4)
      · cases h
  | .six a b, X, W, C, x, oc, ck, h => by
    unfold corE at h
    split at h
    · simp only [Bool.and_eq_true] at h
      exact se_six (plain_ix h.1.1) (okE a _ oc ck h.1.2) (okE b _ oc ck h.2)
    · cases h
theorem okD {Γ : Gam} {k : Nat} : ∀ (es : List E) {X : Cx} {W : WX} {C : Ck} {pos : Pos} (ks : List (Option Expr)) (vs : List Expr), Oc X W Γ k → CkOk X C → corD C es ks vs = true → DspOk X pos ks vs (LfD X.K W (wEs Γ es))
  | [], X, W, C, pos, [], [], oc, ck, h => sd_nil
  | a :: b :: es, X, W, C, pos, some x :: ks, y :: vs, oc, ck, h => by
    unfold corD at h
    simp only [Bool.and_eq_true] at h
    exact sd_cons (okE a _ oc ck h.1.1) (okE b _ oc ck h.1.2) (okD es ks vs oc ck h.2)
  | [], _, _, _, _, [], _ :: _, _, _, h => by unfold corD at h; cases h
  | [], _, _, _, _, _ :: _, _, _, _, h => by unfold corD at h; cases h
  | [_], _, _, _, _, _, _, _, _, h => by unfold corD at h; cases h
  | _ :: _ :: _, _, _, _, _, [], _, _, _, h => by unfold corD at h; cases h
  | _ :: _ :: _, _, _, _, _, none :: _, _, _, _, h => by unfold corD at h; cases h
  | _ :: _ :: _, _, _, _, _, some _ :: _, [], _, _, h => by unfold corD at h; cases h
theorem okEs {Γ : Gam} {k : Nat} : ∀ (es : List E) {X : Cx} {W : WX} {C : Ck} (xs : List Expr), Oc X W Γ k → CkOk X C → corEs C es xs = true → PA X xs (LfA X.K W (wEs Γ es))
  | [], X, W, C, [], oc, ck, h => sa_nil
  | e :: es, X, W, C, x :: xs, oc, ck, h => by
    unfold corEs at h
    simp only [Bool.and_eq_true] at h
    exact sa_cons (star1 h.1.1) (okE e _ oc ck h.1.2) (okEs es _ oc ck h.2)
  | [], _, _, _, _ :: _, _, _, h => by unfold corEs at h; cases h
  | _ :: _, _, _, _, [], _, _, h => by unfold corEs at h; cases h
theorem okT {Γ : Gam} {k : Nat} : ∀ (t : T) {X : Cx} {W : WX} {C : Ck} (x : Expr), Oc X W Γ k → CkOk X C → corT C t x = true → PT X x (LfT X.K W (wT Γ t)) ∧ ((∀ op xs p, x = .BoolOp op xs p → PW X x (LfT X.K W (wT Γ t))))
  | .and_ a b, X, W, C, x, oc, ck, h => by
    unfold corT at h
    split at h
    · simp only [Bool.and_eq_true] at h
      have q := st_and (okT a _ oc ck h.1).1 ((okT b _ oc ck h.2).2 _ _ _ rfl)
      exact ⟨q.pt, fun _ _ _ _ => q⟩
    · cases h
  | .or_ a b, X, W, C, x, oc, ck, h => by
    unfold corT at h
    split at h
    · simp only [Bool.and_eq_true] at h
      have q := st_or (okT a _ oc ck h.1).1 ((okT b _ oc ck h.2).2 _ _ _ rfl)
      exact ⟨q.pt, fun _ _ _ _ => q⟩
    · cases h
  | .one a, X, W, C, x, oc, ck, h => by
    unfold corT at h
    split at h
    · have q := pw_and1 (pos := by assumption) (okT a _ oc ck h).1
      exact ⟨q.pt, fun _ _ _ _ => q⟩
    · have q := pw_or1 (pos := by assumption) (okT a _ oc ck h).1
      exact ⟨q.pt, fun _ _ _ _ => q⟩
    · cases h
  | .not_ a, X, W, C, x, oc, ck, h => by
    unfold corT at h
    split at h
    · exact ⟨st_not (okT a _ oc ck h).1, fun _ _ _ e => by cases e⟩
    · cases h
  | .cmp o a b, X, W, C, x, oc, ck, h => by
    unfold corT at h
    split at h
    · simp only [Bool.and_eq_true, beq_iff_eq] at h
      obtain ⟨⟨⟨rfl, h0⟩, h1⟩, h2⟩ := h
      obtain ⟨r, k1, k2⟩ := cmp_ok X oc.room.units o
      exact ⟨st_cmp k1 k2 (marks_no h0) (okE a _ oc ck h1) (okE b _ oc ck h2), fun _ _ _ e => by cases e⟩
    · cases h
  | .cmp2 o o' a b c, X, W, C, x, oc, ck, h => by
    unfold corT at h
    split at h
    · simp only [Bool.and_eq_true, beq_iff_eq] at h
      obtain ⟨⟨⟨⟨⟨rfl, rfl⟩, h0⟩, h1⟩, h2⟩, h3⟩ := h
      obtain ⟨r, k1, k2⟩ := cmp_ok X oc.room.units o
      obtain ⟨r', k1', k2'⟩ := cmp_ok X oc.room.units o'
      exact ⟨st_cmp2 k1 k2 k1' k2' (marks_no h0) (okE a _ oc ck h1) (okE b _ oc ck h2) (okE c _ oc ck h3), fun _ _ _ e => by cases e⟩
    · cases h
  | .val a, X, W, C, x, oc, ck, h => by
    unfold corT at h
    simp only [Bool.and_eq_true] at h
    refine ⟨st_val (okE a _ oc ck h.2) (val_no h.1), fun _ _ _ e => ?_⟩
    rw [e] at h
    cases h.1
  | .ite _ _ _, X, W, C, x, oc, ck, h => by unfold corT at h; cases h
  | .gin n d a, X, W, C, x, oc, ck, h => by
    cases hd : Γ.dc d with
    | none =>
      unfold corT at h
      split at h
      · exact ⟨pt_never fun ρ G Q E hw => by unfold wT at hw; rw [hd] at hw; exact hw, fun _ _ _ e => by cases e⟩
      · cases h
    | some kv =>
      unfold corT at h
      split at h
      · simp only [Bool.and_eq_true, beq_iff_eq] at h
        obtain ⟨⟨⟨rfl, h0⟩, h1⟩, h2⟩ := h
        subst h0
        obtain ⟨g1, g2, g3⟩ := gl_of ck h1
        refine ⟨PT.imp (st_gin oc hd g1 g2 (okE a _ oc ck h2)) fun σ H Q ⟨ρ, G, Qa, Ea, hE, hG, hw, hp, hx⟩ => ⟨ρ, G, Qa, Ea, hE, hG, ?_, hp, hx⟩, fun _ _ _ e => by cases e⟩
        unfold wT at hw
        rw [hd] at hw
        exact hw
      · cases h
  | .din n a b, X, W, C, x, oc, ck, h => by
    unfold corT at h
    split at h
    · simp only [Bool.and_eq_true, beq_iff_eq] at h
      obtain ⟨⟨⟨rfl, h0⟩, h1⟩, h2⟩ := h
      exact ⟨st_din oc (marks_no h0) (okE a _ oc ck h1) (okE b _ oc ck h2), fun _ _ _ e => by cases e⟩
    · cases h
  | .sin n a b, X, W, C, x, oc, ck, h => by
    unfold corT at h
    split at h
    · simp only [Bool.and_eq_true, beq_iff_eq] at h
      obtain ⟨⟨⟨rfl, h0⟩, h1⟩, h2⟩ := h
      exact ⟨st_sin (marks_no h0) (okE a _ oc ck h1) (okE b _ oc ck h2), fun _ _ _ e => by cases e⟩
    · cases h
theorem okI {Γ : Gam} {k : Nat} : ∀ (i : I) {X : Cx} {W : WX} {C : Ck} (tg x : Expr), Oc X W Γ k → CkOk X C → corI C i tg x = true → PI X tg x (LfI X.K W (wI Γ i))
  | .gkeys d, X, W, C, tg, x, oc, ck, h => by
    cases hd : Γ.dc d with
    | none => exact pi_never fun ρ G Q E hw => by unfold wI at hw; rw [hd] at hw; exact hw
    | some kv =>
      unfold corI at h
      split at h
      · simp only [Bool.and_eq_true, beq_iff_eq] at h
        obtain ⟨h0, h1⟩ := h
        subst h0
        obtain ⟨g1, g2, g3⟩ := gl_of ck h1
        refine PI.imp (si_gkeys oc hd g1 g2) fun σ H Q ⟨ρ, G, Qa, Ea, hE, hG, hw, hp, hx⟩ => ⟨ρ, G, Qa, Ea, hE, hG, ?_, hp, hx⟩
        unfold wI at hw
        rw [hd] at hw
        exact hw
      · cases h
  | .str a, X, W, C, tg, x, oc, ck, h => by
    unfold corI at h
    exact si_str (okE a _ oc ck h)
  | .rng1 a, X, W, C, tg, x, oc, ck, h => by
    unfold corI at h
    split at h
    · simp only [Bool.and_eq_true] at h
      cases beqS h.1.1.1
      obtain ⟨h1, h2, h3⟩ := gl_of ck h.1.1.2
      exact si_rng1 h1 oc.tb.rng (okE a _ oc ck h.2) (star1 h.1.2)
    · cases h
  | .rng2 a b, X, W, C, tg, x, oc, ck, h => by
    unfold corI at h
    split at h
    · simp only [Bool.and_eq_true] at h
      cases beqS h.1.1.1.1.1
      obtain ⟨h1, h2, h3⟩ := gl_of ck h.1.1.1.1.2
      exact si_rng2 h1 oc.tb.rng (okE a _ oc ck h.1.2) (okE b _ oc ck h.2) (by rw [star1 h.1.1.1.2, star1 h.1.1.2]; rfl) (star1 h.1.1.2)
    · cases h
  | .zip a b, X, W, C, tg, x, oc, ck, h => by
    unfold corI at h
    split at h
    · simp only [Bool.and_eq_true] at h
      cases beqS h.1.1.1.1.1.2
      obtain ⟨h1, h2, h3⟩ := gl_of ck h.1.1.1.1.2
      cases tg with
      | Tuple ts kk p => exact si_zip h1 oc.tb.zip (okE a _ oc ck h.1.2) (okE b _ oc ck h.2) (star1 h.1.1.1.2) (star1 h.1.1.2)
      | _ => cases h.1.1.1.1.1.1
    · cases h
  | .enum a, X, W, C, tg, x, oc, ck, h => by
    unfold corI at h
    split at h
    · simp only [Bool.and_eq_true] at h
      cases beqS h.1.1.1.2
      obtain ⟨h1, h2, h3⟩ := gl_of ck h.1.1.2
      cases tg with
      | Tuple ts kk p => exact si_enum h1 oc.tb.enum (okE a _ oc ck h.2) (star1 h.1.2)
      | _ => cases h.1.1.1.1
    · cases h
  | .seq a, X, W, C, tg, x, oc, ck, h => by
    unfold corI at h
    exact si_seq (okE a _ oc ck h)
end
end Av


set_option Elab.async false
set_option linter.all false
set_option maxRecDepth 100000
set_option maxHeartbeats 4000000
/-! # Av11: statements checked; the rule of a def -/
namespace Av
open PySem PySem.Spec PyProof.Rows L2
variable [Tb]

def swB (C : Ck) (py : Pos) (y : Str) : Expr → Bool
  | .ListComp _ _ scope pos => (C.sc.kind == .function) && (py.line == pos.line) && !(scope.names.any fun (n, k) => n == y && (k == .local || k == .cell))
  | _ => false
def foldB : Expr → Bool
  | .Tuple vs _ _ => vs.all (foldedForSure 8) && vs.all noStar
  | _ => false
def isDoc : Expr → Bool
  | .Constant (.str _) _ _ => true
  | _ => false
mutual
def corS (C : Ck) : S → Stmt → Bool
  | .set i e, x => match x with
    | .Assign [.Name y py] v _ => locB C i y && corE C e v && (noComp v || (lclB C.sc y && swB C py y v))
    | _ => false
  | .setTp is e, x => match x with
    | .Assign [.Tuple ts _ _] v _ => namesB C ts is && corE C e v && noComp v && (noTup v || foldB v || decide (4 ≤ ts.length))
    | _ => false
  | .par2 i j a b, x => match x with
    | .Assign [.Tuple [.Name x px, .Name y py] _ _] (.Tuple [u, v] _ _) _ => locB C i x && locB C j y && lclB C.sc x && lclB C.sc y && !(i == j) && !(x == y) && (py.line == px.line) && (C.sc.kind == .function) &&
        !(foldedForSure 8 u && foldedForSure 8 v) && !(constantsAlone 8 u && constantsAlone 8 v) && noStar u && noStar v && corE C a u && corE C b v
    | _ => false
  | .par3 i j k a b c, x => match x with
    | .Assign [.Tuple [.Name x px, .Name y py, .Name z pz] _ _] (.Tuple [u, v, t] _ _) _ => (locB C i x && locB C j y && locB C k z) && (lclB C.sc x && lclB C.sc y && lclB C.sc z) && (!(i == j) && !(i == k) && !(j == k)) && (!(x == y) && !(x == z) && !(y == z)) && (py.line == px.line) && (pz.line == px.line) && (C.sc.kind == .function) &&
        !(foldedForSure 8 u && foldedForSure 8 v && foldedForSure 8 t) && !(constantsAlone 8 u && constantsAlone 8 v && constantsAlone 8 t) && (noStar u && noStar v && noStar t) && corE C a u && corE C b v && corE C c t
    | _ => false
  | .expr e, x => match x with
    | .Expr v _ => corE C e v && noComp v
    | _ => false
  | .ret e, x => match x with
    | .Return (some v) _ => corE C e v
    | _ => false
  | .retN, x => match x with
    | .Return none _ => true
    | _ => false
  | .if_ c a b, x => match x with
    | .If t u v _ => corT C c t && corSs C a u && corSs C b v
    | _ => false
  | .while_ c b, x => match x with
    | .While t u [] _ => corT C c t && corSs C b u
    | _ => false
  | .for_ g it b, x => match x with
    | .For tg iter u [] _ => corG C g tg && corI C it tg iter && noSet iter && corSs C b u
    | _ => false
  | .setIx o i e, x => match x with
    | .Assign [.Subscript x y _] v _ => noComp v && noSlice y && corE C e v && corE C o x && corE C i y
    | _ => false
  | .dset o i e, x => match x with
    | .Assign [.Subscript y z _] v _ => noComp v && corE C e v && corE C o y && corE C i z
    | _ => false
  | .setAtt o f e, x => match x with
    | .Assign [.Attribute y g _] v _ => (g == f) && noComp v && corE C e v && corE C o y
    | _ => false
  | .aug i o e, x => match x with
    | .AugAssign (.Name y _) op v _ => (op == o.op) && (o == .add || o == .sub) && locB C i y && corE C e v
    | _ => false
  | .pass, x => match x with
    | .Pass _ => true
    | .Expr v _ => isDoc v
    | _ => false
  | .brk, x => match x with
    | .Break _ => true
    | _ => false
  | .cont, x => match x with
    | .Continue _ => true
    | _ => false
  | .raise n [], x => match x with
    | .Raise (some (.Call (.Name g _) [] [] _)) none _ => (n == g) && gloB C g
    | _ => false
  | .raise n es, x => match x with
    | .Raise (some (.Call (.Name g _) (z :: zs) [] _)) none _ => (n == g) && gloB C g && corEs C es (z :: zs)
    | _ => false
  | .dead, _ => true
  | .sub_, _ => false
def corSs (C : Ck) : List S → List Stmt → Bool
  | [], [] => true
  | .dead :: _, _ => true
  | s :: ss, x :: xs => corS C s x && corSs C ss xs
  | _, _ => false
end
theorem bkind {env : Env} (h : env.scope.kind = .function) : env.blockKind = .function := by unfold Env.blockKind; rw [h]; rfl
theorem sw_par2 {env : Env} {x y : Str} {px py pt p2 : Pos} {u v : Expr} {kt k2 : Nat} (hk : env.scope.kind = .function) (hx : env.scope.names.lookup x = some .local) (hy : env.scope.names.lookup y = some .local) (hl : (py.line == px.line) = true) (hne : (x == y) = false) (hu : noStar u = true) (hv : noStar v = true)
    (hf : (foldedForSure 8 u && foldedForSure 8 v) = false) (hc : (constantsAlone 8 u && constantsAlone 8 v) = false) : swappedStores [.Tuple [.Name x px, .Name y py] kt pt] (.Tuple [u, v] k2 p2) env = pure (some [x, y]) := by
  have kx : env.kindOf x = some .local := hx
  have ky : env.kindOf y = some .local := hy
  have hl' : (px.line == px.line) = true := by simp
  have hyx : (y == x) = false := by rw [beq_eq_false_iff_ne] at hne ⊢; exact fun z => hne z.symm
  unfold swappedStores
  simp only [List.filterMap, List.any, List.all, List.head?, Option.map, Option.getD, bkind hk, kx, ky, Expr.pos, hl, hl', hf, hc, Bool.and_true, List.length]
  simp [List.eraseDups, List.eraseDupsBy, List.eraseDupsBy.loop, hne, hyx, hf, hc, Bool.and_true]
  rintro (q | q)
  · cases u <;> first | (cases hu; done) | cases q
  · cases v <;> first | (cases hv; done) | cases q
theorem sw_par3 {env : Env} {x y z : Str} {px py pz pt p2 : Pos} {u v t : Expr} {kt k2 : Nat} (hk : env.scope.kind = .function) (hx : env.scope.names.lookup x = some .local) (hy : env.scope.names.lookup y = some .local) (hz : env.scope.names.lookup z = some .local) (hl : (py.line == px.line) = true) (hl2 : (pz.line == px.line) = true)
    (h1 : (x == y) = false) (h2 : (x == z) = false) (h3 : (y == z) = false) (hu : noStar u = true) (hv : noStar v = true) (ht : noStar t = true)
    (hf : (foldedForSure 8 u && foldedForSure 8 v && foldedForSure 8 t) = false) (hc : (constantsAlone 8 u && constantsAlone 8 v && constantsAlone 8 t) = false) : swappedStores [.Tuple [.Name x px, .Name y py, .Name z pz] kt pt] (.Tuple [u, v, t] k2 p2) env = pure (some [x, y, z]) := by
  have kx : env.kindOf x = some .local := hx
  have ky : env.kindOf y = some .local := hy
  have kz : env.kindOf z = some .local := hz
  have hl' : (px.line == px.line) = true := by simp
  have k1 : (y == x) = false := by rw [beq_eq_false_iff_ne] at h1 ⊢; exact fun w => h1 w.symm
  have k2 : (z == x) = false := by rw [beq_eq_false_iff_ne] at h2 ⊢; exact fun w => h2 w.symm
  have k3 : (z == y) = false := by rw [beq_eq_false_iff_ne] at h3 ⊢; exact fun w => h3 w.symm
  rw [Bool.and_assoc] at hf hc
  unfold swappedStores
  simp only [List.filterMap, List.any, List.all, List.head?, Option.map, Option.getD, bkind hk, kx, ky, kz, Expr.pos, hl, hl2, hl', hf, hc, Bool.and_true, List.length]
  simp [List.eraseDups, List.eraseDupsBy, List.eraseDupsBy.loop, h1, h2, h3, k1, k2, k3, hf, hc, Bool.and_true]
  rintro (q | q | q)
  · cases u <;> first | (cases hu; done) | cases q
  · cases v <;> first | (cases hv; done) | cases q
  · cases t <;> first | (cases ht; done) | cases q
theorem sw_fold {env : Env} {ts : List Expr} {kt : Nat} {pt : Pos} {v : Expr} (h : (noTup v || foldB v || decide (4 ≤ ts.length)) = true) : swappedStores [.Tuple ts kt pt] v env = pure none := by
  rw [Bool.or_eq_true, Bool.or_eq_true] at h
  rcases h with (h | h) | h
  · exact swap_no h
  rotate_left
  · have h := of_decide_eq_true h
    have e : (!(ts.length == 2 || ts.length == 3)) = true := by
      have e2 : (ts.length == 2) = false := by simp; omega
      have e3 : (ts.length == 3) = false := by simp; omega
      rw [e2, e3]; rfl
    cases v with
    | Tuple vs k p =>
      unfold swappedStores
      simp only [e, Bool.true_or, if_true]
    | _ => rfl
  · cases v with
    | Tuple vs k p =>
      unfold foldB at h
      simp only [Bool.and_eq_true] at h
      unfold swappedStores
      simp only [h.1]
      split
      · rfl
      · split
        · rfl
        · split
          · rfl
          · simp
    | _ => cases h
theorem sw_one {t v : Expr} {l : Nat} {env : Env} (h : noComp v = true) : swapsWithSole [t] v l env = pure false := by cases v <;> first | rfl | cases h
theorem asg_sub {o i : Expr} {p : Pos} {env : Env} (h : noSlice i = true) : ∀ v, assign (.Subscript o i p) env v = (do
      let ov ← holding [v] (eval o env)
      let iv ← holding [v, ov] (eval i env)
      standAt p
      holding [v, ov, iv] (setItem ov iv v)
      release [v, ov, iv] []) := by
  intro v
  cases i <;> first | rfl | cases h
theorem sw_sub {env : Env} {o i : Expr} {p : Pos} {v : Expr} : swappedStores [.Subscript o i p] v env = pure none := by cases v <;> rfl
section
variable {X : Cx} {W : WX} {C : Ck} {Γ : Gam} {k : Nat}
/-- a comprehension stored into a local name -/
theorem okLcS (oc : Oc X W Γ k) (ck : CkOk X C) {i : Nat} {y : Str} {py p : Pos} {v : Expr} (hi : X.N[i]? = some y) (hl : lclB C.sc y = true) (hs : swB C py y v = true) : ∀ (e : E), corE C e v = true → PS X (.Assign [.Name y py] v p) (LfS X.K W fun ρ G A => wE Γ e ρ G (fun d G1 => A.nx (ρ.set i (some d)) G1) (A.ex ρ)) := by
  cases v with
  | ListComp elt gens scope pos =>
    unfold swB at hs
    simp only [Bool.and_eq_true, Bool.not_eq_true', beq_iff_eq] at hs
    have hyl := lcl_of ck hl
    have hk : X.env.scope.kind = .function := by rw [ck.sc]; exact hs.1.1
    have hsw : ∀ gs, swapsWith (.ListComp elt gs scope pos) (some (.Name y py)) p.line X.env = pure true := fun gs => sw_true hk hyl (beq_iff_eq.mpr hs.1.2) hs.2
    intro e
    induction e using E.rec (motive_2 := fun _ => True) (motive_3 := fun _ => True) (motive_4 := fun _ => True) with
    | lc z e g it own _ _ =>
      intro h
      unfold corE at h
      split at h
      · rename_i heq
        cases heq
        simp only [Bool.and_eq_true] at h
        obtain ⟨on, rfl, k1, k2, k3, k4⟩ := lcB_ok ck oc.calm oc.nd h.1.1
        refine PS.imp (ss_setLc (z := z) (wt := fun _ G Q _ => Q true G) oc hi hyl (hsw _) (okI it _ _ oc ck h.1.2) k1 k2 k3 (fun s H c cl fp => pts_nil) (fun s H c cl fp => okE e _ (oc.blk s H _ _ fp) (into_ok ck s H _ cl c fp) h.2) k4 (fun σ H Q ρ G Qa a b c d => yes_imp _ σ H Q ρ G Qa a b c d)) ?_
        rintro D σ H ⟨ρ, G, A, hE, hG, hw, l⟩
        refine ⟨ρ, G, A, hE, hG, ?_, l⟩
        unfold wE at hw
        unfold lcG
        simp only [lcW_if]
        exact hw
      · cases h
    | lcIf z e g it t own _ _ _ =>
      intro h
      unfold corE at h
      split at h
      · rename_i heq
        cases heq
        simp only [Bool.and_eq_true] at h
        obtain ⟨on, rfl, k1, k2, k3, k4⟩ := lcB_ok ck oc.calm oc.nd h.1.1.1
        exact ss_setLc (z := z) (wt := wT Γ t) oc hi hyl (hsw _) (okI it _ _ oc ck h.1.1.2) k1 k2 k3 (fun s H c cl fp => pts_one (okT t _ (oc.blk s H _ _ fp) (into_ok ck s H _ cl c fp) h.2).1) (fun s H c cl fp => okE e _ (oc.blk s H _ _ fp) (into_ok ck s H _ cl c fp) h.1.2) k4
          (fun σ H Q ρ G Qa a b c d => tst_imp _ σ H Q ρ G Qa a b c d)
      · cases h
    | frz a ih =>
      intro h
      unfold corE at h
      exact ss_frz hi (ih h)
    | call f es _ => intro h; cases es <;> (unfold corE at h; cases h)
    | mcall n m o es _ _ => intro h; cases es <;> (unfold corE at h; cases h)
    | new n es _ => intro h; cases es <;> (unfold corE at h; cases h)
    | meth m o es _ _ => intro h; cases es <;> (unfold corE at h; cases h)
    | smeth z m o es _ _ => intro h; cases es <;> (unfold corE at h; cases h)
    | dead => exact fun _ => ⟨fun _ _ _ _ _ _ ⟨ρ, G, A, _, _, hw, _⟩ => by dsimp only at hw; unfold wE at hw; exact False.elim hw⟩
    | _ => first | trivial | (intro h; unfold corE at h; cases h; done) | skip
  | _ => cases hs
mutual
theorem okS (po : PassesOwn (model X.prog X.w) X.A X.env X.xe) (oc : Oc X W Γ k) (ck : CkOk X C) : ∀ (s : S) (x : Stmt), corS C s x = true → PS X x (LfS X.K W (wS Γ s))
  | .set i e, x, h => by
    unfold corS at h
    split at h
    · simp only [Bool.and_eq_true, Bool.or_eq_true] at h
      obtain ⟨⟨h1, h2⟩, h3⟩ := h
      obtain ⟨k1, k2, k3⟩ := loc_of ck h1
      rcases h3 with h3 | h3
      · exact ss_set oc.nd k1 k2 (okE e _ oc ck h2) (sw_no h3) k3
      · exact okLcS oc ck k1 h3.1 h3.2 e h2
    · cases h
  | .setTp is e, x, h => by
    unfold corS at h
    split at h
    · simp only [Bool.and_eq_true] at h
      exact ss_setTp oc.calm oc.nd (names_of ck h.1.1.1) (okE e _ oc ck h.1.1.2) (sw_one h.1.2) (sw_fold h.2)
    · cases h
  | .par2 i j a b, x, h => by
    unfold corS at h
    split at h
    · simp only [Bool.and_eq_true, Bool.not_eq_true', beq_iff_eq, beq_eq_false_iff_ne] at h
      obtain ⟨⟨⟨⟨⟨⟨⟨⟨⟨⟨⟨⟨⟨h1, h2⟩, h3⟩, h4⟩, h5⟩, h6⟩, h7⟩, h8⟩, h9⟩, h10⟩, h11⟩, h12⟩, h13⟩, h14⟩ := h
      exact ss_par2 oc.calm oc.nd (loc_of ck h1).1 (loc_of ck h2).1 h5 (lcl_of ck h3) (lcl_of ck h4) (okE a _ oc ck h13) (okE b _ oc ck h14) (star1 h11) (star1 h12)
        (sw_par2 (by rw [ck.sc]; exact h8) (lcl_of ck h3) (lcl_of ck h4) (beq_iff_eq.mpr h7) (beq_eq_false_iff_ne.mpr h6) h11 h12 h9 h10) rfl
    · cases h
  | .par3 i j m a b c, x, h => by
    unfold corS at h
    split at h
    · simp only [Bool.and_eq_true, Bool.not_eq_true', beq_iff_eq, beq_eq_false_iff_ne] at h
      obtain ⟨⟨⟨⟨⟨⟨⟨⟨⟨⟨⟨⟨⟨⟨h1, h2⟩, h3⟩, ⟨h4, h5⟩, h6⟩, ⟨h7, h8⟩, h9⟩, ⟨h10, h11⟩, h12⟩, h13⟩, h14⟩, h15⟩, h16⟩, h17⟩, ⟨h18, h19⟩, h20⟩, h21⟩, h22⟩, h23⟩ := h
      exact ss_par3 oc.calm oc.nd (loc_of ck h1).1 (loc_of ck h2).1 (loc_of ck h3).1 h7 h8 h9 (lcl_of ck h4) (lcl_of ck h5) (lcl_of ck h6) (okE a _ oc ck h21) (okE b _ oc ck h22) (okE c _ oc ck h23) (star1 h18) (star1 h19) (star1 h20)
        (sw_par3 (by rw [ck.sc]; exact h15) (lcl_of ck h4) (lcl_of ck h5) (lcl_of ck h6) (beq_iff_eq.mpr h13) (beq_iff_eq.mpr h14) (beq_eq_false_iff_ne.mpr h10) (beq_eq_false_iff_ne.mpr h11) (beq_eq_false_iff_ne.mpr h12) h18 h19 h20 h16 h17) rfl
    · cases h
  | .expr e, x, h => by
    unfold corS at h
    split at h
    · simp only [Bool.and_eq_true] at h
      exact ss_expr (okE e _ oc ck h.1) (sw_no h.2)
    · cases h
  | .ret e, x, h => by
    unfold corS at h
    split at h
    · exact ss_ret (okE e _ oc ck h)
    · cases h
  | .retN, x, h => by
    unfold corS at h
    split at h
    · exact ss_retN
    · cases h
  | .if_ c a b, x, h => by
    unfold corS at h
    split at h
    · simp only [Bool.and_eq_true] at h
      exact ss_if (okT c _ oc ck h.1.1).1 (okSs po oc ck a _ h.1.2) (okSs po oc ck b _ h.2)
    · cases h
  | .while_ c b, x, h => by
    unfold corS at h
    split at h
    · simp only [Bool.and_eq_true] at h
      exact ss_while po (okT c _ oc ck h.1).1 (okSs po oc ck b _ h.2)
    · cases h
  | .for_ g it b, x, h => by
    unfold corS at h
    split at h
    · simp only [Bool.and_eq_true] at h
      exact ss_for po oc.calm (okI it _ _ oc ck h.1.1.2) (corG_ok ck oc.calm oc.nd h.1.1.1) (okSs po oc ck b _ h.2) (fold_no h.1.2)
    · cases h
  | .setIx o i e, x, h => by
    unfold corS at h
    split at h
    · simp only [Bool.and_eq_true] at h
      obtain ⟨⟨⟨⟨h1, h2⟩, h3⟩, h4⟩, h5⟩ := h
      exact ss_setIx (okE e _ oc ck h3) (okE o _ oc ck h4) (okE i _ oc ck h5) (sw_one h1) sw_sub rfl (asg_sub h2)
    · cases h
  | .dset o i e, x, h => by
    unfold corS at h
    split at h
    · simp only [Bool.and_eq_true] at h
      obtain ⟨⟨⟨h1, h2⟩, h3⟩, h4⟩ := h
      exact ss_dset oc (okE e _ oc ck h2) (okE o _ oc ck h3) (okE i _ oc ck h4) (sw_no h1)
    · cases h
  | .setAtt o f e, x, h => by
    unfold corS at h
    split at h
    · simp only [Bool.and_eq_true] at h
      obtain ⟨⟨⟨h1, h2⟩, h3⟩, h4⟩ := h
      cases beqS h1
      exact ss_setAtt oc (okE e _ oc ck h3) (okE o _ oc ck h4) (sw_no h2)
    · cases h
  | .aug i o e, x, h => by
    unfold corS at h
    split at h
    · simp only [Bool.and_eq_true, Bool.or_eq_true, beq_iff_eq] at h
      obtain ⟨⟨⟨rfl, h1⟩, h2⟩, h3⟩ := h
      obtain ⟨k1, k2, k3⟩ := loc_of ck h2
      exact ss_aug oc.nd k1 k2 (okE e _ oc ck h3) h1 k3
    · cases h
  | .pass, x, h => by
    unfold corS at h
    split at h
    · exact ss_pass
    · rename_i v p
      cases v with
      | Constant c j q =>
        cases c with
        | str z => exact ss_doc
        | _ => cases h
      | _ => cases h
    · cases h
  | .brk, x, h => by
    unfold corS at h
    split at h
    · exact ss_brk
    · cases h
  | .cont, x, h => by
    unfold corS at h
    split at h
    · exact ss_cont
    · cases h
  | .raise n [], x, h => by
    unfold corS at h
    split at h
    · simp only [Bool.and_eq_true] at h
      cases beqS h.1
      obtain ⟨h1, h2, _⟩ := gl_of ck h.2
      exact ss_raise0 oc h1 h2
    · cases h
  | .raise n (e :: es), x, h => by
    unfold corS at h
    split at h
    · rename_i g p z zs pc pos
      simp only [Bool.and_eq_true] at h
      cases beqS h.1.1
      obtain ⟨h1, h2, _⟩ := gl_of ck h.1.2
      have ha := okEs (e :: es) _ oc ck h.2
      obtain ⟨l1, l2⟩ := corEs_len h.2
      obtain ⟨l3, l4⟩ := all_cons1 l2
      exact ss_raise oc h1 h2 ha (star1 l3) (plain_star l4)
    · cases h
  | .dead, x, h => ⟨fun _ _ _ _ _ _ ⟨ρ, G, A, _, _, hw, _⟩ => by unfold wS at hw; exact False.elim hw⟩
  | .sub_, x, h => by unfold corS at h; cases h
theorem okSs (po : PassesOwn (model X.prog X.w) X.A X.env X.xe) (oc : Oc X W Γ k) (ck : CkOk X C) : ∀ (ss : List S) (xs : List Stmt), corSs C ss xs = true → PSs X xs (LfS X.K W (wSs Γ ss))
  | [], [], _ => sss_nil
  | [], _ :: _, h => by unfold corSs at h; cases h
  | s :: ss, xs, h => by
    by_cases hd : s = .dead
    · subst hd
      exact ⟨fun _ _ _ _ _ _ ⟨ρ, G, A, _, _, hw, _⟩ => by unfold wSs wS at hw; exact False.elim hw⟩
    · cases xs with
      | nil => cases s <;> first | (unfold corSs at h; cases h; done) | exact absurd rfl hd
      | cons x xs =>
        have h' : (corS C s x && corSs C ss xs) = true := by
          cases s <;> first | exact h | exact absurd rfl hd
        simp only [Bool.and_eq_true] at h'
        exact sss_cons (ws := wS Γ s) (wr := wSs Γ ss) (okS po oc ck s x h'.1) (okSs po oc ck ss xs h'.2)
end
end
/-! ### a def -/
def startD (N : List Str) (ds : List Dat) : Env' := ds.map some ++ List.replicate (N.length - ds.length) none
def endsOf (Q : AQ) (X : AX) : AEnds := ⟨fun _ G => ∃ G0, Sub G0 G ∧ Q .non G0, fun d G => ∃ G0, Sub G0 G ∧ Q d G0, fun _ _ => False, fun _ _ => False, fun _ c fs G => ∃ G0, Sub G0 G ∧ X c fs G0⟩
theorem relE_start {K : PySem.W.Frag} {H : Hp} {N : List Str} {vs : List V} {ds : List Dat} (r : Reps K H vs ds) : RelE K H (startD N ds) (L2.start N vs) := by
  refine ⟨by simp [startD, L2.start, r.length], fun i d e => ?_⟩
  unfold startD at e
  unfold L2.start
  by_cases hi : i < ds.length
  · rw [List.getElem?_append_left (by rw [List.length_map]; exact hi), List.getElem?_map] at e
    rw [List.getElem?_append_left (by rw [List.length_map, r.length]; exact hi), List.getElem?_map]
    obtain ⟨v, d', h1, h2, h3⟩ := r.lt hi
    rw [h2] at e
    cases e
    exact ⟨v, by rw [h1]; rfl, h3⟩
  · rw [List.getElem?_append_right (by rw [List.length_map]; omega), List.getElem?_replicate] at e
    split at e <;> cases e
def scopeB (N ps : List Str) (sc : Scope) : Bool :=
  (sc.kind == .function) && !sc.isCoroutine && !sc.isGenerator && decide N.Nodup && (N.take ps.length == ps) && (ps.all fun x => lclB sc x || celB sc x) && (sc.names.all fun y => !(y.2 == .free))
theorem scopeB_ok {N ps : List Str} {sc : Scope} (h : scopeB N ps sc = true) : FnScope N ps sc := by
  unfold scopeB at h
  simp only [Bool.and_eq_true, Bool.not_eq_true', beq_iff_eq, decide_eq_true_eq, List.all_eq_true, Bool.or_eq_true, beq_eq_false_iff_ne] at h
  obtain ⟨⟨⟨⟨⟨⟨h1, h2⟩, h3⟩, h4⟩, h5⟩, h6⟩, h7⟩ := h
  refine ⟨h1, h2, h3, h4, h5, fun x hx => ?_, h7⟩
  rcases h6 x hx with q | q
  · unfold lclB at q
    split at q
    · exact .inl (by assumption)
    · cases q
  · unfold celB at q
    split at q
    · exact .inr (by assumption)
    · cases q
/-- THE RULE of a def -/
theorem fnOk {P : Program} {w : World} {K : PySem.W.Frag} {mg : Str → Option Value} {base : Heap} {Γ : Gam} {k : Nat} {F : FnE} {N ps : List Str} {ss : List S} {x qual : Str} {params : Arguments} {body : List Stmt} {scope : Scope} {dvs : List V} {kws : List (Str × V)} {f : Addr} {fd : FuncData}
    (FD : FunD K x qual params body scope dvs kws f fd) (hS : scopeB N ps scope = true) (hl : ps.length = F.ar) (tb : TbOk P w K mg base Γ k) (cor : corSs ⟨N, scope, true⟩ ss body = true)
    (hw : ∀ ds G Q X, F.con ds G Q X → wSs Γ ss (startD N ds) G (endsOf Q X)) : FnOk P w K mg base (L2.CX P w) (k + 1) f fd ps (spOf K F) := by
  have S := scopeB_ok hS
  refine FD.ok S (fun vs H Q E h => by rw [hl]; exact spOf_len h) fun cdv A outer s H vs Q E hr hsp => ?_
  obtain ⟨ds, G, Qa, Ea, r, g, hc, hp, hx⟩ := hsp
  refine ⟨LfS K (fun cls d _ H => E cls d H) (wSs Γ ss), okSs (passes_of rfl) ⟨hr, S.nd, rfl, takes_of rfl rfl rfl rfl, tb⟩ ⟨rfl, rfl, fun _ _ => rfl⟩ ss body cor, startD N ds, G, endsOf Qa Ea, relE_start r, g, hw ds G Qa Ea hc, ?_⟩
  refine ⟨fun ρ' G' σ' H' f e g' q => ?_, fun d G' v H' f g' rv q => ?_, fun _ _ _ _ _ _ _ q => q.elim, fun _ _ _ _ _ _ _ q => q.elim, fun ρ' G' σ' H' f e c fs G'' dx H'' f2 g2 rx q => ?_⟩
  · obtain ⟨G0, s0, q⟩ := q
    exact hp .non G0 .non H' (f.trans (.sub s0)) (g'.sub s0) .non q
  · obtain ⟨G0, s0, q⟩ := q
    exact hp d G0 v H' (f.trans (.sub s0)) (g'.sub s0) rv q
  · obtain ⟨G0, s0, q⟩ := q
    exact hx c fs G0 dx H'' ((f.trans f2).trans (.sub s0)) (g2.sub s0) rx q
end Av


set_option Elab.async false
set_option linter.all false
set_option maxRecDepth 100000
set_option maxHeartbeats 4000000
/-! # AvE: the facts of the module; the table of defs -/
namespace Av
open PySem PySem.Spec PyProof.Rows L2
variable [Tb]

/-! ### values of the written part -/
mutual
def datB (K : PySem.W.Frag) : Dat → Value → Bool
  | .non, u => match u with
    | .none => true
    | _ => false
  | .bl b, u => match u with
    | .bool c => b == c
    | _ => false
  | .int i, u => match u with
    | .int j _ => decide (i = j)
    | _ => false
  | .str x, u => match u with
    | .str y _ => decide (x = y)
    | _ => false
  | .ty n, u => match u with
    | .type m => decide (n = m)
    | _ => false
  | .tup ds, u => match u with
    | .ref a => (match K.lookup a with
      | some ⟨.type c, _, .seq its _, _⟩ => decide (c = "tuple") && decide (its.size ≤ sizeLine) && datsB K ds its.toList
      | _ => false)
    | _ => false
  | .kls ds, u => match u with
    | .ref a => (match K.lookup a with
      | some ⟨.type c, none, .seq its _, _⟩ => decide (c = "list") && decide (its.size ≤ sizeLine) && datsB K ds its.toList
      | _ => false)
    | _ => false
  | .lst _, _ => false
  | .ref _, _ => false
  | .gf x, u => match u with
    | .ref a => decide (a = He.ga K x)
    | _ => false
def datsB (K : PySem.W.Frag) : List Dat → List Value → Bool
  | [], us => us.isEmpty
  | d :: ds, us => match us with
    | u :: us => datB K d u && datsB K ds us
    | [] => false
end
mutual
theorem datB_ok {K : PySem.W.Frag} : ∀ (d : Dat) (u : Value), datB K d u = true → ∃ v, RelV v u ∧ ∀ H, Rep K H v d
  | .non, u, h => by
    unfold datB at h
    split at h
    · exact ⟨.non, rfl, fun _ => .non⟩
    · cases h
  | .bl b, u, h => by
    unfold datB at h
    split at h
    · cases beq_iff_eq.mp h; exact ⟨.bl b, rfl, fun _ => .bl b⟩
    · cases h
  | .int b, u, h => by
    unfold datB at h
    split at h
    · cases of_decide_eq_true h; exact ⟨.int b, ⟨_, rfl⟩, fun _ => .int b⟩
    · cases h
  | .str b, u, h => by
    unfold datB at h
    split at h
    · cases of_decide_eq_true h; exact ⟨.str b, ⟨_, rfl⟩, fun _ => .str b⟩
    · cases h
  | .ty b, u, h => by
    unfold datB at h
    split at h
    · cases of_decide_eq_true h; exact ⟨.ty b, rfl, fun _ => .ty b⟩
    · cases h
  | .tup ds, u, h => by
    unfold datB at h
    split at h
    · split at h
      · simp only [Bool.and_eq_true, decide_eq_true_eq] at h
        obtain ⟨⟨rfl, h2⟩, h3⟩ := h
        obtain ⟨vs, k1, k2⟩ := datsB_ok ds _ h3
        exact ⟨.ref _, rfl, fun H => .tup (.inr ⟨_, _, _, by assumption, rfl, rfl, h2, k1⟩) (k2 H)⟩
      · cases h
    · cases h
  | .kls ds, u, h => by
    unfold datB at h
    split at h
    · split at h
      · simp only [Bool.and_eq_true, decide_eq_true_eq] at h
        obtain ⟨⟨rfl, h2⟩, h3⟩ := h
        obtain ⟨vs, k1, k2⟩ := datsB_ok ds _ h3
        exact ⟨.ref _, rfl, fun H => .kls (.inr ⟨_, _, _, by assumption, rfl, rfl, rfl, h2, k1⟩) (k2 H)⟩
      · cases h
    · cases h
  | .lst _, _, h => by unfold datB at h; cases h
  | .ref _, _, h => by unfold datB at h; cases h
  | .gf b, u, h => by
    unfold datB at h
    split at h
    · cases of_decide_eq_true h; exact ⟨.ref _, rfl, fun _ => .gf b⟩
    · cases h
theorem datsB_ok {K : PySem.W.Frag} : ∀ (ds : List Dat) (us : List Value), datsB K ds us = true → ∃ vs, Vals vs us ∧ ∀ H, Reps K H vs ds
  | [], us, h => by
    unfold datsB at h
    cases us with
    | nil => exact ⟨[], .nil, fun _ => .nil⟩
    | cons => cases h
  | d :: ds, us, h => by
    unfold datsB at h
    split at h
    · rename_i u us
      simp only [Bool.and_eq_true] at h
      obtain ⟨v, k1, k2⟩ := datB_ok d u h.1
      obtain ⟨vs, k3, k4⟩ := datsB_ok ds us h.2
      exact ⟨v :: vs, .cons k1 k3, fun H => .cons (k2 H) (k4 H)⟩
    · cases h
end
/-- the module's name x is d -/
def gvB (K : PySem.W.Frag) (q : Str × Dat) : Bool := match PySem.W.nsIn K mainGlobals q.1 with
  | some (some u) => datB K q.2 u
  | _ => false
theorem gvB_ok {K : PySem.W.Frag} {h : Heap} {mg : Str → Option Value} (X : K.In h) (G : h.Ns mainGlobals mg) {q : Str × Dat} (c : gvB K q = true) : ∃ u v, RelV v u ∧ (∀ H, Rep K H v q.2) ∧ mg q.1 = some u := by
  unfold gvB at c
  split at c
  · rename_i u e
    obtain ⟨v, h1, h2⟩ := datB_ok _ _ c
    exact ⟨u, v, h1, h2, PySem.W.mg_of X G e⟩
  · cases c
/-! ### a dict of the module -/
def keyO : Value → Option Key
  | .int i _ => some (.inl i)
  | .str x _ => some (.inr x)
  | _ => none
def keyHO (e : DictEntry) : Option Key × Int := (keyO e.key, e.hash)
def kdObs (K : PySem.W.Frag) (x : Str) : Option (Addr × List (Option Key × Int) × List Value) := match PySem.W.nsIn K mainGlobals x with
  | some (some (.ref d)) => (match K.lookup d with
    | some ⟨.type c, none, .dict es _, sl⟩ => (match decide (c = "dict") && (sl.isEmpty && !(d == sysModules)) with
      | true => some (d, es.toList.map keyHO, es.toList.map (·.val))
      | false => none)
    | _ => none)
  | _ => none
def kdVals (K : PySem.W.Frag) (x : Str) : List Value := match kdObs K x with
  | some (_, _, vs) => vs
  | none => []
structure KdSays (K : PySem.W.Frag) (w : World) (x : Str) (kvs : List (Key × Dat)) : Prop where
  h : (kdObs K x).map (fun q => q.2.1) = some (kvs.map fun q => (some q.1, keyH w q.1))
  v : datsB K (kvs.map (·.2)) (kdVals K x) = true
  nd : decide ((kvs.map (·.1)).Nodup) = true
theorem keyO_is {v : Value} {k : Key} (h : keyO v = some k) : keyIs k v = true := by
  cases v with
  | int i t => cases h; simp [keyIs, Value.isInt]
  | str x t => cases h; simp [keyIs, Value.isStrOf]
  | _ => cases h
theorem pairs_of {P : Program} {w : World} : ∀ {es : List DictEntry} {kvs : List (Key × Dat)} {vs : List V}, es.map keyHO = kvs.map (fun q => (some q.1, keyH w q.1)) → Vals vs (es.map (·.val)) →
    (∀ e ∈ es, ∃ k, (mixKind P w).is k e.key = true ∧ e.hash = (mixKind P w).hash k) ∧ PySem.Pairs (mixKind P w) es ((kvs.map (·.1)).zip (es.map (·.val))) ∧ KV ((kvs.map (·.1)).zip vs) ((kvs.map (·.1)).zip (es.map (·.val)))
  | [], [], vs, _, r => by cases r; exact ⟨(fun e he => by simp at he), .nil, .nil⟩
  | [], _ :: _, _, h, _ => by simp at h
  | _ :: _, [], _, h, _ => by simp at h
  | e :: es, (k, d) :: kvs, vs, h, r => by
    simp only [List.map_cons, List.cons.injEq] at h
    cases r with
    | cons r1 r2 =>
      obtain ⟨i1, i2, i3⟩ := pairs_of (P := P) h.2 r2
      have hk : keyO e.key = some k := congrArg (·.1) h.1
      have hh : e.hash = keyH w k := congrArg (·.2) h.1
      have is := keyO_is hk
      refine ⟨fun e' he => ?_, .cons is rfl i2, .cons ⟨rfl, r1⟩ i3⟩
      rcases List.mem_cons.mp he with rfl | he
      · exact ⟨k, is, hh⟩
      · exact i1 e' he
theorem krel_of {K : PySem.W.Frag} {H : Hp} : ∀ {kvs : List (Key × Dat)} {vs : List V}, Reps K H vs (kvs.map (·.2)) → KRel K H ((kvs.map (·.1)).zip vs) kvs
  | [], _, .nil => .nil
  | (k, d) :: kvs, _, .cons a r => .cons ⟨rfl, a⟩ (krel_of r)
theorem KdSays.ok {K : PySem.W.Frag} {P : Program} {w : World} {x : Str} {kvs : List (Key × Dat)} {h : Heap} {mg : Str → Option Value} (c : KdSays K w x kvs) (X : K.In h) (G : h.Ns mainGlobals mg) :
    ∃ d vk, mg x = some (.ref d) ∧ KdAt K P w d vk ∧ ∀ H, KRel K H vk kvs := by
  obtain ⟨h1, h2, h3⟩ := c
  cases q : kdObs K x with
  | none => rw [q] at h1; cases h1
  | some r =>
    obtain ⟨d, ks, us⟩ := r
    unfold kdVals at h2
    rw [q] at h1 h2
    simp only [Option.map_some, Option.some.injEq] at h1
    unfold kdObs at q
    split at q
    · rename_i d' e1
      split at q
      · rename_i c es ep sl e2
        split at q
        · rename_i e3
          simp only [Option.some.injEq, Prod.mk.injEq] at q
          obtain ⟨rfl, rfl, rfl⟩ := q
          simp only [Bool.and_eq_true, decide_eq_true_eq, Bool.not_eq_true'] at e3
          obtain ⟨rfl, e4, e5⟩ := e3
          obtain ⟨vs, v1, v2⟩ := datsB_ok _ _ h2
          obtain ⟨p1, p2, p3⟩ := pairs_of (P := P) h1 v1
          have sl0 : sl = #[] := by simpa using e4
          have nd : ((kvs.map (·.1)).zip (es.toList.map (·.val))).map (·.1) = kvs.map (·.1) := by
            have l := congrArg List.length h1
            simp only [List.length_map] at l
            exact List.map_fst_zip (by simp only [List.length_map]; omega)
          refine ⟨d', _, PySem.W.mg_of X G e1, ⟨⟨_, es, ep, _, e2, ⟨rfl, rfl, sl0⟩, rfl, fun e he => p1 e (Array.mem_toList_iff.mpr he), p2, ?_, p3⟩, e5⟩, fun H => krel_of (v2 H)⟩
          rw [nd]
          exact of_decide_eq_true h3
        · cases q
      · cases q
    · cases q
/-! ### the table -/
structure Tab where
  fns : List (Str × FnE) := []
  gl : List (Str × Dat) := []
  ats : List (Str × Str) := []
  mss : List ((Str × Str) × FnE) := []
  mks : List (Str × FnE) := []
  xcs : List (Str × List Str) := []
  dcs : List (Str × List (Key × Dat)) := []
abbrev Gm (t : Tab) : Gam := ⟨fun f => t.fns.lookup f, fun x => t.gl.lookup x, fun C f => t.ats.contains (C, f), fun C m => t.mss.lookup (C, m), fun C => t.mks.lookup C, fun C => t.xcs.lookup C, fun x => t.dcs.lookup x⟩
def tyGl : List (Str × Dat) := [("list", .ty "list"), ("tuple", .ty "tuple"), ("bool", .ty "bool"), ("int", .ty "int"), ("str", .ty "str"), ("dict", .ty "dict")]
def bltNms : List Str := ["len", "int", "tuple", "list", "isinstance", "all", "any", "sum", "min", "max", "range", "zip", "enumerate", "bool", "str", "dict", "ord"]
section
variable {P : Program} {w : World} {K : PySem.W.Frag} {mg : Str → Option Value} {base : Heap} {t : Tab} {k : Nat}
theorem tyGl_ok : ∀ q ∈ tyGl, q.1 ∈ bltNms ∧ ∃ n, q.2 = .ty n ∧ bootBuiltins q.1 = some (.type n) := by
  intro q hq
  simp only [tyGl, List.mem_cons, List.not_mem_nil, or_false] at hq
  rcases hq with rfl | rfl | rfl | rfl | rfl | rfl
  all_goals exact ⟨by decide, _, rfl, by decide +kernel⟩
theorem TbOk.nil {gv : List (Str × Dat)} {ats : List (Str × Str)} {dcs : List (Str × List (Key × Dat))} (hf : ∀ x ∈ bltNms, mg x = none) (hg : ∀ q ∈ gv, ∃ u v, RelV v u ∧ (∀ H, Rep K H v q.2) ∧ mg q.1 = some u)
    (ha : ∀ q ∈ ats, Cls K (He.ga K q.1) ∧ NoAttr K (He.ga K q.1) q.2) (hd : ∀ q ∈ dcs, ∃ d vk, mg q.1 = some (.ref d) ∧ KdAt K P w d vk ∧ ∀ H, KRel K H vk q.2) :
    TbOk P w K mg base (Gm { gl := tyGl ++ gv, ats := ats, dcs := dcs }) k := by
  refine ⟨fun f F h => (by cases h), fun x d h => ?_, fun f => ?_, fun C f h => ha (C, f) (by simpa using h), fun C m F h => (by cases h), fun C F h => (by cases h), fun C fl h => (by cases h),
    fun x kvs h => hd (x, kvs) (PySem.mem_of_lookup h), fun f F h => (by cases h), hf _ (by decide), hf _ (by decide), hf _ (by decide)⟩
  · have hm : (x, d) ∈ tyGl ++ gv := PySem.mem_of_lookup h
    rcases List.mem_append.mp hm with hm | hm
    · obtain ⟨h1, n, h2, h3⟩ := tyGl_ok _ hm
      cases (show d = .ty n from h2)
      exact ⟨.type n, .ty n, rfl, fun _ => .ty n, .inr ⟨hf _ h1, h3⟩⟩
    · obtain ⟨u, v, h1, h2, h3⟩ := hg _ hm
      exact ⟨u, v, h1, h2, .inl h3⟩
  · cases f <;> exact hf _ (by decide)
theorem XcOk.mono {C : Addr} {fl : List Str} {j : Nat} (h : XcOk P w K mg base j C fl) (hj : j ≤ k) : XcOk P w K mg base k C fl := by
  rcases h with h | ⟨h1, h2, h3, a, fd, ps, i, h4, h5⟩
  · exact .inl h
  · exact .inr ⟨h1, h2, h3, a, fd, ps, i, Nat.le_trans h4 hj, h5⟩
theorem TbOk.up {Γ : Gam} {j : Nat} (tb : TbOk P w K mg base Γ j) (hj : j ≤ k) : TbOk P w K mg base Γ k := by
  refine ⟨fun g F h => ?_, tb.gl, tb.blt, tb.at_, fun C m F h => ?_, fun C F h => ?_, fun C fl h => ⟨(tb.xc C fl h).1, (tb.xc C fl h).2.mono hj⟩, tb.dc, tb.fa, tb.rng, tb.zip, tb.enum⟩
  · obtain ⟨a, fd, ps, h3, h4⟩ := tb.fn g F h
    exact ⟨a, fd, ps, h3.mono hj, h4⟩
  · obtain ⟨a, fd, ps, h3, h4⟩ := tb.ms C m F h
    exact ⟨a, fd, ps, h3.mono hj, h4⟩
  · obtain ⟨a, fd, ps, i, h1, h3⟩ := tb.mke C F h
    exact ⟨a, fd, ps, i, Nat.le_trans h1 hj, h3⟩
theorem TbOk.cons {f : Str} {F : FnE} {a : Addr} {fd : FuncData} {ps : List Str} (tb : TbOk P w K mg base (Gm t) k) (hF : FnOk P w K mg base (L2.CX P w) (k + 1) a fd ps (spOf K F)) (hm : mg f = some (.ref a)) (ha : a = He.ga K f) (hk : PySem.W.keepIn K (.ref a) = true)
    (hb : ∀ m, F.ar ≤ m + F.dfl.length → m ≤ F.ar → ∃ ds dvs, Binds K fd ps ds ∧ Vals dvs ds ∧ ∀ H, Reps K H dvs (F.dfl.drop (m + F.dfl.length - F.ar))) : TbOk P w K mg base (Gm { t with fns := (f, F) :: t.fns }) (k + 1) := by
  have up := tb.up (Nat.le_succ k)
  refine ⟨fun g F' h => ?_, up.gl, up.blt, up.at_, up.ms, up.mke, up.xc, up.dc, fun g F' h => ?_, up.rng, up.zip, up.enum⟩
  · have h2 : (match g == f with | true => some F | false => t.fns.lookup g) = some F' := h
    cases e : (g == f) with
    | true =>
      rw [e] at h2
      cases h2
      cases beqS e
      exact ⟨a, fd, ps, hF, hm, hk, hb⟩
    | false =>
      rw [e] at h2
      exact up.fn g F' h2
  · have h2 : (match g == f with | true => some F | false => t.fns.lookup g) = some F' := h
    cases e : (g == f) with
    | true =>
      cases beqS e
      rw [hm, ha]
    | false =>
      rw [e] at h2
      exact up.fa g F' h2
/-- a method -/
theorem TbOk.consM {C m : Str} {F : FnE} {a : Addr} {fd : FuncData} {ps : List Str} (tb : TbOk P w K mg base (Gm t) k) (hF : FnOk P w K mg base (L2.CX P w) (k + 1) a fd ps (spOf K F)) (hC : Cls K (He.ga K C)) (hM : Meth K (He.ga K C) m a)
    (hb : ∀ m, F.ar ≤ m + 1 + F.dfl.length → m + 1 ≤ F.ar → ∃ ds dvs, Binds K fd ps ds ∧ Vals dvs ds ∧ ∀ H, Reps K H dvs (F.dfl.drop (m + 1 + F.dfl.length - F.ar))) : TbOk P w K mg base (Gm { t with mss := ((C, m), F) :: t.mss }) (k + 1) := by
  have up := tb.up (Nat.le_succ k)
  refine ⟨up.fn, up.gl, up.blt, up.at_, fun D n F' h => ?_, up.mke, up.xc, up.dc, up.fa, up.rng, up.zip, up.enum⟩
  have h2 : (match (D, n) == (C, m) with | true => some F | false => t.mss.lookup (D, n)) = some F' := h
  cases e : ((D, n) == (C, m)) with
  | true =>
    rw [e] at h2
    cases h2
    have e2 : (D, n) = (C, m) := by simpa using e
    cases e2
    exact ⟨a, fd, ps, hF, hC, hM, hb⟩
  | false =>
    rw [e] at h2
    exact up.ms D n F' h2
/-- a class that is made -/
theorem TbOk.consK {C : Str} {F : FnE} {a : Addr} {fd : FuncData} {ps : List Str} (tb : TbOk P w K mg base (Gm t) k) (hF : FnOk P w K mg base (L2.CX P w) (k + 1) a fd ps (spOf K F)) (hM : Mk K (He.ga K C) a) (hm : mg C = some (.ref (He.ga K C)))
    (hb : ∀ m, F.ar ≤ m + 1 + F.dfl.length → m + 1 ≤ F.ar → ∃ ds dvs, Binds K fd ps ds ∧ Vals dvs ds ∧ ∀ H, Reps K H dvs (F.dfl.drop (m + 1 + F.dfl.length - F.ar))) : TbOk P w K mg base (Gm { t with mks := (C, F) :: t.mks }) (k + 2) := by
  have up := tb.up (show k ≤ k + 2 by omega)
  refine ⟨up.fn, up.gl, up.blt, up.at_, up.ms, fun D F' h => ?_, up.xc, up.dc, up.fa, up.rng, up.zip, up.enum⟩
  have h2 : (match D == C with | true => some F | false => t.mks.lookup D) = some F' := h
  cases e : (D == C) with
  | true =>
    rw [e] at h2
    cases h2
    cases beqS e
    exact ⟨a, fd, ps, k + 1, Nat.le_refl _, hF, hM, hm, hb⟩
  | false =>
    rw [e] at h2
    exact up.mke D F' h2
/-- no defaults -/
theorem binds_noneM {F : FnE} {fd : FuncData} {ps : List Str} (hd : F.dfl = []) (hb : Binds K fd ps []) : ∀ m, F.ar ≤ m + 1 + F.dfl.length → m + 1 ≤ F.ar → ∃ ds dvs, Binds K fd ps ds ∧ Vals dvs ds ∧ ∀ H, Reps K H dvs (F.dfl.drop (m + 1 + F.dfl.length - F.ar)) := fun m _ _ =>
  ⟨[], [], hb, .nil, fun H => by rw [hd, List.drop_nil]; exact .nil⟩
theorem binds_none {F : FnE} {fd : FuncData} {ps : List Str} (hd : F.dfl = []) (hb : Binds K fd ps []) : ∀ m, F.ar ≤ m + F.dfl.length → m ≤ F.ar → ∃ ds dvs, Binds K fd ps ds ∧ Vals dvs ds ∧ ∀ H, Reps K H dvs (F.dfl.drop (m + F.dfl.length - F.ar)) := fun m _ _ =>
  ⟨[], [], hb, .nil, fun H => by rw [hd, List.drop_nil]; exact .nil⟩
end
/-- the law's promise -/
def c_lawC : Con := fun ds G Q X => ∃ sc ns, ds = [sc] ∧ (sc = .lst (List.map Dat.int ns) ∨ sc = .kls (List.map Dat.int ns)) ∧ ∀ G', Q (.bl true) G'
theorem reps_ints {K : PySem.W.Frag} {H : Hp} : ∀ ns : List Int, Reps K H (ns.map V.int) (ns.map Dat.int)
  | [] => .nil
  | n :: ns => .cons (.int n) (reps_ints ns)
theorem law_sp {K : PySem.W.Frag} {F : FnE} (hF : ∀ ds G Q X, c_lawC ds G Q X → F.con ds G Q X) (H : Hp) (a : Addr) (ns : List Int) (hO : L2.Only H) (hT : NdefX.TabsN Tb.T H) (hS : SqL K H a (ns.map V.int)) : spOf K F [.ref a] H (fun v _ => v = .bl true) fun _ _ _ => False := by
  have key : KlAt K H a (ns.map V.int) := by
    rcases hS with hS | hS
    · rcases hS with hS | ⟨o, hS⟩
      · rcases hO a with h | ⟨o, xs, h⟩
        · rw [h] at hS; cases hS
        · rw [h] at hS; cases hS
      · exact .inl ⟨o, hS⟩
    · exact .inr hS
  refine ⟨[.kls (ns.map Dat.int)], fun _ => none, fun d _ => d = .bl true, fun _ _ _ => False, .one (.kls key (reps_ints ns)), ⟨(fun a o z => by cases z), hT⟩, hF _ _ _ _ ⟨_, ns, rfl, .inr rfl, fun _ => rfl⟩, fun d G' v H' f g r q => ?_, fun c fs G' dx H' f g r q => False.elim q⟩
  subst q
  exact rep_b r
/-- the hook that sees written objects -/
def hookK (as : List Addr) (K : World → PySem.W.Frag) (h : ∀ w, as = (K w).map (·.1)) : PySem.W.Hook where
  α := List (Option Obj)
  obs := fun s => as.map s.heap.get?
  val := fun w => (K w).map fun p => some p.2
  says := fun w h => (K w).In h
  of := fun w _ e => PySem.W.Frag.in_of (h w) e
  keeps := fun _ _ _ x k => PySem.W.Frag.In.keeps x k
def obsK (as : List Addr) (s : PySem.W.SharedT) : List (Option Obj) := as.map (HandSHeadRun.getT s)
theorem obsK_eq {as : List Addr} {K : World → PySem.W.Frag} {h : ∀ w, as = (K w).map (·.1)} (s : PySem.W.SharedT) : obsK as s = (hookK as K h).obs s.abs := by
  have e : HandSHeadRun.getT s = s.abs.heap.get? := funext fun a => HandSHeadRun.getT_eq s a
  unfold obsK
  rw [e]
  rfl
/-- a law's end, exceptions by world -/
theorem walk_world {l : PySem.W.OpenLaw} {n k : Nat} {q : Program} {lo : List Str} {XP : (Str → Option Value) → Heap → Prop} {YP : World → Heap → Prop} {d : DefRec} {CX : World → CXT} {x : Str} (h1 : l.most = some n) (h2 : n ≤ sizeLine) (h3 : d.params.defaults = []) (h4 : Room k callerA)
    (F : ∀ (w : World) (mg : Str → Option Value) (fa : Addr) (h : Heap), YP w h → h.Ns mainGlobals mg → mg d.name = some (.ref fa) → ∃ (K : PySem.W.Frag) (fd : FuncData) (sp : Sp), K.In h ∧ (∀ (s : Shared) (u : Value), BindsTo s fd ⟨[u], []⟩ [(x, u)]) ∧
      (∀ (H : Hp) (a : Addr) (ns : List Int), ns.length ≤ n → Only H → SqL K H a (ns.map V.int) → sp [.ref a] H (fun v _ => v = .bl true) fun _ _ _ => False) ∧ ∀ base : Heap, K.In base → base.Ns mainGlobals mg → FnOk l.prog w K mg base (CX w) k fa fd [x] sp)
    (h5 : ∀ (w : World) (H : Hp) (s : Shared) (e : Value) (s' : Shared), CX w [] H s (fun _ _ _ => False) e s' → False) : PySem.W.WalkO q lo XP YP l.row.toRowW d [] (fun f vs => PySem.call f vs) := by
  refine Att.attach_call h1 h3 fun w s0 s1 mg mb fa o pm cd doc a vs ns G Y p1 p2 p3 p4 p5 p6 p7 p8 => ?_
  obtain ⟨K, fd, sp, q1, q2, q3, q4⟩ := F w mg fa _ Y G.T.g p4
  exact law_call q1 G.T.g G.T.b G.T.builtins G.T.nolimit p8 p5 p6 (Nat.le_trans p7 h2) h4 q4 q2 (fun H r1 r2 => q3 H a ns p7 r1 r2) fun H e s' => h5 w H s1 e s'
theorem cx_no {P : Program} {w : World} : ∀ (H : Hp) (s : Shared) (e : Value) (s' : Shared), L2.CX P w [] H s (fun _ _ _ => False) e s' → False := fun H s e s' ⟨_, _, _, _, _, _, _, _, _, _, _, _, z⟩ => z
end Av


set_option Elab.async false
set_option linter.all false
set_option maxRecDepth 100000
set_option maxHeartbeats 4000000
/-! # AvP: what all the laws share -/
namespace Av
open PySem PySem.Spec PyProof.Rows L2

theorem forW_of {body : Env' → AG → AEnds → Prop} {g : TGt} {gd : Gd} {A : AEnds} (I : List Dat → Env' → AG → Prop)
    (step : ∀ d ds ρ G (N : Env' → AG → Prop), (∀ ρ G, I ds ρ G → N ρ G) → I (d :: ds) ρ G → gdOk G gd ∧ tgW g d ρ fun ρ1 => body ρ1 G { A with nx := N, ct := N, bk := A.nx })
    (done : ∀ ρ G, I [] ρ G → gdOk G gd ∧ A.nx ρ G) : ∀ ds ρ G, I ds ρ G → forW body g gd A ds ρ G
  | [], ρ, G, h => done ρ G h
  | d :: ds, ρ, G, h => step d ds ρ G _ (forW_of I step done ds) h
theorem lcW_of {z : Bool} {elt : Env' → AG → AQ → Prop} {g : TGt} {own : List Nat} {gd : Gd} {ρ : Env'} {Q : AQ} (I : List Dat → List Dat → AG → Prop)
    (step : ∀ d ds acc G (N : List Dat → AG → Prop), (∀ acc G, I ds acc G → N acc G) → I (d :: ds) acc G → gdOk G gd ∧ tgW g d (wipeD ρ own) fun ρ1 => elt ρ1 G fun y G2 => acc.length < sizeLine ∧ N (acc ++ [y]) G2)
    (done : ∀ acc G, I [] acc G → gdOk G gd ∧ if z = true then Q (.lst acc) G else ∀ p, G p = none → Q (.ref p) (gu G p (.lst acc))) : ∀ ds acc G, I ds acc G → lcW z elt g own gd ρ Q ds acc G
  | [], acc, G, h => done acc G h
  | d :: ds, acc, G, h => step d ds acc G (fun acc G => lcW z elt g own gd ρ Q ds acc G) (fun acc G => lcW_of I step done ds acc G) h

/-! ### steps -/
section
variable {G : AG} {p : Addr} {ds : List Dat} {i : Int} {d v : Dat} {Q : AQ}
theorem ixA (h : G p = some (.lst ds)) (h2 : atI ds i = some d) (q : Q d G) : ixW (.ref p) (.int i) G Q := ⟨ds, d, by show (match G p with | some (.lst ds) => some ds | _ => none) = some ds; rw [h], h2, q⟩
theorem ixT (h2 : atI ds i = some d) (q : Q d G) : ixW (.tup ds) (.int i) G Q := ⟨ds, d, rfl, h2, q⟩
theorem ixL (h2 : atI ds i = some d) (q : Q d G) : ixW (.lst ds) (.int i) G Q := ⟨ds, d, rfl, h2, q⟩
theorem ixK (h2 : atI ds i = some d) (q : Q d G) : ixW (.kls ds) (.int i) G Q := ⟨ds, d, rfl, h2, q⟩
theorem setA {Q : AG → Prop} {j : Nat} (h : G p = some (.lst ds)) (h2 : ixN ds.length i = some j) (q : Q (gu G p (.lst (ds.set j v)))) : setW (.ref p) (.int i) v G Q := ⟨ds, j, h, h2, q⟩
theorem atI_nat (h : 0 ≤ i) : atI ds i = ds[i.toNat]? := by
  unfold atI ixN
  rw [if_pos h]
  by_cases h1 : i < (ds.length : Int)
  · rw [if_pos h1]; rfl
  · rw [if_neg h1, List.getElem?_eq_none (by omega)]; rfl
theorem atI_in (h : 0 ≤ i) (h2 : i < ds.length) : ∃ d, atI ds i = some d ∧ d ∈ ds := by
  have h3 : i.toNat < ds.length := by omega
  exact ⟨ds[i.toNat], by rw [atI_nat h, List.getElem?_eq_getElem h3], List.getElem_mem h3⟩
end
/-! ### draws -/
/-- an object to draw of: at least n draws are left -/
def DrO (n : Nat) (o : AO) : Prop := ∃ a b c : Int, o = .lst [.int a, .int b, .int c] ∧ 0 ≤ b ∧ b < 2 ^ 40 ∧ 0 ≤ c ∧ c + n ≤ 2 ^ 40
theorem DrO.mono {m n : Nat} {o : AO} (h : DrO n o) (l : m ≤ n) : DrO m o := by
  obtain ⟨a, b, c, h1, h2, h3, h4, h5⟩ := h
  exact ⟨a, b, c, h1, h2, h3, h4, by omega⟩
def c_draw : Con := fun ds G Q X => ∃ p m n o, ds = [.ref p, .int m] ∧ G p = some o ∧ DrO (n + 1) o ∧ 0 < m ∧ m < 2 ^ 30 ∧ ∀ r o', 0 ≤ r → r < m → DrO n o' → Q (.int r) (gu G p o')
def f_draw : FnE := { con := c_draw, ar := 2, len := fun ds G Q X ⟨p, m, n, o, h, _⟩ => by rw [h]; rfl }
def b_draw : List S := [
  .setIx (.var 0) (.cst (.int 2)) (.bin true .add (.ix (.var 0) (.cst (.int 2))) (.cst (.int 1))),
  .if_ (.cmp .gt (.ix (.var 0) (.cst (.int 0))) (.cst (.int 0))) [.set 3 (.bin true .mod (.blt true .int [(.ix (.var 0) (.cst (.int 0)))]) (.var 1)), .setIx (.var 0) (.cst (.int 0)) (.bin true .fdiv (.ix (.var 0) (.cst (.int 0))) (.var 1)), .ret (.var 3)] [],
  .set 2 (.bin true .mod (.bin true .pow (.blt true .int [(.bin true .add (.ix (.var 0) (.cst (.int 1))) (.bin true .mul (.cst (.int 7919)) (.ix (.var 0) (.cst (.int 2)))))]) (.cst (.int 5))) (.cst (.int 2147483647))),
  .ret (.bin true .mod (.bin true .fdiv (.bin true .mod (.bin true .mul (.bin true .add (.var 2) (.ix (.var 0) (.cst (.int 2)))) (.cst (.int 40692))) (.cst (.int 2147483629))) (.cst (.int 16))) (.var 1))]
theorem ok_draw (Γ : Gam) (N : List Str) (hN : N.length = 4) (ds : List Dat) (G : AG) (Q : AQ) (X : AX) (h : c_draw ds G Q X) : wSs Γ b_draw (startD N ds) G (endsOf Q X) := by
  obtain ⟨p, m, n, o, rfl, hp, ⟨a, b, c, rfl, h1, h2, h3, h4⟩, h5, h6, hq⟩ := h
  simp only [b_draw, startD, hN, List.map, List.length, List.replicate, List.append, List.cons_append, List.nil_append, wSs, wS, wE, wEs, wT, List.getElem?_cons_zero, List.getElem?_cons_succ]
  refine ixA hp rfl ?_
  simp only [binW]
  refine setA hp rfl ?_
  refine ixA gu_same rfl ?_
  simp only [cmpW, boolW, List.set]
  by_cases ha : 0 < a
  · simp only [ha, decide_true, if_true]
    refine ixA gu_same rfl ?_
    simp only [bltW, binW]
    refine ⟨h5, ?_⟩
    simp only [List.getElem?_cons_zero, List.getElem?_cons_succ]
    refine ixA gu_same rfl ?_
    simp only [binW]
    refine ⟨⟨h5, by omega⟩, ?_⟩
    refine setA gu_same rfl ?_
    simp only [List.set, gu_gu]
    exact ⟨_, .refl _, hq _ _ (Int.emod_nonneg _ (by omega)) (Int.emod_lt_of_pos _ h5) ⟨a / m, b, c + 1, rfl, h1, h2, by omega, by omega⟩⟩
  · simp only [ha, decide_false, if_false, Bool.false_eq_true]
    refine ixA gu_same rfl ?_
    refine ixA gu_same rfl ?_
    simp only [binW, bltW]
    refine ⟨.inl ⟨by omega, by omega⟩, ⟨by omega, by omega, by omega⟩, by omega, ?_⟩
    simp only [List.getElem?_cons_zero, List.getElem?_cons_succ]
    refine ixA gu_same rfl ?_
    simp only [binW]
    refine ⟨.inr ⟨by omega, by omega⟩, by omega, ⟨by omega, by omega⟩, h5, ?_⟩
    exact ⟨_, .refl _, hq _ _ (Int.emod_nonneg _ (by omega)) (Int.emod_lt_of_pos _ h5) ⟨a, b, c + 1, rfl, h1, h2, by omega, by omega⟩⟩
/-- what holds its items for good -/
def fixOf : Dat → Option (List Dat)
  | .tup ds => some ds
  | .lst ds => some ds
  | .kls ds => some ds
  | _ => none
theorem fix_seq {G : AG} {d : Dat} {ds : List Dat} (h : fixOf d = some ds) : seqOf G d = some ds := by
  cases d <;> first | exact h | cases h
theorem ixF {G : AG} {x d : Dat} {ds : List Dat} {i : Int} {Q : AQ} (h : fixOf x = some ds) (h2 : atI ds i = some d) (q : Q d G) : ixW x (.int i) G Q := ⟨ds, d, fix_seq h, h2, q⟩
def c_source : Con := fun ds G Q X => ∃ sc k ns, ds = [sc, .int k] ∧ fixOf sc = some (List.map Dat.int ns) ∧ 0 ≤ k ∧ k < 1000 ∧ ∀ p o, G p = none → DrO (2 ^ 38) o → Q (.ref p) (gu G p o)
def f_source : FnE := { con := c_source, ar := 2, len := fun ds G Q X ⟨_, _, _, h, _⟩ => by rw [h]; rfl }
def b_source : List S := [
  .set 2 (.cst (.int 0)),
  .set 3 (.cst (.int 0)),
  .if_ (.cmp .gt (.blt true .len [(.var 0)]) (.cst (.int 0))) [.set 2 (.ix (.var 0) (.bin true .mod (.blt true .int [(.var 1)]) (.blt true .len [(.var 0)])))] [],
  .if_ (.and_ (.cmp .lt (.var 1) (.blt true .len [(.var 0)])) (.one (.cmp .ge (.var 2) (.bin true .pow (.cst (.int 10)) (.cst (.int 18)))))) [.set 3 (.var 2)] [],
  .ret (.lst false [(.var 3), (.bin true .add (.bin true .add (.bin true .mod (.blt true .int [(.var 2)]) (.cst (.int 2147483647))) (.bin true .mul (.cst (.int 7919000)) (.var 1))) (.cst (.int 104729))), (.cst (.int 0))])]
theorem ok_source (Γ : Gam) (N : List Str) (hN : N.length = 4) (ds : List Dat) (G : AG) (Q : AQ) (X : AX) (h : c_source ds G Q X) : wSs Γ b_source (startD N ds) G (endsOf Q X) := by
  obtain ⟨sc, k, ns, rfl, hs, h1, h2, hq⟩ := h
  have fin : ∀ a b : Int, ∃ ds : List Dat, ds = [.int a, .int (b % 2147483647 + 7919000 * k + 104729), .int 0] ∧ (newL ds G fun d G' => ∃ G0, Sub G0 G' ∧ Q d G0) := fun a b => ⟨_, rfl, by show 3 ≤ sizeLine; decide, fun p hp => ⟨_, .refl _, hq p _ hp ⟨a, _, 0, rfl, by omega, by omega, by omega, by omega⟩⟩⟩
  have last : ∀ (cell deep : Int), wSs Γ [.if_ (.and_ (.cmp .lt (.var 1) (.blt true .len [(.var 0)])) (.one (.cmp .ge (.var 2) (.bin true .pow (.cst (.int 10)) (.cst (.int 18)))))) [.set 3 (.var 2)] [],
      .ret (.lst false [(.var 3), (.bin true .add (.bin true .add (.bin true .mod (.blt true .int [(.var 2)]) (.cst (.int 2147483647))) (.bin true .mul (.cst (.int 7919000)) (.var 1))) (.cst (.int 104729))), (.cst (.int 0))])] [some sc, some (.int k), some (.int cell), some (.int deep)] G (endsOf Q X) := fun cell deep => by
    have tail : ∀ a : Int, wSs Γ [.ret (.lst false [(.var 3), (.bin true .add (.bin true .add (.bin true .mod (.blt true .int [(.var 2)]) (.cst (.int 2147483647))) (.bin true .mul (.cst (.int 7919000)) (.var 1))) (.cst (.int 104729))), (.cst (.int 0))])] [some sc, some (.int k), some (.int cell), some (.int a)] G (endsOf Q X) := fun a => by
      obtain ⟨ds, rfl, hf⟩ := fin a cell
      simp only [wSs, wS, wE, wEs, List.getElem?_cons_zero, List.getElem?_cons_succ, bltW, binW, nw, Bool.false_eq_true, if_false]
      exact ⟨by omega, .inl ⟨by omega, by omega⟩, hf⟩
    rw [wSs]
    simp only [wS, wSs, wT, wE, wEs, List.getElem?_cons_zero, List.getElem?_cons_succ, bltW]
    refine ⟨_, fix_seq hs, ?_⟩
    simp only [cmpW, boolW]
    by_cases hk : k < ((List.map Dat.int ns).length : Int)
    · simp only [hk, decide_true, if_true]
      refine ⟨⟨by omega, by omega, by decide⟩, ?_⟩
      by_cases hc : ((10 : Int) ^ (18 : Int).toNat ≤ cell)
      · simp only [hc, decide_true, if_true]
        exact tail _
      · simp only [hc, decide_false, if_false, Bool.false_eq_true]
        exact tail _
    · simp only [hk, decide_false, if_false, Bool.false_eq_true]
      exact tail _
  have mid : wSs Γ b_source (startD N [sc, .int k]) G (endsOf Q X) = wSs Γ b_source [some sc, some (.int k), none, none] G (endsOf Q X) := by
    unfold startD
    rw [hN]
    rfl
  rw [mid]
  unfold b_source
  rw [wSs]; simp only [wS, wE, List.set]
  rw [wSs]; simp only [wS, wE, List.set]
  rw [wSs]
  simp only [wS, wE, wEs, wT, List.getElem?_cons_zero, List.getElem?_cons_succ, bltW]
  refine ⟨_, fix_seq hs, ?_⟩
  simp only [cmpW, boolW]
  by_cases hn : (0 : Int) < ((List.map Dat.int ns).length : Int)
  · simp only [hn, decide_true, if_true]
    rw [wSs]
    simp only [wS, wSs, wE, wEs, List.getElem?_cons_zero, List.getElem?_cons_succ, bltW]
    refine ⟨_, fix_seq hs, ?_⟩
    simp only [binW]
    refine ⟨hn, ?_⟩
    obtain ⟨d, hd, hm⟩ := atI_in (ds := List.map Dat.int ns) (Int.emod_nonneg k (by omega)) (Int.emod_lt_of_pos k hn)
    refine ixF hs hd ?_
    obtain ⟨c, _, rfl⟩ := List.mem_map.mp hm
    exact last c 0
  · simp only [hn, decide_false, if_false, Bool.false_eq_true]
    exact last 0 0
def c_pick : Con := fun ds G Q X => ∃ p n o sm items, ds = [.ref p, sm] ∧ G p = some o ∧ DrO (n + 1) o ∧ fixOf sm = some items ∧ 0 < items.length ∧ items.length < 2 ^ 30 ∧ ∀ d o', d ∈ items → DrO n o' → Q d (gu G p o')
def f_pick : FnE := { con := c_pick, ar := 2, len := fun ds G Q X ⟨_, _, _, _, _, h, _⟩ => by rw [h]; rfl }
def b_pick : List S := [.ret (.ix (.var 1) (.call "_law_draw" [(.var 0), (.blt true .len [(.var 1)])]))]
theorem ok_pick (Γ : Gam) (hd : Γ.fn "_law_draw" = some f_draw) (N : List Str) (hN : N.length = 2) (ds : List Dat) (G : AG) (Q : AQ) (X : AX) (h : c_pick ds G Q X) : wSs Γ b_pick (startD N ds) G (endsOf Q X) := by
  obtain ⟨p, n, o, sm, items, rfl, hp, ho, hs, h1, h2, hq⟩ := h
  simp only [b_pick, startD, hN, List.map, List.length, List.replicate, List.cons_append, List.nil_append, wSs, wS, wE, wEs, List.getElem?_cons_zero, List.getElem?_cons_succ, hd, bltW, f_draw, List.drop_nil, List.append_nil]
  refine ⟨⟨by decide, by decide⟩, _, fix_seq hs, p, _, n, o, rfl, hp, ho, by omega, by omega, fun r o' h3 h4 h5 => ?_⟩
  obtain ⟨d, hd, hm⟩ := atI_in h3 h4
  exact ixF hs hd ⟨_, .refl _, hq d o' hm h5⟩
end Av


set_option Elab.async false
set_option linter.all false
set_option maxRecDepth 100000
set_option maxHeartbeats 4000000
/-! # AvP2: _law_same -/
namespace Av
open PySem PySem.Spec PyProof.Rows L2
variable [Tb]

def leafD : Dat → Option PyData
  | .non => some .none
  | .bl b => some (.bool b)
  | .int i => some (.int i)
  | .str s => some (.str s)
  | _ => none
/-- the same by what they hold, to a depth -/
def SameN (G : AG) : Nat → Dat → Dat → Prop
  | 0, x, y => x = y ∧ (leafD x).isSome = true
  | n + 1, x, y => (x = y ∧ (leafD x).isSome = true) ∨
      (∃ xs ys, x = .tup xs ∧ y = .tup ys ∧ xs.length = ys.length ∧ xs.length ≤ sizeLine ∧ ∀ (i : Nat) (a b : Dat), xs[i]? = some a → ys[i]? = some b → SameN G n a b) ∨
      ∃ xs ys, lstOf G x = some xs ∧ lstOf G y = some ys ∧ xs.length = ys.length ∧ xs.length ≤ sizeLine ∧ ∀ (i : Nat) (a b : Dat), xs[i]? = some a → ys[i]? = some b → SameN G n a b
theorem leaf_deep {G : AG} {x : Dat} (h : (leafD x).isSome = true) (hs : ∀ s, x ≠ .str s) : ∃ p, Deep G x p ∧ SeqAt.shaped p = true ∧ PyData.eqv p p = true := by
  cases x with
  | non => exact ⟨_, .non, by decide, by decide⟩
  | bl b => exact ⟨_, .bl b, by cases b <;> decide, by cases b <;> decide⟩
  | int i => exact ⟨_, .int i, rfl, SeqAt.eqv_refl _ rfl⟩
  | str s => exact absurd rfl (hs s)
  | _ => cases h
theorem eq_leaf {G : AG} {x : Dat} {Q : AQ} (h : (leafD x).isSome = true) (q : Q (.bl true) G) : cmpW .eq x x G Q := by
  by_cases hs : ∃ s, x = .str s
  · obtain ⟨s, rfl⟩ := hs
    refine .inl ⟨rfl, ?_⟩
    simp only [Bool.false_eq_true, if_false, decide_true]
    exact q
  · obtain ⟨p, h1, h2, h3⟩ := leaf_deep (G := G) h fun s e => hs ⟨s, e⟩
    refine .inr ⟨p, p, h1, h1, h2, h2, ?_⟩
    simp only [Bool.false_eq_true, if_false, h3]
    exact q
def c_same (n : Nat) : Con := fun ds G Q X => ∃ x y, ds = [x, y] ∧ SameN G n x y ∧ Q (.bl true) G
def f_same (n : Nat) : FnE := { con := c_same n, ar := 2, len := fun ds G Q X ⟨_, _, h, _⟩ => by rw [h]; rfl }
def b_same : List S := [
  .if_ (.val (.blt true .isinst [(.var 1), (.tup [(.glo "list"), (.glo "tuple")])])) [.if_ (.or_ (.cmp .ne (.blt true .isinst [(.var 0), (.glo "list")]) (.blt true .isinst [(.var 1), (.glo "list")])) (.one (.cmp .ne (.blt true .isinst [(.var 0), (.glo "tuple")]) (.blt true .isinst [(.var 1), (.glo "tuple")])))) [.ret (.cst (.bl false))] [], .ret (.andV (.cmp .eq (.blt true .len [(.var 0)]) (.blt true .len [(.var 1)])) (.one (.blt true .all [(.lc true (.call "_law_same" [(.var 2), (.var 3)]) (.tp [2, 3]) (.zip (.var 0) (.var 1)) [2, 3])])))] [],
  .if_ (.val (.blt true .isinst [(.var 1), (.tup [(.glo "bool"), (.glo "int")])])) [.ret (.andV (.blt true .isinst [(.var 0), (.glo "int")]) (.andV (.cmp .eq (.blt true .isinst [(.var 0), (.glo "bool")]) (.blt true .isinst [(.var 1), (.glo "bool")])) (.one (.cmp .eq (.var 0) (.var 1)))))] [],
  .ret (.andV (.notV (.blt true .isinst [(.var 0), (.tup [(.glo "bool"), (.glo "list"), (.glo "tuple")])])) (.one (.cmp .eq (.var 0) (.var 1))))]
structure TyGl (Γ : Gam) : Prop where
  list : Γ.gl "list" = some (.ty "list")
  tuple : Γ.gl "tuple" = some (.ty "tuple")
  bool : Γ.gl "bool" = some (.ty "bool")
  int : Γ.gl "int" = some (.ty "int")
theorem isi1 {G : AG} {x : Dat} {n t : String} {b : Bool} {Q : AQ} (h : tyOf G x = some t) (h2 : kitB t n = some b) (q : Q (.bl b) G) : isiW x (.ty n) G Q := ⟨t, b, h, h2, q⟩
theorem isiT {G : AG} {x : Dat} {t : String} {cs : List Dat} {b : Bool} {Q : AQ} (h : tyOf G x = some t) (h2 : isiAny t cs = some b) (q : Q (.bl b) G) : isiW x (.tup cs) G Q := ⟨t, b, h, h2, q⟩
theorem lst_ty {G : AG} {x : Dat} {xs : List Dat} (h : lstOf G x = some xs) : tyOf G x = some "list" := by
  cases x with
  | lst ds => rfl
  | ref a =>
    cases e : G a with
    | none => simp only [lstOf, e] at h; cases h
    | some o =>
      cases o with
      | lst ds => simp only [tyOf, e]
      | _ => simp only [lstOf, e] at h; cases h
  | _ => cases h
theorem lst_G {G : AG} {x : Dat} {xs : List Dat} {Q : List Dat → Gd → AG → Prop} (h : lstOf G x = some xs) (q : ∀ gd, gdOk G gd → Q xs gd G) : lstG x G Q := by
  cases x with
  | lst ds => cases h; exact q [] trivial
  | ref a =>
    cases e : G a with
    | none => simp only [lstOf, e] at h; cases h
    | some o =>
      cases o with
      | lst ds =>
        simp only [lstOf, e] at h
        cases h
        exact ⟨_, e, q _ ⟨e, trivial⟩⟩
      | _ => simp only [lstOf, e] at h; cases h
  | _ => cases h
theorem zipD_at : ∀ (xs ys : List Dat) (i : Nat) (d : Dat), (zipD xs ys)[i]? = some d → ∃ a b, d = .tup [a, b] ∧ xs[i]? = some a ∧ ys[i]? = some b
  | [], _, i, d, h => by simp [zipD] at h
  | _ :: _, [], i, d, h => by simp [zipD] at h
  | x :: xs, y :: ys, 0, d, h => by
    have e : some (Dat.tup [x, y]) = some d := h
    cases e
    exact ⟨x, y, rfl, rfl, rfl⟩
  | x :: xs, y :: ys, i + 1, d, h => zipD_at xs ys i d h
theorem blsOf_rep (n : Nat) : blsOf (List.replicate n (.bl true)) = some (List.replicate n true) := by
  induction n with
  | zero => rfl
  | succ n ih => rw [List.replicate_succ, List.replicate_succ]; simp only [blsOf, ih]; rfl
/-- the comprehension over the pairs -/
theorem same_lc {Γ : Gam} {n : Nat} (hs : Γ.fn "_law_same" = some (f_same n)) {G : AG} {gd : Gd} {ρ : Env'} {Q : AQ} {xs ys : List Dat} (hg : gdOk G gd) (hl : xs.length ≤ sizeLine) (hlen : 4 ≤ ρ.length)
    (h : ∀ (i : Nat) (a b : Dat), xs[i]? = some a → ys[i]? = some b → SameN G n a b) (q : ∀ m, Q (.lst (List.replicate m (.bl true))) G) :
    lcW true (fun ρ1 G Q => wE Γ (.call "_law_same" [(.var 2), (.var 3)]) ρ1 G Q noX) (.tp [2, 3]) [2, 3] gd ρ Q (zipD xs ys) [] G := by
  have tot : (zipD xs ys).length ≤ sizeLine := by rw [zipD_len]; omega
  refine lcW_of (fun rem acc G' => G' = G ∧ (∃ m, acc = List.replicate m (.bl true) ∧ m + rem.length = (zipD xs ys).length) ∧ ∀ d ∈ rem, ∃ a b, d = .tup [a, b] ∧ SameN G n a b) ?_ ?_ _ _ _ ⟨rfl, ⟨0, rfl, by simp⟩, fun d hd => ?_⟩
  · rintro d rem acc G' N hN ⟨rfl, ⟨m, rfl, hm⟩, hr⟩
    obtain ⟨a, b, rfl, hab⟩ := hr d (List.mem_cons_self ..)
    refine ⟨hg, rfl, ?_⟩
    have l2 : (wipeD ρ [2, 3]).length = ρ.length := by simp [wipeD]
    have e2 : (setAll [2, 3] [a, b] (wipeD ρ [2, 3]))[2]? = some (some a) := by
      simp only [setAll]
      rw [List.getElem?_set_ne (by decide), List.getElem?_set_self (by rw [l2]; omega)]
    have e3 : (setAll [2, 3] [a, b] (wipeD ρ [2, 3]))[3]? = some (some b) := by
      simp only [setAll]
      rw [List.getElem?_set_self (by rw [List.length_set, l2]; omega)]
    simp only [wE, wEs, e2, e3, hs, f_same, List.length, List.drop_nil, List.append_nil]
    refine ⟨⟨by decide, by decide⟩, a, b, rfl, hab, ?_⟩
    rw [List.length_cons] at hm
    refine ⟨by rw [List.length_replicate]; omega, hN _ _ ⟨rfl, ⟨m + 1, by rw [List.replicate_succ'], by omega⟩, fun d hd => hr d (List.mem_cons_of_mem _ hd)⟩⟩
  · rintro acc G' ⟨rfl, ⟨m, rfl, _⟩, _⟩
    exact ⟨hg, by rw [if_pos rfl]; exact q m⟩
  · obtain ⟨i, hi⟩ := List.mem_iff_getElem?.mp hd
    obtain ⟨a, b, rfl, h1, h2⟩ := zipD_at xs ys i d hi
    exact ⟨a, b, rfl, h i a b h1 h2⟩
theorem b_ne_eq {b : Bool} {G : AG} {Q : AQ} (q : Q (.bl false) G) : cmpW .ne (.bl b) (.bl b) G Q := by
  refine .inr ⟨.bool b, .bool b, .bl b, .bl b, by cases b <;> decide, by cases b <;> decide, ?_⟩
  have e : PyData.eqv (.bool b) (.bool b) = true := by cases b <;> decide
  simp only [e, if_true, Bool.not_true]
  exact q
theorem bl_eq {b : Bool} {G : AG} {Q : AQ} (q : Q (.bl true) G) : cmpW .eq (.bl b) (.bl b) G Q := eq_leaf rfl q
theorem i_eq {i : Int} {G : AG} {Q : AQ} (q : Q (.bl true) G) : cmpW .eq (.int i) (.int i) G Q := eq_leaf rfl q
theorem ok_same_leaf (Γ : Gam) (n : Nat) (tg : TyGl Γ) (G : AG) (Q : AQ) (X : AX) (x : Dat) (h : (leafD x).isSome = true) (q : Q (.bl true) G) : wSs Γ b_same [some x, some x, none, none] G (endsOf Q X) := by
  have two : (2 : Nat) ≤ sizeLine := by decide
  have three : (3 : Nat) ≤ sizeLine := by decide
  have fin : ∃ G0, Sub G0 G ∧ Q (.bl true) G0 := ⟨G, .refl _, q⟩
  simp only [b_same, wSs, wS, wE, wEs, wT, List.getElem?_cons_zero, List.getElem?_cons_succ, tg.list, tg.tuple, tg.bool, tg.int, bltW, List.length, endsOf]
  cases x with
  | non =>
    refine ⟨by decide, isiT (t := "NoneType") (b := false) rfl (by decide +kernel) ?_⟩
    simp only [truW, Bool.false_eq_true, if_false]
    refine ⟨by decide, isiT (t := "NoneType") (b := false) rfl (by decide +kernel) ?_⟩
    simp only [truW, Bool.false_eq_true, if_false]
    refine ⟨by decide, isiT (t := "NoneType") (b := false) rfl (by decide +kernel) ?_⟩
    simp only [truW, Bool.not_false, if_true]
    exact eq_leaf rfl fin
  | bl b =>
    refine ⟨by decide, isiT (t := "bool") (b := false) rfl (by decide +kernel) ?_⟩
    simp only [truW, Bool.false_eq_true, if_false]
    refine ⟨by decide, isiT (t := "bool") (b := true) rfl (by decide +kernel) ?_⟩
    simp only [truW, if_true]
    refine isi1 (t := "bool") (b := true) rfl (by decide +kernel) ?_
    simp only [truW, if_true]
    refine isi1 (t := "bool") (b := true) rfl (by decide +kernel) (isi1 (t := "bool") (b := true) rfl (by decide +kernel) (bl_eq ?_))
    simp only [truW, if_true]
    exact eq_leaf rfl fin
  | int i =>
    refine ⟨by decide, isiT (t := "int") (b := false) rfl (by decide +kernel) ?_⟩
    simp only [truW, Bool.false_eq_true, if_false]
    refine ⟨by decide, isiT (t := "int") (b := true) rfl (by decide +kernel) ?_⟩
    simp only [truW, if_true]
    refine isi1 (t := "int") (b := true) rfl (by decide +kernel) ?_
    simp only [truW, if_true]
    refine isi1 (t := "int") (b := false) rfl (by decide +kernel) (isi1 (t := "int") (b := false) rfl (by decide +kernel) (bl_eq ?_))
    simp only [truW, if_true]
    exact eq_leaf rfl fin
  | str s =>
    refine ⟨by decide, isiT (t := "str") (b := false) rfl (by decide +kernel) ?_⟩
    simp only [truW, Bool.false_eq_true, if_false]
    refine ⟨by decide, isiT (t := "str") (b := false) rfl (by decide +kernel) ?_⟩
    simp only [truW, Bool.false_eq_true, if_false]
    refine ⟨by decide, isiT (t := "str") (b := false) rfl (by decide +kernel) ?_⟩
    simp only [truW, Bool.not_false, if_true]
    exact eq_leaf h fin
  | _ => cases h
theorem ok_same (Γ : Gam) (n : Nat) (tg : TyGl Γ) (hs : Γ.fn "_law_same" = some (f_same n)) (N : List Str) (hN : N.length = 4) (ds : List Dat) (G : AG) (Q : AQ) (X : AX) (h : c_same (n + 1) ds G Q X) : wSs Γ b_same (startD N ds) G (endsOf Q X) := by
  obtain ⟨x, y, rfl, h, q⟩ := h
  have st : startD N [x, y] = [some x, some y, none, none] := by unfold startD; rw [hN]; rfl
  rw [st]
  have fin : ∃ G0, Sub G0 G ∧ Q (.bl true) G0 := ⟨G, .refl _, q⟩
  rcases h with ⟨rfl, h⟩ | ⟨xs, ys, rfl, rfl, h1, h2, h3⟩ | ⟨xs, ys, h0, h0', h1, h2, h3⟩
  · exact ok_same_leaf Γ n tg G Q X x h q
  · have last : bltW true .all [.lst (List.replicate xs.length (.bl true))] G (fun d G => ∃ G0, Sub G0 G ∧ Q d G0) := ⟨_, _, rfl, blsOf_rep _, by simpa using fin⟩
    simp only [b_same, wSs, wS, wE, wEs, wT, wI, List.getElem?_cons_zero, List.getElem?_cons_succ, tg.list, tg.tuple, tg.bool, tg.int, bltW, List.length, endsOf]
    refine ⟨by decide, isiT (t := "tuple") (b := true) rfl (by decide +kernel) ?_⟩
    simp only [truW, if_true]
    refine isi1 (t := "tuple") (b := false) rfl (by decide +kernel) (isi1 (t := "tuple") (b := false) rfl (by decide +kernel) (b_ne_eq ?_))
    simp only [boolW, Bool.false_eq_true, if_false]
    refine isi1 (t := "tuple") (b := true) rfl (by decide +kernel) (isi1 (t := "tuple") (b := true) rfl (by decide +kernel) (b_ne_eq ?_))
    simp only [boolW, Bool.false_eq_true, if_false]
    refine ⟨xs, rfl, ys, rfl, ?_⟩
    rw [h1]
    refine i_eq ?_
    simp only [truW, if_true]
    simp only [zipG]
    have := same_lc (Q := fun d G1 => ∃ ds bs, lstOf G1 d = some ds ∧ blsOf ds = some bs ∧ ∃ G0, Sub G0 G1 ∧ Q (.bl (bs.all id)) G0) (ρ := [some (.tup xs), some (.tup ys), none, none]) (gd := []) hs (G := G) trivial h2 (Nat.le_refl 4) h3 fun m => ⟨_, _, rfl, blsOf_rep _, by simpa using fin⟩
    simp only [wE, wEs] at this
    exact this
  · simp only [b_same, wSs, wS, wE, wEs, wT, wI, List.getElem?_cons_zero, List.getElem?_cons_succ, tg.list, tg.tuple, tg.bool, tg.int, bltW, List.length, endsOf]
    have t1 := lst_ty h0
    have t2 := lst_ty h0'
    have s1 : ∀ {z : Dat} {zs : List Dat}, lstOf G z = some zs → seqOf G z = some zs := fun {z zs} e => by
      cases z <;> first | exact e | cases e
    refine ⟨by decide, isiT (b := true) t2 (by decide +kernel) ?_⟩
    simp only [truW, if_true]
    refine isi1 (b := true) t1 (by decide +kernel) (isi1 (b := true) t2 (by decide +kernel) (b_ne_eq ?_))
    simp only [boolW, Bool.false_eq_true, if_false]
    refine isi1 (b := false) t1 (by decide +kernel) (isi1 (b := false) t2 (by decide +kernel) (b_ne_eq ?_))
    simp only [boolW, Bool.false_eq_true, if_false]
    refine ⟨xs, s1 h0, ys, s1 h0', ?_⟩
    rw [h1]
    refine i_eq ?_
    simp only [truW, if_true]
    have zg : ∀ (Qz : List Dat → Gd → AG → Prop), (∀ gd, gdOk G gd → Qz (zipD xs ys) gd G) → zipG x y G Qz := fun Qz hz => by
      have : lstG x G fun xs gx G1 => lstG y G1 fun ys gy G2 => Qz (zipD xs ys) (gx ++ gy) G2 := lst_G h0 fun gd g1 => lst_G h0' fun ge g2 => hz _ (gdOk_app.mpr ⟨g1, g2⟩)
      cases x with
      | tup _ => cases h0
      | _ => exact this
    refine zg _ fun gd hgd => ?_
    have := same_lc (Q := fun d G1 => ∃ ds bs, lstOf G1 d = some ds ∧ blsOf ds = some bs ∧ ∃ G0, Sub G0 G1 ∧ Q (.bl (bs.all id)) G0) (ρ := [some x, some y, none, none]) (gd := gd) hs (G := G) hgd h2 (Nat.le_refl 4) h3 fun m => ⟨_, _, rfl, blsOf_rep _, by simpa using fin⟩
    simp only [wE, wEs] at this
    exact this
theorem ok_same0 (Γ : Gam) (tg : TyGl Γ) (N : List Str) (hN : N.length = 4) (ds : List Dat) (G : AG) (Q : AQ) (X : AX) (h : c_same 0 ds G Q X) : wSs Γ b_same (startD N ds) G (endsOf Q X) := by
  obtain ⟨x, y, rfl, ⟨rfl, h⟩, q⟩ := h
  have st : startD N [x, x] = [some x, some x, none, none] := by unfold startD; rw [hN]; rfl
  rw [st]
  exact ok_same_leaf Γ 0 tg G Q X x h q
end Av


set_option Elab.async false
set_option linter.all false
set_option maxRecDepth 100000
set_option maxHeartbeats 4000000
/-! # AvP3: rows of ints -/
namespace Av
open PySem PySem.Spec PyProof.Rows L2
variable [Tb]

abbrev di (xs : List Int) : List Dat := xs.map Dat.int
/-- a row of ints: a tuple or a list that is never written -/
def RowI (x : Dat) (xs : List Int) : Prop := x = .tup (di xs) ∨ x = .lst (di xs)
theorem RowI.fix {x : Dat} {xs : List Int} (h : RowI x xs) : fixOf x = some (di xs) := by rcases h with rfl | rfl <;> rfl
theorem deeps_ints {G : AG} : ∀ xs : List Int, Deeps G (di xs) (xs.map PyData.int)
  | [] => .nil
  | x :: xs => .cons (.int x) (deeps_ints xs)
theorem lay_ints : ∀ xs : List Int, PyData.canLayAll0 (xs.map PyData.int) = true
  | [] => rfl
  | x :: xs => by rw [List.map_cons, PyData.canLayAll0, lay_ints xs]; rfl
theorem eqv_ints : ∀ xs ys : List Int, PyData.eqvAll (xs.map PyData.int) (ys.map PyData.int) = (xs == ys)
  | [], [] => rfl
  | [], _ :: _ => rfl
  | _ :: _, [] => rfl
  | x :: xs, y :: ys => by
    rw [List.map_cons, List.map_cons, PyData.eqvAll, eqv_ints xs ys]
    have e : PyData.eqv (.int x) (.int y) = (x == y) := by simp [PyData.eqv]
    rw [e]
    rfl
theorem depthAll_ints : ∀ xs : List Int, PyData.depthAll (xs.map PyData.int) = 0
  | [] => by simp [PyData.depthAll]
  | x :: xs => by rw [List.map_cons, PyData.depthAll, depthAll_ints xs]; simp [PyData.depth]
theorem shaped_tup (xs : List Int) : SeqAt.shaped (.tuple (xs.map PyData.int)) = true := by
  unfold SeqAt.shaped
  rw [PyData.canLay0, lay_ints, PyData.depth, depthAll_ints]
  rfl
theorem shaped_lst (xs : List Int) : SeqAt.shaped (.list (xs.map PyData.int)) = true := by
  unfold SeqAt.shaped
  rw [PyData.canLay0, lay_ints, PyData.depth, depthAll_ints]
  rfl
theorem eq_tups {G : AG} {xs ys : List Int} {n : Bool} {Q : AQ} (q : Q (.bl (if n then !(xs == ys) else xs == ys)) G) : eqW n (.tup (di xs)) (.tup (di ys)) G Q := by
  refine .inr ⟨_, _, .tup (deeps_ints xs), .tup (deeps_ints ys), shaped_tup xs, shaped_tup ys, ?_⟩
  rw [PyData.eqv, eqv_ints]
  exact q
theorem deep_lst {G : AG} {x : Dat} {xs : List Int} (h : lstOf G x = some (di xs)) : Deep G x (.list (xs.map PyData.int)) := by
  cases x with
  | lst ds => cases h; exact .lst (deeps_ints xs)
  | ref a =>
    cases e : G a with
    | none => simp only [lstOf, e] at h; cases h
    | some o =>
      cases o with
      | lst ds =>
        simp only [lstOf, e] at h
        cases h
        exact .ref e (deeps_ints xs)
      | _ => simp only [lstOf, e] at h; cases h
  | _ => cases h
theorem eq_lsts {G : AG} {x y : Dat} {xs ys : List Int} {n : Bool} {Q : AQ} (h1 : lstOf G x = some (di xs)) (h2 : lstOf G y = some (di ys)) (q : Q (.bl (if n then !(xs == ys) else xs == ys)) G) : eqW n x y G Q := by
  refine .inr ⟨_, _, deep_lst h1, deep_lst h2, shaped_lst xs, shaped_lst ys, ?_⟩
  rw [PyData.eqv, eqv_ints]
  exact q
theorem flat_ints : ∀ xs : List Int, (di xs).all flatD = true
  | [] => rfl
  | x :: xs => flat_ints xs
theorem any_ints (a : Int) : ∀ xs : List Int, (di xs).any (fun d => eqF d (.int a)) = xs.contains a
  | [] => rfl
  | x :: xs => by
    show (eqF (.int x) (.int a) || (di xs).any fun d => eqF d (.int a)) = _
    rw [any_ints a xs, List.contains_cons]
    show ((x == a) || _) = ((a == x) || _)
    rw [Bool.beq_comm]
theorem mem_ints {G : AG} {y : Dat} {a : Int} {es : List Int} {Q : AQ} (h : seqOf G y = some (di es)) (q : Q (.bl (es.contains a)) G) : memW false (.int a) y G Q := by
  refine ⟨_, h, rfl, flat_ints es, ?_⟩
  rw [any_ints]
  exact q
theorem cut_map {xs : List Int} {lo hi : Option Int} : cutD (di xs) lo hi = di ((xs.drop (HT.sIx xs.length 0 lo)).take (HT.sIx xs.length xs.length hi - HT.sIx xs.length 0 lo)) := by
  unfold cutD di
  rw [List.length_map, List.map_take, List.map_drop]
/-- xs[i:j] -/
def cutI (xs : List Int) (i j : Nat) : List Int := (xs.drop i).take (j - i)
theorem cut_ij {xs : List Int} {i j : Nat} (h : i ≤ xs.length) : cutD (di xs) (some (i : Int)) (some (j : Int)) = di (cutI xs i j) := by
  rw [cut_map, HT.sIx_nat, HT.sIx_nat]
  unfold cutI
  rw [Nat.min_eq_left h]
  congr 1
  by_cases hj : j ≤ xs.length
  · rw [Nat.min_eq_left hj]
  · rw [Nat.min_eq_right (by omega)]
    rw [List.take_of_length_le (by simp), List.take_of_length_le (by rw [List.length_drop]; omega)]
theorem cut_from {xs : List Int} {i : Nat} (h : i ≤ xs.length) : cutD (di xs) (some (i : Int)) none = di (xs.drop i) := by
  rw [cut_map, HT.sIx_nat, HT.sIx_none, Nat.min_eq_left h]
  rw [List.take_of_length_le (by simp)]
theorem cutI_len (xs : List Int) (i j : Nat) : (cutI xs i j).length ≤ xs.length := by
  unfold cutI
  rw [List.length_take, List.length_drop]
  omega
/-- tuple(x[i:j]) of a row -/
theorem row_cut {G : AG} {x : Dat} {xs : List Int} {i j : Nat} {Q : AQ} (h : RowI x xs) (hz : xs.length ≤ sizeLine) (hi : i ≤ xs.length) (q : Q (.tup (di (cutI xs i j))) G) : slW true x (some (i : Int)) (some (j : Int)) G (fun d G1 => bltW true .tuple [d] G1 Q) := by
  rcases h with rfl | rfl
  · simp only [slW, bltW]
    rw [cut_ij hi]
    exact ⟨_, rfl, q⟩
  · simp only [slW, bltW]
    refine ⟨_, rfl, ?_⟩
    rw [cut_ij hi]
    unfold nw
    rw [if_pos rfl]
    exact ⟨by rw [List.length_map]; have := cutI_len xs i j; omega, _, rfl, q⟩
theorem row_from {G : AG} {x : Dat} {xs : List Int} {i : Nat} {Q : AQ} (h : RowI x xs) (hz : xs.length ≤ sizeLine) (hi : i ≤ xs.length) (q : Q (.tup (di (xs.drop i))) G) : slW true x (some (i : Int)) none G (fun d G1 => bltW true .tuple [d] G1 Q) := by
  rcases h with rfl | rfl
  · simp only [slW, bltW]
    rw [cut_from hi]
    exact ⟨_, rfl, q⟩
  · simp only [slW, bltW]
    refine ⟨_, rfl, ?_⟩
    rw [cut_from hi]
    unfold nw
    rw [if_pos rfl]
    exact ⟨by rw [List.length_map, List.length_drop]; omega, _, rfl, q⟩
theorem row_len {G : AG} {x : Dat} {xs : List Int} {z : Bool} {Q : AQ} (h : RowI x xs) (q : Q (.int (xs.length : Int)) G) : bltW z .len [x] G Q := by
  refine ⟨_, fix_seq h.fix, ?_⟩
  rw [List.length_map]
  exact q
theorem row_ix {G : AG} {x : Dat} {xs : List Int} {i : Nat} {Q : AQ} (h : RowI x xs) (hi : i < xs.length) (q : Q (.int xs[i]) G) : ixW x (.int (i : Int)) G Q := by
  refine ixF h.fix (d := .int xs[i]) ?_ q
  rw [atI_nat (by omega), Int.toNat_natCast, List.getElem?_map, List.getElem?_eq_getElem hi]
  rfl
end Av


set_option Elab.async false
set_option linter.all false
set_option maxRecDepth 100000
set_option maxHeartbeats 4000000
/-! # AvHd: a top that is run in parts -/
noncomputable section
namespace Av.Hd
open PySem PySem.W PySem.Calls PyProof.Rows HandSHeadRun

section
variable (st : SharedT → Thread → Option (SharedT × Thread)) (n0 : Nat) (ann : Option Value)
/-- whether the part is at its end -/
def endQ (t : Thread) : Option Flow := match t.stack with
  | [_] => match t.cur with
    | .pure (.done f) => some f
    | _ => none
  | _ => none
theorem endQ_eq (t : Thread) : endAt 1 t = endQ t := by
  obtain ⟨cur, c, p, stk⟩ := t
  unfold endAt endQ
  match stk with
  | [] => rfl
  | [_] =>
    cases cur with
    | pure r => cases r <;> rfl
    | _ => rfl
  | x :: y :: r =>
    have e : ((⟨cur, c, p, x :: y :: r⟩ : Thread).stack.length == 1) = false := by simp
    simp only [e]
/-- a part of the top, to its end -/
def segQ : Nat → SharedT → Thread → Option (Flow × SharedT × Code × Pos)
  | 0, _, _ => none
  | m + 1, s, t => match endQ t with
    | some f => some (f, s, t.code, t.pos)
    | none => match stepOk n0 ann t with
      | false => none
      | true => match st s t with
        | none => none
        | some (s2, t2) => frS s2 fun s3 => segQ m s3 t2
/-- so many steps -/
def preQ : Nat → SharedT → Thread → Option (SharedT × Thread)
  | 0, s, t => some (s, t)
  | m + 1, s, t => match through t with
    | true => none
    | false => match stepOk n0 ann t with
      | false => none
      | true => match st s t with
        | none => none
        | some (s2, t2) => frS s2 fun s3 => preQ m s3 t2
end
variable {tb : String → Option Builtin} {p : Program} {w : World} {n0 : Nat} {ann : Option Value}
theorem segQ_ok : ∀ {m : Nat} {s s' : SharedT} {t : Thread} {f : Flow} {c : Code} {q : Pos}, segQ (stepT (denote tb) p w) n0 ann m s t = some (f, s', c, q) → segRun tb p w n0 ann 1 m s.abs t = some (f, s'.abs, c, q) := by
  intro m
  induction m with
  | zero => intro s s' t f c q h; cases h
  | succ m ih =>
    intro s s' t f c q h
    unfold segQ at h
    unfold segRun
    rw [endQ_eq]
    cases e1 : endQ t with
    | some g =>
      rw [e1] at h
      cases h
      rfl
    | none =>
      rw [e1] at h
      cases e2 : stepOk n0 ann t with
      | false => rw [e2] at h; cases h
      | true =>
        rw [e2] at h
        cases e3 : stepT (denote tb) p w s t with
        | none => rw [e3] at h; cases h
        | some r =>
          obtain ⟨s2, t2⟩ := r
          rw [e3] at h
          have h2 : (frS s2 fun s3 => segQ (stepT (denote tb) p w) n0 ann m s3 t2) = some (f, s', c, q) := h
          rw [frS_eq] at h2
          have z := ih h2
          simp only [stepT_spec e3]
          exact z
theorem preQ_ok : ∀ {m : Nat} {s s' : SharedT} {t t' : Thread}, preQ (stepT (denote tb) p w) n0 ann m s t = some (s', t') → topGo tb p w n0 ann m s.abs t = some (s'.abs, t') := by
  intro m
  induction m with
  | zero =>
    intro s s' t t' h
    cases h
    rfl
  | succ m ih =>
    intro s s' t t' h
    unfold preQ at h
    unfold topGo
    cases e1 : through t with
    | true => rw [e1] at h; cases h
    | false =>
      rw [e1] at h
      cases e2 : stepOk n0 ann t with
      | false => rw [e2] at h; cases h
      | true =>
        rw [e2] at h
        cases e3 : stepT (denote tb) p w s t with
        | none => rw [e3] at h; cases h
        | some r =>
          obtain ⟨s2, t2⟩ := r
          rw [e3] at h
          have h2 : (frS s2 fun s3 => preQ (stepT (denote tb) p w) n0 ann m s3 t2) = some (s', t') := h
          rw [frS_eq] at h2
          have z := ih h2
          simp only [stepT_spec e3]
          exact z

def execsQ : List Stmt → Env → Sem Flow := PySem.W.Fast.tw12563942051412417395
theorem execsQ_eq : @PySem.execs = execsQ := PySem.W.Fast.te12563942051412417395
/-- piecesOf, restOf by the library's twin -/
def piecesQ (l : List Stmt) (env : Env) (c : Code) (p : Pos) (B : List Frame) : Thread := ⟨(execsQ l env).wrap doneF deadEnd id id, c, p, B⟩
def restQ (l : List Stmt) (env : Env) (c : Code) (p : Pos) (B : List Frame) : Thread := ⟨(execsQ l env).wrap doneF (leaveH env) id id, c, p, B⟩
theorem piecesQ_eq (l : List Stmt) (env : Env) (c : Code) (p : Pos) (B : List Frame) : piecesQ l env c p B = piecesOf l env c p B := by
  unfold piecesQ
  rw [← execsQ_eq]
theorem restQ_eq (l : List Stmt) (env : Env) (c : Code) (p : Pos) (B : List Frame) : restQ l env c p B = restOf l env c p B := by
  unfold restQ restOf
  rw [← execsQ_eq]
/-- the rest of the top comes through, and the state behind it is r -/
def Rest (p : Program) (w : World) (n0 : Nat) (ann : Option Value) (s : SharedT) (l : List Stmt) (env : Env) (c : Code) (pos q : Pos) (N : Nat) (r : Shared) : Prop :=
  topRun treeTable p w n0 ann N s.abs (restOf l env c pos [topFrame q]) = some r
abbrev stQ (p : Program) (w : World) := stepQ (denQ tabQ) p w
theorem stQ_eq : stepT (denote treeTable) p w = stQ p w := by rw [stepQ_eq, denQ_eq, tabQ_eq]
theorem rest_last {s s' : SharedT} {l : List Stmt} {env : Env} {c : Code} {pos q : Pos} {N : Nat} (h : goF (stQ p w) n0 ann N s (restQ l env c pos [topFrame q]) = some s') : Rest p w n0 ann s l env c pos q N s'.abs := by
  rw [← stQ_eq, restQ_eq] at h
  exact goF_ok h
theorem rest_part {s s' : SharedT} {l l' : List Stmt} {env : Env} {c : Code} {pos pos' q : Pos} {n N : Nat} {r : Shared}
    (h : segQ (stQ p w) n0 ann n s (piecesQ l env c pos [topFrame q]) = some (.next, s', c, pos')) (k : Rest p w n0 ann s' l' env c pos' q N r) : Rest p w n0 ann s (l ++ l') env c pos q (n + N) r := by
  rw [← stQ_eq, piecesQ_eq] at h
  exact piece_app (segQ_ok h) k
/-- from the boot to the first statement -/
theorem rest_first {w : World} {os : OsState} {t0 : BT} {sa sb : SharedT} {b : List Stmt} {env : Env} {c : Code} {pos pos' q : Pos} {k0 kb N : Nat} {r : Shared} (hb : putAll (boot_heap w.params).objs.toList .nil 0 = some (t0, n0))
    (h0 : preQ (stQ p w) n0 ann k0 (bootT w os (t0, n0)) (topStub p) = some (sa, ⟨denQ tabQ (.body b env), c, pos, [topFrame q]⟩))
    (h1 : segQ (stQ p w) n0 ann kb sa (blockOf b env c pos [topFrame q]) = some (.next, sb, c, pos')) (k : Rest p w n0 ann sb b env c pos' q N r) :
    topRun treeTable p w n0 ann (k0 + (kb + N)) ⟨boot_heap w.params, #[], boot_drawn, boot_toks, os⟩ (topStub p) = some r := by
  rw [← stQ_eq] at h0 h1
  rw [← denQ_eq, ← tabQ_eq] at h0
  have z0 := preQ_ok h0
  have e : (bootT w os (t0, n0)).abs = ⟨boot_heap w.params, #[], boot_drawn, boot_toks, os⟩ := by
    have eh := putAll_heap hb
    show (⟨absHeap t0 n0 (boot_heap w.params).life, #[], boot_drawn, boot_toks, os⟩ : Shared) = _
    rw [eh]
  rw [e] at z0
  exact go_top z0 (piece_block (segQ_ok h1) k)
theorem size_of {w : World} {t0 : BT} (hb : putAll (boot_heap w.params).objs.toList .nil 0 = some (t0, n0)) : (boot_heap w.params).objs.size = n0 := by
  rw [← putAll_heap hb]
  exact absHeap_size t0 n0 _

/-- what is asked of the state behind the top -/
abbrev Told (r : OpenRow) (q : Program) (H : Hook) (ob : SharedT → H.α) (loose : List PySem.Str) (w : World) (s : SharedT) : Prop :=
  (looksF r.prog (boot_heap w.params) s.abs, seenQ q loose (importedModules r.prog.main.body) (fun s => xlAt q [] s && recOk r.toRowW.records s) s.abs, ob s) = (true, openGood q loose, H.val w)
abbrev Runs (r : OpenRow) (q : Program) (H : Hook) (ob : SharedT → H.α) (M : Nat) (loose : List PySem.Str) (w : World) : Prop :=
  ∀ os : OsState, ∃ s : SharedT, topRun treeTable r.prog w (boot_heap w.params).objs.size (bootAnn w) M ⟨boot_heap w.params, #[], boot_drawn, boot_toks, os⟩ (topStub r.prog) = some s.abs ∧ Told r q H ob loose w s
theorem leftO_runs {r : OpenRow} {q : Program} {H : Hook} {ob : SharedT → H.α} {M : Nat} {loose : List PySem.Str} (ho : ∀ s : SharedT, ob s = H.obs s.abs)
    (e : opening r.prog = plainProg r.prog.main.scope.names) (f : ∀ s, fenceModules? r.prog s = some s) (run : ∀ w, Runs r q H ob M loose w) :
    LeftO r.prog q loose (fun s => xlAt q [] s && recOk r.toRowW.records s) H.obs H.val (M + 600) true := fun w => by
  obtain ⟨⟨h, gs, d, k, os⟩, a, a'⟩ := Option.map_eq_some_iff.mp (boot_open (N := M + 600) e (Nat.ble_eq_true_of_le (by omega)) f w)
  obtain ⟨rfl, rfl, rfl, rfl⟩ : h = boot_heap w.params ∧ gs = Array.mk [] ∧ d = boot_drawn ∧ k = boot_toks := by simpa using a'
  obtain ⟨s, hs, hv⟩ := run w os
  obtain ⟨l1, l2, l3⟩ : _ ∧ _ ∧ _ := by
    simpa only [Told, Prod.mk.injEq] using hv
  have hr := topRun_mono 600 _ _ _ _ hs
  have l1' : (staticsOk (importedModules r.prog.main.body) (boot_heap w.params) s.abs.heap && namesBound r.prog s.abs.heap
      && gensDone s.abs && laidKept (boot_heap w.params) s.abs.heap) = true := l1
  have t : topFrom treeTable r.prog w (M + 600) ⟨boot_heap w.params, Array.mk [], boot_drawn, boot_toks, os⟩ = some s.abs := by
    unfold topFrom
    dsimp only
    rw [boot_ns]
    show (topRun treeTable r.prog w (boot_heap w.params).objs.size (bootAnn w) (M + 600) ⟨boot_heap w.params, #[], boot_drawn, boot_toks, os⟩ (topStub r.prog)).bind _
      = _
    rw [hr]
    show (match (staticsOk (importedModules r.prog.main.body) (boot_heap w.params) s.abs.heap && namesBound r.prog s.abs.heap
      && gensDone s.abs && laidKept (boot_heap w.params) s.abs.heap) with
      | true => some s.abs
      | false => none) = _
    rw [l1']
  unfold openEnds
  rw [a]
  show (topFrom treeTable r.prog w (M + 600) _).map _ = _
  rw [t]
  rw [← seenQ_eq] at l2
  refine congrArg some (Prod.ext l2 ?_)
  show H.obs s.abs = _
  rw [← ho]
  exact l3
theorem holds_runs {r : OpenRow} {q : Program} {H : Hook} {ob : SharedT → H.α} {M : Nat} {loose : List PySem.Str} {d : DefRec} {kwd : List (PySem.Str × PySem.Expr)} (ho : ∀ s : SharedT, ob s = H.obs s.abs)
    (e : opening r.prog = plainProg r.prog.main.scope.names) (f : ∀ s, fenceModules? r.prog s = some s) (run : ∀ w, Runs r q H ob M loose w) (hd : defOf q r.name = some (d, kwd))
    (hp : r.prog.theDef r.name = some (d.params, d.body, d.scope)) (hk : kwWritten? d.params.kwonlyargs d.params.kw_defaults = some kwd) (h1 : (!r.writes || r.records.isEmpty) = true) (h2 : r.wellSaid = true)
    (h3 : (chainsOk q && opensWell r.prog && (frees r.toRowW && r.within.isEmpty)) = true) (h4 : r.prog.bare) (h5 : r.toRowW.promised)
    (call : WalkO q loose (XL q []) H.says r.toRowW d kwd fun f vs => PySem.call f vs) : r.Holds := by
  have left := leftO_runs (M := M) ho e f run
  refine holds_open (XP := XL q []) (YP := H.says) left H.of H.keeps ?_ XL.keeps hd hp hk ?_ h1 h2 h3 h4 h5 call
  · exact fun s z => xl_of s (Bool.and_eq_true_iff.mp z).1
  · exact fun s z => recFacts_of (Bool.and_eq_true_iff.mp z).2
end Av.Hd


set_option Elab.async false
set_option linter.all false
set_option maxRecDepth 100000
set_option maxHeartbeats 4000000
/-! # LibR: names, the registry, codecs -/
namespace Av
open PySem PySem.Spec PyProof.Rows L2
variable [Tb]

theorem neo {G : AG} {a b : Addr} {x y : AO} (h : G a = some x) (h' : G b = some y) (d : x ≠ y) : a ≠ b := fun e => by
  subst e; rw [h] at h'; exact d (Option.some.inj h')
theorem nen {G : AG} {a b : Addr} {x : AO} (h : G a = some x) (h' : G b = none) : a ≠ b := fun e => by
  subst e; rw [h] at h'; cases h'
theorem eq_strs {G : AG} {a b : Str} {n : Bool} {Q : AQ} (q : Q (.bl (if n then !decide (a = b) else decide (a = b))) G) : eqW n (.str a) (.str b) G Q := by
  have e : decide (toV (.str a) = toV (.str b)) = decide (a = b) := Av.dec_strV a b
  refine .inl ⟨rfl, ?_⟩
  rw [e]
  exact q

/-! ### normal names -/
def sgns : Str := "abcdefghijklmnopqrstuvwxyz0123456789."
def normStep (st : Str × Bool) (c : Nat) : Str × Bool :=
  let small := Txt.lower ⟨#[c]⟩
  (if sIn small sgns = true then (st.1 ++ (if (if (st.2 && !decide (st.1 = "")) = true then (1 : Int) else 0) < 1 then Str.empty else "_")) ++ small else st.1, !sIn small sgns)
def normFold (l : List Nat) (st : Str × Bool) : Str × Bool := l.foldl normStep st
def normOk : List Nat → Str × Bool → Bool
  | [], st => decide (st.1.length ≤ 1000)
  | c :: l, st => decide (st.1.length ≤ 1000) && (decide ((Txt.lower ⟨#[c]⟩).length ≤ 1000) && normOk l (normStep st c))
def normalName (x : Str) : Str := (normFold x.cps.toList ("", false)).1
def nameOk (x : Str) : Bool := normOk x.cps.toList ("", false)
def c_normal : Con := fun ds G Q X => match ds with
  | [.str x] => nameOk x = true ∧ Q (.str (normalName x)) G
  | _ => False
def f_normal : FnE := { con := c_normal, ar := 1, len := by intro ds G Q X h; unfold c_normal at h; split at h <;> first | rfl | exact h.elim }
def b_normal_name : List S := [
  .setTp [2, 3] (.tup [(.cst (.str "")), (.cst (.bl false))]),
  .for_ (.nm 1) (.str (.var 0)) [.set 4 (.smeth true .lower (.var 1) []), .if_ (.sin false (.var 4) (.glo "SIGNS_registry")) [.set 2 (.bin true .add (.bin true .add (.var 2) (.bin true .mul (.cst (.str "_")) (.blt true .int [(.andV (.var 3) (.one (.cmp .ne (.var 2) (.cst (.str "")))))]))) (.var 4))] [], .set 3 (.sin true (.var 4) (.glo "SIGNS_registry"))],
  .ret (.var 2)]
theorem addS {z : Bool} {a b : Str} {G : AG} {Q : AQ} (h : a.length + b.length ≤ sizeLine) (q : Q (.str (a ++ b)) G) : binW z .add (.str a) (.str b) G Q := ⟨h, q⟩
theorem mulS {z : Bool} {a : Str} {k : Int} {G : AG} {Q : AQ} (h0 : -(2 ^ 63) ≤ k) (h : k ≤ 1) (q : Q (.str (if k < 1 then Str.empty else a)) G) : binW z .mul (.str a) (.int k) G Q := ⟨⟨h0, h⟩, q⟩
theorem intB {z b : Bool} {G : AG} {Q : AQ} (q : Q (.int (if b then 1 else 0)) G) : bltW z .int [.bl b] G Q := q
theorem ok_normal (Γ : Gam) (hg : Γ.gl "SIGNS_registry" = some (.str sgns)) (N : List Str) (hN : N.length = 5) (ds : List Dat) (G : AG) (Q : AQ) (X : AX) (h : c_normal ds G Q X) : wSs Γ b_normal_name (startD N ds) G (endsOf Q X) := by
  match ds, h with
  | [.str x], ⟨h1, h2⟩ =>
    have st : startD N [Dat.str x] = [some (.str x), none, none, none, none] := by unfold startD; rw [hN]; rfl
    rw [st]
    have big : 3000 ≤ sizeLine := by decide
    unfold b_normal_name
    simp only [wSs, wS, wE, wEs, wI, tgW, setAll, List.set, List.length_cons, List.length_nil, List.getElem?_cons_zero, List.getElem?_cons_succ]
    refine ⟨by decide, trivial, x, rfl, ?_⟩
    refine forW_of (fun rem ρ G' => G' = G ∧ ∃ l f b o1 o4, rem = l.map (fun c => Dat.str ⟨#[c]⟩) ∧ ρ = [some (.str x), o1, some (.str f), some (.bl b), o4] ∧ normOk l (f, b) = true ∧ normFold l (f, b) = normFold x.cps.toList ("", false)) ?_ ?_ _ _ _ ⟨rfl, _, _, _, _, _, rfl, rfl, h1, rfl⟩
    · rintro d rem ρ G' Nx hN' ⟨rfl, l, f, b, o1, o4, e1, rfl, k1, k2⟩
      cases l with
      | nil => cases e1
      | cons c l =>
        simp only [List.map_cons, List.cons.injEq] at e1
        obtain ⟨rfl, rfl⟩ := e1
        unfold normOk at k1
        simp only [Bool.and_eq_true, decide_eq_true_eq] at k1
        obtain ⟨l1, l2, l3⟩ := k1
        have l1 : f.length ≤ 1000 := l1
        refine ⟨trivial, ?_⟩
        simp only [tgW, wSs, wS, wE, wEs, wT, hg, negB, smW, List.set, List.getElem?_cons_zero, List.getElem?_cons_succ]
        refine ⟨_, rfl, by show 1 ≤ 5592405; decide, _, _, rfl, rfl, ?_⟩
        have hs : normStep (f, b) c = (if sIn (Txt.lower ⟨#[c]⟩) sgns = true then (f ++ (if (if (b && !decide (f = "")) = true then (1 : Int) else 0) < 1 then Str.empty else "_")) ++ Txt.lower ⟨#[c]⟩ else f, !sIn (Txt.lower ⟨#[c]⟩) sgns) := rfl
        have k3 : normFold l (normStep (f, b) c) = normFold x.cps.toList ("", false) := k2
        rw [hs] at l3 k3
        by_cases q : sIn (Txt.lower ⟨#[c]⟩) sgns = true
        · simp only [q, if_true, Bool.not_true, Bool.false_eq_true, if_false] at l3 k3 ⊢
          have main : ∀ b2 : Bool, b2 = (b && !decide (f = "")) → bltW true .int [.bl b2] G' (fun y G1 => binW true .mul (.str "_") y G1 fun y G2 => binW true .add (.str f) y G2 fun x_1 G1 => binW true .add x_1 (.str (Txt.lower ⟨#[c]⟩)) G1 fun d G1 =>
              ∃ s t, strD (.str (Txt.lower ⟨#[c]⟩)) = some s ∧ strD (.str sgns) = some t ∧ Nx [some (.str x), some (.str ⟨#[c]⟩), some d, some (.bl (!sIn s t)), some (.str (Txt.lower ⟨#[c]⟩))] G1) := by
            intro b2 hb2
            subst hb2
            refine intB (mulS (by split <;> omega) (by split <;> omega) ?_)
            have hz : (if (if (b && !decide (f = "")) = true then (1 : Int) else 0) < 1 then Str.empty else ("_" : Str)).length ≤ 1 := by split <;> decide
            have hz2 : (f ++ (if (if (b && !decide (f = "")) = true then (1 : Int) else 0) < 1 then Str.empty else ("_" : Str))).length ≤ 1001 := by
              rw [Str.length_append]; omega
            refine addS (by omega) (addS (by omega) ⟨_, _, rfl, rfl, hN' _ _ ⟨rfl, l, _, false, some (.str ⟨#[c]⟩), some (.str (Txt.lower ⟨#[c]⟩)), rfl, by rw [q]; rfl, l3, k3⟩⟩)
          cases b with
          | false => exact main false rfl
          | true => exact eq_strs (n := true) (Q := fun y G1 => bltW true .int [y] G1 _) (main (true && !decide (f = "")) rfl)
        · simp only [q, if_false, Bool.not_false, Bool.false_eq_true] at l3 k3 ⊢
          exact ⟨_, _, rfl, rfl, hN' _ _ ⟨rfl, l, _, true, some (.str ⟨#[c]⟩), some (.str (Txt.lower ⟨#[c]⟩)), rfl, by simp only [q]; rfl, l3, k3⟩⟩
    · rintro ρ G' ⟨rfl, l, f, b, o1, o4, e1, rfl, k1, k2⟩
      cases l with
      | cons c l => cases e1
      | nil =>
        refine ⟨trivial, ?_⟩
        simp only [wE, List.getElem?_cons_zero, List.getElem?_cons_succ]
        have e : f = normalName x := congrArg (·.1) k2
        rw [e]
        exact ⟨_, .refl _, h2⟩
/-! ### known names -/
def codecsL : List (Str × Str) := [("ascii", "ascii 646 us us_ascii ansi_x3.4_1968 cp367 iso_ir_6"), ("iso8859-1", "latin_1 latin1 latin l1 iso8859_1 iso_8859_1 8859 cp819"), ("utf-8", "utf_8 utf8 u8 utf cp65001"), ("utf-8-sig", "utf_8_sig"), ("utf-16", "utf_16 utf16 u16"),
  ("utf-16-le", "utf_16_le utf_16le"), ("utf-16-be", "utf_16_be utf_16be"), ("utf-32", "utf_32 utf32 u32"), ("utf-32-le", "utf_32_le utf_32le"), ("utf-32-be", "utf_32_be utf_32be"), ("utf-7", "utf_7 utf7 u7"), ("unicode-escape", "unicode_escape"),
  ("raw-unicode-escape", "raw_unicode_escape"), ("cp1252", "cp1252 1252 windows_1252"), ("iso8859-15", "iso8859_15 iso_8859_15 l9 latin9"), ("koi8-r", "koi8_r cskoi8r"), ("punycode", "punycode")]
def codecsD : List (Key × Dat) := codecsL.map fun q => (.inr q.1, .str q.2)
def knownIn (nm : Str) : List (Str × Str) → Option Str
  | [] => none
  | q :: r => if (Txt.split q.2 " ").contains nm = true then some q.1 else knownIn nm r
def knownName (nm : Str) : Option Str := knownIn nm codecsL
def optS : Option Str → Dat
  | some x => .str x
  | none => .non
def c_knownName : Con := fun ds G Q X => match ds with
  | [.str nm] => Q (optS (knownName nm)) G
  | _ => False
def f_knownName : FnE := { con := c_knownName, ar := 1, len := by intro ds G Q X h; unfold c_knownName at h; split at h <;> first | rfl | exact h.elim }
def b_known_name : List S := [
  .for_ (.nm 1) (.gkeys "CODECS") [.if_ (.cmp .mem (.var 0) (.smeth true .split (.gix "CODECS" (.var 1)) [(.cst (.str " "))])) [.ret (.var 1)] []],
  .ret (.cst (.non))]
theorem any_strs (a : Str) : ∀ xs : List Str, (strsD xs).any (fun d => eqF d (.str a)) = xs.contains a
  | [] => rfl
  | x :: xs => by
    show (eqF (.str x) (.str a) || (strsD xs).any fun d => eqF d (.str a)) = _
    rw [any_strs a xs, List.contains_cons]
    show ((x == a) || _) = ((a == x) || _)
    rw [Bool.beq_comm]
theorem flat_strs : ∀ xs : List Str, (strsD xs).all flatD = true
  | [] => rfl
  | x :: xs => by show (true && (strsD xs).all flatD) = true; rw [flat_strs xs]; rfl
theorem mem_strs {G : AG} {y : Dat} {a : Str} {es : List Str} {Q : AQ} (h : seqOf G y = some (strsD es)) (q : Q (.bl (es.contains a)) G) : memW false (.str a) y G Q := by
  refine ⟨_, h, rfl, flat_strs es, ?_⟩
  rw [any_strs]
  exact q
theorem splitS {a b : Str} {G : AG} {Q : AQ} (h : (b.length == 0) = false) (h2 : a.length + 2 ≤ sizeLine) (q : Q (.lst (strsD (Txt.split a b))) G) : smW true .split a [.str b] G Q :=
  ⟨⟨h, h2⟩, by unfold strsD; rw [List.length_map]; exact Nat.le_trans (fact_split a b).2 h2, q⟩
theorem codecs_ok : ∀ q ∈ codecsL, q.2.length + 2 ≤ sizeLine ∧ lookD codecsD (.inr q.1) = some (.str q.2) := by
  unfold codecsL
  repeat' first | exact ⟨by decide +kernel, rfl⟩ | refine List.forall_mem_cons.2 ⟨?_, ?_⟩ | exact fun _ h => nomatch h
theorem ok_knownName (Γ : Gam) (hd : Γ.dc "CODECS" = some codecsD) (N : List Str) (hN : N.length = 2) (ds : List Dat) (G : AG) (Q : AQ) (X : AX) (h : c_knownName ds G Q X) : wSs Γ b_known_name (startD N ds) G (endsOf Q X) := by
  match ds, h with
  | [.str nm], h =>
    have st : startD N [Dat.str nm] = [some (.str nm), none] := by unfold startD; rw [hN]; rfl
    rw [st]
    unfold b_known_name
    simp only [wSs, wS, wE, wEs, wI, hd]
    refine forW_of (fun rem ρ G' => G' = G ∧ ∃ l o1, rem = l.map (fun q : Str × Str => Dat.str q.1) ∧ ρ = [some (.str nm), o1] ∧ (∀ q ∈ l, q.2.length + 2 ≤ sizeLine ∧ lookD codecsD (.inr q.1) = some (.str q.2)) ∧ knownIn nm l = knownName nm) ?_ ?_ _ _ _ ⟨rfl, codecsL, _, rfl, rfl, codecs_ok, rfl⟩
    · rintro d rem ρ G' Nx hN' ⟨rfl, l, o1, e1, rfl, k1, k2⟩
      cases l with
      | nil => cases e1
      | cons q l =>
        simp only [List.map_cons, List.cons.injEq] at e1
        obtain ⟨rfl, rfl⟩ := e1
        obtain ⟨s1, s2⟩ := k1 q (List.mem_cons_self ..)
        refine ⟨trivial, ?_⟩
        simp only [tgW, wSs, wS, wE, wEs, wT, hd, cmpW, List.set, List.getElem?_cons_zero, List.getElem?_cons_succ]
        refine ⟨_, _, rfl, s2, _, rfl, splitS rfl s1 ?_⟩
        refine mem_strs rfl ?_
        show if (Txt.split q.2 " ").contains nm = true then _ else _
        by_cases c : (Txt.split q.2 " ").contains nm = true
        · rw [if_pos c]
          have e : knownName nm = some q.1 := by rw [← k2]; unfold knownIn; rw [if_pos c]
          have h2 : Q (optS (knownName nm)) G' := h
          rw [e] at h2
          exact ⟨_, .refl _, h2⟩
        · rw [if_neg c]
          refine hN' _ _ ⟨rfl, l, _, rfl, rfl, fun r hr => k1 r (List.mem_cons_of_mem _ hr), ?_⟩
          rw [← k2]
          conv => rhs; unfold knownIn
          rw [if_neg c]
    · rintro ρ G' ⟨rfl, l, o1, e1, rfl, k1, k2⟩
      cases l with
      | cons q l => cases e1
      | nil =>
        refine ⟨trivial, ?_⟩
        simp only [wE]
        have e : knownName nm = none := k2.symm
        have h2 : Q (optS (knownName nm)) G' := h
        rw [e] at h2
        exact ⟨_, .refl _, h2⟩

/-! ### objects -/
def c_non : Con := fun _ _ _ _ => False
def regF (q h : Addr) : List (Str × Dat) := [("searchers", .lst []), ("found_codecs", .ref q), ("own_handlers", .ref h)]
def codF (r : Dat) (n k : Str) : List (Str × Dat) := [("registry", r), ("name", .str n), ("kind", .str k), ("table", .non), ("back", .non)]
def RegAt (G : AG) (r q : Addr) (kv : List (Key × Dat)) : Prop := r ≠ q ∧ G q = some (.dk kv) ∧ ∃ h, G r = some (.ins "Registry" (regF q h))
def CodAt (G : AG) (c r : Addr) (k : Str) : Prop := G c = some (.ins "Codec" (codF (.ref r) k k))
def c_regInit : Con := fun ds G Q X => match ds with
  | [.ref r] => G r = some (.ins "Registry" []) ∧ ∀ G' q, Sub (gx G r) G' → G q = none → RegAt G' r q [] → Q .non G'
  | _ => False
def f_regInit : FnE := { con := c_regInit, ar := 1, len := by intro ds G Q X h; unfold c_regInit at h; split at h <;> first | rfl | exact h.elim }
def b_Registry___init__ : List S := [
  .setAtt (.var 0) "searchers" (.lst true []),
  .setAtt (.var 0) "found_codecs" (.dlit []),
  .setAtt (.var 0) "own_handlers" (.dlit [])]
theorem satA {Γ : Gam} {f C : Str} {v : Dat} {p : Addr} {G : AG} {Q : AG → Prop} {fs fs' : List (Str × Dat)} (h : G p = some (.ins C fs)) (a : Γ.at_ C f = true) (l : fs.length < 1000) (e : putD f v fs = fs') (q : Q (gu G p (.ins C fs'))) : satW Γ f v (.ref p) G Q :=
  ⟨C, fs, h, a, l, by rw [e]; exact q⟩
theorem sub_swap {G G' : AG} {r p : Addr} {o : AO} (s : Sub (gx G r) G') (h : G' p = none) : Sub (gx G r) (gu G' p o) := s.trans (Sub.new h)
theorem sub_put {G G' : AG} {r : Addr} {o : AO} (s : Sub (gx G r) G') : Sub (gx G r) (gu G' r o) := fun b u e => by
  by_cases c : b = r
  · subst c; rw [gx_same] at e; cases e
  · rw [gu_ne c]; exact s b u e
theorem gu_o {G : AG} {a b : Addr} {o u : AO} (h : G a = none) (h2 : G b = some u) : gu G a o b = some u := by
  rw [gu_ne (fun c => by subst c; rw [h] at h2; cases h2)]; exact h2
theorem ok_regInit (Γ : Gam) (ha : ∀ f ∈ (["searchers", "found_codecs", "own_handlers"] : List Str), Γ.at_ "Registry" f = true) (N : List Str) (hN : N.length = 1) (ds : List Dat) (G : AG) (Q : AQ) (X : AX) (h : c_regInit ds G Q X) : wSs Γ b_Registry___init__ (startD N ds) G (endsOf Q X) := by
  match ds, h with
  | [.ref r], ⟨h1, h2⟩ =>
    have st : startD N [Dat.ref r] = [some (.ref r)] := by unfold startD; rw [hN]; rfl
    rw [st]
    unfold b_Registry___init__
    simp only [wSs, wS, wE, wEs, List.getElem?_cons_zero]
    refine ⟨by decide, ?_⟩
    refine ⟨_, _, h1, ha _ (by simp), by decide, ?_⟩
    refine ⟨[], rfl, by decide, fun q hq => ?_⟩
    have rq : r ≠ q := fun c => by subst c; rw [gu_same] at hq; cases hq
    have q0 : G q = none := by rw [gu_ne (Ne.symm rq)] at hq; exact hq
    refine satA (fs' := [("searchers", .lst []), ("found_codecs", .ref q)]) (gu_o hq gu_same) (ha _ (by simp)) (by decide) rfl ?_
    refine ⟨[], rfl, by decide, fun h hh => ?_⟩
    have rh : r ≠ h := fun c => by subst c; rw [gu_same] at hh; cases hh
    have qh : q ≠ h := fun c => by subst c; rw [gu_ne (Ne.symm rq), gu_same] at hh; cases hh
    refine satA (fs' := regF q h) (gu_o hh gu_same) (ha _ (by simp)) (by simp) rfl ?_
    refine ⟨_, .refl _, h2 _ q ?_ q0 ⟨rq, ?_, h, gu_same⟩⟩
    · refine sub_put (sub_swap (sub_put (sub_swap (sub_put Sub.gx) hq)) hh)
    · rw [gu_ne (Ne.symm rq)]
      exact gu_o hh (by rw [gu_ne (Ne.symm rq)]; exact gu_same)
def c_codInit : Con := fun ds G Q X => match ds with
  | [.ref c, a, b, d, e, f] => G c = some (.ins "Codec" []) ∧ Q .non (gu G c (.ins "Codec" [("registry", a), ("name", b), ("kind", d), ("table", e), ("back", f)]))
  | _ => False
def f_codInit : FnE := { con := c_codInit, ar := 6, dfl := [.non, .non], len := by intro ds G Q X h; unfold c_codInit at h; split at h <;> first | rfl | exact h.elim }
def b_Codec___init__ : List S := [
  .setAtt (.var 0) "registry" (.var 1),
  .setAtt (.var 0) "name" (.var 2),
  .setAtt (.var 0) "kind" (.var 3),
  .setAtt (.var 0) "table" (.var 4),
  .setAtt (.var 0) "back" (.var 5)]
theorem ok_codInit (Γ : Gam) (ha : ∀ f ∈ (["registry", "name", "kind", "table", "back"] : List Str), Γ.at_ "Codec" f = true) (N : List Str) (hN : N.length = 6) (ds : List Dat) (G : AG) (Q : AQ) (X : AX) (h : c_codInit ds G Q X) : wSs Γ b_Codec___init__ (startD N ds) G (endsOf Q X) := by
  match ds, h with
  | [.ref c, a, b, d, e, f], ⟨h1, h2⟩ =>
    have st : startD N [.ref c, a, b, d, e, f] = [some (.ref c), some a, some b, some d, some e, some f] := by unfold startD; rw [hN]; rfl
    rw [st]
    unfold b_Codec___init__
    simp only [wSs, wS, wE, wEs, List.getElem?_cons_zero, List.getElem?_cons_succ]
    refine satA (fs' := [("registry", a)]) h1 (ha _ (by simp)) (by simp) rfl ?_
    refine satA (fs' := [("registry", a), ("name", b)]) gu_same (ha _ (by simp)) (by simp) rfl ?_
    rw [gu_gu]
    refine satA (fs' := [("registry", a), ("name", b), ("kind", d)]) gu_same (ha _ (by simp)) (by simp) rfl ?_
    rw [gu_gu]
    refine satA (fs' := [("registry", a), ("name", b), ("kind", d), ("table", e)]) gu_same (ha _ (by simp)) (by simp) rfl ?_
    rw [gu_gu]
    refine satA (fs' := [("registry", a), ("name", b), ("kind", d), ("table", e), ("back", f)]) gu_same (ha _ (by simp)) (by simp) rfl ?_
    rw [gu_gu]
    exact ⟨_, .refl _, h2⟩

def isTab (nm : Str) : Bool := (["cp1252", "iso8859-15", "koi8-r"] : List Str).contains nm
def TabGl (Γ : Gam) : Prop := ∃ tb, Γ.dc "TABLES" = some tb ∧ ∀ nm, isTab nm = false → lookD tb (.inr nm) = none
def newCod (G : AG) (c r : Addr) (k : Str) : AG := gu G c (.ins "Codec" (codF (.ref r) k k))
def c_knownCodec : Con := fun ds G Q X => match ds with
  | [.ref r, .str nm] => isTab nm = false ∧ ∀ c, G c = none → Q (.ref c) (newCod G c r nm)
  | _ => False
def f_knownCodec : FnE := { con := c_knownCodec, ar := 2, len := by intro ds G Q X h; unfold c_knownCodec at h; split at h <;> first | rfl | exact h.elim }
def b_Registry_known_codec : List S := [
  .if_ (.gin false "TABLES" (.var 1)) [.ret (.mcall "Registry" "charmap" (.var 0) [(.var 1), (.gix "TABLES" (.var 1))])] [],
  .ret (.new "Codec" [(.var 0), (.var 1), (.var 1), (.cst (.non)), (.cst (.non))])]
theorem ok_knownCodec (Γ : Gam) (ht : TabGl Γ) (hc : Γ.mke "Codec" = some f_codInit) (N : List Str) (hN : N.length = 2) (ds : List Dat) (G : AG) (Q : AQ) (X : AX) (h : c_knownCodec ds G Q X) : wSs Γ b_Registry_known_codec (startD N ds) G (endsOf Q X) := by
  match ds, h with
  | [.ref r, .str nm], ⟨h1, h2⟩ =>
    have st : startD N [.ref r, .str nm] = [some (.ref r), some (.str nm)] := by unfold startD; rw [hN]; rfl
    rw [st]
    obtain ⟨tb, t1, t2⟩ := ht
    unfold b_Registry_known_codec
    simp only [wSs, wS, wE, wEs, wT, List.getElem?_cons_zero, List.getElem?_cons_succ, t1, hc]
    refine ⟨_, rfl, ?_⟩
    rw [t2 nm h1]
    simp only [negB, Option.isSome_none, if_false, Bool.false_eq_true]
    refine ⟨by decide, fun p hp => ?_⟩
    refine ⟨gu_same, rfl, _, .refl _, ?_⟩
    rw [gu_gu]
    exact h2 p hp
theorem call_knownName {nn nm : Str} {G : AG} {Q : AQ} {X : AX} (k : knownName nn = some nm) (q : Q (.str nm) G) : f_knownName.con [.str nn] G Q X := by
  show Q (optS _) G
  rw [k]
  exact q
def c_searched : Con := fun ds G Q X => match ds with
  | [.ref r, .str nn] => (∃ q kv, RegAt G r q kv) ∧ ∃ nm, knownName nn = some nm ∧ isTab nm = false ∧ ∀ c, G c = none → Q (.ref c) (newCod G c r nm)
  | _ => False
def f_searched : FnE := { con := c_searched, ar := 2, len := by intro ds G Q X h; unfold c_searched at h; split at h <;> first | rfl | exact h.elim }
def b_Registry_searched : List S := [
  .set 2 (.call "known_name" [(.var 1)]),
  .if_ (.cmp .isnt (.var 2) (.cst (.non))) [.ret (.mcall "Registry" "known_codec" (.var 0) [(.var 2)])] [],
  .for_ (.nm 3) (.seq (.blt true .list [(.att (.var 0) "searchers")])) [.set 4 (.callV 3 [(.var 1)]), .if_ (.and_ (.cmp .isnt (.var 4) (.cst (.non))) (.one (.not_ (.val (.blt true .isinst [(.var 4), (.glo "Codec")]))))) [.raise "BadCodec" []] [], .if_ (.cmp .isnt (.var 4) (.cst (.non))) [.ret (.var 4)] []],
  .ret (.cst (.non))]
theorem ok_searched (Γ : Gam) (hk : Γ.fn "known_name" = some f_knownName) (hm : Γ.ms "Registry" "known_codec" = some f_knownCodec) (N : List Str) (hN : N.length = 5) (ds : List Dat) (G : AG) (Q : AQ) (X : AX) (h : c_searched ds G Q X) : wSs Γ b_Registry_searched (startD N ds) G (endsOf Q X) := by
  match ds, h with
  | [.ref r, .str nn], ⟨⟨q, kv, _, _, hh, hr⟩, nm, k1, k2, h2⟩ =>
    have st : startD N [.ref r, .str nn] = [some (.ref r), some (.str nn), none, none, none] := by unfold startD; rw [hN]; rfl
    rw [st]
    unfold b_Registry_searched
    simp only [wSs, wS, wE, wEs, wT, List.getElem?_cons_zero, List.getElem?_cons_succ, hk, hm]
    refine ⟨by decide, ?_⟩
    refine call_knownName k1 ?_
    simp only [cmpW, isNonD, boolW, Bool.not_false, if_true, List.set, List.getElem?_cons_zero, List.getElem?_cons_succ]
    refine ⟨by decide, ⟨_, hr, rfl⟩, k2, fun c hc => ?_⟩
    exact ⟨_, .refl _, h2 c hc⟩
theorem dk_ref {G : AG} {q : Addr} {kv : List (Key × Dat)} (h : G q = some (.dk kv)) : dkOf G (.ref q) = some kv := by simp only [dkOf, h]
theorem putKD_look {kv : List (Key × Dat)} {k : Key} {v : Dat} : lookD (putKD kv k v) k = some v := by
  unfold putKD
  by_cases c : (kv.any fun q => decide (q.1 = k)) = true
  · rw [if_pos c]
    induction kv with
    | nil => cases c
    | cons q r ih =>
      unfold lookD at *
      rw [List.map_cons, List.find?_cons]
      by_cases e : q.1 = k
      · simp [e]
      · simp only [e, if_false, decide_false]
        rw [List.any_cons] at c
        simp only [e, decide_false, Bool.false_or] at c
        exact ih c
  · rw [if_neg c]
    unfold lookD
    rw [List.find?_append]
    have : List.find? (fun q => decide (q.1 = k)) kv = none := by
      rw [List.find?_eq_none]
      intro x hx hd
      exact c (List.any_eq_true.2 ⟨x, hx, hd⟩)
    rw [this]
    simp
def c_lookup : Con := fun ds G Q X => match ds with
  | [.ref r, .str n] => ∃ q kv, RegAt G r q kv ∧ nameOk n = true ∧ (match lookD kv (.inr (normalName n)) with
    | some d => Q d G
    | none => kv.length < sizeLine ∧ ∃ nm, knownName (normalName n) = some nm ∧ isTab nm = false ∧ ∀ G' c, Sub (gx G q) G' → G c = none → CodAt G' c r nm → RegAt G' r q (putKD kv (.inr (normalName n)) (.ref c)) → Q (.ref c) G')
  | _ => False
def f_lookup : FnE := { con := c_lookup, ar := 2, len := by intro ds G Q X h; unfold c_lookup at h; split at h <;> first | rfl | exact h.elim }
def b_Registry_lookup : List S := [
  .set 2 (.call "normal_name" [(.var 1)]),
  .if_ (.din true (.var 2) (.att (.var 0) "found_codecs")) [.set 3 (.mcall "Registry" "searched" (.var 0) [(.var 2)]), .if_ (.cmp .isn (.var 3) (.cst (.non))) [.raise "NoCodec" [(.var 1)]] [], .dset (.att (.var 0) "found_codecs") (.var 2) (.var 3)] [],
  .ret (.dix (.att (.var 0) "found_codecs") (.var 2))]
theorem ok_lookup (Γ : Gam) (hn : Γ.fn "normal_name" = some f_normal) (hm : Γ.ms "Registry" "searched" = some f_searched) (ha : Γ.at_ "Registry" "found_codecs" = true) (N : List Str) (hN : N.length = 4) (ds : List Dat) (G : AG) (Q : AQ) (X : AX) (h : c_lookup ds G Q X) : wSs Γ b_Registry_lookup (startD N ds) G (endsOf Q X) := by
  match ds, h with
  | [.ref r, .str n], ⟨q, kv, hR, h1, h2⟩ =>
    have st : startD N [.ref r, .str n] = [some (.ref r), some (.str n), none, none] := by unfold startD; rw [hN]; rfl
    rw [st]
    have hR' := hR
    obtain ⟨rq, hq, hh, hr⟩ := hR'
    unfold b_Registry_lookup
    simp only [wSs, wS, wE, wEs, wT, List.getElem?_cons_zero, List.getElem?_cons_succ, hn, hm]
    refine ⟨by decide, h1, ?_⟩
    simp only [List.set, List.getElem?_cons_zero, List.getElem?_cons_succ]
    refine ⟨_, _, _, hr, ha, rfl, kv, _, dk_ref hq, rfl, ?_⟩
    cases c : lookD kv (.inr (normalName n)) with
    | some d =>
      rw [c] at h2
      simp only [negB, Option.isSome_some, if_true, Bool.not_true, if_false, Bool.false_eq_true]
      exact ⟨_, _, _, hr, ha, rfl, kv, _, d, hq, rfl, c, _, .refl _, h2⟩
    | none =>
      rw [c] at h2
      obtain ⟨h3, nm, k1, k2, h4⟩ := h2
      simp only [negB, Option.isSome_none, if_true, Bool.not_false]
      refine ⟨by decide, ⟨_, hr, rfl⟩, ⟨q, kv, hR⟩, nm, k1, k2, fun a hf => ?_⟩
      have ar : r ≠ a := fun c => by subst c; rw [hf] at hr; cases hr
      have aq : q ≠ a := fun c => by subst c; rw [hf] at hq; cases hq
      have hr1 : newCod G a r nm r = some (.ins "Registry" (regF q hh)) := gu_o hf hr
      have hq1 : newCod G a r nm q = some (.dk kv) := gu_o hf hq
      simp only [cmpW, isNonD, boolW, List.set, List.getElem?_cons_zero, List.getElem?_cons_succ, if_false, Bool.false_eq_true]
      refine ⟨_, _, _, hr1, ha, rfl, kv, _, hq1, rfl, h3, ?_⟩
      have R2 : RegAt (gu (newCod G a r nm) q (.dk (putKD kv (.inr (normalName n)) (.ref a)))) r q (putKD kv (.inr (normalName n)) (.ref a)) := ⟨rq, gu_same, hh, by rw [gu_ne rq]; exact hr1⟩
      refine ⟨_, _, _, R2.2.2.choose_spec, ha, rfl, _, _, .ref a, gu_same, rfl, putKD_look, _, .refl _, h4 _ a ?_ hf ?_ R2⟩
      · exact sub_put (sub_swap Sub.gx hf)
      · show gu _ q _ a = _
        rw [gu_ne (Ne.symm aq)]
        exact gu_same
end Av


set_option Elab.async false
set_option linter.all false
set_option maxRecDepth 100000
set_option maxHeartbeats 4000000
/-! # K46: escapes written -/
namespace Av
open PySem PySem.Spec PyProof.Rows L2
variable [Tb]
def sgn (d : Int) : Int := if d < 10 then 48 + d else 87 + d
def digs (n : Int) : Nat → List Int
  | 0 => []
  | k + 1 => sgn (n % 16) :: digs (n / 16) k
def hexN (n : Int) (k : Nat) : List Int := (digs n k).reverse
def signsL : List Int := [48, 49, 50, 51, 52, 53, 54, 55, 56, 57, 97, 98, 99, 100, 101, 102]
theorem digs_len (n : Int) : ∀ k, (digs n k).length = k := by
  intro k
  induction k generalizing n with
  | zero => rfl
  | succ k ih => show _ + 1 = _; rw [ih]
theorem sgn_all : ∀ k : Fin 16, signsL[k.val]? = some (sgn (k.val : Int)) := by decide
theorem sgn_at {d : Int} (h : 0 ≤ d) (h2 : d < 16) : atI (di signsL) d = some (.int (sgn d)) := by
  rw [atI_nat h]
  have := sgn_all ⟨d.toNat, by omega⟩
  unfold di
  rw [List.getElem?_map]
  simp only at this
  rw [this, Int.toNat_of_nonneg h]
  rfl
def far (c : Int) : List Int := if c < 65536 then [92, 117] ++ hexN c 4 else [92, 85] ++ hexN c 8
def shortL : List (Key × Dat) := [(.inl 9, .int 116), (.inl 10, .int 110), (.inl 13, .int 114), (.inl 92, .int 92)]
def near (c : Int) : List Int := if c = 9 then [92, 116] else if c = 10 then [92, 110] else if c = 13 then [92, 114] else if c = 92 then [92, 92] else
  if 32 ≤ c ∧ c ≤ 126 then [c] else if c < 256 then [92, 120] ++ hexN c 2 else far c
def esc (raw : Bool) (c : Int) : List Int := if raw = true then (if c < 256 then [c] else far c) else near c
def escAll (raw : Bool) (cs : List Int) : List Int := cs.flatMap (esc raw)
def isCode (c : Int) : Prop := 0 ≤ c ∧ c ≤ 1114111
theorem far_len (c : Int) : (far c).length ≤ 10 := by
  unfold far hexN
  split <;> simp [digs_len]
theorem esc_len (raw : Bool) (c : Int) : (esc raw c).length ≤ 10 := by
  have := far_len c
  unfold esc near hexN
  repeat' split
  all_goals first | assumption | simp [digs_len]
theorem escAll_len (raw : Bool) : ∀ cs : List Int, (escAll raw cs).length ≤ 10 * cs.length
  | [] => Nat.le_refl _
  | c :: cs => by
    have := escAll_len raw cs
    have := esc_len raw c
    unfold escAll at *
    rw [List.flatMap_cons, List.length_append, List.length_cons]
    omega
theorem escAll_cat (raw : Bool) (a b : List Int) : escAll raw (a ++ b) = escAll raw a ++ escAll raw b := List.flatMap_append
theorem di_app (a b : List Int) : di a ++ di b = di (a ++ b) := (List.map_append ..).symm
theorem gtI {i j : Int} {G : AG} {Q : AQ} (q : Q (.bl (decide (j < i))) G) : cmpW .gt (.int i) (.int j) G Q := q
theorem ltI {i j : Int} {G : AG} {Q : AQ} (q : Q (.bl (decide (i < j))) G) : cmpW .lt (.int i) (.int j) G Q := q
theorem leI {i j : Int} {G : AG} {Q : AQ} (q : Q (.bl (decide (i ≤ j))) G) : cmpW .le (.int i) (.int j) G Q := q
theorem geI {i j : Int} {G : AG} {Q : AQ} (q : Q (.bl (decide (j ≤ i))) G) : cmpW .ge (.int i) (.int j) G Q := q
theorem lst_ref {G : AG} {p : Addr} {ds : List Dat} (h : G p = some (.lst ds)) : lstOf G (.ref p) = some ds := by simp only [lstOf, h]
theorem len_ref {G : AG} {p : Addr} {ds : List Dat} {z : Bool} {Q : AQ} (h : G p = some (.lst ds)) (q : Q (.int ds.length) G) : bltW z .len [.ref p] G Q := ⟨ds, lst_ref h, q⟩
def c_digitsOf : Con := fun ds G Q X => ∃ (n : Int) (k : Nat), ds = [.int n, .int k] ∧ k ≤ 8 ∧ 0 ≤ n ∧ n < 16 ^ k ∧ Q (.tup (di (hexN n k))) G
def f_digitsOf : FnE := { con := c_digitsOf, ar := 2, len := fun ds G Q X ⟨_, _, h, _⟩ => by rw [h]; rfl }
def b_digits_of : List S := [
  .set 2 (.lst false []),
  .while_ (.or_ (.cmp .gt (.var 0) (.cst (.int 0))) (.one (.cmp .lt (.blt true .len [(.var 2)]) (.var 1)))) [.expr (.meth .append (.var 2) [(.ix (.glo "SIGNS_codes") (.bin true .mod (.var 0) (.cst (.int 16))))]), .set 0 (.bin true .fdiv (.var 0) (.cst (.int 16)))],
  .ret (.blt true .tuple [(.rev (.var 2))])]
theorem ok_digitsOf (Γ : Gam) (hg : Γ.gl "SIGNS_codes" = some (.tup (di signsL))) (N : List Str) (hN : N.length = 3) (ds : List Dat) (G : AG) (Q : AQ) (X : AX) (h : c_digitsOf ds G Q X) : wSs Γ b_digits_of (startD N ds) G (endsOf Q X) := by
  obtain ⟨n, k, rfl, k8, n0, n1, hq⟩ := h
  have st : startD N [Dat.int n, Dat.int k] = [some (.int n), some (.int k), none] := by unfold startD; rw [hN]; rfl
  rw [st]
  have big : 1000 ≤ sizeLine := by decide
  unfold b_digits_of
  simp only [wSs, wS, wE, wEs, wT, hg, List.getElem?_cons_zero, List.getElem?_cons_succ]
  refine ⟨by decide, fun p hp => ?_⟩
  refine ⟨fun m ρ G' => ∃ (num : Int) (acc : List Int), ρ = [some (.int num), some (.int k), some (.ref p)] ∧ G' = gu G p (.lst (di acc)) ∧ 0 ≤ num ∧ num < 16 ^ m ∧ acc.length + m = k ∧ acc ++ digs num m = digs n k, ⟨k, n, [], rfl, rfl, n0, n1, by simp, rfl⟩, ?_⟩
  rintro m ρ G' ⟨num, acc, rfl, rfl, m0, m1, l1, e1⟩
  refine gtI ?_
  have rdy : lstOf (gu G p (.lst (di acc))) (.ref p) = some (di acc) := lst_ref gu_same
  cases m with
  | zero =>
    have c : ¬ 0 < num := by simp at m1; omega
    simp only [boolW, c, decide_false, if_false, Bool.false_eq_true, List.set, List.getElem?_cons_zero, List.getElem?_cons_succ]
    refine len_ref gu_same (ltI ?_)
    have c2 : ¬ ((di acc).length : Int) < (k : Int) := by rw [List.length_map]; omega
    simp only [boolW, c2, decide_false, if_false, Bool.false_eq_true]
    refine ⟨_, rdy, by rw [List.length_map]; omega, _, rfl, ⟨G, Sub.new hp, ?_⟩⟩
    have e2 : hexN n k = acc.reverse := by unfold hexN; rw [← e1]; simp [digs]
    rw [e2] at hq
    have e3 : di acc.reverse = (di acc).reverse := List.map_reverse ..
    rw [e3] at hq
    exact hq
  | succ m =>
    have pw : (16 : Int) ^ (m + 1) = 16 ^ m * 16 := Int.pow_succ ..
    rcases Decidable.em (0 < num) with c | c
    case' inl => simp only [boolW, c, decide_true, if_true, List.set, List.getElem?_cons_zero, List.getElem?_cons_succ]
    case' inr =>
      simp only [boolW, c, decide_false, if_false, Bool.false_eq_true, List.set, List.getElem?_cons_zero, List.getElem?_cons_succ]
      refine len_ref gu_same (ltI ?_)
      have c2 : ((di acc).length : Int) < (k : Int) := by rw [List.length_map]; omega
      simp only [boolW, c2, decide_true, if_true]
    all_goals
      refine ⟨⟨_, rdy⟩, by decide, ixT (sgn_at (by omega) (by omega)) ⟨_, gu_same, by rw [List.length_map]; omega, ⟨by decide, by decide⟩, m, Nat.lt_succ_self m, num / 16, acc ++ [sgn (num % 16)], rfl, ?_, by omega, by omega, by simp; omega, ?_⟩⟩
      · rw [gu_gu]; simp [di]
      · rw [← e1]; simp [digs]

def c_far : Con := fun ds G Q X => ∃ c : Int, ds = [.int c] ∧ isCode c ∧ 256 ≤ c ∧ Q (.tup (di (far c))) G
def f_far : FnE := { con := c_far, ar := 1, len := fun ds G Q X ⟨_, h, _⟩ => by rw [h]; rfl }
def b_far_escape : List S := [
  .if_ (.cmp .lt (.var 0) (.cst (.int 65536))) [.ret (.bin true .add (.tup [(.cst (.int 92)), (.cst (.int 117))]) (.blt true .tuple [(.call "digits_of" [(.var 0), (.cst (.int 4))])]))] [],
  .ret (.bin true .add (.tup [(.cst (.int 92)), (.cst (.int 85))]) (.blt true .tuple [(.call "digits_of" [(.var 0), (.cst (.int 8))])]))]
theorem addT {G : AG} {a b : List Dat} {Q : AQ} (h : a.length + b.length ≤ sizeLine) (q : Q (.tup (a ++ b)) G) : binW true .add (.tup a) (.tup b) G Q := ⟨h, q⟩
theorem ok_far (Γ : Gam) (hd : Γ.fn "digits_of" = some f_digitsOf) (N : List Str) (hN : N.length = 1) (ds : List Dat) (G : AG) (Q : AQ) (X : AX) (h : c_far ds G Q X) : wSs Γ b_far_escape (startD N ds) G (endsOf Q X) := by
  obtain ⟨c, rfl, ⟨c0, c1⟩, c2, hq⟩ := h
  have st : startD N [Dat.int c] = [some (.int c)] := by unfold startD; rw [hN]; rfl
  rw [st]
  have big : 1000 ≤ sizeLine := by decide
  unfold b_far_escape
  simp only [wSs, wS, wE, wEs, wT, hd, List.getElem?_cons_zero, List.getElem?_cons_succ]
  refine ltI ?_
  by_cases c3 : c < 65536
  · simp only [boolW, c3, decide_true, if_true]
    refine ⟨by simp; omega, by decide, c, 4, rfl, by decide, c0, by omega, _, rfl, addT (by simp [hexN, digs_len]; omega) ⟨_, .refl _, ?_⟩⟩
    have e : far c = [92, 117] ++ hexN c 4 := by unfold far; rw [if_pos c3]
    rw [e] at hq
    exact hq
  · simp only [boolW, c3, decide_false, if_false, Bool.false_eq_true]
    refine ⟨by simp; omega, by decide, c, 8, rfl, by decide, c0, by omega, _, rfl, addT (by simp [hexN, digs_len]; omega) ⟨_, .refl _, ?_⟩⟩
    have e : far c = [92, 85] ++ hexN c 8 := by unfold far; rw [if_neg c3]
    rw [e] at hq
    exact hq
def c_near : Con := fun ds G Q X => ∃ c : Int, ds = [.int c] ∧ isCode c ∧ Q (.tup (di (near c))) G
def f_near : FnE := { con := c_near, ar := 1, len := fun ds G Q X ⟨_, h, _⟩ => by rw [h]; rfl }
def b_near_escape : List S := [
  .if_ (.gin false "SHORT" (.var 0)) [.ret (.tup [(.cst (.int 92)), (.gix "SHORT" (.var 0))])] [],
  .if_ (.cmp2 .le .le (.cst (.int 32)) (.var 0) (.cst (.int 126))) [.ret (.tup [(.var 0)])] [],
  .ret (.ite (.cmp .lt (.var 0) (.cst (.int 256))) (.bin true .add (.tup [(.cst (.int 92)), (.cst (.int 120))]) (.blt true .tuple [(.call "digits_of" [(.var 0), (.cst (.int 2))])])) (.call "far_escape" [(.var 0)]))]
theorem short_none {c : Int} (h : c ≠ 9) (h2 : c ≠ 10) (h3 : c ≠ 13) (h4 : c ≠ 92) : lookD shortL (.inl c) = none := by
  unfold lookD shortL
  have e : ∀ a : Int, c ≠ a → decide ((Sum.inl a : Key) = Sum.inl c) = false := fun a ha => by
    rw [decide_eq_false_iff_not]
    intro hc
    exact ha (Sum.inl.inj hc).symm
  simp [List.find?_cons, e, Ne.symm h, Ne.symm h2, Ne.symm h3, Ne.symm h4]
theorem ok_near (Γ : Gam) (hs : Γ.dc "SHORT" = some shortL) (hd : Γ.fn "digits_of" = some f_digitsOf) (hf : Γ.fn "far_escape" = some f_far) (N : List Str) (hN : N.length = 1) (ds : List Dat) (G : AG) (Q : AQ) (X : AX) (h : c_near ds G Q X) : wSs Γ b_near_escape (startD N ds) G (endsOf Q X) := by
  obtain ⟨c, rfl, ⟨c0, c1⟩, hq⟩ := h
  have st : startD N [Dat.int c] = [some (.int c)] := by unfold startD; rw [hN]; rfl
  rw [st]
  have big : 1000 ≤ sizeLine := by decide
  unfold b_near_escape
  simp only [wSs, wS, wE, wEs, wT, hs, hd, hf, List.getElem?_cons_zero, List.getElem?_cons_succ]
  refine ⟨_, rfl, ?_⟩
  by_cases d1 : c = 9
  · subst d1
    exact ⟨_, _, rfl, rfl, by decide, _, .refl _, hq⟩
  by_cases d2 : c = 10
  · subst d2
    exact ⟨_, _, rfl, rfl, by decide, _, .refl _, hq⟩
  by_cases d3 : c = 13
  · subst d3
    exact ⟨_, _, rfl, rfl, by decide, _, .refl _, hq⟩
  by_cases d4 : c = 92
  · subst d4
    exact ⟨_, _, rfl, rfl, by decide, _, .refl _, hq⟩
  rw [short_none d1 d2 d3 d4]
  simp only [negB, Option.isSome_none, if_false, Bool.false_eq_true]
  unfold near at hq
  rw [if_neg d1, if_neg d2, if_neg d3, if_neg d4] at hq
  have last : Q (.tup (di (if c < 256 then [92, 120] ++ hexN c 2 else far c))) G → cmpW CO.lt (Dat.int c) (Dat.int 256) G
          (boolW fun k G1 =>
            if k = true then
              [Dat.int 92, Dat.int 120].length ≤ sizeLine ∧
                (f_digitsOf.ar ≤ [E.var 0, E.cst (Dat.int 2)].length + f_digitsOf.dfl.length ∧
                    [E.var 0, E.cst (Dat.int 2)].length ≤ f_digitsOf.ar) ∧
                  f_digitsOf.con
                    ([Dat.int c, Dat.int 2] ++
                      List.drop ([E.var 0, E.cst (Dat.int 2)].length + f_digitsOf.dfl.length - f_digitsOf.ar)
                        f_digitsOf.dfl)
                    G1
                    (fun d G1 =>
                      bltW true BF.tuple [d] G1 fun y G2 =>
                        binW true BO.add (Dat.tup [Dat.int 92, Dat.int 120]) y G2 (endsOf Q X).rt)
                    ((endsOf Q X).ex [some (Dat.int c)])
            else
              (f_far.ar ≤ [E.var 0].length + f_far.dfl.length ∧ [E.var 0].length ≤ f_far.ar) ∧
                f_far.con ([Dat.int c] ++ List.drop ([E.var 0].length + f_far.dfl.length - f_far.ar) f_far.dfl) G1
                  (endsOf Q X).rt ((endsOf Q X).ex [some (Dat.int c)])) := fun hq => by
    refine ltI ?_
    by_cases c7 : c < 256
    · rw [if_pos c7] at hq
      simp only [boolW, c7, decide_true, if_true]
      exact ⟨by simp; omega, by decide, c, 2, rfl, by decide, c0, by omega, _, rfl, addT (by simp [hexN, digs_len]; omega) ⟨_, .refl _, hq⟩⟩
    · rw [if_neg c7] at hq
      simp only [boolW, c7, decide_false, if_false, Bool.false_eq_true]
      exact ⟨by decide, c, rfl, ⟨c0, c1⟩, by omega, _, .refl _, hq⟩
  refine leI ?_
  by_cases c5 : 32 ≤ c
  · simp only [boolW, c5, decide_true, if_true]
    refine leI ?_
    by_cases c6 : c ≤ 126
    · simp only [boolW, c6, decide_true, if_true]
      rw [if_pos ⟨c5, c6⟩] at hq
      exact ⟨by simp; omega, _, .refl _, hq⟩
    · simp only [boolW, c6, decide_false, if_false, Bool.false_eq_true]
      rw [if_neg (fun h => c6 h.2)] at hq
      exact last hq
  · simp only [boolW, c5, decide_false, if_false, Bool.false_eq_true]
    rw [if_neg (fun h => c5 h.1)] at hq
    exact last hq

def c_write (raw : Bool) : Con := fun ds G Q X => ∃ cs a, ds = [.tup (di cs), a] ∧ (∀ c ∈ cs, isCode c) ∧ cs.length ≤ 1000 ∧ Q (.tup (di (escAll raw cs))) G
def f_write (raw : Bool) : FnE := { con := c_write raw, ar := 2, len := fun ds G Q X ⟨_, _, h, _⟩ => by rw [h]; rfl }
def b_write_escape : List S := [
  .set 2 (.lst false []),
  .for_ (.nm 3) (.seq (.var 0)) [.expr (.meth .extend (.var 2) [(.call "near_escape" [(.var 3)])])],
  .ret (.blt true .tuple [(.var 2)])]
def b_write_raw_escape : List S := [
  .set 2 (.lst false []),
  .for_ (.nm 3) (.seq (.var 0)) [.expr (.meth .extend (.var 2) [(.ite (.cmp .lt (.var 3) (.cst (.int 256))) (.tup [(.var 3)]) (.call "far_escape" [(.var 3)]))])],
  .ret (.blt true .tuple [(.var 2)])]
theorem escAll_cons (raw : Bool) (c : Int) (cs : List Int) : escAll raw (c :: cs) = esc raw c ++ escAll raw cs := List.flatMap_cons ..
theorem write_loop {raw : Bool} {G : AG} {p : Addr} {cs : List Int} {a : Dat} {A : AEnds} {gd : Gd} {body : Env' → AG → AEnds → Prop} {o : Option Dat} (hp : G p = none) (hg : gd = []) (hc : ∀ c ∈ cs, isCode c) (hl : cs.length ≤ 1000)
    (hb : ∀ (c : Int) (acc : List Int) (A : AEnds), isCode c → acc.length ≤ 10000 → A.nx [some (.tup (di cs)), some a, some (.ref p), some (.int c)] (gu G p (.lst (di (acc ++ esc raw c)))) →
      body [some (.tup (di cs)), some a, some (.ref p), some (.int c)] (gu G p (.lst (di acc))) A)
    (hn : ∀ o, A.nx [some (.tup (di cs)), some a, some (.ref p), o] (gu G p (.lst (di (escAll raw cs))))) :
    forW body (.nm 3) gd A (di cs) [some (.tup (di cs)), some a, some (.ref p), o] (gu G p (.lst (di []))) := by
  subst hg
  refine forW_of (fun rem ρ G' => ∃ (l acc : List Int) (o : Option Dat), rem = di l ∧ ρ = [some (.tup (di cs)), some a, some (.ref p), o] ∧ G' = gu G p (.lst (di acc)) ∧ (∀ c ∈ l, isCode c) ∧ acc.length + 10 * l.length ≤ 10000 ∧ acc ++ escAll raw l = escAll raw cs) ?_ ?_ _ _ _ ⟨cs, [], o, rfl, rfl, rfl, hc, by simp; omega, rfl⟩
  · rintro d rem ρ G' Nx hN' ⟨l, acc, o, e1, rfl, rfl, k1, k2, k3⟩
    cases l with
    | nil => cases e1
    | cons c l =>
      simp only [di, List.map_cons, List.cons.injEq] at e1
      obtain ⟨rfl, rfl⟩ := e1
      refine ⟨trivial, ?_⟩
      simp only [tgW, List.set]
      rw [List.length_cons] at k2
      refine hb c acc _ (k1 c (List.mem_cons_self ..)) (by omega) (hN' _ _ ⟨l, acc ++ esc raw c, _, rfl, rfl, rfl, fun r hr => k1 r (List.mem_cons_of_mem _ hr), ?_, ?_⟩)
      · have := esc_len raw c
        rw [List.length_append]
        omega
      · rw [← k3, escAll_cons, List.append_assoc]
  · rintro ρ G' ⟨l, acc, o, e1, rfl, rfl, k1, k2, k3⟩
    cases l with
    | cons c l => cases e1
    | nil =>
      refine ⟨trivial, ?_⟩
      have e : acc = escAll raw cs := by rw [← k3]; simp [escAll]
      rw [e]
      exact hn o
theorem ok_write_escape (Γ : Gam) (hd : Γ.fn "near_escape" = some f_near) (N : List Str) (hN : N.length = 4) (ds : List Dat) (G : AG) (Q : AQ) (X : AX) (h : c_write false ds G Q X) : wSs Γ b_write_escape (startD N ds) G (endsOf Q X) := by
  obtain ⟨cs, a, rfl, h1, h2, hq⟩ := h
  have st : startD N [Dat.tup (di cs), a] = [some (.tup (di cs)), some a, none, none] := by unfold startD; rw [hN]; rfl
  rw [st]
  have big : 100000 ≤ sizeLine := by decide
  unfold b_write_escape
  simp only [wSs, wS, wE, wEs, wT, wI, hd, List.getElem?_cons_zero, List.getElem?_cons_succ]
  refine ⟨by decide, fun p hp => ?_⟩
  simp only [List.set, List.getElem?_cons_zero, List.getElem?_cons_succ]
  refine write_loop (raw := false) hp rfl h1 h2 ?_ ?_
  · intro c acc A hc hl hA
    refine ⟨⟨_, lst_ref gu_same⟩, by decide, c, rfl, hc, _, _, gu_same, rfl, ?_, ?_⟩
    · have := esc_len false c
      simp only [List.length_map]
      have : (near c).length ≤ 10 := this
      omega
    · rw [gu_gu, di_app]
      exact hA
  · intro o
    exact ⟨_, lst_ref gu_same, G, Sub.new hp, hq⟩
theorem ok_write_raw (Γ : Gam) (hd : Γ.fn "far_escape" = some f_far) (N : List Str) (hN : N.length = 4) (ds : List Dat) (G : AG) (Q : AQ) (X : AX) (h : c_write true ds G Q X) : wSs Γ b_write_raw_escape (startD N ds) G (endsOf Q X) := by
  obtain ⟨cs, a, rfl, h1, h2, hq⟩ := h
  have st : startD N [Dat.tup (di cs), a] = [some (.tup (di cs)), some a, none, none] := by unfold startD; rw [hN]; rfl
  rw [st]
  have big : 100000 ≤ sizeLine := by decide
  unfold b_write_raw_escape
  simp only [wSs, wS, wE, wEs, wT, wI, hd, List.getElem?_cons_zero, List.getElem?_cons_succ]
  refine ⟨by decide, fun p hp => ?_⟩
  simp only [List.set, List.getElem?_cons_zero, List.getElem?_cons_succ]
  refine write_loop (raw := true) hp rfl h1 h2 ?_ ?_
  · intro c acc A hc hl hA
    refine ⟨⟨_, lst_ref gu_same⟩, ltI ?_⟩
    by_cases c3 : c < 256
    · simp only [boolW, c3, decide_true, if_true]
      have e : esc true c = [c] := by simp [esc, c3]
      rw [e] at hA
      refine ⟨by simp; omega, _, _, gu_same, rfl, ?_, ?_⟩
      · simp only [List.length_map, List.length_cons, List.length_nil]
        omega
      · rw [gu_gu]
        have e2 : di acc ++ [Dat.int c] = di (acc ++ [c]) := di_app acc [c]
        rw [e2]
        exact hA
    · simp only [boolW, c3, decide_false, if_false, Bool.false_eq_true]
      have e : esc true c = far c := by simp [esc, c3]
      rw [e] at hA
      refine ⟨by decide, c, rfl, hc, by omega, _, _, gu_same, rfl, ?_, ?_⟩
      · have := far_len c
        simp only [List.length_map]
        omega
      · rw [gu_gu, di_app]
        exact hA
  · intro o
    exact ⟨_, lst_ref gu_same, G, Sub.new hp, hq⟩

def c_ansInit : Con := fun ds G Q X => ∃ c a b, ds = [.ref c, a, b] ∧ G c = some (.ins "Answers" []) ∧ Q .non (gu G c (.ins "Answers" [("registry", a), ("errors", b), ("handler", .non)]))
def f_ansInit : FnE := { con := c_ansInit, ar := 3, len := fun ds G Q X ⟨_, _, _, h, _⟩ => by rw [h]; rfl }
def b_Answers___init__ : List S := [
  .setAtt (.var 0) "registry" (.var 1),
  .setAtt (.var 0) "errors" (.var 2),
  .setAtt (.var 0) "handler" (.cst (.non))]
theorem ok_ansInit (Γ : Gam) (ha : ∀ f ∈ (["registry", "errors", "handler"] : List Str), Γ.at_ "Answers" f = true) (N : List Str) (hN : N.length = 3) (ds : List Dat) (G : AG) (Q : AQ) (X : AX) (h : c_ansInit ds G Q X) : wSs Γ b_Answers___init__ (startD N ds) G (endsOf Q X) := by
  obtain ⟨c, a, b, rfl, h1, h2⟩ := h
  have st : startD N [.ref c, a, b] = [some (.ref c), some a, some b] := by unfold startD; rw [hN]; rfl
  rw [st]
  unfold b_Answers___init__
  simp only [wSs, wS, wE, wEs, List.getElem?_cons_zero, List.getElem?_cons_succ]
  refine satA (fs' := [("registry", a)]) h1 (ha _ (by simp)) (by decide) rfl ?_
  refine satA (fs' := [("registry", a), ("errors", b)]) gu_same (ha _ (by simp)) (by simp) rfl ?_
  rw [gu_gu]
  refine satA (fs' := [("registry", a), ("errors", b), ("handler", .non)]) gu_same (ha _ (by simp)) (by simp) rfl ?_
  rw [gu_gu]
  exact ⟨_, .refl _, h2⟩
def kindOf (raw : Bool) : Str := if raw = true then "raw-unicode-escape" else "unicode-escape"
def writersL : List (Key × Dat) := [(.inr "ascii", .gf "write_ascii"), (.inr "iso8859-1", .gf "write_latin"), (.inr "utf-8", .gf "write_utf8"), (.inr "utf-8-sig", .gf "write_signed"), (.inr "utf-7", .gf "write_utf7"), (.inr "unicode-escape", .gf "write_escape"), (.inr "raw-unicode-escape", .gf "write_raw_escape"), (.inr "punycode", .gf "write_punycode")]
def c_encoded : Con := fun ds G Q X => ∃ c r raw x cs e, ds = [.ref c, x, e] ∧ CodAt G c r (kindOf raw) ∧ fixOf x = some (di cs) ∧ (∀ c ∈ cs, isCode c) ∧ cs.length ≤ 1000 ∧ Q (.tup [.tup (di (escAll raw cs)), .int cs.length]) G
def f_encoded : FnE := { con := c_encoded, ar := 3, dfl := [.str "strict"], len := fun ds G Q X ⟨_, _, _, _, _, _, h, _⟩ => by rw [h]; rfl }
def b_Codec_encoded : List S := [
  .par2 1 4 (.blt true .tuple [(.var 1)]) (.new "Answers" [(.att (.var 0) "registry"), (.var 2)]),
  .if_ (.cmp .eq (.att (.var 0) "kind") (.cst (.str "charmap"))) [.ret (.tup [(.call "write_charmap" [(.var 1), (.var 4), (.att (.var 0) "back")]), (.blt true .len [(.var 1)])])] [],
  .if_ (.gin true "WRITERS" (.att (.var 0) "kind")) [.ret (.tup [(.call "write_wide" [(.var 1), (.var 4), (.att (.var 0) "kind")]), (.blt true .len [(.var 1)])])] [],
  .set 3 (.gix "WRITERS" (.att (.var 0) "kind")),
  .ret (.tup [(.callV 3 [(.var 1), (.var 4)]), (.blt true .len [(.var 1)])])]
theorem attA {Γ : Gam} {f C : Str} {p : Addr} {G : AG} {Q : AQ} {fs : List (Str × Dat)} {d : Dat} (h : G p = some (.ins C fs)) (a : Γ.at_ C f = true) (l : fs.lookup f = some d) (q : Q d G) : attW Γ f (.ref p) G Q := ⟨C, fs, d, h, a, l, q⟩
theorem eqS {G : AG} {a b : Str} {Q : AQ} (q : Q (.bl (decide (a = b))) G) : cmpW .eq (.str a) (.str b) G Q := eq_strs (n := false) q
theorem neS {G : AG} {a b : Str} {Q : AQ} (q : Q (.bl (!decide (a = b))) G) : cmpW .ne (.str a) (.str b) G Q := eq_strs (n := true) q
theorem ok_encoded (Γ : Gam) (hi : Γ.mke "Answers" = some f_ansInit) (ha : ∀ f ∈ (["registry", "name", "kind", "table", "back"] : List Str), Γ.at_ "Codec" f = true) (hw : Γ.dc "WRITERS" = some writersL)
    (h0 : Γ.fn "write_escape" = some (f_write false)) (h1 : Γ.fn "write_raw_escape" = some (f_write true)) (N : List Str) (hN : N.length = 5) (ds : List Dat) (G : AG) (Q : AQ) (X : AX) (h : c_encoded ds G Q X) : wSs Γ b_Codec_encoded (startD N ds) G (endsOf Q X) := by
  obtain ⟨c, r, raw, x, cs, e, rfl, k1, k2, k3, k4, hq⟩ := h
  have st : startD N [.ref c, x, e] = [some (.ref c), some x, some e, none, none] := by unfold startD; rw [hN]; rfl
  rw [st]
  have big : 100000 ≤ sizeLine := by decide
  unfold b_Codec_encoded
  simp only [wSs, wS, wE, wEs, wT, wI, hi, hw, List.getElem?_cons_zero, List.getElem?_cons_succ]
  refine ⟨_, fix_seq k2, by decide, attA k1 (ha _ (by simp)) rfl fun p hp => ⟨p, .ref r, e, rfl, gu_same, rfl, ?_⟩⟩
  rw [gu_gu]
  have pc : p ≠ c := fun h => by subst h; rw [CodAt, hp] at k1; cases k1
  have k5 := gu_o (o := .ins "Answers" [("registry", .ref r), ("errors", e), ("handler", .non)]) hp k1
  have fin := hq
  generalize hG : gu G p (.ins "Answers" [("registry", .ref r), ("errors", e), ("handler", .non)]) = G1 at k5 ⊢
  have sb : Sub G G1 := hG ▸ Sub.new hp
  simp only [List.set, List.getElem?_cons_zero, List.getElem?_cons_succ]
  refine attA k5 (ha _ (by simp)) rfl (eqS ?_)
  have d1 : decide (kindOf raw = "charmap") = false := by cases raw <;> decide +kernel
  simp only [boolW, d1, Bool.false_eq_true, if_false]
  cases raw with
  | false =>
    refine attA k5 (ha _ (by simp)) rfl ⟨_, rfl, ?_⟩
    have d2 : negB true (lookD writersL (.inr (kindOf false))).isSome = false := by decide +kernel
    rw [d2]
    simp only [Bool.false_eq_true, if_false]
    refine attA k5 (ha _ (by simp)) rfl ⟨_, .gf "write_escape", rfl, rfl, ?_⟩
    simp only [List.set, List.getElem?_cons_zero, List.getElem?_cons_succ, h0]
    exact ⟨by decide, cs, _, rfl, k3, k4, _, rfl, by simp; omega, G, sb, by simpa using fin⟩
  | true =>
    refine attA k5 (ha _ (by simp)) rfl ⟨_, rfl, ?_⟩
    have d2 : negB true (lookD writersL (.inr (kindOf true))).isSome = false := by decide +kernel
    rw [d2]
    simp only [Bool.false_eq_true, if_false]
    refine attA k5 (ha _ (by simp)) rfl ⟨_, .gf "write_raw_escape", rfl, rfl, ?_⟩
    simp only [List.set, List.getElem?_cons_zero, List.getElem?_cons_succ, h1]
    exact ⟨by decide, cs, _, rfl, k3, k4, _, rfl, by simp; omega, G, sb, by simpa using fin⟩

def b_Codec_incremental_encoder : List S := [
  .ret (.call "encoder_of" [(.var 0), (.var 1)])]
def encF (c : Addr) (e : Dat) : List (Str × Dat) := [("codec", .ref c), ("errors", e)]
def EncAt (G : AG) (n c : Addr) (e : Dat) : Prop := G n = some (.ins "Encoder" (encF c e))
def c_encInit : Con := fun ds G Q X => ∃ n c e, ds = [.ref n, .ref c, e] ∧ G n = some (.ins "Encoder" []) ∧ Q .non (gu G n (.ins "Encoder" (encF c e)))
def f_encInit : FnE := { con := c_encInit, ar := 3, len := fun ds G Q X ⟨_, _, _, h, _⟩ => by rw [h]; rfl }
def b_Encoder___init__ : List S := [
  .setAtt (.var 0) "codec" (.var 1),
  .setAtt (.var 0) "errors" (.var 2)]
theorem ok_encInit (Γ : Gam) (ha : ∀ f ∈ (["codec", "errors"] : List Str), Γ.at_ "Encoder" f = true) (N : List Str) (hN : N.length = 3) (ds : List Dat) (G : AG) (Q : AQ) (X : AX) (h : c_encInit ds G Q X) : wSs Γ b_Encoder___init__ (startD N ds) G (endsOf Q X) := by
  obtain ⟨c, a, b, rfl, h1, h2⟩ := h
  have st : startD N [.ref c, .ref a, b] = [some (.ref c), some (.ref a), some b] := by unfold startD; rw [hN]; rfl
  rw [st]
  unfold b_Encoder___init__
  simp only [wSs, wS, wE, wEs, List.getElem?_cons_zero, List.getElem?_cons_succ]
  refine satA (fs' := [("codec", .ref a)]) h1 (ha _ (by simp)) (by decide) rfl ?_
  refine satA (fs' := encF a b) gu_same (ha _ (by simp)) (by simp) rfl ?_
  rw [gu_gu]
  exact ⟨_, .refl _, h2⟩
/-- the making of an encoder of a codec that writes escapes -/
def c_encOf : Con := fun ds G Q X => ∃ c r raw e, ds = [.ref c, e] ∧ CodAt G c r (kindOf raw) ∧ ∀ n, G n = none → Q (.ref n) (gu G n (.ins "Encoder" (encF c e)))
def f_encOf : FnE := { con := c_encOf, ar := 2, len := fun ds G Q X ⟨_, _, _, _, h, _⟩ => by rw [h]; rfl }
def f_incEnc : FnE := { con := c_encOf, ar := 2, dfl := [.str "strict"], len := fun ds G Q X ⟨_, _, _, _, h, _⟩ => by rw [h]; rfl }
def b_encoder_of : List S := [
  .if_ (.cmp .eq (.att (.var 0) "kind") (.cst (.str "utf-8-sig"))) [.ret (.new "SignedEncoder" [(.var 0), (.var 1)])] [],
  .if_ (.gin false "MARKS_incremental" (.att (.var 0) "kind")) [.ret (.new "MarkedEncoder" [(.var 0), (.var 1)])] [],
  .ret (.new "Encoder" [(.var 0), (.var 1)])]
def MarkGl (Γ : Gam) : Prop := ∃ tb, Γ.dc "MARKS_incremental" = some tb ∧ ∀ raw, lookD tb (.inr (kindOf raw)) = none
theorem ok_encOf (Γ : Gam) (hm : MarkGl Γ) (hi : Γ.mke "Encoder" = some f_encInit) (ha : ∀ f ∈ (["registry", "name", "kind", "table", "back"] : List Str), Γ.at_ "Codec" f = true) (N : List Str) (hN : N.length = 2) (ds : List Dat) (G : AG) (Q : AQ) (X : AX) (h : c_encOf ds G Q X) : wSs Γ b_encoder_of (startD N ds) G (endsOf Q X) := by
  obtain ⟨c, r, raw, e, rfl, h1, h2⟩ := h
  have st : startD N [.ref c, e] = [some (.ref c), some e] := by unfold startD; rw [hN]; rfl
  rw [st]
  obtain ⟨tb, t1, t2⟩ := hm
  unfold b_encoder_of
  simp only [wSs, wS, wE, wEs, wT, t1, hi, List.getElem?_cons_zero, List.getElem?_cons_succ]
  refine attA h1 (ha _ (by simp)) rfl (eqS ?_)
  have d1 : decide (kindOf raw = "utf-8-sig") = false := by cases raw <;> decide +kernel
  simp only [boolW, d1, Bool.false_eq_true, if_false]
  refine attA h1 (ha _ (by simp)) rfl ⟨_, rfl, ?_⟩
  rw [t2]
  simp only [negB, Option.isSome_none, if_false, Bool.false_eq_true]
  refine ⟨by decide, fun p hp => ⟨p, c, e, rfl, gu_same, rfl, _, .refl _, ?_⟩⟩
  rw [gu_gu]
  exact h2 p hp
theorem ok_incEnc (Γ : Gam) (he : Γ.fn "encoder_of" = some f_encOf) (N : List Str) (hN : N.length = 2) (ds : List Dat) (G : AG) (Q : AQ) (X : AX) (h : c_encOf ds G Q X) : wSs Γ b_Codec_incremental_encoder (startD N ds) G (endsOf Q X) := by
  obtain ⟨c, r, raw, e, rfl, h1, h2⟩ := h
  have st : startD N [.ref c, e] = [some (.ref c), some e] := by unfold startD; rw [hN]; rfl
  rw [st]
  unfold b_Codec_incremental_encoder
  simp only [wSs, wS, wE, wEs, wT, he, List.getElem?_cons_zero, List.getElem?_cons_succ]
  exact ⟨by decide, c, r, raw, e, rfl, h1, fun n hn => ⟨_, .refl _, h2 n hn⟩⟩
def b_Encoder_encoded : List S := [
  .ret (.ix (.mcall "Codec" "encoded" (.att (.var 0) "codec") [(.var 1), (.att (.var 0) "errors")]) (.cst (.int 0)))]
def c_encEnc : Con := fun ds G Q X => ∃ n c r raw x cs e b, ds = [.ref n, x, b] ∧ EncAt G n c e ∧ CodAt G c r (kindOf raw) ∧ fixOf x = some (di cs) ∧ (∀ c ∈ cs, isCode c) ∧ cs.length ≤ 1000 ∧ Q (.tup (di (escAll raw cs))) G
def f_encEnc : FnE := { con := c_encEnc, ar := 3, dfl := [.bl false], len := fun ds G Q X ⟨_, _, _, _, _, _, _, _, h, _⟩ => by rw [h]; rfl }
theorem ok_encEnc (Γ : Gam) (hm : Γ.ms "Codec" "encoded" = some f_encoded) (ha : ∀ f ∈ (["codec", "errors"] : List Str), Γ.at_ "Encoder" f = true) (N : List Str) (hN : N.length = 3) (ds : List Dat) (G : AG) (Q : AQ) (X : AX) (h : c_encEnc ds G Q X) : wSs Γ b_Encoder_encoded (startD N ds) G (endsOf Q X) := by
  obtain ⟨n, c, r, raw, x, cs, e, b, rfl, h1, h2, h3, h4, h5, hq⟩ := h
  have st : startD N [.ref n, x, b] = [some (.ref n), some x, some b] := by unfold startD; rw [hN]; rfl
  rw [st]
  unfold b_Encoder_encoded
  simp only [wSs, wS, wE, wEs, wT, hm, List.getElem?_cons_zero, List.getElem?_cons_succ]
  exact ⟨by decide, attA h1 (ha _ (by simp)) rfl ⟨⟨_, h2, rfl⟩, attA h1 (ha _ (by simp)) rfl ⟨c, r, raw, x, cs, e, rfl, h2, h3, h4, h5, ixT rfl ⟨_, .refl _, hq⟩⟩⟩⟩
def b_Encoder_getstate : List S := [
  .ret (.cst (.int 0))]
def c_getstate : Con := fun ds G Q X => ∃ n, ds = [n] ∧ Q (.int 0) G
def f_getstate : FnE := { con := c_getstate, ar := 1, len := fun ds G Q X ⟨_, h, _⟩ => by rw [h]; rfl }
theorem ok_getstate (Γ : Gam) (N : List Str) (hN : N.length = 1) (ds : List Dat) (G : AG) (Q : AQ) (X : AX) (h : c_getstate ds G Q X) : wSs Γ b_Encoder_getstate (startD N ds) G (endsOf Q X) := by
  obtain ⟨n, rfl, hq⟩ := h
  exact ⟨_, .refl _, hq⟩
def b_Registry_encoded : List S := [
  .ret (.ix (.mcall "Codec" "encoded" (.mcall "Registry" "lookup" (.var 0) [(.var 2)]) [(.var 1), (.var 3)]) (.cst (.int 0)))]
/-- a codec found before -/
def c_regEnc : Con := fun ds G Q X => ∃ r q kv c r' raw n x cs e, ds = [.ref r, x, .str n, e] ∧ RegAt G r q kv ∧ nameOk n = true ∧ lookD kv (.inr (normalName n)) = some (.ref c) ∧ CodAt G c r' (kindOf raw) ∧ fixOf x = some (di cs) ∧ (∀ c ∈ cs, isCode c) ∧ cs.length ≤ 1000 ∧ Q (.tup (di (escAll raw cs))) G
def f_regEnc : FnE := { con := c_regEnc, ar := 4, dfl := [.str "utf-8", .str "strict"], len := fun ds G Q X ⟨_, _, _, _, _, _, _, _, _, _, h, _⟩ => by rw [h]; rfl }
theorem ok_regEnc (Γ : Gam) (hm : Γ.ms "Codec" "encoded" = some f_encoded) (hl : Γ.ms "Registry" "lookup" = some f_lookup) (N : List Str) (hN : N.length = 4) (ds : List Dat) (G : AG) (Q : AQ) (X : AX) (h : c_regEnc ds G Q X) : wSs Γ b_Registry_encoded (startD N ds) G (endsOf Q X) := by
  obtain ⟨r, q, kv, c, r', raw, n, x, cs, e, rfl, h0, h1, hk, h2, h3, h4, h5, hq⟩ := h
  have st : startD N [.ref r, x, .str n, e] = [some (.ref r), some x, some (.str n), some e] := by unfold startD; rw [hN]; rfl
  rw [st]
  obtain ⟨w1, w2, w3, w4⟩ := id h0
  unfold b_Registry_encoded
  simp only [wSs, wS, wE, wEs, wT, hm, hl, List.getElem?_cons_zero, List.getElem?_cons_succ]
  refine ⟨by decide, by decide, ⟨_, w4, rfl⟩, q, kv, h0, h1, ?_⟩
  rw [hk]
  exact ⟨⟨_, h2, rfl⟩, c, r', raw, x, cs, e, rfl, h2, h3, h4, h5, ixT rfl ⟨_, .refl _, hq⟩⟩
end Av


set_option Elab.async false
set_option linter.all false
set_option maxRecDepth 100000
set_option maxHeartbeats 4000000
/-! # K46b: the law's own defs -/
namespace Av
open PySem PySem.Spec PyProof.Rows L2
variable [Tb]
theorem lcW_map {elt : Env' → AG → AQ → Prop} {g : TGt} {own : List Nat} {gd : Gd} {ρ : Env'} {Q : AQ} {G : AG} {f : Dat → Dat} {ds : List Dat} (hg : gdOk G gd) (hl : ds.length ≤ sizeLine)
    (h : ∀ d ∈ ds, ∀ Q' : AQ, Q' (f d) G → tgW g d (wipeD ρ own) fun ρ1 => elt ρ1 G Q') (q : Q (.lst (ds.map f)) G) : lcW true elt g own gd ρ Q ds [] G := by
  refine lcW_of (fun rem acc G' => G' = G ∧ ∃ pre, ds = pre ++ rem ∧ acc = pre.map f) ?_ ?_ _ _ _ ⟨rfl, [], rfl, rfl⟩
  · rintro d rem acc G' N hN ⟨rfl, pre, hd, rfl⟩
    refine ⟨hg, h d (by rw [hd]; simp) _ ⟨?_, hN _ _ ⟨rfl, pre ++ [d], by rw [hd]; simp, by simp⟩⟩⟩
    rw [hd] at hl
    simp at hl ⊢
    omega
  · rintro acc G' ⟨rfl, pre, hd, rfl⟩
    rw [List.append_nil] at hd
    rw [← hd]
    exact ⟨hg, by rw [if_pos rfl]; exact q⟩
def codesOf (w : Str) : List Int := w.cps.toList.map fun (c : Nat) => (c : Int)
def ordD : Dat → Dat
  | .str x => .int (x.cps.getD 0 0 : Nat)
  | d => d
theorem ord_signs (w : Str) : (signsD w).map ordD = di (codesOf w) := by
  unfold signsD codesOf di
  rw [List.map_map, List.map_map]
  rfl
def c_ltx : Con := fun ds G Q X => ∃ w, ds = [.str w] ∧ w.length ≤ 1000 ∧ Q (.tup (di (codesOf w))) G
def f_ltx : FnE := { con := c_ltx, ar := 1, len := fun ds G Q X ⟨_, h, _⟩ => by rw [h]; rfl }
def b__law_text : List S := [
  .ret (.blt true .tuple [(.lc true (.blt true .ord [(.var 1)]) (.nm 1) (.str (.var 0)) [1])])]
theorem ok_ltx (Γ : Gam) (N : List Str) (hN : N.length = 2) (ds : List Dat) (G : AG) (Q : AQ) (X : AX) (h : c_ltx ds G Q X) : wSs Γ b__law_text (startD N ds) G (endsOf Q X) := by
  obtain ⟨w, rfl, h1, hq⟩ := h
  have st : startD N [Dat.str w] = [some (.str w), none] := by unfold startD; rw [hN]; rfl
  rw [st]
  have big : 100000 ≤ sizeLine := by decide
  unfold b__law_text
  simp only [wSs, wS, wE, wEs, wT, wI, List.getElem?_cons_zero, List.getElem?_cons_succ]
  refine ⟨w, rfl, lcW_map (f := ordD) trivial ?_ (fun d hd Q' q => ?_) ?_⟩
  · have : (signsD w).length = w.length := by unfold signsD; rw [List.length_map]; exact Array.length_toList
    omega
  · obtain ⟨c, _, rfl⟩ := List.mem_map.mp hd
    exact ⟨rfl, q⟩
  · rw [ord_signs]
    exact ⟨_, rfl, _, .refl _, hq⟩
theorem rngD_len (a : Int) (n : Nat) : (rngD a n).length = n := by simp [rngD]
def c_ldigits : Con := fun ds G Q X => ∃ (n : Int) (k : Nat), ds = [.int n, .int k] ∧ k ≤ 8 ∧ 0 ≤ n ∧ Q (.tup (di (hexN n k))) G
def f_ldigits : FnE := { con := c_ldigits, ar := 2, len := fun ds G Q X ⟨_, _, h, _⟩ => by rw [h]; rfl }
def b__law_digits : List S := [
  .set 2 (.lst false []),
  .for_ (.nm 3) (.rng1 (.var 1)) [.expr (.meth .append (.var 2) [(.ix (.call "_law_text" [(.cst (.str "0123456789abcdef"))]) (.bin true .mod (.blt true .int [(.var 0)]) (.cst (.int 16))))]), .set 0 (.bin true .fdiv (.var 0) (.cst (.int 16)))],
  .ret (.blt true .tuple [(.rev (.var 2))])]
theorem codes_hex : codesOf "0123456789abcdef" = signsL := by decide +kernel
theorem ok_ldigits (Γ : Gam) (ht : Γ.fn "_law_text" = some f_ltx) (N : List Str) (hN : N.length = 4) (ds : List Dat) (G : AG) (Q : AQ) (X : AX) (h : c_ldigits ds G Q X) : wSs Γ b__law_digits (startD N ds) G (endsOf Q X) := by
  obtain ⟨n, k, rfl, k8, n0, hq⟩ := h
  have st : startD N [Dat.int n, Dat.int k] = [some (.int n), some (.int k), none, none] := by unfold startD; rw [hN]; rfl
  rw [st]
  have big : 1000 ≤ sizeLine := by decide
  unfold b__law_digits
  simp only [wSs, wS, wE, wEs, wT, wI, ht, List.getElem?_cons_zero, List.getElem?_cons_succ]
  refine ⟨by decide, fun p hp => ?_⟩
  simp only [intK, List.set, List.getElem?_cons_zero, List.getElem?_cons_succ]
  refine ⟨by omega, by omega, ?_⟩
  refine forW_of (fun rem ρ G' => ∃ (num : Int) (acc : List Int) (o : Option Dat), ρ = [some (.int num), some (.int k), some (.ref p), o] ∧ G' = gu G p (.lst (di acc)) ∧ 0 ≤ num ∧ acc.length + rem.length = k ∧ acc ++ digs num rem.length = digs n k) ?_ ?_ _ _ _ ⟨n, [], none, rfl, rfl, n0, by rw [rngD_len]; simp, by rw [rngD_len]; simp⟩
  · rintro d rem ρ G' Nx hN' ⟨num, acc, o, rfl, rfl, m0, l1, e1⟩
    rw [List.length_cons] at l1 e1
    refine ⟨trivial, ?_⟩
    simp only [tgW, List.set, List.getElem?_cons_zero, List.getElem?_cons_succ]
    refine ⟨⟨_, lst_ref gu_same⟩, by decide, _, rfl, by decide +kernel, by decide, ?_⟩
    rw [codes_hex]
    refine ixT (sgn_at (by omega) (by omega)) ⟨_, gu_same, by rw [List.length_map]; omega, ⟨by decide, by decide⟩, hN' _ _ ⟨num / 16, acc ++ [sgn (num % 16)], _, rfl, ?_, by omega, by simp; omega, ?_⟩⟩
    · rw [gu_gu]; simp [di]
    · rw [← e1]; simp [digs]
  · rintro ρ G' ⟨num, acc, o, rfl, rfl, m0, l1, e1⟩
    refine ⟨trivial, ?_⟩
    simp only [List.getElem?_cons_zero, List.getElem?_cons_succ]
    refine ⟨_, lst_ref gu_same, by rw [List.length_map]; simp at l1; omega, _, rfl, ⟨G, Sub.new hp, ?_⟩⟩
    have e2 : hexN n k = acc.reverse := by unfold hexN; rw [← e1]; simp [digs]
    rw [e2] at hq
    have e3 : di acc.reverse = (di acc).reverse := List.map_reverse ..
    rw [e3] at hq
    exact hq

theorem eqI {i j : Int} {n : Bool} {G : AG} {Q : AQ} (q : Q (.bl (if n then !decide (i = j) else decide (i = j))) G) : eqW n (.int i) (.int j) G Q := .inl ⟨rfl, by
  have e : decide (toV (.int i) = toV (.int j)) = decide (i = j) := by
    by_cases c : i = j
    · rw [c]; simp
    · rw [decide_eq_false c, decide_eq_false_iff_not]
      exact fun h => c (by cases h; rfl)
  rw [e]
  exact q⟩
theorem neI {i j : Int} {G : AG} {Q : AQ} (q : Q (.bl (!decide (i = j))) G) : cmpW .ne (.int i) (.int j) G Q := eqI (n := true) q
def c_lesc : Con := fun ds G Q X => ∃ c raw, ds = [.int c, .bl raw] ∧ isCode c ∧ Q (.tup (di (esc raw c))) G
def f_lesc : FnE := { con := c_lesc, ar := 2, len := fun ds G Q X ⟨_, _, h, _⟩ => by rw [h]; rfl }
def b__law_escaped : List S := [
  .set 2 (.dlit [(.cst (.int 9)), (.cst (.int 116)), (.cst (.int 10)), (.cst (.int 110)), (.cst (.int 13)), (.cst (.int 114)), (.cst (.int 92)), (.cst (.int 92))]),
  .if_ (.or_ (.and_ (.val (.var 1)) (.one (.cmp .lt (.var 0) (.cst (.int 256))))) (.one (.and_ (.not_ (.val (.var 1))) (.and_ (.cmp2 .le .lt (.cst (.int 32)) (.var 0) (.cst (.int 127))) (.one (.cmp .ne (.var 0) (.cst (.int 92)))))))) [.ret (.tup [(.var 0)])] [],
  .if_ (.and_ (.din false (.var 0) (.var 2)) (.one (.not_ (.val (.var 1))))) [.ret (.tup [(.cst (.int 92)), (.dix (.var 2) (.var 0))])] [],
  .if_ (.cmp .lt (.var 0) (.cst (.int 256))) [.ret (.bin true .add (.tup [(.cst (.int 92)), (.cst (.int 120))]) (.call "_law_digits" [(.var 0), (.cst (.int 2))]))] [],
  .ret (.ite (.cmp .lt (.var 0) (.cst (.int 65536))) (.bin true .add (.tup [(.cst (.int 92)), (.cst (.int 117))]) (.call "_law_digits" [(.var 0), (.cst (.int 4))])) (.bin true .add (.tup [(.cst (.int 92)), (.cst (.int 85))]) (.call "_law_digits" [(.var 0), (.cst (.int 8))])))]
def tailE : List S := [
  .if_ (.cmp .lt (.var 0) (.cst (.int 256))) [.ret (.bin true .add (.tup [(.cst (.int 92)), (.cst (.int 120))]) (.call "_law_digits" [(.var 0), (.cst (.int 2))]))] [],
  .ret (.ite (.cmp .lt (.var 0) (.cst (.int 65536))) (.bin true .add (.tup [(.cst (.int 92)), (.cst (.int 117))]) (.call "_law_digits" [(.var 0), (.cst (.int 4))])) (.bin true .add (.tup [(.cst (.int 92)), (.cst (.int 85))]) (.call "_law_digits" [(.var 0), (.cst (.int 8))])))]
theorem tail_esc (Γ : Gam) (hd : Γ.fn "_law_digits" = some f_ldigits) {c : Int} {o1 o2 : Option Dat} {G : AG} {Q : AQ} {X : AX} (hc : isCode c) (hq : ∃ G0, Sub G0 G ∧ Q (.tup (di (if c < 256 then [92, 120] ++ hexN c 2 else far c))) G0) :
    wSs Γ tailE [some (.int c), o1, o2] G (endsOf Q X) := by
  obtain ⟨G0, sb, hq⟩ := hq
  have big : 1000 ≤ sizeLine := by decide
  obtain ⟨c0, c1⟩ := hc
  unfold tailE
  simp only [wSs, wS, wE, wEs, wT, hd, List.getElem?_cons_zero, List.getElem?_cons_succ]
  refine ltI ?_
  by_cases c2 : c < 256
  · rw [if_pos c2] at hq
    simp only [boolW, c2, decide_true, if_true]
    exact ⟨by simp; omega, by decide, c, 2, rfl, by decide, c0, addT (by simp [hexN, digs_len]; omega) ⟨_, sb, hq⟩⟩
  rw [if_neg c2] at hq
  simp only [boolW, c2, decide_false, Bool.false_eq_true, if_false]
  refine ltI ?_
  by_cases c3 : c < 65536
  · simp only [boolW, c3, decide_true, if_true]
    refine ⟨by simp; omega, by decide, c, 4, rfl, by decide, c0, addT (by simp [hexN, digs_len]; omega) ⟨_, sb, ?_⟩⟩
    have e : far c = [92, 117] ++ hexN c 4 := by unfold far; rw [if_pos c3]
    rw [e] at hq
    exact hq
  · simp only [boolW, c3, decide_false, if_false, Bool.false_eq_true]
    refine ⟨by simp; omega, by decide, c, 8, rfl, by decide, c0, addT (by simp [hexN, digs_len]; omega) ⟨_, sb, ?_⟩⟩
    have e : far c = [92, 85] ++ hexN c 8 := by unfold far; rw [if_neg c3]
    rw [e] at hq
    exact hq
theorem ok_lesc (Γ : Gam) (hd : Γ.fn "_law_digits" = some f_ldigits) (N : List Str) (hN : N.length = 3) (ds : List Dat) (G : AG) (Q : AQ) (X : AX) (h : c_lesc ds G Q X) : wSs Γ b__law_escaped (startD N ds) G (endsOf Q X) := by
  obtain ⟨c, raw, rfl, hc, hq⟩ := h
  have st : startD N [Dat.int c, .bl raw] = [some (.int c), some (.bl raw), none] := by unfold startD; rw [hN]; rfl
  rw [st]
  have big : 1000 ≤ sizeLine := by decide
  have T := @tail_esc _ Γ hd c
  obtain ⟨c0, c1⟩ := id hc
  unfold b__law_escaped
  have fold : ∀ (ρ : Env') (G : AG) (A : AEnds), wSs Γ tailE ρ G A → wSs Γ [
    .if_ (.cmp .lt (.var 0) (.cst (.int 256))) [.ret (.bin true .add (.tup [(.cst (.int 92)), (.cst (.int 120))]) (.call "_law_digits" [(.var 0), (.cst (.int 2))]))] [],
    .ret (.ite (.cmp .lt (.var 0) (.cst (.int 65536))) (.bin true .add (.tup [(.cst (.int 92)), (.cst (.int 117))]) (.call "_law_digits" [(.var 0), (.cst (.int 4))])) (.bin true .add (.tup [(.cst (.int 92)), (.cst (.int 85))]) (.call "_law_digits" [(.var 0), (.cst (.int 8))])))] ρ G A := fun _ _ _ h => h
  rw [wSs]; simp only [wS, wE, wEs, List.getElem?_cons_zero, List.getElem?_cons_succ]
  refine ⟨shortL, rfl, by decide, fun p hp => ?_⟩
  have em : mergeD [] shortL = shortL := by rfl
  rw [em]
  have gp : gu G p (.dk shortL) p = some (.dk shortL) := gu_same
  have sb : Sub G (gu G p (.dk shortL)) := Sub.new hp
  generalize gu G p (.dk shortL) = G1 at gp sb
  simp only [List.set]
  rw [wSs]; simp only [wS, wT, wE, wEs, List.getElem?_cons_zero, List.getElem?_cons_succ]
  cases raw with
  | true =>
    simp only [truW, if_true]
    refine ltI ?_
    by_cases c2 : c < 256
    · simp only [boolW, c2, decide_true, if_true, wSs, wS, wE, wEs, List.getElem?_cons_zero, List.getElem?_cons_succ]
      have e : esc true c = [c] := by simp [esc, c2]
      rw [e] at hq
      exact ⟨by simp; omega, G, sb, hq⟩
    simp only [boolW, c2, decide_false, if_false, Bool.false_eq_true, Bool.not_true, wSs]
    have e : esc true c = if c < 256 then [92, 120] ++ hexN c 2 else far c := by simp [esc, c2]
    rw [e] at hq
    rw [wS]; simp only [wT, wE, List.getElem?_cons_zero, List.getElem?_cons_succ]
    refine ⟨_, _, dk_ref gp, rfl, ?_⟩
    rw [short_none (by omega) (by omega) (by omega) (by omega)]
    simp only [negB, Option.isSome_none, Bool.false_eq_true, if_false]
    exact T hc ⟨G, sb, hq⟩
  | false =>
    have e : esc false c = near c := rfl
    rw [e] at hq
    simp only [truW, Bool.false_eq_true, if_false, Bool.not_false, if_true]
    refine leI ?_
    have rest : (c = 9 ∨ c = 10 ∨ c = 13 ∨ c = 92 ∨ ¬ (32 ≤ c ∧ c < 127)) → wS Γ (S.if_ ((Av.T.din false (E.var 0) (E.var 2)).and_ (Av.T.val (E.var 1)).not_.one)
      [S.ret (E.tup [E.cst (Dat.int 92), (E.var 2).dix (E.var 0)])] []) [some (Dat.int c), some (Dat.bl false), some (Dat.ref p)] G1 { endsOf Q X with nx := fun ρ' G' => wSs Γ tailE ρ' G' (endsOf Q X) } := fun hx => by
      simp only [wS, wT, wE, wEs, wSs, List.getElem?_cons_zero, List.getElem?_cons_succ]
      refine ⟨_, _, dk_ref gp, rfl, ?_⟩
      by_cases d1 : c = 9
      · subst d1
        exact ⟨_, _, _, gp, rfl, rfl, by simp; omega, G, sb, hq⟩
      by_cases d2 : c = 10
      · subst d2
        exact ⟨_, _, _, gp, rfl, rfl, by simp; omega, G, sb, hq⟩
      by_cases d3 : c = 13
      · subst d3
        exact ⟨_, _, _, gp, rfl, rfl, by simp; omega, G, sb, hq⟩
      by_cases d4 : c = 92
      · subst d4
        exact ⟨_, _, _, gp, rfl, rfl, by simp; omega, G, sb, hq⟩
      rw [short_none d1 d2 d3 d4]
      simp only [negB, Option.isSome_none, Bool.false_eq_true, if_false]
      refine T hc ⟨G, sb, ?_⟩
      unfold near at hq
      rw [if_neg d1, if_neg d2, if_neg d3, if_neg d4, if_neg (by omega)] at hq
      exact hq
    by_cases c5 : 32 ≤ c
    · simp only [boolW, c5, decide_true, if_true]
      refine ltI ?_
      by_cases c6 : c < 127
      · simp only [boolW, c6, decide_true, if_true]
        refine neI ?_
        by_cases c7 : c = 92
        · simp only [boolW, c7, decide_true, Bool.not_true, Bool.false_eq_true, if_false]
          subst c7
          exact rest (by omega)
        · simp only [boolW, c7, decide_false, Bool.not_false, if_true, wSs, wS, wE, wEs, List.getElem?_cons_zero, List.getElem?_cons_succ]
          refine ⟨by simp; omega, G, sb, ?_⟩
          unfold near at hq
          rw [if_neg (by omega), if_neg (by omega), if_neg (by omega), if_neg (by omega), if_pos (by omega)] at hq
          exact hq
      · simp only [boolW, c6, decide_false, Bool.false_eq_true, if_false]
        exact rest (by omega)
    · simp only [boolW, c5, decide_false, Bool.false_eq_true, if_false]
      exact rest (by omega)

def c_due : Con := fun ds G Q X => ∃ cs raw, ds = [.tup (di cs), .bl raw] ∧ (∀ c ∈ cs, isCode c) ∧ cs.length ≤ 1000 ∧ Q (.tup (di (escAll raw cs))) G
def f_due : FnE := { con := c_due, ar := 2, len := fun ds G Q X ⟨_, _, h, _⟩ => by rw [h]; rfl }
def b__law_due : List S := [
  .set 2 (.lst false []),
  .for_ (.nm 3) (.seq (.var 0)) [.expr (.meth .extend (.var 2) [(.call "_law_escaped" [(.var 3), (.var 1)])])],
  .ret (.blt true .tuple [(.var 2)])]
theorem ok_due (Γ : Gam) (hd : Γ.fn "_law_escaped" = some f_lesc) (N : List Str) (hN : N.length = 4) (ds : List Dat) (G : AG) (Q : AQ) (X : AX) (h : c_due ds G Q X) : wSs Γ b__law_due (startD N ds) G (endsOf Q X) := by
  obtain ⟨cs, raw, rfl, h1, h2, hq⟩ := h
  have st : startD N [Dat.tup (di cs), .bl raw] = [some (.tup (di cs)), some (.bl raw), none, none] := by unfold startD; rw [hN]; rfl
  rw [st]
  have big : 100000 ≤ sizeLine := by decide
  unfold b__law_due
  simp only [wSs, wS, wE, wEs, wT, wI, hd, List.getElem?_cons_zero, List.getElem?_cons_succ]
  refine ⟨by decide, fun p hp => ?_⟩
  simp only [List.set, List.getElem?_cons_zero, List.getElem?_cons_succ]
  refine write_loop (raw := raw) hp rfl h1 h2 ?_ ?_
  · intro c acc A hc hl hA
    refine ⟨⟨_, lst_ref gu_same⟩, by decide, c, raw, rfl, hc, _, _, gu_same, rfl, ?_, ?_⟩
    · have := esc_len raw c
      simp only [List.length_map]
      omega
    · rw [gu_gu, di_app]
      exact hA
  · intro o
    exact ⟨_, lst_ref gu_same, G, Sub.new hp, hq⟩
def c_handed : Con := fun ds G Q X => ∃ p n o x xs, ds = [.ref p, x] ∧ RowI x xs ∧ xs.length ≤ 1000 ∧ G p = some o ∧ DrO (n + 1) o ∧ ∀ y o', RowI y xs → DrO n o' → Q y (gu G p o')
def f_handed : FnE := { con := c_handed, ar := 2, len := fun ds G Q X ⟨_, _, _, _, _, h, _⟩ => by rw [h]; rfl }
def b_handed : List S := [.ret (.ix (.lst true [(.blt true .tuple [(.var 1)]), (.blt true .list [(.var 1)])]) (.call "_law_draw" [(.var 0), (.cst (.int 2))]))]
theorem nwT {ds : List Dat} {G : AG} {Q : AQ} (h : ds.length ≤ sizeLine) (q : Q (.lst ds) G) : nw true ds G Q := ⟨h, q⟩
theorem ok_handed (Γ : Gam) (hd : Γ.fn "_law_draw" = some f_draw) (N : List Str) (hN : N.length = 2) (ds : List Dat) (G : AG) (Q : AQ) (X : AX) (h : c_handed ds G Q X) : wSs Γ b_handed (startD N ds) G (endsOf Q X) := by
  obtain ⟨p, n, o, x, xs, rfl, hx, hz, hp, ho, hq⟩ := h
  have st : startD N [.ref p, x] = [some (.ref p), some x] := by unfold startD; rw [hN]; rfl
  rw [st]
  have big : 1000 ≤ sizeLine := by decide
  unfold b_handed
  simp only [wSs, wS, wE, wEs, hd, List.getElem?_cons_zero, List.getElem?_cons_succ]
  refine ⟨_, fix_seq hx.fix, _, fix_seq hx.fix, nwT (by rw [List.length_map]; omega) (nwT (by simp; omega) ⟨⟨by decide, by decide⟩, p, 2, n, o, rfl, hp, ho, by decide, by decide, fun r o' h0 h1 h2 => ?_⟩)⟩
  have : r = 0 ∨ r = 1 := by omega
  rcases this with rfl | rfl
  · exact ixL rfl ⟨_, .refl _, hq _ o' (.inl rfl) h2⟩
  · exact ixL rfl ⟨_, .refl _, hq _ o' (.inr rfl) h2⟩
def someA : List Int := [97, 92, 92, 117, 85, 120, 78, 123, 125, 48, 55, 56, 9, 10, 13, 8, 11, 12, 14, 0, 7, 27, 31, 32, 34, 39, 126]
def someB : List Int := [127, 128, 133, 255, 256, 4095, 4096, 55295, 55296, 56320, 57343, 65535, 65536, 1114111, 1048576, 10]
theorem some_ok : ∀ c ∈ someA ++ someB, isCode c := by unfold isCode; decide
def c_codesE : Con := fun ds G Q X => ∃ p m n o, ds = [.ref p, .int (m : Nat)] ∧ m ≤ 40 ∧ G p = some o ∧ DrO (n + 41) o ∧ ∀ cs o', (∀ c ∈ cs, isCode c) → cs.length ≤ 40 → DrO n o' → Q (.tup (di cs)) (gu G p o')
def f_codesE : FnE := { con := c_codesE, ar := 2, len := fun ds G Q X ⟨_, _, _, _, h, _⟩ => by rw [h]; rfl }
def b__law_codes_e : List S := [
  .set 2 (.lst true [(.cst (.int 97)), (.cst (.int 92)), (.cst (.int 92)), (.cst (.int 117)), (.cst (.int 85)), (.cst (.int 120)), (.cst (.int 78)), (.cst (.int 123)), (.cst (.int 125)), (.cst (.int 48)), (.cst (.int 55)), (.cst (.int 56)), (.cst (.int 9)), (.cst (.int 10)), (.cst (.int 13)), (.cst (.int 8)), (.cst (.int 11)), (.cst (.int 12)), (.cst (.int 14)), (.cst (.int 0)), (.cst (.int 7)), (.cst (.int 27)), (.cst (.int 31)), (.cst (.int 32)), (.cst (.int 34)), (.cst (.int 39)), (.cst (.int 126))]),
  .set 2 (.bin true .add (.var 2) (.lst true [(.cst (.int 127)), (.cst (.int 128)), (.cst (.int 133)), (.cst (.int 255)), (.cst (.int 256)), (.cst (.int 4095)), (.cst (.int 4096)), (.cst (.int 55295)), (.cst (.int 55296)), (.cst (.int 56320)), (.cst (.int 57343)), (.cst (.int 65535)), (.cst (.int 65536)), (.cst (.int 1114111)), (.cst (.int 1048576)), (.cst (.int 10))])),
  .ret (.blt true .tuple [(.lc true (.call "_law_pick" [(.var 0), (.var 2)]) (.nm 3) (.rng1 (.call "_law_draw" [(.var 0), (.bin true .add (.var 1) (.cst (.int 1)))])) [3])])]
theorem ok_codesE (Γ : Gam) (hd : Γ.fn "_law_draw" = some f_draw) (hk : Γ.fn "_law_pick" = some f_pick) (N : List Str) (hN : N.length = 4) (ds : List Dat) (G : AG) (Q : AQ) (X : AX) (h : c_codesE ds G Q X) : wSs Γ b__law_codes_e (startD N ds) G (endsOf Q X) := by
  obtain ⟨p, m, n, o, rfl, hm, hp, ho, hq⟩ := h
  have st : startD N [.ref p, .int (m : Nat)] = [some (.ref p), some (.int (m : Nat)), none, none] := by unfold startD; rw [hN]; rfl
  rw [st]
  have big : 1000 ≤ sizeLine := by decide
  unfold b__law_codes_e
  simp only [wSs, wS, wE, wEs, wI, hd, hk, List.getElem?_cons_zero, List.getElem?_cons_succ]
  refine nwT (by decide) ?_
  simp only [List.set, List.getElem?_cons_zero, List.getElem?_cons_succ]
  refine nwT (by decide) ⟨di someA, di someB, rfl, rfl, nwT (by decide) ?_⟩
  rw [di_app]
  refine ⟨by decide, p, _, n + 40, o, rfl, hp, ho, by omega, by omega, fun r o1 h0 h1 h2 => ?_⟩
  refine ⟨by omega, by omega, ?_⟩
  refine lcW_of (fun rem acc G' => ∃ o' es, acc = di es ∧ (∀ c ∈ es, isCode c) ∧ G' = gu G p o' ∧ DrO (n + rem.length) o' ∧ es.length + rem.length = r.toNat) ?_ ?_ _ _ _ ⟨o1, [], rfl, by simp, rfl, h2.mono (by rw [rngD_len]; omega), by rw [rngD_len]; simp⟩
  · rintro d rem acc G' Nx hN' ⟨o', es, rfl, k1, rfl, k2, k3⟩
    rw [List.length_cons] at k2 k3
    refine ⟨trivial, ?_⟩
    simp only [tgW, wipeD, List.foldl, List.set, List.getElem?_cons_zero, List.getElem?_cons_succ]
    refine ⟨by decide, p, n + rem.length, o', _, di (someA ++ someB), rfl, gu_same, k2, rfl, by decide, by decide, fun d o2 hd' h3 => ?_⟩
    obtain ⟨c, hc, rfl⟩ := List.mem_map.mp hd'
    refine ⟨by rw [List.length_map]; omega, hN' _ _ ⟨o2, es ++ [c], ?_, ?_, gu_gu, h3, by simp; omega⟩⟩
    · simp [di]
    · intro x hx
      rcases List.mem_append.1 hx with h | h
      · exact k1 x h
      · rw [List.mem_singleton.1 h]; exact some_ok c hc
  · rintro acc G' ⟨o', es, rfl, k1, rfl, k2, k3⟩
    refine ⟨trivial, _, rfl, _, .refl _, hq es o' k1 ?_ (k2.mono (by simp))⟩
    simp at k3
    omega
end Av


set_option Elab.async false
set_option linter.all false
set_option maxRecDepth 100000
set_option maxHeartbeats 4000000
/-! # K46c: one turn, the law -/
namespace Av
open PySem PySem.Spec PyProof.Rows L2
variable [Tb]
theorem dr_ne {G : AG} {p a : Addr} {o u : AO} {n : Nat} (h : G p = some o) (d : DrO n o) (h2 : G a = some u) (hu : ∀ ds, u ≠ .lst ds) : a ≠ p := fun c => by
  subst c
  obtain ⟨x, y, z, e, _⟩ := d
  rw [h] at h2
  cases h2
  exact hu _ e
theorem RegAt.dr {G : AG} {p r q : Addr} {o o' : AO} {n : Nat} {kv : List (Key × Dat)} (R : RegAt G r q kv) (h : G p = some o) (d : DrO n o) : RegAt (gu G p o') r q kv := by
  obtain ⟨h1, h2, hh, h3⟩ := R
  exact ⟨h1, by rw [gu_ne (dr_ne h d h2 (by simp))]; exact h2, hh, by rw [gu_ne (dr_ne h d h3 (by simp))]; exact h3⟩
theorem CodAt.dr {G : AG} {p c r : Addr} {o o' : AO} {n : Nat} {k : Str} (R : CodAt G c r k) (h : G p = some o) (d : DrO n o) : CodAt (gu G p o') c r k := by
  unfold CodAt at *
  rw [gu_ne (dr_ne h d R (by simp))]; exact R
theorem EncAt.dr {G : AG} {p c r : Addr} {o o' : AO} {n : Nat} {k : Dat} (R : EncAt G c r k) (h : G p = some o) (d : DrO n o) : EncAt (gu G p o') c r k := by
  unfold EncAt at *
  rw [gu_ne (dr_ne h d R (by simp))]; exact R
theorem same_ints {G : AG} {n : Nat} : ∀ (xs : List Int) (i : Nat) (a b : Dat), (di xs)[i]? = some a → (di xs)[i]? = some b → SameN G n a b := fun xs i a b h1 h2 => by
  rw [h1] at h2
  cases h2
  unfold di at h1
  rw [List.getElem?_map] at h1
  cases e : xs[i]? with
  | none => rw [e] at h1; cases h1
  | some y =>
    rw [e] at h1
    cases h1
    cases n with
    | zero => exact ⟨rfl, rfl⟩
    | succ n => exact .inl ⟨rfl, rfl⟩
theorem same_row {G : AG} {n : Nat} {xs : List Int} (h : xs.length ≤ sizeLine) : SameN G (n + 1) (.tup (di xs)) (.tup (di xs)) :=
  .inr (.inl ⟨_, _, rfl, rfl, rfl, by rw [List.length_map]; exact h, same_ints xs⟩)
theorem same_pair {G : AG} {n : Nat} {xs : List Int} {k : Int} (h : xs.length ≤ sizeLine) : SameN G (n + 2) (.tup [.tup (di xs), .int k]) (.tup [.tup (di xs), .int k]) :=
  .inr (.inl ⟨_, _, rfl, rfl, rfl, by show 2 ≤ sizeLine; decide, fun i a b h1 h2 => by
    rw [h1] at h2
    cases h2
    match i, h1 with
    | 0, h1 => cases h1; exact same_row h
    | 1, h1 => cases h1; exact .inl ⟨rfl, rfl⟩
    | i + 2, h1 => cases h1⟩)
def nmOf (raw : Bool) (s w : Str) : Str := (if raw = true then ("raw" : Str) else Str.empty) ++ (s ++ w)
def seps : List Str := ["_", "-", " "]
def wrds : List Str := ["unicode_escape", "Unicode-Escape"]
theorem nm_ok : ∀ raw : Bool, ∀ s ∈ seps, ∀ w ∈ wrds, nameOk (nmOf raw s w) = true ∧ knownName (normalName (nmOf raw s w)) = some (kindOf raw) ∧ s.length + w.length ≤ 100 := by decide +kernel
theorem tab_kind (raw : Bool) : isTab (kindOf raw) = false := by cases raw <;> decide +kernel

structure RG (Γ : Gam) : Prop where
  draw : Γ.fn "_law_draw" = some f_draw
  pick : Γ.fn "_law_pick" = some f_pick
  same : Γ.fn "_law_same" = some (f_same 2)
  esc : Γ.fn "_law_escaped" = some f_lesc
  due : Γ.fn "_law_due" = some f_due
  handed : Γ.fn "_law_handed" = some f_handed
  codes : Γ.fn "_law_codes_e" = some f_codesE
  reg : Γ.mke "Registry" = some f_regInit
  lookup : Γ.ms "Registry" "lookup" = some f_lookup
  renc : Γ.ms "Registry" "encoded" = some f_regEnc
  cenc : Γ.ms "Codec" "encoded" = some f_encoded
  inc : Γ.ms "Codec" "incremental_encoder" = some f_incEnc
  eenc : Γ.ms "Encoder" "encoded" = some f_encEnc
  gst : Γ.ms "Encoder" "getstate" = some f_getstate
  att : ∀ f ∈ (["registry", "name", "kind", "table", "back"] : List Str), Γ.at_ "Codec" f = true
def c_right : Con := fun ds G Q X => ∃ p n o raw, ds = [.ref p, .bl raw] ∧ G p = some o ∧ DrO (n + 300) o ∧ ∀ G' o', Sub (gx G p) G' → G' p = some o' → DrO n o' → Q (.bl true) G'
def f_right : FnE := { con := c_right, ar := 2, len := fun ds G Q X ⟨_, _, _, _, h, _⟩ => by rw [h]; rfl }
def forB : List S := [.par2 11 12 (.call "_law_handed" [(.var 0), (.var 5)]) (.call "_law_pick" [(.var 0), (.lst true [(.cst (.str "strict")), (.cst (.str "replace")), (.cst (.str "nothing"))])]), .if_ (.or_ (.not_ (.val (.call "_law_same" [(.mcall "Codec" "encoded" (.var 6) [(.var 11), (.var 12)]), (.tup [(.var 7), (.blt true .len [(.var 5)])])]))) (.one (.cmp .ne (.blt true .tuple [(.var 11)]) (.var 5)))) [.ret (.cst (.bl false))] [], .if_ (.not_ (.val (.call "_law_same" [(.mcall "Registry" "encoded" (.var 4) [(.var 11), (.var 2), (.var 12)]), (.var 7)]))) [.ret (.cst (.bl false))] []]
def whB : List S := [.set 10 (.sl true (.var 5) (.var 9) (.bin true .add (.bin true .add (.var 9) (.cst (.int 1))) (.call "_law_draw" [(.var 0), (.cst (.int 9))]))), .if_ (.not_ (.val (.call "_law_same" [(.mcall "Encoder" "encoded" (.var 8) [(.var 10), (.cmp .eq (.call "_law_draw" [(.var 0), (.cst (.int 2))]) (.cst (.int 0)))]), (.call "_law_due" [(.var 10), (.var 1)])]))) [.ret (.cst (.bl false))] [], .aug 9 .add (.blt true .len [(.var 10)])]
def b__law_right : List S := [
  .par2 4 5 (.new "Registry" []) (.call "_law_codes_e" [(.var 0), (.cst (.int 40))]),
  .set 2 (.bin true .add (.call "_law_pick" [(.var 0), (.lst true [(.cst (.str "_")), (.cst (.str "-")), (.cst (.str " "))])]) (.call "_law_pick" [(.var 0), (.lst true [(.cst (.str "unicode_escape")), (.cst (.str "Unicode-Escape"))])])),
  .set 2 (.bin true .add (.bin true .mul (.cst (.str "raw")) (.blt true .int [(.var 1)])) (.var 2)),
  .par2 6 7 (.mcall "Registry" "lookup" (.var 4) [(.var 2)]) (.call "_law_due" [(.var 5), (.var 1)]),
  .for_ (.nm 3) (.rng1 (.cst (.int 2))) forB,
  .if_ (.cmp .ne (.att (.var 6) "name") (.bin true .add (.bin true .mul (.cst (.str "raw-")) (.blt true .int [(.var 1)])) (.cst (.str "unicode-escape")))) [.ret (.cst (.bl false))] [],
  .par2 8 9 (.mcall "Codec" "incremental_encoder" (.var 6) [(.cst (.str "nothing"))]) (.cst (.int 0)),
  .while_ (.cmp .lt (.var 9) (.blt true .len [(.var 5)])) whB,
  .ret (.andV (.call "_law_same" [(.mcall "Encoder" "getstate" (.var 8) []), (.cst (.int 0))]) (.one (.call "_law_same" [(.mcall "Encoder" "encoded" (.var 8) [(.tup [])]), (.tup [])])))]
def lateB : List S := [
  .if_ (.cmp .ne (.att (.var 6) "name") (.bin true .add (.bin true .mul (.cst (.str "raw-")) (.blt true .int [(.var 1)])) (.cst (.str "unicode-escape")))) [.ret (.cst (.bl false))] [],
  .par2 8 9 (.mcall "Codec" "incremental_encoder" (.var 6) [(.cst (.str "nothing"))]) (.cst (.int 0)),
  .while_ (.cmp .lt (.var 9) (.blt true .len [(.var 5)])) whB,
  .ret (.andV (.call "_law_same" [(.mcall "Encoder" "getstate" (.var 8) []), (.cst (.int 0))]) (.one (.call "_law_same" [(.mcall "Encoder" "encoded" (.var 8) [(.tup [])]), (.tup [])])))]
theorem pickL {Γ : Gam} (hk : Γ.fn "_law_pick" = some f_pick) {G : AG} {p : Addr} {n : Nat} {o : AO} {items : List Dat} {Q : AQ} {X : AX} (hp : G p = some o) (ho : DrO (n + 1) o) (h0 : 0 < items.length) (h1 : items.length < 2 ^ 30)
    (q : ∀ d o', d ∈ items → DrO n o' → Q d (gu G p o')) : f_pick.con [.ref p, .lst items] G Q X := ⟨p, n, o, _, items, rfl, hp, ho, rfl, h0, h1, q⟩
theorem addI2 {z : Bool} {i j : Int} {G : AG} {Q : AQ} (q : Q (.int (i + j)) G) : binW z .add (.int i) (.int j) G Q := q
theorem eqI2 {i j : Int} {G : AG} {Q : AQ} (q : Q (.bl (decide (i = j))) G) : cmpW .eq (.int i) (.int j) G Q := eqI (n := false) q
theorem cutI_lt {xs : List Int} {i j : Nat} (h : i < xs.length) (h2 : i < j) : 0 < (cutI xs i j).length ∧ i + (cutI xs i j).length ≤ xs.length := by
  unfold cutI
  rw [List.length_take, List.length_drop]
  omega
theorem cutI_mem {xs : List Int} {i j : Nat} {P : Int → Prop} (h : ∀ c ∈ xs, P c) : ∀ c ∈ cutI xs i j, P c := fun c hc => h c (List.mem_of_mem_drop (List.mem_of_mem_take hc))
theorem mulB {raw : Bool} {x : Str} {G : AG} {Q : AQ} (q : Q (.str (if raw = true then x else Str.empty)) G) : bltW true .int [.bl raw] G fun y G2 => binW true .mul (.str x) y G2 Q := by
  cases raw with
  | true => exact ⟨⟨by decide, by decide⟩, q⟩
  | false => exact ⟨⟨by decide, by decide⟩, q⟩
theorem ok_right (Γ : Gam) (g : RG Γ) (N : List Str) (hN : N.length = 13) (ds : List Dat) (G : AG) (Q : AQ) (X : AX) (h : c_right ds G Q X) : wSs Γ b__law_right (startD N ds) G (endsOf Q X) := by
  obtain ⟨p, n, o, raw, rfl, hp, ho, hq⟩ := h
  have st : startD N [.ref p, .bl raw] = [some (.ref p), some (.bl raw), none, none, none, none, none, none, none, none, none, none, none] := by unfold startD; rw [hN]; rfl
  rw [st]
  have big : 100000 ≤ sizeLine := by decide
  unfold b__law_right
  rw [wSs]; simp only [wS, wE, wEs, g.reg, g.codes, List.getElem?_cons_zero, List.getElem?_cons_succ]
  refine ⟨by decide, fun r hr => ⟨gu_same, fun G1 q sb1 hq0 R1 => ⟨rfl, by decide, ?_⟩⟩⟩
  have pr : p ≠ r := fun c => by subst c; rw [hp] at hr; cases hr
  have pq : p ≠ q := fun c => by subst c; rw [gu_ne pr, hp] at hq0; cases hq0
  have hp1 : G1 p = some o := sb1 p o (by rw [gx_ne pr, gu_ne pr]; exact hp)
  have sb1' : Sub G G1 := fun a u ha => sb1 a u (by
    have ar : a ≠ r := fun c => by subst c; rw [hr] at ha; cases ha
    rw [gx_ne ar, gu_ne ar]; exact ha)
  have q0 : G q = none := by
    rw [gu_ne (fun c => R1.1 c.symm)] at hq0
    exact hq0
  refine ⟨p, 40, n + 259, o, rfl, by decide, hp1, ho.mono (by omega), fun cs o1 k1 k2 d1 => ?_⟩
  have R2 := R1.dr (o' := o1) hp1 ho
  have sb2 : Sub (gx G p) (gu G1 p o1) := sub_put (fun a u ha => sb1' a u (Sub.gx a u ha))
  have hp2 : gu G1 p o1 p = some o1 := gu_same
  generalize gu G1 p o1 = G2 at R2 sb2 hp2 ⊢
  simp only [List.set]
  rw [wSs]; simp only [wS, wE, wEs, g.pick, List.getElem?_cons_zero, List.getElem?_cons_succ]
  refine ⟨by decide, nwT (by simp; omega) (pickL (n := n + 258) g.pick hp2 d1 (by decide) (by decide) fun d o2 hs0 d2 => ?_)⟩
  obtain ⟨s, hs, rfl⟩ := List.mem_map.mp (show d ∈ seps.map Dat.str from hs0)
  refine ⟨by decide, nwT (by simp; omega) (pickL (n := n + 257) g.pick gu_same d2 (by decide) (by decide) fun d o3 hw0 d3 => ?_)⟩
  obtain ⟨w, hw, rfl⟩ := List.mem_map.mp (show d ∈ wrds.map Dat.str from hw0)
  obtain ⟨w1, w2, w3⟩ := nm_ok raw s hs w hw
  rw [gu_gu]
  have R3 := R2.dr (o' := o3) hp2 d1
  have sb3 : Sub (gx G p) (gu G2 p o3) := sub_put sb2
  have hp3 : gu G2 p o3 p = some o3 := gu_same
  generalize gu G2 p o3 = G3 at R3 sb3 hp3 ⊢
  refine addS (by omega) ?_
  simp only [List.set]
  rw [wSs]; simp only [wS, wE, wEs, List.getElem?_cons_zero, List.getElem?_cons_succ]
  refine mulB (addS ?_ ?_)
  · have : (if raw = true then ("raw" : Str) else Str.empty).length ≤ 3 := by cases raw <;> decide
    rw [Str.length_append]
    omega
  simp only [List.set]
  show wSs Γ (.par2 6 7 (.mcall "Registry" "lookup" (.var 4) [(.var 2)]) (.call "_law_due" [(.var 5), (.var 1)]) :: .for_ (.nm 3) (.rng1 (.cst (.int 2))) forB :: lateB) [some (.ref p), some (.bl raw), some (.str (nmOf raw s w)), none, some (.ref r), some (.tup (di cs)), none, none, none, none, none, none, none] G3 _
  generalize nmOf raw s w = nm at w1 w2 ⊢
  rw [wSs]; simp only [wS, wE, wEs, g.lookup, g.due, List.getElem?_cons_zero, List.getElem?_cons_succ]
  refine ⟨by decide, ⟨_, R3.2.2.choose_spec, rfl⟩, q, [], R3, w1, ?_⟩
  refine ⟨by decide, kindOf raw, w2, tab_kind raw, fun G4 c sb4 hc0 C4 R4 => ⟨by decide, cs, raw, rfl, k1, by omega, ?_⟩⟩
  have hp4 : G4 p = some o3 := sb4 p o3 (by rw [gx_ne pq]; exact hp3)
  have sb5 : Sub (gx G p) G4 := fun a u ha => sb4 a u (by
    have ap : a ≠ p := fun c => by subst c; rw [gx_same] at ha; cases ha
    have aq : a ≠ q := fun c => by subst c; rw [gx_ne ap, q0] at ha; cases ha
    rw [gx_ne aq]
    exact sb3 a u ha)
  clear sb4 hc0 R3 sb3 hp3 sb2 hp2 R2 sb1' sb1 hp1 R1
  simp only [List.set]
  rw [wSs]; simp only [wS, wE, wI, intK]
  refine ⟨by decide, by decide, ?_⟩
  refine forW_of (fun rem ρ G' => ∃ o' t x e, ρ = [some (.ref p), some (.bl raw), some (.str nm), t, some (.ref r), some (.tup (di cs)), some (.ref c), some (.tup (di (escAll raw cs))), none, none, none, x, e] ∧ G' p = some o' ∧ DrO (n + 200 + 2 * rem.length) o' ∧ Sub (gx G p) G' ∧ CodAt G' c r (kindOf raw) ∧ RegAt G' r q (putKD [] (.inr (normalName nm)) (.ref c))) ?_ ?_ _ _ _ ⟨o3, none, none, none, rfl, hp4, d3.mono (by rw [rngD_len]; simp), sb5, C4, R4⟩
  · rintro d rem ρ G' Nx hN' ⟨o', t, x, e, rfl, hp', d', sb', C', R'⟩
    refine ⟨trivial, ?_⟩
    rw [List.length_cons] at d'
    unfold forB
    simp only [tgW, List.set]
    rw [wSs]; simp only [wS, wE, wEs, g.handed, g.pick, List.getElem?_cons_zero, List.getElem?_cons_succ]
    refine ⟨by decide, p, n + 200 + 2 * rem.length + 1, o', _, cs, rfl, .inl rfl, by omega, hp', d'.mono (by omega), fun y o2 hy d2 => ⟨by decide, nwT (by simp; omega) (pickL g.pick gu_same d2 (by simp) (by simp) fun e2 o4 he2 d4 => ?_)⟩⟩
    rw [gu_gu]
    have C2 := C'.dr (o' := o4) hp' d'
    have R2 := R'.dr (o' := o4) hp' d'
    have sb2 : Sub (gx G p) (gu G' p o4) := sub_put sb'
    have hp2 : gu G' p o4 p = some o4 := gu_same
    generalize gu G' p o4 = G2 at C2 R2 sb2 hp2 ⊢
    have fin : Nx [some (.ref p), some (.bl raw), some (.str nm), some d, some (.ref r), some (.tup (di cs)), some (.ref c), some (.tup (di (escAll raw cs))), none, none, none, some y, some e2] G2 := hN' _ _ ⟨o4, _, _, _, rfl, hp2, d4, sb2, C2, R2⟩
    clear hN' C' R' sb' hp'
    simp only [List.set]
    rw [wSs]; simp only [wS, wE, wEs, wT, g.cenc, g.same, List.getElem?_cons_zero, List.getElem?_cons_succ]
    have le := escAll_len raw cs
    refine ⟨by decide, by decide, ⟨_, C2, rfl⟩, c, r, raw, y, cs, e2, rfl, C2, hy.fix, k1, by omega, _, rfl, by simp; omega, ?_⟩
    simp only [List.length_map]
    refine ⟨_, _, rfl, same_pair (by omega), ?_⟩
    simp only [truW, Bool.not_true, Bool.false_eq_true, if_false]
    refine ⟨_, fix_seq hy.fix, eq_tups (n := true) ?_⟩
    simp only [beq_self_eq_true, Bool.not_true, if_true, boolW, Bool.false_eq_true, if_false, wSs]
    simp only [wS, wE, wEs, wT, wSs, g.renc, g.same, List.getElem?_cons_zero, List.getElem?_cons_succ]
    refine ⟨by decide, by decide, ⟨_, R2.2.2.choose_spec, rfl⟩, r, q, _, c, r, raw, nm, y, cs, e2, rfl, R2, w1, putKD_look, C2, hy.fix, k1, by omega, _, _, rfl, same_row (by omega), ?_⟩
    simp only [truW, Bool.not_true, Bool.false_eq_true, if_false]
    exact fin
  · rintro ρ G' ⟨o', t, x, e, rfl, hp', d', sb', C', R'⟩
    refine ⟨trivial, ?_⟩
    clear sb5 C4 R4 hp4
    have d5 : DrO (n + 200) o' := d'.mono (by simp)
    dsimp only
    unfold lateB
    rw [wSs]; simp only [wS, wE, wEs, wT, List.getElem?_cons_zero, List.getElem?_cons_succ]
    refine attA C' (g.att _ (by simp)) rfl (mulB (addS ?_ (neS ?_)))
    · cases raw <;> decide
    have e3 : decide (kindOf raw = (if raw = true then ("raw-" : Str) else Str.empty) ++ "unicode-escape") = true := by cases raw <;> decide +kernel
    simp only [e3, boolW, Bool.not_true, Bool.false_eq_true, if_false, wSs]
    simp only [wS, wE, wEs, wT, g.inc, List.getElem?_cons_zero, List.getElem?_cons_succ]
    refine ⟨by decide, ⟨_, C', rfl⟩, c, r, raw, _, rfl, C', fun eo hm => ?_⟩
    have pe : p ≠ eo := fun h => by subst h; rw [hm] at hp'; cases hp'
    have hp6 : gu G' eo (.ins "Encoder" (encF c (.str "nothing"))) p = some o' := gu_o hm hp'
    have C6 : CodAt (gu G' eo (.ins "Encoder" (encF c (.str "nothing")))) c r (kindOf raw) := gu_o hm C'
    have E6 : EncAt (gu G' eo (.ins "Encoder" (encF c (.str "nothing")))) eo c (.str "nothing") := gu_same
    have sb6 : Sub (gx G p) (gu G' eo (.ins "Encoder" (encF c (.str "nothing")))) := sb'.trans (Sub.new hm)
    generalize gu G' eo (.ins "Encoder" (encF c (.str "nothing"))) = G6 at hp6 C6 E6 sb6 ⊢
    clear C' R' sb' hp' hm
    simp only [List.set]
    refine ⟨fun m ρ G' => ∃ (pl : Nat) (o' : AO) (x10 : Option Dat), ρ = [some (.ref p), some (.bl raw), some (.str nm), t, some (.ref r), some (.tup (di cs)), some (.ref c), some (.tup (di (escAll raw cs))), some (.ref eo), some (.int pl), x10, x, e] ∧ G' p = some o' ∧ DrO (n + 2 * m) o' ∧ Sub (gx G p) G' ∧ CodAt G' c r (kindOf raw) ∧ EncAt G' eo c (.str "nothing") ∧ m = cs.length - pl ∧ pl ≤ cs.length, ⟨cs.length, 0, o', none, rfl, hp6, d5.mono (by omega), sb6, C6, E6, rfl, by omega⟩, ?_⟩
    rintro m ρ G' ⟨pl, o1, x10, rfl, hp', d1, sb', C', E', rfl, hl⟩
    simp only [List.getElem?_cons_zero, List.getElem?_cons_succ]
    refine ⟨_, rfl, ltI ?_⟩
    simp only [List.length_map]
    by_cases hx : (pl : Int) < (cs.length : Int)
    · simp only [boolW, hx, decide_true, if_true]
      unfold whB
      rw [wSs]; simp only [wS, wE, wEs, wT, g.draw, List.getElem?_cons_zero, List.getElem?_cons_succ]
      simp only [intK]
      refine addI2 ⟨by decide, p, 9, n + 2 * (cs.length - pl - 1) + 1, o1, rfl, hp', d1.mono (by omega), by decide, by decide, fun k o2 j0 j1 d2 => addI2 ?_⟩
      have ec : cutD (di cs) (some (pl : Int)) (some ((pl : Int) + 1 + k)) = di (cutI cs pl (pl + 1 + k.toNat)) := by
        rw [← cut_ij (by omega)]
        congr 2
        omega
      simp only [slW, intK]
      rw [ec]
      obtain ⟨z1, z2⟩ := cutI_lt (xs := cs) (i := pl) (j := pl + 1 + k.toNat) (by omega) (by omega)
      have z3 := cutI_mem (i := pl) (j := pl + 1 + k.toNat) k1
      generalize cutI cs pl (pl + 1 + k.toNat) = pc at z1 z2 z3 ⊢
      clear ec
      simp only [List.set]
      rw [wSs]; simp only [wS, wE, wEs, wT, g.draw, g.same, g.eenc, g.due, List.getElem?_cons_zero, List.getElem?_cons_succ]
      have E2 := E'.dr (o' := o2) hp' d1
      have C2 := C'.dr (o' := o2) hp' d1
      refine ⟨by decide, by decide, ⟨_, E2, rfl⟩, by decide, p, 2, n + 2 * (cs.length - pl - 1), o2, rfl, gu_same, d2, by decide, by decide, fun k2' o3 j2 j3 d3 => eqI2 ?_⟩
      rw [gu_gu]
      have E3 := E'.dr (o' := o3) hp' d1
      have C3 := C'.dr (o' := o3) hp' d1
      have sb3 : Sub (gx G p) (gu G' p o3) := sub_put sb'
      have hp3 : gu G' p o3 p = some o3 := gu_same
      generalize gu G' p o3 = G7 at E3 C3 sb3 hp3 ⊢
      have le := escAll_len raw pc
      refine ⟨eo, c, r, raw, .tup (di pc), pc, _, _, rfl, E3, C3, rfl, z3, by omega, by decide, pc, raw, rfl, z3, by omega, _, _, rfl, same_row (by omega), ?_⟩
      simp only [truW, Bool.not_true, Bool.false_eq_true, if_false]
      simp only [wSs, wS, wE, wEs, List.getElem?_cons_zero, List.getElem?_cons_succ, List.set]
      refine ⟨_, rfl, ?_⟩
      simp only [List.length_map]
      refine ⟨cs.length - (pl + pc.length), by omega, pl + pc.length, o3, some (.tup (di pc)), ?_, hp3, d3.mono (by omega), sb3, C3, E3, rfl, z2⟩
      rw [Int.natCast_add]
    · simp only [boolW, hx, decide_false, Bool.false_eq_true, if_false, g.same, g.gst, g.eenc]
      refine ⟨by decide, by decide, ⟨_, E', rfl⟩, _, rfl, _, _, rfl, .inl ⟨rfl, rfl⟩, ?_⟩
      simp only [truW, if_true]
      refine ⟨by decide, by decide, ⟨_, E', rfl⟩, by decide, eo, c, r, raw, .tup (di []), [], _, _, rfl, E', C', rfl, by simp, by simp, by decide, _, _, rfl, same_row (xs := []) (by simp), _, .refl _, hq G' o1 sb' hp' (d1.mono (by omega))⟩

structure LG (Γ : Gam) : Prop where
  src : Γ.fn "_law_source" = some f_source
  right : Γ.fn "_law_right" = some f_right
  same : Γ.fn "_law_same" = some (f_same 2)
  esc : Γ.fn "_law_escaped" = some f_lesc
  reg : Γ.mke "Registry" = some f_regInit
  lookup : Γ.ms "Registry" "lookup" = some f_lookup
  cenc : Γ.ms "Codec" "encoded" = some f_encoded
def c_law : Con := fun ds G Q X => ∃ sc ns, ds = [sc] ∧ fixOf sc = some (List.map Dat.int ns) ∧ ∀ G', Q (.bl true) G'
def f_law : FnE := { con := c_law, ar := 1, len := fun ds G Q X ⟨_, _, h, _⟩ => by rw [h]; rfl }
def b_law : List S := [
  .for_ (.nm 1) (.rng1 (.blt true .max2 [(.cst (.int 3)), (.blt true .min2 [(.cst (.int 8)), (.blt true .len [(.var 0)])])])) [.set 3 (.call "_law_source" [(.var 0), (.var 1)]), .if_ (.or_ (.not_ (.val (.call "_law_right" [(.var 3), (.cst (.bl false))]))) (.one (.not_ (.val (.call "_law_right" [(.var 3), (.cst (.bl true))]))))) [.ret (.cst (.bl false))] []],
  .for_ (.nm 2) (.seq (.tup [(.cst (.bl false)), (.cst (.bl true))])) [.set 4 (.mcall "Registry" "lookup" (.new "Registry" []) [(.bin true .add (.bin true .mul (.cst (.str "raw_")) (.blt true .int [(.var 2)])) (.cst (.str "unicode_escape")))]), .if_ (.not_ (.val (.blt true .all [(.lc true (.call "_law_same" [(.ix (.mcall "Codec" "encoded" (.var 4) [(.tup [(.var 5)])]) (.cst (.int 0))), (.call "_law_escaped" [(.var 5), (.var 2)])]) (.nm 5) (.rng1 (.cst (.int 300))) [5])]))) [.ret (.cst (.bl false))] []],
  .ret (.cst (.bl true))]
def nm2 (raw : Bool) : Str := (if raw = true then ("raw_" : Str) else Str.empty) ++ "unicode_escape"
theorem nm2_ok : ∀ raw : Bool, nameOk (nm2 raw) = true ∧ knownName (normalName (nm2 raw)) = some (kindOf raw) := by decide +kernel
theorem ok_law (Γ : Gam) (g : LG Γ) (N : List Str) (hN : N.length = 6) (ds : List Dat) (G : AG) (Q : AQ) (X : AX) (h : c_law ds G Q X) : wSs Γ b_law (startD N ds) G (endsOf Q X) := by
  obtain ⟨sc, ns, rfl, hs, hq⟩ := h
  have st : startD N [sc] = [some sc, none, none, none, none, none] := by unfold startD; rw [hN]; rfl
  rw [st]
  have big : 100000 ≤ sizeLine := by decide
  unfold b_law
  rw [wSs]; simp only [wS, wE, wEs, wI, List.getElem?_cons_zero, List.getElem?_cons_succ]
  refine ⟨_, fix_seq hs, ?_⟩
  have b1 : ∀ (a : Int) (G : AG) (Q : AQ), 0 ≤ a → (∀ k : Int, 3 ≤ k → k ≤ 8 → Q (.int k) G) → bltW true .min2 [.int 8, .int a] G fun y G2 => bltW true .max2 [.int 3, y] G2 Q := fun a G Q h0 q => by
    simp only [bltW]
    refine q _ ?_ ?_ <;> (repeat' split) <;> omega
  refine b1 _ _ _ (by omega) fun k k3 k8 => ?_
  simp only [intK]
  refine ⟨by omega, by omega, ?_⟩
  refine forW_of (fun rem ρ G' => ∃ o1 o3, ρ = [some sc, o1, none, o3, none, none] ∧ ∀ d ∈ rem, ∃ i : Int, d = .int i ∧ 0 ≤ i ∧ i < 1000) ?_ ?_ _ _ _ ⟨none, none, rfl, fun d hd => ?_⟩
  · rintro d rem ρ G' Nx hN' ⟨o1, o3, rfl, hr⟩
    obtain ⟨i, rfl, i0, i1⟩ := hr d (List.mem_cons_self ..)
    refine ⟨trivial, ?_⟩
    simp only [tgW, List.set]
    rw [wSs]; simp only [wS, wE, wEs, wT, g.src, List.getElem?_cons_zero, List.getElem?_cons_succ]
    refine ⟨by decide, sc, i, ns, rfl, hs, i0, i1, fun p o hp ho => ?_⟩
    have hp1 : gu G' p o p = some o := gu_same
    generalize gu G' p o = G1 at hp1
    simp only [List.set]
    rw [wSs]; simp only [wS, wE, wEs, wT, g.right, List.getElem?_cons_zero, List.getElem?_cons_succ]
    refine ⟨by decide, p, 1000, o, false, rfl, hp1, ho.mono (by decide), fun G2 o2 _ hp2 d2 => ?_⟩
    simp only [truW, Bool.not_true, Bool.false_eq_true, if_false]
    refine ⟨by decide, p, 100, o2, true, rfl, hp2, d2.mono (by decide), fun G3 o3 _ hp3 d3 => ?_⟩
    simp only [truW, Bool.not_true, Bool.false_eq_true, if_false, wSs]
    exact hN' _ _ ⟨_, _, rfl, fun d hd => hr d (List.mem_cons_of_mem _ hd)⟩
  · rintro ρ G' ⟨o1, o3, rfl, _⟩
    refine ⟨trivial, ?_⟩
    dsimp only
    rw [wSs]; simp only [wS, wE, wEs, wT, wI, List.getElem?_cons_zero, List.getElem?_cons_succ]
    refine ⟨by decide, ?_⟩
    refine forW_of (fun rem ρ G' => ∃ o2 o4, ρ = [some sc, o1, o2, o3, o4, none] ∧ ∀ d ∈ rem, ∃ b : Bool, d = .bl b) ?_ ?_ _ _ _ ⟨none, none, rfl, by simp⟩
    · rintro d rem ρ G' Nx hN' ⟨o2, o4, rfl, hr⟩
      obtain ⟨raw, rfl⟩ := hr d (List.mem_cons_self ..)
      refine ⟨trivial, ?_⟩
      simp only [tgW, List.set]
      rw [wSs]; simp only [wS, wE, wEs, wT, g.reg, g.lookup, List.getElem?_cons_zero, List.getElem?_cons_succ]
      refine ⟨by decide, by decide, fun r hr0 => ⟨gu_same, fun G1 q sb1 hq0 R1 => ⟨rfl, ⟨_, R1.2.2.choose_spec, rfl⟩, mulB (addS (by cases raw <;> decide) ?_)⟩⟩⟩
      show f_lookup.con [.ref r, .str (nm2 raw)] G1 _ _
      obtain ⟨w1, w2⟩ := nm2_ok raw
      refine ⟨q, [], R1, w1, by decide, kindOf raw, w2, tab_kind raw, fun G4 c sb4 hc0 C4 R4 => ?_⟩
      simp only [List.set]
      rw [wSs]; simp only [wS, wE, wEs, wT, wI, intK, List.getElem?_cons_zero, List.getElem?_cons_succ]
      refine ⟨by decide, by decide, ?_⟩
      refine lcW_map (f := fun _ => .bl true) trivial (by rw [rngD_len]; decide) (fun d hd Q' q' => ?_) ?_
      · unfold rngD at hd
        obtain ⟨j, hj, rfl⟩ := List.mem_map.mp hd
        have hj := List.mem_range.mp hj
        have hc : isCode (0 + (j : Int)) := ⟨by omega, by have : j < 300 := hj; omega⟩
        generalize (0 + (j : Int)) = i at hc ⊢
        simp only [tgW, wipeD, List.foldl, List.set, wE, wEs, g.same, g.cenc, g.esc, List.getElem?_cons_zero, List.getElem?_cons_succ]
        have e1 : escAll raw [i] = esc raw i := by simp [escAll]
        have le := esc_len raw i
        refine ⟨by decide, by decide, ⟨_, C4, rfl⟩, by simp; omega, c, r, raw, .tup (di [i]), [i], _, rfl, C4, rfl, by simpa using hc, by simp, ixT rfl ⟨by decide, i, raw, rfl, hc, ?_⟩⟩
        rw [e1]
        exact ⟨_, _, rfl, same_row (by omega), q'⟩
      · refine ⟨_, List.replicate 300 true, rfl, by decide +kernel, ?_⟩
        have e2 : (List.replicate 300 true).all id = true := by decide +kernel
        rw [e2]
        simp only [truW, Bool.not_true, Bool.false_eq_true, if_false, wSs]
        exact hN' _ _ ⟨_, _, rfl, fun d hd => hr d (List.mem_cons_of_mem _ hd)⟩
    · rintro ρ G' ⟨o2, o4, rfl, _⟩
      exact ⟨trivial, _, .refl _, hq _⟩
  · unfold rngD at hd
    obtain ⟨j, hj, rfl⟩ := List.mem_map.mp hd
    have := List.mem_range.mp hj
    exact ⟨_, rfl, by omega, by omega⟩
end Av


set_option Elab.async false
set_option linter.all false
set_option maxRecDepth 100000
set_option maxHeartbeats 0
namespace Av.Fin
open PySem PySem.Spec PyProof.Rows L2 Av
def top (i : Nat) : Stmt := PySem.Challenge.pw_signferry_k46_escapes_written.main.body.getD i (.Pass ⟨0, 0, 0, 0⟩)
def mth (i j : Nat) : Stmt := match top i with
  | .ClassDef _ _ _ b _ _ _ _ _ _ _ => b.getD j (.Pass ⟨0, 0, 0, 0⟩)
  | _ => .Pass ⟨0, 0, 0, 0⟩
abbrev R : PySem.W.OpenRow := PySem.W.OpenLaw.row PySem.Challenge.rw_signferry_k46_escapes_written
def nm0 : List PySem.Str := ["_wall", "HIGH", "LOW", "BEHIND", "GREATEST", "SIGNS_codes", "text", "is_integer", "is_row", "are_codes", "are_octets", "is_surrogate", "digits_of", "SignError", "NoCodec", "NoHandler", "BadCodec", "EncodeError", "DecodeError", "BadAnswer", "BadPlace", "BadTable", "UNDEFINED", "FIRST", "MIDDLE", "LATE", "CP1252", "LATIN9", "KOI8", "TABLES"]
def nm1 : List PySem.Str := ["is_code", "is_octet", "entries_of", "way_back", "checked_table", "checked_back", "write_charmap", "SHORT", "far_escape", "near_escape", "write_escape", "write_raw_escape", "SIZES", "raise_again", "range_of", "answer_strict", "answer_ignore", "answer_replace", "answer_xmlcharrefreplace", "escape_of", "answer_backslashreplace", "answer_surrogateescape", "surrogate_bytes", "surrogate_at", "answer_surrogatepass", "KNOWN", "checked_answer", "Answers", "SIGN", "MARKS_incremental"]
def nm2 : List PySem.Str := ["ORDERS", "Encoder", "SignedEncoder", "MarkedEncoder", "encoder_of", "least_of", "next_bias", "digit_of", "number_written", "write_punycode", "FIRST_ESCAPE", "LAST_ESCAPE", "ASCII", "LATIN", "own_escapes_end", "written_run", "write_runs", "write_ascii", "write_latin", "SIGNATURE", "TOLD", "utf8_octets", "write_utf8", "write_signed", "MARKS_wide", "size_of", "is_big", "unit_octets", "wide_octets", "all_octets"]
def nm3 : List PySem.Str := ["answered", "write_wide", "base_sign", "base_value", "is_plain", "units_of", "last_sign", "write_utf7", "WRITERS", "Codec", "SIGNS_registry", "CODECS", "normal_name", "known_name", "Registry", "_law_source", "_law_draw", "_law_pick", "_law_text", "_law_handed", "_law_same", "_law_digits", "_law_escaped", "_law_codes_e", "_law_due", "_law_right"]
def names : List PySem.Str := nm0 ++ nm1 ++ nm2 ++ nm3

instance : Tb := ⟨[]⟩
abbrev S (x : String) : Str := Str.ofString x
abbrev s (x : String) (n : Nat) : Value := .str (Str.ofString x) n
abbrev e (P : Params) (x : String) (n : Nat) (v : Value) : DictEntry := ⟨PyData.keyHash P (Str.ofString x), .str (Str.ofString x) n, v⟩
abbrev f (st : Stmt) (nm qn : String) (g : Addr) (cl : List (Str × Addr)) (v1 v2 v3 v4 : Value) (an : Option Addr) (v5 v6 : Value) (bi : Addr) : FuncData := ⟨Str.ofString nm, Str.ofString qn, L2.defArgs st, .stmts (L2.defBody st), L2.defScope st, g, cl, v1, v2, v3, v4, an, v5, v6, bi⟩
section
open PySem.W
noncomputable def zT (P : Params) : BT := (.node (PySem.W.boot_o_0 P) (.node (PySem.W.boot_o_1 P) (.node (PySem.W.boot_o_3 P) (.node (PySem.W.boot_o_7 P) .nil .nil) .nil) (.node (PySem.W.boot_o_5 P) (.node (PySem.W.boot_o_9 P) .nil .nil) .nil)) (.node (PySem.W.boot_o_2 P) (.node (PySem.W.boot_o_4 P) (.node (PySem.W.boot_o_8 P) .nil .nil) .nil) (.node (PySem.W.boot_o_6 P) (.node (PySem.W.boot_o_10 P) .nil .nil) .nil)))
noncomputable def a11 (P : Params) : Obj := ⟨(.type "tuple"), none, (.seq #[] 0), #[]⟩
noncomputable def a12 (P : Params) : Obj := ⟨.none, none, (.fields #[]), #[]⟩
noncomputable def a13 (P : Params) : Obj := ⟨(.type "code"), none, (.fields #[(s "<module>" 182), (s "<module>" 183), (s "/claim/cut.py" 184), (.int 1 0), (.int 0 0), (.int 0 0), (.int 0 0), (.int 0 0), (.ref 11), (.bool false), (.int 181 0), (.ref 12), .none, .none, .none, .none, (.int 185 0), (.int 1 0), (s "/claim/cut.py" 186)]), #[]⟩
noncomputable def a14 (P : Params) : Obj := ⟨(.type "frame"), none, .plain, #[(some (.ref 13)), (some (.ref 3)), (some (.ref 3)), none, (some (s "__main__" 164)), none, (some (.ref 0))]⟩
noncomputable def aT (P : Params) : BT := (.node (PySem.W.boot_o_0 P) (.node (PySem.W.boot_o_1 P) (.node (PySem.W.boot_o_3 P) (.node (PySem.W.boot_o_7 P) .nil .nil) (.node (a11 P) .nil .nil)) (.node (PySem.W.boot_o_5 P) (.node (PySem.W.boot_o_9 P) .nil .nil) (.node (a13 P) .nil .nil))) (.node (PySem.W.boot_o_2 P) (.node (PySem.W.boot_o_4 P) (.node (PySem.W.boot_o_8 P) .nil .nil) (.node (a12 P) .nil .nil)) (.node (PySem.W.boot_o_6 P) (.node (PySem.W.boot_o_10 P) .nil .nil) (.node (a14 P) .nil .nil))))
noncomputable def aS (w : World) (os : OsState) : SharedT := ⟨aT w.params, 15, { }, #[], {}, 187, os⟩
noncomputable def bT (P : Params) : BT := (.node (PySem.W.boot_o_0 P) (.node (PySem.W.boot_o_1 P) (.node (PySem.W.boot_o_3 P) (.node (PySem.W.boot_o_7 P) .nil .nil) (.node (a11 P) .nil .nil)) (.node (PySem.W.boot_o_5 P) (.node (PySem.W.boot_o_9 P) .nil .nil) (.node (a13 P) .nil .nil))) (.node (PySem.W.boot_o_2 P) (.node (PySem.W.boot_o_4 P) (.node (PySem.W.boot_o_8 P) .nil .nil) (.node (a12 P) .nil .nil)) (.node (PySem.W.boot_o_6 P) (.node (PySem.W.boot_o_10 P) .nil .nil) (.node (a14 P) .nil .nil))))
noncomputable def bS (w : World) (os : OsState) : SharedT := ⟨bT w.params, 15, { }, #[], {}, 187, os⟩
noncomputable def m0_3 (P : Params) : Obj := ⟨(.type "dict"), none, (.dict #[(e P "__name__" 165 (s "signferry.handlers" 1103)), (e P "__doc__" 166 .none), (e P "__package__" 167 .none), (e P "__loader__" 168 (.builtin "__main__.__loader__#opaque")), (e P "__spec__" 169 .none), (e P "__annotations__" 170 (.ref 6)), (e P "__builtins__" 171 (.ref 4)), (e P "__file__" 173 (s "/claim/cut.py" 172)), (e P "__cached__" 174 .none), (e P "_wall" 193 (.ref 21)), (e P "HIGH" 197 (.int 55296 196)), (e P "LOW" 199 (.int 56320 198)), (e P "BEHIND" 201 (.int 57344 200)), (e P "GREATEST" 203 (.int 1114111 202)), (e P "SIGNS_codes" 220 (.ref 22)), (e P "text" 226 (.ref 27)), (e P "is_integer" 233 (.ref 34)), (e P "is_row" 240 (.ref 41)), (e P "are_codes" 246 (.ref 46)), (e P "are_octets" 252 (.ref 51)), (e P "is_surrogate" 259 (.ref 58)), (e P "digits_of" 268 (.ref 65)), (e P "SignError" 288 (.ref 75)), (e P "NoCodec" 313 (.ref 95)), (e P "NoHandler" 338 (.ref 114)), (e P "BadCodec" 354 (.ref 126)), (e P "EncodeError" 387 (.ref 145)), (e P "DecodeError" 420 (.ref 164)), (e P "BadAnswer" 436 (.ref 176)), (e P "BadPlace" 461 (.ref 195)), (e P "BadTable" 477 (.ref 207)), (e P "UNDEFINED" 481 (s "character maps to <undefined>" 480)), (e P "FIRST" 610 (.ref 210)), (e P "MIDDLE" 643 (.ref 211)), (e P "LATE" 740 (.ref 212)), (e P "CP1252" 768 (.ref 213)), (e P "LATIN9" 865 (.ref 214)), (e P "KOI8" 994 (.ref 215)), (e P "TABLES" 1001 (.ref 216)), (e P "is_code" 1008 (.ref 228)), (e P "is_octet" 1015 (.ref 235)), (e P "entries_of" 1021 (.ref 240)), (e P "way_back" 1027 (.ref 245)), (e P "checked_table" 1037 (.ref 252)), (e P "checked_back" 1047 (.ref 259)), (e P "write_charmap" 1053 (.ref 264)), (e P "SHORT" 1068 (.ref 265)), (e P "far_escape" 1075 (.ref 272)), (e P "near_escape" 1082 (.ref 279)), (e P "write_escape" 1092 (.ref 286)), (e P "write_raw_escape" 1102 (.ref 293)), (e P "SIZES" 1126 (.ref 294)), (e P "raise_again" 1133 (.ref 301)), (e P "range_of" 1140 (.ref 308)), (e P "answer_strict" 1147 (.ref 315)), (e P "answer_ignore" 1154 (.ref 322)), (e P "answer_replace" 1163 (.ref 329)), (e P "answer_xmlcharrefreplace" 1173 (.ref 336)), (e P "escape_of" 1180 (.ref 343)), (e P "answer_backslashreplace" 1189 (.ref 350)), (e P "answer_surrogateescape" 1195 (.ref 355)), (e P "surrogate_bytes" 1204 (.ref 362)), (e P "surrogate_at" 1216 (.ref 369)), (e P "answer_surrogatepass" 1222 (.ref 374)), (e P "KNOWN" 1237 (.ref 375)), (e P "checked_answer" 1251 (.ref 382)), (e P "Answers" 1300 (.ref 413))] 67), #[]⟩
noncomputable def m0_12 (P : Params) : Obj := ⟨.none, none, (.fields #[(.int 1 0), (.int 0 0), (.ref 20), (.int 10 0), (.int 0 0), (.ref 26), (.int 12 0), (.int 0 0), (.ref 33), (.int 14 0), (.int 0 0), (.ref 40), (.int 16 0), (.int 0 0), (.ref 45), (.int 18 0), (.int 0 0), (.ref 50), (.int 20 0), (.int 0 0), (.ref 57), (.int 22 0), (.int 0 0), (.ref 64), (.int 29 0), (.int 0 0), (.ref 71), (.int 31 0), (.int 0 0), (.ref 84), (.int 35 0), (.int 0 0), (.ref 103), (.int 39 0), (.int 0 0), (.ref 122), (.int 41 0), (.int 0 0), (.ref 134), (.int 49 0), (.int 0 0), (.ref 153), (.int 57 0), (.int 0 0), (.ref 172), (.int 59 0), (.int 0 0), (.ref 184), (.int 63 0), (.int 0 0), (.ref 203), (.int 74 0), (.int 0 0), (.ref 227), (.int 76 0), (.int 0 0), (.ref 234), (.int 78 0), (.int 0 0), (.ref 239), (.int 89 0), (.int 0 0), (.ref 244), (.int 91 0), (.int 0 0), (.ref 251), (.int 97 0), (.int 0 0), (.ref 258), (.int 108 0), (.int 0 0), (.ref 263), (.int 130 0), (.int 0 0), (.ref 271), (.int 134 0), (.int 0 0), (.ref 278), (.int 140 0), (.int 0 0), (.ref 285), (.int 145 0), (.int 0 0), (.ref 292), (.int 152 0), (.int 0 0), (.ref 300), (.int 156 0), (.int 0 0), (.ref 307), (.int 160 0), (.int 0 0), (.ref 314), (.int 163 0), (.int 0 0), (.ref 321), (.int 166 0), (.int 0 0), (.ref 328), (.int 170 0), (.int 0 0), (.ref 335), (.int 177 0), (.int 0 0), (.ref 342), (.int 181 0), (.int 0 0), (.ref 349), (.int 186 0), (.int 0 0), (.ref 354), (.int 198 0), (.int 0 0), (.ref 361), (.int 203 0), (.int 0 0), (.ref 368), (.int 213 0), (.int 0 0), (.ref 373), (.int 229 0), (.int 0 0), (.ref 381), (.int 241 0), (.int 0 0), (.ref 388)]), #[]⟩
noncomputable def m0_15 (P : Params) : Obj := ⟨(.type "tuple"), none, (.seq #[] 0), #[]⟩
noncomputable def m0_16 (P : Params) : Obj := ⟨.none, none, (.fields #[]), #[]⟩
noncomputable def m0_17 (P : Params) : Obj := ⟨(.type "tuple"), none, (.seq #[(s "k" 190)] 0), #[]⟩
noncomputable def m0_18 (P : Params) : Obj := ⟨(.type "tuple"), none, (.seq #[] 0), #[]⟩
noncomputable def m0_19 (P : Params) : Obj := ⟨.none, none, (.func (f (top 0) "_wall" "_wall" 0 [] .none .none .none .none none .none .none 0)), #[]⟩
noncomputable def m0_20 (P : Params) : Obj := ⟨(.type "code"), none, (.fields #[(s "_wall" 187), (s "_wall" 188), (s "/claim/cut.py" 189), (.int 1 0), (.int 1 0), (.int 0 0), (.int 0 0), (.int 3 0), (.ref 15), (.bool true), (.int 181 0), (.ref 16), .none, (.ref 17), (.ref 18), (.ref 19), (.int 191 0), (.int 1 0), (s "/claim/cut.py" 192)]), #[]⟩
noncomputable def m0_21 (P : Params) : Obj := ⟨(.type "function"), none, (.func (f (top 0) "_wall" "_wall" 3 [] .none .none .none (s "__main__" 164) none (.ref 20) .none 0)), #[]⟩
noncomputable def m0_22 (P : Params) : Obj := ⟨(.type "tuple"), none, (.seq #[(.int 48 204), (.int 49 205), (.int 50 206), (.int 51 207), (.int 52 208), (.int 53 209), (.int 54 210), (.int 55 211), (.int 56 212), (.int 57 213), (.int 97 214), (.int 98 215), (.int 99 216), (.int 100 217), (.int 101 218), (.int 102 219)] 0), #[]⟩
noncomputable def m0_23 (P : Params) : Obj := ⟨(.type "tuple"), none, (.seq #[] 0), #[]⟩
noncomputable def m0_24 (P : Params) : Obj := ⟨.none, none, (.fields #[]), #[]⟩
noncomputable def m0_25 (P : Params) : Obj := ⟨.none, none, (.func (f (top 7) "text" "text" 0 [] .none .none .none .none none .none .none 0)), #[]⟩
noncomputable def m0_26 (P : Params) : Obj := ⟨(.type "code"), none, (.fields #[(s "text" 221), (s "text" 222), (s "/claim/cut.py" 223), (.int 10 0), (.int 1 0), (.int 0 0), (.int 0 0), (.int 3 0), (.ref 23), (.bool true), (.int 181 0), (.ref 24), .none, .none, .none, (.ref 25), (.int 224 0), (.int 10 0), (s "/claim/cut.py" 225)]), #[]⟩
noncomputable def m0_27 (P : Params) : Obj := ⟨(.type "function"), none, (.func (f (top 7) "text" "text" 3 [] .none .none .none (s "signferry.codes" 194) none (.ref 26) .none 0)), #[]⟩
noncomputable def m0_28 (P : Params) : Obj := ⟨(.type "tuple"), none, (.seq #[] 0), #[]⟩
noncomputable def m0_29 (P : Params) : Obj := ⟨.none, none, (.fields #[]), #[]⟩
noncomputable def m0_30 (P : Params) : Obj := ⟨(.type "tuple"), none, (.seq #[(s "thing" 230)] 0), #[]⟩
noncomputable def m0_31 (P : Params) : Obj := ⟨(.type "tuple"), none, (.seq #[] 0), #[]⟩
noncomputable def m0_32 (P : Params) : Obj := ⟨.none, none, (.func (f (top 8) "is_integer" "is_integer" 0 [] .none .none .none .none none .none .none 0)), #[]⟩
noncomputable def m0_33 (P : Params) : Obj := ⟨(.type "code"), none, (.fields #[(s "is_integer" 227), (s "is_integer" 228), (s "/claim/cut.py" 229), (.int 12 0), (.int 1 0), (.int 0 0), (.int 0 0), (.int 3 0), (.ref 28), (.bool true), (.int 181 0), (.ref 29), .none, (.ref 30), (.ref 31), (.ref 32), (.int 231 0), (.int 12 0), (s "/claim/cut.py" 232)]), #[]⟩
noncomputable def m0_34 (P : Params) : Obj := ⟨(.type "function"), none, (.func (f (top 8) "is_integer" "is_integer" 3 [] .none .none .none (s "signferry.codes" 194) none (.ref 33) .none 0)), #[]⟩
noncomputable def m0_35 (P : Params) : Obj := ⟨(.type "tuple"), none, (.seq #[] 0), #[]⟩
noncomputable def m0_36 (P : Params) : Obj := ⟨.none, none, (.fields #[]), #[]⟩
noncomputable def m0_37 (P : Params) : Obj := ⟨(.type "tuple"), none, (.seq #[(s "thing" 237)] 0), #[]⟩
noncomputable def m0_38 (P : Params) : Obj := ⟨(.type "tuple"), none, (.seq #[] 0), #[]⟩
noncomputable def m0_39 (P : Params) : Obj := ⟨.none, none, (.func (f (top 9) "is_row" "is_row" 0 [] .none .none .none .none none .none .none 0)), #[]⟩
noncomputable def m0_40 (P : Params) : Obj := ⟨(.type "code"), none, (.fields #[(s "is_row" 234), (s "is_row" 235), (s "/claim/cut.py" 236), (.int 14 0), (.int 1 0), (.int 0 0), (.int 0 0), (.int 3 0), (.ref 35), (.bool true), (.int 181 0), (.ref 36), .none, (.ref 37), (.ref 38), (.ref 39), (.int 238 0), (.int 14 0), (s "/claim/cut.py" 239)]), #[]⟩
noncomputable def m0_41 (P : Params) : Obj := ⟨(.type "function"), none, (.func (f (top 9) "is_row" "is_row" 3 [] .none .none .none (s "signferry.codes" 194) none (.ref 40) .none 0)), #[]⟩
noncomputable def m0_42 (P : Params) : Obj := ⟨(.type "tuple"), none, (.seq #[] 0), #[]⟩
noncomputable def m0_43 (P : Params) : Obj := ⟨.none, none, (.fields #[]), #[]⟩
noncomputable def m0_44 (P : Params) : Obj := ⟨.none, none, (.func (f (top 10) "are_codes" "are_codes" 0 [] .none .none .none .none none .none .none 0)), #[]⟩
noncomputable def m0_45 (P : Params) : Obj := ⟨(.type "code"), none, (.fields #[(s "are_codes" 241), (s "are_codes" 242), (s "/claim/cut.py" 243), (.int 16 0), (.int 1 0), (.int 0 0), (.int 0 0), (.int 3 0), (.ref 42), (.bool true), (.int 181 0), (.ref 43), .none, .none, .none, (.ref 44), (.int 244 0), (.int 16 0), (s "/claim/cut.py" 245)]), #[]⟩
noncomputable def m0_46 (P : Params) : Obj := ⟨(.type "function"), none, (.func (f (top 10) "are_codes" "are_codes" 3 [] .none .none .none (s "signferry.codes" 194) none (.ref 45) .none 0)), #[]⟩
noncomputable def m0_47 (P : Params) : Obj := ⟨(.type "tuple"), none, (.seq #[] 0), #[]⟩
noncomputable def m0_48 (P : Params) : Obj := ⟨.none, none, (.fields #[]), #[]⟩
noncomputable def m0_49 (P : Params) : Obj := ⟨.none, none, (.func (f (top 11) "are_octets" "are_octets" 0 [] .none .none .none .none none .none .none 0)), #[]⟩
noncomputable def m0_50 (P : Params) : Obj := ⟨(.type "code"), none, (.fields #[(s "are_octets" 247), (s "are_octets" 248), (s "/claim/cut.py" 249), (.int 18 0), (.int 1 0), (.int 0 0), (.int 0 0), (.int 3 0), (.ref 47), (.bool true), (.int 181 0), (.ref 48), .none, .none, .none, (.ref 49), (.int 250 0), (.int 18 0), (s "/claim/cut.py" 251)]), #[]⟩
noncomputable def m0_51 (P : Params) : Obj := ⟨(.type "function"), none, (.func (f (top 11) "are_octets" "are_octets" 3 [] .none .none .none (s "signferry.codes" 194) none (.ref 50) .none 0)), #[]⟩
noncomputable def m0_52 (P : Params) : Obj := ⟨(.type "tuple"), none, (.seq #[] 0), #[]⟩
noncomputable def m0_53 (P : Params) : Obj := ⟨.none, none, (.fields #[]), #[]⟩
noncomputable def m0_54 (P : Params) : Obj := ⟨(.type "tuple"), none, (.seq #[(s "code" 256)] 0), #[]⟩
noncomputable def m0_55 (P : Params) : Obj := ⟨(.type "tuple"), none, (.seq #[] 0), #[]⟩
noncomputable def m0_56 (P : Params) : Obj := ⟨.none, none, (.func (f (top 12) "is_surrogate" "is_surrogate" 0 [] .none .none .none .none none .none .none 0)), #[]⟩
noncomputable def m0_57 (P : Params) : Obj := ⟨(.type "code"), none, (.fields #[(s "is_surrogate" 253), (s "is_surrogate" 254), (s "/claim/cut.py" 255), (.int 20 0), (.int 1 0), (.int 0 0), (.int 0 0), (.int 3 0), (.ref 52), (.bool true), (.int 181 0), (.ref 53), .none, (.ref 54), (.ref 55), (.ref 56), (.int 257 0), (.int 20 0), (s "/claim/cut.py" 258)]), #[]⟩
noncomputable def m0_58 (P : Params) : Obj := ⟨(.type "function"), none, (.func (f (top 12) "is_surrogate" "is_surrogate" 3 [] .none .none .none (s "signferry.codes" 194) none (.ref 57) .none 0)), #[]⟩
noncomputable def m0_59 (P : Params) : Obj := ⟨(.type "tuple"), none, (.seq #[] 0), #[]⟩
noncomputable def m0_60 (P : Params) : Obj := ⟨.none, none, (.fields #[]), #[]⟩
noncomputable def m0_61 (P : Params) : Obj := ⟨(.type "tuple"), none, (.seq #[(s "number" 263), (s "many" 264), (s "found" 265)] 0), #[]⟩
noncomputable def m0_62 (P : Params) : Obj := ⟨(.type "tuple"), none, (.seq #[] 0), #[]⟩
noncomputable def m0_63 (P : Params) : Obj := ⟨.none, none, (.func (f (top 13) "digits_of" "digits_of" 0 [] .none .none .none .none none .none .none 0)), #[]⟩
noncomputable def m0_64 (P : Params) : Obj := ⟨(.type "code"), none, (.fields #[(s "digits_of" 260), (s "digits_of" 261), (s "/claim/cut.py" 262), (.int 22 0), (.int 2 0), (.int 0 0), (.int 0 0), (.int 3 0), (.ref 59), (.bool true), (.int 181 0), (.ref 60), .none, (.ref 61), (.ref 62), (.ref 63), (.int 266 0), (.int 22 0), (s "/claim/cut.py" 267)]), #[]⟩
noncomputable def m0_65 (P : Params) : Obj := ⟨(.type "function"), none, (.func (f (top 13) "digits_of" "digits_of" 3 [] .none .none .none (s "signferry.codes" 194) none (.ref 64) .none 0)), #[]⟩
noncomputable def m0_66 (P : Params) : Obj := ⟨(.type "tuple"), none, (.seq #[(.type "ValueError")] 0), #[]⟩
noncomputable def m0_67 (P : Params) : Obj := ⟨(.type "builtin_function_or_method"), none, (.fields #[(.builtin "type.__prepare__"), (.type "type")]), #[]⟩
noncomputable def m0_68 (P : Params) : Obj := ⟨(.type "dict"), none, (.dict #[(e P "__module__" 278 (s "signferry.errors" 269)), (e P "__qualname__" 280 (s "SignError" 279)), (e P "__firstlineno__" 282 (.int 29 281)), (e P "__static_attributes__" 283 (.ref 73))] 4), #[]⟩
noncomputable def m0_69 (P : Params) : Obj := ⟨(.type "tuple"), none, (.seq #[] 0), #[]⟩
noncomputable def m0_70 (P : Params) : Obj := ⟨.none, none, (.fields #[]), #[]⟩
noncomputable def m0_71 (P : Params) : Obj := ⟨(.type "code"), none, (.fields #[(s "SignError" 273), (s "SignError" 274), (s "/claim/cut.py" 275), (.int 29 0), (.int 0 0), (.int 0 0), (.int 0 0), (.int 0 0), (.ref 69), (.bool false), (.int 181 0), (.ref 70), .none, .none, .none, .none, (.int 276 0), (.int 29 0), (s "/claim/cut.py" 277)]), #[]⟩
noncomputable def m0_72 (P : Params) : Obj := ⟨(.type "frame"), none, .plain, #[(some (.ref 71)), (some (.ref 3)), (some (.ref 68)), none, (some (s "signferry.errors" 269)), none, (some (.ref 0))]⟩
noncomputable def m0_73 (P : Params) : Obj := ⟨(.type "tuple"), none, (.seq #[] 0), #[]⟩
noncomputable def m0_74 (P : Params) : Obj := ⟨(.type "dict"), none, (.dict #[(e P "__module__" 278 (s "signferry.errors" 269)), (e P "__firstlineno__" 282 (.int 29 281)), (e P "__static_attributes__" 283 (.ref 73)), (e P "__weakref__" 285 (.ref 76)), (e P "__doc__" 286 .none)] 3), #[]⟩
noncomputable def m0_75 (P : Params) : Obj := ⟨(.type "type"), none, (.cls ⟨(S "SignError"), [(.type "ValueError")], [(.ref 75), (.type "ValueError"), (.type "Exception"), (.type "BaseException"), (.type "object")], 74, (S "SignError"), true, [], [(.ref 95), (.ref 114), (.ref 126), (.ref 145), (.ref 164), (.ref 176), (.ref 195), (.ref 207)], false, none, false⟩), #[(some (.ref 66)), none, (some (s "SignError" 271)), (some (s "SignError" 279)), (some (.builtin "ValueError.__new__")), (some (.bool true))]⟩
noncomputable def m0_76 (P : Params) : Obj := ⟨(.type "getset_descriptor"), none, (.fields #[(s "__weakref__" 284), (.ref 75), (.builtin "ExceptionGroup.__weakref__"), .none]), #[]⟩
noncomputable def m0_77 (P : Params) : Obj := ⟨(.type "super"), none, (.fields #[(.ref 75), (.ref 75), (.ref 75)]), #[]⟩
noncomputable def m0_78 (P : Params) : Obj := ⟨(.type "builtin_function_or_method"), none, (.fields #[(.builtin "object.__init_subclass__"), (.ref 75)]), #[]⟩
noncomputable def m0_79 (P : Params) : Obj := ⟨(.type "tuple"), none, (.seq #[(.ref 75)] 0), #[]⟩
noncomputable def m0_80 (P : Params) : Obj := ⟨(.type "builtin_function_or_method"), none, (.fields #[(.builtin "type.__prepare__"), (.type "type")]), #[]⟩
noncomputable def m0_81 (P : Params) : Obj := ⟨(.type "dict"), none, (.dict #[(e P "__module__" 296 (s "signferry.errors" 269)), (e P "__qualname__" 298 (s "NoCodec" 297)), (e P "__firstlineno__" 300 (.int 31 299)), (e P "__init__" 308 (.ref 92)), (e P "__static_attributes__" 310 (.ref 93))] 5), #[]⟩
noncomputable def m0_82 (P : Params) : Obj := ⟨(.type "tuple"), none, (.seq #[] 0), #[]⟩
noncomputable def m0_83 (P : Params) : Obj := ⟨.none, none, (.fields #[(.int 33 0), (.int 4 0), (.ref 91)]), #[]⟩
noncomputable def m0_84 (P : Params) : Obj := ⟨(.type "code"), none, (.fields #[(s "NoCodec" 291), (s "NoCodec" 292), (s "/claim/cut.py" 293), (.int 31 0), (.int 0 0), (.int 0 0), (.int 0 0), (.int 0 0), (.ref 82), (.bool false), (.int 181 0), (.ref 83), .none, .none, .none, .none, (.int 294 0), (.int 31 0), (s "/claim/cut.py" 295)]), #[]⟩
noncomputable def m0_85 (P : Params) : Obj := ⟨(.type "frame"), none, .plain, #[(some (.ref 84)), (some (.ref 3)), (some (.ref 81)), none, (some (s "signferry.errors" 269)), none, (some (.ref 0))]⟩
noncomputable def m0_86 (P : Params) : Obj := ⟨(.type "tuple"), none, (.seq #[] 0), #[]⟩
noncomputable def m0_87 (P : Params) : Obj := ⟨.none, none, (.fields #[]), #[]⟩
noncomputable def m0_88 (P : Params) : Obj := ⟨(.type "tuple"), none, (.seq #[(s "self" 304), (s "name" 305)] 0), #[]⟩
noncomputable def m0_89 (P : Params) : Obj := ⟨(.type "tuple"), none, (.seq #[] 0), #[]⟩
noncomputable def m0_90 (P : Params) : Obj := ⟨.none, none, (.func (f (mth 16 0) "__init__" "NoCodec.__init__" 0 [] .none .none .none .none none .none .none 0)), #[]⟩
noncomputable def m0_91 (P : Params) : Obj := ⟨(.type "code"), none, (.fields #[(s "__init__" 301), (s "NoCodec.__init__" 302), (s "/claim/cut.py" 303), (.int 33 0), (.int 2 0), (.int 0 0), (.int 0 0), (.int 3 0), (.ref 86), (.bool true), (.int 181 0), (.ref 87), .none, (.ref 88), (.ref 89), (.ref 90), (.int 306 0), (.int 33 0), (s "/claim/cut.py" 307)]), #[]⟩
noncomputable def m0_92 (P : Params) : Obj := ⟨(.type "function"), none, (.func (f (mth 16 0) "__init__" "NoCodec.__init__" 3 [] .none .none .none (s "signferry.errors" 269) none (.ref 91) .none 0)), #[]⟩
noncomputable def m0_93 (P : Params) : Obj := ⟨(.type "tuple"), none, (.seq #[(s "name" 309)] 0), #[]⟩
noncomputable def m0_94 (P : Params) : Obj := ⟨(.type "dict"), none, (.dict #[(e P "__module__" 296 (s "signferry.errors" 269)), (e P "__firstlineno__" 300 (.int 31 299)), (e P "__init__" 308 (.ref 92)), (e P "__static_attributes__" 310 (.ref 93)), (e P "__doc__" 311 .none)] 2), #[]⟩
noncomputable def m0_95 (P : Params) : Obj := ⟨(.type "type"), none, (.cls ⟨(S "NoCodec"), [(.ref 75)], [(.ref 95), (.ref 75), (.type "ValueError"), (.type "Exception"), (.type "BaseException"), (.type "object")], 94, (S "NoCodec"), true, [], [], false, none, false⟩), #[(some (.ref 79)), none, (some (s "NoCodec" 289)), (some (s "NoCodec" 297)), (some (.builtin "ValueError.__new__")), (some (.bool true))]⟩
noncomputable def m0_96 (P : Params) : Obj := ⟨(.type "super"), none, (.fields #[(.ref 95), (.ref 95), (.ref 95)]), #[]⟩
noncomputable def m0_97 (P : Params) : Obj := ⟨(.type "builtin_function_or_method"), none, (.fields #[(.builtin "object.__init_subclass__"), (.ref 95)]), #[]⟩
noncomputable def m0_98 (P : Params) : Obj := ⟨(.type "tuple"), none, (.seq #[(.ref 75)] 0), #[]⟩
noncomputable def m0_99 (P : Params) : Obj := ⟨(.type "builtin_function_or_method"), none, (.fields #[(.builtin "type.__prepare__"), (.type "type")]), #[]⟩
noncomputable def m0_100 (P : Params) : Obj := ⟨(.type "dict"), none, (.dict #[(e P "__module__" 321 (s "signferry.errors" 269)), (e P "__qualname__" 323 (s "NoHandler" 322)), (e P "__firstlineno__" 325 (.int 35 324)), (e P "__init__" 333 (.ref 111)), (e P "__static_attributes__" 335 (.ref 112))] 5), #[]⟩
noncomputable def m0_101 (P : Params) : Obj := ⟨(.type "tuple"), none, (.seq #[] 0), #[]⟩
noncomputable def m0_102 (P : Params) : Obj := ⟨.none, none, (.fields #[(.int 37 0), (.int 4 0), (.ref 110)]), #[]⟩
noncomputable def m0_103 (P : Params) : Obj := ⟨(.type "code"), none, (.fields #[(s "NoHandler" 316), (s "NoHandler" 317), (s "/claim/cut.py" 318), (.int 35 0), (.int 0 0), (.int 0 0), (.int 0 0), (.int 0 0), (.ref 101), (.bool false), (.int 181 0), (.ref 102), .none, .none, .none, .none, (.int 319 0), (.int 35 0), (s "/claim/cut.py" 320)]), #[]⟩
noncomputable def m0_104 (P : Params) : Obj := ⟨(.type "frame"), none, .plain, #[(some (.ref 103)), (some (.ref 3)), (some (.ref 100)), none, (some (s "signferry.errors" 269)), none, (some (.ref 0))]⟩
noncomputable def m0_105 (P : Params) : Obj := ⟨(.type "tuple"), none, (.seq #[] 0), #[]⟩
noncomputable def m0_106 (P : Params) : Obj := ⟨.none, none, (.fields #[]), #[]⟩
noncomputable def m0_107 (P : Params) : Obj := ⟨(.type "tuple"), none, (.seq #[(s "self" 329), (s "name" 330)] 0), #[]⟩
noncomputable def m0_108 (P : Params) : Obj := ⟨(.type "tuple"), none, (.seq #[] 0), #[]⟩
noncomputable def m0_109 (P : Params) : Obj := ⟨.none, none, (.func (f (mth 17 0) "__init__" "NoHandler.__init__" 0 [] .none .none .none .none none .none .none 0)), #[]⟩
noncomputable def m0_110 (P : Params) : Obj := ⟨(.type "code"), none, (.fields #[(s "__init__" 326), (s "NoHandler.__init__" 327), (s "/claim/cut.py" 328), (.int 37 0), (.int 2 0), (.int 0 0), (.int 0 0), (.int 3 0), (.ref 105), (.bool true), (.int 181 0), (.ref 106), .none, (.ref 107), (.ref 108), (.ref 109), (.int 331 0), (.int 37 0), (s "/claim/cut.py" 332)]), #[]⟩
noncomputable def m0_111 (P : Params) : Obj := ⟨(.type "function"), none, (.func (f (mth 17 0) "__init__" "NoHandler.__init__" 3 [] .none .none .none (s "signferry.errors" 269) none (.ref 110) .none 0)), #[]⟩
noncomputable def m0_112 (P : Params) : Obj := ⟨(.type "tuple"), none, (.seq #[(s "name" 334)] 0), #[]⟩
noncomputable def m0_113 (P : Params) : Obj := ⟨(.type "dict"), none, (.dict #[(e P "__module__" 321 (s "signferry.errors" 269)), (e P "__firstlineno__" 325 (.int 35 324)), (e P "__init__" 333 (.ref 111)), (e P "__static_attributes__" 335 (.ref 112)), (e P "__doc__" 336 .none)] 2), #[]⟩
noncomputable def m0_114 (P : Params) : Obj := ⟨(.type "type"), none, (.cls ⟨(S "NoHandler"), [(.ref 75)], [(.ref 114), (.ref 75), (.type "ValueError"), (.type "Exception"), (.type "BaseException"), (.type "object")], 113, (S "NoHandler"), true, [], [], false, none, false⟩), #[(some (.ref 98)), none, (some (s "NoHandler" 314)), (some (s "NoHandler" 322)), (some (.builtin "ValueError.__new__")), (some (.bool true))]⟩
noncomputable def m0_115 (P : Params) : Obj := ⟨(.type "super"), none, (.fields #[(.ref 114), (.ref 114), (.ref 114)]), #[]⟩
noncomputable def m0_116 (P : Params) : Obj := ⟨(.type "builtin_function_or_method"), none, (.fields #[(.builtin "object.__init_subclass__"), (.ref 114)]), #[]⟩
noncomputable def m0_117 (P : Params) : Obj := ⟨(.type "tuple"), none, (.seq #[(.ref 75)] 0), #[]⟩
noncomputable def m0_118 (P : Params) : Obj := ⟨(.type "builtin_function_or_method"), none, (.fields #[(.builtin "type.__prepare__"), (.type "type")]), #[]⟩
noncomputable def m0_119 (P : Params) : Obj := ⟨(.type "dict"), none, (.dict #[(e P "__module__" 346 (s "signferry.errors" 269)), (e P "__qualname__" 348 (s "BadCodec" 347)), (e P "__firstlineno__" 350 (.int 39 349)), (e P "__static_attributes__" 351 (.ref 124))] 4), #[]⟩
noncomputable def m0_120 (P : Params) : Obj := ⟨(.type "tuple"), none, (.seq #[] 0), #[]⟩
noncomputable def m0_121 (P : Params) : Obj := ⟨.none, none, (.fields #[]), #[]⟩
noncomputable def m0_122 (P : Params) : Obj := ⟨(.type "code"), none, (.fields #[(s "BadCodec" 341), (s "BadCodec" 342), (s "/claim/cut.py" 343), (.int 39 0), (.int 0 0), (.int 0 0), (.int 0 0), (.int 0 0), (.ref 120), (.bool false), (.int 181 0), (.ref 121), .none, .none, .none, .none, (.int 344 0), (.int 39 0), (s "/claim/cut.py" 345)]), #[]⟩
noncomputable def m0_123 (P : Params) : Obj := ⟨(.type "frame"), none, .plain, #[(some (.ref 122)), (some (.ref 3)), (some (.ref 119)), none, (some (s "signferry.errors" 269)), none, (some (.ref 0))]⟩
noncomputable def m0_124 (P : Params) : Obj := ⟨(.type "tuple"), none, (.seq #[] 0), #[]⟩
noncomputable def m0_125 (P : Params) : Obj := ⟨(.type "dict"), none, (.dict #[(e P "__module__" 346 (s "signferry.errors" 269)), (e P "__firstlineno__" 350 (.int 39 349)), (e P "__static_attributes__" 351 (.ref 124)), (e P "__doc__" 352 .none)] 2), #[]⟩
noncomputable def m0_126 (P : Params) : Obj := ⟨(.type "type"), none, (.cls ⟨(S "BadCodec"), [(.ref 75)], [(.ref 126), (.ref 75), (.type "ValueError"), (.type "Exception"), (.type "BaseException"), (.type "object")], 125, (S "BadCodec"), true, [], [], false, none, false⟩), #[(some (.ref 117)), none, (some (s "BadCodec" 339)), (some (s "BadCodec" 347)), (some (.builtin "ValueError.__new__")), (some (.bool true))]⟩
noncomputable def m0_127 (P : Params) : Obj := ⟨(.type "super"), none, (.fields #[(.ref 126), (.ref 126), (.ref 126)]), #[]⟩
noncomputable def m0_128 (P : Params) : Obj := ⟨(.type "builtin_function_or_method"), none, (.fields #[(.builtin "object.__init_subclass__"), (.ref 126)]), #[]⟩
noncomputable def m0_129 (P : Params) : Obj := ⟨(.type "tuple"), none, (.seq #[(.ref 75)] 0), #[]⟩
noncomputable def m0_130 (P : Params) : Obj := ⟨(.type "builtin_function_or_method"), none, (.fields #[(.builtin "type.__prepare__"), (.type "type")]), #[]⟩
noncomputable def m0_131 (P : Params) : Obj := ⟨(.type "dict"), none, (.dict #[(e P "__module__" 362 (s "signferry.errors" 269)), (e P "__qualname__" 364 (s "EncodeError" 363)), (e P "__firstlineno__" 366 (.int 41 365)), (e P "__init__" 378 (.ref 142)), (e P "__static_attributes__" 384 (.ref 143))] 5), #[]⟩
noncomputable def m0_132 (P : Params) : Obj := ⟨(.type "tuple"), none, (.seq #[] 0), #[]⟩
noncomputable def m0_133 (P : Params) : Obj := ⟨.none, none, (.fields #[(.int 43 0), (.int 4 0), (.ref 141)]), #[]⟩
noncomputable def m0_134 (P : Params) : Obj := ⟨(.type "code"), none, (.fields #[(s "EncodeError" 357), (s "EncodeError" 358), (s "/claim/cut.py" 359), (.int 41 0), (.int 0 0), (.int 0 0), (.int 0 0), (.int 0 0), (.ref 132), (.bool false), (.int 181 0), (.ref 133), .none, .none, .none, .none, (.int 360 0), (.int 41 0), (s "/claim/cut.py" 361)]), #[]⟩
noncomputable def m0_135 (P : Params) : Obj := ⟨(.type "frame"), none, .plain, #[(some (.ref 134)), (some (.ref 3)), (some (.ref 131)), none, (some (s "signferry.errors" 269)), none, (some (.ref 0))]⟩
noncomputable def m0_136 (P : Params) : Obj := ⟨(.type "tuple"), none, (.seq #[] 0), #[]⟩
noncomputable def m0_137 (P : Params) : Obj := ⟨.none, none, (.fields #[]), #[]⟩
noncomputable def m0_138 (P : Params) : Obj := ⟨(.type "tuple"), none, (.seq #[(s "self" 370), (s "codec" 371), (s "source" 372), (s "start" 373), (s "end" 374), (s "reason" 375)] 0), #[]⟩
noncomputable def m0_139 (P : Params) : Obj := ⟨(.type "tuple"), none, (.seq #[] 0), #[]⟩
noncomputable def m0_140 (P : Params) : Obj := ⟨.none, none, (.func (f (mth 19 0) "__init__" "EncodeError.__init__" 0 [] .none .none .none .none none .none .none 0)), #[]⟩
noncomputable def m0_141 (P : Params) : Obj := ⟨(.type "code"), none, (.fields #[(s "__init__" 367), (s "EncodeError.__init__" 368), (s "/claim/cut.py" 369), (.int 43 0), (.int 6 0), (.int 0 0), (.int 0 0), (.int 3 0), (.ref 136), (.bool true), (.int 181 0), (.ref 137), .none, (.ref 138), (.ref 139), (.ref 140), (.int 376 0), (.int 43 0), (s "/claim/cut.py" 377)]), #[]⟩
noncomputable def m0_142 (P : Params) : Obj := ⟨(.type "function"), none, (.func (f (mth 19 0) "__init__" "EncodeError.__init__" 3 [] .none .none .none (s "signferry.errors" 269) none (.ref 141) .none 0)), #[]⟩
noncomputable def m0_143 (P : Params) : Obj := ⟨(.type "tuple"), none, (.seq #[(s "codec" 379), (s "end" 380), (s "reason" 381), (s "source" 382), (s "start" 383)] 0), #[]⟩
noncomputable def m0_144 (P : Params) : Obj := ⟨(.type "dict"), none, (.dict #[(e P "__module__" 362 (s "signferry.errors" 269)), (e P "__firstlineno__" 366 (.int 41 365)), (e P "__init__" 378 (.ref 142)), (e P "__static_attributes__" 384 (.ref 143)), (e P "__doc__" 385 .none)] 2), #[]⟩
noncomputable def m0_145 (P : Params) : Obj := ⟨(.type "type"), none, (.cls ⟨(S "EncodeError"), [(.ref 75)], [(.ref 145), (.ref 75), (.type "ValueError"), (.type "Exception"), (.type "BaseException"), (.type "object")], 144, (S "EncodeError"), true, [], [], false, none, false⟩), #[(some (.ref 129)), none, (some (s "EncodeError" 355)), (some (s "EncodeError" 363)), (some (.builtin "ValueError.__new__")), (some (.bool true))]⟩
noncomputable def m0_146 (P : Params) : Obj := ⟨(.type "super"), none, (.fields #[(.ref 145), (.ref 145), (.ref 145)]), #[]⟩
noncomputable def m0_147 (P : Params) : Obj := ⟨(.type "builtin_function_or_method"), none, (.fields #[(.builtin "object.__init_subclass__"), (.ref 145)]), #[]⟩
noncomputable def m0_148 (P : Params) : Obj := ⟨(.type "tuple"), none, (.seq #[(.ref 75)] 0), #[]⟩
noncomputable def m0_149 (P : Params) : Obj := ⟨(.type "builtin_function_or_method"), none, (.fields #[(.builtin "type.__prepare__"), (.type "type")]), #[]⟩
noncomputable def m0_150 (P : Params) : Obj := ⟨(.type "dict"), none, (.dict #[(e P "__module__" 395 (s "signferry.errors" 269)), (e P "__qualname__" 397 (s "DecodeError" 396)), (e P "__firstlineno__" 399 (.int 49 398)), (e P "__init__" 411 (.ref 161)), (e P "__static_attributes__" 417 (.ref 162))] 5), #[]⟩
noncomputable def m0_151 (P : Params) : Obj := ⟨(.type "tuple"), none, (.seq #[] 0), #[]⟩
noncomputable def m0_152 (P : Params) : Obj := ⟨.none, none, (.fields #[(.int 51 0), (.int 4 0), (.ref 160)]), #[]⟩
noncomputable def m0_153 (P : Params) : Obj := ⟨(.type "code"), none, (.fields #[(s "DecodeError" 390), (s "DecodeError" 391), (s "/claim/cut.py" 392), (.int 49 0), (.int 0 0), (.int 0 0), (.int 0 0), (.int 0 0), (.ref 151), (.bool false), (.int 181 0), (.ref 152), .none, .none, .none, .none, (.int 393 0), (.int 49 0), (s "/claim/cut.py" 394)]), #[]⟩
noncomputable def m0_154 (P : Params) : Obj := ⟨(.type "frame"), none, .plain, #[(some (.ref 153)), (some (.ref 3)), (some (.ref 150)), none, (some (s "signferry.errors" 269)), none, (some (.ref 0))]⟩
noncomputable def m0_155 (P : Params) : Obj := ⟨(.type "tuple"), none, (.seq #[] 0), #[]⟩
noncomputable def m0_156 (P : Params) : Obj := ⟨.none, none, (.fields #[]), #[]⟩
noncomputable def m0_157 (P : Params) : Obj := ⟨(.type "tuple"), none, (.seq #[(s "self" 403), (s "codec" 404), (s "source" 405), (s "start" 406), (s "end" 407), (s "reason" 408)] 0), #[]⟩
noncomputable def m0_158 (P : Params) : Obj := ⟨(.type "tuple"), none, (.seq #[] 0), #[]⟩
noncomputable def m0_159 (P : Params) : Obj := ⟨.none, none, (.func (f (mth 20 0) "__init__" "DecodeError.__init__" 0 [] .none .none .none .none none .none .none 0)), #[]⟩
noncomputable def m0_160 (P : Params) : Obj := ⟨(.type "code"), none, (.fields #[(s "__init__" 400), (s "DecodeError.__init__" 401), (s "/claim/cut.py" 402), (.int 51 0), (.int 6 0), (.int 0 0), (.int 0 0), (.int 3 0), (.ref 155), (.bool true), (.int 181 0), (.ref 156), .none, (.ref 157), (.ref 158), (.ref 159), (.int 409 0), (.int 51 0), (s "/claim/cut.py" 410)]), #[]⟩
noncomputable def m0_161 (P : Params) : Obj := ⟨(.type "function"), none, (.func (f (mth 20 0) "__init__" "DecodeError.__init__" 3 [] .none .none .none (s "signferry.errors" 269) none (.ref 160) .none 0)), #[]⟩
noncomputable def m0_162 (P : Params) : Obj := ⟨(.type "tuple"), none, (.seq #[(s "codec" 412), (s "end" 413), (s "reason" 414), (s "source" 415), (s "start" 416)] 0), #[]⟩
noncomputable def m0_163 (P : Params) : Obj := ⟨(.type "dict"), none, (.dict #[(e P "__module__" 395 (s "signferry.errors" 269)), (e P "__firstlineno__" 399 (.int 49 398)), (e P "__init__" 411 (.ref 161)), (e P "__static_attributes__" 417 (.ref 162)), (e P "__doc__" 418 .none)] 2), #[]⟩
noncomputable def m0_164 (P : Params) : Obj := ⟨(.type "type"), none, (.cls ⟨(S "DecodeError"), [(.ref 75)], [(.ref 164), (.ref 75), (.type "ValueError"), (.type "Exception"), (.type "BaseException"), (.type "object")], 163, (S "DecodeError"), true, [], [], false, none, false⟩), #[(some (.ref 148)), none, (some (s "DecodeError" 388)), (some (s "DecodeError" 396)), (some (.builtin "ValueError.__new__")), (some (.bool true))]⟩
noncomputable def m0_165 (P : Params) : Obj := ⟨(.type "super"), none, (.fields #[(.ref 164), (.ref 164), (.ref 164)]), #[]⟩
noncomputable def m0_166 (P : Params) : Obj := ⟨(.type "builtin_function_or_method"), none, (.fields #[(.builtin "object.__init_subclass__"), (.ref 164)]), #[]⟩
noncomputable def m0_167 (P : Params) : Obj := ⟨(.type "tuple"), none, (.seq #[(.ref 75)] 0), #[]⟩
noncomputable def m0_168 (P : Params) : Obj := ⟨(.type "builtin_function_or_method"), none, (.fields #[(.builtin "type.__prepare__"), (.type "type")]), #[]⟩
noncomputable def m0_169 (P : Params) : Obj := ⟨(.type "dict"), none, (.dict #[(e P "__module__" 428 (s "signferry.errors" 269)), (e P "__qualname__" 430 (s "BadAnswer" 429)), (e P "__firstlineno__" 432 (.int 57 431)), (e P "__static_attributes__" 433 (.ref 174))] 4), #[]⟩
noncomputable def m0_170 (P : Params) : Obj := ⟨(.type "tuple"), none, (.seq #[] 0), #[]⟩
noncomputable def m0_171 (P : Params) : Obj := ⟨.none, none, (.fields #[]), #[]⟩
noncomputable def m0_172 (P : Params) : Obj := ⟨(.type "code"), none, (.fields #[(s "BadAnswer" 423), (s "BadAnswer" 424), (s "/claim/cut.py" 425), (.int 57 0), (.int 0 0), (.int 0 0), (.int 0 0), (.int 0 0), (.ref 170), (.bool false), (.int 181 0), (.ref 171), .none, .none, .none, .none, (.int 426 0), (.int 57 0), (s "/claim/cut.py" 427)]), #[]⟩
noncomputable def m0_173 (P : Params) : Obj := ⟨(.type "frame"), none, .plain, #[(some (.ref 172)), (some (.ref 3)), (some (.ref 169)), none, (some (s "signferry.errors" 269)), none, (some (.ref 0))]⟩
noncomputable def m0_174 (P : Params) : Obj := ⟨(.type "tuple"), none, (.seq #[] 0), #[]⟩
noncomputable def m0_175 (P : Params) : Obj := ⟨(.type "dict"), none, (.dict #[(e P "__module__" 428 (s "signferry.errors" 269)), (e P "__firstlineno__" 432 (.int 57 431)), (e P "__static_attributes__" 433 (.ref 174)), (e P "__doc__" 434 .none)] 2), #[]⟩
noncomputable def m0_176 (P : Params) : Obj := ⟨(.type "type"), none, (.cls ⟨(S "BadAnswer"), [(.ref 75)], [(.ref 176), (.ref 75), (.type "ValueError"), (.type "Exception"), (.type "BaseException"), (.type "object")], 175, (S "BadAnswer"), true, [], [], false, none, false⟩), #[(some (.ref 167)), none, (some (s "BadAnswer" 421)), (some (s "BadAnswer" 429)), (some (.builtin "ValueError.__new__")), (some (.bool true))]⟩
noncomputable def m0_177 (P : Params) : Obj := ⟨(.type "super"), none, (.fields #[(.ref 176), (.ref 176), (.ref 176)]), #[]⟩
noncomputable def m0_178 (P : Params) : Obj := ⟨(.type "builtin_function_or_method"), none, (.fields #[(.builtin "object.__init_subclass__"), (.ref 176)]), #[]⟩
noncomputable def m0_179 (P : Params) : Obj := ⟨(.type "tuple"), none, (.seq #[(.ref 75)] 0), #[]⟩
noncomputable def m0_180 (P : Params) : Obj := ⟨(.type "builtin_function_or_method"), none, (.fields #[(.builtin "type.__prepare__"), (.type "type")]), #[]⟩
noncomputable def m0_181 (P : Params) : Obj := ⟨(.type "dict"), none, (.dict #[(e P "__module__" 444 (s "signferry.errors" 269)), (e P "__qualname__" 446 (s "BadPlace" 445)), (e P "__firstlineno__" 448 (.int 59 447)), (e P "__init__" 456 (.ref 192)), (e P "__static_attributes__" 458 (.ref 193))] 5), #[]⟩
noncomputable def m0_182 (P : Params) : Obj := ⟨(.type "tuple"), none, (.seq #[] 0), #[]⟩
noncomputable def m0_183 (P : Params) : Obj := ⟨.none, none, (.fields #[(.int 61 0), (.int 4 0), (.ref 191)]), #[]⟩
noncomputable def m0_184 (P : Params) : Obj := ⟨(.type "code"), none, (.fields #[(s "BadPlace" 439), (s "BadPlace" 440), (s "/claim/cut.py" 441), (.int 59 0), (.int 0 0), (.int 0 0), (.int 0 0), (.int 0 0), (.ref 182), (.bool false), (.int 181 0), (.ref 183), .none, .none, .none, .none, (.int 442 0), (.int 59 0), (s "/claim/cut.py" 443)]), #[]⟩
noncomputable def m0_185 (P : Params) : Obj := ⟨(.type "frame"), none, .plain, #[(some (.ref 184)), (some (.ref 3)), (some (.ref 181)), none, (some (s "signferry.errors" 269)), none, (some (.ref 0))]⟩
noncomputable def m0_186 (P : Params) : Obj := ⟨(.type "tuple"), none, (.seq #[] 0), #[]⟩
noncomputable def m0_187 (P : Params) : Obj := ⟨.none, none, (.fields #[]), #[]⟩
noncomputable def m0_188 (P : Params) : Obj := ⟨(.type "tuple"), none, (.seq #[(s "self" 452), (s "place" 453)] 0), #[]⟩
noncomputable def m0_189 (P : Params) : Obj := ⟨(.type "tuple"), none, (.seq #[] 0), #[]⟩
noncomputable def m0_190 (P : Params) : Obj := ⟨.none, none, (.func (f (mth 22 0) "__init__" "BadPlace.__init__" 0 [] .none .none .none .none none .none .none 0)), #[]⟩
noncomputable def m0_191 (P : Params) : Obj := ⟨(.type "code"), none, (.fields #[(s "__init__" 449), (s "BadPlace.__init__" 450), (s "/claim/cut.py" 451), (.int 61 0), (.int 2 0), (.int 0 0), (.int 0 0), (.int 3 0), (.ref 186), (.bool true), (.int 181 0), (.ref 187), .none, (.ref 188), (.ref 189), (.ref 190), (.int 454 0), (.int 61 0), (s "/claim/cut.py" 455)]), #[]⟩
noncomputable def m0_192 (P : Params) : Obj := ⟨(.type "function"), none, (.func (f (mth 22 0) "__init__" "BadPlace.__init__" 3 [] .none .none .none (s "signferry.errors" 269) none (.ref 191) .none 0)), #[]⟩
noncomputable def m0_193 (P : Params) : Obj := ⟨(.type "tuple"), none, (.seq #[(s "place" 457)] 0), #[]⟩
noncomputable def m0_194 (P : Params) : Obj := ⟨(.type "dict"), none, (.dict #[(e P "__module__" 444 (s "signferry.errors" 269)), (e P "__firstlineno__" 448 (.int 59 447)), (e P "__init__" 456 (.ref 192)), (e P "__static_attributes__" 458 (.ref 193)), (e P "__doc__" 459 .none)] 2), #[]⟩
noncomputable def m0_195 (P : Params) : Obj := ⟨(.type "type"), none, (.cls ⟨(S "BadPlace"), [(.ref 75)], [(.ref 195), (.ref 75), (.type "ValueError"), (.type "Exception"), (.type "BaseException"), (.type "object")], 194, (S "BadPlace"), true, [], [], false, none, false⟩), #[(some (.ref 179)), none, (some (s "BadPlace" 437)), (some (s "BadPlace" 445)), (some (.builtin "ValueError.__new__")), (some (.bool true))]⟩
noncomputable def m0_196 (P : Params) : Obj := ⟨(.type "super"), none, (.fields #[(.ref 195), (.ref 195), (.ref 195)]), #[]⟩
noncomputable def m0_197 (P : Params) : Obj := ⟨(.type "builtin_function_or_method"), none, (.fields #[(.builtin "object.__init_subclass__"), (.ref 195)]), #[]⟩
noncomputable def m0_198 (P : Params) : Obj := ⟨(.type "tuple"), none, (.seq #[(.ref 75)] 0), #[]⟩
noncomputable def m0_199 (P : Params) : Obj := ⟨(.type "builtin_function_or_method"), none, (.fields #[(.builtin "type.__prepare__"), (.type "type")]), #[]⟩
noncomputable def m0_200 (P : Params) : Obj := ⟨(.type "dict"), none, (.dict #[(e P "__module__" 469 (s "signferry.errors" 269)), (e P "__qualname__" 471 (s "BadTable" 470)), (e P "__firstlineno__" 473 (.int 63 472)), (e P "__static_attributes__" 474 (.ref 205))] 4), #[]⟩
noncomputable def m0_201 (P : Params) : Obj := ⟨(.type "tuple"), none, (.seq #[] 0), #[]⟩
noncomputable def m0_202 (P : Params) : Obj := ⟨.none, none, (.fields #[]), #[]⟩
noncomputable def m0_203 (P : Params) : Obj := ⟨(.type "code"), none, (.fields #[(s "BadTable" 464), (s "BadTable" 465), (s "/claim/cut.py" 466), (.int 63 0), (.int 0 0), (.int 0 0), (.int 0 0), (.int 0 0), (.ref 201), (.bool false), (.int 181 0), (.ref 202), .none, .none, .none, .none, (.int 467 0), (.int 63 0), (s "/claim/cut.py" 468)]), #[]⟩
noncomputable def m0_204 (P : Params) : Obj := ⟨(.type "frame"), none, .plain, #[(some (.ref 203)), (some (.ref 3)), (some (.ref 200)), none, (some (s "signferry.errors" 269)), none, (some (.ref 0))]⟩
noncomputable def m0_205 (P : Params) : Obj := ⟨(.type "tuple"), none, (.seq #[] 0), #[]⟩
noncomputable def m0_206 (P : Params) : Obj := ⟨(.type "dict"), none, (.dict #[(e P "__module__" 469 (s "signferry.errors" 269)), (e P "__firstlineno__" 473 (.int 63 472)), (e P "__static_attributes__" 474 (.ref 205)), (e P "__doc__" 475 .none)] 2), #[]⟩
noncomputable def m0_207 (P : Params) : Obj := ⟨(.type "type"), none, (.cls ⟨(S "BadTable"), [(.ref 75)], [(.ref 207), (.ref 75), (.type "ValueError"), (.type "Exception"), (.type "BaseException"), (.type "object")], 206, (S "BadTable"), true, [], [], false, none, false⟩), #[(some (.ref 198)), none, (some (s "BadTable" 462)), (some (s "BadTable" 470)), (some (.builtin "ValueError.__new__")), (some (.bool true))]⟩
noncomputable def m0_208 (P : Params) : Obj := ⟨(.type "super"), none, (.fields #[(.ref 207), (.ref 207), (.ref 207)]), #[]⟩
noncomputable def m0_209 (P : Params) : Obj := ⟨(.type "builtin_function_or_method"), none, (.fields #[(.builtin "object.__init_subclass__"), (.ref 207)]), #[]⟩
noncomputable def m0_210 (P : Params) : Obj := ⟨(.type "tuple"), none, (.seq #[(.int 0 482), (.int 1 483), (.int 2 484), (.int 3 485), (.int 4 486), (.int 5 487), (.int 6 488), (.int 7 489), (.int 8 490), (.int 9 491), (.int 10 492), (.int 11 493), (.int 12 494), (.int 13 495), (.int 14 496), (.int 15 497), (.int 16 498), (.int 17 499), (.int 18 500), (.int 19 501), (.int 20 502), (.int 21 503), (.int 22 504), (.int 23 505), (.int 24 506), (.int 25 507), (.int 26 508), (.int 27 509), (.int 28 510), (.int 29 511), (.int 30 512), (.int 31 513), (.int 32 514), (.int 33 515), (.int 34 516), (.int 35 517), (.int 36 518), (.int 37 519), (.int 38 520), (.int 39 521), (.int 40 522), (.int 41 523), (.int 42 524), (.int 43 525), (.int 44 526), (.int 45 527), (.int 46 528), (.int 47 529), (.int 48 530), (.int 49 531), (.int 50 532), (.int 51 533), (.int 52 534), (.int 53 535), (.int 54 536), (.int 55 537), (.int 56 538), (.int 57 539), (.int 58 540), (.int 59 541), (.int 60 542), (.int 61 543), (.int 62 544), (.int 63 545), (.int 64 546), (.int 65 547), (.int 66 548), (.int 67 549), (.int 68 550), (.int 69 551), (.int 70 552), (.int 71 553), (.int 72 554), (.int 73 555), (.int 74 556), (.int 75 557), (.int 76 558), (.int 77 559), (.int 78 560), (.int 79 561), (.int 80 562), (.int 81 563), (.int 82 564), (.int 83 565), (.int 84 566), (.int 85 567), (.int 86 568), (.int 87 569), (.int 88 570), (.int 89 571), (.int 90 572), (.int 91 573), (.int 92 574), (.int 93 575), (.int 94 576), (.int 95 577), (.int 96 578), (.int 97 579), (.int 98 580), (.int 99 581), (.int 100 582), (.int 101 583), (.int 102 584), (.int 103 585), (.int 104 586), (.int 105 587), (.int 106 588), (.int 107 589), (.int 108 590), (.int 109 591), (.int 110 592), (.int 111 593), (.int 112 594), (.int 113 595), (.int 114 596), (.int 115 597), (.int 116 598), (.int 117 599), (.int 118 600), (.int 119 601), (.int 120 602), (.int 121 603), (.int 122 604), (.int 123 605), (.int 124 606), (.int 125 607), (.int 126 608), (.int 127 609)] 0), #[]⟩
noncomputable def m0_211 (P : Params) : Obj := ⟨(.type "tuple"), none, (.seq #[(.int 128 611), (.int 129 612), (.int 130 613), (.int 131 614), (.int 132 615), (.int 133 616), (.int 134 617), (.int 135 618), (.int 136 619), (.int 137 620), (.int 138 621), (.int 139 622), (.int 140 623), (.int 141 624), (.int 142 625), (.int 143 626), (.int 144 627), (.int 145 628), (.int 146 629), (.int 147 630), (.int 148 631), (.int 149 632), (.int 150 633), (.int 151 634), (.int 152 635), (.int 153 636), (.int 154 637), (.int 155 638), (.int 156 639), (.int 157 640), (.int 158 641), (.int 159 642)] 0), #[]⟩
noncomputable def m0_212 (P : Params) : Obj := ⟨(.type "tuple"), none, (.seq #[(.int 160 644), (.int 161 645), (.int 162 646), (.int 163 647), (.int 164 648), (.int 165 649), (.int 166 650), (.int 167 651), (.int 168 652), (.int 169 653), (.int 170 654), (.int 171 655), (.int 172 656), (.int 173 657), (.int 174 658), (.int 175 659), (.int 176 660), (.int 177 661), (.int 178 662), (.int 179 663), (.int 180 664), (.int 181 665), (.int 182 666), (.int 183 667), (.int 184 668), (.int 185 669), (.int 186 670), (.int 187 671), (.int 188 672), (.int 189 673), (.int 190 674), (.int 191 675), (.int 192 676), (.int 193 677), (.int 194 678), (.int 195 679), (.int 196 680), (.int 197 681), (.int 198 682), (.int 199 683), (.int 200 684), (.int 201 685), (.int 202 686), (.int 203 687), (.int 204 688), (.int 205 689), (.int 206 690), (.int 207 691), (.int 208 692), (.int 209 693), (.int 210 694), (.int 211 695), (.int 212 696), (.int 213 697), (.int 214 698), (.int 215 699), (.int 216 700), (.int 217 701), (.int 218 702), (.int 219 703), (.int 220 704), (.int 221 705), (.int 222 706), (.int 223 707), (.int 224 708), (.int 225 709), (.int 226 710), (.int 227 711), (.int 228 712), (.int 229 713), (.int 230 714), (.int 231 715), (.int 232 716), (.int 233 717), (.int 234 718), (.int 235 719), (.int 236 720), (.int 237 721), (.int 238 722), (.int 239 723), (.int 240 724), (.int 241 725), (.int 242 726), (.int 243 727), (.int 244 728), (.int 245 729), (.int 246 730), (.int 247 731), (.int 248 732), (.int 249 733), (.int 250 734), (.int 251 735), (.int 252 736), (.int 253 737), (.int 254 738), (.int 255 739)] 0), #[]⟩
noncomputable def m0_213 (P : Params) : Obj := ⟨(.type "tuple"), none, (.seq #[(.int 8364 741), .none, (.int 8218 742), (.int 402 743), (.int 8222 744), (.int 8230 745), (.int 8224 746), (.int 8225 747), (.int 710 748), (.int 8240 749), (.int 352 750), (.int 8249 751), (.int 338 752), .none, (.int 381 753), .none, .none, (.int 8216 754), (.int 8217 755), (.int 8220 756), (.int 8221 757), (.int 8226 758), (.int 8211 759), (.int 8212 760), (.int 732 761), (.int 8482 762), (.int 353 763), (.int 8250 764), (.int 339 765), .none, (.int 382 766), (.int 376 767)] 0), #[]⟩
noncomputable def m0_214 (P : Params) : Obj := ⟨(.type "tuple"), none, (.seq #[(.int 160 769), (.int 161 770), (.int 162 771), (.int 163 772), (.int 8364 773), (.int 165 774), (.int 352 775), (.int 167 776), (.int 353 777), (.int 169 778), (.int 170 779), (.int 171 780), (.int 172 781), (.int 173 782), (.int 174 783), (.int 175 784), (.int 176 785), (.int 177 786), (.int 178 787), (.int 179 788), (.int 381 789), (.int 181 790), (.int 182 791), (.int 183 792), (.int 382 793), (.int 185 794), (.int 186 795), (.int 187 796), (.int 338 797), (.int 339 798), (.int 376 799), (.int 191 800), (.int 192 801), (.int 193 802), (.int 194 803), (.int 195 804), (.int 196 805), (.int 197 806), (.int 198 807), (.int 199 808), (.int 200 809), (.int 201 810), (.int 202 811), (.int 203 812), (.int 204 813), (.int 205 814), (.int 206 815), (.int 207 816), (.int 208 817), (.int 209 818), (.int 210 819), (.int 211 820), (.int 212 821), (.int 213 822), (.int 214 823), (.int 215 824), (.int 216 825), (.int 217 826), (.int 218 827), (.int 219 828), (.int 220 829), (.int 221 830), (.int 222 831), (.int 223 832), (.int 224 833), (.int 225 834), (.int 226 835), (.int 227 836), (.int 228 837), (.int 229 838), (.int 230 839), (.int 231 840), (.int 232 841), (.int 233 842), (.int 234 843), (.int 235 844), (.int 236 845), (.int 237 846), (.int 238 847), (.int 239 848), (.int 240 849), (.int 241 850), (.int 242 851), (.int 243 852), (.int 244 853), (.int 245 854), (.int 246 855), (.int 247 856), (.int 248 857), (.int 249 858), (.int 250 859), (.int 251 860), (.int 252 861), (.int 253 862), (.int 254 863), (.int 255 864)] 0), #[]⟩
noncomputable def m0_215 (P : Params) : Obj := ⟨(.type "tuple"), none, (.seq #[(.int 9472 866), (.int 9474 867), (.int 9484 868), (.int 9488 869), (.int 9492 870), (.int 9496 871), (.int 9500 872), (.int 9508 873), (.int 9516 874), (.int 9524 875), (.int 9532 876), (.int 9600 877), (.int 9604 878), (.int 9608 879), (.int 9612 880), (.int 9616 881), (.int 9617 882), (.int 9618 883), (.int 9619 884), (.int 8992 885), (.int 9632 886), (.int 8729 887), (.int 8730 888), (.int 8776 889), (.int 8804 890), (.int 8805 891), (.int 160 892), (.int 8993 893), (.int 176 894), (.int 178 895), (.int 183 896), (.int 247 897), (.int 9552 898), (.int 9553 899), (.int 9554 900), (.int 1105 901), (.int 9555 902), (.int 9556 903), (.int 9557 904), (.int 9558 905), (.int 9559 906), (.int 9560 907), (.int 9561 908), (.int 9562 909), (.int 9563 910), (.int 9564 911), (.int 9565 912), (.int 9566 913), (.int 9567 914), (.int 9568 915), (.int 9569 916), (.int 1025 917), (.int 9570 918), (.int 9571 919), (.int 9572 920), (.int 9573 921), (.int 9574 922), (.int 9575 923), (.int 9576 924), (.int 9577 925), (.int 9578 926), (.int 9579 927), (.int 9580 928), (.int 169 929), (.int 1102 930), (.int 1072 931), (.int 1073 932), (.int 1094 933), (.int 1076 934), (.int 1077 935), (.int 1092 936), (.int 1075 937), (.int 1093 938), (.int 1080 939), (.int 1081 940), (.int 1082 941), (.int 1083 942), (.int 1084 943), (.int 1085 944), (.int 1086 945), (.int 1087 946), (.int 1103 947), (.int 1088 948), (.int 1089 949), (.int 1090 950), (.int 1091 951), (.int 1078 952), (.int 1074 953), (.int 1100 954), (.int 1099 955), (.int 1079 956), (.int 1096 957), (.int 1101 958), (.int 1097 959), (.int 1095 960), (.int 1098 961), (.int 1070 962), (.int 1040 963), (.int 1041 964), (.int 1062 965), (.int 1044 966), (.int 1045 967), (.int 1060 968), (.int 1043 969), (.int 1061 970), (.int 1048 971), (.int 1049 972), (.int 1050 973), (.int 1051 974), (.int 1052 975), (.int 1053 976), (.int 1054 977), (.int 1055 978), (.int 1071 979), (.int 1056 980), (.int 1057 981), (.int 1058 982), (.int 1059 983), (.int 1046 984), (.int 1042 985), (.int 1068 986), (.int 1067 987), (.int 1047 988), (.int 1064 989), (.int 1069 990), (.int 1065 991), (.int 1063 992), (.int 1066 993)] 0), #[]⟩
noncomputable def m0_216 (P : Params) : Obj := ⟨(.type "dict"), none, (.dict #[(e P "cp1252" 995 (.ref 218)), (e P "iso8859-15" 996 (.ref 220)), (e P "koi8-r" 997 (.ref 221))] 3), #[]⟩
noncomputable def m0_217 (P : Params) : Obj := ⟨(.type "tuple"), none, (.seq #[(.int 0 482), (.int 1 483), (.int 2 484), (.int 3 485), (.int 4 486), (.int 5 487), (.int 6 488), (.int 7 489), (.int 8 490), (.int 9 491), (.int 10 492), (.int 11 493), (.int 12 494), (.int 13 495), (.int 14 496), (.int 15 497), (.int 16 498), (.int 17 499), (.int 18 500), (.int 19 501), (.int 20 502), (.int 21 503), (.int 22 504), (.int 23 505), (.int 24 506), (.int 25 507), (.int 26 508), (.int 27 509), (.int 28 510), (.int 29 511), (.int 30 512), (.int 31 513), (.int 32 514), (.int 33 515), (.int 34 516), (.int 35 517), (.int 36 518), (.int 37 519), (.int 38 520), (.int 39 521), (.int 40 522), (.int 41 523), (.int 42 524), (.int 43 525), (.int 44 526), (.int 45 527), (.int 46 528), (.int 47 529), (.int 48 530), (.int 49 531), (.int 50 532), (.int 51 533), (.int 52 534), (.int 53 535), (.int 54 536), (.int 55 537), (.int 56 538), (.int 57 539), (.int 58 540), (.int 59 541), (.int 60 542), (.int 61 543), (.int 62 544), (.int 63 545), (.int 64 546), (.int 65 547), (.int 66 548), (.int 67 549), (.int 68 550), (.int 69 551), (.int 70 552), (.int 71 553), (.int 72 554), (.int 73 555), (.int 74 556), (.int 75 557), (.int 76 558), (.int 77 559), (.int 78 560), (.int 79 561), (.int 80 562), (.int 81 563), (.int 82 564), (.int 83 565), (.int 84 566), (.int 85 567), (.int 86 568), (.int 87 569), (.int 88 570), (.int 89 571), (.int 90 572), (.int 91 573), (.int 92 574), (.int 93 575), (.int 94 576), (.int 95 577), (.int 96 578), (.int 97 579), (.int 98 580), (.int 99 581), (.int 100 582), (.int 101 583), (.int 102 584), (.int 103 585), (.int 104 586), (.int 105 587), (.int 106 588), (.int 107 589), (.int 108 590), (.int 109 591), (.int 110 592), (.int 111 593), (.int 112 594), (.int 113 595), (.int 114 596), (.int 115 597), (.int 116 598), (.int 117 599), (.int 118 600), (.int 119 601), (.int 120 602), (.int 121 603), (.int 122 604), (.int 123 605), (.int 124 606), (.int 125 607), (.int 126 608), (.int 127 609), (.int 8364 741), .none, (.int 8218 742), (.int 402 743), (.int 8222 744), (.int 8230 745), (.int 8224 746), (.int 8225 747), (.int 710 748), (.int 8240 749), (.int 352 750), (.int 8249 751), (.int 338 752), .none, (.int 381 753), .none, .none, (.int 8216 754), (.int 8217 755), (.int 8220 756), (.int 8221 757), (.int 8226 758), (.int 8211 759), (.int 8212 760), (.int 732 761), (.int 8482 762), (.int 353 763), (.int 8250 764), (.int 339 765), .none, (.int 382 766), (.int 376 767)] 0), #[]⟩
noncomputable def m0_218 (P : Params) : Obj := ⟨(.type "tuple"), none, (.seq #[(.int 0 482), (.int 1 483), (.int 2 484), (.int 3 485), (.int 4 486), (.int 5 487), (.int 6 488), (.int 7 489), (.int 8 490), (.int 9 491), (.int 10 492), (.int 11 493), (.int 12 494), (.int 13 495), (.int 14 496), (.int 15 497), (.int 16 498), (.int 17 499), (.int 18 500), (.int 19 501), (.int 20 502), (.int 21 503), (.int 22 504), (.int 23 505), (.int 24 506), (.int 25 507), (.int 26 508), (.int 27 509), (.int 28 510), (.int 29 511), (.int 30 512), (.int 31 513), (.int 32 514), (.int 33 515), (.int 34 516), (.int 35 517), (.int 36 518), (.int 37 519), (.int 38 520), (.int 39 521), (.int 40 522), (.int 41 523), (.int 42 524), (.int 43 525), (.int 44 526), (.int 45 527), (.int 46 528), (.int 47 529), (.int 48 530), (.int 49 531), (.int 50 532), (.int 51 533), (.int 52 534), (.int 53 535), (.int 54 536), (.int 55 537), (.int 56 538), (.int 57 539), (.int 58 540), (.int 59 541), (.int 60 542), (.int 61 543), (.int 62 544), (.int 63 545), (.int 64 546), (.int 65 547), (.int 66 548), (.int 67 549), (.int 68 550), (.int 69 551), (.int 70 552), (.int 71 553), (.int 72 554), (.int 73 555), (.int 74 556), (.int 75 557), (.int 76 558), (.int 77 559), (.int 78 560), (.int 79 561), (.int 80 562), (.int 81 563), (.int 82 564), (.int 83 565), (.int 84 566), (.int 85 567), (.int 86 568), (.int 87 569), (.int 88 570), (.int 89 571), (.int 90 572), (.int 91 573), (.int 92 574), (.int 93 575), (.int 94 576), (.int 95 577), (.int 96 578), (.int 97 579), (.int 98 580), (.int 99 581), (.int 100 582), (.int 101 583), (.int 102 584), (.int 103 585), (.int 104 586), (.int 105 587), (.int 106 588), (.int 107 589), (.int 108 590), (.int 109 591), (.int 110 592), (.int 111 593), (.int 112 594), (.int 113 595), (.int 114 596), (.int 115 597), (.int 116 598), (.int 117 599), (.int 118 600), (.int 119 601), (.int 120 602), (.int 121 603), (.int 122 604), (.int 123 605), (.int 124 606), (.int 125 607), (.int 126 608), (.int 127 609), (.int 8364 741), .none, (.int 8218 742), (.int 402 743), (.int 8222 744), (.int 8230 745), (.int 8224 746), (.int 8225 747), (.int 710 748), (.int 8240 749), (.int 352 750), (.int 8249 751), (.int 338 752), .none, (.int 381 753), .none, .none, (.int 8216 754), (.int 8217 755), (.int 8220 756), (.int 8221 757), (.int 8226 758), (.int 8211 759), (.int 8212 760), (.int 732 761), (.int 8482 762), (.int 353 763), (.int 8250 764), (.int 339 765), .none, (.int 382 766), (.int 376 767), (.int 160 644), (.int 161 645), (.int 162 646), (.int 163 647), (.int 164 648), (.int 165 649), (.int 166 650), (.int 167 651), (.int 168 652), (.int 169 653), (.int 170 654), (.int 171 655), (.int 172 656), (.int 173 657), (.int 174 658), (.int 175 659), (.int 176 660), (.int 177 661), (.int 178 662), (.int 179 663), (.int 180 664), (.int 181 665), (.int 182 666), (.int 183 667), (.int 184 668), (.int 185 669), (.int 186 670), (.int 187 671), (.int 188 672), (.int 189 673), (.int 190 674), (.int 191 675), (.int 192 676), (.int 193 677), (.int 194 678), (.int 195 679), (.int 196 680), (.int 197 681), (.int 198 682), (.int 199 683), (.int 200 684), (.int 201 685), (.int 202 686), (.int 203 687), (.int 204 688), (.int 205 689), (.int 206 690), (.int 207 691), (.int 208 692), (.int 209 693), (.int 210 694), (.int 211 695), (.int 212 696), (.int 213 697), (.int 214 698), (.int 215 699), (.int 216 700), (.int 217 701), (.int 218 702), (.int 219 703), (.int 220 704), (.int 221 705), (.int 222 706), (.int 223 707), (.int 224 708), (.int 225 709), (.int 226 710), (.int 227 711), (.int 228 712), (.int 229 713), (.int 230 714), (.int 231 715), (.int 232 716), (.int 233 717), (.int 234 718), (.int 235 719), (.int 236 720), (.int 237 721), (.int 238 722), (.int 239 723), (.int 240 724), (.int 241 725), (.int 242 726), (.int 243 727), (.int 244 728), (.int 245 729), (.int 246 730), (.int 247 731), (.int 248 732), (.int 249 733), (.int 250 734), (.int 251 735), (.int 252 736), (.int 253 737), (.int 254 738), (.int 255 739)] 0), #[]⟩
noncomputable def m0_219 (P : Params) : Obj := ⟨(.type "tuple"), none, (.seq #[(.int 0 482), (.int 1 483), (.int 2 484), (.int 3 485), (.int 4 486), (.int 5 487), (.int 6 488), (.int 7 489), (.int 8 490), (.int 9 491), (.int 10 492), (.int 11 493), (.int 12 494), (.int 13 495), (.int 14 496), (.int 15 497), (.int 16 498), (.int 17 499), (.int 18 500), (.int 19 501), (.int 20 502), (.int 21 503), (.int 22 504), (.int 23 505), (.int 24 506), (.int 25 507), (.int 26 508), (.int 27 509), (.int 28 510), (.int 29 511), (.int 30 512), (.int 31 513), (.int 32 514), (.int 33 515), (.int 34 516), (.int 35 517), (.int 36 518), (.int 37 519), (.int 38 520), (.int 39 521), (.int 40 522), (.int 41 523), (.int 42 524), (.int 43 525), (.int 44 526), (.int 45 527), (.int 46 528), (.int 47 529), (.int 48 530), (.int 49 531), (.int 50 532), (.int 51 533), (.int 52 534), (.int 53 535), (.int 54 536), (.int 55 537), (.int 56 538), (.int 57 539), (.int 58 540), (.int 59 541), (.int 60 542), (.int 61 543), (.int 62 544), (.int 63 545), (.int 64 546), (.int 65 547), (.int 66 548), (.int 67 549), (.int 68 550), (.int 69 551), (.int 70 552), (.int 71 553), (.int 72 554), (.int 73 555), (.int 74 556), (.int 75 557), (.int 76 558), (.int 77 559), (.int 78 560), (.int 79 561), (.int 80 562), (.int 81 563), (.int 82 564), (.int 83 565), (.int 84 566), (.int 85 567), (.int 86 568), (.int 87 569), (.int 88 570), (.int 89 571), (.int 90 572), (.int 91 573), (.int 92 574), (.int 93 575), (.int 94 576), (.int 95 577), (.int 96 578), (.int 97 579), (.int 98 580), (.int 99 581), (.int 100 582), (.int 101 583), (.int 102 584), (.int 103 585), (.int 104 586), (.int 105 587), (.int 106 588), (.int 107 589), (.int 108 590), (.int 109 591), (.int 110 592), (.int 111 593), (.int 112 594), (.int 113 595), (.int 114 596), (.int 115 597), (.int 116 598), (.int 117 599), (.int 118 600), (.int 119 601), (.int 120 602), (.int 121 603), (.int 122 604), (.int 123 605), (.int 124 606), (.int 125 607), (.int 126 608), (.int 127 609), (.int 128 611), (.int 129 612), (.int 130 613), (.int 131 614), (.int 132 615), (.int 133 616), (.int 134 617), (.int 135 618), (.int 136 619), (.int 137 620), (.int 138 621), (.int 139 622), (.int 140 623), (.int 141 624), (.int 142 625), (.int 143 626), (.int 144 627), (.int 145 628), (.int 146 629), (.int 147 630), (.int 148 631), (.int 149 632), (.int 150 633), (.int 151 634), (.int 152 635), (.int 153 636), (.int 154 637), (.int 155 638), (.int 156 639), (.int 157 640), (.int 158 641), (.int 159 642)] 0), #[]⟩
noncomputable def m0_220 (P : Params) : Obj := ⟨(.type "tuple"), none, (.seq #[(.int 0 482), (.int 1 483), (.int 2 484), (.int 3 485), (.int 4 486), (.int 5 487), (.int 6 488), (.int 7 489), (.int 8 490), (.int 9 491), (.int 10 492), (.int 11 493), (.int 12 494), (.int 13 495), (.int 14 496), (.int 15 497), (.int 16 498), (.int 17 499), (.int 18 500), (.int 19 501), (.int 20 502), (.int 21 503), (.int 22 504), (.int 23 505), (.int 24 506), (.int 25 507), (.int 26 508), (.int 27 509), (.int 28 510), (.int 29 511), (.int 30 512), (.int 31 513), (.int 32 514), (.int 33 515), (.int 34 516), (.int 35 517), (.int 36 518), (.int 37 519), (.int 38 520), (.int 39 521), (.int 40 522), (.int 41 523), (.int 42 524), (.int 43 525), (.int 44 526), (.int 45 527), (.int 46 528), (.int 47 529), (.int 48 530), (.int 49 531), (.int 50 532), (.int 51 533), (.int 52 534), (.int 53 535), (.int 54 536), (.int 55 537), (.int 56 538), (.int 57 539), (.int 58 540), (.int 59 541), (.int 60 542), (.int 61 543), (.int 62 544), (.int 63 545), (.int 64 546), (.int 65 547), (.int 66 548), (.int 67 549), (.int 68 550), (.int 69 551), (.int 70 552), (.int 71 553), (.int 72 554), (.int 73 555), (.int 74 556), (.int 75 557), (.int 76 558), (.int 77 559), (.int 78 560), (.int 79 561), (.int 80 562), (.int 81 563), (.int 82 564), (.int 83 565), (.int 84 566), (.int 85 567), (.int 86 568), (.int 87 569), (.int 88 570), (.int 89 571), (.int 90 572), (.int 91 573), (.int 92 574), (.int 93 575), (.int 94 576), (.int 95 577), (.int 96 578), (.int 97 579), (.int 98 580), (.int 99 581), (.int 100 582), (.int 101 583), (.int 102 584), (.int 103 585), (.int 104 586), (.int 105 587), (.int 106 588), (.int 107 589), (.int 108 590), (.int 109 591), (.int 110 592), (.int 111 593), (.int 112 594), (.int 113 595), (.int 114 596), (.int 115 597), (.int 116 598), (.int 117 599), (.int 118 600), (.int 119 601), (.int 120 602), (.int 121 603), (.int 122 604), (.int 123 605), (.int 124 606), (.int 125 607), (.int 126 608), (.int 127 609), (.int 128 611), (.int 129 612), (.int 130 613), (.int 131 614), (.int 132 615), (.int 133 616), (.int 134 617), (.int 135 618), (.int 136 619), (.int 137 620), (.int 138 621), (.int 139 622), (.int 140 623), (.int 141 624), (.int 142 625), (.int 143 626), (.int 144 627), (.int 145 628), (.int 146 629), (.int 147 630), (.int 148 631), (.int 149 632), (.int 150 633), (.int 151 634), (.int 152 635), (.int 153 636), (.int 154 637), (.int 155 638), (.int 156 639), (.int 157 640), (.int 158 641), (.int 159 642), (.int 160 769), (.int 161 770), (.int 162 771), (.int 163 772), (.int 8364 773), (.int 165 774), (.int 352 775), (.int 167 776), (.int 353 777), (.int 169 778), (.int 170 779), (.int 171 780), (.int 172 781), (.int 173 782), (.int 174 783), (.int 175 784), (.int 176 785), (.int 177 786), (.int 178 787), (.int 179 788), (.int 381 789), (.int 181 790), (.int 182 791), (.int 183 792), (.int 382 793), (.int 185 794), (.int 186 795), (.int 187 796), (.int 338 797), (.int 339 798), (.int 376 799), (.int 191 800), (.int 192 801), (.int 193 802), (.int 194 803), (.int 195 804), (.int 196 805), (.int 197 806), (.int 198 807), (.int 199 808), (.int 200 809), (.int 201 810), (.int 202 811), (.int 203 812), (.int 204 813), (.int 205 814), (.int 206 815), (.int 207 816), (.int 208 817), (.int 209 818), (.int 210 819), (.int 211 820), (.int 212 821), (.int 213 822), (.int 214 823), (.int 215 824), (.int 216 825), (.int 217 826), (.int 218 827), (.int 219 828), (.int 220 829), (.int 221 830), (.int 222 831), (.int 223 832), (.int 224 833), (.int 225 834), (.int 226 835), (.int 227 836), (.int 228 837), (.int 229 838), (.int 230 839), (.int 231 840), (.int 232 841), (.int 233 842), (.int 234 843), (.int 235 844), (.int 236 845), (.int 237 846), (.int 238 847), (.int 239 848), (.int 240 849), (.int 241 850), (.int 242 851), (.int 243 852), (.int 244 853), (.int 245 854), (.int 246 855), (.int 247 856), (.int 248 857), (.int 249 858), (.int 250 859), (.int 251 860), (.int 252 861), (.int 253 862), (.int 254 863), (.int 255 864)] 0), #[]⟩
noncomputable def m0_221 (P : Params) : Obj := ⟨(.type "tuple"), none, (.seq #[(.int 0 482), (.int 1 483), (.int 2 484), (.int 3 485), (.int 4 486), (.int 5 487), (.int 6 488), (.int 7 489), (.int 8 490), (.int 9 491), (.int 10 492), (.int 11 493), (.int 12 494), (.int 13 495), (.int 14 496), (.int 15 497), (.int 16 498), (.int 17 499), (.int 18 500), (.int 19 501), (.int 20 502), (.int 21 503), (.int 22 504), (.int 23 505), (.int 24 506), (.int 25 507), (.int 26 508), (.int 27 509), (.int 28 510), (.int 29 511), (.int 30 512), (.int 31 513), (.int 32 514), (.int 33 515), (.int 34 516), (.int 35 517), (.int 36 518), (.int 37 519), (.int 38 520), (.int 39 521), (.int 40 522), (.int 41 523), (.int 42 524), (.int 43 525), (.int 44 526), (.int 45 527), (.int 46 528), (.int 47 529), (.int 48 530), (.int 49 531), (.int 50 532), (.int 51 533), (.int 52 534), (.int 53 535), (.int 54 536), (.int 55 537), (.int 56 538), (.int 57 539), (.int 58 540), (.int 59 541), (.int 60 542), (.int 61 543), (.int 62 544), (.int 63 545), (.int 64 546), (.int 65 547), (.int 66 548), (.int 67 549), (.int 68 550), (.int 69 551), (.int 70 552), (.int 71 553), (.int 72 554), (.int 73 555), (.int 74 556), (.int 75 557), (.int 76 558), (.int 77 559), (.int 78 560), (.int 79 561), (.int 80 562), (.int 81 563), (.int 82 564), (.int 83 565), (.int 84 566), (.int 85 567), (.int 86 568), (.int 87 569), (.int 88 570), (.int 89 571), (.int 90 572), (.int 91 573), (.int 92 574), (.int 93 575), (.int 94 576), (.int 95 577), (.int 96 578), (.int 97 579), (.int 98 580), (.int 99 581), (.int 100 582), (.int 101 583), (.int 102 584), (.int 103 585), (.int 104 586), (.int 105 587), (.int 106 588), (.int 107 589), (.int 108 590), (.int 109 591), (.int 110 592), (.int 111 593), (.int 112 594), (.int 113 595), (.int 114 596), (.int 115 597), (.int 116 598), (.int 117 599), (.int 118 600), (.int 119 601), (.int 120 602), (.int 121 603), (.int 122 604), (.int 123 605), (.int 124 606), (.int 125 607), (.int 126 608), (.int 127 609), (.int 9472 866), (.int 9474 867), (.int 9484 868), (.int 9488 869), (.int 9492 870), (.int 9496 871), (.int 9500 872), (.int 9508 873), (.int 9516 874), (.int 9524 875), (.int 9532 876), (.int 9600 877), (.int 9604 878), (.int 9608 879), (.int 9612 880), (.int 9616 881), (.int 9617 882), (.int 9618 883), (.int 9619 884), (.int 8992 885), (.int 9632 886), (.int 8729 887), (.int 8730 888), (.int 8776 889), (.int 8804 890), (.int 8805 891), (.int 160 892), (.int 8993 893), (.int 176 894), (.int 178 895), (.int 183 896), (.int 247 897), (.int 9552 898), (.int 9553 899), (.int 9554 900), (.int 1105 901), (.int 9555 902), (.int 9556 903), (.int 9557 904), (.int 9558 905), (.int 9559 906), (.int 9560 907), (.int 9561 908), (.int 9562 909), (.int 9563 910), (.int 9564 911), (.int 9565 912), (.int 9566 913), (.int 9567 914), (.int 9568 915), (.int 9569 916), (.int 1025 917), (.int 9570 918), (.int 9571 919), (.int 9572 920), (.int 9573 921), (.int 9574 922), (.int 9575 923), (.int 9576 924), (.int 9577 925), (.int 9578 926), (.int 9579 927), (.int 9580 928), (.int 169 929), (.int 1102 930), (.int 1072 931), (.int 1073 932), (.int 1094 933), (.int 1076 934), (.int 1077 935), (.int 1092 936), (.int 1075 937), (.int 1093 938), (.int 1080 939), (.int 1081 940), (.int 1082 941), (.int 1083 942), (.int 1084 943), (.int 1085 944), (.int 1086 945), (.int 1087 946), (.int 1103 947), (.int 1088 948), (.int 1089 949), (.int 1090 950), (.int 1091 951), (.int 1078 952), (.int 1074 953), (.int 1100 954), (.int 1099 955), (.int 1079 956), (.int 1096 957), (.int 1101 958), (.int 1097 959), (.int 1095 960), (.int 1098 961), (.int 1070 962), (.int 1040 963), (.int 1041 964), (.int 1062 965), (.int 1044 966), (.int 1045 967), (.int 1060 968), (.int 1043 969), (.int 1061 970), (.int 1048 971), (.int 1049 972), (.int 1050 973), (.int 1051 974), (.int 1052 975), (.int 1053 976), (.int 1054 977), (.int 1055 978), (.int 1071 979), (.int 1056 980), (.int 1057 981), (.int 1058 982), (.int 1059 983), (.int 1046 984), (.int 1042 985), (.int 1068 986), (.int 1067 987), (.int 1047 988), (.int 1064 989), (.int 1069 990), (.int 1065 991), (.int 1063 992), (.int 1066 993)] 0), #[]⟩
noncomputable def m0_222 (P : Params) : Obj := ⟨(.type "tuple"), none, (.seq #[] 0), #[]⟩
noncomputable def m0_223 (P : Params) : Obj := ⟨.none, none, (.fields #[]), #[]⟩
noncomputable def m0_224 (P : Params) : Obj := ⟨(.type "tuple"), none, (.seq #[(s "thing" 1005)] 0), #[]⟩
noncomputable def m0_225 (P : Params) : Obj := ⟨(.type "tuple"), none, (.seq #[] 0), #[]⟩
noncomputable def m0_226 (P : Params) : Obj := ⟨.none, none, (.func (f (top 33) "is_code" "is_code" 0 [] .none .none .none .none none .none .none 0)), #[]⟩
noncomputable def m0_227 (P : Params) : Obj := ⟨(.type "code"), none, (.fields #[(s "is_code" 1002), (s "is_code" 1003), (s "/claim/cut.py" 1004), (.int 74 0), (.int 1 0), (.int 0 0), (.int 0 0), (.int 3 0), (.ref 222), (.bool true), (.int 181 0), (.ref 223), .none, (.ref 224), (.ref 225), (.ref 226), (.int 1006 0), (.int 74 0), (s "/claim/cut.py" 1007)]), #[]⟩
noncomputable def m0_228 (P : Params) : Obj := ⟨(.type "function"), none, (.func (f (top 33) "is_code" "is_code" 3 [] .none .none .none (s "signferry.charmaps" 478) none (.ref 227) .none 0)), #[]⟩
noncomputable def m0_229 (P : Params) : Obj := ⟨(.type "tuple"), none, (.seq #[] 0), #[]⟩
noncomputable def m0_230 (P : Params) : Obj := ⟨.none, none, (.fields #[]), #[]⟩
noncomputable def m0_231 (P : Params) : Obj := ⟨(.type "tuple"), none, (.seq #[(s "thing" 1012)] 0), #[]⟩
noncomputable def m0_232 (P : Params) : Obj := ⟨(.type "tuple"), none, (.seq #[] 0), #[]⟩
noncomputable def m0_233 (P : Params) : Obj := ⟨.none, none, (.func (f (top 34) "is_octet" "is_octet" 0 [] .none .none .none .none none .none .none 0)), #[]⟩
noncomputable def m0_234 (P : Params) : Obj := ⟨(.type "code"), none, (.fields #[(s "is_octet" 1009), (s "is_octet" 1010), (s "/claim/cut.py" 1011), (.int 76 0), (.int 1 0), (.int 0 0), (.int 0 0), (.int 3 0), (.ref 229), (.bool true), (.int 181 0), (.ref 230), .none, (.ref 231), (.ref 232), (.ref 233), (.int 1013 0), (.int 76 0), (s "/claim/cut.py" 1014)]), #[]⟩
noncomputable def m0_235 (P : Params) : Obj := ⟨(.type "function"), none, (.func (f (top 34) "is_octet" "is_octet" 3 [] .none .none .none (s "signferry.charmaps" 478) none (.ref 234) .none 0)), #[]⟩
noncomputable def m0_236 (P : Params) : Obj := ⟨(.type "tuple"), none, (.seq #[] 0), #[]⟩
noncomputable def m0_237 (P : Params) : Obj := ⟨.none, none, (.fields #[]), #[]⟩
noncomputable def m0_238 (P : Params) : Obj := ⟨.none, none, (.func (f (top 35) "entries_of" "entries_of" 0 [] .none .none .none .none none .none .none 0)), #[]⟩
noncomputable def m0_239 (P : Params) : Obj := ⟨(.type "code"), none, (.fields #[(s "entries_of" 1016), (s "entries_of" 1017), (s "/claim/cut.py" 1018), (.int 78 0), (.int 1 0), (.int 0 0), (.int 0 0), (.int 3 0), (.ref 236), (.bool true), (.int 181 0), (.ref 237), .none, .none, .none, (.ref 238), (.int 1019 0), (.int 78 0), (s "/claim/cut.py" 1020)]), #[]⟩
noncomputable def m0_240 (P : Params) : Obj := ⟨(.type "function"), none, (.func (f (top 35) "entries_of" "entries_of" 3 [] .none .none .none (s "signferry.charmaps" 478) none (.ref 239) .none 0)), #[]⟩
noncomputable def m0_241 (P : Params) : Obj := ⟨(.type "tuple"), none, (.seq #[] 0), #[]⟩
noncomputable def m0_242 (P : Params) : Obj := ⟨.none, none, (.fields #[]), #[]⟩
noncomputable def m0_243 (P : Params) : Obj := ⟨.none, none, (.func (f (top 36) "way_back" "way_back" 0 [] .none .none .none .none none .none .none 0)), #[]⟩
noncomputable def m0_244 (P : Params) : Obj := ⟨(.type "code"), none, (.fields #[(s "way_back" 1022), (s "way_back" 1023), (s "/claim/cut.py" 1024), (.int 89 0), (.int 1 0), (.int 0 0), (.int 0 0), (.int 3 0), (.ref 241), (.bool true), (.int 181 0), (.ref 242), .none, .none, .none, (.ref 243), (.int 1025 0), (.int 89 0), (s "/claim/cut.py" 1026)]), #[]⟩
noncomputable def m0_245 (P : Params) : Obj := ⟨(.type "function"), none, (.func (f (top 36) "way_back" "way_back" 3 [] .none .none .none (s "signferry.charmaps" 478) none (.ref 244) .none 0)), #[]⟩
noncomputable def m0_246 (P : Params) : Obj := ⟨(.type "tuple"), none, (.seq #[] 0), #[]⟩
noncomputable def m0_247 (P : Params) : Obj := ⟨.none, none, (.fields #[]), #[]⟩
noncomputable def m0_248 (P : Params) : Obj := ⟨(.type "tuple"), none, (.seq #[(s "table" 1031), (s "found" 1032), (s "octet" 1033), (s "entry" 1034)] 0), #[]⟩
noncomputable def m0_249 (P : Params) : Obj := ⟨(.type "tuple"), none, (.seq #[] 0), #[]⟩
noncomputable def m0_250 (P : Params) : Obj := ⟨.none, none, (.func (f (top 37) "checked_table" "checked_table" 0 [] .none .none .none .none none .none .none 0)), #[]⟩
noncomputable def m0_251 (P : Params) : Obj := ⟨(.type "code"), none, (.fields #[(s "checked_table" 1028), (s "checked_table" 1029), (s "/claim/cut.py" 1030), (.int 91 0), (.int 1 0), (.int 0 0), (.int 0 0), (.int 3 0), (.ref 246), (.bool true), (.int 181 0), (.ref 247), .none, (.ref 248), (.ref 249), (.ref 250), (.int 1035 0), (.int 91 0), (s "/claim/cut.py" 1036)]), #[]⟩
noncomputable def m0_252 (P : Params) : Obj := ⟨(.type "function"), none, (.func (f (top 37) "checked_table" "checked_table" 3 [] .none .none .none (s "signferry.charmaps" 478) none (.ref 251) .none 0)), #[]⟩
noncomputable def m0_253 (P : Params) : Obj := ⟨(.type "tuple"), none, (.seq #[] 0), #[]⟩
noncomputable def m0_254 (P : Params) : Obj := ⟨.none, none, (.fields #[]), #[]⟩
noncomputable def m0_255 (P : Params) : Obj := ⟨(.type "tuple"), none, (.seq #[(s "back" 1041), (s "found" 1042), (s "code" 1043), (s "entry" 1044)] 0), #[]⟩
noncomputable def m0_256 (P : Params) : Obj := ⟨(.type "tuple"), none, (.seq #[] 0), #[]⟩
noncomputable def m0_257 (P : Params) : Obj := ⟨.none, none, (.func (f (top 38) "checked_back" "checked_back" 0 [] .none .none .none .none none .none .none 0)), #[]⟩
noncomputable def m0_258 (P : Params) : Obj := ⟨(.type "code"), none, (.fields #[(s "checked_back" 1038), (s "checked_back" 1039), (s "/claim/cut.py" 1040), (.int 97 0), (.int 1 0), (.int 0 0), (.int 0 0), (.int 3 0), (.ref 253), (.bool true), (.int 181 0), (.ref 254), .none, (.ref 255), (.ref 256), (.ref 257), (.int 1045 0), (.int 97 0), (s "/claim/cut.py" 1046)]), #[]⟩
noncomputable def m0_259 (P : Params) : Obj := ⟨(.type "function"), none, (.func (f (top 38) "checked_back" "checked_back" 3 [] .none .none .none (s "signferry.charmaps" 478) none (.ref 258) .none 0)), #[]⟩
noncomputable def m0_260 (P : Params) : Obj := ⟨(.type "tuple"), none, (.seq #[] 0), #[]⟩
noncomputable def m0_261 (P : Params) : Obj := ⟨.none, none, (.fields #[]), #[]⟩
noncomputable def m0_262 (P : Params) : Obj := ⟨.none, none, (.func (f (top 39) "write_charmap" "write_charmap" 0 [] .none .none .none .none none .none .none 0)), #[]⟩
noncomputable def m0_263 (P : Params) : Obj := ⟨(.type "code"), none, (.fields #[(s "write_charmap" 1048), (s "write_charmap" 1049), (s "/claim/cut.py" 1050), (.int 108 0), (.int 3 0), (.int 0 0), (.int 0 0), (.int 3 0), (.ref 260), (.bool true), (.int 181 0), (.ref 261), .none, .none, .none, (.ref 262), (.int 1051 0), (.int 108 0), (s "/claim/cut.py" 1052)]), #[]⟩
noncomputable def m0_264 (P : Params) : Obj := ⟨(.type "function"), none, (.func (f (top 39) "write_charmap" "write_charmap" 3 [] .none .none .none (s "signferry.charmaps" 478) none (.ref 263) .none 0)), #[]⟩
noncomputable def m0_265 (P : Params) : Obj := ⟨(.type "dict"), none, (.dict #[⟨9, (.int 9 1056), (.int 116 1057)⟩, ⟨10, (.int 10 1058), (.int 110 1059)⟩, ⟨13, (.int 13 1060), (.int 114 1061)⟩, ⟨92, (.int 92 1062), (.int 92 1063)⟩] 4), #[]⟩
noncomputable def m0_266 (P : Params) : Obj := ⟨(.type "tuple"), none, (.seq #[] 0), #[]⟩
noncomputable def m0_267 (P : Params) : Obj := ⟨.none, none, (.fields #[]), #[]⟩
noncomputable def m0_268 (P : Params) : Obj := ⟨(.type "tuple"), none, (.seq #[(s "code" 1072)] 0), #[]⟩
noncomputable def m0_269 (P : Params) : Obj := ⟨(.type "tuple"), none, (.seq #[] 0), #[]⟩
noncomputable def m0_270 (P : Params) : Obj := ⟨.none, none, (.func (f (top 42) "far_escape" "far_escape" 0 [] .none .none .none .none none .none .none 0)), #[]⟩
noncomputable def m0_271 (P : Params) : Obj := ⟨(.type "code"), none, (.fields #[(s "far_escape" 1069), (s "far_escape" 1070), (s "/claim/cut.py" 1071), (.int 130 0), (.int 1 0), (.int 0 0), (.int 0 0), (.int 3 0), (.ref 266), (.bool true), (.int 181 0), (.ref 267), .none, (.ref 268), (.ref 269), (.ref 270), (.int 1073 0), (.int 130 0), (s "/claim/cut.py" 1074)]), #[]⟩
noncomputable def m0_272 (P : Params) : Obj := ⟨(.type "function"), none, (.func (f (top 42) "far_escape" "far_escape" 3 [] .none .none .none (s "signferry.escapes" 1054) none (.ref 271) .none 0)), #[]⟩
noncomputable def m0_273 (P : Params) : Obj := ⟨(.type "tuple"), none, (.seq #[] 0), #[]⟩
noncomputable def m0_274 (P : Params) : Obj := ⟨.none, none, (.fields #[]), #[]⟩
noncomputable def m0_275 (P : Params) : Obj := ⟨(.type "tuple"), none, (.seq #[(s "code" 1079)] 0), #[]⟩
noncomputable def m0_276 (P : Params) : Obj := ⟨(.type "tuple"), none, (.seq #[] 0), #[]⟩
noncomputable def m0_277 (P : Params) : Obj := ⟨.none, none, (.func (f (top 43) "near_escape" "near_escape" 0 [] .none .none .none .none none .none .none 0)), #[]⟩
noncomputable def m0_278 (P : Params) : Obj := ⟨(.type "code"), none, (.fields #[(s "near_escape" 1076), (s "near_escape" 1077), (s "/claim/cut.py" 1078), (.int 134 0), (.int 1 0), (.int 0 0), (.int 0 0), (.int 3 0), (.ref 273), (.bool true), (.int 181 0), (.ref 274), .none, (.ref 275), (.ref 276), (.ref 277), (.int 1080 0), (.int 134 0), (s "/claim/cut.py" 1081)]), #[]⟩
noncomputable def m0_279 (P : Params) : Obj := ⟨(.type "function"), none, (.func (f (top 43) "near_escape" "near_escape" 3 [] .none .none .none (s "signferry.escapes" 1054) none (.ref 278) .none 0)), #[]⟩
noncomputable def m0_280 (P : Params) : Obj := ⟨(.type "tuple"), none, (.seq #[] 0), #[]⟩
noncomputable def m0_281 (P : Params) : Obj := ⟨.none, none, (.fields #[]), #[]⟩
noncomputable def m0_282 (P : Params) : Obj := ⟨(.type "tuple"), none, (.seq #[(s "source" 1086), (s "answers" 1087), (s "found" 1088), (s "code" 1089)] 0), #[]⟩
noncomputable def m0_283 (P : Params) : Obj := ⟨(.type "tuple"), none, (.seq #[] 0), #[]⟩
noncomputable def m0_284 (P : Params) : Obj := ⟨.none, none, (.func (f (top 44) "write_escape" "write_escape" 0 [] .none .none .none .none none .none .none 0)), #[]⟩
noncomputable def m0_285 (P : Params) : Obj := ⟨(.type "code"), none, (.fields #[(s "write_escape" 1083), (s "write_escape" 1084), (s "/claim/cut.py" 1085), (.int 140 0), (.int 2 0), (.int 0 0), (.int 0 0), (.int 3 0), (.ref 280), (.bool true), (.int 181 0), (.ref 281), .none, (.ref 282), (.ref 283), (.ref 284), (.int 1090 0), (.int 140 0), (s "/claim/cut.py" 1091)]), #[]⟩
noncomputable def m0_286 (P : Params) : Obj := ⟨(.type "function"), none, (.func (f (top 44) "write_escape" "write_escape" 3 [] .none .none .none (s "signferry.escapes" 1054) none (.ref 285) .none 0)), #[]⟩
noncomputable def m0_287 (P : Params) : Obj := ⟨(.type "tuple"), none, (.seq #[] 0), #[]⟩
noncomputable def m0_288 (P : Params) : Obj := ⟨.none, none, (.fields #[]), #[]⟩
noncomputable def m0_289 (P : Params) : Obj := ⟨(.type "tuple"), none, (.seq #[(s "source" 1096), (s "answers" 1097), (s "found" 1098), (s "code" 1099)] 0), #[]⟩
noncomputable def m0_290 (P : Params) : Obj := ⟨(.type "tuple"), none, (.seq #[] 0), #[]⟩
noncomputable def m0_291 (P : Params) : Obj := ⟨.none, none, (.func (f (top 45) "write_raw_escape" "write_raw_escape" 0 [] .none .none .none .none none .none .none 0)), #[]⟩
noncomputable def m0_292 (P : Params) : Obj := ⟨(.type "code"), none, (.fields #[(s "write_raw_escape" 1093), (s "write_raw_escape" 1094), (s "/claim/cut.py" 1095), (.int 145 0), (.int 2 0), (.int 0 0), (.int 0 0), (.int 3 0), (.ref 287), (.bool true), (.int 181 0), (.ref 288), .none, (.ref 289), (.ref 290), (.ref 291), (.int 1100 0), (.int 145 0), (s "/claim/cut.py" 1101)]), #[]⟩
noncomputable def m0_293 (P : Params) : Obj := ⟨(.type "function"), none, (.func (f (top 45) "write_raw_escape" "write_raw_escape" 3 [] .none .none .none (s "signferry.escapes" 1054) none (.ref 292) .none 0)), #[]⟩
noncomputable def m0_294 (P : Params) : Obj := ⟨(.type "dict"), none, (.dict #[(e P "utf-8" 1105 (.int 3 1106)), (e P "utf-16" 1107 (.int 2 1108)), (e P "utf-16-le" 1109 (.int 2 1110)), (e P "utf-16-be" 1111 (.int 2 1112)), (e P "utf-32" 1113 (.int 4 1114)), (e P "utf-32-le" 1115 (.int 4 1116)), (e P "utf-32-be" 1117 (.int 4 1118))] 7), #[]⟩
noncomputable def m0_295 (P : Params) : Obj := ⟨(.type "tuple"), none, (.seq #[] 0), #[]⟩
noncomputable def m0_296 (P : Params) : Obj := ⟨.none, none, (.fields #[]), #[]⟩
noncomputable def m0_297 (P : Params) : Obj := ⟨(.type "tuple"), none, (.seq #[(s "error" 1130)] 0), #[]⟩
noncomputable def m0_298 (P : Params) : Obj := ⟨(.type "tuple"), none, (.seq #[] 0), #[]⟩
noncomputable def m0_299 (P : Params) : Obj := ⟨.none, none, (.func (f (top 48) "raise_again" "raise_again" 0 [] .none .none .none .none none .none .none 0)), #[]⟩
noncomputable def m0_300 (P : Params) : Obj := ⟨(.type "code"), none, (.fields #[(s "raise_again" 1127), (s "raise_again" 1128), (s "/claim/cut.py" 1129), (.int 152 0), (.int 1 0), (.int 0 0), (.int 0 0), (.int 3 0), (.ref 295), (.bool true), (.int 181 0), (.ref 296), .none, (.ref 297), (.ref 298), (.ref 299), (.int 1131 0), (.int 152 0), (s "/claim/cut.py" 1132)]), #[]⟩
noncomputable def m0_301 (P : Params) : Obj := ⟨(.type "function"), none, (.func (f (top 48) "raise_again" "raise_again" 3 [] .none .none .none (s "signferry.handlers" 1103) none (.ref 300) .none 0)), #[]⟩
noncomputable def m0_302 (P : Params) : Obj := ⟨(.type "tuple"), none, (.seq #[] 0), #[]⟩
noncomputable def m0_303 (P : Params) : Obj := ⟨.none, none, (.fields #[]), #[]⟩
noncomputable def m0_304 (P : Params) : Obj := ⟨(.type "tuple"), none, (.seq #[(s "error" 1137)] 0), #[]⟩
noncomputable def m0_305 (P : Params) : Obj := ⟨(.type "tuple"), none, (.seq #[] 0), #[]⟩
noncomputable def m0_306 (P : Params) : Obj := ⟨.none, none, (.func (f (top 49) "range_of" "range_of" 0 [] .none .none .none .none none .none .none 0)), #[]⟩
noncomputable def m0_307 (P : Params) : Obj := ⟨(.type "code"), none, (.fields #[(s "range_of" 1134), (s "range_of" 1135), (s "/claim/cut.py" 1136), (.int 156 0), (.int 1 0), (.int 0 0), (.int 0 0), (.int 3 0), (.ref 302), (.bool true), (.int 181 0), (.ref 303), .none, (.ref 304), (.ref 305), (.ref 306), (.int 1138 0), (.int 156 0), (s "/claim/cut.py" 1139)]), #[]⟩
noncomputable def m0_308 (P : Params) : Obj := ⟨(.type "function"), none, (.func (f (top 49) "range_of" "range_of" 3 [] .none .none .none (s "signferry.handlers" 1103) none (.ref 307) .none 0)), #[]⟩
noncomputable def m0_309 (P : Params) : Obj := ⟨(.type "tuple"), none, (.seq #[] 0), #[]⟩
noncomputable def m0_310 (P : Params) : Obj := ⟨.none, none, (.fields #[]), #[]⟩
noncomputable def m0_311 (P : Params) : Obj := ⟨(.type "tuple"), none, (.seq #[(s "error" 1144)] 0), #[]⟩
noncomputable def m0_312 (P : Params) : Obj := ⟨(.type "tuple"), none, (.seq #[] 0), #[]⟩
noncomputable def m0_313 (P : Params) : Obj := ⟨.none, none, (.func (f (top 50) "answer_strict" "answer_strict" 0 [] .none .none .none .none none .none .none 0)), #[]⟩
noncomputable def m0_314 (P : Params) : Obj := ⟨(.type "code"), none, (.fields #[(s "answer_strict" 1141), (s "answer_strict" 1142), (s "/claim/cut.py" 1143), (.int 160 0), (.int 1 0), (.int 0 0), (.int 0 0), (.int 3 0), (.ref 309), (.bool true), (.int 181 0), (.ref 310), .none, (.ref 311), (.ref 312), (.ref 313), (.int 1145 0), (.int 160 0), (s "/claim/cut.py" 1146)]), #[]⟩
noncomputable def m0_315 (P : Params) : Obj := ⟨(.type "function"), none, (.func (f (top 50) "answer_strict" "answer_strict" 3 [] .none .none .none (s "signferry.handlers" 1103) none (.ref 314) .none 0)), #[]⟩
noncomputable def m0_316 (P : Params) : Obj := ⟨(.type "tuple"), none, (.seq #[] 0), #[]⟩
noncomputable def m0_317 (P : Params) : Obj := ⟨.none, none, (.fields #[]), #[]⟩
noncomputable def m0_318 (P : Params) : Obj := ⟨(.type "tuple"), none, (.seq #[(s "error" 1151)] 0), #[]⟩
noncomputable def m0_319 (P : Params) : Obj := ⟨(.type "tuple"), none, (.seq #[] 0), #[]⟩
noncomputable def m0_320 (P : Params) : Obj := ⟨.none, none, (.func (f (top 51) "answer_ignore" "answer_ignore" 0 [] .none .none .none .none none .none .none 0)), #[]⟩
noncomputable def m0_321 (P : Params) : Obj := ⟨(.type "code"), none, (.fields #[(s "answer_ignore" 1148), (s "answer_ignore" 1149), (s "/claim/cut.py" 1150), (.int 163 0), (.int 1 0), (.int 0 0), (.int 0 0), (.int 3 0), (.ref 316), (.bool true), (.int 181 0), (.ref 317), .none, (.ref 318), (.ref 319), (.ref 320), (.int 1152 0), (.int 163 0), (s "/claim/cut.py" 1153)]), #[]⟩
noncomputable def m0_322 (P : Params) : Obj := ⟨(.type "function"), none, (.func (f (top 51) "answer_ignore" "answer_ignore" 3 [] .none .none .none (s "signferry.handlers" 1103) none (.ref 321) .none 0)), #[]⟩
noncomputable def m0_323 (P : Params) : Obj := ⟨(.type "tuple"), none, (.seq #[] 0), #[]⟩
noncomputable def m0_324 (P : Params) : Obj := ⟨.none, none, (.fields #[]), #[]⟩
noncomputable def m0_325 (P : Params) : Obj := ⟨(.type "tuple"), none, (.seq #[(s "error" 1158), (s "many" 1159), (s "codes" 1160)] 0), #[]⟩
noncomputable def m0_326 (P : Params) : Obj := ⟨(.type "tuple"), none, (.seq #[] 0), #[]⟩
noncomputable def m0_327 (P : Params) : Obj := ⟨.none, none, (.func (f (top 52) "answer_replace" "answer_replace" 0 [] .none .none .none .none none .none .none 0)), #[]⟩
noncomputable def m0_328 (P : Params) : Obj := ⟨(.type "code"), none, (.fields #[(s "answer_replace" 1155), (s "answer_replace" 1156), (s "/claim/cut.py" 1157), (.int 166 0), (.int 1 0), (.int 0 0), (.int 0 0), (.int 3 0), (.ref 323), (.bool true), (.int 181 0), (.ref 324), .none, (.ref 325), (.ref 326), (.ref 327), (.int 1161 0), (.int 166 0), (s "/claim/cut.py" 1162)]), #[]⟩
noncomputable def m0_329 (P : Params) : Obj := ⟨(.type "function"), none, (.func (f (top 52) "answer_replace" "answer_replace" 3 [] .none .none .none (s "signferry.handlers" 1103) none (.ref 328) .none 0)), #[]⟩
noncomputable def m0_330 (P : Params) : Obj := ⟨(.type "tuple"), none, (.seq #[] 0), #[]⟩
noncomputable def m0_331 (P : Params) : Obj := ⟨.none, none, (.fields #[]), #[]⟩
noncomputable def m0_332 (P : Params) : Obj := ⟨(.type "tuple"), none, (.seq #[(s "error" 1167), (s "codes" 1168), (s "found" 1169), (s "code" 1170)] 0), #[]⟩
noncomputable def m0_333 (P : Params) : Obj := ⟨(.type "tuple"), none, (.seq #[] 0), #[]⟩
noncomputable def m0_334 (P : Params) : Obj := ⟨.none, none, (.func (f (top 53) "answer_xmlcharrefreplace" "answer_xmlcharrefreplace" 0 [] .none .none .none .none none .none .none 0)), #[]⟩
noncomputable def m0_335 (P : Params) : Obj := ⟨(.type "code"), none, (.fields #[(s "answer_xmlcharrefreplace" 1164), (s "answer_xmlcharrefreplace" 1165), (s "/claim/cut.py" 1166), (.int 170 0), (.int 1 0), (.int 0 0), (.int 0 0), (.int 3 0), (.ref 330), (.bool true), (.int 181 0), (.ref 331), .none, (.ref 332), (.ref 333), (.ref 334), (.int 1171 0), (.int 170 0), (s "/claim/cut.py" 1172)]), #[]⟩
noncomputable def m0_336 (P : Params) : Obj := ⟨(.type "function"), none, (.func (f (top 53) "answer_xmlcharrefreplace" "answer_xmlcharrefreplace" 3 [] .none .none .none (s "signferry.handlers" 1103) none (.ref 335) .none 0)), #[]⟩
noncomputable def m0_337 (P : Params) : Obj := ⟨(.type "tuple"), none, (.seq #[] 0), #[]⟩
noncomputable def m0_338 (P : Params) : Obj := ⟨.none, none, (.fields #[]), #[]⟩
noncomputable def m0_339 (P : Params) : Obj := ⟨(.type "tuple"), none, (.seq #[(s "code" 1177)] 0), #[]⟩
noncomputable def m0_340 (P : Params) : Obj := ⟨(.type "tuple"), none, (.seq #[] 0), #[]⟩
noncomputable def m0_341 (P : Params) : Obj := ⟨.none, none, (.func (f (top 54) "escape_of" "escape_of" 0 [] .none .none .none .none none .none .none 0)), #[]⟩
noncomputable def m0_342 (P : Params) : Obj := ⟨(.type "code"), none, (.fields #[(s "escape_of" 1174), (s "escape_of" 1175), (s "/claim/cut.py" 1176), (.int 177 0), (.int 1 0), (.int 0 0), (.int 0 0), (.int 3 0), (.ref 337), (.bool true), (.int 181 0), (.ref 338), .none, (.ref 339), (.ref 340), (.ref 341), (.int 1178 0), (.int 177 0), (s "/claim/cut.py" 1179)]), #[]⟩
noncomputable def m0_343 (P : Params) : Obj := ⟨(.type "function"), none, (.func (f (top 54) "escape_of" "escape_of" 3 [] .none .none .none (s "signferry.handlers" 1103) none (.ref 342) .none 0)), #[]⟩
noncomputable def m0_344 (P : Params) : Obj := ⟨(.type "tuple"), none, (.seq #[] 0), #[]⟩
noncomputable def m0_345 (P : Params) : Obj := ⟨.none, none, (.fields #[]), #[]⟩
noncomputable def m0_346 (P : Params) : Obj := ⟨(.type "tuple"), none, (.seq #[(s "error" 1184), (s "found" 1185), (s "code" 1186)] 0), #[]⟩
noncomputable def m0_347 (P : Params) : Obj := ⟨(.type "tuple"), none, (.seq #[] 0), #[]⟩
noncomputable def m0_348 (P : Params) : Obj := ⟨.none, none, (.func (f (top 55) "answer_backslashreplace" "answer_backslashreplace" 0 [] .none .none .none .none none .none .none 0)), #[]⟩
noncomputable def m0_349 (P : Params) : Obj := ⟨(.type "code"), none, (.fields #[(s "answer_backslashreplace" 1181), (s "answer_backslashreplace" 1182), (s "/claim/cut.py" 1183), (.int 181 0), (.int 1 0), (.int 0 0), (.int 0 0), (.int 3 0), (.ref 344), (.bool true), (.int 181 0), (.ref 345), .none, (.ref 346), (.ref 347), (.ref 348), (.int 1187 0), (.int 181 0), (s "/claim/cut.py" 1188)]), #[]⟩
noncomputable def m0_350 (P : Params) : Obj := ⟨(.type "function"), none, (.func (f (top 55) "answer_backslashreplace" "answer_backslashreplace" 3 [] .none .none .none (s "signferry.handlers" 1103) none (.ref 349) .none 0)), #[]⟩
noncomputable def m0_351 (P : Params) : Obj := ⟨(.type "tuple"), none, (.seq #[] 0), #[]⟩
noncomputable def m0_352 (P : Params) : Obj := ⟨.none, none, (.fields #[]), #[]⟩
noncomputable def m0_353 (P : Params) : Obj := ⟨.none, none, (.func (f (top 56) "answer_surrogateescape" "answer_surrogateescape" 0 [] .none .none .none .none none .none .none 0)), #[]⟩
noncomputable def m0_354 (P : Params) : Obj := ⟨(.type "code"), none, (.fields #[(s "answer_surrogateescape" 1190), (s "answer_surrogateescape" 1191), (s "/claim/cut.py" 1192), (.int 186 0), (.int 1 0), (.int 0 0), (.int 0 0), (.int 3 0), (.ref 351), (.bool true), (.int 181 0), (.ref 352), .none, .none, .none, (.ref 353), (.int 1193 0), (.int 186 0), (s "/claim/cut.py" 1194)]), #[]⟩
noncomputable def m0_355 (P : Params) : Obj := ⟨(.type "function"), none, (.func (f (top 56) "answer_surrogateescape" "answer_surrogateescape" 3 [] .none .none .none (s "signferry.handlers" 1103) none (.ref 354) .none 0)), #[]⟩
noncomputable def m0_356 (P : Params) : Obj := ⟨(.type "tuple"), none, (.seq #[] 0), #[]⟩
noncomputable def m0_357 (P : Params) : Obj := ⟨.none, none, (.fields #[]), #[]⟩
noncomputable def m0_358 (P : Params) : Obj := ⟨(.type "tuple"), none, (.seq #[(s "code" 1199), (s "codec" 1200), (s "row" 1201)] 0), #[]⟩
noncomputable def m0_359 (P : Params) : Obj := ⟨(.type "tuple"), none, (.seq #[] 0), #[]⟩
noncomputable def m0_360 (P : Params) : Obj := ⟨.none, none, (.func (f (top 57) "surrogate_bytes" "surrogate_bytes" 0 [] .none .none .none .none none .none .none 0)), #[]⟩
noncomputable def m0_361 (P : Params) : Obj := ⟨(.type "code"), none, (.fields #[(s "surrogate_bytes" 1196), (s "surrogate_bytes" 1197), (s "/claim/cut.py" 1198), (.int 198 0), (.int 2 0), (.int 0 0), (.int 0 0), (.int 3 0), (.ref 356), (.bool true), (.int 181 0), (.ref 357), .none, (.ref 358), (.ref 359), (.ref 360), (.int 1202 0), (.int 198 0), (s "/claim/cut.py" 1203)]), #[]⟩
noncomputable def m0_362 (P : Params) : Obj := ⟨(.type "function"), none, (.func (f (top 57) "surrogate_bytes" "surrogate_bytes" 3 [] .none .none .none (s "signferry.handlers" 1103) none (.ref 361) .none 0)), #[]⟩
noncomputable def m0_363 (P : Params) : Obj := ⟨(.type "tuple"), none, (.seq #[] 0), #[]⟩
noncomputable def m0_364 (P : Params) : Obj := ⟨.none, none, (.fields #[]), #[]⟩
noncomputable def m0_365 (P : Params) : Obj := ⟨(.type "tuple"), none, (.seq #[(s "data" 1208), (s "place" 1209), (s "codec" 1210), (s "row" 1211), (s "code" 1212), (s "little" 1213)] 0), #[]⟩
noncomputable def m0_366 (P : Params) : Obj := ⟨(.type "tuple"), none, (.seq #[] 0), #[]⟩
noncomputable def m0_367 (P : Params) : Obj := ⟨.none, none, (.func (f (top 58) "surrogate_at" "surrogate_at" 0 [] .none .none .none .none none .none .none 0)), #[]⟩
noncomputable def m0_368 (P : Params) : Obj := ⟨(.type "code"), none, (.fields #[(s "surrogate_at" 1205), (s "surrogate_at" 1206), (s "/claim/cut.py" 1207), (.int 203 0), (.int 3 0), (.int 0 0), (.int 0 0), (.int 3 0), (.ref 363), (.bool true), (.int 181 0), (.ref 364), .none, (.ref 365), (.ref 366), (.ref 367), (.int 1214 0), (.int 203 0), (s "/claim/cut.py" 1215)]), #[]⟩
noncomputable def m0_369 (P : Params) : Obj := ⟨(.type "function"), none, (.func (f (top 58) "surrogate_at" "surrogate_at" 3 [] .none .none .none (s "signferry.handlers" 1103) none (.ref 368) .none 0)), #[]⟩
noncomputable def m0_370 (P : Params) : Obj := ⟨(.type "tuple"), none, (.seq #[] 0), #[]⟩
noncomputable def m0_371 (P : Params) : Obj := ⟨.none, none, (.fields #[]), #[]⟩
noncomputable def m0_372 (P : Params) : Obj := ⟨.none, none, (.func (f (top 59) "answer_surrogatepass" "answer_surrogatepass" 0 [] .none .none .none .none none .none .none 0)), #[]⟩
noncomputable def m0_373 (P : Params) : Obj := ⟨(.type "code"), none, (.fields #[(s "answer_surrogatepass" 1217), (s "answer_surrogatepass" 1218), (s "/claim/cut.py" 1219), (.int 213 0), (.int 1 0), (.int 0 0), (.int 0 0), (.int 3 0), (.ref 370), (.bool true), (.int 181 0), (.ref 371), .none, .none, .none, (.ref 372), (.int 1220 0), (.int 213 0), (s "/claim/cut.py" 1221)]), #[]⟩
noncomputable def m0_374 (P : Params) : Obj := ⟨(.type "function"), none, (.func (f (top 59) "answer_surrogatepass" "answer_surrogatepass" 3 [] .none .none .none (s "signferry.handlers" 1103) none (.ref 373) .none 0)), #[]⟩
noncomputable def m0_375 (P : Params) : Obj := ⟨(.type "dict"), none, (.dict #[(e P "strict" 1223 (.ref 315)), (e P "ignore" 1224 (.ref 322)), (e P "replace" 1225 (.ref 329)), (e P "xmlcharrefreplace" 1226 (.ref 336)), (e P "backslashreplace" 1227 (.ref 350)), (e P "surrogateescape" 1228 (.ref 355)), (e P "surrogatepass" 1229 (.ref 374))] 7), #[]⟩
noncomputable def m0_376 (P : Params) : Obj := ⟨(.type "tuple"), none, (.seq #[] 0), #[]⟩
noncomputable def m0_377 (P : Params) : Obj := ⟨.none, none, (.fields #[]), #[]⟩
noncomputable def m0_378 (P : Params) : Obj := ⟨(.type "tuple"), none, (.seq #[(s "error" 1241), (s "answer" 1242), (s "word" 1243), (s "codes" 1244), (s "place" 1245), (s "is_octets" 1246), (s "many" 1247), (s "found" 1248)] 0), #[]⟩
noncomputable def m0_379 (P : Params) : Obj := ⟨(.type "tuple"), none, (.seq #[] 0), #[]⟩
noncomputable def m0_380 (P : Params) : Obj := ⟨.none, none, (.func (f (top 61) "checked_answer" "checked_answer" 0 [] .none .none .none .none none .none .none 0)), #[]⟩
noncomputable def m0_381 (P : Params) : Obj := ⟨(.type "code"), none, (.fields #[(s "checked_answer" 1238), (s "checked_answer" 1239), (s "/claim/cut.py" 1240), (.int 229 0), (.int 2 0), (.int 0 0), (.int 0 0), (.int 3 0), (.ref 376), (.bool true), (.int 181 0), (.ref 377), .none, (.ref 378), (.ref 379), (.ref 380), (.int 1249 0), (.int 229 0), (s "/claim/cut.py" 1250)]), #[]⟩
noncomputable def m0_382 (P : Params) : Obj := ⟨(.type "function"), none, (.func (f (top 61) "checked_answer" "checked_answer" 3 [] .none .none .none (s "signferry.handlers" 1103) none (.ref 381) .none 0)), #[]⟩
noncomputable def m0_383 (P : Params) : Obj := ⟨(.type "tuple"), none, (.seq #[] 0), #[]⟩
noncomputable def m0_384 (P : Params) : Obj := ⟨(.type "builtin_function_or_method"), none, (.fields #[(.builtin "type.__prepare__"), (.type "type")]), #[]⟩
noncomputable def m0_385 (P : Params) : Obj := ⟨(.type "dict"), none, (.dict #[(e P "__module__" 1259 (s "signferry.handlers" 1103)), (e P "__qualname__" 1261 (s "Answers" 1260)), (e P "__firstlineno__" 1263 (.int 241 1262)), (e P "__init__" 1272 (.ref 396)), (e P "ask" 1281 (.ref 403)), (e P "again" 1289 (.ref 410)), (e P "__static_attributes__" 1293 (.ref 411))] 7), #[]⟩
noncomputable def m0_386 (P : Params) : Obj := ⟨(.type "tuple"), none, (.seq #[] 0), #[]⟩
noncomputable def m0_387 (P : Params) : Obj := ⟨.none, none, (.fields #[(.int 243 0), (.int 4 0), (.ref 395), (.int 248 0), (.int 4 0), (.ref 402), (.int 254 0), (.int 4 0), (.ref 409)]), #[]⟩
noncomputable def m0_388 (P : Params) : Obj := ⟨(.type "code"), none, (.fields #[(s "Answers" 1254), (s "Answers" 1255), (s "/claim/cut.py" 1256), (.int 241 0), (.int 0 0), (.int 0 0), (.int 0 0), (.int 0 0), (.ref 386), (.bool false), (.int 181 0), (.ref 387), .none, .none, .none, .none, (.int 1257 0), (.int 241 0), (s "/claim/cut.py" 1258)]), #[]⟩
noncomputable def m0_389 (P : Params) : Obj := ⟨(.type "frame"), none, .plain, #[(some (.ref 388)), (some (.ref 3)), (some (.ref 385)), none, (some (s "signferry.handlers" 1103)), none, (some (.ref 0))]⟩
noncomputable def m0_390 (P : Params) : Obj := ⟨(.type "tuple"), none, (.seq #[] 0), #[]⟩
noncomputable def m0_391 (P : Params) : Obj := ⟨.none, none, (.fields #[]), #[]⟩
noncomputable def m0_392 (P : Params) : Obj := ⟨(.type "tuple"), none, (.seq #[(s "self" 1267), (s "registry" 1268), (s "errors" 1269)] 0), #[]⟩
noncomputable def m0_393 (P : Params) : Obj := ⟨(.type "tuple"), none, (.seq #[] 0), #[]⟩
noncomputable def m0_394 (P : Params) : Obj := ⟨.none, none, (.func (f (mth 62 0) "__init__" "Answers.__init__" 0 [] .none .none .none .none none .none .none 0)), #[]⟩
noncomputable def m0_395 (P : Params) : Obj := ⟨(.type "code"), none, (.fields #[(s "__init__" 1264), (s "Answers.__init__" 1265), (s "/claim/cut.py" 1266), (.int 243 0), (.int 3 0), (.int 0 0), (.int 0 0), (.int 3 0), (.ref 390), (.bool true), (.int 181 0), (.ref 391), .none, (.ref 392), (.ref 393), (.ref 394), (.int 1270 0), (.int 243 0), (s "/claim/cut.py" 1271)]), #[]⟩
noncomputable def m0_396 (P : Params) : Obj := ⟨(.type "function"), none, (.func (f (mth 62 0) "__init__" "Answers.__init__" 3 [] .none .none .none (s "signferry.handlers" 1103) none (.ref 395) .none 0)), #[]⟩
noncomputable def m0_397 (P : Params) : Obj := ⟨(.type "tuple"), none, (.seq #[] 0), #[]⟩
noncomputable def m0_398 (P : Params) : Obj := ⟨.none, none, (.fields #[]), #[]⟩
noncomputable def m0_399 (P : Params) : Obj := ⟨(.type "tuple"), none, (.seq #[(s "self" 1276), (s "error" 1277), (s "handler" 1278)] 0), #[]⟩
noncomputable def m0_400 (P : Params) : Obj := ⟨(.type "tuple"), none, (.seq #[] 0), #[]⟩
noncomputable def m0_401 (P : Params) : Obj := ⟨.none, none, (.func (f (mth 62 1) "ask" "Answers.ask" 0 [] .none .none .none .none none .none .none 0)), #[]⟩
noncomputable def m0_402 (P : Params) : Obj := ⟨(.type "code"), none, (.fields #[(s "ask" 1273), (s "Answers.ask" 1274), (s "/claim/cut.py" 1275), (.int 248 0), (.int 2 0), (.int 0 0), (.int 0 0), (.int 3 0), (.ref 397), (.bool true), (.int 181 0), (.ref 398), .none, (.ref 399), (.ref 400), (.ref 401), (.int 1279 0), (.int 248 0), (s "/claim/cut.py" 1280)]), #[]⟩
noncomputable def m0_403 (P : Params) : Obj := ⟨(.type "function"), none, (.func (f (mth 62 1) "ask" "Answers.ask" 3 [] .none .none .none (s "signferry.handlers" 1103) none (.ref 402) .none 0)), #[]⟩
noncomputable def m0_404 (P : Params) : Obj := ⟨(.type "tuple"), none, (.seq #[] 0), #[]⟩
noncomputable def m0_405 (P : Params) : Obj := ⟨.none, none, (.fields #[]), #[]⟩
noncomputable def m0_406 (P : Params) : Obj := ⟨(.type "tuple"), none, (.seq #[(s "self" 1285), (s "error" 1286)] 0), #[]⟩
noncomputable def m0_407 (P : Params) : Obj := ⟨(.type "tuple"), none, (.seq #[] 0), #[]⟩
noncomputable def m0_408 (P : Params) : Obj := ⟨.none, none, (.func (f (mth 62 2) "again" "Answers.again" 0 [] .none .none .none .none none .none .none 0)), #[]⟩
noncomputable def m0_409 (P : Params) : Obj := ⟨(.type "code"), none, (.fields #[(s "again" 1282), (s "Answers.again" 1283), (s "/claim/cut.py" 1284), (.int 254 0), (.int 2 0), (.int 0 0), (.int 0 0), (.int 3 0), (.ref 404), (.bool true), (.int 181 0), (.ref 405), .none, (.ref 406), (.ref 407), (.ref 408), (.int 1287 0), (.int 254 0), (s "/claim/cut.py" 1288)]), #[]⟩
noncomputable def m0_410 (P : Params) : Obj := ⟨(.type "function"), none, (.func (f (mth 62 2) "again" "Answers.again" 3 [] .none .none .none (s "signferry.handlers" 1103) none (.ref 409) .none 0)), #[]⟩
noncomputable def m0_411 (P : Params) : Obj := ⟨(.type "tuple"), none, (.seq #[(s "errors" 1290), (s "handler" 1291), (s "registry" 1292)] 0), #[]⟩
noncomputable def m0_412 (P : Params) : Obj := ⟨(.type "dict"), none, (.dict #[(e P "__module__" 1259 (s "signferry.handlers" 1103)), (e P "__firstlineno__" 1263 (.int 241 1262)), (e P "__init__" 1272 (.ref 396)), (e P "ask" 1281 (.ref 403)), (e P "again" 1289 (.ref 410)), (e P "__static_attributes__" 1293 (.ref 411)), (e P "__dict__" 1295 (.ref 414)), (e P "__weakref__" 1297 (.ref 415)), (e P "__doc__" 1298 .none)] 4), #[]⟩
noncomputable def m0_413 (P : Params) : Obj := ⟨(.type "type"), none, (.cls ⟨(S "Answers"), [(.type "object")], [(.ref 413), (.type "object")], 412, (S "Answers"), true, [], [], false, none, false⟩), #[none, none, (some (s "Answers" 1252)), (some (s "Answers" 1260)), (some (.builtin "object.__new__")), (some (.bool true))]⟩
noncomputable def m0_414 (P : Params) : Obj := ⟨(.type "getset_descriptor"), none, (.fields #[(s "__dict__" 1294), (.ref 413), (.builtin "function.__dict__"), (.builtin "function.__dict__#set")]), #[]⟩
noncomputable def m0_415 (P : Params) : Obj := ⟨(.type "getset_descriptor"), none, (.fields #[(s "__weakref__" 1296), (.ref 413), (.builtin "ExceptionGroup.__weakref__"), .none]), #[]⟩
noncomputable def m0_416 (P : Params) : Obj := ⟨(.type "super"), none, (.fields #[(.ref 413), (.ref 413), (.ref 413)]), #[]⟩
noncomputable def m0_417 (P : Params) : Obj := ⟨(.type "builtin_function_or_method"), none, (.fields #[(.builtin "object.__init_subclass__"), (.ref 413)]), #[]⟩
noncomputable def m0_T (P : Params) : BT := (.node (PySem.W.boot_o_0 P) (.node (PySem.W.boot_o_1 P) (.node (m0_3 P) (.node (PySem.W.boot_o_7 P) (.node (m0_15 P) (.node (m0_31 P) (.node (m0_63 P) (.node (m0_127 P) (.node (m0_255 P) .nil .nil) (.node (m0_383 P) .nil .nil)) (.node (m0_191 P) (.node (m0_319 P) .nil .nil) .nil)) (.node (m0_95 P) (.node (m0_159 P) (.node (m0_287 P) .nil .nil) (.node (m0_415 P) .nil .nil)) (.node (m0_223 P) (.node (m0_351 P) .nil .nil) .nil))) (.node (m0_47 P) (.node (m0_79 P) (.node (m0_143 P) (.node (m0_271 P) .nil .nil) (.node (m0_399 P) .nil .nil)) (.node (m0_207 P) (.node (m0_335 P) .nil .nil) .nil)) (.node (m0_111 P) (.node (m0_175 P) (.node (m0_303 P) .nil .nil) .nil) (.node (m0_239 P) (.node (m0_367 P) .nil .nil) .nil)))) (.node (m0_23 P) (.node (m0_39 P) (.node (m0_71 P) (.node (m0_135 P) (.node (m0_263 P) .nil .nil) (.node (m0_391 P) .nil .nil)) (.node (m0_199 P) (.node (m0_327 P) .nil .nil) .nil)) (.node (m0_103 P) (.node (m0_167 P) (.node (m0_295 P) .nil .nil) .nil) (.node (m0_231 P) (.node (m0_359 P) .nil .nil) .nil))) (.node (m0_55 P) (.node (m0_87 P) (.node (m0_151 P) (.node (m0_279 P) .nil .nil) (.node (m0_407 P) .nil .nil)) (.node (m0_215 P) (.node (m0_343 P) .nil .nil) .nil)) (.node (m0_119 P) (.node (m0_183 P) (.node (m0_311 P) .nil .nil) .nil) (.node (m0_247 P) (.node (m0_375 P) .nil .nil) .nil))))) (.node (a11 P) (.node (m0_19 P) (.node (m0_35 P) (.node (m0_67 P) (.node (m0_131 P) (.node (m0_259 P) .nil .nil) (.node (m0_387 P) .nil .nil)) (.node (m0_195 P) (.node (m0_323 P) .nil .nil) .nil)) (.node (m0_99 P) (.node (m0_163 P) (.node (m0_291 P) .nil .nil) .nil) (.node (m0_227 P) (.node (m0_355 P) .nil .nil) .nil))) (.node (m0_51 P) (.node (m0_83 P) (.node (m0_147 P) (.node (m0_275 P) .nil .nil) (.node (m0_403 P) .nil .nil)) (.node (m0_211 P) (.node (m0_339 P) .nil .nil) .nil)) (.node (m0_115 P) (.node (m0_179 P) (.node (m0_307 P) .nil .nil) .nil) (.node (m0_243 P) (.node (m0_371 P) .nil .nil) .nil)))) (.node (m0_27 P) (.node (m0_43 P) (.node (m0_75 P) (.node (m0_139 P) (.node (m0_267 P) .nil .nil) (.node (m0_395 P) .nil .nil)) (.node (m0_203 P) (.node (m0_331 P) .nil .nil) .nil)) (.node (m0_107 P) (.node (m0_171 P) (.node (m0_299 P) .nil .nil) .nil) (.node (m0_235 P) (.node (m0_363 P) .nil .nil) .nil))) (.node (m0_59 P) (.node (m0_91 P) (.node (m0_155 P) (.node (m0_283 P) .nil .nil) (.node (m0_411 P) .nil .nil)) (.node (m0_219 P) (.node (m0_347 P) .nil .nil) .nil)) (.node (m0_123 P) (.node (m0_187 P) (.node (m0_315 P) .nil .nil) .nil) (.node (m0_251 P) (.node (m0_379 P) .nil .nil) .nil)))))) (.node (PySem.W.boot_o_5 P) (.node (PySem.W.boot_o_9 P) (.node (m0_17 P) (.node (m0_33 P) (.node (m0_65 P) (.node (m0_129 P) (.node (m0_257 P) .nil .nil) (.node (m0_385 P) .nil .nil)) (.node (m0_193 P) (.node (m0_321 P) .nil .nil) .nil)) (.node (m0_97 P) (.node (m0_161 P) (.node (m0_289 P) .nil .nil) (.node (m0_417 P) .nil .nil)) (.node (m0_225 P) (.node (m0_353 P) .nil .nil) .nil))) (.node (m0_49 P) (.node (m0_81 P) (.node (m0_145 P) (.node (m0_273 P) .nil .nil) (.node (m0_401 P) .nil .nil)) (.node (m0_209 P) (.node (m0_337 P) .nil .nil) .nil)) (.node (m0_113 P) (.node (m0_177 P) (.node (m0_305 P) .nil .nil) .nil) (.node (m0_241 P) (.node (m0_369 P) .nil .nil) .nil)))) (.node (m0_25 P) (.node (m0_41 P) (.node (m0_73 P) (.node (m0_137 P) (.node (m0_265 P) .nil .nil) (.node (m0_393 P) .nil .nil)) (.node (m0_201 P) (.node (m0_329 P) .nil .nil) .nil)) (.node (m0_105 P) (.node (m0_169 P) (.node (m0_297 P) .nil .nil) .nil) (.node (m0_233 P) (.node (m0_361 P) .nil .nil) .nil))) (.node (m0_57 P) (.node (m0_89 P) (.node (m0_153 P) (.node (m0_281 P) .nil .nil) (.node (m0_409 P) .nil .nil)) (.node (m0_217 P) (.node (m0_345 P) .nil .nil) .nil)) (.node (m0_121 P) (.node (m0_185 P) (.node (m0_313 P) .nil .nil) .nil) (.node (m0_249 P) (.node (m0_377 P) .nil .nil) .nil))))) (.node (a13 P) (.node (m0_21 P) (.node (m0_37 P) (.node (m0_69 P) (.node (m0_133 P) (.node (m0_261 P) .nil .nil) (.node (m0_389 P) .nil .nil)) (.node (m0_197 P) (.node (m0_325 P) .nil .nil) .nil)) (.node (m0_101 P) (.node (m0_165 P) (.node (m0_293 P) .nil .nil) .nil) (.node (m0_229 P) (.node (m0_357 P) .nil .nil) .nil))) (.node (m0_53 P) (.node (m0_85 P) (.node (m0_149 P) (.node (m0_277 P) .nil .nil) (.node (m0_405 P) .nil .nil)) (.node (m0_213 P) (.node (m0_341 P) .nil .nil) .nil)) (.node (m0_117 P) (.node (m0_181 P) (.node (m0_309 P) .nil .nil) .nil) (.node (m0_245 P) (.node (m0_373 P) .nil .nil) .nil)))) (.node (m0_29 P) (.node (m0_45 P) (.node (m0_77 P) (.node (m0_141 P) (.node (m0_269 P) .nil .nil) (.node (m0_397 P) .nil .nil)) (.node (m0_205 P) (.node (m0_333 P) .nil .nil) .nil)) (.node (m0_109 P) (.node (m0_173 P) (.node (m0_301 P) .nil .nil) .nil) (.node (m0_237 P) (.node (m0_365 P) .nil .nil) .nil))) (.node (m0_61 P) (.node (m0_93 P) (.node (m0_157 P) (.node (m0_285 P) .nil .nil) (.node (m0_413 P) .nil .nil)) (.node (m0_221 P) (.node (m0_349 P) .nil .nil) .nil)) (.node (m0_125 P) (.node (m0_189 P) (.node (m0_317 P) .nil .nil) .nil) (.node (m0_253 P) (.node (m0_381 P) .nil .nil) .nil))))))) (.node (PySem.W.boot_o_2 P) (.node (PySem.W.boot_o_4 P) (.node (PySem.W.boot_o_8 P) (.node (m0_16 P) (.node (m0_32 P) (.node (m0_64 P) (.node (m0_128 P) (.node (m0_256 P) .nil .nil) (.node (m0_384 P) .nil .nil)) (.node (m0_192 P) (.node (m0_320 P) .nil .nil) .nil)) (.node (m0_96 P) (.node (m0_160 P) (.node (m0_288 P) .nil .nil) (.node (m0_416 P) .nil .nil)) (.node (m0_224 P) (.node (m0_352 P) .nil .nil) .nil))) (.node (m0_48 P) (.node (m0_80 P) (.node (m0_144 P) (.node (m0_272 P) .nil .nil) (.node (m0_400 P) .nil .nil)) (.node (m0_208 P) (.node (m0_336 P) .nil .nil) .nil)) (.node (m0_112 P) (.node (m0_176 P) (.node (m0_304 P) .nil .nil) .nil) (.node (m0_240 P) (.node (m0_368 P) .nil .nil) .nil)))) (.node (m0_24 P) (.node (m0_40 P) (.node (m0_72 P) (.node (m0_136 P) (.node (m0_264 P) .nil .nil) (.node (m0_392 P) .nil .nil)) (.node (m0_200 P) (.node (m0_328 P) .nil .nil) .nil)) (.node (m0_104 P) (.node (m0_168 P) (.node (m0_296 P) .nil .nil) .nil) (.node (m0_232 P) (.node (m0_360 P) .nil .nil) .nil))) (.node (m0_56 P) (.node (m0_88 P) (.node (m0_152 P) (.node (m0_280 P) .nil .nil) (.node (m0_408 P) .nil .nil)) (.node (m0_216 P) (.node (m0_344 P) .nil .nil) .nil)) (.node (m0_120 P) (.node (m0_184 P) (.node (m0_312 P) .nil .nil) .nil) (.node (m0_248 P) (.node (m0_376 P) .nil .nil) .nil))))) (.node (m0_12 P) (.node (m0_20 P) (.node (m0_36 P) (.node (m0_68 P) (.node (m0_132 P) (.node (m0_260 P) .nil .nil) (.node (m0_388 P) .nil .nil)) (.node (m0_196 P) (.node (m0_324 P) .nil .nil) .nil)) (.node (m0_100 P) (.node (m0_164 P) (.node (m0_292 P) .nil .nil) .nil) (.node (m0_228 P) (.node (m0_356 P) .nil .nil) .nil))) (.node (m0_52 P) (.node (m0_84 P) (.node (m0_148 P) (.node (m0_276 P) .nil .nil) (.node (m0_404 P) .nil .nil)) (.node (m0_212 P) (.node (m0_340 P) .nil .nil) .nil)) (.node (m0_116 P) (.node (m0_180 P) (.node (m0_308 P) .nil .nil) .nil) (.node (m0_244 P) (.node (m0_372 P) .nil .nil) .nil)))) (.node (m0_28 P) (.node (m0_44 P) (.node (m0_76 P) (.node (m0_140 P) (.node (m0_268 P) .nil .nil) (.node (m0_396 P) .nil .nil)) (.node (m0_204 P) (.node (m0_332 P) .nil .nil) .nil)) (.node (m0_108 P) (.node (m0_172 P) (.node (m0_300 P) .nil .nil) .nil) (.node (m0_236 P) (.node (m0_364 P) .nil .nil) .nil))) (.node (m0_60 P) (.node (m0_92 P) (.node (m0_156 P) (.node (m0_284 P) .nil .nil) (.node (m0_412 P) .nil .nil)) (.node (m0_220 P) (.node (m0_348 P) .nil .nil) .nil)) (.node (m0_124 P) (.node (m0_188 P) (.node (m0_316 P) .nil .nil) .nil) (.node (m0_252 P) (.node (m0_380 P) .nil .nil) .nil)))))) (.node (PySem.W.boot_o_6 P) (.node (PySem.W.boot_o_10 P) (.node (m0_18 P) (.node (m0_34 P) (.node (m0_66 P) (.node (m0_130 P) (.node (m0_258 P) .nil .nil) (.node (m0_386 P) .nil .nil)) (.node (m0_194 P) (.node (m0_322 P) .nil .nil) .nil)) (.node (m0_98 P) (.node (m0_162 P) (.node (m0_290 P) .nil .nil) .nil) (.node (m0_226 P) (.node (m0_354 P) .nil .nil) .nil))) (.node (m0_50 P) (.node (m0_82 P) (.node (m0_146 P) (.node (m0_274 P) .nil .nil) (.node (m0_402 P) .nil .nil)) (.node (m0_210 P) (.node (m0_338 P) .nil .nil) .nil)) (.node (m0_114 P) (.node (m0_178 P) (.node (m0_306 P) .nil .nil) .nil) (.node (m0_242 P) (.node (m0_370 P) .nil .nil) .nil)))) (.node (m0_26 P) (.node (m0_42 P) (.node (m0_74 P) (.node (m0_138 P) (.node (m0_266 P) .nil .nil) (.node (m0_394 P) .nil .nil)) (.node (m0_202 P) (.node (m0_330 P) .nil .nil) .nil)) (.node (m0_106 P) (.node (m0_170 P) (.node (m0_298 P) .nil .nil) .nil) (.node (m0_234 P) (.node (m0_362 P) .nil .nil) .nil))) (.node (m0_58 P) (.node (m0_90 P) (.node (m0_154 P) (.node (m0_282 P) .nil .nil) (.node (m0_410 P) .nil .nil)) (.node (m0_218 P) (.node (m0_346 P) .nil .nil) .nil)) (.node (m0_122 P) (.node (m0_186 P) (.node (m0_314 P) .nil .nil) .nil) (.node (m0_250 P) (.node (m0_378 P) .nil .nil) .nil))))) (.node (a14 P) (.node (m0_22 P) (.node (m0_38 P) (.node (m0_70 P) (.node (m0_134 P) (.node (m0_262 P) .nil .nil) (.node (m0_390 P) .nil .nil)) (.node (m0_198 P) (.node (m0_326 P) .nil .nil) .nil)) (.node (m0_102 P) (.node (m0_166 P) (.node (m0_294 P) .nil .nil) .nil) (.node (m0_230 P) (.node (m0_358 P) .nil .nil) .nil))) (.node (m0_54 P) (.node (m0_86 P) (.node (m0_150 P) (.node (m0_278 P) .nil .nil) (.node (m0_406 P) .nil .nil)) (.node (m0_214 P) (.node (m0_342 P) .nil .nil) .nil)) (.node (m0_118 P) (.node (m0_182 P) (.node (m0_310 P) .nil .nil) .nil) (.node (m0_246 P) (.node (m0_374 P) .nil .nil) .nil)))) (.node (m0_30 P) (.node (m0_46 P) (.node (m0_78 P) (.node (m0_142 P) (.node (m0_270 P) .nil .nil) (.node (m0_398 P) .nil .nil)) (.node (m0_206 P) (.node (m0_334 P) .nil .nil) .nil)) (.node (m0_110 P) (.node (m0_174 P) (.node (m0_302 P) .nil .nil) .nil) (.node (m0_238 P) (.node (m0_366 P) .nil .nil) .nil))) (.node (m0_62 P) (.node (m0_94 P) (.node (m0_158 P) (.node (m0_286 P) .nil .nil) (.node (m0_414 P) .nil .nil)) (.node (m0_222 P) (.node (m0_350 P) .nil .nil) .nil)) (.node (m0_126 P) (.node (m0_190 P) (.node (m0_318 P) .nil .nil) .nil) (.node (m0_254 P) (.node (m0_382 P) .nil .nil) .nil))))))))
noncomputable def m0_S (w : World) (os : OsState) : SharedT := ⟨m0_T w.params, 418, { }, #[], {}, 1301, os⟩
noncomputable def m1_3 (P : Params) : Obj := ⟨(.type "dict"), none, (.dict #[(e P "__name__" 165 (s "law_signferry_k46_escapes_written" 2119)), (e P "__doc__" 166 .none), (e P "__package__" 167 .none), (e P "__loader__" 168 (.builtin "__main__.__loader__#opaque")), (e P "__spec__" 169 .none), (e P "__annotations__" 170 (.ref 6)), (e P "__builtins__" 171 (.ref 4)), (e P "__file__" 173 (s "/claim/cut.py" 172)), (e P "__cached__" 174 .none), (e P "_wall" 193 (.ref 21)), (e P "HIGH" 197 (.int 55296 196)), (e P "LOW" 199 (.int 56320 198)), (e P "BEHIND" 201 (.int 57344 200)), (e P "GREATEST" 203 (.int 1114111 202)), (e P "SIGNS_codes" 220 (.ref 22)), (e P "text" 226 (.ref 27)), (e P "is_integer" 233 (.ref 34)), (e P "is_row" 240 (.ref 41)), (e P "are_codes" 246 (.ref 46)), (e P "are_octets" 252 (.ref 51)), (e P "is_surrogate" 259 (.ref 58)), (e P "digits_of" 268 (.ref 65)), (e P "SignError" 288 (.ref 75)), (e P "NoCodec" 313 (.ref 95)), (e P "NoHandler" 338 (.ref 114)), (e P "BadCodec" 354 (.ref 126)), (e P "EncodeError" 387 (.ref 145)), (e P "DecodeError" 420 (.ref 164)), (e P "BadAnswer" 436 (.ref 176)), (e P "BadPlace" 461 (.ref 195)), (e P "BadTable" 477 (.ref 207)), (e P "UNDEFINED" 481 (s "character maps to <undefined>" 480)), (e P "FIRST" 610 (.ref 210)), (e P "MIDDLE" 643 (.ref 211)), (e P "LATE" 740 (.ref 212)), (e P "CP1252" 768 (.ref 213)), (e P "LATIN9" 865 (.ref 214)), (e P "KOI8" 994 (.ref 215)), (e P "TABLES" 1001 (.ref 216)), (e P "is_code" 1008 (.ref 228)), (e P "is_octet" 1015 (.ref 235)), (e P "entries_of" 1021 (.ref 240)), (e P "way_back" 1027 (.ref 245)), (e P "checked_table" 1037 (.ref 252)), (e P "checked_back" 1047 (.ref 259)), (e P "write_charmap" 1053 (.ref 264)), (e P "SHORT" 1068 (.ref 265)), (e P "far_escape" 1075 (.ref 272)), (e P "near_escape" 1082 (.ref 279)), (e P "write_escape" 1092 (.ref 286)), (e P "write_raw_escape" 1102 (.ref 293)), (e P "SIZES" 1126 (.ref 294)), (e P "raise_again" 1133 (.ref 301)), (e P "range_of" 1140 (.ref 308)), (e P "answer_strict" 1147 (.ref 315)), (e P "answer_ignore" 1154 (.ref 322)), (e P "answer_replace" 1163 (.ref 329)), (e P "answer_xmlcharrefreplace" 1173 (.ref 336)), (e P "escape_of" 1180 (.ref 343)), (e P "answer_backslashreplace" 1189 (.ref 350)), (e P "answer_surrogateescape" 1195 (.ref 355)), (e P "surrogate_bytes" 1204 (.ref 362)), (e P "surrogate_at" 1216 (.ref 369)), (e P "answer_surrogatepass" 1222 (.ref 374)), (e P "KNOWN" 1237 (.ref 375)), (e P "checked_answer" 1251 (.ref 382)), (e P "Answers" 1300 (.ref 413)), (e P "SIGN" 1306 (.ref 418)), (e P "MARKS_incremental" 1323 (.ref 419)), (e P "ORDERS" 1326 (.ref 426)), (e P "Encoder" 1388 (.ref 472)), (e P "SignedEncoder" 1446 (.ref 522)), (e P "MarkedEncoder" 1504 (.ref 570)), (e P "encoder_of" 1512 (.ref 579)), (e P "least_of" 1522 (.ref 586)), (e P "next_bias" 1532 (.ref 593)), (e P "digit_of" 1539 (.ref 600)), (e P "number_written" 1550 (.ref 607)), (e P "write_punycode" 1556 (.ref 612)), (e P "FIRST_ESCAPE" 1560 (.int 56448 1559)), (e P "LAST_ESCAPE" 1562 (.int 56575 1561)), (e P "ASCII" 1566 (.ref 613)), (e P "LATIN" 1570 (.ref 614)), (e P "own_escapes_end" 1581 (.ref 621)), (e P "written_run" 1587 (.ref 626)), (e P "write_runs" 1601 (.ref 633)), (e P "write_ascii" 1609 (.ref 640)), (e P "write_latin" 1617 (.ref 647)), (e P "SIGNATURE" 1623 (.ref 648)), (e P "TOLD" 1627 (.ref 649)), (e P "utf8_octets" 1634 (.ref 656)), (e P "write_utf8" 1642 (.ref 663)), (e P "write_signed" 1650 (.ref 670)), (e P "MARKS_wide" 1669 (.ref 671)), (e P "size_of" 1676 (.ref 684)), (e P "is_big" 1683 (.ref 691)), (e P "unit_octets" 1694 (.ref 698)), (e P "wide_octets" 1702 (.ref 705)), (e P "all_octets" 1712 (.ref 712)), (e P "answered" 1718 (.ref 717)), (e P "write_wide" 1731 (.ref 724)), (e P "base_sign" 1740 (.ref 731)), (e P "base_value" 1747 (.ref 738)), (e P "is_plain" 1754 (.ref 745)), (e P "units_of" 1761 (.ref 752)), (e P "last_sign" 1769 (.ref 759)), (e P "write_utf7" 1783 (.ref 766)), (e P "WRITERS" 1802 (.ref 767)), (e P "Codec" 1908 (.ref 840)), (e P "SIGNS_registry" 1912 (s "abcdefghijklmnopqrstuvwxyz0123456789." 1911)), (e P "CODECS" 1964 (.ref 845)), (e P "normal_name" 1975 (.ref 852)), (e P "known_name" 1983 (.ref 859)), (e P "Registry" 2118 (.ref 956)), (e P "_law_source" 2130 (.ref 967)), (e P "_law_draw" 2140 (.ref 974)), (e P "_law_pick" 2148 (.ref 981)), (e P "_law_text" 2154 (.ref 986)), (e P "_law_handed" 2162 (.ref 993)), (e P "_law_same" 2168 (.ref 998)), (e P "_law_digits" 2178 (.ref 1005)), (e P "_law_escaped" 2187 (.ref 1012)), (e P "_law_codes_e" 2193 (.ref 1017)), (e P "_law_due" 2203 (.ref 1024)), (e P "_law_right" 2222 (.ref 1031)), (e P "law" 2228 (.ref 1036))] 126), #[]⟩
noncomputable def m1_12 (P : Params) : Obj := ⟨.none, none, (.fields #[(.int 1 0), (.int 0 0), (.ref 20), (.int 10 0), (.int 0 0), (.ref 26), (.int 12 0), (.int 0 0), (.ref 33), (.int 14 0), (.int 0 0), (.ref 40), (.int 16 0), (.int 0 0), (.ref 45), (.int 18 0), (.int 0 0), (.ref 50), (.int 20 0), (.int 0 0), (.ref 57), (.int 22 0), (.int 0 0), (.ref 64), (.int 29 0), (.int 0 0), (.ref 71), (.int 31 0), (.int 0 0), (.ref 84), (.int 35 0), (.int 0 0), (.ref 103), (.int 39 0), (.int 0 0), (.ref 122), (.int 41 0), (.int 0 0), (.ref 134), (.int 49 0), (.int 0 0), (.ref 153), (.int 57 0), (.int 0 0), (.ref 172), (.int 59 0), (.int 0 0), (.ref 184), (.int 63 0), (.int 0 0), (.ref 203), (.int 74 0), (.int 0 0), (.ref 227), (.int 76 0), (.int 0 0), (.ref 234), (.int 78 0), (.int 0 0), (.ref 239), (.int 89 0), (.int 0 0), (.ref 244), (.int 91 0), (.int 0 0), (.ref 251), (.int 97 0), (.int 0 0), (.ref 258), (.int 108 0), (.int 0 0), (.ref 263), (.int 130 0), (.int 0 0), (.ref 271), (.int 134 0), (.int 0 0), (.ref 278), (.int 140 0), (.int 0 0), (.ref 285), (.int 145 0), (.int 0 0), (.ref 292), (.int 152 0), (.int 0 0), (.ref 300), (.int 156 0), (.int 0 0), (.ref 307), (.int 160 0), (.int 0 0), (.ref 314), (.int 163 0), (.int 0 0), (.ref 321), (.int 166 0), (.int 0 0), (.ref 328), (.int 170 0), (.int 0 0), (.ref 335), (.int 177 0), (.int 0 0), (.ref 342), (.int 181 0), (.int 0 0), (.ref 349), (.int 186 0), (.int 0 0), (.ref 354), (.int 198 0), (.int 0 0), (.ref 361), (.int 203 0), (.int 0 0), (.ref 368), (.int 213 0), (.int 0 0), (.ref 373), (.int 229 0), (.int 0 0), (.ref 381), (.int 241 0), (.int 0 0), (.ref 388), (.int 260 0), (.int 0 0), (.ref 432), (.int 277 0), (.int 0 0), (.ref 482), (.int 296 0), (.int 0 0), (.ref 530), (.int 317 0), (.int 0 0), (.ref 578), (.int 324 0), (.int 0 0), (.ref 585), (.int 326 0), (.int 0 0), (.ref 592), (.int 333 0), (.int 0 0), (.ref 599), (.int 335 0), (.int 0 0), (.ref 606), (.int 343 0), (.int 0 0), (.ref 611), (.int 362 0), (.int 0 0), (.ref 620), (.int 368 0), (.int 0 0), (.ref 625), (.int 379 0), (.int 0 0), (.ref 632), (.int 392 0), (.int 0 0), (.ref 639), (.int 394 0), (.int 0 0), (.ref 646), (.int 399 0), (.int 0 0), (.ref 655), (.int 407 0), (.int 0 0), (.ref 662), (.int 409 0), (.int 0 0), (.ref 669), (.int 413 0), (.int 0 0), (.ref 683), (.int 415 0), (.int 0 0), (.ref 690), (.int 417 0), (.int 0 0), (.ref 697), (.int 423 0), (.int 0 0), (.ref 704), (.int 427 0), (.int 0 0), (.ref 711), (.int 432 0), (.int 0 0), (.ref 716), (.int 438 0), (.int 0 0), (.ref 723), (.int 450 0), (.int 0 0), (.ref 730), (.int 458 0), (.int 0 0), (.ref 737), (.int 466 0), (.int 0 0), (.ref 744), (.int 468 0), (.int 0 0), (.ref 751), (.int 472 0), (.int 0 0), (.ref 758), (.int 474 0), (.int 0 0), (.ref 765), (.int 501 0), (.int 0 0), (.ref 773), (.int 539 0), (.int 0 0), (.ref 851), (.int 547 0), (.int 0 0), (.ref 858), (.int 552 0), (.int 0 0), (.ref 865), (.int 615 0), (.int 0 0), (.ref 966), (.int 623 0), (.int 0 0), (.ref 973), (.int 631 0), (.int 0 0), (.ref 980), (.int 633 0), (.int 0 0), (.ref 985), (.int 635 0), (.int 0 0), (.ref 992), (.int 637 0), (.int 0 0), (.ref 997), (.int 645 0), (.int 0 0), (.ref 1004), (.int 651 0), (.int 0 0), (.ref 1011), (.int 660 0), (.int 0 0), (.ref 1016), (.int 664 0), (.int 0 0), (.ref 1023), (.int 669 0), (.int 0 0), (.ref 1030), (.int 689 0), (.int 0 0), (.ref 1035)]), #[]⟩
noncomputable def m1_418 (P : Params) : Obj := ⟨(.type "tuple"), none, (.seq #[(.int 239 1303), (.int 187 1304), (.int 191 1305)] 0), #[]⟩
noncomputable def m1_419 (P : Params) : Obj := ⟨(.type "dict"), none, (.dict #[(e P "utf-16" 1307 (.ref 422)), (e P "utf-32" 1312 (.ref 425))] 2), #[]⟩
noncomputable def m1_420 (P : Params) : Obj := ⟨(.type "tuple"), none, (.seq #[(.int 255 1308), (.int 254 1309)] 0), #[]⟩
noncomputable def m1_421 (P : Params) : Obj := ⟨(.type "tuple"), none, (.seq #[(.int 254 1310), (.int 255 1311)] 0), #[]⟩
noncomputable def m1_422 (P : Params) : Obj := ⟨(.type "tuple"), none, (.seq #[(.ref 420), (.ref 421)] 0), #[]⟩
noncomputable def m1_423 (P : Params) : Obj := ⟨(.type "tuple"), none, (.seq #[(.int 255 1313), (.int 254 1314), (.int 0 1315), (.int 0 1316)] 0), #[]⟩
noncomputable def m1_424 (P : Params) : Obj := ⟨(.type "tuple"), none, (.seq #[(.int 0 1317), (.int 0 1318), (.int 254 1319), (.int 255 1320)] 0), #[]⟩
noncomputable def m1_425 (P : Params) : Obj := ⟨(.type "tuple"), none, (.seq #[(.ref 423), (.ref 424)] 0), #[]⟩
noncomputable def m1_426 (P : Params) : Obj := ⟨(.type "tuple"), none, (.seq #[(s "-le" 1324), (s "-be" 1325)] 0), #[]⟩
noncomputable def m1_427 (P : Params) : Obj := ⟨(.type "tuple"), none, (.seq #[] 0), #[]⟩
noncomputable def m1_428 (P : Params) : Obj := ⟨(.type "builtin_function_or_method"), none, (.fields #[(.builtin "type.__prepare__"), (.type "type")]), #[]⟩
noncomputable def m1_429 (P : Params) : Obj := ⟨(.type "dict"), none, (.dict #[(e P "__module__" 1334 (s "signferry.incremental" 1301)), (e P "__qualname__" 1336 (s "Encoder" 1335)), (e P "__firstlineno__" 1338 (.int 260 1337)), (e P "__init__" 1347 (.ref 440)), (e P "encoded" 1356 (.ref 448)), (e P "reset" 1363 (.ref 455)), (e P "getstate" 1370 (.ref 462)), (e P "setstate" 1378 (.ref 469)), (e P "__static_attributes__" 1381 (.ref 470))] 9), #[]⟩
noncomputable def m1_430 (P : Params) : Obj := ⟨(.type "tuple"), none, (.seq #[] 0), #[]⟩
noncomputable def m1_431 (P : Params) : Obj := ⟨.none, none, (.fields #[(.int 262 0), (.int 4 0), (.ref 439), (.int 266 0), (.int 4 0), (.ref 447), (.int 269 0), (.int 4 0), (.ref 454), (.int 272 0), (.int 4 0), (.ref 461), (.int 275 0), (.int 4 0), (.ref 468)]), #[]⟩
noncomputable def m1_432 (P : Params) : Obj := ⟨(.type "code"), none, (.fields #[(s "Encoder" 1329), (s "Encoder" 1330), (s "/claim/cut.py" 1331), (.int 260 0), (.int 0 0), (.int 0 0), (.int 0 0), (.int 0 0), (.ref 430), (.bool false), (.int 181 0), (.ref 431), .none, .none, .none, .none, (.int 1332 0), (.int 260 0), (s "/claim/cut.py" 1333)]), #[]⟩
noncomputable def m1_433 (P : Params) : Obj := ⟨(.type "frame"), none, .plain, #[(some (.ref 432)), (some (.ref 3)), (some (.ref 429)), none, (some (s "signferry.incremental" 1301)), none, (some (.ref 0))]⟩
noncomputable def m1_434 (P : Params) : Obj := ⟨(.type "tuple"), none, (.seq #[] 0), #[]⟩
noncomputable def m1_435 (P : Params) : Obj := ⟨.none, none, (.fields #[]), #[]⟩
noncomputable def m1_436 (P : Params) : Obj := ⟨(.type "tuple"), none, (.seq #[(s "self" 1342), (s "codec" 1343), (s "errors" 1344)] 0), #[]⟩
noncomputable def m1_437 (P : Params) : Obj := ⟨(.type "tuple"), none, (.seq #[] 0), #[]⟩
noncomputable def m1_438 (P : Params) : Obj := ⟨.none, none, (.func (f (mth 67 0) "__init__" "Encoder.__init__" 0 [] .none .none .none .none none .none .none 0)), #[]⟩
noncomputable def m1_439 (P : Params) : Obj := ⟨(.type "code"), none, (.fields #[(s "__init__" 1339), (s "Encoder.__init__" 1340), (s "/claim/cut.py" 1341), (.int 262 0), (.int 3 0), (.int 0 0), (.int 0 0), (.int 3 0), (.ref 434), (.bool true), (.int 181 0), (.ref 435), .none, (.ref 436), (.ref 437), (.ref 438), (.int 1345 0), (.int 262 0), (s "/claim/cut.py" 1346)]), #[]⟩
noncomputable def m1_440 (P : Params) : Obj := ⟨(.type "function"), none, (.func (f (mth 67 0) "__init__" "Encoder.__init__" 3 [] .none .none .none (s "signferry.incremental" 1301) none (.ref 439) .none 0)), #[]⟩
noncomputable def m1_441 (P : Params) : Obj := ⟨(.type "tuple"), none, (.seq #[(.bool false)] 0), #[]⟩
noncomputable def m1_442 (P : Params) : Obj := ⟨(.type "tuple"), none, (.seq #[] 0), #[]⟩
noncomputable def m1_443 (P : Params) : Obj := ⟨.none, none, (.fields #[]), #[]⟩
noncomputable def m1_444 (P : Params) : Obj := ⟨(.type "tuple"), none, (.seq #[(s "self" 1351), (s "source" 1352), (s "final" 1353)] 0), #[]⟩
noncomputable def m1_445 (P : Params) : Obj := ⟨(.type "tuple"), none, (.seq #[] 0), #[]⟩
noncomputable def m1_446 (P : Params) : Obj := ⟨.none, none, (.func (f (mth 67 1) "encoded" "Encoder.encoded" 0 [] .none .none .none .none none .none .none 0)), #[]⟩
noncomputable def m1_447 (P : Params) : Obj := ⟨(.type "code"), none, (.fields #[(s "encoded" 1348), (s "Encoder.encoded" 1349), (s "/claim/cut.py" 1350), (.int 266 0), (.int 3 0), (.int 0 0), (.int 0 0), (.int 3 0), (.ref 442), (.bool true), (.int 181 0), (.ref 443), .none, (.ref 444), (.ref 445), (.ref 446), (.int 1354 0), (.int 266 0), (s "/claim/cut.py" 1355)]), #[]⟩
noncomputable def m1_448 (P : Params) : Obj := ⟨(.type "function"), none, (.func (f (mth 67 1) "encoded" "Encoder.encoded" 3 [] (.ref 441) .none .none (s "signferry.incremental" 1301) none (.ref 447) .none 0)), #[]⟩
noncomputable def m1_449 (P : Params) : Obj := ⟨(.type "tuple"), none, (.seq #[] 0), #[]⟩
noncomputable def m1_450 (P : Params) : Obj := ⟨.none, none, (.fields #[]), #[]⟩
noncomputable def m1_451 (P : Params) : Obj := ⟨(.type "tuple"), none, (.seq #[(s "self" 1360)] 0), #[]⟩
noncomputable def m1_452 (P : Params) : Obj := ⟨(.type "tuple"), none, (.seq #[] 0), #[]⟩
noncomputable def m1_453 (P : Params) : Obj := ⟨.none, none, (.func (f (mth 67 2) "reset" "Encoder.reset" 0 [] .none .none .none .none none .none .none 0)), #[]⟩
noncomputable def m1_454 (P : Params) : Obj := ⟨(.type "code"), none, (.fields #[(s "reset" 1357), (s "Encoder.reset" 1358), (s "/claim/cut.py" 1359), (.int 269 0), (.int 1 0), (.int 0 0), (.int 0 0), (.int 3 0), (.ref 449), (.bool true), (.int 181 0), (.ref 450), .none, (.ref 451), (.ref 452), (.ref 453), (.int 1361 0), (.int 269 0), (s "/claim/cut.py" 1362)]), #[]⟩
noncomputable def m1_455 (P : Params) : Obj := ⟨(.type "function"), none, (.func (f (mth 67 2) "reset" "Encoder.reset" 3 [] .none .none .none (s "signferry.incremental" 1301) none (.ref 454) .none 0)), #[]⟩
noncomputable def m1_456 (P : Params) : Obj := ⟨(.type "tuple"), none, (.seq #[] 0), #[]⟩
noncomputable def m1_457 (P : Params) : Obj := ⟨.none, none, (.fields #[]), #[]⟩
noncomputable def m1_458 (P : Params) : Obj := ⟨(.type "tuple"), none, (.seq #[(s "self" 1367)] 0), #[]⟩
noncomputable def m1_459 (P : Params) : Obj := ⟨(.type "tuple"), none, (.seq #[] 0), #[]⟩
noncomputable def m1_460 (P : Params) : Obj := ⟨.none, none, (.func (f (mth 67 3) "getstate" "Encoder.getstate" 0 [] .none .none .none .none none .none .none 0)), #[]⟩
noncomputable def m1_461 (P : Params) : Obj := ⟨(.type "code"), none, (.fields #[(s "getstate" 1364), (s "Encoder.getstate" 1365), (s "/claim/cut.py" 1366), (.int 272 0), (.int 1 0), (.int 0 0), (.int 0 0), (.int 3 0), (.ref 456), (.bool true), (.int 181 0), (.ref 457), .none, (.ref 458), (.ref 459), (.ref 460), (.int 1368 0), (.int 272 0), (s "/claim/cut.py" 1369)]), #[]⟩
noncomputable def m1_462 (P : Params) : Obj := ⟨(.type "function"), none, (.func (f (mth 67 3) "getstate" "Encoder.getstate" 3 [] .none .none .none (s "signferry.incremental" 1301) none (.ref 461) .none 0)), #[]⟩
noncomputable def m1_463 (P : Params) : Obj := ⟨(.type "tuple"), none, (.seq #[] 0), #[]⟩
noncomputable def m1_464 (P : Params) : Obj := ⟨.none, none, (.fields #[]), #[]⟩
noncomputable def m1_465 (P : Params) : Obj := ⟨(.type "tuple"), none, (.seq #[(s "self" 1374), (s "state" 1375)] 0), #[]⟩
noncomputable def m1_466 (P : Params) : Obj := ⟨(.type "tuple"), none, (.seq #[] 0), #[]⟩
noncomputable def m1_467 (P : Params) : Obj := ⟨.none, none, (.func (f (mth 67 4) "setstate" "Encoder.setstate" 0 [] .none .none .none .none none .none .none 0)), #[]⟩
noncomputable def m1_468 (P : Params) : Obj := ⟨(.type "code"), none, (.fields #[(s "setstate" 1371), (s "Encoder.setstate" 1372), (s "/claim/cut.py" 1373), (.int 275 0), (.int 2 0), (.int 0 0), (.int 0 0), (.int 3 0), (.ref 463), (.bool true), (.int 181 0), (.ref 464), .none, (.ref 465), (.ref 466), (.ref 467), (.int 1376 0), (.int 275 0), (s "/claim/cut.py" 1377)]), #[]⟩
noncomputable def m1_469 (P : Params) : Obj := ⟨(.type "function"), none, (.func (f (mth 67 4) "setstate" "Encoder.setstate" 3 [] .none .none .none (s "signferry.incremental" 1301) none (.ref 468) .none 0)), #[]⟩
noncomputable def m1_470 (P : Params) : Obj := ⟨(.type "tuple"), none, (.seq #[(s "codec" 1379), (s "errors" 1380)] 0), #[]⟩
noncomputable def m1_471 (P : Params) : Obj := ⟨(.type "dict"), none, (.dict #[(e P "__module__" 1334 (s "signferry.incremental" 1301)), (e P "__firstlineno__" 1338 (.int 260 1337)), (e P "__init__" 1347 (.ref 440)), (e P "encoded" 1356 (.ref 448)), (e P "reset" 1363 (.ref 455)), (e P "getstate" 1370 (.ref 462)), (e P "setstate" 1378 (.ref 469)), (e P "__static_attributes__" 1381 (.ref 470)), (e P "__dict__" 1383 (.ref 473)), (e P "__weakref__" 1385 (.ref 474)), (e P "__doc__" 1386 .none)] 4), #[]⟩
noncomputable def m1_472 (P : Params) : Obj := ⟨(.type "type"), none, (.cls ⟨(S "Encoder"), [(.type "object")], [(.ref 472), (.type "object")], 471, (S "Encoder"), true, [], [(.ref 522), (.ref 570)], false, none, false⟩), #[none, none, (some (s "Encoder" 1327)), (some (s "Encoder" 1335)), (some (.builtin "object.__new__")), (some (.bool true))]⟩
noncomputable def m1_473 (P : Params) : Obj := ⟨(.type "getset_descriptor"), none, (.fields #[(s "__dict__" 1382), (.ref 472), (.builtin "function.__dict__"), (.builtin "function.__dict__#set")]), #[]⟩
noncomputable def m1_474 (P : Params) : Obj := ⟨(.type "getset_descriptor"), none, (.fields #[(s "__weakref__" 1384), (.ref 472), (.builtin "ExceptionGroup.__weakref__"), .none]), #[]⟩
noncomputable def m1_475 (P : Params) : Obj := ⟨(.type "super"), none, (.fields #[(.ref 472), (.ref 472), (.ref 472)]), #[]⟩
noncomputable def m1_476 (P : Params) : Obj := ⟨(.type "builtin_function_or_method"), none, (.fields #[(.builtin "object.__init_subclass__"), (.ref 472)]), #[]⟩
noncomputable def m1_477 (P : Params) : Obj := ⟨(.type "tuple"), none, (.seq #[(.ref 472)] 0), #[]⟩
noncomputable def m1_478 (P : Params) : Obj := ⟨(.type "builtin_function_or_method"), none, (.fields #[(.builtin "type.__prepare__"), (.type "type")]), #[]⟩
noncomputable def m1_479 (P : Params) : Obj := ⟨(.type "dict"), none, (.dict #[(e P "__module__" 1396 (s "signferry.incremental" 1301)), (e P "__qualname__" 1398 (s "SignedEncoder" 1397)), (e P "__firstlineno__" 1400 (.int 277 1399)), (e P "__init__" 1409 (.ref 490)), (e P "encoded" 1419 (.ref 498)), (e P "reset" 1426 (.ref 505)), (e P "getstate" 1433 (.ref 512)), (e P "setstate" 1441 (.ref 519)), (e P "__static_attributes__" 1443 (.ref 520))] 9), #[]⟩
noncomputable def m1_480 (P : Params) : Obj := ⟨(.type "tuple"), none, (.seq #[] 0), #[]⟩
noncomputable def m1_481 (P : Params) : Obj := ⟨.none, none, (.fields #[(.int 279 0), (.int 4 0), (.ref 489), (.int 283 0), (.int 4 0), (.ref 497), (.int 288 0), (.int 4 0), (.ref 504), (.int 291 0), (.int 4 0), (.ref 511), (.int 294 0), (.int 4 0), (.ref 518)]), #[]⟩
noncomputable def m1_482 (P : Params) : Obj := ⟨(.type "code"), none, (.fields #[(s "SignedEncoder" 1391), (s "SignedEncoder" 1392), (s "/claim/cut.py" 1393), (.int 277 0), (.int 0 0), (.int 0 0), (.int 0 0), (.int 0 0), (.ref 480), (.bool false), (.int 181 0), (.ref 481), .none, .none, .none, .none, (.int 1394 0), (.int 277 0), (s "/claim/cut.py" 1395)]), #[]⟩
noncomputable def m1_483 (P : Params) : Obj := ⟨(.type "frame"), none, .plain, #[(some (.ref 482)), (some (.ref 3)), (some (.ref 479)), none, (some (s "signferry.incremental" 1301)), none, (some (.ref 0))]⟩
noncomputable def m1_484 (P : Params) : Obj := ⟨(.type "tuple"), none, (.seq #[] 0), #[]⟩
noncomputable def m1_485 (P : Params) : Obj := ⟨.none, none, (.fields #[]), #[]⟩
noncomputable def m1_486 (P : Params) : Obj := ⟨(.type "tuple"), none, (.seq #[(s "self" 1404), (s "codec" 1405), (s "errors" 1406)] 0), #[]⟩
noncomputable def m1_487 (P : Params) : Obj := ⟨(.type "tuple"), none, (.seq #[] 0), #[]⟩
noncomputable def m1_488 (P : Params) : Obj := ⟨.none, none, (.func (f (mth 68 0) "__init__" "SignedEncoder.__init__" 0 [] .none .none .none .none none .none .none 0)), #[]⟩
noncomputable def m1_489 (P : Params) : Obj := ⟨(.type "code"), none, (.fields #[(s "__init__" 1401), (s "SignedEncoder.__init__" 1402), (s "/claim/cut.py" 1403), (.int 279 0), (.int 3 0), (.int 0 0), (.int 0 0), (.int 3 0), (.ref 484), (.bool true), (.int 181 0), (.ref 485), .none, (.ref 486), (.ref 487), (.ref 488), (.int 1407 0), (.int 279 0), (s "/claim/cut.py" 1408)]), #[]⟩
noncomputable def m1_490 (P : Params) : Obj := ⟨(.type "function"), none, (.func (f (mth 68 0) "__init__" "SignedEncoder.__init__" 3 [] .none .none .none (s "signferry.incremental" 1301) none (.ref 489) .none 0)), #[]⟩
noncomputable def m1_491 (P : Params) : Obj := ⟨(.type "tuple"), none, (.seq #[(.bool false)] 0), #[]⟩
noncomputable def m1_492 (P : Params) : Obj := ⟨(.type "tuple"), none, (.seq #[] 0), #[]⟩
noncomputable def m1_493 (P : Params) : Obj := ⟨.none, none, (.fields #[]), #[]⟩
noncomputable def m1_494 (P : Params) : Obj := ⟨(.type "tuple"), none, (.seq #[(s "self" 1413), (s "source" 1414), (s "final" 1415), (s "ahead" 1416)] 0), #[]⟩
noncomputable def m1_495 (P : Params) : Obj := ⟨(.type "tuple"), none, (.seq #[] 0), #[]⟩
noncomputable def m1_496 (P : Params) : Obj := ⟨.none, none, (.func (f (mth 68 1) "encoded" "SignedEncoder.encoded" 0 [] .none .none .none .none none .none .none 0)), #[]⟩
noncomputable def m1_497 (P : Params) : Obj := ⟨(.type "code"), none, (.fields #[(s "encoded" 1410), (s "SignedEncoder.encoded" 1411), (s "/claim/cut.py" 1412), (.int 283 0), (.int 3 0), (.int 0 0), (.int 0 0), (.int 3 0), (.ref 492), (.bool true), (.int 181 0), (.ref 493), .none, (.ref 494), (.ref 495), (.ref 496), (.int 1417 0), (.int 283 0), (s "/claim/cut.py" 1418)]), #[]⟩
noncomputable def m1_498 (P : Params) : Obj := ⟨(.type "function"), none, (.func (f (mth 68 1) "encoded" "SignedEncoder.encoded" 3 [] (.ref 491) .none .none (s "signferry.incremental" 1301) none (.ref 497) .none 0)), #[]⟩
noncomputable def m1_499 (P : Params) : Obj := ⟨(.type "tuple"), none, (.seq #[] 0), #[]⟩
noncomputable def m1_500 (P : Params) : Obj := ⟨.none, none, (.fields #[]), #[]⟩
noncomputable def m1_501 (P : Params) : Obj := ⟨(.type "tuple"), none, (.seq #[(s "self" 1423)] 0), #[]⟩
noncomputable def m1_502 (P : Params) : Obj := ⟨(.type "tuple"), none, (.seq #[] 0), #[]⟩
noncomputable def m1_503 (P : Params) : Obj := ⟨.none, none, (.func (f (mth 68 2) "reset" "SignedEncoder.reset" 0 [] .none .none .none .none none .none .none 0)), #[]⟩
noncomputable def m1_504 (P : Params) : Obj := ⟨(.type "code"), none, (.fields #[(s "reset" 1420), (s "SignedEncoder.reset" 1421), (s "/claim/cut.py" 1422), (.int 288 0), (.int 1 0), (.int 0 0), (.int 0 0), (.int 3 0), (.ref 499), (.bool true), (.int 181 0), (.ref 500), .none, (.ref 501), (.ref 502), (.ref 503), (.int 1424 0), (.int 288 0), (s "/claim/cut.py" 1425)]), #[]⟩
noncomputable def m1_505 (P : Params) : Obj := ⟨(.type "function"), none, (.func (f (mth 68 2) "reset" "SignedEncoder.reset" 3 [] .none .none .none (s "signferry.incremental" 1301) none (.ref 504) .none 0)), #[]⟩
noncomputable def m1_506 (P : Params) : Obj := ⟨(.type "tuple"), none, (.seq #[] 0), #[]⟩
noncomputable def m1_507 (P : Params) : Obj := ⟨.none, none, (.fields #[]), #[]⟩
noncomputable def m1_508 (P : Params) : Obj := ⟨(.type "tuple"), none, (.seq #[(s "self" 1430)] 0), #[]⟩
noncomputable def m1_509 (P : Params) : Obj := ⟨(.type "tuple"), none, (.seq #[] 0), #[]⟩
noncomputable def m1_510 (P : Params) : Obj := ⟨.none, none, (.func (f (mth 68 3) "getstate" "SignedEncoder.getstate" 0 [] .none .none .none .none none .none .none 0)), #[]⟩
noncomputable def m1_511 (P : Params) : Obj := ⟨(.type "code"), none, (.fields #[(s "getstate" 1427), (s "SignedEncoder.getstate" 1428), (s "/claim/cut.py" 1429), (.int 291 0), (.int 1 0), (.int 0 0), (.int 0 0), (.int 3 0), (.ref 506), (.bool true), (.int 181 0), (.ref 507), .none, (.ref 508), (.ref 509), (.ref 510), (.int 1431 0), (.int 291 0), (s "/claim/cut.py" 1432)]), #[]⟩
noncomputable def m1_512 (P : Params) : Obj := ⟨(.type "function"), none, (.func (f (mth 68 3) "getstate" "SignedEncoder.getstate" 3 [] .none .none .none (s "signferry.incremental" 1301) none (.ref 511) .none 0)), #[]⟩
noncomputable def m1_513 (P : Params) : Obj := ⟨(.type "tuple"), none, (.seq #[] 0), #[]⟩
noncomputable def m1_514 (P : Params) : Obj := ⟨.none, none, (.fields #[]), #[]⟩
noncomputable def m1_515 (P : Params) : Obj := ⟨(.type "tuple"), none, (.seq #[(s "self" 1437), (s "state" 1438)] 0), #[]⟩
noncomputable def m1_516 (P : Params) : Obj := ⟨(.type "tuple"), none, (.seq #[] 0), #[]⟩
noncomputable def m1_517 (P : Params) : Obj := ⟨.none, none, (.func (f (mth 68 4) "setstate" "SignedEncoder.setstate" 0 [] .none .none .none .none none .none .none 0)), #[]⟩
noncomputable def m1_518 (P : Params) : Obj := ⟨(.type "code"), none, (.fields #[(s "setstate" 1434), (s "SignedEncoder.setstate" 1435), (s "/claim/cut.py" 1436), (.int 294 0), (.int 2 0), (.int 0 0), (.int 0 0), (.int 3 0), (.ref 513), (.bool true), (.int 181 0), (.ref 514), .none, (.ref 515), (.ref 516), (.ref 517), (.int 1439 0), (.int 294 0), (s "/claim/cut.py" 1440)]), #[]⟩
noncomputable def m1_519 (P : Params) : Obj := ⟨(.type "function"), none, (.func (f (mth 68 4) "setstate" "SignedEncoder.setstate" 3 [] .none .none .none (s "signferry.incremental" 1301) none (.ref 518) .none 0)), #[]⟩
noncomputable def m1_520 (P : Params) : Obj := ⟨(.type "tuple"), none, (.seq #[(s "state" 1442)] 0), #[]⟩
noncomputable def m1_521 (P : Params) : Obj := ⟨(.type "dict"), none, (.dict #[(e P "__module__" 1396 (s "signferry.incremental" 1301)), (e P "__firstlineno__" 1400 (.int 277 1399)), (e P "__init__" 1409 (.ref 490)), (e P "encoded" 1419 (.ref 498)), (e P "reset" 1426 (.ref 505)), (e P "getstate" 1433 (.ref 512)), (e P "setstate" 1441 (.ref 519)), (e P "__static_attributes__" 1443 (.ref 520)), (e P "__doc__" 1444 .none)] 2), #[]⟩
noncomputable def m1_522 (P : Params) : Obj := ⟨(.type "type"), none, (.cls ⟨(S "SignedEncoder"), [(.ref 472)], [(.ref 522), (.ref 472), (.type "object")], 521, (S "SignedEncoder"), true, [], [], false, none, false⟩), #[(some (.ref 477)), none, (some (s "SignedEncoder" 1389)), (some (s "SignedEncoder" 1397)), (some (.builtin "object.__new__")), (some (.bool true))]⟩
noncomputable def m1_523 (P : Params) : Obj := ⟨(.type "super"), none, (.fields #[(.ref 522), (.ref 522), (.ref 522)]), #[]⟩
noncomputable def m1_524 (P : Params) : Obj := ⟨(.type "builtin_function_or_method"), none, (.fields #[(.builtin "object.__init_subclass__"), (.ref 522)]), #[]⟩
noncomputable def m1_525 (P : Params) : Obj := ⟨(.type "tuple"), none, (.seq #[(.ref 472)] 0), #[]⟩
noncomputable def m1_526 (P : Params) : Obj := ⟨(.type "builtin_function_or_method"), none, (.fields #[(.builtin "type.__prepare__"), (.type "type")]), #[]⟩
noncomputable def m1_527 (P : Params) : Obj := ⟨(.type "dict"), none, (.dict #[(e P "__module__" 1454 (s "signferry.incremental" 1301)), (e P "__qualname__" 1456 (s "MarkedEncoder" 1455)), (e P "__firstlineno__" 1458 (.int 296 1457)), (e P "__init__" 1467 (.ref 538)), (e P "encoded" 1477 (.ref 546)), (e P "reset" 1484 (.ref 553)), (e P "getstate" 1491 (.ref 560)), (e P "setstate" 1499 (.ref 567)), (e P "__static_attributes__" 1501 (.ref 568))] 9), #[]⟩
noncomputable def m1_528 (P : Params) : Obj := ⟨(.type "tuple"), none, (.seq #[] 0), #[]⟩
noncomputable def m1_529 (P : Params) : Obj := ⟨.none, none, (.fields #[(.int 298 0), (.int 4 0), (.ref 537), (.int 302 0), (.int 4 0), (.ref 545), (.int 309 0), (.int 4 0), (.ref 552), (.int 312 0), (.int 4 0), (.ref 559), (.int 315 0), (.int 4 0), (.ref 566)]), #[]⟩
noncomputable def m1_530 (P : Params) : Obj := ⟨(.type "code"), none, (.fields #[(s "MarkedEncoder" 1449), (s "MarkedEncoder" 1450), (s "/claim/cut.py" 1451), (.int 296 0), (.int 0 0), (.int 0 0), (.int 0 0), (.int 0 0), (.ref 528), (.bool false), (.int 181 0), (.ref 529), .none, .none, .none, .none, (.int 1452 0), (.int 296 0), (s "/claim/cut.py" 1453)]), #[]⟩
noncomputable def m1_531 (P : Params) : Obj := ⟨(.type "frame"), none, .plain, #[(some (.ref 530)), (some (.ref 3)), (some (.ref 527)), none, (some (s "signferry.incremental" 1301)), none, (some (.ref 0))]⟩
noncomputable def m1_532 (P : Params) : Obj := ⟨(.type "tuple"), none, (.seq #[] 0), #[]⟩
noncomputable def m1_533 (P : Params) : Obj := ⟨.none, none, (.fields #[]), #[]⟩
noncomputable def m1_534 (P : Params) : Obj := ⟨(.type "tuple"), none, (.seq #[(s "self" 1462), (s "codec" 1463), (s "errors" 1464)] 0), #[]⟩
noncomputable def m1_535 (P : Params) : Obj := ⟨(.type "tuple"), none, (.seq #[] 0), #[]⟩
noncomputable def m1_536 (P : Params) : Obj := ⟨.none, none, (.func (f (mth 69 0) "__init__" "MarkedEncoder.__init__" 0 [] .none .none .none .none none .none .none 0)), #[]⟩
noncomputable def m1_537 (P : Params) : Obj := ⟨(.type "code"), none, (.fields #[(s "__init__" 1459), (s "MarkedEncoder.__init__" 1460), (s "/claim/cut.py" 1461), (.int 298 0), (.int 3 0), (.int 0 0), (.int 0 0), (.int 3 0), (.ref 532), (.bool true), (.int 181 0), (.ref 533), .none, (.ref 534), (.ref 535), (.ref 536), (.int 1465 0), (.int 298 0), (s "/claim/cut.py" 1466)]), #[]⟩
noncomputable def m1_538 (P : Params) : Obj := ⟨(.type "function"), none, (.func (f (mth 69 0) "__init__" "MarkedEncoder.__init__" 3 [] .none .none .none (s "signferry.incremental" 1301) none (.ref 537) .none 0)), #[]⟩
noncomputable def m1_539 (P : Params) : Obj := ⟨(.type "tuple"), none, (.seq #[(.bool false)] 0), #[]⟩
noncomputable def m1_540 (P : Params) : Obj := ⟨(.type "tuple"), none, (.seq #[] 0), #[]⟩
noncomputable def m1_541 (P : Params) : Obj := ⟨.none, none, (.fields #[]), #[]⟩
noncomputable def m1_542 (P : Params) : Obj := ⟨(.type "tuple"), none, (.seq #[(s "self" 1471), (s "source" 1472), (s "final" 1473), (s "found" 1474)] 0), #[]⟩
noncomputable def m1_543 (P : Params) : Obj := ⟨(.type "tuple"), none, (.seq #[] 0), #[]⟩
noncomputable def m1_544 (P : Params) : Obj := ⟨.none, none, (.func (f (mth 69 1) "encoded" "MarkedEncoder.encoded" 0 [] .none .none .none .none none .none .none 0)), #[]⟩
noncomputable def m1_545 (P : Params) : Obj := ⟨(.type "code"), none, (.fields #[(s "encoded" 1468), (s "MarkedEncoder.encoded" 1469), (s "/claim/cut.py" 1470), (.int 302 0), (.int 3 0), (.int 0 0), (.int 0 0), (.int 3 0), (.ref 540), (.bool true), (.int 181 0), (.ref 541), .none, (.ref 542), (.ref 543), (.ref 544), (.int 1475 0), (.int 302 0), (s "/claim/cut.py" 1476)]), #[]⟩
noncomputable def m1_546 (P : Params) : Obj := ⟨(.type "function"), none, (.func (f (mth 69 1) "encoded" "MarkedEncoder.encoded" 3 [] (.ref 539) .none .none (s "signferry.incremental" 1301) none (.ref 545) .none 0)), #[]⟩
noncomputable def m1_547 (P : Params) : Obj := ⟨(.type "tuple"), none, (.seq #[] 0), #[]⟩
noncomputable def m1_548 (P : Params) : Obj := ⟨.none, none, (.fields #[]), #[]⟩
noncomputable def m1_549 (P : Params) : Obj := ⟨(.type "tuple"), none, (.seq #[(s "self" 1481)] 0), #[]⟩
noncomputable def m1_550 (P : Params) : Obj := ⟨(.type "tuple"), none, (.seq #[] 0), #[]⟩
noncomputable def m1_551 (P : Params) : Obj := ⟨.none, none, (.func (f (mth 69 2) "reset" "MarkedEncoder.reset" 0 [] .none .none .none .none none .none .none 0)), #[]⟩
noncomputable def m1_552 (P : Params) : Obj := ⟨(.type "code"), none, (.fields #[(s "reset" 1478), (s "MarkedEncoder.reset" 1479), (s "/claim/cut.py" 1480), (.int 309 0), (.int 1 0), (.int 0 0), (.int 0 0), (.int 3 0), (.ref 547), (.bool true), (.int 181 0), (.ref 548), .none, (.ref 549), (.ref 550), (.ref 551), (.int 1482 0), (.int 309 0), (s "/claim/cut.py" 1483)]), #[]⟩
noncomputable def m1_553 (P : Params) : Obj := ⟨(.type "function"), none, (.func (f (mth 69 2) "reset" "MarkedEncoder.reset" 3 [] .none .none .none (s "signferry.incremental" 1301) none (.ref 552) .none 0)), #[]⟩
noncomputable def m1_554 (P : Params) : Obj := ⟨(.type "tuple"), none, (.seq #[] 0), #[]⟩
noncomputable def m1_555 (P : Params) : Obj := ⟨.none, none, (.fields #[]), #[]⟩
noncomputable def m1_556 (P : Params) : Obj := ⟨(.type "tuple"), none, (.seq #[(s "self" 1488)] 0), #[]⟩
noncomputable def m1_557 (P : Params) : Obj := ⟨(.type "tuple"), none, (.seq #[] 0), #[]⟩
noncomputable def m1_558 (P : Params) : Obj := ⟨.none, none, (.func (f (mth 69 3) "getstate" "MarkedEncoder.getstate" 0 [] .none .none .none .none none .none .none 0)), #[]⟩
noncomputable def m1_559 (P : Params) : Obj := ⟨(.type "code"), none, (.fields #[(s "getstate" 1485), (s "MarkedEncoder.getstate" 1486), (s "/claim/cut.py" 1487), (.int 312 0), (.int 1 0), (.int 0 0), (.int 0 0), (.int 3 0), (.ref 554), (.bool true), (.int 181 0), (.ref 555), .none, (.ref 556), (.ref 557), (.ref 558), (.int 1489 0), (.int 312 0), (s "/claim/cut.py" 1490)]), #[]⟩
noncomputable def m1_560 (P : Params) : Obj := ⟨(.type "function"), none, (.func (f (mth 69 3) "getstate" "MarkedEncoder.getstate" 3 [] .none .none .none (s "signferry.incremental" 1301) none (.ref 559) .none 0)), #[]⟩
noncomputable def m1_561 (P : Params) : Obj := ⟨(.type "tuple"), none, (.seq #[] 0), #[]⟩
noncomputable def m1_562 (P : Params) : Obj := ⟨.none, none, (.fields #[]), #[]⟩
noncomputable def m1_563 (P : Params) : Obj := ⟨(.type "tuple"), none, (.seq #[(s "self" 1495), (s "state" 1496)] 0), #[]⟩
noncomputable def m1_564 (P : Params) : Obj := ⟨(.type "tuple"), none, (.seq #[] 0), #[]⟩
noncomputable def m1_565 (P : Params) : Obj := ⟨.none, none, (.func (f (mth 69 4) "setstate" "MarkedEncoder.setstate" 0 [] .none .none .none .none none .none .none 0)), #[]⟩
noncomputable def m1_566 (P : Params) : Obj := ⟨(.type "code"), none, (.fields #[(s "setstate" 1492), (s "MarkedEncoder.setstate" 1493), (s "/claim/cut.py" 1494), (.int 315 0), (.int 2 0), (.int 0 0), (.int 0 0), (.int 3 0), (.ref 561), (.bool true), (.int 181 0), (.ref 562), .none, (.ref 563), (.ref 564), (.ref 565), (.int 1497 0), (.int 315 0), (s "/claim/cut.py" 1498)]), #[]⟩
noncomputable def m1_567 (P : Params) : Obj := ⟨(.type "function"), none, (.func (f (mth 69 4) "setstate" "MarkedEncoder.setstate" 3 [] .none .none .none (s "signferry.incremental" 1301) none (.ref 566) .none 0)), #[]⟩
noncomputable def m1_568 (P : Params) : Obj := ⟨(.type "tuple"), none, (.seq #[(s "state" 1500)] 0), #[]⟩
noncomputable def m1_569 (P : Params) : Obj := ⟨(.type "dict"), none, (.dict #[(e P "__module__" 1454 (s "signferry.incremental" 1301)), (e P "__firstlineno__" 1458 (.int 296 1457)), (e P "__init__" 1467 (.ref 538)), (e P "encoded" 1477 (.ref 546)), (e P "reset" 1484 (.ref 553)), (e P "getstate" 1491 (.ref 560)), (e P "setstate" 1499 (.ref 567)), (e P "__static_attributes__" 1501 (.ref 568)), (e P "__doc__" 1502 .none)] 2), #[]⟩
noncomputable def m1_570 (P : Params) : Obj := ⟨(.type "type"), none, (.cls ⟨(S "MarkedEncoder"), [(.ref 472)], [(.ref 570), (.ref 472), (.type "object")], 569, (S "MarkedEncoder"), true, [], [], false, none, false⟩), #[(some (.ref 525)), none, (some (s "MarkedEncoder" 1447)), (some (s "MarkedEncoder" 1455)), (some (.builtin "object.__new__")), (some (.bool true))]⟩
noncomputable def m1_571 (P : Params) : Obj := ⟨(.type "super"), none, (.fields #[(.ref 570), (.ref 570), (.ref 570)]), #[]⟩
noncomputable def m1_572 (P : Params) : Obj := ⟨(.type "builtin_function_or_method"), none, (.fields #[(.builtin "object.__init_subclass__"), (.ref 570)]), #[]⟩
noncomputable def m1_573 (P : Params) : Obj := ⟨(.type "tuple"), none, (.seq #[] 0), #[]⟩
noncomputable def m1_574 (P : Params) : Obj := ⟨.none, none, (.fields #[]), #[]⟩
noncomputable def m1_575 (P : Params) : Obj := ⟨(.type "tuple"), none, (.seq #[(s "codec" 1508), (s "errors" 1509)] 0), #[]⟩
noncomputable def m1_576 (P : Params) : Obj := ⟨(.type "tuple"), none, (.seq #[] 0), #[]⟩
noncomputable def m1_577 (P : Params) : Obj := ⟨.none, none, (.func (f (top 70) "encoder_of" "encoder_of" 0 [] .none .none .none .none none .none .none 0)), #[]⟩
noncomputable def m1_578 (P : Params) : Obj := ⟨(.type "code"), none, (.fields #[(s "encoder_of" 1505), (s "encoder_of" 1506), (s "/claim/cut.py" 1507), (.int 317 0), (.int 2 0), (.int 0 0), (.int 0 0), (.int 3 0), (.ref 573), (.bool true), (.int 181 0), (.ref 574), .none, (.ref 575), (.ref 576), (.ref 577), (.int 1510 0), (.int 317 0), (s "/claim/cut.py" 1511)]), #[]⟩
noncomputable def m1_579 (P : Params) : Obj := ⟨(.type "function"), none, (.func (f (top 70) "encoder_of" "encoder_of" 3 [] .none .none .none (s "signferry.incremental" 1301) none (.ref 578) .none 0)), #[]⟩
noncomputable def m1_580 (P : Params) : Obj := ⟨(.type "tuple"), none, (.seq #[] 0), #[]⟩
noncomputable def m1_581 (P : Params) : Obj := ⟨.none, none, (.fields #[]), #[]⟩
noncomputable def m1_582 (P : Params) : Obj := ⟨(.type "tuple"), none, (.seq #[(s "k" 1518), (s "bias" 1519)] 0), #[]⟩
noncomputable def m1_583 (P : Params) : Obj := ⟨(.type "tuple"), none, (.seq #[] 0), #[]⟩
noncomputable def m1_584 (P : Params) : Obj := ⟨.none, none, (.func (f (top 72) "least_of" "least_of" 0 [] .none .none .none .none none .none .none 0)), #[]⟩
noncomputable def m1_585 (P : Params) : Obj := ⟨(.type "code"), none, (.fields #[(s "least_of" 1515), (s "least_of" 1516), (s "/claim/cut.py" 1517), (.int 324 0), (.int 2 0), (.int 0 0), (.int 0 0), (.int 3 0), (.ref 580), (.bool true), (.int 181 0), (.ref 581), .none, (.ref 582), (.ref 583), (.ref 584), (.int 1520 0), (.int 324 0), (s "/claim/cut.py" 1521)]), #[]⟩
noncomputable def m1_586 (P : Params) : Obj := ⟨(.type "function"), none, (.func (f (top 72) "least_of" "least_of" 3 [] .none .none .none (s "signferry.punycode" 1513) none (.ref 585) .none 0)), #[]⟩
noncomputable def m1_587 (P : Params) : Obj := ⟨(.type "tuple"), none, (.seq #[] 0), #[]⟩
noncomputable def m1_588 (P : Params) : Obj := ⟨.none, none, (.fields #[]), #[]⟩
noncomputable def m1_589 (P : Params) : Obj := ⟨(.type "tuple"), none, (.seq #[(s "number" 1526), (s "many" 1527), (s "is_first" 1528), (s "steps" 1529)] 0), #[]⟩
noncomputable def m1_590 (P : Params) : Obj := ⟨(.type "tuple"), none, (.seq #[] 0), #[]⟩
noncomputable def m1_591 (P : Params) : Obj := ⟨.none, none, (.func (f (top 73) "next_bias" "next_bias" 0 [] .none .none .none .none none .none .none 0)), #[]⟩
noncomputable def m1_592 (P : Params) : Obj := ⟨(.type "code"), none, (.fields #[(s "next_bias" 1523), (s "next_bias" 1524), (s "/claim/cut.py" 1525), (.int 326 0), (.int 3 0), (.int 0 0), (.int 0 0), (.int 3 0), (.ref 587), (.bool true), (.int 181 0), (.ref 588), .none, (.ref 589), (.ref 590), (.ref 591), (.int 1530 0), (.int 326 0), (s "/claim/cut.py" 1531)]), #[]⟩
noncomputable def m1_593 (P : Params) : Obj := ⟨(.type "function"), none, (.func (f (top 73) "next_bias" "next_bias" 3 [] .none .none .none (s "signferry.punycode" 1513) none (.ref 592) .none 0)), #[]⟩
noncomputable def m1_594 (P : Params) : Obj := ⟨(.type "tuple"), none, (.seq #[] 0), #[]⟩
noncomputable def m1_595 (P : Params) : Obj := ⟨.none, none, (.fields #[]), #[]⟩
noncomputable def m1_596 (P : Params) : Obj := ⟨(.type "tuple"), none, (.seq #[(s "value" 1536)] 0), #[]⟩
noncomputable def m1_597 (P : Params) : Obj := ⟨(.type "tuple"), none, (.seq #[] 0), #[]⟩
noncomputable def m1_598 (P : Params) : Obj := ⟨.none, none, (.func (f (top 74) "digit_of" "digit_of" 0 [] .none .none .none .none none .none .none 0)), #[]⟩
noncomputable def m1_599 (P : Params) : Obj := ⟨(.type "code"), none, (.fields #[(s "digit_of" 1533), (s "digit_of" 1534), (s "/claim/cut.py" 1535), (.int 333 0), (.int 1 0), (.int 0 0), (.int 0 0), (.int 3 0), (.ref 594), (.bool true), (.int 181 0), (.ref 595), .none, (.ref 596), (.ref 597), (.ref 598), (.int 1537 0), (.int 333 0), (s "/claim/cut.py" 1538)]), #[]⟩
noncomputable def m1_600 (P : Params) : Obj := ⟨(.type "function"), none, (.func (f (top 74) "digit_of" "digit_of" 3 [] .none .none .none (s "signferry.punycode" 1513) none (.ref 599) .none 0)), #[]⟩
noncomputable def m1_601 (P : Params) : Obj := ⟨(.type "tuple"), none, (.seq #[] 0), #[]⟩
noncomputable def m1_602 (P : Params) : Obj := ⟨.none, none, (.fields #[]), #[]⟩
noncomputable def m1_603 (P : Params) : Obj := ⟨(.type "tuple"), none, (.seq #[(s "number" 1543), (s "bias" 1544), (s "found" 1545), (s "k" 1546), (s "least" 1547)] 0), #[]⟩
noncomputable def m1_604 (P : Params) : Obj := ⟨(.type "tuple"), none, (.seq #[] 0), #[]⟩
noncomputable def m1_605 (P : Params) : Obj := ⟨.none, none, (.func (f (top 75) "number_written" "number_written" 0 [] .none .none .none .none none .none .none 0)), #[]⟩
noncomputable def m1_606 (P : Params) : Obj := ⟨(.type "code"), none, (.fields #[(s "number_written" 1540), (s "number_written" 1541), (s "/claim/cut.py" 1542), (.int 335 0), (.int 2 0), (.int 0 0), (.int 0 0), (.int 3 0), (.ref 601), (.bool true), (.int 181 0), (.ref 602), .none, (.ref 603), (.ref 604), (.ref 605), (.int 1548 0), (.int 335 0), (s "/claim/cut.py" 1549)]), #[]⟩
noncomputable def m1_607 (P : Params) : Obj := ⟨(.type "function"), none, (.func (f (top 75) "number_written" "number_written" 3 [] .none .none .none (s "signferry.punycode" 1513) none (.ref 606) .none 0)), #[]⟩
noncomputable def m1_608 (P : Params) : Obj := ⟨(.type "tuple"), none, (.seq #[] 0), #[]⟩
noncomputable def m1_609 (P : Params) : Obj := ⟨.none, none, (.fields #[]), #[]⟩
noncomputable def m1_610 (P : Params) : Obj := ⟨.none, none, (.func (f (top 76) "write_punycode" "write_punycode" 0 [] .none .none .none .none none .none .none 0)), #[]⟩
noncomputable def m1_611 (P : Params) : Obj := ⟨(.type "code"), none, (.fields #[(s "write_punycode" 1551), (s "write_punycode" 1552), (s "/claim/cut.py" 1553), (.int 343 0), (.int 2 0), (.int 0 0), (.int 0 0), (.int 3 0), (.ref 608), (.bool true), (.int 181 0), (.ref 609), .none, .none, .none, (.ref 610), (.int 1554 0), (.int 343 0), (s "/claim/cut.py" 1555)]), #[]⟩
noncomputable def m1_612 (P : Params) : Obj := ⟨(.type "function"), none, (.func (f (top 76) "write_punycode" "write_punycode" 3 [] .none .none .none (s "signferry.punycode" 1513) none (.ref 611) .none 0)), #[]⟩
noncomputable def m1_613 (P : Params) : Obj := ⟨(.type "tuple"), none, (.seq #[(s "ascii" 1563), (s "ordinal not in range(128)" 1564), (.int 128 1565)] 0), #[]⟩
noncomputable def m1_614 (P : Params) : Obj := ⟨(.type "tuple"), none, (.seq #[(s "latin-1" 1567), (s "ordinal not in range(256)" 1568), (.int 256 1569)] 0), #[]⟩
noncomputable def m1_615 (P : Params) : Obj := ⟨(.type "tuple"), none, (.seq #[] 0), #[]⟩
noncomputable def m1_616 (P : Params) : Obj := ⟨.none, none, (.fields #[]), #[]⟩
noncomputable def m1_617 (P : Params) : Obj := ⟨(.type "tuple"), none, (.seq #[(s "source" 1574), (s "start" 1575), (s "end" 1576), (s "answers" 1577), (s "place" 1578)] 0), #[]⟩
noncomputable def m1_618 (P : Params) : Obj := ⟨(.type "tuple"), none, (.seq #[] 0), #[]⟩
noncomputable def m1_619 (P : Params) : Obj := ⟨.none, none, (.func (f (top 82) "own_escapes_end" "own_escapes_end" 0 [] .none .none .none .none none .none .none 0)), #[]⟩
noncomputable def m1_620 (P : Params) : Obj := ⟨(.type "code"), none, (.fields #[(s "own_escapes_end" 1571), (s "own_escapes_end" 1572), (s "/claim/cut.py" 1573), (.int 362 0), (.int 4 0), (.int 0 0), (.int 0 0), (.int 3 0), (.ref 615), (.bool true), (.int 181 0), (.ref 616), .none, (.ref 617), (.ref 618), (.ref 619), (.int 1579 0), (.int 362 0), (s "/claim/cut.py" 1580)]), #[]⟩
noncomputable def m1_621 (P : Params) : Obj := ⟨(.type "function"), none, (.func (f (top 82) "own_escapes_end" "own_escapes_end" 3 [] .none .none .none (s "signferry.simple" 1557) none (.ref 620) .none 0)), #[]⟩
noncomputable def m1_622 (P : Params) : Obj := ⟨(.type "tuple"), none, (.seq #[] 0), #[]⟩
noncomputable def m1_623 (P : Params) : Obj := ⟨.none, none, (.fields #[]), #[]⟩
noncomputable def m1_624 (P : Params) : Obj := ⟨.none, none, (.func (f (top 83) "written_run" "written_run" 0 [] .none .none .none .none none .none .none 0)), #[]⟩
noncomputable def m1_625 (P : Params) : Obj := ⟨(.type "code"), none, (.fields #[(s "written_run" 1582), (s "written_run" 1583), (s "/claim/cut.py" 1584), (.int 368 0), (.int 5 0), (.int 0 0), (.int 0 0), (.int 3 0), (.ref 622), (.bool true), (.int 181 0), (.ref 623), .none, .none, .none, (.ref 624), (.int 1585 0), (.int 368 0), (s "/claim/cut.py" 1586)]), #[]⟩
noncomputable def m1_626 (P : Params) : Obj := ⟨(.type "function"), none, (.func (f (top 83) "written_run" "written_run" 3 [] .none .none .none (s "signferry.simple" 1557) none (.ref 625) .none 0)), #[]⟩
noncomputable def m1_627 (P : Params) : Obj := ⟨(.type "tuple"), none, (.seq #[] 0), #[]⟩
noncomputable def m1_628 (P : Params) : Obj := ⟨.none, none, (.fields #[]), #[]⟩
noncomputable def m1_629 (P : Params) : Obj := ⟨(.type "tuple"), none, (.seq #[(s "source" 1591), (s "answers" 1592), (s "octets_of" 1593), (s "told" 1594), (s "found" 1595), (s "place" 1596), (s "octets" 1597), (s "end" 1598)] 0), #[]⟩
noncomputable def m1_630 (P : Params) : Obj := ⟨(.type "tuple"), none, (.seq #[] 0), #[]⟩
noncomputable def m1_631 (P : Params) : Obj := ⟨.none, none, (.func (f (top 84) "write_runs" "write_runs" 0 [] .none .none .none .none none .none .none 0)), #[]⟩
noncomputable def m1_632 (P : Params) : Obj := ⟨(.type "code"), none, (.fields #[(s "write_runs" 1588), (s "write_runs" 1589), (s "/claim/cut.py" 1590), (.int 379 0), (.int 4 0), (.int 0 0), (.int 0 0), (.int 3 0), (.ref 627), (.bool true), (.int 181 0), (.ref 628), .none, (.ref 629), (.ref 630), (.ref 631), (.int 1599 0), (.int 379 0), (s "/claim/cut.py" 1600)]), #[]⟩
noncomputable def m1_633 (P : Params) : Obj := ⟨(.type "function"), none, (.func (f (top 84) "write_runs" "write_runs" 3 [] .none .none .none (s "signferry.simple" 1557) none (.ref 632) .none 0)), #[]⟩
noncomputable def m1_634 (P : Params) : Obj := ⟨(.type "tuple"), none, (.seq #[] 0), #[]⟩
noncomputable def m1_635 (P : Params) : Obj := ⟨.none, none, (.fields #[]), #[]⟩
noncomputable def m1_636 (P : Params) : Obj := ⟨(.type "tuple"), none, (.seq #[(s "source" 1605), (s "answers" 1606)] 0), #[]⟩
noncomputable def m1_637 (P : Params) : Obj := ⟨(.type "tuple"), none, (.seq #[] 0), #[]⟩
noncomputable def m1_638 (P : Params) : Obj := ⟨.none, none, (.func (f (top 85) "write_ascii" "write_ascii" 0 [] .none .none .none .none none .none .none 0)), #[]⟩
noncomputable def m1_639 (P : Params) : Obj := ⟨(.type "code"), none, (.fields #[(s "write_ascii" 1602), (s "write_ascii" 1603), (s "/claim/cut.py" 1604), (.int 392 0), (.int 2 0), (.int 0 0), (.int 0 0), (.int 3 0), (.ref 634), (.bool true), (.int 181 0), (.ref 635), .none, (.ref 636), (.ref 637), (.ref 638), (.int 1607 0), (.int 392 0), (s "/claim/cut.py" 1608)]), #[]⟩
noncomputable def m1_640 (P : Params) : Obj := ⟨(.type "function"), none, (.func (f (top 85) "write_ascii" "write_ascii" 3 [] .none .none .none (s "signferry.simple" 1557) none (.ref 639) .none 0)), #[]⟩
noncomputable def m1_641 (P : Params) : Obj := ⟨(.type "tuple"), none, (.seq #[] 0), #[]⟩
noncomputable def m1_642 (P : Params) : Obj := ⟨.none, none, (.fields #[]), #[]⟩
noncomputable def m1_643 (P : Params) : Obj := ⟨(.type "tuple"), none, (.seq #[(s "source" 1613), (s "answers" 1614)] 0), #[]⟩
noncomputable def m1_644 (P : Params) : Obj := ⟨(.type "tuple"), none, (.seq #[] 0), #[]⟩
noncomputable def m1_645 (P : Params) : Obj := ⟨.none, none, (.func (f (top 86) "write_latin" "write_latin" 0 [] .none .none .none .none none .none .none 0)), #[]⟩
noncomputable def m1_646 (P : Params) : Obj := ⟨(.type "code"), none, (.fields #[(s "write_latin" 1610), (s "write_latin" 1611), (s "/claim/cut.py" 1612), (.int 394 0), (.int 2 0), (.int 0 0), (.int 0 0), (.int 3 0), (.ref 641), (.bool true), (.int 181 0), (.ref 642), .none, (.ref 643), (.ref 644), (.ref 645), (.int 1615 0), (.int 394 0), (s "/claim/cut.py" 1616)]), #[]⟩
noncomputable def m1_647 (P : Params) : Obj := ⟨(.type "function"), none, (.func (f (top 86) "write_latin" "write_latin" 3 [] .none .none .none (s "signferry.simple" 1557) none (.ref 646) .none 0)), #[]⟩
noncomputable def m1_648 (P : Params) : Obj := ⟨(.type "tuple"), none, (.seq #[(.int 239 1620), (.int 187 1621), (.int 191 1622)] 0), #[]⟩
noncomputable def m1_649 (P : Params) : Obj := ⟨(.type "tuple"), none, (.seq #[(s "utf-8" 1624), (s "surrogates not allowed" 1625), (.int 128 1626)] 0), #[]⟩
noncomputable def m1_650 (P : Params) : Obj := ⟨(.type "tuple"), none, (.seq #[] 0), #[]⟩
noncomputable def m1_651 (P : Params) : Obj := ⟨.none, none, (.fields #[]), #[]⟩
noncomputable def m1_652 (P : Params) : Obj := ⟨(.type "tuple"), none, (.seq #[(s "code" 1631)] 0), #[]⟩
noncomputable def m1_653 (P : Params) : Obj := ⟨(.type "tuple"), none, (.seq #[] 0), #[]⟩
noncomputable def m1_654 (P : Params) : Obj := ⟨.none, none, (.func (f (top 90) "utf8_octets" "utf8_octets" 0 [] .none .none .none .none none .none .none 0)), #[]⟩
noncomputable def m1_655 (P : Params) : Obj := ⟨(.type "code"), none, (.fields #[(s "utf8_octets" 1628), (s "utf8_octets" 1629), (s "/claim/cut.py" 1630), (.int 399 0), (.int 1 0), (.int 0 0), (.int 0 0), (.int 3 0), (.ref 650), (.bool true), (.int 181 0), (.ref 651), .none, (.ref 652), (.ref 653), (.ref 654), (.int 1632 0), (.int 399 0), (s "/claim/cut.py" 1633)]), #[]⟩
noncomputable def m1_656 (P : Params) : Obj := ⟨(.type "function"), none, (.func (f (top 90) "utf8_octets" "utf8_octets" 3 [] .none .none .none (s "signferry.utf8" 1618) none (.ref 655) .none 0)), #[]⟩
noncomputable def m1_657 (P : Params) : Obj := ⟨(.type "tuple"), none, (.seq #[] 0), #[]⟩
noncomputable def m1_658 (P : Params) : Obj := ⟨.none, none, (.fields #[]), #[]⟩
noncomputable def m1_659 (P : Params) : Obj := ⟨(.type "tuple"), none, (.seq #[(s "source" 1638), (s "answers" 1639)] 0), #[]⟩
noncomputable def m1_660 (P : Params) : Obj := ⟨(.type "tuple"), none, (.seq #[] 0), #[]⟩
noncomputable def m1_661 (P : Params) : Obj := ⟨.none, none, (.func (f (top 91) "write_utf8" "write_utf8" 0 [] .none .none .none .none none .none .none 0)), #[]⟩
noncomputable def m1_662 (P : Params) : Obj := ⟨(.type "code"), none, (.fields #[(s "write_utf8" 1635), (s "write_utf8" 1636), (s "/claim/cut.py" 1637), (.int 407 0), (.int 2 0), (.int 0 0), (.int 0 0), (.int 3 0), (.ref 657), (.bool true), (.int 181 0), (.ref 658), .none, (.ref 659), (.ref 660), (.ref 661), (.int 1640 0), (.int 407 0), (s "/claim/cut.py" 1641)]), #[]⟩
noncomputable def m1_663 (P : Params) : Obj := ⟨(.type "function"), none, (.func (f (top 91) "write_utf8" "write_utf8" 3 [] .none .none .none (s "signferry.utf8" 1618) none (.ref 662) .none 0)), #[]⟩
noncomputable def m1_664 (P : Params) : Obj := ⟨(.type "tuple"), none, (.seq #[] 0), #[]⟩
noncomputable def m1_665 (P : Params) : Obj := ⟨.none, none, (.fields #[]), #[]⟩
noncomputable def m1_666 (P : Params) : Obj := ⟨(.type "tuple"), none, (.seq #[(s "source" 1646), (s "answers" 1647)] 0), #[]⟩
noncomputable def m1_667 (P : Params) : Obj := ⟨(.type "tuple"), none, (.seq #[] 0), #[]⟩
noncomputable def m1_668 (P : Params) : Obj := ⟨.none, none, (.func (f (top 92) "write_signed" "write_signed" 0 [] .none .none .none .none none .none .none 0)), #[]⟩
noncomputable def m1_669 (P : Params) : Obj := ⟨(.type "code"), none, (.fields #[(s "write_signed" 1643), (s "write_signed" 1644), (s "/claim/cut.py" 1645), (.int 409 0), (.int 2 0), (.int 0 0), (.int 0 0), (.int 3 0), (.ref 664), (.bool true), (.int 181 0), (.ref 665), .none, (.ref 666), (.ref 667), (.ref 668), (.int 1648 0), (.int 409 0), (s "/claim/cut.py" 1649)]), #[]⟩
noncomputable def m1_670 (P : Params) : Obj := ⟨(.type "function"), none, (.func (f (top 92) "write_signed" "write_signed" 3 [] .none .none .none (s "signferry.utf8" 1618) none (.ref 669) .none 0)), #[]⟩
noncomputable def m1_671 (P : Params) : Obj := ⟨(.type "dict"), none, (.dict #[(e P "utf-16" 1653 (.ref 674)), (e P "utf-32" 1658 (.ref 677))] 2), #[]⟩
noncomputable def m1_672 (P : Params) : Obj := ⟨(.type "tuple"), none, (.seq #[(.int 255 1654), (.int 254 1655)] 0), #[]⟩
noncomputable def m1_673 (P : Params) : Obj := ⟨(.type "tuple"), none, (.seq #[(.int 254 1656), (.int 255 1657)] 0), #[]⟩
noncomputable def m1_674 (P : Params) : Obj := ⟨(.type "tuple"), none, (.seq #[(.ref 672), (.ref 673)] 0), #[]⟩
noncomputable def m1_675 (P : Params) : Obj := ⟨(.type "tuple"), none, (.seq #[(.int 255 1659), (.int 254 1660), (.int 0 1661), (.int 0 1662)] 0), #[]⟩
noncomputable def m1_676 (P : Params) : Obj := ⟨(.type "tuple"), none, (.seq #[(.int 0 1663), (.int 0 1664), (.int 254 1665), (.int 255 1666)] 0), #[]⟩
noncomputable def m1_677 (P : Params) : Obj := ⟨(.type "tuple"), none, (.seq #[(.ref 675), (.ref 676)] 0), #[]⟩
noncomputable def m1_678 (P : Params) : Obj := ⟨(.type "tuple"), none, (.seq #[] 0), #[]⟩
noncomputable def m1_679 (P : Params) : Obj := ⟨.none, none, (.fields #[]), #[]⟩
noncomputable def m1_680 (P : Params) : Obj := ⟨(.type "tuple"), none, (.seq #[(s "name" 1673)] 0), #[]⟩
noncomputable def m1_681 (P : Params) : Obj := ⟨(.type "tuple"), none, (.seq #[] 0), #[]⟩
noncomputable def m1_682 (P : Params) : Obj := ⟨.none, none, (.func (f (top 95) "size_of" "size_of" 0 [] .none .none .none .none none .none .none 0)), #[]⟩
noncomputable def m1_683 (P : Params) : Obj := ⟨(.type "code"), none, (.fields #[(s "size_of" 1670), (s "size_of" 1671), (s "/claim/cut.py" 1672), (.int 413 0), (.int 1 0), (.int 0 0), (.int 0 0), (.int 3 0), (.ref 678), (.bool true), (.int 181 0), (.ref 679), .none, (.ref 680), (.ref 681), (.ref 682), (.int 1674 0), (.int 413 0), (s "/claim/cut.py" 1675)]), #[]⟩
noncomputable def m1_684 (P : Params) : Obj := ⟨(.type "function"), none, (.func (f (top 95) "size_of" "size_of" 3 [] .none .none .none (s "signferry.wide" 1651) none (.ref 683) .none 0)), #[]⟩
noncomputable def m1_685 (P : Params) : Obj := ⟨(.type "tuple"), none, (.seq #[] 0), #[]⟩
noncomputable def m1_686 (P : Params) : Obj := ⟨.none, none, (.fields #[]), #[]⟩
noncomputable def m1_687 (P : Params) : Obj := ⟨(.type "tuple"), none, (.seq #[(s "name" 1680)] 0), #[]⟩
noncomputable def m1_688 (P : Params) : Obj := ⟨(.type "tuple"), none, (.seq #[] 0), #[]⟩
noncomputable def m1_689 (P : Params) : Obj := ⟨.none, none, (.func (f (top 96) "is_big" "is_big" 0 [] .none .none .none .none none .none .none 0)), #[]⟩
noncomputable def m1_690 (P : Params) : Obj := ⟨(.type "code"), none, (.fields #[(s "is_big" 1677), (s "is_big" 1678), (s "/claim/cut.py" 1679), (.int 415 0), (.int 1 0), (.int 0 0), (.int 0 0), (.int 3 0), (.ref 685), (.bool true), (.int 181 0), (.ref 686), .none, (.ref 687), (.ref 688), (.ref 689), (.int 1681 0), (.int 415 0), (s "/claim/cut.py" 1682)]), #[]⟩
noncomputable def m1_691 (P : Params) : Obj := ⟨(.type "function"), none, (.func (f (top 96) "is_big" "is_big" 3 [] .none .none .none (s "signferry.wide" 1651) none (.ref 690) .none 0)), #[]⟩
noncomputable def m1_692 (P : Params) : Obj := ⟨(.type "tuple"), none, (.seq #[] 0), #[]⟩
noncomputable def m1_693 (P : Params) : Obj := ⟨.none, none, (.fields #[]), #[]⟩
noncomputable def m1_694 (P : Params) : Obj := ⟨(.type "tuple"), none, (.seq #[(s "number" 1687), (s "name" 1688), (s "found" 1689), (s "rest" 1690), (s "k" 1691)] 0), #[]⟩
noncomputable def m1_695 (P : Params) : Obj := ⟨(.type "tuple"), none, (.seq #[] 0), #[]⟩
noncomputable def m1_696 (P : Params) : Obj := ⟨.none, none, (.func (f (top 97) "unit_octets" "unit_octets" 0 [] .none .none .none .none none .none .none 0)), #[]⟩
noncomputable def m1_697 (P : Params) : Obj := ⟨(.type "code"), none, (.fields #[(s "unit_octets" 1684), (s "unit_octets" 1685), (s "/claim/cut.py" 1686), (.int 417 0), (.int 2 0), (.int 0 0), (.int 0 0), (.int 3 0), (.ref 692), (.bool true), (.int 181 0), (.ref 693), .none, (.ref 694), (.ref 695), (.ref 696), (.int 1692 0), (.int 417 0), (s "/claim/cut.py" 1693)]), #[]⟩
noncomputable def m1_698 (P : Params) : Obj := ⟨(.type "function"), none, (.func (f (top 97) "unit_octets" "unit_octets" 3 [] .none .none .none (s "signferry.wide" 1651) none (.ref 697) .none 0)), #[]⟩
noncomputable def m1_699 (P : Params) : Obj := ⟨(.type "tuple"), none, (.seq #[] 0), #[]⟩
noncomputable def m1_700 (P : Params) : Obj := ⟨.none, none, (.fields #[]), #[]⟩
noncomputable def m1_701 (P : Params) : Obj := ⟨(.type "tuple"), none, (.seq #[(s "code" 1698), (s "name" 1699)] 0), #[]⟩
noncomputable def m1_702 (P : Params) : Obj := ⟨(.type "tuple"), none, (.seq #[] 0), #[]⟩
noncomputable def m1_703 (P : Params) : Obj := ⟨.none, none, (.func (f (top 98) "wide_octets" "wide_octets" 0 [] .none .none .none .none none .none .none 0)), #[]⟩
noncomputable def m1_704 (P : Params) : Obj := ⟨(.type "code"), none, (.fields #[(s "wide_octets" 1695), (s "wide_octets" 1696), (s "/claim/cut.py" 1697), (.int 423 0), (.int 2 0), (.int 0 0), (.int 0 0), (.int 3 0), (.ref 699), (.bool true), (.int 181 0), (.ref 700), .none, (.ref 701), (.ref 702), (.ref 703), (.int 1700 0), (.int 423 0), (s "/claim/cut.py" 1701)]), #[]⟩
noncomputable def m1_705 (P : Params) : Obj := ⟨(.type "function"), none, (.func (f (top 98) "wide_octets" "wide_octets" 3 [] .none .none .none (s "signferry.wide" 1651) none (.ref 704) .none 0)), #[]⟩
noncomputable def m1_706 (P : Params) : Obj := ⟨(.type "tuple"), none, (.seq #[] 0), #[]⟩
noncomputable def m1_707 (P : Params) : Obj := ⟨.none, none, (.fields #[]), #[]⟩
noncomputable def m1_708 (P : Params) : Obj := ⟨(.type "tuple"), none, (.seq #[(s "codes" 1706), (s "name" 1707), (s "found" 1708), (s "code" 1709)] 0), #[]⟩
noncomputable def m1_709 (P : Params) : Obj := ⟨(.type "tuple"), none, (.seq #[] 0), #[]⟩
noncomputable def m1_710 (P : Params) : Obj := ⟨.none, none, (.func (f (top 99) "all_octets" "all_octets" 0 [] .none .none .none .none none .none .none 0)), #[]⟩
noncomputable def m1_711 (P : Params) : Obj := ⟨(.type "code"), none, (.fields #[(s "all_octets" 1703), (s "all_octets" 1704), (s "/claim/cut.py" 1705), (.int 427 0), (.int 2 0), (.int 0 0), (.int 0 0), (.int 3 0), (.ref 706), (.bool true), (.int 181 0), (.ref 707), .none, (.ref 708), (.ref 709), (.ref 710), (.int 1710 0), (.int 427 0), (s "/claim/cut.py" 1711)]), #[]⟩
noncomputable def m1_712 (P : Params) : Obj := ⟨(.type "function"), none, (.func (f (top 99) "all_octets" "all_octets" 3 [] .none .none .none (s "signferry.wide" 1651) none (.ref 711) .none 0)), #[]⟩
noncomputable def m1_713 (P : Params) : Obj := ⟨(.type "tuple"), none, (.seq #[] 0), #[]⟩
noncomputable def m1_714 (P : Params) : Obj := ⟨.none, none, (.fields #[]), #[]⟩
noncomputable def m1_715 (P : Params) : Obj := ⟨.none, none, (.func (f (top 100) "answered" "answered" 0 [] .none .none .none .none none .none .none 0)), #[]⟩
noncomputable def m1_716 (P : Params) : Obj := ⟨(.type "code"), none, (.fields #[(s "answered" 1713), (s "answered" 1714), (s "/claim/cut.py" 1715), (.int 432 0), (.int 3 0), (.int 0 0), (.int 0 0), (.int 3 0), (.ref 713), (.bool true), (.int 181 0), (.ref 714), .none, .none, .none, (.ref 715), (.int 1716 0), (.int 432 0), (s "/claim/cut.py" 1717)]), #[]⟩
noncomputable def m1_717 (P : Params) : Obj := ⟨(.type "function"), none, (.func (f (top 100) "answered" "answered" 3 [] .none .none .none (s "signferry.wide" 1651) none (.ref 716) .none 0)), #[]⟩
noncomputable def m1_718 (P : Params) : Obj := ⟨(.type "tuple"), none, (.seq #[] 0), #[]⟩
noncomputable def m1_719 (P : Params) : Obj := ⟨.none, none, (.fields #[]), #[]⟩
noncomputable def m1_720 (P : Params) : Obj := ⟨(.type "tuple"), none, (.seq #[(s "source" 1722), (s "answers" 1723), (s "name" 1724), (s "found" 1725), (s "place" 1726), (s "error" 1727), (s "octets" 1728)] 0), #[]⟩
noncomputable def m1_721 (P : Params) : Obj := ⟨(.type "tuple"), none, (.seq #[] 0), #[]⟩
noncomputable def m1_722 (P : Params) : Obj := ⟨.none, none, (.func (f (top 101) "write_wide" "write_wide" 0 [] .none .none .none .none none .none .none 0)), #[]⟩
noncomputable def m1_723 (P : Params) : Obj := ⟨(.type "code"), none, (.fields #[(s "write_wide" 1719), (s "write_wide" 1720), (s "/claim/cut.py" 1721), (.int 438 0), (.int 3 0), (.int 0 0), (.int 0 0), (.int 3 0), (.ref 718), (.bool true), (.int 181 0), (.ref 719), .none, (.ref 720), (.ref 721), (.ref 722), (.int 1729 0), (.int 438 0), (s "/claim/cut.py" 1730)]), #[]⟩
noncomputable def m1_724 (P : Params) : Obj := ⟨(.type "function"), none, (.func (f (top 101) "write_wide" "write_wide" 3 [] .none .none .none (s "signferry.wide" 1651) none (.ref 723) .none 0)), #[]⟩
noncomputable def m1_725 (P : Params) : Obj := ⟨(.type "tuple"), none, (.seq #[] 0), #[]⟩
noncomputable def m1_726 (P : Params) : Obj := ⟨.none, none, (.fields #[]), #[]⟩
noncomputable def m1_727 (P : Params) : Obj := ⟨(.type "tuple"), none, (.seq #[(s "value" 1737)] 0), #[]⟩
noncomputable def m1_728 (P : Params) : Obj := ⟨(.type "tuple"), none, (.seq #[] 0), #[]⟩
noncomputable def m1_729 (P : Params) : Obj := ⟨.none, none, (.func (f (top 103) "base_sign" "base_sign" 0 [] .none .none .none .none none .none .none 0)), #[]⟩
noncomputable def m1_730 (P : Params) : Obj := ⟨(.type "code"), none, (.fields #[(s "base_sign" 1734), (s "base_sign" 1735), (s "/claim/cut.py" 1736), (.int 450 0), (.int 1 0), (.int 0 0), (.int 0 0), (.int 3 0), (.ref 725), (.bool true), (.int 181 0), (.ref 726), .none, (.ref 727), (.ref 728), (.ref 729), (.int 1738 0), (.int 450 0), (s "/claim/cut.py" 1739)]), #[]⟩
noncomputable def m1_731 (P : Params) : Obj := ⟨(.type "function"), none, (.func (f (top 103) "base_sign" "base_sign" 3 [] .none .none .none (s "signferry.utf7" 1732) none (.ref 730) .none 0)), #[]⟩
noncomputable def m1_732 (P : Params) : Obj := ⟨(.type "tuple"), none, (.seq #[] 0), #[]⟩
noncomputable def m1_733 (P : Params) : Obj := ⟨.none, none, (.fields #[]), #[]⟩
noncomputable def m1_734 (P : Params) : Obj := ⟨(.type "tuple"), none, (.seq #[(s "octet" 1744)] 0), #[]⟩
noncomputable def m1_735 (P : Params) : Obj := ⟨(.type "tuple"), none, (.seq #[] 0), #[]⟩
noncomputable def m1_736 (P : Params) : Obj := ⟨.none, none, (.func (f (top 104) "base_value" "base_value" 0 [] .none .none .none .none none .none .none 0)), #[]⟩
noncomputable def m1_737 (P : Params) : Obj := ⟨(.type "code"), none, (.fields #[(s "base_value" 1741), (s "base_value" 1742), (s "/claim/cut.py" 1743), (.int 458 0), (.int 1 0), (.int 0 0), (.int 0 0), (.int 3 0), (.ref 732), (.bool true), (.int 181 0), (.ref 733), .none, (.ref 734), (.ref 735), (.ref 736), (.int 1745 0), (.int 458 0), (s "/claim/cut.py" 1746)]), #[]⟩
noncomputable def m1_738 (P : Params) : Obj := ⟨(.type "function"), none, (.func (f (top 104) "base_value" "base_value" 3 [] .none .none .none (s "signferry.utf7" 1732) none (.ref 737) .none 0)), #[]⟩
noncomputable def m1_739 (P : Params) : Obj := ⟨(.type "tuple"), none, (.seq #[] 0), #[]⟩
noncomputable def m1_740 (P : Params) : Obj := ⟨.none, none, (.fields #[]), #[]⟩
noncomputable def m1_741 (P : Params) : Obj := ⟨(.type "tuple"), none, (.seq #[(s "code" 1751)] 0), #[]⟩
noncomputable def m1_742 (P : Params) : Obj := ⟨(.type "tuple"), none, (.seq #[] 0), #[]⟩
noncomputable def m1_743 (P : Params) : Obj := ⟨.none, none, (.func (f (top 105) "is_plain" "is_plain" 0 [] .none .none .none .none none .none .none 0)), #[]⟩
noncomputable def m1_744 (P : Params) : Obj := ⟨(.type "code"), none, (.fields #[(s "is_plain" 1748), (s "is_plain" 1749), (s "/claim/cut.py" 1750), (.int 466 0), (.int 1 0), (.int 0 0), (.int 0 0), (.int 3 0), (.ref 739), (.bool true), (.int 181 0), (.ref 740), .none, (.ref 741), (.ref 742), (.ref 743), (.int 1752 0), (.int 466 0), (s "/claim/cut.py" 1753)]), #[]⟩
noncomputable def m1_745 (P : Params) : Obj := ⟨(.type "function"), none, (.func (f (top 105) "is_plain" "is_plain" 3 [] .none .none .none (s "signferry.utf7" 1732) none (.ref 744) .none 0)), #[]⟩
noncomputable def m1_746 (P : Params) : Obj := ⟨(.type "tuple"), none, (.seq #[] 0), #[]⟩
noncomputable def m1_747 (P : Params) : Obj := ⟨.none, none, (.fields #[]), #[]⟩
noncomputable def m1_748 (P : Params) : Obj := ⟨(.type "tuple"), none, (.seq #[(s "code" 1758)] 0), #[]⟩
noncomputable def m1_749 (P : Params) : Obj := ⟨(.type "tuple"), none, (.seq #[] 0), #[]⟩
noncomputable def m1_750 (P : Params) : Obj := ⟨.none, none, (.func (f (top 106) "units_of" "units_of" 0 [] .none .none .none .none none .none .none 0)), #[]⟩
noncomputable def m1_751 (P : Params) : Obj := ⟨(.type "code"), none, (.fields #[(s "units_of" 1755), (s "units_of" 1756), (s "/claim/cut.py" 1757), (.int 468 0), (.int 1 0), (.int 0 0), (.int 0 0), (.int 3 0), (.ref 746), (.bool true), (.int 181 0), (.ref 747), .none, (.ref 748), (.ref 749), (.ref 750), (.int 1759 0), (.int 468 0), (s "/claim/cut.py" 1760)]), #[]⟩
noncomputable def m1_752 (P : Params) : Obj := ⟨(.type "function"), none, (.func (f (top 106) "units_of" "units_of" 3 [] .none .none .none (s "signferry.utf7" 1732) none (.ref 751) .none 0)), #[]⟩
noncomputable def m1_753 (P : Params) : Obj := ⟨(.type "tuple"), none, (.seq #[] 0), #[]⟩
noncomputable def m1_754 (P : Params) : Obj := ⟨.none, none, (.fields #[]), #[]⟩
noncomputable def m1_755 (P : Params) : Obj := ⟨(.type "tuple"), none, (.seq #[(s "bits" 1765), (s "many" 1766)] 0), #[]⟩
noncomputable def m1_756 (P : Params) : Obj := ⟨(.type "tuple"), none, (.seq #[] 0), #[]⟩
noncomputable def m1_757 (P : Params) : Obj := ⟨.none, none, (.func (f (top 107) "last_sign" "last_sign" 0 [] .none .none .none .none none .none .none 0)), #[]⟩
noncomputable def m1_758 (P : Params) : Obj := ⟨(.type "code"), none, (.fields #[(s "last_sign" 1762), (s "last_sign" 1763), (s "/claim/cut.py" 1764), (.int 472 0), (.int 2 0), (.int 0 0), (.int 0 0), (.int 3 0), (.ref 753), (.bool true), (.int 181 0), (.ref 754), .none, (.ref 755), (.ref 756), (.ref 757), (.int 1767 0), (.int 472 0), (s "/claim/cut.py" 1768)]), #[]⟩
noncomputable def m1_759 (P : Params) : Obj := ⟨(.type "function"), none, (.func (f (top 107) "last_sign" "last_sign" 3 [] .none .none .none (s "signferry.utf7" 1732) none (.ref 758) .none 0)), #[]⟩
noncomputable def m1_760 (P : Params) : Obj := ⟨(.type "tuple"), none, (.seq #[] 0), #[]⟩
noncomputable def m1_761 (P : Params) : Obj := ⟨.none, none, (.fields #[]), #[]⟩
noncomputable def m1_762 (P : Params) : Obj := ⟨(.type "tuple"), none, (.seq #[(s "source" 1773), (s "answers" 1774), (s "found" 1775), (s "bits" 1776), (s "many" 1777), (s "in_shift" 1778), (s "code" 1779), (s "unit" 1780)] 0), #[]⟩
noncomputable def m1_763 (P : Params) : Obj := ⟨(.type "tuple"), none, (.seq #[] 0), #[]⟩
noncomputable def m1_764 (P : Params) : Obj := ⟨.none, none, (.func (f (top 108) "write_utf7" "write_utf7" 0 [] .none .none .none .none none .none .none 0)), #[]⟩
noncomputable def m1_765 (P : Params) : Obj := ⟨(.type "code"), none, (.fields #[(s "write_utf7" 1770), (s "write_utf7" 1771), (s "/claim/cut.py" 1772), (.int 474 0), (.int 2 0), (.int 0 0), (.int 0 0), (.int 3 0), (.ref 760), (.bool true), (.int 181 0), (.ref 761), .none, (.ref 762), (.ref 763), (.ref 764), (.int 1781 0), (.int 474 0), (s "/claim/cut.py" 1782)]), #[]⟩
noncomputable def m1_766 (P : Params) : Obj := ⟨(.type "function"), none, (.func (f (top 108) "write_utf7" "write_utf7" 3 [] .none .none .none (s "signferry.utf7" 1732) none (.ref 765) .none 0)), #[]⟩
noncomputable def m1_767 (P : Params) : Obj := ⟨(.type "dict"), none, (.dict #[(e P "ascii" 1786 (.ref 640)), (e P "iso8859-1" 1787 (.ref 647)), (e P "utf-8" 1788 (.ref 663)), (e P "utf-8-sig" 1789 (.ref 670)), (e P "utf-7" 1790 (.ref 766)), (e P "unicode-escape" 1791 (.ref 286)), (e P "raw-unicode-escape" 1792 (.ref 293)), (e P "punycode" 1793 (.ref 612))] 8), #[]⟩
noncomputable def m1_768 (P : Params) : Obj := ⟨(.type "tuple"), none, (.seq #[] 0), #[]⟩
noncomputable def m1_769 (P : Params) : Obj := ⟨(.type "builtin_function_or_method"), none, (.fields #[(.builtin "type.__prepare__"), (.type "type")]), #[]⟩
noncomputable def m1_770 (P : Params) : Obj := ⟨(.type "dict"), none, (.dict #[(e P "__module__" 1810 (s "signferry.codec" 1784)), (e P "__qualname__" 1812 (s "Codec" 1811)), (e P "__firstlineno__" 1814 (.int 501 1813)), (e P "__init__" 1826 (.ref 782)), (e P "sibling" 1834 (.ref 789)), (e P "encoded" 1846 (.ref 797)), (e P "decoded" 1857 (.ref 805)), (e P "incremental_encoder" 1866 (.ref 813)), (e P "incremental_decoder" 1875 (.ref 821)), (e P "reader" 1885 (.ref 829)), (e P "writer" 1895 (.ref 837)), (e P "__static_attributes__" 1901 (.ref 838))] 12), #[]⟩
noncomputable def m1_771 (P : Params) : Obj := ⟨(.type "tuple"), none, (.seq #[] 0), #[]⟩
noncomputable def m1_772 (P : Params) : Obj := ⟨.none, none, (.fields #[(.int 503 0), (.int 4 0), (.ref 781), (.int 510 0), (.int 4 0), (.ref 788), (.int 513 0), (.int 4 0), (.ref 796), (.int 522 0), (.int 4 0), (.ref 804), (.int 525 0), (.int 4 0), (.ref 812), (.int 528 0), (.int 4 0), (.ref 820), (.int 531 0), (.int 4 0), (.ref 828), (.int 534 0), (.int 4 0), (.ref 836)]), #[]⟩
noncomputable def m1_773 (P : Params) : Obj := ⟨(.type "code"), none, (.fields #[(s "Codec" 1805), (s "Codec" 1806), (s "/claim/cut.py" 1807), (.int 501 0), (.int 0 0), (.int 0 0), (.int 0 0), (.int 0 0), (.ref 771), (.bool false), (.int 181 0), (.ref 772), .none, .none, .none, .none, (.int 1808 0), (.int 501 0), (s "/claim/cut.py" 1809)]), #[]⟩
noncomputable def m1_774 (P : Params) : Obj := ⟨(.type "frame"), none, .plain, #[(some (.ref 773)), (some (.ref 3)), (some (.ref 770)), none, (some (s "signferry.codec" 1784)), none, (some (.ref 0))]⟩
noncomputable def m1_775 (P : Params) : Obj := ⟨(.type "tuple"), none, (.seq #[.none, .none] 0), #[]⟩
noncomputable def m1_776 (P : Params) : Obj := ⟨(.type "tuple"), none, (.seq #[] 0), #[]⟩
noncomputable def m1_777 (P : Params) : Obj := ⟨.none, none, (.fields #[]), #[]⟩
noncomputable def m1_778 (P : Params) : Obj := ⟨(.type "tuple"), none, (.seq #[(s "self" 1818), (s "registry" 1819), (s "name" 1820), (s "kind" 1821), (s "table" 1822), (s "back" 1823)] 0), #[]⟩
noncomputable def m1_779 (P : Params) : Obj := ⟨(.type "tuple"), none, (.seq #[] 0), #[]⟩
noncomputable def m1_780 (P : Params) : Obj := ⟨.none, none, (.func (f (mth 111 0) "__init__" "Codec.__init__" 0 [] .none .none .none .none none .none .none 0)), #[]⟩
noncomputable def m1_781 (P : Params) : Obj := ⟨(.type "code"), none, (.fields #[(s "__init__" 1815), (s "Codec.__init__" 1816), (s "/claim/cut.py" 1817), (.int 503 0), (.int 6 0), (.int 0 0), (.int 0 0), (.int 3 0), (.ref 776), (.bool true), (.int 181 0), (.ref 777), .none, (.ref 778), (.ref 779), (.ref 780), (.int 1824 0), (.int 503 0), (s "/claim/cut.py" 1825)]), #[]⟩
noncomputable def m1_782 (P : Params) : Obj := ⟨(.type "function"), none, (.func (f (mth 111 0) "__init__" "Codec.__init__" 3 [] (.ref 775) .none .none (s "signferry.codec" 1784) none (.ref 781) .none 0)), #[]⟩
noncomputable def m1_783 (P : Params) : Obj := ⟨(.type "tuple"), none, (.seq #[] 0), #[]⟩
noncomputable def m1_784 (P : Params) : Obj := ⟨.none, none, (.fields #[]), #[]⟩
noncomputable def m1_785 (P : Params) : Obj := ⟨(.type "tuple"), none, (.seq #[(s "self" 1830), (s "name" 1831)] 0), #[]⟩
noncomputable def m1_786 (P : Params) : Obj := ⟨(.type "tuple"), none, (.seq #[] 0), #[]⟩
noncomputable def m1_787 (P : Params) : Obj := ⟨.none, none, (.func (f (mth 111 1) "sibling" "Codec.sibling" 0 [] .none .none .none .none none .none .none 0)), #[]⟩
noncomputable def m1_788 (P : Params) : Obj := ⟨(.type "code"), none, (.fields #[(s "sibling" 1827), (s "Codec.sibling" 1828), (s "/claim/cut.py" 1829), (.int 510 0), (.int 2 0), (.int 0 0), (.int 0 0), (.int 3 0), (.ref 783), (.bool true), (.int 181 0), (.ref 784), .none, (.ref 785), (.ref 786), (.ref 787), (.int 1832 0), (.int 510 0), (s "/claim/cut.py" 1833)]), #[]⟩
noncomputable def m1_789 (P : Params) : Obj := ⟨(.type "function"), none, (.func (f (mth 111 1) "sibling" "Codec.sibling" 3 [] .none .none .none (s "signferry.codec" 1784) none (.ref 788) .none 0)), #[]⟩
noncomputable def m1_790 (P : Params) : Obj := ⟨(.type "tuple"), none, (.seq #[(s "strict" 1835)] 0), #[]⟩
noncomputable def m1_791 (P : Params) : Obj := ⟨(.type "tuple"), none, (.seq #[] 0), #[]⟩
noncomputable def m1_792 (P : Params) : Obj := ⟨.none, none, (.fields #[]), #[]⟩
noncomputable def m1_793 (P : Params) : Obj := ⟨(.type "tuple"), none, (.seq #[(s "self" 1839), (s "source" 1840), (s "errors" 1841), (s "answers" 1842), (s "write" 1843)] 0), #[]⟩
noncomputable def m1_794 (P : Params) : Obj := ⟨(.type "tuple"), none, (.seq #[] 0), #[]⟩
noncomputable def m1_795 (P : Params) : Obj := ⟨.none, none, (.func (f (mth 111 2) "encoded" "Codec.encoded" 0 [] .none .none .none .none none .none .none 0)), #[]⟩
noncomputable def m1_796 (P : Params) : Obj := ⟨(.type "code"), none, (.fields #[(s "encoded" 1836), (s "Codec.encoded" 1837), (s "/claim/cut.py" 1838), (.int 513 0), (.int 3 0), (.int 0 0), (.int 0 0), (.int 3 0), (.ref 791), (.bool true), (.int 181 0), (.ref 792), .none, (.ref 793), (.ref 794), (.ref 795), (.int 1844 0), (.int 513 0), (s "/claim/cut.py" 1845)]), #[]⟩
noncomputable def m1_797 (P : Params) : Obj := ⟨(.type "function"), none, (.func (f (mth 111 2) "encoded" "Codec.encoded" 3 [] (.ref 790) .none .none (s "signferry.codec" 1784) none (.ref 796) .none 0)), #[]⟩
noncomputable def m1_798 (P : Params) : Obj := ⟨(.type "tuple"), none, (.seq #[(s "strict" 1847), (.bool true)] 0), #[]⟩
noncomputable def m1_799 (P : Params) : Obj := ⟨(.type "tuple"), none, (.seq #[] 0), #[]⟩
noncomputable def m1_800 (P : Params) : Obj := ⟨.none, none, (.fields #[]), #[]⟩
noncomputable def m1_801 (P : Params) : Obj := ⟨(.type "tuple"), none, (.seq #[(s "self" 1851), (s "data" 1852), (s "errors" 1853), (s "final" 1854)] 0), #[]⟩
noncomputable def m1_802 (P : Params) : Obj := ⟨(.type "tuple"), none, (.seq #[] 0), #[]⟩
noncomputable def m1_803 (P : Params) : Obj := ⟨.none, none, (.func (f (mth 111 3) "decoded" "Codec.decoded" 0 [] .none .none .none .none none .none .none 0)), #[]⟩
noncomputable def m1_804 (P : Params) : Obj := ⟨(.type "code"), none, (.fields #[(s "decoded" 1848), (s "Codec.decoded" 1849), (s "/claim/cut.py" 1850), (.int 522 0), (.int 4 0), (.int 0 0), (.int 0 0), (.int 3 0), (.ref 799), (.bool true), (.int 181 0), (.ref 800), .none, (.ref 801), (.ref 802), (.ref 803), (.int 1855 0), (.int 522 0), (s "/claim/cut.py" 1856)]), #[]⟩
noncomputable def m1_805 (P : Params) : Obj := ⟨(.type "function"), none, (.func (f (mth 111 3) "decoded" "Codec.decoded" 3 [] (.ref 798) .none .none (s "signferry.codec" 1784) none (.ref 804) .none 0)), #[]⟩
noncomputable def m1_806 (P : Params) : Obj := ⟨(.type "tuple"), none, (.seq #[(s "strict" 1858)] 0), #[]⟩
noncomputable def m1_807 (P : Params) : Obj := ⟨(.type "tuple"), none, (.seq #[] 0), #[]⟩
noncomputable def m1_808 (P : Params) : Obj := ⟨.none, none, (.fields #[]), #[]⟩
noncomputable def m1_809 (P : Params) : Obj := ⟨(.type "tuple"), none, (.seq #[(s "self" 1862), (s "errors" 1863)] 0), #[]⟩
noncomputable def m1_810 (P : Params) : Obj := ⟨(.type "tuple"), none, (.seq #[] 0), #[]⟩
noncomputable def m1_811 (P : Params) : Obj := ⟨.none, none, (.func (f (mth 111 4) "incremental_encoder" "Codec.incremental_encoder" 0 [] .none .none .none .none none .none .none 0)), #[]⟩
noncomputable def m1_812 (P : Params) : Obj := ⟨(.type "code"), none, (.fields #[(s "incremental_encoder" 1859), (s "Codec.incremental_encoder" 1860), (s "/claim/cut.py" 1861), (.int 525 0), (.int 2 0), (.int 0 0), (.int 0 0), (.int 3 0), (.ref 807), (.bool true), (.int 181 0), (.ref 808), .none, (.ref 809), (.ref 810), (.ref 811), (.int 1864 0), (.int 525 0), (s "/claim/cut.py" 1865)]), #[]⟩
noncomputable def m1_813 (P : Params) : Obj := ⟨(.type "function"), none, (.func (f (mth 111 4) "incremental_encoder" "Codec.incremental_encoder" 3 [] (.ref 806) .none .none (s "signferry.codec" 1784) none (.ref 812) .none 0)), #[]⟩
noncomputable def m1_814 (P : Params) : Obj := ⟨(.type "tuple"), none, (.seq #[(s "strict" 1867)] 0), #[]⟩
noncomputable def m1_815 (P : Params) : Obj := ⟨(.type "tuple"), none, (.seq #[] 0), #[]⟩
noncomputable def m1_816 (P : Params) : Obj := ⟨.none, none, (.fields #[]), #[]⟩
noncomputable def m1_817 (P : Params) : Obj := ⟨(.type "tuple"), none, (.seq #[(s "self" 1871), (s "errors" 1872)] 0), #[]⟩
noncomputable def m1_818 (P : Params) : Obj := ⟨(.type "tuple"), none, (.seq #[] 0), #[]⟩
noncomputable def m1_819 (P : Params) : Obj := ⟨.none, none, (.func (f (mth 111 5) "incremental_decoder" "Codec.incremental_decoder" 0 [] .none .none .none .none none .none .none 0)), #[]⟩
noncomputable def m1_820 (P : Params) : Obj := ⟨(.type "code"), none, (.fields #[(s "incremental_decoder" 1868), (s "Codec.incremental_decoder" 1869), (s "/claim/cut.py" 1870), (.int 528 0), (.int 2 0), (.int 0 0), (.int 0 0), (.int 3 0), (.ref 815), (.bool true), (.int 181 0), (.ref 816), .none, (.ref 817), (.ref 818), (.ref 819), (.int 1873 0), (.int 528 0), (s "/claim/cut.py" 1874)]), #[]⟩
noncomputable def m1_821 (P : Params) : Obj := ⟨(.type "function"), none, (.func (f (mth 111 5) "incremental_decoder" "Codec.incremental_decoder" 3 [] (.ref 814) .none .none (s "signferry.codec" 1784) none (.ref 820) .none 0)), #[]⟩
noncomputable def m1_822 (P : Params) : Obj := ⟨(.type "tuple"), none, (.seq #[(s "strict" 1876)] 0), #[]⟩
noncomputable def m1_823 (P : Params) : Obj := ⟨(.type "tuple"), none, (.seq #[] 0), #[]⟩
noncomputable def m1_824 (P : Params) : Obj := ⟨.none, none, (.fields #[]), #[]⟩
noncomputable def m1_825 (P : Params) : Obj := ⟨(.type "tuple"), none, (.seq #[(s "self" 1880), (s "stream" 1881), (s "errors" 1882)] 0), #[]⟩
noncomputable def m1_826 (P : Params) : Obj := ⟨(.type "tuple"), none, (.seq #[] 0), #[]⟩
noncomputable def m1_827 (P : Params) : Obj := ⟨.none, none, (.func (f (mth 111 6) "reader" "Codec.reader" 0 [] .none .none .none .none none .none .none 0)), #[]⟩
noncomputable def m1_828 (P : Params) : Obj := ⟨(.type "code"), none, (.fields #[(s "reader" 1877), (s "Codec.reader" 1878), (s "/claim/cut.py" 1879), (.int 531 0), (.int 3 0), (.int 0 0), (.int 0 0), (.int 3 0), (.ref 823), (.bool true), (.int 181 0), (.ref 824), .none, (.ref 825), (.ref 826), (.ref 827), (.int 1883 0), (.int 531 0), (s "/claim/cut.py" 1884)]), #[]⟩
noncomputable def m1_829 (P : Params) : Obj := ⟨(.type "function"), none, (.func (f (mth 111 6) "reader" "Codec.reader" 3 [] (.ref 822) .none .none (s "signferry.codec" 1784) none (.ref 828) .none 0)), #[]⟩
noncomputable def m1_830 (P : Params) : Obj := ⟨(.type "tuple"), none, (.seq #[(s "strict" 1886)] 0), #[]⟩
noncomputable def m1_831 (P : Params) : Obj := ⟨(.type "tuple"), none, (.seq #[] 0), #[]⟩
noncomputable def m1_832 (P : Params) : Obj := ⟨.none, none, (.fields #[]), #[]⟩
noncomputable def m1_833 (P : Params) : Obj := ⟨(.type "tuple"), none, (.seq #[(s "self" 1890), (s "stream" 1891), (s "errors" 1892)] 0), #[]⟩
noncomputable def m1_834 (P : Params) : Obj := ⟨(.type "tuple"), none, (.seq #[] 0), #[]⟩
noncomputable def m1_835 (P : Params) : Obj := ⟨.none, none, (.func (f (mth 111 7) "writer" "Codec.writer" 0 [] .none .none .none .none none .none .none 0)), #[]⟩
noncomputable def m1_836 (P : Params) : Obj := ⟨(.type "code"), none, (.fields #[(s "writer" 1887), (s "Codec.writer" 1888), (s "/claim/cut.py" 1889), (.int 534 0), (.int 3 0), (.int 0 0), (.int 0 0), (.int 3 0), (.ref 831), (.bool true), (.int 181 0), (.ref 832), .none, (.ref 833), (.ref 834), (.ref 835), (.int 1893 0), (.int 534 0), (s "/claim/cut.py" 1894)]), #[]⟩
noncomputable def m1_837 (P : Params) : Obj := ⟨(.type "function"), none, (.func (f (mth 111 7) "writer" "Codec.writer" 3 [] (.ref 830) .none .none (s "signferry.codec" 1784) none (.ref 836) .none 0)), #[]⟩
noncomputable def m1_838 (P : Params) : Obj := ⟨(.type "tuple"), none, (.seq #[(s "back" 1896), (s "kind" 1897), (s "name" 1898), (s "registry" 1899), (s "table" 1900)] 0), #[]⟩
noncomputable def m1_839 (P : Params) : Obj := ⟨(.type "dict"), none, (.dict #[(e P "__module__" 1810 (s "signferry.codec" 1784)), (e P "__firstlineno__" 1814 (.int 501 1813)), (e P "__init__" 1826 (.ref 782)), (e P "sibling" 1834 (.ref 789)), (e P "encoded" 1846 (.ref 797)), (e P "decoded" 1857 (.ref 805)), (e P "incremental_encoder" 1866 (.ref 813)), (e P "incremental_decoder" 1875 (.ref 821)), (e P "reader" 1885 (.ref 829)), (e P "writer" 1895 (.ref 837)), (e P "__static_attributes__" 1901 (.ref 838)), (e P "__dict__" 1903 (.ref 841)), (e P "__weakref__" 1905 (.ref 842)), (e P "__doc__" 1906 .none)] 4), #[]⟩
noncomputable def m1_840 (P : Params) : Obj := ⟨(.type "type"), none, (.cls ⟨(S "Codec"), [(.type "object")], [(.ref 840), (.type "object")], 839, (S "Codec"), true, [], [], false, none, false⟩), #[none, none, (some (s "Codec" 1803)), (some (s "Codec" 1811)), (some (.builtin "object.__new__")), (some (.bool true))]⟩
noncomputable def m1_841 (P : Params) : Obj := ⟨(.type "getset_descriptor"), none, (.fields #[(s "__dict__" 1902), (.ref 840), (.builtin "function.__dict__"), (.builtin "function.__dict__#set")]), #[]⟩
noncomputable def m1_842 (P : Params) : Obj := ⟨(.type "getset_descriptor"), none, (.fields #[(s "__weakref__" 1904), (.ref 840), (.builtin "ExceptionGroup.__weakref__"), .none]), #[]⟩
noncomputable def m1_843 (P : Params) : Obj := ⟨(.type "super"), none, (.fields #[(.ref 840), (.ref 840), (.ref 840)]), #[]⟩
noncomputable def m1_844 (P : Params) : Obj := ⟨(.type "builtin_function_or_method"), none, (.fields #[(.builtin "object.__init_subclass__"), (.ref 840)]), #[]⟩
noncomputable def m1_845 (P : Params) : Obj := ⟨(.type "dict"), none, (.dict #[(e P "ascii" 1913 (s "ascii 646 us us_ascii ansi_x3.4_1968 cp367 iso_ir_6" 1914)), (e P "iso8859-1" 1916 (s "latin_1 latin1 latin l1 iso8859_1 iso_8859_1 8859 cp819" 1917)), (e P "utf-8" 1919 (s "utf_8 utf8 u8 utf cp65001" 1920)), (e P "utf-8-sig" 1922 (s "utf_8_sig" 1923)), (e P "utf-16" 1925 (s "utf_16 utf16 u16" 1926)), (e P "utf-16-le" 1928 (s "utf_16_le utf_16le" 1929)), (e P "utf-16-be" 1931 (s "utf_16_be utf_16be" 1932)), (e P "utf-32" 1934 (s "utf_32 utf32 u32" 1935)), (e P "utf-32-le" 1937 (s "utf_32_le utf_32le" 1938)), (e P "utf-32-be" 1940 (s "utf_32_be utf_32be" 1941)), (e P "utf-7" 1943 (s "utf_7 utf7 u7" 1944)), (e P "unicode-escape" 1946 (s "unicode_escape" 1947)), (e P "raw-unicode-escape" 1949 (s "raw_unicode_escape" 1950)), (e P "cp1252" 1952 (s "cp1252 1252 windows_1252" 1953)), (e P "iso8859-15" 1955 (s "iso8859_15 iso_8859_15 l9 latin9" 1956)), (e P "koi8-r" 1958 (s "koi8_r cskoi8r" 1959)), (e P "punycode" 1961 (s "punycode" 1962))] 17), #[]⟩
noncomputable def m1_846 (P : Params) : Obj := ⟨(.type "tuple"), none, (.seq #[] 0), #[]⟩
noncomputable def m1_847 (P : Params) : Obj := ⟨.none, none, (.fields #[]), #[]⟩
noncomputable def m1_848 (P : Params) : Obj := ⟨(.type "tuple"), none, (.seq #[(s "name" 1968), (s "found" 1969), (s "is_apart" 1970), (s "sign" 1971), (s "small" 1972)] 0), #[]⟩
noncomputable def m1_849 (P : Params) : Obj := ⟨(.type "tuple"), none, (.seq #[] 0), #[]⟩
noncomputable def m1_850 (P : Params) : Obj := ⟨.none, none, (.func (f (top 115) "normal_name" "normal_name" 0 [] .none .none .none .none none .none .none 0)), #[]⟩
noncomputable def m1_851 (P : Params) : Obj := ⟨(.type "code"), none, (.fields #[(s "normal_name" 1965), (s "normal_name" 1966), (s "/claim/cut.py" 1967), (.int 539 0), (.int 1 0), (.int 0 0), (.int 0 0), (.int 3 0), (.ref 846), (.bool true), (.int 181 0), (.ref 847), .none, (.ref 848), (.ref 849), (.ref 850), (.int 1973 0), (.int 539 0), (s "/claim/cut.py" 1974)]), #[]⟩
noncomputable def m1_852 (P : Params) : Obj := ⟨(.type "function"), none, (.func (f (top 115) "normal_name" "normal_name" 3 [] .none .none .none (s "signferry.registry" 1909) none (.ref 851) .none 0)), #[]⟩
noncomputable def m1_853 (P : Params) : Obj := ⟨(.type "tuple"), none, (.seq #[] 0), #[]⟩
noncomputable def m1_854 (P : Params) : Obj := ⟨.none, none, (.fields #[]), #[]⟩
noncomputable def m1_855 (P : Params) : Obj := ⟨(.type "tuple"), none, (.seq #[(s "normal" 1979), (s "name" 1980)] 0), #[]⟩
noncomputable def m1_856 (P : Params) : Obj := ⟨(.type "tuple"), none, (.seq #[] 0), #[]⟩
noncomputable def m1_857 (P : Params) : Obj := ⟨.none, none, (.func (f (top 116) "known_name" "known_name" 0 [] .none .none .none .none none .none .none 0)), #[]⟩
noncomputable def m1_858 (P : Params) : Obj := ⟨(.type "code"), none, (.fields #[(s "known_name" 1976), (s "known_name" 1977), (s "/claim/cut.py" 1978), (.int 547 0), (.int 1 0), (.int 0 0), (.int 0 0), (.int 3 0), (.ref 853), (.bool true), (.int 181 0), (.ref 854), .none, (.ref 855), (.ref 856), (.ref 857), (.int 1981 0), (.int 547 0), (s "/claim/cut.py" 1982)]), #[]⟩
noncomputable def m1_859 (P : Params) : Obj := ⟨(.type "function"), none, (.func (f (top 116) "known_name" "known_name" 3 [] .none .none .none (s "signferry.registry" 1909) none (.ref 858) .none 0)), #[]⟩
noncomputable def m1_860 (P : Params) : Obj := ⟨(.type "tuple"), none, (.seq #[] 0), #[]⟩
noncomputable def m1_861 (P : Params) : Obj := ⟨(.type "builtin_function_or_method"), none, (.fields #[(.builtin "type.__prepare__"), (.type "type")]), #[]⟩
noncomputable def m1_862 (P : Params) : Obj := ⟨(.type "dict"), none, (.dict #[(e P "__module__" 1991 (s "signferry.registry" 1909)), (e P "__qualname__" 1993 (s "Registry" 1992)), (e P "__firstlineno__" 1995 (.int 552 1994)), (e P "__init__" 2002 (.ref 873)), (e P "known" 2009 (.ref 880)), (e P "add_searcher" 2017 (.ref 887)), (e P "remove_searcher" 2025 (.ref 894)), (e P "lookup" 2035 (.ref 901)), (e P "searched" 2046 (.ref 908)), (e P "known_codec" 2054 (.ref 915)), (e P "charmap" 2066 (.ref 923)), (e P "encoded" 2078 (.ref 931)), (e P "decoded" 2090 (.ref 939)), (e P "set_handler" 2099 (.ref 946)), (e P "handler_named" 2107 (.ref 953)), (e P "__static_attributes__" 2111 (.ref 954))] 16), #[]⟩
noncomputable def m1_863 (P : Params) : Obj := ⟨(.type "tuple"), none, (.seq #[] 0), #[]⟩
noncomputable def m1_864 (P : Params) : Obj := ⟨.none, none, (.fields #[(.int 554 0), (.int 4 0), (.ref 872), (.int 559 0), (.int 4 0), (.ref 879), (.int 562 0), (.int 4 0), (.ref 886), (.int 565 0), (.int 4 0), (.ref 893), (.int 568 0), (.int 4 0), (.ref 900), (.int 577 0), (.int 4 0), (.ref 907), (.int 589 0), (.int 4 0), (.ref 914), (.int 594 0), (.int 4 0), (.ref 922), (.int 599 0), (.int 4 0), (.ref 930), (.int 602 0), (.int 4 0), (.ref 938), (.int 605 0), (.int 4 0), (.ref 945), (.int 608 0), (.int 4 0), (.ref 952)]), #[]⟩
noncomputable def m1_865 (P : Params) : Obj := ⟨(.type "code"), none, (.fields #[(s "Registry" 1986), (s "Registry" 1987), (s "/claim/cut.py" 1988), (.int 552 0), (.int 0 0), (.int 0 0), (.int 0 0), (.int 0 0), (.ref 863), (.bool false), (.int 181 0), (.ref 864), .none, .none, .none, .none, (.int 1989 0), (.int 552 0), (s "/claim/cut.py" 1990)]), #[]⟩
noncomputable def m1_866 (P : Params) : Obj := ⟨(.type "frame"), none, .plain, #[(some (.ref 865)), (some (.ref 3)), (some (.ref 862)), none, (some (s "signferry.registry" 1909)), none, (some (.ref 0))]⟩
noncomputable def m1_867 (P : Params) : Obj := ⟨(.type "tuple"), none, (.seq #[] 0), #[]⟩
noncomputable def m1_868 (P : Params) : Obj := ⟨.none, none, (.fields #[]), #[]⟩
noncomputable def m1_869 (P : Params) : Obj := ⟨(.type "tuple"), none, (.seq #[(s "self" 1999)] 0), #[]⟩
noncomputable def m1_870 (P : Params) : Obj := ⟨(.type "tuple"), none, (.seq #[] 0), #[]⟩
noncomputable def m1_871 (P : Params) : Obj := ⟨.none, none, (.func (f (mth 117 0) "__init__" "Registry.__init__" 0 [] .none .none .none .none none .none .none 0)), #[]⟩
noncomputable def m1_872 (P : Params) : Obj := ⟨(.type "code"), none, (.fields #[(s "__init__" 1996), (s "Registry.__init__" 1997), (s "/claim/cut.py" 1998), (.int 554 0), (.int 1 0), (.int 0 0), (.int 0 0), (.int 3 0), (.ref 867), (.bool true), (.int 181 0), (.ref 868), .none, (.ref 869), (.ref 870), (.ref 871), (.int 2000 0), (.int 554 0), (s "/claim/cut.py" 2001)]), #[]⟩
noncomputable def m1_873 (P : Params) : Obj := ⟨(.type "function"), none, (.func (f (mth 117 0) "__init__" "Registry.__init__" 3 [] .none .none .none (s "signferry.registry" 1909) none (.ref 872) .none 0)), #[]⟩
noncomputable def m1_874 (P : Params) : Obj := ⟨(.type "tuple"), none, (.seq #[] 0), #[]⟩
noncomputable def m1_875 (P : Params) : Obj := ⟨.none, none, (.fields #[]), #[]⟩
noncomputable def m1_876 (P : Params) : Obj := ⟨(.type "tuple"), none, (.seq #[(s "self" 2006)] 0), #[]⟩
noncomputable def m1_877 (P : Params) : Obj := ⟨(.type "tuple"), none, (.seq #[] 0), #[]⟩
noncomputable def m1_878 (P : Params) : Obj := ⟨.none, none, (.func (f (mth 117 1) "known" "Registry.known" 0 [] .none .none .none .none none .none .none 0)), #[]⟩
noncomputable def m1_879 (P : Params) : Obj := ⟨(.type "code"), none, (.fields #[(s "known" 2003), (s "Registry.known" 2004), (s "/claim/cut.py" 2005), (.int 559 0), (.int 1 0), (.int 0 0), (.int 0 0), (.int 3 0), (.ref 874), (.bool true), (.int 181 0), (.ref 875), .none, (.ref 876), (.ref 877), (.ref 878), (.int 2007 0), (.int 559 0), (s "/claim/cut.py" 2008)]), #[]⟩
noncomputable def m1_880 (P : Params) : Obj := ⟨(.type "function"), none, (.func (f (mth 117 1) "known" "Registry.known" 3 [] .none .none .none (s "signferry.registry" 1909) none (.ref 879) .none 0)), #[]⟩
noncomputable def m1_881 (P : Params) : Obj := ⟨(.type "tuple"), none, (.seq #[] 0), #[]⟩
noncomputable def m1_882 (P : Params) : Obj := ⟨.none, none, (.fields #[]), #[]⟩
noncomputable def m1_883 (P : Params) : Obj := ⟨(.type "tuple"), none, (.seq #[(s "self" 2013), (s "searcher" 2014)] 0), #[]⟩
noncomputable def m1_884 (P : Params) : Obj := ⟨(.type "tuple"), none, (.seq #[] 0), #[]⟩
noncomputable def m1_885 (P : Params) : Obj := ⟨.none, none, (.func (f (mth 117 2) "add_searcher" "Registry.add_searcher" 0 [] .none .none .none .none none .none .none 0)), #[]⟩
noncomputable def m1_886 (P : Params) : Obj := ⟨(.type "code"), none, (.fields #[(s "add_searcher" 2010), (s "Registry.add_searcher" 2011), (s "/claim/cut.py" 2012), (.int 562 0), (.int 2 0), (.int 0 0), (.int 0 0), (.int 3 0), (.ref 881), (.bool true), (.int 181 0), (.ref 882), .none, (.ref 883), (.ref 884), (.ref 885), (.int 2015 0), (.int 562 0), (s "/claim/cut.py" 2016)]), #[]⟩
noncomputable def m1_887 (P : Params) : Obj := ⟨(.type "function"), none, (.func (f (mth 117 2) "add_searcher" "Registry.add_searcher" 3 [] .none .none .none (s "signferry.registry" 1909) none (.ref 886) .none 0)), #[]⟩
noncomputable def m1_888 (P : Params) : Obj := ⟨(.type "tuple"), none, (.seq #[] 0), #[]⟩
noncomputable def m1_889 (P : Params) : Obj := ⟨.none, none, (.fields #[]), #[]⟩
noncomputable def m1_890 (P : Params) : Obj := ⟨(.type "tuple"), none, (.seq #[(s "self" 2021), (s "searcher" 2022)] 0), #[]⟩
noncomputable def m1_891 (P : Params) : Obj := ⟨(.type "tuple"), none, (.seq #[] 0), #[]⟩
noncomputable def m1_892 (P : Params) : Obj := ⟨.none, none, (.func (f (mth 117 3) "remove_searcher" "Registry.remove_searcher" 0 [] .none .none .none .none none .none .none 0)), #[]⟩
noncomputable def m1_893 (P : Params) : Obj := ⟨(.type "code"), none, (.fields #[(s "remove_searcher" 2018), (s "Registry.remove_searcher" 2019), (s "/claim/cut.py" 2020), (.int 565 0), (.int 2 0), (.int 0 0), (.int 0 0), (.int 3 0), (.ref 888), (.bool true), (.int 181 0), (.ref 889), .none, (.ref 890), (.ref 891), (.ref 892), (.int 2023 0), (.int 565 0), (s "/claim/cut.py" 2024)]), #[]⟩
noncomputable def m1_894 (P : Params) : Obj := ⟨(.type "function"), none, (.func (f (mth 117 3) "remove_searcher" "Registry.remove_searcher" 3 [] .none .none .none (s "signferry.registry" 1909) none (.ref 893) .none 0)), #[]⟩
noncomputable def m1_895 (P : Params) : Obj := ⟨(.type "tuple"), none, (.seq #[] 0), #[]⟩
noncomputable def m1_896 (P : Params) : Obj := ⟨.none, none, (.fields #[]), #[]⟩
noncomputable def m1_897 (P : Params) : Obj := ⟨(.type "tuple"), none, (.seq #[(s "self" 2029), (s "name" 2030), (s "normal" 2031), (s "codec" 2032)] 0), #[]⟩
noncomputable def m1_898 (P : Params) : Obj := ⟨(.type "tuple"), none, (.seq #[] 0), #[]⟩
noncomputable def m1_899 (P : Params) : Obj := ⟨.none, none, (.func (f (mth 117 4) "lookup" "Registry.lookup" 0 [] .none .none .none .none none .none .none 0)), #[]⟩
noncomputable def m1_900 (P : Params) : Obj := ⟨(.type "code"), none, (.fields #[(s "lookup" 2026), (s "Registry.lookup" 2027), (s "/claim/cut.py" 2028), (.int 568 0), (.int 2 0), (.int 0 0), (.int 0 0), (.int 3 0), (.ref 895), (.bool true), (.int 181 0), (.ref 896), .none, (.ref 897), (.ref 898), (.ref 899), (.int 2033 0), (.int 568 0), (s "/claim/cut.py" 2034)]), #[]⟩
noncomputable def m1_901 (P : Params) : Obj := ⟨(.type "function"), none, (.func (f (mth 117 4) "lookup" "Registry.lookup" 3 [] .none .none .none (s "signferry.registry" 1909) none (.ref 900) .none 0)), #[]⟩
noncomputable def m1_902 (P : Params) : Obj := ⟨(.type "tuple"), none, (.seq #[] 0), #[]⟩
noncomputable def m1_903 (P : Params) : Obj := ⟨.none, none, (.fields #[]), #[]⟩
noncomputable def m1_904 (P : Params) : Obj := ⟨(.type "tuple"), none, (.seq #[(s "self" 2039), (s "normal" 2040), (s "name" 2041), (s "searcher" 2042), (s "codec" 2043)] 0), #[]⟩
noncomputable def m1_905 (P : Params) : Obj := ⟨(.type "tuple"), none, (.seq #[] 0), #[]⟩
noncomputable def m1_906 (P : Params) : Obj := ⟨.none, none, (.func (f (mth 117 5) "searched" "Registry.searched" 0 [] .none .none .none .none none .none .none 0)), #[]⟩
noncomputable def m1_907 (P : Params) : Obj := ⟨(.type "code"), none, (.fields #[(s "searched" 2036), (s "Registry.searched" 2037), (s "/claim/cut.py" 2038), (.int 577 0), (.int 2 0), (.int 0 0), (.int 0 0), (.int 3 0), (.ref 902), (.bool true), (.int 181 0), (.ref 903), .none, (.ref 904), (.ref 905), (.ref 906), (.int 2044 0), (.int 577 0), (s "/claim/cut.py" 2045)]), #[]⟩
noncomputable def m1_908 (P : Params) : Obj := ⟨(.type "function"), none, (.func (f (mth 117 5) "searched" "Registry.searched" 3 [] .none .none .none (s "signferry.registry" 1909) none (.ref 907) .none 0)), #[]⟩
noncomputable def m1_909 (P : Params) : Obj := ⟨(.type "tuple"), none, (.seq #[] 0), #[]⟩
noncomputable def m1_910 (P : Params) : Obj := ⟨.none, none, (.fields #[]), #[]⟩
noncomputable def m1_911 (P : Params) : Obj := ⟨(.type "tuple"), none, (.seq #[(s "self" 2050), (s "name" 2051)] 0), #[]⟩
noncomputable def m1_912 (P : Params) : Obj := ⟨(.type "tuple"), none, (.seq #[] 0), #[]⟩
noncomputable def m1_913 (P : Params) : Obj := ⟨.none, none, (.func (f (mth 117 6) "known_codec" "Registry.known_codec" 0 [] .none .none .none .none none .none .none 0)), #[]⟩
noncomputable def m1_914 (P : Params) : Obj := ⟨(.type "code"), none, (.fields #[(s "known_codec" 2047), (s "Registry.known_codec" 2048), (s "/claim/cut.py" 2049), (.int 589 0), (.int 2 0), (.int 0 0), (.int 0 0), (.int 3 0), (.ref 909), (.bool true), (.int 181 0), (.ref 910), .none, (.ref 911), (.ref 912), (.ref 913), (.int 2052 0), (.int 589 0), (s "/claim/cut.py" 2053)]), #[]⟩
noncomputable def m1_915 (P : Params) : Obj := ⟨(.type "function"), none, (.func (f (mth 117 6) "known_codec" "Registry.known_codec" 3 [] .none .none .none (s "signferry.registry" 1909) none (.ref 914) .none 0)), #[]⟩
noncomputable def m1_916 (P : Params) : Obj := ⟨(.type "tuple"), none, (.seq #[.none] 0), #[]⟩
noncomputable def m1_917 (P : Params) : Obj := ⟨(.type "tuple"), none, (.seq #[] 0), #[]⟩
noncomputable def m1_918 (P : Params) : Obj := ⟨.none, none, (.fields #[]), #[]⟩
noncomputable def m1_919 (P : Params) : Obj := ⟨(.type "tuple"), none, (.seq #[(s "self" 2058), (s "name" 2059), (s "table" 2060), (s "back" 2061), (s "entries" 2062), (s "ways" 2063)] 0), #[]⟩
noncomputable def m1_920 (P : Params) : Obj := ⟨(.type "tuple"), none, (.seq #[] 0), #[]⟩
noncomputable def m1_921 (P : Params) : Obj := ⟨.none, none, (.func (f (mth 117 7) "charmap" "Registry.charmap" 0 [] .none .none .none .none none .none .none 0)), #[]⟩
noncomputable def m1_922 (P : Params) : Obj := ⟨(.type "code"), none, (.fields #[(s "charmap" 2055), (s "Registry.charmap" 2056), (s "/claim/cut.py" 2057), (.int 594 0), (.int 4 0), (.int 0 0), (.int 0 0), (.int 3 0), (.ref 917), (.bool true), (.int 181 0), (.ref 918), .none, (.ref 919), (.ref 920), (.ref 921), (.int 2064 0), (.int 594 0), (s "/claim/cut.py" 2065)]), #[]⟩
noncomputable def m1_923 (P : Params) : Obj := ⟨(.type "function"), none, (.func (f (mth 117 7) "charmap" "Registry.charmap" 3 [] (.ref 916) .none .none (s "signferry.registry" 1909) none (.ref 922) .none 0)), #[]⟩
noncomputable def m1_924 (P : Params) : Obj := ⟨(.type "tuple"), none, (.seq #[(s "utf-8" 2067), (s "strict" 2068)] 0), #[]⟩
noncomputable def m1_925 (P : Params) : Obj := ⟨(.type "tuple"), none, (.seq #[] 0), #[]⟩
noncomputable def m1_926 (P : Params) : Obj := ⟨.none, none, (.fields #[]), #[]⟩
noncomputable def m1_927 (P : Params) : Obj := ⟨(.type "tuple"), none, (.seq #[(s "self" 2072), (s "source" 2073), (s "name" 2074), (s "errors" 2075)] 0), #[]⟩
noncomputable def m1_928 (P : Params) : Obj := ⟨(.type "tuple"), none, (.seq #[] 0), #[]⟩
noncomputable def m1_929 (P : Params) : Obj := ⟨.none, none, (.func (f (mth 117 8) "encoded" "Registry.encoded" 0 [] .none .none .none .none none .none .none 0)), #[]⟩
noncomputable def m1_930 (P : Params) : Obj := ⟨(.type "code"), none, (.fields #[(s "encoded" 2069), (s "Registry.encoded" 2070), (s "/claim/cut.py" 2071), (.int 599 0), (.int 4 0), (.int 0 0), (.int 0 0), (.int 3 0), (.ref 925), (.bool true), (.int 181 0), (.ref 926), .none, (.ref 927), (.ref 928), (.ref 929), (.int 2076 0), (.int 599 0), (s "/claim/cut.py" 2077)]), #[]⟩
noncomputable def m1_931 (P : Params) : Obj := ⟨(.type "function"), none, (.func (f (mth 117 8) "encoded" "Registry.encoded" 3 [] (.ref 924) .none .none (s "signferry.registry" 1909) none (.ref 930) .none 0)), #[]⟩
noncomputable def m1_932 (P : Params) : Obj := ⟨(.type "tuple"), none, (.seq #[(s "utf-8" 2079), (s "strict" 2080)] 0), #[]⟩
noncomputable def m1_933 (P : Params) : Obj := ⟨(.type "tuple"), none, (.seq #[] 0), #[]⟩
noncomputable def m1_934 (P : Params) : Obj := ⟨.none, none, (.fields #[]), #[]⟩
noncomputable def m1_935 (P : Params) : Obj := ⟨(.type "tuple"), none, (.seq #[(s "self" 2084), (s "data" 2085), (s "name" 2086), (s "errors" 2087)] 0), #[]⟩
noncomputable def m1_936 (P : Params) : Obj := ⟨(.type "tuple"), none, (.seq #[] 0), #[]⟩
noncomputable def m1_937 (P : Params) : Obj := ⟨.none, none, (.func (f (mth 117 9) "decoded" "Registry.decoded" 0 [] .none .none .none .none none .none .none 0)), #[]⟩
noncomputable def m1_938 (P : Params) : Obj := ⟨(.type "code"), none, (.fields #[(s "decoded" 2081), (s "Registry.decoded" 2082), (s "/claim/cut.py" 2083), (.int 602 0), (.int 4 0), (.int 0 0), (.int 0 0), (.int 3 0), (.ref 933), (.bool true), (.int 181 0), (.ref 934), .none, (.ref 935), (.ref 936), (.ref 937), (.int 2088 0), (.int 602 0), (s "/claim/cut.py" 2089)]), #[]⟩
noncomputable def m1_939 (P : Params) : Obj := ⟨(.type "function"), none, (.func (f (mth 117 9) "decoded" "Registry.decoded" 3 [] (.ref 932) .none .none (s "signferry.registry" 1909) none (.ref 938) .none 0)), #[]⟩
noncomputable def m1_940 (P : Params) : Obj := ⟨(.type "tuple"), none, (.seq #[] 0), #[]⟩
noncomputable def m1_941 (P : Params) : Obj := ⟨.none, none, (.fields #[]), #[]⟩
noncomputable def m1_942 (P : Params) : Obj := ⟨(.type "tuple"), none, (.seq #[(s "self" 2094), (s "name" 2095), (s "handler" 2096)] 0), #[]⟩
noncomputable def m1_943 (P : Params) : Obj := ⟨(.type "tuple"), none, (.seq #[] 0), #[]⟩
noncomputable def m1_944 (P : Params) : Obj := ⟨.none, none, (.func (f (mth 117 10) "set_handler" "Registry.set_handler" 0 [] .none .none .none .none none .none .none 0)), #[]⟩
noncomputable def m1_945 (P : Params) : Obj := ⟨(.type "code"), none, (.fields #[(s "set_handler" 2091), (s "Registry.set_handler" 2092), (s "/claim/cut.py" 2093), (.int 605 0), (.int 3 0), (.int 0 0), (.int 0 0), (.int 3 0), (.ref 940), (.bool true), (.int 181 0), (.ref 941), .none, (.ref 942), (.ref 943), (.ref 944), (.int 2097 0), (.int 605 0), (s "/claim/cut.py" 2098)]), #[]⟩
noncomputable def m1_946 (P : Params) : Obj := ⟨(.type "function"), none, (.func (f (mth 117 10) "set_handler" "Registry.set_handler" 3 [] .none .none .none (s "signferry.registry" 1909) none (.ref 945) .none 0)), #[]⟩
noncomputable def m1_947 (P : Params) : Obj := ⟨(.type "tuple"), none, (.seq #[] 0), #[]⟩
noncomputable def m1_948 (P : Params) : Obj := ⟨.none, none, (.fields #[]), #[]⟩
noncomputable def m1_949 (P : Params) : Obj := ⟨(.type "tuple"), none, (.seq #[(s "self" 2103), (s "name" 2104)] 0), #[]⟩
noncomputable def m1_950 (P : Params) : Obj := ⟨(.type "tuple"), none, (.seq #[] 0), #[]⟩
noncomputable def m1_951 (P : Params) : Obj := ⟨.none, none, (.func (f (mth 117 11) "handler_named" "Registry.handler_named" 0 [] .none .none .none .none none .none .none 0)), #[]⟩
noncomputable def m1_952 (P : Params) : Obj := ⟨(.type "code"), none, (.fields #[(s "handler_named" 2100), (s "Registry.handler_named" 2101), (s "/claim/cut.py" 2102), (.int 608 0), (.int 2 0), (.int 0 0), (.int 0 0), (.int 3 0), (.ref 947), (.bool true), (.int 181 0), (.ref 948), .none, (.ref 949), (.ref 950), (.ref 951), (.int 2105 0), (.int 608 0), (s "/claim/cut.py" 2106)]), #[]⟩
noncomputable def m1_953 (P : Params) : Obj := ⟨(.type "function"), none, (.func (f (mth 117 11) "handler_named" "Registry.handler_named" 3 [] .none .none .none (s "signferry.registry" 1909) none (.ref 952) .none 0)), #[]⟩
noncomputable def m1_954 (P : Params) : Obj := ⟨(.type "tuple"), none, (.seq #[(s "found_codecs" 2108), (s "own_handlers" 2109), (s "searchers" 2110)] 0), #[]⟩
noncomputable def m1_955 (P : Params) : Obj := ⟨(.type "dict"), none, (.dict #[(e P "__module__" 1991 (s "signferry.registry" 1909)), (e P "__firstlineno__" 1995 (.int 552 1994)), (e P "__init__" 2002 (.ref 873)), (e P "known" 2009 (.ref 880)), (e P "add_searcher" 2017 (.ref 887)), (e P "remove_searcher" 2025 (.ref 894)), (e P "lookup" 2035 (.ref 901)), (e P "searched" 2046 (.ref 908)), (e P "known_codec" 2054 (.ref 915)), (e P "charmap" 2066 (.ref 923)), (e P "encoded" 2078 (.ref 931)), (e P "decoded" 2090 (.ref 939)), (e P "set_handler" 2099 (.ref 946)), (e P "handler_named" 2107 (.ref 953)), (e P "__static_attributes__" 2111 (.ref 954)), (e P "__dict__" 2113 (.ref 957)), (e P "__weakref__" 2115 (.ref 958)), (e P "__doc__" 2116 .none)] 4), #[]⟩
noncomputable def m1_956 (P : Params) : Obj := ⟨(.type "type"), none, (.cls ⟨(S "Registry"), [(.type "object")], [(.ref 956), (.type "object")], 955, (S "Registry"), true, [], [], false, none, false⟩), #[none, none, (some (s "Registry" 1984)), (some (s "Registry" 1992)), (some (.builtin "object.__new__")), (some (.bool true))]⟩
noncomputable def m1_957 (P : Params) : Obj := ⟨(.type "getset_descriptor"), none, (.fields #[(s "__dict__" 2112), (.ref 956), (.builtin "function.__dict__"), (.builtin "function.__dict__#set")]), #[]⟩
noncomputable def m1_958 (P : Params) : Obj := ⟨(.type "getset_descriptor"), none, (.fields #[(s "__weakref__" 2114), (.ref 956), (.builtin "ExceptionGroup.__weakref__"), .none]), #[]⟩
noncomputable def m1_959 (P : Params) : Obj := ⟨(.type "super"), none, (.fields #[(.ref 956), (.ref 956), (.ref 956)]), #[]⟩
noncomputable def m1_960 (P : Params) : Obj := ⟨(.type "builtin_function_or_method"), none, (.fields #[(.builtin "object.__init_subclass__"), (.ref 956)]), #[]⟩
noncomputable def m1_961 (P : Params) : Obj := ⟨(.type "tuple"), none, (.seq #[] 0), #[]⟩
noncomputable def m1_962 (P : Params) : Obj := ⟨.none, none, (.fields #[]), #[]⟩
noncomputable def m1_963 (P : Params) : Obj := ⟨(.type "tuple"), none, (.seq #[(s "_law_script" 2124), (s "_law_k" 2125), (s "_law_cell" 2126), (s "_law_deep" 2127)] 0), #[]⟩
noncomputable def m1_964 (P : Params) : Obj := ⟨(.type "tuple"), none, (.seq #[] 0), #[]⟩
noncomputable def m1_965 (P : Params) : Obj := ⟨.none, none, (.func (f (top 119) "_law_source" "_law_source" 0 [] .none .none .none .none none .none .none 0)), #[]⟩
noncomputable def m1_966 (P : Params) : Obj := ⟨(.type "code"), none, (.fields #[(s "_law_source" 2121), (s "_law_source" 2122), (s "/claim/cut.py" 2123), (.int 615 0), (.int 2 0), (.int 0 0), (.int 0 0), (.int 3 0), (.ref 961), (.bool true), (.int 181 0), (.ref 962), .none, (.ref 963), (.ref 964), (.ref 965), (.int 2128 0), (.int 615 0), (s "/claim/cut.py" 2129)]), #[]⟩
noncomputable def m1_967 (P : Params) : Obj := ⟨(.type "function"), none, (.func (f (top 119) "_law_source" "_law_source" 3 [] .none .none .none (s "law_signferry_k46_escapes_written" 2119) none (.ref 966) .none 0)), #[]⟩
noncomputable def m1_968 (P : Params) : Obj := ⟨(.type "tuple"), none, (.seq #[] 0), #[]⟩
noncomputable def m1_969 (P : Params) : Obj := ⟨.none, none, (.fields #[]), #[]⟩
noncomputable def m1_970 (P : Params) : Obj := ⟨(.type "tuple"), none, (.seq #[(s "_law_source_here" 2134), (s "_law_many" 2135), (s "_law_digit" 2136), (s "_law_seed" 2137)] 0), #[]⟩
noncomputable def m1_971 (P : Params) : Obj := ⟨(.type "tuple"), none, (.seq #[] 0), #[]⟩
noncomputable def m1_972 (P : Params) : Obj := ⟨.none, none, (.func (f (top 120) "_law_draw" "_law_draw" 0 [] .none .none .none .none none .none .none 0)), #[]⟩
noncomputable def m1_973 (P : Params) : Obj := ⟨(.type "code"), none, (.fields #[(s "_law_draw" 2131), (s "_law_draw" 2132), (s "/claim/cut.py" 2133), (.int 623 0), (.int 2 0), (.int 0 0), (.int 0 0), (.int 3 0), (.ref 968), (.bool true), (.int 181 0), (.ref 969), .none, (.ref 970), (.ref 971), (.ref 972), (.int 2138 0), (.int 623 0), (s "/claim/cut.py" 2139)]), #[]⟩
noncomputable def m1_974 (P : Params) : Obj := ⟨(.type "function"), none, (.func (f (top 120) "_law_draw" "_law_draw" 3 [] .none .none .none (s "law_signferry_k46_escapes_written" 2119) none (.ref 973) .none 0)), #[]⟩
noncomputable def m1_975 (P : Params) : Obj := ⟨(.type "tuple"), none, (.seq #[] 0), #[]⟩
noncomputable def m1_976 (P : Params) : Obj := ⟨.none, none, (.fields #[]), #[]⟩
noncomputable def m1_977 (P : Params) : Obj := ⟨(.type "tuple"), none, (.seq #[(s "_law_source_here" 2144), (s "_law_some" 2145)] 0), #[]⟩
noncomputable def m1_978 (P : Params) : Obj := ⟨(.type "tuple"), none, (.seq #[] 0), #[]⟩
noncomputable def m1_979 (P : Params) : Obj := ⟨.none, none, (.func (f (top 121) "_law_pick" "_law_pick" 0 [] .none .none .none .none none .none .none 0)), #[]⟩
noncomputable def m1_980 (P : Params) : Obj := ⟨(.type "code"), none, (.fields #[(s "_law_pick" 2141), (s "_law_pick" 2142), (s "/claim/cut.py" 2143), (.int 631 0), (.int 2 0), (.int 0 0), (.int 0 0), (.int 3 0), (.ref 975), (.bool true), (.int 181 0), (.ref 976), .none, (.ref 977), (.ref 978), (.ref 979), (.int 2146 0), (.int 631 0), (s "/claim/cut.py" 2147)]), #[]⟩
noncomputable def m1_981 (P : Params) : Obj := ⟨(.type "function"), none, (.func (f (top 121) "_law_pick" "_law_pick" 3 [] .none .none .none (s "law_signferry_k46_escapes_written" 2119) none (.ref 980) .none 0)), #[]⟩
noncomputable def m1_982 (P : Params) : Obj := ⟨(.type "tuple"), none, (.seq #[] 0), #[]⟩
noncomputable def m1_983 (P : Params) : Obj := ⟨.none, none, (.fields #[]), #[]⟩
noncomputable def m1_984 (P : Params) : Obj := ⟨.none, none, (.func (f (top 122) "_law_text" "_law_text" 0 [] .none .none .none .none none .none .none 0)), #[]⟩
noncomputable def m1_985 (P : Params) : Obj := ⟨(.type "code"), none, (.fields #[(s "_law_text" 2149), (s "_law_text" 2150), (s "/claim/cut.py" 2151), (.int 633 0), (.int 1 0), (.int 0 0), (.int 0 0), (.int 3 0), (.ref 982), (.bool true), (.int 181 0), (.ref 983), .none, .none, .none, (.ref 984), (.int 2152 0), (.int 633 0), (s "/claim/cut.py" 2153)]), #[]⟩
noncomputable def m1_986 (P : Params) : Obj := ⟨(.type "function"), none, (.func (f (top 122) "_law_text" "_law_text" 3 [] .none .none .none (s "law_signferry_k46_escapes_written" 2119) none (.ref 985) .none 0)), #[]⟩
noncomputable def m1_987 (P : Params) : Obj := ⟨(.type "tuple"), none, (.seq #[] 0), #[]⟩
noncomputable def m1_988 (P : Params) : Obj := ⟨.none, none, (.fields #[]), #[]⟩
noncomputable def m1_989 (P : Params) : Obj := ⟨(.type "tuple"), none, (.seq #[(s "_law_source_here" 2158), (s "_law_codes" 2159)] 0), #[]⟩
noncomputable def m1_990 (P : Params) : Obj := ⟨(.type "tuple"), none, (.seq #[] 0), #[]⟩
noncomputable def m1_991 (P : Params) : Obj := ⟨.none, none, (.func (f (top 123) "_law_handed" "_law_handed" 0 [] .none .none .none .none none .none .none 0)), #[]⟩
noncomputable def m1_992 (P : Params) : Obj := ⟨(.type "code"), none, (.fields #[(s "_law_handed" 2155), (s "_law_handed" 2156), (s "/claim/cut.py" 2157), (.int 635 0), (.int 2 0), (.int 0 0), (.int 0 0), (.int 3 0), (.ref 987), (.bool true), (.int 181 0), (.ref 988), .none, (.ref 989), (.ref 990), (.ref 991), (.int 2160 0), (.int 635 0), (s "/claim/cut.py" 2161)]), #[]⟩
noncomputable def m1_993 (P : Params) : Obj := ⟨(.type "function"), none, (.func (f (top 123) "_law_handed" "_law_handed" 3 [] .none .none .none (s "law_signferry_k46_escapes_written" 2119) none (.ref 992) .none 0)), #[]⟩
noncomputable def m1_994 (P : Params) : Obj := ⟨(.type "tuple"), none, (.seq #[] 0), #[]⟩
noncomputable def m1_995 (P : Params) : Obj := ⟨.none, none, (.fields #[]), #[]⟩
noncomputable def m1_996 (P : Params) : Obj := ⟨.none, none, (.func (f (top 124) "_law_same" "_law_same" 0 [] .none .none .none .none none .none .none 0)), #[]⟩
noncomputable def m1_997 (P : Params) : Obj := ⟨(.type "code"), none, (.fields #[(s "_law_same" 2163), (s "_law_same" 2164), (s "/claim/cut.py" 2165), (.int 637 0), (.int 2 0), (.int 0 0), (.int 0 0), (.int 3 0), (.ref 994), (.bool true), (.int 181 0), (.ref 995), .none, .none, .none, (.ref 996), (.int 2166 0), (.int 637 0), (s "/claim/cut.py" 2167)]), #[]⟩
noncomputable def m1_998 (P : Params) : Obj := ⟨(.type "function"), none, (.func (f (top 124) "_law_same" "_law_same" 3 [] .none .none .none (s "law_signferry_k46_escapes_written" 2119) none (.ref 997) .none 0)), #[]⟩
noncomputable def m1_999 (P : Params) : Obj := ⟨(.type "tuple"), none, (.seq #[] 0), #[]⟩
noncomputable def m1_1000 (P : Params) : Obj := ⟨.none, none, (.fields #[]), #[]⟩
noncomputable def m1_1001 (P : Params) : Obj := ⟨(.type "tuple"), none, (.seq #[(s "_law_number" 2172), (s "_law_many" 2173), (s "_law_found" 2174), (s "_law_k" 2175)] 0), #[]⟩
noncomputable def m1_1002 (P : Params) : Obj := ⟨(.type "tuple"), none, (.seq #[] 0), #[]⟩
noncomputable def m1_1003 (P : Params) : Obj := ⟨.none, none, (.func (f (top 125) "_law_digits" "_law_digits" 0 [] .none .none .none .none none .none .none 0)), #[]⟩
noncomputable def m1_1004 (P : Params) : Obj := ⟨(.type "code"), none, (.fields #[(s "_law_digits" 2169), (s "_law_digits" 2170), (s "/claim/cut.py" 2171), (.int 645 0), (.int 2 0), (.int 0 0), (.int 0 0), (.int 3 0), (.ref 999), (.bool true), (.int 181 0), (.ref 1000), .none, (.ref 1001), (.ref 1002), (.ref 1003), (.int 2176 0), (.int 645 0), (s "/claim/cut.py" 2177)]), #[]⟩
noncomputable def m1_1005 (P : Params) : Obj := ⟨(.type "function"), none, (.func (f (top 125) "_law_digits" "_law_digits" 3 [] .none .none .none (s "law_signferry_k46_escapes_written" 2119) none (.ref 1004) .none 0)), #[]⟩
noncomputable def m1_1006 (P : Params) : Obj := ⟨(.type "tuple"), none, (.seq #[] 0), #[]⟩
noncomputable def m1_1007 (P : Params) : Obj := ⟨.none, none, (.fields #[]), #[]⟩
noncomputable def m1_1008 (P : Params) : Obj := ⟨(.type "tuple"), none, (.seq #[(s "_law_code" 2182), (s "_law_is_raw" 2183), (s "_law_short" 2184)] 0), #[]⟩
noncomputable def m1_1009 (P : Params) : Obj := ⟨(.type "tuple"), none, (.seq #[] 0), #[]⟩
noncomputable def m1_1010 (P : Params) : Obj := ⟨.none, none, (.func (f (top 126) "_law_escaped" "_law_escaped" 0 [] .none .none .none .none none .none .none 0)), #[]⟩
noncomputable def m1_1011 (P : Params) : Obj := ⟨(.type "code"), none, (.fields #[(s "_law_escaped" 2179), (s "_law_escaped" 2180), (s "/claim/cut.py" 2181), (.int 651 0), (.int 2 0), (.int 0 0), (.int 0 0), (.int 3 0), (.ref 1006), (.bool true), (.int 181 0), (.ref 1007), .none, (.ref 1008), (.ref 1009), (.ref 1010), (.int 2185 0), (.int 651 0), (s "/claim/cut.py" 2186)]), #[]⟩
noncomputable def m1_1012 (P : Params) : Obj := ⟨(.type "function"), none, (.func (f (top 126) "_law_escaped" "_law_escaped" 3 [] .none .none .none (s "law_signferry_k46_escapes_written" 2119) none (.ref 1011) .none 0)), #[]⟩
noncomputable def m1_1013 (P : Params) : Obj := ⟨(.type "tuple"), none, (.seq #[] 0), #[]⟩
noncomputable def m1_1014 (P : Params) : Obj := ⟨.none, none, (.fields #[]), #[]⟩
noncomputable def m1_1015 (P : Params) : Obj := ⟨.none, none, (.func (f (top 127) "_law_codes_e" "_law_codes_e" 0 [] .none .none .none .none none .none .none 0)), #[]⟩
noncomputable def m1_1016 (P : Params) : Obj := ⟨(.type "code"), none, (.fields #[(s "_law_codes_e" 2188), (s "_law_codes_e" 2189), (s "/claim/cut.py" 2190), (.int 660 0), (.int 2 0), (.int 0 0), (.int 0 0), (.int 3 0), (.ref 1013), (.bool true), (.int 181 0), (.ref 1014), .none, .none, .none, (.ref 1015), (.int 2191 0), (.int 660 0), (s "/claim/cut.py" 2192)]), #[]⟩
noncomputable def m1_1017 (P : Params) : Obj := ⟨(.type "function"), none, (.func (f (top 127) "_law_codes_e" "_law_codes_e" 3 [] .none .none .none (s "law_signferry_k46_escapes_written" 2119) none (.ref 1016) .none 0)), #[]⟩
noncomputable def m1_1018 (P : Params) : Obj := ⟨(.type "tuple"), none, (.seq #[] 0), #[]⟩
noncomputable def m1_1019 (P : Params) : Obj := ⟨.none, none, (.fields #[]), #[]⟩
noncomputable def m1_1020 (P : Params) : Obj := ⟨(.type "tuple"), none, (.seq #[(s "_law_codes" 2197), (s "_law_is_raw" 2198), (s "_law_found" 2199), (s "_law_code" 2200)] 0), #[]⟩
noncomputable def m1_1021 (P : Params) : Obj := ⟨(.type "tuple"), none, (.seq #[] 0), #[]⟩
noncomputable def m1_1022 (P : Params) : Obj := ⟨.none, none, (.func (f (top 128) "_law_due" "_law_due" 0 [] .none .none .none .none none .none .none 0)), #[]⟩
noncomputable def m1_1023 (P : Params) : Obj := ⟨(.type "code"), none, (.fields #[(s "_law_due" 2194), (s "_law_due" 2195), (s "/claim/cut.py" 2196), (.int 664 0), (.int 2 0), (.int 0 0), (.int 0 0), (.int 3 0), (.ref 1018), (.bool true), (.int 181 0), (.ref 1019), .none, (.ref 1020), (.ref 1021), (.ref 1022), (.int 2201 0), (.int 664 0), (s "/claim/cut.py" 2202)]), #[]⟩
noncomputable def m1_1024 (P : Params) : Obj := ⟨(.type "function"), none, (.func (f (top 128) "_law_due" "_law_due" 3 [] .none .none .none (s "law_signferry_k46_escapes_written" 2119) none (.ref 1023) .none 0)), #[]⟩
noncomputable def m1_1025 (P : Params) : Obj := ⟨(.type "tuple"), none, (.seq #[] 0), #[]⟩
noncomputable def m1_1026 (P : Params) : Obj := ⟨.none, none, (.fields #[]), #[]⟩
noncomputable def m1_1027 (P : Params) : Obj := ⟨(.type "tuple"), none, (.seq #[(s "_law_source_here" 2207), (s "_law_is_raw" 2208), (s "_law_registry" 2209), (s "_law_codes" 2210), (s "_law_name" 2211), (s "_law_codec" 2212), (s "_law_due_here" 2213), (s "_law_time" 2214), (s "_law_handed_here" 2215), (s "_law_errors" 2216), (s "_law_encoder" 2217), (s "_law_place" 2218), (s "_law_piece" 2219)] 0), #[]⟩
noncomputable def m1_1028 (P : Params) : Obj := ⟨(.type "tuple"), none, (.seq #[] 0), #[]⟩
noncomputable def m1_1029 (P : Params) : Obj := ⟨.none, none, (.func (f (top 129) "_law_right" "_law_right" 0 [] .none .none .none .none none .none .none 0)), #[]⟩
noncomputable def m1_1030 (P : Params) : Obj := ⟨(.type "code"), none, (.fields #[(s "_law_right" 2204), (s "_law_right" 2205), (s "/claim/cut.py" 2206), (.int 669 0), (.int 2 0), (.int 0 0), (.int 0 0), (.int 3 0), (.ref 1025), (.bool true), (.int 181 0), (.ref 1026), .none, (.ref 1027), (.ref 1028), (.ref 1029), (.int 2220 0), (.int 669 0), (s "/claim/cut.py" 2221)]), #[]⟩
noncomputable def m1_1031 (P : Params) : Obj := ⟨(.type "function"), none, (.func (f (top 129) "_law_right" "_law_right" 3 [] .none .none .none (s "law_signferry_k46_escapes_written" 2119) none (.ref 1030) .none 0)), #[]⟩
noncomputable def m1_1032 (P : Params) : Obj := ⟨(.type "tuple"), none, (.seq #[] 0), #[]⟩
noncomputable def m1_1033 (P : Params) : Obj := ⟨.none, none, (.fields #[]), #[]⟩
noncomputable def m1_1034 (P : Params) : Obj := ⟨.none, none, (.func (f (top 130) "law" "law" 0 [] .none .none .none .none none .none .none 0)), #[]⟩
noncomputable def m1_1035 (P : Params) : Obj := ⟨(.type "code"), none, (.fields #[(s "law" 2223), (s "law" 2224), (s "/claim/cut.py" 2225), (.int 689 0), (.int 1 0), (.int 0 0), (.int 0 0), (.int 3 0), (.ref 1032), (.bool true), (.int 181 0), (.ref 1033), .none, .none, .none, (.ref 1034), (.int 2226 0), (.int 689 0), (s "/claim/cut.py" 2227)]), #[]⟩
noncomputable def m1_1036 (P : Params) : Obj := ⟨(.type "function"), none, (.func (f (top 130) "law" "law" 3 [] .none .none .none (s "law_signferry_k46_escapes_written" 2119) none (.ref 1035) .none 0)), #[]⟩
noncomputable def m1_T (P : Params) : BT := (.node (PySem.W.boot_o_0 P) (.node (PySem.W.boot_o_1 P) (.node (m1_3 P) (.node (PySem.W.boot_o_7 P) (.node (m0_15 P) (.node (m0_31 P) (.node (m0_63 P) (.node (m0_127 P) (.node (m0_255 P) (.node (m1_511 P) (.node (m1_1023 P) .nil .nil) .nil) (.node (m1_767 P) .nil .nil)) (.node (m0_383 P) (.node (m1_639 P) .nil .nil) (.node (m1_895 P) .nil .nil))) (.node (m0_191 P) (.node (m0_319 P) (.node (m1_575 P) .nil .nil) (.node (m1_831 P) .nil .nil)) (.node (m1_447 P) (.node (m1_703 P) .nil .nil) (.node (m1_959 P) .nil .nil)))) (.node (m0_95 P) (.node (m0_159 P) (.node (m0_287 P) (.node (m1_543 P) .nil .nil) (.node (m1_799 P) .nil .nil)) (.node (m0_415 P) (.node (m1_671 P) .nil .nil) (.node (m1_927 P) .nil .nil))) (.node (m0_223 P) (.node (m0_351 P) (.node (m1_607 P) .nil .nil) (.node (m1_863 P) .nil .nil)) (.node (m1_479 P) (.node (m1_735 P) .nil .nil) (.node (m1_991 P) .nil .nil))))) (.node (m0_47 P) (.node (m0_79 P) (.node (m0_143 P) (.node (m0_271 P) (.node (m1_527 P) .nil .nil) (.node (m1_783 P) .nil .nil)) (.node (m0_399 P) (.node (m1_655 P) .nil .nil) (.node (m1_911 P) .nil .nil))) (.node (m0_207 P) (.node (m0_335 P) (.node (m1_591 P) .nil .nil) (.node (m1_847 P) .nil .nil)) (.node (m1_463 P) (.node (m1_719 P) .nil .nil) (.node (m1_975 P) .nil .nil)))) (.node (m0_111 P) (.node (m0_175 P) (.node (m0_303 P) (.node (m1_559 P) .nil .nil) (.node (m1_815 P) .nil .nil)) (.node (m1_431 P) (.node (m1_687 P) .nil .nil) (.node (m1_943 P) .nil .nil))) (.node (m0_239 P) (.node (m0_367 P) (.node (m1_623 P) .nil .nil) (.node (m1_879 P) .nil .nil)) (.node (m1_495 P) (.node (m1_751 P) .nil .nil) (.node (m1_1007 P) .nil .nil)))))) (.node (m0_23 P) (.node (m0_39 P) (.node (m0_71 P) (.node (m0_135 P) (.node (m0_263 P) (.node (m1_519 P) (.node (m1_1031 P) .nil .nil) .nil) (.node (m1_775 P) .nil .nil)) (.node (m0_391 P) (.node (m1_647 P) .nil .nil) (.node (m1_903 P) .nil .nil))) (.node (m0_199 P) (.node (m0_327 P) (.node (m1_583 P) .nil .nil) (.node (m1_839 P) .nil .nil)) (.node (m1_455 P) (.node (m1_711 P) .nil .nil) (.node (m1_967 P) .nil .nil)))) (.node (m0_103 P) (.node (m0_167 P) (.node (m0_295 P) (.node (m1_551 P) .nil .nil) (.node (m1_807 P) .nil .nil)) (.node (m1_423 P) (.node (m1_679 P) .nil .nil) (.node (m1_935 P) .nil .nil))) (.node (m0_231 P) (.node (m0_359 P) (.node (m1_615 P) .nil .nil) (.node (m1_871 P) .nil .nil)) (.node (m1_487 P) (.node (m1_743 P) .nil .nil) (.node (m1_999 P) .nil .nil))))) (.node (m0_55 P) (.node (m0_87 P) (.node (m0_151 P) (.node (m0_279 P) (.node (m1_535 P) .nil .nil) (.node (m1_791 P) .nil .nil)) (.node (m0_407 P) (.node (m1_663 P) .nil .nil) (.node (m1_919 P) .nil .nil))) (.node (m0_215 P) (.node (m0_343 P) (.node (m1_599 P) .nil .nil) (.node (m1_855 P) .nil .nil)) (.node (m1_471 P) (.node (m1_727 P) .nil .nil) (.node (m1_983 P) .nil .nil)))) (.node (m0_119 P) (.node (m0_183 P) (.node (m0_311 P) (.node (m1_567 P) .nil .nil) (.node (m1_823 P) .nil .nil)) (.node (m1_439 P) (.node (m1_695 P) .nil .nil) (.node (m1_951 P) .nil .nil))) (.node (m0_247 P) (.node (m0_375 P) (.node (m1_631 P) .nil .nil) (.node (m1_887 P) .nil .nil)) (.node (m1_503 P) (.node (m1_759 P) .nil .nil) (.node (m1_1015 P) .nil .nil))))))) (.node (a11 P) (.node (m0_19 P) (.node (m0_35 P) (.node (m0_67 P) (.node (m0_131 P) (.node (m0_259 P) (.node (m1_515 P) (.node (m1_1027 P) .nil .nil) .nil) (.node (m1_771 P) .nil .nil)) (.node (m0_387 P) (.node (m1_643 P) .nil .nil) (.node (m1_899 P) .nil .nil))) (.node (m0_195 P) (.node (m0_323 P) (.node (m1_579 P) .nil .nil) (.node (m1_835 P) .nil .nil)) (.node (m1_451 P) (.node (m1_707 P) .nil .nil) (.node (m1_963 P) .nil .nil)))) (.node (m0_99 P) (.node (m0_163 P) (.node (m0_291 P) (.node (m1_547 P) .nil .nil) (.node (m1_803 P) .nil .nil)) (.node (m1_419 P) (.node (m1_675 P) .nil .nil) (.node (m1_931 P) .nil .nil))) (.node (m0_227 P) (.node (m0_355 P) (.node (m1_611 P) .nil .nil) (.node (m1_867 P) .nil .nil)) (.node (m1_483 P) (.node (m1_739 P) .nil .nil) (.node (m1_995 P) .nil .nil))))) (.node (m0_51 P) (.node (m0_83 P) (.node (m0_147 P) (.node (m0_275 P) (.node (m1_531 P) .nil .nil) (.node (m1_787 P) .nil .nil)) (.node (m0_403 P) (.node (m1_659 P) .nil .nil) (.node (m1_915 P) .nil .nil))) (.node (m0_211 P) (.node (m0_339 P) (.node (m1_595 P) .nil .nil) (.node (m1_851 P) .nil .nil)) (.node (m1_467 P) (.node (m1_723 P) .nil .nil) (.node (m1_979 P) .nil .nil)))) (.node (m0_115 P) (.node (m0_179 P) (.node (m0_307 P) (.node (m1_563 P) .nil .nil) (.node (m1_819 P) .nil .nil)) (.node (m1_435 P) (.node (m1_691 P) .nil .nil) (.node (m1_947 P) .nil .nil))) (.node (m0_243 P) (.node (m0_371 P) (.node (m1_627 P) .nil .nil) (.node (m1_883 P) .nil .nil)) (.node (m1_499 P) (.node (m1_755 P) .nil .nil) (.node (m1_1011 P) .nil .nil)))))) (.node (m0_27 P) (.node (m0_43 P) (.node (m0_75 P) (.node (m0_139 P) (.node (m0_267 P) (.node (m1_523 P) (.node (m1_1035 P) .nil .nil) .nil) (.node (m1_779 P) .nil .nil)) (.node (m0_395 P) (.node (m1_651 P) .nil .nil) (.node (m1_907 P) .nil .nil))) (.node (m0_203 P) (.node (m0_331 P) (.node (m1_587 P) .nil .nil) (.node (m1_843 P) .nil .nil)) (.node (m1_459 P) (.node (m1_715 P) .nil .nil) (.node (m1_971 P) .nil .nil)))) (.node (m0_107 P) (.node (m0_171 P) (.node (m0_299 P) (.node (m1_555 P) .nil .nil) (.node (m1_811 P) .nil .nil)) (.node (m1_427 P) (.node (m1_683 P) .nil .nil) (.node (m1_939 P) .nil .nil))) (.node (m0_235 P) (.node (m0_363 P) (.node (m1_619 P) .nil .nil) (.node (m1_875 P) .nil .nil)) (.node (m1_491 P) (.node (m1_747 P) .nil .nil) (.node (m1_1003 P) .nil .nil))))) (.node (m0_59 P) (.node (m0_91 P) (.node (m0_155 P) (.node (m0_283 P) (.node (m1_539 P) .nil .nil) (.node (m1_795 P) .nil .nil)) (.node (m0_411 P) (.node (m1_667 P) .nil .nil) (.node (m1_923 P) .nil .nil))) (.node (m0_219 P) (.node (m0_347 P) (.node (m1_603 P) .nil .nil) (.node (m1_859 P) .nil .nil)) (.node (m1_475 P) (.node (m1_731 P) .nil .nil) (.node (m1_987 P) .nil .nil)))) (.node (m0_123 P) (.node (m0_187 P) (.node (m0_315 P) (.node (m1_571 P) .nil .nil) (.node (m1_827 P) .nil .nil)) (.node (m1_443 P) (.node (m1_699 P) .nil .nil) (.node (m1_955 P) .nil .nil))) (.node (m0_251 P) (.node (m0_379 P) (.node (m1_635 P) .nil .nil) (.node (m1_891 P) .nil .nil)) (.node (m1_507 P) (.node (m1_763 P) .nil .nil) (.node (m1_1019 P) .nil .nil)))))))) (.node (PySem.W.boot_o_5 P) (.node (PySem.W.boot_o_9 P) (.node (m0_17 P) (.node (m0_33 P) (.node (m0_65 P) (.node (m0_129 P) (.node (m0_257 P) (.node (m1_513 P) (.node (m1_1025 P) .nil .nil) .nil) (.node (m1_769 P) .nil .nil)) (.node (m0_385 P) (.node (m1_641 P) .nil .nil) (.node (m1_897 P) .nil .nil))) (.node (m0_193 P) (.node (m0_321 P) (.node (m1_577 P) .nil .nil) (.node (m1_833 P) .nil .nil)) (.node (m1_449 P) (.node (m1_705 P) .nil .nil) (.node (m1_961 P) .nil .nil)))) (.node (m0_97 P) (.node (m0_161 P) (.node (m0_289 P) (.node (m1_545 P) .nil .nil) (.node (m1_801 P) .nil .nil)) (.node (m0_417 P) (.node (m1_673 P) .nil .nil) (.node (m1_929 P) .nil .nil))) (.node (m0_225 P) (.node (m0_353 P) (.node (m1_609 P) .nil .nil) (.node (m1_865 P) .nil .nil)) (.node (m1_481 P) (.node (m1_737 P) .nil .nil) (.node (m1_993 P) .nil .nil))))) (.node (m0_49 P) (.node (m0_81 P) (.node (m0_145 P) (.node (m0_273 P) (.node (m1_529 P) .nil .nil) (.node (m1_785 P) .nil .nil)) (.node (m0_401 P) (.node (m1_657 P) .nil .nil) (.node (m1_913 P) .nil .nil))) (.node (m0_209 P) (.node (m0_337 P) (.node (m1_593 P) .nil .nil) (.node (m1_849 P) .nil .nil)) (.node (m1_465 P) (.node (m1_721 P) .nil .nil) (.node (m1_977 P) .nil .nil)))) (.node (m0_113 P) (.node (m0_177 P) (.node (m0_305 P) (.node (m1_561 P) .nil .nil) (.node (m1_817 P) .nil .nil)) (.node (m1_433 P) (.node (m1_689 P) .nil .nil) (.node (m1_945 P) .nil .nil))) (.node (m0_241 P) (.node (m0_369 P) (.node (m1_625 P) .nil .nil) (.node (m1_881 P) .nil .nil)) (.node (m1_497 P) (.node (m1_753 P) .nil .nil) (.node (m1_1009 P) .nil .nil)))))) (.node (m0_25 P) (.node (m0_41 P) (.node (m0_73 P) (.node (m0_137 P) (.node (m0_265 P) (.node (m1_521 P) (.node (m1_1033 P) .nil .nil) .nil) (.node (m1_777 P) .nil .nil)) (.node (m0_393 P) (.node (m1_649 P) .nil .nil) (.node (m1_905 P) .nil .nil))) (.node (m0_201 P) (.node (m0_329 P) (.node (m1_585 P) .nil .nil) (.node (m1_841 P) .nil .nil)) (.node (m1_457 P) (.node (m1_713 P) .nil .nil) (.node (m1_969 P) .nil .nil)))) (.node (m0_105 P) (.node (m0_169 P) (.node (m0_297 P) (.node (m1_553 P) .nil .nil) (.node (m1_809 P) .nil .nil)) (.node (m1_425 P) (.node (m1_681 P) .nil .nil) (.node (m1_937 P) .nil .nil))) (.node (m0_233 P) (.node (m0_361 P) (.node (m1_617 P) .nil .nil) (.node (m1_873 P) .nil .nil)) (.node (m1_489 P) (.node (m1_745 P) .nil .nil) (.node (m1_1001 P) .nil .nil))))) (.node (m0_57 P) (.node (m0_89 P) (.node (m0_153 P) (.node (m0_281 P) (.node (m1_537 P) .nil .nil) (.node (m1_793 P) .nil .nil)) (.node (m0_409 P) (.node (m1_665 P) .nil .nil) (.node (m1_921 P) .nil .nil))) (.node (m0_217 P) (.node (m0_345 P) (.node (m1_601 P) .nil .nil) (.node (m1_857 P) .nil .nil)) (.node (m1_473 P) (.node (m1_729 P) .nil .nil) (.node (m1_985 P) .nil .nil)))) (.node (m0_121 P) (.node (m0_185 P) (.node (m0_313 P) (.node (m1_569 P) .nil .nil) (.node (m1_825 P) .nil .nil)) (.node (m1_441 P) (.node (m1_697 P) .nil .nil) (.node (m1_953 P) .nil .nil))) (.node (m0_249 P) (.node (m0_377 P) (.node (m1_633 P) .nil .nil) (.node (m1_889 P) .nil .nil)) (.node (m1_505 P) (.node (m1_761 P) .nil .nil) (.node (m1_1017 P) .nil .nil))))))) (.node (a13 P) (.node (m0_21 P) (.node (m0_37 P) (.node (m0_69 P) (.node (m0_133 P) (.node (m0_261 P) (.node (m1_517 P) (.node (m1_1029 P) .nil .nil) .nil) (.node (m1_773 P) .nil .nil)) (.node (m0_389 P) (.node (m1_645 P) .nil .nil) (.node (m1_901 P) .nil .nil))) (.node (m0_197 P) (.node (m0_325 P) (.node (m1_581 P) .nil .nil) (.node (m1_837 P) .nil .nil)) (.node (m1_453 P) (.node (m1_709 P) .nil .nil) (.node (m1_965 P) .nil .nil)))) (.node (m0_101 P) (.node (m0_165 P) (.node (m0_293 P) (.node (m1_549 P) .nil .nil) (.node (m1_805 P) .nil .nil)) (.node (m1_421 P) (.node (m1_677 P) .nil .nil) (.node (m1_933 P) .nil .nil))) (.node (m0_229 P) (.node (m0_357 P) (.node (m1_613 P) .nil .nil) (.node (m1_869 P) .nil .nil)) (.node (m1_485 P) (.node (m1_741 P) .nil .nil) (.node (m1_997 P) .nil .nil))))) (.node (m0_53 P) (.node (m0_85 P) (.node (m0_149 P) (.node (m0_277 P) (.node (m1_533 P) .nil .nil) (.node (m1_789 P) .nil .nil)) (.node (m0_405 P) (.node (m1_661 P) .nil .nil) (.node (m1_917 P) .nil .nil))) (.node (m0_213 P) (.node (m0_341 P) (.node (m1_597 P) .nil .nil) (.node (m1_853 P) .nil .nil)) (.node (m1_469 P) (.node (m1_725 P) .nil .nil) (.node (m1_981 P) .nil .nil)))) (.node (m0_117 P) (.node (m0_181 P) (.node (m0_309 P) (.node (m1_565 P) .nil .nil) (.node (m1_821 P) .nil .nil)) (.node (m1_437 P) (.node (m1_693 P) .nil .nil) (.node (m1_949 P) .nil .nil))) (.node (m0_245 P) (.node (m0_373 P) (.node (m1_629 P) .nil .nil) (.node (m1_885 P) .nil .nil)) (.node (m1_501 P) (.node (m1_757 P) .nil .nil) (.node (m1_1013 P) .nil .nil)))))) (.node (m0_29 P) (.node (m0_45 P) (.node (m0_77 P) (.node (m0_141 P) (.node (m0_269 P) (.node (m1_525 P) .nil .nil) (.node (m1_781 P) .nil .nil)) (.node (m0_397 P) (.node (m1_653 P) .nil .nil) (.node (m1_909 P) .nil .nil))) (.node (m0_205 P) (.node (m0_333 P) (.node (m1_589 P) .nil .nil) (.node (m1_845 P) .nil .nil)) (.node (m1_461 P) (.node (m1_717 P) .nil .nil) (.node (m1_973 P) .nil .nil)))) (.node (m0_109 P) (.node (m0_173 P) (.node (m0_301 P) (.node (m1_557 P) .nil .nil) (.node (m1_813 P) .nil .nil)) (.node (m1_429 P) (.node (m1_685 P) .nil .nil) (.node (m1_941 P) .nil .nil))) (.node (m0_237 P) (.node (m0_365 P) (.node (m1_621 P) .nil .nil) (.node (m1_877 P) .nil .nil)) (.node (m1_493 P) (.node (m1_749 P) .nil .nil) (.node (m1_1005 P) .nil .nil))))) (.node (m0_61 P) (.node (m0_93 P) (.node (m0_157 P) (.node (m0_285 P) (.node (m1_541 P) .nil .nil) (.node (m1_797 P) .nil .nil)) (.node (m0_413 P) (.node (m1_669 P) .nil .nil) (.node (m1_925 P) .nil .nil))) (.node (m0_221 P) (.node (m0_349 P) (.node (m1_605 P) .nil .nil) (.node (m1_861 P) .nil .nil)) (.node (m1_477 P) (.node (m1_733 P) .nil .nil) (.node (m1_989 P) .nil .nil)))) (.node (m0_125 P) (.node (m0_189 P) (.node (m0_317 P) (.node (m1_573 P) .nil .nil) (.node (m1_829 P) .nil .nil)) (.node (m1_445 P) (.node (m1_701 P) .nil .nil) (.node (m1_957 P) .nil .nil))) (.node (m0_253 P) (.node (m0_381 P) (.node (m1_637 P) .nil .nil) (.node (m1_893 P) .nil .nil)) (.node (m1_509 P) (.node (m1_765 P) .nil .nil) (.node (m1_1021 P) .nil .nil))))))))) (.node (PySem.W.boot_o_2 P) (.node (PySem.W.boot_o_4 P) (.node (PySem.W.boot_o_8 P) (.node (m0_16 P) (.node (m0_32 P) (.node (m0_64 P) (.node (m0_128 P) (.node (m0_256 P) (.node (m1_512 P) (.node (m1_1024 P) .nil .nil) .nil) (.node (m1_768 P) .nil .nil)) (.node (m0_384 P) (.node (m1_640 P) .nil .nil) (.node (m1_896 P) .nil .nil))) (.node (m0_192 P) (.node (m0_320 P) (.node (m1_576 P) .nil .nil) (.node (m1_832 P) .nil .nil)) (.node (m1_448 P) (.node (m1_704 P) .nil .nil) (.node (m1_960 P) .nil .nil)))) (.node (m0_96 P) (.node (m0_160 P) (.node (m0_288 P) (.node (m1_544 P) .nil .nil) (.node (m1_800 P) .nil .nil)) (.node (m0_416 P) (.node (m1_672 P) .nil .nil) (.node (m1_928 P) .nil .nil))) (.node (m0_224 P) (.node (m0_352 P) (.node (m1_608 P) .nil .nil) (.node (m1_864 P) .nil .nil)) (.node (m1_480 P) (.node (m1_736 P) .nil .nil) (.node (m1_992 P) .nil .nil))))) (.node (m0_48 P) (.node (m0_80 P) (.node (m0_144 P) (.node (m0_272 P) (.node (m1_528 P) .nil .nil) (.node (m1_784 P) .nil .nil)) (.node (m0_400 P) (.node (m1_656 P) .nil .nil) (.node (m1_912 P) .nil .nil))) (.node (m0_208 P) (.node (m0_336 P) (.node (m1_592 P) .nil .nil) (.node (m1_848 P) .nil .nil)) (.node (m1_464 P) (.node (m1_720 P) .nil .nil) (.node (m1_976 P) .nil .nil)))) (.node (m0_112 P) (.node (m0_176 P) (.node (m0_304 P) (.node (m1_560 P) .nil .nil) (.node (m1_816 P) .nil .nil)) (.node (m1_432 P) (.node (m1_688 P) .nil .nil) (.node (m1_944 P) .nil .nil))) (.node (m0_240 P) (.node (m0_368 P) (.node (m1_624 P) .nil .nil) (.node (m1_880 P) .nil .nil)) (.node (m1_496 P) (.node (m1_752 P) .nil .nil) (.node (m1_1008 P) .nil .nil)))))) (.node (m0_24 P) (.node (m0_40 P) (.node (m0_72 P) (.node (m0_136 P) (.node (m0_264 P) (.node (m1_520 P) (.node (m1_1032 P) .nil .nil) .nil) (.node (m1_776 P) .nil .nil)) (.node (m0_392 P) (.node (m1_648 P) .nil .nil) (.node (m1_904 P) .nil .nil))) (.node (m0_200 P) (.node (m0_328 P) (.node (m1_584 P) .nil .nil) (.node (m1_840 P) .nil .nil)) (.node (m1_456 P) (.node (m1_712 P) .nil .nil) (.node (m1_968 P) .nil .nil)))) (.node (m0_104 P) (.node (m0_168 P) (.node (m0_296 P) (.node (m1_552 P) .nil .nil) (.node (m1_808 P) .nil .nil)) (.node (m1_424 P) (.node (m1_680 P) .nil .nil) (.node (m1_936 P) .nil .nil))) (.node (m0_232 P) (.node (m0_360 P) (.node (m1_616 P) .nil .nil) (.node (m1_872 P) .nil .nil)) (.node (m1_488 P) (.node (m1_744 P) .nil .nil) (.node (m1_1000 P) .nil .nil))))) (.node (m0_56 P) (.node (m0_88 P) (.node (m0_152 P) (.node (m0_280 P) (.node (m1_536 P) .nil .nil) (.node (m1_792 P) .nil .nil)) (.node (m0_408 P) (.node (m1_664 P) .nil .nil) (.node (m1_920 P) .nil .nil))) (.node (m0_216 P) (.node (m0_344 P) (.node (m1_600 P) .nil .nil) (.node (m1_856 P) .nil .nil)) (.node (m1_472 P) (.node (m1_728 P) .nil .nil) (.node (m1_984 P) .nil .nil)))) (.node (m0_120 P) (.node (m0_184 P) (.node (m0_312 P) (.node (m1_568 P) .nil .nil) (.node (m1_824 P) .nil .nil)) (.node (m1_440 P) (.node (m1_696 P) .nil .nil) (.node (m1_952 P) .nil .nil))) (.node (m0_248 P) (.node (m0_376 P) (.node (m1_632 P) .nil .nil) (.node (m1_888 P) .nil .nil)) (.node (m1_504 P) (.node (m1_760 P) .nil .nil) (.node (m1_1016 P) .nil .nil))))))) (.node (m1_12 P) (.node (m0_20 P) (.node (m0_36 P) (.node (m0_68 P) (.node (m0_132 P) (.node (m0_260 P) (.node (m1_516 P) (.node (m1_1028 P) .nil .nil) .nil) (.node (m1_772 P) .nil .nil)) (.node (m0_388 P) (.node (m1_644 P) .nil .nil) (.node (m1_900 P) .nil .nil))) (.node (m0_196 P) (.node (m0_324 P) (.node (m1_580 P) .nil .nil) (.node (m1_836 P) .nil .nil)) (.node (m1_452 P) (.node (m1_708 P) .nil .nil) (.node (m1_964 P) .nil .nil)))) (.node (m0_100 P) (.node (m0_164 P) (.node (m0_292 P) (.node (m1_548 P) .nil .nil) (.node (m1_804 P) .nil .nil)) (.node (m1_420 P) (.node (m1_676 P) .nil .nil) (.node (m1_932 P) .nil .nil))) (.node (m0_228 P) (.node (m0_356 P) (.node (m1_612 P) .nil .nil) (.node (m1_868 P) .nil .nil)) (.node (m1_484 P) (.node (m1_740 P) .nil .nil) (.node (m1_996 P) .nil .nil))))) (.node (m0_52 P) (.node (m0_84 P) (.node (m0_148 P) (.node (m0_276 P) (.node (m1_532 P) .nil .nil) (.node (m1_788 P) .nil .nil)) (.node (m0_404 P) (.node (m1_660 P) .nil .nil) (.node (m1_916 P) .nil .nil))) (.node (m0_212 P) (.node (m0_340 P) (.node (m1_596 P) .nil .nil) (.node (m1_852 P) .nil .nil)) (.node (m1_468 P) (.node (m1_724 P) .nil .nil) (.node (m1_980 P) .nil .nil)))) (.node (m0_116 P) (.node (m0_180 P) (.node (m0_308 P) (.node (m1_564 P) .nil .nil) (.node (m1_820 P) .nil .nil)) (.node (m1_436 P) (.node (m1_692 P) .nil .nil) (.node (m1_948 P) .nil .nil))) (.node (m0_244 P) (.node (m0_372 P) (.node (m1_628 P) .nil .nil) (.node (m1_884 P) .nil .nil)) (.node (m1_500 P) (.node (m1_756 P) .nil .nil) (.node (m1_1012 P) .nil .nil)))))) (.node (m0_28 P) (.node (m0_44 P) (.node (m0_76 P) (.node (m0_140 P) (.node (m0_268 P) (.node (m1_524 P) (.node (m1_1036 P) .nil .nil) .nil) (.node (m1_780 P) .nil .nil)) (.node (m0_396 P) (.node (m1_652 P) .nil .nil) (.node (m1_908 P) .nil .nil))) (.node (m0_204 P) (.node (m0_332 P) (.node (m1_588 P) .nil .nil) (.node (m1_844 P) .nil .nil)) (.node (m1_460 P) (.node (m1_716 P) .nil .nil) (.node (m1_972 P) .nil .nil)))) (.node (m0_108 P) (.node (m0_172 P) (.node (m0_300 P) (.node (m1_556 P) .nil .nil) (.node (m1_812 P) .nil .nil)) (.node (m1_428 P) (.node (m1_684 P) .nil .nil) (.node (m1_940 P) .nil .nil))) (.node (m0_236 P) (.node (m0_364 P) (.node (m1_620 P) .nil .nil) (.node (m1_876 P) .nil .nil)) (.node (m1_492 P) (.node (m1_748 P) .nil .nil) (.node (m1_1004 P) .nil .nil))))) (.node (m0_60 P) (.node (m0_92 P) (.node (m0_156 P) (.node (m0_284 P) (.node (m1_540 P) .nil .nil) (.node (m1_796 P) .nil .nil)) (.node (m0_412 P) (.node (m1_668 P) .nil .nil) (.node (m1_924 P) .nil .nil))) (.node (m0_220 P) (.node (m0_348 P) (.node (m1_604 P) .nil .nil) (.node (m1_860 P) .nil .nil)) (.node (m1_476 P) (.node (m1_732 P) .nil .nil) (.node (m1_988 P) .nil .nil)))) (.node (m0_124 P) (.node (m0_188 P) (.node (m0_316 P) (.node (m1_572 P) .nil .nil) (.node (m1_828 P) .nil .nil)) (.node (m1_444 P) (.node (m1_700 P) .nil .nil) (.node (m1_956 P) .nil .nil))) (.node (m0_252 P) (.node (m0_380 P) (.node (m1_636 P) .nil .nil) (.node (m1_892 P) .nil .nil)) (.node (m1_508 P) (.node (m1_764 P) .nil .nil) (.node (m1_1020 P) .nil .nil)))))))) (.node (PySem.W.boot_o_6 P) (.node (PySem.W.boot_o_10 P) (.node (m0_18 P) (.node (m0_34 P) (.node (m0_66 P) (.node (m0_130 P) (.node (m0_258 P) (.node (m1_514 P) (.node (m1_1026 P) .nil .nil) .nil) (.node (m1_770 P) .nil .nil)) (.node (m0_386 P) (.node (m1_642 P) .nil .nil) (.node (m1_898 P) .nil .nil))) (.node (m0_194 P) (.node (m0_322 P) (.node (m1_578 P) .nil .nil) (.node (m1_834 P) .nil .nil)) (.node (m1_450 P) (.node (m1_706 P) .nil .nil) (.node (m1_962 P) .nil .nil)))) (.node (m0_98 P) (.node (m0_162 P) (.node (m0_290 P) (.node (m1_546 P) .nil .nil) (.node (m1_802 P) .nil .nil)) (.node (m1_418 P) (.node (m1_674 P) .nil .nil) (.node (m1_930 P) .nil .nil))) (.node (m0_226 P) (.node (m0_354 P) (.node (m1_610 P) .nil .nil) (.node (m1_866 P) .nil .nil)) (.node (m1_482 P) (.node (m1_738 P) .nil .nil) (.node (m1_994 P) .nil .nil))))) (.node (m0_50 P) (.node (m0_82 P) (.node (m0_146 P) (.node (m0_274 P) (.node (m1_530 P) .nil .nil) (.node (m1_786 P) .nil .nil)) (.node (m0_402 P) (.node (m1_658 P) .nil .nil) (.node (m1_914 P) .nil .nil))) (.node (m0_210 P) (.node (m0_338 P) (.node (m1_594 P) .nil .nil) (.node (m1_850 P) .nil .nil)) (.node (m1_466 P) (.node (m1_722 P) .nil .nil) (.node (m1_978 P) .nil .nil)))) (.node (m0_114 P) (.node (m0_178 P) (.node (m0_306 P) (.node (m1_562 P) .nil .nil) (.node (m1_818 P) .nil .nil)) (.node (m1_434 P) (.node (m1_690 P) .nil .nil) (.node (m1_946 P) .nil .nil))) (.node (m0_242 P) (.node (m0_370 P) (.node (m1_626 P) .nil .nil) (.node (m1_882 P) .nil .nil)) (.node (m1_498 P) (.node (m1_754 P) .nil .nil) (.node (m1_1010 P) .nil .nil)))))) (.node (m0_26 P) (.node (m0_42 P) (.node (m0_74 P) (.node (m0_138 P) (.node (m0_266 P) (.node (m1_522 P) (.node (m1_1034 P) .nil .nil) .nil) (.node (m1_778 P) .nil .nil)) (.node (m0_394 P) (.node (m1_650 P) .nil .nil) (.node (m1_906 P) .nil .nil))) (.node (m0_202 P) (.node (m0_330 P) (.node (m1_586 P) .nil .nil) (.node (m1_842 P) .nil .nil)) (.node (m1_458 P) (.node (m1_714 P) .nil .nil) (.node (m1_970 P) .nil .nil)))) (.node (m0_106 P) (.node (m0_170 P) (.node (m0_298 P) (.node (m1_554 P) .nil .nil) (.node (m1_810 P) .nil .nil)) (.node (m1_426 P) (.node (m1_682 P) .nil .nil) (.node (m1_938 P) .nil .nil))) (.node (m0_234 P) (.node (m0_362 P) (.node (m1_618 P) .nil .nil) (.node (m1_874 P) .nil .nil)) (.node (m1_490 P) (.node (m1_746 P) .nil .nil) (.node (m1_1002 P) .nil .nil))))) (.node (m0_58 P) (.node (m0_90 P) (.node (m0_154 P) (.node (m0_282 P) (.node (m1_538 P) .nil .nil) (.node (m1_794 P) .nil .nil)) (.node (m0_410 P) (.node (m1_666 P) .nil .nil) (.node (m1_922 P) .nil .nil))) (.node (m0_218 P) (.node (m0_346 P) (.node (m1_602 P) .nil .nil) (.node (m1_858 P) .nil .nil)) (.node (m1_474 P) (.node (m1_730 P) .nil .nil) (.node (m1_986 P) .nil .nil)))) (.node (m0_122 P) (.node (m0_186 P) (.node (m0_314 P) (.node (m1_570 P) .nil .nil) (.node (m1_826 P) .nil .nil)) (.node (m1_442 P) (.node (m1_698 P) .nil .nil) (.node (m1_954 P) .nil .nil))) (.node (m0_250 P) (.node (m0_378 P) (.node (m1_634 P) .nil .nil) (.node (m1_890 P) .nil .nil)) (.node (m1_506 P) (.node (m1_762 P) .nil .nil) (.node (m1_1018 P) .nil .nil))))))) (.node (a14 P) (.node (m0_22 P) (.node (m0_38 P) (.node (m0_70 P) (.node (m0_134 P) (.node (m0_262 P) (.node (m1_518 P) (.node (m1_1030 P) .nil .nil) .nil) (.node (m1_774 P) .nil .nil)) (.node (m0_390 P) (.node (m1_646 P) .nil .nil) (.node (m1_902 P) .nil .nil))) (.node (m0_198 P) (.node (m0_326 P) (.node (m1_582 P) .nil .nil) (.node (m1_838 P) .nil .nil)) (.node (m1_454 P) (.node (m1_710 P) .nil .nil) (.node (m1_966 P) .nil .nil)))) (.node (m0_102 P) (.node (m0_166 P) (.node (m0_294 P) (.node (m1_550 P) .nil .nil) (.node (m1_806 P) .nil .nil)) (.node (m1_422 P) (.node (m1_678 P) .nil .nil) (.node (m1_934 P) .nil .nil))) (.node (m0_230 P) (.node (m0_358 P) (.node (m1_614 P) .nil .nil) (.node (m1_870 P) .nil .nil)) (.node (m1_486 P) (.node (m1_742 P) .nil .nil) (.node (m1_998 P) .nil .nil))))) (.node (m0_54 P) (.node (m0_86 P) (.node (m0_150 P) (.node (m0_278 P) (.node (m1_534 P) .nil .nil) (.node (m1_790 P) .nil .nil)) (.node (m0_406 P) (.node (m1_662 P) .nil .nil) (.node (m1_918 P) .nil .nil))) (.node (m0_214 P) (.node (m0_342 P) (.node (m1_598 P) .nil .nil) (.node (m1_854 P) .nil .nil)) (.node (m1_470 P) (.node (m1_726 P) .nil .nil) (.node (m1_982 P) .nil .nil)))) (.node (m0_118 P) (.node (m0_182 P) (.node (m0_310 P) (.node (m1_566 P) .nil .nil) (.node (m1_822 P) .nil .nil)) (.node (m1_438 P) (.node (m1_694 P) .nil .nil) (.node (m1_950 P) .nil .nil))) (.node (m0_246 P) (.node (m0_374 P) (.node (m1_630 P) .nil .nil) (.node (m1_886 P) .nil .nil)) (.node (m1_502 P) (.node (m1_758 P) .nil .nil) (.node (m1_1014 P) .nil .nil)))))) (.node (m0_30 P) (.node (m0_46 P) (.node (m0_78 P) (.node (m0_142 P) (.node (m0_270 P) (.node (m1_526 P) .nil .nil) (.node (m1_782 P) .nil .nil)) (.node (m0_398 P) (.node (m1_654 P) .nil .nil) (.node (m1_910 P) .nil .nil))) (.node (m0_206 P) (.node (m0_334 P) (.node (m1_590 P) .nil .nil) (.node (m1_846 P) .nil .nil)) (.node (m1_462 P) (.node (m1_718 P) .nil .nil) (.node (m1_974 P) .nil .nil)))) (.node (m0_110 P) (.node (m0_174 P) (.node (m0_302 P) (.node (m1_558 P) .nil .nil) (.node (m1_814 P) .nil .nil)) (.node (m1_430 P) (.node (m1_686 P) .nil .nil) (.node (m1_942 P) .nil .nil))) (.node (m0_238 P) (.node (m0_366 P) (.node (m1_622 P) .nil .nil) (.node (m1_878 P) .nil .nil)) (.node (m1_494 P) (.node (m1_750 P) .nil .nil) (.node (m1_1006 P) .nil .nil))))) (.node (m0_62 P) (.node (m0_94 P) (.node (m0_158 P) (.node (m0_286 P) (.node (m1_542 P) .nil .nil) (.node (m1_798 P) .nil .nil)) (.node (m0_414 P) (.node (m1_670 P) .nil .nil) (.node (m1_926 P) .nil .nil))) (.node (m0_222 P) (.node (m0_350 P) (.node (m1_606 P) .nil .nil) (.node (m1_862 P) .nil .nil)) (.node (m1_478 P) (.node (m1_734 P) .nil .nil) (.node (m1_990 P) .nil .nil)))) (.node (m0_126 P) (.node (m0_190 P) (.node (m0_318 P) (.node (m1_574 P) .nil .nil) (.node (m1_830 P) .nil .nil)) (.node (m1_446 P) (.node (m1_702 P) .nil .nil) (.node (m1_958 P) .nil .nil))) (.node (m0_254 P) (.node (m0_382 P) (.node (m1_638 P) .nil .nil) (.node (m1_894 P) .nil .nil)) (.node (m1_510 P) (.node (m1_766 P) .nil .nil) (.node (m1_1022 P) .nil .nil))))))))))
noncomputable def m1_S (w : World) (os : OsState) : SharedT := ⟨m1_T w.params, 1037, { }, #[], {}, 2229, os⟩
noncomputable def fT (P : Params) : BT := (.node (PySem.W.boot_o_0 P) (.node (PySem.W.boot_o_1 P) (.node (m1_3 P) (.node (PySem.W.boot_o_7 P) (.node (m0_15 P) (.node (m0_31 P) (.node (m0_63 P) (.node (m0_127 P) (.node (m0_255 P) (.node (m1_511 P) (.node (m1_1023 P) .nil .nil) .nil) (.node (m1_767 P) .nil .nil)) (.node (m0_383 P) (.node (m1_639 P) .nil .nil) (.node (m1_895 P) .nil .nil))) (.node (m0_191 P) (.node (m0_319 P) (.node (m1_575 P) .nil .nil) (.node (m1_831 P) .nil .nil)) (.node (m1_447 P) (.node (m1_703 P) .nil .nil) (.node (m1_959 P) .nil .nil)))) (.node (m0_95 P) (.node (m0_159 P) (.node (m0_287 P) (.node (m1_543 P) .nil .nil) (.node (m1_799 P) .nil .nil)) (.node (m0_415 P) (.node (m1_671 P) .nil .nil) (.node (m1_927 P) .nil .nil))) (.node (m0_223 P) (.node (m0_351 P) (.node (m1_607 P) .nil .nil) (.node (m1_863 P) .nil .nil)) (.node (m1_479 P) (.node (m1_735 P) .nil .nil) (.node (m1_991 P) .nil .nil))))) (.node (m0_47 P) (.node (m0_79 P) (.node (m0_143 P) (.node (m0_271 P) (.node (m1_527 P) .nil .nil) (.node (m1_783 P) .nil .nil)) (.node (m0_399 P) (.node (m1_655 P) .nil .nil) (.node (m1_911 P) .nil .nil))) (.node (m0_207 P) (.node (m0_335 P) (.node (m1_591 P) .nil .nil) (.node (m1_847 P) .nil .nil)) (.node (m1_463 P) (.node (m1_719 P) .nil .nil) (.node (m1_975 P) .nil .nil)))) (.node (m0_111 P) (.node (m0_175 P) (.node (m0_303 P) (.node (m1_559 P) .nil .nil) (.node (m1_815 P) .nil .nil)) (.node (m1_431 P) (.node (m1_687 P) .nil .nil) (.node (m1_943 P) .nil .nil))) (.node (m0_239 P) (.node (m0_367 P) (.node (m1_623 P) .nil .nil) (.node (m1_879 P) .nil .nil)) (.node (m1_495 P) (.node (m1_751 P) .nil .nil) (.node (m1_1007 P) .nil .nil)))))) (.node (m0_23 P) (.node (m0_39 P) (.node (m0_71 P) (.node (m0_135 P) (.node (m0_263 P) (.node (m1_519 P) (.node (m1_1031 P) .nil .nil) .nil) (.node (m1_775 P) .nil .nil)) (.node (m0_391 P) (.node (m1_647 P) .nil .nil) (.node (m1_903 P) .nil .nil))) (.node (m0_199 P) (.node (m0_327 P) (.node (m1_583 P) .nil .nil) (.node (m1_839 P) .nil .nil)) (.node (m1_455 P) (.node (m1_711 P) .nil .nil) (.node (m1_967 P) .nil .nil)))) (.node (m0_103 P) (.node (m0_167 P) (.node (m0_295 P) (.node (m1_551 P) .nil .nil) (.node (m1_807 P) .nil .nil)) (.node (m1_423 P) (.node (m1_679 P) .nil .nil) (.node (m1_935 P) .nil .nil))) (.node (m0_231 P) (.node (m0_359 P) (.node (m1_615 P) .nil .nil) (.node (m1_871 P) .nil .nil)) (.node (m1_487 P) (.node (m1_743 P) .nil .nil) (.node (m1_999 P) .nil .nil))))) (.node (m0_55 P) (.node (m0_87 P) (.node (m0_151 P) (.node (m0_279 P) (.node (m1_535 P) .nil .nil) (.node (m1_791 P) .nil .nil)) (.node (m0_407 P) (.node (m1_663 P) .nil .nil) (.node (m1_919 P) .nil .nil))) (.node (m0_215 P) (.node (m0_343 P) (.node (m1_599 P) .nil .nil) (.node (m1_855 P) .nil .nil)) (.node (m1_471 P) (.node (m1_727 P) .nil .nil) (.node (m1_983 P) .nil .nil)))) (.node (m0_119 P) (.node (m0_183 P) (.node (m0_311 P) (.node (m1_567 P) .nil .nil) (.node (m1_823 P) .nil .nil)) (.node (m1_439 P) (.node (m1_695 P) .nil .nil) (.node (m1_951 P) .nil .nil))) (.node (m0_247 P) (.node (m0_375 P) (.node (m1_631 P) .nil .nil) (.node (m1_887 P) .nil .nil)) (.node (m1_503 P) (.node (m1_759 P) .nil .nil) (.node (m1_1015 P) .nil .nil))))))) (.node (a11 P) (.node (m0_19 P) (.node (m0_35 P) (.node (m0_67 P) (.node (m0_131 P) (.node (m0_259 P) (.node (m1_515 P) (.node (m1_1027 P) .nil .nil) .nil) (.node (m1_771 P) .nil .nil)) (.node (m0_387 P) (.node (m1_643 P) .nil .nil) (.node (m1_899 P) .nil .nil))) (.node (m0_195 P) (.node (m0_323 P) (.node (m1_579 P) .nil .nil) (.node (m1_835 P) .nil .nil)) (.node (m1_451 P) (.node (m1_707 P) .nil .nil) (.node (m1_963 P) .nil .nil)))) (.node (m0_99 P) (.node (m0_163 P) (.node (m0_291 P) (.node (m1_547 P) .nil .nil) (.node (m1_803 P) .nil .nil)) (.node (m1_419 P) (.node (m1_675 P) .nil .nil) (.node (m1_931 P) .nil .nil))) (.node (m0_227 P) (.node (m0_355 P) (.node (m1_611 P) .nil .nil) (.node (m1_867 P) .nil .nil)) (.node (m1_483 P) (.node (m1_739 P) .nil .nil) (.node (m1_995 P) .nil .nil))))) (.node (m0_51 P) (.node (m0_83 P) (.node (m0_147 P) (.node (m0_275 P) (.node (m1_531 P) .nil .nil) (.node (m1_787 P) .nil .nil)) (.node (m0_403 P) (.node (m1_659 P) .nil .nil) (.node (m1_915 P) .nil .nil))) (.node (m0_211 P) (.node (m0_339 P) (.node (m1_595 P) .nil .nil) (.node (m1_851 P) .nil .nil)) (.node (m1_467 P) (.node (m1_723 P) .nil .nil) (.node (m1_979 P) .nil .nil)))) (.node (m0_115 P) (.node (m0_179 P) (.node (m0_307 P) (.node (m1_563 P) .nil .nil) (.node (m1_819 P) .nil .nil)) (.node (m1_435 P) (.node (m1_691 P) .nil .nil) (.node (m1_947 P) .nil .nil))) (.node (m0_243 P) (.node (m0_371 P) (.node (m1_627 P) .nil .nil) (.node (m1_883 P) .nil .nil)) (.node (m1_499 P) (.node (m1_755 P) .nil .nil) (.node (m1_1011 P) .nil .nil)))))) (.node (m0_27 P) (.node (m0_43 P) (.node (m0_75 P) (.node (m0_139 P) (.node (m0_267 P) (.node (m1_523 P) (.node (m1_1035 P) .nil .nil) .nil) (.node (m1_779 P) .nil .nil)) (.node (m0_395 P) (.node (m1_651 P) .nil .nil) (.node (m1_907 P) .nil .nil))) (.node (m0_203 P) (.node (m0_331 P) (.node (m1_587 P) .nil .nil) (.node (m1_843 P) .nil .nil)) (.node (m1_459 P) (.node (m1_715 P) .nil .nil) (.node (m1_971 P) .nil .nil)))) (.node (m0_107 P) (.node (m0_171 P) (.node (m0_299 P) (.node (m1_555 P) .nil .nil) (.node (m1_811 P) .nil .nil)) (.node (m1_427 P) (.node (m1_683 P) .nil .nil) (.node (m1_939 P) .nil .nil))) (.node (m0_235 P) (.node (m0_363 P) (.node (m1_619 P) .nil .nil) (.node (m1_875 P) .nil .nil)) (.node (m1_491 P) (.node (m1_747 P) .nil .nil) (.node (m1_1003 P) .nil .nil))))) (.node (m0_59 P) (.node (m0_91 P) (.node (m0_155 P) (.node (m0_283 P) (.node (m1_539 P) .nil .nil) (.node (m1_795 P) .nil .nil)) (.node (m0_411 P) (.node (m1_667 P) .nil .nil) (.node (m1_923 P) .nil .nil))) (.node (m0_219 P) (.node (m0_347 P) (.node (m1_603 P) .nil .nil) (.node (m1_859 P) .nil .nil)) (.node (m1_475 P) (.node (m1_731 P) .nil .nil) (.node (m1_987 P) .nil .nil)))) (.node (m0_123 P) (.node (m0_187 P) (.node (m0_315 P) (.node (m1_571 P) .nil .nil) (.node (m1_827 P) .nil .nil)) (.node (m1_443 P) (.node (m1_699 P) .nil .nil) (.node (m1_955 P) .nil .nil))) (.node (m0_251 P) (.node (m0_379 P) (.node (m1_635 P) .nil .nil) (.node (m1_891 P) .nil .nil)) (.node (m1_507 P) (.node (m1_763 P) .nil .nil) (.node (m1_1019 P) .nil .nil)))))))) (.node (PySem.W.boot_o_5 P) (.node (PySem.W.boot_o_9 P) (.node (m0_17 P) (.node (m0_33 P) (.node (m0_65 P) (.node (m0_129 P) (.node (m0_257 P) (.node (m1_513 P) (.node (m1_1025 P) .nil .nil) .nil) (.node (m1_769 P) .nil .nil)) (.node (m0_385 P) (.node (m1_641 P) .nil .nil) (.node (m1_897 P) .nil .nil))) (.node (m0_193 P) (.node (m0_321 P) (.node (m1_577 P) .nil .nil) (.node (m1_833 P) .nil .nil)) (.node (m1_449 P) (.node (m1_705 P) .nil .nil) (.node (m1_961 P) .nil .nil)))) (.node (m0_97 P) (.node (m0_161 P) (.node (m0_289 P) (.node (m1_545 P) .nil .nil) (.node (m1_801 P) .nil .nil)) (.node (m0_417 P) (.node (m1_673 P) .nil .nil) (.node (m1_929 P) .nil .nil))) (.node (m0_225 P) (.node (m0_353 P) (.node (m1_609 P) .nil .nil) (.node (m1_865 P) .nil .nil)) (.node (m1_481 P) (.node (m1_737 P) .nil .nil) (.node (m1_993 P) .nil .nil))))) (.node (m0_49 P) (.node (m0_81 P) (.node (m0_145 P) (.node (m0_273 P) (.node (m1_529 P) .nil .nil) (.node (m1_785 P) .nil .nil)) (.node (m0_401 P) (.node (m1_657 P) .nil .nil) (.node (m1_913 P) .nil .nil))) (.node (m0_209 P) (.node (m0_337 P) (.node (m1_593 P) .nil .nil) (.node (m1_849 P) .nil .nil)) (.node (m1_465 P) (.node (m1_721 P) .nil .nil) (.node (m1_977 P) .nil .nil)))) (.node (m0_113 P) (.node (m0_177 P) (.node (m0_305 P) (.node (m1_561 P) .nil .nil) (.node (m1_817 P) .nil .nil)) (.node (m1_433 P) (.node (m1_689 P) .nil .nil) (.node (m1_945 P) .nil .nil))) (.node (m0_241 P) (.node (m0_369 P) (.node (m1_625 P) .nil .nil) (.node (m1_881 P) .nil .nil)) (.node (m1_497 P) (.node (m1_753 P) .nil .nil) (.node (m1_1009 P) .nil .nil)))))) (.node (m0_25 P) (.node (m0_41 P) (.node (m0_73 P) (.node (m0_137 P) (.node (m0_265 P) (.node (m1_521 P) (.node (m1_1033 P) .nil .nil) .nil) (.node (m1_777 P) .nil .nil)) (.node (m0_393 P) (.node (m1_649 P) .nil .nil) (.node (m1_905 P) .nil .nil))) (.node (m0_201 P) (.node (m0_329 P) (.node (m1_585 P) .nil .nil) (.node (m1_841 P) .nil .nil)) (.node (m1_457 P) (.node (m1_713 P) .nil .nil) (.node (m1_969 P) .nil .nil)))) (.node (m0_105 P) (.node (m0_169 P) (.node (m0_297 P) (.node (m1_553 P) .nil .nil) (.node (m1_809 P) .nil .nil)) (.node (m1_425 P) (.node (m1_681 P) .nil .nil) (.node (m1_937 P) .nil .nil))) (.node (m0_233 P) (.node (m0_361 P) (.node (m1_617 P) .nil .nil) (.node (m1_873 P) .nil .nil)) (.node (m1_489 P) (.node (m1_745 P) .nil .nil) (.node (m1_1001 P) .nil .nil))))) (.node (m0_57 P) (.node (m0_89 P) (.node (m0_153 P) (.node (m0_281 P) (.node (m1_537 P) .nil .nil) (.node (m1_793 P) .nil .nil)) (.node (m0_409 P) (.node (m1_665 P) .nil .nil) (.node (m1_921 P) .nil .nil))) (.node (m0_217 P) (.node (m0_345 P) (.node (m1_601 P) .nil .nil) (.node (m1_857 P) .nil .nil)) (.node (m1_473 P) (.node (m1_729 P) .nil .nil) (.node (m1_985 P) .nil .nil)))) (.node (m0_121 P) (.node (m0_185 P) (.node (m0_313 P) (.node (m1_569 P) .nil .nil) (.node (m1_825 P) .nil .nil)) (.node (m1_441 P) (.node (m1_697 P) .nil .nil) (.node (m1_953 P) .nil .nil))) (.node (m0_249 P) (.node (m0_377 P) (.node (m1_633 P) .nil .nil) (.node (m1_889 P) .nil .nil)) (.node (m1_505 P) (.node (m1_761 P) .nil .nil) (.node (m1_1017 P) .nil .nil))))))) (.node (a13 P) (.node (m0_21 P) (.node (m0_37 P) (.node (m0_69 P) (.node (m0_133 P) (.node (m0_261 P) (.node (m1_517 P) (.node (m1_1029 P) .nil .nil) .nil) (.node (m1_773 P) .nil .nil)) (.node (m0_389 P) (.node (m1_645 P) .nil .nil) (.node (m1_901 P) .nil .nil))) (.node (m0_197 P) (.node (m0_325 P) (.node (m1_581 P) .nil .nil) (.node (m1_837 P) .nil .nil)) (.node (m1_453 P) (.node (m1_709 P) .nil .nil) (.node (m1_965 P) .nil .nil)))) (.node (m0_101 P) (.node (m0_165 P) (.node (m0_293 P) (.node (m1_549 P) .nil .nil) (.node (m1_805 P) .nil .nil)) (.node (m1_421 P) (.node (m1_677 P) .nil .nil) (.node (m1_933 P) .nil .nil))) (.node (m0_229 P) (.node (m0_357 P) (.node (m1_613 P) .nil .nil) (.node (m1_869 P) .nil .nil)) (.node (m1_485 P) (.node (m1_741 P) .nil .nil) (.node (m1_997 P) .nil .nil))))) (.node (m0_53 P) (.node (m0_85 P) (.node (m0_149 P) (.node (m0_277 P) (.node (m1_533 P) .nil .nil) (.node (m1_789 P) .nil .nil)) (.node (m0_405 P) (.node (m1_661 P) .nil .nil) (.node (m1_917 P) .nil .nil))) (.node (m0_213 P) (.node (m0_341 P) (.node (m1_597 P) .nil .nil) (.node (m1_853 P) .nil .nil)) (.node (m1_469 P) (.node (m1_725 P) .nil .nil) (.node (m1_981 P) .nil .nil)))) (.node (m0_117 P) (.node (m0_181 P) (.node (m0_309 P) (.node (m1_565 P) .nil .nil) (.node (m1_821 P) .nil .nil)) (.node (m1_437 P) (.node (m1_693 P) .nil .nil) (.node (m1_949 P) .nil .nil))) (.node (m0_245 P) (.node (m0_373 P) (.node (m1_629 P) .nil .nil) (.node (m1_885 P) .nil .nil)) (.node (m1_501 P) (.node (m1_757 P) .nil .nil) (.node (m1_1013 P) .nil .nil)))))) (.node (m0_29 P) (.node (m0_45 P) (.node (m0_77 P) (.node (m0_141 P) (.node (m0_269 P) (.node (m1_525 P) .nil .nil) (.node (m1_781 P) .nil .nil)) (.node (m0_397 P) (.node (m1_653 P) .nil .nil) (.node (m1_909 P) .nil .nil))) (.node (m0_205 P) (.node (m0_333 P) (.node (m1_589 P) .nil .nil) (.node (m1_845 P) .nil .nil)) (.node (m1_461 P) (.node (m1_717 P) .nil .nil) (.node (m1_973 P) .nil .nil)))) (.node (m0_109 P) (.node (m0_173 P) (.node (m0_301 P) (.node (m1_557 P) .nil .nil) (.node (m1_813 P) .nil .nil)) (.node (m1_429 P) (.node (m1_685 P) .nil .nil) (.node (m1_941 P) .nil .nil))) (.node (m0_237 P) (.node (m0_365 P) (.node (m1_621 P) .nil .nil) (.node (m1_877 P) .nil .nil)) (.node (m1_493 P) (.node (m1_749 P) .nil .nil) (.node (m1_1005 P) .nil .nil))))) (.node (m0_61 P) (.node (m0_93 P) (.node (m0_157 P) (.node (m0_285 P) (.node (m1_541 P) .nil .nil) (.node (m1_797 P) .nil .nil)) (.node (m0_413 P) (.node (m1_669 P) .nil .nil) (.node (m1_925 P) .nil .nil))) (.node (m0_221 P) (.node (m0_349 P) (.node (m1_605 P) .nil .nil) (.node (m1_861 P) .nil .nil)) (.node (m1_477 P) (.node (m1_733 P) .nil .nil) (.node (m1_989 P) .nil .nil)))) (.node (m0_125 P) (.node (m0_189 P) (.node (m0_317 P) (.node (m1_573 P) .nil .nil) (.node (m1_829 P) .nil .nil)) (.node (m1_445 P) (.node (m1_701 P) .nil .nil) (.node (m1_957 P) .nil .nil))) (.node (m0_253 P) (.node (m0_381 P) (.node (m1_637 P) .nil .nil) (.node (m1_893 P) .nil .nil)) (.node (m1_509 P) (.node (m1_765 P) .nil .nil) (.node (m1_1021 P) .nil .nil))))))))) (.node (PySem.W.boot_o_2 P) (.node (PySem.W.boot_o_4 P) (.node (PySem.W.boot_o_8 P) (.node (m0_16 P) (.node (m0_32 P) (.node (m0_64 P) (.node (m0_128 P) (.node (m0_256 P) (.node (m1_512 P) (.node (m1_1024 P) .nil .nil) .nil) (.node (m1_768 P) .nil .nil)) (.node (m0_384 P) (.node (m1_640 P) .nil .nil) (.node (m1_896 P) .nil .nil))) (.node (m0_192 P) (.node (m0_320 P) (.node (m1_576 P) .nil .nil) (.node (m1_832 P) .nil .nil)) (.node (m1_448 P) (.node (m1_704 P) .nil .nil) (.node (m1_960 P) .nil .nil)))) (.node (m0_96 P) (.node (m0_160 P) (.node (m0_288 P) (.node (m1_544 P) .nil .nil) (.node (m1_800 P) .nil .nil)) (.node (m0_416 P) (.node (m1_672 P) .nil .nil) (.node (m1_928 P) .nil .nil))) (.node (m0_224 P) (.node (m0_352 P) (.node (m1_608 P) .nil .nil) (.node (m1_864 P) .nil .nil)) (.node (m1_480 P) (.node (m1_736 P) .nil .nil) (.node (m1_992 P) .nil .nil))))) (.node (m0_48 P) (.node (m0_80 P) (.node (m0_144 P) (.node (m0_272 P) (.node (m1_528 P) .nil .nil) (.node (m1_784 P) .nil .nil)) (.node (m0_400 P) (.node (m1_656 P) .nil .nil) (.node (m1_912 P) .nil .nil))) (.node (m0_208 P) (.node (m0_336 P) (.node (m1_592 P) .nil .nil) (.node (m1_848 P) .nil .nil)) (.node (m1_464 P) (.node (m1_720 P) .nil .nil) (.node (m1_976 P) .nil .nil)))) (.node (m0_112 P) (.node (m0_176 P) (.node (m0_304 P) (.node (m1_560 P) .nil .nil) (.node (m1_816 P) .nil .nil)) (.node (m1_432 P) (.node (m1_688 P) .nil .nil) (.node (m1_944 P) .nil .nil))) (.node (m0_240 P) (.node (m0_368 P) (.node (m1_624 P) .nil .nil) (.node (m1_880 P) .nil .nil)) (.node (m1_496 P) (.node (m1_752 P) .nil .nil) (.node (m1_1008 P) .nil .nil)))))) (.node (m0_24 P) (.node (m0_40 P) (.node (m0_72 P) (.node (m0_136 P) (.node (m0_264 P) (.node (m1_520 P) (.node (m1_1032 P) .nil .nil) .nil) (.node (m1_776 P) .nil .nil)) (.node (m0_392 P) (.node (m1_648 P) .nil .nil) (.node (m1_904 P) .nil .nil))) (.node (m0_200 P) (.node (m0_328 P) (.node (m1_584 P) .nil .nil) (.node (m1_840 P) .nil .nil)) (.node (m1_456 P) (.node (m1_712 P) .nil .nil) (.node (m1_968 P) .nil .nil)))) (.node (m0_104 P) (.node (m0_168 P) (.node (m0_296 P) (.node (m1_552 P) .nil .nil) (.node (m1_808 P) .nil .nil)) (.node (m1_424 P) (.node (m1_680 P) .nil .nil) (.node (m1_936 P) .nil .nil))) (.node (m0_232 P) (.node (m0_360 P) (.node (m1_616 P) .nil .nil) (.node (m1_872 P) .nil .nil)) (.node (m1_488 P) (.node (m1_744 P) .nil .nil) (.node (m1_1000 P) .nil .nil))))) (.node (m0_56 P) (.node (m0_88 P) (.node (m0_152 P) (.node (m0_280 P) (.node (m1_536 P) .nil .nil) (.node (m1_792 P) .nil .nil)) (.node (m0_408 P) (.node (m1_664 P) .nil .nil) (.node (m1_920 P) .nil .nil))) (.node (m0_216 P) (.node (m0_344 P) (.node (m1_600 P) .nil .nil) (.node (m1_856 P) .nil .nil)) (.node (m1_472 P) (.node (m1_728 P) .nil .nil) (.node (m1_984 P) .nil .nil)))) (.node (m0_120 P) (.node (m0_184 P) (.node (m0_312 P) (.node (m1_568 P) .nil .nil) (.node (m1_824 P) .nil .nil)) (.node (m1_440 P) (.node (m1_696 P) .nil .nil) (.node (m1_952 P) .nil .nil))) (.node (m0_248 P) (.node (m0_376 P) (.node (m1_632 P) .nil .nil) (.node (m1_888 P) .nil .nil)) (.node (m1_504 P) (.node (m1_760 P) .nil .nil) (.node (m1_1016 P) .nil .nil))))))) (.node (m1_12 P) (.node (m0_20 P) (.node (m0_36 P) (.node (m0_68 P) (.node (m0_132 P) (.node (m0_260 P) (.node (m1_516 P) (.node (m1_1028 P) .nil .nil) .nil) (.node (m1_772 P) .nil .nil)) (.node (m0_388 P) (.node (m1_644 P) .nil .nil) (.node (m1_900 P) .nil .nil))) (.node (m0_196 P) (.node (m0_324 P) (.node (m1_580 P) .nil .nil) (.node (m1_836 P) .nil .nil)) (.node (m1_452 P) (.node (m1_708 P) .nil .nil) (.node (m1_964 P) .nil .nil)))) (.node (m0_100 P) (.node (m0_164 P) (.node (m0_292 P) (.node (m1_548 P) .nil .nil) (.node (m1_804 P) .nil .nil)) (.node (m1_420 P) (.node (m1_676 P) .nil .nil) (.node (m1_932 P) .nil .nil))) (.node (m0_228 P) (.node (m0_356 P) (.node (m1_612 P) .nil .nil) (.node (m1_868 P) .nil .nil)) (.node (m1_484 P) (.node (m1_740 P) .nil .nil) (.node (m1_996 P) .nil .nil))))) (.node (m0_52 P) (.node (m0_84 P) (.node (m0_148 P) (.node (m0_276 P) (.node (m1_532 P) .nil .nil) (.node (m1_788 P) .nil .nil)) (.node (m0_404 P) (.node (m1_660 P) .nil .nil) (.node (m1_916 P) .nil .nil))) (.node (m0_212 P) (.node (m0_340 P) (.node (m1_596 P) .nil .nil) (.node (m1_852 P) .nil .nil)) (.node (m1_468 P) (.node (m1_724 P) .nil .nil) (.node (m1_980 P) .nil .nil)))) (.node (m0_116 P) (.node (m0_180 P) (.node (m0_308 P) (.node (m1_564 P) .nil .nil) (.node (m1_820 P) .nil .nil)) (.node (m1_436 P) (.node (m1_692 P) .nil .nil) (.node (m1_948 P) .nil .nil))) (.node (m0_244 P) (.node (m0_372 P) (.node (m1_628 P) .nil .nil) (.node (m1_884 P) .nil .nil)) (.node (m1_500 P) (.node (m1_756 P) .nil .nil) (.node (m1_1012 P) .nil .nil)))))) (.node (m0_28 P) (.node (m0_44 P) (.node (m0_76 P) (.node (m0_140 P) (.node (m0_268 P) (.node (m1_524 P) (.node (m1_1036 P) .nil .nil) .nil) (.node (m1_780 P) .nil .nil)) (.node (m0_396 P) (.node (m1_652 P) .nil .nil) (.node (m1_908 P) .nil .nil))) (.node (m0_204 P) (.node (m0_332 P) (.node (m1_588 P) .nil .nil) (.node (m1_844 P) .nil .nil)) (.node (m1_460 P) (.node (m1_716 P) .nil .nil) (.node (m1_972 P) .nil .nil)))) (.node (m0_108 P) (.node (m0_172 P) (.node (m0_300 P) (.node (m1_556 P) .nil .nil) (.node (m1_812 P) .nil .nil)) (.node (m1_428 P) (.node (m1_684 P) .nil .nil) (.node (m1_940 P) .nil .nil))) (.node (m0_236 P) (.node (m0_364 P) (.node (m1_620 P) .nil .nil) (.node (m1_876 P) .nil .nil)) (.node (m1_492 P) (.node (m1_748 P) .nil .nil) (.node (m1_1004 P) .nil .nil))))) (.node (m0_60 P) (.node (m0_92 P) (.node (m0_156 P) (.node (m0_284 P) (.node (m1_540 P) .nil .nil) (.node (m1_796 P) .nil .nil)) (.node (m0_412 P) (.node (m1_668 P) .nil .nil) (.node (m1_924 P) .nil .nil))) (.node (m0_220 P) (.node (m0_348 P) (.node (m1_604 P) .nil .nil) (.node (m1_860 P) .nil .nil)) (.node (m1_476 P) (.node (m1_732 P) .nil .nil) (.node (m1_988 P) .nil .nil)))) (.node (m0_124 P) (.node (m0_188 P) (.node (m0_316 P) (.node (m1_572 P) .nil .nil) (.node (m1_828 P) .nil .nil)) (.node (m1_444 P) (.node (m1_700 P) .nil .nil) (.node (m1_956 P) .nil .nil))) (.node (m0_252 P) (.node (m0_380 P) (.node (m1_636 P) .nil .nil) (.node (m1_892 P) .nil .nil)) (.node (m1_508 P) (.node (m1_764 P) .nil .nil) (.node (m1_1020 P) .nil .nil)))))))) (.node (PySem.W.boot_o_6 P) (.node (PySem.W.boot_o_10 P) (.node (m0_18 P) (.node (m0_34 P) (.node (m0_66 P) (.node (m0_130 P) (.node (m0_258 P) (.node (m1_514 P) (.node (m1_1026 P) .nil .nil) .nil) (.node (m1_770 P) .nil .nil)) (.node (m0_386 P) (.node (m1_642 P) .nil .nil) (.node (m1_898 P) .nil .nil))) (.node (m0_194 P) (.node (m0_322 P) (.node (m1_578 P) .nil .nil) (.node (m1_834 P) .nil .nil)) (.node (m1_450 P) (.node (m1_706 P) .nil .nil) (.node (m1_962 P) .nil .nil)))) (.node (m0_98 P) (.node (m0_162 P) (.node (m0_290 P) (.node (m1_546 P) .nil .nil) (.node (m1_802 P) .nil .nil)) (.node (m1_418 P) (.node (m1_674 P) .nil .nil) (.node (m1_930 P) .nil .nil))) (.node (m0_226 P) (.node (m0_354 P) (.node (m1_610 P) .nil .nil) (.node (m1_866 P) .nil .nil)) (.node (m1_482 P) (.node (m1_738 P) .nil .nil) (.node (m1_994 P) .nil .nil))))) (.node (m0_50 P) (.node (m0_82 P) (.node (m0_146 P) (.node (m0_274 P) (.node (m1_530 P) .nil .nil) (.node (m1_786 P) .nil .nil)) (.node (m0_402 P) (.node (m1_658 P) .nil .nil) (.node (m1_914 P) .nil .nil))) (.node (m0_210 P) (.node (m0_338 P) (.node (m1_594 P) .nil .nil) (.node (m1_850 P) .nil .nil)) (.node (m1_466 P) (.node (m1_722 P) .nil .nil) (.node (m1_978 P) .nil .nil)))) (.node (m0_114 P) (.node (m0_178 P) (.node (m0_306 P) (.node (m1_562 P) .nil .nil) (.node (m1_818 P) .nil .nil)) (.node (m1_434 P) (.node (m1_690 P) .nil .nil) (.node (m1_946 P) .nil .nil))) (.node (m0_242 P) (.node (m0_370 P) (.node (m1_626 P) .nil .nil) (.node (m1_882 P) .nil .nil)) (.node (m1_498 P) (.node (m1_754 P) .nil .nil) (.node (m1_1010 P) .nil .nil)))))) (.node (m0_26 P) (.node (m0_42 P) (.node (m0_74 P) (.node (m0_138 P) (.node (m0_266 P) (.node (m1_522 P) (.node (m1_1034 P) .nil .nil) .nil) (.node (m1_778 P) .nil .nil)) (.node (m0_394 P) (.node (m1_650 P) .nil .nil) (.node (m1_906 P) .nil .nil))) (.node (m0_202 P) (.node (m0_330 P) (.node (m1_586 P) .nil .nil) (.node (m1_842 P) .nil .nil)) (.node (m1_458 P) (.node (m1_714 P) .nil .nil) (.node (m1_970 P) .nil .nil)))) (.node (m0_106 P) (.node (m0_170 P) (.node (m0_298 P) (.node (m1_554 P) .nil .nil) (.node (m1_810 P) .nil .nil)) (.node (m1_426 P) (.node (m1_682 P) .nil .nil) (.node (m1_938 P) .nil .nil))) (.node (m0_234 P) (.node (m0_362 P) (.node (m1_618 P) .nil .nil) (.node (m1_874 P) .nil .nil)) (.node (m1_490 P) (.node (m1_746 P) .nil .nil) (.node (m1_1002 P) .nil .nil))))) (.node (m0_58 P) (.node (m0_90 P) (.node (m0_154 P) (.node (m0_282 P) (.node (m1_538 P) .nil .nil) (.node (m1_794 P) .nil .nil)) (.node (m0_410 P) (.node (m1_666 P) .nil .nil) (.node (m1_922 P) .nil .nil))) (.node (m0_218 P) (.node (m0_346 P) (.node (m1_602 P) .nil .nil) (.node (m1_858 P) .nil .nil)) (.node (m1_474 P) (.node (m1_730 P) .nil .nil) (.node (m1_986 P) .nil .nil)))) (.node (m0_122 P) (.node (m0_186 P) (.node (m0_314 P) (.node (m1_570 P) .nil .nil) (.node (m1_826 P) .nil .nil)) (.node (m1_442 P) (.node (m1_698 P) .nil .nil) (.node (m1_954 P) .nil .nil))) (.node (m0_250 P) (.node (m0_378 P) (.node (m1_634 P) .nil .nil) (.node (m1_890 P) .nil .nil)) (.node (m1_506 P) (.node (m1_762 P) .nil .nil) (.node (m1_1018 P) .nil .nil))))))) (.node (a14 P) (.node (m0_22 P) (.node (m0_38 P) (.node (m0_70 P) (.node (m0_134 P) (.node (m0_262 P) (.node (m1_518 P) (.node (m1_1030 P) .nil .nil) .nil) (.node (m1_774 P) .nil .nil)) (.node (m0_390 P) (.node (m1_646 P) .nil .nil) (.node (m1_902 P) .nil .nil))) (.node (m0_198 P) (.node (m0_326 P) (.node (m1_582 P) .nil .nil) (.node (m1_838 P) .nil .nil)) (.node (m1_454 P) (.node (m1_710 P) .nil .nil) (.node (m1_966 P) .nil .nil)))) (.node (m0_102 P) (.node (m0_166 P) (.node (m0_294 P) (.node (m1_550 P) .nil .nil) (.node (m1_806 P) .nil .nil)) (.node (m1_422 P) (.node (m1_678 P) .nil .nil) (.node (m1_934 P) .nil .nil))) (.node (m0_230 P) (.node (m0_358 P) (.node (m1_614 P) .nil .nil) (.node (m1_870 P) .nil .nil)) (.node (m1_486 P) (.node (m1_742 P) .nil .nil) (.node (m1_998 P) .nil .nil))))) (.node (m0_54 P) (.node (m0_86 P) (.node (m0_150 P) (.node (m0_278 P) (.node (m1_534 P) .nil .nil) (.node (m1_790 P) .nil .nil)) (.node (m0_406 P) (.node (m1_662 P) .nil .nil) (.node (m1_918 P) .nil .nil))) (.node (m0_214 P) (.node (m0_342 P) (.node (m1_598 P) .nil .nil) (.node (m1_854 P) .nil .nil)) (.node (m1_470 P) (.node (m1_726 P) .nil .nil) (.node (m1_982 P) .nil .nil)))) (.node (m0_118 P) (.node (m0_182 P) (.node (m0_310 P) (.node (m1_566 P) .nil .nil) (.node (m1_822 P) .nil .nil)) (.node (m1_438 P) (.node (m1_694 P) .nil .nil) (.node (m1_950 P) .nil .nil))) (.node (m0_246 P) (.node (m0_374 P) (.node (m1_630 P) .nil .nil) (.node (m1_886 P) .nil .nil)) (.node (m1_502 P) (.node (m1_758 P) .nil .nil) (.node (m1_1014 P) .nil .nil)))))) (.node (m0_30 P) (.node (m0_46 P) (.node (m0_78 P) (.node (m0_142 P) (.node (m0_270 P) (.node (m1_526 P) .nil .nil) (.node (m1_782 P) .nil .nil)) (.node (m0_398 P) (.node (m1_654 P) .nil .nil) (.node (m1_910 P) .nil .nil))) (.node (m0_206 P) (.node (m0_334 P) (.node (m1_590 P) .nil .nil) (.node (m1_846 P) .nil .nil)) (.node (m1_462 P) (.node (m1_718 P) .nil .nil) (.node (m1_974 P) .nil .nil)))) (.node (m0_110 P) (.node (m0_174 P) (.node (m0_302 P) (.node (m1_558 P) .nil .nil) (.node (m1_814 P) .nil .nil)) (.node (m1_430 P) (.node (m1_686 P) .nil .nil) (.node (m1_942 P) .nil .nil))) (.node (m0_238 P) (.node (m0_366 P) (.node (m1_622 P) .nil .nil) (.node (m1_878 P) .nil .nil)) (.node (m1_494 P) (.node (m1_750 P) .nil .nil) (.node (m1_1006 P) .nil .nil))))) (.node (m0_62 P) (.node (m0_94 P) (.node (m0_158 P) (.node (m0_286 P) (.node (m1_542 P) .nil .nil) (.node (m1_798 P) .nil .nil)) (.node (m0_414 P) (.node (m1_670 P) .nil .nil) (.node (m1_926 P) .nil .nil))) (.node (m0_222 P) (.node (m0_350 P) (.node (m1_606 P) .nil .nil) (.node (m1_862 P) .nil .nil)) (.node (m1_478 P) (.node (m1_734 P) .nil .nil) (.node (m1_990 P) .nil .nil)))) (.node (m0_126 P) (.node (m0_190 P) (.node (m0_318 P) (.node (m1_574 P) .nil .nil) (.node (m1_830 P) .nil .nil)) (.node (m1_446 P) (.node (m1_702 P) .nil .nil) (.node (m1_958 P) .nil .nil))) (.node (m0_254 P) (.node (m0_382 P) (.node (m1_638 P) .nil .nil) (.node (m1_894 P) .nil .nil)) (.node (m1_510 P) (.node (m1_766 P) .nil .nil) (.node (m1_1022 P) .nil .nil))))))))))
noncomputable def fS (w : World) (os : OsState) : SharedT := ⟨fT w.params, 1037, { }, #[], {}, 2229, os⟩

end
noncomputable def env : Env := { scope := R.prog.main.scope, locals := mainNs, globals := mainNs, cells := [], code := (.ref 13), frame := some 14 }
noncomputable def body : List Stmt := PySem.W.behindTheImports R.prog
noncomputable abbrev cod : Code := .body body env
noncomputable abbrev fr : List Frame := [PySem.W.topFrame ⟨0, 0, 0, 0⟩]
noncomputable def l0 : List Stmt := (body.drop 0).take 63
noncomputable def l1 : List Stmt := body.drop 63
theorem bodyE : body = l0 ++ (l1 ++ []) := by kernel_rfl
theorem bootE (w : World) : HandSHeadRun.putAll (PySem.W.boot_heap w.params).objs.toList .nil 0 = some (zT w.params, 11) := by kernel_rfl
theorem annE (w : World) : HandSHeadRun.bootAnn w = (some (.ref 6)) := by kernel_rfl
theorem preE (w : World) (os : OsState) : Av.Hd.preQ (Av.Hd.stQ R.prog w) 11 (some (.ref 6)) 12 (HandSHeadRun.bootT w os (zT w.params, 11)) (PySem.W.topStub R.prog) = some (aS w os, ⟨HandSHeadRun.denQ HandSHeadRun.tabQ (.body body env), cod, ⟨0, 0, 0, 0⟩, fr⟩) := by kernel_rfl
theorem blkE (w : World) (os : OsState) : Av.Hd.segQ (Av.Hd.stQ R.prog w) 11 (some (.ref 6)) 1 (aS w os) (PySem.W.blockOf body env cod ⟨0, 0, 0, 0⟩ fr) = some (.next, bS w os, cod, ⟨0, 0, 0, 0⟩) := by kernel_rfl
theorem m0E (w : World) : ∀ os : OsState, Av.Hd.segQ (Av.Hd.stQ R.prog w) 11 (some (.ref 6)) 4416 (bS w os) (Av.Hd.piecesQ l0 env cod ⟨0, 0, 0, 0⟩ fr) = some (.next, m0_S w os, cod, ⟨241, 0, 255, 26⟩) :=
  PySem.W.byRow2 "special-get-raises" (P := fun w => ∀ os : OsState, Av.Hd.segQ (Av.Hd.stQ R.prog w) 11 (some (.ref 6)) 4416 (bS w os) (Av.Hd.piecesQ l0 env cod ⟨0, 0, 0, 0⟩ fr) = some (.next, m0_S w os, cod, ⟨241, 0, 255, 26⟩)) (fun w => by intro os; kernel_rfl) (fun w => by intro os; kernel_rfl) w
theorem m1E (w : World) : ∀ os : OsState, Av.Hd.segQ (Av.Hd.stQ R.prog w) 11 (some (.ref 6)) 4132 (m0_S w os) (Av.Hd.piecesQ l1 env cod ⟨241, 0, 255, 26⟩ fr) = some (.next, m1_S w os, cod, ⟨689, 0, 698, 15⟩) :=
  PySem.W.byRow2 "special-get-raises" (P := fun w => ∀ os : OsState, Av.Hd.segQ (Av.Hd.stQ R.prog w) 11 (some (.ref 6)) 4132 (m0_S w os) (Av.Hd.piecesQ l1 env cod ⟨241, 0, 255, 26⟩ fr) = some (.next, m1_S w os, cod, ⟨689, 0, 698, 15⟩)) (fun w => by intro os; kernel_rfl) (fun w => by intro os; kernel_rfl) w
theorem finE (w : World) (os : OsState) : HandSHeadRun.goF (Av.Hd.stQ R.prog w) 11 (some (.ref 6)) 2 (m1_S w os) (Av.Hd.restQ [] env cod ⟨689, 0, 698, 15⟩ fr) = some (fS w os) := by kernel_rfl
theorem looksE (w : World) (os : OsState) : HandSHeadRun.looksF R.prog (PySem.W.boot_heap w.params) (fS w os).abs = true := by kernel_rfl
theorem seen0 (w : World) (os : OsState) : (HandSHeadRun.seenQ (PySem.W.view R.prog [130]) names (PySem.importedModules R.prog.main.body) (fun s => PySem.W.xlAt (PySem.W.view R.prog [130]) [] s && PySem.W.recOk R.toRowW.records s) (fS w os).abs).1 = (PySem.W.openGood (PySem.W.view R.prog [130]) names).1 := by kernel_rfl
theorem seen1 (w : World) (os : OsState) : (HandSHeadRun.seenQ (PySem.W.view R.prog [130]) names (PySem.importedModules R.prog.main.body) (fun s => PySem.W.xlAt (PySem.W.view R.prog [130]) [] s && PySem.W.recOk R.toRowW.records s) (fS w os).abs).2.1 = (PySem.W.openGood (PySem.W.view R.prog [130]) names).2.1 := by kernel_rfl
theorem seen2 (w : World) (os : OsState) : (HandSHeadRun.seenQ (PySem.W.view R.prog [130]) names (PySem.importedModules R.prog.main.body) (fun s => PySem.W.xlAt (PySem.W.view R.prog [130]) [] s && PySem.W.recOk R.toRowW.records s) (fS w os).abs).2.2.1 = (PySem.W.openGood (PySem.W.view R.prog [130]) names).2.2.1 := by kernel_rfl
theorem seen3 (w : World) (os : OsState) : (HandSHeadRun.seenQ (PySem.W.view R.prog [130]) names (PySem.importedModules R.prog.main.body) (fun s => PySem.W.xlAt (PySem.W.view R.prog [130]) [] s && PySem.W.recOk R.toRowW.records s) (fS w os).abs).2.2.2.1 = (PySem.W.openGood (PySem.W.view R.prog [130]) names).2.2.2.1 := by kernel_rfl
theorem seen4 (w : World) (os : OsState) : (HandSHeadRun.seenQ (PySem.W.view R.prog [130]) names (PySem.importedModules R.prog.main.body) (fun s => PySem.W.xlAt (PySem.W.view R.prog [130]) [] s && PySem.W.recOk R.toRowW.records s) (fS w os).abs).2.2.2.2.1 = (PySem.W.openGood (PySem.W.view R.prog [130]) names).2.2.2.2.1 := by kernel_rfl
theorem seen5 (w : World) (os : OsState) : (HandSHeadRun.seenQ (PySem.W.view R.prog [130]) names (PySem.importedModules R.prog.main.body) (fun s => PySem.W.xlAt (PySem.W.view R.prog [130]) [] s && PySem.W.recOk R.toRowW.records s) (fS w os).abs).2.2.2.2.2.1 = (PySem.W.openGood (PySem.W.view R.prog [130]) names).2.2.2.2.2.1 := by kernel_rfl
theorem seen6 (w : World) (os : OsState) : (HandSHeadRun.seenQ (PySem.W.view R.prog [130]) names (PySem.importedModules R.prog.main.body) (fun s => PySem.W.xlAt (PySem.W.view R.prog [130]) [] s && PySem.W.recOk R.toRowW.records s) (fS w os).abs).2.2.2.2.2.2.1 = (PySem.W.openGood (PySem.W.view R.prog [130]) names).2.2.2.2.2.2.1 := by kernel_rfl
theorem seen7 (w : World) (os : OsState) : (HandSHeadRun.seenQ (PySem.W.view R.prog [130]) names (PySem.importedModules R.prog.main.body) (fun s => PySem.W.xlAt (PySem.W.view R.prog [130]) [] s && PySem.W.recOk R.toRowW.records s) (fS w os).abs).2.2.2.2.2.2.2.1 = (PySem.W.openGood (PySem.W.view R.prog [130]) names).2.2.2.2.2.2.2.1 := by kernel_rfl
theorem seen8 (w : World) (os : OsState) : (HandSHeadRun.seenQ (PySem.W.view R.prog [130]) names (PySem.importedModules R.prog.main.body) (fun s => PySem.W.xlAt (PySem.W.view R.prog [130]) [] s && PySem.W.recOk R.toRowW.records s) (fS w os).abs).2.2.2.2.2.2.2.2 = (PySem.W.openGood (PySem.W.view R.prog [130]) names).2.2.2.2.2.2.2.2 := by kernel_rfl
theorem seenE (w : World) (os : OsState) : HandSHeadRun.seenQ (PySem.W.view R.prog [130]) names (PySem.importedModules R.prog.main.body) (fun s => PySem.W.xlAt (PySem.W.view R.prog [130]) [] s && PySem.W.recOk R.toRowW.records s) (fS w os).abs = PySem.W.openGood (PySem.W.view R.prog [130]) names := Prod.ext (seen0 w os) (Prod.ext (seen1 w os) (Prod.ext (seen2 w os) (Prod.ext (seen3 w os) (Prod.ext (seen4 w os) (Prod.ext (seen5 w os) (Prod.ext (seen6 w os) (Prod.ext (seen7 w os) (seen8 w os))))))))
def as : List Addr := [3, 21, 22, 27, 34, 41, 46, 51, 58, 65, 75, 95, 114, 126, 145, 164, 176, 195, 207, 210, 211, 212, 213, 214, 215, 216, 228, 235, 240, 245, 252, 259, 264, 265, 272, 279, 286, 293, 294, 301, 308, 315, 322, 329, 336, 343, 350, 355, 362, 369, 374, 375, 382, 413, 418, 419, 426, 472, 522, 570, 579, 586, 593, 600, 607, 612, 613, 614, 621, 626, 633, 640, 647, 648, 649, 656, 663, 670, 671, 684, 691, 698, 705, 712, 717, 724, 731, 738, 745, 752, 759, 766, 767, 840, 845, 852, 859, 956, 967, 974, 981, 986, 993, 998, 1005, 1012, 1017, 1024, 1031, 1036, 20, 26, 33, 40, 45, 50, 57, 64, 66, 74, 79, 94, 98, 113, 117, 125, 129, 144, 148, 163, 167, 175, 179, 194, 198, 206, 218, 220, 221, 227, 234, 239, 244, 251, 258, 263, 271, 278, 285, 292, 300, 307, 314, 321, 328, 335, 342, 349, 354, 361, 368, 373, 381, 412, 422, 425, 471, 477, 521, 525, 569, 578, 585, 592, 599, 606, 611, 620, 625, 632, 639, 646, 655, 662, 669, 674, 677, 683, 690, 697, 704, 711, 716, 723, 730, 737, 744, 751, 758, 765, 839, 851, 858, 955, 966, 973, 980, 985, 992, 997, 1004, 1011, 1016, 1023, 1030, 1035, 73, 76, 92, 93, 111, 112, 124, 142, 143, 161, 162, 174, 192, 193, 205, 396, 403, 410, 411, 414, 415, 420, 421, 423, 424, 440, 448, 455, 462, 469, 470, 473, 474, 490, 498, 505, 512, 519, 520, 538, 546, 553, 560, 567, 568, 672, 673, 675, 676, 782, 789, 797, 805, 813, 821, 829, 837, 838, 841, 842, 873, 880, 887, 894, 901, 908, 915, 923, 931, 939, 946, 953, 954, 957, 958, 91, 110, 141, 160, 191, 395, 402, 409, 439, 441, 447, 454, 461, 468, 489, 491, 497, 504, 511, 518, 537, 539, 545, 552, 559, 566, 775, 781, 788, 790, 796, 798, 804, 806, 812, 814, 820, 822, 828, 830, 836, 872, 879, 886, 893, 900, 907, 914, 916, 922, 924, 930, 932, 938, 945, 952]
noncomputable def K (w : World) : PySem.W.Frag := [(3, m1_3 w.params), (21, m0_21 w.params), (22, m0_22 w.params), (27, m0_27 w.params), (34, m0_34 w.params), (41, m0_41 w.params), (46, m0_46 w.params), (51, m0_51 w.params), (58, m0_58 w.params), (65, m0_65 w.params), (75, m0_75 w.params), (95, m0_95 w.params), (114, m0_114 w.params), (126, m0_126 w.params), (145, m0_145 w.params), (164, m0_164 w.params), (176, m0_176 w.params), (195, m0_195 w.params), (207, m0_207 w.params), (210, m0_210 w.params), (211, m0_211 w.params), (212, m0_212 w.params), (213, m0_213 w.params), (214, m0_214 w.params), (215, m0_215 w.params), (216, m0_216 w.params), (228, m0_228 w.params), (235, m0_235 w.params), (240, m0_240 w.params), (245, m0_245 w.params), (252, m0_252 w.params), (259, m0_259 w.params), (264, m0_264 w.params), (265, m0_265 w.params), (272, m0_272 w.params), (279, m0_279 w.params), (286, m0_286 w.params), (293, m0_293 w.params), (294, m0_294 w.params), (301, m0_301 w.params), (308, m0_308 w.params), (315, m0_315 w.params), (322, m0_322 w.params), (329, m0_329 w.params), (336, m0_336 w.params), (343, m0_343 w.params), (350, m0_350 w.params), (355, m0_355 w.params), (362, m0_362 w.params), (369, m0_369 w.params), (374, m0_374 w.params), (375, m0_375 w.params), (382, m0_382 w.params), (413, m0_413 w.params), (418, m1_418 w.params), (419, m1_419 w.params), (426, m1_426 w.params), (472, m1_472 w.params), (522, m1_522 w.params), (570, m1_570 w.params), (579, m1_579 w.params), (586, m1_586 w.params), (593, m1_593 w.params), (600, m1_600 w.params), (607, m1_607 w.params), (612, m1_612 w.params), (613, m1_613 w.params), (614, m1_614 w.params), (621, m1_621 w.params), (626, m1_626 w.params), (633, m1_633 w.params), (640, m1_640 w.params), (647, m1_647 w.params), (648, m1_648 w.params), (649, m1_649 w.params), (656, m1_656 w.params), (663, m1_663 w.params), (670, m1_670 w.params), (671, m1_671 w.params), (684, m1_684 w.params), (691, m1_691 w.params), (698, m1_698 w.params), (705, m1_705 w.params), (712, m1_712 w.params), (717, m1_717 w.params), (724, m1_724 w.params), (731, m1_731 w.params), (738, m1_738 w.params), (745, m1_745 w.params), (752, m1_752 w.params), (759, m1_759 w.params), (766, m1_766 w.params), (767, m1_767 w.params), (840, m1_840 w.params), (845, m1_845 w.params), (852, m1_852 w.params), (859, m1_859 w.params), (956, m1_956 w.params), (967, m1_967 w.params), (974, m1_974 w.params), (981, m1_981 w.params), (986, m1_986 w.params), (993, m1_993 w.params), (998, m1_998 w.params), (1005, m1_1005 w.params), (1012, m1_1012 w.params), (1017, m1_1017 w.params), (1024, m1_1024 w.params), (1031, m1_1031 w.params), (1036, m1_1036 w.params), (20, m0_20 w.params), (26, m0_26 w.params), (33, m0_33 w.params), (40, m0_40 w.params), (45, m0_45 w.params), (50, m0_50 w.params), (57, m0_57 w.params), (64, m0_64 w.params), (66, m0_66 w.params), (74, m0_74 w.params), (79, m0_79 w.params), (94, m0_94 w.params), (98, m0_98 w.params), (113, m0_113 w.params), (117, m0_117 w.params), (125, m0_125 w.params), (129, m0_129 w.params), (144, m0_144 w.params), (148, m0_148 w.params), (163, m0_163 w.params), (167, m0_167 w.params), (175, m0_175 w.params), (179, m0_179 w.params), (194, m0_194 w.params), (198, m0_198 w.params), (206, m0_206 w.params), (218, m0_218 w.params), (220, m0_220 w.params), (221, m0_221 w.params), (227, m0_227 w.params), (234, m0_234 w.params), (239, m0_239 w.params), (244, m0_244 w.params), (251, m0_251 w.params), (258, m0_258 w.params), (263, m0_263 w.params), (271, m0_271 w.params), (278, m0_278 w.params), (285, m0_285 w.params), (292, m0_292 w.params), (300, m0_300 w.params), (307, m0_307 w.params), (314, m0_314 w.params), (321, m0_321 w.params), (328, m0_328 w.params), (335, m0_335 w.params), (342, m0_342 w.params), (349, m0_349 w.params), (354, m0_354 w.params), (361, m0_361 w.params), (368, m0_368 w.params), (373, m0_373 w.params), (381, m0_381 w.params), (412, m0_412 w.params), (422, m1_422 w.params), (425, m1_425 w.params), (471, m1_471 w.params), (477, m1_477 w.params), (521, m1_521 w.params), (525, m1_525 w.params), (569, m1_569 w.params), (578, m1_578 w.params), (585, m1_585 w.params), (592, m1_592 w.params), (599, m1_599 w.params), (606, m1_606 w.params), (611, m1_611 w.params), (620, m1_620 w.params), (625, m1_625 w.params), (632, m1_632 w.params), (639, m1_639 w.params), (646, m1_646 w.params), (655, m1_655 w.params), (662, m1_662 w.params), (669, m1_669 w.params), (674, m1_674 w.params), (677, m1_677 w.params), (683, m1_683 w.params), (690, m1_690 w.params), (697, m1_697 w.params), (704, m1_704 w.params), (711, m1_711 w.params), (716, m1_716 w.params), (723, m1_723 w.params), (730, m1_730 w.params), (737, m1_737 w.params), (744, m1_744 w.params), (751, m1_751 w.params), (758, m1_758 w.params), (765, m1_765 w.params), (839, m1_839 w.params), (851, m1_851 w.params), (858, m1_858 w.params), (955, m1_955 w.params), (966, m1_966 w.params), (973, m1_973 w.params), (980, m1_980 w.params), (985, m1_985 w.params), (992, m1_992 w.params), (997, m1_997 w.params), (1004, m1_1004 w.params), (1011, m1_1011 w.params), (1016, m1_1016 w.params), (1023, m1_1023 w.params), (1030, m1_1030 w.params), (1035, m1_1035 w.params), (73, m0_73 w.params), (76, m0_76 w.params), (92, m0_92 w.params), (93, m0_93 w.params), (111, m0_111 w.params), (112, m0_112 w.params), (124, m0_124 w.params), (142, m0_142 w.params), (143, m0_143 w.params), (161, m0_161 w.params), (162, m0_162 w.params), (174, m0_174 w.params), (192, m0_192 w.params), (193, m0_193 w.params), (205, m0_205 w.params), (396, m0_396 w.params), (403, m0_403 w.params), (410, m0_410 w.params), (411, m0_411 w.params), (414, m0_414 w.params), (415, m0_415 w.params), (420, m1_420 w.params), (421, m1_421 w.params), (423, m1_423 w.params), (424, m1_424 w.params), (440, m1_440 w.params), (448, m1_448 w.params), (455, m1_455 w.params), (462, m1_462 w.params), (469, m1_469 w.params), (470, m1_470 w.params), (473, m1_473 w.params), (474, m1_474 w.params), (490, m1_490 w.params), (498, m1_498 w.params), (505, m1_505 w.params), (512, m1_512 w.params), (519, m1_519 w.params), (520, m1_520 w.params), (538, m1_538 w.params), (546, m1_546 w.params), (553, m1_553 w.params), (560, m1_560 w.params), (567, m1_567 w.params), (568, m1_568 w.params), (672, m1_672 w.params), (673, m1_673 w.params), (675, m1_675 w.params), (676, m1_676 w.params), (782, m1_782 w.params), (789, m1_789 w.params), (797, m1_797 w.params), (805, m1_805 w.params), (813, m1_813 w.params), (821, m1_821 w.params), (829, m1_829 w.params), (837, m1_837 w.params), (838, m1_838 w.params), (841, m1_841 w.params), (842, m1_842 w.params), (873, m1_873 w.params), (880, m1_880 w.params), (887, m1_887 w.params), (894, m1_894 w.params), (901, m1_901 w.params), (908, m1_908 w.params), (915, m1_915 w.params), (923, m1_923 w.params), (931, m1_931 w.params), (939, m1_939 w.params), (946, m1_946 w.params), (953, m1_953 w.params), (954, m1_954 w.params), (957, m1_957 w.params), (958, m1_958 w.params), (91, m0_91 w.params), (110, m0_110 w.params), (141, m0_141 w.params), (160, m0_160 w.params), (191, m0_191 w.params), (395, m0_395 w.params), (402, m0_402 w.params), (409, m0_409 w.params), (439, m1_439 w.params), (441, m1_441 w.params), (447, m1_447 w.params), (454, m1_454 w.params), (461, m1_461 w.params), (468, m1_468 w.params), (489, m1_489 w.params), (491, m1_491 w.params), (497, m1_497 w.params), (504, m1_504 w.params), (511, m1_511 w.params), (518, m1_518 w.params), (537, m1_537 w.params), (539, m1_539 w.params), (545, m1_545 w.params), (552, m1_552 w.params), (559, m1_559 w.params), (566, m1_566 w.params), (775, m1_775 w.params), (781, m1_781 w.params), (788, m1_788 w.params), (790, m1_790 w.params), (796, m1_796 w.params), (798, m1_798 w.params), (804, m1_804 w.params), (806, m1_806 w.params), (812, m1_812 w.params), (814, m1_814 w.params), (820, m1_820 w.params), (822, m1_822 w.params), (828, m1_828 w.params), (830, m1_830 w.params), (836, m1_836 w.params), (872, m1_872 w.params), (879, m1_879 w.params), (886, m1_886 w.params), (893, m1_893 w.params), (900, m1_900 w.params), (907, m1_907 w.params), (914, m1_914 w.params), (916, m1_916 w.params), (922, m1_922 w.params), (924, m1_924 w.params), (930, m1_930 w.params), (932, m1_932 w.params), (938, m1_938 w.params), (945, m1_945 w.params), (952, m1_952 w.params)]
theorem asE (w : World) : as = (K w).map (·.1) := by kernel_rfl
noncomputable abbrev hk : PySem.W.Hook := Av.hookK as K asE
noncomputable def ob (s : PySem.W.SharedT) : List (Option Obj) := Av.obsK as s
theorem ob_eq (s : PySem.W.SharedT) : ob s = hk.obs s.abs := Av.obsK_eq s
theorem hookE (w : World) (os : OsState) : ob (fS w os) = hk.val w := by kernel_rfl
abbrev MM : Nat := (12 + (1 + (4416 + (4132 + 2))))
theorem run (w : World) : Av.Hd.Runs R (PySem.W.view R.prog [130]) hk ob MM names w := by
  intro os
  refine ⟨fS w os, ?_, ?_⟩
  · rw [Av.Hd.size_of (bootE w), annE w]
    refine Av.Hd.rest_first (bootE w) (preE w os) (blkE w os) ?_
    rw [bodyE]
    exact Av.Hd.rest_part (m0E w os) (Av.Hd.rest_part (m1E w os) (Av.Hd.rest_last (finE w os)))
  · show (_, _, _) = (_, _, _)
    rw [looksE w os, seenE w os, hookE w os]
end Av.Fin


set_option Elab.async false
set_option linter.all false
set_option maxRecDepth 100000
set_option maxHeartbeats 0
namespace Av.Fin
open PySem PySem.Spec PyProof.Rows L2 Av
def tablesL : List (Key × Dat) := [(.inr "cp1252", .tup [.int 0, .int 1, .int 2, .int 3, .int 4, .int 5, .int 6, .int 7, .int 8, .int 9, .int 10, .int 11, .int 12, .int 13, .int 14, .int 15, .int 16, .int 17, .int 18, .int 19, .int 20, .int 21, .int 22, .int 23, .int 24, .int 25, .int 26, .int 27, .int 28, .int 29, .int 30, .int 31, .int 32, .int 33, .int 34, .int 35, .int 36, .int 37, .int 38, .int 39, .int 40, .int 41, .int 42, .int 43, .int 44, .int 45, .int 46, .int 47, .int 48, .int 49, .int 50, .int 51, .int 52, .int 53, .int 54, .int 55, .int 56, .int 57, .int 58, .int 59, .int 60, .int 61, .int 62, .int 63, .int 64, .int 65, .int 66, .int 67, .int 68, .int 69, .int 70, .int 71, .int 72, .int 73, .int 74, .int 75, .int 76, .int 77, .int 78, .int 79, .int 80, .int 81, .int 82, .int 83, .int 84, .int 85, .int 86, .int 87, .int 88, .int 89, .int 90, .int 91, .int 92, .int 93, .int 94, .int 95, .int 96, .int 97, .int 98, .int 99, .int 100, .int 101, .int 102, .int 103, .int 104, .int 105, .int 106, .int 107, .int 108, .int 109, .int 110, .int 111, .int 112, .int 113, .int 114, .int 115, .int 116, .int 117, .int 118, .int 119, .int 120, .int 121, .int 122, .int 123, .int 124, .int 125, .int 126, .int 127, .int 8364, .non, .int 8218, .int 402, .int 8222, .int 8230, .int 8224, .int 8225, .int 710, .int 8240, .int 352, .int 8249, .int 338, .non, .int 381, .non, .non, .int 8216, .int 8217, .int 8220, .int 8221, .int 8226, .int 8211, .int 8212, .int 732, .int 8482, .int 353, .int 8250, .int 339, .non, .int 382, .int 376, .int 160, .int 161, .int 162, .int 163, .int 164, .int 165, .int 166, .int 167, .int 168, .int 169, .int 170, .int 171, .int 172, .int 173, .int 174, .int 175, .int 176, .int 177, .int 178, .int 179, .int 180, .int 181, .int 182, .int 183, .int 184, .int 185, .int 186, .int 187, .int 188, .int 189, .int 190, .int 191, .int 192, .int 193, .int 194, .int 195, .int 196, .int 197, .int 198, .int 199, .int 200, .int 201, .int 202, .int 203, .int 204, .int 205, .int 206, .int 207, .int 208, .int 209, .int 210, .int 211, .int 212, .int 213, .int 214, .int 215, .int 216, .int 217, .int 218, .int 219, .int 220, .int 221, .int 222, .int 223, .int 224, .int 225, .int 226, .int 227, .int 228, .int 229, .int 230, .int 231, .int 232, .int 233, .int 234, .int 235, .int 236, .int 237, .int 238, .int 239, .int 240, .int 241, .int 242, .int 243, .int 244, .int 245, .int 246, .int 247, .int 248, .int 249, .int 250, .int 251, .int 252, .int 253, .int 254, .int 255]), (.inr "iso8859-15", .tup [.int 0, .int 1, .int 2, .int 3, .int 4, .int 5, .int 6, .int 7, .int 8, .int 9, .int 10, .int 11, .int 12, .int 13, .int 14, .int 15, .int 16, .int 17, .int 18, .int 19, .int 20, .int 21, .int 22, .int 23, .int 24, .int 25, .int 26, .int 27, .int 28, .int 29, .int 30, .int 31, .int 32, .int 33, .int 34, .int 35, .int 36, .int 37, .int 38, .int 39, .int 40, .int 41, .int 42, .int 43, .int 44, .int 45, .int 46, .int 47, .int 48, .int 49, .int 50, .int 51, .int 52, .int 53, .int 54, .int 55, .int 56, .int 57, .int 58, .int 59, .int 60, .int 61, .int 62, .int 63, .int 64, .int 65, .int 66, .int 67, .int 68, .int 69, .int 70, .int 71, .int 72, .int 73, .int 74, .int 75, .int 76, .int 77, .int 78, .int 79, .int 80, .int 81, .int 82, .int 83, .int 84, .int 85, .int 86, .int 87, .int 88, .int 89, .int 90, .int 91, .int 92, .int 93, .int 94, .int 95, .int 96, .int 97, .int 98, .int 99, .int 100, .int 101, .int 102, .int 103, .int 104, .int 105, .int 106, .int 107, .int 108, .int 109, .int 110, .int 111, .int 112, .int 113, .int 114, .int 115, .int 116, .int 117, .int 118, .int 119, .int 120, .int 121, .int 122, .int 123, .int 124, .int 125, .int 126, .int 127, .int 128, .int 129, .int 130, .int 131, .int 132, .int 133, .int 134, .int 135, .int 136, .int 137, .int 138, .int 139, .int 140, .int 141, .int 142, .int 143, .int 144, .int 145, .int 146, .int 147, .int 148, .int 149, .int 150, .int 151, .int 152, .int 153, .int 154, .int 155, .int 156, .int 157, .int 158, .int 159, .int 160, .int 161, .int 162, .int 163, .int 8364, .int 165, .int 352, .int 167, .int 353, .int 169, .int 170, .int 171, .int 172, .int 173, .int 174, .int 175, .int 176, .int 177, .int 178, .int 179, .int 381, .int 181, .int 182, .int 183, .int 382, .int 185, .int 186, .int 187, .int 338, .int 339, .int 376, .int 191, .int 192, .int 193, .int 194, .int 195, .int 196, .int 197, .int 198, .int 199, .int 200, .int 201, .int 202, .int 203, .int 204, .int 205, .int 206, .int 207, .int 208, .int 209, .int 210, .int 211, .int 212, .int 213, .int 214, .int 215, .int 216, .int 217, .int 218, .int 219, .int 220, .int 221, .int 222, .int 223, .int 224, .int 225, .int 226, .int 227, .int 228, .int 229, .int 230, .int 231, .int 232, .int 233, .int 234, .int 235, .int 236, .int 237, .int 238, .int 239, .int 240, .int 241, .int 242, .int 243, .int 244, .int 245, .int 246, .int 247, .int 248, .int 249, .int 250, .int 251, .int 252, .int 253, .int 254, .int 255]), (.inr "koi8-r", .tup [.int 0, .int 1, .int 2, .int 3, .int 4, .int 5, .int 6, .int 7, .int 8, .int 9, .int 10, .int 11, .int 12, .int 13, .int 14, .int 15, .int 16, .int 17, .int 18, .int 19, .int 20, .int 21, .int 22, .int 23, .int 24, .int 25, .int 26, .int 27, .int 28, .int 29, .int 30, .int 31, .int 32, .int 33, .int 34, .int 35, .int 36, .int 37, .int 38, .int 39, .int 40, .int 41, .int 42, .int 43, .int 44, .int 45, .int 46, .int 47, .int 48, .int 49, .int 50, .int 51, .int 52, .int 53, .int 54, .int 55, .int 56, .int 57, .int 58, .int 59, .int 60, .int 61, .int 62, .int 63, .int 64, .int 65, .int 66, .int 67, .int 68, .int 69, .int 70, .int 71, .int 72, .int 73, .int 74, .int 75, .int 76, .int 77, .int 78, .int 79, .int 80, .int 81, .int 82, .int 83, .int 84, .int 85, .int 86, .int 87, .int 88, .int 89, .int 90, .int 91, .int 92, .int 93, .int 94, .int 95, .int 96, .int 97, .int 98, .int 99, .int 100, .int 101, .int 102, .int 103, .int 104, .int 105, .int 106, .int 107, .int 108, .int 109, .int 110, .int 111, .int 112, .int 113, .int 114, .int 115, .int 116, .int 117, .int 118, .int 119, .int 120, .int 121, .int 122, .int 123, .int 124, .int 125, .int 126, .int 127, .int 9472, .int 9474, .int 9484, .int 9488, .int 9492, .int 9496, .int 9500, .int 9508, .int 9516, .int 9524, .int 9532, .int 9600, .int 9604, .int 9608, .int 9612, .int 9616, .int 9617, .int 9618, .int 9619, .int 8992, .int 9632, .int 8729, .int 8730, .int 8776, .int 8804, .int 8805, .int 160, .int 8993, .int 176, .int 178, .int 183, .int 247, .int 9552, .int 9553, .int 9554, .int 1105, .int 9555, .int 9556, .int 9557, .int 9558, .int 9559, .int 9560, .int 9561, .int 9562, .int 9563, .int 9564, .int 9565, .int 9566, .int 9567, .int 9568, .int 9569, .int 1025, .int 9570, .int 9571, .int 9572, .int 9573, .int 9574, .int 9575, .int 9576, .int 9577, .int 9578, .int 9579, .int 9580, .int 169, .int 1102, .int 1072, .int 1073, .int 1094, .int 1076, .int 1077, .int 1092, .int 1075, .int 1093, .int 1080, .int 1081, .int 1082, .int 1083, .int 1084, .int 1085, .int 1086, .int 1087, .int 1103, .int 1088, .int 1089, .int 1090, .int 1091, .int 1078, .int 1074, .int 1100, .int 1099, .int 1079, .int 1096, .int 1101, .int 1097, .int 1095, .int 1098, .int 1070, .int 1040, .int 1041, .int 1062, .int 1044, .int 1045, .int 1060, .int 1043, .int 1061, .int 1048, .int 1049, .int 1050, .int 1051, .int 1052, .int 1053, .int 1054, .int 1055, .int 1071, .int 1056, .int 1057, .int 1058, .int 1059, .int 1046, .int 1042, .int 1068, .int 1067, .int 1047, .int 1064, .int 1069, .int 1065, .int 1063, .int 1066])]
def marksL : List (Key × Dat) := [(.inr "utf-16", .tup [.tup [.int 255, .int 254], .tup [.int 254, .int 255]]), (.inr "utf-32", .tup [.tup [.int 255, .int 254, .int 0, .int 0], .tup [.int 0, .int 0, .int 254, .int 255]])]
theorem look_none {tb : List (Key × Dat)} {k : Key} (h : k ∉ tb.map (·.1)) : lookD tb k = none := by
  unfold lookD
  have : List.find? (fun q => decide (q.1 = k)) tb = none := by
    rw [List.find?_eq_none]
    intro x hx hd
    have hd := of_decide_eq_true hd
    exact h (by rw [← hd]; exact List.mem_map_of_mem hx)
  rw [this]
  rfl
theorem tab_none (nm : Str) (h : isTab nm = false) : lookD tablesL (.inr nm) = none := by
  have e : tablesL.map (·.1) = [.inr "cp1252", .inr "iso8859-15", .inr "koi8-r"] := by rfl
  refine look_none ?_
  rw [e]
  intro hm
  simp only [List.mem_cons, List.not_mem_nil, or_false, Sum.inr.injEq] at hm
  rcases hm with rfl | rfl | rfl <;> revert h <;> decide +kernel

def d0 : He.DefD := ⟨("_law_draw", none), "_law_draw", "_law_draw", defArgs (top 120), defBody (top 120), defScope (top 120), [], []⟩
def d1 : He.DefD := ⟨("_law_pick", none), "_law_pick", "_law_pick", defArgs (top 121), defBody (top 121), defScope (top 121), [], []⟩
def d2 : He.DefD := ⟨("_law_source", none), "_law_source", "_law_source", defArgs (top 119), defBody (top 119), defScope (top 119), [], []⟩
def d3 : He.DefD := ⟨("_law_text", none), "_law_text", "_law_text", defArgs (top 122), defBody (top 122), defScope (top 122), [], []⟩
def d4 : He.DefD := ⟨("_law_same", none), "_law_same", "_law_same", defArgs (top 124), defBody (top 124), defScope (top 124), [], []⟩
def d5 : He.DefD := ⟨("_law_digits", none), "_law_digits", "_law_digits", defArgs (top 125), defBody (top 125), defScope (top 125), [], []⟩
def d6 : He.DefD := ⟨("_law_escaped", none), "_law_escaped", "_law_escaped", defArgs (top 126), defBody (top 126), defScope (top 126), [], []⟩
def d7 : He.DefD := ⟨("_law_due", none), "_law_due", "_law_due", defArgs (top 128), defBody (top 128), defScope (top 128), [], []⟩
def d8 : He.DefD := ⟨("_law_handed", none), "_law_handed", "_law_handed", defArgs (top 123), defBody (top 123), defScope (top 123), [], []⟩
def d9 : He.DefD := ⟨("_law_codes_e", none), "_law_codes_e", "_law_codes_e", defArgs (top 127), defBody (top 127), defScope (top 127), [], []⟩
def d10 : He.DefD := ⟨("digits_of", none), "digits_of", "digits_of", defArgs (top 13), defBody (top 13), defScope (top 13), [], []⟩
def d11 : He.DefD := ⟨("far_escape", none), "far_escape", "far_escape", defArgs (top 42), defBody (top 42), defScope (top 42), [], []⟩
def d12 : He.DefD := ⟨("near_escape", none), "near_escape", "near_escape", defArgs (top 43), defBody (top 43), defScope (top 43), [], []⟩
def d13 : He.DefD := ⟨("write_escape", none), "write_escape", "write_escape", defArgs (top 44), defBody (top 44), defScope (top 44), [], []⟩
def d14 : He.DefD := ⟨("write_raw_escape", none), "write_raw_escape", "write_raw_escape", defArgs (top 45), defBody (top 45), defScope (top 45), [], []⟩
def d15 : He.DefD := ⟨("normal_name", none), "normal_name", "normal_name", defArgs (top 115), defBody (top 115), defScope (top 115), [], []⟩
def d16 : He.DefD := ⟨("known_name", none), "known_name", "known_name", defArgs (top 116), defBody (top 116), defScope (top 116), [], []⟩
def d17 : He.DefD := ⟨("Answers", some "__init__"), "__init__", "Answers.__init__", defArgs (mth 62 0), defBody (mth 62 0), defScope (mth 62 0), [], []⟩
def d18 : He.DefD := ⟨("Registry", some "__init__"), "__init__", "Registry.__init__", defArgs (mth 117 0), defBody (mth 117 0), defScope (mth 117 0), [], []⟩
def d19 : He.DefD := ⟨("Codec", some "__init__"), "__init__", "Codec.__init__", defArgs (mth 111 0), defBody (mth 111 0), defScope (mth 111 0), [.non, .non], []⟩
def d20 : He.DefD := ⟨("Encoder", some "__init__"), "__init__", "Encoder.__init__", defArgs (mth 67 0), defBody (mth 67 0), defScope (mth 67 0), [], []⟩
def d21 : He.DefD := ⟨("Registry", some "known_codec"), "known_codec", "Registry.known_codec", defArgs (mth 117 6), defBody (mth 117 6), defScope (mth 117 6), [], []⟩
def d22 : He.DefD := ⟨("Registry", some "searched"), "searched", "Registry.searched", defArgs (mth 117 5), defBody (mth 117 5), defScope (mth 117 5), [], []⟩
def d23 : He.DefD := ⟨("Registry", some "lookup"), "lookup", "Registry.lookup", defArgs (mth 117 4), defBody (mth 117 4), defScope (mth 117 4), [], []⟩
def d24 : He.DefD := ⟨("Codec", some "encoded"), "encoded", "Codec.encoded", defArgs (mth 111 2), defBody (mth 111 2), defScope (mth 111 2), [.str "strict"], []⟩
def d25 : He.DefD := ⟨("encoder_of", none), "encoder_of", "encoder_of", defArgs (top 70), defBody (top 70), defScope (top 70), [], []⟩
def d26 : He.DefD := ⟨("Codec", some "incremental_encoder"), "incremental_encoder", "Codec.incremental_encoder", defArgs (mth 111 4), defBody (mth 111 4), defScope (mth 111 4), [.str "strict"], []⟩
def d27 : He.DefD := ⟨("Encoder", some "encoded"), "encoded", "Encoder.encoded", defArgs (mth 67 1), defBody (mth 67 1), defScope (mth 67 1), [.bl false], []⟩
def d28 : He.DefD := ⟨("Encoder", some "getstate"), "getstate", "Encoder.getstate", defArgs (mth 67 3), defBody (mth 67 3), defScope (mth 67 3), [], []⟩
def d29 : He.DefD := ⟨("Registry", some "encoded"), "encoded", "Registry.encoded", defArgs (mth 117 8), defBody (mth 117 8), defScope (mth 117 8), [.str "utf-8", .str "strict"], []⟩
def d30 : He.DefD := ⟨("_law_right", none), "_law_right", "_law_right", defArgs (top 129), defBody (top 129), defScope (top 129), [], []⟩
def d31 : He.DefD := ⟨("law", none), "law", "law", defArgs (top 130), defBody (top 130), defScope (top 130), [], []⟩
def fn : List He.DefD := [d0, d1, d2, d3, d4, d5, d6, d7, d8, d9, d10, d11, d12, d13, d14, d15, d16, d17, d18, d19, d20, d21, d22, d23, d24, d25, d26, d27, d28, d29, d30, d31]
def fa : List He.Fa := [.glo "_law_draw", .glo "_law_pick", .glo "_law_source", .glo "_law_text", .glo "_law_same", .glo "_law_digits", .glo "_law_escaped", .glo "_law_due", .glo "_law_handed", .glo "_law_codes_e", .glo "digits_of", .glo "far_escape", .glo "near_escape", .glo "write_escape", .glo "write_raw_escape", .glo "normal_name", .glo "known_name", .glo "encoder_of", .glo "_law_right", .glo "law", .free "len", .free "int", .free "tuple", .free "list", .free "isinstance", .free "all", .free "any", .free "sum", .free "min", .free "max", .free "range", .free "zip", .free "enumerate", .free "bool", .free "str", .free "dict", .free "ord", .cls "Answers", .noat "Answers" "registry", .noat "Answers" "errors", .noat "Answers" "handler", .cls "Registry", .noat "Registry" "searchers", .noat "Registry" "found_codecs", .noat "Registry" "own_handlers", .cls "Codec", .noat "Codec" "registry", .noat "Codec" "name", .noat "Codec" "kind", .noat "Codec" "table", .noat "Codec" "back", .cls "Encoder", .noat "Encoder" "codec", .noat "Encoder" "errors", .mkr "Answers", .glo "Answers", .mkr "Registry", .glo "Registry", .mkr "Codec", .glo "Codec", .mkr "Encoder", .glo "Encoder", .meth "Registry" "known_codec", .meth "Registry" "searched", .meth "Registry" "lookup", .meth "Codec" "encoded", .meth "Codec" "incremental_encoder", .meth "Encoder" "encoded", .meth "Encoder" "getstate", .meth "Registry" "encoded"]
def gv : List (Str × Dat) := [("SIGNS_codes", .tup (di signsL)), ("SIGNS_registry", .str sgns)]
def ats : List (Str × Str) := [("Answers", "registry"), ("Answers", "errors"), ("Answers", "handler"), ("Registry", "searchers"), ("Registry", "found_codecs"), ("Registry", "own_handlers"), ("Codec", "registry"), ("Codec", "name"), ("Codec", "kind"), ("Codec", "table"), ("Codec", "back"), ("Encoder", "codec"), ("Encoder", "errors")]
def dcs : List (Str × List (Key × Dat)) := [("CODECS", codecsD), ("TABLES", tablesL), ("SHORT", shortL), ("MARKS_incremental", marksL), ("WRITERS", writersL)]
theorem says (w : World) : He.SaysD fa fn (K w) := by
  show He.obsD fa fn (K w) = He.valD fn
  kernel_rfl
theorem gv_0 (w : World) : gvB (K w) ("SIGNS_codes", .tup (di signsL)) = true := by kernel_rfl
theorem gv_1 (w : World) : gvB (K w) ("SIGNS_registry", .str sgns) = true := by kernel_rfl
theorem dc_0 (w : World) : KdSays (K w) w "CODECS" (codecsD) := ⟨by kernel_rfl, by kernel_rfl, by kernel_rfl⟩
theorem dc_1 (w : World) : KdSays (K w) w "TABLES" (tablesL) := ⟨by kernel_rfl, by kernel_rfl, by kernel_rfl⟩
theorem dc_2 (w : World) : KdSays (K w) w "SHORT" (shortL) := ⟨by kernel_rfl, by kernel_rfl, by kernel_rfl⟩
theorem dc_3 (w : World) : KdSays (K w) w "MARKS_incremental" (marksL) := ⟨by kernel_rfl, by kernel_rfl, by kernel_rfl⟩
theorem dc_4 (w : World) : KdSays (K w) w "WRITERS" (writersL) := ⟨by kernel_rfl, by kernel_rfl, by kernel_rfl⟩
section
variable {P : Program} {w : World} {K : PySem.W.Frag} {mg : Str → Option Value} {base : Heap}
abbrev FnP (K : PySem.W.Frag) (x q : Str) (s : Stmt) (dvs : List V) (f : Addr) (fd : FuncData) : Prop := FunD K x q (defArgs s) (defBody s) (defScope s) dvs [] f fd
abbrev tab0 : Tab := { gl := tyGl ++ gv, ats := ats, dcs := dcs }
theorem sc_0 : scopeB ["_law_source_here", "_law_many", "_law_seed", "_law_digit"] ["_law_source_here", "_law_many"] (defScope (top 120)) = true := by kernel_rfl
theorem co_0 : corSs ⟨["_law_source_here", "_law_many", "_law_seed", "_law_digit"], defScope (top 120), true⟩ b_draw (defBody (top 120)) = true := by kernel_rfl
theorem ok_0 {f : Addr} {fd : FuncData} (FD : FnP K "_law_draw" "_law_draw" (top 120) [] f fd) (tb : TbOk P w K mg base (Gm tab0) 0) : FnOk P w K mg base (L2.CX P w) (0 + 1) f fd ["_law_source_here", "_law_many"] (spOf K (f_draw)) :=
  fnOk FD sc_0 rfl tb co_0 (ok_draw _ _ rfl)
abbrev tab1 : Tab := { tab0 with fns := ("_law_draw", f_draw) :: tab0.fns }
theorem sc_1 : scopeB ["_law_source_here", "_law_some"] ["_law_source_here", "_law_some"] (defScope (top 121)) = true := by kernel_rfl
theorem co_1 : corSs ⟨["_law_source_here", "_law_some"], defScope (top 121), true⟩ b_pick (defBody (top 121)) = true := by kernel_rfl
theorem ok_1 {f : Addr} {fd : FuncData} (FD : FnP K "_law_pick" "_law_pick" (top 121) [] f fd) (tb : TbOk P w K mg base (Gm tab1) 1) : FnOk P w K mg base (L2.CX P w) (1 + 1) f fd ["_law_source_here", "_law_some"] (spOf K (f_pick)) :=
  fnOk FD sc_1 rfl tb co_1 (ok_pick _ (by kernel_rfl) _ rfl)
abbrev tab2 : Tab := { tab1 with fns := ("_law_pick", f_pick) :: tab1.fns }
theorem sc_2 : scopeB ["_law_script", "_law_k", "_law_cell", "_law_deep"] ["_law_script", "_law_k"] (defScope (top 119)) = true := by kernel_rfl
theorem co_2 : corSs ⟨["_law_script", "_law_k", "_law_cell", "_law_deep"], defScope (top 119), true⟩ b_source (defBody (top 119)) = true := by kernel_rfl
theorem ok_2 {f : Addr} {fd : FuncData} (FD : FnP K "_law_source" "_law_source" (top 119) [] f fd) (tb : TbOk P w K mg base (Gm tab2) 2) : FnOk P w K mg base (L2.CX P w) (2 + 1) f fd ["_law_script", "_law_k"] (spOf K (f_source)) :=
  fnOk FD sc_2 rfl tb co_2 (ok_source _ _ rfl)
abbrev tab3 : Tab := { tab2 with fns := ("_law_source", f_source) :: tab2.fns }
theorem sc_3 : scopeB ["_law_word", "_law_sign"] ["_law_word"] (defScope (top 122)) = true := by kernel_rfl
theorem co_3 : corSs ⟨["_law_word", "_law_sign"], defScope (top 122), true⟩ b__law_text (defBody (top 122)) = true := by kernel_rfl
theorem ok_3 {f : Addr} {fd : FuncData} (FD : FnP K "_law_text" "_law_text" (top 122) [] f fd) (tb : TbOk P w K mg base (Gm tab3) 3) : FnOk P w K mg base (L2.CX P w) (3 + 1) f fd ["_law_word"] (spOf K (f_ltx)) :=
  fnOk FD sc_3 rfl tb co_3 (ok_ltx _ _ rfl)
abbrev tab4 : Tab := { tab3 with fns := ("_law_text", f_ltx) :: tab3.fns }
theorem sc_4 : scopeB ["_law_found", "_law_due_here", "_law_one", "_law_two"] ["_law_found", "_law_due_here"] (defScope (top 124)) = true := by kernel_rfl
theorem co_4 : corSs ⟨["_law_found", "_law_due_here", "_law_one", "_law_two"], defScope (top 124), true⟩ b_same (defBody (top 124)) = true := by kernel_rfl
theorem ok_4 {f : Addr} {fd : FuncData} (FD : FnP K "_law_same" "_law_same" (top 124) [] f fd) (tb : TbOk P w K mg base (Gm tab4) 4) : FnOk P w K mg base (L2.CX P w) (4 + 1) f fd ["_law_found", "_law_due_here"] (spOf K (f_same 0)) :=
  fnOk FD sc_4 rfl tb co_4 (ok_same0 _ ⟨by kernel_rfl, by kernel_rfl, by kernel_rfl, by kernel_rfl⟩ _ rfl)
abbrev tab5 : Tab := { tab4 with fns := ("_law_same", f_same 0) :: tab4.fns }
theorem ok_5 {f : Addr} {fd : FuncData} (FD : FnP K "_law_same" "_law_same" (top 124) [] f fd) (tb : TbOk P w K mg base (Gm tab5) 5) : FnOk P w K mg base (L2.CX P w) (5 + 1) f fd ["_law_found", "_law_due_here"] (spOf K (f_same 1)) :=
  fnOk FD sc_4 rfl tb co_4 (ok_same _ 0 ⟨by kernel_rfl, by kernel_rfl, by kernel_rfl, by kernel_rfl⟩ (by kernel_rfl) _ rfl)
abbrev tab6 : Tab := { tab5 with fns := ("_law_same", f_same 1) :: tab5.fns }
theorem ok_6 {f : Addr} {fd : FuncData} (FD : FnP K "_law_same" "_law_same" (top 124) [] f fd) (tb : TbOk P w K mg base (Gm tab6) 6) : FnOk P w K mg base (L2.CX P w) (6 + 1) f fd ["_law_found", "_law_due_here"] (spOf K (f_same 2)) :=
  fnOk FD sc_4 rfl tb co_4 (ok_same _ 1 ⟨by kernel_rfl, by kernel_rfl, by kernel_rfl, by kernel_rfl⟩ (by kernel_rfl) _ rfl)
abbrev tab7 : Tab := { tab6 with fns := ("_law_same", f_same 2) :: tab6.fns }
theorem sc_7 : scopeB ["_law_number", "_law_many", "_law_found", "_law_k"] ["_law_number", "_law_many"] (defScope (top 125)) = true := by kernel_rfl
theorem co_7 : corSs ⟨["_law_number", "_law_many", "_law_found", "_law_k"], defScope (top 125), true⟩ b__law_digits (defBody (top 125)) = true := by kernel_rfl
theorem ok_7 {f : Addr} {fd : FuncData} (FD : FnP K "_law_digits" "_law_digits" (top 125) [] f fd) (tb : TbOk P w K mg base (Gm tab7) 7) : FnOk P w K mg base (L2.CX P w) (7 + 1) f fd ["_law_number", "_law_many"] (spOf K (f_ldigits)) :=
  fnOk FD sc_7 rfl tb co_7 (ok_ldigits _ (by kernel_rfl) _ rfl)
abbrev tab8 : Tab := { tab7 with fns := ("_law_digits", f_ldigits) :: tab7.fns }
theorem sc_8 : scopeB ["_law_code", "_law_is_raw", "_law_short"] ["_law_code", "_law_is_raw"] (defScope (top 126)) = true := by kernel_rfl
theorem co_8 : corSs ⟨["_law_code", "_law_is_raw", "_law_short"], defScope (top 126), true⟩ b__law_escaped (defBody (top 126)) = true := by kernel_rfl
theorem ok_8 {f : Addr} {fd : FuncData} (FD : FnP K "_law_escaped" "_law_escaped" (top 126) [] f fd) (tb : TbOk P w K mg base (Gm tab8) 8) : FnOk P w K mg base (L2.CX P w) (8 + 1) f fd ["_law_code", "_law_is_raw"] (spOf K (f_lesc)) :=
  fnOk FD sc_8 rfl tb co_8 (ok_lesc _ (by kernel_rfl) _ rfl)
abbrev tab9 : Tab := { tab8 with fns := ("_law_escaped", f_lesc) :: tab8.fns }
theorem sc_9 : scopeB ["_law_codes", "_law_is_raw", "_law_found", "_law_code"] ["_law_codes", "_law_is_raw"] (defScope (top 128)) = true := by kernel_rfl
theorem co_9 : corSs ⟨["_law_codes", "_law_is_raw", "_law_found", "_law_code"], defScope (top 128), true⟩ b__law_due (defBody (top 128)) = true := by kernel_rfl
theorem ok_9 {f : Addr} {fd : FuncData} (FD : FnP K "_law_due" "_law_due" (top 128) [] f fd) (tb : TbOk P w K mg base (Gm tab9) 9) : FnOk P w K mg base (L2.CX P w) (9 + 1) f fd ["_law_codes", "_law_is_raw"] (spOf K (f_due)) :=
  fnOk FD sc_9 rfl tb co_9 (ok_due _ (by kernel_rfl) _ rfl)
abbrev tab10 : Tab := { tab9 with fns := ("_law_due", f_due) :: tab9.fns }
theorem sc_10 : scopeB ["_law_source_here", "_law_codes"] ["_law_source_here", "_law_codes"] (defScope (top 123)) = true := by kernel_rfl
theorem co_10 : corSs ⟨["_law_source_here", "_law_codes"], defScope (top 123), true⟩ b_handed (defBody (top 123)) = true := by kernel_rfl
theorem ok_10 {f : Addr} {fd : FuncData} (FD : FnP K "_law_handed" "_law_handed" (top 123) [] f fd) (tb : TbOk P w K mg base (Gm tab10) 10) : FnOk P w K mg base (L2.CX P w) (10 + 1) f fd ["_law_source_here", "_law_codes"] (spOf K (f_handed)) :=
  fnOk FD sc_10 rfl tb co_10 (ok_handed _ (by kernel_rfl) _ rfl)
abbrev tab11 : Tab := { tab10 with fns := ("_law_handed", f_handed) :: tab10.fns }
theorem sc_11 : scopeB ["_law_source_here", "_law_most", "_law_some", "_law_k"] ["_law_source_here", "_law_most"] (defScope (top 127)) = true := by kernel_rfl
theorem co_11 : corSs ⟨["_law_source_here", "_law_most", "_law_some", "_law_k"], defScope (top 127), true⟩ b__law_codes_e (defBody (top 127)) = true := by kernel_rfl
theorem ok_11 {f : Addr} {fd : FuncData} (FD : FnP K "_law_codes_e" "_law_codes_e" (top 127) [] f fd) (tb : TbOk P w K mg base (Gm tab11) 11) : FnOk P w K mg base (L2.CX P w) (11 + 1) f fd ["_law_source_here", "_law_most"] (spOf K (f_codesE)) :=
  fnOk FD sc_11 rfl tb co_11 (ok_codesE _ (by kernel_rfl) (by kernel_rfl) _ rfl)
abbrev tab12 : Tab := { tab11 with fns := ("_law_codes_e", f_codesE) :: tab11.fns }
theorem sc_12 : scopeB ["number", "many", "found"] ["number", "many"] (defScope (top 13)) = true := by kernel_rfl
theorem co_12 : corSs ⟨["number", "many", "found"], defScope (top 13), true⟩ b_digits_of (defBody (top 13)) = true := by kernel_rfl
theorem ok_12 {f : Addr} {fd : FuncData} (FD : FnP K "digits_of" "digits_of" (top 13) [] f fd) (tb : TbOk P w K mg base (Gm tab12) 12) : FnOk P w K mg base (L2.CX P w) (12 + 1) f fd ["number", "many"] (spOf K (f_digitsOf)) :=
  fnOk FD sc_12 rfl tb co_12 (ok_digitsOf _ (by kernel_rfl) _ rfl)
abbrev tab13 : Tab := { tab12 with fns := ("digits_of", f_digitsOf) :: tab12.fns }
theorem sc_13 : scopeB ["code"] ["code"] (defScope (top 42)) = true := by kernel_rfl
theorem co_13 : corSs ⟨["code"], defScope (top 42), true⟩ b_far_escape (defBody (top 42)) = true := by kernel_rfl
theorem ok_13 {f : Addr} {fd : FuncData} (FD : FnP K "far_escape" "far_escape" (top 42) [] f fd) (tb : TbOk P w K mg base (Gm tab13) 13) : FnOk P w K mg base (L2.CX P w) (13 + 1) f fd ["code"] (spOf K (f_far)) :=
  fnOk FD sc_13 rfl tb co_13 (ok_far _ (by kernel_rfl) _ rfl)
abbrev tab14 : Tab := { tab13 with fns := ("far_escape", f_far) :: tab13.fns }
theorem sc_14 : scopeB ["code"] ["code"] (defScope (top 43)) = true := by kernel_rfl
theorem co_14 : corSs ⟨["code"], defScope (top 43), true⟩ b_near_escape (defBody (top 43)) = true := by kernel_rfl
theorem ok_14 {f : Addr} {fd : FuncData} (FD : FnP K "near_escape" "near_escape" (top 43) [] f fd) (tb : TbOk P w K mg base (Gm tab14) 14) : FnOk P w K mg base (L2.CX P w) (14 + 1) f fd ["code"] (spOf K (f_near)) :=
  fnOk FD sc_14 rfl tb co_14 (ok_near _ (by kernel_rfl) (by kernel_rfl) (by kernel_rfl) _ rfl)
abbrev tab15 : Tab := { tab14 with fns := ("near_escape", f_near) :: tab14.fns }
theorem sc_15 : scopeB ["source", "answers", "found", "code"] ["source", "answers"] (defScope (top 44)) = true := by kernel_rfl
theorem co_15 : corSs ⟨["source", "answers", "found", "code"], defScope (top 44), true⟩ b_write_escape (defBody (top 44)) = true := by kernel_rfl
theorem ok_15 {f : Addr} {fd : FuncData} (FD : FnP K "write_escape" "write_escape" (top 44) [] f fd) (tb : TbOk P w K mg base (Gm tab15) 15) : FnOk P w K mg base (L2.CX P w) (15 + 1) f fd ["source", "answers"] (spOf K (f_write false)) :=
  fnOk FD sc_15 rfl tb co_15 (ok_write_escape _ (by kernel_rfl) _ rfl)
abbrev tab16 : Tab := { tab15 with fns := ("write_escape", f_write false) :: tab15.fns }
theorem sc_16 : scopeB ["source", "answers", "found", "code"] ["source", "answers"] (defScope (top 45)) = true := by kernel_rfl
theorem co_16 : corSs ⟨["source", "answers", "found", "code"], defScope (top 45), true⟩ b_write_raw_escape (defBody (top 45)) = true := by kernel_rfl
theorem ok_16 {f : Addr} {fd : FuncData} (FD : FnP K "write_raw_escape" "write_raw_escape" (top 45) [] f fd) (tb : TbOk P w K mg base (Gm tab16) 16) : FnOk P w K mg base (L2.CX P w) (16 + 1) f fd ["source", "answers"] (spOf K (f_write true)) :=
  fnOk FD sc_16 rfl tb co_16 (ok_write_raw _ (by kernel_rfl) _ rfl)
abbrev tab17 : Tab := { tab16 with fns := ("write_raw_escape", f_write true) :: tab16.fns }
theorem sc_17 : scopeB ["name", "sign", "found", "is_apart", "small"] ["name"] (defScope (top 115)) = true := by kernel_rfl
theorem co_17 : corSs ⟨["name", "sign", "found", "is_apart", "small"], defScope (top 115), true⟩ b_normal_name (defBody (top 115)) = true := by kernel_rfl
theorem ok_17 {f : Addr} {fd : FuncData} (FD : FnP K "normal_name" "normal_name" (top 115) [] f fd) (tb : TbOk P w K mg base (Gm tab17) 17) : FnOk P w K mg base (L2.CX P w) (17 + 1) f fd ["name"] (spOf K (f_normal)) :=
  fnOk FD sc_17 rfl tb co_17 (ok_normal _ (by kernel_rfl) _ rfl)
abbrev tab18 : Tab := { tab17 with fns := ("normal_name", f_normal) :: tab17.fns }
theorem sc_18 : scopeB ["normal", "name"] ["normal"] (defScope (top 116)) = true := by kernel_rfl
theorem co_18 : corSs ⟨["normal", "name"], defScope (top 116), true⟩ b_known_name (defBody (top 116)) = true := by kernel_rfl
theorem ok_18 {f : Addr} {fd : FuncData} (FD : FnP K "known_name" "known_name" (top 116) [] f fd) (tb : TbOk P w K mg base (Gm tab18) 18) : FnOk P w K mg base (L2.CX P w) (18 + 1) f fd ["normal"] (spOf K (f_knownName)) :=
  fnOk FD sc_18 rfl tb co_18 (ok_knownName _ (by kernel_rfl) _ rfl)
abbrev tab19 : Tab := { tab18 with fns := ("known_name", f_knownName) :: tab18.fns }
theorem sc_19 : scopeB ["self", "registry", "errors"] ["self", "registry", "errors"] (defScope (mth 62 0)) = true := by kernel_rfl
theorem co_19 : corSs ⟨["self", "registry", "errors"], defScope (mth 62 0), true⟩ b_Answers___init__ (defBody (mth 62 0)) = true := by kernel_rfl
theorem ok_19 {f : Addr} {fd : FuncData} (FD : FnP K "__init__" "Answers.__init__" (mth 62 0) [] f fd) (tb : TbOk P w K mg base (Gm tab19) 19) : FnOk P w K mg base (L2.CX P w) (19 + 1) f fd ["self", "registry", "errors"] (spOf K (f_ansInit)) :=
  fnOk FD sc_19 rfl tb co_19 (ok_ansInit _ (by intro f hf; simp only [List.mem_cons, List.not_mem_nil, or_false] at hf; rcases hf with rfl | rfl | rfl <;> kernel_rfl) _ rfl)
abbrev tab20 : Tab := { tab19 with mks := ("Answers", f_ansInit) :: tab19.mks }
theorem sc_20 : scopeB ["self"] ["self"] (defScope (mth 117 0)) = true := by kernel_rfl
theorem co_20 : corSs ⟨["self"], defScope (mth 117 0), true⟩ b_Registry___init__ (defBody (mth 117 0)) = true := by kernel_rfl
theorem ok_20 {f : Addr} {fd : FuncData} (FD : FnP K "__init__" "Registry.__init__" (mth 117 0) [] f fd) (tb : TbOk P w K mg base (Gm tab20) 21) : FnOk P w K mg base (L2.CX P w) (21 + 1) f fd ["self"] (spOf K (f_regInit)) :=
  fnOk FD sc_20 rfl tb co_20 (ok_regInit _ (by intro f hf; simp only [List.mem_cons, List.not_mem_nil, or_false] at hf; rcases hf with rfl | rfl | rfl <;> kernel_rfl) _ rfl)
abbrev tab21 : Tab := { tab20 with mks := ("Registry", f_regInit) :: tab20.mks }
theorem sc_21 : scopeB ["self", "registry", "name", "kind", "table", "back"] ["self", "registry", "name", "kind", "table", "back"] (defScope (mth 111 0)) = true := by kernel_rfl
theorem co_21 : corSs ⟨["self", "registry", "name", "kind", "table", "back"], defScope (mth 111 0), true⟩ b_Codec___init__ (defBody (mth 111 0)) = true := by kernel_rfl
theorem ok_21 {f : Addr} {fd : FuncData} (FD : FnP K "__init__" "Codec.__init__" (mth 111 0) [V.non, V.non] f fd) (tb : TbOk P w K mg base (Gm tab21) 23) : FnOk P w K mg base (L2.CX P w) (23 + 1) f fd ["self", "registry", "name", "kind", "table", "back"] (spOf K (f_codInit)) :=
  fnOk FD sc_21 rfl tb co_21 (ok_codInit _ (by intro f hf; simp only [List.mem_cons, List.not_mem_nil, or_false] at hf; rcases hf with rfl | rfl | rfl | rfl | rfl <;> kernel_rfl) _ rfl)
abbrev tab22 : Tab := { tab21 with mks := ("Codec", f_codInit) :: tab21.mks }
theorem sc_22 : scopeB ["self", "codec", "errors"] ["self", "codec", "errors"] (defScope (mth 67 0)) = true := by kernel_rfl
theorem co_22 : corSs ⟨["self", "codec", "errors"], defScope (mth 67 0), true⟩ b_Encoder___init__ (defBody (mth 67 0)) = true := by kernel_rfl
theorem ok_22 {f : Addr} {fd : FuncData} (FD : FnP K "__init__" "Encoder.__init__" (mth 67 0) [] f fd) (tb : TbOk P w K mg base (Gm tab22) 25) : FnOk P w K mg base (L2.CX P w) (25 + 1) f fd ["self", "codec", "errors"] (spOf K (f_encInit)) :=
  fnOk FD sc_22 rfl tb co_22 (ok_encInit _ (by intro f hf; simp only [List.mem_cons, List.not_mem_nil, or_false] at hf; rcases hf with rfl | rfl <;> kernel_rfl) _ rfl)
abbrev tab23 : Tab := { tab22 with mks := ("Encoder", f_encInit) :: tab22.mks }
theorem sc_23 : scopeB ["self", "name"] ["self", "name"] (defScope (mth 117 6)) = true := by kernel_rfl
theorem co_23 : corSs ⟨["self", "name"], defScope (mth 117 6), true⟩ b_Registry_known_codec (defBody (mth 117 6)) = true := by kernel_rfl
theorem ok_23 {f : Addr} {fd : FuncData} (FD : FnP K "known_codec" "Registry.known_codec" (mth 117 6) [] f fd) (tb : TbOk P w K mg base (Gm tab23) 27) : FnOk P w K mg base (L2.CX P w) (27 + 1) f fd ["self", "name"] (spOf K (f_knownCodec)) :=
  fnOk FD sc_23 rfl tb co_23 (ok_knownCodec _ ⟨tablesL, by kernel_rfl, tab_none⟩ (by kernel_rfl) _ rfl)
abbrev tab24 : Tab := { tab23 with mss := (("Registry", "known_codec"), f_knownCodec) :: tab23.mss }
theorem sc_24 : scopeB ["self", "normal", "name", "searcher", "codec"] ["self", "normal"] (defScope (mth 117 5)) = true := by kernel_rfl
theorem co_24 : corSs ⟨["self", "normal", "name", "searcher", "codec"], defScope (mth 117 5), true⟩ b_Registry_searched (defBody (mth 117 5)) = true := by kernel_rfl
theorem ok_24 {f : Addr} {fd : FuncData} (FD : FnP K "searched" "Registry.searched" (mth 117 5) [] f fd) (tb : TbOk P w K mg base (Gm tab24) 28) : FnOk P w K mg base (L2.CX P w) (28 + 1) f fd ["self", "normal"] (spOf K (f_searched)) :=
  fnOk FD sc_24 rfl tb co_24 (ok_searched _ (by kernel_rfl) (by kernel_rfl) _ rfl)
abbrev tab25 : Tab := { tab24 with mss := (("Registry", "searched"), f_searched) :: tab24.mss }
theorem sc_25 : scopeB ["self", "name", "normal", "codec"] ["self", "name"] (defScope (mth 117 4)) = true := by kernel_rfl
theorem co_25 : corSs ⟨["self", "name", "normal", "codec"], defScope (mth 117 4), true⟩ b_Registry_lookup (defBody (mth 117 4)) = true := by kernel_rfl
theorem ok_25 {f : Addr} {fd : FuncData} (FD : FnP K "lookup" "Registry.lookup" (mth 117 4) [] f fd) (tb : TbOk P w K mg base (Gm tab25) 29) : FnOk P w K mg base (L2.CX P w) (29 + 1) f fd ["self", "name"] (spOf K (f_lookup)) :=
  fnOk FD sc_25 rfl tb co_25 (ok_lookup _ (by kernel_rfl) (by kernel_rfl) (by kernel_rfl) _ rfl)
abbrev tab26 : Tab := { tab25 with mss := (("Registry", "lookup"), f_lookup) :: tab25.mss }
theorem sc_26 : scopeB ["self", "source", "errors", "write", "answers"] ["self", "source", "errors"] (defScope (mth 111 2)) = true := by kernel_rfl
theorem co_26 : corSs ⟨["self", "source", "errors", "write", "answers"], defScope (mth 111 2), true⟩ b_Codec_encoded (defBody (mth 111 2)) = true := by kernel_rfl
theorem ok_26 {f : Addr} {fd : FuncData} (FD : FnP K "encoded" "Codec.encoded" (mth 111 2) [V.str "strict"] f fd) (tb : TbOk P w K mg base (Gm tab26) 30) : FnOk P w K mg base (L2.CX P w) (30 + 1) f fd ["self", "source", "errors"] (spOf K (f_encoded)) :=
  fnOk FD sc_26 rfl tb co_26 (ok_encoded _ (by kernel_rfl) (by intro f hf; simp only [List.mem_cons, List.not_mem_nil, or_false] at hf; rcases hf with rfl | rfl | rfl | rfl | rfl <;> kernel_rfl) (by kernel_rfl) (by kernel_rfl) (by kernel_rfl) _ rfl)
abbrev tab27 : Tab := { tab26 with mss := (("Codec", "encoded"), f_encoded) :: tab26.mss }
theorem sc_27 : scopeB ["codec", "errors"] ["codec", "errors"] (defScope (top 70)) = true := by kernel_rfl
theorem co_27 : corSs ⟨["codec", "errors"], defScope (top 70), true⟩ b_encoder_of (defBody (top 70)) = true := by kernel_rfl
theorem ok_27 {f : Addr} {fd : FuncData} (FD : FnP K "encoder_of" "encoder_of" (top 70) [] f fd) (tb : TbOk P w K mg base (Gm tab27) 31) : FnOk P w K mg base (L2.CX P w) (31 + 1) f fd ["codec", "errors"] (spOf K (f_encOf)) :=
  fnOk FD sc_27 rfl tb co_27 (ok_encOf _ ⟨marksL, by kernel_rfl, by intro raw; cases raw <;> rfl⟩ (by kernel_rfl) (by intro f hf; simp only [List.mem_cons, List.not_mem_nil, or_false] at hf; rcases hf with rfl | rfl | rfl | rfl | rfl <;> kernel_rfl) _ rfl)
abbrev tab28 : Tab := { tab27 with fns := ("encoder_of", f_encOf) :: tab27.fns }
theorem sc_28 : scopeB ["self", "errors"] ["self", "errors"] (defScope (mth 111 4)) = true := by kernel_rfl
theorem co_28 : corSs ⟨["self", "errors"], defScope (mth 111 4), true⟩ b_Codec_incremental_encoder (defBody (mth 111 4)) = true := by kernel_rfl
theorem ok_28 {f : Addr} {fd : FuncData} (FD : FnP K "incremental_encoder" "Codec.incremental_encoder" (mth 111 4) [V.str "strict"] f fd) (tb : TbOk P w K mg base (Gm tab28) 32) : FnOk P w K mg base (L2.CX P w) (32 + 1) f fd ["self", "errors"] (spOf K (f_incEnc)) :=
  fnOk FD sc_28 rfl tb co_28 (ok_incEnc _ (by kernel_rfl) _ rfl)
abbrev tab29 : Tab := { tab28 with mss := (("Codec", "incremental_encoder"), f_incEnc) :: tab28.mss }
theorem sc_29 : scopeB ["self", "source", "final"] ["self", "source", "final"] (defScope (mth 67 1)) = true := by kernel_rfl
theorem co_29 : corSs ⟨["self", "source", "final"], defScope (mth 67 1), true⟩ b_Encoder_encoded (defBody (mth 67 1)) = true := by kernel_rfl
theorem ok_29 {f : Addr} {fd : FuncData} (FD : FnP K "encoded" "Encoder.encoded" (mth 67 1) [V.bl false] f fd) (tb : TbOk P w K mg base (Gm tab29) 33) : FnOk P w K mg base (L2.CX P w) (33 + 1) f fd ["self", "source", "final"] (spOf K (f_encEnc)) :=
  fnOk FD sc_29 rfl tb co_29 (ok_encEnc _ (by kernel_rfl) (by intro f hf; simp only [List.mem_cons, List.not_mem_nil, or_false] at hf; rcases hf with rfl | rfl <;> kernel_rfl) _ rfl)
abbrev tab30 : Tab := { tab29 with mss := (("Encoder", "encoded"), f_encEnc) :: tab29.mss }
theorem sc_30 : scopeB ["self"] ["self"] (defScope (mth 67 3)) = true := by kernel_rfl
theorem co_30 : corSs ⟨["self"], defScope (mth 67 3), true⟩ b_Encoder_getstate (defBody (mth 67 3)) = true := by kernel_rfl
theorem ok_30 {f : Addr} {fd : FuncData} (FD : FnP K "getstate" "Encoder.getstate" (mth 67 3) [] f fd) (tb : TbOk P w K mg base (Gm tab30) 34) : FnOk P w K mg base (L2.CX P w) (34 + 1) f fd ["self"] (spOf K (f_getstate)) :=
  fnOk FD sc_30 rfl tb co_30 (ok_getstate _ _ rfl)
abbrev tab31 : Tab := { tab30 with mss := (("Encoder", "getstate"), f_getstate) :: tab30.mss }
theorem sc_31 : scopeB ["self", "source", "name", "errors"] ["self", "source", "name", "errors"] (defScope (mth 117 8)) = true := by kernel_rfl
theorem co_31 : corSs ⟨["self", "source", "name", "errors"], defScope (mth 117 8), true⟩ b_Registry_encoded (defBody (mth 117 8)) = true := by kernel_rfl
theorem ok_31 {f : Addr} {fd : FuncData} (FD : FnP K "encoded" "Registry.encoded" (mth 117 8) [V.str "utf-8", V.str "strict"] f fd) (tb : TbOk P w K mg base (Gm tab31) 35) : FnOk P w K mg base (L2.CX P w) (35 + 1) f fd ["self", "source", "name", "errors"] (spOf K (f_regEnc)) :=
  fnOk FD sc_31 rfl tb co_31 (ok_regEnc _ (by kernel_rfl) (by kernel_rfl) _ rfl)
abbrev tab32 : Tab := { tab31 with mss := (("Registry", "encoded"), f_regEnc) :: tab31.mss }
theorem sc_32 : scopeB ["_law_source_here", "_law_is_raw", "_law_name", "_law_time", "_law_registry", "_law_codes", "_law_codec", "_law_due_here", "_law_encoder", "_law_place", "_law_piece", "_law_handed_here", "_law_errors"] ["_law_source_here", "_law_is_raw"] (defScope (top 129)) = true := by kernel_rfl
theorem co_32 : corSs ⟨["_law_source_here", "_law_is_raw", "_law_name", "_law_time", "_law_registry", "_law_codes", "_law_codec", "_law_due_here", "_law_encoder", "_law_place", "_law_piece", "_law_handed_here", "_law_errors"], defScope (top 129), true⟩ b__law_right (defBody (top 129)) = true := by kernel_rfl
theorem ok_32 {f : Addr} {fd : FuncData} (FD : FnP K "_law_right" "_law_right" (top 129) [] f fd) (tb : TbOk P w K mg base (Gm tab32) 36) : FnOk P w K mg base (L2.CX P w) (36 + 1) f fd ["_law_source_here", "_law_is_raw"] (spOf K (f_right)) :=
  fnOk FD sc_32 rfl tb co_32 (ok_right _ ⟨(by kernel_rfl), (by kernel_rfl), (by kernel_rfl), (by kernel_rfl), (by kernel_rfl), (by kernel_rfl), (by kernel_rfl), (by kernel_rfl), (by kernel_rfl), (by kernel_rfl), (by kernel_rfl), (by kernel_rfl), (by kernel_rfl), (by kernel_rfl), (by intro f hf; simp only [List.mem_cons, List.not_mem_nil, or_false] at hf; rcases hf with rfl | rfl | rfl | rfl | rfl <;> kernel_rfl)⟩ _ rfl)
abbrev tab33 : Tab := { tab32 with fns := ("_law_right", f_right) :: tab32.fns }
theorem sc_33 : scopeB ["_law_script", "_law_turn", "_law_is_raw", "_law_source_here", "_law_codec", "_law_code"] ["_law_script"] (defScope (top 130)) = true := by kernel_rfl
theorem co_33 : corSs ⟨["_law_script", "_law_turn", "_law_is_raw", "_law_source_here", "_law_codec", "_law_code"], defScope (top 130), true⟩ b_law (defBody (top 130)) = true := by kernel_rfl
theorem ok_33 {f : Addr} {fd : FuncData} (FD : FnP K "law" "law" (top 130) [] f fd) (tb : TbOk P w K mg base (Gm tab33) 37) : FnOk P w K mg base (L2.CX P w) (37 + 1) f fd ["_law_script"] (spOf K (f_law)) :=
  fnOk FD sc_33 rfl tb co_33 (ok_law _ ⟨(by kernel_rfl), (by kernel_rfl), (by kernel_rfl), (by kernel_rfl), (by kernel_rfl), (by kernel_rfl), (by kernel_rfl)⟩ _ rfl)
abbrev tab34 : Tab := { tab33 with fns := ("law", f_law) :: tab33.fns }
end
theorem facts {P : Program} {w : World} {h : Heap} {mg : Str → Option Value} {f : Addr} (X : (K w).In h) (G : h.Ns mainGlobals mg) (hfa : mg ("law" : Str) = some (.ref f)) :
    ∃ fd : FuncData, (∀ (s : Shared) (v : Value), BindsTo s fd ⟨[v], []⟩ [("_law_script", v)]) ∧ ∀ base : Heap, FnOk P w (K w) mg base (L2.CX P w) (37 + 1) f fd ["_law_script"] (spOf (K w) (f_law)) := by
  have c := says w
  obtain ⟨fd0, F0⟩ := c.def_ 0 (d := d0) rfl
  have g0 := He.glo_ok X G (c.fact 0 (f := .glo "_law_draw") rfl)
  obtain ⟨fd1, F1⟩ := c.def_ 1 (d := d1) rfl
  have g1 := He.glo_ok X G (c.fact 1 (f := .glo "_law_pick") rfl)
  obtain ⟨fd2, F2⟩ := c.def_ 2 (d := d2) rfl
  have g2 := He.glo_ok X G (c.fact 2 (f := .glo "_law_source") rfl)
  obtain ⟨fd3, F3⟩ := c.def_ 3 (d := d3) rfl
  have g3 := He.glo_ok X G (c.fact 3 (f := .glo "_law_text") rfl)
  obtain ⟨fd4, F4⟩ := c.def_ 4 (d := d4) rfl
  have g4 := He.glo_ok X G (c.fact 4 (f := .glo "_law_same") rfl)
  obtain ⟨fd5, F5⟩ := c.def_ 5 (d := d5) rfl
  have g5 := He.glo_ok X G (c.fact 5 (f := .glo "_law_digits") rfl)
  obtain ⟨fd6, F6⟩ := c.def_ 6 (d := d6) rfl
  have g6 := He.glo_ok X G (c.fact 6 (f := .glo "_law_escaped") rfl)
  obtain ⟨fd7, F7⟩ := c.def_ 7 (d := d7) rfl
  have g7 := He.glo_ok X G (c.fact 7 (f := .glo "_law_due") rfl)
  obtain ⟨fd8, F8⟩ := c.def_ 8 (d := d8) rfl
  have g8 := He.glo_ok X G (c.fact 8 (f := .glo "_law_handed") rfl)
  obtain ⟨fd9, F9⟩ := c.def_ 9 (d := d9) rfl
  have g9 := He.glo_ok X G (c.fact 9 (f := .glo "_law_codes_e") rfl)
  obtain ⟨fd10, F10⟩ := c.def_ 10 (d := d10) rfl
  have g10 := He.glo_ok X G (c.fact 10 (f := .glo "digits_of") rfl)
  obtain ⟨fd11, F11⟩ := c.def_ 11 (d := d11) rfl
  have g11 := He.glo_ok X G (c.fact 11 (f := .glo "far_escape") rfl)
  obtain ⟨fd12, F12⟩ := c.def_ 12 (d := d12) rfl
  have g12 := He.glo_ok X G (c.fact 12 (f := .glo "near_escape") rfl)
  obtain ⟨fd13, F13⟩ := c.def_ 13 (d := d13) rfl
  have g13 := He.glo_ok X G (c.fact 13 (f := .glo "write_escape") rfl)
  obtain ⟨fd14, F14⟩ := c.def_ 14 (d := d14) rfl
  have g14 := He.glo_ok X G (c.fact 14 (f := .glo "write_raw_escape") rfl)
  obtain ⟨fd15, F15⟩ := c.def_ 15 (d := d15) rfl
  have g15 := He.glo_ok X G (c.fact 15 (f := .glo "normal_name") rfl)
  obtain ⟨fd16, F16⟩ := c.def_ 16 (d := d16) rfl
  have g16 := He.glo_ok X G (c.fact 16 (f := .glo "known_name") rfl)
  obtain ⟨fd17, F17⟩ := c.def_ 17 (d := d17) rfl
  obtain ⟨fd18, F18⟩ := c.def_ 18 (d := d18) rfl
  obtain ⟨fd19, F19⟩ := c.def_ 19 (d := d19) rfl
  obtain ⟨fd20, F20⟩ := c.def_ 20 (d := d20) rfl
  obtain ⟨fd21, F21⟩ := c.def_ 21 (d := d21) rfl
  obtain ⟨fd22, F22⟩ := c.def_ 22 (d := d22) rfl
  obtain ⟨fd23, F23⟩ := c.def_ 23 (d := d23) rfl
  obtain ⟨fd24, F24⟩ := c.def_ 24 (d := d24) rfl
  obtain ⟨fd25, F25⟩ := c.def_ 25 (d := d25) rfl
  have g25 := He.glo_ok X G (c.fact 17 (f := .glo "encoder_of") rfl)
  obtain ⟨fd26, F26⟩ := c.def_ 26 (d := d26) rfl
  obtain ⟨fd27, F27⟩ := c.def_ 27 (d := d27) rfl
  obtain ⟨fd28, F28⟩ := c.def_ 28 (d := d28) rfl
  obtain ⟨fd29, F29⟩ := c.def_ 29 (d := d29) rfl
  obtain ⟨fd30, F30⟩ := c.def_ 30 (d := d30) rfl
  have g30 := He.glo_ok X G (c.fact 18 (f := .glo "_law_right") rfl)
  obtain ⟨fd31, F31⟩ := c.def_ 31 (d := d31) rfl
  have g31 := He.glo_ok X G (c.fact 19 (f := .glo "law") rfl)
  have hf : ∀ x ∈ bltNms, mg x = none := fun x hx => by
    simp only [bltNms, List.mem_cons, List.not_mem_nil, or_false] at hx
    rcases hx with rfl | rfl | rfl | rfl | rfl | rfl | rfl | rfl | rfl | rfl | rfl | rfl | rfl | rfl | rfl | rfl | rfl
    · exact He.free_ok X G (c.fact 20 (f := .free "len") rfl)
    · exact He.free_ok X G (c.fact 21 (f := .free "int") rfl)
    · exact He.free_ok X G (c.fact 22 (f := .free "tuple") rfl)
    · exact He.free_ok X G (c.fact 23 (f := .free "list") rfl)
    · exact He.free_ok X G (c.fact 24 (f := .free "isinstance") rfl)
    · exact He.free_ok X G (c.fact 25 (f := .free "all") rfl)
    · exact He.free_ok X G (c.fact 26 (f := .free "any") rfl)
    · exact He.free_ok X G (c.fact 27 (f := .free "sum") rfl)
    · exact He.free_ok X G (c.fact 28 (f := .free "min") rfl)
    · exact He.free_ok X G (c.fact 29 (f := .free "max") rfl)
    · exact He.free_ok X G (c.fact 30 (f := .free "range") rfl)
    · exact He.free_ok X G (c.fact 31 (f := .free "zip") rfl)
    · exact He.free_ok X G (c.fact 32 (f := .free "enumerate") rfl)
    · exact He.free_ok X G (c.fact 33 (f := .free "bool") rfl)
    · exact He.free_ok X G (c.fact 34 (f := .free "str") rfl)
    · exact He.free_ok X G (c.fact 35 (f := .free "dict") rfl)
    · exact He.free_ok X G (c.fact 36 (f := .free "ord") rfl)
  have hg : ∀ q ∈ gv, ∃ u v, RelV v u ∧ (∀ H, Rep (K w) H v q.2) ∧ mg q.1 = some u := fun q hq => by
    simp only [gv, List.mem_cons, List.not_mem_nil, or_false] at hq
    rcases hq with rfl | rfl
    · exact gvB_ok X G (gv_0 w)
    · exact gvB_ok X G (gv_1 w)
  have ha : ∀ q ∈ ats, Cls (K w) (He.ga (K w) q.1) ∧ NoAttr (K w) (He.ga (K w) q.1) q.2 := fun q hq => by
    simp only [ats, List.mem_cons, List.not_mem_nil, or_false] at hq
    rcases hq with rfl | rfl | rfl | rfl | rfl | rfl | rfl | rfl | rfl | rfl | rfl | rfl | rfl
    · exact ⟨He.cls_ok (c.fact 37 (f := .cls "Answers") rfl), He.noat_ok (c.fact 38 (f := .noat "Answers" "registry") rfl)⟩
    · exact ⟨He.cls_ok (c.fact 37 (f := .cls "Answers") rfl), He.noat_ok (c.fact 39 (f := .noat "Answers" "errors") rfl)⟩
    · exact ⟨He.cls_ok (c.fact 37 (f := .cls "Answers") rfl), He.noat_ok (c.fact 40 (f := .noat "Answers" "handler") rfl)⟩
    · exact ⟨He.cls_ok (c.fact 41 (f := .cls "Registry") rfl), He.noat_ok (c.fact 42 (f := .noat "Registry" "searchers") rfl)⟩
    · exact ⟨He.cls_ok (c.fact 41 (f := .cls "Registry") rfl), He.noat_ok (c.fact 43 (f := .noat "Registry" "found_codecs") rfl)⟩
    · exact ⟨He.cls_ok (c.fact 41 (f := .cls "Registry") rfl), He.noat_ok (c.fact 44 (f := .noat "Registry" "own_handlers") rfl)⟩
    · exact ⟨He.cls_ok (c.fact 45 (f := .cls "Codec") rfl), He.noat_ok (c.fact 46 (f := .noat "Codec" "registry") rfl)⟩
    · exact ⟨He.cls_ok (c.fact 45 (f := .cls "Codec") rfl), He.noat_ok (c.fact 47 (f := .noat "Codec" "name") rfl)⟩
    · exact ⟨He.cls_ok (c.fact 45 (f := .cls "Codec") rfl), He.noat_ok (c.fact 48 (f := .noat "Codec" "kind") rfl)⟩
    · exact ⟨He.cls_ok (c.fact 45 (f := .cls "Codec") rfl), He.noat_ok (c.fact 49 (f := .noat "Codec" "table") rfl)⟩
    · exact ⟨He.cls_ok (c.fact 45 (f := .cls "Codec") rfl), He.noat_ok (c.fact 50 (f := .noat "Codec" "back") rfl)⟩
    · exact ⟨He.cls_ok (c.fact 51 (f := .cls "Encoder") rfl), He.noat_ok (c.fact 52 (f := .noat "Encoder" "codec") rfl)⟩
    · exact ⟨He.cls_ok (c.fact 51 (f := .cls "Encoder") rfl), He.noat_ok (c.fact 53 (f := .noat "Encoder" "errors") rfl)⟩
  have hd : ∀ q ∈ dcs, ∃ d vk, mg q.1 = some (.ref d) ∧ KdAt (K w) P w d vk ∧ ∀ H, KRel (K w) H vk q.2 := fun q hq => by
    simp only [dcs, List.mem_cons, List.not_mem_nil, or_false] at hq
    rcases hq with rfl | rfl | rfl | rfl | rfl
    · exact (dc_0 w).ok X G
    · exact (dc_1 w).ok X G
    · exact (dc_2 w).ok X G
    · exact (dc_3 w).ok X G
    · exact (dc_4 w).ok X G
  have e := hfa.symm.trans g31
  cases e
  have bL := FunD.bindsA (ps := ["_law_script"]) F31 fun _ _ _ _ _ _ us hl => match us, hl with | [_], _ => rfl
  refine ⟨fd31, fun s v => bL s [v] rfl, fun base => ?_⟩
  have t0 : TbOk P w (K w) mg base (Gm tab0) 0 := TbOk.nil hf hg ha hd
  have t1 : TbOk P w (K w) mg base (Gm tab1) 1 := TbOk.cons t0 (ok_0 F0 t0) g0 rfl F0.kp (binds_none (F := f_draw) rfl (FunD.bindsN (ps := ["_law_source_here", "_law_many"]) F0 fun _ _ _ _ _ _ us hl => match us, hl with | [_, _], _ => rfl))
  have t2 : TbOk P w (K w) mg base (Gm tab2) 2 := TbOk.cons t1 (ok_1 F1 t1) g1 rfl F1.kp (binds_none (F := f_pick) rfl (FunD.bindsN (ps := ["_law_source_here", "_law_some"]) F1 fun _ _ _ _ _ _ us hl => match us, hl with | [_, _], _ => rfl))
  have t3 : TbOk P w (K w) mg base (Gm tab3) 3 := TbOk.cons t2 (ok_2 F2 t2) g2 rfl F2.kp (binds_none (F := f_source) rfl (FunD.bindsN (ps := ["_law_script", "_law_k"]) F2 fun _ _ _ _ _ _ us hl => match us, hl with | [_, _], _ => rfl))
  have t4 : TbOk P w (K w) mg base (Gm tab4) 4 := TbOk.cons t3 (ok_3 F3 t3) g3 rfl F3.kp (binds_none (F := f_ltx) rfl (FunD.bindsN (ps := ["_law_word"]) F3 fun _ _ _ _ _ _ us hl => match us, hl with | [_], _ => rfl))
  have t5 : TbOk P w (K w) mg base (Gm tab5) 5 := TbOk.cons t4 (ok_4 F4 t4) g4 rfl F4.kp (binds_none (F := f_same 0) rfl (FunD.bindsN (ps := ["_law_found", "_law_due_here"]) F4 fun _ _ _ _ _ _ us hl => match us, hl with | [_, _], _ => rfl))
  have t6 : TbOk P w (K w) mg base (Gm tab6) 6 := TbOk.cons t5 (ok_5 F4 t5) g4 rfl F4.kp (binds_none (F := f_same 1) rfl (FunD.bindsN (ps := ["_law_found", "_law_due_here"]) F4 fun _ _ _ _ _ _ us hl => match us, hl with | [_, _], _ => rfl))
  have t7 : TbOk P w (K w) mg base (Gm tab7) 7 := TbOk.cons t6 (ok_6 F4 t6) g4 rfl F4.kp (binds_none (F := f_same 2) rfl (FunD.bindsN (ps := ["_law_found", "_law_due_here"]) F4 fun _ _ _ _ _ _ us hl => match us, hl with | [_, _], _ => rfl))
  have t8 : TbOk P w (K w) mg base (Gm tab8) 8 := TbOk.cons t7 (ok_7 F5 t7) g5 rfl F5.kp (binds_none (F := f_ldigits) rfl (FunD.bindsN (ps := ["_law_number", "_law_many"]) F5 fun _ _ _ _ _ _ us hl => match us, hl with | [_, _], _ => rfl))
  have t9 : TbOk P w (K w) mg base (Gm tab9) 9 := TbOk.cons t8 (ok_8 F6 t8) g6 rfl F6.kp (binds_none (F := f_lesc) rfl (FunD.bindsN (ps := ["_law_code", "_law_is_raw"]) F6 fun _ _ _ _ _ _ us hl => match us, hl with | [_, _], _ => rfl))
  have t10 : TbOk P w (K w) mg base (Gm tab10) 10 := TbOk.cons t9 (ok_9 F7 t9) g7 rfl F7.kp (binds_none (F := f_due) rfl (FunD.bindsN (ps := ["_law_codes", "_law_is_raw"]) F7 fun _ _ _ _ _ _ us hl => match us, hl with | [_, _], _ => rfl))
  have t11 : TbOk P w (K w) mg base (Gm tab11) 11 := TbOk.cons t10 (ok_10 F8 t10) g8 rfl F8.kp (binds_none (F := f_handed) rfl (FunD.bindsN (ps := ["_law_source_here", "_law_codes"]) F8 fun _ _ _ _ _ _ us hl => match us, hl with | [_, _], _ => rfl))
  have t12 : TbOk P w (K w) mg base (Gm tab12) 12 := TbOk.cons t11 (ok_11 F9 t11) g9 rfl F9.kp (binds_none (F := f_codesE) rfl (FunD.bindsN (ps := ["_law_source_here", "_law_most"]) F9 fun _ _ _ _ _ _ us hl => match us, hl with | [_, _], _ => rfl))
  have t13 : TbOk P w (K w) mg base (Gm tab13) 13 := TbOk.cons t12 (ok_12 F10 t12) g10 rfl F10.kp (binds_none (F := f_digitsOf) rfl (FunD.bindsN (ps := ["number", "many"]) F10 fun _ _ _ _ _ _ us hl => match us, hl with | [_, _], _ => rfl))
  have t14 : TbOk P w (K w) mg base (Gm tab14) 14 := TbOk.cons t13 (ok_13 F11 t13) g11 rfl F11.kp (binds_none (F := f_far) rfl (FunD.bindsN (ps := ["code"]) F11 fun _ _ _ _ _ _ us hl => match us, hl with | [_], _ => rfl))
  have t15 : TbOk P w (K w) mg base (Gm tab15) 15 := TbOk.cons t14 (ok_14 F12 t14) g12 rfl F12.kp (binds_none (F := f_near) rfl (FunD.bindsN (ps := ["code"]) F12 fun _ _ _ _ _ _ us hl => match us, hl with | [_], _ => rfl))
  have t16 : TbOk P w (K w) mg base (Gm tab16) 16 := TbOk.cons t15 (ok_15 F13 t15) g13 rfl F13.kp (binds_none (F := f_write false) rfl (FunD.bindsN (ps := ["source", "answers"]) F13 fun _ _ _ _ _ _ us hl => match us, hl with | [_, _], _ => rfl))
  have t17 : TbOk P w (K w) mg base (Gm tab17) 17 := TbOk.cons t16 (ok_16 F14 t16) g14 rfl F14.kp (binds_none (F := f_write true) rfl (FunD.bindsN (ps := ["source", "answers"]) F14 fun _ _ _ _ _ _ us hl => match us, hl with | [_, _], _ => rfl))
  have t18 : TbOk P w (K w) mg base (Gm tab18) 18 := TbOk.cons t17 (ok_17 F15 t17) g15 rfl F15.kp (binds_none (F := f_normal) rfl (FunD.bindsN (ps := ["name"]) F15 fun _ _ _ _ _ _ us hl => match us, hl with | [_], _ => rfl))
  have t19 : TbOk P w (K w) mg base (Gm tab19) 19 := TbOk.cons t18 (ok_18 F16 t18) g16 rfl F16.kp (binds_none (F := f_knownName) rfl (FunD.bindsN (ps := ["normal"]) F16 fun _ _ _ _ _ _ us hl => match us, hl with | [_], _ => rfl))
  have t20 : TbOk P w (K w) mg base (Gm tab20) 21 := TbOk.consK t19 (ok_19 F17 t19) (He.mkr_ok (c.fact 54 (f := .mkr "Answers") rfl)) (He.glo_ok X G (c.fact 55 (f := .glo "Answers") rfl)) (binds_noneM (F := f_ansInit) rfl (FunD.bindsN (ps := ["self", "registry", "errors"]) F17 fun _ _ _ _ _ _ us hl => match us, hl with | [_, _, _], _ => rfl))
  have t21 : TbOk P w (K w) mg base (Gm tab21) 23 := TbOk.consK t20 (ok_20 F18 t20) (He.mkr_ok (c.fact 56 (f := .mkr "Registry") rfl)) (He.glo_ok X G (c.fact 57 (f := .glo "Registry") rfl)) (binds_noneM (F := f_regInit) rfl (FunD.bindsN (ps := ["self"]) F18 fun _ _ _ _ _ _ us hl => match us, hl with | [_], _ => rfl))
  have b21 : ∀ m, (f_codInit).ar ≤ m + 1 + (f_codInit).dfl.length → m + 1 ≤ (f_codInit).ar → ∃ ds dvs, Binds (K w) fd19 ["self", "registry", "name", "kind", "table", "back"] ds ∧ Vals dvs ds ∧ ∀ H, Reps (K w) H dvs ((f_codInit).dfl.drop (m + 1 + (f_codInit).dfl.length - (f_codInit).ar)) := fun m h1 h2 => by
    have h1 : 6 ≤ m + 1 + 2 := h1
    have h2 : m + 1 ≤ 6 := h2
    rcases (show m = 3 ∨ m = 4 ∨ m = 5 by omega) with rfl | rfl | rfl
    · obtain ⟨ds, hv, hb⟩ := FunD.binds1 (ps := ["self", "registry", "name", "kind", "table", "back"]) F19 4 0 (by simp [d19, He.DefD.dvs]) rfl (fun T kV doc pm an cdv ct us its hu hi => match us, its, hu, hi with | [_, _, _, _], [_, _], _, _ => ⟨_, rfl, rfl⟩)
      exact ⟨ds, _, hb, hv, fun H => .cons .non (.cons .non .nil)⟩
    · obtain ⟨ds, hv, hb⟩ := FunD.binds1 (ps := ["self", "registry", "name", "kind", "table", "back"]) F19 5 1 (by simp [d19, He.DefD.dvs]) rfl (fun T kV doc pm an cdv ct us its hu hi => match us, its, hu, hi with | [_, _, _, _, _], [_, _], _, _ => ⟨_, rfl, rfl⟩)
      exact ⟨ds, _, hb, hv, fun H => .cons .non .nil⟩
    · obtain ⟨ds, hv, hb⟩ := FunD.binds1 (ps := ["self", "registry", "name", "kind", "table", "back"]) F19 6 2 (by simp [d19, He.DefD.dvs]) rfl (fun T kV doc pm an cdv ct us its hu hi => match us, its, hu, hi with | [_, _, _, _, _, _], [_, _], _, _ => ⟨_, rfl, rfl⟩)
      exact ⟨ds, _, hb, hv, fun H => .nil⟩
  have t22 : TbOk P w (K w) mg base (Gm tab22) 25 := TbOk.consK t21 (ok_21 F19 t21) (He.mkr_ok (c.fact 58 (f := .mkr "Codec") rfl)) (He.glo_ok X G (c.fact 59 (f := .glo "Codec") rfl)) b21
  have t23 : TbOk P w (K w) mg base (Gm tab23) 27 := TbOk.consK t22 (ok_22 F20 t22) (He.mkr_ok (c.fact 60 (f := .mkr "Encoder") rfl)) (He.glo_ok X G (c.fact 61 (f := .glo "Encoder") rfl)) (binds_noneM (F := f_encInit) rfl (FunD.bindsN (ps := ["self", "codec", "errors"]) F20 fun _ _ _ _ _ _ us hl => match us, hl with | [_, _, _], _ => rfl))
  have t24 : TbOk P w (K w) mg base (Gm tab24) 28 := TbOk.consM t23 (ok_23 F21 t23) (He.cls_ok (c.fact 41 (f := .cls "Registry") rfl)) (He.meth_ok (c.fact 62 (f := .meth "Registry" "known_codec") rfl)) (binds_noneM (F := f_knownCodec) rfl (FunD.bindsN (ps := ["self", "name"]) F21 fun _ _ _ _ _ _ us hl => match us, hl with | [_, _], _ => rfl))
  have t25 : TbOk P w (K w) mg base (Gm tab25) 29 := TbOk.consM t24 (ok_24 F22 t24) (He.cls_ok (c.fact 41 (f := .cls "Registry") rfl)) (He.meth_ok (c.fact 63 (f := .meth "Registry" "searched") rfl)) (binds_noneM (F := f_searched) rfl (FunD.bindsN (ps := ["self", "normal"]) F22 fun _ _ _ _ _ _ us hl => match us, hl with | [_, _], _ => rfl))
  have t26 : TbOk P w (K w) mg base (Gm tab26) 30 := TbOk.consM t25 (ok_25 F23 t25) (He.cls_ok (c.fact 41 (f := .cls "Registry") rfl)) (He.meth_ok (c.fact 64 (f := .meth "Registry" "lookup") rfl)) (binds_noneM (F := f_lookup) rfl (FunD.bindsN (ps := ["self", "name"]) F23 fun _ _ _ _ _ _ us hl => match us, hl with | [_, _], _ => rfl))
  have b26 : ∀ m, (f_encoded).ar ≤ m + 1 + (f_encoded).dfl.length → m + 1 ≤ (f_encoded).ar → ∃ ds dvs, Binds (K w) fd24 ["self", "source", "errors"] ds ∧ Vals dvs ds ∧ ∀ H, Reps (K w) H dvs ((f_encoded).dfl.drop (m + 1 + (f_encoded).dfl.length - (f_encoded).ar)) := fun m h1 h2 => by
    have h1 : 3 ≤ m + 1 + 1 := h1
    have h2 : m + 1 ≤ 3 := h2
    rcases (show m = 1 ∨ m = 2 by omega) with rfl | rfl
    · obtain ⟨ds, hv, hb⟩ := FunD.binds1 (ps := ["self", "source", "errors"]) F24 2 0 (by simp [d24, He.DefD.dvs]) rfl (fun T kV doc pm an cdv ct us its hu hi => match us, its, hu, hi with | [_, _], [_], _, _ => ⟨_, rfl, rfl⟩)
      exact ⟨ds, _, hb, hv, fun H => .cons (.str _) .nil⟩
    · obtain ⟨ds, hv, hb⟩ := FunD.binds1 (ps := ["self", "source", "errors"]) F24 3 1 (by simp [d24, He.DefD.dvs]) rfl (fun T kV doc pm an cdv ct us its hu hi => match us, its, hu, hi with | [_, _, _], [_], _, _ => ⟨_, rfl, rfl⟩)
      exact ⟨ds, _, hb, hv, fun H => .nil⟩
  have t27 : TbOk P w (K w) mg base (Gm tab27) 31 := TbOk.consM t26 (ok_26 F24 t26) (He.cls_ok (c.fact 45 (f := .cls "Codec") rfl)) (He.meth_ok (c.fact 65 (f := .meth "Codec" "encoded") rfl)) b26
  have t28 : TbOk P w (K w) mg base (Gm tab28) 32 := TbOk.cons t27 (ok_27 F25 t27) g25 rfl F25.kp (binds_none (F := f_encOf) rfl (FunD.bindsN (ps := ["codec", "errors"]) F25 fun _ _ _ _ _ _ us hl => match us, hl with | [_, _], _ => rfl))
  have b28 : ∀ m, (f_incEnc).ar ≤ m + 1 + (f_incEnc).dfl.length → m + 1 ≤ (f_incEnc).ar → ∃ ds dvs, Binds (K w) fd26 ["self", "errors"] ds ∧ Vals dvs ds ∧ ∀ H, Reps (K w) H dvs ((f_incEnc).dfl.drop (m + 1 + (f_incEnc).dfl.length - (f_incEnc).ar)) := fun m h1 h2 => by
    have h1 : 2 ≤ m + 1 + 1 := h1
    have h2 : m + 1 ≤ 2 := h2
    rcases (show m = 0 ∨ m = 1 by omega) with rfl | rfl
    · obtain ⟨ds, hv, hb⟩ := FunD.binds1 (ps := ["self", "errors"]) F26 1 0 (by simp [d26, He.DefD.dvs]) rfl (fun T kV doc pm an cdv ct us its hu hi => match us, its, hu, hi with | [_], [_], _, _ => ⟨_, rfl, rfl⟩)
      exact ⟨ds, _, hb, hv, fun H => .cons (.str _) .nil⟩
    · obtain ⟨ds, hv, hb⟩ := FunD.binds1 (ps := ["self", "errors"]) F26 2 1 (by simp [d26, He.DefD.dvs]) rfl (fun T kV doc pm an cdv ct us its hu hi => match us, its, hu, hi with | [_, _], [_], _, _ => ⟨_, rfl, rfl⟩)
      exact ⟨ds, _, hb, hv, fun H => .nil⟩
  have t29 : TbOk P w (K w) mg base (Gm tab29) 33 := TbOk.consM t28 (ok_28 F26 t28) (He.cls_ok (c.fact 45 (f := .cls "Codec") rfl)) (He.meth_ok (c.fact 66 (f := .meth "Codec" "incremental_encoder") rfl)) b28
  have b29 : ∀ m, (f_encEnc).ar ≤ m + 1 + (f_encEnc).dfl.length → m + 1 ≤ (f_encEnc).ar → ∃ ds dvs, Binds (K w) fd27 ["self", "source", "final"] ds ∧ Vals dvs ds ∧ ∀ H, Reps (K w) H dvs ((f_encEnc).dfl.drop (m + 1 + (f_encEnc).dfl.length - (f_encEnc).ar)) := fun m h1 h2 => by
    have h1 : 3 ≤ m + 1 + 1 := h1
    have h2 : m + 1 ≤ 3 := h2
    rcases (show m = 1 ∨ m = 2 by omega) with rfl | rfl
    · obtain ⟨ds, hv, hb⟩ := FunD.binds1 (ps := ["self", "source", "final"]) F27 2 0 (by simp [d27, He.DefD.dvs]) rfl (fun T kV doc pm an cdv ct us its hu hi => match us, its, hu, hi with | [_, _], [_], _, _ => ⟨_, rfl, rfl⟩)
      exact ⟨ds, _, hb, hv, fun H => .cons (.bl false) .nil⟩
    · obtain ⟨ds, hv, hb⟩ := FunD.binds1 (ps := ["self", "source", "final"]) F27 3 1 (by simp [d27, He.DefD.dvs]) rfl (fun T kV doc pm an cdv ct us its hu hi => match us, its, hu, hi with | [_, _, _], [_], _, _ => ⟨_, rfl, rfl⟩)
      exact ⟨ds, _, hb, hv, fun H => .nil⟩
  have t30 : TbOk P w (K w) mg base (Gm tab30) 34 := TbOk.consM t29 (ok_29 F27 t29) (He.cls_ok (c.fact 51 (f := .cls "Encoder") rfl)) (He.meth_ok (c.fact 67 (f := .meth "Encoder" "encoded") rfl)) b29
  have t31 : TbOk P w (K w) mg base (Gm tab31) 35 := TbOk.consM t30 (ok_30 F28 t30) (He.cls_ok (c.fact 51 (f := .cls "Encoder") rfl)) (He.meth_ok (c.fact 68 (f := .meth "Encoder" "getstate") rfl)) (binds_noneM (F := f_getstate) rfl (FunD.bindsN (ps := ["self"]) F28 fun _ _ _ _ _ _ us hl => match us, hl with | [_], _ => rfl))
  have b31 : ∀ m, (f_regEnc).ar ≤ m + 1 + (f_regEnc).dfl.length → m + 1 ≤ (f_regEnc).ar → ∃ ds dvs, Binds (K w) fd29 ["self", "source", "name", "errors"] ds ∧ Vals dvs ds ∧ ∀ H, Reps (K w) H dvs ((f_regEnc).dfl.drop (m + 1 + (f_regEnc).dfl.length - (f_regEnc).ar)) := fun m h1 h2 => by
    have h1 : 4 ≤ m + 1 + 2 := h1
    have h2 : m + 1 ≤ 4 := h2
    rcases (show m = 1 ∨ m = 2 ∨ m = 3 by omega) with rfl | rfl | rfl
    · obtain ⟨ds, hv, hb⟩ := FunD.binds1 (ps := ["self", "source", "name", "errors"]) F29 2 0 (by simp [d29, He.DefD.dvs]) rfl (fun T kV doc pm an cdv ct us its hu hi => match us, its, hu, hi with | [_, _], [_, _], _, _ => ⟨_, rfl, rfl⟩)
      exact ⟨ds, _, hb, hv, fun H => .cons (.str _) (.cons (.str _) .nil)⟩
    · obtain ⟨ds, hv, hb⟩ := FunD.binds1 (ps := ["self", "source", "name", "errors"]) F29 3 1 (by simp [d29, He.DefD.dvs]) rfl (fun T kV doc pm an cdv ct us its hu hi => match us, its, hu, hi with | [_, _, _], [_, _], _, _ => ⟨_, rfl, rfl⟩)
      exact ⟨ds, _, hb, hv, fun H => .cons (.str _) .nil⟩
    · obtain ⟨ds, hv, hb⟩ := FunD.binds1 (ps := ["self", "source", "name", "errors"]) F29 4 2 (by simp [d29, He.DefD.dvs]) rfl (fun T kV doc pm an cdv ct us its hu hi => match us, its, hu, hi with | [_, _, _, _], [_, _], _, _ => ⟨_, rfl, rfl⟩)
      exact ⟨ds, _, hb, hv, fun H => .nil⟩
  have t32 : TbOk P w (K w) mg base (Gm tab32) 36 := TbOk.consM t31 (ok_31 F29 t31) (He.cls_ok (c.fact 41 (f := .cls "Registry") rfl)) (He.meth_ok (c.fact 69 (f := .meth "Registry" "encoded") rfl)) b31
  have t33 : TbOk P w (K w) mg base (Gm tab33) 37 := TbOk.cons t32 (ok_32 F30 t32) g30 rfl F30.kp (binds_none (F := f_right) rfl (FunD.bindsN (ps := ["_law_source_here", "_law_is_raw"]) F30 fun _ _ _ _ _ _ us hl => match us, hl with | [_, _], _ => rfl))
  exact ok_33 F31 t33
end Av.Fin
open PySem PySem.W PySem.Calls PyProof.Rows
theorem PySem.Challenge.cw_signferry_k46_escapes_written_holds : PySem.Challenge.rw_signferry_k46_escapes_written.Holds := by
  w_on; o_law
  refine Av.Hd.holds_runs (r := OpenLaw.row PySem.Challenge.rw_signferry_k46_escapes_written) (q := view (OpenLaw.row PySem.Challenge.rw_signferry_k46_escapes_written).prog [130]) (H := Av.Fin.hk) (ob := Av.Fin.ob) (M := Av.Fin.MM) (loose := Av.Fin.names) (d := HandSHeadRun.topDef (OpenLaw.row PySem.Challenge.rw_signferry_k46_escapes_written).prog 130) (kwd := []) Av.Fin.ob_eq
    (by kernel_rfl) (fun s => by kernel_rfl) Av.Fin.run (by kernel_rfl) (by kernel_rfl) (by kernel_rfl) (by rfl) (by first | assumption | decide +kernel) (by decide +kernel) ⟨rfl, rfl, rfl, rfl, rfl, by decide +kernel⟩ ?hw ?hc
  case hw => w_witness2
  case hc =>
    refine Av.walk_world (l := PySem.Challenge.rw_signferry_k46_escapes_written) (n := 63) (k := 38) (x := "_law_script") (CX := fun w => L2.CX (PySem.Challenge.rw_signferry_k46_escapes_written).prog w) rfl (by decide) (by kernel_rfl) ⟨rfl, by decide, by decide⟩ ?F (fun _ => Av.cx_no)
    intro w mg fa h Y G hmg0
    have hmg : mg ("law" : PySem.Str) = some (.ref fa) := by
      have e : (HandSHeadRun.topDef (OpenLaw.row PySem.Challenge.rw_signferry_k46_escapes_written).prog 130).name = ("law" : PySem.Str) := by kernel_rfl
      rw [← e]
      exact hmg0
    obtain ⟨fd, hb, hF⟩ := Av.Fin.facts (P := (PySem.Challenge.rw_signferry_k46_escapes_written).prog) (w := w) Y G hmg
    exact ⟨Av.Fin.K w, fd, Av.spOf (Av.Fin.K w) (Av.f_law), Y, hb, fun H a ns hl hO hS => Av.law_sp (F := Av.f_law) (fun ds G Q X h => (by obtain ⟨sc, ns, rfl, h1, h2⟩ := h; exact ⟨sc, ns, rfl, by rcases h1 with rfl | rfl <;> rfl, h2⟩)) H a ns hO (fun q hq => by cases hq) hS, fun base _ _ => hF base⟩

