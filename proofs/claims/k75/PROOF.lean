import PyProof.Rows.All
import Wide.All
import OpenK.AllK
import Wide.FinOn
import HandS.ForMost
import HandS.Style
import HandS.IsInst
import HandS.Zip
import HandS.Exc
import HandS.ExcOwn
import HandS.CallSlots
import HandS.Defaults
import PyProof.SumWalkG
import HandS.TupAny
import HandS.Flow
import PyProof.P3Eq
import HandS.HeadHook2
import HandS.HeadEnd
import KE.KStateDown
import HandS.Head0
import HandS.Head1
import HandS.Head2
import HandS.HeadHook1
import PySem.Challenge.RW_signferry_k75_lines_of_texts_and_bytes
set_option Elab.async false
set_option linter.all false
set_option maxRecDepth 100000
set_option maxHeartbeats 4000000
/-! # Av: values by what they hold, over the hand layer -/
namespace Av
open PySem PySem.Spec PyProof.Rows L2

/-- a value by what it holds: tuples and frozen lists by their items, all other objects by their address -/
inductive Dat where
  | non | bl (b : Bool) | int (i : Int) | str (s : Str) | tup (ds : List Dat) | lst (ds : List Dat) | kls (ds : List Dat) | ref (a : Addr) | ty (n : String)
  deriving Inhabited

/-- a tuple at a: tracked, or of the written part -/
def TpAt (K : PySem.W.Frag) (H : Hp) (a : Addr) (xs : List V) : Prop :=
  H a = some (.tup xs) ∨ ∃ (o : Obj) (its : Array Value) (n : Nat), K.lookup a = some o ∧ o.cls = .type "tuple" ∧ o.data = .seq its n ∧ its.size ≤ sizeLine ∧ Vals xs its.toList
theorem TpAt.sq {K : PySem.W.Frag} {H : Hp} {a : Addr} {xs : List V} (h : TpAt K H a xs) : SqT K H a xs := by
  rcases h with h | h
  · exact .inl (.inl h)
  · exact .inr h
/-- a frozen list at a -/
def FzAt (H : Hp) (a : Addr) (xs : List V) : Prop := ∃ o, H a = some (.frz o (.lst xs))
/-- a list that is never written: frozen, or of the written part -/
def KlAt (K : PySem.W.Frag) (H : Hp) (a : Addr) (xs : List V) : Prop :=
  FzAt H a xs ∨ ∃ (o : Obj) (its : Array Value) (n : Nat), K.lookup a = some o ∧ o.cls = .type "list" ∧ o.dict = none ∧ o.data = .seq its n ∧ its.size ≤ sizeLine ∧ Vals xs its.toList
theorem FzAt.sq {K : PySem.W.Frag} {H : Hp} {a : Addr} {xs : List V} (h : FzAt H a xs) : SqL K H a xs := .inl (.inr h)

mutual
inductive Rep (K : PySem.W.Frag) (H : Hp) : V → Dat → Prop
  | non : Rep K H .non .non
  | bl (b : Bool) : Rep K H (.bl b) (.bl b)
  | int (i : Int) : Rep K H (.int i) (.int i)
  | str (x : Str) : Rep K H (.str x) (.str x)
  | ref (a : Addr) : Rep K H (.ref a) (.ref a)
  | ty (n : String) : Rep K H (.ty n) (.ty n)
  | tup {a : Addr} {xs : List V} {ds : List Dat} : TpAt K H a xs → Reps K H xs ds → Rep K H (.ref a) (.tup ds)
  | lst {a : Addr} {xs : List V} {ds : List Dat} : FzAt H a xs → Reps K H xs ds → Rep K H (.ref a) (.lst ds)
  | kls {a : Addr} {xs : List V} {ds : List Dat} : KlAt K H a xs → Reps K H xs ds → Rep K H (.ref a) (.kls ds)
inductive Reps (K : PySem.W.Frag) (H : Hp) : List V → List Dat → Prop
  | nil : Reps K H [] []
  | cons {v : V} {vs : List V} {d : Dat} {ds : List Dat} : Rep K H v d → Reps K H vs ds → Reps K H (v :: vs) (d :: ds)
end

/-- what is never written stays -/
structure Stab (H H' : Hp) : Prop where
  tup : ∀ b xs, H b = some (.tup xs) → H' b = some (.tup xs)
  frz : ∀ b o u, H b = some (.frz o u) → H' b = some (.frz o u)
theorem Stab.refl (H : Hp) : Stab H H := ⟨fun _ _ h => h, fun _ _ _ h => h⟩
theorem Stab.trans {H H1 H2 : Hp} (a : Stab H H1) (b : Stab H1 H2) : Stab H H2 := ⟨fun c xs h => b.tup c xs (a.tup c xs h), fun c o u h => b.frz c o u (a.frz c o u h)⟩
theorem Stab.new {H : Hp} {p : Addr} {o : HO} (h : H p = none) : Stab H (upd H p o) :=
  ⟨fun b xs e => by rw [upd_ne (ne_of_none e h)]; exact e, fun b o u e => by rw [upd_ne (ne_of_none e h)]; exact e⟩
theorem Stab.mut {H : Hp} {p : Addr} {o u : HO} (h : H p = some u) (h1 : ∀ xs, u ≠ .tup xs) (h2 : ∀ o v, u ≠ .frz o v) : Stab H (upd H p o) :=
  ⟨fun b xs e => by rw [upd_ne (ne_of e h fun z => h1 xs z.symm)]; exact e, fun b o v e => by rw [upd_ne (ne_of e h fun z => h2 o v z.symm)]; exact e⟩
theorem Stab.lst {H : Hp} {p : Addr} {o : HO} {xs : List V} (h : H p = some (.lst xs)) : Stab H (upd H p o) := Stab.mut h (fun _ z => by cases z) fun _ _ z => by cases z
theorem Stab.of_same {H H' : Hp} (h : Same H H') : Stab H H' := ⟨fun b xs e => h b _ e, fun b o u e => h b _ e⟩

theorem TpAt.mono {K : PySem.W.Frag} {H H' : Hp} {a : Addr} {xs : List V} (s : Stab H H') (h : TpAt K H a xs) : TpAt K H' a xs := by
  rcases h with h | h
  · exact .inl (s.tup _ _ h)
  · exact .inr h
theorem FzAt.mono {H H' : Hp} {a : Addr} {xs : List V} (s : Stab H H') (h : FzAt H a xs) : FzAt H' a xs := by
  obtain ⟨o, h⟩ := h
  exact ⟨o, s.frz _ _ _ h⟩
theorem KlAt.mono {K : PySem.W.Frag} {H H' : Hp} {a : Addr} {xs : List V} (s : Stab H H') (h : KlAt K H a xs) : KlAt K H' a xs := h.imp (fun z => z.mono s) id
theorem KlAt.sq {K : PySem.W.Frag} {H : Hp} {a : Addr} {xs : List V} (h : KlAt K H a xs) : SqL K H a xs := by
  rcases h with h | h
  · exact h.sq
  · exact .inr h
mutual
theorem Rep.mono {K : PySem.W.Frag} {H H' : Hp} (s : Stab H H') {v : V} {d : Dat} : Rep K H v d → Rep K H' v d
  | .non => .non
  | .bl b => .bl b
  | .int i => .int i
  | .str x => .str x
  | .ref a => .ref a
  | .ty n => .ty n
  | .tup h r => .tup (h.mono s) (Reps.mono s r)
  | .lst h r => .lst (h.mono s) (Reps.mono s r)
  | .kls h r => .kls (h.mono s) (Reps.mono s r)
theorem Reps.mono {K : PySem.W.Frag} {H H' : Hp} (s : Stab H H') {vs : List V} {ds : List Dat} : Reps K H vs ds → Reps K H' vs ds
  | .nil => .nil
  | .cons h r => .cons (Rep.mono s h) (Reps.mono s r)
end
section
variable {K : PySem.W.Frag} {H H' : Hp}
theorem Reps.length {vs : List V} {ds : List Dat} (h : Reps K H vs ds) : vs.length = ds.length := by
  induction ds generalizing vs with
  | nil => cases h; rfl
  | cons d ds ih => cases h with | cons a r => rw [List.length_cons, List.length_cons, ih r]
theorem Reps.append {vs ws : List V} {ds es : List Dat} (h : Reps K H vs ds) (h2 : Reps K H ws es) : Reps K H (vs ++ ws) (ds ++ es) := by
  induction ds generalizing vs with
  | nil => cases h; exact h2
  | cons d ds ih => cases h with | cons a r => exact .cons a (ih r)
theorem Reps.one {v : V} {d : Dat} (h : Rep K H v d) : Reps K H [v] [d] := .cons h .nil
theorem Reps.get : ∀ {ds : List Dat} {vs : List V} {i : Nat} {d : Dat}, Reps K H vs ds → ds[i]? = some d → ∃ v, vs[i]? = some v ∧ Rep K H v d
  | [], _, _, _, _, e => by simp at e
  | d :: ds, _, 0, _, .cons a r, e => by
    simp only [List.getElem?_cons_zero, Option.some.injEq] at e
    subst e
    exact ⟨_, rfl, a⟩
  | d :: ds, _, i + 1, _, .cons a r, e => by
    simp only [List.getElem?_cons_succ] at e ⊢
    exact Reps.get r e
theorem Reps.getV : ∀ {ds : List Dat} {vs : List V} {i : Nat} {v : V}, Reps K H vs ds → vs[i]? = some v → ∃ d, ds[i]? = some d ∧ Rep K H v d
  | [], _, _, _, .nil, e => by simp at e
  | d :: ds, _, 0, _, .cons a r, e => by
    simp only [List.getElem?_cons_zero, Option.some.injEq] at e
    subst e
    exact ⟨_, rfl, a⟩
  | d :: ds, _, i + 1, _, .cons a r, e => by
    simp only [List.getElem?_cons_succ] at e ⊢
    exact Reps.getV r e
theorem Reps.drop : ∀ {ds : List Dat} {vs : List V} (n : Nat), Reps K H vs ds → Reps K H (vs.drop n) (ds.drop n)
  | _, _, 0, h => h
  | [], _, n + 1, .nil => .nil
  | d :: ds, _, n + 1, .cons a r => Reps.drop n r
theorem Reps.take : ∀ {ds : List Dat} {vs : List V} (n : Nat), Reps K H vs ds → Reps K H (vs.take n) (ds.take n)
  | _, _, 0, h => .nil
  | [], _, n + 1, .nil => .nil
  | d :: ds, _, n + 1, .cons a r => .cons a (Reps.take n r)
theorem Reps.set {v : V} {d : Dat} (h : Rep K H v d) : ∀ {ds : List Dat} {vs : List V} (i : Nat), Reps K H vs ds → Reps K H (vs.set i v) (ds.set i d)
  | [], _, _, .nil => .nil
  | _ :: _, _, 0, .cons _ r => .cons h r
  | _ :: _, _, i + 1, .cons a r => .cons a (Reps.set h i r)
theorem Reps.rep (n : Nat) {ds : List Dat} {vs : List V} (h : Reps K H vs ds) : Reps K H (List.replicate n vs).flatten (List.replicate n ds).flatten := by
  induction n with
  | zero => exact .nil
  | succ n ih =>
    rw [List.replicate_succ, List.replicate_succ, List.flatten_cons, List.flatten_cons]
    exact h.append ih
theorem Reps.reverse {ds : List Dat} {vs : List V} (h : Reps K H vs ds) : Reps K H vs.reverse ds.reverse := by
  induction ds generalizing vs with
  | nil => cases h; exact .nil
  | cons d ds ih =>
    cases h with
    | cons a r =>
      rw [List.reverse_cons, List.reverse_cons]
      exact (ih r).append (.one a)
theorem Reps.eraseIdx : ∀ {ds : List Dat} {vs : List V} (i : Nat), Reps K H vs ds → Reps K H (vs.eraseIdx i) (ds.eraseIdx i)
  | [], _, _, .nil => .nil
  | _ :: _, _, 0, .cons _ r => r
  | _ :: _, _, i + 1, .cons a r => .cons a (Reps.eraseIdx i r)
/-- ints -/
theorem Rep.int_inv {v : V} {i : Int} (h : Rep K H v (.int i)) : v = .int i := by cases h; rfl
theorem Reps.ints {ns : List Int} {vs : List V} (h : Reps K H vs (ns.map Dat.int)) : vs = ns.map V.int := by
  induction ns generalizing vs with
  | nil => cases h; rfl
  | cons n ns ih =>
    cases h with
    | cons a r => cases a; rw [List.map_cons, ih r]
end

/-! ### the heap of what may change -/
inductive AO where
  | lst (ds : List Dat)
  | dk (kvs : List (Key × Dat))
  | ins (C : Addr) (fs : List (Str × Dat))
abbrev AG := Addr → Option AO
def gu (G : AG) (a : Addr) (o : AO) : AG := fun b => if b = a then some o else G b
def gx (G : AG) (a : Addr) : AG := fun b => if b = a then none else G b
theorem gu_same {G : AG} {a : Addr} {o : AO} : gu G a o a = some o := by unfold gu; rw [if_pos rfl]
theorem gu_ne {G : AG} {a b : Addr} {o : AO} (h : b ≠ a) : gu G a o b = G b := by unfold gu; rw [if_neg h]
theorem gx_same {G : AG} {a : Addr} : gx G a a = none := by unfold gx; rw [if_pos rfl]
theorem gx_ne {G : AG} {a b : Addr} (h : b ≠ a) : gx G a b = G b := by unfold gx; rw [if_neg h]
theorem gu_gu {G : AG} {a : Addr} {o u : AO} : gu (gu G a o) a u = gu G a u := by
  funext b; unfold gu; split <;> rfl
theorem gx_gu {G : AG} {a : Addr} {o : AO} : gx (gu G a o) a = gx G a := by
  funext b; unfold gx gu; split <;> rfl
theorem gx_none {G : AG} {a : Addr} (h : G a = none) : gx G a = G := by
  funext b
  unfold gx
  split
  · rename_i e; rw [e, h]
  · rfl
theorem gx_gu_new {G : AG} {a : Addr} {o : AO} (h : G a = none) : gx (gu G a o) a = G := by rw [gx_gu, gx_none h]
/-- less is known -/
def Sub (G G' : AG) : Prop := ∀ a o, G a = some o → G' a = some o
theorem Sub.refl (G : AG) : Sub G G := fun _ _ h => h
theorem Sub.trans {G G1 G2 : AG} (a : Sub G G1) (b : Sub G1 G2) : Sub G G2 := fun c o h => b c o (a c o h)
theorem Sub.new {G : AG} {a : Addr} {o : AO} (h : G a = none) : Sub G (gu G a o) := fun b u e => by
  have : b ≠ a := fun z => by rw [z, h] at e; cases e
  rw [gu_ne this]; exact e
theorem Sub.gx {G : AG} {a : Addr} : Sub (gx G a) G := fun b u e => by
  by_cases h : b = a
  · rw [h, gx_same] at e; cases e
  · rw [gx_ne h] at e; exact e
theorem Sub.free {G G' : AG} {a : Addr} (s : Sub G G') (h : G' a = none) : G a = none := by
  cases e : G a with
  | none => rfl
  | some o => rw [s a o e] at h; cases h
abbrev KRel (K : PySem.W.Frag) (H : Hp) {κ : Type} : List (κ × V) → List (κ × Dat) → Prop := Paired fun (p : κ × V) (q : κ × Dat) => p.1 = q.1 ∧ Rep K H p.2 q.2
theorem KRel.mono {K : PySem.W.Frag} {H H' : Hp} (s : Stab H H') {κ : Type} {l : List (κ × V)} {m : List (κ × Dat)} (h : KRel K H l m) : KRel K H' l m := Paired.mapP h fun _ _ z => ⟨z.1, z.2.mono s⟩
def AOk (K : PySem.W.Frag) (H : Hp) (a : Addr) : AO → Prop
  | .lst ds => ∃ vs, H a = some (.lst vs) ∧ Reps K H vs ds
  | .dk kvs => ∃ vk, H a = some (.dK vk) ∧ KRel K H vk kvs
  | .ins C fs => ∃ dx vf, H a = some (.ins C dx vf) ∧ KRel K H vf fs
theorem AOk.some {K : PySem.W.Frag} {H : Hp} {a : Addr} {o : AO} (h : AOk K H a o) : ∃ u, H a = some u ∧ (∀ xs, u ≠ .tup xs) ∧ (∀ o v, u ≠ .frz o v) := by
  cases o with
  | lst ds => obtain ⟨vs, e, _⟩ := h; exact ⟨_, e, (fun _ z => by cases z), (fun _ _ z => by cases z)⟩
  | dk kvs => obtain ⟨vs, e, _⟩ := h; exact ⟨_, e, (fun _ z => by cases z), (fun _ _ z => by cases z)⟩
  | ins C fs => obtain ⟨dx, vs, e, _⟩ := h; exact ⟨_, e, (fun _ z => by cases z), (fun _ _ z => by cases z)⟩
theorem AOk.mono {K : PySem.W.Frag} {H H' : Hp} {a : Addr} {o : AO} (s : Stab H H') (e : H' a = H a) (h : AOk K H a o) : AOk K H' a o := by
  cases o with
  | lst ds => obtain ⟨vs, q, r⟩ := h; exact ⟨vs, e.trans q, r.mono s⟩
  | dk kvs => obtain ⟨vs, q, r⟩ := h; exact ⟨vs, e.trans q, KRel.mono s r⟩
  | ins C fs => obtain ⟨dx, vs, q, r⟩ := h; exact ⟨dx, vs, e.trans q, KRel.mono s r⟩
def RelG (K : PySem.W.Frag) (G : AG) (H : Hp) : Prop := ∀ a o, G a = some o → AOk K H a o
section
variable {K : PySem.W.Frag} {G G' : AG} {H H' : Hp} {p : Addr}
theorem RelG.sub (s : Sub G' G) (h : RelG K G H) : RelG K G' H := fun a o e => h a o (s a o e)
theorem RelG.free (h : RelG K G H) (e : H p = none) : G p = none := by
  cases q : G p with
  | none => rfl
  | some o => obtain ⟨u, z, _⟩ := (h p o q).some; rw [e] at z; cases z
theorem RelG.new {o : HO} {u : AO} (h : RelG K G H) (e : H p = none) (n : AOk K (upd H p o) p u) : RelG K (gu G p u) (upd H p o) := fun a w q => by
  by_cases ha : a = p
  · subst ha; rw [gu_same] at q; cases q; exact n
  · rw [gu_ne ha] at q
    exact (h a w q).mono (.new e) (upd_ne ha)
/-- something new that is not told -/
theorem RelG.newT {o : HO} (h : RelG K G H) (e : H p = none) : RelG K G (upd H p o) := fun a w q => by
  have ha : a ≠ p := fun z => by rw [z, h.free e] at q; cases q
  exact (h a w q).mono (.new e) (upd_ne ha)
theorem RelG.set {o : HO} {u v : AO} (h : RelG K G H) (e : G p = some u) (n : AOk K (upd H p o) p v) : RelG K (gu G p v) (upd H p o) := fun a w q => by
  by_cases ha : a = p
  · subst ha; rw [gu_same] at q; cases q; exact n
  · rw [gu_ne ha] at q
    obtain ⟨z, e1, e2, e3⟩ := (h p u e).some
    exact (h a w q).mono (.mut e1 e2 e3) (upd_ne ha)
theorem RelG.stabSet {o : HO} {u : AO} (h : RelG K G H) (e : G p = some u) : Stab H (upd H p o) := by
  obtain ⟨z, e1, e2, e3⟩ := (h p u e).some
  exact .mut e1 e2 e3
theorem RelG.lst {ds : List Dat} (h : RelG K G H) (e : G p = some (.lst ds)) : ∃ vs, H p = some (.lst vs) ∧ Reps K H vs ds := h p _ e
end

/-! ### the names' values -/
abbrev Env' := List (Option Dat)
def RelE (K : PySem.W.Frag) (H : Hp) (ρ : Env') (σ : L2.St) : Prop := ρ.length = σ.length ∧ ∀ (i : Nat) (d : Dat), ρ[i]? = some (some d) → ∃ v, σ[i]? = some (some v) ∧ Rep K H v d
section
variable {K : PySem.W.Frag} {H H' : Hp} {ρ : Env'} {σ : L2.St}
theorem RelE.mono (s : Stab H H') (h : RelE K H ρ σ) : RelE K H' ρ σ := ⟨h.1, fun i d e => by obtain ⟨v, q, r⟩ := h.2 i d e; exact ⟨v, q, r.mono s⟩⟩
theorem RelE.set {i : Nat} {v : V} {d : Dat} (h : RelE K H ρ σ) (r : Rep K H v d) : RelE K H (ρ.set i (some d)) (σ.set i (some v)) := by
  refine ⟨by rw [List.length_set, List.length_set, h.1], fun j e q => ?_⟩
  by_cases hj : i = j
  · subst hj
    by_cases hl : i < ρ.length
    · rw [List.getElem?_set_self hl] at q
      cases q
      exact ⟨v, by rw [List.getElem?_set_self (by rw [← h.1]; exact hl)], r⟩
    · rw [List.getElem?_eq_none (by rw [List.length_set]; omega)] at q
      cases q
  · rw [List.getElem?_set_ne hj] at q
    obtain ⟨w, z, r'⟩ := h.2 j e q
    exact ⟨w, by rw [List.getElem?_set_ne hj]; exact z, r'⟩
theorem RelE.wipe1 {i : Nat} (h : RelE K H ρ σ) : RelE K H (ρ.set i none) (σ.set i none) := by
  refine ⟨by rw [List.length_set, List.length_set, h.1], fun j e q => ?_⟩
  by_cases hj : i = j
  · subst hj
    by_cases hl : i < ρ.length
    · rw [List.getElem?_set_self hl] at q
      cases q
    · rw [List.getElem?_eq_none (by rw [List.length_set]; omega)] at q
      cases q
  · rw [List.getElem?_set_ne hj] at q
    obtain ⟨w, z, r'⟩ := h.2 j e q
    exact ⟨w, by rw [List.getElem?_set_ne hj]; exact z, r'⟩
end
def wipeD (ρ : Env') : List Nat → Env'
  | [] => ρ
  | v :: vs => (wipeD ρ vs).set v none
theorem RelE.wipe {K : PySem.W.Frag} {H : Hp} {ρ : Env'} {σ : L2.St} (h : RelE K H ρ σ) : ∀ vs : List Nat, RelE K H (wipeD ρ vs) (L2.wipe σ vs)
  | [] => h
  | _ :: vs => (RelE.wipe h vs).wipe1
end Av


set_option Elab.async false
set_option linter.all false
set_option maxRecDepth 100000
set_option maxHeartbeats 4000000
/-! # Av1: a small language for the bodies, and what each of its words asks -/
namespace Av
open PySem PySem.Spec PyProof.Rows L2

abbrev AQ := Dat → AG → Prop
abbrev AX := Value → List (Str × Dat) → AG → Prop
abbrev Con := List Dat → AG → AQ → AX → Prop
structure FnE where
  con : Con
  ar : Nat
  dfl : List Dat := []
  len : ∀ ds G Q X, con ds G Q X → ds.length = ar
structure Gam where
  fn : Str → Option FnE
  gl : Str → Option Dat

inductive BO where | add | sub | mul | fdiv | mod | pow | shl | shr | band
  deriving DecidableEq
inductive CO where | lt | le | gt | ge | eq | ne | isn | isnt | mem | nmem
  deriving DecidableEq
inductive BF where | len | int | tuple | list | isinst | all | any | sum1 | sum2 | min2 | max2
  deriving DecidableEq
inductive MF where | append | extend | pop | popAt | clear | reverse
  deriving DecidableEq
inductive TGt where | nm (i : Nat) | tp (is : List Nat)

mutual
inductive E where
  | var (i : Nat)
  | cst (d : Dat)
  | glo (x : Str)
  | bin (z : Bool) (o : BO) (a b : E)
  | neg (a : E)
  | cmp (o : CO) (a b : E)
  | cmp2 (o o' : CO) (a b c : E)
  | andV (a b : E)
  | orV (a b : E)
  | notV (a : E)
  | ite (c : T) (a b : E)
  | tup (es : List E)
  | lst (z : Bool) (es : List E)
  | ix (a b : E)
  | slAll (z : Bool) (a : E) | slFrom (z : Bool) (a lo : E) | slTo (z : Bool) (a hi : E) | sl (z : Bool) (a lo hi : E) | rev (a : E)
  | call (f : Str) (es : List E)
  | blt (z : Bool) (f : BF) (es : List E)
  | meth (m : MF) (o : E) (es : List E)
  | lc (z : Bool) (e : E) (g : TGt) (it : I) (own : List Nat)
  | lcIf (z : Bool) (e : E) (g : TGt) (it : I) (t : T) (own : List Nat)
  | frz (a : E)
  | one (a : E)
inductive T where
  | and_ (a b : T) | or_ (a b : T) | not_ (a : T) | ite (c a b : T) | one (a : T)
  | cmp (o : CO) (a b : E)
  | val (a : E)
inductive I where
  | rng1 (a : E) | rng2 (a b : E) | seq (a : E) | zip (a b : E) | enum (a : E)
end

inductive S where
  | set (i : Nat) (e : E)
  | setTp (is : List Nat) (e : E)
  | par2 (i j : Nat) (a b : E)
  | par3 (i j k : Nat) (a b c : E)
  | expr (e : E)
  | ret (e : E)
  | retN
  | if_ (c : T) (a b : List S)
  | while_ (c : T) (b : List S)
  | for_ (g : TGt) (it : I) (b : List S)
  | setIx (o i e : E)
  | aug (i : Nat) (o : BO) (e : E)
  | pass | brk | cont
  | sub_

/-! ### values -/
/-- the items of a list -/
def lstOf (G : AG) : Dat → Option (List Dat)
  | .lst ds => some ds
  | .ref a => match G a with
    | some (.lst ds) => some ds
    | _ => none
  | _ => none
/-- the items of a list or a tuple -/
def seqOf (G : AG) : Dat → Option (List Dat)
  | .tup ds => some ds
  | .kls ds => some ds
  | d => lstOf G d
def rdOf (G : AG) : Dat → Option (List Dat)
  | .tup ds => some ds
  | d => lstOf G d
def newL (ds : List Dat) (G : AG) (Q : AQ) : Prop := ds.length ≤ sizeLine ∧ ∀ p, G p = none → Q (.ref p) (gu G p (.lst ds))
/-- .. that is never written: it is its items -/
def nw (z : Bool) (ds : List Dat) (G : AG) (Q : AQ) : Prop := if z = true then ds.length ≤ sizeLine ∧ Q (.lst ds) G else newL ds G Q
def binW (z : Bool) : BO → Dat → Dat → AG → AQ → Prop
  | .add, .int i, .int j, G, Q => Q (.int (i + j)) G
  | .add, .str a, .str b, G, Q => a.length + b.length ≤ sizeLine ∧ Q (.str (a ++ b)) G
  | .add, .tup a, .tup b, G, Q => a.length + b.length ≤ sizeLine ∧ Q (.tup (a ++ b)) G
  | .add, x, y, G, Q => ∃ a b, lstOf G x = some a ∧ lstOf G y = some b ∧ nw z (a ++ b) G Q
  | .sub, .int i, .int j, G, Q => Q (.int (i - j)) G
  | .mul, .int i, .int j, G, Q => CMul i j ∧ Q (.int (i * j)) G
  | .mul, x, .int k, G, Q => ∃ a, lstOf G x = some a ∧ -(2 ^ 63) ≤ k ∧ k < 2 ^ 63 ∧ nw z (List.replicate k.toNat a).flatten G Q
  | .fdiv, .int i, .int j, G, Q => CDiv i j ∧ Q (.int (i / j)) G
  | .mod, .int i, .int j, G, Q => 0 < j ∧ Q (.int (i % j)) G
  | .pow, .int i, .int j, G, Q => CPow i j ∧ Q (.int (i ^ j.toNat)) G
  | .shl, .int i, .int j, G, Q => CPow i j ∧ Q (.int (i * 2 ^ j.toNat)) G
  | .shr, .int i, .int j, G, Q => 0 ≤ j ∧ Q (.int (i / 2 ^ j.toNat)) G
  | .band, .int i, .int j, G, Q => Q (.int (Builtin.bitAnd i j)) G
  | _, _, _, _, _ => False

/- what a value holds, all of it, read through the heap of what may change -/
mutual
inductive Deep (G : AG) : Dat → PyData → Prop
  | non : Deep G .non .none
  | bl (b : Bool) : Deep G (.bl b) (.bool b)
  | int (i : Int) : Deep G (.int i) (.int i)
  | str (x : Str) : Deep G (.str x) (.str x)
  | tup {ds : List Dat} {ps : List PyData} : Deeps G ds ps → Deep G (.tup ds) (.tuple ps)
  | lst {ds : List Dat} {ps : List PyData} : Deeps G ds ps → Deep G (.lst ds) (.list ps)
  | ref {a : Addr} {ds : List Dat} {ps : List PyData} : G a = some (.lst ds) → Deeps G ds ps → Deep G (.ref a) (.list ps)
inductive Deeps (G : AG) : List Dat → List PyData → Prop
  | nil : Deeps G [] []
  | cons {d : Dat} {ds : List Dat} {p : PyData} {ps : List PyData} : Deep G d p → Deeps G ds ps → Deeps G (d :: ds) (p :: ps)
end
def eqW (n : Bool) (x y : Dat) (G : AG) (Q : AQ) : Prop := ∃ p q, Deep G x p ∧ Deep G y q ∧ SeqAt.shaped p = true ∧ SeqAt.shaped q = true ∧ Q (.bl (if n then !PyData.eqv p q else PyData.eqv p q)) G
/-- flat values, and when two are equal -/
def flatD : Dat → Bool
  | .non => true | .bl _ => true | .int _ => true | .str _ => true
  | _ => false
def toV : Dat → V
  | .non => .non | .bl b => .bl b | .int i => .int i | .str s => .str s | .ref a => .ref a | .ty n => .ty n
  | .tup _ => .non | .lst _ => .non | .kls _ => .non
def eqF (x y : Dat) : Bool := eqV (toV x) (toV y)
def memW (n : Bool) (x y : Dat) (G : AG) (Q : AQ) : Prop :=
  ∃ ds, seqOf G y = some ds ∧ flatD x = true ∧ ds.all flatD = true ∧ Q (.bl (if n then !ds.any (fun d => eqF d x) else ds.any (fun d => eqF d x))) G
def isNonD : Dat → Bool
  | .non => true
  | _ => false
def cmpW : CO → Dat → Dat → AG → AQ → Prop
  | .lt, .int i, .int j, G, Q => Q (.bl (decide (i < j))) G
  | .le, .int i, .int j, G, Q => Q (.bl (decide (i ≤ j))) G
  | .gt, .int i, .int j, G, Q => Q (.bl (decide (j < i))) G
  | .ge, .int i, .int j, G, Q => Q (.bl (decide (j ≤ i))) G
  | .eq, x, y, G, Q => eqW false x y G Q
  | .ne, x, y, G, Q => eqW true x y G Q
  | .isn, x, .non, G, Q => Q (.bl (isNonD x)) G
  | .isnt, x, .non, G, Q => Q (.bl (!isNonD x)) G
  | .mem, x, y, G, Q => memW false x y G Q
  | .nmem, x, y, G, Q => memW true x y G Q
  | _, _, _, _, _ => False
def truW : Dat → AG → (Bool → AG → Prop) → Prop
  | .non, G, Q => Q false G
  | .bl b, G, Q => Q b G
  | .int i, G, Q => Q (i != 0) G
  | .str s, G, Q => s.length ≤ sizeLine ∧ Q (s.length != 0) G
  | .tup ds, G, Q => Q (!ds.isEmpty) G
  | x, G, Q => ∃ ds, lstOf G x = some ds ∧ Q (!ds.isEmpty) G
def boolW (Q : Bool → AG → Prop) : Dat → AG → Prop
  | .bl b, G => Q b G
  | _, _ => False
def ixW : Dat → Dat → AG → AQ → Prop
  | x, .int i, G, Q => ∃ ds d, seqOf G x = some ds ∧ atI ds i = some d ∧ Q d G
  | _, _, _, _ => False
def cutD (ds : List Dat) (lo hi : Option Int) : List Dat := (ds.drop (HT.sIx ds.length 0 lo)).take (HT.sIx ds.length ds.length hi - HT.sIx ds.length 0 lo)
def slW (z : Bool) : Dat → Option Int → Option Int → AG → AQ → Prop
  | .tup ds, lo, hi, G, Q => Q (.tup (cutD ds lo hi)) G
  | x, lo, hi, G, Q => ∃ ds, lstOf G x = some ds ∧ nw z (cutD ds lo hi) G Q
def intK (Q : Int → AG → Prop) : Dat → AG → Prop
  | .int i, G => Q i G
  | _, _ => False
/-- a value's type among the built-in ones -/
def tyOf (G : AG) : Dat → Option String
  | .non => some "NoneType"
  | .bl _ => some "bool" | .int _ => some "int" | .str _ => some "str" | .tup _ => some "tuple" | .lst _ => some "list"
  | .ref a => match G a with
    | some (.lst _) => some "list"
    | some (.dk _) => some "dict"
    | _ => none
  | .ty _ => none
  | .kls _ => none
def allTy : List Dat → Bool
  | [] => true
  | .ty _ :: r => allTy r
  | _ :: _ => false
def isiAny (t : String) : List Dat → Option Bool
  | [] => some false
  | .ty n :: r => match kitB t n with
    | some true => if allTy r = true then some true else none
    | some false => isiAny t r
    | none => none
  | _ :: _ => none
def isiW (x : Dat) : Dat → AG → AQ → Prop
  | .ty n, G, Q => ∃ t b, tyOf G x = some t ∧ kitB t n = some b ∧ Q (.bl b) G
  | .tup cs, G, Q => ∃ t b, tyOf G x = some t ∧ isiAny t cs = some b ∧ Q (.bl b) G
  | _, _, _ => False
def blsOf : List Dat → Option (List Bool)
  | [] => some []
  | .bl b :: r => (blsOf r).map (b :: ·)
  | _ :: _ => none
def intsOf : List Dat → Option (List Int)
  | [] => some []
  | .int b :: r => (intsOf r).map (b :: ·)
  | _ :: _ => none
def tupsOf : List Dat → Option (List (List Dat))
  | [] => some []
  | .tup b :: r => (tupsOf r).map (b :: ·)
  | _ :: _ => none
def lstsOf (G : AG) : List Dat → Option (List (List Dat))
  | [] => some []
  | d :: r => match lstOf G d, lstsOf G r with
    | some b, some ls => some (b :: ls)
    | _, _ => none
def sumW (z : Bool) (rows : List Dat) : Dat → AG → AQ → Prop
  | .tup t0, G, Q => ∃ ls, tupsOf rows = some ls ∧ t0.length + ls.flatten.length ≤ sizeLine ∧ Q (.tup (t0 ++ ls.flatten)) G
  | d, G, Q => ∃ s0 ls, lstOf G d = some s0 ∧ lstsOf G rows = some ls ∧ s0.length + ls.flatten.length ≤ sizeLine ∧ if ls = [] then Q d G else nw z (s0 ++ ls.flatten) G Q
def bltW (z : Bool) : BF → List Dat → AG → AQ → Prop
  | .len, [x], G, Q => ∃ ds, seqOf G x = some ds ∧ Q (.int ds.length) G
  | .int, [.int i], G, Q => Q (.int i) G
  | .int, [.bl b], G, Q => Q (.int (if b then 1 else 0)) G
  | .tuple, [x], G, Q => ∃ ds, seqOf G x = some ds ∧ Q (.tup ds) G
  | .list, [x], G, Q => ∃ ds, seqOf G x = some ds ∧ nw z ds G Q
  | .isinst, [x, c], G, Q => isiW x c G Q
  | .all, [x], G, Q => ∃ ds bs, lstOf G x = some ds ∧ blsOf ds = some bs ∧ Q (.bl (bs.all id)) G
  | .any, [x], G, Q => ∃ ds bs, lstOf G x = some ds ∧ blsOf ds = some bs ∧ Q (.bl (bs.any id)) G
  | .sum1, [x], G, Q => ∃ ds ns, lstOf G x = some ds ∧ intsOf ds = some ns ∧ Q (.int ns.sum) G
  | .sum2, [x, y], G, Q => ∃ rows, lstOf G x = some rows ∧ sumW z rows y G Q
  | .min2, [.int i, .int j], G, Q => Q (.int (if j < i then j else i)) G
  | .max2, [.int i, .int j], G, Q => Q (.int (if j > i then j else i)) G
  | _, _, _, _ => False
def methW : MF → Dat → List Dat → AG → AQ → Prop
  | .append, .ref p, [y], G, Q => ∃ ds, G p = some (.lst ds) ∧ ds.length < sizeLine ∧ Q .non (gu G p (.lst (ds ++ [y])))
  | .extend, .ref p, [y], G, Q => ∃ ds es, G p = some (.lst ds) ∧ rdOf G y = some es ∧ ds.length + es.length ≤ sizeLine ∧ Q .non (gu G p (.lst (ds ++ es)))
  | .pop, .ref p, [], G, Q => ∃ ds y, G p = some (.lst ds) ∧ ds[ds.length - 1]? = some y ∧ Q y (gu G p (.lst ds.dropLast))
  | .popAt, .ref p, [.int i], G, Q => ∃ ds k y, G p = some (.lst ds) ∧ -(2 ^ 63) ≤ i ∧ i < 2 ^ 63 ∧ seqIndex? i ds.length = some k ∧ ds[k]? = some y ∧ Q y (gu G p (.lst (ds.eraseIdx k)))
  | .clear, .ref p, [], G, Q => ∃ ds, G p = some (.lst ds) ∧ Q .non (gu G p (.lst []))
  | .reverse, .ref p, [], G, Q => ∃ ds, G p = some (.lst ds) ∧ Q .non (gu G p (.lst ds.reverse))
  | _, _, _, _, _ => False
def frzW (d : Dat) (G : AG) (Q : AQ) : Prop :=
  match d with
  | .ref p => match G p with
    | some (.lst ds) => Q (.lst ds) (gx G p)
    | _ => Q (.ref p) G
  | d => Q d G
/-- a target -/
def setAll : List Nat → List Dat → Env' → Env'
  | i :: is, d :: ds, ρ => setAll is ds (ρ.set i (some d))
  | _, _, ρ => ρ
def tgW : TGt → Dat → Env' → (Env' → Prop) → Prop
  | .nm i, d, ρ, k => k (ρ.set i (some d))
  | .tp is, .tup ds, ρ, k => ds.length = is.length ∧ k (setAll is ds ρ)
  | .tp _, _, _, _ => False
/-- the lists that a loop walks stand as they stood -/
abbrev Gd := List (Addr × List Dat)
def gdOk (G : AG) : Gd → Prop
  | [] => True
  | (a, ds) :: r => G a = some (.lst ds) ∧ gdOk G r
def seqG (x : Dat) (G : AG) (Q : List Dat → Gd → AG → Prop) : Prop :=
  match x with
  | .tup ds => Q ds [] G
  | .lst ds => Q ds [] G
  | .kls ds => Q ds [] G
  | .ref a => ∃ ds, G a = some (.lst ds) ∧ Q ds [(a, ds)] G
  | _ => False
def lstG (x : Dat) (G : AG) (Q : List Dat → Gd → AG → Prop) : Prop :=
  match x with
  | .lst ds => Q ds [] G
  | .ref a => ∃ ds, G a = some (.lst ds) ∧ Q ds [(a, ds)] G
  | _ => False
/-- zip of two lists, of two tuples -/
def zipD : List Dat → List Dat → List Dat
  | x :: xs, y :: ys => .tup [x, y] :: zipD xs ys
  | _, _ => []
def zipG (x y : Dat) (G : AG) (Q : List Dat → Gd → AG → Prop) : Prop :=
  match x, y with
  | .tup xs, .tup ys => Q (zipD xs ys) [] G
  | x, y => lstG x G fun xs gx G1 => lstG y G1 fun ys gy G2 => Q (zipD xs ys) (gx ++ gy) G2
def rngD (lo : Int) (n : Nat) : List Dat := (List.range n).map fun (k : Nat) => Dat.int (lo + (k : Int))
def enumD : Nat → List Dat → List Dat
  | _, [] => []
  | k, d :: ds => .tup [.int k, d] :: enumD (k + 1) ds
/-- a comprehension's turns -/
def lcW (z : Bool) (elt : Env' → AG → AQ → Prop) (g : TGt) (own : List Nat) (gd : Gd) (ρ : Env') (Q : AQ) : List Dat → List Dat → AG → Prop
  | [], acc, G => gdOk G gd ∧ if z = true then Q (.lst acc) G else ∀ p, G p = none → Q (.ref p) (gu G p (.lst acc))
  | d :: ds, acc, G => gdOk G gd ∧ tgW g d (wipeD ρ own) fun ρ1 => elt ρ1 G fun y G2 => acc.length < sizeLine ∧ lcW z elt g own gd ρ Q ds (acc ++ [y]) G2
def lcIfW (z : Bool) (tst : Env' → AG → (Bool → AG → Prop) → Prop) (elt : Env' → AG → AQ → Prop) (g : TGt) (own : List Nat) (gd : Gd) (ρ : Env') (Q : AQ) : List Dat → List Dat → AG → Prop
  | [], acc, G => gdOk G gd ∧ if z = true then Q (.lst acc) G else ∀ p, G p = none → Q (.ref p) (gu G p (.lst acc))
  | d :: ds, acc, G => gdOk G gd ∧ tgW g d (wipeD ρ own) fun ρ1 => tst ρ1 G fun b G1 =>
      if b = true then elt ρ1 G1 fun y G2 => acc.length < sizeLine ∧ lcIfW z tst elt g own gd ρ Q ds (acc ++ [y]) G2 else lcIfW z tst elt g own gd ρ Q ds acc G1
def noX : AX := fun _ _ _ => False

mutual
def wE (Γ : Gam) : E → Env' → AG → AQ → AX → Prop
  | .var i, ρ, G, Q, _ => match ρ[i]? with
    | some (some d) => Q d G
    | _ => False
  | .cst d, _, G, Q, _ => Q d G
  | .glo x, _, G, Q, _ => match Γ.gl x with
    | some d => Q d G
    | none => False
  | .bin z o a b, ρ, G, Q, X => wE Γ a ρ G (fun x G1 => wE Γ b ρ G1 (fun y G2 => binW z o x y G2 Q) X) X
  | .neg a, ρ, G, Q, X => wE Γ a ρ G (intK fun i G1 => Q (.int (-i)) G1) X
  | .cmp o a b, ρ, G, Q, X => wE Γ a ρ G (fun x G1 => wE Γ b ρ G1 (fun y G2 => cmpW o x y G2 Q) X) X
  | .cmp2 o o' a b c, ρ, G, Q, X => wE Γ a ρ G (fun x G1 => wE Γ b ρ G1 (fun y G2 => cmpW o x y G2 (boolW fun k G3 =>
      if k = true then wE Γ c ρ G3 (fun z G4 => cmpW o' y z G4 Q) X else Q (.bl false) G3)) X) X
  | .andV a b, ρ, G, Q, X => wE Γ a ρ G (fun x G1 => truW x G1 fun k G2 => if k = true then wE Γ b ρ G2 Q X else Q x G2) X
  | .orV a b, ρ, G, Q, X => wE Γ a ρ G (fun x G1 => truW x G1 fun k G2 => if k = true then Q x G2 else wE Γ b ρ G2 Q X) X
  | .notV a, ρ, G, Q, X => wE Γ a ρ G (fun x G1 => truW x G1 fun k G2 => Q (.bl (!k)) G2) X
  | .ite c a b, ρ, G, Q, X => wT Γ c ρ G (fun k G1 => if k = true then wE Γ a ρ G1 Q X else wE Γ b ρ G1 Q X) X
  | .tup es, ρ, G, Q, X => wEs Γ es ρ G (fun ds G1 => ds.length ≤ sizeLine ∧ Q (.tup ds) G1) X
  | .lst z es, ρ, G, Q, X => wEs Γ es ρ G (fun ds G1 => nw z ds G1 Q) X
  | .ix a b, ρ, G, Q, X => wE Γ a ρ G (fun x G1 => wE Γ b ρ G1 (fun y G2 => ixW x y G2 Q) X) X
  | .slAll z a, ρ, G, Q, X => wE Γ a ρ G (fun x G1 => slW z x none none G1 Q) X
  | .slFrom z a lo, ρ, G, Q, X => wE Γ a ρ G (fun x G1 => wE Γ lo ρ G1 (intK fun i G2 => slW z x (some i) none G2 Q) X) X
  | .slTo z a hi, ρ, G, Q, X => wE Γ a ρ G (fun x G1 => wE Γ hi ρ G1 (intK fun i G2 => slW z x none (some i) G2 Q) X) X
  | .sl z a lo hi, ρ, G, Q, X => wE Γ a ρ G (fun x G1 => wE Γ lo ρ G1 (intK fun i G2 => wE Γ hi ρ G2 (intK fun j G3 => slW z x (some i) (some j) G3 Q) X) X) X
  | .rev _, _, _, _, _ => False
  | .call f es, ρ, G, Q, X => match Γ.fn f with
    | some F => (F.ar ≤ es.length + F.dfl.length ∧ es.length ≤ F.ar) ∧ wEs Γ es ρ G (fun ds G1 => F.con (ds ++ F.dfl.drop (es.length + F.dfl.length - F.ar)) G1 Q X) X
    | none => False
  | .blt z f es, ρ, G, Q, X => wEs Γ es ρ G (fun ds G1 => bltW z f ds G1 Q) X
  | .meth m o es, ρ, G, Q, X => wE Γ o ρ G (fun x G1 => (∃ ds, lstOf G1 x = some ds) ∧ wEs Γ es ρ G1 (fun ds G2 => methW m x ds G2 Q) X) X
  | .lc z e g it own, ρ, G, Q, X => wI Γ it ρ G (fun ds gd G1 => lcW z (fun ρ1 G Q => wE Γ e ρ1 G Q noX) g own gd ρ Q ds [] G1) X
  | .lcIf z e g it t own, ρ, G, Q, X => wI Γ it ρ G (fun ds gd G1 => lcIfW z (fun ρ1 G Q => wT Γ t ρ1 G Q noX) (fun ρ1 G Q => wE Γ e ρ1 G Q noX) g own gd ρ Q ds [] G1) X
  | .frz a, ρ, G, Q, X => wE Γ a ρ G (fun x G1 => frzW x G1 Q) X
  | .one a, ρ, G, Q, X => wE Γ a ρ G Q X
def wEs (Γ : Gam) : List E → Env' → AG → (List Dat → AG → Prop) → AX → Prop
  | [], _, G, Q, _ => Q [] G
  | e :: es, ρ, G, Q, X => wE Γ e ρ G (fun d G1 => wEs Γ es ρ G1 (fun ds G2 => Q (d :: ds) G2) X) X
def wT (Γ : Gam) : T → Env' → AG → (Bool → AG → Prop) → AX → Prop
  | .and_ a b, ρ, G, Q, X => wT Γ a ρ G (fun k G1 => if k = true then wT Γ b ρ G1 Q X else Q false G1) X
  | .or_ a b, ρ, G, Q, X => wT Γ a ρ G (fun k G1 => if k = true then Q true G1 else wT Γ b ρ G1 Q X) X
  | .not_ a, ρ, G, Q, X => wT Γ a ρ G (fun k G1 => Q (!k) G1) X
  | .ite c a b, ρ, G, Q, X => wT Γ c ρ G (fun k G1 => if k = true then wT Γ a ρ G1 Q X else wT Γ b ρ G1 Q X) X
  | .one a, ρ, G, Q, X => wT Γ a ρ G Q X
  | .cmp o a b, ρ, G, Q, X => wE Γ a ρ G (fun x G1 => wE Γ b ρ G1 (fun y G2 => cmpW o x y G2 (boolW Q)) X) X
  | .val a, ρ, G, Q, X => wE Γ a ρ G (fun x G1 => truW x G1 Q) X
def wI (Γ : Gam) : I → Env' → AG → (List Dat → Gd → AG → Prop) → AX → Prop
  | .rng1 a, ρ, G, Q, X => wE Γ a ρ G (intK fun n G1 => -(2 ^ 62) ≤ n ∧ n < 2 ^ 62 ∧ Q (rngD 0 n.toNat) [] G1) X
  | .rng2 a b, ρ, G, Q, X => wE Γ a ρ G (intK fun m G1 => wE Γ b ρ G1 (intK fun n G2 => (-(2 ^ 62) ≤ m ∧ m < 2 ^ 62 ∧ -(2 ^ 62) ≤ n ∧ n < 2 ^ 62) ∧ Q (rngD m (n - m).toNat) [] G2) X) X
  | .seq a, ρ, G, Q, X => wE Γ a ρ G (fun x G1 => seqG x G1 Q) X
  | .zip a b, ρ, G, Q, X => wE Γ a ρ G (fun x G1 => wE Γ b ρ G1 (fun y G2 => zipG x y G2 Q) X) X
  | .enum a, ρ, G, Q, X => wE Γ a ρ G (fun x G1 => lstG x G1 fun xs gx G2 => Q (enumD 0 xs) gx G2) X
end

structure AEnds where
  nx : Env' → AG → Prop
  rt : Dat → AG → Prop
  bk : Env' → AG → Prop := fun _ _ => False
  ct : Env' → AG → Prop := fun _ _ => False
  ex : Env' → AX := fun _ => noX
/-- a loop's turns -/
def forW (body : Env' → AG → AEnds → Prop) (g : TGt) (gd : Gd) (A : AEnds) : List Dat → Env' → AG → Prop
  | [], ρ, G => gdOk G gd ∧ A.nx ρ G
  | d :: ds, ρ, G => gdOk G gd ∧ tgW g d ρ fun ρ1 => body ρ1 G { A with nx := forW body g gd A ds, ct := forW body g gd A ds, bk := A.nx }
/-- o[i] = e -/
def setW : Dat → Dat → Dat → AG → (AG → Prop) → Prop
  | .ref p, .int k, v, G, Q => ∃ ds j, G p = some (.lst ds) ∧ ixN ds.length k = some j ∧ Q (gu G p (.lst (ds.set j v)))
  | _, _, _, _, _ => False
def augW : BO → Dat → Dat → AG → AQ → Prop
  | .add, .int i, .int j, G, Q => Q (.int (i + j)) G
  | .sub, .int i, .int j, G, Q => Q (.int (i - j)) G
  | _, _, _, _, _ => False
mutual
def wS (Γ : Gam) : S → Env' → AG → AEnds → Prop
  | .set i e, ρ, G, A => wE Γ e ρ G (fun d G1 => A.nx (ρ.set i (some d)) G1) (A.ex ρ)
  | .setTp is e, ρ, G, A => wE Γ e ρ G (fun d G1 => tgW (.tp is) d ρ fun ρ1 => A.nx ρ1 G1) (A.ex ρ)
  | .par2 i j a b, ρ, G, A => wE Γ a ρ G (fun x G1 => wE Γ b ρ G1 (fun y G2 => A.nx ((ρ.set i (some x)).set j (some y)) G2) (A.ex ρ)) (A.ex ρ)
  | .par3 i j k a b c, ρ, G, A => wE Γ a ρ G (fun x G1 => wE Γ b ρ G1 (fun y G2 => wE Γ c ρ G2 (fun z G3 => A.nx (((ρ.set i (some x)).set j (some y)).set k (some z)) G3) (A.ex ρ)) (A.ex ρ)) (A.ex ρ)
  | .expr e, ρ, G, A => wE Γ e ρ G (fun _ G1 => A.nx ρ G1) (A.ex ρ)
  | .ret e, ρ, G, A => wE Γ e ρ G A.rt (A.ex ρ)
  | .retN, _, G, A => A.rt .non G
  | .if_ c a b, ρ, G, A => wT Γ c ρ G (fun k G1 => if k = true then wSs Γ a ρ G1 A else wSs Γ b ρ G1 A) (A.ex ρ)
  | .while_ c b, ρ, G, A => ∃ W : Nat → Env' → AG → Prop, (∃ m, W m ρ G) ∧ ∀ m ρ G, W m ρ G →
      wT Γ c ρ G (fun k G1 => if k = true then wSs Γ b ρ G1 { A with nx := fun ρ' G' => ∃ m', m' < m ∧ W m' ρ' G', ct := fun ρ' G' => ∃ m', m' < m ∧ W m' ρ' G', bk := A.nx } else A.nx ρ G1) (A.ex ρ)
  | .for_ g it b, ρ, G, A => wI Γ it ρ G (fun ds gd G1 => forW (fun ρ G A => wSs Γ b ρ G A) g gd A ds ρ G1) (A.ex ρ)
  | .setIx o i e, ρ, G, A => wE Γ e ρ G (fun v G1 => wE Γ o ρ G1 (fun x G2 => wE Γ i ρ G2 (fun k G3 => setW x k v G3 fun G4 => A.nx ρ G4) (A.ex ρ)) (A.ex ρ)) (A.ex ρ)
  | .aug i o e, ρ, G, A => match ρ[i]? with
    | some (some x) => wE Γ e ρ G (fun y G1 => augW o x y G1 fun z G2 => A.nx (ρ.set i (some z)) G2) (A.ex ρ)
    | _ => False
  | .pass, ρ, G, A => A.nx ρ G
  | .brk, ρ, G, A => A.bk ρ G
  | .cont, ρ, G, A => A.ct ρ G
  | .sub_, ρ, G, A => ∃ G', Sub G' G ∧ A.nx ρ G'
def wSs (Γ : Gam) : List S → Env' → AG → AEnds → Prop
  | [], ρ, G, A => A.nx ρ G
  | s :: ss, ρ, G, A => wS Γ s ρ G { A with nx := fun ρ' G' => wSs Γ ss ρ' G' A }
end
end Av


set_option Elab.async false
set_option linter.all false
set_option maxRecDepth 100000
set_option maxHeartbeats 4000000
/-! # Av2: how the two heaps go together; the rules by values -/
namespace Av
open PySem PySem.Spec PyProof.Rows L2

/-- what is tracked but not told stands, and is not told -/
def Fra (G : AG) (H : Hp) (G' : AG) (H' : Hp) : Prop := ∀ a o, H a = some o → G a = none → H' a = some o ∧ G' a = none
section
variable {K : PySem.W.Frag} {G G' G1 G2 : AG} {H H' H1 H2 : Hp} {p : Addr}
theorem Fra.refl : Fra G H G H := fun _ _ h n => ⟨h, n⟩
theorem Fra.trans (a : Fra G H G1 H1) (b : Fra G1 H1 G2 H2) : Fra G H G2 H2 := fun c o h n => let ⟨h1, n1⟩ := a c o h n; b c o h1 n1
theorem RelG.noTup (r : RelG K G H) {b : Addr} {xs : List V} (e : H b = some (.tup xs)) : G b = none := by
  cases q : G b with
  | none => rfl
  | some o =>
    obtain ⟨u, z, h1, _⟩ := (r b o q).some
    rw [e] at z
    exact absurd (Option.some.inj z).symm (h1 xs)
theorem RelG.noFrz (r : RelG K G H) {b : Addr} {o : Obj} {u : HO} (e : H b = some (.frz o u)) : G b = none := by
  cases q : G b with
  | none => rfl
  | some w =>
    obtain ⟨v, z, _, h2⟩ := (r b w q).some
    rw [e] at z
    exact absurd (Option.some.inj z).symm (h2 o u)
theorem Fra.stab (f : Fra G H G' H') (r : RelG K G H) : Stab H H' := ⟨fun b xs e => (f b _ e (r.noTup e)).1, fun b o u e => (f b _ e (r.noFrz e)).1⟩
theorem Fra.newT {o : HO} (h : H p = none) : Fra G H G (upd H p o) := fun a u e n => ⟨by rw [upd_ne (ne_of_none e h)]; exact e, n⟩
theorem Fra.new {o : HO} {u : AO} (h : H p = none) : Fra G H (gu G p u) (upd H p o) := fun a w e n => by
  have d := ne_of_none e h
  exact ⟨by rw [upd_ne d]; exact e, by rw [gu_ne d]; exact n⟩
theorem Fra.set {o : HO} {u v : AO} (e : G p = some u) : Fra G H (gu G p v) (upd H p o) := fun a w q n => by
  have d : a ≠ p := fun z => by rw [z, e] at n; cases n
  exact ⟨by rw [upd_ne d]; exact q, by rw [gu_ne d]; exact n⟩
theorem Fra.sub (s : Sub G' G) : Fra G H G' H := fun a o h n => ⟨h, s.free n⟩
theorem Fra.free (f : Fra G H G' H') {u : HO} (h : H p = some u) (n : G p = none) : G' p = none := (f p u h n).2
end

/-! ### what is wanted behind -/
def PostE (K : PySem.W.Frag) (G : AG) (H : Hp) (Qa : AQ) (Q : VK) : Prop := ∀ d G' v H', Fra G H G' H' → RelG K G' H' → Rep K H' v d → Qa d G' → Q v H'
def RelX (K : PySem.W.Frag) (H : Hp) : Option Addr → List (Str × Dat) → Prop
  | none, fs => fs = []
  | some d, fs => ∃ vf, H d = some (.xd vf) ∧ KRel K H vf fs
def PostX (K : PySem.W.Frag) (G : AG) (H : Hp) (Ea : AX) (W : XK) : Prop := ∀ c fs G' dx H', Fra G H G' H' → RelG K G' H' → RelX K H' dx fs → Ea c fs G' → W c dx H'
section
variable {K : PySem.W.Frag} {G G1 : AG} {H H1 : Hp} {Qa : AQ} {Ea : AX} {Q : VK} {W : XK}
theorem PostE.fra (f : Fra G H G1 H1) (p : PostE K G H Qa Q) : PostE K G1 H1 Qa Q := fun d G' v H' f2 => p d G' v H' (f.trans f2)
theorem PostX.fra (f : Fra G H G1 H1) (p : PostX K G H Ea W) : PostX K G1 H1 Ea W := fun c fs G' dx H' f2 => p c fs G' dx H' (f.trans f2)
end

/-- .. and of a new list that is never written -/
structure PostZ (K : PySem.W.Frag) (G : AG) (H : Hp) (Qa : AQ) (Q : VK) : Prop where
  p : PostE K G H Qa Q
  z : ∀ (G' : AG) (H' : Hp) (ds : List Dat) (vs : List V) (a : Addr), Fra G H G' H' → H' a = none → RelG K G' H' → Reps K H' vs ds → Qa (.lst ds) G' → Q (.ref a) (upd H' a (.lst vs))
/-- the list may be frozen behind the step -/
def Qz (Q : VK) : VK := fun v H => Q v H ∨ ∃ a vs, v = .ref a ∧ H a = some (.lst vs) ∧ ∀ o, Q v (upd H a (.frz o (.lst vs)))
theorem upd_upd {H : Hp} {p : Addr} {o u : HO} : upd (upd H p o) p u = upd H p u := by
  funext b
  by_cases h : b = p
  · subst h; rw [upd_same, upd_same]
  · rw [upd_ne h, upd_ne h, upd_ne h]
theorem postZ {K : PySem.W.Frag} {G : AG} {H : Hp} {Qa : AQ} {Q : VK} (p : PostE K G H Qa Q) : PostZ K G H Qa (Qz Q) := by
  refine ⟨fun d G' v H' f g r q => .inl (p d G' v H' f g r q), fun G' H' ds vs a f ha rg r q => .inr ⟨a, vs, rfl, upd_same, fun o => ?_⟩⟩
  rw [upd_upd]
  exact p (.lst ds) G' (.ref a) _ (f.trans (.newT ha)) (rg.newT ha) (.lst ⟨o, upd_same⟩ (r.mono (.new ha))) q
theorem PostZ.fra {K : PySem.W.Frag} {G G1 : AG} {H H1 : Hp} {Qa : AQ} {Q : VK} (f : Fra G H G1 H1) (p : PostZ K G H Qa Q) : PostZ K G1 H1 Qa Q :=
  ⟨p.p.fra f, fun G' H' ds vs a f2 => p.z G' H' ds vs a (f.trans f2)⟩
/-! ### operators by values -/
def OpA (K : PySem.W.Frag) (r : R2) (rA : Dat → Dat → AG → AQ → Prop) : Prop :=
  ∀ (H : Hp) (x y : V) (d e : Dat) (G : AG) (Qa : AQ) (Q : VK), Rep K H x d → Rep K H y e → RelG K G H → rA d e G Qa → PostZ K G H Qa Q → r x y H Q
theorem rep_newL {K : PySem.W.Frag} {G : AG} {H : Hp} {Qa : AQ} {Q : VK} {ds : List Dat} {vs : List V} (rg : RelG K G H) (r : Reps K H vs ds) {z : Bool} (h : nw z ds G Qa) (p : PostZ K G H Qa Q) : ∀ a, H a = none → Q (.ref a) (upd H a (.lst vs)) := fun a ha => by
  unfold nw at h
  cases z with
  | true =>
    rw [if_pos rfl] at h
    exact p.z G H ds vs a .refl ha rg r h.2
  | false =>
    rw [if_neg (by simp)] at h
    exact p.p (.ref a) (gu G a (.lst ds)) (.ref a) _ (.new ha) (rg.new ha ⟨vs, upd_same, r.mono (.new ha)⟩) (.ref a) (h.2 a (rg.free ha))
theorem nw_len {z : Bool} {ds : List Dat} {G : AG} {Q : AQ} (h : nw z ds G Q) : ds.length ≤ sizeLine := by
  unfold nw at h
  cases z with
  | true => exact (by rw [if_pos rfl] at h; exact h.1)
  | false => exact (by rw [if_neg (by simp)] at h; exact h.1)
/-- a list that is read -/
theorem lstOf_rd {K : PySem.W.Frag} {G : AG} {H : Hp} {x : V} {d : Dat} {ds : List Dat} (rg : RelG K G H) (r : Rep K H x d) (e : lstOf G d = some ds) : ∃ a vs, x = .ref a ∧ Rd H a (.lst vs) ∧ Reps K H vs ds := by
  cases d with
  | lst es =>
    cases e
    cases r with
    | lst h q => obtain ⟨o, h⟩ := h; exact ⟨_, _, rfl, .inr ⟨o, h⟩, q⟩
  | ref a =>
    cases r
    cases q : G a with
    | none => simp only [lstOf, q] at e; cases e
    | some o =>
      simp only [lstOf, q] at e
      cases o with
      | lst es =>
        cases e
        obtain ⟨vs, h, r⟩ := rg.lst q
        exact ⟨a, vs, rfl, .inl h, r⟩
      | _ => cases e
  | _ => cases e
theorem seqOf_rd {K : PySem.W.Frag} {G : AG} {H : Hp} {x : V} {d : Dat} {ds : List Dat} (rg : RelG K G H) (r : Rep K H x d) (e : seqOf G d = some ds) : ∃ a vs, x = .ref a ∧ (SqL K H a vs ∨ SqT K H a vs) ∧ Reps K H vs ds := by
  cases d with
  | tup es =>
    cases e
    cases r with
    | tup h q => exact ⟨_, _, rfl, .inr h.sq, q⟩
  | kls es =>
    cases e
    cases r with
    | kls h q => exact ⟨_, _, rfl, .inl h.sq, q⟩
  | lst es =>
    obtain ⟨a, vs, h1, h2, h3⟩ := lstOf_rd rg r e
    exact ⟨a, vs, h1, .inl (.inl h2), h3⟩
  | ref a =>
    obtain ⟨a, vs, h1, h2, h3⟩ := lstOf_rd rg r e
    exact ⟨a, vs, h1, .inl (.inl h2), h3⟩
  | _ => cases e
/-- the object of a list that is read -/
theorem lstRd {X : Cx} {pins : List (Addr × Obj)} {σ : L2.St} {H : Hp} {s : Shared} {l : Addr} {xs : List V} (I : Inv X pins σ H s) (h : Rd H l (.lst xs)) :
    xs.length ≤ sizeLine ∧ ∃ (its : List Value) (n : Nat), Vals xs its ∧ xs.length = its.length ∧ s.heap.get? l = some { cls := .type "list", data := .seq its.toArray n } := by
  obtain ⟨z, its, n, r, e⟩ := h.ok I.hok
  exact ⟨z, its, n, r, r.length, e⟩
/-- list + list, both read -/
def rCatR : R2 := fun x y H Q => ∃ l b xs zs, x = .ref l ∧ y = .ref b ∧ Rd H l (.lst xs) ∧ Rd H b (.lst zs) ∧ xs.length + zs.length ≤ sizeLine ∧ ∀ p, H p = none → Q (.ref p) (upd H p (.lst (xs ++ zs)))
theorem op_catR {X : Cx} : OpR X (binaryOp .Add) rCatR := by
  intro pins s σ H x y v u Q I rx ry h
  obtain ⟨l, b, xs, zs, rfl, rfl, hl, hb, hz, q⟩ := h
  cases rx
  cases ry
  obtain ⟨_, i1, n1, r1, l1, e1⟩ := lstRd I hl
  obtain ⟨_, i2, n2, r2, l2, e2⟩ := lstRd I hb
  refine PySem.P.add_list e1 e2 ?_ (by simp only [List.size_toArray]; omega)
  rw [show i1.toArray ++ i2.toArray = (i1 ++ i2).toArray by simp]
  exact ⟨.ref _, _, I.lnew (t' := s.toks) (r1.append r2) (by simp only [List.length_append]; omega), rfl, q _ I.fresh⟩
/-- tuple + tuple -/
def rCatTup (K : PySem.W.Frag) : R2 := fun x y H Q => ∃ a b xs ys, x = .ref a ∧ y = .ref b ∧ SqT K H a xs ∧ SqT K H b ys ∧ xs.length + ys.length ≤ sizeLine ∧ (xs = [] → Q (.ref b) H) ∧ (xs ≠ [] → ys = [] → Q (.ref a) H) ∧ (xs ≠ [] → ys ≠ [] → ∀ p, H p = none → Q (.ref p) (upd H p (.tup (xs ++ ys))))
theorem cat_nil {prog : Program} {w : World} {A : Around} {E : Value → Shared → Prop} {s : Shared} {t b : Addr} {ws : List Value} {Q : Value → Shared → Prop} (ht : IsTup s.heap t ([] : List Value).toArray) (hb : IsTup s.heap b ws.toArray) (h : Q (.ref b) s) :
    wpAny (model prog w) A (binaryOp .Add (.ref t) (.ref b)) Q E s := by
  obtain ⟨⟨c1, d1, t1, l1⟩, e1, hc1, n1, hd1⟩ := id ht
  obtain ⟨⟨c2, d2, t2, l2⟩, e2, hc2, n2, hd2⟩ := id hb
  cases (show c1 = .type "tuple" from hc1)
  cases (show c2 = .type "tuple" from hc2)
  cases (show t1 = .seq _ n1 from hd1)
  cases (show t2 = .seq _ n2 from hd2)
  exact concat_meets ⟨_, e1, rfl⟩ ⟨_, e2, rfl⟩ noFill_tuple_add seq_tuple_add PySem.F.slot_tuple_add PySem.F.entry_tuple_add (PySem.F.args_tuple_add_2 _ _)
    (tuple_addW0 t b _ ws.toArray n1 n2 d1 d2 l1 l2 (by simp)) ⟨e1, e2, h⟩
theorem op_catTup {X : Cx} : OpR X (binaryOp .Add) (rCatTup X.K) := by
  intro pins s σ H x y v u Q I rx ry h
  obtain ⟨a, b, xs, ys, rfl, rfl, ha, hb, hz, q0, q1, q2⟩ := h
  cases rx
  cases ry
  obtain ⟨i1, r1, t1, _⟩ := I.tuple ha
  obtain ⟨i2, r2, t2, _⟩ := I.tuple hb
  have l1 := r1.length
  have l2 := r2.length
  by_cases hx : xs = []
  · subst hx
    cases r1
    exact cat_nil t1 t2 ⟨.ref b, H, I, rfl, q0 rfl⟩
  · refine HT.cat_tup t1 t2 (fun z => hx (r1.nil_iff.mp z)) (fun z => ⟨.ref a, H, I, rfl, q1 hx (r2.nil_iff.mp z)⟩) (fun z => ?_) (by omega)
    exact ⟨.ref _, _, I.laid (t' := s.toks) (o := .tup (xs ++ ys)) (fun _ _ z => Heap.get?_push_of_some _ z) (Nat.le_refl _) ⟨by rw [List.length_append]; exact hz, _, r1.append r2, _, Heap.get?_push_size _ rfl, rfl, 0, rfl⟩, rfl,
      q2 hx (fun e => z (r2.nil_iff.mpr e)) _ I.fresh⟩

/-! ### values -/
section
variable {K : PySem.W.Frag} {H : Hp} {x : V}
theorem rep_i {i : Int} (r : Rep K H x (.int i)) : x = .int i := by cases r; rfl
theorem rep_s {i : Str} (r : Rep K H x (.str i)) : x = .str i := by cases r; rfl
theorem rep_b {i : Bool} (r : Rep K H x (.bl i)) : x = .bl i := by cases r; rfl
theorem rep_n (r : Rep K H x .non) : x = .non := by cases r; rfl
theorem rep_r {a : Addr} (r : Rep K H x (.ref a)) : x = .ref a := by cases r; rfl
theorem rep_ty {n : String} (r : Rep K H x (.ty n)) : x = .ty n := by cases r; rfl
theorem rep_t {ds : List Dat} (r : Rep K H x (.tup ds)) : ∃ a vs, x = .ref a ∧ TpAt K H a vs ∧ Reps K H vs ds := by
  cases r with
  | tup h q => exact ⟨_, _, rfl, h, q⟩
end
theorem PostE.val {K : PySem.W.Frag} {G : AG} {H : Hp} {Qa : AQ} {Q : VK} (p : PostE K G H Qa Q) (rg : RelG K G H) {v : V} {d : Dat} (r : Rep K H v d) (q : Qa d G) : Q v H := p d G v H .refl rg r q
/-- a new tuple -/
theorem PostE.newT {K : PySem.W.Frag} {G : AG} {H : Hp} {Qa : AQ} {Q : VK} (p : PostE K G H Qa Q) (rg : RelG K G H) {vs : List V} {ds : List Dat} (r : Reps K H vs ds) (q : Qa (.tup ds) G) : ∀ a, H a = none → Q (.ref a) (upd H a (.tup vs)) := fun a ha =>
  p (.tup ds) G (.ref a) _ (.newT ha) (rg.newT ha) (.tup (.inl upd_same) (r.mono (.new ha))) q
theorem PostZ.val {K : PySem.W.Frag} {G : AG} {H : Hp} {Qa : AQ} {Q : VK} (p : PostZ K G H Qa Q) (rg : RelG K G H) {v : V} {d : Dat} (r : Rep K H v d) (q : Qa d G) : Q v H := p.p.val rg r q
theorem PostZ.newT {K : PySem.W.Frag} {G : AG} {H : Hp} {Qa : AQ} {Q : VK} (p : PostZ K G H Qa Q) (rg : RelG K G H) {vs : List V} {ds : List Dat} (r : Reps K H vs ds) (q : Qa (.tup ds) G) : ∀ a, H a = none → Q (.ref a) (upd H a (.tup vs)) := p.p.newT rg r q

/-! ### binary operators -/
def BO.op : BO → Operator
  | .add => .Add | .sub => .Sub | .mul => .Mult | .fdiv => .FloorDiv | .mod => .Mod | .pow => .Pow | .shl => .LShift | .shr => .RShift | .band => .BitAnd
theorem cutNil {ds : List Dat} {vs : List V} {K : PySem.W.Frag} {H : Hp} (r : Reps K H vs ds) : vs = [] ↔ ds = [] := by
  have e := r.length
  cases vs <;> cases ds <;> simp_all
theorem add_tups {K : PySem.W.Frag} {G : AG} {H : Hp} {Qa : AQ} {Q : VK} {x y : V} {a b : List Dat} (rx : Rep K H x (.tup a)) (ry : Rep K H y (.tup b)) (rg : RelG K G H) (hz : a.length + b.length ≤ sizeLine) (q : Qa (.tup (a ++ b)) G) (p : PostZ K G H Qa Q) : rCatTup K x y H Q := by
  obtain ⟨l, xs, rfl, h1, r1⟩ := rep_t rx
  obtain ⟨m, ys, rfl, h2, r2⟩ := rep_t ry
  refine ⟨l, m, xs, ys, rfl, rfl, h1.sq, h2.sq, by rw [r1.length, r2.length]; exact hz, fun e => ?_, fun _ e => ?_, fun _ _ => p.newT rg (r1.append r2) q⟩
  · have e1 := (cutNil r1).mp e
    subst e1
    exact p.val rg ry q
  · have e1 := (cutNil r2).mp e
    subst e1
    rw [List.append_nil] at q
    exact p.val rg rx q
def rAddA (K : PySem.W.Frag) : R2 := fun x y H Q => rI0 (fun i j => .int (i + j)) x y H Q ∨ (∃ i j, x = .str i ∧ y = .str j ∧ i.length + j.length ≤ sizeLine ∧ Q (.str (i ++ j)) H) ∨ rCatTup K x y H Q ∨ rCatR x y H Q
theorem rAddA_ok {X : Cx} : OpR X (binaryOp .Add) (rAddA X.K) := op_add.or (op_add_str.or (op_catTup.or op_catR))
theorem add_lsts {K : PySem.W.Frag} {G : AG} {H : Hp} {Qa : AQ} {Q : VK} {x y : V} {d e : Dat} {z : Bool} (rx : Rep K H x d) (ry : Rep K H y e) (rg : RelG K G H) (h : ∃ a b, lstOf G d = some a ∧ lstOf G e = some b ∧ nw z (a ++ b) G Qa) (p : PostZ K G H Qa Q) : rCatR x y H Q := by
  obtain ⟨a, b, h1, h2, h3⟩ := h
  obtain ⟨l, vs, rfl, k1, r1⟩ := lstOf_rd rg rx h1
  obtain ⟨m, ws, rfl, k2, r2⟩ := lstOf_rd rg ry h2
  have hz := nw_len h3
  rw [List.length_append] at hz
  exact ⟨l, m, vs, ws, rfl, rfl, k1, k2, by rw [r1.length, r2.length]; exact hz, rep_newL rg (r1.append r2) h3 p⟩
theorem opA_add {K : PySem.W.Frag} {z : Bool} : OpA K (rAddA K) (binW z .add) := by
  intro H x y d e G Qa Q rx ry rg h p
  have no : ∀ {a b : List Dat}, lstOf G d = some a → lstOf G e = some b → nw z (a ++ b) G Qa → rAddA K x y H Q := fun h1 h2 h3 => .inr (.inr (.inr (add_lsts rx ry rg ⟨_, _, h1, h2, h3⟩ p)))
  cases d with
  | int i =>
    cases e with
    | int j => cases rep_i rx; cases rep_i ry; exact .inl ⟨i, j, rfl, rfl, p.val rg (.int _) h⟩
    | _ => obtain ⟨a, b, h1, h2, h3⟩ := h; exact no h1 h2 h3
  | str i =>
    cases e with
    | str j => cases rep_s rx; cases rep_s ry; exact .inr (.inl ⟨i, j, rfl, rfl, h.1, p.val rg (.str _) h.2⟩)
    | _ => obtain ⟨a, b, h1, h2, h3⟩ := h; exact no h1 h2 h3
  | tup i =>
    cases e with
    | tup j => exact .inr (.inr (.inl (add_tups rx ry rg h.1 h.2 p)))
    | _ => obtain ⟨a, b, h1, h2, h3⟩ := h; exact no h1 h2 h3
  | _ => obtain ⟨a, b, h1, h2, h3⟩ := h; exact no h1 h2 h3
/-- list * int, read -/
def rRepR : R2 := fun x y H Q => ∃ l k xs, x = .ref l ∧ y = .int k ∧ Rd H l (.lst xs) ∧ -(2 ^ 63) ≤ k ∧ k < 2 ^ 63 ∧ xs.length * k.toNat ≤ sizeLine ∧ ∀ p, H p = none → Q (.ref p) (upd H p (.lst (List.replicate k.toNat xs).flatten))
theorem op_repR {X : Cx} : OpR X (binaryOp .Mult) rRepR := by
  intro pins s σ H x y v u Q I rx ry h
  obtain ⟨l, k, xs, rfl, rfl, hl, h1, h2, hz, q⟩ := h
  cases rx
  obtain ⟨t, rfl⟩ := ry
  obtain ⟨z, its, n, r, el, e⟩ := lstRd I hl
  have a1 : its.toArray.size * k.toNat ≤ sizeLine := by simp only [List.size_toArray]; rw [← el]; exact hz
  have a2 : ¬ its.toArray.size * k.toNat > (2 ^ 63 - 1) / 8 := by
    have b : (sizeLine : Nat) ≤ (2 ^ 63 - 1) / 8 := by decide
    omega
  have a3 : ¬ (!Builtin.List.listFitsIndex k) = true := by
    rw [fitsIndex_both h1 h2]
    simp
  have a4 : ¬ Builtin.List.listTooLong (its.toArray.size * k.toNat) = true := by
    rw [notLongL a1]
    simp
  have a5 : List.foldl (fun x1 x2 => x1 ++ x2) #[] (List.replicate (if its.toArray.isEmpty = true then 0 else k.toNat) its.toArray) = (List.replicate k.toNat its).flatten.toArray := by
    have f0 : ∀ m : Nat, List.foldl (fun x1 x2 => x1 ++ x2) #[] (List.replicate m its.toArray) = (List.replicate m its).flatten.toArray := fun m => by
      have b := foldl_rep its m []
      rw [List.nil_append] at b
      exact b
    rw [f0]
    cases its with
    | nil => simp
    | cons a q => rw [if_neg (by simp)]
  refine wpAny_binaryOp_repeat_ref (T := "list") (U := "int") (by decide) ⟨_, e, rfl⟩ (fun s' => typeIs_int s' k t) noFill_list_mul F.fills_int_mul F.slot_int_rmul repeat_list F.slot_int_index.lookup
    (call_meets F.slot_int_rmul (typeIs_int s k t) F.entry_int_rmul (F.args_int_rmul_2 _ _) (int___rmul___int_list k t l its.toArray n)
      ⟨e, rfl, ⟨_, e, rfl⟩, call_meets F.slot_list_mul ⟨_, e, rfl⟩ F.entry_list_mul (F.args_list_mul_2 _ _) (AutoListH.list___mul___list_int_3 l its.toArray n k t a3 a2 a4) ⟨e, ?_⟩⟩)
  rw [a5]
  exact ⟨.ref _, _, I.lnew (t' := s.toks) (r.rep k.toNat) (by rw [PyProof.Rows.lm_len_rep_flat, Nat.mul_comm]; exact hz), rfl, q _ I.fresh⟩
def rMulA : R2 := fun x y H Q => rI CMul (fun i j => .int (i * j)) x y H Q ∨ rRepR x y H Q
theorem rMulA_ok {X : Cx} : OpR X (binaryOp .Mult) rMulA := op_mul.or op_repR
theorem len_rep {α : Type} (n : Nat) (l : List α) : (List.replicate n l).flatten.length = l.length * n := by
  simp [List.length_flatten, Nat.mul_comm]
theorem opA_mul {K : PySem.W.Frag} {z : Bool} : OpA K rMulA (binW z .mul) := by
  intro H x y d e G Qa Q rx ry rg h p
  have no : ∀ {k : Int}, e = .int k → (∃ a, lstOf G d = some a ∧ -(2 ^ 63) ≤ k ∧ k < 2 ^ 63 ∧ nw z (List.replicate k.toNat a).flatten G Qa) → rMulA x y H Q := fun {k} he hq => by
    subst he
    obtain ⟨a, h1, h2, h3, h4⟩ := hq
    cases rep_i ry
    obtain ⟨l, vs, rfl, k1, r1⟩ := lstOf_rd rg rx h1
    have hz := nw_len h4
    rw [len_rep] at hz
    exact .inr ⟨l, k, vs, rfl, rfl, k1, h2, h3, by rw [r1.length]; exact hz, rep_newL rg (r1.rep _) h4 p⟩
  cases d with
  | int i =>
    cases e with
    | int j => cases rep_i rx; cases rep_i ry; exact .inl ⟨i, j, rfl, rfl, h.1, p.val rg (.int _) h.2⟩
    | _ => exact False.elim h
  | _ =>
    cases e with
    | int j => exact no rfl h
    | _ => exact False.elim h
theorem opA_I {K : PySem.W.Frag} {C : Int → Int → Prop} {g : Int → Int → Int} {rA : Dat → Dat → AG → AQ → Prop} (e : ∀ d e G Q, rA d e G Q → ∃ i j, d = .int i ∧ e = .int j ∧ C i j ∧ Q (.int (g i j)) G) : OpA K (rI C fun i j => .int (g i j)) rA := by
  intro H x y d e' G Qa Q rx ry rg h p
  obtain ⟨i, j, rfl, rfl, h1, h2⟩ := e _ _ _ _ h
  cases rep_i rx
  cases rep_i ry
  exact ⟨i, j, rfl, rfl, h1, p.val rg (.int _) h2⟩
theorem rI0_I {g : Int → Int → V} {x y : V} {H : Hp} {Q : VK} (h : rI (fun _ _ => True) g x y H Q) : rI0 g x y H Q := by
  obtain ⟨i, j, h1, h2, _, h3⟩ := h
  exact ⟨i, j, h1, h2, h3⟩
theorem OpA.imp {K : PySem.W.Frag} {r r' : R2} {rA : Dat → Dat → AG → AQ → Prop} (f : ∀ x y H Q, r x y H Q → r' x y H Q) (h : OpA K r rA) : OpA K r' rA := fun H x y d e G Qa Q rx ry rg q p => f _ _ _ _ (h H x y d e G Qa Q rx ry rg q p)
theorem bin_ok (X : Cx) (z : Bool) (o : BO) : ∃ r, OpR X (binaryOp o.op) r ∧ OpA X.K r (binW z o) := by
  cases o with
  | add => exact ⟨_, rAddA_ok, opA_add⟩
  | sub => exact ⟨_, op_sub, .imp (fun _ _ _ _ => rI0_I) (opA_I (C := fun _ _ => True) (g := fun i j => i - j) fun d e G Q h => by cases d <;> cases e <;> first | exact ⟨_, _, rfl, rfl, trivial, h⟩ | exact False.elim h)⟩
  | mul => exact ⟨_, rMulA_ok, opA_mul⟩
  | fdiv => exact ⟨_, op_fdiv, opA_I fun d e G Q h => by cases d <;> cases e <;> first | exact ⟨_, _, rfl, rfl, h.1, h.2⟩ | exact False.elim h⟩
  | mod => exact ⟨_, op_mod, opA_I fun d e G Q h => by cases d <;> cases e <;> first | exact ⟨_, _, rfl, rfl, h.1, h.2⟩ | exact False.elim h⟩
  | pow => exact ⟨_, op_pow, opA_I fun d e G Q h => by cases d <;> cases e <;> first | exact ⟨_, _, rfl, rfl, h.1, h.2⟩ | exact False.elim h⟩
  | shl => exact ⟨_, op_shl, opA_I fun d e G Q h => by cases d <;> cases e <;> first | exact ⟨_, _, rfl, rfl, h.1, h.2⟩ | exact False.elim h⟩
  | shr => exact ⟨_, op_shr, opA_I fun d e G Q h => by cases d <;> cases e <;> first | exact ⟨_, _, rfl, rfl, h.1, h.2⟩ | exact False.elim h⟩
  | band => exact ⟨_, op_and, .imp (fun _ _ _ _ => rI0_I) (opA_I (C := fun _ _ => True) (g := fun i j => Builtin.bitAnd i j) fun d e G Q h => by cases d <;> cases e <;> first | exact ⟨_, _, rfl, rfl, trivial, h⟩ | exact False.elim h)⟩
end Av


set_option Elab.async false
set_option linter.all false
set_option maxRecDepth 100000
set_option maxHeartbeats 4000000
/-! # AvSum: sum(list, start) of lists, of tuples -/
namespace Av
open PySem PySem.Spec PyProof.Rows L2
abbrev sm (X : Cx) : Cx := { X with A := X.A.in1, xe := fun _ _ => False }
section
variable {X : Cx} {pins : List (Addr × Obj)} {σ : L2.St} {H : Hp} {s : Shared}
theorem inv_sm (I : Inv X pins σ H s) : Inv (sm X) pins σ H s :=
  ⟨⟨I.ok.mod, I.ok.kind, I.ok.glob, I.ok.blt, I.ok.above, I.ok.inj, I.ok.has, I.ok.cab, I.ok.hd, I.ok.frames, I.ok.stk, I.ok.exf, I.ok.bs, I.ok.bsz, I.ok.noex, I.ok.exfs, I.ok.funs, I.ok.frf⟩, I.os, I.bare, I.base, I.loc, I.cell, I.free, I.freeC, I.pin, I.hok, I.len⟩
theorem sm_inv (I : Inv (sm X) pins σ H s) : Inv X pins σ H s :=
  ⟨⟨I.ok.mod, I.ok.kind, I.ok.glob, I.ok.blt, I.ok.above, I.ok.inj, I.ok.has, I.ok.cab, I.ok.hd, I.ok.frames, I.ok.stk, I.ok.exf, I.ok.bs, I.ok.bsz, I.ok.noex, I.ok.exfs, I.ok.funs, I.ok.frf⟩, I.os, I.bare, I.base, I.loc, I.cell, I.free, I.freeC, I.pin, I.hok, I.len⟩
theorem args_sum2 (a b : Value) : argsOk "sum" ⟨[a, b], []⟩ := by unfold argsOk; kernel_rfl
def sumObj (u : Value) (c : Nat) : Obj := { cls := .type "list", dict := none, data := .seq #[u] c, slots := #[] }
theorem sum_go {r : R2} {a it S : Addr} {n : Nat} {W : Nat → V → Hp → Prop} {Q : VK} (hr : OpR (sm X) (binaryOp .Add) r) (hc : X.calm = true) (hS : it ≠ S)
    (hW : ∀ i t H, W i t H → (∃ b, t = .ref b) ∧ ∃ xs, SqL X.K H a xs ∧ xs.length = n ∧ (n ≤ i → Q t H) ∧ ∀ x, xs[i]? = some x → r t x H fun t' H' => W (i + 1) t' H') :
    ∀ (k i : Nat) (s : Shared) (H : Hp) (t : V) (u : Value) (c : Nat), n - i = k → Inv (sm X) pins σ H s → (∀ b ∈ [it, S], FpOk (sm X) pins H b) → s.heap.IsListIter it a i → s.heap.get? S = some (sumObj u c) → RelV t u → W i t H →
      codeAny (model X.prog X.w) X.A (.builtin "sum.loop" ⟨[.ref it, .ref S, rawInt 2, rawInt 0], []⟩) (fun f s' => ∃ v, f = .ok (.ret v) ∧ EP (sm X) pins σ Q v s') s := by
  intro k
  induction k with
  | zero =>
    intro i s H t u c hk I hf hit hSo rt w
    obtain ⟨⟨b, rfl⟩, xs, h1, h2, h3, _⟩ := hW i t H w
    cases rt
    obtain ⟨its, rv, p, _⟩ := I.list h1
    obtain ⟨f0, f1, f2, f3, f4, f5⟩ := hf it (by simp)
    have hl := rv.length
    refine codeAny_builtin PySem.F.entry_sum_loop ?_
    rw [Around.under_plainId PySem.F.plain_sum_loop _]
    show wpAny _ X.A.in1 (seqItems? (.ref S) >>= _) _ _ s
    refine wpAny_bind (wpAny_seqItems hSo rfl ?_)
    show wpAny _ X.A.in1 (tryCatch (pyNext (.ref it)) _ >>= _) _ _ s
    refine wpAny_bind (wpAny_tryCatch (wpAny_pyNext_list_end (I.ok.hd hc) hit p.isList (by simp; omega) fun h' eb => ?_))
    exact wpAny_pure ⟨.ref b, rfl, .ref b, H, I.turned (t' := s.toks) (fun b o hb e => eb b o hb e) f0 f1 f3 f4 f5, rfl, h3 (by omega)⟩
  | succ k ih =>
    intro i s H t u c hk I hf hit hSo rt w
    obtain ⟨⟨b, rfl⟩, xs, h1, h2, _, h4⟩ := hW i t H w
    cases rt
    obtain ⟨its, rv, p, _⟩ := I.list h1
    obtain ⟨f0, f1, f2, f3, f4, f5⟩ := hf it (by simp)
    have hlt : i < xs.length := by omega
    obtain ⟨x, hx⟩ : ∃ x, xs[i]? = some x := ⟨xs[i], List.getElem?_eq_getElem hlt⟩
    obtain ⟨v, hv, rx⟩ := rv.get hx
    refine codeAny_builtin PySem.F.entry_sum_loop ?_
    rw [Around.under_plainId PySem.F.plain_sum_loop _]
    show wpAny _ X.A.in1 (seqItems? (.ref S) >>= _) _ _ s
    refine wpAny_bind (wpAny_seqItems hSo rfl ?_)
    show wpAny _ X.A.in1 (tryCatch (pyNext (.ref it)) _ >>= _) _ _ s
    refine wpAny_bind (wpAny_tryCatch (wpAny_pyNext_list_item hit p.isList (x := v) (by simpa using hv) fun h' hit' sb => ?_))
    have I1 : Inv (sm X) pins σ H { s with heap := h' } := I.turned (t' := s.toks) (fun b o hb e => (sb.2 b hb).trans e) f0 f1 f3 f4 f5
    have hSo1 : h'.get? S = some (sumObj (.ref b) c) := (sb.2 S (Ne.symm hS)).trans hSo
    obtain ⟨oi, ei, ci, di⟩ := id hit'
    have I2 := I1.pinned (fp := [it, S]) hf fun q hq => by
      rcases List.mem_cons.mp hq with e | hq
      · subst e
        exact ⟨oi, ei, fun z e => by rw [di] at e; cases e⟩
      · cases List.mem_singleton.mp hq
        exact ⟨_, hSo1, fun z e => by cases e⟩
    show wpAny _ X.A.in1 ((holding [v] (binaryOp .Add (.ref b) v)).attempt >>= _) _ _ _
    refine wpAny_bind (wpAny_attempt (wpAny_holding ?_))
    refine wpAny_mono (hr _ { s with heap := h' } σ H (.ref b) x (.ref b) v _ I2 rfl rx (h4 x hx)) ?_ fun _ _ z => False.elim z
    rintro z s2 ⟨t', H2, I3, rt', w'⟩
    have pS := I3.pin (S, sumObj (.ref b) c) (List.mem_append_right _ (List.mem_append_right _ (mem_pinsAt (by simp) hSo1)))
    have pI := I3.pin (it, oi) (List.mem_append_right _ (List.mem_append_right _ (mem_pinsAt (by simp) ei)))
    have I4 : Inv (sm X) pins σ H2 s2 := I3.unpinned
    have hf2 : ∀ q ∈ [it, S], FpOk (sm X) pins H2 q := fun q hq => by
      refine ⟨?_, (hf q hq).2⟩
      rcases List.mem_cons.mp hq with e | hq
      · subst e; exact pI.2.1
      · cases List.mem_singleton.mp hq
        exact pS.2.1
    obtain ⟨g0, g1, g2, g3, g4, g5⟩ := hf2 S (by simp)
    have eS : s2.heap.get? S = some { cls := .type "list", dict := none, data := .seq #[.ref b] c, slots := #[] } := pS.1
    show wpAny _ X.A.in1 (updateSeq S (fun _ => #[z]) >>= _) _ _ _
    refine wpAny_bind ?_
    refine wpAny_updateSeq eS rfl ?_
    have e2 := Heap.get?_update_self (Obj.mapSeq fun _ => #[z]) eS rfl
    refine wpAny_bind (wpAny_letGo ?_)
    refine wpAny_bind ?_
    refine wpAny_updateSeq e2 rfl (wpAny_pure ⟨plainId_quiet PySem.F.plain_sum_loop _, ?_⟩)
    have e3 := Heap.get?_update_self (Obj.mapSeq fun _ => #[z]) e2 rfl
    have kp : ∀ (q : Addr) (o : Obj), q ≠ S → s2.heap.get? q = some o → ((s2.heap.update S (Obj.mapSeq fun _ => #[z])).update S (Obj.mapSeq fun _ => #[z])).get? q = some o := fun q o hq e =>
      (Heap.get?_update_other _ _ (Ne.symm hq)).trans ((Heap.get?_update_other _ _ (Ne.symm hq)).trans e)
    refine ih (i + 1) _ H2 t' z _ (by omega) (I4.turned (t' := s2.toks) (fun q o hq e => kp q o hq e) g0 g1 g3 g4 g5) hf2 ⟨oi, kp it oi hS pI.1, ci, di⟩ e3 rt' w'
/-- sum(xs, t), t a list or a tuple -/
def rSum2 (r : R2) (K : PySem.W.Frag) : List V → Hp → VK → Prop := fun vs H Q => ∃ a b xs T, vs = [.ref a, .ref b] ∧ SqL K H a xs ∧ (T = "list" ∧ (∃ ys, Rd H b (.lst ys)) ∨ T = "tuple" ∧ ∃ ys, SqT K H b ys) ∧
  ∃ W : Nat → V → Hp → Prop, W 0 (.ref b) H ∧ ∀ i t H, W i t H → (∃ b, t = .ref b) ∧ ∃ xs', SqL K H a xs' ∧ xs'.length = xs.length ∧ (xs.length ≤ i → Q t H) ∧ ∀ x, xs'[i]? = some x → r t x H fun t' H' => W (i + 1) t' H'
theorem cr_sum2 {r : R2} (hr : OpR (sm X) (binaryOp .Add) r) (hc : X.calm = true) : CallR X (.builtin "sum") (rSum2 r X.K) := by
  intro pins s σ H vs us Q I rv h
  obtain ⟨a, b, xs, T, rfl, h1, h2, W, w0, hW⟩ := h
  obtain ⟨u1, u2, rfl, r1, r2⟩ := rv.two
  cases r1
  cases r2
  obtain ⟨its, rl, p, _⟩ := I.list h1
  refine call_function_tree PySem.F.kind_sum PySem.F.plain_sum PySem.F.entry_sum (args_sum2 _ _) ?_
  unfold Builtin.«sum»
  simp only [List.length_cons, List.length_nil]
  rw [if_neg (by decide)]
  refine wpAny_bind (wpAny_of_eq (show Builtin.Builtins.bindParams "sum" ["start"] 0 ⟨[.ref b], []⟩ = pure [some (.ref b)] from rfl) ?_)
  refine wpAny_bind (wpAny_pyIter_list p.isList ?_)
  have I1 : Inv (sm X) pins σ H { s with heap := s.heap.push { cls := .type "list_iterator", data := .fields #[.ref a, .int 0 0] } } := (inv_sm I).kept (t' := s.toks) fun q o e => Heap.get?_push_of_some _ e
  have tl : ∀ U : String, isSubtype (.type "list") (.type U) = pure false → isSubtype (.type "tuple") (.type U) = pure false → ∀ (Qk : Bool → Shared → Prop), Qk false { s with heap := s.heap.push { cls := .type "list_iterator", data := .fields #[.ref a, .int 0 0] } } →
      wpAny (model X.prog X.w) X.A.in1 (isInstance (.ref b) (.type U)) Qk X.xe { s with heap := s.heap.push { cls := .type "list_iterator", data := .fields #[.ref a, .int 0 0] } } := fun U e1 e2 Qk q => by
    rcases h2 with ⟨_, ys, h2⟩ | ⟨_, ys, h2⟩
    · obtain ⟨_, i2, n2, _, _, e⟩ := lstRd I1 h2
      exact wpAny_isInstance (T := "list") (b := false) ⟨_, e, rfl⟩ e1 q
    · obtain ⟨i2, _, ⟨⟨oc, od, dt, sl⟩, e, hcl, n2, hd⟩, _⟩ := I1.tuple h2
      cases (show oc = .type "tuple" from hcl)
      exact wpAny_isInstance (T := "tuple") (b := false) ⟨_, e, rfl⟩ e2 q
  refine wpAny_bind (wpAny_pure ?_)
  simp only [List.forIn_cons, List.forIn_nil]
  refine wpAny_bind (wpAny_bind (wpAny_bind (tl "str" PySem.F.sub_list_str PySem.F.sub_tuple_str _ ?_)))
  simp only [Bool.false_eq_true, if_false]
  refine wpAny_pure (wpAny_bind (wpAny_bind (tl "bytes" PySem.F.sub_list_bytes PySem.F.sub_tuple_bytes _ ?_)))
  simp only [Bool.false_eq_true, if_false]
  refine wpAny_pure (wpAny_bind (wpAny_bind (tl "bytearray" PySem.F.sub_list_bytearray PySem.F.sub_tuple_bytearray _ ?_)))
  simp only [Bool.false_eq_true, if_false]
  refine wpAny_pure (wpAny_pure ?_)
  refine wpAny_bind (wpAny_newObj_type ?_)
  have sz : ({ s with heap := s.heap.push { cls := .type "list_iterator", data := .fields #[.ref a, .int 0 0] } } : Shared).heap.objs.size = s.heap.objs.size + 1 := Array.size_push ..
  have it0 : (s.heap.push { cls := .type "list_iterator", data := .fields #[.ref a, .int 0 0] }).IsListIter s.heap.objs.size a 0 := ⟨_, Heap.get?_push_size _ rfl, rfl, rfl⟩
  have fI : FpOk (sm X) pins H s.heap.objs.size := (inv_sm I).fpOk (Nat.le_refl _) (I.hok.fresh (Nat.le_refl _))
  have fS : FpOk (sm X) pins H (s.heap.push { cls := .type "list_iterator", data := .fields #[.ref a, .int 0 0] }).objs.size := I1.fpOk (Nat.le_refl _) (I1.hok.fresh (Nat.le_refl _))
  refine wpAny_pure ⟨plainId_quiet PySem.F.plain_sum_loop _, ?_⟩
  refine codeAny_mono (sum_go hr hc (Nat.ne_of_lt (Heap.lt_size it0.choose_spec.1)) hW (xs.length - 0) 0 _ H (.ref b) (.ref b) 0 rfl (I1.kept (t' := s.toks) fun q o e => Heap.get?_push_of_some _ e) ?_ (it0.at fun o e => Heap.get?_push_of_some _ e) (Heap.get?_push_size _ rfl) rfl w0) ?_
  · intro q hq
    rcases List.mem_cons.mp hq with e | hq
    · subst e; exact fI
    · cases List.mem_singleton.mp hq
      exact fS
  · rintro f s' ⟨v, rfl, t', H', I', rt, q⟩
    exact ⟨t', H', sm_inv I', rt, q⟩
end
end Av


set_option Elab.async false
set_option linter.all false
set_option maxRecDepth 100000
set_option maxHeartbeats 4000000
/-! # Av3: comparisons, truth, subscripts, slices, built-ins, methods by values -/
namespace Av
open PySem PySem.Spec PyProof.Rows L2

/-! ### equality -/
mutual
theorem deep_dp {K : PySem.W.Frag} {G : AG} {H : Hp} (rg : RelG K G H) : ∀ {d : Dat} {p : PyData} {x : V}, Deep G d p → Rep K H x d → Dp K H x p
  | _, _, _, .non, .non => .non
  | _, _, _, .bl b, .bl _ => .bl b
  | _, _, _, .int b, .int _ => .int b
  | _, _, _, .str b, .str _ => .str b
  | _, _, _, .tup h, .tup a r => .tup a.sq (deeps_dp rg h r)
  | _, _, _, .lst h, .lst a r => .lst a.sq (deeps_dp rg h r)
  | _, _, _, .ref e h, r => by
    cases rep_r r
    obtain ⟨vs, h1, h2⟩ := rg.lst e
    exact .lst (.inl (.inl h1)) (deeps_dp rg h h2)
theorem deeps_dp {K : PySem.W.Frag} {G : AG} {H : Hp} (rg : RelG K G H) : ∀ {ds : List Dat} {ps : List PyData} {xs : List V}, Deeps G ds ps → Reps K H xs ds → DpAll K H xs ps
  | _, _, _, .nil, .nil => .nil
  | _, _, _, .cons a b, .cons c d => .cons (deep_dp rg a c) (deeps_dp rg b d)
end
def CO.op : CO → CmpOp
  | .lt => .Lt | .le => .LtE | .gt => .Gt | .ge => .GtE | .eq => .Eq | .ne => .NotEq | .isn => .Is | .isnt => .IsNot | .mem => .In | .nmem => .NotIn
theorem opA_eq {K : PySem.W.Frag} : OpA K (rEqD K) (cmpW .eq) := by
  intro H x y d e G Qa Q rx ry rg h p
  obtain ⟨a, b, h1, h2, h3, h4, h5⟩ := h
  exact ⟨a, b, deep_dp rg h1 rx, deep_dp rg h2 ry, h3, h4, p.val rg (.bl _) h5⟩
theorem opA_ne {K : PySem.W.Frag} : OpA K (rNeD K) (cmpW .ne) := by
  intro H x y d e G Qa Q rx ry rg h p
  obtain ⟨a, b, h1, h2, h3, h4, h5⟩ := h
  exact ⟨a, b, deep_dp rg h1 rx, deep_dp rg h2 ry, h3, h4, p.val rg (.bl _) h5⟩
theorem flat_rep {K : PySem.W.Frag} {H : Hp} {x : V} {d : Dat} (r : Rep K H x d) (f : flatD d = true) : x = toV d ∧ flatV x = true := by
  cases r <;> first | exact ⟨rfl, rfl⟩ | cases f
theorem flats_rep {K : PySem.W.Frag} {H : Hp} : ∀ {ds : List Dat} {xs : List V}, Reps K H xs ds → ds.all flatD = true → xs = ds.map toV ∧ xs.all flatV = true
  | [], _, .nil, _ => ⟨rfl, rfl⟩
  | d :: ds, _, .cons a r, f => by
    rw [List.all_cons, Bool.and_eq_true] at f
    obtain ⟨h1, h2⟩ := flat_rep a f.1
    obtain ⟨h3, h4⟩ := flats_rep r f.2
    exact ⟨by rw [List.map_cons, ← h1, ← h3], by rw [List.all_cons, h2, h4] <;> rfl⟩
theorem opA_mem {K : PySem.W.Frag} {n : Bool} {rA : Dat → Dat → AG → AQ → Prop} (e : ∀ x y G Q, rA x y G Q → memW n x y G Q) : OpA K (rIn K n) rA := by
  intro H x y d e' G Qa Q rx ry rg h p
  obtain ⟨ds, h1, h2, h3, h4⟩ := e _ _ _ _ h
  obtain ⟨a, vs, rfl, h5, h6⟩ := seqOf_rd rg ry h1
  obtain ⟨f1, f2⟩ := flat_rep rx h2
  obtain ⟨f3, f4⟩ := flats_rep h6 h3
  refine ⟨a, vs, rfl, h5, f2, f4, ?_⟩
  have q : inV x vs = ds.any fun d' => eqF d' d := by
    unfold inV
    rw [f3, f1, List.any_map]
    rfl
  rw [q]
  exact p.val rg (.bl _) h4
theorem opA_B {K : PySem.W.Frag} {g : Int → Int → Bool} {rA : Dat → Dat → AG → AQ → Prop} (e : ∀ d e G Q, rA d e G Q → ∃ i j, d = .int i ∧ e = .int j ∧ Q (.bl (g i j)) G) : OpA K (rI0 fun i j => .bl (g i j)) rA := by
  intro H x y d e' G Qa Q rx ry rg h p
  obtain ⟨i, j, rfl, rfl, h2⟩ := e _ _ _ _ h
  cases rep_i rx
  cases rep_i ry
  exact ⟨i, j, rfl, rfl, p.val rg (.bl _) h2⟩
theorem non_dec {K : PySem.W.Frag} {H : Hp} {x : V} {d : Dat} (r : Rep K H x d) : decide (x = .non) = isNonD d := by
  cases r <;> first | rfl | exact decide_eq_false (fun z => by cases z)
theorem cmp_ok (X : Cx) (hu : X.A.units + 64 < cLine) (o : CO) : ∃ r, OpR X (compareOp o.op) r ∧ OpA X.K r (cmpW o) := by
  cases o with
  | lt => exact ⟨_, op_lt, opA_B fun d e G Q h => by cases d <;> cases e <;> first | exact ⟨_, _, rfl, rfl, h⟩ | exact False.elim h⟩
  | le => exact ⟨_, op_le, opA_B fun d e G Q h => by cases d <;> cases e <;> first | exact ⟨_, _, rfl, rfl, h⟩ | exact False.elim h⟩
  | gt => exact ⟨_, op_gt, opA_B fun d e G Q h => by cases d <;> cases e <;> first | exact ⟨_, _, rfl, rfl, h⟩ | exact False.elim h⟩
  | ge => exact ⟨_, op_ge, opA_B fun d e G Q h => by cases d <;> cases e <;> first | exact ⟨_, _, rfl, rfl, h⟩ | exact False.elim h⟩
  | eq => exact ⟨_, op_eqD hu, opA_eq⟩
  | ne => exact ⟨_, op_neD hu, opA_ne⟩
  | isn =>
    refine ⟨_, op_isN, fun H x y d e G Qa Q rx ry rg h p => ?_⟩
    cases e with
    | non => cases rep_n ry; exact ⟨rfl, by rw [non_dec rx]; exact p.val rg (.bl _) h⟩
    | _ => exact False.elim h
  | isnt =>
    refine ⟨_, op_notN, fun H x y d e G Qa Q rx ry rg h p => ?_⟩
    cases e with
    | non =>
      cases rep_n ry
      refine ⟨rfl, ?_⟩
      rw [non_dec rx]
      exact p.val rg (.bl _) h
    | _ => exact False.elim h
  | mem => exact ⟨_, op_in_seq, opA_mem fun _ _ _ _ h => h⟩
  | nmem => exact ⟨_, op_notIn_seq, opA_mem fun _ _ _ _ h => h⟩

/-! ### truth -/
theorem emp {K : PySem.W.Frag} {H : Hp} {vs : List V} {ds : List Dat} (r : Reps K H vs ds) : (!vs.isEmpty) = !ds.isEmpty := by
  cases r <;> rfl
theorem tru_A {K : PySem.W.Frag} {H : Hp} {x : V} {d : Dat} {G : AG} {Qa : Bool → AG → Prop} {Q : Bool → Hp → Prop} (rx : Rep K H x d) (rg : RelG K G H) (h : truW d G Qa) (p : ∀ k, Qa k G → Q k H) : ∃ k, TruV K x H k ∧ Q k H := by
  cases d with
  | non => cases rep_n rx; exact ⟨false, rfl, p _ h⟩
  | bl b => cases rep_b rx; exact ⟨b, rfl, p _ h⟩
  | int i => cases rep_i rx; exact ⟨_, rfl, p _ h⟩
  | str z =>
    cases rep_s rx
    have e : ((z.length : Int) != 0) = (z.length != 0) := by
      have q : ((z.length : Int) == 0) = (z.length == 0) := by rw [Bool.eq_iff_iff]; simp
      simp only [bne, q]
    exact ⟨_, ⟨h.1, rfl⟩, by rw [e]; exact p _ h.2⟩
  | tup ds =>
    obtain ⟨a, vs, rfl, h1, h2⟩ := rep_t rx
    exact ⟨_, .inr (.inl ⟨vs, h1.sq, rfl⟩), by rw [emp h2]; exact p _ h⟩
  | _ =>
    obtain ⟨ds, h1, h2⟩ := h
    obtain ⟨a, vs, rfl, h3, h4⟩ := lstOf_rd rg rx h1
    exact ⟨_, .inl ⟨vs, .inl h3, rfl⟩, by rw [emp h4]; exact p _ h2⟩

/-! ### subscripts, slices -/
theorem atI_rep {K : PySem.W.Frag} {H : Hp} {vs : List V} {ds : List Dat} {i : Int} {d : Dat} (r : Reps K H vs ds) (e : atI ds i = some d) : ∃ v, atI vs i = some v ∧ Rep K H v d := by
  unfold atI at e ⊢
  rw [r.length]
  cases q : ixN ds.length i with
  | none => rw [q] at e; cases e
  | some j =>
    rw [q] at e
    obtain ⟨v, h1, h2⟩ := r.get (i := j) e
    exact ⟨v, h1, h2⟩
theorem opA_ix {K : PySem.W.Frag} : OpA K (rIx K) ixW := by
  intro H x y d e G Qa Q rx ry rg h p
  cases e with
  | int i =>
    cases rep_i ry
    obtain ⟨ds, d', h1, h2, h3⟩ := h
    obtain ⟨a, vs, rfl, h5, h6⟩ := seqOf_rd rg rx h1
    obtain ⟨v, h7, h8⟩ := atI_rep h6 h2
    rcases h5 with h5 | h5
    · exact .inl ⟨a, vs, i, v, rfl, rfl, h5, h7, p.val rg h8 h3⟩
    · exact .inr (.inl ⟨a, vs, i, v, rfl, rfl, h5, h7, p.val rg h8 h3⟩)
  | _ => exact False.elim h
theorem cut_rep {K : PySem.W.Frag} {H : Hp} {vs : List V} {ds : List Dat} (r : Reps K H vs ds) (lo hi : Option Int) : Reps K H (cutV vs lo hi) (cutD ds lo hi) := by
  unfold cutV cutD
  rw [r.length]
  exact (r.drop _).take _
def rSlAny (K : PySem.W.Frag) : V → Option Int → Option Int → Hp → VK → Prop := fun x lo hi H Q => rSlL K x lo hi H Q ∨ rSlA K x lo hi H Q
theorem sl_any {X : Cx} : SlR X (rSlAny X.K) := sl_list.or sl_tupA
theorem sIx_nn (n d : Nat) (o : Option Int) (hd : d ≤ n) : HT.sIx n d o ≤ n := HT.sIx_le n d hd o
theorem slA_ok {K : PySem.W.Frag} {H : Hp} {x : V} {d : Dat} {G : AG} {Qa : AQ} {Q : VK} {lo hi : Option Int} (rx : Rep K H x d) (rg : RelG K G H) {z : Bool} (h : slW z d lo hi G Qa) (p : PostZ K G H Qa Q) : rSlAny K x lo hi H Q := by
  have no : (∃ ds, lstOf G d = some ds ∧ nw z (cutD ds lo hi) G Qa) → rSlAny K x lo hi H Q := fun hq => by
    obtain ⟨ds, h1, h2⟩ := hq
    obtain ⟨a, vs, rfl, k1, r1⟩ := lstOf_rd rg rx h1
    exact .inl ⟨a, vs, rfl, .inl k1, rep_newL rg (cut_rep r1 lo hi) h2 p⟩
  cases d with
  | tup ds =>
    obtain ⟨a, vs, rfl, h1, h2⟩ := rep_t rx
    refine .inr ⟨a, vs, rfl, h1.sq, fun hw => ?_, fun _ => p.newT rg (cut_rep h2 lo hi) h⟩
    have e : cutD ds lo hi = ds := by
      unfold cutD
      rw [← h2.length, hw.1, hw.2]
      rw [List.drop_zero, Nat.sub_zero, h2.length, List.take_length]
    have h' : Qa (.tup ds) G := by
      have q : Qa (.tup (cutD ds lo hi)) G := h
      rw [e] at q
      exact q
    exact p.val rg rx h'
  | _ => exact no h

/-! ### built-ins -/
def BF.nm : BF → Str
  | .len => "len" | .int => "int" | .tuple => "tuple" | .list => "list" | .isinst => "isinstance" | .all => "all" | .any => "any" | .sum1 => "sum" | .sum2 => "sum" | .min2 => "min" | .max2 => "max"
def BF.val : BF → Value
  | .len => .builtin "len" | .int => .type "int" | .tuple => .type "tuple" | .list => .type "list" | .isinst => .builtin "isinstance" | .all => .builtin "all" | .any => .builtin "any" | .sum1 => .builtin "sum" | .sum2 => .builtin "sum"
  | .min2 => .builtin "min" | .max2 => .builtin "max"
def BltA (K : PySem.W.Frag) (r : List V → Hp → VK → Prop) (rA : List Dat → AG → AQ → Prop) : Prop :=
  ∀ (H : Hp) (xs : List V) (ds : List Dat) (G : AG) (Qa : AQ) (Q : VK), Reps K H xs ds → RelG K G H → rA ds G Qa → PostZ K G H Qa Q → r xs H Q
theorem reps1 {K : PySem.W.Frag} {H : Hp} {xs : List V} {d : Dat} (r : Reps K H xs [d]) : ∃ x, xs = [x] ∧ Rep K H x d := by
  cases r with
  | cons a b => cases b; exact ⟨_, rfl, a⟩
theorem reps2 {K : PySem.W.Frag} {H : Hp} {xs : List V} {d e : Dat} (r : Reps K H xs [d, e]) : ∃ x y, xs = [x, y] ∧ Rep K H x d ∧ Rep K H y e := by
  cases r with
  | cons a b =>
    obtain ⟨y, rfl, h⟩ := reps1 b
    exact ⟨_, _, rfl, a, h⟩
theorem bls_rep {K : PySem.W.Frag} {H : Hp} : ∀ {ds : List Dat} {vs : List V} {bs : List Bool}, Reps K H vs ds → blsOf ds = some bs → vs = bs.map V.bl
  | [], _, _, .nil, e => by cases e; rfl
  | d :: ds, _, bs, .cons a r, e => by
    cases d with
    | bl b =>
      cases q : blsOf ds with
      | none => simp only [blsOf, q] at e; cases e
      | some cs =>
        simp only [blsOf, q] at e
        cases e
        cases rep_b a
        rw [List.map_cons, bls_rep r q]
    | _ => cases e
theorem ints_rep {K : PySem.W.Frag} {H : Hp} : ∀ {ds : List Dat} {vs : List V} {bs : List Int}, Reps K H vs ds → intsOf ds = some bs → vs = bs.map V.int
  | [], _, _, .nil, e => by cases e; rfl
  | d :: ds, _, bs, .cons a r, e => by
    cases d with
    | int b =>
      cases q : intsOf ds with
      | none => simp only [intsOf, q] at e; cases e
      | some cs =>
        simp only [intsOf, q] at e
        cases e
        cases rep_i a
        rw [List.map_cons, ints_rep r q]
    | _ => cases e
/-- a value's type, by what is known -/
theorem ty_rep {K : PySem.W.Frag} {G : AG} {H : Hp} {x : V} {d : Dat} {t : String} (rx : Rep K H x d) (rg : RelG K G H) (e : tyOf G d = some t) : TyX K H x (.type t) := by
  cases d with
  | non => cases rep_n rx; cases e; exact .base .non
  | bl b => cases rep_b rx; cases e; exact .base (.bl b)
  | int b => cases rep_i rx; cases e; exact .base (.int b)
  | str b => cases rep_s rx; cases e; exact .base (.str b)
  | tup ds =>
    cases e
    obtain ⟨a, vs, rfl, h1, _⟩ := rep_t rx
    rcases h1 with h1 | ⟨o, _, _, h1, h2, _⟩
    · exact .base (.tup h1)
    · exact .kTuple h1 h2
  | lst ds =>
    cases e
    cases rx with
    | lst h _ => obtain ⟨o, h⟩ := h; exact .base (.frz h)
  | ref a =>
    cases rep_r rx
    cases q : G a with
    | none => simp only [tyOf, q] at e; cases e
    | some o =>
      cases o with
      | lst ds =>
        simp only [tyOf, q] at e
        cases e
        obtain ⟨vs, h1, _⟩ := rg.lst q
        exact .base (.lst h1)
      | dk kvs =>
        simp only [tyOf, q] at e
        cases e
        obtain ⟨vk, h1, _⟩ := (show AOk K H a (.dk kvs) from rg a _ q)
        exact .base (.dK h1)
      | ins C fs => simp only [tyOf, q] at e; cases e
  | ty n => cases e
  | kls n => cases e
theorem allTy_ok {K : PySem.W.Frag} {H : Hp} : ∀ {cs : List Dat} {vs : List V}, allTy cs = true → Reps K H vs cs → ∃ us, Paired ClsV vs us
  | [], _, _, .nil => ⟨[], .nil⟩
  | d :: cs, _, e, .cons a r => by
    cases d with
    | ty n =>
      cases rep_ty a
      obtain ⟨us, h⟩ := allTy_ok (cs := cs) e r
      exact ⟨_, .cons (.ty n) h⟩
    | _ => cases e
theorem isiAny_ok {K : PySem.W.Frag} {H : Hp} {t : String} : ∀ {cs : List Dat} {vs : List V} {b : Bool}, isiAny t cs = some b → Reps K H vs cs → ∃ us, Paired ClsV vs us ∧ PySem.W.kitAny K (.type t) us = some b
  | [], _, _, e, .nil => by cases e; exact ⟨[], .nil, kitAny_nil⟩
  | d :: cs, _, b, e, .cons a r => by
    cases d with
    | ty n =>
      cases rep_ty a
      cases q : kitB t n with
      | none => simp only [isiAny, q] at e; cases e
      | some k =>
        cases k with
        | true =>
          simp only [isiAny, q] at e
          by_cases hq : allTy cs = true
          · rw [if_pos hq] at e
            cases e
            obtain ⟨us, h1⟩ := allTy_ok hq r
            exact ⟨_, .cons (.ty n) h1, kitAny_cons (kit_ty q) (fun z => by cases z) (fun _ => rfl)⟩
          · rw [if_neg hq] at e
            cases e
        | false =>
          simp only [isiAny, q] at e
          obtain ⟨us, h1, h2⟩ := isiAny_ok e r
          exact ⟨_, .cons (.ty n) h1, kitAny_cons (kit_ty q) (fun _ => h2) (fun z => by cases z)⟩
    | _ => cases e
/-- isinstance -/
def rIsiA (K : PySem.W.Frag) : List V → Hp → VK → Prop := fun xs H Q => rIsi K xs H Q ∨ rIsiT K xs H Q ∨ rIsiK K xs H Q
theorem call_isiA {X : Cx} : CallR X (.builtin "isinstance") (rIsiA X.K) := call_isi.or (call_isiT.or call_isiK)
theorem blt1 {f : BF} {ds : List Dat} {G : AG} {Q : AQ} {z : Bool} (h : bltW z f ds G Q) (hf : f = .len ∨ f = .int ∨ f = .tuple ∨ f = .list ∨ f = .all ∨ f = .any ∨ f = .sum1) : ∃ x, ds = [x] := by
  rcases hf with rfl | rfl | rfl | rfl | rfl | rfl | rfl <;>
  · match ds, h with
    | [x], _ => exact ⟨x, rfl⟩
    | [], h => exact False.elim h
    | a :: _ :: _, h => cases a <;> exact False.elim h
theorem blt2 {f : BF} {ds : List Dat} {G : AG} {Q : AQ} {z : Bool} (h : bltW z f ds G Q) (hf : f = .isinst ∨ f = .min2 ∨ f = .max2 ∨ f = .sum2) : ∃ x y, ds = [x, y] := by
  rcases hf with rfl | rfl | rfl | rfl <;>
  · match ds, h with
    | [x, y], _ => exact ⟨x, y, rfl⟩
    | [], h => exact False.elim h
    | [a], h => cases a <;> exact False.elim h
    | a :: b :: _ :: _, h => cases a <;> cases b <;> exact False.elim h
theorem bltA_isi {K : PySem.W.Frag} {z : Bool} : BltA K (rIsiA K) (bltW z .isinst) := by
  intro H xs ds G Qa Q r rg h p
  obtain ⟨d, c, rfl⟩ := blt2 h (.inl rfl)
  obtain ⟨x, y, rfl, r1, r2⟩ := reps2 r
  cases c with
  | ty n =>
    cases rep_ty r2
    obtain ⟨t, b, h1, h2, h3⟩ := h
    exact .inl ⟨x, .ty n, .type t, .type n, b, rfl, .ty n, ty_rep r1 rg h1, kit_ty h2, p.val rg (.bl _) h3⟩
  | tup cs =>
    obtain ⟨a, vs, rfl, h4, h5⟩ := rep_t r2
    obtain ⟨t, b, h1, h2, h3⟩ := h
    obtain ⟨us, h6, h7⟩ := isiAny_ok (K := K) h2 h5
    rcases h4 with h4 | ⟨o, its, n, h4, h8, h9, h10, h11⟩
    · exact .inr (.inl ⟨x, a, vs, .type t, us, b, rfl, h4, h6, ty_rep r1 rg h1, h7, p.val rg (.bl _) h3⟩)
    · obtain ⟨oc, od, dt, sl⟩ := o
      cases (show oc = .type "tuple" from h8)
      cases (show dt = .seq its n from h9)
      have e := ClsV.all h6 h11
      have e2 : its = us.toArray := by rw [← e]
      rw [e2] at h4
      exact .inr (.inr ⟨x, a, od, us, n, sl, .type t, b, rfl, h4, ty_rep r1 rg h1, h7, p.val rg (.bl _) h3⟩)
  | _ => exact False.elim h
theorem bltA_len {K : PySem.W.Frag} {z : Bool} : BltA K (fun xs H Q => ∃ x n, xs = [x] ∧ LenV K x H n ∧ Q (.int n) H) (bltW z .len) := by
  intro H xs ds G Qa Q r rg h p
  obtain ⟨d, rfl⟩ := blt1 h (.inl rfl)
  obtain ⟨x, rfl, r1⟩ := reps1 r
  obtain ⟨es, h1, h2⟩ := h
  obtain ⟨a, vs, rfl, h3, h4⟩ := seqOf_rd rg r1 h1
  refine ⟨.ref a, vs.length, rfl, ?_, by rw [h4.length]; exact p.val rg (.int _) h2⟩
  rcases h3 with h3 | h3
  · exact .inl ⟨vs, h3, rfl⟩
  · exact .inr ⟨vs, h3, rfl⟩
theorem bltA_int {K : PySem.W.Frag} {z : Bool} : BltA K (fun xs H Q => (∃ i, xs = [.int i] ∧ Q (.int i) H) ∨ ∃ k, xs = [.bl k] ∧ Q (.int (if k then 1 else 0)) H) (bltW z .int) := by
  intro H xs ds G Qa Q r rg h p
  obtain ⟨d, rfl⟩ := blt1 h (.inr (.inl rfl))
  obtain ⟨x, rfl, r1⟩ := reps1 r
  cases d with
  | int i => cases rep_i r1; exact .inl ⟨i, rfl, p.val rg (.int _) h⟩
  | bl i => cases rep_b r1; exact .inr ⟨i, rfl, p.val rg (.int _) h⟩
  | _ => exact False.elim h
theorem bltA_tuple {K : PySem.W.Frag} {z : Bool} : BltA K (fun xs H Q => ∃ p ys, xs = [.ref p] ∧ ((SqL K H p ys ∧ ∀ l, H l = none → Q (.ref l) (upd H l (.tup ys))) ∨ (SqT K H p ys ∧ Q (.ref p) H))) (bltW z .tuple) := by
  intro H xs ds G Qa Q r rg h p
  obtain ⟨d, rfl⟩ := blt1 h (.inr (.inr (.inl rfl)))
  obtain ⟨x, rfl, r1⟩ := reps1 r
  obtain ⟨es, h1, h2⟩ := h
  have lq : lstOf G d = some es → ∃ p ys, [x] = [V.ref p] ∧ ((SqL K H p ys ∧ ∀ l, H l = none → Q (.ref l) (upd H l (.tup ys))) ∨ (SqT K H p ys ∧ Q (.ref p) H)) := fun e => by
    obtain ⟨a, vs, rfl, h3, h4⟩ := lstOf_rd rg r1 e
    exact ⟨a, vs, rfl, .inl ⟨.inl h3, p.newT rg h4 h2⟩⟩
  cases d with
  | tup es =>
    cases h1
    obtain ⟨a, vs, rfl, h3, h4⟩ := rep_t r1
    exact ⟨a, vs, rfl, .inr ⟨h3.sq, p.val rg r1 h2⟩⟩
  | kls es =>
    cases h1
    cases r1 with
    | kls h3 h4 => exact ⟨_, _, rfl, .inl ⟨h3.sq, p.newT rg h4 h2⟩⟩
  | lst es => exact lq h1
  | ref a => exact lq h1
  | _ => cases h1
theorem bltA_list {K : PySem.W.Frag} {z : Bool} : BltA K (fun xs H Q => ∃ p ys, xs = [.ref p] ∧ (SqL K H p ys ∨ SqT K H p ys) ∧ ∀ l, H l = none → Q (.ref l) (upd H l (.lst ys))) (bltW z .list) := by
  intro H xs ds G Qa Q r rg h p
  obtain ⟨d, rfl⟩ := blt1 h (.inr (.inr (.inr (.inl rfl))))
  obtain ⟨x, rfl, r1⟩ := reps1 r
  obtain ⟨es, h1, h2⟩ := h
  obtain ⟨a, vs, rfl, h3, h4⟩ := seqOf_rd rg r1 h1
  exact ⟨a, vs, rfl, h3, rep_newL rg h4 h2 p⟩
theorem bltA_all {K : PySem.W.Frag} {z : Bool} : BltA K (rAll K) (bltW z .all) := by
  intro H xs ds G Qa Q r rg h p
  obtain ⟨d, rfl⟩ := blt1 h (.inr (.inr (.inr (.inr (.inl rfl)))))
  obtain ⟨x, rfl, r1⟩ := reps1 r
  obtain ⟨es, bs, h1, h2, h3⟩ := h
  obtain ⟨a, vs, rfl, h4, h5⟩ := lstOf_rd rg r1 h1
  cases bls_rep h5 h2
  exact ⟨a, bs, rfl, .inl h4, p.val rg (.bl _) h3⟩
theorem bltA_any {K : PySem.W.Frag} {z : Bool} : BltA K (rAny K) (bltW z .any) := by
  intro H xs ds G Qa Q r rg h p
  obtain ⟨d, rfl⟩ := blt1 h (.inr (.inr (.inr (.inr (.inr (.inl rfl))))))
  obtain ⟨x, rfl, r1⟩ := reps1 r
  obtain ⟨es, bs, h1, h2, h3⟩ := h
  obtain ⟨a, vs, rfl, h4, h5⟩ := lstOf_rd rg r1 h1
  cases bls_rep h5 h2
  exact ⟨a, bs, rfl, .inl h4, p.val rg (.bl _) h3⟩
theorem bltA_sum1 {K : PySem.W.Frag} {z : Bool} : BltA K (rSum K) (bltW z .sum1) := by
  intro H xs ds G Qa Q r rg h p
  obtain ⟨d, rfl⟩ := blt1 h (.inr (.inr (.inr (.inr (.inr (.inr rfl))))))
  obtain ⟨x, rfl, r1⟩ := reps1 r
  obtain ⟨es, bs, h1, h2, h3⟩ := h
  obtain ⟨a, vs, rfl, h4, h5⟩ := lstOf_rd rg r1 h1
  cases ints_rep h5 h2
  exact ⟨a, bs, rfl, .inl h4, p.val rg (.int _) h3⟩
theorem bltA_min2 {K : PySem.W.Frag} {z : Bool} : BltA K (fun xs H Q => ∃ i j, xs = [.int i, .int j] ∧ Q (.int (if j < i then j else i)) H) (bltW z .min2) := by
  intro H xs ds G Qa Q r rg h p
  obtain ⟨d, e, rfl⟩ := blt2 h (.inr (.inl rfl))
  obtain ⟨x, y, rfl, r1, r2⟩ := reps2 r
  cases d <;> cases e <;> first | exact False.elim h | skip
  cases rep_i r1
  cases rep_i r2
  exact ⟨_, _, rfl, p.val rg (.int _) h⟩
theorem bltA_max2 {K : PySem.W.Frag} {z : Bool} : BltA K (fun xs H Q => ∃ i j, xs = [.int i, .int j] ∧ Q (.int (if j > i then j else i)) H) (bltW z .max2) := by
  intro H xs ds G Qa Q r rg h p
  obtain ⟨d, e, rfl⟩ := blt2 h (.inr (.inr (.inl rfl)))
  obtain ⟨x, y, rfl, r1, r2⟩ := reps2 r
  cases d <;> cases e <;> first | exact False.elim h | skip
  cases rep_i r1
  cases rep_i r2
  exact ⟨_, _, rfl, p.val rg (.int _) h⟩
theorem take_flat {ls : List (List Dat)} {i : Nat} {b : List Dat} (h : ls[i]? = some b) : (ls.take (i + 1)).flatten = (ls.take i).flatten ++ b := by
  obtain ⟨h1, h2⟩ := List.getElem?_eq_some_iff.mp h
  rw [List.take_succ, h, List.flatten_append]
  simp
theorem flat_le {ls : List (List Dat)} (i : Nat) : (ls.take i).flatten.length ≤ ls.flatten.length := by
  conv => rhs; rw [← List.take_append_drop i ls, List.flatten_append, List.length_append]
  omega
theorem tupsOf_get : ∀ {rows : List Dat} {ls : List (List Dat)}, tupsOf rows = some ls → rows = ls.map Dat.tup
  | [], ls, h => by cases h; rfl
  | d :: r, ls, h => by
    cases d with
    | tup b =>
      cases q : tupsOf r with
      | none => simp only [tupsOf, q] at h; cases h
      | some l2 =>
        simp only [tupsOf, q] at h
        cases h
        rw [List.map_cons, tupsOf_get q]
    | _ => cases h
theorem lstsOf_get {G : AG} : ∀ {rows : List Dat} {ls : List (List Dat)}, lstsOf G rows = some ls → rows.length = ls.length ∧ ∀ (i : Nat) (d : Dat), rows[i]? = some d → ∃ b, ls[i]? = some b ∧ lstOf G d = some b
  | [], ls, h => by cases h; exact ⟨rfl, fun i d e => by simp at e⟩
  | x :: r, ls, h => by
    unfold lstsOf at h
    split at h
    · rename_i b l2 e1 e2
      cases h
      obtain ⟨h1, h2⟩ := lstsOf_get e2
      refine ⟨congrArg (· + 1) h1, fun i d e => ?_⟩
      cases i with
      | zero =>
        simp only [List.getElem?_cons_zero, Option.some.injEq] at e
        subst e
        exact ⟨b, rfl, e1⟩
      | succ i => exact h2 i d e
    · cases h
theorem bltA_sum2T {K : PySem.W.Frag} {H : Hp} {a : Addr} {xs : List V} {rows : List Dat} {t0 : List Dat} {y : V} {G : AG} {Qa : AQ} {Q : VK} (rg : RelG K G H) (hl : SqL K H a xs) (r1 : Reps K H xs rows) (hst : ∀ H', Fra G H G H' → RelG K G H' → ∃ xs', SqL K H' a xs' ∧ Reps K H' xs' rows) (r2 : Rep K H y (.tup t0))
    (h : ∃ ls, tupsOf rows = some ls ∧ t0.length + ls.flatten.length ≤ sizeLine ∧ Qa (.tup (t0 ++ ls.flatten)) G) (p : PostE K G H Qa Q) : rSum2 (rCatTup K) K [.ref a, y] H Q := by
  obtain ⟨ls, e, hz, q⟩ := h
  have e := tupsOf_get e
  obtain ⟨b, ys, rfl, h3, _⟩ := rep_t r2
  have lr : rows.length = ls.length := by rw [e, List.length_map]
  refine ⟨a, b, xs, "tuple", rfl, hl, .inr ⟨rfl, ys, h3.sq⟩, fun i t H' => Fra G H G H' ∧ RelG K G H' ∧ Rep K H' t (.tup (t0 ++ (ls.take i).flatten)), ⟨.refl, rg, by simpa using r2⟩, ?_⟩
  rintro i t H' ⟨f, g, rt⟩
  obtain ⟨c, zs, rfl, _, _⟩ := rep_t rt
  obtain ⟨xs', q1, q2⟩ := hst H' f g
  have l1 := r1.length
  have l2 := q2.length
  refine ⟨⟨c, rfl⟩, xs', q1, by omega, fun hi => ?_, fun x hx => ?_⟩
  · rw [List.take_of_length_le (by omega)] at rt
    exact p _ _ _ _ f g rt q
  · obtain ⟨d, hd, rd⟩ := q2.getV hx
    rw [e, List.getElem?_map] at hd
    cases eb : ls[i]? with
    | none => rw [eb] at hd; cases hd
    | some bb =>
      rw [eb] at hd
      cases hd
      have l1 := flat_le (ls := ls) (i + 1)
      rw [take_flat eb] at l1
      rw [List.length_append] at l1
      refine add_tups (Qa := fun d G' => d = .tup ((t0 ++ (ls.take i).flatten) ++ bb) ∧ G' = G) rt rd g (by rw [List.length_append]; omega) ⟨rfl, rfl⟩ ⟨fun d G' v H2 f2 g2 r2 hq => ?_, fun _ _ _ _ _ _ _ _ _ hq => nomatch hq.1⟩
      obtain ⟨rfl, rfl⟩ := hq
      refine ⟨f.trans f2, g2, ?_⟩
      rw [take_flat eb, ← List.append_assoc]
      exact r2
theorem bltA_sum2L {K : PySem.W.Frag} {H : Hp} {a : Addr} {xs : List V} {rows : List Dat} {d0 : Dat} {y : V} {G : AG} {Qa : AQ} {Q : VK} {z : Bool} (rg : RelG K G H) (hl : SqL K H a xs) (r1 : Reps K H xs rows) (hst : ∀ H', Fra G H G H' → RelG K G H' → ∃ xs', SqL K H' a xs' ∧ Reps K H' xs' rows) (r2 : Rep K H y d0)
    (h : ∃ s0 ls, lstOf G d0 = some s0 ∧ lstsOf G rows = some ls ∧ s0.length + ls.flatten.length ≤ sizeLine ∧ if ls = [] then Qa d0 G else nw z (s0 ++ ls.flatten) G Qa) (p : PostZ K G H Qa Q) : rSum2 rCatR K [.ref a, y] H Q := by
  obtain ⟨s0, ls, e0, e, hz, q⟩ := h
  obtain ⟨ln, e⟩ := lstsOf_get e
  obtain ⟨b, ys, rfl, h3, r3⟩ := lstOf_rd rg r2 e0
  have lx : xs.length = ls.length := by rw [r1.length, ln]
  refine ⟨a, b, xs, "list", rfl, hl, .inl ⟨rfl, ys, h3⟩, fun i t H' => i ≤ ls.length ∧ (Fra G H G H' ∧ RelG K G H') ∧ ∃ l vs, t = .ref l ∧ Rd H' l (.lst vs) ∧ Reps K H' vs (s0 ++ (ls.take i).flatten) ∧
    ((i = 0 ∧ l = b ∧ H' = H) ∨ (0 < i ∧ ∃ H1, H1 l = none ∧ H' = upd H1 l (.lst vs) ∧ Fra G H G H1 ∧ RelG K G H1 ∧ Reps K H1 vs (s0 ++ (ls.take i).flatten))), ⟨Nat.zero_le _, ⟨.refl, rg⟩, b, ys, rfl, h3, by simpa using r3, .inl ⟨rfl, rfl, rfl⟩⟩, ?_⟩
  rintro i t H' ⟨hi0, ⟨f, g⟩, l, vs, rfl, hr, rv, h4⟩
  obtain ⟨xs', q1, q2⟩ := hst H' f g
  have l1 := r1.length
  have l2 := q2.length
  refine ⟨⟨l, rfl⟩, xs', q1, by omega, fun hi => ?_, fun x hx => ?_⟩
  · rw [List.take_of_length_le (by omega)] at rv h4
    rcases h4 with ⟨rfl, rfl, rfl⟩ | ⟨hpos, H1, k1, rfl, k2, k3, k4⟩
    · have : ls = [] := List.length_eq_zero_iff.mp (by omega)
      subst this
      rw [if_pos rfl] at q
      exact p.val rg r2 q
    · have hn : ls ≠ [] := fun z => by rw [z] at hi0; simp at hi0; omega
      rw [if_neg hn] at q
      exact rep_newL k3 k4 q (p.fra k2) l k1
  · obtain ⟨d, hd, rd⟩ := q2.getV hx
    obtain ⟨bb, eb, ed⟩ := e i d hd
    obtain ⟨c, zs, rfl, k1, k2⟩ := lstOf_rd g rd ed
    have l1 := flat_le (ls := ls) (i + 1)
    rw [take_flat eb] at l1
    rw [List.length_append] at l1
    have lv := rv.length
    have lz := k2.length
    rw [List.length_append] at lv
    have hlt := (List.getElem?_eq_some_iff.mp eb).1
    refine ⟨l, c, vs, zs, rfl, rfl, hr, k1, by omega, fun u hu => ⟨hlt, ⟨f.trans (.newT hu), g.newT hu⟩, u, vs ++ zs, rfl, .inl upd_same, ?_, .inr ⟨by omega, H', hu, rfl, f, g, ?_⟩⟩⟩
    · rw [take_flat eb, ← List.append_assoc]
      exact (rv.append k2).mono (.new hu)
    · rw [take_flat eb, ← List.append_assoc]
      exact rv.append k2
theorem bltA_sum2 {K : PySem.W.Frag} {z : Bool} : BltA K (fun vs H Q => rSum2 rCatR K vs H Q ∨ rSum2 (rCatTup K) K vs H Q) (bltW z .sum2) := by
  intro H xs ds G Qa Q r rg h p
  obtain ⟨d, e, rfl⟩ := blt2 h (.inr (.inr (.inr rfl)))
  obtain ⟨x, y, rfl, r1, r2⟩ := reps2 r
  obtain ⟨rows, h1, h2⟩ := h
  obtain ⟨a, vs, rfl, k1, k2⟩ := lstOf_rd rg r1 h1
  have src : ∀ H', Fra G H G H' → RelG K G H' → ∃ xs', SqL K H' a xs' ∧ Reps K H' xs' rows := fun H' f g => by
    obtain ⟨b, ws, e1, e2, e3⟩ := lstOf_rd g (r1.mono (f.stab rg)) h1
    cases e1
    exact ⟨ws, .inl e2, e3⟩
  cases e with
  | tup t0 => exact .inr (bltA_sum2T rg (.inl k1) k2 src r2 h2 p.p)
  | _ => exact .inl (bltA_sum2L rg (.inl k1) k2 src r2 h2 p)
theorem blt_ok (X : Cx) (hc : X.calm = true) (z : Bool) (f : BF) : ∃ r, CallR X f.val r ∧ BltA X.K r (bltW z f) := by
  cases f with
  | len => exact ⟨_, call_len, bltA_len⟩
  | int => exact ⟨_, call_int1, bltA_int⟩
  | tuple => exact ⟨_, call_tuple_of, bltA_tuple⟩
  | list => exact ⟨_, call_list_of, bltA_list⟩
  | isinst => exact ⟨_, call_isiA, bltA_isi⟩
  | all => exact ⟨_, cr_all hc, bltA_all⟩
  | any => exact ⟨_, cr_any hc, bltA_any⟩
  | sum1 => exact ⟨_, cr_sum hc, bltA_sum1⟩
  | sum2 => exact ⟨_, (cr_sum2 (r := rCatR) op_catR hc).or (cr_sum2 op_catTup hc), bltA_sum2⟩
  | min2 => exact ⟨_, call_min2 hc, bltA_min2⟩
  | max2 => exact ⟨_, call_max2 hc, bltA_max2⟩

/-! ### methods -/
def MF.nm : MF → Str
  | .append => "append" | .extend => "extend" | .pop => "pop" | .popAt => "pop" | .clear => "clear" | .reverse => "reverse"
def MetA (K : PySem.W.Frag) (T : String) (r : V → List V → Hp → VK → Prop) (rA : Dat → List Dat → AG → AQ → Prop) : Prop :=
  ∀ (H : Hp) (x : V) (d : Dat) (xs : List V) (ds : List Dat) (G : AG) (Qa : AQ) (Q : VK), Rep K H x d → Reps K H xs ds → RelG K G H → rA d ds G Qa → PostE K G H Qa Q → r x xs H Q
theorem PostE.setL {K : PySem.W.Frag} {G : AG} {H : Hp} {Qa : AQ} {Q : VK} (p : PostE K G H Qa Q) (rg : RelG K G H) {l : Addr} {ds es : List Dat} {vs ws : List V} {v : V} {d : Dat} (e : G l = some (.lst ds)) (h : H l = some (.lst vs)) (rv : Rep K H v d) (r : Reps K H ws es) (q : Qa d (gu G l (.lst es))) :
    Q v (upd H l (.lst ws)) := p d (gu G l (.lst es)) v _ (.set e) (rg.set e (show AOk K _ l (.lst es) from ⟨ws, upd_same, r.mono (.lst h)⟩)) (rv.mono (.lst h)) q
/-- l.extend(any sequence) -/
def rExtR (K : PySem.W.Frag) : V → List V → Hp → VK → Prop := fun x vs H Q => ∃ l b xs zs, x = .ref l ∧ vs = [.ref b] ∧ H l = some (.lst xs) ∧ (Rd H b (.lst zs) ∨ SqT K H b zs) ∧ xs.length + zs.length ≤ sizeLine ∧ Q .non (upd H l (.lst (xs ++ zs)))
theorem ext_tup (l : Addr) (ia : Array Value) (n : Nat) (b : Addr) (ib : Array Value) (n2 : Nat) (db : Option Addr) (sb : Array (Option Value)) (h0 : ¬(!ia.isEmpty && Builtin.List.listTooLong (ia.size + ib.size)) = true) (h1 : ia.size ≤ sizeLine) (h2 : ia.size + ib.size ≤ sizeLine + 1) :
    Meets (Builtin.«list.extend» ⟨[.ref l, .ref b], []⟩) (fun _ R s => s.heap.get? l = some { cls := .type "list", dict := none, data := .seq ia n, slots := #[] } ∧ s.heap.get? b = some { cls := .type "tuple", dict := db, data := .seq ib n2, slots := sb } ∧
      R (.ok (.ret Value.none)) { s with heap := s.heap.update l (Obj.mapSeq fun x => x ++ ib), toks := s.toks }) := by
  refine .of_wp fun prog w A R s h => ?_
  obtain ⟨hp, g, d, tk, os⟩ := s
  obtain ⟨hl, hb, h⟩ := h
  have f1 := AutoSeq1.idx_int
  have f2 := AutoSeq1.sub_tuple_tuple
  have f3 := AutoSeq1.sub_list_list
  have f4 := AutoSeq1.sub_tuple_list
  have f5 := AutoSeq1.sub_list_tuple
  have hz : (ia ++ ib).size ≤ sizeLine + 1 := by rw [Array.size_append]; exact h2
  wp_walk using (wpAny_updateSeq hl rfl (hz := h1) (_hz' := hz)), wpAny_loadPart' hl, wpAny_loadPart' hb
  exact ⟨_, rfl, h⟩
theorem mt_extR {X : Cx} : MtM X "list.extend" (rExtR X.K) := by
  intro pins s σ H x vs v us Q I rx rv h
  obtain ⟨l, b, xs, zs, rfl, rfl, hl, hb, hz, q⟩ := h
  cases rx
  obtain ⟨u, rfl, ru⟩ := rv.one
  cases ru
  obtain ⟨z, its, n, r, el, e⟩ := I.lstM hl
  have fin : ∀ i2 : List Value, Vals zs i2 → EP X pins σ Q Value.none { s with heap := s.heap.update l (Obj.mapSeq (· ++ i2.toArray)), toks := s.toks } := fun i2 r2 =>
    ⟨.non, _, I.lset (its' := its ++ i2) hl e (by simp) (r.append r2) (by simp only [List.length_append]; omega), rfl, q⟩
  have lng : ∀ i2 : List Value, Vals zs i2 → ¬ (!its.toArray.isEmpty && Builtin.List.listTooLong (its.toArray.size + i2.toArray.size)) = true := fun i2 r2 => by
    have e2 := r2.length
    rw [notLongL (by simp only [List.size_toArray]; omega), Bool.and_false]
    simp
  rcases hb with hb | hb
  · obtain ⟨_, i2, n2, r2, l2, e2⟩ := lstRd I hb
    exact call_meets F.slot_list_extend ⟨_, e, rfl⟩ F.entry_list_extend (F.args_list_extend_2 _ _)
      (AutoSeq1.list_extend_list_list_0 l its.toArray n b i2.toArray n2 (lng i2 r2) (by simp only [List.size_toArray]; omega) (by simp only [List.size_toArray]; omega)) ⟨e, e2, fin i2 r2⟩
  · obtain ⟨i2, r2, ⟨⟨oc, od, dt, sl⟩, e2, hc, n2, hd⟩, _⟩ := I.tuple hb
    have l2 := r2.length
    cases (show oc = .type "tuple" from hc)
    cases (show dt = .seq i2.toArray n2 from hd)
    exact call_meets F.slot_list_extend ⟨_, e, rfl⟩ F.entry_list_extend (F.args_list_extend_2 _ _)
      (ext_tup l its.toArray n b i2.toArray n2 od sl (lng i2 r2) (by simp only [List.size_toArray]; omega) (by simp only [List.size_toArray]; omega)) ⟨e, e2, fin i2 r2⟩
theorem metA_append {K : PySem.W.Frag} : MetA K "list" rAppend (methW .append) := by
  intro H x d xs ds G Qa Q rx r rg h p
  cases d with
  | ref a =>
    match ds, h with
    | [], h => exact False.elim h
    | _ :: _ :: _, h => exact False.elim h
    | [y], h =>
      cases rep_r rx
      obtain ⟨u, rfl, ru⟩ := reps1 r
      obtain ⟨es, h1, h2, h3⟩ := h
      obtain ⟨vs, h4, h5⟩ := rg.lst h1
      exact ⟨a, vs, u, rfl, rfl, h4, by rw [h5.length]; exact h2, p.setL rg h1 h4 .non (h5.append (.one ru)) h3⟩
  | _ => exact False.elim h
theorem metA_extend {K : PySem.W.Frag} : MetA K "list" (rExtR K) (methW .extend) := by
  intro H x d xs ds G Qa Q rx r rg h p
  cases d with
  | ref a =>
    match ds, h with
    | [], h => exact False.elim h
    | _ :: _ :: _, h => exact False.elim h
    | [y], h =>
      cases rep_r rx
      obtain ⟨u, rfl, ru⟩ := reps1 r
      obtain ⟨es, fs, h1, h2, h3, h6⟩ := h
      obtain ⟨vs, h4, h5⟩ := rg.lst h1
      have sq : ∃ b zs, u = .ref b ∧ (Rd H b (.lst zs) ∨ SqT K H b zs) ∧ Reps K H zs fs := by
        cases y with
        | tup es =>
          cases h2
          obtain ⟨b, zs, rfl, k1, k2⟩ := rep_t ru
          exact ⟨b, zs, rfl, .inr k1.sq, k2⟩
        | lst es =>
          obtain ⟨b, zs, rfl, k1, k2⟩ := lstOf_rd rg ru h2
          exact ⟨b, zs, rfl, .inl k1, k2⟩
        | ref c =>
          obtain ⟨b, zs, rfl, k1, k2⟩ := lstOf_rd rg ru h2
          exact ⟨b, zs, rfl, .inl k1, k2⟩
        | _ => cases h2
      obtain ⟨b, zs, rfl, k1, k2⟩ := sq
      exact ⟨a, b, vs, zs, rfl, rfl, h4, k1, by rw [h5.length, k2.length]; exact h3, p.setL rg h1 h4 .non (h5.append k2) h6⟩
  | _ => exact False.elim h
theorem reps_last {K : PySem.W.Frag} {H : Hp} : ∀ {vs : List V} {ds : List Dat}, Reps K H vs ds → Reps K H vs.dropLast ds.dropLast
  | _, _, .nil => .nil
  | _, _, .cons a .nil => .nil
  | _, _, .cons a (.cons b r) => .cons a (reps_last (.cons b r))
theorem metA_pop {K : PySem.W.Frag} : MetA K "list" rPop (methW .pop) := by
  intro H x d xs ds G Qa Q rx r rg h p
  cases d with
  | ref a =>
    match ds, h with
    | _ :: _, h => exact False.elim h
    | [], h =>
      cases rep_r rx
      cases r
      obtain ⟨es, y, h1, h2, h3⟩ := h
      obtain ⟨vs, h4, h5⟩ := rg.lst h1
      obtain ⟨v, h6, h7⟩ := h5.get h2
      exact ⟨a, vs, v, rfl, rfl, h4, by rw [h5.length]; exact h6, p.setL rg h1 h4 h7 (reps_last h5) h3⟩
  | _ => exact False.elim h
theorem metA_popAt {K : PySem.W.Frag} : MetA K "list" rPopAt (methW .popAt) := by
  intro H x d xs ds G Qa Q rx r rg h p
  cases d with
  | ref a =>
    match ds, h with
    | [], h => exact False.elim h
    | c :: _ :: _, h => cases c <;> exact False.elim h
    | [.int i], h =>
      cases rep_r rx
      obtain ⟨u, rfl, ru⟩ := reps1 r
      cases rep_i ru
      obtain ⟨es, k, y, h1, h2, h3, h8, h9, h10⟩ := h
      obtain ⟨vs, h4, h5⟩ := rg.lst h1
      obtain ⟨v, h6, h7⟩ := h5.get h9
      exact ⟨a, vs, i, k, v, rfl, rfl, h4, h2, h3, by rw [h5.length]; exact h8, h6, p.setL rg h1 h4 h7 (h5.eraseIdx k) h10⟩
    | [.non], h | [.bl _], h | [.str _], h | [.tup _], h | [.lst _], h | [.ref _], h | [.ty _], h => exact False.elim h
  | _ => exact False.elim h
theorem metA_clear {K : PySem.W.Frag} : MetA K "list" rClear (methW .clear) := by
  intro H x d xs ds G Qa Q rx r rg h p
  cases d with
  | ref a =>
    match ds, h with
    | _ :: _, h => exact False.elim h
    | [], h =>
      cases rep_r rx
      cases r
      obtain ⟨es, h1, h3⟩ := h
      obtain ⟨vs, h4, h5⟩ := rg.lst h1
      exact ⟨a, vs, rfl, rfl, h4, p.setL rg h1 h4 .non .nil h3⟩
  | _ => exact False.elim h
theorem metA_reverse {K : PySem.W.Frag} : MetA K "list" rReverse (methW .reverse) := by
  intro H x d xs ds G Qa Q rx r rg h p
  cases d with
  | ref a =>
    match ds, h with
    | _ :: _, h => exact False.elim h
    | [], h =>
      cases rep_r rx
      cases r
      obtain ⟨es, h1, h3⟩ := h
      obtain ⟨vs, h4, h5⟩ := rg.lst h1
      exact ⟨a, vs, rfl, rfl, h4, p.setL rg h1 h4 .non h5.reverse h3⟩
  | _ => exact False.elim h
/-- a method by values: which arguments it takes, the type that it belongs to -/
structure MetOk (X : Cx) (m : MF) : Prop where
  ok : ∃ (T id : String) (r : V → List V → Hp → VK → Prop), PlainAttrs T ∧ Slot T m.nm id ∧ typeOf (.builtin id) = pure (.type "method_descriptor") ∧ MtR X id r ∧ MetA X.K T r (methW m) ∧
    ∀ (H : Hp) (x : V) (d : Dat) (ds : List Dat) (G : AG) (Qa : AQ), Rep X.K H x d → RelG X.K G H → methW m d ds G Qa → tyV X.K T x H
end Av


set_option Elab.async false
set_option linter.all false
set_option maxRecDepth 100000
set_option maxHeartbeats 4000000
/-! # Av4: the words of Av1 over the hand layer's judgements -/
namespace Av
open PySem PySem.Spec PyProof.Rows L2

theorem PE.imp {X : Cx} {e : Expr} {t t' : TE} (h : PE X e t) (f : ∀ σ H Q, t' σ H Q → t σ H Q) : PE X e t' := ⟨fun pins s σ H Q I q => h.run pins s σ H Q I (f σ H Q q)⟩
theorem PT.imp {X : Cx} {e : Expr} {t t' : TT} (h : PT X e t) (f : ∀ σ H Q, t' σ H Q → t σ H Q) : PT X e t' := ⟨fun pins s σ H Q I q => h.run pins s σ H Q I (f σ H Q q)⟩
theorem PW.imp {X : Cx} {e : Expr} {t t' : TT} (h : PW X e t) (f : ∀ σ H Q, t' σ H Q → t σ H Q) : PW X e t' := ⟨fun wh pins s σ H Q I q => h.run wh pins s σ H Q I (f σ H Q q)⟩
theorem PA.imp {X : Cx} {es : List Expr} {t t' : TA} (h : PA X es t) (f : ∀ σ H Q, t' σ H Q → t σ H Q) : PA X es t' := ⟨fun pos pins s σ H Q I q => h.run pos pins s σ H Q I (f σ H Q q)⟩
theorem PI.imp {X : Cx} {tg e : Expr} {t t' : TI} (h : PI X tg e t) (f : ∀ σ H Q, t' σ H Q → t σ H Q) : PI X tg e t' := ⟨fun pins s σ H Q I q => h.run pins s σ H Q I (f σ H Q q)⟩
theorem PS.imp {X : Cx} {st : Stmt} {t t' : TS} (h : PS X st t) (f : ∀ D σ H, t' D σ H → t D σ H) : PS X st t' := ⟨fun pins s σ H D I q => h.run pins s σ H D I (f D σ H q)⟩
theorem PSs.imp {X : Cx} {st : List Stmt} {t t' : TS} (h : PSs X st t) (f : ∀ D σ H, t' D σ H → t D σ H) : PSs X st t' := ⟨fun pins s σ H D I q => h.run pins s σ H D I (f D σ H q)⟩

section
variable {X : Cx}
/-! ### what is frozen -/
theorem Inv.frozen {pins : List (Addr × Obj)} {σ : L2.St} {H : Hp} {s : Shared} {l : Addr} {vs : List V} {o : Obj} (I : Inv X pins σ H s) (h : H l = some (.lst vs)) (ho : s.heap.get? l = some o) : Inv X pins σ (upd H l (.frz o (.lst vs))) s := by
  have ne : ∀ {b u}, H b = some u → u ≠ .lst vs → b ≠ l := fun e d z => by rw [z, h] at e; exact d (Option.some.inj e).symm
  have nn : ∀ {b}, H b = none → b ≠ l := fun e z => by rw [z, h] at e; cases e
  have u : Un X.fs [] H (upd H l (.frz o (.lst vs))) s.heap s.heap := by
    refine ⟨fun _ _ q _ _ _ => q, fun b ob q _ _ _ => ⟨ob.slots, q⟩, fun b ob q n _ => by rw [upd_ne (nn n)]; exact n, fun b ob q _ => ⟨ob, q⟩, fun b xs q => by rw [upd_ne (ne q (by simp))]; exact q,
      fun b ob w q => by rw [upd_ne (ne q (by simp))]; exact q, fun b ps q => ⟨#[], by rw [upd_ne (ne q (by simp)), q]; simp⟩⟩
  have k : HOk X.prog X.w (upd H l (.frz o (.lst vs))) s.heap := fun b w q => by
    by_cases hb : b = l
    · subst hb
      rw [upd_same] at q
      cases q
      exact ⟨ho, I.hok b _ h⟩
    · rw [upd_ne hb] at q
      exact (I.hok b w q).stay (fun _ _ _ z => z) (fun c z => by rw [upd_ne (ne z (by simp))]; exact z) fun c xs z => by rw [upd_ne (ne z (by simp))]; exact z
  exact I.un (h' := s.heap) (t' := s.toks) u k
theorem pe_z {e : Expr} {t : TE} (h : PE X e t) : PE X e fun σ H Q => t σ H (Qz Q) := by
  refine ⟨fun pins s σ H Q I q => thn (h.run pins s σ H _ I q) ?_⟩
  rintro u s1 ⟨v, H1, I1, rv, q | ⟨a, vs, rfl, ha, q⟩⟩
  · exact ⟨v, H1, I1, rv, q⟩
  · obtain ⟨z, its, n, _, _, ho⟩ := I1.lstM ha
    exact ⟨.ref a, _, Inv.frozen I1 ha ho, rv, q _⟩
end
theorem postB {K : PySem.W.Frag} {G : AG} {H : Hp} {Qa : AQ} {Q : VK} (p : PostE K G H Qa Q) (no : ∀ ds G, ¬ Qa (.lst ds) G) : PostZ K G H Qa Q := ⟨p, fun G' _ ds _ _ _ _ _ _ q => absurd q (no ds G')⟩
/-- a transformer of Av1 over the layer's: from told states to tracked ones -/
def Lf (K : PySem.W.Frag) (W : WX) {α β : Type} (R : Hp → β → α → Prop) (w : Env' → AG → (α → AG → Prop) → AX → Prop) : L2.St → Hp → (β → Hp → Prop) → Prop := fun σ H Q =>
  ∃ ρ G Qa Ea, RelE K H ρ σ ∧ RelG K G H ∧ w ρ G Qa Ea ∧ (∀ d G' v H', Fra G H G' H' → RelG K G' H' → R H' v d → Qa d G' → Q v H') ∧ PostX K G H Ea fun c dx H' => W c dx σ H'
abbrev LfE (K : PySem.W.Frag) (W : WX) (w : Env' → AG → AQ → AX → Prop) : TE := Lf K W (Rep K) w
abbrev LfA (K : PySem.W.Frag) (W : WX) (w : Env' → AG → (List Dat → AG → Prop) → AX → Prop) : TA := Lf K W (Reps K) w
abbrev LfT (K : PySem.W.Frag) (W : WX) (w : Env' → AG → (Bool → AG → Prop) → AX → Prop) : TT := Lf K W (fun _ b c => b = c) w
section
variable {X : Cx} {W : WX} {a b c : Expr} {pos : Pos} {w1 w2 w3 : Env' → AG → AQ → AX → Prop}

/-! ### operators, comparisons -/
theorem se_op {op : Operator} {r : R2} {rA : Dat → Dat → AG → AQ → Prop} (ho : OpR X (binaryOp op) r) (hA : OpA X.K r rA) (h1 : PE X a (LfE X.K W w1)) (h2 : PE X b (LfE X.K W w2)) :
    PE X (.BinOp a op b pos) (LfE X.K W fun ρ G Q E => w1 ρ G (fun x G1 => w2 ρ G1 (fun y G2 => rA x y G2 Q) E) E) :=
  PE.imp (pe_z (pe_op ho h1 h2)) fun _ _ _ ⟨ρ, G, Qa, Ea, hE, hG, hw, hp, hx⟩ => ⟨ρ, G, _, Ea, hE, hG, hw, fun d G1 v H1 f g r1 q => ⟨ρ, G1, _, Ea, hE.mono (f.stab hG), g, q,
    fun e G2 u H2 f2 g2 r2 q2 => hA H2 v u d e G2 Qa _ (r1.mono (f2.stab g)) r2 g2 q2 (postZ fun d' G' v' H' f3 => hp d' G' v' H' ((f.trans f2).trans f3)), hx.fra f⟩, hx⟩
theorem se_cmp {op : CmpOp} {r : R2} {rA : Dat → Dat → AG → AQ → Prop} (ho : OpR X (compareOp op) r) (hA : OpA X.K r rA) (hm : behindInMarks op b = false) (h1 : PE X a (LfE X.K W w1)) (h2 : PE X b (LfE X.K W w2)) :
    PE X (.Compare a [op] [b] pos) (LfE X.K W fun ρ G Q E => w1 ρ G (fun x G1 => w2 ρ G1 (fun y G2 => rA x y G2 Q) E) E) :=
  PE.imp (pe_z (pe_cmpR ho h1 h2 hm)) fun _ _ _ ⟨ρ, G, Qa, Ea, hE, hG, hw, hp, hx⟩ => ⟨ρ, G, _, Ea, hE, hG, hw, fun d G1 v H1 f g r1 q => ⟨ρ, G1, _, Ea, hE.mono (f.stab hG), g, q,
    fun e G2 u H2 f2 g2 r2 q2 => hA H2 v u d e G2 Qa _ (r1.mono (f2.stab g)) r2 g2 q2 (postZ fun d' G' v' H' f3 => hp d' G' v' H' ((f.trans f2).trans f3)), hx.fra f⟩, hx⟩
theorem boolW_inv {Q : Bool → AG → Prop} {d : Dat} {G : AG} (h : boolW Q d G) : ∃ k, d = .bl k ∧ Q k G := by
  cases d with
  | bl k => exact ⟨k, rfl, h⟩
  | _ => exact False.elim h
theorem st_cmp {op : CmpOp} {r : R2} {rA : Dat → Dat → AG → AQ → Prop} (ho : OpR X (compareOp op) r) (hA : OpA X.K r rA) (hm : behindInMarks op b = false) (h1 : PE X a (LfE X.K W w1)) (h2 : PE X b (LfE X.K W w2)) :
    PT X (.Compare a [op] [b] pos) (LfT X.K W fun ρ G Q E => w1 ρ G (fun x G1 => w2 ρ G1 (fun y G2 => rA x y G2 (boolW Q)) E) E) :=
  PT.imp (pt_cmpR ho h1 h2 hm) fun _ _ _ ⟨ρ, G, Qa, Ea, hE, hG, hw, hp, hx⟩ => ⟨ρ, G, _, Ea, hE, hG, hw, fun d G1 v H1 f g r1 q => ⟨ρ, G1, _, Ea, hE.mono (f.stab hG), g, q,
    fun e G2 u H2 f2 g2 r2 q2 => hA H2 v u d e G2 (boolW Qa) _ (r1.mono (f2.stab g)) r2 g2 q2 (postB (fun d' G' v' H' f3 g3 r3 q3 => by
      obtain ⟨k, e, q4⟩ := boolW_inv q3
      subst e
      exact ⟨k, rep_b r3, hp k G' k H' ((f.trans f2).trans f3) g3 rfl q4⟩) fun _ _ z => z), hx.fra f⟩, hx⟩
theorem se_cmp2 {op op' : CmpOp} {r r' : R2} {rA rA' : Dat → Dat → AG → AQ → Prop} (ho : OpR X (compareOp op) r) (hA : OpA X.K r rA) (ho' : OpR X (compareOp op') r') (hA' : OpA X.K r' rA') (hm : behindInMarks op' c = false)
    (h1 : PE X a (LfE X.K W w1)) (h2 : PE X b (LfE X.K W w2)) (h3 : PE X c (LfE X.K W w3)) :
    PE X (.Compare a [op, op'] [b, c] pos) (LfE X.K W fun ρ G Q E => w1 ρ G (fun x G1 => w2 ρ G1 (fun y G2 => rA x y G2 (boolW fun k G3 => if k = true then w3 ρ G3 (fun z G4 => rA' y z G4 Q) E else Q (.bl false) G3)) E) E) := by
  refine PE.imp (pe_z (pe_chain ho ho' h1 h2 h3 ?_)) ?_
  · exact hm
  · rintro σ H Q ⟨ρ, G, Qa, Ea, hE, hG, hw, hp, hx⟩
    refine ⟨ρ, G, _, Ea, hE, hG, hw, fun d G1 v H1 f g r1 q => ⟨ρ, G1, _, Ea, hE.mono (f.stab hG), g, q, fun e G2 u H2 f2 g2 r2 q2 => ?_, hx.fra f⟩, hx⟩
    refine hA H2 v u d e G2 _ _ (r1.mono (f2.stab g)) r2 g2 q2 (postB (fun d' G3 v' H3 f3 g3 r3 q3 => ?_) fun _ _ z => z)
    obtain ⟨k, e3, q4⟩ := boolW_inv q3
    subst e3
    refine ⟨k, rep_b r3, ?_⟩
    have f03 := (f.trans f2).trans f3
    cases k with
    | true =>
      rw [if_pos rfl] at q4 ⊢
      exact ⟨ρ, G3, _, Ea, hE.mono (f03.stab hG), g3, q4, fun z G4 t H4 f4 g4 r4 q5 => hA' H4 u t e z G4 Qa _ (r2.mono ((f3.trans f4).stab g2)) r4 g4 q5 (postZ fun d' G' v' H' f5 => hp d' G' v' H' ((f03.trans f4).trans f5)), hx.fra f03⟩
    | false =>
      rw [if_neg (by simp)] at q4 ⊢
      exact .inl (hp _ _ _ _ f03 g3 (.bl false) q4)
/-! ### and, or, not, if: by truth -/
variable {rest : List Expr} {wt wt1 wt2 : Env' → AG → (Bool → AG → Prop) → AX → Prop}
theorem truK {K : PySem.W.Frag} {H : Hp} {x : V} {d : Dat} {G : AG} {Qa : Bool → AG → Prop} (rx : Rep K H x d) (rg : RelG K G H) (h : truW d G Qa) : ∃ k, TruV K x H k ∧ Qa k G := tru_A (Q := fun k _ => Qa k G) rx rg h fun _ q => q
theorem se_and (h1 : PE X a (LfE X.K W w1)) (h2 : PE X (.BoolOp .And (b :: rest) pos) (LfE X.K W w2)) :
    PE X (.BoolOp .And (a :: b :: rest) pos) (LfE X.K W fun ρ G Q E => w1 ρ G (fun x G1 => truW x G1 fun k G2 => if k = true then w2 ρ G2 Q E else Q x G2) E) := by
  refine PE.imp (pe_andT h1 h2) ?_
  rintro σ H Q ⟨ρ, G, Qa, Ea, hE, hG, hw, hp, hx⟩
  refine ⟨ρ, G, _, Ea, hE, hG, hw, fun d G1 v H1 f g r1 q => ?_, hx⟩
  obtain ⟨k, h3, h4⟩ := truK r1 g q
  refine ⟨k, h3, ?_⟩
  cases k with
  | true =>
    rw [if_pos rfl] at h4 ⊢
    exact ⟨ρ, G1, _, Ea, hE.mono (f.stab hG), g, h4, fun d' G' v' H' f3 => hp d' G' v' H' (f.trans f3), hx.fra f⟩
  | false =>
    rw [if_neg (by simp)] at h4 ⊢
    exact hp _ _ _ _ f g r1 h4
theorem se_or (h1 : PE X a (LfE X.K W w1)) (h2 : PE X (.BoolOp .Or (b :: rest) pos) (LfE X.K W w2)) :
    PE X (.BoolOp .Or (a :: b :: rest) pos) (LfE X.K W fun ρ G Q E => w1 ρ G (fun x G1 => truW x G1 fun k G2 => if k = true then Q x G2 else w2 ρ G2 Q E) E) := by
  refine PE.imp (pe_orT h1 h2) ?_
  rintro σ H Q ⟨ρ, G, Qa, Ea, hE, hG, hw, hp, hx⟩
  refine ⟨ρ, G, _, Ea, hE, hG, hw, fun d G1 v H1 f g r1 q => ?_, hx⟩
  obtain ⟨k, h3, h4⟩ := truK r1 g q
  refine ⟨k, h3, ?_⟩
  cases k with
  | true =>
    rw [if_pos rfl] at h4 ⊢
    exact hp _ _ _ _ f g r1 h4
  | false =>
    rw [if_neg (by simp)] at h4 ⊢
    exact ⟨ρ, G1, _, Ea, hE.mono (f.stab hG), g, h4, fun d' G' v' H' f3 => hp d' G' v' H' (f.trans f3), hx.fra f⟩
theorem se_not (h1 : PE X a (LfE X.K W w1)) : PE X (.UnaryOp .Not a pos) (LfE X.K W fun ρ G Q E => w1 ρ G (fun x G1 => truW x G1 fun k G2 => Q (.bl (!k)) G2) E) := by
  refine PE.imp (pe_notT h1) ?_
  rintro σ H Q ⟨ρ, G, Qa, Ea, hE, hG, hw, hp, hx⟩
  refine ⟨ρ, G, _, Ea, hE, hG, hw, fun d G1 v H1 f g r1 q => ?_, hx⟩
  obtain ⟨k, h3, h4⟩ := truK r1 g q
  exact ⟨k, h3, hp _ _ _ _ f g (.bl _) h4⟩
theorem se_ite (h0 : PT X c (LfT X.K W wt)) (h1 : PE X a (LfE X.K W w1)) (h2 : PE X b (LfE X.K W w2)) :
    PE X (.IfExp c a b pos) (LfE X.K W fun ρ G Q E => wt ρ G (fun k G1 => if k = true then w1 ρ G1 Q E else w2 ρ G1 Q E) E) := by
  refine PE.imp (pe_ifExp h0 h1 h2) ?_
  rintro σ H Q ⟨ρ, G, Qa, Ea, hE, hG, hw, hp, hx⟩
  refine ⟨ρ, G, _, Ea, hE, hG, hw, fun d G1 v H1 f g r1 q => ?_, hx⟩
  cases r1
  cases d with
  | true =>
    rw [if_pos rfl] at q ⊢
    exact ⟨ρ, G1, _, Ea, hE.mono (f.stab hG), g, q, fun d' G' v' H' f3 => hp d' G' v' H' (f.trans f3), hx.fra f⟩
  | false =>
    rw [if_neg (by simp)] at q ⊢
    exact ⟨ρ, G1, _, Ea, hE.mono (f.stab hG), g, q, fun d' G' v' H' f3 => hp d' G' v' H' (f.trans f3), hx.fra f⟩
/-! ### tests -/
theorem st_val (h1 : PE X a (LfE X.K W w1)) (he : ∀ whole, isTrue a X.env whole = (do let v ← whole; standAt a.pos; holding [v] (truthy v))) : PT X a (LfT X.K W fun ρ G Q E => w1 ρ G (fun x G1 => truW x G1 Q) E) := by
  refine PT.imp (pt_truth h1 he) ?_
  rintro σ H Q ⟨ρ, G, Qa, Ea, hE, hG, hw, hp, hx⟩
  refine ⟨ρ, G, _, Ea, hE, hG, hw, fun d G1 v H1 f g r1 q => ?_, hx⟩
  obtain ⟨k, h3, h4⟩ := truK r1 g q
  exact ⟨k, h3, hp _ _ _ _ f g rfl h4⟩
theorem st_not (h1 : PT X a (LfT X.K W wt)) : PT X (.UnaryOp .Not a pos) (LfT X.K W fun ρ G Q E => wt ρ G (fun k G1 => Q (!k) G1) E) := by
  refine PT.imp (pt_not h1) ?_
  rintro σ H Q ⟨ρ, G, Qa, Ea, hE, hG, hw, hp, hx⟩
  exact ⟨ρ, G, _, Ea, hE, hG, hw, fun d G1 v H1 f g r1 q => by cases r1; exact hp _ _ _ _ f g rfl q, hx⟩
theorem st_and (h1 : PT X a (LfT X.K W wt1)) (h2 : PW X (.BoolOp .And (b :: rest) pos) (LfT X.K W wt2)) :
    PW X (.BoolOp .And (a :: b :: rest) pos) (LfT X.K W fun ρ G Q E => wt1 ρ G (fun k G1 => if k = true then wt2 ρ G1 Q E else Q false G1) E) := by
  refine PW.imp (pw_and h1 h2) ?_
  rintro σ H Q ⟨ρ, G, Qa, Ea, hE, hG, hw, hp, hx⟩
  refine ⟨ρ, G, _, Ea, hE, hG, hw, fun d G1 v H1 f g r1 q => ?_, hx⟩
  cases r1
  cases d with
  | true =>
    rw [if_pos rfl] at q ⊢
    exact ⟨ρ, G1, _, Ea, hE.mono (f.stab hG), g, q, fun d' G' v' H' f3 => hp d' G' v' H' (f.trans f3), hx.fra f⟩
  | false =>
    rw [if_neg (by simp)] at q ⊢
    exact hp _ _ _ _ f g rfl q
theorem st_or (h1 : PT X a (LfT X.K W wt1)) (h2 : PW X (.BoolOp .Or (b :: rest) pos) (LfT X.K W wt2)) :
    PW X (.BoolOp .Or (a :: b :: rest) pos) (LfT X.K W fun ρ G Q E => wt1 ρ G (fun k G1 => if k = true then Q true G1 else wt2 ρ G1 Q E) E) := by
  refine PW.imp (pw_or h1 h2) ?_
  rintro σ H Q ⟨ρ, G, Qa, Ea, hE, hG, hw, hp, hx⟩
  refine ⟨ρ, G, _, Ea, hE, hG, hw, fun d G1 v H1 f g r1 q => ?_, hx⟩
  cases r1
  cases d with
  | true =>
    rw [if_pos rfl] at q ⊢
    exact hp _ _ _ _ f g rfl q
  | false =>
    rw [if_neg (by simp)] at q ⊢
    exact ⟨ρ, G1, _, Ea, hE.mono (f.stab hG), g, q, fun d' G' v' H' f3 => hp d' G' v' H' (f.trans f3), hx.fra f⟩
/-! ### displays, subscripts, slices -/
variable {es : List Expr} {wa : Env' → AG → (List Dat → AG → Prop) → AX → Prop}
theorem se_tup {k : Nat} (h : PA X es (LfA X.K W wa)) : PE X (.Tuple es k pos) (LfE X.K W fun ρ G Q E => wa ρ G (fun ds G1 => ds.length ≤ sizeLine ∧ Q (.tup ds) G1) E) := by
  refine PE.imp (pe_tup h) ?_
  rintro σ H Q ⟨ρ, G, Qa, Ea, hE, hG, hw, hp, hx⟩
  refine ⟨ρ, G, _, Ea, hE, hG, hw, fun d G1 v H1 f g r1 q => ⟨by rw [r1.length]; exact q.1, ?_⟩, hx⟩
  exact PostE.newT (fun d' G' v' H' f3 => hp d' G' v' H' (f.trans f3)) g r1 q.2
theorem se_lst {z : Bool} (h : PA X es (LfA X.K W wa)) : PE X (.List es pos) (LfE X.K W fun ρ G Q E => wa ρ G (fun ds G1 => nw z ds G1 Q) E) := by
  refine PE.imp (pe_z (pe_lst h)) ?_
  rintro σ H Q ⟨ρ, G, Qa, Ea, hE, hG, hw, hp, hx⟩
  refine ⟨ρ, G, _, Ea, hE, hG, hw, fun d G1 v H1 f g r1 q => ⟨by rw [r1.length]; exact nw_len q, ?_⟩, hx⟩
  exact rep_newL g r1 q (postZ fun d' G' v' H' f3 => hp d' G' v' H' (f.trans f3))
theorem se_ix (hs : PlainIx b) (h1 : PE X a (LfE X.K W w1)) (h2 : PE X b (LfE X.K W w2)) :
    PE X (.Subscript a b pos) (LfE X.K W fun ρ G Q E => w1 ρ G (fun x G1 => w2 ρ G1 (fun y G2 => ixW x y G2 Q) E) E) :=
  PE.imp (pe_z (pe_ix ix_seq h1 h2 hs)) fun _ _ _ ⟨ρ, G, Qa, Ea, hE, hG, hw, hp, hx⟩ => ⟨ρ, G, _, Ea, hE, hG, hw, fun d G1 v H1 f g r1 q => ⟨ρ, G1, _, Ea, hE.mono (f.stab hG), g, q,
    fun e G2 u H2 f2 g2 r2 q2 => opA_ix H2 v u d e G2 Qa _ (r1.mono (f2.stab g)) r2 g2 q2 (postZ fun d' G' v' H' f3 => hp d' G' v' H' ((f.trans f2).trans f3)), hx.fra f⟩, hx⟩
theorem intK_inv {Q : Int → AG → Prop} {d : Dat} {G : AG} (h : intK Q d G) : ∃ k, d = .int k ∧ Q k G := by
  cases d with
  | int k => exact ⟨k, rfl, h⟩
  | _ => exact False.elim h
/-- a part of a slice -/
abbrev LfO (K : PySem.W.Frag) (W : WX) (w : Env' → AG → (Option Int → AG → Prop) → AX → Prop) : TO := Lf K W (fun _ b c => b = c) w
theorem so_none : PO X none (LfO X.K W fun _ G Q _ => Q none G) := ⟨fun pins s σ H Q I ⟨ρ, G, Qa, Ea, hE, hG, hw, hp, hx⟩ => po_none.run pins s σ H Q I (hp none G none H .refl hG rfl hw)⟩
theorem so_some (h1 : PE X a (LfE X.K W w1)) : PO X (some a) (LfO X.K W fun ρ G Q E => w1 ρ G (intK fun i G1 => Q (some i) G1) E) := by
  refine ⟨fun pins s σ H Q I ⟨ρ, G, Qa, Ea, hE, hG, hw, hp, hx⟩ => (po_some h1).run pins s σ H Q I ⟨ρ, G, _, Ea, hE, hG, hw, fun d G1 v H1 f g r1 q => ?_, hx⟩⟩
  obtain ⟨i, rfl, q1⟩ := intK_inv q
  exact ⟨i, rep_i r1, hp _ _ _ _ f g rfl q1⟩
theorem se_sl {z : Bool} {lo hi : Option Expr} {p2 : Pos} {wl wh : Env' → AG → (Option Int → AG → Prop) → AX → Prop} (h1 : PE X a (LfE X.K W w1)) (h2 : PO X lo (LfO X.K W wl)) (h3 : PO X hi (LfO X.K W wh)) :
    PE X (.Subscript a (.Slice lo hi none p2) pos) (LfE X.K W fun ρ G Q E => w1 ρ G (fun x G1 => wl ρ G1 (fun i G2 => wh ρ G2 (fun j G3 => slW z x i j G3 Q) E) E) E) := by
  refine PE.imp (pe_z (pe_slice sl_any h1 h2 h3)) ?_
  rintro σ H Q ⟨ρ, G, Qa, Ea, hE, hG, hw, hp, hx⟩
  refine ⟨ρ, G, _, Ea, hE, hG, hw, fun d G1 v H1 f g r1 q => ⟨ρ, G1, _, Ea, hE.mono (f.stab hG), g, q, fun i G2 u H2 f2 g2 r2 q2 => ?_, hx.fra f⟩, hx⟩
  cases r2
  refine ⟨ρ, G2, _, Ea, hE.mono ((f.trans f2).stab hG), g2, q2, fun j G3 t H3 f3 g3 r3 q3 => ?_, hx.fra (f.trans f2)⟩
  cases r3
  exact slA_ok (r1.mono ((f2.trans f3).stab g)) g3 q3 (postZ fun d' G' v' H' f4 => hp d' G' v' H' (((f.trans f2).trans f3).trans f4))
/-! ### arguments -/
theorem sa_nil : PA X [] (LfA X.K W fun _ G Q _ => Q [] G) := PA.imp pa_nil fun _ _ _ ⟨ρ, G, Qa, Ea, hE, hG, hw, hp, hx⟩ => hp [] G [] _ .refl hG .nil hw
theorem sa_cons (hs : starEach (a :: es) X.env = (false, eval a X.env) :: starEach es X.env) (h1 : PE X a (LfE X.K W w1)) (h2 : PA X es (LfA X.K W wa)) :
    PA X (a :: es) (LfA X.K W fun ρ G Q E => w1 ρ G (fun d G1 => wa ρ G1 (fun ds G2 => Q (d :: ds) G2) E) E) :=
  PA.imp (pa_cons h1 h2 hs) fun _ _ _ ⟨ρ, G, Qa, Ea, hE, hG, hw, hp, hx⟩ => ⟨ρ, G, _, Ea, hE, hG, hw, fun d G1 v H1 f g r1 q => ⟨ρ, G1, _, Ea, hE.mono (f.stab hG), g, q,
    fun e G2 u H2 f2 g2 r2 q2 => hp _ _ _ _ (f.trans f2) g2 (.cons (r1.mono (f2.stab g)) r2) q2, hx.fra f⟩, hx⟩
/-! ### names, constants -/
theorem se_var {i : Nat} {x : Str} (hN : X.N[i]? = some x) (hv : Vis X.env.scope x) (hd : (x == ("__debug__" : Str)) = false) (hcd : (x == ("__classdict__" : Str)) = false) :
    PE X (.Name x pos) (LfE X.K W fun ρ G Q _ => match ρ[i]? with | some (some d) => Q d G | _ => False) := by
  refine PE.imp (pe_var hN hv hd hcd) ?_
  rintro σ H Q ⟨ρ, G, Qa, Ea, hE, hG, hw, hp, hx⟩
  cases e : ρ[i]? with
  | none => rw [e] at hw; exact False.elim hw
  | some o =>
    cases o with
    | none => rw [e] at hw; exact False.elim hw
    | some d =>
      rw [e] at hw
      obtain ⟨v, h1, h2⟩ := hE.2 i d e
      exact ⟨v, h1, hp d G v H .refl hG h2 hw⟩
theorem se_c {v : V} {d : Dat} (h : PE X a (tC v)) (r : ∀ H, Rep X.K H v d) : PE X a (LfE X.K W fun _ G Q _ => Q d G) :=
  PE.imp h fun _ H _ ⟨ρ, G, Qa, Ea, hE, hG, hw, hp, hx⟩ => hp d G v H .refl hG (r H) hw
theorem se_neg (h1 : PE X a (LfE X.K W w1)) : PE X (.UnaryOp .USub a pos) (LfE X.K W fun ρ G Q E => w1 ρ G (intK fun i G1 => Q (.int (-i)) G1) E) :=
  PE.imp (pe_un un_neg h1) fun _ _ _ ⟨ρ, G, Qa, Ea, hE, hG, hw, hp, hx⟩ => ⟨ρ, G, _, Ea, hE, hG, hw, fun d G1 v H1 f g r1 q => by
    obtain ⟨i, rfl, q1⟩ := intK_inv q
    exact ⟨i, rep_i r1, hp _ _ _ _ f g (.int _) q1⟩, hx⟩
theorem frzW_inv {Q : AQ} {d : Dat} {G : AG} (h : frzW d G Q) : (∃ p ds, d = .ref p ∧ G p = some (.lst ds) ∧ Q (.lst ds) (gx G p)) ∨ Q d G := by
  unfold frzW at h
  split at h
  · split at h
    · exact .inl ⟨_, _, rfl, by assumption, h⟩
    · exact .inr h
  · exact .inr h
theorem frz_step {K : PySem.W.Frag} {G : AG} {H : Hp} {p : Addr} {ds : List Dat} {vs : List V} {o : Obj} (g : RelG K G H) (e : G p = some (.lst ds)) (h : H p = some (.lst vs)) (r : Reps K H vs ds) :
    Fra G H (gx G p) (upd H p (.frz o (.lst vs))) ∧ RelG K (gx G p) (upd H p (.frz o (.lst vs))) ∧ Rep K (upd H p (.frz o (.lst vs))) (.ref p) (.lst ds) := by
  refine ⟨fun a u q n => ?_, fun a w q => ?_, .lst ⟨o, upd_same⟩ (r.mono (.lst h))⟩
  · have d : a ≠ p := fun z => by rw [z, e] at n; cases n
    exact ⟨by rw [upd_ne d]; exact q, by rw [gx_ne d]; exact n⟩
  · have d : a ≠ p := fun z => by rw [z, gx_same] at q; cases q
    rw [gx_ne d] at q
    exact (g a w q).mono (.lst h) (upd_ne d)
theorem se_frz (h1 : PE X a (LfE X.K W w1)) : PE X a (LfE X.K W fun ρ G Q E => w1 ρ G (fun x G1 => frzW x G1 Q) E) := by
  refine ⟨fun pins s σ H Q I ⟨ρ, G, Qa, Ea, hE, hG, hw, hp, hx⟩ => ?_⟩
  refine thn (h1.run pins s σ H (fun v H1 => ∃ d G1, Fra G H G1 H1 ∧ RelG X.K G1 H1 ∧ Rep X.K H1 v d ∧ frzW d G1 Qa) I ⟨ρ, G, _, Ea, hE, hG, hw, fun d G1 v H1 f g r q => ⟨d, G1, f, g, r, q⟩, hx⟩) ?_
  rintro u s1 ⟨v, H1, I1, rv, d, G1, f, g, r, q⟩
  rcases frzW_inv q with ⟨p, ds, rfl, e, q1⟩ | q1
  · cases rep_r r
    obtain ⟨vs, h2, h3⟩ := g.lst e
    obtain ⟨z, its, n, _, _, ho⟩ := I1.lstM h2
    obtain ⟨f2, g2, r2⟩ := frz_step (o := { cls := .type "list", data := .seq its.toArray n }) g e h2 h3
    exact ⟨.ref p, _, Inv.frozen I1 h2 ho, rv, hp _ _ _ _ (f.trans f2) g2 r2 q1⟩
  · exact ⟨v, H1, I1, rv, hp _ _ _ _ f g r q1⟩
end
end Av


set_option Elab.async false
set_option linter.all false
set_option maxRecDepth 100000
set_option maxHeartbeats 4000000
/-! # Av5: calls, methods, what is walked, comprehensions -/
namespace Av
open PySem PySem.Spec PyProof.Rows L2

/-- a def's promise by its contract -/
def spOf (K : PySem.W.Frag) (F : FnE) : Sp := fun vs H Q E => ∃ ds G Qa Ea, Reps K H vs ds ∧ RelG K G H ∧ F.con ds G Qa Ea ∧ PostE K G H Qa Q ∧ PostX K G H Ea E
theorem spOf_len {K : PySem.W.Frag} {F : FnE} {vs : List V} {H : Hp} {Q : VK} {E : XK} (h : spOf K F vs H Q E) : vs.length = F.ar := by
  obtain ⟨ds, G, Qa, Ea, h1, _, h2, _⟩ := h
  rw [h1.length]
  exact F.len _ _ _ _ h2
/-- what the table of names says is so -/
structure TbOk (P : Program) (w : World) (K : PySem.W.Frag) (mg : Str → Option Value) (base : Heap) (Γ : Gam) (k : Nat) : Prop where
  fn : ∀ f F, Γ.fn f = some F → ∃ a fd ps, FnOk P w K mg base (L2.CX P w) k a fd ps (spOf K F) ∧ mg f = some (.ref a) ∧ PySem.W.keepIn K (.ref a) = true ∧
    ∀ m, F.ar ≤ m + F.dfl.length → m ≤ F.ar → ∃ ds dvs, Binds K fd ps ds ∧ Vals dvs ds ∧ ∀ H, Reps K H dvs (F.dfl.drop (m + F.dfl.length - F.ar))
  gl : ∀ x d, Γ.gl x = some d → ∃ u v, RelV v u ∧ (∀ H, Rep K H v d) ∧ (mg x = some u ∨ (mg x = none ∧ bootBuiltins x = some u))
  blt : ∀ f : BF, mg f.nm = none
  rng : mg "range" = none
  zip : mg "zip" = none
  enum : mg "enumerate" = none
structure Oc (X : Cx) (W : WX) (Γ : Gam) (k : Nat) : Prop where
  room : Room k X.A
  nd : X.N.Nodup
  calm : X.calm = true
  tk : Takes X W
  tb : TbOk X.prog X.w X.K X.mg X.base Γ k
section
variable {X : Cx} {W : WX} {Γ : Gam} {k : Nat} {a b c : Expr} {pos p : Pos} {es : List Expr} {w1 w2 : Env' → AG → AQ → AX → Prop} {wa : Env' → AG → (List Dat → AG → Prop) → AX → Prop}
/-- f(), with what is raised wished for at the slots -/
theorem pe_callSD0 {CX : CXT} {f : Addr} {fd : FuncData} {ps : List Str} {sp : Sp} {dvs : List V} {ds : List Value} {E : L2.St → XK} {x : Str} (F : FnOk X.prog X.w X.K X.mg X.base CX k f fd ps sp) (hr : Room k X.A) (hg : Gl X x) (hm : X.mg x = some (.ref f)) (hk : PySem.W.keepIn X.K (.ref f) = true)
    (hb : Binds X.K fd ps ds) (hd : Vals dvs ds) (hx : ∀ σ, PassesAt CX X σ (E σ)) (hdb : (x == ("__debug__" : Str)) = false) : PE X (.Call (.Name x p) [] [] pos) (tCallSD sp dvs E tNil) := by
  refine ⟨fun pins s σ H Q I h => ?_⟩
  refine wpAny_Call_Name_kw (ld_glob I hg hm ?_ hdb)
  exact PySem.W.callWith_K0 I.kIn hk (run_fnSD (us := []) F hr hb hd (hx σ) I .nil h)
theorem se_call0 (oc : Oc X W Γ k) {f : Str} {F : FnE} (hF : Γ.fn f = some F) (hg : Gl X f) (hdb : (f == ("__debug__" : Str)) = false) (h1 : F.ar ≤ 0 + F.dfl.length) :
    PE X (.Call (.Name f p) [] [] pos) (LfE X.K W fun ρ G Q E => F.con ([] ++ F.dfl.drop (0 + F.dfl.length - F.ar)) G Q E) := by
  obtain ⟨a, fd, ps, hok, hm, hk, hbind⟩ := oc.tb.fn f F hF
  obtain ⟨ds, dvs, hb, hv, hd⟩ := hbind 0 h1 (Nat.zero_le _)
  exact PE.imp (pe_callSD0 (E := WE W) hok oc.room hg hm hk hb hv (fun σ => passAt oc.tk σ) hdb) fun σ H Q ⟨ρ, G, Qa, Ea, hE, hG, hw, hp, hx⟩ => ⟨_, G, Qa, Ea, hd H, hG, hw, hp, hx⟩
theorem call_imp {F : FnE} {dvs : List V} {n : Nat} (hd : ∀ H, Reps X.K H dvs (F.dfl.drop n)) {t : TA} (ht : ∀ σ H Q, LfA X.K W wa σ H Q → t σ H Q) (σ : L2.St) (H : Hp) (Q : VK)
    (h : LfE X.K W (fun ρ G Q E => wa ρ G (fun ds G1 => F.con (ds ++ F.dfl.drop n) G1 Q E) E) σ H Q) : tCallSD (spOf X.K F) dvs (WE W) t σ H Q := by
  obtain ⟨ρ, G, Qa, Ea, hE, hG, hw, hp, hx⟩ := h
  exact ht _ _ _ ⟨ρ, G, _, Ea, hE, hG, hw, fun d G1 v H1 f g r q => ⟨_, G1, Qa, Ea, r.append (hd H1), g, q, fun d' G' v' H' f3 => hp d' G' v' H' (f.trans f3), hx.fra f⟩, hx⟩
theorem se_call (oc : Oc X W Γ k) {f : Str} {F : FnE} (hF : Γ.fn f = some F) (hg : Gl X f) (hdb : (f == ("__debug__" : Str)) = false) (h1 : F.ar ≤ (a :: es).length + F.dfl.length) (h2 : (a :: es).length ≤ F.ar) (ha : PA X (a :: es) (LfA X.K W wa))
    (he1 : starEach (a :: es) X.env = (false, eval a X.env) :: starEach es X.env) (he2 : (backTo pos (starEach es X.env)).any (·.1) = false) :
    PE X (.Call (.Name f p) (a :: es) [] pos) (LfE X.K W fun ρ G Q E => wa ρ G (fun ds G1 => F.con (ds ++ F.dfl.drop ((a :: es).length + F.dfl.length - F.ar)) G1 Q E) E) := by
  obtain ⟨q, fd, ps, hok, hm, hk, hbind⟩ := oc.tb.fn f F hF
  obtain ⟨ds, dvs, hb, hv, hd⟩ := hbind (a :: es).length h1 h2
  exact PE.imp (pe_callSD (E := WE W) hok oc.room hg hm hk hb hv (fun σ => passAt oc.tk σ) ha hdb he1 he2) (call_imp hd fun _ _ _ z => z)
/-! ### built-ins -/
theorem boot_bf (f : BF) : bootBuiltins f.nm = some f.val := by cases f <;> decide +kernel
theorem bf_n (f : BF) : f.nm ≠ ("__name__" : Str) ∧ (f.nm == ("__debug__" : Str)) = false := by cases f <;> exact ⟨by decide, by decide⟩
theorem blt_imp {r : List V → Hp → VK → Prop} {rA : List Dat → AG → AQ → Prop} (hA : BltA X.K r rA) (σ : L2.St) (H : Hp) (Q : VK) (h : LfE X.K W (fun ρ G Q E => wa ρ G (fun ds G1 => rA ds G1 Q) E) σ H Q) : tCB r (LfA X.K W wa) σ H (Qz Q) := by
  obtain ⟨ρ, G, Qa, Ea, hE, hG, hw, hp, hx⟩ := h
  exact ⟨ρ, G, _, Ea, hE, hG, hw, fun d G1 v H1 f g r1 q => hA H1 v d G1 Qa _ r1 g q (postZ fun d' G' v' H' f3 => hp d' G' v' H' (f.trans f3)), hx⟩
theorem se_blt (oc : Oc X W Γ k) {z : Bool} {f : BF} (hg : Gl X f.nm) (ha : PA X (a :: es) (LfA X.K W wa))
    (he1 : starEach (a :: es) X.env = (false, eval a X.env) :: starEach es X.env) (he2 : (backTo pos (starEach es X.env)).any (·.1) = false) :
    PE X (.Call (.Name f.nm p) (a :: es) [] pos) (LfE X.K W fun ρ G Q E => wa ρ G (fun ds G1 => bltW z f ds G1 Q) E) := by
  obtain ⟨r, hc, hA⟩ := blt_ok X oc.calm z f
  have h1 := boot_bf f
  have h2 := bf_n f
  have h3 := oc.tb.blt f
  cases f <;> first
    | exact PE.imp (pe_z (pe_callB hc hg h3 h1 ha h2.1 h2.2 he1 he2)) (blt_imp hA)
    | exact PE.imp (pe_z (pe_callTy hc hg h3 h1 ha h2.1 h2.2 he1 he2)) (blt_imp hA)
/-! ### methods of lists -/
theorem met_ok (X : Cx) (m : MF) : ∃ id r, Slot "list" m.nm id ∧ typeOf (.builtin id) = pure (.type "method_descriptor") ∧ MtR X id r ∧ MetA X.K "list" r (methW m) := by
  cases m with
  | append => exact ⟨_, _, F.slot_list_append, rfl, mt_append, metA_append⟩
  | extend => exact ⟨_, _, F.slot_list_extend, rfl, mt_extR, metA_extend⟩
  | pop => exact ⟨_, _, F.slot_list_pop, rfl, mt_pop, metA_pop⟩
  | popAt => exact ⟨_, _, F.slot_list_pop, rfl, mt_popAt, metA_popAt⟩
  | clear => exact ⟨_, _, F.slot_list_clear, rfl, mt_clear, metA_clear⟩
  | reverse => exact ⟨_, _, F.slot_list_reverse, rfl, mt_reverse, metA_reverse⟩
theorem tyV_lst {K : PySem.W.Frag} {G : AG} {H : Hp} {x : V} {d : Dat} (rg : RelG K G H) (r : Rep K H x d) (h : ∃ ds, lstOf G d = some ds) : tyV K "list" x H := by
  obtain ⟨ds, e⟩ := h
  obtain ⟨q, vs, rfl, h3, _⟩ := lstOf_rd rg r e
  exact .inl ⟨rfl, vs, .inl h3⟩
theorem se_meth {m : MF} {apos : Pos} (h1 : PE X b (LfE X.K W w1)) (ha : PA X (a :: es) (LfA X.K W wa))
    (hbase : attributeBase b m.nm X.env (eval b X.env) = eval b X.env)
    (hfew : ((backTo pos (starEach (a :: es) X.env)).all (fun x => !x.1) && (backToKw pos (keywordEach [] X.env)).all (fun x => x.1.isSome)
      && decide ((a :: es).length + ([] : List Keyword).length + (if ([] : List Keyword).isEmpty then 0 else 1) < 30)) = true)
    (hline : (apos.endLine == pos.line) = true) (he1 : starEach (a :: es) X.env = (false, eval a X.env) :: starEach es X.env) (he2 : (backTo pos (starEach es X.env)).any (·.1) = false) :
    PE X (.Call (.Attribute b m.nm apos) (a :: es) [] pos) (LfE X.K W fun ρ G Q E => w1 ρ G (fun x G1 => (∃ ds, lstOf G1 x = some ds) ∧ wa ρ G1 (fun ds G2 => methW m x ds G2 Q) E) E) := by
  obtain ⟨id, r, k1, k2, k3, k4⟩ := met_ok X m
  refine PE.imp (pe_bm F.plainAttrs_list k1 k2 k3 h1 ha hbase hfew hline he1 he2) ?_
  rintro σ H Q ⟨ρ, G, Qa, Ea, hE, hG, hw, hp, hx⟩
  refine ⟨ρ, G, _, Ea, hE, hG, hw, fun d G1 v H1 f g r1 q => ⟨tyV_lst g r1 q.1, ρ, G1, _, Ea, hE.mono (f.stab hG), g, q.2, fun e G2 u H2 f2 g2 r2 q2 => ?_, hx.fra f⟩, hx⟩
  exact k4 H2 v d u e G2 Qa Q (r1.mono (f2.stab g)) r2 g2 q2 fun d' G' v' H' f3 => hp d' G' v' H' ((f.trans f2).trans f3)
theorem se_meth0 {m : MF} {apos : Pos} (h1 : PE X b (LfE X.K W w1)) (hbase : attributeBase b m.nm X.env (eval b X.env) = eval b X.env) (hline : (apos.endLine == pos.line) = true) :
    PE X (.Call (.Attribute b m.nm apos) [] [] pos) (LfE X.K W fun ρ G Q E => w1 ρ G (fun x G1 => (∃ ds, lstOf G1 x = some ds) ∧ methW m x [] G1 Q) E) := by
  obtain ⟨id, r, k1, k2, k3, k4⟩ := met_ok X m
  refine PE.imp (pe_bm0 F.plainAttrs_list k1 k2 k3 h1 hbase hline) ?_
  rintro σ H Q ⟨ρ, G, Qa, Ea, hE, hG, hw, hp, hx⟩
  refine ⟨ρ, G, _, Ea, hE, hG, hw, fun d G1 v H1 f g r1 q => ⟨tyV_lst g r1 q.1, ?_⟩, hx⟩
  exact k4 H1 v d [] [] G1 Qa Q r1 .nil g q.2 fun d' G' v' H' f3 => hp d' G' v' H' (f.trans f3)
/-! ### global values -/
theorem se_glo (oc : Oc X W Γ k) {x : Str} (hg : Gl X x) (hn : x ≠ "__name__") (hd : (x == ("__debug__" : Str)) = false) : PE X (.Name x pos) (LfE X.K W fun ρ G Q _ => match Γ.gl x with | some d => Q d G | none => False) := by
  refine ⟨fun pins s σ H Q I ⟨ρ, G, Qa, Ea, hE, hG, hw, hp, hx⟩ => ?_⟩
  cases e : Γ.gl x with
  | none => rw [e] at hw; exact False.elim hw
  | some d =>
    rw [e] at hw
    obtain ⟨u, v, rv, rd, h⟩ := oc.tb.gl x d e
    rcases h with h | ⟨h, h'⟩
    · exact ld_glob I hg h ⟨v, H, I, rv, hp d G v H .refl hG (rd H) hw⟩ hd
    · exact ld_blt I hg h h' ⟨v, H, I, rv, hp d G v H .refl hG (rd H) hw⟩ hn hd
end
end Av


set_option Elab.async false
set_option linter.all false
set_option maxRecDepth 100000
set_option maxHeartbeats 4000000
/-! # Av6: what is walked, targets, comprehensions -/
namespace Av
open PySem PySem.Spec PyProof.Rows L2

/-- what walks the items ds -/
structure ItOk (K : PySem.W.Frag) (H0 : Hp) (J : It) (ds : List Dat) (gd : Gd) : Prop where
  go : ∀ i H G, Stab H0 H → RelG K G H → gdOk G gd → i < ds.length → J.go i H
  stop : ∀ i H G, Stab H0 H → RelG K G H → gdOk G gd → ds.length ≤ i → J.stop i H
  yld : ∀ i H G x H', Stab H0 H → RelG K G H → gdOk G gd → i < ds.length → J.yld i H x H' → ∃ d, ds[i]? = some d ∧ Fra G H G H' ∧ RelG K G H' ∧ Rep K H' x d
def Src (K : PySem.W.Frag) (T : Hp → Addr → List V → Prop) (H0 : Hp) (a : Addr) (ds : List Dat) (gd : Gd) : Prop := ∀ H G, Stab H0 H → RelG K G H → gdOk G gd → ∃ xs, T H a xs ∧ Reps K H xs ds
section
variable {K : PySem.W.Frag} {H H0 : Hp} {G : AG} {a b : Addr} {ds es : List Dat} {gd ge : Gd} {T : Hp → Addr → List V → Prop}
theorem gdOk_app : ∀ {gd ge : Gd}, gdOk G (gd ++ ge) ↔ gdOk G gd ∧ gdOk G ge
  | [], ge => ⟨fun h => ⟨trivial, h⟩, fun h => h.2⟩
  | (a, d) :: r, ge => by
    show (G a = some (.lst d) ∧ gdOk G (r ++ ge)) ↔ (G a = some (.lst d) ∧ gdOk G r) ∧ gdOk G ge
    rw [gdOk_app, and_assoc]
theorem Src.mono (h : Src K T H0 a ds gd) (s : Stab H0 H) : Src K T H a ds gd := fun H' G' s' => h H' G' (s.trans s')
theorem lstG_src {v : V} {x : Dat} {Q : List Dat → Gd → AG → Prop} (r : Rep K H v x) (h : lstG x G Q) : ∃ a ds gd, v = .ref a ∧ Q ds gd G ∧ gdOk G gd ∧ Src K (SqL K) H a ds gd := by
  cases x with
  | lst ds =>
    cases r with
    | lst h1 q => exact ⟨_, ds, [], rfl, h, trivial, fun H' G' s _ _ => ⟨_, (h1.mono s).sq, q.mono s⟩⟩
  | ref a =>
    cases rep_r r
    obtain ⟨ds, e, q⟩ := h
    refine ⟨a, ds, [(a, ds)], rfl, q, ⟨e, trivial⟩, fun H' G' s rg gk => ?_⟩
    obtain ⟨vs, h1, h2⟩ := rg.lst gk.1
    exact ⟨vs, .inl (.inl h1), h2⟩
  | _ => exact False.elim h
theorem seqG_src {v : V} {x : Dat} {Q : List Dat → Gd → AG → Prop} (r : Rep K H v x) (h : seqG x G Q) : ∃ a ds gd, v = .ref a ∧ Q ds gd G ∧ gdOk G gd ∧ (Src K (SqL K) H a ds gd ∨ Src K (SqT K) H a ds gd) := by
  cases x with
  | tup ds =>
    obtain ⟨a, vs, rfl, h1, q⟩ := rep_t r
    exact ⟨_, ds, [], rfl, h, trivial, .inr fun H' G' s _ _ => ⟨_, (h1.mono s).sq, q.mono s⟩⟩
  | kls ds =>
    cases r with
    | kls h1 q => exact ⟨_, ds, [], rfl, h, trivial, .inl fun H' G' s _ _ => ⟨_, (h1.mono s).sq, q.mono s⟩⟩
  | lst ds =>
    obtain ⟨a, es, gd, h1, h2, h3, h4⟩ := lstG_src (Q := Q) r h
    exact ⟨a, es, gd, h1, h2, h3, .inl h4⟩
  | ref a =>
    obtain ⟨a, es, gd, h1, h2, h3, h4⟩ := lstG_src (Q := Q) r h
    exact ⟨a, es, gd, h1, h2, h3, .inl h4⟩
  | _ => exact False.elim h
theorem Reps.lt {vs : List V} {i : Nat} (r : Reps K H vs ds) (h : i < ds.length) : ∃ v d, vs[i]? = some v ∧ ds[i]? = some d ∧ Rep K H v d := by
  obtain ⟨v, h1, h2⟩ := r.get (List.getElem?_eq_getElem h)
  exact ⟨v, _, h1, List.getElem?_eq_getElem h, h2⟩
theorem it_list (h : Src K (SqL K) H0 a ds gd) : ItOk K H0 (Itl K a) ds gd := by
  refine ⟨fun i H G s rg gk hi => ?_, fun i H G s rg gk hi => ?_, fun i H G x H' s rg gk hi hy => ?_⟩
  · obtain ⟨xs, h1, h2⟩ := h H G s rg gk
    obtain ⟨v, d, h3, _⟩ := h2.lt hi
    exact ⟨xs, v, h1, h3⟩
  · obtain ⟨xs, h1, h2⟩ := h H G s rg gk
    exact ⟨xs, h1, by rw [h2.length]; exact hi⟩
  · obtain ⟨xs, h1, h2⟩ := h H G s rg gk
    obtain ⟨v, d, h3, h4, h5⟩ := h2.lt hi
    obtain ⟨rfl, h6⟩ := hy
    have e := h6 xs h1
    rw [h3] at e
    cases e
    exact ⟨d, h4, .refl, rg, h5⟩
theorem it_tup (h : Src K (SqT K) H0 a ds gd) : ItOk K H0 (Itt K a) ds gd := by
  refine ⟨fun i H G s rg gk hi => ?_, fun i H G s rg gk hi => ?_, fun i H G x H' s rg gk hi hy => ?_⟩
  · obtain ⟨xs, h1, h2⟩ := h H G s rg gk
    obtain ⟨v, d, h3, _⟩ := h2.lt hi
    exact ⟨xs, v, h1, h3⟩
  · obtain ⟨xs, h1, h2⟩ := h H G s rg gk
    exact ⟨xs, h1, by rw [h2.length]; exact hi⟩
  · obtain ⟨xs, h1, h2⟩ := h H G s rg gk
    obtain ⟨v, d, h3, h4, h5⟩ := h2.lt hi
    obtain ⟨rfl, h6⟩ := hy
    have e := h6 xs h1
    rw [h3] at e
    cases e
    exact ⟨d, h4, .refl, rg, h5⟩
theorem it_rng {lo : Int} {n : Nat} : ItOk K H0 (Itr lo n) (rngD lo n) [] := by
  have hl : (rngD lo n).length = n := by unfold rngD; rw [List.length_map, List.length_range]
  refine ⟨fun i H G s rg gk hi => by rw [hl] at hi; exact hi, fun i H G s rg gk hi => by rw [hl] at hi; exact hi, fun i H G x H' s rg gk hi hy => ?_⟩
  obtain ⟨rfl, rfl⟩ := hy
  rw [hl] at hi
  refine ⟨.int (lo + i), ?_, .refl, rg, .int _⟩
  unfold rngD
  rw [List.getElem?_map, List.getElem?_range hi]
  rfl
theorem enumD_get : ∀ {ds : List Dat} {k i : Nat} {d : Dat}, ds[i]? = some d → (enumD k ds)[i]? = some (.tup [.int ((k + i : Nat) : Int), d])
  | [], _, _, _, e => by simp at e
  | x :: ds, k, 0, d, e => by
    simp only [List.getElem?_cons_zero, Option.some.injEq] at e
    subst e
    rfl
  | x :: ds, k, i + 1, d, e => by
    simp only [List.getElem?_cons_succ] at e
    have h := enumD_get (k := k + 1) e
    rw [show k + (i + 1) = k + 1 + i by omega, ← h]
    rfl
theorem enumD_len : ∀ {ds : List Dat} {k : Nat}, (enumD k ds).length = ds.length
  | [], _ => rfl
  | x :: ds, k => by
    show (enumD (k + 1) ds).length + 1 = ds.length + 1
    rw [enumD_len]
theorem it_enum (h : Src K (SqL K) H0 a ds gd) : ItOk K H0 (Ite K a) (enumD 0 ds) gd := by
  refine ⟨fun i H G s rg gk hi => ?_, fun i H G s rg gk hi => ?_, fun i H G x H' s rg gk hi hy => ?_⟩
  all_goals rw [enumD_len] at hi
  all_goals obtain ⟨xs, h1, h2⟩ := h H G s rg gk
  · obtain ⟨v, d, h3, _⟩ := h2.lt hi
    exact ⟨xs, v, h1, h3⟩
  · exact ⟨xs, h1, by rw [h2.length]; exact hi⟩
  · obtain ⟨v, d, h3, h4, h5⟩ := h2.lt hi
    obtain ⟨t, y, rfl, hn, rfl, h6⟩ := hy
    have e := h6 xs h1
    rw [h3] at e
    cases e
    refine ⟨.tup [.int ((0 + i : Nat) : Int), d], enumD_get h4, .newT hn, rg.newT hn, .tup (.inl upd_same) (.cons ?_ (.one (h5.mono (.new hn))))⟩
    rw [Nat.zero_add]
    exact .int _
theorem zipD_get {d e : Dat} : ∀ (ds es : List Dat) (i : Nat), ds[i]? = some d → es[i]? = some e → (zipD ds es)[i]? = some (.tup [d, e])
  | [], _, _, h, _ => by simp at h
  | _ :: _, [], _, _, h => by simp at h
  | x :: ds, y :: es, 0, h1, h2 => by
    simp only [List.getElem?_cons_zero, Option.some.injEq] at h1 h2
    subst h1 h2
    rfl
  | x :: ds, y :: es, i + 1, h1, h2 => by
    have k1 : ds[i]? = some d := h1
    have k2 : es[i]? = some e := h2
    have q := zipD_get ds es i k1 k2
    rw [← q]
    rfl
theorem zipD_len : ∀ {ds es : List Dat}, (zipD ds es).length = min ds.length es.length
  | [], _ => by simp [zipD]
  | _ :: _, [] => by simp [zipD]
  | x :: ds, y :: es => by
    show (zipD ds es).length + 1 = _
    rw [zipD_len, List.length_cons, List.length_cons]
    omega
theorem it_zipL (h : Src K (SqL K) H0 a ds gd) (h' : Src K (SqL K) H0 b es ge) : ItOk K H0 (Itz K a b) (zipD ds es) (gd ++ ge) := by
  refine ⟨fun i H G s rg gk hi => ?_, fun i H G s rg gk hi => ?_, fun i H G x H' s rg gk hi hy => ?_⟩
  all_goals rw [zipD_len] at hi
  all_goals obtain ⟨gk1, gk2⟩ := gdOk_app.mp gk
  all_goals obtain ⟨xs, h1, h2⟩ := h H G s rg gk1
  all_goals obtain ⟨ys, k1, k2⟩ := h' H G s rg gk2
  · obtain ⟨v, d, h3, _⟩ := h2.lt (i := i) (by omega)
    obtain ⟨u, e, k3, _⟩ := k2.lt (i := i) (by omega)
    exact ⟨xs, ys, v, u, h1, k1, h3, k3⟩
  · exact ⟨xs, ys, h1, k1, by rw [h2.length, k2.length]; omega⟩
  · obtain ⟨v, d, h3, h4, h5⟩ := h2.lt (i := i) (by omega)
    obtain ⟨u, e, k3, k4, k5⟩ := k2.lt (i := i) (by omega)
    obtain ⟨t, y, z, rfl, hn, rfl, h6, k6⟩ := hy
    have e1 := h6 xs h1
    have e2 := k6 ys k1
    rw [h3] at e1
    rw [k3] at e2
    cases e1
    cases e2
    exact ⟨.tup [d, e], zipD_get _ _ _ h4 k4, .newT hn, rg.newT hn, .tup (.inl upd_same) (.cons (h5.mono (.new hn)) (.one (k5.mono (.new hn))))⟩
theorem it_zipT (h : Src K (SqT K) H0 a ds gd) (h' : Src K (SqT K) H0 b es ge) : ItOk K H0 (RZ.ItzT K a b) (zipD ds es) (gd ++ ge) := by
  refine ⟨fun i H G s rg gk hi => ?_, fun i H G s rg gk hi => ?_, fun i H G x H' s rg gk hi hy => ?_⟩
  all_goals rw [zipD_len] at hi
  all_goals obtain ⟨gk1, gk2⟩ := gdOk_app.mp gk
  all_goals obtain ⟨xs, h1, h2⟩ := h H G s rg gk1
  all_goals obtain ⟨ys, k1, k2⟩ := h' H G s rg gk2
  · obtain ⟨v, d, h3, _⟩ := h2.lt (i := i) (by omega)
    obtain ⟨u, e, k3, _⟩ := k2.lt (i := i) (by omega)
    exact ⟨xs, ys, v, u, h1, k1, h3, k3⟩
  · exact ⟨xs, ys, h1, k1, by rw [h2.length, k2.length]; omega⟩
  · obtain ⟨v, d, h3, h4, h5⟩ := h2.lt (i := i) (by omega)
    obtain ⟨u, e, k3, k4, k5⟩ := k2.lt (i := i) (by omega)
    obtain ⟨t, y, z, rfl, hn, rfl, h6, k6⟩ := hy
    have e1 := h6 xs h1
    have e2 := k6 ys k1
    rw [h3] at e1
    rw [k3] at e2
    cases e1
    cases e2
    exact ⟨.tup [d, e], zipD_get _ _ _ h4 k4, .newT hn, rg.newT hn, .tup (.inl upd_same) (.cons (h5.mono (.new hn)) (.one (k5.mono (.new hn))))⟩
end
/-- an iterable, lifted -/
def LfI (K : PySem.W.Frag) (W : WX) (w : Env' → AG → (List Dat → Gd → AG → Prop) → AX → Prop) : TI := fun σ H R =>
  ∃ ρ G Qa Ea, RelE K H ρ σ ∧ RelG K G H ∧ w ρ G Qa Ea ∧ (∀ ds gd G' J H', Fra G H G' H' → RelG K G' H' → gdOk G' gd → ItOk K H' J ds gd → Qa ds gd G' → R J H') ∧ PostX K G H Ea fun c dx H' => W c dx σ H'
section
variable {X : Cx} {W : WX} {tg a b : Expr} {pos p tpos : Pos} {w1 w2 : Env' → AG → AQ → AX → Prop}
/-- a list or a tuple, walked -/
def iAny (K : PySem.W.Frag) (te : TE) : TI := fun σ H R => te σ H fun x H1 => ∃ a, x = .ref a ∧ ((∃ xs, SqL K H1 a xs) ∧ R (Itl K a) H1 ∨ (∃ xs, SqT K H1 a xs) ∧ R (Itt K a) H1)
theorem pi_any {te : TE} (h : PE X a te) : PI X tg a (iAny X.K te) := by
  refine ⟨fun pins s σ H R I hw => thn (h.run pins s σ H _ I hw) fun u s1 hq => ?_⟩
  obtain ⟨x, H1, I1, r1, l, rfl, q⟩ := hq
  cases r1
  have fin : ∀ {o : Obj}, ∀ b ∈ [s1.heap.objs.size], FpOk X pins H1 b := fun c hc => by
    cases List.mem_singleton.mp hc
    exact I1.fpOk (Nat.le_refl _) (I1.hok.fresh (Nat.le_refl _))
  rcases q with ⟨⟨xs, hx⟩, q⟩ | ⟨⟨xs, hx⟩, q⟩
  · obtain ⟨its, rv, hp, _⟩ := I1.list hx
    exact wpAny_pyIter_list hp.isList ⟨_, [s1.heap.objs.size], _, _, H1, rfl, I1.kept (t' := s1.toks) fun _ _ z => Heap.get?_push_of_some _ z, turn_list l _, ⟨_, Heap.get?_push_size _ rfl, rfl, rfl⟩, fin (o := default), q⟩
  · obtain ⟨its, rv, hp, _⟩ := I1.tuple hx
    exact wpAny_pyIter_tuple (show s1.heap.IsTuple l its.toArray from hp) ⟨_, [s1.heap.objs.size], _, _, H1, rfl, I1.kept (t' := s1.toks) fun _ _ z => Heap.get?_push_of_some _ z, turn_tuple l _, ⟨_, Heap.get?_push_size _ rfl, rfl, rfl⟩, fin (o := default), q⟩
theorem si_seq (h : PE X a (LfE X.K W w1)) : PI X tg a (LfI X.K W fun ρ G Q E => w1 ρ G (fun x G1 => seqG x G1 Q) E) := by
  refine PI.imp (pi_any h) ?_
  rintro σ H R ⟨ρ, G, Qa, Ea, hE, hG, hw, hp, hx⟩
  refine ⟨ρ, G, _, Ea, hE, hG, hw, fun d G1 v H1 f g r q => ?_, hx⟩
  obtain ⟨l, ds, gd, rfl, h1, h2, h3⟩ := seqG_src r q
  refine ⟨l, rfl, ?_⟩
  rcases h3 with h3 | h3
  · obtain ⟨xs, h4, _⟩ := h3 H1 G1 (.refl _) g h2
    exact .inl ⟨⟨xs, h4⟩, hp _ _ _ _ _ f g h2 (it_list h3) h1⟩
  · obtain ⟨xs, h4, _⟩ := h3 H1 G1 (.refl _) g h2
    exact .inr ⟨⟨xs, h4⟩, hp _ _ _ _ _ f g h2 (it_tup h3) h1⟩
theorem arg1 (h : PE X a (LfE X.K W w1)) (hs : starEach [a] X.env = [(false, eval a X.env)]) : PA X [a] (LfA X.K W fun ρ G Q E => w1 ρ G (fun d G1 => Q [d] G1) E) := sa_cons (es := []) hs h sa_nil
theorem arg2 (h : PE X a (LfE X.K W w1)) (h2 : PE X b (LfE X.K W w2)) (hs : starEach [a, b] X.env = (false, eval a X.env) :: starEach [b] X.env) (hs2 : starEach [b] X.env = [(false, eval b X.env)]) :
    PA X [a, b] (LfA X.K W fun ρ G Q E => w1 ρ G (fun d G1 => w2 ρ G1 (fun e G2 => Q [d, e] G2) E) E) := sa_cons (es := [b]) hs h (arg1 h2 hs2)
theorem si_rng1 (hg : Gl X "range") (hm : X.mg "range" = none) (h : PE X a (LfE X.K W w1)) (hs : starEach [a] X.env = [(false, eval a X.env)]) :
    PI X tg (.Call (.Name "range" p) [a] [] pos) (LfI X.K W fun ρ G Q E => w1 ρ G (intK fun n G1 => -(2 ^ 62) ≤ n ∧ n < 2 ^ 62 ∧ Q (rngD 0 n.toNat) [] G1) E) := by
  refine PI.imp (pi_range1 hg hm (arg1 h hs) hs) ?_
  rintro σ H R ⟨ρ, G, Qa, Ea, hE, hG, hw, hp, hx⟩
  refine ⟨ρ, G, fun ds G1 => match ds with | [d] => intK (fun n G1 => -(2 ^ 62) ≤ n ∧ n < 2 ^ 62 ∧ Qa (rngD 0 n.toNat) [] G1) d G1 | _ => False, Ea, hE, hG, hw, ?_, hx⟩
  intro ds G1 v H1 f g r q
  match ds, q with
  | [d], q =>
    obtain ⟨i, rfl, h1, h2, h3⟩ := intK_inv q
    obtain ⟨x, rfl, rx⟩ := reps1 r
    cases rep_i rx
    exact ⟨i, rfl, h1, h2, hp _ [] _ _ _ f g trivial it_rng h3⟩
theorem si_rng2 (hg : Gl X "range") (hm : X.mg "range" = none) (h : PE X a (LfE X.K W w1)) (h2 : PE X b (LfE X.K W w2)) (hs : starEach [a, b] X.env = [(false, eval a X.env), (false, eval b X.env)]) (hs2 : starEach [b] X.env = [(false, eval b X.env)]) :
    PI X tg (.Call (.Name "range" p) [a, b] [] pos) (LfI X.K W fun ρ G Q E => w1 ρ G (intK fun m G1 => w2 ρ G1 (intK fun n G2 => (-(2 ^ 62) ≤ m ∧ m < 2 ^ 62 ∧ -(2 ^ 62) ≤ n ∧ n < 2 ^ 62) ∧ Q (rngD m (n - m).toNat) [] G2) E) E) := by
  refine ⟨fun pins s σ H R I ⟨ρ, G, Qa, Ea, hE, hG, hw, hp, hx⟩ => ?_⟩
  refine (pi_range2 (tg := tg) hg hm (pa_cons h (pa_cons h2 pa_nil hs2) (by rw [hs, hs2])) hs hs2).run pins s σ H R I ?_
  refine ⟨ρ, G, _, Ea, hE, hG, hw, fun d G1 v H1 f g r q => ?_, hx⟩
  obtain ⟨i, rfl, q⟩ := intK_inv q
  cases rep_i r
  refine ⟨ρ, G1, _, Ea, hE.mono (f.stab hG), g, q, fun e G2 u H2 f2 g2 r2 q2 => ?_, hx.fra f⟩
  obtain ⟨j, rfl, q1, q3⟩ := intK_inv q2
  cases rep_i r2
  exact ⟨i, j, rfl, q1, hp _ [] _ _ _ (f.trans f2) g2 trivial it_rng q3⟩
theorem si_enum {elts : List Expr} {kk : Nat} (hg : Gl X "enumerate") (hm : X.mg "enumerate" = none) (h : PE X a (LfE X.K W w1)) (hs : starEach [a] X.env = [(false, eval a X.env)]) :
    PI X (.Tuple elts kk tpos) (.Call (.Name "enumerate" p) [a] [] pos) (LfI X.K W fun ρ G Q E => w1 ρ G (fun x G1 => lstG x G1 fun xs gx G2 => Q (enumD 0 xs) gx G2) E) := by
  refine PI.imp (pi_enum hg hm (pa_cons h pa_nil hs) hs) ?_
  rintro σ H R ⟨ρ, G, Qa, Ea, hE, hG, hw, hp, hx⟩
  refine ⟨ρ, G, _, Ea, hE, hG, hw, fun d G1 v H1 f g r q => ?_, hx⟩
  obtain ⟨l, ds, gd, rfl, h1, h2, h3⟩ := lstG_src r q
  obtain ⟨xs, h4, _⟩ := h3 H1 G1 (.refl _) g h2
  exact ⟨l, xs, rfl, h4, hp _ _ _ _ _ f g h2 (it_enum h3) h1⟩
theorem zipG_src {K : PySem.W.Frag} {H : Hp} {G : AG} {v u : V} {x y : Dat} {Q : List Dat → Gd → AG → Prop} (r : Rep K H v x) (r2 : Rep K H u y) (h : zipG x y G Q) :
    ∃ a b ds es gd ge, v = .ref a ∧ u = .ref b ∧ Q (zipD ds es) (gd ++ ge) G ∧ gdOk G (gd ++ ge) ∧ ((Src K (SqL K) H a ds gd ∧ Src K (SqL K) H b es ge) ∨ (Src K (SqT K) H a ds gd ∧ Src K (SqT K) H b es ge)) := by
  have no : (lstG x G fun xs gx G1 => lstG y G1 fun ys gy G2 => Q (zipD xs ys) (gx ++ gy) G2) → ∃ a b ds es gd ge, v = .ref a ∧ u = .ref b ∧ Q (zipD ds es) (gd ++ ge) G ∧ gdOk G (gd ++ ge) ∧ ((Src K (SqL K) H a ds gd ∧ Src K (SqL K) H b es ge) ∨ (Src K (SqT K) H a ds gd ∧ Src K (SqT K) H b es ge)) := fun hq => by
    obtain ⟨a, ds, gd, rfl, h1, h2, h3⟩ := lstG_src r hq
    obtain ⟨b, es, ge, rfl, k1, k2, k3⟩ := lstG_src r2 h1
    exact ⟨a, b, ds, es, gd, ge, rfl, rfl, k1, gdOk_app.mpr ⟨h2, k2⟩, .inl ⟨h3, k3⟩⟩
  cases x with
  | tup ds =>
    cases y with
    | tup es =>
      obtain ⟨a, vs, rfl, h1, q⟩ := rep_t r
      obtain ⟨b, us, rfl, h2, q2⟩ := rep_t r2
      exact ⟨a, b, ds, es, [], [], rfl, rfl, h, trivial, .inr ⟨fun H' G' s _ _ => ⟨_, (h1.mono s).sq, q.mono s⟩, fun H' G' s _ _ => ⟨_, (h2.mono s).sq, q2.mono s⟩⟩⟩
    | _ => exact no h
  | _ => exact no h
theorem si_zip {elts : List Expr} {kk : Nat} (hg : Gl X "zip") (hm : X.mg "zip" = none) (h : PE X a (LfE X.K W w1)) (h2 : PE X b (LfE X.K W w2)) (hs : starEach [a, b] X.env = (false, eval a X.env) :: starEach [b] X.env) (hs2 : starEach [b] X.env = [(false, eval b X.env)]) :
    PI X (.Tuple elts kk tpos) (.Call (.Name "zip" p) [a, b] [] pos) (LfI X.K W fun ρ G Q E => w1 ρ G (fun x G1 => w2 ρ G1 (fun y G2 => zipG x y G2 Q) E) E) := by
  refine PI.imp (RZ.pi_zipA hg hm (pa_cons h (pa_cons h2 pa_nil hs2) hs) hs (by rw [hs2]; rfl)) ?_
  rintro σ H R ⟨ρ, G, Qa, Ea, hE, hG, hw, hp, hx⟩
  refine ⟨ρ, G, _, Ea, hE, hG, hw, fun d G1 v H1 f g r q => ⟨ρ, G1, _, Ea, hE.mono (f.stab hG), g, q, fun e G2 u H2 f2 g2 r2 q2 => ?_, hx.fra f⟩, hx⟩
  obtain ⟨l, m, ds, es, gd, ge, rfl, rfl, h1, h3, h4⟩ := zipG_src (r.mono (f2.stab g)) r2 q2
  obtain ⟨k1, k2⟩ := gdOk_app.mp h3
  rcases h4 with ⟨h4, h5⟩ | ⟨h4, h5⟩
  · obtain ⟨xs, x1, _⟩ := h4 H2 G2 (.refl _) g2 k1
    obtain ⟨ys, y1, _⟩ := h5 H2 G2 (.refl _) g2 k2
    exact ⟨l, m, xs, ys, rfl, .inl ⟨x1, y1, hp _ _ _ _ _ (f.trans f2) g2 h3 (it_zipL h4 h5) h1⟩⟩
  · obtain ⟨xs, x1, _⟩ := h4 H2 G2 (.refl _) g2 k1
    obtain ⟨ys, y1, _⟩ := h5 H2 G2 (.refl _) g2 k2
    exact ⟨l, m, xs, ys, rfl, .inr ⟨x1, y1, hp _ _ _ _ _ (f.trans f2) g2 h3 (it_zipT h4 h5) h1⟩⟩

/-! ### targets -/
def tgIx : TGt → List Nat
  | .nm i => [i]
  | .tp is => is
/-- a target, lifted -/
def LfG (K : PySem.W.Frag) (g : TGt) : TG := fun v σ H Q => ∃ ρ G d k, RelE K H ρ σ ∧ RelG K G H ∧ Rep K H v d ∧ tgW g d ρ k ∧ ∀ ρ' σ', RelE K H ρ' σ' → (∀ vs : List Nat, (∀ i ∈ tgIx g, i ∈ vs) → L2.wipe σ' vs = L2.wipe σ vs) → k ρ' → Q σ' H
theorem wipe_get {σ : L2.St} {j : Nat} : ∀ vs : List Nat, (L2.wipe σ vs)[j]? = if j ∈ vs then (σ[j]?).map (fun _ => none) else σ[j]?
  | [] => by simp [L2.wipe]
  | v :: vs => by
    have ih := wipe_get (σ := σ) (j := j) vs
    show ((L2.wipe σ vs).set v none)[j]? = _
    by_cases hj : v = j
    · subst hj
      rw [List.getElem?_set_self', ih]
      by_cases hm : v ∈ vs
      · rw [if_pos hm, if_pos (List.mem_cons_self ..)]
        cases σ[v]? <;> rfl
      · rw [if_neg hm, if_pos (List.mem_cons_self ..)]
        rfl
    · rw [List.getElem?_set_ne hj, ih]
      by_cases hm : j ∈ vs
      · rw [if_pos hm, if_pos (List.mem_cons_of_mem _ hm)]
      · rw [if_neg hm, if_neg (fun z => by rcases List.mem_cons.mp z with z | z; exact hj z.symm; exact hm z)]
theorem wipe_set {σ : L2.St} {i : Nat} {x : Option V} {vs : List Nat} (h : i ∈ vs) : L2.wipe (σ.set i x) vs = L2.wipe σ vs := by
  refine List.ext_getElem? fun j => ?_
  rw [wipe_get, wipe_get]
  by_cases hj : i = j
  · subst hj
    rw [if_pos h, if_pos h, List.getElem?_set_self']
    cases σ[i]? <;> rfl
  · rw [List.getElem?_set_ne hj]
theorem sg_nm {i : Nat} {x : Str} (hN : X.N.Nodup) (hi : X.N[i]? = some x) (hx : Loc X.env.scope x) (hf : X.fn x = true ∨ X.env.scope.names.lookup x = some .local) : PG X (.Name x pos) (LfG X.K (.nm i)) := by
  refine ⟨fun pins s σ H v u Q I r ⟨ρ, G, d, k, hE, hG, rv, hk, hq⟩ => ?_⟩
  exact (pg_name hN hi hx hf).run pins s σ H v u Q I r (hq _ _ (hE.set rv) (fun vs hv => wipe_set (hv i (List.mem_singleton.mpr rfl))) hk)
def gAll : List Nat → TGs
  | [] => gNil
  | i :: is => gCons (gName i) (gAll is)
/-- names of the frame, at their places -/
def nmsOk (X : Cx) : List Expr → List Nat → Prop
  | [], [] => True
  | .Name x _ :: ts, i :: is => (X.N[i]? = some x ∧ Loc X.env.scope x ∧ (X.fn x = true ∨ X.env.scope.names.lookup x = some .local)) ∧ nmsOk X ts is
  | _, _ => False
theorem nmsOk_each (X : Cx) : ∀ {ts : List Expr} {is : List Nat}, nmsOk X ts is → X.N.Nodup → (assignEach ts X.env).length = is.length ∧ (assignEach ts X.env).findIdx? (·.1) = none ∧ PGs X ts (gAll is)
  | [], [], _, _ => ⟨rfl, rfl, pgs_nil⟩
  | .Name x q :: ts, i :: is, h, hN => by
    obtain ⟨h1, h2, h3⟩ := nmsOk_each X h.2 hN
    refine ⟨congrArg (· + 1) h1, ?_, pgs_cons (pg_name hN h.1.1 h.1.2.1 h.1.2.2) h3⟩
    show List.findIdx? (·.1) ((false, assign (.Name x q) X.env) :: assignEach ts X.env) = none
    rw [List.findIdx?_cons, h2]
    rfl
theorem gAll_set {K : PySem.W.Frag} {H : Hp} {Q : L2.St → Hp → Prop} : ∀ {is : List Nat} {vs : List V} {ds : List Dat} {ρ : Env'} {σ : L2.St}, RelE K H ρ σ → Reps K H vs ds → ds.length = is.length →
    (∀ σ', RelE K H (setAll is ds ρ) σ' → (∀ ws : List Nat, (∀ i ∈ is, i ∈ ws) → L2.wipe σ' ws = L2.wipe σ ws) → Q σ' H) → gAll is vs σ H Q
  | [], _, _, ρ, σ, hE, .nil, _, h => ⟨rfl, h σ hE fun _ _ => rfl⟩
  | i :: is, _, _, ρ, σ, hE, .cons a r, hl, h => ⟨_, _, rfl, gAll_set (hE.set a) r (by simpa using hl) fun σ' h1 h2 => h σ' h1 fun ws hw => by
      rw [h2 ws fun j hj => hw j (List.mem_cons_of_mem _ hj), wipe_set (hw i (List.mem_cons_self ..))]⟩
theorem sg_tp {ts : List Expr} {is : List Nat} {kk : Nat} (hc : X.calm = true) (hN : X.N.Nodup) (h : nmsOk X ts is) : PG X (.Tuple ts kk pos) (LfG X.K (.tp is)) := by
  obtain ⟨h1, h2, h3⟩ := nmsOk_each X h hN
  refine ⟨fun pins s σ H v u Q I r ⟨ρ, G, d, k, hE, hG, rv, hk, hq⟩ => ?_⟩
  refine (pg_tup hc h3 h1 h2).run pins s σ H v u Q I r ?_
  cases d with
  | tup ds =>
    obtain ⟨a, vs, rfl, k1, k2⟩ := rep_t rv
    obtain ⟨k3, k4⟩ := hk
    exact ⟨a, vs, rfl, k1.sq, by rw [k2.length, k3], gAll_set hE k2 k3 fun σ' e1 e2 => hq _ σ' e1 e2 k4⟩
  | _ => exact False.elim hk
end
end Av


set_option Elab.async false
set_option linter.all false
set_option maxRecDepth 100000
set_option maxHeartbeats 4000000
/-! # Av7: comprehensions -/
namespace Av
open PySem PySem.Spec PyProof.Rows L2
section
variable {K : PySem.W.Frag} {G G1 : AG} {H H1 : Hp} {D : Addr}
theorem RelG.updU {xs ys : List V} (g : RelG K G H) (n : G D = none) (h : H D = some (.lst xs)) : RelG K G (upd H D (.lst ys)) := fun a w q => by
  have d : a ≠ D := fun z => by rw [z, n] at q; cases q
  exact (g a w q).mono (.lst h) (upd_ne d)
theorem Fra.updU {xs ys : List V} (f : Fra G1 H1 G H) (e : H1 D = none) (h : H D = some (.lst xs)) : Fra G1 H1 G (upd H D (.lst ys)) := fun a o q n => by
  have d : a ≠ D := fun z => by rw [z, e] at q; cases q
  obtain ⟨h1, h2⟩ := f a o q n
  exact ⟨by rw [upd_ne d]; exact h1, h2⟩
end
theorem wipe_wipe {σ : L2.St} {vs : List Nat} : L2.wipe (L2.wipe σ vs) vs = L2.wipe σ vs := by
  refine List.ext_getElem? fun j => ?_
  rw [wipe_get, wipe_get]
  by_cases h : j ∈ vs
  · rw [if_pos h, if_pos h]
    cases σ[j]? <;> rfl
  · rw [if_neg h]
abbrev WF : WX := fun _ _ _ _ => False
theorem takesF {X : Cx} : Takes X WF := fun _ _ ⟨_, _, _, _, _, _, _, _, _, _, _, _, _, _, _, _, w⟩ => False.elim w
theorem postX_no {K : PySem.W.Frag} {G : AG} {H : Hp} {W : XK} : PostX K G H noX W := fun _ _ _ _ _ _ _ _ z => False.elim z
theorem Oc.blk {X : Cx} {W : WX} {Γ : Gam} {k : Nat} (oc : Oc X W Γ k) (s : Shared) (H : Hp) (scope : Scope) (env : Env) (fp : List Addr) : Oc (X.blk s H scope env fp) WF Γ k :=
  ⟨oc.room, oc.nd, oc.calm, takesF, oc.tb⟩
abbrev WfE := Env' → AG → AQ → AX → Prop
abbrev WfT := Env' → AG → (Bool → AG → Prop) → AX → Prop
abbrev WfI := Env' → AG → (List Dat → Gd → AG → Prop) → AX → Prop
/-- a comprehension's transformer from its parts -/
def lcG (z : Bool) (wi : WfI) (wt : WfT) (we : WfE) (g : TGt) (own : List Nat) : WfE := fun ρ G Q E => wi ρ G (fun ds gd G1 => lcIfW z (fun ρ1 G Q => wt ρ1 G Q noX) (fun ρ1 G Q => we ρ1 G Q noX) g own gd ρ Q ds [] G1) E
theorem lcW_if {z : Bool} {elt : Env' → AG → AQ → Prop} {g : TGt} {own : List Nat} {gd : Gd} {ρ : Env'} {Q : AQ} : ∀ (ds acc : List Dat) (G : AG), lcIfW z (fun _ G Q => Q true G) elt g own gd ρ Q ds acc G = lcW z elt g own gd ρ Q ds acc G
  | [], _, _ => rfl
  | d :: ds, acc, G => by
    simp only [lcIfW, lcW, if_true]
    have ih := fun acc G => lcW_if (z := z) (elt := elt) (g := g) (own := own) (gd := gd) (ρ := ρ) (Q := Q) ds acc G
    simp only [ih]
section
variable {X : Cx} {W : WX} {Γ : Gam} {k : Nat} {own : List (Str × Nat)} {g : TGt} {wi : WfI} {wt : WfT} {we : WfE} {tt : TT}
theorem lc_imp {z : Bool} (hix : ∀ i ∈ tgIx g, i ∈ own.map (·.2)) (σ : L2.St) (H : Hp) (Q Q' : VK) (hq : ∀ v H, Qz Q v H → Q' v H)
    (htt : ∀ (σ : L2.St) (H : Hp) (Q : Bool → Hp → Prop) ρ G Qa, RelE X.K H ρ σ → RelG X.K G H → wt ρ G Qa noX → (∀ b G' H', Fra G H G' H' → RelG X.K G' H' → Qa b G' → Q b H') → tt σ H Q)
    (h : LfE X.K W (lcG z wi wt we g (own.map (·.2))) σ H Q) : tLc (LfI X.K W wi) (LfG X.K g) tt (LfE X.K WF we) (own.map (·.2)) σ H Q' := by
  obtain ⟨ρ, G, Qa, Ea, hE, hG, hw, hp, hx⟩ := h
  refine ⟨ρ, G, _, Ea, hE, hG, hw, fun ds gd G1 J H1 f1 g1 gk1 it q1 D hD => ?_, hx⟩
  have nD1 : G1 D = none := g1.free hD
  refine ⟨fun i m H2 => m = ds.length - i ∧ i ≤ ds.length ∧ ∃ G2 acc accV, RelG X.K G2 H2 ∧ G2 D = none ∧ H2 D = some (.lst accV) ∧ Reps X.K H2 accV acc ∧ Fra G1 H1 G2 H2 ∧ lcIfW z (fun ρ1 G Q => wt ρ1 G Q noX) (fun ρ1 G Q => we ρ1 G Q noX) g (own.map (·.2)) gd ρ Qa (ds.drop i) acc G2,
    ⟨ds.length, by simp, Nat.zero_le _, G1, [], [], g1.newT hD, nD1, upd_same, .nil, .newT hD, q1⟩, ?_⟩
  rintro i m H2 ⟨rfl, hi, G2, acc, accV, g2, n2, h2, r2, f2, w2⟩
  have st2 : Stab H1 H2 := f2.stab g1
  by_cases hlt : i < ds.length
  · rw [List.drop_eq_getElem_cons hlt] at w2
    obtain ⟨gk, w2⟩ := w2
    refine .inr ⟨it.go i H2 G2 st2 g2 gk hlt, fun H' => ∃ G3 acc accV, RelG X.K G3 H' ∧ G3 D = none ∧ H' D = some (.lst accV) ∧ Reps X.K H' accV acc ∧ Fra G1 H1 G3 H' ∧ lcIfW z (fun ρ1 G Q => wt ρ1 G Q noX) (fun ρ1 G Q => we ρ1 G Q noX) g (own.map (·.2)) gd ρ Qa (ds.drop (i + 1)) acc G3,
      fun H' q => ⟨ds.length - (i + 1), by omega, rfl, hlt, q⟩, fun x H3 hy => ?_⟩
    obtain ⟨d, hd, f3, g3, rx⟩ := it.yld i H2 G2 x H3 st2 g2 gk hlt hy
    rw [List.getElem?_eq_getElem hlt] at hd
    cases hd
    have f13 := f2.trans f3
    refine ⟨wipeD ρ (own.map (·.2)), G2, _, _, (hE.mono ((f1.trans f13).stab hG)).wipe _, g3, rx, w2, fun ρ1 σ1 e1 hwp w3 => ⟨(hwp _ hix).trans wipe_wipe, ?_⟩⟩
    obtain ⟨h3, n3⟩ := f3 D _ h2 n2
    have r3 := r2.mono (f3.stab g2)
    refine htt σ1 H3 _ ρ1 G2 _ e1 g3 w3 fun b G4 H4 f4 g4 w4 => ?_
    obtain ⟨h4, n4⟩ := f4 D _ h3 n3
    cases b with
    | false =>
      rw [if_neg (by simp)] at w4 ⊢
      exact ⟨G4, acc, accV, g4, n4, h4, r3.mono (f4.stab g3), f13.trans f4, w4⟩
    | true =>
      rw [if_pos rfl] at w4 ⊢
      refine ⟨ρ1, G4, _, noX, e1.mono (f4.stab g3), g4, w4, fun y G5 v H5 f5 g5 r5 w5 => ?_, postX_no⟩
      obtain ⟨h5, n5⟩ := f5 D _ h4 n4
      have r4 := (r3.mono (f4.stab g3)).mono (f5.stab g4)
      refine ⟨accV, h5, by rw [r4.length]; exact w5.1, G5, acc ++ [y], accV ++ [v], g5.updU n5 h5, n5, upd_same, (r4.append (.one r5)).mono (.lst h5), ((f13.trans f4).trans f5).updU hD h5, w5.2⟩
  · have e : i = ds.length := by omega
    subst e
    rw [List.drop_length] at w2
    obtain ⟨gk, w2⟩ := w2
    refine .inl ⟨it.stop _ H2 G2 st2 g2 gk (Nat.le_refl _), ?_⟩
    have f12 := f1.trans f2
    cases z with
    | true =>
      rw [if_pos rfl] at w2
      refine hq _ _ (.inr ⟨D, accV, rfl, h2, fun o => hp (.lst acc) G2 (.ref D) _ (fun a u q n => ?_) (fun a u q => ?_) (.lst ⟨o, upd_same⟩ (r2.mono (.lst h2))) w2⟩)
      · obtain ⟨h6, n6⟩ := f1 a u q n
        obtain ⟨h7, n7⟩ := f2 a u h6 n6
        have d : a ≠ D := fun z => by rw [z, hD] at h6; cases h6
        exact ⟨by rw [upd_ne d]; exact h7, n7⟩
      · have d : a ≠ D := fun z => by rw [z, n2] at q; cases q
        exact (g2 a u q).mono (.lst h2) (upd_ne d)
    | false =>
    rw [if_neg (by simp)] at w2
    refine hq _ _ (.inl (hp (.ref D) (gu G2 D (.lst acc)) (.ref D) H2 (fun a o q n => ?_) (fun a o q => ?_) (.ref D) (w2 D n2)))
    · obtain ⟨h6, n6⟩ := f1 a o q n
      obtain ⟨h7, n7⟩ := f2 a o h6 n6
      have d : a ≠ D := fun z => by rw [z, hD] at h6; cases h6
      exact ⟨h7, by rw [gu_ne d]; exact n7⟩
    · by_cases ha : a = D
      · subst ha
        rw [gu_same] at q
        cases q
        exact ⟨accV, h2, r2⟩
      · rw [gu_ne ha] at q
        exact g2 a o q
theorem yes_imp (K : PySem.W.Frag) (σ : L2.St) (H : Hp) (Q : Bool → Hp → Prop) (ρ : Env') (G : AG) (Qa : Bool → AG → Prop) (hE : RelE K H ρ σ) (hG : RelG K G H) (hw : Qa true G) (hp : ∀ b G' H', Fra G H G' H' → RelG K G' H' → Qa b G' → Q b H') : tYes σ H Q := hp true G H .refl hG hw
theorem tst_imp (K : PySem.W.Frag) (σ : L2.St) (H : Hp) (Q : Bool → Hp → Prop) (ρ : Env') (G : AG) (Qa : Bool → AG → Prop) (hE : RelE K H ρ σ) (hG : RelG K G H) (hw : wt ρ G Qa noX) (hp : ∀ b G' H', Fra G H G' H' → RelG K G' H' → Qa b G' → Q b H') : LfT K WF wt σ H Q :=
  ⟨ρ, G, Qa, noX, hE, hG, hw, fun d G' v H' f g r q => by cases r; exact hp d G' H' f g q, postX_no⟩
variable {elt tg iter : Expr} {ifs : List Expr} {scope : Scope} {pos : Pos}
theorem se_lcG {z : Bool} (oc : Oc X W Γ k) (hi : PI X tg iter (LfI X.K W wi)) (ok : BlkOk X.N X.env.scope scope own) (hix : ∀ i ∈ tgIx g, i ∈ own.map (·.2))
    (hg : ∀ (s : Shared) (H : Hp) (C : Addr) (cl : List (Str × Addr)) (fp : List Addr), PG (X.blk s H scope (compEnvC scope cl C X.env) fp) tg (LfG X.K g))
    (ht : ∀ (s : Shared) (H : Hp) (C : Addr) (cl : List (Str × Addr)) (fp : List Addr), PTs (X.blk s H scope (compEnvC scope cl C X.env) fp) ifs tt)
    (he : ∀ (s : Shared) (H : Hp) (C : Addr) (cl : List (Str × Addr)) (fp : List Addr), PE (X.blk s H scope (compEnvC scope cl C X.env) fp) elt (LfE X.K WF we)) (hs : ∀ x, foldedSetIterable iter X.env x = pure x)
    (htt : ∀ (σ : L2.St) (H : Hp) (Q : Bool → Hp → Prop) ρ G Qa, RelE X.K H ρ σ → RelG X.K G H → wt ρ G Qa noX → (∀ b G' H', Fra G H G' H' → RelG X.K G' H' → Qa b G' → Q b H') → tt σ H Q) :
    PE X (.ListComp elt [⟨tg, iter, ifs, 0⟩] scope pos) (LfE X.K W (lcG z wi wt we g (own.map (·.2)))) :=
  PE.imp (pe_z (pe_lc oc.calm oc.nd hi ok hg ht he hs)) fun σ H Q h => lc_imp hix σ H Q _ (fun _ _ z => z) htt h
end
end Av


set_option Elab.async false
set_option linter.all false
set_option maxRecDepth 100000
set_option maxHeartbeats 4000000
/-! # Av8: statements -/
namespace Av
open PySem PySem.Spec PyProof.Rows L2

/-- the told ends and the tracked ones -/
structure Ln (K : PySem.W.Frag) (W : WX) (G : AG) (H : Hp) (A : AEnds) (D : Ends) : Prop where
  nx : ∀ ρ' G' σ' H', Fra G H G' H' → RelE K H' ρ' σ' → RelG K G' H' → A.nx ρ' G' → D.nx σ' H'
  rt : PostE K G H A.rt D.rt
  bk : ∀ ρ' G' σ' H', Fra G H G' H' → RelE K H' ρ' σ' → RelG K G' H' → A.bk ρ' G' → D.bk σ' H'
  ct : ∀ ρ' G' σ' H', Fra G H G' H' → RelE K H' ρ' σ' → RelG K G' H' → A.ct ρ' G' → D.ct σ' H'
  ex : ∀ ρ' G' σ' H', Fra G H G' H' → RelE K H' ρ' σ' → PostX K G' H' (A.ex ρ') fun c dx H'' => W c dx σ' H''
section
variable {K : PySem.W.Frag} {W : WX} {G G1 : AG} {H H1 : Hp} {A : AEnds} {D : Ends}
theorem Ln.fra (l : Ln K W G H A D) (f : Fra G H G1 H1) : Ln K W G1 H1 A D :=
  ⟨fun a b c d f2 => l.nx a b c d (f.trans f2), l.rt.fra f, fun a b c d f2 => l.bk a b c d (f.trans f2), fun a b c d f2 => l.ct a b c d (f.trans f2), fun a b c d f2 => l.ex a b c d (f.trans f2)⟩
theorem Ln.x (l : Ln K W G H A D) {ρ : Env'} {σ : L2.St} (h : RelE K H ρ σ) : PostX K G H (A.ex ρ) fun c dx H'' => W c dx σ H'' := l.ex ρ G σ H .refl h
theorem Ln.with (l : Ln K W G H A D) (n : Env' → AG → Prop) (n' : L2.St → Hp → Prop) (h : ∀ ρ' G' σ' H', Fra G H G' H' → RelE K H' ρ' σ' → RelG K G' H' → n ρ' G' → n' σ' H') : Ln K W G H { A with nx := n } { D with nx := n' } := ⟨h, l.rt, l.bk, l.ct, l.ex⟩
end
abbrev WfS := Env' → AG → AEnds → Prop
def LfS (K : PySem.W.Frag) (W : WX) (w : WfS) : TS := fun D σ H => ∃ ρ G A, RelE K H ρ σ ∧ RelG K G H ∧ w ρ G A ∧ Ln K W G H A D
section
variable {X : Cx} {W : WX} {e e1 e2 : Expr} {st : Stmt} {pos : Pos} {we w1 w2 w3 : WfE} {wt : WfT} {wi : WfI} {ws wr : WfS} {a b : List Stmt}
theorem sss_nil : PSs X [] (LfS X.K W fun ρ G A => A.nx ρ G) := PSs.imp pss_nil fun D σ H ⟨ρ, G, A, hE, hG, hw, l⟩ => l.nx ρ G σ H .refl hE hG hw
theorem sss_cons (h1 : PS X st (LfS X.K W ws)) (h2 : PSs X b (LfS X.K W wr)) : PSs X (st :: b) (LfS X.K W fun ρ G A => ws ρ G { A with nx := fun ρ' G' => wr ρ' G' A }) :=
  PSs.imp (pss_cons h1 h2) fun D σ H ⟨ρ, G, A, hE, hG, hw, l⟩ => ⟨ρ, G, _, hE, hG, hw, l.with _ _ fun ρ' G' σ' H' f hE' hG' q => ⟨ρ', G', A, hE', hG', q, l.fra f⟩⟩
theorem ss_set {i : Nat} {x : Str} {pos' : Pos} (hN : X.N.Nodup) (hi : X.N[i]? = some x) (hx : Loc X.env.scope x) (he : PE X e (LfE X.K W we)) (hs : swapsWith e (some (.Name x pos')) pos.line X.env = pure false)
    (hf : X.fn x = true ∨ X.env.scope.names.lookup x = some .local) : PS X (.Assign [.Name x pos'] e pos) (LfS X.K W fun ρ G A => we ρ G (fun d G1 => A.nx (ρ.set i (some d)) G1) (A.ex ρ)) :=
  PS.imp (ps_set hN hi hx he hs hf) fun D σ H ⟨ρ, G, A, hE, hG, hw, l⟩ => ⟨ρ, G, _, _, hE, hG, hw, fun d G1 v H1 f g r q => l.nx _ G1 _ H1 f ((hE.mono (f.stab hG)).set r) g q, l.x hE⟩
theorem ps_z {te : TE} {i : Nat} (h : PS X st (tAsg te (gName i))) : PS X st fun D σ H => ∀ Q' : VK, (∀ v H1, Qz (fun x H1 => D.nx (σ.set i (some x)) H1) v H1 → Q' v H1) → te σ H Q' := by
  refine ⟨fun pins s σ H D I hq => ?_⟩
  refine thn (h.run pins s σ H { D with nx := fun σ' H' => D.nx σ' H' ∨ ∃ a vs, H' a = some (.lst vs) ∧ ∀ o, D.nx σ' (upd H' a (.frz o (.lst vs))) } I ?_) fun fl s1 q => ?_
  · refine hq _ fun v H1 q => ?_
    rcases q with q | ⟨a, vs, rfl, ha, q⟩
    · exact .inl q
    · exact .inr ⟨a, vs, ha, q⟩
  · cases fl with
    | brk => exact q
    | cont => exact q
    | ret v => exact q
    | next =>
      obtain ⟨σ1, H1, I1, q | ⟨a, vs, ha, q⟩⟩ := q
      · exact ⟨σ1, H1, I1, q⟩
      · obtain ⟨z, its, n, _, _, ho⟩ := I1.lstM ha
        exact ⟨σ1, _, Inv.frozen I1 ha ho, q _⟩
/-- a comprehension that is stored -/
theorem ss_setLc {z : Bool} {Γ : Gam} {k i : Nat} {y : Str} {py spos : Pos} {own : List (Str × Nat)} {g : TGt} {tt : TT} {elt tg iter : Expr} {ifs : List Expr} {scope : Scope} (oc : Oc X W Γ k) (hy : X.N[i]? = some y) (hyl : X.env.scope.names.lookup y = some .local)
    (hsw : swapsWith (.ListComp elt [⟨tg, iter, ifs, 0⟩] scope pos) (some (.Name y py)) spos.line X.env = pure true) (hi : PI X tg iter (LfI X.K W wi)) (ok : BlkOk X.N X.env.scope scope own) (hix : ∀ i ∈ tgIx g, i ∈ own.map (·.2))
    (hg : ∀ (s : Shared) (H : Hp) (C : Addr) (cl : List (Str × Addr)) (fp : List Addr), PG (X.blk s H scope (compEnvC scope cl C X.env) fp) tg (LfG X.K g))
    (ht : ∀ (s : Shared) (H : Hp) (C : Addr) (cl : List (Str × Addr)) (fp : List Addr), PTs (X.blk s H scope (compEnvC scope cl C X.env) fp) ifs tt)
    (he : ∀ (s : Shared) (H : Hp) (C : Addr) (cl : List (Str × Addr)) (fp : List Addr), PE (X.blk s H scope (compEnvC scope cl C X.env) fp) elt (LfE X.K WF we)) (hs : ∀ x, foldedSetIterable iter X.env x = pure x)
    (htt : ∀ (σ : L2.St) (H : Hp) (Q : Bool → Hp → Prop) ρ G Qa, RelE X.K H ρ σ → RelG X.K G H → wt ρ G Qa noX → (∀ b G' H', Fra G H G' H' → RelG X.K G' H' → Qa b G' → Q b H') → tt σ H Q) :
    PS X (.Assign [.Name y py] (.ListComp elt [⟨tg, iter, ifs, 0⟩] scope pos) spos) (LfS X.K W fun ρ G A => lcG z wi wt we g (own.map (·.2)) ρ G (fun d G1 => A.nx (ρ.set i (some d)) G1) (A.ex ρ)) :=
  PS.imp (ps_z (ps_setLc oc.calm oc.nd hy hyl hsw hi ok hg ht he hs)) fun D σ H ⟨ρ, G, A, hE, hG, hw, l⟩ Q' hq => lc_imp hix σ H _ Q' hq htt ⟨ρ, G, _, _, hE, hG, hw, fun d G1 v H1 f g r q => l.nx _ G1 _ H1 f ((hE.mono (f.stab hG)).set r) g q, l.x hE⟩
theorem set_inj {ρ : Env'} {i : Nat} {d d' : Dat} (h : i < ρ.length) (e : ρ.set i (some d) = ρ.set i (some d')) : d = d' := by
  have q := congrArg (fun l : Env' => l[i]?) e
  simp only [List.getElem?_set_self h, Option.some.injEq] at q
  exact q
theorem ss_frz {i : Nat} {x : Str} (hi : X.N[i]? = some x) (h : PS X st (LfS X.K W fun ρ G A => we ρ G (fun d G1 => A.nx (ρ.set i (some d)) G1) (A.ex ρ))) :
    PS X st (LfS X.K W fun ρ G A => we ρ G (fun d G1 => frzW d G1 fun d' G2 => A.nx (ρ.set i (some d')) G2) (A.ex ρ)) := by
  refine ⟨fun pins s σ H D I ⟨ρ, G, A, hE, hG, hw, l⟩ => ?_⟩
  have hlt : i < ρ.length := by
    rw [hE.1, I.len]
    exact (List.getElem?_eq_some_iff.mp hi).1
  let n1 : Env' → AG → Prop := fun ρ' G1 => ∃ d, ρ' = ρ.set i (some d) ∧ frzW d G1 fun d' G2 => A.nx (ρ.set i (some d')) G2
  have eq : (fun d G1 => n1 (ρ.set i (some d)) G1) = (fun d G1 => frzW d G1 fun d' G2 => A.nx (ρ.set i (some d')) G2) := by
    funext d G1
    exact propext ⟨fun ⟨d', e, q⟩ => by rw [set_inj hlt e]; exact q, fun q => ⟨d, rfl, q⟩⟩
  let n2 : L2.St → Hp → Prop := fun σ' H' => ∃ ρ' G', Fra G H G' H' ∧ RelE X.K H' ρ' σ' ∧ RelG X.K G' H' ∧ n1 ρ' G'
  refine thn (h.run pins s σ H { D with nx := n2 } I ⟨ρ, G, { A with nx := n1 }, hE, hG, ?_, l.with n1 n2 fun ρ' G' σ' H' f a b c => ⟨ρ', G', f, a, b, c⟩⟩) fun fl s1 q => ?_
  · show we ρ G (fun d G1 => n1 (ρ.set i (some d)) G1) (A.ex ρ)
    rw [eq]
    exact hw
  · cases fl with
    | brk => exact q
    | cont => exact q
    | ret v => exact q
    | next =>
      obtain ⟨σ1, H1, I1, ρ1, G1, f1, e1, g1, d, rfl, q⟩ := q
      obtain ⟨v, hv, rv⟩ := e1.2 i d (List.getElem?_set_self hlt)
      have fin : ∀ d' G2 H2, Fra G1 H1 G2 H2 → RelG X.K G2 H2 → Rep X.K H2 v d' → A.nx (ρ.set i (some d')) G2 → D.nx σ1 H2 := fun d' G2 H2 f2 g2 r2 q2 => by
        refine l.nx _ G2 σ1 H2 (f1.trans f2) ⟨by rw [List.length_set, ← e1.1, List.length_set], fun j c hj => ?_⟩ g2 q2
        by_cases hij : i = j
        · subst hij
          rw [List.getElem?_set_self hlt] at hj
          cases hj
          exact ⟨v, hv, r2⟩
        · rw [List.getElem?_set_ne hij] at hj
          obtain ⟨u, h1, h2⟩ := e1.2 j c (by rw [List.getElem?_set_ne hij]; exact hj)
          exact ⟨u, h1, h2.mono (f2.stab g1)⟩
      rcases frzW_inv q with ⟨p, ds, rfl, ep, q1⟩ | q1
      · cases rep_r rv
        obtain ⟨vs, h2, h3⟩ := g1.lst ep
        obtain ⟨z, its, n, _, _, ho⟩ := I1.lstM h2
        obtain ⟨f2, g2, r2⟩ := frz_step (o := { cls := .type "list", data := .seq its.toArray n }) g1 ep h2 h3
        exact ⟨σ1, _, Inv.frozen I1 h2 ho, fin _ _ _ f2 g2 r2 q1⟩
      · exact ⟨σ1, H1, I1, fin _ _ _ .refl g1 rv q1⟩
theorem ss_setTp {ts : List Expr} {is : List Nat} {kk : Nat} {pt : Pos} (hc : X.calm = true) (hN : X.N.Nodup) (h : nmsOk X ts is) (he : PE X e (LfE X.K W we)) (hs : swapsWithSole [.Tuple ts kk pt] e pos.line X.env = pure false)
    (hw : swappedStores [.Tuple ts kk pt] e X.env = pure none) : PS X (.Assign [.Tuple ts kk pt] e pos) (LfS X.K W fun ρ G A => we ρ G (fun d G1 => tgW (.tp is) d ρ fun ρ1 => A.nx ρ1 G1) (A.ex ρ)) :=
  PS.imp (ps_asg he (sg_tp (pos := pt) hc hN h) hs hw rfl) fun D σ H ⟨ρ, G, A, hE, hG, hq, l⟩ => ⟨ρ, G, _, _, hE, hG, hq, fun d G1 v H1 f g r q => ⟨ρ, G1, d, _, hE.mono (f.stab hG), g, r, q, fun ρ' σ' e' _ q' => l.nx ρ' G1 σ' H1 f e' g q'⟩, l.x hE⟩
theorem ss_par2 {i j : Nat} {x y : Str} {a b : Expr} {px py pt : Pos} {kt k2 pt2} (hc : X.calm = true) (hN : X.N.Nodup) (hi : X.N[i]? = some x) (hj : X.N[j]? = some y) (hij : i ≠ j)
    (hx : X.env.scope.names.lookup x = some .local) (hy : X.env.scope.names.lookup y = some .local) (h1 : PE X a (LfE X.K W w1)) (h2 : PE X b (LfE X.K W w2)) (hs1 : starEach [a, b] X.env = (false, eval a X.env) :: starEach [b] X.env) (hs2 : starEach [b] X.env = [(false, eval b X.env)])
    (hw : swappedStores [.Tuple [.Name x px, .Name y py] kt pt] (.Tuple [a, b] k2 pt2) X.env = pure (some [x, y]))
    (hs : swapsWithSole [.Tuple [.Name x px, .Name y py] kt pt] (.Tuple [a, b] k2 pt2) pos.line X.env = pure false) :
    PS X (.Assign [.Tuple [.Name x px, .Name y py] kt pt] (.Tuple [a, b] k2 pt2) pos) (LfS X.K W fun ρ G A => w1 ρ G (fun x G1 => w2 ρ G1 (fun y G2 => A.nx ((ρ.set i (some x)).set j (some y)) G2) (A.ex ρ)) (A.ex ρ)) :=
  PS.imp (ps_par hc hN hi hj hij hx hy (pa_cons h1 (pa_cons h2 pa_nil hs2) hs1) hw hs) fun D σ H ⟨ρ, G, A, hE, hG, hq, l⟩ => ⟨ρ, G, _, _, hE, hG, hq, fun d G1 v H1 f g r q => ⟨ρ, G1, _, _, hE.mono (f.stab hG), g, q,
    fun d2 G2 u H2 f2 g2 r2 q2 => ⟨v, u, rfl, l.nx _ G2 _ H2 (f.trans f2) (((hE.mono ((f.trans f2).stab hG)).set (r.mono (f2.stab g))).set r2) g2 q2⟩, (l.fra f).x (hE.mono (f.stab hG))⟩, l.x hE⟩
theorem ss_par3 {i j m : Nat} {x y z : Str} {a b c : Expr} {px py pz pt : Pos} {kt k2 pt2} (hc : X.calm = true) (hN : X.N.Nodup) (hi : X.N[i]? = some x) (hj : X.N[j]? = some y) (hm : X.N[m]? = some z) (hij : i ≠ j) (him : i ≠ m) (hjm : j ≠ m)
    (hx : X.env.scope.names.lookup x = some .local) (hy : X.env.scope.names.lookup y = some .local) (hz : X.env.scope.names.lookup z = some .local) (h1 : PE X a (LfE X.K W w1)) (h2 : PE X b (LfE X.K W w2)) (h3 : PE X c (LfE X.K W w3))
    (hs1 : starEach [a, b, c] X.env = (false, eval a X.env) :: starEach [b, c] X.env) (hs2 : starEach [b, c] X.env = (false, eval b X.env) :: starEach [c] X.env) (hs3 : starEach [c] X.env = [(false, eval c X.env)])
    (hw : swappedStores [.Tuple [.Name x px, .Name y py, .Name z pz] kt pt] (.Tuple [a, b, c] k2 pt2) X.env = pure (some [x, y, z]))
    (hs : swapsWithSole [.Tuple [.Name x px, .Name y py, .Name z pz] kt pt] (.Tuple [a, b, c] k2 pt2) pos.line X.env = pure false) :
    PS X (.Assign [.Tuple [.Name x px, .Name y py, .Name z pz] kt pt] (.Tuple [a, b, c] k2 pt2) pos) (LfS X.K W fun ρ G A => w1 ρ G (fun x G1 => w2 ρ G1 (fun y G2 => w3 ρ G2 (fun z G3 => A.nx (((ρ.set i (some x)).set j (some y)).set m (some z)) G3) (A.ex ρ)) (A.ex ρ)) (A.ex ρ)) :=
  PS.imp (ps_par3 hc hN hi hj hm hij him hjm hx hy hz (pa_cons h1 (pa_cons h2 (pa_cons h3 pa_nil hs3) hs2) hs1) hw hs) fun D σ H ⟨ρ, G, A, hE, hG, hq, l⟩ => ⟨ρ, G, _, _, hE, hG, hq, fun d G1 v H1 f g r q => ⟨ρ, G1, _, _, hE.mono (f.stab hG), g, q,
    fun d2 G2 u H2 f2 g2 r2 q2 => ⟨ρ, G2, _, _, hE.mono ((f.trans f2).stab hG), g2, q2, fun d3 G3 t H3 f3 g3 r3 q3 => ⟨v, u, t, rfl, l.nx _ G3 _ H3 ((f.trans f2).trans f3) ((((hE.mono (((f.trans f2).trans f3).stab hG)).set (r.mono ((f2.trans f3).stab g))).set (r2.mono (f3.stab g2))).set r3) g3 q3⟩,
      (l.fra (f.trans f2)).x (hE.mono ((f.trans f2).stab hG))⟩, (l.fra f).x (hE.mono (f.stab hG))⟩, l.x hE⟩
theorem ss_expr (he : PE X e (LfE X.K W we)) (hs : swapsWith e none pos.line X.env = pure false) : PS X (.Expr e pos) (LfS X.K W fun ρ G A => we ρ G (fun _ G1 => A.nx ρ G1) (A.ex ρ)) :=
  PS.imp (ps_expr he hs) fun D σ H ⟨ρ, G, A, hE, hG, hw, l⟩ => ⟨ρ, G, _, _, hE, hG, hw, fun d G1 v H1 f g r q => l.nx _ G1 _ H1 f (hE.mono (f.stab hG)) g q, l.x hE⟩
theorem ss_ret (he : PE X e (LfE X.K W we)) : PS X (.Return (some e) pos) (LfS X.K W fun ρ G A => we ρ G A.rt (A.ex ρ)) :=
  PS.imp (ps_ret he) fun D σ H ⟨ρ, G, A, hE, hG, hw, l⟩ => ⟨ρ, G, _, _, hE, hG, hw, l.rt, l.x hE⟩
theorem ss_retN : PS X (.Return none pos) (LfS X.K W fun ρ G A => A.rt .non G) := PS.imp ps_retN fun D σ H ⟨ρ, G, A, hE, hG, hw, l⟩ => l.rt.val hG .non hw
theorem ss_pass : PS X (.Pass pos) (LfS X.K W fun ρ G A => A.nx ρ G) := PS.imp ps_pass fun D σ H ⟨ρ, G, A, hE, hG, hw, l⟩ => l.nx ρ G σ H .refl hE hG hw
theorem ss_doc {x j pos'} : PS X (.Expr (.Constant (.str x) j pos') pos) (LfS X.K W fun ρ G A => A.nx ρ G) := PS.imp ps_doc fun D σ H ⟨ρ, G, A, hE, hG, hw, l⟩ => l.nx ρ G σ H .refl hE hG hw
theorem ss_brk : PS X (.Break pos) (LfS X.K W fun ρ G A => A.bk ρ G) := PS.imp ps_break fun D σ H ⟨ρ, G, A, hE, hG, hw, l⟩ => l.bk ρ G σ H .refl hE hG hw
theorem ss_cont : PS X (.Continue pos) (LfS X.K W fun ρ G A => A.ct ρ G) := PS.imp ps_continue fun D σ H ⟨ρ, G, A, hE, hG, hw, l⟩ => l.ct ρ G σ H .refl hE hG hw
theorem ss_if (hc : PT X e (LfT X.K W wt)) (ha : PSs X a (LfS X.K W ws)) (hb : PSs X b (LfS X.K W wr)) : PS X (.If e a b pos) (LfS X.K W fun ρ G A => wt ρ G (fun k G1 => if k = true then ws ρ G1 A else wr ρ G1 A) (A.ex ρ)) := by
  refine PS.imp (ps_if hc ha hb) fun D σ H ⟨ρ, G, A, hE, hG, hw, l⟩ => ⟨ρ, G, _, _, hE, hG, hw, fun d G1 v H1 f g r q => ?_, l.x hE⟩
  cases r
  cases d with
  | true =>
    rw [if_pos rfl] at q ⊢
    exact ⟨ρ, G1, A, hE.mono (f.stab hG), g, q, l.fra f⟩
  | false =>
    rw [if_neg (by simp)] at q ⊢
    exact ⟨ρ, G1, A, hE.mono (f.stab hG), g, q, l.fra f⟩
theorem ss_while (hp : PassesOwn (model X.prog X.w) X.A X.env X.xe) (hc : PT X e (LfT X.K W wt)) (ha : PSs X a (LfS X.K W ws)) :
    PS X (.While e a [] pos) (LfS X.K W fun ρ G A => ∃ V : Nat → Env' → AG → Prop, (∃ m, V m ρ G) ∧ ∀ m ρ G, V m ρ G →
      wt ρ G (fun k G1 => if k = true then ws ρ G1 { A with nx := fun ρ' G' => ∃ m', m' < m ∧ V m' ρ' G', ct := fun ρ' G' => ∃ m', m' < m ∧ V m' ρ' G', bk := A.nx } else A.nx ρ G1) (A.ex ρ)) := by
  refine PS.imp (ps_while hp hc ha) fun D σ H ⟨ρ, G, A, hE, hG, ⟨V, ⟨m0, v0⟩, hV⟩, l⟩ => ?_
  refine ⟨fun m σ1 H1 => ∃ ρ1 G1, Fra G H G1 H1 ∧ RelE X.K H1 ρ1 σ1 ∧ RelG X.K G1 H1 ∧ V m ρ1 G1, ⟨m0, ρ, G, .refl, hE, hG, v0⟩, ?_⟩
  rintro m σ1 H1 ⟨ρ1, G1, f1, e1, g1, v1⟩
  refine ⟨ρ1, G1, _, _, e1, g1, hV m ρ1 G1 v1, fun d G2 v H2 f2 g2 r q => ?_, (l.fra f1).x e1⟩
  cases r
  cases d with
  | true =>
    rw [if_pos rfl] at q ⊢
    refine ⟨fun σ' H' => ∃ m', m' < m ∧ ∃ ρ' G', Fra G H G' H' ∧ RelE X.K H' ρ' σ' ∧ RelG X.K G' H' ∧ V m' ρ' G', fun σ' H' z => z, ρ1, G2, _, e1.mono (f2.stab g1), g2, q, ?_⟩
    have l2 := l.fra (f1.trans f2)
    have nxt : ∀ ρ' G' σ' H', Fra G2 H2 G' H' → RelE X.K H' ρ' σ' → RelG X.K G' H' → (∃ m', m' < m ∧ V m' ρ' G') → ∃ m', m' < m ∧ ∃ ρ' G', Fra G H G' H' ∧ RelE X.K H' ρ' σ' ∧ RelG X.K G' H' ∧ V m' ρ' G' :=
      fun ρ' G' σ' H' f' a b ⟨m', h1, h2⟩ => ⟨m', h1, ρ', G', (f1.trans f2).trans f', a, b, h2⟩
    exact ⟨nxt, l2.rt, l2.nx, nxt, l2.ex⟩
  | false =>
    rw [if_neg (by simp)] at q ⊢
    exact l.nx ρ1 G2 σ1 H2 (f1.trans f2) (e1.mono (f2.stab g1)) g2 q
theorem ss_for {tg iter : Expr} {g : TGt} (hp : PassesOwn (model X.prog X.w) X.A X.env X.xe) (hc : X.calm = true) (hi : PI X tg iter (LfI X.K W wi)) (hg : PG X tg (LfG X.K g)) (hb : PSs X a (LfS X.K W ws)) (hs : ∀ x, foldedSetIterable iter X.env x = pure x) :
    PS X (.For tg iter a [] pos) (LfS X.K W fun ρ G A => wi ρ G (fun ds gd G1 => forW ws g gd A ds ρ G1) (A.ex ρ)) := by
  refine PS.imp (ps_for hp hc hi hg hb hs) fun D σ H ⟨ρ, G, A, hE, hG, hw, l⟩ => ⟨ρ, G, _, _, hE, hG, hw, fun ds gd G1 J H1 f1 g1 gk1 it q1 => ?_, l.x hE⟩
  refine ⟨fun i m σ2 H2 => m = ds.length - i ∧ i ≤ ds.length ∧ ∃ ρ2 G2, Fra G1 H1 G2 H2 ∧ RelE X.K H2 ρ2 σ2 ∧ RelG X.K G2 H2 ∧ forW ws g gd A (ds.drop i) ρ2 G2, ⟨ds.length, by simp, Nat.zero_le _, ρ, G1, .refl, hE.mono (f1.stab hG), g1, q1⟩, ?_⟩
  rintro i m σ2 H2 ⟨rfl, hi', ρ2, G2, f2, e2, g2, w2⟩
  have st2 := f2.stab g1
  by_cases hlt : i < ds.length
  · rw [List.drop_eq_getElem_cons hlt] at w2
    obtain ⟨gk, w2⟩ := w2
    refine .inr ⟨it.go i H2 G2 st2 g2 gk hlt, fun σ' H' => ∃ ρ' G', Fra G1 H1 G' H' ∧ RelE X.K H' ρ' σ' ∧ RelG X.K G' H' ∧ forW ws g gd A (ds.drop (i + 1)) ρ' G', fun σ' H' q => ⟨ds.length - (i + 1), by omega, rfl, hlt, q⟩, fun x H3 hy => ?_⟩
    obtain ⟨d, hd, f3, g3, rx⟩ := it.yld i H2 G2 x H3 st2 g2 gk hlt hy
    rw [List.getElem?_eq_getElem hlt] at hd
    cases hd
    have f13 := f2.trans f3
    refine ⟨ρ2, G2, _, _, e2.mono (f3.stab g2), g3, rx, w2, fun ρ3 σ3 e3 _ w3 => ⟨ρ3, G2, _, e3, g3, w3, ?_⟩⟩
    have l3 := l.fra (f1.trans f13)
    have nxt : ∀ ρ' G' σ' H', Fra G2 H3 G' H' → RelE X.K H' ρ' σ' → RelG X.K G' H' → forW ws g gd A (ds.drop (i + 1)) ρ' G' → ∃ ρ' G', Fra G1 H1 G' H' ∧ RelE X.K H' ρ' σ' ∧ RelG X.K G' H' ∧ forW ws g gd A (ds.drop (i + 1)) ρ' G' :=
      fun ρ' G' σ' H' f' a b c => ⟨ρ', G', f13.trans f', a, b, c⟩
    exact ⟨nxt, l3.rt, l3.nx, nxt, l3.ex⟩
  · have e : i = ds.length := by omega
    subst e
    rw [List.drop_length] at w2
    exact .inl ⟨it.stop _ H2 G2 st2 g2 w2.1 (Nat.le_refl _), l.nx ρ2 G2 σ2 H2 (f1.trans f2) e2 g2 w2.2⟩
theorem setW_inv {x k v : Dat} {G : AG} {Q : AG → Prop} (h : setW x k v G Q) : ∃ p i ds j, x = .ref p ∧ k = .int i ∧ G p = some (.lst ds) ∧ ixN ds.length i = some j ∧ Q (gu G p (.lst (ds.set j v))) := by
  cases x <;> cases k <;> first | exact False.elim h | skip
  obtain ⟨ds, j, h1, h2, h3⟩ := h
  exact ⟨_, _, ds, j, rfl, rfl, h1, h2, h3⟩
theorem ss_setIx {o i : Expr} {pt : Pos} (he : PE X e (LfE X.K W w1)) (ho : PE X o (LfE X.K W w2)) (hi : PE X i (LfE X.K W w3)) (hs : swapsWithSole [.Subscript o i pt] e pos.line X.env = pure false) (hw : swappedStores [.Subscript o i pt] e X.env = pure none)
    (h1 : (assignEach [.Subscript o i pt] X.env).map (·.2) = [assign (.Subscript o i pt) X.env])
    (ha : ∀ v, assign (.Subscript o i pt) X.env v = (do
      let ov ← holding [v] (eval o X.env)
      let iv ← holding [v, ov] (eval i X.env)
      standAt pt
      holding [v, ov, iv] (setItem ov iv v)
      release [v, ov, iv] [])) :
    PS X (.Assign [.Subscript o i pt] e pos) (LfS X.K W fun ρ G A => w1 ρ G (fun v G1 => w2 ρ G1 (fun x G2 => w3 ρ G2 (fun k G3 => setW x k v G3 fun G4 => A.nx ρ G4) (A.ex ρ)) (A.ex ρ)) (A.ex ρ)) := by
  refine PS.imp (ps_asg he (pg_sub ho hi set_list ha) hs hw h1) fun D σ H ⟨ρ, G, A, hE, hG, hq, l⟩ => ⟨ρ, G, _, _, hE, hG, hq, fun d G1 v H1 f g r q => ⟨ρ, G1, _, _, hE.mono (f.stab hG), g, q,
    fun d2 G2 u H2 f2 g2 r2 q2 => ⟨ρ, G2, _, _, hE.mono ((f.trans f2).stab hG), g2, q2, fun d3 G3 t H3 f3 g3 r3 q3 => ?_, (l.fra (f.trans f2)).x (hE.mono ((f.trans f2).stab hG))⟩, (l.fra f).x (hE.mono (f.stab hG))⟩, l.x hE⟩
  obtain ⟨p, m, ds, j, rfl, rfl, k1, k2, k3⟩ := setW_inv q3
  cases rep_r (r2.mono (f3.stab g2))
  cases rep_i r3
  obtain ⟨vs, h4, h5⟩ := g3.lst k1
  have rv := r.mono ((f2.trans f3).stab g)
  have f4 := (f.trans f2).trans f3
  have f5 : Fra G3 H3 (gu G3 p (.lst (ds.set j d))) (upd H3 p (.lst (vs.set j v))) := .set k1
  refine ⟨p, vs, m, j, rfl, rfl, h4, by rw [h5.length]; exact k2, l.nx ρ _ σ _ (f4.trans f5) (hE.mono ((f4.trans f5).stab hG)) (g3.set k1 (show AOk X.K _ p (.lst (ds.set j d)) from ⟨_, upd_same, (h5.set rv j).mono (.lst h4)⟩)) k3⟩
theorem ss_aug {i : Nat} {x : Str} {o : BO} {pos' : Pos} (hN : X.N.Nodup) (hi : X.N[i]? = some x) (hx : Loc X.env.scope x) (he : PE X e (LfE X.K W we)) (ho : o = .add ∨ o = .sub) (hf : X.fn x = true ∨ X.env.scope.names.lookup x = some .local) :
    PS X (.AugAssign (.Name x pos') o.op e pos) (LfS X.K W fun ρ G A => match ρ[i]? with
      | some (some x) => we ρ G (fun y G1 => augW o x y G1 fun z G2 => A.nx (ρ.set i (some z)) G2) (A.ex ρ)
      | _ => False) := by
  have main : ∀ (g : Int → Int → Int), PIp X o.op (ipI g) → (∀ x y G Q, augW o x y G Q → ∃ i j, x = .int i ∧ y = .int j ∧ Q (.int (g i j)) G) → PS X (.AugAssign (.Name x pos') o.op e pos) (LfS X.K W fun ρ G A => match ρ[i]? with
      | some (some x) => we ρ G (fun y G1 => augW o x y G1 fun z G2 => A.nx (ρ.set i (some z)) G2) (A.ex ρ)
      | _ => False) := fun g hg hq => by
    refine PS.imp (ps_aug hN hi hx he hg hf) fun D σ H ⟨ρ, G, A, hE, hG, hw, l⟩ => ?_
    dsimp only at hw
    cases e1 : ρ[i]? with
    | none => rw [e1] at hw; exact False.elim hw
    | some od =>
      cases od with
      | none => rw [e1] at hw; exact False.elim hw
      | some d =>
        rw [e1] at hw
        obtain ⟨v, h1, h2⟩ := hE.2 i d e1
        refine ⟨v, h1, ρ, G, _, _, hE, hG, hw, fun y G1 u H1 f g1 r q => ?_, l.x hE⟩
        obtain ⟨m, n, rfl, rfl, q2⟩ := hq _ _ _ _ q
        cases rep_i h2
        cases rep_i r
        exact ⟨m, n, rfl, rfl, l.nx _ G1 _ H1 f ((hE.mono (f.stab hG)).set (.int _)) g1 q2⟩
  rcases ho with rfl | rfl
  · exact main _ ip_add fun x y G Q h => by cases x <;> cases y <;> first | exact ⟨_, _, rfl, rfl, h⟩ | exact False.elim h
  · exact main _ ip_sub fun x y G Q h => by cases x <;> cases y <;> first | exact ⟨_, _, rfl, rfl, h⟩ | exact False.elim h
end
end Av


set_option Elab.async false
set_option linter.all false
set_option maxRecDepth 100000
set_option maxHeartbeats 4000000
/-! # Av9: a checker of bodies against words, and what it says -/
namespace Av
open PySem PySem.Spec PyProof.Rows L2

structure Ck where
  N : List Str
  sc : Scope
  top : Bool
def visB (sc : Scope) (x : Str) : Bool := match sc.names.lookup x with
  | some .local => true
  | some .cell => true
  | some .free => true
  | _ => false
def glB (sc : Scope) (x : Str) : Bool := match sc.names.lookup x with
  | some .globalImplicit => true
  | _ => false
def lclB (sc : Scope) (x : Str) : Bool := match sc.names.lookup x with
  | some .local => true
  | _ => false
def celB (sc : Scope) (x : Str) : Bool := match sc.names.lookup x with
  | some .cell => true
  | _ => false
def okNm (x : Str) : Bool := !(x == ("__debug__" : Str)) && !(x == ("__classdict__" : Str)) && !(x == ("__name__" : Str))
def varB (C : Ck) (i : Nat) (x : Str) : Bool := (C.N[i]? == some x) && visB C.sc x && okNm x
def gloB (C : Ck) (x : Str) : Bool := glB C.sc x && okNm x
def locB (C : Ck) (i : Nat) (x : Str) : Bool := (C.N[i]? == some x) && (lclB C.sc x || (celB C.sc x && C.top))
def noStar : Expr → Bool
  | .Starred .. => false
  | _ => true
def noComp : Expr → Bool
  | .ListComp .. => false | .SetComp .. => false | .DictComp .. => false
  | _ => true
def noTup : Expr → Bool
  | .Tuple .. => false | .List .. => false
  | _ => true
def noSet : Expr → Bool
  | .Set .. => false
  | _ => true
def noSlice : Expr → Bool
  | .Slice .. => false
  | _ => true
def noCall : Expr → Bool
  | .Call .. => false
  | _ => true
def isTup : Expr → Bool
  | .Tuple .. => true
  | _ => false
/-- a test by truth -/
def valB : Expr → Bool
  | .UnaryOp .. => false | .BoolOp .. => false | .IfExp .. => false | .Compare .. => false
  | _ => true
def cstB : Dat → Const → Bool
  | .int i, .int j => i == j
  | .str i, .str j => i == j
  | .bl i, .bool j => i == j
  | .non, .none => true
  | _, _ => false
def ownN (N : List Str) (own : List Nat) : List (Str × Nat) := own.filterMap fun i => (N[i]?).map fun x => (x, i)
def namesB (C : Ck) : List Expr → List Nat → Bool
  | [], [] => true
  | .Name x _ :: ts, i :: is => locB C i x && namesB C ts is
  | _, _ => false
def corG (C : Ck) : TGt → Expr → Bool
  | .nm i, .Name x _ => locB C i x
  | .tp is, .Tuple ts _ _ => namesB C ts is
  | _, _ => false
def Ck.into (C : Ck) (scope : Scope) : Ck := ⟨C.N, relS scope C.sc, false⟩
def lcB (C : Ck) (g : TGt) (own : List Nat) (scope : Scope) (tg iter : Expr) : Bool :=
  ((ownN C.N own).map (·.2) == own) && blkC C.N C.sc scope (ownN C.N own) && (tgIx g).all (fun i => own.contains i) && corG (C.into scope) g tg && noSet iter

mutual
def corE (C : Ck) : E → Expr → Bool
  | .var i, x => match x with
    | .Name x _ => varB C i x
    | _ => false
  | .cst d, x => match x with
    | .Constant c _ _ => cstB d c
    | _ => false
  | .glo n, x => match x with
    | .Name y _ => (n == y) && gloB C y
    | _ => false
  | .bin _ o a b, x => match x with
    | .BinOp l op r _ => (op == o.op) && corE C a l && corE C b r
    | _ => false
  | .neg a, x => match x with
    | .UnaryOp .USub x _ => corE C a x
    | _ => false
  | .cmp o a b, x => match x with
    | .Compare l [op] [r] _ => (op == o.op) && noSet r && corE C a l && corE C b r
    | _ => false
  | .cmp2 o o' a b c, x => match x with
    | .Compare l [op, op'] [r, r'] _ => (op == o.op) && (op' == o'.op) && noSet r' && corE C a l && corE C b r && corE C c r'
    | _ => false
  | .andV a b, x => match x with
    | .BoolOp .And (x :: y :: rest) p => corE C a x && corE C b (.BoolOp .And (y :: rest) p)
    | _ => false
  | .orV a b, x => match x with
    | .BoolOp .Or (x :: y :: rest) p => corE C a x && corE C b (.BoolOp .Or (y :: rest) p)
    | _ => false
  | .one a, x => match x with
    | .BoolOp _ [x] _ => corE C a x
    | _ => false
  | .notV a, x => match x with
    | .UnaryOp .Not x _ => corE C a x
    | _ => false
  | .ite c a b, x => match x with
    | .IfExp t x y _ => corT C c t && corE C a x && corE C b y
    | _ => false
  | .tup es, x => match x with
    | .Tuple xs _ _ => corEs C es xs
    | _ => false
  | .lst _ es, x => match x with
    | .List xs _ => corEs C es xs
    | _ => false
  | .ix a b, x => match x with
    | .Subscript x y _ => noSlice y && corE C a x && corE C b y
    | _ => false
  | .slAll _ a, x => match x with
    | .Subscript x (.Slice none none none _) _ => corE C a x
    | _ => false
  | .slFrom _ a lo, x => match x with
    | .Subscript x (.Slice (some y) none none _) _ => corE C a x && corE C lo y
    | _ => false
  | .slTo _ a hi, x => match x with
    | .Subscript x (.Slice none (some z) none _) _ => corE C a x && corE C hi z
    | _ => false
  | .sl _ a lo hi, x => match x with
    | .Subscript x (.Slice (some y) (some z) none _) _ => corE C a x && corE C lo y && corE C hi z
    | _ => false
  | .call f [], x => match x with
    | .Call (.Name g _) [] [] _ => (f == g) && gloB C g
    | _ => false
  | .call f es, x => match x with
    | .Call (.Name g _) (x :: xs) [] _ => (f == g) && gloB C g && corEs C es (x :: xs)
    | _ => false
  | .blt _ f es, x => match x with
    | .Call (.Name g _) (x :: xs) [] _ => (g == f.nm) && gloB C g && corEs C es (x :: xs)
    | _ => false
  | .meth m o [], x => match x with
    | .Call (.Attribute x nm ap) [] [] cp => (nm == m.nm) && noCall x && (ap.endLine == cp.line) && corE C o x
    | _ => false
  | .meth m o es, x => match x with
    | .Call (.Attribute x nm ap) (y :: ys) [] cp => (nm == m.nm) && noCall x && (ap.endLine == cp.line) && decide (ys.length < 20) && corE C o x && corEs C es (y :: ys)
    | _ => false
  | .lc _ e g it own, x => match x with
    | .ListComp elt [⟨tg, iter, [], 0⟩] scope _ => lcB C g own scope tg iter && corI C it tg iter && corE (C.into scope) e elt
    | _ => false
  | .lcIf _ e g it t own, x => match x with
    | .ListComp elt [⟨tg, iter, [c], 0⟩] scope _ => lcB C g own scope tg iter && corI C it tg iter && corE (C.into scope) e elt && corT (C.into scope) t c
    | _ => false
  | .rev _, _ => false
  | .frz a, z => corE C a z
def corEs (C : Ck) : List E → List Expr → Bool
  | [], [] => true
  | e :: es, x :: xs => noStar x && corE C e x && corEs C es xs
  | _, _ => false
def corT (C : Ck) : T → Expr → Bool
  | .and_ a b, x => match x with
    | .BoolOp .And (x :: y :: rest) p => corT C a x && corT C b (.BoolOp .And (y :: rest) p)
    | _ => false
  | .or_ a b, x => match x with
    | .BoolOp .Or (x :: y :: rest) p => corT C a x && corT C b (.BoolOp .Or (y :: rest) p)
    | _ => false
  | .one a, x => match x with
    | .BoolOp .And [x] _ => corT C a x
    | .BoolOp .Or [x] _ => corT C a x
    | _ => false
  | .not_ a, x => match x with
    | .UnaryOp .Not x _ => corT C a x
    | _ => false
  | .cmp o a b, x => match x with
    | .Compare l [op] [r] _ => (op == o.op) && noSet r && corE C a l && corE C b r
    | _ => false
  | .val a, z => valB z && corE C a z
  | .ite _ _ _, _ => false
def corI (C : Ck) : I → Expr → Expr → Bool
  | .rng1 a, tg, x => match x with
    | .Call (.Name g _) [x] [] _ => (g == ("range" : Str)) && gloB C g && noStar x && corE C a x
    | _ => false
  | .rng2 a b, tg, x => match x with
    | .Call (.Name g _) [x, y] [] _ => (g == ("range" : Str)) && gloB C g && noStar x && noStar y && corE C a x && corE C b y
    | _ => false
  | .zip a b, tg, x => match x with
    | .Call (.Name g _) [x, y] [] _ => isTup tg && (g == ("zip" : Str)) && gloB C g && noStar x && noStar y && corE C a x && corE C b y
    | _ => false
  | .enum a, tg, x => match x with
    | .Call (.Name g _) [x] [] _ => isTup tg && (g == ("enumerate" : Str)) && gloB C g && noStar x && corE C a x
    | _ => false
  | .seq a, tg, z => corE C a z
end

/-! ### what the parts say -/
section
variable {X : Cx} {C : Ck} {x y : Expr} {pos : Pos}
theorem beqS {x y : Str} (h : (x == y) = true) : x = y := by simpa using h
theorem star1 {env : Env} {r : List Expr} (h : noStar x = true) : starEach (x :: r) env = (false, eval x env) :: starEach r env := by
  cases x <;> first | rfl | cases h
theorem plain_star {env : Env} : ∀ {r : List Expr}, r.all noStar = true → (backTo pos (starEach r env)).any (·.1) = false
  | [], _ => rfl
  | x :: r, h => by
    rw [List.all_cons, Bool.and_eq_true] at h
    rw [star1 h.1]
    show (false || _) = false
    rw [Bool.false_or]
    exact plain_star h.2
theorem plain_few {env : Env} : ∀ {r : List Expr}, r.all noStar = true → (backTo pos (starEach r env)).all (fun x => !x.1) = true
  | [], _ => rfl
  | x :: r, h => by
    rw [List.all_cons, Bool.and_eq_true] at h
    rw [star1 h.1]
    show (true && _) = true
    rw [Bool.true_and]
    exact plain_few h.2
theorem sw_no {t : Option Expr} {l : Nat} {env : Env} (h : noComp x = true) : swapsWith x t l env = pure false := by
  cases x <;> first | rfl | cases h
theorem fold_no {env : Env} (h : noSet x = true) : ∀ v, foldedSetIterable x env v = pure v := by
  intro v
  cases x <;> first | rfl | cases h
theorem marks_no {op : CmpOp} (h : noSet x = true) : behindInMarks op x = false := by
  cases x <;> first | rfl | cases h
theorem plain_ix (h : noSlice x = true) : PlainIx x := by
  intro o i
  cases x <;> first | rfl | cases h
theorem base_no {nm : Str} {env : Env} (h : noCall x = true) : attributeBase x nm env (eval x env) = eval x env := by
  cases x <;> first | rfl | cases h
theorem val_no {env : Env} (h : valB x = true) : ∀ whole, isTrue x env whole = (do let v ← whole; standAt x.pos; holding [v] (truthy v)) := by
  intro w
  cases x <;> first | rfl | cases h
theorem swap_no {t : Expr} {env : Env} (h : noTup x = true) : swappedStores [t] x env = pure none := by
  cases x <;> first | (cases t <;> rfl) | cases h
structure CkOk (X : Cx) (C : Ck) : Prop where
  n : C.N = X.N
  sc : X.env.scope = C.sc
  fn : C.top = true → ∀ x, X.fn x = true
variable (k : CkOk X C)
theorem gl_of {x : Str} (k : CkOk X C) (h : gloB C x = true) : Gl X x ∧ (x == ("__debug__" : Str)) = false ∧ x ≠ ("__name__" : Str) := by
  unfold gloB glB okNm at h
  simp only [Bool.and_eq_true, Bool.not_eq_true'] at h
  obtain ⟨h1, ⟨h2, h3⟩, h4⟩ := h
  refine ⟨?_, h2, fun z => by rw [z] at h4; simp at h4⟩
  show X.env.scope.names.lookup x = some .globalImplicit
  rw [k.sc]
  split at h1
  · assumption
  · cases h1
theorem vis_of {x : Str} {i : Nat} (k : CkOk X C) (h : varB C i x = true) : X.N[i]? = some x ∧ Vis X.env.scope x ∧ (x == ("__debug__" : Str)) = false ∧ (x == ("__classdict__" : Str)) = false := by
  unfold varB visB okNm at h
  simp only [Bool.and_eq_true, Bool.not_eq_true', beq_iff_eq] at h
  obtain ⟨⟨h1, h2⟩, ⟨h3, h4⟩, h5⟩ := h
  refine ⟨by rw [← k.n]; exact h1, ?_, h3, h4⟩
  unfold Vis
  rw [k.sc]
  split at h2
  · exact .inl (by assumption)
  · exact .inr (.inl (by assumption))
  · exact .inr (.inr (by assumption))
  · cases h2
theorem loc_of {x : Str} {i : Nat} (k : CkOk X C) (h : locB C i x = true) : X.N[i]? = some x ∧ L2.Loc X.env.scope x ∧ (X.fn x = true ∨ X.env.scope.names.lookup x = some .local) := by
  unfold locB lclB celB at h
  simp only [Bool.and_eq_true, Bool.or_eq_true, beq_iff_eq] at h
  obtain ⟨h1, h2⟩ := h
  refine ⟨by rw [← k.n]; exact h1, ?_⟩
  unfold L2.Loc
  rw [k.sc]
  rcases h2 with h2 | ⟨h2, h3⟩
  · split at h2
    · rename_i e
      exact ⟨.inl e, .inr e⟩
    · cases h2
  · split at h2
    · rename_i e
      exact ⟨.inr e, .inl (k.fn h3 x)⟩
    · cases h2
theorem lcl_of {x : Str} (k : CkOk X C) (h : lclB C.sc x = true) : X.env.scope.names.lookup x = some .local := by
  unfold lclB at h
  rw [k.sc]
  split at h
  · assumption
  · cases h
theorem names_of (k : CkOk X C) : ∀ {ts : List Expr} {is : List Nat}, namesB C ts is = true → nmsOk X ts is
  | [], [], _ => trivial
  | t :: ts, i :: is, h => by
    cases t with
    | Name x p =>
      simp only [namesB, Bool.and_eq_true] at h
      exact ⟨loc_of k h.1, names_of k h.2⟩
    | _ => cases h
  | [], _ :: _, h => by cases h
  | t :: _, [], h => by cases t <;> cases h
theorem corG_ok (k : CkOk X C) {g : TGt} {tg : Expr} (hc : X.calm = true) (hN : X.N.Nodup) (h : corG C g tg = true) : PG X tg (LfG X.K g) := by
  cases g with
  | nm i =>
    cases tg with
    | Name x p =>
      obtain ⟨h1, h2, h3⟩ := loc_of k h
      exact sg_nm hN h1 h2 h3
    | _ => cases h
  | tp is =>
    cases tg with
    | Tuple ts kk p => exact sg_tp hc hN (names_of k h)
    | _ => cases h
theorem into_ok (k : CkOk X C) (s : Shared) (H : Hp) (scope : Scope) (cl : List (Str × Addr)) (c : Addr) (fp : List Addr) : CkOk (X.blk s H scope (compEnvC scope cl c X.env) fp) (C.into scope) :=
  ⟨k.n, by show relabel scope X.env = relS scope C.sc; rw [← k.sc]; rfl, fun z => by cases z⟩
theorem lcB_ok (k : CkOk X C) {g : TGt} {own : List Nat} {scope : Scope} {tg iter : Expr} (hc : X.calm = true) (hN : X.N.Nodup) (h : lcB C g own scope tg iter = true) : ∃ on : List (Str × Nat), on.map (·.2) = own ∧ BlkOk X.N X.env.scope scope on ∧ (∀ i ∈ tgIx g, i ∈ on.map (·.2)) ∧
    (∀ (s : Shared) (H : Hp) (c : Addr) (cl : List (Str × Addr)) (fp : List Addr), PG (X.blk s H scope (compEnvC scope cl c X.env) fp) tg (LfG X.K g)) ∧ ∀ x, foldedSetIterable iter X.env x = pure x := by
  unfold lcB at h
  simp only [Bool.and_eq_true, beq_iff_eq, List.all_eq_true, List.contains_iff_mem] at h
  obtain ⟨⟨⟨⟨h1, h2⟩, h3⟩, h4⟩, h5⟩ := h
  refine ⟨ownN C.N own, h1, blkOk_by (by rw [← k.n, k.sc]; exact h2), fun i hi => by rw [h1]; exact h3 i hi, fun s H c cl fp => corG_ok (into_ok k s H scope cl c fp) (X := X.blk s H scope (compEnvC scope cl c X.env) fp) hc hN h4, fold_no h5⟩
end
end Av


set_option Elab.async false
set_option linter.all false
set_option maxRecDepth 100000
set_option maxHeartbeats 4000000
/-! # Av10: a body that fits its words does what they say (values) -/
namespace Av
open PySem PySem.Spec PyProof.Rows L2

section
variable {X : Cx} {W : WX} {x : Expr} {pos : Pos}
theorem pe_never {w : WfE} (h : ∀ ρ G Q E, ¬ w ρ G Q E) : PE X x (LfE X.K W w) := ⟨fun _ _ _ _ _ _ ⟨ρ, G, Q, E, _, _, hw, _⟩ => absurd hw (h ρ G Q E)⟩
theorem cst_ok {d : Dat} {c : Const} {j : Nat} (h : cstB d c = true) : PE X (.Constant c j pos) (LfE X.K W fun _ G Q _ => Q d G) := by
  unfold cstB at h
  split at h
  · cases beq_iff_eq.mp h; exact se_c pe_int fun _ => .int _
  · cases beq_iff_eq.mp h; exact se_c pe_str fun _ => .str _
  · cases beq_iff_eq.mp h; exact se_c pe_bl fun _ => .bl _
  · exact se_c pe_non fun _ => .non
  · cases h
theorem pe_one {op : BoolOp} {t : TE} (h : PE X x t) : PE X (.BoolOp op [x] pos) t := ⟨fun pins s σ H Q I q => h.run pins s σ H Q I q⟩
theorem corEs_len {C : Ck} : ∀ {es : List E} {xs : List Expr}, corEs C es xs = true → es.length = xs.length ∧ xs.all noStar = true
  | [], [], _ => ⟨rfl, rfl⟩
  | e :: es, x :: xs, h => by
    unfold corEs at h
    simp only [Bool.and_eq_true] at h
    obtain ⟨h1, h2⟩ := corEs_len h.2
    exact ⟨by rw [List.length_cons, List.length_cons, h1], by rw [List.all_cons, h.1.1, h2]; rfl⟩
  | [], _ :: _, h => by unfold corEs at h; cases h
  | _ :: _, [], h => by unfold corEs at h; cases h
theorem all_cons1 {x : Expr} {xs : List Expr} (h : (x :: xs).all noStar = true) : noStar x = true ∧ xs.all noStar = true := by
  rw [List.all_cons, Bool.and_eq_true] at h
  exact h
theorem few_ok {y : Expr} {ys : List Expr} {env : Env} (h : (y :: ys).all noStar = true) (hl : ys.length < 20) :
    ((backTo pos (starEach (y :: ys) env)).all (fun x => !x.1) && (backToKw pos (keywordEach [] env)).all (fun x => x.1.isSome)
      && decide ((y :: ys).length + ([] : List Keyword).length + (if ([] : List Keyword).isEmpty then 0 else 1) < 30)) = true := by
  rw [plain_few h]
  show decide (ys.length + 1 + 0 + 0 < 30) = true
  exact decide_eq_true (by omega)
end
mutual
theorem okE {Γ : Gam} {k : Nat} : ∀ (e : E) {X : Cx} {W : WX} {C : Ck} (x : Expr), Oc X W Γ k → CkOk X C → corE C e x = true → PE X x (LfE X.K W (wE Γ e))
  | .var i, X, W, C, x, oc, ck, h => by
    unfold corE at h
    split at h
    · obtain ⟨h1, h2, h3, h4⟩ := vis_of ck h
      exact se_var h1 h2 h3 h4
    · cases h
  | .cst d, X, W, C, x, oc, ck, h => by
    unfold corE at h
    split at h
    · exact cst_ok h
    · cases h
  | .glo n, X, W, C, x, oc, ck, h => by
    unfold corE at h
    split at h
    · simp only [Bool.and_eq_true] at h
      cases beqS h.1
      obtain ⟨h1, h2, h3⟩ := gl_of ck h.2
      exact se_glo oc h1 h3 h2
    · cases h
  | .bin z o a b, X, W, C, x, oc, ck, h => by
    unfold corE at h
    split at h
    · simp only [Bool.and_eq_true, beq_iff_eq] at h
      obtain ⟨⟨rfl, h1⟩, h2⟩ := h
      obtain ⟨r, k1, k2⟩ := bin_ok X z o
      exact se_op k1 k2 (okE a _ oc ck h1) (okE b _ oc ck h2)
    · cases h
  | .neg a, X, W, C, x, oc, ck, h => by
    unfold corE at h
    split at h
    · exact se_neg (okE a _ oc ck h)
    · cases h
  | .cmp o a b, X, W, C, x, oc, ck, h => by
    unfold corE at h
    split at h
    · simp only [Bool.and_eq_true, beq_iff_eq] at h
      obtain ⟨⟨⟨rfl, h0⟩, h1⟩, h2⟩ := h
      obtain ⟨r, k1, k2⟩ := cmp_ok X oc.room.units o
      exact se_cmp k1 k2 (marks_no h0) (okE a _ oc ck h1) (okE b _ oc ck h2)
    · cases h
  | .cmp2 o o' a b c, X, W, C, x, oc, ck, h => by
    unfold corE at h
    split at h
    · simp only [Bool.and_eq_true, beq_iff_eq] at h
      obtain ⟨⟨⟨⟨⟨rfl, rfl⟩, h0⟩, h1⟩, h2⟩, h3⟩ := h
      obtain ⟨r, k1, k2⟩ := cmp_ok X oc.room.units o
      obtain ⟨r', k1', k2'⟩ := cmp_ok X oc.room.units o'
      exact se_cmp2 k1 k2 k1' k2' (marks_no h0) (okE a _ oc ck h1) (okE b _ oc ck h2) (okE c _ oc ck h3)
    · cases h
  | .andV a b, X, W, C, x, oc, ck, h => by
    unfold corE at h
    split at h
    · simp only [Bool.and_eq_true] at h
      exact se_and (okE a _ oc ck h.1) (okE b _ oc ck h.2)
    · cases h
  | .orV a b, X, W, C, x, oc, ck, h => by
    unfold corE at h
    split at h
    · simp only [Bool.and_eq_true] at h
      exact se_or (okE a _ oc ck h.1) (okE b _ oc ck h.2)
    · cases h
  | .one a, X, W, C, x, oc, ck, h => by
    unfold corE at h
    split at h
    · exact pe_one (okE a _ oc ck h)
    · cases h
  | .notV a, X, W, C, x, oc, ck, h => by
    unfold corE at h
    split at h
    · exact se_not (okE a _ oc ck h)
    · cases h
  | .ite c a b, X, W, C, x, oc, ck, h => by
    unfold corE at h
    split at h
    · simp only [Bool.and_eq_true] at h
      exact se_ite (okT c _ oc ck h.1.1).1 (okE a _ oc ck h.1.2) (okE b _ oc ck h.2)
    · cases h
  | .tup es, X, W, C, x, oc, ck, h => by
    unfold corE at h
    split at h
    · exact se_tup (okEs es _ oc ck h)
    · cases h
  | .lst z es, X, W, C, x, oc, ck, h => by
    unfold corE at h
    split at h
    · exact se_lst (okEs es _ oc ck h)
    · cases h
  | .ix a b, X, W, C, x, oc, ck, h => by
    unfold corE at h
    split at h
    · simp only [Bool.and_eq_true] at h
      exact se_ix (plain_ix h.1.1) (okE a _ oc ck h.1.2) (okE b _ oc ck h.2)
    · cases h
  | .slAll z a, X, W, C, x, oc, ck, h => by
    unfold corE at h
    split at h
    · exact se_sl (okE a _ oc ck h) so_none so_none
    · cases h
  | .slFrom z a lo, X, W, C, x, oc, ck, h => by
    unfold corE at h
    split at h
    · simp only [Bool.and_eq_true] at h
      exact se_sl (okE a _ oc ck h.1) (so_some (okE lo _ oc ck h.2)) so_none
    · cases h
  | .slTo z a hi, X, W, C, x, oc, ck, h => by
    unfold corE at h
    split at h
    · simp only [Bool.and_eq_true] at h
      exact se_sl (okE a _ oc ck h.1) so_none (so_some (okE hi _ oc ck h.2))
    · cases h
  | .sl z a lo hi, X, W, C, x, oc, ck, h => by
    unfold corE at h
    split at h
    · simp only [Bool.and_eq_true] at h
      exact se_sl (okE a _ oc ck h.1.1) (so_some (okE lo _ oc ck h.1.2)) (so_some (okE hi _ oc ck h.2))
    · cases h
  | .rev a, X, W, C, x, oc, ck, h => by unfold corE at h; cases h
  | .call f es, X, W, C, x, oc, ck, h => by
    cases hF : Γ.fn f with
    | none => exact pe_never fun ρ G Q E hw => by unfold wE at hw; rw [hF] at hw; exact hw
    | some F =>
      by_cases ha : F.ar ≤ es.length + F.dfl.length ∧ es.length ≤ F.ar
      · cases es with
        | nil =>
          unfold corE at h
          split at h
          · simp only [Bool.and_eq_true] at h
            cases beqS h.1
            obtain ⟨h1, h2, h3⟩ := gl_of ck h.2
            refine PE.imp (se_call0 oc hF h1 h2 ha.1) ?_
            rintro σ H Q ⟨ρ, G, Qa, Ea, hE, hG, hw, hp, hx⟩
            unfold wE at hw
            rw [hF] at hw
            exact ⟨ρ, G, Qa, Ea, hE, hG, hw.2, hp, hx⟩
          · cases h
        | cons e es =>
          unfold corE at h
          split at h
          · simp only [Bool.and_eq_true] at h
            cases beqS h.1.1
            obtain ⟨h1, h2, h3⟩ := gl_of ck h.1.2
            obtain ⟨l1, l2⟩ := corEs_len h.2
            obtain ⟨l3, l4⟩ := all_cons1 l2
            have hq := okEs (e :: es) _ oc ck h.2
            rw [l1] at ha
            refine PE.imp (se_call oc hF h1 h2 ha.1 ha.2 hq (star1 l3) (plain_star l4)) ?_
            rintro σ H Q ⟨ρ, G, Qa, Ea, hE, hG, hw, hp, hx⟩
            unfold wE at hw
            rw [hF] at hw
            rw [← l1]
            exact ⟨ρ, G, Qa, Ea, hE, hG, hw.2, hp, hx⟩
          · cases h
      · exact pe_never fun ρ G Q E hw => by unfold wE at hw; rw [hF] at hw; exact ha hw.1
  | .blt z f es, X, W, C, x, oc, ck, h => by
    unfold corE at h
    split at h
    · simp only [Bool.and_eq_true] at h
      cases beqS h.1.1
      obtain ⟨h1, h2, h3⟩ := gl_of ck h.1.2
      obtain ⟨l1, l2⟩ := corEs_len h.2
      obtain ⟨l3, l4⟩ := all_cons1 l2
      exact se_blt oc h1 (okEs es _ oc ck h.2) (star1 l3) (plain_star l4)
    · cases h
  | .meth m o es, X, W, C, x, oc, ck, h => by
    cases es with
    | nil =>
      unfold corE at h
      split at h
      · simp only [Bool.and_eq_true] at h
        cases beqS h.1.1.1
        exact se_meth0 (okE o _ oc ck h.2) (base_no h.1.1.2) h.1.2
      · cases h
    | cons e es =>
      unfold corE at h
      split at h
      · simp only [Bool.and_eq_true, decide_eq_true_eq] at h
        cases beqS h.1.1.1.1.1
        obtain ⟨l1, l2⟩ := corEs_len h.2
        obtain ⟨l3, l4⟩ := all_cons1 l2
        exact se_meth (okE o _ oc ck h.1.2) (okEs (e :: es) _ oc ck h.2) (base_no h.1.1.1.1.2) (few_ok l2 h.1.1.2) h.1.1.1.2 (star1 l3) (plain_star l4)
      · cases h
  | .lc z e g it own, X, W, C, x, oc, ck, h => by
    unfold corE at h
    split at h
    · simp only [Bool.and_eq_true] at h
      obtain ⟨on, rfl, k1, k2, k3, k4⟩ := lcB_ok ck oc.calm oc.nd h.1.1
      refine PE.imp (se_lcG (z := z) (wt := fun _ G Q _ => Q true G) oc (okI it _ _ oc ck h.1.2) k1 k2 k3 (fun s H c cl fp => pts_nil) (fun s H c cl fp => okE e _ (oc.blk s H _ _ fp) (into_ok ck s H _ cl c fp) h.2) k4 (fun σ H Q ρ G Qa a b c d => yes_imp _ σ H Q ρ G Qa a b c d)) ?_
      rintro σ H Q ⟨ρ, G, Qa, Ea, hE, hG, hw, hp, hx⟩
      refine ⟨ρ, G, Qa, Ea, hE, hG, ?_, hp, hx⟩
      unfold wE at hw
      unfold lcG
      simp only [lcW_if]
      exact hw
    · cases h
  | .lcIf z e g it t own, X, W, C, x, oc, ck, h => by
    unfold corE at h
    split at h
    · simp only [Bool.and_eq_true] at h
      obtain ⟨on, rfl, k1, k2, k3, k4⟩ := lcB_ok ck oc.calm oc.nd h.1.1.1
      exact se_lcG (z := z) (wt := wT Γ t) oc (okI it _ _ oc ck h.1.1.2) k1 k2 k3 (fun s H c cl fp => pts_one (okT t _ (oc.blk s H _ _ fp) (into_ok ck s H _ cl c fp) h.2).1) (fun s H c cl fp => okE e _ (oc.blk s H _ _ fp) (into_ok ck s H _ cl c fp) h.1.2) k4
        (fun σ H Q ρ G Qa a b c d => tst_imp _ σ H Q ρ G Qa a b c d)
    · cases h
  | .frz a, X, W, C, x, oc, ck, h => by
    unfold corE at h
    exact se_frz (okE a _ oc ck h)
theorem okEs {Γ : Gam} {k : Nat} : ∀ (es : List E) {X : Cx} {W : WX} {C : Ck} (xs : List Expr), Oc X W Γ k → CkOk X C → corEs C es xs = true → PA X xs (LfA X.K W (wEs Γ es))
  | [], X, W, C, [], oc, ck, h => sa_nil
  | e :: es, X, W, C, x :: xs, oc, ck, h => by
    unfold corEs at h
    simp only [Bool.and_eq_true] at h
    exact sa_cons (star1 h.1.1) (okE e _ oc ck h.1.2) (okEs es _ oc ck h.2)
  | [], _, _, _, _ :: _, _, _, h => by unfold corEs at h; cases h
  | _ :: _, _, _, _, [], _, _, h => by unfold corEs at h; cases h
theorem okT {Γ : Gam} {k : Nat} : ∀ (t : T) {X : Cx} {W : WX} {C : Ck} (x : Expr), Oc X W Γ k → CkOk X C → corT C t x = true → PT X x (LfT X.K W (wT Γ t)) ∧ ((∀ op xs p, x = .BoolOp op xs p → PW X x (LfT X.K W (wT Γ t))))
  | .and_ a b, X, W, C, x, oc, ck, h => by
    unfold corT at h
    split at h
    · simp only [Bool.and_eq_true] at h
      have q := st_and (okT a _ oc ck h.1).1 ((okT b _ oc ck h.2).2 _ _ _ rfl)
      exact ⟨q.pt, fun _ _ _ _ => q⟩
    · cases h
  | .or_ a b, X, W, C, x, oc, ck, h => by
    unfold corT at h
    split at h
    · simp only [Bool.and_eq_true] at h
      have q := st_or (okT a _ oc ck h.1).1 ((okT b _ oc ck h.2).2 _ _ _ rfl)
      exact ⟨q.pt, fun _ _ _ _ => q⟩
    · cases h
  | .one a, X, W, C, x, oc, ck, h => by
    unfold corT at h
    split at h
    · have q := pw_and1 (pos := by assumption) (okT a _ oc ck h).1
      exact ⟨q.pt, fun _ _ _ _ => q⟩
    · have q := pw_or1 (pos := by assumption) (okT a _ oc ck h).1
      exact ⟨q.pt, fun _ _ _ _ => q⟩
    · cases h
  | .not_ a, X, W, C, x, oc, ck, h => by
    unfold corT at h
    split at h
    · exact ⟨st_not (okT a _ oc ck h).1, fun _ _ _ e => by cases e⟩
    · cases h
  | .cmp o a b, X, W, C, x, oc, ck, h => by
    unfold corT at h
    split at h
    · simp only [Bool.and_eq_true, beq_iff_eq] at h
      obtain ⟨⟨⟨rfl, h0⟩, h1⟩, h2⟩ := h
      obtain ⟨r, k1, k2⟩ := cmp_ok X oc.room.units o
      exact ⟨st_cmp k1 k2 (marks_no h0) (okE a _ oc ck h1) (okE b _ oc ck h2), fun _ _ _ e => by cases e⟩
    · cases h
  | .val a, X, W, C, x, oc, ck, h => by
    unfold corT at h
    simp only [Bool.and_eq_true] at h
    refine ⟨st_val (okE a _ oc ck h.2) (val_no h.1), fun _ _ _ e => ?_⟩
    rw [e] at h
    cases h.1
  | .ite _ _ _, X, W, C, x, oc, ck, h => by unfold corT at h; cases h
theorem okI {Γ : Gam} {k : Nat} : ∀ (i : I) {X : Cx} {W : WX} {C : Ck} (tg x : Expr), Oc X W Γ k → CkOk X C → corI C i tg x = true → PI X tg x (LfI X.K W (wI Γ i))
  | .rng1 a, X, W, C, tg, x, oc, ck, h => by
    unfold corI at h
    split at h
    · simp only [Bool.and_eq_true] at h
      cases beqS h.1.1.1
      obtain ⟨h1, h2, h3⟩ := gl_of ck h.1.1.2
      exact si_rng1 h1 oc.tb.rng (okE a _ oc ck h.2) (star1 h.1.2)
    · cases h
  | .rng2 a b, X, W, C, tg, x, oc, ck, h => by
    unfold corI at h
    split at h
    · simp only [Bool.and_eq_true] at h
      cases beqS h.1.1.1.1.1
      obtain ⟨h1, h2, h3⟩ := gl_of ck h.1.1.1.1.2
      exact si_rng2 h1 oc.tb.rng (okE a _ oc ck h.1.2) (okE b _ oc ck h.2) (by rw [star1 h.1.1.1.2, star1 h.1.1.2]; rfl) (star1 h.1.1.2)
    · cases h
  | .zip a b, X, W, C, tg, x, oc, ck, h => by
    unfold corI at h
    split at h
    · simp only [Bool.and_eq_true] at h
      cases beqS h.1.1.1.1.1.2
      obtain ⟨h1, h2, h3⟩ := gl_of ck h.1.1.1.1.2
      cases tg with
      | Tuple ts kk p => exact si_zip h1 oc.tb.zip (okE a _ oc ck h.1.2) (okE b _ oc ck h.2) (star1 h.1.1.1.2) (star1 h.1.1.2)
      | _ => cases h.1.1.1.1.1.1
    · cases h
  | .enum a, X, W, C, tg, x, oc, ck, h => by
    unfold corI at h
    split at h
    · simp only [Bool.and_eq_true] at h
      cases beqS h.1.1.1.2
      obtain ⟨h1, h2, h3⟩ := gl_of ck h.1.1.2
      cases tg with
      | Tuple ts kk p => exact si_enum h1 oc.tb.enum (okE a _ oc ck h.2) (star1 h.1.2)
      | _ => cases h.1.1.1.1
    · cases h
  | .seq a, X, W, C, tg, x, oc, ck, h => by
    unfold corI at h
    exact si_seq (okE a _ oc ck h)
end
end Av


set_option Elab.async false
set_option linter.all false
set_option maxRecDepth 100000
set_option maxHeartbeats 4000000
/-! # Av11: statements checked; the rule of a def -/
namespace Av
open PySem PySem.Spec PyProof.Rows L2

def swB (C : Ck) (py : Pos) (y : Str) : Expr → Bool
  | .ListComp _ _ scope pos => (C.sc.kind == .function) && (py.line == pos.line) && !(scope.names.any fun (n, k) => n == y && (k == .local || k == .cell))
  | _ => false
def foldB : Expr → Bool
  | .Tuple vs _ _ => vs.all (foldedForSure 8) && vs.all noStar
  | _ => false
def isDoc : Expr → Bool
  | .Constant (.str _) _ _ => true
  | _ => false
mutual
def corS (C : Ck) : S → Stmt → Bool
  | .set i e, x => match x with
    | .Assign [.Name y py] v _ => locB C i y && corE C e v && (noComp v || (lclB C.sc y && swB C py y v))
    | _ => false
  | .setTp is e, x => match x with
    | .Assign [.Tuple ts _ _] v _ => namesB C ts is && corE C e v && noComp v && (noTup v || foldB v || decide (4 ≤ ts.length))
    | _ => false
  | .par2 i j a b, x => match x with
    | .Assign [.Tuple [.Name x px, .Name y py] _ _] (.Tuple [u, v] _ _) _ => locB C i x && locB C j y && lclB C.sc x && lclB C.sc y && !(i == j) && !(x == y) && (py.line == px.line) && (C.sc.kind == .function) &&
        !(foldedForSure 8 u && foldedForSure 8 v) && !(constantsAlone 8 u && constantsAlone 8 v) && noStar u && noStar v && corE C a u && corE C b v
    | _ => false
  | .par3 i j k a b c, x => match x with
    | .Assign [.Tuple [.Name x px, .Name y py, .Name z pz] _ _] (.Tuple [u, v, t] _ _) _ => (locB C i x && locB C j y && locB C k z) && (lclB C.sc x && lclB C.sc y && lclB C.sc z) && (!(i == j) && !(i == k) && !(j == k)) && (!(x == y) && !(x == z) && !(y == z)) && (py.line == px.line) && (pz.line == px.line) && (C.sc.kind == .function) &&
        !(foldedForSure 8 u && foldedForSure 8 v && foldedForSure 8 t) && !(constantsAlone 8 u && constantsAlone 8 v && constantsAlone 8 t) && (noStar u && noStar v && noStar t) && corE C a u && corE C b v && corE C c t
    | _ => false
  | .expr e, x => match x with
    | .Expr v _ => corE C e v && noComp v
    | _ => false
  | .ret e, x => match x with
    | .Return (some v) _ => corE C e v
    | _ => false
  | .retN, x => match x with
    | .Return none _ => true
    | _ => false
  | .if_ c a b, x => match x with
    | .If t u v _ => corT C c t && corSs C a u && corSs C b v
    | _ => false
  | .while_ c b, x => match x with
    | .While t u [] _ => corT C c t && corSs C b u
    | _ => false
  | .for_ g it b, x => match x with
    | .For tg iter u [] _ => corG C g tg && corI C it tg iter && noSet iter && corSs C b u
    | _ => false
  | .setIx o i e, x => match x with
    | .Assign [.Subscript x y _] v _ => noComp v && noSlice y && corE C e v && corE C o x && corE C i y
    | _ => false
  | .aug i o e, x => match x with
    | .AugAssign (.Name y _) op v _ => (op == o.op) && (o == .add || o == .sub) && locB C i y && corE C e v
    | _ => false
  | .pass, x => match x with
    | .Pass _ => true
    | .Expr v _ => isDoc v
    | _ => false
  | .brk, x => match x with
    | .Break _ => true
    | _ => false
  | .cont, x => match x with
    | .Continue _ => true
    | _ => false
  | .sub_, _ => false
def corSs (C : Ck) : List S → List Stmt → Bool
  | [], [] => true
  | s :: ss, x :: xs => corS C s x && corSs C ss xs
  | _, _ => false
end
theorem bkind {env : Env} (h : env.scope.kind = .function) : env.blockKind = .function := by unfold Env.blockKind; rw [h]; rfl
theorem sw_par2 {env : Env} {x y : Str} {px py pt p2 : Pos} {u v : Expr} {kt k2 : Nat} (hk : env.scope.kind = .function) (hx : env.scope.names.lookup x = some .local) (hy : env.scope.names.lookup y = some .local) (hl : (py.line == px.line) = true) (hne : (x == y) = false) (hu : noStar u = true) (hv : noStar v = true)
    (hf : (foldedForSure 8 u && foldedForSure 8 v) = false) (hc : (constantsAlone 8 u && constantsAlone 8 v) = false) : swappedStores [.Tuple [.Name x px, .Name y py] kt pt] (.Tuple [u, v] k2 p2) env = pure (some [x, y]) := by
  have kx : env.kindOf x = some .local := hx
  have ky : env.kindOf y = some .local := hy
  have hl' : (px.line == px.line) = true := by simp
  have hyx : (y == x) = false := by rw [beq_eq_false_iff_ne] at hne ⊢; exact fun z => hne z.symm
  unfold swappedStores
  simp only [List.filterMap, List.any, List.all, List.head?, Option.map, Option.getD, bkind hk, kx, ky, Expr.pos, hl, hl', hf, hc, Bool.and_true, List.length]
  simp [List.eraseDups, List.eraseDupsBy, List.eraseDupsBy.loop, hne, hyx, hf, hc, Bool.and_true]
  rintro (q | q)
  · cases u <;> first | (cases hu; done) | cases q
  · cases v <;> first | (cases hv; done) | cases q
theorem sw_par3 {env : Env} {x y z : Str} {px py pz pt p2 : Pos} {u v t : Expr} {kt k2 : Nat} (hk : env.scope.kind = .function) (hx : env.scope.names.lookup x = some .local) (hy : env.scope.names.lookup y = some .local) (hz : env.scope.names.lookup z = some .local) (hl : (py.line == px.line) = true) (hl2 : (pz.line == px.line) = true)
    (h1 : (x == y) = false) (h2 : (x == z) = false) (h3 : (y == z) = false) (hu : noStar u = true) (hv : noStar v = true) (ht : noStar t = true)
    (hf : (foldedForSure 8 u && foldedForSure 8 v && foldedForSure 8 t) = false) (hc : (constantsAlone 8 u && constantsAlone 8 v && constantsAlone 8 t) = false) : swappedStores [.Tuple [.Name x px, .Name y py, .Name z pz] kt pt] (.Tuple [u, v, t] k2 p2) env = pure (some [x, y, z]) := by
  have kx : env.kindOf x = some .local := hx
  have ky : env.kindOf y = some .local := hy
  have kz : env.kindOf z = some .local := hz
  have hl' : (px.line == px.line) = true := by simp
  have k1 : (y == x) = false := by rw [beq_eq_false_iff_ne] at h1 ⊢; exact fun w => h1 w.symm
  have k2 : (z == x) = false := by rw [beq_eq_false_iff_ne] at h2 ⊢; exact fun w => h2 w.symm
  have k3 : (z == y) = false := by rw [beq_eq_false_iff_ne] at h3 ⊢; exact fun w => h3 w.symm
  rw [Bool.and_assoc] at hf hc
  unfold swappedStores
  simp only [List.filterMap, List.any, List.all, List.head?, Option.map, Option.getD, bkind hk, kx, ky, kz, Expr.pos, hl, hl2, hl', hf, hc, Bool.and_true, List.length]
  simp [List.eraseDups, List.eraseDupsBy, List.eraseDupsBy.loop, h1, h2, h3, k1, k2, k3, hf, hc, Bool.and_true]
  rintro (q | q | q)
  · cases u <;> first | (cases hu; done) | cases q
  · cases v <;> first | (cases hv; done) | cases q
  · cases t <;> first | (cases ht; done) | cases q
theorem sw_fold {env : Env} {ts : List Expr} {kt : Nat} {pt : Pos} {v : Expr} (h : (noTup v || foldB v || decide (4 ≤ ts.length)) = true) : swappedStores [.Tuple ts kt pt] v env = pure none := by
  rw [Bool.or_eq_true, Bool.or_eq_true] at h
  rcases h with (h | h) | h
  · exact swap_no h
  rotate_left
  · have h := of_decide_eq_true h
    have e : (!(ts.length == 2 || ts.length == 3)) = true := by
      have e2 : (ts.length == 2) = false := by simp; omega
      have e3 : (ts.length == 3) = false := by simp; omega
      rw [e2, e3]; rfl
    cases v with
    | Tuple vs k p =>
      unfold swappedStores
      simp only [e, Bool.true_or, if_true]
    | _ => rfl
  · cases v with
    | Tuple vs k p =>
      unfold foldB at h
      simp only [Bool.and_eq_true] at h
      unfold swappedStores
      simp only [h.1]
      split
      · rfl
      · split
        · rfl
        · split
          · rfl
          · simp
    | _ => cases h
theorem sw_one {t v : Expr} {l : Nat} {env : Env} (h : noComp v = true) : swapsWithSole [t] v l env = pure false := by cases v <;> first | rfl | cases h
theorem asg_sub {o i : Expr} {p : Pos} {env : Env} (h : noSlice i = true) : ∀ v, assign (.Subscript o i p) env v = (do
      let ov ← holding [v] (eval o env)
      let iv ← holding [v, ov] (eval i env)
      standAt p
      holding [v, ov, iv] (setItem ov iv v)
      release [v, ov, iv] []) := by
  intro v
  cases i <;> first | rfl | cases h
theorem sw_sub {env : Env} {o i : Expr} {p : Pos} {v : Expr} : swappedStores [.Subscript o i p] v env = pure none := by cases v <;> rfl
section
variable {X : Cx} {W : WX} {C : Ck} {Γ : Gam} {k : Nat}
/-- a comprehension stored into a local name -/
theorem okLcS (oc : Oc X W Γ k) (ck : CkOk X C) {i : Nat} {y : Str} {py p : Pos} {v : Expr} (hi : X.N[i]? = some y) (hl : lclB C.sc y = true) (hs : swB C py y v = true) : ∀ (e : E), corE C e v = true → PS X (.Assign [.Name y py] v p) (LfS X.K W fun ρ G A => wE Γ e ρ G (fun d G1 => A.nx (ρ.set i (some d)) G1) (A.ex ρ)) := by
  cases v with
  | ListComp elt gens scope pos =>
    unfold swB at hs
    simp only [Bool.and_eq_true, Bool.not_eq_true', beq_iff_eq] at hs
    have hyl := lcl_of ck hl
    have hk : X.env.scope.kind = .function := by rw [ck.sc]; exact hs.1.1
    have hsw : ∀ gs, swapsWith (.ListComp elt gs scope pos) (some (.Name y py)) p.line X.env = pure true := fun gs => sw_true hk hyl (beq_iff_eq.mpr hs.1.2) hs.2
    intro e
    induction e using E.rec (motive_2 := fun _ => True) (motive_3 := fun _ => True) (motive_4 := fun _ => True) with
    | lc z e g it own _ _ =>
      intro h
      unfold corE at h
      split at h
      · rename_i heq
        cases heq
        simp only [Bool.and_eq_true] at h
        obtain ⟨on, rfl, k1, k2, k3, k4⟩ := lcB_ok ck oc.calm oc.nd h.1.1
        refine PS.imp (ss_setLc (z := z) (wt := fun _ G Q _ => Q true G) oc hi hyl (hsw _) (okI it _ _ oc ck h.1.2) k1 k2 k3 (fun s H c cl fp => pts_nil) (fun s H c cl fp => okE e _ (oc.blk s H _ _ fp) (into_ok ck s H _ cl c fp) h.2) k4 (fun σ H Q ρ G Qa a b c d => yes_imp _ σ H Q ρ G Qa a b c d)) ?_
        rintro D σ H ⟨ρ, G, A, hE, hG, hw, l⟩
        refine ⟨ρ, G, A, hE, hG, ?_, l⟩
        unfold wE at hw
        unfold lcG
        simp only [lcW_if]
        exact hw
      · cases h
    | lcIf z e g it t own _ _ _ =>
      intro h
      unfold corE at h
      split at h
      · rename_i heq
        cases heq
        simp only [Bool.and_eq_true] at h
        obtain ⟨on, rfl, k1, k2, k3, k4⟩ := lcB_ok ck oc.calm oc.nd h.1.1.1
        exact ss_setLc (z := z) (wt := wT Γ t) oc hi hyl (hsw _) (okI it _ _ oc ck h.1.1.2) k1 k2 k3 (fun s H c cl fp => pts_one (okT t _ (oc.blk s H _ _ fp) (into_ok ck s H _ cl c fp) h.2).1) (fun s H c cl fp => okE e _ (oc.blk s H _ _ fp) (into_ok ck s H _ cl c fp) h.1.2) k4
          (fun σ H Q ρ G Qa a b c d => tst_imp _ σ H Q ρ G Qa a b c d)
      · cases h
    | frz a ih =>
      intro h
      unfold corE at h
      exact ss_frz hi (ih h)
    | call f es _ => intro h; cases es <;> (unfold corE at h; cases h)
    | meth m o es _ _ => intro h; cases es <;> (unfold corE at h; cases h)
    | _ => first | trivial | (intro h; unfold corE at h; cases h; done) | skip
  | _ => cases hs
mutual
theorem okS (po : PassesOwn (model X.prog X.w) X.A X.env X.xe) (oc : Oc X W Γ k) (ck : CkOk X C) : ∀ (s : S) (x : Stmt), corS C s x = true → PS X x (LfS X.K W (wS Γ s))
  | .set i e, x, h => by
    unfold corS at h
    split at h
    · simp only [Bool.and_eq_true, Bool.or_eq_true] at h
      obtain ⟨⟨h1, h2⟩, h3⟩ := h
      obtain ⟨k1, k2, k3⟩ := loc_of ck h1
      rcases h3 with h3 | h3
      · exact ss_set oc.nd k1 k2 (okE e _ oc ck h2) (sw_no h3) k3
      · exact okLcS oc ck k1 h3.1 h3.2 e h2
    · cases h
  | .setTp is e, x, h => by
    unfold corS at h
    split at h
    · simp only [Bool.and_eq_true] at h
      exact ss_setTp oc.calm oc.nd (names_of ck h.1.1.1) (okE e _ oc ck h.1.1.2) (sw_one h.1.2) (sw_fold h.2)
    · cases h
  | .par2 i j a b, x, h => by
    unfold corS at h
    split at h
    · simp only [Bool.and_eq_true, Bool.not_eq_true', beq_iff_eq, beq_eq_false_iff_ne] at h
      obtain ⟨⟨⟨⟨⟨⟨⟨⟨⟨⟨⟨⟨⟨h1, h2⟩, h3⟩, h4⟩, h5⟩, h6⟩, h7⟩, h8⟩, h9⟩, h10⟩, h11⟩, h12⟩, h13⟩, h14⟩ := h
      exact ss_par2 oc.calm oc.nd (loc_of ck h1).1 (loc_of ck h2).1 h5 (lcl_of ck h3) (lcl_of ck h4) (okE a _ oc ck h13) (okE b _ oc ck h14) (star1 h11) (star1 h12)
        (sw_par2 (by rw [ck.sc]; exact h8) (lcl_of ck h3) (lcl_of ck h4) (beq_iff_eq.mpr h7) (beq_eq_false_iff_ne.mpr h6) h11 h12 h9 h10) rfl
    · cases h
  | .par3 i j m a b c, x, h => by
    unfold corS at h
    split at h
    · simp only [Bool.and_eq_true, Bool.not_eq_true', beq_iff_eq, beq_eq_false_iff_ne] at h
      obtain ⟨⟨⟨⟨⟨⟨⟨⟨⟨⟨⟨⟨⟨⟨h1, h2⟩, h3⟩, ⟨h4, h5⟩, h6⟩, ⟨h7, h8⟩, h9⟩, ⟨h10, h11⟩, h12⟩, h13⟩, h14⟩, h15⟩, h16⟩, h17⟩, ⟨h18, h19⟩, h20⟩, h21⟩, h22⟩, h23⟩ := h
      exact ss_par3 oc.calm oc.nd (loc_of ck h1).1 (loc_of ck h2).1 (loc_of ck h3).1 h7 h8 h9 (lcl_of ck h4) (lcl_of ck h5) (lcl_of ck h6) (okE a _ oc ck h21) (okE b _ oc ck h22) (okE c _ oc ck h23) (star1 h18) (star1 h19) (star1 h20)
        (sw_par3 (by rw [ck.sc]; exact h15) (lcl_of ck h4) (lcl_of ck h5) (lcl_of ck h6) (beq_iff_eq.mpr h13) (beq_iff_eq.mpr h14) (beq_eq_false_iff_ne.mpr h10) (beq_eq_false_iff_ne.mpr h11) (beq_eq_false_iff_ne.mpr h12) h18 h19 h20 h16 h17) rfl
    · cases h
  | .expr e, x, h => by
    unfold corS at h
    split at h
    · simp only [Bool.and_eq_true] at h
      exact ss_expr (okE e _ oc ck h.1) (sw_no h.2)
    · cases h
  | .ret e, x, h => by
    unfold corS at h
    split at h
    · exact ss_ret (okE e _ oc ck h)
    · cases h
  | .retN, x, h => by
    unfold corS at h
    split at h
    · exact ss_retN
    · cases h
  | .if_ c a b, x, h => by
    unfold corS at h
    split at h
    · simp only [Bool.and_eq_true] at h
      exact ss_if (okT c _ oc ck h.1.1).1 (okSs po oc ck a _ h.1.2) (okSs po oc ck b _ h.2)
    · cases h
  | .while_ c b, x, h => by
    unfold corS at h
    split at h
    · simp only [Bool.and_eq_true] at h
      exact ss_while po (okT c _ oc ck h.1).1 (okSs po oc ck b _ h.2)
    · cases h
  | .for_ g it b, x, h => by
    unfold corS at h
    split at h
    · simp only [Bool.and_eq_true] at h
      exact ss_for po oc.calm (okI it _ _ oc ck h.1.1.2) (corG_ok ck oc.calm oc.nd h.1.1.1) (okSs po oc ck b _ h.2) (fold_no h.1.2)
    · cases h
  | .setIx o i e, x, h => by
    unfold corS at h
    split at h
    · simp only [Bool.and_eq_true] at h
      obtain ⟨⟨⟨⟨h1, h2⟩, h3⟩, h4⟩, h5⟩ := h
      exact ss_setIx (okE e _ oc ck h3) (okE o _ oc ck h4) (okE i _ oc ck h5) (sw_one h1) sw_sub rfl (asg_sub h2)
    · cases h
  | .aug i o e, x, h => by
    unfold corS at h
    split at h
    · simp only [Bool.and_eq_true, Bool.or_eq_true, beq_iff_eq] at h
      obtain ⟨⟨⟨rfl, h1⟩, h2⟩, h3⟩ := h
      obtain ⟨k1, k2, k3⟩ := loc_of ck h2
      exact ss_aug oc.nd k1 k2 (okE e _ oc ck h3) h1 k3
    · cases h
  | .pass, x, h => by
    unfold corS at h
    split at h
    · exact ss_pass
    · rename_i v p
      cases v with
      | Constant c j q =>
        cases c with
        | str z => exact ss_doc
        | _ => cases h
      | _ => cases h
    · cases h
  | .brk, x, h => by
    unfold corS at h
    split at h
    · exact ss_brk
    · cases h
  | .cont, x, h => by
    unfold corS at h
    split at h
    · exact ss_cont
    · cases h
  | .sub_, x, h => by unfold corS at h; cases h
theorem okSs (po : PassesOwn (model X.prog X.w) X.A X.env X.xe) (oc : Oc X W Γ k) (ck : CkOk X C) : ∀ (ss : List S) (xs : List Stmt), corSs C ss xs = true → PSs X xs (LfS X.K W (wSs Γ ss))
  | [], [], _ => sss_nil
  | s :: ss, x :: xs, h => by
    unfold corSs at h
    simp only [Bool.and_eq_true] at h
    exact sss_cons (ws := wS Γ s) (wr := wSs Γ ss) (okS po oc ck s x h.1) (okSs po oc ck ss xs h.2)
  | [], _ :: _, h => by unfold corSs at h; cases h
  | _ :: _, [], h => by unfold corSs at h; cases h
end
end
/-! ### a def -/
def startD (N : List Str) (ds : List Dat) : Env' := ds.map some ++ List.replicate (N.length - ds.length) none
def endsOf (Q : AQ) (X : AX) : AEnds := ⟨fun _ G => ∃ G0, Sub G0 G ∧ Q .non G0, fun d G => ∃ G0, Sub G0 G ∧ Q d G0, fun _ _ => False, fun _ _ => False, fun _ c fs G => ∃ G0, Sub G0 G ∧ X c fs G0⟩
theorem relE_start {K : PySem.W.Frag} {H : Hp} {N : List Str} {vs : List V} {ds : List Dat} (r : Reps K H vs ds) : RelE K H (startD N ds) (L2.start N vs) := by
  refine ⟨by simp [startD, L2.start, r.length], fun i d e => ?_⟩
  unfold startD at e
  unfold L2.start
  by_cases hi : i < ds.length
  · rw [List.getElem?_append_left (by rw [List.length_map]; exact hi), List.getElem?_map] at e
    rw [List.getElem?_append_left (by rw [List.length_map, r.length]; exact hi), List.getElem?_map]
    obtain ⟨v, d', h1, h2, h3⟩ := r.lt hi
    rw [h2] at e
    cases e
    exact ⟨v, by rw [h1]; rfl, h3⟩
  · rw [List.getElem?_append_right (by rw [List.length_map]; omega), List.getElem?_replicate] at e
    split at e <;> cases e
def scopeB (N ps : List Str) (sc : Scope) : Bool :=
  (sc.kind == .function) && !sc.isCoroutine && !sc.isGenerator && decide N.Nodup && (N.take ps.length == ps) && (ps.all fun x => lclB sc x || celB sc x) && (sc.names.all fun y => !(y.2 == .free))
theorem scopeB_ok {N ps : List Str} {sc : Scope} (h : scopeB N ps sc = true) : FnScope N ps sc := by
  unfold scopeB at h
  simp only [Bool.and_eq_true, Bool.not_eq_true', beq_iff_eq, decide_eq_true_eq, List.all_eq_true, Bool.or_eq_true, beq_eq_false_iff_ne] at h
  obtain ⟨⟨⟨⟨⟨⟨h1, h2⟩, h3⟩, h4⟩, h5⟩, h6⟩, h7⟩ := h
  refine ⟨h1, h2, h3, h4, h5, fun x hx => ?_, h7⟩
  rcases h6 x hx with q | q
  · unfold lclB at q
    split at q
    · exact .inl (by assumption)
    · cases q
  · unfold celB at q
    split at q
    · exact .inr (by assumption)
    · cases q
/-- THE RULE of a def -/
theorem fnOk {P : Program} {w : World} {K : PySem.W.Frag} {mg : Str → Option Value} {base : Heap} {Γ : Gam} {k : Nat} {F : FnE} {N ps : List Str} {ss : List S} {x qual : Str} {params : Arguments} {body : List Stmt} {scope : Scope} {dvs : List V} {kws : List (Str × V)} {f : Addr} {fd : FuncData}
    (FD : FunD K x qual params body scope dvs kws f fd) (hS : scopeB N ps scope = true) (hl : ps.length = F.ar) (tb : TbOk P w K mg base Γ k) (cor : corSs ⟨N, scope, true⟩ ss body = true)
    (hw : ∀ ds G Q X, F.con ds G Q X → wSs Γ ss (startD N ds) G (endsOf Q X)) : FnOk P w K mg base (L2.CX P w) (k + 1) f fd ps (spOf K F) := by
  have S := scopeB_ok hS
  refine FD.ok S (fun vs H Q E h => by rw [hl]; exact spOf_len h) fun cdv A outer s H vs Q E hr hsp => ?_
  obtain ⟨ds, G, Qa, Ea, r, g, hc, hp, hx⟩ := hsp
  refine ⟨LfS K (fun cls d _ H => E cls d H) (wSs Γ ss), okSs (passes_of rfl) ⟨hr, S.nd, rfl, takes_of rfl rfl rfl rfl, tb⟩ ⟨rfl, rfl, fun _ _ => rfl⟩ ss body cor, startD N ds, G, endsOf Qa Ea, relE_start r, g, hw ds G Qa Ea hc, ?_⟩
  refine ⟨fun ρ' G' σ' H' f e g' q => ?_, fun d G' v H' f g' rv q => ?_, fun _ _ _ _ _ _ _ q => q.elim, fun _ _ _ _ _ _ _ q => q.elim, fun ρ' G' σ' H' f e c fs G'' dx H'' f2 g2 rx q => ?_⟩
  · obtain ⟨G0, s0, q⟩ := q
    exact hp .non G0 .non H' (f.trans (.sub s0)) (g'.sub s0) .non q
  · obtain ⟨G0, s0, q⟩ := q
    exact hp d G0 v H' (f.trans (.sub s0)) (g'.sub s0) rv q
  · obtain ⟨G0, s0, q⟩ := q
    exact hx c fs G0 dx H'' ((f.trans f2).trans (.sub s0)) (g2.sub s0) rx q
end Av


set_option Elab.async false
set_option linter.all false
set_option maxRecDepth 100000
set_option maxHeartbeats 4000000
/-! # AvP: what all the laws share -/
namespace Av
open PySem PySem.Spec PyProof.Rows L2

theorem forW_of {body : Env' → AG → AEnds → Prop} {g : TGt} {gd : Gd} {A : AEnds} (I : List Dat → Env' → AG → Prop)
    (step : ∀ d ds ρ G (N : Env' → AG → Prop), (∀ ρ G, I ds ρ G → N ρ G) → I (d :: ds) ρ G → gdOk G gd ∧ tgW g d ρ fun ρ1 => body ρ1 G { A with nx := N, ct := N, bk := A.nx })
    (done : ∀ ρ G, I [] ρ G → gdOk G gd ∧ A.nx ρ G) : ∀ ds ρ G, I ds ρ G → forW body g gd A ds ρ G
  | [], ρ, G, h => done ρ G h
  | d :: ds, ρ, G, h => step d ds ρ G _ (forW_of I step done ds) h
theorem lcW_of {z : Bool} {elt : Env' → AG → AQ → Prop} {g : TGt} {own : List Nat} {gd : Gd} {ρ : Env'} {Q : AQ} (I : List Dat → List Dat → AG → Prop)
    (step : ∀ d ds acc G (N : List Dat → AG → Prop), (∀ acc G, I ds acc G → N acc G) → I (d :: ds) acc G → gdOk G gd ∧ tgW g d (wipeD ρ own) fun ρ1 => elt ρ1 G fun y G2 => acc.length < sizeLine ∧ N (acc ++ [y]) G2)
    (done : ∀ acc G, I [] acc G → gdOk G gd ∧ if z = true then Q (.lst acc) G else ∀ p, G p = none → Q (.ref p) (gu G p (.lst acc))) : ∀ ds acc G, I ds acc G → lcW z elt g own gd ρ Q ds acc G
  | [], acc, G, h => done acc G h
  | d :: ds, acc, G, h => step d ds acc G (fun acc G => lcW z elt g own gd ρ Q ds acc G) (fun acc G => lcW_of I step done ds acc G) h

/-! ### steps -/
section
variable {G : AG} {p : Addr} {ds : List Dat} {i : Int} {d v : Dat} {Q : AQ}
theorem ixA (h : G p = some (.lst ds)) (h2 : atI ds i = some d) (q : Q d G) : ixW (.ref p) (.int i) G Q := ⟨ds, d, by show (match G p with | some (.lst ds) => some ds | _ => none) = some ds; rw [h], h2, q⟩
theorem ixT (h2 : atI ds i = some d) (q : Q d G) : ixW (.tup ds) (.int i) G Q := ⟨ds, d, rfl, h2, q⟩
theorem ixL (h2 : atI ds i = some d) (q : Q d G) : ixW (.lst ds) (.int i) G Q := ⟨ds, d, rfl, h2, q⟩
theorem ixK (h2 : atI ds i = some d) (q : Q d G) : ixW (.kls ds) (.int i) G Q := ⟨ds, d, rfl, h2, q⟩
theorem setA {Q : AG → Prop} {j : Nat} (h : G p = some (.lst ds)) (h2 : ixN ds.length i = some j) (q : Q (gu G p (.lst (ds.set j v)))) : setW (.ref p) (.int i) v G Q := ⟨ds, j, h, h2, q⟩
theorem atI_nat (h : 0 ≤ i) : atI ds i = ds[i.toNat]? := by
  unfold atI ixN
  rw [if_pos h]
  by_cases h1 : i < (ds.length : Int)
  · rw [if_pos h1]; rfl
  · rw [if_neg h1, List.getElem?_eq_none (by omega)]; rfl
theorem atI_in (h : 0 ≤ i) (h2 : i < ds.length) : ∃ d, atI ds i = some d ∧ d ∈ ds := by
  have h3 : i.toNat < ds.length := by omega
  exact ⟨ds[i.toNat], by rw [atI_nat h, List.getElem?_eq_getElem h3], List.getElem_mem h3⟩
end
/-! ### draws -/
/-- an object to draw of: at least n draws are left -/
def DrO (n : Nat) (o : AO) : Prop := ∃ a b c : Int, o = .lst [.int a, .int b, .int c] ∧ 0 ≤ b ∧ b < 2 ^ 40 ∧ 0 ≤ c ∧ c + n ≤ 2 ^ 40
theorem DrO.mono {m n : Nat} {o : AO} (h : DrO n o) (l : m ≤ n) : DrO m o := by
  obtain ⟨a, b, c, h1, h2, h3, h4, h5⟩ := h
  exact ⟨a, b, c, h1, h2, h3, h4, by omega⟩
def c_draw : Con := fun ds G Q X => ∃ p m n o, ds = [.ref p, .int m] ∧ G p = some o ∧ DrO (n + 1) o ∧ 0 < m ∧ m < 2 ^ 30 ∧ ∀ r o', 0 ≤ r → r < m → DrO n o' → Q (.int r) (gu G p o')
def f_draw : FnE := { con := c_draw, ar := 2, len := fun ds G Q X ⟨p, m, n, o, h, _⟩ => by rw [h]; rfl }
def b_draw : List S := [
  .setIx (.var 0) (.cst (.int 2)) (.bin true .add (.ix (.var 0) (.cst (.int 2))) (.cst (.int 1))),
  .if_ (.cmp .gt (.ix (.var 0) (.cst (.int 0))) (.cst (.int 0))) [.set 3 (.bin true .mod (.blt true .int [(.ix (.var 0) (.cst (.int 0)))]) (.var 1)), .setIx (.var 0) (.cst (.int 0)) (.bin true .fdiv (.ix (.var 0) (.cst (.int 0))) (.var 1)), .ret (.var 3)] [],
  .set 2 (.bin true .mod (.bin true .pow (.blt true .int [(.bin true .add (.ix (.var 0) (.cst (.int 1))) (.bin true .mul (.cst (.int 7919)) (.ix (.var 0) (.cst (.int 2)))))]) (.cst (.int 5))) (.cst (.int 2147483647))),
  .ret (.bin true .mod (.bin true .fdiv (.bin true .mod (.bin true .mul (.bin true .add (.var 2) (.ix (.var 0) (.cst (.int 2)))) (.cst (.int 40692))) (.cst (.int 2147483629))) (.cst (.int 16))) (.var 1))]
theorem ok_draw (Γ : Gam) (N : List Str) (hN : N.length = 4) (ds : List Dat) (G : AG) (Q : AQ) (X : AX) (h : c_draw ds G Q X) : wSs Γ b_draw (startD N ds) G (endsOf Q X) := by
  obtain ⟨p, m, n, o, rfl, hp, ⟨a, b, c, rfl, h1, h2, h3, h4⟩, h5, h6, hq⟩ := h
  simp only [b_draw, startD, hN, List.map, List.length, List.replicate, List.append, List.cons_append, List.nil_append, wSs, wS, wE, wEs, wT, List.getElem?_cons_zero, List.getElem?_cons_succ]
  refine ixA hp rfl ?_
  simp only [binW]
  refine setA hp rfl ?_
  refine ixA gu_same rfl ?_
  simp only [cmpW, boolW, List.set]
  by_cases ha : 0 < a
  · simp only [ha, decide_true, if_true]
    refine ixA gu_same rfl ?_
    simp only [bltW, binW]
    refine ⟨h5, ?_⟩
    simp only [List.getElem?_cons_zero, List.getElem?_cons_succ]
    refine ixA gu_same rfl ?_
    simp only [binW]
    refine ⟨⟨h5, by omega⟩, ?_⟩
    refine setA gu_same rfl ?_
    simp only [List.set, gu_gu]
    exact ⟨_, .refl _, hq _ _ (Int.emod_nonneg _ (by omega)) (Int.emod_lt_of_pos _ h5) ⟨a / m, b, c + 1, rfl, h1, h2, by omega, by omega⟩⟩
  · simp only [ha, decide_false, if_false, Bool.false_eq_true]
    refine ixA gu_same rfl ?_
    refine ixA gu_same rfl ?_
    simp only [binW, bltW]
    refine ⟨.inl ⟨by omega, by omega⟩, ⟨by omega, by omega, by omega⟩, by omega, ?_⟩
    simp only [List.getElem?_cons_zero, List.getElem?_cons_succ]
    refine ixA gu_same rfl ?_
    simp only [binW]
    refine ⟨.inr ⟨by omega, by omega⟩, by omega, ⟨by omega, by omega⟩, h5, ?_⟩
    exact ⟨_, .refl _, hq _ _ (Int.emod_nonneg _ (by omega)) (Int.emod_lt_of_pos _ h5) ⟨a, b, c + 1, rfl, h1, h2, by omega, by omega⟩⟩
/-- what holds its items for good -/
def fixOf : Dat → Option (List Dat)
  | .tup ds => some ds
  | .lst ds => some ds
  | .kls ds => some ds
  | _ => none
theorem fix_seq {G : AG} {d : Dat} {ds : List Dat} (h : fixOf d = some ds) : seqOf G d = some ds := by
  cases d <;> first | exact h | cases h
theorem ixF {G : AG} {x d : Dat} {ds : List Dat} {i : Int} {Q : AQ} (h : fixOf x = some ds) (h2 : atI ds i = some d) (q : Q d G) : ixW x (.int i) G Q := ⟨ds, d, fix_seq h, h2, q⟩
def c_source : Con := fun ds G Q X => ∃ sc k ns, ds = [sc, .int k] ∧ fixOf sc = some (List.map Dat.int ns) ∧ 0 ≤ k ∧ k < 1000 ∧ ∀ p o, G p = none → DrO (2 ^ 38) o → Q (.ref p) (gu G p o)
def f_source : FnE := { con := c_source, ar := 2, len := fun ds G Q X ⟨_, _, _, h, _⟩ => by rw [h]; rfl }
def b_source : List S := [
  .set 2 (.cst (.int 0)),
  .set 3 (.cst (.int 0)),
  .if_ (.cmp .gt (.blt true .len [(.var 0)]) (.cst (.int 0))) [.set 2 (.ix (.var 0) (.bin true .mod (.blt true .int [(.var 1)]) (.blt true .len [(.var 0)])))] [],
  .if_ (.and_ (.cmp .lt (.var 1) (.blt true .len [(.var 0)])) (.one (.cmp .ge (.var 2) (.bin true .pow (.cst (.int 10)) (.cst (.int 18)))))) [.set 3 (.var 2)] [],
  .ret (.lst false [(.var 3), (.bin true .add (.bin true .add (.bin true .mod (.blt true .int [(.var 2)]) (.cst (.int 2147483647))) (.bin true .mul (.cst (.int 7919000)) (.var 1))) (.cst (.int 104729))), (.cst (.int 0))])]
theorem ok_source (Γ : Gam) (N : List Str) (hN : N.length = 4) (ds : List Dat) (G : AG) (Q : AQ) (X : AX) (h : c_source ds G Q X) : wSs Γ b_source (startD N ds) G (endsOf Q X) := by
  obtain ⟨sc, k, ns, rfl, hs, h1, h2, hq⟩ := h
  have fin : ∀ a b : Int, ∃ ds : List Dat, ds = [.int a, .int (b % 2147483647 + 7919000 * k + 104729), .int 0] ∧ (newL ds G fun d G' => ∃ G0, Sub G0 G' ∧ Q d G0) := fun a b => ⟨_, rfl, by show 3 ≤ sizeLine; decide, fun p hp => ⟨_, .refl _, hq p _ hp ⟨a, _, 0, rfl, by omega, by omega, by omega, by omega⟩⟩⟩
  have last : ∀ (cell deep : Int), wSs Γ [.if_ (.and_ (.cmp .lt (.var 1) (.blt true .len [(.var 0)])) (.one (.cmp .ge (.var 2) (.bin true .pow (.cst (.int 10)) (.cst (.int 18)))))) [.set 3 (.var 2)] [],
      .ret (.lst false [(.var 3), (.bin true .add (.bin true .add (.bin true .mod (.blt true .int [(.var 2)]) (.cst (.int 2147483647))) (.bin true .mul (.cst (.int 7919000)) (.var 1))) (.cst (.int 104729))), (.cst (.int 0))])] [some sc, some (.int k), some (.int cell), some (.int deep)] G (endsOf Q X) := fun cell deep => by
    have tail : ∀ a : Int, wSs Γ [.ret (.lst false [(.var 3), (.bin true .add (.bin true .add (.bin true .mod (.blt true .int [(.var 2)]) (.cst (.int 2147483647))) (.bin true .mul (.cst (.int 7919000)) (.var 1))) (.cst (.int 104729))), (.cst (.int 0))])] [some sc, some (.int k), some (.int cell), some (.int a)] G (endsOf Q X) := fun a => by
      obtain ⟨ds, rfl, hf⟩ := fin a cell
      simp only [wSs, wS, wE, wEs, List.getElem?_cons_zero, List.getElem?_cons_succ, bltW, binW, nw, Bool.false_eq_true, if_false]
      exact ⟨by omega, .inl ⟨by omega, by omega⟩, hf⟩
    rw [wSs]
    simp only [wS, wSs, wT, wE, wEs, List.getElem?_cons_zero, List.getElem?_cons_succ, bltW]
    refine ⟨_, fix_seq hs, ?_⟩
    simp only [cmpW, boolW]
    by_cases hk : k < ((List.map Dat.int ns).length : Int)
    · simp only [hk, decide_true, if_true]
      refine ⟨⟨by omega, by omega, by decide⟩, ?_⟩
      by_cases hc : ((10 : Int) ^ (18 : Int).toNat ≤ cell)
      · simp only [hc, decide_true, if_true]
        exact tail _
      · simp only [hc, decide_false, if_false, Bool.false_eq_true]
        exact tail _
    · simp only [hk, decide_false, if_false, Bool.false_eq_true]
      exact tail _
  have mid : wSs Γ b_source (startD N [sc, .int k]) G (endsOf Q X) = wSs Γ b_source [some sc, some (.int k), none, none] G (endsOf Q X) := by
    unfold startD
    rw [hN]
    rfl
  rw [mid]
  unfold b_source
  rw [wSs]; simp only [wS, wE, List.set]
  rw [wSs]; simp only [wS, wE, List.set]
  rw [wSs]
  simp only [wS, wE, wEs, wT, List.getElem?_cons_zero, List.getElem?_cons_succ, bltW]
  refine ⟨_, fix_seq hs, ?_⟩
  simp only [cmpW, boolW]
  by_cases hn : (0 : Int) < ((List.map Dat.int ns).length : Int)
  · simp only [hn, decide_true, if_true]
    rw [wSs]
    simp only [wS, wSs, wE, wEs, List.getElem?_cons_zero, List.getElem?_cons_succ, bltW]
    refine ⟨_, fix_seq hs, ?_⟩
    simp only [binW]
    refine ⟨hn, ?_⟩
    obtain ⟨d, hd, hm⟩ := atI_in (ds := List.map Dat.int ns) (Int.emod_nonneg k (by omega)) (Int.emod_lt_of_pos k hn)
    refine ixF hs hd ?_
    obtain ⟨c, _, rfl⟩ := List.mem_map.mp hm
    exact last c 0
  · simp only [hn, decide_false, if_false, Bool.false_eq_true]
    exact last 0 0
def c_pick : Con := fun ds G Q X => ∃ p n o sm items, ds = [.ref p, sm] ∧ G p = some o ∧ DrO (n + 1) o ∧ fixOf sm = some items ∧ 0 < items.length ∧ items.length < 2 ^ 30 ∧ ∀ d o', d ∈ items → DrO n o' → Q d (gu G p o')
def f_pick : FnE := { con := c_pick, ar := 2, len := fun ds G Q X ⟨_, _, _, _, _, h, _⟩ => by rw [h]; rfl }
def b_pick : List S := [.ret (.ix (.var 1) (.call "_law_draw" [(.var 0), (.blt true .len [(.var 1)])]))]
theorem ok_pick (Γ : Gam) (hd : Γ.fn "_law_draw" = some f_draw) (N : List Str) (hN : N.length = 2) (ds : List Dat) (G : AG) (Q : AQ) (X : AX) (h : c_pick ds G Q X) : wSs Γ b_pick (startD N ds) G (endsOf Q X) := by
  obtain ⟨p, n, o, sm, items, rfl, hp, ho, hs, h1, h2, hq⟩ := h
  simp only [b_pick, startD, hN, List.map, List.length, List.replicate, List.cons_append, List.nil_append, wSs, wS, wE, wEs, List.getElem?_cons_zero, List.getElem?_cons_succ, hd, bltW, f_draw, List.drop_nil, List.append_nil]
  refine ⟨⟨by decide, by decide⟩, _, fix_seq hs, p, _, n, o, rfl, hp, ho, by omega, by omega, fun r o' h3 h4 h5 => ?_⟩
  obtain ⟨d, hd, hm⟩ := atI_in h3 h4
  exact ixF hs hd ⟨_, .refl _, hq d o' hm h5⟩
end Av


set_option Elab.async false
set_option linter.all false
set_option maxRecDepth 100000
set_option maxHeartbeats 4000000
/-! # AvP2: _law_same -/
namespace Av
open PySem PySem.Spec PyProof.Rows L2

def leafD : Dat → Option PyData
  | .non => some .none
  | .bl b => some (.bool b)
  | .int i => some (.int i)
  | .str s => if (PyData.str s).canLay0 = true then some (.str s) else none
  | _ => none
/-- the same by what they hold, to a depth -/
def SameN (G : AG) : Nat → Dat → Dat → Prop
  | 0, x, y => x = y ∧ (leafD x).isSome = true
  | n + 1, x, y => (x = y ∧ (leafD x).isSome = true) ∨
      (∃ xs ys, x = .tup xs ∧ y = .tup ys ∧ xs.length = ys.length ∧ xs.length ≤ sizeLine ∧ ∀ (i : Nat) (a b : Dat), xs[i]? = some a → ys[i]? = some b → SameN G n a b) ∨
      ∃ xs ys, lstOf G x = some xs ∧ lstOf G y = some ys ∧ xs.length = ys.length ∧ xs.length ≤ sizeLine ∧ ∀ (i : Nat) (a b : Dat), xs[i]? = some a → ys[i]? = some b → SameN G n a b
theorem leaf_deep {G : AG} {x : Dat} (h : (leafD x).isSome = true) : ∃ p, Deep G x p ∧ SeqAt.shaped p = true ∧ PyData.eqv p p = true := by
  cases x with
  | non => exact ⟨_, .non, by decide, by decide⟩
  | bl b => exact ⟨_, .bl b, by cases b <;> decide, by cases b <;> decide⟩
  | int i => exact ⟨_, .int i, rfl, SeqAt.eqv_refl _ rfl⟩
  | str s =>
    simp only [leafD] at h
    by_cases q : (PyData.str s).canLay0 = true
    · refine ⟨_, .str s, ?_, SeqAt.eqv_refl _ q⟩
      unfold SeqAt.shaped
      rw [q]
      rfl
    · rw [if_neg q] at h; cases h
  | _ => cases h
theorem eq_leaf {G : AG} {x : Dat} {Q : AQ} (h : (leafD x).isSome = true) (q : Q (.bl true) G) : cmpW .eq x x G Q := by
  obtain ⟨p, h1, h2, h3⟩ := leaf_deep (G := G) h
  refine ⟨p, p, h1, h1, h2, h2, ?_⟩
  simp only [Bool.false_eq_true, if_false, h3]
  exact q
def c_same (n : Nat) : Con := fun ds G Q X => ∃ x y, ds = [x, y] ∧ SameN G n x y ∧ Q (.bl true) G
def f_same (n : Nat) : FnE := { con := c_same n, ar := 2, len := fun ds G Q X ⟨_, _, h, _⟩ => by rw [h]; rfl }
def b_same : List S := [
  .if_ (.val (.blt true .isinst [(.var 1), (.tup [(.glo "list"), (.glo "tuple")])])) [.if_ (.or_ (.cmp .ne (.blt true .isinst [(.var 0), (.glo "list")]) (.blt true .isinst [(.var 1), (.glo "list")])) (.one (.cmp .ne (.blt true .isinst [(.var 0), (.glo "tuple")]) (.blt true .isinst [(.var 1), (.glo "tuple")])))) [.ret (.cst (.bl false))] [], .ret (.andV (.cmp .eq (.blt true .len [(.var 0)]) (.blt true .len [(.var 1)])) (.one (.blt true .all [(.lc true (.call "_law_same" [(.var 2), (.var 3)]) (.tp [2, 3]) (.zip (.var 0) (.var 1)) [2, 3])])))] [],
  .if_ (.val (.blt true .isinst [(.var 1), (.tup [(.glo "bool"), (.glo "int")])])) [.ret (.andV (.blt true .isinst [(.var 0), (.glo "int")]) (.andV (.cmp .eq (.blt true .isinst [(.var 0), (.glo "bool")]) (.blt true .isinst [(.var 1), (.glo "bool")])) (.one (.cmp .eq (.var 0) (.var 1)))))] [],
  .ret (.andV (.notV (.blt true .isinst [(.var 0), (.tup [(.glo "bool"), (.glo "list"), (.glo "tuple")])])) (.one (.cmp .eq (.var 0) (.var 1))))]
structure TyGl (Γ : Gam) : Prop where
  list : Γ.gl "list" = some (.ty "list")
  tuple : Γ.gl "tuple" = some (.ty "tuple")
  bool : Γ.gl "bool" = some (.ty "bool")
  int : Γ.gl "int" = some (.ty "int")
theorem isi1 {G : AG} {x : Dat} {n t : String} {b : Bool} {Q : AQ} (h : tyOf G x = some t) (h2 : kitB t n = some b) (q : Q (.bl b) G) : isiW x (.ty n) G Q := ⟨t, b, h, h2, q⟩
theorem isiT {G : AG} {x : Dat} {t : String} {cs : List Dat} {b : Bool} {Q : AQ} (h : tyOf G x = some t) (h2 : isiAny t cs = some b) (q : Q (.bl b) G) : isiW x (.tup cs) G Q := ⟨t, b, h, h2, q⟩
theorem lst_ty {G : AG} {x : Dat} {xs : List Dat} (h : lstOf G x = some xs) : tyOf G x = some "list" := by
  cases x with
  | lst ds => rfl
  | ref a =>
    cases e : G a with
    | none => simp only [lstOf, e] at h; cases h
    | some o =>
      cases o with
      | lst ds => simp only [tyOf, e]
      | _ => simp only [lstOf, e] at h; cases h
  | _ => cases h
theorem lst_G {G : AG} {x : Dat} {xs : List Dat} {Q : List Dat → Gd → AG → Prop} (h : lstOf G x = some xs) (q : ∀ gd, gdOk G gd → Q xs gd G) : lstG x G Q := by
  cases x with
  | lst ds => cases h; exact q [] trivial
  | ref a =>
    cases e : G a with
    | none => simp only [lstOf, e] at h; cases h
    | some o =>
      cases o with
      | lst ds =>
        simp only [lstOf, e] at h
        cases h
        exact ⟨_, e, q _ ⟨e, trivial⟩⟩
      | _ => simp only [lstOf, e] at h; cases h
  | _ => cases h
theorem zipD_at : ∀ (xs ys : List Dat) (i : Nat) (d : Dat), (zipD xs ys)[i]? = some d → ∃ a b, d = .tup [a, b] ∧ xs[i]? = some a ∧ ys[i]? = some b
  | [], _, i, d, h => by simp [zipD] at h
  | _ :: _, [], i, d, h => by simp [zipD] at h
  | x :: xs, y :: ys, 0, d, h => by
    have e : some (Dat.tup [x, y]) = some d := h
    cases e
    exact ⟨x, y, rfl, rfl, rfl⟩
  | x :: xs, y :: ys, i + 1, d, h => zipD_at xs ys i d h
theorem blsOf_rep (n : Nat) : blsOf (List.replicate n (.bl true)) = some (List.replicate n true) := by
  induction n with
  | zero => rfl
  | succ n ih => rw [List.replicate_succ, List.replicate_succ]; simp only [blsOf, ih]; rfl
/-- the comprehension over the pairs -/
theorem same_lc {Γ : Gam} {n : Nat} (hs : Γ.fn "_law_same" = some (f_same n)) {G : AG} {gd : Gd} {ρ : Env'} {Q : AQ} {xs ys : List Dat} (hg : gdOk G gd) (hl : xs.length ≤ sizeLine) (hlen : 4 ≤ ρ.length)
    (h : ∀ (i : Nat) (a b : Dat), xs[i]? = some a → ys[i]? = some b → SameN G n a b) (q : ∀ m, Q (.lst (List.replicate m (.bl true))) G) :
    lcW true (fun ρ1 G Q => wE Γ (.call "_law_same" [(.var 2), (.var 3)]) ρ1 G Q noX) (.tp [2, 3]) [2, 3] gd ρ Q (zipD xs ys) [] G := by
  have tot : (zipD xs ys).length ≤ sizeLine := by rw [zipD_len]; omega
  refine lcW_of (fun rem acc G' => G' = G ∧ (∃ m, acc = List.replicate m (.bl true) ∧ m + rem.length = (zipD xs ys).length) ∧ ∀ d ∈ rem, ∃ a b, d = .tup [a, b] ∧ SameN G n a b) ?_ ?_ _ _ _ ⟨rfl, ⟨0, rfl, by simp⟩, fun d hd => ?_⟩
  · rintro d rem acc G' N hN ⟨rfl, ⟨m, rfl, hm⟩, hr⟩
    obtain ⟨a, b, rfl, hab⟩ := hr d (List.mem_cons_self ..)
    refine ⟨hg, rfl, ?_⟩
    have l2 : (wipeD ρ [2, 3]).length = ρ.length := by simp [wipeD]
    have e2 : (setAll [2, 3] [a, b] (wipeD ρ [2, 3]))[2]? = some (some a) := by
      simp only [setAll]
      rw [List.getElem?_set_ne (by decide), List.getElem?_set_self (by rw [l2]; omega)]
    have e3 : (setAll [2, 3] [a, b] (wipeD ρ [2, 3]))[3]? = some (some b) := by
      simp only [setAll]
      rw [List.getElem?_set_self (by rw [List.length_set, l2]; omega)]
    simp only [wE, wEs, e2, e3, hs, f_same, List.length, List.drop_nil, List.append_nil]
    refine ⟨⟨by decide, by decide⟩, a, b, rfl, hab, ?_⟩
    rw [List.length_cons] at hm
    refine ⟨by rw [List.length_replicate]; omega, hN _ _ ⟨rfl, ⟨m + 1, by rw [List.replicate_succ'], by omega⟩, fun d hd => hr d (List.mem_cons_of_mem _ hd)⟩⟩
  · rintro acc G' ⟨rfl, ⟨m, rfl, _⟩, _⟩
    exact ⟨hg, by rw [if_pos rfl]; exact q m⟩
  · obtain ⟨i, hi⟩ := List.mem_iff_getElem?.mp hd
    obtain ⟨a, b, rfl, h1, h2⟩ := zipD_at xs ys i d hi
    exact ⟨a, b, rfl, h i a b h1 h2⟩
theorem b_ne_eq {b : Bool} {G : AG} {Q : AQ} (q : Q (.bl false) G) : cmpW .ne (.bl b) (.bl b) G Q := by
  refine ⟨.bool b, .bool b, .bl b, .bl b, by cases b <;> decide, by cases b <;> decide, ?_⟩
  have e : PyData.eqv (.bool b) (.bool b) = true := by cases b <;> decide
  simp only [e, if_true, Bool.not_true]
  exact q
theorem bl_eq {b : Bool} {G : AG} {Q : AQ} (q : Q (.bl true) G) : cmpW .eq (.bl b) (.bl b) G Q := eq_leaf rfl q
theorem i_eq {i : Int} {G : AG} {Q : AQ} (q : Q (.bl true) G) : cmpW .eq (.int i) (.int i) G Q := eq_leaf rfl q
theorem ok_same_leaf (Γ : Gam) (n : Nat) (tg : TyGl Γ) (G : AG) (Q : AQ) (X : AX) (x : Dat) (h : (leafD x).isSome = true) (q : Q (.bl true) G) : wSs Γ b_same [some x, some x, none, none] G (endsOf Q X) := by
  have two : (2 : Nat) ≤ sizeLine := by decide
  have three : (3 : Nat) ≤ sizeLine := by decide
  have fin : ∃ G0, Sub G0 G ∧ Q (.bl true) G0 := ⟨G, .refl _, q⟩
  simp only [b_same, wSs, wS, wE, wEs, wT, List.getElem?_cons_zero, List.getElem?_cons_succ, tg.list, tg.tuple, tg.bool, tg.int, bltW, List.length, endsOf]
  cases x with
  | non =>
    refine ⟨by decide, isiT (t := "NoneType") (b := false) rfl (by decide +kernel) ?_⟩
    simp only [truW, Bool.false_eq_true, if_false]
    refine ⟨by decide, isiT (t := "NoneType") (b := false) rfl (by decide +kernel) ?_⟩
    simp only [truW, Bool.false_eq_true, if_false]
    refine ⟨by decide, isiT (t := "NoneType") (b := false) rfl (by decide +kernel) ?_⟩
    simp only [truW, Bool.not_false, if_true]
    exact eq_leaf rfl fin
  | bl b =>
    refine ⟨by decide, isiT (t := "bool") (b := false) rfl (by decide +kernel) ?_⟩
    simp only [truW, Bool.false_eq_true, if_false]
    refine ⟨by decide, isiT (t := "bool") (b := true) rfl (by decide +kernel) ?_⟩
    simp only [truW, if_true]
    refine isi1 (t := "bool") (b := true) rfl (by decide +kernel) ?_
    simp only [truW, if_true]
    refine isi1 (t := "bool") (b := true) rfl (by decide +kernel) (isi1 (t := "bool") (b := true) rfl (by decide +kernel) (bl_eq ?_))
    simp only [truW, if_true]
    exact eq_leaf rfl fin
  | int i =>
    refine ⟨by decide, isiT (t := "int") (b := false) rfl (by decide +kernel) ?_⟩
    simp only [truW, Bool.false_eq_true, if_false]
    refine ⟨by decide, isiT (t := "int") (b := true) rfl (by decide +kernel) ?_⟩
    simp only [truW, if_true]
    refine isi1 (t := "int") (b := true) rfl (by decide +kernel) ?_
    simp only [truW, if_true]
    refine isi1 (t := "int") (b := false) rfl (by decide +kernel) (isi1 (t := "int") (b := false) rfl (by decide +kernel) (bl_eq ?_))
    simp only [truW, if_true]
    exact eq_leaf rfl fin
  | str s =>
    refine ⟨by decide, isiT (t := "str") (b := false) rfl (by decide +kernel) ?_⟩
    simp only [truW, Bool.false_eq_true, if_false]
    refine ⟨by decide, isiT (t := "str") (b := false) rfl (by decide +kernel) ?_⟩
    simp only [truW, Bool.false_eq_true, if_false]
    refine ⟨by decide, isiT (t := "str") (b := false) rfl (by decide +kernel) ?_⟩
    simp only [truW, Bool.not_false, if_true]
    exact eq_leaf h fin
  | _ => cases h
theorem ok_same (Γ : Gam) (n : Nat) (tg : TyGl Γ) (hs : Γ.fn "_law_same" = some (f_same n)) (N : List Str) (hN : N.length = 4) (ds : List Dat) (G : AG) (Q : AQ) (X : AX) (h : c_same (n + 1) ds G Q X) : wSs Γ b_same (startD N ds) G (endsOf Q X) := by
  obtain ⟨x, y, rfl, h, q⟩ := h
  have st : startD N [x, y] = [some x, some y, none, none] := by unfold startD; rw [hN]; rfl
  rw [st]
  have fin : ∃ G0, Sub G0 G ∧ Q (.bl true) G0 := ⟨G, .refl _, q⟩
  rcases h with ⟨rfl, h⟩ | ⟨xs, ys, rfl, rfl, h1, h2, h3⟩ | ⟨xs, ys, h0, h0', h1, h2, h3⟩
  · exact ok_same_leaf Γ n tg G Q X x h q
  · have last : bltW true .all [.lst (List.replicate xs.length (.bl true))] G (fun d G => ∃ G0, Sub G0 G ∧ Q d G0) := ⟨_, _, rfl, blsOf_rep _, by simpa using fin⟩
    simp only [b_same, wSs, wS, wE, wEs, wT, wI, List.getElem?_cons_zero, List.getElem?_cons_succ, tg.list, tg.tuple, tg.bool, tg.int, bltW, List.length, endsOf]
    refine ⟨by decide, isiT (t := "tuple") (b := true) rfl (by decide +kernel) ?_⟩
    simp only [truW, if_true]
    refine isi1 (t := "tuple") (b := false) rfl (by decide +kernel) (isi1 (t := "tuple") (b := false) rfl (by decide +kernel) (b_ne_eq ?_))
    simp only [boolW, Bool.false_eq_true, if_false]
    refine isi1 (t := "tuple") (b := true) rfl (by decide +kernel) (isi1 (t := "tuple") (b := true) rfl (by decide +kernel) (b_ne_eq ?_))
    simp only [boolW, Bool.false_eq_true, if_false]
    refine ⟨xs, rfl, ys, rfl, ?_⟩
    rw [h1]
    refine i_eq ?_
    simp only [truW, if_true]
    simp only [zipG]
    have := same_lc (Q := fun d G1 => ∃ ds bs, lstOf G1 d = some ds ∧ blsOf ds = some bs ∧ ∃ G0, Sub G0 G1 ∧ Q (.bl (bs.all id)) G0) (ρ := [some (.tup xs), some (.tup ys), none, none]) (gd := []) hs (G := G) trivial h2 (Nat.le_refl 4) h3 fun m => ⟨_, _, rfl, blsOf_rep _, by simpa using fin⟩
    simp only [wE, wEs] at this
    exact this
  · simp only [b_same, wSs, wS, wE, wEs, wT, wI, List.getElem?_cons_zero, List.getElem?_cons_succ, tg.list, tg.tuple, tg.bool, tg.int, bltW, List.length, endsOf]
    have t1 := lst_ty h0
    have t2 := lst_ty h0'
    have s1 : ∀ {z : Dat} {zs : List Dat}, lstOf G z = some zs → seqOf G z = some zs := fun {z zs} e => by
      cases z <;> first | exact e | cases e
    refine ⟨by decide, isiT (b := true) t2 (by decide +kernel) ?_⟩
    simp only [truW, if_true]
    refine isi1 (b := true) t1 (by decide +kernel) (isi1 (b := true) t2 (by decide +kernel) (b_ne_eq ?_))
    simp only [boolW, Bool.false_eq_true, if_false]
    refine isi1 (b := false) t1 (by decide +kernel) (isi1 (b := false) t2 (by decide +kernel) (b_ne_eq ?_))
    simp only [boolW, Bool.false_eq_true, if_false]
    refine ⟨xs, s1 h0, ys, s1 h0', ?_⟩
    rw [h1]
    refine i_eq ?_
    simp only [truW, if_true]
    have zg : ∀ (Qz : List Dat → Gd → AG → Prop), (∀ gd, gdOk G gd → Qz (zipD xs ys) gd G) → zipG x y G Qz := fun Qz hz => by
      have : lstG x G fun xs gx G1 => lstG y G1 fun ys gy G2 => Qz (zipD xs ys) (gx ++ gy) G2 := lst_G h0 fun gd g1 => lst_G h0' fun ge g2 => hz _ (gdOk_app.mpr ⟨g1, g2⟩)
      cases x with
      | tup _ => cases h0
      | _ => exact this
    refine zg _ fun gd hgd => ?_
    have := same_lc (Q := fun d G1 => ∃ ds bs, lstOf G1 d = some ds ∧ blsOf ds = some bs ∧ ∃ G0, Sub G0 G1 ∧ Q (.bl (bs.all id)) G0) (ρ := [some x, some y, none, none]) (gd := gd) hs (G := G) hgd h2 (Nat.le_refl 4) h3 fun m => ⟨_, _, rfl, blsOf_rep _, by simpa using fin⟩
    simp only [wE, wEs] at this
    exact this
theorem ok_same0 (Γ : Gam) (tg : TyGl Γ) (N : List Str) (hN : N.length = 4) (ds : List Dat) (G : AG) (Q : AQ) (X : AX) (h : c_same 0 ds G Q X) : wSs Γ b_same (startD N ds) G (endsOf Q X) := by
  obtain ⟨x, y, rfl, ⟨rfl, h⟩, q⟩ := h
  have st : startD N [x, x] = [some x, some x, none, none] := by unfold startD; rw [hN]; rfl
  rw [st]
  exact ok_same_leaf Γ 0 tg G Q X x h q
end Av


set_option Elab.async false
set_option linter.all false
set_option maxRecDepth 100000
set_option maxHeartbeats 4000000
/-! # AvP3: rows of ints -/
namespace Av
open PySem PySem.Spec PyProof.Rows L2

abbrev di (xs : List Int) : List Dat := xs.map Dat.int
/-- a row of ints: a tuple or a list that is never written -/
def RowI (x : Dat) (xs : List Int) : Prop := x = .tup (di xs) ∨ x = .lst (di xs)
theorem RowI.fix {x : Dat} {xs : List Int} (h : RowI x xs) : fixOf x = some (di xs) := by rcases h with rfl | rfl <;> rfl
theorem deeps_ints {G : AG} : ∀ xs : List Int, Deeps G (di xs) (xs.map PyData.int)
  | [] => .nil
  | x :: xs => .cons (.int x) (deeps_ints xs)
theorem lay_ints : ∀ xs : List Int, PyData.canLayAll0 (xs.map PyData.int) = true
  | [] => rfl
  | x :: xs => by rw [List.map_cons, PyData.canLayAll0, lay_ints xs]; rfl
theorem eqv_ints : ∀ xs ys : List Int, PyData.eqvAll (xs.map PyData.int) (ys.map PyData.int) = (xs == ys)
  | [], [] => rfl
  | [], _ :: _ => rfl
  | _ :: _, [] => rfl
  | x :: xs, y :: ys => by
    rw [List.map_cons, List.map_cons, PyData.eqvAll, eqv_ints xs ys]
    have e : PyData.eqv (.int x) (.int y) = (x == y) := by simp [PyData.eqv]
    rw [e]
    rfl
theorem depthAll_ints : ∀ xs : List Int, PyData.depthAll (xs.map PyData.int) = 0
  | [] => by simp [PyData.depthAll]
  | x :: xs => by rw [List.map_cons, PyData.depthAll, depthAll_ints xs]; simp [PyData.depth]
theorem shaped_tup (xs : List Int) : SeqAt.shaped (.tuple (xs.map PyData.int)) = true := by
  unfold SeqAt.shaped
  rw [PyData.canLay0, lay_ints, PyData.depth, depthAll_ints]
  rfl
theorem shaped_lst (xs : List Int) : SeqAt.shaped (.list (xs.map PyData.int)) = true := by
  unfold SeqAt.shaped
  rw [PyData.canLay0, lay_ints, PyData.depth, depthAll_ints]
  rfl
theorem eq_tups {G : AG} {xs ys : List Int} {n : Bool} {Q : AQ} (q : Q (.bl (if n then !(xs == ys) else xs == ys)) G) : eqW n (.tup (di xs)) (.tup (di ys)) G Q := by
  refine ⟨_, _, .tup (deeps_ints xs), .tup (deeps_ints ys), shaped_tup xs, shaped_tup ys, ?_⟩
  rw [PyData.eqv, eqv_ints]
  exact q
theorem deep_lst {G : AG} {x : Dat} {xs : List Int} (h : lstOf G x = some (di xs)) : Deep G x (.list (xs.map PyData.int)) := by
  cases x with
  | lst ds => cases h; exact .lst (deeps_ints xs)
  | ref a =>
    cases e : G a with
    | none => simp only [lstOf, e] at h; cases h
    | some o =>
      cases o with
      | lst ds =>
        simp only [lstOf, e] at h
        cases h
        exact .ref e (deeps_ints xs)
      | _ => simp only [lstOf, e] at h; cases h
  | _ => cases h
theorem eq_lsts {G : AG} {x y : Dat} {xs ys : List Int} {n : Bool} {Q : AQ} (h1 : lstOf G x = some (di xs)) (h2 : lstOf G y = some (di ys)) (q : Q (.bl (if n then !(xs == ys) else xs == ys)) G) : eqW n x y G Q := by
  refine ⟨_, _, deep_lst h1, deep_lst h2, shaped_lst xs, shaped_lst ys, ?_⟩
  rw [PyData.eqv, eqv_ints]
  exact q
theorem flat_ints : ∀ xs : List Int, (di xs).all flatD = true
  | [] => rfl
  | x :: xs => flat_ints xs
theorem any_ints (a : Int) : ∀ xs : List Int, (di xs).any (fun d => eqF d (.int a)) = xs.contains a
  | [] => rfl
  | x :: xs => by
    show (eqF (.int x) (.int a) || (di xs).any fun d => eqF d (.int a)) = _
    rw [any_ints a xs, List.contains_cons]
    show ((x == a) || _) = ((a == x) || _)
    rw [Bool.beq_comm]
theorem mem_ints {G : AG} {y : Dat} {a : Int} {es : List Int} {Q : AQ} (h : seqOf G y = some (di es)) (q : Q (.bl (es.contains a)) G) : memW false (.int a) y G Q := by
  refine ⟨_, h, rfl, flat_ints es, ?_⟩
  rw [any_ints]
  exact q
theorem cut_map {xs : List Int} {lo hi : Option Int} : cutD (di xs) lo hi = di ((xs.drop (HT.sIx xs.length 0 lo)).take (HT.sIx xs.length xs.length hi - HT.sIx xs.length 0 lo)) := by
  unfold cutD di
  rw [List.length_map, List.map_take, List.map_drop]
/-- xs[i:j] -/
def cutI (xs : List Int) (i j : Nat) : List Int := (xs.drop i).take (j - i)
theorem cut_ij {xs : List Int} {i j : Nat} (h : i ≤ xs.length) : cutD (di xs) (some (i : Int)) (some (j : Int)) = di (cutI xs i j) := by
  rw [cut_map, HT.sIx_nat, HT.sIx_nat]
  unfold cutI
  rw [Nat.min_eq_left h]
  congr 1
  by_cases hj : j ≤ xs.length
  · rw [Nat.min_eq_left hj]
  · rw [Nat.min_eq_right (by omega)]
    rw [List.take_of_length_le (by simp), List.take_of_length_le (by rw [List.length_drop]; omega)]
theorem cut_from {xs : List Int} {i : Nat} (h : i ≤ xs.length) : cutD (di xs) (some (i : Int)) none = di (xs.drop i) := by
  rw [cut_map, HT.sIx_nat, HT.sIx_none, Nat.min_eq_left h]
  rw [List.take_of_length_le (by simp)]
theorem cutI_len (xs : List Int) (i j : Nat) : (cutI xs i j).length ≤ xs.length := by
  unfold cutI
  rw [List.length_take, List.length_drop]
  omega
/-- tuple(x[i:j]) of a row -/
theorem row_cut {G : AG} {x : Dat} {xs : List Int} {i j : Nat} {Q : AQ} (h : RowI x xs) (hz : xs.length ≤ sizeLine) (hi : i ≤ xs.length) (q : Q (.tup (di (cutI xs i j))) G) : slW true x (some (i : Int)) (some (j : Int)) G (fun d G1 => bltW true .tuple [d] G1 Q) := by
  rcases h with rfl | rfl
  · simp only [slW, bltW]
    rw [cut_ij hi]
    exact ⟨_, rfl, q⟩
  · simp only [slW, bltW]
    refine ⟨_, rfl, ?_⟩
    rw [cut_ij hi]
    unfold nw
    rw [if_pos rfl]
    exact ⟨by rw [List.length_map]; have := cutI_len xs i j; omega, _, rfl, q⟩
theorem row_from {G : AG} {x : Dat} {xs : List Int} {i : Nat} {Q : AQ} (h : RowI x xs) (hz : xs.length ≤ sizeLine) (hi : i ≤ xs.length) (q : Q (.tup (di (xs.drop i))) G) : slW true x (some (i : Int)) none G (fun d G1 => bltW true .tuple [d] G1 Q) := by
  rcases h with rfl | rfl
  · simp only [slW, bltW]
    rw [cut_from hi]
    exact ⟨_, rfl, q⟩
  · simp only [slW, bltW]
    refine ⟨_, rfl, ?_⟩
    rw [cut_from hi]
    unfold nw
    rw [if_pos rfl]
    exact ⟨by rw [List.length_map, List.length_drop]; omega, _, rfl, q⟩
theorem row_len {G : AG} {x : Dat} {xs : List Int} {z : Bool} {Q : AQ} (h : RowI x xs) (q : Q (.int (xs.length : Int)) G) : bltW z .len [x] G Q := by
  refine ⟨_, fix_seq h.fix, ?_⟩
  rw [List.length_map]
  exact q
theorem row_ix {G : AG} {x : Dat} {xs : List Int} {i : Nat} {Q : AQ} (h : RowI x xs) (hi : i < xs.length) (q : Q (.int xs[i]) G) : ixW x (.int (i : Int)) G Q := by
  refine ixF h.fix (d := .int xs[i]) ?_ q
  rw [atI_nat (by omega), Int.toNat_natCast, List.getElem?_map, List.getElem?_eq_getElem hi]
  rfl
end Av


set_option Elab.async false
set_option linter.all false
set_option maxRecDepth 100000
set_option maxHeartbeats 4000000
/-! # AvH: the head's facts; the table of defs -/
namespace Av
open PySem PySem.Spec PyProof.Rows L2

/-! ### values of the written part -/
mutual
def datB (K : PySem.W.Frag) : Dat → Value → Bool
  | .non, u => match u with
    | .none => true
    | _ => false
  | .bl b, u => match u with
    | .bool c => b == c
    | _ => false
  | .int i, u => match u with
    | .int j _ => decide (i = j)
    | _ => false
  | .str x, u => match u with
    | .str y _ => decide (x = y)
    | _ => false
  | .ty n, u => match u with
    | .type m => decide (n = m)
    | _ => false
  | .tup ds, u => match u with
    | .ref a => (match K.lookup a with
      | some ⟨.type c, _, .seq its _, _⟩ => decide (c = "tuple") && decide (its.size ≤ sizeLine) && datsB K ds its.toList
      | _ => false)
    | _ => false
  | .kls ds, u => match u with
    | .ref a => (match K.lookup a with
      | some ⟨.type c, none, .seq its _, _⟩ => decide (c = "list") && decide (its.size ≤ sizeLine) && datsB K ds its.toList
      | _ => false)
    | _ => false
  | .lst _, _ => false
  | .ref _, _ => false
def datsB (K : PySem.W.Frag) : List Dat → List Value → Bool
  | [], us => us.isEmpty
  | d :: ds, us => match us with
    | u :: us => datB K d u && datsB K ds us
    | [] => false
end
mutual
theorem datB_ok {K : PySem.W.Frag} : ∀ (d : Dat) (u : Value), datB K d u = true → ∃ v, RelV v u ∧ ∀ H, Rep K H v d
  | .non, u, h => by
    unfold datB at h
    split at h
    · exact ⟨.non, rfl, fun _ => .non⟩
    · cases h
  | .bl b, u, h => by
    unfold datB at h
    split at h
    · cases beq_iff_eq.mp h; exact ⟨.bl b, rfl, fun _ => .bl b⟩
    · cases h
  | .int b, u, h => by
    unfold datB at h
    split at h
    · cases of_decide_eq_true h; exact ⟨.int b, ⟨_, rfl⟩, fun _ => .int b⟩
    · cases h
  | .str b, u, h => by
    unfold datB at h
    split at h
    · cases of_decide_eq_true h; exact ⟨.str b, ⟨_, rfl⟩, fun _ => .str b⟩
    · cases h
  | .ty b, u, h => by
    unfold datB at h
    split at h
    · cases of_decide_eq_true h; exact ⟨.ty b, rfl, fun _ => .ty b⟩
    · cases h
  | .tup ds, u, h => by
    unfold datB at h
    split at h
    · split at h
      · simp only [Bool.and_eq_true, decide_eq_true_eq] at h
        obtain ⟨⟨rfl, h2⟩, h3⟩ := h
        obtain ⟨vs, k1, k2⟩ := datsB_ok ds _ h3
        exact ⟨.ref _, rfl, fun H => .tup (.inr ⟨_, _, _, by assumption, rfl, rfl, h2, k1⟩) (k2 H)⟩
      · cases h
    · cases h
  | .kls ds, u, h => by
    unfold datB at h
    split at h
    · split at h
      · simp only [Bool.and_eq_true, decide_eq_true_eq] at h
        obtain ⟨⟨rfl, h2⟩, h3⟩ := h
        obtain ⟨vs, k1, k2⟩ := datsB_ok ds _ h3
        exact ⟨.ref _, rfl, fun H => .kls (.inr ⟨_, _, _, by assumption, rfl, rfl, rfl, h2, k1⟩) (k2 H)⟩
      · cases h
    · cases h
  | .lst _, _, h => by unfold datB at h; cases h
  | .ref _, _, h => by unfold datB at h; cases h
theorem datsB_ok {K : PySem.W.Frag} : ∀ (ds : List Dat) (us : List Value), datsB K ds us = true → ∃ vs, Vals vs us ∧ ∀ H, Reps K H vs ds
  | [], us, h => by
    unfold datsB at h
    cases us with
    | nil => exact ⟨[], .nil, fun _ => .nil⟩
    | cons => cases h
  | d :: ds, us, h => by
    unfold datsB at h
    split at h
    · rename_i u us
      simp only [Bool.and_eq_true] at h
      obtain ⟨v, k1, k2⟩ := datB_ok d u h.1
      obtain ⟨vs, k3, k4⟩ := datsB_ok ds us h.2
      exact ⟨v :: vs, .cons k1 k3, fun H => .cons (k2 H) (k4 H)⟩
    · cases h
end
/-- the module's name x is d -/
def gvB (K : PySem.W.Frag) (q : Str × Dat) : Bool := match PySem.W.nsIn K mainGlobals q.1 with
  | some (some u) => datB K q.2 u
  | _ => false
theorem gvB_ok {K : PySem.W.Frag} {h : Heap} {mg : Str → Option Value} (X : K.In h) (G : h.Ns mainGlobals mg) {q : Str × Dat} (c : gvB K q = true) : ∃ u v, RelV v u ∧ (∀ H, Rep K H v q.2) ∧ mg q.1 = some u := by
  unfold gvB at c
  split at c
  · rename_i u e
    obtain ⟨v, h1, h2⟩ := datB_ok _ _ c
    exact ⟨u, v, h1, h2, PySem.W.mg_of X G e⟩
  · cases c
/-! ### the Hook -/
def hookA (n : Nat) (fa : List He.Fa) (fn : List He.DefD) (gv : List (Str × Dat)) : PySem.W.Hook where
  α := He.AlD × Bool
  obs := fun s => (He.obsDG n fa fn s.heap.get?, gv.all (gvB (He.frG s.heap.get? (He.asD s.heap.get? n))))
  val := fun _ => (He.valD fn, true)
  says := fun _ h => ∃ K : PySem.W.Frag, K.In h ∧ He.SaysD fa fn K ∧ gv.all (gvB K) = true
  of := fun _ s e => ⟨He.frG s.heap.get? (He.asD s.heap.get? n), He.frG_in, congrArg (fun z : He.AlD × Bool => z.1) e, congrArg (fun z : He.AlD × Bool => z.2) e⟩
  keeps := fun _ _ _ ⟨K, hK, c⟩ k => ⟨K, PySem.W.Frag.In.keeps hK k, c⟩
def obsA (n : Nat) (fa : List He.Fa) (fn : List He.DefD) (gv : List (Str × Dat)) (g : Addr → Option Obj) : He.AlD × Bool := (He.obsDG n fa fn g, gv.all (gvB (He.frG g (He.asD g n))))
theorem obsA_eq {n : Nat} {fa : List He.Fa} {fn : List He.DefD} {gv : List (Str × Dat)} {g : Addr → Option Obj} {s : Shared} (h : ∀ a, g a = s.heap.get? a) : obsA n fa fn gv g = (hookA n fa fn gv).obs s := by
  have e : g = s.heap.get? := funext h
  rw [e] <;> rfl
/-! ### the table -/
abbrev Gm (fns : List (Str × FnE)) (gl : List (Str × Dat)) : Gam := ⟨fun f => fns.lookup f, fun x => gl.lookup x⟩
def tyGl : List (Str × Dat) := [("list", .ty "list"), ("tuple", .ty "tuple"), ("bool", .ty "bool"), ("int", .ty "int"), ("str", .ty "str"), ("dict", .ty "dict")]
def bltNms : List Str := ["len", "int", "tuple", "list", "isinstance", "all", "any", "sum", "min", "max", "range", "zip", "enumerate", "bool", "str", "dict"]
section
variable {P : Program} {w : World} {K : PySem.W.Frag} {mg : Str → Option Value} {base : Heap} {gv : List (Str × Dat)} {fns : List (Str × FnE)} {gl : List (Str × Dat)} {k : Nat}
theorem tyGl_ok : ∀ q ∈ tyGl, q.1 ∈ bltNms ∧ ∃ n, q.2 = .ty n ∧ bootBuiltins q.1 = some (.type n) := by
  intro q hq
  simp only [tyGl, List.mem_cons, List.not_mem_nil, or_false] at hq
  rcases hq with rfl | rfl | rfl | rfl | rfl | rfl
  all_goals exact ⟨by decide, _, rfl, by decide +kernel⟩
theorem TbOk.nil (hf : ∀ x ∈ bltNms, mg x = none) (hg : ∀ q ∈ gv, ∃ u v, RelV v u ∧ (∀ H, Rep K H v q.2) ∧ mg q.1 = some u) : TbOk P w K mg base (Gm [] (tyGl ++ gv)) k := by
  refine ⟨fun f F h => by simp at h, fun x d h => ?_, fun f => ?_, hf _ (by decide), hf _ (by decide), hf _ (by decide)⟩
  · have hm : (x, d) ∈ tyGl ++ gv := PySem.mem_of_lookup h
    rcases List.mem_append.mp hm with hm | hm
    · obtain ⟨h1, n, h2, h3⟩ := tyGl_ok _ hm
      cases (show d = .ty n from h2)
      exact ⟨.type n, .ty n, rfl, fun _ => .ty n, .inr ⟨hf _ h1, h3⟩⟩
    · obtain ⟨u, v, h1, h2, h3⟩ := hg _ hm
      exact ⟨u, v, h1, h2, .inl h3⟩
  · cases f <;> exact hf _ (by decide)
theorem TbOk.cons {f : Str} {F : FnE} {a : Addr} {fd : FuncData} {ps : List Str} (tb : TbOk P w K mg base (Gm fns gl) k) (hF : FnOk P w K mg base (L2.CX P w) (k + 1) a fd ps (spOf K F)) (hm : mg f = some (.ref a)) (hk : PySem.W.keepIn K (.ref a) = true)
    (hb : ∀ m, F.ar ≤ m + F.dfl.length → m ≤ F.ar → ∃ ds dvs, Binds K fd ps ds ∧ Vals dvs ds ∧ ∀ H, Reps K H dvs (F.dfl.drop (m + F.dfl.length - F.ar))) : TbOk P w K mg base (Gm ((f, F) :: fns) gl) (k + 1) := by
  refine ⟨fun g F' h => ?_, tb.gl, tb.blt, tb.rng, tb.zip, tb.enum⟩
  have h2 : (match g == f with | true => some F | false => fns.lookup g) = some F' := h
  cases e : (g == f) with
  | true =>
    rw [e] at h2
    cases h2
    cases beqS e
    exact ⟨a, fd, ps, hF, hm, hk, hb⟩
  | false =>
    rw [e] at h2
    obtain ⟨a', fd', ps', h3, h4⟩ := tb.fn g F' h2
    exact ⟨a', fd', ps', h3.mono (Nat.le_succ _), h4⟩
/-- no defaults -/
theorem binds_none {F : FnE} {fd : FuncData} {ps : List Str} (hd : F.dfl = []) (hb : Binds K fd ps []) : ∀ m, F.ar ≤ m + F.dfl.length → m ≤ F.ar → ∃ ds dvs, Binds K fd ps ds ∧ Vals dvs ds ∧ ∀ H, Reps K H dvs (F.dfl.drop (m + F.dfl.length - F.ar)) := fun m _ _ =>
  ⟨[], [], hb, .nil, fun H => by rw [hd, List.drop_nil]; exact .nil⟩
end
/-- the law's promise -/
def c_lawC : Con := fun ds G Q X => ∃ sc ns, ds = [sc] ∧ (sc = .lst (List.map Dat.int ns) ∨ sc = .kls (List.map Dat.int ns)) ∧ ∀ G', Q (.bl true) G'
theorem reps_ints {K : PySem.W.Frag} {H : Hp} : ∀ ns : List Int, Reps K H (ns.map V.int) (ns.map Dat.int)
  | [] => .nil
  | n :: ns => .cons (.int n) (reps_ints ns)
theorem law_sp {K : PySem.W.Frag} {F : FnE} (hF : ∀ ds G Q X, c_lawC ds G Q X → F.con ds G Q X) (H : Hp) (a : Addr) (ns : List Int) (hO : L2.Only H) (hS : SqL K H a (ns.map V.int)) : spOf K F [.ref a] H (fun v _ => v = .bl true) fun _ _ _ => False := by
  have key : KlAt K H a (ns.map V.int) := by
    rcases hS with hS | hS
    · rcases hS with hS | ⟨o, hS⟩
      · rcases hO a with h | ⟨o, xs, h⟩
        · rw [h] at hS; cases hS
        · rw [h] at hS; cases hS
      · exact .inl ⟨o, hS⟩
    · exact .inr hS
  refine ⟨[.kls (ns.map Dat.int)], fun _ => none, fun d _ => d = .bl true, fun _ _ _ => False, .one (.kls key (reps_ints ns)), (fun a o z => by cases z), hF _ _ _ _ ⟨_, ns, rfl, .inr rfl, fun _ => rfl⟩, fun d G' v H' f g r q => ?_, fun c fs G' dx H' f g r q => False.elim q⟩
  subst q
  exact rep_b r
/-- a law's end, exceptions by world -/
theorem walk_world {l : PySem.W.OpenLaw} {n k : Nat} {q : Program} {lo : List Str} {XP : (Str → Option Value) → Heap → Prop} {YP : World → Heap → Prop} {d : DefRec} {CX : World → CXT} {x : Str} (h1 : l.most = some n) (h2 : n ≤ sizeLine) (h3 : d.params.defaults = []) (h4 : Room k callerA)
    (F : ∀ (w : World) (mg : Str → Option Value) (fa : Addr) (h : Heap), YP w h → h.Ns mainGlobals mg → mg d.name = some (.ref fa) → ∃ (K : PySem.W.Frag) (fd : FuncData) (sp : Sp), K.In h ∧ (∀ (s : Shared) (u : Value), BindsTo s fd ⟨[u], []⟩ [(x, u)]) ∧
      (∀ (H : Hp) (a : Addr) (ns : List Int), ns.length ≤ n → Only H → SqL K H a (ns.map V.int) → sp [.ref a] H (fun v _ => v = .bl true) fun _ _ _ => False) ∧ ∀ base : Heap, K.In base → base.Ns mainGlobals mg → FnOk l.prog w K mg base (CX w) k fa fd [x] sp)
    (h5 : ∀ (w : World) (H : Hp) (s : Shared) (e : Value) (s' : Shared), CX w [] H s (fun _ _ _ => False) e s' → False) : PySem.W.WalkO q lo XP YP l.row.toRowW d [] (fun f vs => PySem.call f vs) := by
  refine Att.attach_call h1 h3 fun w s0 s1 mg mb fa o pm cd doc a vs ns G Y p1 p2 p3 p4 p5 p6 p7 p8 => ?_
  obtain ⟨K, fd, sp, q1, q2, q3, q4⟩ := F w mg fa _ Y G.T.g p4
  exact law_call q1 G.T.g G.T.b G.T.builtins G.T.nolimit p8 p5 p6 (Nat.le_trans p7 h2) h4 q4 q2 (fun H r1 r2 => q3 H a ns p7 r1 r2) fun H e s' => h5 w H s1 e s'
theorem cx_no {P : Program} {w : World} : ∀ (H : Hp) (s : Shared) (e : Value) (s' : Shared), L2.CX P w [] H s (fun _ _ _ => False) e s' → False := fun H s e s' ⟨_, _, _, _, _, _, _, _, _, _, _, _, z⟩ => z
end Av


set_option Elab.async false
set_option linter.all false
set_option maxRecDepth 100000
set_option maxHeartbeats 4000000
/-! # K75: lines -/
namespace Av
open PySem PySem.Spec PyProof.Rows L2

/-- the rows of the walk: line: what is open; rest: what is to come -/
def cutG (ends : List Int) (keep : Bool) : List Int → List Int → List (List Int)
  | line, [] => if line = [] then [] else [line]
  | line, [a] => if ends.contains a then [line ++ if keep then [a] else []] else [line ++ [a]]
  | line, a :: b :: r =>
    if a = 13 ∧ b = 10 then
      (if ends.contains a then (line ++ if keep then [a, b] else []) :: cutG ends keep [] r else cutG ends keep (line ++ [a, b]) r)
    else (if ends.contains a then (line ++ if keep then [a] else []) :: cutG ends keep [] (b :: r) else cutG ends keep (line ++ [a]) (b :: r))
termination_by _ r => r.length
def szG (rest : List Int) : Nat := if rest.take 2 = [13, 10] then 2 else 1
theorem szG_le {a : Int} {r : List Int} : szG (a :: r) ≤ (a :: r).length ∧ 1 ≤ szG (a :: r) := by
  unfold szG
  split
  · rename_i h
    have := congrArg List.length h
    simp at this
    simp
    omega
  · simp
theorem cutG_step (es : List Int) (kp : Bool) (line : List Int) (a : Int) (r : List Int) : cutG es kp line (a :: r) =
    if es.contains a then (line ++ if kp then (a :: r).take (szG (a :: r)) else []) :: cutG es kp [] ((a :: r).drop (szG (a :: r))) else cutG es kp (line ++ (a :: r).take (szG (a :: r))) ((a :: r).drop (szG (a :: r))) := by
  cases r with
  | nil =>
    have e : szG [a] = 1 := by unfold szG; rw [if_neg (by simp)]
    rw [e, cutG]
    simp only [List.take, List.drop]
    split
    · rw [cutG]; simp
    · rw [cutG]; simp
  | cons b r =>
    rw [cutG]
    by_cases h : a = 13 ∧ b = 10
    · have e : szG (a :: b :: r) = 2 := by unfold szG; rw [if_pos (by simp [h])]
      rw [if_pos h, e]
      rfl
    · have e : szG (a :: b :: r) = 1 := by unfold szG; rw [if_neg (by simpa using h)]
      rw [if_neg h, e]
      rfl
def dt (ls : List (List Int)) : List Dat := ls.map fun l => .tup (di l)
theorem cutI_add {xs : List Int} {s t : Nat} (n : Nat) (h : s ≤ t) : cutI xs s (t + n) = cutI xs s t ++ (xs.drop t).take n := by
  unfold cutI
  rw [show t + n - s = (t - s) + n by omega, List.take_add, List.drop_drop, show s + (t - s) = t by omega]
theorem cutI_nil {xs : List Int} {t : Nat} : cutI xs t t = [] := by unfold cutI; simp
theorem cutI_end {xs : List Int} {s : Nat} : cutI xs s xs.length = xs.drop s := by
  unfold cutI
  rw [List.take_of_length_le (by simp)]
theorem lst_gu {G : AG} {p : Addr} {ds : List Dat} : lstOf (gu G p (.lst ds)) (.ref p) = some ds := by
  show (match gu G p (.lst ds) p with | some (.lst ds) => some ds | _ => none) = some ds
  rw [gu_same]
theorem app_gu {G : AG} {p : Addr} {ds : List Dat} {d : Dat} {Q : AQ} (hl : ds.length < sizeLine) (q : Q .non (gu G p (.lst (ds ++ [d])))) : methW .append (.ref p) [d] (gu G p (.lst ds)) Q := by
  refine ⟨ds, gu_same, hl, ?_⟩
  rw [gu_gu]
  exact q
def c_cut : Con := fun ds G Q X => ∃ x xs es kp, ds = [x, .tup (di es), .bl kp] ∧ RowI x xs ∧ xs.length ≤ 100 ∧ ∀ p, G p = none → Q (.ref p) (gu G p (.lst (dt (cutG es kp [] xs))))
def f_cut : FnE := { con := c_cut, ar := 3, len := fun ds G Q X ⟨_, _, _, _, h, _⟩ => by rw [h]; rfl }
def b_cut_lines : List S := [
  .par3 3 4 5 (.lst false []) (.cst (.int 0)) (.cst (.int 0)),
  .while_ (.cmp .lt (.var 5) (.blt true .len [(.var 0)])) [.set 6 (.ite (.cmp .eq (.blt true .tuple [(.sl true (.var 0) (.var 5) (.bin true .add (.var 5) (.cst (.int 2))))]) (.tup [(.cst (.int 13)), (.cst (.int 10))])) (.cst (.int 2)) (.cst (.int 1))), .if_ (.cmp .mem (.ix (.var 0) (.var 5)) (.var 1)) [.expr (.meth .append (.var 3) [(.blt true .tuple [(.sl true (.var 0) (.var 4) (.ite (.val (.var 2)) (.bin true .add (.var 5) (.var 6)) (.var 5)))])]), .set 4 (.bin true .add (.var 5) (.var 6))] [], .set 5 (.bin true .add (.var 5) (.var 6))],
  .if_ (.cmp .lt (.var 4) (.blt true .len [(.var 0)])) [.expr (.meth .append (.var 3) [(.blt true .tuple [(.slFrom true (.var 0) (.var 4))])])] [],
  .ret (.var 3)]
theorem ok_cut (Γ : Gam) (N : List Str) (hN : N.length = 7) (ds : List Dat) (G : AG) (Q : AQ) (X : AX) (h : c_cut ds G Q X) : wSs Γ b_cut_lines (startD N ds) G (endsOf Q X) := by
  obtain ⟨x, xs, es, kp, rfl, hx, hz, hq⟩ := h
  have st : startD N [x, .tup (di es), .bl kp] = [some x, some (.tup (di es)), some (.bl kp), none, none, none, none] := by unfold startD; rw [hN]; rfl
  rw [st]
  unfold b_cut_lines
  simp only [wSs, wS, wE, wEs, wT, nw, newL, Bool.false_eq_true, if_false, List.set, List.getElem?_cons_zero, List.getElem?_cons_succ, List.length]
  refine ⟨by decide, fun p hp => ?_⟩
  -- the walk: found rows F, the open line from s to t
  refine ⟨fun m ρ G' => ∃ (F : List (List Int)) (s t : Nat) (o : Option Dat), m = xs.length - t ∧ s ≤ t ∧ t ≤ xs.length ∧ F.length ≤ t ∧ F ++ cutG es kp (cutI xs s t) (xs.drop t) = cutG es kp [] xs ∧
    ρ = [some x, some (.tup (di es)), some (.bl kp), some (.ref p), some (.int (s : Int)), some (.int (t : Int)), o] ∧ G' = gu G p (.lst (dt F)), ⟨xs.length, [], 0, 0, none, by simp, Nat.le_refl _, Nat.zero_le _, Nat.le_refl _, by simp [cutI], rfl, rfl⟩, ?_⟩
  rintro m ρ G' ⟨F, s, t, o, rfl, h1, h2, h3, h4, rfl, rfl⟩
  simp only [List.getElem?_cons_zero, List.getElem?_cons_succ]
  refine row_len hx ?_
  simp only [cmpW, boolW]
  by_cases ht : t < xs.length
  · have e1 : decide ((t : Int) < (xs.length : Int)) = true := decide_eq_true (by omega)
    simp only [e1, if_true]
    simp only [wSs, wS, wT, wE, wEs, List.set, List.getElem?_cons_zero, List.getElem?_cons_succ, intK, binW]
    have e2 : ((t : Int) + 2) = ((t + 2 : Nat) : Int) := by omega
    rw [e2]
    have hsl : xs.length ≤ sizeLine := Nat.le_trans hz (by decide)
    refine row_cut hx hsl (by omega) ?_
    refine ⟨by decide, eq_tups (ys := [13, 10]) ?_⟩
    have hd := List.drop_eq_getElem_cons ht
    have sz := @szG_le xs[t] (xs.drop (t + 1))
    have stp := cutG_step es kp (cutI xs s t) xs[t] (xs.drop (t + 1))
    rw [← hd] at sz stp
    rw [List.length_drop] at sz
    have ec : cutI xs t (t + 2) = (xs.drop t).take 2 := by rw [cutI_add 2 (Nat.le_refl t), cutI_nil, List.nil_append]
    have go : ∀ n : Nat, szG (xs.drop t) = n → n = 2 ∨ n = 1 → ixW x (.int (t : Int)) (gu G p (.lst (dt F))) fun x_1 G1 => memW false x_1 (.tup (di es)) G1 (boolW fun k G1 =>
        if k = true then (∃ ds, lstOf G1 (.ref p) = some ds) ∧ truW (.bl kp) G1 fun k G1 =>
          if k = true then slW true x (some (s : Int)) (some ((t + n : Nat) : Int)) G1 fun d G1 => bltW true .tuple [d] G1 fun d G1 => methW .append (.ref p) [d] G1 fun _ G1 =>
            ∃ m', m' < xs.length - t ∧ ∃ (F : List (List Int)) (s t_1 : Nat) (o : Option Dat), m' = xs.length - t_1 ∧ s ≤ t_1 ∧ t_1 ≤ xs.length ∧ F.length ≤ t_1 ∧ F ++ cutG es kp (cutI xs s t_1) (xs.drop t_1) = cutG es kp [] xs ∧
              [some x, some (.tup (di es)), some (.bl kp), some (.ref p), some (.int ((t + n : Nat) : Int)), some (.int ((t + n : Nat) : Int)), some (.int (n : Int))] = [some x, some (.tup (di es)), some (.bl kp), some (.ref p), some (.int (s : Int)), some (.int (t_1 : Int)), o] ∧ G1 = gu G p (.lst (dt F))
          else slW true x (some (s : Int)) (some (t : Int)) G1 fun d G1 => bltW true .tuple [d] G1 fun d G1 => methW .append (.ref p) [d] G1 fun _ G1 =>
            ∃ m', m' < xs.length - t ∧ ∃ (F : List (List Int)) (s t_1 : Nat) (o : Option Dat), m' = xs.length - t_1 ∧ s ≤ t_1 ∧ t_1 ≤ xs.length ∧ F.length ≤ t_1 ∧ F ++ cutG es kp (cutI xs s t_1) (xs.drop t_1) = cutG es kp [] xs ∧
              [some x, some (.tup (di es)), some (.bl kp), some (.ref p), some (.int ((t + n : Nat) : Int)), some (.int ((t + n : Nat) : Int)), some (.int (n : Int))] = [some x, some (.tup (di es)), some (.bl kp), some (.ref p), some (.int (s : Int)), some (.int (t_1 : Int)), o] ∧ G1 = gu G p (.lst (dt F))
        else ∃ m', m' < xs.length - t ∧ ∃ (F : List (List Int)) (s_1 t_1 : Nat) (o : Option Dat), m' = xs.length - t_1 ∧ s_1 ≤ t_1 ∧ t_1 ≤ xs.length ∧ F.length ≤ t_1 ∧ F ++ cutG es kp (cutI xs s_1 t_1) (xs.drop t_1) = cutG es kp [] xs ∧
              [some x, some (.tup (di es)), some (.bl kp), some (.ref p), some (.int (s : Int)), some (.int ((t + n : Nat) : Int)), some (.int (n : Int))] = [some x, some (.tup (di es)), some (.bl kp), some (.ref p), some (.int (s_1 : Int)), some (.int (t_1 : Int)), o] ∧ G1 = gu G p (.lst (dt F))) := fun n en hn => by
      rw [en] at stp sz
      rw [List.drop_drop] at stp
      refine row_ix hx ht (mem_ints rfl ?_)
      simp only [boolW]
      have lF : (dt F).length < sizeLine := by
        unfold dt; rw [List.length_map]
        exact Nat.lt_of_le_of_lt (Nat.le_trans h3 (Nat.le_trans h2 hz)) (by decide)
      by_cases hm : es.contains xs[t] = true
      · rw [hm] at stp
        simp only [hm, if_true] at stp ⊢
        refine ⟨⟨_, lst_gu⟩, ?_⟩
        simp only [truW]
        cases kp with
        | true =>
          simp only [if_true] at stp ⊢
          refine row_cut hx hsl (by omega) (app_gu lF ⟨xs.length - (t + n), by omega, F ++ [cutI xs s (t + n)], t + n, t + n, some (.int (n : Int)), rfl, Nat.le_refl _, by omega, by simp; omega, ?_, rfl, by simp [dt]⟩)
          rw [cutI_nil, cutI_add n h1, List.append_assoc, ← h4, stp]
          rfl
        | false =>
          simp only [Bool.false_eq_true, if_false, List.append_nil] at stp ⊢
          refine row_cut hx hsl (by omega) (app_gu lF ⟨xs.length - (t + n), by omega, F ++ [cutI xs s t], t + n, t + n, some (.int (n : Int)), rfl, Nat.le_refl _, by omega, by simp; omega, ?_, rfl, by simp [dt]⟩)
          rw [cutI_nil, List.append_assoc, ← h4, stp]
          rfl
      · simp only [hm, Bool.false_eq_true, if_false] at stp ⊢
        refine ⟨xs.length - (t + n), by omega, F, s, t + n, some (.int (n : Int)), rfl, by omega, by omega, by omega, ?_, rfl, rfl⟩
        rw [cutI_add n h1, ← stp, h4]
    simp only [boolW]
    by_cases h13 : (xs.drop t).take 2 = [13, 10]
    · have := go 2 (by unfold szG; rw [if_pos h13]) (.inl rfl)
      simp only [ec, h13, beq_self_eq_true, Bool.false_eq_true, if_true, if_false]
      exact this
    · have := go 1 (by unfold szG; rw [if_neg h13]) (.inr rfl)
      have hb : ((xs.drop t).take 2 == [13, 10]) = false := by simpa using h13
      have e3 : ((t : Int) + 1) = ((t + 1 : Nat) : Int) := by omega
      simp only [ec, hb, Bool.false_eq_true, if_false, e3]
      exact this
  · have e1 : decide ((t : Int) < (xs.length : Int)) = false := decide_eq_false (by omega)
    have ht' : t = xs.length := by omega
    subst ht'
    simp only [e1, Bool.false_eq_true, if_false]
    refine row_len hx ?_
    have hsl : xs.length ≤ sizeLine := Nat.le_trans hz (by decide)
    have lF : (dt F).length < sizeLine := by
      unfold dt; rw [List.length_map]
      exact Nat.lt_of_le_of_lt (Nat.le_trans h3 hz) (by decide)
    rw [List.drop_length, cutI_end, cutG] at h4
    by_cases hs : s < xs.length
    · have e4 : decide ((s : Int) < (xs.length : Int)) = true := decide_eq_true (by omega)
      simp only [e4, if_true]
      refine ⟨⟨_, lst_gu⟩, row_from hx hsl (by omega) (app_gu lF ⟨_, .refl _, ?_⟩)⟩
      rw [if_neg (by intro z; have := congrArg List.length z; simp at this; omega)] at h4
      have := hq p hp
      rw [← h4] at this
      simpa [dt] using this
    · have e4 : decide ((s : Int) < (xs.length : Int)) = false := decide_eq_false (by omega)
      simp only [e4, Bool.false_eq_true, if_false]
      refine ⟨_, .refl _, ?_⟩
      rw [if_pos (by simp; omega), List.append_nil] at h4
      rw [h4]
      exact hq p hp
end Av


set_option Elab.async false
set_option linter.all false
set_option maxRecDepth 100000
set_option maxHeartbeats 4000000
/-! # K75b -/
namespace Av
open PySem PySem.Spec PyProof.Rows L2

theorem lst_cut {G : AG} {xs : List Int} {i j : Nat} {Q : AQ} (hz : xs.length ≤ sizeLine) (hi : i ≤ xs.length) (q : Q (.lst (di (cutI xs i j))) G) : slW true (.lst (di xs)) (some (i : Int)) (some (j : Int)) G Q := by
  refine ⟨_, rfl, ?_⟩
  rw [cut_ij hi]
  unfold nw
  rw [if_pos rfl]
  exact ⟨by rw [List.length_map]; have := cutI_len xs i j; omega, q⟩
theorem nwT {G : AG} {ds : List Dat} {Q : AQ} (h : ds.length ≤ sizeLine) (q : Q (.lst ds) G) : nw true ds G Q := by
  unfold nw
  rw [if_pos rfl]
  exact ⟨h, q⟩
theorem addI {z : Bool} {i j : Int} {G : AG} {Q : AQ} : binW z .add (.int i) (.int j) G Q = Q (.int (i + j)) G := rfl
theorem nwF {G : AG} {ds : List Dat} {Q : AQ} (h : ds.length ≤ sizeLine) (q : ∀ p, G p = none → Q (.ref p) (gu G p (.lst ds))) : nw false ds G Q := ⟨h, q⟩
theorem add_ll {G : AG} {xs ys : List Int} {Q : AQ} (h : xs.length + ys.length ≤ sizeLine) (q : Q (.lst (di (xs ++ ys))) G) : binW true .add (.lst (di xs)) (.lst (di ys)) G Q := by
  refine ⟨_, _, rfl, rfl, nwT (by simp; exact h) ?_⟩
  rw [← List.map_append]
  exact q
theorem mul_lb {G : AG} {ds : List Dat} {b : Bool} {Q : AQ} (h : ds.length ≤ sizeLine) (q : Q (.lst (if b then ds else [])) G) : binW true .mul (.lst ds) (.int (if b then 1 else 0)) G Q := by
  refine ⟨_, rfl, by cases b <;> decide, by cases b <;> decide, ?_⟩
  cases b with
  | true => refine nwT (by simpa using h) (by simpa using q)
  | false => exact nwT (by simp) (by simpa using q)
def c_lines : Con := fun ds G Q X => ∃ x xs es kp, ds = [x, .tup (di es), .bl kp] ∧ RowI x xs ∧ xs.length ≤ 100 ∧ Q (.lst (dt (cutG es kp [] xs))) G
def f_lines : FnE := { con := c_lines, ar := 3, len := fun ds G Q X ⟨_, _, _, _, h, _⟩ => by rw [h]; rfl }
def b_lines : List S := [
  .setTp [3, 4, 0, 5] (.tup [(.lst false []), (.lst true []), (.blt true .list [(.var 0)]), (.cst (.int 0))]),
  .while_ (.cmp .lt (.var 5) (.blt true .len [(.var 0)])) [.set 6 (.ite (.cmp .eq (.sl true (.var 0) (.var 5) (.bin true .add (.var 5) (.cst (.int 2)))) (.lst true [(.cst (.int 13)), (.cst (.int 10))])) (.sl true (.var 0) (.var 5) (.bin true .add (.var 5) (.cst (.int 2)))) (.sl true (.var 0) (.var 5) (.bin true .add (.var 5) (.cst (.int 1))))), .set 5 (.bin true .add (.var 5) (.blt true .len [(.var 6)])), .if_ (.cmp .mem (.ix (.var 6) (.cst (.int 0))) (.var 1)) [.expr (.meth .append (.var 3) [(.blt true .tuple [(.bin true .add (.var 4) (.bin true .mul (.var 6) (.blt true .int [(.var 2)])))])]), .set 4 (.lst true [])] [.set 4 (.bin true .add (.var 4) (.var 6))]],
  .ret (.bin true .add (.var 3) (.bin true .mul (.lst true [(.blt true .tuple [(.var 4)])]) (.blt true .int [(.cmp .ne (.var 4) (.lst true []))])))]
theorem len_di {xs : List Int} {G : AG} {z : Bool} {Q : AQ} (q : Q (.int (xs.length : Int)) G) : bltW z .len [.lst (di xs)] G Q := row_len (.inr rfl) q
theorem ok_lines (Γ : Gam) (N : List Str) (hN : N.length = 7) (ds : List Dat) (G : AG) (Q : AQ) (X : AX) (h : c_lines ds G Q X) : wSs Γ b_lines (startD N ds) G (endsOf Q X) := by
  obtain ⟨x, xs, es, kp, rfl, hx, hz, hq⟩ := h
  have st : startD N [x, .tup (di es), .bl kp] = [some x, some (.tup (di es)), some (.bl kp), none, none, none, none] := by unfold startD; rw [hN]; rfl
  rw [st]
  have hsl : xs.length ≤ sizeLine := Nat.le_trans hz (by decide)
  unfold b_lines
  simp only [wSs, wS, wE, wEs, wT, tgW, List.getElem?_cons_zero, List.getElem?_cons_succ, List.length]
  refine nwF (by decide) fun p hp => ?_
  refine nwT (by decide) ?_
  refine ⟨_, fix_seq hx.fix, nwT (by simpa using hsl) ⟨by decide, trivial, ?_⟩⟩
  simp only [setAll, List.set, List.getElem?_cons_zero, List.getElem?_cons_succ]
  refine ⟨fun m ρ G' => ∃ (F : List (List Int)) (l : List Int) (t : Nat) (o : Option Dat), m = xs.length - t ∧ t ≤ xs.length ∧ F.length ≤ t ∧ l.length ≤ t ∧ F ++ cutG es kp l (xs.drop t) = cutG es kp [] xs ∧
    ρ = [some (.lst (di xs)), some (.tup (di es)), some (.bl kp), some (.ref p), some (.lst (di l)), some (.int (t : Int)), o] ∧ G' = gu G p (.lst (dt F)), ⟨xs.length, [], [], 0, none, by simp, Nat.zero_le _, Nat.le_refl _, Nat.le_refl _, by simp, rfl, rfl⟩, ?_⟩
  rintro m ρ G' ⟨F, l, t, o, rfl, h2, h3, h5, h4, rfl, rfl⟩
  simp only [List.getElem?_cons_zero, List.getElem?_cons_succ]
  refine len_di ?_
  simp only [cmpW, boolW]
  have lF : (dt F).length < sizeLine := by
    unfold dt; rw [List.length_map]
    exact Nat.lt_of_le_of_lt (Nat.le_trans h3 (Nat.le_trans h2 hz)) (by decide)
  have big : 1000 ≤ sizeLine := by decide
  by_cases ht : t < xs.length
  · have e1 : decide ((t : Int) < (xs.length : Int)) = true := decide_eq_true (by omega)
    simp only [e1, if_true]
    simp only [intK, addI]
    have e2 : ((t : Int) + 2) = ((t + 2 : Nat) : Int) := by omega
    have e3 : ((t : Int) + 1) = ((t + 1 : Nat) : Int) := by omega
    rw [e2, e3]
    refine lst_cut hsl (by omega) (nwT (by decide) (eq_lsts rfl (ys := [13, 10]) rfl ?_))
    have hd := List.drop_eq_getElem_cons ht
    have sz := @szG_le xs[t] (xs.drop (t + 1))
    have stp := cutG_step es kp l xs[t] (xs.drop (t + 1))
    rw [← hd] at sz stp
    rw [List.length_drop] at sz
    have ec : ∀ n, cutI xs t (t + n) = (xs.drop t).take n := fun n => by rw [cutI_add n (Nat.le_refl t), cutI_nil, List.nil_append]
    simp only [boolW]
    have both : ∀ (n : Nat) (Qk : AQ), szG (xs.drop t) = n → Qk (.lst (di ((xs.drop t).take n))) (gu G p (.lst (dt F))) →
        (if ((cutI xs t (t + 2)) == [13, 10]) = true then slW true (.lst (di xs)) (some (t : Int)) (some ((t + 2 : Nat) : Int)) (gu G p (.lst (dt F))) Qk else slW true (.lst (di xs)) (some (t : Int)) (some ((t + 1 : Nat) : Int)) (gu G p (.lst (dt F))) Qk) := fun n Qk en q => by
      by_cases h13 : (xs.drop t).take 2 = [13, 10]
      · unfold szG at en
        rw [if_pos h13] at en
        subst en
        rw [if_pos (by rw [ec]; simpa using h13)]
        exact lst_cut hsl (by omega) (by rw [ec]; exact q)
      · unfold szG at en
        rw [if_neg h13] at en
        subst en
        rw [if_neg (by rw [ec]; simpa using h13)]
        exact lst_cut hsl (by omega) (by rw [ec]; exact q)
    have hn0 : ∃ n, szG (xs.drop t) = n := ⟨_, rfl⟩
    obtain ⟨n, en⟩ := hn0
    rw [en] at stp sz
    rw [List.drop_drop] at stp
    simp only [Bool.false_eq_true, if_false]
    refine both n _ en ?_
    refine len_di ?_
    simp only [addI, List.set, List.getElem?_cons_zero, List.getElem?_cons_succ]
    have ln : ((xs.drop t).take n).length = n := by rw [List.length_take, List.length_drop]; omega
    have e5 : ((t : Int) + ((((xs.drop t).take n).length : Nat) : Int)) = ((t + n : Nat) : Int) := by rw [ln]; omega
    rw [e5]
    have hd0 : atI (di ((xs.drop t).take n)) 0 = some (.int xs[t]) := by
      rw [atI_nat (by decide)]
      have : ((xs.drop t).take n)[0]? = some xs[t] := by
        rw [List.getElem?_take, if_pos (by omega), hd]
        rfl
      show (di ((xs.drop t).take n))[0]? = _
      rw [List.getElem?_map, this]
      rfl
    refine ixL hd0 (mem_ints rfl ?_)
    simp only [boolW]
    have lk : ((xs.drop t).take n).length ≤ 100 := by rw [ln]; omega
    by_cases hm : es.contains xs[t] = true
    · rw [hm] at stp
      simp only [hm, if_true] at stp ⊢
      refine ⟨⟨_, lst_gu⟩, ?_⟩
      refine mul_lb (by rw [List.length_map]; omega) ?_
      have e6 : (if kp = true then di ((xs.drop t).take n) else []) = di (if kp = true then (xs.drop t).take n else []) := by cases kp <;> rfl
      rw [e6]
      have l7 : (if kp = true then (xs.drop t).take n else []).length ≤ 100 := by cases kp <;> simp <;> omega
      refine add_ll (by omega) ⟨_, rfl, app_gu lF (nwT (by decide) ?_)⟩
      refine ⟨xs.length - (t + n), by omega, F ++ [l ++ if kp = true then (xs.drop t).take n else []], [], t + n, some (.lst (di ((xs.drop t).take n))), rfl, by omega, by simp; omega, Nat.zero_le _, ?_, rfl, by simp [dt]⟩
      rw [List.append_assoc, ← h4, stp]
      rfl
    · simp only [hm, Bool.false_eq_true, if_false] at stp ⊢
      refine add_ll (by omega) ?_
      refine ⟨xs.length - (t + n), by omega, F, l ++ (xs.drop t).take n, t + n, some (.lst (di ((xs.drop t).take n))), rfl, by omega, by omega, by rw [List.length_append, ln]; omega, ?_, rfl, rfl⟩
      rw [← stp, h4]
  · have e1 : decide ((t : Int) < (xs.length : Int)) = false := decide_eq_false (by omega)
    have ht' : t = xs.length := by omega
    subst ht'
    simp only [e1, Bool.false_eq_true, if_false]
    refine ⟨_, rfl, nwT (by simp; omega) (nwT (by decide) (eq_lsts rfl (ys := []) rfl ?_))⟩
    simp only [if_true]
    rw [List.drop_length, cutG] at h4
    refine mul_lb (b := !(l == [])) (by simp; omega) ?_
    refine ⟨_, _, lst_gu, rfl, nwT ?_ ⟨G, .new hp, ?_⟩⟩
    · rw [List.length_append]
      have : (if (!(l == [])) = true then [Dat.tup (di l)] else []).length ≤ 1 := by split <;> simp
      have l0 : (dt F).length ≤ 100 := by unfold dt; rw [List.length_map]; omega
      omega
    · rw [← h4] at hq
      by_cases hl : l = []
      · subst hl
        simpa using hq
      · have : (l == []) = false := by simpa using hl
        rw [if_neg hl] at hq
        simp only [this, Bool.not_false, if_true]
        simpa [dt] using hq
end Av


set_option Elab.async false
set_option linter.all false
set_option maxRecDepth 100000
set_option maxHeartbeats 4000000
/-! # K75c -/
namespace Av
open PySem PySem.Spec PyProof.Rows L2

/-! ### the rows of the walk -/
theorem cutG_len (es : List Int) (kp : Bool) : ∀ (n : Nat) (line rest : List Int), rest.length ≤ n → (cutG es kp line rest).length ≤ rest.length + 1 ∧ ∀ l ∈ cutG es kp line rest, l.length ≤ line.length + rest.length := by
  intro n
  induction n with
  | zero =>
    intro line rest h
    have : rest = [] := List.length_eq_zero_iff.mp (by omega)
    subst this
    rw [cutG]
    by_cases hl : line = []
    · rw [if_pos hl]; simp
    · rw [if_neg hl]; simp
  | succ n ih =>
    intro line rest h
    cases rest with
    | nil =>
      rw [cutG]
      by_cases hl : line = []
      · rw [if_pos hl]; simp
      · rw [if_neg hl]; simp
    | cons a r =>
      have sz := @szG_le a r
      have st := cutG_step es kp line a r
      have ld : ((a :: r).drop (szG (a :: r))).length = (a :: r).length - szG (a :: r) := List.length_drop
      have lt : ((a :: r).take (szG (a :: r))).length = szG (a :: r) := by rw [List.length_take]; omega
      rw [st]
      by_cases hm : es.contains a = true
      · rw [if_pos hm]
        obtain ⟨i1, i2⟩ := ih [] ((a :: r).drop (szG (a :: r))) (by rw [ld]; omega)
        refine ⟨by rw [List.length_cons]; omega, fun l hl => ?_⟩
        rcases List.mem_cons.mp hl with rfl | hl
        · rw [List.length_append]
          have : (if kp = true then (a :: r).take (szG (a :: r)) else []).length ≤ szG (a :: r) := by cases kp <;> simp; omega
          omega
        · have := i2 l hl
          simp only [List.length_nil] at this
          omega
      · rw [if_neg hm]
        obtain ⟨i1, i2⟩ := ih (line ++ (a :: r).take (szG (a :: r))) ((a :: r).drop (szG (a :: r))) (by rw [ld]; omega)
        refine ⟨by omega, fun l hl => ?_⟩
        have := i2 l hl
        rw [List.length_append, lt, ld] at this
        omega
theorem cutG_flat (es : List Int) : ∀ (n : Nat) (line rest : List Int), rest.length ≤ n → (cutG es true line rest).flatten = line ++ rest := by
  intro n
  induction n with
  | zero =>
    intro line rest h
    have : rest = [] := List.length_eq_zero_iff.mp (by omega)
    subst this
    rw [cutG]
    by_cases hl : line = []
    · rw [if_pos hl, hl]; rfl
    · rw [if_neg hl]; simp
  | succ n ih =>
    intro line rest h
    cases rest with
    | nil =>
      rw [cutG]
      by_cases hl : line = []
      · rw [if_pos hl, hl]; rfl
      · rw [if_neg hl]; simp
    | cons a r =>
      have sz := @szG_le a r
      have st := cutG_step es true line a r
      have ld : ((a :: r).drop (szG (a :: r))).length = (a :: r).length - szG (a :: r) := List.length_drop
      rw [st]
      by_cases hm : es.contains a = true
      · rw [if_pos hm, List.flatten_cons, ih [] _ (by rw [ld]; omega), if_pos rfl, List.nil_append, List.append_assoc, List.take_append_drop]
      · rw [if_neg hm, ih _ _ (by rw [ld]; omega), List.append_assoc, List.take_append_drop]
theorem dt_get {ls : List (List Int)} {i : Nat} {d : Dat} (h : (dt ls)[i]? = some d) : ∃ l, d = .tup (di l) ∧ l ∈ ls := by
  unfold dt at h
  rw [List.getElem?_map] at h
  cases e : ls[i]? with
  | none => rw [e] at h; cases h
  | some l => rw [e] at h; cases h; exact ⟨l, rfl, List.mem_of_getElem? e⟩
theorem same_row {G : AG} {l : List Int} (h : l.length ≤ sizeLine) : SameN G 1 (.tup (di l)) (.tup (di l)) := by
  refine .inr (.inl ⟨_, _, rfl, rfl, rfl, by rw [List.length_map]; exact h, fun i a b h1 h2 => ?_⟩)
  rw [h1] at h2
  cases h2
  rw [List.getElem?_map] at h1
  cases e : l[i]? with
  | none => rw [e] at h1; cases h1
  | some v => rw [e] at h1; cases h1; exact ⟨rfl, rfl⟩
theorem same_rows {G : AG} {x y : Dat} {es xs : List Int} {kp : Bool} (hz : xs.length ≤ 100) (h1 : lstOf G x = some (dt (cutG es kp [] xs))) (h2 : lstOf G y = some (dt (cutG es kp [] xs))) : SameN G 2 x y := by
  have big : 1000 ≤ sizeLine := by decide
  obtain ⟨k1, k2⟩ := cutG_len es kp xs.length [] xs (Nat.le_refl _)
  refine .inr (.inr ⟨_, _, h1, h2, rfl, by unfold dt; rw [List.length_map]; omega, fun i a b e1 e2 => ?_⟩)
  rw [e1] at e2
  cases e2
  obtain ⟨l, rfl, hl⟩ := dt_get e1
  have := k2 l hl
  simp only [List.length_nil] at this
  exact same_row (by omega)
theorem SameN.up {G : AG} : ∀ {n : Nat} {x y : Dat}, SameN G n x y → SameN G (n + 1) x y
  | 0, x, y, h => .inl h
  | n + 1, x, y, h => by
    rcases h with h | ⟨xs, ys, h1, h2, h3, h4, h5⟩ | ⟨xs, ys, h1, h2, h3, h4, h5⟩
    · exact .inl h
    · exact .inr (.inl ⟨xs, ys, h1, h2, h3, h4, fun i a b e1 e2 => (h5 i a b e1 e2).up⟩)
    · exact .inr (.inr ⟨xs, ys, h1, h2, h3, h4, fun i a b e1 e2 => (h5 i a b e1 e2).up⟩)
theorem same_pair {G : AG} {n : Nat} {a b c d : Dat} (h1 : SameN G n a c) (h2 : SameN G n b d) : SameN G (n + 1) (.lst [a, b]) (.lst [c, d]) := by
  refine .inr (.inr ⟨_, _, rfl, rfl, rfl, Nat.le_trans (show 2 ≤ 1000 by decide) (by decide), fun i x y e1 e2 => ?_⟩)
  match i, e1, e2 with
  | 0, e1, e2 => cases e1; cases e2; exact h1
  | 1, e1, e2 => cases e1; cases e2; exact h2
  | i + 2, e1, e2 => simp at e1
/-! ### the defs -/
def tEnds : List Int := [10, 11, 12, 13, 28, 29, 30, 133, 8232, 8233]
def oEnds : List Int := [10, 13]
def c_text (es : List Int) : Con := fun ds G Q X => ∃ x xs kp, ds = [x, .bl kp] ∧ RowI x xs ∧ xs.length ≤ 100 ∧ ∀ p, G p = none → Q (.ref p) (gu G p (.lst (dt (cutG es kp [] xs))))
def f_text (es : List Int) : FnE := { con := c_text es, ar := 2, dfl := [.bl false], len := fun ds G Q X ⟨_, _, _, h, _⟩ => by rw [h]; rfl }
def b_text_lines : List S := [.ret (.call "cut_lines" [(.var 0), (.glo "TEXT_ENDS"), (.var 1)])]
def b_octet_lines : List S := [.ret (.call "cut_lines" [(.var 0), (.glo "OCTET_ENDS"), (.var 1)])]
theorem ok_text (Γ : Gam) (hc : Γ.fn "cut_lines" = some f_cut) (hg : Γ.gl "TEXT_ENDS" = some (.tup (di tEnds))) (N : List Str) (hN : N.length = 2) (ds : List Dat) (G : AG) (Q : AQ) (X : AX) (h : c_text tEnds ds G Q X) : wSs Γ b_text_lines (startD N ds) G (endsOf Q X) := by
  obtain ⟨x, xs, kp, rfl, hx, hz, hq⟩ := h
  have st : startD N [x, .bl kp] = [some x, some (.bl kp)] := by unfold startD; rw [hN]; rfl
  rw [st]
  unfold b_text_lines
  simp only [wSs, wS, wE, wEs, hc, hg, List.getElem?_cons_zero, List.getElem?_cons_succ]
  exact ⟨⟨by decide, by decide⟩, x, xs, tEnds, kp, rfl, hx, hz, fun p hp => ⟨_, .refl _, hq p hp⟩⟩
theorem ok_octet (Γ : Gam) (hc : Γ.fn "cut_lines" = some f_cut) (hg : Γ.gl "OCTET_ENDS" = some (.tup (di oEnds))) (N : List Str) (hN : N.length = 2) (ds : List Dat) (G : AG) (Q : AQ) (X : AX) (h : c_text oEnds ds G Q X) : wSs Γ b_octet_lines (startD N ds) G (endsOf Q X) := by
  obtain ⟨x, xs, kp, rfl, hx, hz, hq⟩ := h
  have st : startD N [x, .bl kp] = [some x, some (.bl kp)] := by unfold startD; rw [hN]; rfl
  rw [st]
  unfold b_octet_lines
  simp only [wSs, wS, wE, wEs, hc, hg, List.getElem?_cons_zero, List.getElem?_cons_succ]
  exact ⟨⟨by decide, by decide⟩, x, xs, oEnds, kp, rfl, hx, hz, fun p hp => ⟨_, .refl _, hq p hp⟩⟩
def c_ltext : Con := fun ds G Q X => ∃ x xs kp, ds = [x, .bl kp] ∧ RowI x xs ∧ xs.length ≤ 100 ∧ Q (.lst (dt (cutG tEnds kp [] xs))) G
def f_ltext : FnE := { con := c_ltext, ar := 2, len := fun ds G Q X ⟨_, _, _, h, _⟩ => by rw [h]; rfl }
def b_ltext : List S := [
  .ret (.call "_law_lines" [(.var 0), (.tup [(.cst (.int 10)), (.cst (.int 11)), (.cst (.int 12)), (.cst (.int 13)), (.cst (.int 28)), (.cst (.int 29)), (.cst (.int 30)), (.cst (.int 133)), (.cst (.int 8232)), (.cst (.int 8233))]), (.var 1)])]
theorem ok_ltext (Γ : Gam) (hc : Γ.fn "_law_lines" = some f_lines) (N : List Str) (hN : N.length = 2) (ds : List Dat) (G : AG) (Q : AQ) (X : AX) (h : c_ltext ds G Q X) : wSs Γ b_ltext (startD N ds) G (endsOf Q X) := by
  obtain ⟨x, xs, kp, rfl, hx, hz, hq⟩ := h
  have st : startD N [x, .bl kp] = [some x, some (.bl kp)] := by unfold startD; rw [hN]; rfl
  rw [st]
  unfold b_ltext
  simp only [wSs, wS, wE, wEs, hc, List.getElem?_cons_zero, List.getElem?_cons_succ]
  exact ⟨⟨by decide, by decide⟩, by decide, x, xs, tEnds, kp, rfl, hx, hz, ⟨_, .refl _, hq⟩⟩
def c_handed : Con := fun ds G Q X => ∃ p n o x xs, ds = [.ref p, x] ∧ RowI x xs ∧ xs.length ≤ 100 ∧ G p = some o ∧ DrO (n + 1) o ∧ ∀ y o', RowI y xs → DrO n o' → Q y (gu G p o')
def f_handed : FnE := { con := c_handed, ar := 2, len := fun ds G Q X ⟨_, _, _, _, _, h, _⟩ => by rw [h]; rfl }
def b_handed : List S := [.ret (.ix (.lst true [(.blt true .tuple [(.var 1)]), (.blt true .list [(.var 1)])]) (.call "_law_draw" [(.var 0), (.cst (.int 2))]))]
theorem ok_handed (Γ : Gam) (hd : Γ.fn "_law_draw" = some f_draw) (N : List Str) (hN : N.length = 2) (ds : List Dat) (G : AG) (Q : AQ) (X : AX) (h : c_handed ds G Q X) : wSs Γ b_handed (startD N ds) G (endsOf Q X) := by
  obtain ⟨p, n, o, x, xs, rfl, hx, hz, hp, ho, hq⟩ := h
  have st : startD N [.ref p, x] = [some (.ref p), some x] := by unfold startD; rw [hN]; rfl
  rw [st]
  have big : 1000 ≤ sizeLine := by decide
  unfold b_handed
  simp only [wSs, wS, wE, wEs, hd, List.getElem?_cons_zero, List.getElem?_cons_succ]
  refine ⟨_, fix_seq hx.fix, _, fix_seq hx.fix, nwT (by rw [List.length_map]; omega) (nwT (by simp; omega) ⟨⟨by decide, by decide⟩, p, 2, n, o, rfl, hp, ho, by decide, by decide, fun r o' h0 h1 h2 => ?_⟩)⟩
  have : r = 0 ∨ r = 1 := by omega
  rcases this with rfl | rfl
  · exact ixL rfl ⟨_, .refl _, hq _ o' (.inl rfl) h2⟩
  · exact ixL rfl ⟨_, .refl _, hq _ o' (.inr rfl) h2⟩
theorem gu_swap {G : AG} {p q : Addr} {a b : AO} (h : p ≠ q) : gu (gu G p a) q b = gu (gu G q b) p a := by
  funext c
  unfold gu
  by_cases h1 : c = q
  · by_cases h2 : c = p
    · exact absurd (h2.symm.trans h1) h
    · simp [h1, Ne.symm h]
  · by_cases h2 : c = p
    · subst h2; simp [h1]
    · simp [h1, h2]
theorem gx_pq {G : AG} {p q : Addr} {a b : AO} (hq : G q = none) (h : p ≠ q) : gx (gu (gu G q a) p b) q = gu G p b := by
  funext c
  unfold gx gu
  by_cases h1 : c = q
  · subst h1; simp [hq, Ne.symm h]
  · simp [h1]
def c_row : Con := fun ds G Q X => ∃ p n o m sm items, ds = [.ref p, .int m, sm] ∧ 0 ≤ m ∧ m ≤ 30 ∧ fixOf sm = some (di items) ∧ 0 < items.length ∧ items.length < 1000 ∧ G p = some o ∧ DrO (n + 100) o ∧ ∀ xs o', xs.length ≤ 60 → DrO n o' → Q (.lst (di xs)) (gu G p o')
def f_row : FnE := { con := c_row, ar := 3, len := fun ds G Q X ⟨_, _, _, _, _, _, h, _⟩ => by rw [h]; rfl }
def b_row : List S := [
  .set 3 (.lst false []),
  .for_ (.nm 4) (.rng1 (.call "_law_draw" [(.var 0), (.bin true .add (.var 1) (.cst (.int 1)))])) [.expr (.meth .extend (.var 3) [(.ite (.cmp .eq (.call "_law_draw" [(.var 0), (.cst (.int 6))]) (.cst (.int 0))) (.lst true [(.cst (.int 13)), (.cst (.int 10))]) (.lst true [(.call "_law_pick" [(.var 0), (.var 2)])]))])],
  .ret (.frz (.var 3))]
theorem eq_ints {G : AG} {i j : Int} {Q : AQ} (q : Q (.bl (i == j)) G) : cmpW .eq (.int i) (.int j) G Q := by
  refine ⟨.int i, .int j, .int i, .int j, rfl, rfl, ?_⟩
  have e : PyData.eqv (.int i) (.int j) = (i == j) := by simp [PyData.eqv]
  simp only [Bool.false_eq_true, if_false, e]
  exact q
theorem ok_row (Γ : Gam) (hd : Γ.fn "_law_draw" = some f_draw) (hk : Γ.fn "_law_pick" = some f_pick) (N : List Str) (hN : N.length = 5) (ds : List Dat) (G : AG) (Q : AQ) (X : AX) (h : c_row ds G Q X) : wSs Γ b_row (startD N ds) G (endsOf Q X) := by
  obtain ⟨p, n, o, m, sm, items, rfl, h1, h2, h3, h4, h5, hp, ho, hq⟩ := h
  have st : startD N [.ref p, .int m, sm] = [some (.ref p), some (.int m), some sm, none, none] := by unfold startD; rw [hN]; rfl
  rw [st]
  have big : 1000 ≤ sizeLine := by decide
  unfold b_row
  simp only [wSs, wS, wE, wEs, wI, hd, List.set, List.getElem?_cons_zero, List.getElem?_cons_succ]
  refine nwF (by decide) fun q hqn => ?_
  have pq : p ≠ q := fun z => by rw [z, hqn] at hp; cases hp
  simp only [addI]
  refine ⟨⟨by decide, by decide⟩, p, m + 1, n + 99, o, rfl, by rw [gu_ne pq]; exact hp, ho, by omega, by omega, fun r o1 r0 r1 ho1 => ⟨by omega, by omega, ?_⟩⟩
  have lr : (rngD 0 r.toNat).length = r.toNat := by unfold rngD; rw [List.length_map, List.length_range]
  refine forW_of (fun rem ρ G' => ∃ (acc : List Int) (o' : AO) (o4 : Option Dat), rem.length ≤ 30 ∧ acc.length + 2 * rem.length ≤ 60 ∧ DrO (n + 2 * rem.length) o' ∧ G' = gu (gu G q (.lst (di acc))) p o' ∧
    ρ = [some (.ref p), some (.int m), some sm, some (.ref q), o4]) ?_ ?_ _ _ _ ⟨[], o1, none, by omega, by simp; omega, ho1.mono (by omega), rfl, rfl⟩
  · rintro d rem ρ G' Nx hNx ⟨acc, o', o4, k1, k2, k3, rfl, rfl⟩
    refine ⟨trivial, ?_⟩
    simp only [tgW, wSs, wS, wE, wEs, wT, hd, hk, List.set, List.getElem?_cons_zero, List.getElem?_cons_succ]
    rw [List.length_cons] at k1 k2 k3
    have gq : ∀ (A : List Dat) (o : AO), gu (gu G q (.lst A)) p o q = some (.lst A) := fun A o => by rw [gu_ne (Ne.symm pq), gu_same]
    refine ⟨⟨_, by show (match gu (gu G q (.lst (di acc))) p o' q with | some (.lst ds) => some ds | _ => none) = some (di acc); rw [gq]⟩, ⟨by decide, by decide⟩, p, 6, n + 2 * rem.length + 1, o', rfl, gu_same, k3.mono (by omega), by decide, by decide, fun v o2 v0 v1 ho2 => eq_ints ?_⟩
    simp only [gu_gu, boolW]
    by_cases hv : (v == 0) = true
    · simp only [hv, if_true]
      refine nwT (by decide) ⟨di acc, di [13, 10], gq _ _, rfl, by simp; omega, hNx _ _ ⟨acc ++ [13, 10], o2, _, by omega, by simp; omega, ho2.mono (by omega), ?_, rfl⟩⟩
      rw [gu_swap pq, gu_gu, ← List.map_append]
    · simp only [hv, Bool.false_eq_true, if_false]
      refine ⟨⟨by decide, by decide⟩, p, n + 2 * rem.length, o2, sm, di items, rfl, gu_same, ho2, h3, by simpa using h4, by rw [List.length_map]; omega, fun dd o3 hdd ho3 => ?_⟩
      obtain ⟨i, hi, rfl⟩ := List.mem_map.mp hdd
      refine nwT (Nat.le_trans (show 1 ≤ 1000 by decide) big) ?_
      rw [gu_gu]
      refine ⟨di acc, di [i], gq _ _, rfl, by simp; omega, hNx _ _ ⟨acc ++ [i], o3, _, by omega, by simp; omega, ho3, ?_, rfl⟩⟩
      rw [gu_swap pq, gu_gu, ← List.map_append]
  · rintro ρ G' ⟨acc, o', o4, k1, k2, k3, rfl, rfl⟩
    refine ⟨trivial, ?_⟩
    simp only [List.getElem?_cons_zero, List.getElem?_cons_succ, frzW]
    have gq : gu (gu G q (.lst (di acc))) p o' q = some (.lst (di acc)) := by rw [gu_ne (Ne.symm pq), gu_same]
    rw [gq]
    refine ⟨_, .refl _, ?_⟩
    rw [gx_pq hqn pq]
    exact hq acc o' (by omega) (k3.mono (by omega))
end Av


set_option Elab.async false
set_option linter.all false
set_option maxRecDepth 100000
set_option maxHeartbeats 8000000
/-! # K75d: the law -/
namespace Av
open PySem PySem.Spec PyProof.Rows L2

def c_law : Con := fun ds G Q X => ∃ sc ns, ds = [sc] ∧ fixOf sc = some (di ns) ∧ ∀ G', Q (.bl true) G'
def f_law : FnE := { con := c_law, ar := 1, len := fun ds G Q X ⟨_, _, h, _⟩ => by rw [h]; rfl }
def b_loop : List S := [.set 3 (.call "_law_source" [(.var 0), (.var 2)]), .set 4 (.call "_law_row" [(.var 3), (.cst (.int 30)), (.bin true .add (.var 1) (.lst true [(.cst (.int 8231)), (.cst (.int 8232)), (.cst (.int 8233)), (.cst (.int 8234)), (.cst (.int 0)), (.cst (.int 1114111)), (.cst (.int 55296))]))]), .set 5 (.call "_law_row" [(.var 3), (.cst (.int 30)), (.bin true .add (.var 1) (.lst true [(.cst (.int 0)), (.cst (.int 255))]))]), .set 6 (.cmp .eq (.call "_law_draw" [(.var 3), (.cst (.int 2))]) (.cst (.int 0))), .par2 8 9 (.call "_law_handed" [(.var 3), (.var 4)]) (.call "_law_handed" [(.var 3), (.var 5)]), .if_ (.not_ (.val (.call "_law_same" [(.call "text_lines" [(.var 8), (.var 6)]), (.call "_law_text_lines" [(.var 4), (.var 6)])]))) [.ret (.cst (.bl false))] [], .if_ (.not_ (.val (.call "_law_same" [(.call "octet_lines" [(.var 9), (.var 6)]), (.call "_law_lines" [(.var 5), (.tup [(.cst (.int 10)), (.cst (.int 13))]), (.var 6)])]))) [.ret (.cst (.bl false))] [], .set 7 (.lst true [(.call "text_lines" [(.var 8)]), (.call "text_lines" [(.var 8), (.cst (.bl true))])]), .if_ (.not_ (.val (.call "_law_same" [(.var 7), (.lst true [(.call "_law_text_lines" [(.var 4), (.cst (.bl false))]), (.call "_law_text_lines" [(.var 4), (.cst (.bl true))])])]))) [.ret (.cst (.bl false))] [], .if_ (.cmp .ne (.blt true .sum2 [(.lc true (.blt true .list [(.var 10)]) (.nm 10) (.seq (.ix (.var 7) (.cst (.int 1)))) [10]), (.lst true [])]) (.var 4)) [.ret (.cst (.bl false))] [], .set 7 (.lst true [(.call "octet_lines" [(.var 9)]), (.call "octet_lines" [(.var 9), (.cst (.bl true))])]), .if_ (.not_ (.val (.call "_law_same" [(.var 7), (.lst true [(.call "_law_lines" [(.var 5), (.tup [(.cst (.int 10)), (.cst (.int 13))]), (.cst (.bl false))]), (.call "_law_lines" [(.var 5), (.tup [(.cst (.int 10)), (.cst (.int 13))]), (.cst (.bl true))])])]))) [.ret (.cst (.bl false))] [], .expr (.meth .append (.ix (.var 7) (.cst (.int 1))) [(.cst (.str "more"))]), .if_ (.or_ (.cmp .ne (.blt true .len [(.call "octet_lines" [(.var 9), (.cst (.bl true))])]) (.bin true .sub (.blt true .len [(.ix (.var 7) (.cst (.int 1)))]) (.cst (.int 1)))) (.or_ (.cmp .ne (.blt true .list [(.var 8)]) (.var 4)) (.one (.cmp .ne (.blt true .list [(.var 9)]) (.var 5))))) [.ret (.cst (.bl false))] []]
def b_law : List S := [
  .set 1 (.lst true [(.cst (.int 9)), (.cst (.int 10)), (.cst (.int 10)), (.cst (.int 11)), (.cst (.int 12)), (.cst (.int 13)), (.cst (.int 13)), (.cst (.int 14)), (.cst (.int 27)), (.cst (.int 28)), (.cst (.int 29)), (.cst (.int 30)), (.cst (.int 31)), (.cst (.int 32)), (.cst (.int 97)), (.cst (.int 132)), (.cst (.int 133)), (.cst (.int 134))]),
  .for_ (.nm 2) (.rng1 (.cst (.int 10))) b_loop,
  .ret (.cst (.bl true))]
def near : List Int := [9, 10, 10, 11, 12, 13, 13, 14, 27, 28, 29, 30, 31, 32, 97, 132, 133, 134]
structure G75 (Γ : Gam) : Prop where
  source : Γ.fn "_law_source" = some f_source
  row : Γ.fn "_law_row" = some f_row
  draw : Γ.fn "_law_draw" = some f_draw
  handed : Γ.fn "_law_handed" = some f_handed
  same : Γ.fn "_law_same" = some (f_same 3)
  text : Γ.fn "text_lines" = some (f_text tEnds)
  octet : Γ.fn "octet_lines" = some (f_text oEnds)
  ltext : Γ.fn "_law_text_lines" = some f_ltext
  lines : Γ.fn "_law_lines" = some f_lines
theorem lcW_map {elt : Env' → AG → AQ → Prop} {g : TGt} {own : List Nat} {gd : Gd} {ρ : Env'} {Q : AQ} {G : AG} {f : Dat → Dat} {ds : List Dat} (hg : gdOk G gd) (hl : ds.length ≤ sizeLine)
    (h : ∀ d ∈ ds, ∀ Q' : AQ, Q' (f d) G → tgW g d (wipeD ρ own) fun ρ1 => elt ρ1 G Q') (q : Q (.lst (ds.map f)) G) : lcW true elt g own gd ρ Q ds [] G := by
  refine lcW_of (fun rem acc G' => G' = G ∧ ∃ pre, ds = pre ++ rem ∧ acc = pre.map f) ?_ ?_ _ _ _ ⟨rfl, [], rfl, rfl⟩
  · rintro d rem acc G' N hN ⟨rfl, pre, hd, rfl⟩
    refine ⟨hg, h d (by rw [hd]; simp) _ ⟨?_, hN _ _ ⟨rfl, pre ++ [d], by rw [hd]; simp, by simp⟩⟩⟩
    rw [hd] at hl
    simp at hl ⊢
    omega
  · rintro acc G' ⟨rfl, pre, hd, rfl⟩
    rw [List.append_nil] at hd
    rw [← hd]
    exact ⟨hg, by rw [if_pos rfl]; exact q⟩
def toL : Dat → Dat
  | .tup ds => .lst ds
  | d => d
theorem lsts_dt {G : AG} : ∀ ls : List (List Int), lstsOf G ((dt ls).map toL) = some (ls.map di)
  | [] => rfl
  | l :: ls => by
    show (match lstOf G (.lst (di l)), lstsOf G ((dt ls).map toL) with | some b, some ls => some (b :: ls) | _, _ => none) = _
    rw [lsts_dt ls]
    rfl
theorem flat_di : ∀ ls : List (List Int), (ls.map di).flatten = di ls.flatten
  | [] => rfl
  | l :: ls => by rw [List.map_cons, List.flatten_cons, List.flatten_cons, flat_di ls]; exact List.map_append.symm
theorem sum_rows {G : AG} {es xs : List Int} {Q : AQ} (hz : xs.length ≤ 100) (q : Q (.lst (di xs)) G) : bltW true .sum2 [.lst ((dt (cutG es true [] xs)).map toL), .lst []] G Q := by
  have hf := cutG_flat es xs.length [] xs (Nat.le_refl _)
  have big : 1000 ≤ sizeLine := by decide
  refine ⟨_, rfl, [], _, rfl, lsts_dt _, ?_, ?_⟩
  · rw [flat_di, hf]; simp; omega
  · rw [flat_di, hf]
    by_cases h : (cutG es true [] xs).map di = []
    · rw [if_pos h]
      have : cutG es true [] xs = [] := by simpa using h
      rw [this] at hf
      have hx : xs = [] := by simpa using hf.symm
      subst hx
      exact q
    · rw [if_neg h]
      exact nwT (by simp; omega) q
theorem lst_of {G : AG} {p : Addr} {ds : List Dat} (h : G p = some (.lst ds)) : lstOf G (.ref p) = some ds := by
  show (match G p with | some (.lst ds) => some ds | _ => none) = some ds
  rw [h]
theorem ne_i {G : AG} {i : Int} {Q : AQ} (q : Q (.bl false) G) : cmpW .ne (.int i) (.int i) G Q := by
  refine ⟨.int i, .int i, .int i, .int i, rfl, rfl, ?_⟩
  have e : PyData.eqv (.int i) (.int i) = true := by simp [PyData.eqv]
  simp only [if_true, e, Bool.not_true]
  exact q
theorem loop_ok (Γ : Gam) (g : G75 Γ) (sc : Dat) (ns : List Int) (hs : fixOf sc = some (di ns)) (k : Int) (hk : 0 ≤ k) (hk2 : k < 10) (o3 o4 o5 o6 o7 o8 o9 o10 : Option Dat) (G : AG) (A : AEnds)
    (hn : ∀ (o3 o4 o5 o6 o7 o8 o9 o10 : Option Dat) G', A.nx [some sc, some (.lst (di near)), some (.int k), o3, o4, o5, o6, o7, o8, o9, o10] G') : wSs Γ b_loop [some sc, some (.lst (di near)), some (.int k), o3, o4, o5, o6, o7, o8, o9, o10] G A := by
  have big : 1000 ≤ sizeLine := by decide
  unfold b_loop
  simp only [wSs, wS, wE, wEs, wT, g.source, g.row, g.draw, g.handed, g.same, g.text, g.octet, g.ltext, g.lines, wI, List.set, List.getElem?_cons_zero, List.getElem?_cons_succ]
  refine ⟨⟨by decide, by decide⟩, sc, k, ns, rfl, hs, hk, by omega, fun p o hp ho => ?_⟩
  have s1 : Sub G (gu G p o) := .new hp
  have q1 : gu G p o p = some o := gu_same
  generalize gu G p o = G1 at s1 q1 ⊢
  have ho : DrO 400 o := ho.mono (by decide)
  refine ⟨⟨by decide, by decide⟩, nwT (Nat.le_trans (show 7 ≤ 1000 by decide) big) (add_ll (xs := near) (ys := [8231, 8232, 8233, 8234, 0, 1114111, 55296]) (Nat.le_trans (show 25 ≤ 1000 by decide) big) ?_)⟩
  refine ⟨p, 300, o, 30, _, near ++ [8231, 8232, 8233, 8234, 0, 1114111, 55296], rfl, by decide, by decide, rfl, by decide, by decide, q1, ho, fun xs o1 hx1 ho1 => ?_⟩
  refine ⟨⟨by decide, by decide⟩, nwT (Nat.le_trans (show 2 ≤ 1000 by decide) big) (add_ll (xs := near) (ys := [0, 255]) (Nat.le_trans (show 20 ≤ 1000 by decide) big) ?_)⟩
  refine ⟨p, 200, o1, 30, _, near ++ [0, 255], rfl, by decide, by decide, rfl, by decide, by decide, gu_same, ho1, fun ys o2 hy1 ho2 => ?_⟩
  simp only [gu_gu]
  refine ⟨⟨by decide, by decide⟩, p, 2, 199, o2, rfl, gu_same, ho2, by decide, by decide, fun v o3 v0 v1 ho3 => eq_ints ?_⟩
  simp only [gu_gu]
  refine ⟨⟨by decide, by decide⟩, p, 198, o3, .lst (di xs), xs, rfl, .inr rfl, by omega, gu_same, ho3, fun x o4 hx ho4 => ?_⟩
  simp only [gu_gu]
  refine ⟨⟨by decide, by decide⟩, p, 197, o4, .lst (di ys), ys, rfl, .inr rfl, by omega, gu_same, ho4, fun y o5 hy ho5 => ?_⟩
  simp only [gu_gu]
  generalize gu G1 p o5 = G2
  generalize (v == 0) = kp
  have hx2 : xs.length ≤ 100 := by omega
  have hy2 : ys.length ≤ 100 := by omega
  -- text_lines
  refine ⟨⟨by decide, by decide⟩, ⟨⟨by decide, by decide⟩, x, xs, kp, rfl, hx, hx2, fun p1 hp1 => ?_⟩⟩
  have s3 : Sub G2 (gu G2 p1 (.lst (dt (cutG tEnds kp [] xs)))) := .new hp1
  have e3 : gu G2 p1 (.lst (dt (cutG tEnds kp [] xs))) p1 = some (.lst (dt (cutG tEnds kp [] xs))) := gu_same
  generalize gu G2 p1 (.lst (dt (cutG tEnds kp [] xs))) = G3 at s3 e3 ⊢
  refine ⟨⟨by decide, by decide⟩, .lst (di xs), xs, kp, rfl, .inr rfl, hx2, ?_⟩
  refine ⟨_, _, rfl, (same_rows hx2 (lst_of e3) rfl).up, ?_⟩
  simp only [truW, Bool.not_true, Bool.false_eq_true, if_false]
  -- octet_lines
  refine ⟨⟨by decide, by decide⟩, ⟨⟨by decide, by decide⟩, y, ys, kp, rfl, hy, hy2, fun p2 hp2 => ?_⟩⟩
  have s4 : Sub G3 (gu G3 p2 (.lst (dt (cutG oEnds kp [] ys)))) := .new hp2
  have e4 : gu G3 p2 (.lst (dt (cutG oEnds kp [] ys))) p2 = some (.lst (dt (cutG oEnds kp [] ys))) := gu_same
  generalize gu G3 p2 (.lst (dt (cutG oEnds kp [] ys))) = G4 at s4 e4 ⊢
  refine ⟨⟨by decide, by decide⟩, by decide, .lst (di ys), ys, oEnds, kp, rfl, .inr rfl, hy2, ?_⟩
  refine ⟨_, _, rfl, (same_rows hy2 (lst_of e4) rfl).up, ?_⟩
  simp only [truW, Bool.not_true, Bool.false_eq_true, if_false]
  -- both, of texts
  refine ⟨⟨by decide, by decide⟩, x, xs, false, rfl, hx, hx2, fun p5 hp5 => ?_⟩
  have s5 : Sub G4 (gu G4 p5 (.lst (dt (cutG tEnds false [] xs)))) := .new hp5
  have e5 : gu G4 p5 (.lst (dt (cutG tEnds false [] xs))) p5 = some (.lst (dt (cutG tEnds false [] xs))) := gu_same
  generalize gu G4 p5 (.lst (dt (cutG tEnds false [] xs))) = G5 at s5 e5 ⊢
  refine ⟨⟨by decide, by decide⟩, x, xs, true, rfl, hx, hx2, fun p6 hp6 => ?_⟩
  have s6 : Sub G5 (gu G5 p6 (.lst (dt (cutG tEnds true [] xs)))) := .new hp6
  have e6 : gu G5 p6 (.lst (dt (cutG tEnds true [] xs))) p6 = some (.lst (dt (cutG tEnds true [] xs))) := gu_same
  generalize gu G5 p6 (.lst (dt (cutG tEnds true [] xs))) = G6 at s6 e6 ⊢
  refine nwT (Nat.le_trans (show 2 ≤ 1000 by decide) big) ?_
  refine ⟨⟨by decide, by decide⟩, ⟨by decide, by decide⟩, .lst (di xs), xs, false, rfl, .inr rfl, hx2, ⟨by decide, by decide⟩, .lst (di xs), xs, true, rfl, .inr rfl, hx2, nwT (Nat.le_trans (show 2 ≤ 1000 by decide) big) ?_⟩
  refine ⟨_, _, rfl, same_pair (same_rows hx2 (lst_of (s6 _ _ e5)) rfl) (same_rows hx2 (lst_of e6) rfl), ?_⟩
  simp only [truW, Bool.not_true, Bool.false_eq_true, if_false]
  refine ixL rfl ⟨_, e6, ?_⟩
  obtain ⟨k1, k2⟩ := cutG_len tEnds true xs.length [] xs (Nat.le_refl _)
  refine lcW_map (f := toL) ⟨e6, trivial⟩ (by unfold dt; rw [List.length_map]; omega) (fun d hd Q' q => ?_) ?_
  · obtain ⟨l, hl, rfl⟩ := List.mem_map.mp hd
    have := k2 l hl
    simp only [List.length_nil] at this
    exact ⟨_, rfl, nwT (by rw [List.length_map]; omega) q⟩
  refine nwT (Nat.zero_le _) (sum_rows hx2 (eq_lsts rfl rfl ?_))
  simp only [beq_self_eq_true, if_true, Bool.not_true, boolW, Bool.false_eq_true, if_false]
  -- both, of octets
  refine ⟨⟨by decide, by decide⟩, y, ys, false, rfl, hy, hy2, fun p7 hp7 => ?_⟩
  have s7 : Sub G6 (gu G6 p7 (.lst (dt (cutG oEnds false [] ys)))) := .new hp7
  have e7 : gu G6 p7 (.lst (dt (cutG oEnds false [] ys))) p7 = some (.lst (dt (cutG oEnds false [] ys))) := gu_same
  generalize gu G6 p7 (.lst (dt (cutG oEnds false [] ys))) = G7 at s7 e7 ⊢
  refine ⟨⟨by decide, by decide⟩, y, ys, true, rfl, hy, hy2, fun p8 hp8 => ?_⟩
  have s8 : Sub G7 (gu G7 p8 (.lst (dt (cutG oEnds true [] ys)))) := .new hp8
  have e8 : gu G7 p8 (.lst (dt (cutG oEnds true [] ys))) p8 = some (.lst (dt (cutG oEnds true [] ys))) := gu_same
  generalize gu G7 p8 (.lst (dt (cutG oEnds true [] ys))) = G8 at s8 e8 ⊢
  refine nwT (Nat.le_trans (show 2 ≤ 1000 by decide) big) ?_
  refine ⟨⟨by decide, by decide⟩, ⟨by decide, by decide⟩, by decide, .lst (di ys), ys, oEnds, false, rfl, .inr rfl, hy2, ⟨by decide, by decide⟩, by decide, .lst (di ys), ys, oEnds, true, rfl, .inr rfl, hy2, nwT (Nat.le_trans (show 2 ≤ 1000 by decide) big) ?_⟩
  refine ⟨_, _, rfl, same_pair (same_rows hy2 (lst_of (s8 _ _ e7)) rfl) (same_rows hy2 (lst_of e8) rfl), ?_⟩
  simp only [truW, Bool.not_true, Bool.false_eq_true, if_false]
  -- one list grows
  obtain ⟨j1, j2⟩ := cutG_len oEnds true ys.length [] ys (Nat.le_refl _)
  refine ixL rfl ⟨⟨_, lst_of e8⟩, _, e8, by unfold dt; rw [List.length_map]; omega, ?_⟩
  have e9 : gu G8 p8 (.lst (dt (cutG oEnds true [] ys) ++ [.str "more"])) p8 = some (.lst (dt (cutG oEnds true [] ys) ++ [.str "more"])) := gu_same
  generalize gu G8 p8 (.lst (dt (cutG oEnds true [] ys) ++ [.str "more"])) = G9 at e9 ⊢
  refine ⟨⟨by decide, by decide⟩, y, ys, true, rfl, hy, hy2, fun p10 hp10 => ?_⟩
  have s10 : Sub G9 (gu G9 p10 (.lst (dt (cutG oEnds true [] ys)))) := .new hp10
  have e10 : gu G9 p10 (.lst (dt (cutG oEnds true [] ys))) p10 = some (.lst (dt (cutG oEnds true [] ys))) := gu_same
  generalize gu G9 p10 (.lst (dt (cutG oEnds true [] ys))) = G10 at s10 e10 ⊢
  refine ⟨_, lst_of e10, ?_⟩
  refine ixL rfl ⟨_, lst_of (s10 _ _ e9), ?_⟩
  have e11 : (((dt (cutG oEnds true [] ys) ++ [Dat.str "more"]).length : Nat) : Int) - 1 = (((dt (cutG oEnds true [] ys)).length : Nat) : Int) := by rw [List.length_append, List.length_singleton]; omega
  show cmpW .ne (.int ((dt (cutG oEnds true [] ys)).length : Nat)) (.int ((((dt (cutG oEnds true [] ys) ++ [Dat.str "more"]).length : Nat) : Int) - 1)) G10 _
  rw [e11]
  refine ne_i ?_
  simp only [boolW, Bool.false_eq_true, if_false]
  refine ⟨_, fix_seq hx.fix, nwT (by rw [List.length_map]; omega) (eq_lsts rfl rfl ?_)⟩
  simp only [beq_self_eq_true, if_true, Bool.not_true, boolW, Bool.false_eq_true, if_false]
  refine ⟨_, fix_seq hy.fix, nwT (by rw [List.length_map]; omega) (eq_lsts rfl rfl ?_)⟩
  simp only [beq_self_eq_true, if_true, Bool.not_true, boolW, Bool.false_eq_true, if_false]
  exact hn _ _ _ _ _ _ _ _ _
theorem ok_law (Γ : Gam) (g : G75 Γ) (N : List Str) (hN : N.length = 11) (ds : List Dat) (G : AG) (Q : AQ) (X : AX) (h : c_law ds G Q X) : wSs Γ b_law (startD N ds) G (endsOf Q X) := by
  obtain ⟨sc, ns, rfl, hs, hq⟩ := h
  have st : startD N [sc] = [some sc, none, none, none, none, none, none, none, none, none, none] := by unfold startD; rw [hN]; rfl
  rw [st]
  unfold b_law
  rw [wSs]
  simp only [wS, wE, wEs, List.set]
  refine nwT (Nat.le_trans (show 18 ≤ 1000 by decide) (by decide)) ?_
  rw [wSs]
  simp only [wS, wI, wE]
  refine ⟨by decide, by decide, ?_⟩
  refine forW_of (fun rem ρ G' => (∃ (o2 o3 o4 o5 o6 o7 o8 o9 o10 : Option Dat), ρ = [some sc, some (.lst (di near)), o2, o3, o4, o5, o6, o7, o8, o9, o10]) ∧ ∀ d ∈ rem, ∃ k : Int, d = .int k ∧ 0 ≤ k ∧ k < 10) ?_ ?_ _ _ _ ⟨⟨none, none, none, none, none, none, none, none, none, rfl⟩, fun d hd => ?_⟩
  · rintro d rem ρ G' Nx hNx ⟨⟨o2, o3, o4, o5, o6, o7, o8, o9, o10, rfl⟩, hr⟩
    obtain ⟨k, rfl, k0, k1⟩ := hr d (List.mem_cons_self ..)
    refine ⟨trivial, ?_⟩
    simp only [tgW, List.set]
    exact loop_ok Γ g sc ns hs k k0 k1 _ _ _ _ _ _ _ _ G' _ fun _ _ _ _ _ _ _ _ G'' => hNx _ _ ⟨⟨_, _, _, _, _, _, _, _, _, rfl⟩, fun d hd => hr d (List.mem_cons_of_mem _ hd)⟩
  · rintro ρ G' ⟨⟨o2, o3, o4, o5, o6, o7, o8, o9, o10, rfl⟩, _⟩
    refine ⟨trivial, ?_⟩
    simp only [wSs, wS, wE]
    exact ⟨_, .refl _, hq _⟩
  · unfold rngD at hd
    obtain ⟨i, hi, rfl⟩ := List.mem_map.mp hd
    rw [List.mem_range] at hi
    exact ⟨_, rfl, by omega, by omega⟩
end Av


set_option Elab.async false
set_option linter.all false
set_option maxRecDepth 100000
set_option maxHeartbeats 0
namespace Av.Fin
open PySem PySem.Spec PyProof.Rows L2 Av
def top (i : Nat) : Stmt := PySem.Challenge.pw_signferry_k75_lines_of_texts_and_bytes.main.body.getD i (.Pass ⟨0, 0, 0, 0⟩)
def d0 : He.DefD := ⟨("_law_draw", none), "_law_draw", "_law_draw", defArgs (top 8), defBody (top 8), defScope (top 8), [], []⟩
def d1 : He.DefD := ⟨("_law_pick", none), "_law_pick", "_law_pick", defArgs (top 9), defBody (top 9), defScope (top 9), [], []⟩
def d2 : He.DefD := ⟨("_law_source", none), "_law_source", "_law_source", defArgs (top 7), defBody (top 7), defScope (top 7), [], []⟩
def d3 : He.DefD := ⟨("_law_handed", none), "_law_handed", "_law_handed", defArgs (top 11), defBody (top 11), defScope (top 11), [], []⟩
def d4 : He.DefD := ⟨("_law_row", none), "_law_row", "_law_row", defArgs (top 14), defBody (top 14), defScope (top 14), [], []⟩
def d5 : He.DefD := ⟨("_law_same", none), "_law_same", "_law_same", defArgs (top 10), defBody (top 10), defScope (top 10), [], []⟩
def d6 : He.DefD := ⟨("_law_lines", none), "_law_lines", "_law_lines", defArgs (top 12), defBody (top 12), defScope (top 12), [], []⟩
def d7 : He.DefD := ⟨("_law_text_lines", none), "_law_text_lines", "_law_text_lines", defArgs (top 13), defBody (top 13), defScope (top 13), [], []⟩
def d8 : He.DefD := ⟨("cut_lines", none), "cut_lines", "cut_lines", defArgs (top 3), defBody (top 3), defScope (top 3), [], []⟩
def d9 : He.DefD := ⟨("text_lines", none), "text_lines", "text_lines", defArgs (top 4), defBody (top 4), defScope (top 4), [.bl false], []⟩
def d10 : He.DefD := ⟨("octet_lines", none), "octet_lines", "octet_lines", defArgs (top 5), defBody (top 5), defScope (top 5), [.bl false], []⟩
def d11 : He.DefD := ⟨("law", none), "law", "law", defArgs (top 15), defBody (top 15), defScope (top 15), [], []⟩
def fn : List He.DefD := [d0, d1, d2, d3, d4, d5, d6, d7, d8, d9, d10, d11]
def fa : List He.Fa := [.glo "_law_draw", .glo "_law_pick", .glo "_law_source", .glo "_law_handed", .glo "_law_row", .glo "_law_same", .glo "_law_lines", .glo "_law_text_lines", .glo "cut_lines", .glo "text_lines", .glo "octet_lines", .glo "law", .free "len", .free "int", .free "tuple", .free "list", .free "isinstance", .free "all", .free "any", .free "sum", .free "min", .free "max", .free "range", .free "zip", .free "enumerate", .free "bool", .free "str", .free "dict"]
def gv : List (Str × Dat) := [("TEXT_ENDS", .tup (di tEnds)), ("OCTET_ENDS", .tup (di oEnds))]
abbrev R : PySem.W.OpenRow := PySem.W.OpenLaw.row PySem.Challenge.rw_signferry_k75_lines_of_texts_and_bytes
abbrev hk : PySem.W.Hook := hookA 4 fa fn gv
def ob (s : PySem.W.SharedT) : He.AlD × Bool := obsA 4 fa fn gv (HandSHeadRun.getT s)
theorem ob_eq (s : PySem.W.SharedT) : ob s = hk.obs s.abs := obsA_eq (HandSHeadRun.getT_eq s)
def nm0 : List PySem.Str := ["TEXT_ENDS", "OCTET_ENDS", "cut_lines", "text_lines", "octet_lines", "_law_source", "_law_draw", "_law_pick", "_law_same", "_law_handed", "_law_lines", "_law_text_lines", "_law_row"]
def names : List PySem.Str := nm0
theorem run (w : World) : HandSHeadRun.RunEq R (PySem.W.view R.prog [15]) hk ob 20000 names w := by
  intro os
  kernel_rfl
abbrev tab0 : List (Str × FnE) := []
abbrev tab1 : List (Str × FnE) := [("_law_draw", f_draw)]
abbrev tab2 : List (Str × FnE) := ("_law_pick", f_pick) :: tab1
abbrev tab3 : List (Str × FnE) := ("_law_source", f_source) :: tab2
abbrev tab4 : List (Str × FnE) := ("_law_handed", f_handed) :: tab3
abbrev tab5 : List (Str × FnE) := ("_law_row", f_row) :: tab4
abbrev tab6 : List (Str × FnE) := ("_law_same", f_same 0) :: tab5
abbrev tab7 : List (Str × FnE) := ("_law_same", f_same 1) :: tab6
abbrev tab8 : List (Str × FnE) := ("_law_same", f_same 2) :: tab7
abbrev tab9 : List (Str × FnE) := ("_law_same", f_same 3) :: tab8
abbrev tab10 : List (Str × FnE) := ("_law_lines", f_lines) :: tab9
abbrev tab11 : List (Str × FnE) := ("_law_text_lines", f_ltext) :: tab10
abbrev tab12 : List (Str × FnE) := ("cut_lines", f_cut) :: tab11
abbrev tab13 : List (Str × FnE) := ("text_lines", f_text tEnds) :: tab12
abbrev tab14 : List (Str × FnE) := ("octet_lines", f_text oEnds) :: tab13
section
variable {P : Program} {w : World} {K : PySem.W.Frag} {mg : Str → Option Value} {base : Heap}
abbrev FnP (K : PySem.W.Frag) (x : Str) (i : Nat) (dvs : List V) (f : Addr) (fd : FuncData) : Prop := FunD K x x (defArgs (top i)) (defBody (top i)) (defScope (top i)) dvs [] f fd
theorem sc_0 : scopeB ["_law_draws", "_law_many", "_law_seed", "_law_digit"] ["_law_draws", "_law_many"] (defScope (top 8)) = true := by kernel_rfl
theorem co_0 : corSs ⟨["_law_draws", "_law_many", "_law_seed", "_law_digit"], defScope (top 8), true⟩ b_draw (defBody (top 8)) = true := by kernel_rfl
theorem ok_0 {f : Addr} {fd : FuncData} (FD : FnP K "_law_draw" 8 [] f fd) (tb : TbOk P w K mg base (Gm tab0 (tyGl ++ gv)) 0) : FnOk P w K mg base (L2.CX P w) (0 + 1) f fd ["_law_draws", "_law_many"] (spOf K (f_draw)) :=
  fnOk FD sc_0 rfl tb co_0 (ok_draw _ _ rfl)
theorem sc_1 : scopeB ["_law_draws", "_law_some"] ["_law_draws", "_law_some"] (defScope (top 9)) = true := by kernel_rfl
theorem co_1 : corSs ⟨["_law_draws", "_law_some"], defScope (top 9), true⟩ b_pick (defBody (top 9)) = true := by kernel_rfl
theorem ok_1 {f : Addr} {fd : FuncData} (FD : FnP K "_law_pick" 9 [] f fd) (tb : TbOk P w K mg base (Gm tab1 (tyGl ++ gv)) 1) : FnOk P w K mg base (L2.CX P w) (1 + 1) f fd ["_law_draws", "_law_some"] (spOf K (f_pick)) :=
  fnOk FD sc_1 rfl tb co_1 (ok_pick _ (by kernel_rfl) _ rfl)
theorem sc_2 : scopeB ["_law_script", "_law_k", "_law_cell", "_law_deep"] ["_law_script", "_law_k"] (defScope (top 7)) = true := by kernel_rfl
theorem co_2 : corSs ⟨["_law_script", "_law_k", "_law_cell", "_law_deep"], defScope (top 7), true⟩ b_source (defBody (top 7)) = true := by kernel_rfl
theorem ok_2 {f : Addr} {fd : FuncData} (FD : FnP K "_law_source" 7 [] f fd) (tb : TbOk P w K mg base (Gm tab2 (tyGl ++ gv)) 2) : FnOk P w K mg base (L2.CX P w) (2 + 1) f fd ["_law_script", "_law_k"] (spOf K (f_source)) :=
  fnOk FD sc_2 rfl tb co_2 (ok_source _ _ rfl)
theorem sc_3 : scopeB ["_law_draws", "_law_codes"] ["_law_draws", "_law_codes"] (defScope (top 11)) = true := by kernel_rfl
theorem co_3 : corSs ⟨["_law_draws", "_law_codes"], defScope (top 11), true⟩ b_handed (defBody (top 11)) = true := by kernel_rfl
theorem ok_3 {f : Addr} {fd : FuncData} (FD : FnP K "_law_handed" 11 [] f fd) (tb : TbOk P w K mg base (Gm tab3 (tyGl ++ gv)) 3) : FnOk P w K mg base (L2.CX P w) (3 + 1) f fd ["_law_draws", "_law_codes"] (spOf K (f_handed)) :=
  fnOk FD sc_3 rfl tb co_3 (ok_handed _ (by kernel_rfl) _ rfl)
theorem sc_4 : scopeB ["_law_draws", "_law_most", "_law_some", "_law_found", "_law_k"] ["_law_draws", "_law_most", "_law_some"] (defScope (top 14)) = true := by kernel_rfl
theorem co_4 : corSs ⟨["_law_draws", "_law_most", "_law_some", "_law_found", "_law_k"], defScope (top 14), true⟩ b_row (defBody (top 14)) = true := by kernel_rfl
theorem ok_4 {f : Addr} {fd : FuncData} (FD : FnP K "_law_row" 14 [] f fd) (tb : TbOk P w K mg base (Gm tab4 (tyGl ++ gv)) 4) : FnOk P w K mg base (L2.CX P w) (4 + 1) f fd ["_law_draws", "_law_most", "_law_some"] (spOf K (f_row)) :=
  fnOk FD sc_4 rfl tb co_4 (ok_row _ (by kernel_rfl) (by kernel_rfl) _ rfl)
theorem sc_5 : scopeB ["_law_found", "_law_due", "_law_left", "_law_right"] ["_law_found", "_law_due"] (defScope (top 10)) = true := by kernel_rfl
theorem co_5 : corSs ⟨["_law_found", "_law_due", "_law_left", "_law_right"], defScope (top 10), true⟩ b_same (defBody (top 10)) = true := by kernel_rfl
theorem ok_5 {f : Addr} {fd : FuncData} (FD : FnP K "_law_same" 10 [] f fd) (tb : TbOk P w K mg base (Gm tab5 (tyGl ++ gv)) 5) : FnOk P w K mg base (L2.CX P w) (5 + 1) f fd ["_law_found", "_law_due"] (spOf K (f_same 0)) :=
  fnOk FD sc_5 rfl tb co_5 (ok_same0 _ ⟨by kernel_rfl, by kernel_rfl, by kernel_rfl, by kernel_rfl⟩ _ rfl)
theorem ok_6 {f : Addr} {fd : FuncData} (FD : FnP K "_law_same" 10 [] f fd) (tb : TbOk P w K mg base (Gm tab6 (tyGl ++ gv)) 6) : FnOk P w K mg base (L2.CX P w) (6 + 1) f fd ["_law_found", "_law_due"] (spOf K (f_same 1)) :=
  fnOk FD sc_5 rfl tb co_5 (ok_same _ 0 ⟨by kernel_rfl, by kernel_rfl, by kernel_rfl, by kernel_rfl⟩ (by kernel_rfl) _ rfl)
theorem ok_7 {f : Addr} {fd : FuncData} (FD : FnP K "_law_same" 10 [] f fd) (tb : TbOk P w K mg base (Gm tab7 (tyGl ++ gv)) 7) : FnOk P w K mg base (L2.CX P w) (7 + 1) f fd ["_law_found", "_law_due"] (spOf K (f_same 2)) :=
  fnOk FD sc_5 rfl tb co_5 (ok_same _ 1 ⟨by kernel_rfl, by kernel_rfl, by kernel_rfl, by kernel_rfl⟩ (by kernel_rfl) _ rfl)
theorem ok_8 {f : Addr} {fd : FuncData} (FD : FnP K "_law_same" 10 [] f fd) (tb : TbOk P w K mg base (Gm tab8 (tyGl ++ gv)) 8) : FnOk P w K mg base (L2.CX P w) (8 + 1) f fd ["_law_found", "_law_due"] (spOf K (f_same 3)) :=
  fnOk FD sc_5 rfl tb co_5 (ok_same _ 2 ⟨by kernel_rfl, by kernel_rfl, by kernel_rfl, by kernel_rfl⟩ (by kernel_rfl) _ rfl)
theorem sc_9 : scopeB ["_law_codes", "_law_ends", "_law_keep", "_law_found", "_law_line", "_law_k", "_law_stop"] ["_law_codes", "_law_ends", "_law_keep"] (defScope (top 12)) = true := by kernel_rfl
theorem co_9 : corSs ⟨["_law_codes", "_law_ends", "_law_keep", "_law_found", "_law_line", "_law_k", "_law_stop"], defScope (top 12), true⟩ b_lines (defBody (top 12)) = true := by kernel_rfl
theorem ok_9 {f : Addr} {fd : FuncData} (FD : FnP K "_law_lines" 12 [] f fd) (tb : TbOk P w K mg base (Gm tab9 (tyGl ++ gv)) 9) : FnOk P w K mg base (L2.CX P w) (9 + 1) f fd ["_law_codes", "_law_ends", "_law_keep"] (spOf K (f_lines)) :=
  fnOk FD sc_9 rfl tb co_9 (ok_lines _ _ rfl)
theorem sc_10 : scopeB ["_law_codes", "_law_keep"] ["_law_codes", "_law_keep"] (defScope (top 13)) = true := by kernel_rfl
theorem co_10 : corSs ⟨["_law_codes", "_law_keep"], defScope (top 13), true⟩ b_ltext (defBody (top 13)) = true := by kernel_rfl
theorem ok_10 {f : Addr} {fd : FuncData} (FD : FnP K "_law_text_lines" 13 [] f fd) (tb : TbOk P w K mg base (Gm tab10 (tyGl ++ gv)) 10) : FnOk P w K mg base (L2.CX P w) (10 + 1) f fd ["_law_codes", "_law_keep"] (spOf K (f_ltext)) :=
  fnOk FD sc_10 rfl tb co_10 (ok_ltext _ (by kernel_rfl) _ rfl)
theorem sc_11 : scopeB ["things", "ends", "keepends", "found", "start", "at", "size"] ["things", "ends", "keepends"] (defScope (top 3)) = true := by kernel_rfl
theorem co_11 : corSs ⟨["things", "ends", "keepends", "found", "start", "at", "size"], defScope (top 3), true⟩ b_cut_lines (defBody (top 3)) = true := by kernel_rfl
theorem ok_11 {f : Addr} {fd : FuncData} (FD : FnP K "cut_lines" 3 [] f fd) (tb : TbOk P w K mg base (Gm tab11 (tyGl ++ gv)) 11) : FnOk P w K mg base (L2.CX P w) (11 + 1) f fd ["things", "ends", "keepends"] (spOf K (f_cut)) :=
  fnOk FD sc_11 rfl tb co_11 (ok_cut _ _ rfl)
theorem sc_12 : scopeB ["source", "keepends"] ["source", "keepends"] (defScope (top 4)) = true := by kernel_rfl
theorem co_12 : corSs ⟨["source", "keepends"], defScope (top 4), true⟩ b_text_lines (defBody (top 4)) = true := by kernel_rfl
theorem ok_12 {f : Addr} {fd : FuncData} (FD : FnP K "text_lines" 4 [V.bl false] f fd) (tb : TbOk P w K mg base (Gm tab12 (tyGl ++ gv)) 12) : FnOk P w K mg base (L2.CX P w) (12 + 1) f fd ["source", "keepends"] (spOf K (f_text tEnds)) :=
  fnOk FD sc_12 rfl tb co_12 (ok_text _ (by kernel_rfl) (by kernel_rfl) _ rfl)
theorem sc_13 : scopeB ["data", "keepends"] ["data", "keepends"] (defScope (top 5)) = true := by kernel_rfl
theorem co_13 : corSs ⟨["data", "keepends"], defScope (top 5), true⟩ b_octet_lines (defBody (top 5)) = true := by kernel_rfl
theorem ok_13 {f : Addr} {fd : FuncData} (FD : FnP K "octet_lines" 5 [V.bl false] f fd) (tb : TbOk P w K mg base (Gm tab13 (tyGl ++ gv)) 13) : FnOk P w K mg base (L2.CX P w) (13 + 1) f fd ["data", "keepends"] (spOf K (f_text oEnds)) :=
  fnOk FD sc_13 rfl tb co_13 (ok_octet _ (by kernel_rfl) (by kernel_rfl) _ rfl)
theorem sc_14 : scopeB ["_law_script", "_law_near", "_law_k", "_law_draws", "_law_codes", "_law_octets", "_law_keep", "_law_found", "_law_given", "_law_other", "_law_line"] ["_law_script"] (defScope (top 15)) = true := by kernel_rfl
theorem co_14 : corSs ⟨["_law_script", "_law_near", "_law_k", "_law_draws", "_law_codes", "_law_octets", "_law_keep", "_law_found", "_law_given", "_law_other", "_law_line"], defScope (top 15), true⟩ b_law (defBody (top 15)) = true := by kernel_rfl
theorem ok_14 {f : Addr} {fd : FuncData} (FD : FnP K "law" 15 [] f fd) (tb : TbOk P w K mg base (Gm tab14 (tyGl ++ gv)) 14) : FnOk P w K mg base (L2.CX P w) (14 + 1) f fd ["_law_script"] (spOf K (f_law)) :=
  fnOk FD sc_14 rfl tb co_14 (ok_law _ ⟨(by kernel_rfl), (by kernel_rfl), (by kernel_rfl), (by kernel_rfl), (by kernel_rfl), (by kernel_rfl), (by kernel_rfl), (by kernel_rfl), (by kernel_rfl)⟩ _ rfl)
end
theorem facts {P : Program} {w : World} {K : PySem.W.Frag} {h : Heap} {mg : Str → Option Value} {f : Addr} (X : K.In h) (G : h.Ns mainGlobals mg) (hfa : mg ("law" : Str) = some (.ref f)) (c : He.SaysD fa fn K) (cg : gv.all (gvB K) = true) :
    ∃ fd : FuncData, (∀ (s : Shared) (v : Value), BindsTo s fd ⟨[v], []⟩ [("_law_script", v)]) ∧ ∀ base : Heap, FnOk P w K mg base (L2.CX P w) (14 + 1) f fd ["_law_script"] (spOf K (f_law)) := by
  obtain ⟨fd0, F0⟩ := c.def_ 0 (d := d0) rfl
  have g0 := He.glo_ok X G (c.fact 0 (f := .glo "_law_draw") rfl)
  obtain ⟨fd1, F1⟩ := c.def_ 1 (d := d1) rfl
  have g1 := He.glo_ok X G (c.fact 1 (f := .glo "_law_pick") rfl)
  obtain ⟨fd2, F2⟩ := c.def_ 2 (d := d2) rfl
  have g2 := He.glo_ok X G (c.fact 2 (f := .glo "_law_source") rfl)
  obtain ⟨fd3, F3⟩ := c.def_ 3 (d := d3) rfl
  have g3 := He.glo_ok X G (c.fact 3 (f := .glo "_law_handed") rfl)
  obtain ⟨fd4, F4⟩ := c.def_ 4 (d := d4) rfl
  have g4 := He.glo_ok X G (c.fact 4 (f := .glo "_law_row") rfl)
  obtain ⟨fd5, F5⟩ := c.def_ 5 (d := d5) rfl
  have g5 := He.glo_ok X G (c.fact 5 (f := .glo "_law_same") rfl)
  obtain ⟨fd6, F6⟩ := c.def_ 6 (d := d6) rfl
  have g6 := He.glo_ok X G (c.fact 6 (f := .glo "_law_lines") rfl)
  obtain ⟨fd7, F7⟩ := c.def_ 7 (d := d7) rfl
  have g7 := He.glo_ok X G (c.fact 7 (f := .glo "_law_text_lines") rfl)
  obtain ⟨fd8, F8⟩ := c.def_ 8 (d := d8) rfl
  have g8 := He.glo_ok X G (c.fact 8 (f := .glo "cut_lines") rfl)
  obtain ⟨fd9, F9⟩ := c.def_ 9 (d := d9) rfl
  have g9 := He.glo_ok X G (c.fact 9 (f := .glo "text_lines") rfl)
  obtain ⟨fd10, F10⟩ := c.def_ 10 (d := d10) rfl
  have g10 := He.glo_ok X G (c.fact 10 (f := .glo "octet_lines") rfl)
  obtain ⟨fd11, F11⟩ := c.def_ 11 (d := d11) rfl
  have g11 := He.glo_ok X G (c.fact 11 (f := .glo "law") rfl)
  have hf : ∀ x ∈ bltNms, mg x = none := fun x hx => by
    simp only [bltNms, List.mem_cons, List.not_mem_nil, or_false] at hx
    rcases hx with rfl | rfl | rfl | rfl | rfl | rfl | rfl | rfl | rfl | rfl | rfl | rfl | rfl | rfl | rfl | rfl
    · exact He.free_ok X G (c.fact 12 (f := .free "len") rfl)
    · exact He.free_ok X G (c.fact 13 (f := .free "int") rfl)
    · exact He.free_ok X G (c.fact 14 (f := .free "tuple") rfl)
    · exact He.free_ok X G (c.fact 15 (f := .free "list") rfl)
    · exact He.free_ok X G (c.fact 16 (f := .free "isinstance") rfl)
    · exact He.free_ok X G (c.fact 17 (f := .free "all") rfl)
    · exact He.free_ok X G (c.fact 18 (f := .free "any") rfl)
    · exact He.free_ok X G (c.fact 19 (f := .free "sum") rfl)
    · exact He.free_ok X G (c.fact 20 (f := .free "min") rfl)
    · exact He.free_ok X G (c.fact 21 (f := .free "max") rfl)
    · exact He.free_ok X G (c.fact 22 (f := .free "range") rfl)
    · exact He.free_ok X G (c.fact 23 (f := .free "zip") rfl)
    · exact He.free_ok X G (c.fact 24 (f := .free "enumerate") rfl)
    · exact He.free_ok X G (c.fact 25 (f := .free "bool") rfl)
    · exact He.free_ok X G (c.fact 26 (f := .free "str") rfl)
    · exact He.free_ok X G (c.fact 27 (f := .free "dict") rfl)
  have hg : ∀ q ∈ gv, ∃ u v, RelV v u ∧ (∀ H, Rep K H v q.2) ∧ mg q.1 = some u := fun q hq => gvB_ok X G (List.all_eq_true.mp cg q hq)
  have b0 := binds_none (F := f_draw) rfl (FunD.bindsN (ps := ["_law_draws", "_law_many"]) F0 fun _ _ _ _ _ _ us hl => match us, hl with | [_, _], _ => rfl)
  have b1 := binds_none (F := f_pick) rfl (FunD.bindsN (ps := ["_law_draws", "_law_some"]) F1 fun _ _ _ _ _ _ us hl => match us, hl with | [_, _], _ => rfl)
  have b2 := binds_none (F := f_source) rfl (FunD.bindsN (ps := ["_law_script", "_law_k"]) F2 fun _ _ _ _ _ _ us hl => match us, hl with | [_, _], _ => rfl)
  have b3 := binds_none (F := f_handed) rfl (FunD.bindsN (ps := ["_law_draws", "_law_codes"]) F3 fun _ _ _ _ _ _ us hl => match us, hl with | [_, _], _ => rfl)
  have b4 := binds_none (F := f_row) rfl (FunD.bindsN (ps := ["_law_draws", "_law_most", "_law_some"]) F4 fun _ _ _ _ _ _ us hl => match us, hl with | [_, _, _], _ => rfl)
  have b5 := binds_none (F := f_same 0) rfl (FunD.bindsN (ps := ["_law_found", "_law_due"]) F5 fun _ _ _ _ _ _ us hl => match us, hl with | [_, _], _ => rfl)
  have b6 := binds_none (F := f_lines) rfl (FunD.bindsN (ps := ["_law_codes", "_law_ends", "_law_keep"]) F6 fun _ _ _ _ _ _ us hl => match us, hl with | [_, _, _], _ => rfl)
  have b7 := binds_none (F := f_ltext) rfl (FunD.bindsN (ps := ["_law_codes", "_law_keep"]) F7 fun _ _ _ _ _ _ us hl => match us, hl with | [_, _], _ => rfl)
  have b8 := binds_none (F := f_cut) rfl (FunD.bindsN (ps := ["things", "ends", "keepends"]) F8 fun _ _ _ _ _ _ us hl => match us, hl with | [_, _, _], _ => rfl)
  have b9 : ∀ m, (f_text tEnds).ar ≤ m + (f_text tEnds).dfl.length → m ≤ (f_text tEnds).ar → ∃ ds dvs, Binds K fd9 ["source", "keepends"] ds ∧ Vals dvs ds ∧ ∀ H, Reps K H dvs ((f_text tEnds).dfl.drop (m + (f_text tEnds).dfl.length - (f_text tEnds).ar)) := fun m h1 h2 => by
    have h1 : 2 ≤ m + 1 := h1
    have h2 : m ≤ 2 := h2
    rcases (show m = 1 ∨ m = 2 by omega) with rfl | rfl
    · obtain ⟨ds, hv, hb⟩ := FunD.binds1 (ps := ["source", "keepends"]) F9 1 0 (by simp [d9, He.DefD.dvs]) rfl (fun T kV doc pm an cdv ct us its hu hi => match us, its, hu, hi with | [_], [_], _, _ => ⟨_, rfl, rfl⟩)
      exact ⟨ds, _, hb, hv, fun H => .cons (.bl false) .nil⟩
    · obtain ⟨ds, hv, hb⟩ := FunD.binds1 (ps := ["source", "keepends"]) F9 2 1 (by simp [d9, He.DefD.dvs]) rfl (fun T kV doc pm an cdv ct us its hu hi => match us, its, hu, hi with | [_, _], [_], _, _ => ⟨_, rfl, rfl⟩)
      exact ⟨ds, _, hb, hv, fun H => .nil⟩
  have b10 : ∀ m, (f_text oEnds).ar ≤ m + (f_text oEnds).dfl.length → m ≤ (f_text oEnds).ar → ∃ ds dvs, Binds K fd10 ["data", "keepends"] ds ∧ Vals dvs ds ∧ ∀ H, Reps K H dvs ((f_text oEnds).dfl.drop (m + (f_text oEnds).dfl.length - (f_text oEnds).ar)) := fun m h1 h2 => by
    have h1 : 2 ≤ m + 1 := h1
    have h2 : m ≤ 2 := h2
    rcases (show m = 1 ∨ m = 2 by omega) with rfl | rfl
    · obtain ⟨ds, hv, hb⟩ := FunD.binds1 (ps := ["data", "keepends"]) F10 1 0 (by simp [d10, He.DefD.dvs]) rfl (fun T kV doc pm an cdv ct us its hu hi => match us, its, hu, hi with | [_], [_], _, _ => ⟨_, rfl, rfl⟩)
      exact ⟨ds, _, hb, hv, fun H => .cons (.bl false) .nil⟩
    · obtain ⟨ds, hv, hb⟩ := FunD.binds1 (ps := ["data", "keepends"]) F10 2 1 (by simp [d10, He.DefD.dvs]) rfl (fun T kV doc pm an cdv ct us its hu hi => match us, its, hu, hi with | [_, _], [_], _, _ => ⟨_, rfl, rfl⟩)
      exact ⟨ds, _, hb, hv, fun H => .nil⟩
  have e := hfa.symm.trans g11
  cases e
  have bL := FunD.bindsA (ps := ["_law_script"]) F11 fun _ _ _ _ _ _ us hl => match us, hl with | [_], _ => rfl
  refine ⟨fd11, fun s v => bL s [v] rfl, fun base => ?_⟩
  have t0 : TbOk P w K mg base (Gm tab0 (tyGl ++ gv)) 0 := TbOk.nil hf hg
  have t1 : TbOk P w K mg base (Gm tab1 (tyGl ++ gv)) 1 := TbOk.cons t0 (ok_0 F0 t0) g0 F0.kp b0
  have t2 : TbOk P w K mg base (Gm tab2 (tyGl ++ gv)) 2 := TbOk.cons t1 (ok_1 F1 t1) g1 F1.kp b1
  have t3 : TbOk P w K mg base (Gm tab3 (tyGl ++ gv)) 3 := TbOk.cons t2 (ok_2 F2 t2) g2 F2.kp b2
  have t4 : TbOk P w K mg base (Gm tab4 (tyGl ++ gv)) 4 := TbOk.cons t3 (ok_3 F3 t3) g3 F3.kp b3
  have t5 : TbOk P w K mg base (Gm tab5 (tyGl ++ gv)) 5 := TbOk.cons t4 (ok_4 F4 t4) g4 F4.kp b4
  have t6 : TbOk P w K mg base (Gm tab6 (tyGl ++ gv)) 6 := TbOk.cons t5 (ok_5 F5 t5) g5 F5.kp b5
  have t7 : TbOk P w K mg base (Gm tab7 (tyGl ++ gv)) 7 := TbOk.cons t6 (ok_6 F5 t6) g5 F5.kp (binds_none (F := f_same 1) rfl (FunD.bindsN (ps := ["_law_found", "_law_due"]) F5 fun _ _ _ _ _ _ us hl => match us, hl with | [_, _], _ => rfl))
  have t8 : TbOk P w K mg base (Gm tab8 (tyGl ++ gv)) 8 := TbOk.cons t7 (ok_7 F5 t7) g5 F5.kp (binds_none (F := f_same 2) rfl (FunD.bindsN (ps := ["_law_found", "_law_due"]) F5 fun _ _ _ _ _ _ us hl => match us, hl with | [_, _], _ => rfl))
  have t9 : TbOk P w K mg base (Gm tab9 (tyGl ++ gv)) 9 := TbOk.cons t8 (ok_8 F5 t8) g5 F5.kp (binds_none (F := f_same 3) rfl (FunD.bindsN (ps := ["_law_found", "_law_due"]) F5 fun _ _ _ _ _ _ us hl => match us, hl with | [_, _], _ => rfl))
  have t10 : TbOk P w K mg base (Gm tab10 (tyGl ++ gv)) 10 := TbOk.cons t9 (ok_9 F6 t9) g6 F6.kp b6
  have t11 : TbOk P w K mg base (Gm tab11 (tyGl ++ gv)) 11 := TbOk.cons t10 (ok_10 F7 t10) g7 F7.kp b7
  have t12 : TbOk P w K mg base (Gm tab12 (tyGl ++ gv)) 12 := TbOk.cons t11 (ok_11 F8 t11) g8 F8.kp b8
  have t13 : TbOk P w K mg base (Gm tab13 (tyGl ++ gv)) 13 := TbOk.cons t12 (ok_12 F9 t12) g9 F9.kp b9
  have t14 : TbOk P w K mg base (Gm tab14 (tyGl ++ gv)) 14 := TbOk.cons t13 (ok_13 F10 t13) g10 F10.kp b10
  exact ok_14 F11 t14
end Av.Fin
open PySem PySem.W PySem.Calls PyProof.Rows
theorem PySem.Challenge.cw_signferry_k75_lines_of_texts_and_bytes_holds : PySem.Challenge.rw_signferry_k75_lines_of_texts_and_bytes.Holds := by
  w_on; o_law
  refine HandSHeadRun.head_any (r := OpenLaw.row PySem.Challenge.rw_signferry_k75_lines_of_texts_and_bytes) (q := view (OpenLaw.row PySem.Challenge.rw_signferry_k75_lines_of_texts_and_bytes).prog [15]) (H := Av.Fin.hk) (ob := Av.Fin.ob) (M := 20000) (loose := Av.Fin.names) (d := HandSHeadRun.topDef (OpenLaw.row PySem.Challenge.rw_signferry_k75_lines_of_texts_and_bytes).prog 15) (kwd := []) Av.Fin.ob_eq
    (by kernel_rfl) (fun s => by kernel_rfl) Av.Fin.run (by kernel_rfl) (by kernel_rfl) (by kernel_rfl) (by rfl) (by first | assumption | decide +kernel) (by decide +kernel) ⟨rfl, rfl, rfl, rfl, rfl, by decide +kernel⟩ ?hw ?hc
  case hw => w_witness2
  case hc =>
    refine Av.walk_world (l := PySem.Challenge.rw_signferry_k75_lines_of_texts_and_bytes) (n := 63) (k := 15) (x := "_law_script") (CX := fun w => L2.CX (PySem.Challenge.rw_signferry_k75_lines_of_texts_and_bytes).prog w) rfl (by decide) (by kernel_rfl) ⟨rfl, by decide, by decide⟩ ?F (fun _ => Av.cx_no)
    intro w mg fa h Y G hmg0
    obtain ⟨K, KX, c, cg⟩ := Y
    have hmg : mg ("law" : PySem.Str) = some (.ref fa) := by
      have e : (HandSHeadRun.topDef (OpenLaw.row PySem.Challenge.rw_signferry_k75_lines_of_texts_and_bytes).prog 15).name = ("law" : PySem.Str) := by kernel_rfl
      rw [← e]
      exact hmg0
    obtain ⟨fd, hb, hF⟩ := Av.Fin.facts (P := (PySem.Challenge.rw_signferry_k75_lines_of_texts_and_bytes).prog) (w := w) KX G hmg c cg
    exact ⟨K, fd, Av.spOf K (Av.f_law), KX, hb, fun H a ns hl hO hS => Av.law_sp (F := Av.f_law) (fun ds G Q X h => by obtain ⟨sc, ns, h1, h2, h3⟩ := h; exact ⟨sc, ns, h1, by rcases h2 with rfl | rfl <;> rfl, h3⟩) H a ns hO hS, fun base _ _ => hF base⟩


