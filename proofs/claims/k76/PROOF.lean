import PyProof.Rows.All
import Wide.All
import OpenK.AllK
import Wide.FinOn
import PySem.Challenge.RW_signferry_k76_streams_of_bytes
import HandS.ForMost
import HandS.Style
import HandS.IsInst
import HandS.Zip
import HandS.Exc
import HandS.ExcOwn
import HandS.CallSlots
import HandS.Defaults
import HandS.HeadHook1
import HandS.Nested
import HandS.Conv
import HandS.Text
import HandS.Codes
import KE.DataEq
import HandS.Iter
import HandS.TupMul
import HandS.SortInts
import HandS.More
import KE.GoesMore
import PyProof.SumWalkG
import HandS.ExcIs
import KE.KExcIs
import HandS.TupAny
import HandS.Flow
import HandS.ExcInit
import HandS.ExcField
import HandS.Small
import HandS.Dict
import HandS.Strs
import HandS.StrSplit
import HandS.CallLocal
import HandS.HotCalls
import HandS.ClsMeth
import HandS.NestedK
import HandS.List
import HandS.Lambda
import HandS.TryMany
import HandS.Head2
import HandS.HeadHook2
import HandS.HeadEnd
import HandS.Head0
import HandS.Head1
import KE.KStateDown
import PyProof.P3Eq
import HandS.MakeKw
import HandS.EndTab
set_option Elab.async false
set_option linter.all false
set_option maxRecDepth 100000
set_option maxHeartbeats 0
open PySem PySem.W PySem.Calls PyProof.Rows in
theorem Av.Start.look (h : PySem.Challenge.rw_signferry_k76_streams_of_bytes.row.wellSaid = true → PySem.Challenge.rw_signferry_k76_streams_of_bytes.row.Holds) : PySem.Challenge.rw_signferry_k76_streams_of_bytes.Holds := by
  w_on; o_law
  exact h (by assumption)
open PySem PySem.W PySem.Calls PyProof.Rows in
theorem Av.Start.bare : (OpenLaw.row PySem.Challenge.rw_signferry_k76_streams_of_bytes).prog.bare := ⟨rfl, rfl, rfl, rfl, rfl, by decide +kernel⟩
set_option Elab.async false
set_option linter.all false
set_option maxRecDepth 100000
set_option maxHeartbeats 4000000
/-! # Av: values by what they hold, over the hand layer -/
namespace Av
open PySem PySem.Spec PyProof.Rows L2
/-- a value by what it holds: tuples and frozen lists by their items, all other objects by their address -/
inductive Dat where
  | non | bl (b : Bool) | int (i : Int) | str (s : Str) | tup (ds : List Dat) | lst (ds : List Dat) | kls (ds : List Dat) | ref (a : Addr) | ty (n : String) | gf (x : Str)
  /-- a function that was made: its words' number, the cells that it captured -/
  | clo (k : Nat) (cl : List Addr)
  /-- an exception that is made, never changed: its class, the names of its fields, the fields -/
  | exc (C : Str) (fl : List Str) (ds : List Dat)
  /-- a tuple whose object is known to have no dict -/
  | ktp (ds : List Dat)
  deriving Inhabited
/-- a tuple at a: tracked, or of the written part -/
def TpAt (K : PySem.W.Frag) (H : Hp) (a : Addr) (xs : List V) : Prop :=
  H a = some (.tup xs) ∨ (∃ o, H a = some (.frz o (.tup xs))) ∨ ∃ (o : Obj) (its : Array Value) (n : Nat), K.lookup a = some o ∧ o.cls = .type "tuple" ∧ o.data = .seq its n ∧ its.size ≤ sizeLine ∧ Vals xs its.toList
theorem TpAt.sq {K : PySem.W.Frag} {H : Hp} {a : Addr} {xs : List V} (h : TpAt K H a xs) : SqT K H a xs := by
  rcases h with h | h | h
  · exact .inl (.inl h)
  · exact .inl (.inr h)
  · exact .inr h
/-- a tuple whose object is known -/
def KtAt (H : Hp) (a : Addr) (xs : List V) : Prop := ∃ o : Obj, H a = some (.frz o (.tup xs)) ∧ o.dict = none
/-- a frozen list at a -/
def FzAt (H : Hp) (a : Addr) (xs : List V) : Prop := ∃ o, H a = some (.frz o (.lst xs))
/-- a list that is never written: frozen, or of the written part -/
def KlAt (K : PySem.W.Frag) (H : Hp) (a : Addr) (xs : List V) : Prop :=
  FzAt H a xs ∨ ∃ (o : Obj) (its : Array Value) (n : Nat), K.lookup a = some o ∧ o.cls = .type "list" ∧ o.dict = none ∧ o.data = .seq its n ∧ its.size ≤ sizeLine ∧ Vals xs its.toList
theorem FzAt.sq {K : PySem.W.Frag} {H : Hp} {a : Addr} {xs : List V} (h : FzAt H a xs) : SqL K H a xs := .inl (.inr h)
/-- a made function by its parts -/
structure LamP where
  params : Arguments
  body : FuncBody
  scope : Scope
/-- the tables of code objects that lambdas and inner defs are made by; which parts a function of a number has, and the names that it captures -/
class Tb where
  T : List NdefX.NTab
  is : Nat → LamP → Prop
  fr : Nat → List Str
  /-- own classes of instances, of exceptions -/
  own : Str → Bool
  exo : Str → Bool
  /-- isinstance: of a type (built-in, own) and a class -/
  sub : String ⊕ Str → String ⊕ Str → Option Bool
  /-- except: of a class and a class -/
  xm : Str → Str → Option Bool
variable [Tb]
/-- at f: a made function -/
def FnB (f : Addr) (L : LamP) (qual : Str) (clos : List (Str × Addr)) (c' : Addr) : HO := .ext fun h => ∃ (od : Option Addr) (sl : Array (Option Value)) (name : Str) (doc pm ctv : Value),
  h.get? f = some (⟨.type "function", od, .func { name, qualname := qual, params := L.params, body := L.body, scope := L.scope, globals := mainGlobals, closure := clos, defaults := .none, kwdefaults := .none, doc := doc, pyModule := pm, annotations := none, code := .ref c', closureTuple := ctv, builtins := builtinsNs }, sl⟩ : Obj)
/-- the captured cells, in the order of the names -/
structure CloIs (fr : List Str) (cl : List Addr) (clos : List (Str × Addr)) : Prop where
  len : cl.length = fr.length
  to : ∀ (i : Nat) (y : Str) (c : Addr), fr[i]? = some y → cl[i]? = some c → clos.lookup y = some c
  of : ∀ (y : Str) (c : Addr), clos.lookup y = some c → ∃ i : Nat, fr[i]? = some y ∧ cl[i]? = some c
  inj : ∀ (x y : Str) (c : Addr), clos.lookup x = some c → clos.lookup y = some c → x = y
/-- at a: an exception of the class at C with its dict at dx -/
def ExcB (a C : Addr) (dx : Option Addr) : HO := .ext fun h => ∃ (oe : Obj) (vs : Array Value), h.get? a = some oe ∧ oe.cls = .ref C ∧ oe.dict = dx ∧ oe.data = .fields vs
/-- its dict -/
def ExdB (dx : Addr) (fs : List (Str × V)) : HO := .ext fun h => ∃ mA, h.Ns1 dx mA ∧ ∀ f, RelO (fs.lookup f) (mA f)
/-- fields of an exception -/
def ExF (H : Hp) : Option Addr → List Str → List V → Prop
  | none, fl, vs => fl = [] ∧ vs = []
  | some dx, fl, vs => vs.length = fl.length ∧ H dx = some (ExdB dx (fl.zip vs).reverse)
mutual
inductive Rep (K : PySem.W.Frag) (H : Hp) : V → Dat → Prop
  | non : Rep K H .non .non
  | bl (b : Bool) : Rep K H (.bl b) (.bl b)
  | int (i : Int) : Rep K H (.int i) (.int i)
  | str (x : Str) : Rep K H (.str x) (.str x)
  | ref (a : Addr) : Rep K H (.ref a) (.ref a)
  | ty (n : String) : Rep K H (.ty n) (.ty n)
  | gf (x : Str) : Rep K H (.ref (He.ga K x)) (.gf x)
  | tup {a : Addr} {xs : List V} {ds : List Dat} : TpAt K H a xs → Reps K H xs ds → Rep K H (.ref a) (.tup ds)
  | lst {a : Addr} {xs : List V} {ds : List Dat} : FzAt H a xs → Reps K H xs ds → Rep K H (.ref a) (.lst ds)
  | kls {a : Addr} {xs : List V} {ds : List Dat} : KlAt K H a xs → Reps K H xs ds → Rep K H (.ref a) (.kls ds)
  | clo {f c' : Addr} {k : Nat} {cl : List Addr} {L : LamP} {qual : Str} {clos : List (Str × Addr)} : Tb.is k L → CloIs (Tb.fr k) cl clos → H f = some (FnB f L qual clos c') → H c' = some (LamX.CodeO c' qual) → Rep K H (.ref f) (.clo k cl)
  | ktp {a : Addr} {xs : List V} {ds : List Dat} : KtAt H a xs → Reps K H xs ds → Rep K H (.ref a) (.ktp ds)
  | exc {a : Addr} {dx : Option Addr} {C : Str} {fl : List Str} {vs : List V} {ds : List Dat} : H a = some (ExcB a (He.ga K C) dx) → ExF H dx fl vs → Reps K H vs ds → Rep K H (.ref a) (.exc C fl ds)
inductive Reps (K : PySem.W.Frag) (H : Hp) : List V → List Dat → Prop
  | nil : Reps K H [] []
  | cons {v : V} {vs : List V} {d : Dat} {ds : List Dat} : Rep K H v d → Reps K H vs ds → Reps K H (v :: vs) (d :: ds)
end
/-- what is never written stays -/
structure Stab (H H' : Hp) : Prop where
  tup : ∀ b xs, H b = some (.tup xs) → H' b = some (.tup xs)
  frz : ∀ b o xs, H b = some (.frz o (.lst xs)) → H' b = some (.frz o (.lst xs))
  ext : ∀ b φ, H b = some (.ext φ) → H' b = some (.ext φ)
  fzt : ∀ b o xs, H b = some (.frz o (.tup xs)) → H' b = some (.frz o (.tup xs))
theorem Stab.refl (H : Hp) : Stab H H := ⟨fun _ _ h => h, fun _ _ _ h => h, fun _ _ h => h, fun _ _ _ h => h⟩
theorem Stab.trans {H H1 H2 : Hp} (a : Stab H H1) (b : Stab H1 H2) : Stab H H2 := ⟨fun c xs h => b.tup c xs (a.tup c xs h), fun c o u h => b.frz c o u (a.frz c o u h), fun c φ h => b.ext c φ (a.ext c φ h), fun c o u h => b.fzt c o u (a.fzt c o u h)⟩
theorem Stab.new {H : Hp} {p : Addr} {o : HO} (h : H p = none) : Stab H (upd H p o) :=
  ⟨fun b xs e => by rw [upd_ne (ne_of_none e h)]; exact e, fun b o u e => by rw [upd_ne (ne_of_none e h)]; exact e, fun b φ e => by rw [upd_ne (ne_of_none e h)]; exact e, fun b o u e => by rw [upd_ne (ne_of_none e h)]; exact e⟩
/-- an object that may be written -/
def Soft (u : HO) : Prop := (∀ xs, u ≠ .tup xs) ∧ (∀ o xs, u ≠ .frz o (.lst xs)) ∧ (∀ φ, u ≠ .ext φ) ∧ (∀ ps, u ≠ .tbl ps) ∧ ∀ o xs, u ≠ .frz o (.tup xs)
theorem Soft.lst {xs : List V} : Soft (.lst xs) := ⟨fun _ z => (by cases z), fun _ _ z => (by cases z), fun _ z => (by cases z), fun _ z => (by cases z), fun _ _ z => by cases z⟩
theorem Stab.mut {H : Hp} {p : Addr} {o u : HO} (h : H p = some u) (h1 : Soft u) : Stab H (upd H p o) :=
  ⟨fun b xs e => by rw [upd_ne (ne_of e h fun z => h1.1 xs z.symm)]; exact e, fun b o v e => by rw [upd_ne (ne_of e h fun z => h1.2.1 o v z.symm)]; exact e, fun b φ e => by rw [upd_ne (ne_of e h fun z => h1.2.2.1 φ z.symm)]; exact e, fun b o v e => by rw [upd_ne (ne_of e h fun z => h1.2.2.2.2 o v z.symm)]; exact e⟩
theorem Stab.lst {H : Hp} {p : Addr} {o : HO} {xs : List V} (h : H p = some (.lst xs)) : Stab H (upd H p o) := Stab.mut h Soft.lst
theorem TpAt.mono {K : PySem.W.Frag} {H H' : Hp} {a : Addr} {xs : List V} (s : Stab H H') (h : TpAt K H a xs) : TpAt K H' a xs := by
  rcases h with h | ⟨o, h⟩ | h
  · exact .inl (s.tup _ _ h)
  · exact .inr (.inl ⟨o, s.fzt _ _ _ h⟩)
  · exact .inr (.inr h)
theorem KtAt.mono {H H' : Hp} {a : Addr} {xs : List V} (s : Stab H H') (h : KtAt H a xs) : KtAt H' a xs := by
  obtain ⟨o, h, d⟩ := h
  exact ⟨o, s.fzt _ _ _ h, d⟩
theorem FzAt.mono {H H' : Hp} {a : Addr} {xs : List V} (s : Stab H H') (h : FzAt H a xs) : FzAt H' a xs := by
  obtain ⟨o, h⟩ := h
  exact ⟨o, s.frz _ _ _ h⟩
theorem KlAt.mono {K : PySem.W.Frag} {H H' : Hp} {a : Addr} {xs : List V} (s : Stab H H') (h : KlAt K H a xs) : KlAt K H' a xs := h.imp (fun z => z.mono s) id
theorem KlAt.sq {K : PySem.W.Frag} {H : Hp} {a : Addr} {xs : List V} (h : KlAt K H a xs) : SqL K H a xs := by
  rcases h with h | h
  · exact h.sq
  · exact .inr h
theorem ExF.mono {H H' : Hp} (s : Stab H H') {dx : Option Addr} {fl : List Str} {vs : List V} (h : ExF H dx fl vs) : ExF H' dx fl vs := by
  cases dx with
  | none => exact h
  | some d => exact ⟨h.1, s.ext _ _ h.2⟩
mutual
theorem Rep.mono {K : PySem.W.Frag} {H H' : Hp} (s : Stab H H') {v : V} {d : Dat} : Rep K H v d → Rep K H' v d
  | .non => .non
  | .bl b => .bl b
  | .int i => .int i
  | .str x => .str x
  | .ref a => .ref a
  | .ty n => .ty n
  | .gf x => .gf x
  | .tup h r => .tup (h.mono s) (Reps.mono s r)
  | .lst h r => .lst (h.mono s) (Reps.mono s r)
  | .kls h r => .kls (h.mono s) (Reps.mono s r)
  | .clo h1 h2 h3 h4 => .clo h1 h2 (s.ext _ _ h3) (s.ext _ _ h4)
  | .exc h1 h2 r => .exc (s.ext _ _ h1) (h2.mono s) (Reps.mono s r)
  | .ktp h r => .ktp (h.mono s) (Reps.mono s r)
theorem Reps.mono {K : PySem.W.Frag} {H H' : Hp} (s : Stab H H') {vs : List V} {ds : List Dat} : Reps K H vs ds → Reps K H' vs ds
  | .nil => .nil
  | .cons h r => .cons (Rep.mono s h) (Reps.mono s r)
end
section
variable {K : PySem.W.Frag} {H H' : Hp}
theorem Reps.length {vs : List V} {ds : List Dat} (h : Reps K H vs ds) : vs.length = ds.length := by
  induction ds generalizing vs with
  | nil => cases h; rfl
  | cons d ds ih => cases h with | cons a r => rw [List.length_cons, List.length_cons, ih r]
theorem Reps.append {vs ws : List V} {ds es : List Dat} (h : Reps K H vs ds) (h2 : Reps K H ws es) : Reps K H (vs ++ ws) (ds ++ es) := by
  induction ds generalizing vs with
  | nil => cases h; exact h2
  | cons d ds ih => cases h with | cons a r => exact .cons a (ih r)
theorem Reps.one {v : V} {d : Dat} (h : Rep K H v d) : Reps K H [v] [d] := .cons h .nil
theorem Reps.get : ∀ {ds : List Dat} {vs : List V} {i : Nat} {d : Dat}, Reps K H vs ds → ds[i]? = some d → ∃ v, vs[i]? = some v ∧ Rep K H v d
  | [], _, _, _, _, e => by simp at e
  | d :: ds, _, 0, _, .cons a r, e => by
    simp only [List.getElem?_cons_zero, Option.some.injEq] at e
    subst e
    exact ⟨_, rfl, a⟩
  | d :: ds, _, i + 1, _, .cons a r, e => by
    simp only [List.getElem?_cons_succ] at e ⊢
    exact Reps.get r e
theorem Reps.getV : ∀ {ds : List Dat} {vs : List V} {i : Nat} {v : V}, Reps K H vs ds → vs[i]? = some v → ∃ d, ds[i]? = some d ∧ Rep K H v d
  | [], _, _, _, .nil, e => by simp at e
  | d :: ds, _, 0, _, .cons a r, e => by
    simp only [List.getElem?_cons_zero, Option.some.injEq] at e
    subst e
    exact ⟨_, rfl, a⟩
  | d :: ds, _, i + 1, _, .cons a r, e => by
    simp only [List.getElem?_cons_succ] at e ⊢
    exact Reps.getV r e
theorem Reps.drop : ∀ {ds : List Dat} {vs : List V} (n : Nat), Reps K H vs ds → Reps K H (vs.drop n) (ds.drop n)
  | _, _, 0, h => h
  | [], _, n + 1, .nil => .nil
  | d :: ds, _, n + 1, .cons a r => Reps.drop n r
theorem Reps.take : ∀ {ds : List Dat} {vs : List V} (n : Nat), Reps K H vs ds → Reps K H (vs.take n) (ds.take n)
  | _, _, 0, h => .nil
  | [], _, n + 1, .nil => .nil
  | d :: ds, _, n + 1, .cons a r => .cons a (Reps.take n r)
theorem Reps.set {v : V} {d : Dat} (h : Rep K H v d) : ∀ {ds : List Dat} {vs : List V} (i : Nat), Reps K H vs ds → Reps K H (vs.set i v) (ds.set i d)
  | [], _, _, .nil => .nil
  | _ :: _, _, 0, .cons _ r => .cons h r
  | _ :: _, _, i + 1, .cons a r => .cons a (Reps.set h i r)
theorem Reps.rep (n : Nat) {ds : List Dat} {vs : List V} (h : Reps K H vs ds) : Reps K H (List.replicate n vs).flatten (List.replicate n ds).flatten := by
  induction n with
  | zero => exact .nil
  | succ n ih =>
    rw [List.replicate_succ, List.replicate_succ, List.flatten_cons, List.flatten_cons]
    exact h.append ih
theorem Reps.reverse {ds : List Dat} {vs : List V} (h : Reps K H vs ds) : Reps K H vs.reverse ds.reverse := by
  induction ds generalizing vs with
  | nil => cases h; exact .nil
  | cons d ds ih =>
    cases h with
    | cons a r =>
      rw [List.reverse_cons, List.reverse_cons]
      exact (ih r).append (.one a)
theorem Reps.eraseIdx : ∀ {ds : List Dat} {vs : List V} (i : Nat), Reps K H vs ds → Reps K H (vs.eraseIdx i) (ds.eraseIdx i)
  | [], _, _, .nil => .nil
  | _ :: _, _, 0, .cons _ r => r
  | _ :: _, _, i + 1, .cons a r => .cons a (Reps.eraseIdx i r)
theorem Reps.ints {ns : List Int} {vs : List V} (h : Reps K H vs (ns.map Dat.int)) : vs = ns.map V.int := by
  induction ns generalizing vs with
  | nil => cases h; rfl
  | cons n ns ih =>
    cases h with
    | cons a r => cases a; rw [List.map_cons, ih r]
end
/-! ### the heap of what may change -/
inductive AO where
  | lst (ds : List Dat)
  | dk (kvs : List (Key × Dat))
  | ins (C : Str) (fs : List (Str × Dat))
  /-- a cell that is never set again -/
  | cel (d : Dat)
abbrev AG := Addr → Option AO
def gu (G : AG) (a : Addr) (o : AO) : AG := fun b => if b = a then some o else G b
def gx (G : AG) (a : Addr) : AG := fun b => if b = a then none else G b
theorem gu_same {G : AG} {a : Addr} {o : AO} : gu G a o a = some o := by unfold gu; rw [if_pos rfl]
theorem gu_ne {G : AG} {a b : Addr} {o : AO} (h : b ≠ a) : gu G a o b = G b := by unfold gu; rw [if_neg h]
theorem gx_same {G : AG} {a : Addr} : gx G a a = none := by unfold gx; rw [if_pos rfl]
theorem gx_ne {G : AG} {a b : Addr} (h : b ≠ a) : gx G a b = G b := by unfold gx; rw [if_neg h]
theorem gu_gu {G : AG} {a : Addr} {o u : AO} : gu (gu G a o) a u = gu G a u := by
  funext b; unfold gu; split <;> rfl
/-- less is known -/
def Sub (G G' : AG) : Prop := ∀ a o, G a = some o → G' a = some o
theorem Sub.refl (G : AG) : Sub G G := fun _ _ h => h
theorem Sub.trans {G G1 G2 : AG} (a : Sub G G1) (b : Sub G1 G2) : Sub G G2 := fun c o h => b c o (a c o h)
theorem Sub.new {G : AG} {a : Addr} {o : AO} (h : G a = none) : Sub G (gu G a o) := fun b u e => by
  have : b ≠ a := fun z => by rw [z, h] at e; cases e
  rw [gu_ne this]; exact e
theorem Sub.gx {G : AG} {a : Addr} : Sub (gx G a) G := fun b u e => by
  by_cases h : b = a
  · rw [h, gx_same] at e; cases e
  · rw [gx_ne h] at e; exact e
theorem Sub.free {G G' : AG} {a : Addr} (s : Sub G G') (h : G' a = none) : G a = none := by
  cases e : G a with
  | none => rfl
  | some o => rw [s a o e] at h; cases h
abbrev KRel (K : PySem.W.Frag) (H : Hp) {κ : Type} : List (κ × V) → List (κ × Dat) → Prop := Paired fun (p : κ × V) (q : κ × Dat) => p.1 = q.1 ∧ Rep K H p.2 q.2
theorem KRel.mono {K : PySem.W.Frag} {H H' : Hp} (s : Stab H H') {κ : Type} {l : List (κ × V)} {m : List (κ × Dat)} (h : KRel K H l m) : KRel K H' l m := Paired.mapP h fun _ _ z => ⟨z.1, z.2.mono s⟩
def AOk (K : PySem.W.Frag) (H : Hp) (a : Addr) : AO → Prop
  | .lst ds => ∃ vs, H a = some (.lst vs) ∧ Reps K H vs ds
  | .dk kvs => ∃ vk, H a = some (.dK vk) ∧ KRel K H vk kvs
  | .ins C fs => ∃ dx vf, H a = some (.ins (He.ga K C) dx vf) ∧ KRel K H vf fs
  | .cel d => ∃ (o : Obj) (u : Value) (v : V), H a = some (.frz o (.own a)) ∧ o.data = .cell (some u) ∧ RelV v u ∧ Rep K H v d
theorem AOk.some {K : PySem.W.Frag} {H : Hp} {a : Addr} {o : AO} (h : AOk K H a o) : ∃ u, H a = some u ∧ Soft u := by
  cases o with
  | lst ds => obtain ⟨vs, e, _⟩ := h; exact ⟨_, e, .lst⟩
  | dk kvs => obtain ⟨vs, e, _⟩ := h; exact ⟨_, e, ⟨fun _ z => (by cases z), fun _ _ z => (by cases z), fun _ z => (by cases z), fun _ z => (by cases z), fun _ _ z => by cases z⟩⟩
  | ins C fs => obtain ⟨dx, vs, e, _⟩ := h; exact ⟨_, e, ⟨fun _ z => (by cases z), fun _ _ z => (by cases z), fun _ z => (by cases z), fun _ z => (by cases z), fun _ _ z => by cases z⟩⟩
  | cel d => obtain ⟨o, u, v, e, _⟩ := h; exact ⟨_, e, ⟨fun _ z => (by cases z), fun _ _ z => (by cases z), fun _ z => (by cases z), fun _ z => (by cases z), fun _ _ z => by cases z⟩⟩
theorem AOk.mono {K : PySem.W.Frag} {H H' : Hp} {a : Addr} {o : AO} (s : Stab H H') (e : H' a = H a) (h : AOk K H a o) : AOk K H' a o := by
  cases o with
  | lst ds => obtain ⟨vs, q, r⟩ := h; exact ⟨vs, e.trans q, r.mono s⟩
  | dk kvs => obtain ⟨vs, q, r⟩ := h; exact ⟨vs, e.trans q, KRel.mono s r⟩
  | ins C fs => obtain ⟨dx, vs, q, r⟩ := h; exact ⟨dx, vs, e.trans q, KRel.mono s r⟩
  | cel d => obtain ⟨o, u, v, q, h1, h2, r⟩ := h; exact ⟨o, u, v, e.trans q, h1, h2, r.mono s⟩
theorem tabs_upd {T : List NdefX.NTab} {H : Hp} {p : Addr} {o : HO} (t : NdefX.TabsN T H) (h1 : ∀ ps, H p ≠ some (.tbl ps)) (h2 : ∀ φ, H p ≠ some (.ext φ)) : NdefX.TabsN T (upd H p o) := fun q hq => by
  obtain ⟨ps, e, e2, e3⟩ := t q hq
  refine ⟨ps, by rw [upd_ne fun z => h1 ps (by rw [← z]; exact e)]; exact e, e2, fun pos cv hc => ?_⟩
  obtain ⟨c, e4, e5⟩ := e3 pos cv hc
  exact ⟨c, e4, by rw [upd_ne fun z => h2 _ (by rw [← z]; exact e5)]; exact e5⟩
theorem tabs_new {T : List NdefX.NTab} {H : Hp} {p : Addr} {o : HO} (t : NdefX.TabsN T H) (h : H p = none) : NdefX.TabsN T (upd H p o) := tabs_upd t (fun ps z => by rw [h] at z; cases z) fun φ z => by rw [h] at z; cases z
theorem tabs_soft {T : List NdefX.NTab} {H : Hp} {p : Addr} {o u : HO} (t : NdefX.TabsN T H) (h : H p = some u) (s : Soft u) : NdefX.TabsN T (upd H p o) :=
  tabs_upd t (fun ps z => by rw [h] at z; exact s.2.2.2.1 ps (Option.some.inj z)) fun φ z => by rw [h] at z; exact s.2.2.1 φ (Option.some.inj z)
structure RelG (K : PySem.W.Frag) (G : AG) (H : Hp) : Prop where
  g : ∀ a o, G a = some o → AOk K H a o
  t : NdefX.TabsN Tb.T H
section
variable {K : PySem.W.Frag} {G G' : AG} {H H' : Hp} {p : Addr}
theorem RelG.sub (s : Sub G' G) (h : RelG K G H) : RelG K G' H := ⟨fun a o e => h.g a o (s a o e), h.t⟩
theorem RelG.free (h : RelG K G H) (e : H p = none) : G p = none := by
  cases q : G p with
  | none => rfl
  | some o => obtain ⟨u, z, _⟩ := (h.g p o q).some; rw [e] at z; cases z
theorem RelG.new {o : HO} {u : AO} (h : RelG K G H) (e : H p = none) (n : AOk K (upd H p o) p u) : RelG K (gu G p u) (upd H p o) := ⟨fun a w q => by
  by_cases ha : a = p
  · subst ha; rw [gu_same] at q; cases q; exact n
  · rw [gu_ne ha] at q
    exact (h.g a w q).mono (.new e) (upd_ne ha), tabs_new h.t e⟩
/-- something new that is not told -/
theorem RelG.newT {o : HO} (h : RelG K G H) (e : H p = none) : RelG K G (upd H p o) := ⟨fun a w q => by
  have ha : a ≠ p := fun z => by rw [z, h.free e] at q; cases q
  exact (h.g a w q).mono (.new e) (upd_ne ha), tabs_new h.t e⟩
theorem RelG.set {o : HO} {u v : AO} (h : RelG K G H) (e : G p = some u) (n : AOk K (upd H p o) p v) : RelG K (gu G p v) (upd H p o) := by
  obtain ⟨z, e1, e2⟩ := (h.g p u e).some
  refine ⟨fun a w q => ?_, tabs_soft h.t e1 e2⟩
  by_cases ha : a = p
  · subst ha; rw [gu_same] at q; cases q; exact n
  · rw [gu_ne ha] at q
    exact (h.g a w q).mono (.mut e1 e2) (upd_ne ha)
theorem RelG.stabSet {o : HO} {u : AO} (h : RelG K G H) (e : G p = some u) : Stab H (upd H p o) := by
  obtain ⟨z, e1, e2⟩ := (h.g p u e).some
  exact .mut e1 e2
theorem RelG.lst {ds : List Dat} (h : RelG K G H) (e : G p = some (.lst ds)) : ∃ vs, H p = some (.lst vs) ∧ Reps K H vs ds := h.g p _ e
end
/-! ### the names' values -/
abbrev Env' := List (Option Dat)
def RelE (K : PySem.W.Frag) (H : Hp) (ρ : Env') (σ : L2.St) : Prop := ρ.length = σ.length ∧ ∀ (i : Nat) (d : Dat), ρ[i]? = some (some d) → ∃ v, σ[i]? = some (some v) ∧ Rep K H v d
section
variable {K : PySem.W.Frag} {H H' : Hp} {ρ : Env'} {σ : L2.St}
theorem RelE.mono (s : Stab H H') (h : RelE K H ρ σ) : RelE K H' ρ σ := ⟨h.1, fun i d e => by obtain ⟨v, q, r⟩ := h.2 i d e; exact ⟨v, q, r.mono s⟩⟩
theorem RelE.set {i : Nat} {v : V} {d : Dat} (h : RelE K H ρ σ) (r : Rep K H v d) : RelE K H (ρ.set i (some d)) (σ.set i (some v)) := by
  refine ⟨by rw [List.length_set, List.length_set, h.1], fun j e q => ?_⟩
  by_cases hj : i = j
  · subst hj
    by_cases hl : i < ρ.length
    · rw [List.getElem?_set_self hl] at q
      cases q
      exact ⟨v, by rw [List.getElem?_set_self (by rw [← h.1]; exact hl)], r⟩
    · rw [List.getElem?_eq_none (by rw [List.length_set]; omega)] at q
      cases q
  · rw [List.getElem?_set_ne hj] at q
    obtain ⟨w, z, r'⟩ := h.2 j e q
    exact ⟨w, by rw [List.getElem?_set_ne hj]; exact z, r'⟩
theorem RelE.wipe1 {i : Nat} (h : RelE K H ρ σ) : RelE K H (ρ.set i none) (σ.set i none) := by
  refine ⟨by rw [List.length_set, List.length_set, h.1], fun j e q => ?_⟩
  by_cases hj : i = j
  · subst hj
    by_cases hl : i < ρ.length
    · rw [List.getElem?_set_self hl] at q
      cases q
    · rw [List.getElem?_eq_none (by rw [List.length_set]; omega)] at q
      cases q
  · rw [List.getElem?_set_ne hj] at q
    obtain ⟨w, z, r'⟩ := h.2 j e q
    exact ⟨w, by rw [List.getElem?_set_ne hj]; exact z, r'⟩
end
def wipeD (ρ : Env') : List Nat → Env'
  | [] => ρ
  | v :: vs => (wipeD ρ vs).set v none
theorem RelE.wipe {K : PySem.W.Frag} {H : Hp} {ρ : Env'} {σ : L2.St} (h : RelE K H ρ σ) : ∀ vs : List Nat, RelE K H (wipeD ρ vs) (L2.wipe σ vs)
  | [] => h
  | _ :: vs => (RelE.wipe h vs).wipe1
end Av
set_option Elab.async false
set_option linter.all false
set_option maxRecDepth 100000
set_option maxHeartbeats 4000000
/-! # Av1: a small language for the bodies, and what each of its words asks -/
namespace Av
open PySem PySem.Spec PyProof.Rows L2
variable [Tb]
abbrev AQ := Dat → AG → Prop
/-- what is raised: the class by its name, the fields -/
abbrev AX := Str → List (Str × Dat) → AG → Prop
abbrev Con := List Dat → AG → AQ → AX → Prop
structure FnE where
  con : Con
  ar : Nat
  dfl : List Dat := []
  len : ∀ ds G Q X, con ds G Q X → ds.length = ar
/-- a made function's promise, by the cells that it captured -/
structure LamE where
  con : List Addr → Con
  ar : Nat
  len : ∀ cl ds G Q X, con cl ds G Q X → ds.length = ar
structure Gam where
  fn : Str → Option FnE
  gl : Str → Option Dat
  /-- class, name: an attribute that the class itself does not have -/
  at_ : Str → Str → Bool := fun _ _ => false
  /-- class, method -/
  ms : Str → Str → Option FnE := fun _ _ => none
  /-- class: its __init__ -/
  mke : Str → Option FnE := fun _ => none
  /-- an exception's class: its fields, in the order of its parameters -/
  xc : Str → Option (List Str) := fun _ => none
  /-- a dict of the module, never written -/
  dc : Str → Option (List (Key × Dat)) := fun _ => none
  /-- made functions, by their numbers -/
  lam : Nat → Option LamE := fun _ => none
  /-- own cells, by slots -/
  cs : Nat → Option Addr := fun _ => none
  /-- class, name: a function read off the class -/
  cm : Str → Str → Option FnE := fun _ _ => none
  /-- defs that are called with the exception that is held: by its class and fields -/
  hf : Str → Option (Str → List (Str × Dat) → Option Dat) := fun _ => none
  /-- class, method, how many by place, the names of the others: the def, and the order of what it gets -/
  mn : Str → Str → Nat → List Str → Option (FnE × List Nat) := fun _ _ _ _ => none
  /-- one own class under another one -/
  sub : Str → Str → Option Bool := fun _ _ => none
inductive BO where | add | sub | mul | fdiv | mod | pow | shl | shr | band | kadd
  deriving DecidableEq
inductive CO where | lt | le | gt | ge | eq | ne | isn | isnt | mem | nmem | memd | nmemd
  deriving DecidableEq
inductive BF where | len | int | tuple | list | isinst | all | any | sum1 | sum2 | min2 | max2 | ord | srt | max1 | str | ktuple
  deriving DecidableEq
inductive MF where | append | extend | pop | popAt | clear | reverse | insert | count | index
  deriving DecidableEq
/-- methods of texts -/
inductive SM where | lower | upper | split | startswith | endswith
  deriving DecidableEq
/-- in an except suite: constants, fields of the exception, tuples of these -/
inductive HE where | cst (d : Dat) | fld (f : Str) | tup (es : List HE) | fn (f : Str) | isi (c : Str) (a b : HE)
inductive HS where | set (i : Nat) (e : HE) | ret (e : HE) | alt (c : Str) (a : HS)
/-- an except clause: its class, the slot of its name, its suite -/
structure Hd where
  cls : Str
  slot : Option Nat
  act : HS
inductive TGt where | nm (i : Nat) | tp (is : List Nat) | tq (i : Nat) (is : List Nat)
mutual
inductive E where
  | var (i : Nat)
  | cst (d : Dat)
  | glo (x : Str)
  | bin (z : Bool) (o : BO) (a b : E)
  | neg (a : E)
  | cmp (o : CO) (a b : E)
  | cmp2 (o o' : CO) (a b c : E)
  | andV (a b : E)
  | orV (a b : E)
  | notV (a : E)
  | ite (c : T) (a b : E)
  | tup (es : List E)
  | lst (z : Bool) (es : List E)
  | ix (a b : E)
  | slAll (z : Bool) (a : E) | slFrom (z : Bool) (a lo : E) | slTo (z : Bool) (a hi : E) | sl (z : Bool) (a lo hi : E) | rev (a : E) | tupR (a b : E)
  | call (f : Str) (es : List E)
  | blt (z : Bool) (f : BF) (es : List E)
  | meth (m : MF) (o : E) (es : List E)
  | lc (z : Bool) (e : E) (g : TGt) (it : I) (own : List Nat)
  | lcIf (z : Bool) (e : E) (g : TGt) (it : I) (t : T) (own : List Nat)
  | frz (a : E)
  | one (a : E)
  | att (a : E) (f : Str)
  | mcall (C m : Str) (o : E) (es : List E)
  | new (C : Str) (es : List E)
  | dlit (es : List E)
  | dix (a b : E)
  | dget1 (a b : E)
  /-- a.update(b), of dicts -/
  | dupd (a b : E)
  | dget2 (a b c : E)
  | dead
  | gin (n : Bool) (x : Str) (a : E)
  | gix (x : Str) (a : E)
  | gget1 (x : Str) (a : E)
  | gget2 (x : Str) (a b : E)
  | callV (i : Nat) (es : List E)
  | din (n : Bool) (a b : E)
  | sin (n : Bool) (a b : E)
  | smeth (z : Bool) (m : SM) (o : E) (es : List E)
  | six (a b : E)
  | lam (k : Nat) (ls : List Nat)
  | pcall (ls : List Nat) (f : Str) (es : List E)
  | pcallV (ls : List Nat) (i : Nat) (es : List E)
  | mcd (ls : List Nat) (m : Str) (o : E) (es : List E)
  | xnew (C : Str) (es : List E)
  | ccall (C m : Str) (es : List E)
  /-- o.m(es, k = v, ..) -/
  | mnam (C m : Str) (o : E) (es : List E) (ks : List Str) (fs : List E)
  /-- a.index(b), a a known tuple -/
  | tidx (a b : E)
  /-- a known tuple is a tuple -/
  | ktt (a : E)
  | or2 (a b : E)
  /-- a[lo:], the tuple is known -/
  | kslF (a lo : E)
  /-- a[::-1], a tuple -/
  | revT (a : E)
inductive T where
  | and_ (a b : T) | or_ (a b : T) | not_ (a : T) | ite (c a b : T) | one (a : T)
  | cmp (o : CO) (a b : E)
  | cmp2 (o o' : CO) (a b c : E)
  | val (a : E)
  | gin (n : Bool) (x : Str) (a : E)
  | din (n : Bool) (a b : E)
  | sin (n : Bool) (a b : E)
inductive I where
  | gkeys (x : Str)
  | str (a : E)
  | rng1 (a : E) | rng2 (a b : E) | rng3 (a b c : E) | seq (a : E) | zip (a b : E) | enum (a : E)
end
inductive S where
  | set (i : Nat) (e : E)
  | setTp (is : List Nat) (e : E)
  | par2 (i j : Nat) (a b : E)
  | par3 (i j k : Nat) (a b c : E)
  | expr (e : E)
  | ret (e : E)
  | retN
  | if_ (c : T) (a b : List S)
  | while_ (c : T) (b : List S)
  | for_ (g : TGt) (it : I) (b : List S)
  | setIx (o i e : E)
  /-- o[lo:hi] = e, a list of its own -/
  | setSl (o lo hi e : E)
  /-- o[i], j = e -/
  | setIN (o i : E) (j : Nat) (e : E)
  | aug (i : Nat) (o : BO) (e : E)
  | setAtt (o : E) (f : Str) (e : E)
  /-- o.f, o.g = e -/
  | setAt2 (o : E) (f g : Str) (e : E)
  | dset (o i e : E)
  | raise (C : Str) (es : List E)
  | pass | brk | cont
  | dead
  | sub_
  | retP (ls : List Nat) (e : E)
  | try_ (b : List S) (hs : List Hd)
/-! ### values -/
/-- the items of a list -/
def lstOf (G : AG) : Dat → Option (List Dat)
  | .lst ds => some ds
  | .ref a => match G a with
    | some (.lst ds) => some ds
    | _ => none
  | _ => none
/-- the items of a list or a tuple -/
def seqOf (G : AG) : Dat → Option (List Dat)
  | .tup ds => some ds
  | .kls ds => some ds
  | .ktp ds => some ds
  | d => lstOf G d
def rdOf (G : AG) : Dat → Option (List Dat)
  | .tup ds => some ds
  | d => lstOf G d
def newL (ds : List Dat) (G : AG) (Q : AQ) : Prop := ds.length ≤ sizeLine ∧ ∀ p, G p = none → Q (.ref p) (gu G p (.lst ds))
/-- .. that is never written: it is its items -/
def nw (z : Bool) (ds : List Dat) (G : AG) (Q : AQ) : Prop := if z = true then ds.length ≤ sizeLine ∧ Q (.lst ds) G else newL ds G Q
def binW (z : Bool) : BO → Dat → Dat → AG → AQ → Prop
  | .add, .int i, .int j, G, Q => Q (.int (i + j)) G
  | .add, .str a, .str b, G, Q => a.length + b.length ≤ sizeLine ∧ Q (.str (a ++ b)) G
  | .add, .tup a, .tup b, G, Q => a.length + b.length ≤ sizeLine ∧ Q (.tup (a ++ b)) G
  | .add, x, y, G, Q => ∃ a b, lstOf G x = some a ∧ lstOf G y = some b ∧ nw z (a ++ b) G Q
  | .sub, .int i, .int j, G, Q => Q (.int (i - j)) G
  | .mul, .int i, .int j, G, Q => CMul i j ∧ Q (.int (i * j)) G
  | .mul, .tup a, .int k, G, Q => ((-(2 ^ 63) ≤ k ∧ k < 2 ^ 63) ∧ a.length * k.toNat ≤ 100000) ∧ Q (.tup (List.replicate k.toNat a).flatten) G
  | .kadd, .tup a, .tup b, G, Q => ((a ≠ [] ∧ b ≠ []) ∧ a.length + b.length ≤ sizeLine) ∧ Q (.ktp (a ++ b)) G
  | .mul, .str x, .int k, G, Q => (-(2 ^ 63) ≤ k ∧ k ≤ 1) ∧ Q (.str (if k < 1 then Str.empty else x)) G
  | .mul, x, .int k, G, Q => ∃ a, lstOf G x = some a ∧ -(2 ^ 63) ≤ k ∧ k < 2 ^ 63 ∧ nw z (List.replicate k.toNat a).flatten G Q
  | .fdiv, .int i, .int j, G, Q => CDiv i j ∧ Q (.int (i / j)) G
  | .mod, .int i, .int j, G, Q => 0 < j ∧ Q (.int (i % j)) G
  | .pow, .int i, .int j, G, Q => CPow i j ∧ Q (.int (i ^ j.toNat)) G
  | .shl, .int i, .int j, G, Q => CPow i j ∧ Q (.int (i * 2 ^ j.toNat)) G
  | .shr, .int i, .int j, G, Q => 0 ≤ j ∧ Q (.int (i / 2 ^ j.toNat)) G
  | .band, .int i, .int j, G, Q => Q (.int (Builtin.bitAnd i j)) G
  | _, _, _, _, _ => False
/- what a value holds, all of it, read through the heap of what may change -/
mutual
inductive Deep (G : AG) : Dat → PyData → Prop
  | non : Deep G .non .none
  | bl (b : Bool) : Deep G (.bl b) (.bool b)
  | int (i : Int) : Deep G (.int i) (.int i)
  | str (x : Str) : Deep G (.str x) (.str x)
  | tup {ds : List Dat} {ps : List PyData} : Deeps G ds ps → Deep G (.tup ds) (.tuple ps)
  | lst {ds : List Dat} {ps : List PyData} : Deeps G ds ps → Deep G (.lst ds) (.list ps)
  | ref {a : Addr} {ds : List Dat} {ps : List PyData} : G a = some (.lst ds) → Deeps G ds ps → Deep G (.ref a) (.list ps)
inductive Deeps (G : AG) : List Dat → List PyData → Prop
  | nil : Deeps G [] []
  | cons {d : Dat} {ds : List Dat} {p : PyData} {ps : List PyData} : Deep G d p → Deeps G ds ps → Deeps G (d :: ds) (p :: ps)
end
/-- texts -/
def strD : Dat → Option Str
  | .str x => some x
  | _ => none
/-- flat values, and when two are equal -/
def flatD : Dat → Bool
  | .non => true | .bl _ => true | .int _ => true | .str _ => true
  | _ => false
def toV : Dat → V
  | .non => .non | .bl b => .bl b | .int i => .int i | .str s => .str s | .ref a => .ref a | .ty n => .ty n
  | .tup _ => .non | .lst _ => .non | .kls _ => .non | .gf _ => .non | .clo .. => .non | .exc .. => .non | .ktp _ => .non
def eqW (n : Bool) (x y : Dat) (G : AG) (Q : AQ) : Prop := ((flatD x && flatD y && L2.scal (toV x) (toV y)) = true ∧ Q (.bl (if n then !decide (toV x = toV y) else decide (toV x = toV y))) G) ∨ ∃ p q, Deep G x p ∧ Deep G y q ∧ SeqAt.shaped p = true ∧ SeqAt.shaped q = true ∧ Q (.bl (if n then !PyData.eqv p q else PyData.eqv p q)) G
def eqF (x y : Dat) : Bool := eqV (toV x) (toV y)
def memW (n : Bool) (x y : Dat) (G : AG) (Q : AQ) : Prop :=
  ∃ ds, seqOf G y = some ds ∧ flatD x = true ∧ ds.all flatD = true ∧ Q (.bl (if n then !ds.any (fun d => eqF d x) else ds.any (fun d => eqF d x))) G
/-- among a tuple's items that are no flat values -/
def memD (n : Bool) (x y : Dat) (G : AG) (Q : AQ) : Prop :=
  ∃ p ps, Deep G x p ∧ Deep G y (.tuple ps) ∧ p.plain = true ∧ PyData.plainAll ps = true ∧ min (PyData.depthAll ps) p.depth ≤ 60 ∧ Q (.bl (if n then !ps.any (fun z => PyData.eqv z p) else ps.any fun z => PyData.eqv z p)) G
def isNonD : Dat → Bool
  | .non => true
  | _ => false
def cmpW : CO → Dat → Dat → AG → AQ → Prop
  | .lt, .int i, .int j, G, Q => Q (.bl (decide (i < j))) G
  | .le, .int i, .int j, G, Q => Q (.bl (decide (i ≤ j))) G
  | .gt, .int i, .int j, G, Q => Q (.bl (decide (j < i))) G
  | .ge, .int i, .int j, G, Q => Q (.bl (decide (j ≤ i))) G
  | .eq, x, y, G, Q => eqW false x y G Q
  | .ne, x, y, G, Q => eqW true x y G Q
  | .isn, x, .non, G, Q => Q (.bl (isNonD x)) G
  | .isnt, x, .non, G, Q => Q (.bl (!isNonD x)) G
  | .mem, x, y, G, Q => memW false x y G Q
  | .nmem, x, y, G, Q => memW true x y G Q
  | .memd, x, y, G, Q => memD false x y G Q
  | .nmemd, x, y, G, Q => memD true x y G Q
  | _, _, _, _, _ => False
def truW : Dat → AG → (Bool → AG → Prop) → Prop
  | .non, G, Q => Q false G
  | .bl b, G, Q => Q b G
  | .int i, G, Q => Q (i != 0) G
  | .str s, G, Q => s.length ≤ sizeLine ∧ Q (s.length != 0) G
  | .tup ds, G, Q => Q (!ds.isEmpty) G
  | x, G, Q => ∃ ds, lstOf G x = some ds ∧ Q (!ds.isEmpty) G
def boolW (Q : Bool → AG → Prop) : Dat → AG → Prop
  | .bl b, G => Q b G
  | _, _ => False
def ixW : Dat → Dat → AG → AQ → Prop
  | x, .int i, G, Q => ∃ ds d, seqOf G x = some ds ∧ atI ds i = some d ∧ Q d G
  | _, _, _, _ => False
def cutD (ds : List Dat) (lo hi : Option Int) : List Dat := (ds.drop (HT.sIx ds.length 0 lo)).take (HT.sIx ds.length ds.length hi - HT.sIx ds.length 0 lo)
def slW (z : Bool) : Dat → Option Int → Option Int → AG → AQ → Prop
  | .tup ds, lo, hi, G, Q => Q (.tup (cutD ds lo hi)) G
  | .str x, lo, hi, G, Q => x.length ≤ sizeLine ∧ Q (.str (Txt.slice x lo hi)) G
  | x, lo, hi, G, Q => ∃ ds, lstOf G x = some ds ∧ nw z (cutD ds lo hi) G Q
def intK (Q : Int → AG → Prop) : Dat → AG → Prop
  | .int i, G => Q i G
  | _, _ => False
/-- a value's type among the built-in ones -/
def tyOf (G : AG) : Dat → Option String
  | .non => some "NoneType"
  | .bl _ => some "bool" | .int _ => some "int" | .str _ => some "str" | .tup _ => some "tuple" | .lst _ => some "list"
  | .ref a => match G a with
    | some (.lst _) => some "list"
    | some (.dk _) => some "dict"
    | _ => none
  | .ty _ => none
  | .kls _ => none
  | .gf _ => none
  | .clo .. => none
  | .exc .. => none
  | .ktp _ => some "tuple"
/-- .. among all -/
def tyN (G : AG) : Dat → Option (String ⊕ Str)
  | .exc C _ _ => if Tb.exo C = true then some (.inr C) else none
  | .ref a => match G a with
    | some (.lst _) => some (.inl "list")
    | some (.dk _) => some (.inl "dict")
    | some (.ins C _) => if Tb.own C = true then some (.inr C) else none
    | _ => none
  | d => match tyOf G d with
    | some t => some (.inl t)
    | none => none
def clsN : Dat → Option (String ⊕ Str)
  | .ty n => some (.inl n)
  | .gf C => some (.inr C)
  | _ => none
def kitN : String ⊕ Str → String ⊕ Str → Option Bool
  | .inl t, .inl n => kitB t n
  | t, n => Tb.sub t n
def allTy : List Dat → Bool
  | [] => true
  | d :: r => (clsN d).isSome && allTy r
def isiAny (t : String ⊕ Str) : List Dat → Option Bool
  | [] => some false
  | d :: r => match clsN d with
    | some n => (match kitN t n with
      | some true => if allTy r = true then some true else none
      | some false => isiAny t r
      | none => none)
    | none => none
def isiW (x : Dat) : Dat → AG → AQ → Prop
  | .ty n, G, Q => ∃ t b, tyN G x = some t ∧ kitN t (.inl n) = some b ∧ Q (.bl b) G
  | .gf n, G, Q => ∃ t b, tyN G x = some t ∧ kitN t (.inr n) = some b ∧ Q (.bl b) G
  | .tup cs, G, Q => ∃ t b, tyN G x = some t ∧ isiAny t cs = some b ∧ Q (.bl b) G
  | _, _, _ => False
def blsOf : List Dat → Option (List Bool)
  | [] => some []
  | .bl b :: r => (blsOf r).map (b :: ·)
  | _ :: _ => none
def intsOf : List Dat → Option (List Int)
  | [] => some []
  | .int b :: r => (intsOf r).map (b :: ·)
  | _ :: _ => none
def tupsOf : List Dat → Option (List (List Dat))
  | [] => some []
  | .tup b :: r => (tupsOf r).map (b :: ·)
  | _ :: _ => none
def lstsOf (G : AG) : List Dat → Option (List (List Dat))
  | [] => some []
  | d :: r => match lstOf G d, lstsOf G r with
    | some b, some ls => some (b :: ls)
    | _, _ => none
def sumW (z : Bool) (rows : List Dat) : Dat → AG → AQ → Prop
  | .tup t0, G, Q => ∃ ls, tupsOf rows = some ls ∧ t0.length + ls.flatten.length ≤ sizeLine ∧ Q (.tup (t0 ++ ls.flatten)) G
  | d, G, Q => ∃ s0 ls, lstOf G d = some s0 ∧ lstsOf G rows = some ls ∧ s0.length + ls.flatten.length ≤ sizeLine ∧ if ls = [] then Q d G else nw z (s0 ++ ls.flatten) G Q
def pairD (q : Int × Int) : Dat := .tup [.int q.1, .int q.2]
def lexLe (a b : Int × Int) : Prop := a.1 < b.1 ∨ (a.1 = b.1 ∧ a.2 ≤ b.2)
/-- sorted of pairs of ints, of ints -/
def srtW (z : Bool) (ds : List Dat) (G : AG) (Q : AQ) : Prop :=
  (∃ ps : List (Int × Int), ds = ps.map pairD ∧ ∀ qs : List (Int × Int), qs.Perm ps → qs.Pairwise lexLe → nw z (qs.map pairD) G Q) ∨
  ∃ ns : List Int, ds = ns.map Dat.int ∧ ∀ ms : List Int, ms.Perm ns → ms.Pairwise (· ≤ ·) → nw z (ms.map Dat.int) G Q
def bltW (z : Bool) : BF → List Dat → AG → AQ → Prop
  | .len, [x], G, Q => ∃ ds, seqOf G x = some ds ∧ Q (.int ds.length) G
  | .int, [.int i], G, Q => Q (.int i) G
  | .int, [.bl b], G, Q => Q (.int (if b then 1 else 0)) G
  | .tuple, [x], G, Q => ∃ ds, seqOf G x = some ds ∧ Q (.tup ds) G
  | .list, [x], G, Q => ∃ ds, seqOf G x = some ds ∧ nw z ds G Q
  | .isinst, [x, c], G, Q => isiW x c G Q
  | .all, [x], G, Q => ∃ ds bs, lstOf G x = some ds ∧ blsOf ds = some bs ∧ Q (.bl (bs.all id)) G
  | .any, [x], G, Q => ∃ ds bs, lstOf G x = some ds ∧ blsOf ds = some bs ∧ Q (.bl (bs.any id)) G
  | .sum1, [x], G, Q => ∃ ds ns, lstOf G x = some ds ∧ intsOf ds = some ns ∧ Q (.int ns.sum) G
  | .sum2, [x, y], G, Q => ∃ rows, lstOf G x = some rows ∧ sumW z rows y G Q
  | .min2, [.int i, .int j], G, Q => Q (.int (if j < i then j else i)) G
  | .max2, [.int i, .int j], G, Q => Q (.int (if j > i then j else i)) G
  | .ord, [.str x], G, Q => x.length = 1 ∧ Q (.int (x.cps.getD 0 0 : Nat)) G
  | .srt, [x], G, Q => ∃ ds, lstOf G x = some ds ∧ srtW z ds G Q
  | .max1, [x], G, Q => ∃ ds ns, lstOf G x = some ds ∧ intsOf ds = some ns ∧ 0 < ns.length ∧ ∀ m, m ∈ ns → (∀ y ∈ ns, y ≤ m) → Q (.int m) G
  | .ktuple, [x], G, Q => ∃ ds, lstOf G x = some ds ∧ Q (.ktp ds) G
  | .str, [.int i], G, Q => i.natAbs.log2 < 1920 ∧ Q (.str (toString i)) G
  | _, _, _, _ => False
def sIn (x y : Str) : Bool := !(Builtin.Str.occurrences y x 0 y.length 1).isEmpty
def strsD (l : List Str) : List Dat := l.map Dat.str
def smW (z : Bool) : SM → Str → List Dat → AG → AQ → Prop
  | .lower, a, [], G, Q => a.length ≤ 5592405 ∧ Q (.str (Txt.lower a)) G
  | .upper, a, [], G, Q => a.length ≤ 5592405 ∧ Q (.str (Txt.upper a)) G
  | .split, a, [.str b], G, Q => ((b.length == 0) = false ∧ a.length + 2 ≤ sizeLine) ∧ nw z (strsD (Txt.split a b)) G Q
  | .startswith, a, [.str b], G, Q => Q (.bl (Txt.startswith a b)) G
  | .endswith, a, [.str b], G, Q => Q (.bl (Txt.endswith a b)) G
  | _, _, _, _, _ => False
def signsD (x : Str) : List Dat := x.cps.toList.map fun c => .str ⟨#[c]⟩
/-- the dict that a value is -/
def dkOf (G : AG) : Dat → Option (List (Key × Dat))
  | .ref a => match G a with
    | some (.dk kvs) => some kvs
    | _ => none
  | _ => none
def keyDat : Key → Dat
  | .inl i => .int i
  | .inr x => .str x
def negB (n b : Bool) : Bool := if n then !b else b
def methW : MF → Dat → List Dat → AG → AQ → Prop
  | .append, .ref p, [y], G, Q => ∃ ds, G p = some (.lst ds) ∧ ds.length < sizeLine ∧ Q .non (gu G p (.lst (ds ++ [y])))
  | .extend, .ref p, [y], G, Q => ∃ ds es, G p = some (.lst ds) ∧ rdOf G y = some es ∧ ds.length + es.length ≤ sizeLine ∧ Q .non (gu G p (.lst (ds ++ es)))
  | .pop, .ref p, [], G, Q => ∃ ds y, G p = some (.lst ds) ∧ ds[ds.length - 1]? = some y ∧ Q y (gu G p (.lst ds.dropLast))
  | .popAt, .ref p, [.int i], G, Q => ∃ ds k y, G p = some (.lst ds) ∧ -(2 ^ 63) ≤ i ∧ i < 2 ^ 63 ∧ seqIndex? i ds.length = some k ∧ ds[k]? = some y ∧ Q y (gu G p (.lst (ds.eraseIdx k)))
  | .clear, .ref p, [], G, Q => ∃ ds, G p = some (.lst ds) ∧ Q .non (gu G p (.lst []))
  | .reverse, .ref p, [], G, Q => ∃ ds, G p = some (.lst ds) ∧ Q .non (gu G p (.lst ds.reverse))
  | .insert, .ref p, [.int i, y], G, Q => ∃ ds, G p = some (.lst ds) ∧ ds.length < sizeLine ∧ 0 ≤ i ∧ i < 2 ^ 63 ∧ Q .non (gu G p (.lst (ds.take i.toNat ++ [y] ++ ds.drop i.toNat)))
  | .count, x, [y], G, Q => ∃ ds, lstOf G x = some ds ∧ flatD y = true ∧ ds.all flatD = true ∧ Q (.int (ds.countP fun d => eqF d y : Nat)) G
  | .index, x, [y], G, Q => ∃ ds j d, lstOf G x = some ds ∧ flatD y = true ∧ ds.all flatD = true ∧ ds[j]? = some d ∧ eqF d y = true ∧ (∀ m d', m < j → ds[m]? = some d' → eqF d' y = false) ∧ Q (.int (j : Nat)) G
  | _, _, _, _, _ => False
/-- what stands at these places -/
def permL {α : Type} (pm : List Nat) (l : List α) : List α := pm.filterMap fun i => l[i]?
def tidxW (x y : Dat) (G : AG) (Q : AQ) : Prop := ∃ ds j d, x = .ktp ds ∧ flatD y = true ∧ ds.all flatD = true ∧ ds[j]? = some d ∧ eqF d y = true ∧ (∀ m d', m < j → ds[m]? = some d' → eqF d' y = false) ∧ Q (.int (j : Nat)) G
def kslW : Dat → Int → AG → AQ → Prop
  | .tup ds, i, G, Q => (ds ≠ [] ∧ 0 < i) ∧ Q (.ktp (cutD ds (some i) none)) G
  | _, _, _, _ => False
def kttW : Dat → AG → AQ → Prop
  | .ktp ds, G, Q => Q (.tup ds) G
  | _, _, _ => False
def frzW (d : Dat) (G : AG) (Q : AQ) : Prop :=
  match d with
  | .ref p => match G p with
    | some (.lst ds) => Q (.lst ds) (gx G p)
    | _ => Q (.ref p) G
  | d => Q d G
/-- dicts -/
def keyD : Dat → Option Key
  | .int i => some (.inl i)
  | .str x => some (.inr x)
  | _ => none
def lookD (kvs : List (Key × Dat)) (k : Key) : Option Dat := (kvs.find? fun q => decide (q.1 = k)).map (·.2)
def putKD (kvs : List (Key × Dat)) (k : Key) (v : Dat) : List (Key × Dat) := if (kvs.any fun q => decide (q.1 = k)) = true then kvs.map (fun q => if q.1 = k then (q.1, v) else q) else kvs ++ [(k, v)]
def mergeD (kvs more : List (Key × Dat)) : List (Key × Dat) := more.foldl (fun acc q => putKD acc q.1 q.2) kvs
def pairsOf : List Dat → Option (List (Key × Dat))
  | [] => some []
  | k :: v :: r => match keyD k, pairsOf r with
    | some x, some kvs => some ((x, v) :: kvs)
    | _, _ => none
  | _ => none
def dupdW : Dat → Dat → AG → AQ → Prop
  | .ref p, .ref b, G, Q => ∃ kvs more, G p = some (.dk kvs) ∧ G b = some (.dk more) ∧ p ≠ b ∧ kvs.length + more.length ≤ sizeLine ∧ Q .non (gu G p (.dk (mergeD kvs more)))
  | _, _, _, _ => False
def dlitW (ds : List Dat) (G : AG) (Q : AQ) : Prop := ∃ kvs, pairsOf ds = some kvs ∧ kvs.length ≤ 15 ∧ ∀ p, G p = none → Q (.ref p) (gu G p (.dk (mergeD [] kvs)))
def dixW : Dat → Dat → AG → AQ → Prop
  | .ref p, k, G, Q => ∃ kvs x v, G p = some (.dk kvs) ∧ keyD k = some x ∧ lookD kvs x = some v ∧ Q v G
  | _, _, _, _ => False
def dgetW (o : Dat) (d : Dat) (k : Dat) (G : AG) (Q : AQ) : Prop := match o with
  | .ref p => ∃ kvs x, G p = some (.dk kvs) ∧ keyD k = some x ∧ Q ((lookD kvs x).getD d) G
  | _ => False
def isDk (G : AG) : Dat → Prop
  | .ref p => ∃ kvs, G p = some (.dk kvs)
  | _ => False
def dsetW : Dat → Dat → Dat → AG → (AG → Prop) → Prop
  | .ref p, k, v, G, Q => ∃ kvs x, G p = some (.dk kvs) ∧ keyD k = some x ∧ kvs.length < sizeLine ∧ Q (gu G p (.dk (putKD kvs x v)))
  | _, _, _, _, _ => False
def attW (Γ : Gam) (f : Str) : Dat → AG → AQ → Prop
  | .ref p, G, Q => ∃ C fs d, G p = some (.ins C fs) ∧ Γ.at_ C f = true ∧ fs.lookup f = some d ∧ Q d G
  | .exc C fl ds, G, Q => ∃ d, Γ.xc C = some fl ∧ f ∈ fl ∧ (fl.zip ds).reverse.lookup f = some d ∧ Q d G
  | _, _, _ => False
/-- the own cells that are told for a call -/
def pubG (cs : Nat → Option Addr) (ρ : Env') : List Nat → AG → AG
  | [], G => G
  | i :: r, G => match cs i, ρ[i]? with
    | some c, some (some d) => gu (pubG cs ρ r G) c (.cel d)
    | _, _ => pubG cs ρ r G
def unpG (cs : Nat → Option Addr) : List Nat → AG → AG
  | [], G => G
  | i :: r, G => match cs i with
    | some c => gx (unpG cs r G) c
    | none => unpG cs r G
def noneG (cs : Nat → Option Addr) (ls : List Nat) (G : AG) : Prop := ∀ i ∈ ls, ∀ c, cs i = some c → G c = none ∧ ∀ j ∈ ls, cs j = some c → i = j
def celsOf (cs : Nat → Option Addr) : List Nat → Option (List Addr)
  | [] => some []
  | i :: r => match cs i, celsOf cs r with
    | some c, some l => some (c :: l)
    | _, _ => none
def insW (C m : Str) : Dat → AG → Prop
  | .ref p, G => ∃ fs, G p = some (.ins C fs) ∧ fs.lookup m = none
  | _, _ => False
/-- an attribute put -/
def putD (f : Str) (v : Dat) : List (Str × Dat) → List (Str × Dat)
  | [] => [(f, v)]
  | (g, x) :: r => if g = f then (g, v) :: r else (g, x) :: putD f v r
def satW (Γ : Gam) (f : Str) (v : Dat) : Dat → AG → (AG → Prop) → Prop
  | .ref p, G, Q => ∃ C fs, G p = some (.ins C fs) ∧ Γ.at_ C f = true ∧ fs.length < 1000 ∧ Q (gu G p (.ins C (putD f v fs)))
  | _, _, _ => False
/-- a target -/
def setAll : List Nat → List Dat → Env' → Env'
  | i :: is, d :: ds, ρ => setAll is ds (ρ.set i (some d))
  | _, _, ρ => ρ
def tgW : TGt → Dat → Env' → (Env' → Prop) → Prop
  | .nm i, d, ρ, k => k (ρ.set i (some d))
  | .tp is, .tup ds, ρ, k => ds.length = is.length ∧ k (setAll is ds ρ)
  | .tq i is, .tup [d, .tup ds], ρ, k => ds.length = is.length ∧ k (setAll is ds (ρ.set i (some d)))
  | _, _, _, _ => False
/-- the lists that a loop walks stand as they stood -/
abbrev Gd := List (Addr × List Dat)
def gdOk (G : AG) : Gd → Prop
  | [] => True
  | (a, ds) :: r => G a = some (.lst ds) ∧ gdOk G r
def seqG (x : Dat) (G : AG) (Q : List Dat → Gd → AG → Prop) : Prop :=
  match x with
  | .tup ds => Q ds [] G
  | .lst ds => Q ds [] G
  | .kls ds => Q ds [] G
  | .ref a => ∃ ds, G a = some (.lst ds) ∧ Q ds [(a, ds)] G
  | _ => False
def lstG (x : Dat) (G : AG) (Q : List Dat → Gd → AG → Prop) : Prop :=
  match x with
  | .lst ds => Q ds [] G
  | .ref a => ∃ ds, G a = some (.lst ds) ∧ Q ds [(a, ds)] G
  | _ => False
/-- zip of two lists, of two tuples -/
def zipD : List Dat → List Dat → List Dat
  | x :: xs, y :: ys => .tup [x, y] :: zipD xs ys
  | _, _ => []
def zipG (x y : Dat) (G : AG) (Q : List Dat → Gd → AG → Prop) : Prop :=
  match x, y with
  | .tup xs, .tup ys => Q (zipD xs ys) [] G
  | x, y => lstG x G fun xs gx G1 => lstG y G1 fun ys gy G2 => Q (zipD xs ys) (gx ++ gy) G2
def rngC (lo c : Int) (n : Nat) : List Dat := (List.range n).map fun (i : Nat) => .int (lo + i * c)
def rngD (lo : Int) (n : Nat) : List Dat := (List.range n).map fun (k : Nat) => Dat.int (lo + (k : Int))
def enumD : Nat → List Dat → List Dat
  | _, [] => []
  | k, d :: ds => .tup [.int k, d] :: enumD (k + 1) ds
/-- a comprehension's turns -/
def lcW (z : Bool) (elt : Env' → AG → AQ → Prop) (g : TGt) (own : List Nat) (gd : Gd) (ρ : Env') (Q : AQ) : List Dat → List Dat → AG → Prop
  | [], acc, G => gdOk G gd ∧ if z = true then Q (.lst acc) G else ∀ p, G p = none → Q (.ref p) (gu G p (.lst acc))
  | d :: ds, acc, G => gdOk G gd ∧ tgW g d (wipeD ρ own) fun ρ1 => elt ρ1 G fun y G2 => acc.length < sizeLine ∧ lcW z elt g own gd ρ Q ds (acc ++ [y]) G2
def lcIfW (z : Bool) (tst : Env' → AG → (Bool → AG → Prop) → Prop) (elt : Env' → AG → AQ → Prop) (g : TGt) (own : List Nat) (gd : Gd) (ρ : Env') (Q : AQ) : List Dat → List Dat → AG → Prop
  | [], acc, G => gdOk G gd ∧ if z = true then Q (.lst acc) G else ∀ p, G p = none → Q (.ref p) (gu G p (.lst acc))
  | d :: ds, acc, G => gdOk G gd ∧ tgW g d (wipeD ρ own) fun ρ1 => tst ρ1 G fun b G1 =>
      if b = true then elt ρ1 G1 fun y G2 => acc.length < sizeLine ∧ lcIfW z tst elt g own gd ρ Q ds (acc ++ [y]) G2 else lcIfW z tst elt g own gd ρ Q ds acc G1
def noX : AX := fun _ _ _ => False
mutual
def wE (Γ : Gam) : E → Env' → AG → AQ → AX → Prop
  | .var i, ρ, G, Q, _ => match ρ[i]? with
    | some (some d) => Q d G
    | _ => False
  | .cst d, _, G, Q, _ => Q d G
  | .glo x, _, G, Q, _ => match Γ.gl x with
    | some d => Q d G
    | none => False
  | .bin z o a b, ρ, G, Q, X => wE Γ a ρ G (fun x G1 => wE Γ b ρ G1 (fun y G2 => binW z o x y G2 Q) X) X
  | .neg a, ρ, G, Q, X => wE Γ a ρ G (intK fun i G1 => Q (.int (-i)) G1) X
  | .cmp o a b, ρ, G, Q, X => wE Γ a ρ G (fun x G1 => wE Γ b ρ G1 (fun y G2 => cmpW o x y G2 Q) X) X
  | .cmp2 o o' a b c, ρ, G, Q, X => wE Γ a ρ G (fun x G1 => wE Γ b ρ G1 (fun y G2 => cmpW o x y G2 (boolW fun k G3 =>
      if k = true then wE Γ c ρ G3 (fun z G4 => cmpW o' y z G4 Q) X else Q (.bl false) G3)) X) X
  | .andV a b, ρ, G, Q, X => wE Γ a ρ G (fun x G1 => truW x G1 fun k G2 => if k = true then wE Γ b ρ G2 Q X else Q x G2) X
  | .orV a b, ρ, G, Q, X => wE Γ a ρ G (fun x G1 => truW x G1 fun k G2 => if k = true then Q x G2 else wE Γ b ρ G2 Q X) X
  | .notV a, ρ, G, Q, X => wE Γ a ρ G (fun x G1 => truW x G1 fun k G2 => Q (.bl (!k)) G2) X
  | .ite c a b, ρ, G, Q, X => wT Γ c ρ G (fun k G1 => if k = true then wE Γ a ρ G1 Q X else wE Γ b ρ G1 Q X) X
  | .tup es, ρ, G, Q, X => wEs Γ es ρ G (fun ds G1 => ds.length ≤ sizeLine ∧ Q (.tup ds) G1) X
  | .lst z es, ρ, G, Q, X => wEs Γ es ρ G (fun ds G1 => nw z ds G1 Q) X
  | .ix a b, ρ, G, Q, X => wE Γ a ρ G (fun x G1 => wE Γ b ρ G1 (fun y G2 => ixW x y G2 Q) X) X
  | .slAll z a, ρ, G, Q, X => wE Γ a ρ G (fun x G1 => slW z x none none G1 Q) X
  | .slFrom z a lo, ρ, G, Q, X => wE Γ a ρ G (fun x G1 => wE Γ lo ρ G1 (intK fun i G2 => slW z x (some i) none G2 Q) X) X
  | .slTo z a hi, ρ, G, Q, X => wE Γ a ρ G (fun x G1 => wE Γ hi ρ G1 (intK fun i G2 => slW z x none (some i) G2 Q) X) X
  | .sl z a lo hi, ρ, G, Q, X => wE Γ a ρ G (fun x G1 => wE Γ lo ρ G1 (intK fun i G2 => wE Γ hi ρ G2 (intK fun j G3 => slW z x (some i) (some j) G3 Q) X) X) X
  | .tupR a b, ρ, G, Q, X => wE Γ a ρ G (intK fun m G1 => wE Γ b ρ G1 (intK fun n G2 => L2.RgOk m n ∧ Q (.tup (rngD m (n - m).toNat)) G2) X) X
  | .rev a, ρ, G, Q, X => wE Γ a ρ G (fun x G1 => ∃ ds, lstOf G1 x = some ds ∧ ds.length ≤ sizeLine ∧ Q (.lst ds.reverse) G1) X
  | .revT a, ρ, G, Q, X => wE Γ a ρ G (fun x G1 => ∃ ds, x = .tup ds ∧ Q (.tup ds.reverse) G1) X
  | .call f es, ρ, G, Q, X => match Γ.fn f with
    | some F => (F.ar ≤ es.length + F.dfl.length ∧ es.length ≤ F.ar) ∧ wEs Γ es ρ G (fun ds G1 => F.con (ds ++ F.dfl.drop (es.length + F.dfl.length - F.ar)) G1 Q X) X
    | none => False
  | .blt z f es, ρ, G, Q, X => wEs Γ es ρ G (fun ds G1 => bltW z f ds G1 Q) X
  | .meth m o es, ρ, G, Q, X => wE Γ o ρ G (fun x G1 => (∃ ds, lstOf G1 x = some ds) ∧ wEs Γ es ρ G1 (fun ds G2 => methW m x ds G2 Q) X) X
  | .lc z e g it own, ρ, G, Q, X => wI Γ it ρ G (fun ds gd G1 => lcW z (fun ρ1 G Q => wE Γ e ρ1 G Q noX) g own gd ρ Q ds [] G1) X
  | .lcIf z e g it t own, ρ, G, Q, X => wI Γ it ρ G (fun ds gd G1 => lcIfW z (fun ρ1 G Q => wT Γ t ρ1 G Q noX) (fun ρ1 G Q => wE Γ e ρ1 G Q noX) g own gd ρ Q ds [] G1) X
  | .frz a, ρ, G, Q, X => wE Γ a ρ G (fun x G1 => frzW x G1 Q) X
  | .one a, ρ, G, Q, X => wE Γ a ρ G Q X
  | .att a f, ρ, G, Q, X => wE Γ a ρ G (fun x G1 => attW Γ f x G1 Q) X
  | .mcall C m o es, ρ, G, Q, X => match Γ.ms C m with
    | some F => (F.ar ≤ es.length + 1 + F.dfl.length ∧ es.length + 1 ≤ F.ar) ∧ wE Γ o ρ G (fun x G1 => insW C m x G1 ∧ wEs Γ es ρ G1 (fun ds G2 => F.con (x :: (ds ++ F.dfl.drop (es.length + 1 + F.dfl.length - F.ar))) G2 Q X) X) X
    | none => False
  | .new C es, ρ, G, Q, X => match Γ.mke C with
    | some F => (F.ar ≤ es.length + 1 + F.dfl.length ∧ es.length + 1 ≤ F.ar) ∧ wEs Γ es ρ G (fun ds G1 => ∀ p, G1 p = none → F.con (.ref p :: (ds ++ F.dfl.drop (es.length + 1 + F.dfl.length - F.ar))) (gu G1 p (.ins C [])) (fun d G2 => d = .non ∧ Q (.ref p) G2) X) X
    | none => False
  | .dlit es, ρ, G, Q, X => wEs Γ es ρ G (fun ds G1 => dlitW ds G1 Q) X
  | .dix a b, ρ, G, Q, X => wE Γ a ρ G (fun x G1 => wE Γ b ρ G1 (fun y G2 => dixW x y G2 Q) X) X
  | .dupd a b, ρ, G, Q, X => wE Γ a ρ G (fun x G1 => isDk G1 x ∧ wE Γ b ρ G1 (fun y G2 => dupdW x y G2 Q) X) X
  | .dget1 a b, ρ, G, Q, X => wE Γ a ρ G (fun x G1 => isDk G1 x ∧ wE Γ b ρ G1 (fun y G2 => dgetW x .non y G2 Q) X) X
  | .dget2 a b c, ρ, G, Q, X => wE Γ a ρ G (fun x G1 => isDk G1 x ∧ wE Γ b ρ G1 (fun y G2 => wE Γ c ρ G2 (fun z G3 => dgetW x z y G3 Q) X) X) X
  | .dead, _, _, _, _ => False
  | .gin n x a, ρ, G, Q, X => match Γ.dc x with
    | some kv => wE Γ a ρ G (fun y G1 => ∃ k, keyD y = some k ∧ Q (.bl (negB n (lookD kv k).isSome)) G1) X
    | none => False
  | .gix x a, ρ, G, Q, X => match Γ.dc x with
    | some kv => wE Γ a ρ G (fun y G1 => ∃ k d, keyD y = some k ∧ lookD kv k = some d ∧ Q d G1) X
    | none => False
  | .gget1 x a, ρ, G, Q, X => match Γ.dc x with
    | some kv => wE Γ a ρ G (fun y G1 => ∃ k, keyD y = some k ∧ Q ((lookD kv k).getD .non) G1) X
    | none => False
  | .gget2 x a b, ρ, G, Q, X => match Γ.dc x with
    | some kv => wE Γ a ρ G (fun y G1 => wE Γ b ρ G1 (fun z G2 => ∃ k, keyD y = some k ∧ Q ((lookD kv k).getD z) G2) X) X
    | none => False
  | .callV i es, ρ, G, Q, X => match ρ[i]? with
    | some (some (.gf f)) => (match Γ.fn f with
      | some F => (F.ar ≤ es.length + F.dfl.length ∧ es.length ≤ F.ar) ∧ wEs Γ es ρ G (fun ds G1 => F.con (ds ++ F.dfl.drop (es.length + F.dfl.length - F.ar)) G1 Q X) X
      | none => False)
    | _ => False
  | .din n a b, ρ, G, Q, X => wE Γ a ρ G (fun y G1 => wE Γ b ρ G1 (fun x G2 => ∃ kv k, dkOf G2 x = some kv ∧ keyD y = some k ∧ Q (.bl (negB n (lookD kv k).isSome)) G2) X) X
  | .sin n a b, ρ, G, Q, X => wE Γ a ρ G (fun x G1 => wE Γ b ρ G1 (fun y G2 => ∃ s t, strD x = some s ∧ strD y = some t ∧ Q (.bl (negB n (sIn s t))) G2) X) X
  | .smeth z m o es, ρ, G, Q, X => wE Γ o ρ G (fun x G1 => ∃ s, strD x = some s ∧ wEs Γ es ρ G1 (fun ds G2 => smW z m s ds G2 Q) X) X
  | .six a b, ρ, G, Q, X => wE Γ a ρ G (fun x G1 => wE Γ b ρ G1 (fun y G2 => ∃ s i c, strD x = some s ∧ y = .int i ∧ s.length ≤ sizeLine ∧ L2.atI s.cps.toList i = some c ∧ Q (.str ⟨#[c]⟩) G2) X) X
  | .lam q ls, _, G, Q, _ => ∃ cl, celsOf Γ.cs ls = some cl ∧ Q (.clo q cl) G
  | .pcall ls f es, ρ, G, Q, X => match Γ.fn f with
    | some F => (F.ar ≤ es.length + F.dfl.length ∧ es.length ≤ F.ar) ∧ wEs Γ es ρ G (fun ds G1 => noneG Γ.cs ls G1 → F.con (ds ++ F.dfl.drop (es.length + F.dfl.length - F.ar)) (pubG Γ.cs ρ ls G1) (fun d G2 => Q d (unpG Γ.cs ls G2)) (fun c fs G2 => X c fs (unpG Γ.cs ls G2))) X
    | none => False
  | .pcallV ls i es, ρ, G, Q, X => match ρ[i]? with
    | some (some (.gf f)) => (match Γ.fn f with
      | some F => (F.ar ≤ es.length + F.dfl.length ∧ es.length ≤ F.ar) ∧ wEs Γ es ρ G (fun ds G1 => noneG Γ.cs ls G1 → F.con (ds ++ F.dfl.drop (es.length + F.dfl.length - F.ar)) (pubG Γ.cs ρ ls G1) (fun d G2 => Q d (unpG Γ.cs ls G2)) (fun c fs G2 => X c fs (unpG Γ.cs ls G2))) X
      | none => False)
    | some (some (.clo q cl)) => (match Γ.lam q with
      | some L => es.length = L.ar ∧ wEs Γ es ρ G (fun ds G1 => noneG Γ.cs ls G1 → L.con cl ds (pubG Γ.cs ρ ls G1) (fun d G2 => Q d (unpG Γ.cs ls G2)) (fun c fs G2 => X c fs (unpG Γ.cs ls G2))) X
      | none => False)
    | _ => False
  | .mcd ls m o es, ρ, G, Q, X => wE Γ o ρ G (fun x G1 => ∃ p C fs F, x = .ref p ∧ G1 p = some (.ins C fs) ∧ fs.lookup m = none ∧ Γ.ms C m = some F ∧ (F.ar ≤ es.length + 1 + F.dfl.length ∧ es.length + 1 ≤ F.ar) ∧
      wEs Γ es ρ G1 (fun ds G2 => noneG Γ.cs ls G2 → F.con (x :: (ds ++ F.dfl.drop (es.length + 1 + F.dfl.length - F.ar))) (pubG Γ.cs ρ ls G2) (fun d G3 => Q d (unpG Γ.cs ls G3)) (fun c fs G3 => X c fs (unpG Γ.cs ls G3))) X) X
  | .xnew C es, ρ, G, Q, X => ∃ fl, Γ.xc C = some fl ∧ fl ≠ [] ∧ wEs Γ es ρ G (fun ds G1 => ds.length = fl.length ∧ Q (.exc C fl ds) G1) X
  | .tidx a b, ρ, G, Q, X => wE Γ a ρ G (fun x G1 => (∃ ds, x = .ktp ds) ∧ wE Γ b ρ G1 (fun y G2 => tidxW x y G2 Q) X) X
  | .ktt a, ρ, G, Q, X => wE Γ a ρ G (fun x G1 => kttW x G1 Q) X
  | .or2 a b, ρ, G, Q, X => wE Γ a ρ G Q X ∨ wE Γ b ρ G Q X
  | .kslF a lo, ρ, G, Q, X => wE Γ a ρ G (fun x G1 => wE Γ lo ρ G1 (intK fun i G2 => kslW x i G2 Q) X) X
  | .mnam C m o es ks fs, ρ, G, Q, X => match Γ.mn C m es.length ks with
    | some F => wE Γ o ρ G (fun x G1 => insW C m x G1 ∧ wEs Γ es ρ G1 (fun ds G2 => wEs Γ fs ρ G2 (fun zs G3 => ds.length = es.length ∧ zs.length = ks.length ∧ F.1.con (permL F.2 ((x :: ds) ++ zs ++ F.1.dfl)) G3 Q X) X) X) X
    | none => False
  | .ccall C m es, ρ, G, Q, X => match Γ.cm C m with
    | some F => (F.ar ≤ es.length + F.dfl.length ∧ es.length ≤ F.ar) ∧ wEs Γ es ρ G (fun ds G1 => F.con (ds ++ F.dfl.drop (es.length + F.dfl.length - F.ar)) G1 Q X) X
    | none => False
def wEs (Γ : Gam) : List E → Env' → AG → (List Dat → AG → Prop) → AX → Prop
  | [], _, G, Q, _ => Q [] G
  | e :: es, ρ, G, Q, X => wE Γ e ρ G (fun d G1 => wEs Γ es ρ G1 (fun ds G2 => Q (d :: ds) G2) X) X
def wT (Γ : Gam) : T → Env' → AG → (Bool → AG → Prop) → AX → Prop
  | .and_ a b, ρ, G, Q, X => wT Γ a ρ G (fun k G1 => if k = true then wT Γ b ρ G1 Q X else Q false G1) X
  | .or_ a b, ρ, G, Q, X => wT Γ a ρ G (fun k G1 => if k = true then Q true G1 else wT Γ b ρ G1 Q X) X
  | .not_ a, ρ, G, Q, X => wT Γ a ρ G (fun k G1 => Q (!k) G1) X
  | .ite c a b, ρ, G, Q, X => wT Γ c ρ G (fun k G1 => if k = true then wT Γ a ρ G1 Q X else wT Γ b ρ G1 Q X) X
  | .one a, ρ, G, Q, X => wT Γ a ρ G Q X
  | .cmp o a b, ρ, G, Q, X => wE Γ a ρ G (fun x G1 => wE Γ b ρ G1 (fun y G2 => cmpW o x y G2 (boolW Q)) X) X
  | .cmp2 o o' a b c, ρ, G, Q, X => wE Γ a ρ G (fun x G1 => wE Γ b ρ G1 (fun y G2 => cmpW o x y G2 (boolW fun k G3 =>
      if k = true then wE Γ c ρ G3 (fun z G4 => cmpW o' y z G4 (boolW Q)) X else Q false G3)) X) X
  | .val a, ρ, G, Q, X => wE Γ a ρ G (fun x G1 => truW x G1 Q) X
  | .gin n x a, ρ, G, Q, X => match Γ.dc x with
    | some kv => wE Γ a ρ G (fun y G1 => ∃ k, keyD y = some k ∧ Q (negB n (lookD kv k).isSome) G1) X
    | none => False
  | .din n a b, ρ, G, Q, X => wE Γ a ρ G (fun y G1 => wE Γ b ρ G1 (fun x G2 => ∃ kv k, dkOf G2 x = some kv ∧ keyD y = some k ∧ Q (negB n (lookD kv k).isSome) G2) X) X
  | .sin n a b, ρ, G, Q, X => wE Γ a ρ G (fun x G1 => wE Γ b ρ G1 (fun y G2 => ∃ s t, strD x = some s ∧ strD y = some t ∧ Q (negB n (sIn s t)) G2) X) X
def wI (Γ : Gam) : I → Env' → AG → (List Dat → Gd → AG → Prop) → AX → Prop
  | .gkeys x, _, G, Q, _ => match Γ.dc x with
    | some kv => Q (kv.map fun q => keyDat q.1) [] G
    | none => False
  | .str a, ρ, G, Q, X => wE Γ a ρ G (fun x G1 => ∃ s, strD x = some s ∧ Q (signsD s) [] G1) X
  | .rng1 a, ρ, G, Q, X => wE Γ a ρ G (intK fun n G1 => -(2 ^ 62) ≤ n ∧ n < 2 ^ 62 ∧ Q (rngD 0 n.toNat) [] G1) X
  | .rng2 a b, ρ, G, Q, X => wE Γ a ρ G (intK fun m G1 => wE Γ b ρ G1 (intK fun n G2 => (-(2 ^ 62) ≤ m ∧ m < 2 ^ 62 ∧ -(2 ^ 62) ≤ n ∧ n < 2 ^ 62) ∧ Q (rngD m (n - m).toNat) [] G2) X) X
  | .rng3 a b c, ρ, G, Q, X => wE Γ a ρ G (intK fun i G1 => wE Γ b ρ G1 (intK fun j G2 => wE Γ c ρ G2 (intK fun k G3 => ∃ n, RgC i j k n ∧ Q (rngC i k n) [] G3) X) X) X
  | .seq a, ρ, G, Q, X => wE Γ a ρ G (fun x G1 => seqG x G1 Q) X
  | .zip a b, ρ, G, Q, X => wE Γ a ρ G (fun x G1 => wE Γ b ρ G1 (fun y G2 => zipG x y G2 Q) X) X
  | .enum a, ρ, G, Q, X => wE Γ a ρ G (fun x G1 => seqG x G1 fun xs gx G2 => Q (enumD 0 xs) gx G2) X
end
structure AEnds where
  nx : Env' → AG → Prop
  rt : Dat → AG → Prop
  bk : Env' → AG → Prop := fun _ _ => False
  ct : Env' → AG → Prop := fun _ _ => False
  ex : Env' → AX := fun _ => noX
/-- a loop's turns -/
def forW (body : Env' → AG → AEnds → Prop) (g : TGt) (gd : Gd) (A : AEnds) : List Dat → Env' → AG → Prop
  | [], ρ, G => gdOk G gd ∧ A.nx ρ G
  | d :: ds, ρ, G => gdOk G gd ∧ tgW g d ρ fun ρ1 => body ρ1 G { A with nx := forW body g gd A ds, ct := forW body g gd A ds, bk := A.nx }
/-- o[i] = e -/
def setW : Dat → Dat → Dat → AG → (AG → Prop) → Prop
  | .ref p, .int k, v, G, Q => ∃ ds j, G p = some (.lst ds) ∧ ixN ds.length k = some j ∧ Q (gu G p (.lst (ds.set j v)))
  | _, _, _, _, _ => False
/-- o[a:c] = a list -/
def slsW : Dat → Dat → Int → Int → AG → (AG → Prop) → Prop
  | .ref p, .ref b, a, c, G, Q => ∃ ds es, G p = some (.lst ds) ∧ G b = some (.lst es) ∧ p ≠ b ∧ 0 ≤ a ∧ a ≤ c ∧ a ≤ ds.length ∧ ds.length + es.length ≤ sizeLine ∧ Q (gu G p (.lst (ds.take a.toNat ++ es ++ ds.drop c.toNat)))
  | _, _, _, _, _, _ => False
def augW : BO → Dat → Dat → AG → AQ → Prop
  | .add, .int i, .int j, G, Q => Q (.int (i + j)) G
  | .sub, .int i, .int j, G, Q => Q (.int (i - j)) G
  | _, _, _, _, _ => False
mutual
def heV (Γ : Gam) (C : Str) : HE → List (Str × Dat) → Option Dat
  | .cst d, _ => some d
  | .fld f, fs => if f ∈ (Γ.xc C).getD [] then fs.lookup f else none
  | .tup es, fs => match hesV Γ C es fs with
    | some ds => if ds.length ≤ 1000 then some (.tup ds) else none
    | none => none
  | .fn f, fs => (Γ.hf f).bind fun g => g C fs
  | .isi c a b, fs => if (Tb.exo C && (Γ.xc c).isSome) = true then (match Tb.sub (.inr C) (.inr c) with
    | some true => heV Γ C a fs
    | some false => heV Γ C b fs
    | none => none) else none
def hesV (Γ : Gam) (C : Str) : List HE → List (Str × Dat) → Option (List Dat)
  | [], _ => some []
  | e :: es, fs => match heV Γ C e fs, hesV Γ C es fs with
    | some d, some ds => some (d :: ds)
    | _, _ => none
end
def wipeO : Option Nat → Env' → Env'
  | none, ρ => ρ
  | some i, ρ => ρ.set i none
def hsW (Γ : Gam) (C : Str) : HS → Option Nat → List (Str × Dat) → Env' → AG → AEnds → Prop
  | .set i e, o, fs, ρ, G, A => ∃ d, heV Γ C e fs = some d ∧ A.nx (wipeO o (ρ.set i (some d))) G
  | .ret e, _, fs, _, G, A => ∃ d, heV Γ C e fs = some d ∧ A.rt d G
  | .alt _ _, _, _, _, _, _ => False
/-- a clause's suite, its classes -/
def HS.act : HS → HS
  | .alt _ a => a
  | a => a
def Hd.clss (h : Hd) : List Str := match h.act with
  | .alt c _ => [h.cls, c]
  | _ => [h.cls]
def hdOk (Γ : Gam) (h : Hd) : Prop := match h.act with
  | .alt c _ => (Γ.xc h.cls).isSome = true ∧ (Γ.xc c).isSome = true
  | _ => (Γ.xc h.cls).isSome = true
/-- the clauses, of an exception -/
def hdsW (Γ : Gam) (C : Str) (fs : List (Str × Dat)) (ρ : Env') (G : AG) (A : AEnds) : List Hd → Prop
  | [] => A.ex ρ C fs G
  | h :: r => match h.act with
    | .alt c a => ∃ k j, Tb.xm C h.cls = some k ∧ Tb.xm C c = some j ∧ if (k || j) = true then hsW Γ C a h.slot fs ρ G A else hdsW Γ C fs ρ G A r
    | _ => ∃ k, Tb.xm C h.cls = some k ∧ if k = true then hsW Γ C h.act h.slot fs ρ G A else hdsW Γ C fs ρ G A r
mutual
def wS (Γ : Gam) : S → Env' → AG → AEnds → Prop
  | .set i e, ρ, G, A => wE Γ e ρ G (fun d G1 => A.nx (ρ.set i (some d)) G1) (A.ex ρ)
  | .setTp is e, ρ, G, A => wE Γ e ρ G (fun d G1 => tgW (.tp is) d ρ fun ρ1 => A.nx ρ1 G1) (A.ex ρ)
  | .par2 i j a b, ρ, G, A => wE Γ a ρ G (fun x G1 => wE Γ b ρ G1 (fun y G2 => A.nx ((ρ.set i (some x)).set j (some y)) G2) (A.ex ρ)) (A.ex ρ)
  | .par3 i j k a b c, ρ, G, A => wE Γ a ρ G (fun x G1 => wE Γ b ρ G1 (fun y G2 => wE Γ c ρ G2 (fun z G3 => A.nx (((ρ.set i (some x)).set j (some y)).set k (some z)) G3) (A.ex ρ)) (A.ex ρ)) (A.ex ρ)
  | .expr e, ρ, G, A => wE Γ e ρ G (fun _ G1 => A.nx ρ G1) (A.ex ρ)
  | .ret e, ρ, G, A => wE Γ e ρ G A.rt (A.ex ρ)
  | .retN, _, G, A => A.rt .non G
  | .if_ c a b, ρ, G, A => wT Γ c ρ G (fun k G1 => if k = true then wSs Γ a ρ G1 A else wSs Γ b ρ G1 A) (A.ex ρ)
  | .while_ c b, ρ, G, A => ∃ W : Nat → Env' → AG → Prop, (∃ m, W m ρ G) ∧ ∀ m ρ G, W m ρ G →
      wT Γ c ρ G (fun k G1 => if k = true then wSs Γ b ρ G1 { A with nx := fun ρ' G' => ∃ m', m' < m ∧ W m' ρ' G', ct := fun ρ' G' => ∃ m', m' < m ∧ W m' ρ' G', bk := A.nx } else A.nx ρ G1) (A.ex ρ)
  | .for_ g it b, ρ, G, A => wI Γ it ρ G (fun ds gd G1 => forW (fun ρ G A => wSs Γ b ρ G A) g gd A ds ρ G1) (A.ex ρ)
  | .setSl o lo hi e, ρ, G, A => wE Γ e ρ G (fun v G1 => wE Γ o ρ G1 (fun x G2 => wE Γ lo ρ G2 (intK fun a G3 => wE Γ hi ρ G3 (intK fun c G4 => slsW x v a c G4 fun G5 => A.nx ρ G5) (A.ex ρ)) (A.ex ρ)) (A.ex ρ)) (A.ex ρ)
  | .setIx o i e, ρ, G, A => wE Γ e ρ G (fun v G1 => wE Γ o ρ G1 (fun x G2 => wE Γ i ρ G2 (fun k G3 => setW x k v G3 fun G4 => A.nx ρ G4) (A.ex ρ)) (A.ex ρ)) (A.ex ρ)
  | .setIN o i j e, ρ, G, A => wE Γ e ρ G (fun d G1 => ∃ a b, d = .tup [a, b] ∧ wE Γ o ρ G1 (fun x G2 => wE Γ i ρ G2 (fun k G3 => setW x k a G3 fun G4 => A.nx (ρ.set j (some b)) G4) (A.ex ρ)) (A.ex ρ)) (A.ex ρ)
  | .setAtt o f e, ρ, G, A => wE Γ e ρ G (fun v G1 => wE Γ o ρ G1 (fun x G2 => satW Γ f v x G2 fun G3 => A.nx ρ G3) (A.ex ρ)) (A.ex ρ)
  | .setAt2 o f g e, ρ, G, A => wE Γ e ρ G (fun d G1 => ∃ a b, d = .tup [a, b] ∧ wE Γ o ρ G1 (fun x G2 => satW Γ f a x G2 fun G3 => wE Γ o ρ G3 (fun y G4 => satW Γ g b y G4 fun G5 => A.nx ρ G5) (A.ex ρ)) (A.ex ρ)) (A.ex ρ)
  | .raise C es, ρ, G, A => match es with
    | [] => Γ.xc C = some [] ∧ A.ex ρ C [] G
    | _ => ∃ fl, Γ.xc C = some fl ∧ fl ≠ [] ∧ wEs Γ es ρ G (fun ds G1 => ds.length = fl.length ∧ A.ex ρ C (fl.zip ds).reverse G1) (A.ex ρ)
  | .dset o i e, ρ, G, A => wE Γ e ρ G (fun v G1 => wE Γ o ρ G1 (fun x G2 => wE Γ i ρ G2 (fun k G3 => dsetW x k v G3 fun G4 => A.nx ρ G4) (A.ex ρ)) (A.ex ρ)) (A.ex ρ)
  | .aug i o e, ρ, G, A => match ρ[i]? with
    | some (some x) => wE Γ e ρ G (fun y G1 => augW o x y G1 fun z G2 => A.nx (ρ.set i (some z)) G2) (A.ex ρ)
    | _ => False
  | .pass, ρ, G, A => A.nx ρ G
  | .brk, ρ, G, A => A.bk ρ G
  | .cont, ρ, G, A => A.ct ρ G
  | .dead, _, _, _ => False
  | .sub_, ρ, G, A => ∃ G', Sub G' G ∧ A.nx ρ G'
  | .try_ b hs, ρ, G, A => (∀ h ∈ hs, hdOk Γ h) ∧ wSs Γ b ρ G { A with ex := fun ρ' C fs G' => hdsW Γ C fs ρ' G' A hs }
  | .retP ls e, ρ, G, A => wE Γ e ρ G (fun d G1 => noneG Γ.cs ls G1 → A.rt d (pubG Γ.cs ρ ls G1)) (A.ex ρ)
def wSs (Γ : Gam) : List S → Env' → AG → AEnds → Prop
  | [], ρ, G, A => A.nx ρ G
  | s :: ss, ρ, G, A => wS Γ s ρ G { A with nx := fun ρ' G' => wSs Γ ss ρ' G' A }
end
end Av
set_option Elab.async false
set_option linter.all false
set_option maxRecDepth 100000
set_option maxHeartbeats 4000000
/-! # Av2: how the two heaps go together; the rules by values -/
namespace Av
open PySem PySem.Spec PyProof.Rows L2
variable [Tb]
/-- what is tracked but not told stands (tables may grow), and is not told -/
def Fra (G : AG) (H : Hp) (G' : AG) (H' : Hp) : Prop := ∀ a o, H a = some o → (∀ ps, o ≠ .tbl ps) → G a = none → H' a = some o ∧ G' a = none
section
variable {K : PySem.W.Frag} {G G' G1 G2 : AG} {H H' H1 H2 : Hp} {p : Addr}
theorem Fra.refl : Fra G H G H := fun _ _ h _ n => ⟨h, n⟩
theorem Fra.trans (a : Fra G H G1 H1) (b : Fra G1 H1 G2 H2) : Fra G H G2 H2 := fun c o h t n => let ⟨h1, n1⟩ := a c o h t n; b c o h1 t n1
theorem RelG.noTup (r : RelG K G H) {b : Addr} {xs : List V} (e : H b = some (.tup xs)) : G b = none := by
  cases q : G b with
  | none => rfl
  | some o =>
    obtain ⟨u, z, h1⟩ := (r.g b o q).some
    rw [e] at z
    exact absurd (Option.some.inj z).symm (h1.1 xs)
theorem RelG.noFrz (r : RelG K G H) {b : Addr} {o : Obj} {u : List V} (e : H b = some (.frz o (.lst u))) : G b = none := by
  cases q : G b with
  | none => rfl
  | some w =>
    obtain ⟨v, z, h2⟩ := (r.g b w q).some
    rw [e] at z
    exact absurd (Option.some.inj z).symm (h2.2.1 o u)
theorem RelG.noFzt (r : RelG K G H) {b : Addr} {o : Obj} {u : List V} (e : H b = some (.frz o (.tup u))) : G b = none := by
  cases q : G b with
  | none => rfl
  | some w =>
    obtain ⟨v, z, h2⟩ := (r.g b w q).some
    rw [e] at z
    exact absurd (Option.some.inj z).symm (h2.2.2.2.2 o u)
theorem RelG.noExt (r : RelG K G H) {b : Addr} {φ : Heap → Prop} (e : H b = some (.ext φ)) : G b = none := by
  cases q : G b with
  | none => rfl
  | some w =>
    obtain ⟨v, z, h2⟩ := (r.g b w q).some
    rw [e] at z
    exact absurd (Option.some.inj z).symm (h2.2.2.1 φ)
theorem Fra.stab (f : Fra G H G' H') (r : RelG K G H) : Stab H H' := ⟨fun b xs e => (f b _ e (fun _ z => (by cases z)) (r.noTup e)).1, fun b o u e => (f b _ e (fun _ z => (by cases z)) (r.noFrz e)).1, fun b φ e => (f b _ e (fun _ z => (by cases z)) (r.noExt e)).1, fun b o u e => (f b _ e (fun _ z => (by cases z)) (r.noFzt e)).1⟩
theorem Fra.newT {o : HO} (h : H p = none) : Fra G H G (upd H p o) := fun a u e _ n => ⟨by rw [upd_ne (ne_of_none e h)]; exact e, n⟩
theorem Fra.new {o : HO} {u : AO} (h : H p = none) : Fra G H (gu G p u) (upd H p o) := fun a w e _ n => by
  have d := ne_of_none e h
  exact ⟨by rw [upd_ne d]; exact e, by rw [gu_ne d]; exact n⟩
theorem Fra.set {o : HO} {u v : AO} (e : G p = some u) : Fra G H (gu G p v) (upd H p o) := fun a w q _ n => by
  have d : a ≠ p := fun z => by rw [z, e] at n; cases n
  exact ⟨by rw [upd_ne d]; exact q, by rw [gu_ne d]; exact n⟩
theorem Fra.sub (s : Sub G' G) : Fra G H G' H := fun a o h _ n => ⟨h, s.free n⟩
theorem Fra.free (f : Fra G H G' H') {u : HO} (h : H p = some u) (t : ∀ ps, u ≠ .tbl ps) (n : G p = none) : G' p = none := (f p u h t n).2
end
/-! ### what is wanted behind -/
def PostE (K : PySem.W.Frag) (G : AG) (H : Hp) (Qa : AQ) (Q : VK) : Prop := ∀ d G' v H', Fra G H G' H' → RelG K G' H' → Rep K H' v d → Qa d G' → Q v H'
def RelX (K : PySem.W.Frag) (H : Hp) : Option Addr → List (Str × Dat) → Prop
  | none, fs => fs = []
  | some d, fs => ∃ vf, H d = some (.xd vf) ∧ KRel K H vf fs
def PostX (K : PySem.W.Frag) (G : AG) (H : Hp) (Ea : AX) (W : XK) : Prop := ∀ c fs G' dx H', Fra G H G' H' → RelG K G' H' → RelX K H' dx fs → Ea c fs G' → W (.ref (He.ga K c)) dx H'
section
variable {K : PySem.W.Frag} {G G1 : AG} {H H1 : Hp} {Qa : AQ} {Ea : AX} {Q : VK} {W : XK}
theorem PostE.fra (f : Fra G H G1 H1) (p : PostE K G H Qa Q) : PostE K G1 H1 Qa Q := fun d G' v H' f2 => p d G' v H' (f.trans f2)
theorem PostX.fra (f : Fra G H G1 H1) (p : PostX K G H Ea W) : PostX K G1 H1 Ea W := fun c fs G' dx H' f2 => p c fs G' dx H' (f.trans f2)
end
/-- .. and of a new list that is never written -/
structure PostZ (K : PySem.W.Frag) (G : AG) (H : Hp) (Qa : AQ) (Q : VK) : Prop where
  p : PostE K G H Qa Q
  z : ∀ (G' : AG) (H' : Hp) (ds : List Dat) (vs : List V) (a : Addr), Fra G H G' H' → H' a = none → RelG K G' H' → Reps K H' vs ds → Qa (.lst ds) G' → Q (.ref a) (upd H' a (.lst vs))
/-- the list may be frozen behind the step -/
def Qz (Q : VK) : VK := fun v H => Q v H ∨ ∃ a vs, v = .ref a ∧ H a = some (.lst vs) ∧ ∀ o, Q v (upd H a (.frz o (.lst vs)))
theorem upd_upd {H : Hp} {p : Addr} {o u : HO} : upd (upd H p o) p u = upd H p u := by
  funext b
  by_cases h : b = p
  · subst h; rw [upd_same, upd_same]
  · rw [upd_ne h, upd_ne h, upd_ne h]
theorem postZ {K : PySem.W.Frag} {G : AG} {H : Hp} {Qa : AQ} {Q : VK} (p : PostE K G H Qa Q) : PostZ K G H Qa (Qz Q) := by
  refine ⟨fun d G' v H' f g r q => .inl (p d G' v H' f g r q), fun G' H' ds vs a f ha rg r q => .inr ⟨a, vs, rfl, upd_same, fun o => ?_⟩⟩
  rw [upd_upd]
  exact p (.lst ds) G' (.ref a) _ (f.trans (.newT ha)) (rg.newT ha) (.lst ⟨o, upd_same⟩ (r.mono (.new ha))) q
theorem PostZ.fra {K : PySem.W.Frag} {G G1 : AG} {H H1 : Hp} {Qa : AQ} {Q : VK} (f : Fra G H G1 H1) (p : PostZ K G H Qa Q) : PostZ K G1 H1 Qa Q :=
  ⟨p.p.fra f, fun G' H' ds vs a f2 => p.z G' H' ds vs a (f.trans f2)⟩
/-! ### operators by values -/
def OpA (K : PySem.W.Frag) (r : R2) (rA : Dat → Dat → AG → AQ → Prop) : Prop :=
  ∀ (H : Hp) (x y : V) (d e : Dat) (G : AG) (Qa : AQ) (Q : VK), Rep K H x d → Rep K H y e → RelG K G H → rA d e G Qa → PostZ K G H Qa Q → r x y H Q
theorem rep_newL {K : PySem.W.Frag} {G : AG} {H : Hp} {Qa : AQ} {Q : VK} {ds : List Dat} {vs : List V} (rg : RelG K G H) (r : Reps K H vs ds) {z : Bool} (h : nw z ds G Qa) (p : PostZ K G H Qa Q) : ∀ a, H a = none → Q (.ref a) (upd H a (.lst vs)) := fun a ha => by
  unfold nw at h
  cases z with
  | true =>
    rw [if_pos rfl] at h
    exact p.z G H ds vs a .refl ha rg r h.2
  | false =>
    rw [if_neg (by simp)] at h
    exact p.p (.ref a) (gu G a (.lst ds)) (.ref a) _ (.new ha) (rg.new ha ⟨vs, upd_same, r.mono (.new ha)⟩) (.ref a) (h.2 a (rg.free ha))
theorem nw_len {z : Bool} {ds : List Dat} {G : AG} {Q : AQ} (h : nw z ds G Q) : ds.length ≤ sizeLine := by
  unfold nw at h
  cases z with
  | true => exact (by rw [if_pos rfl] at h; exact h.1)
  | false => exact (by rw [if_neg (by simp)] at h; exact h.1)
/-- a list that is read -/
theorem lstOf_rd {K : PySem.W.Frag} {G : AG} {H : Hp} {x : V} {d : Dat} {ds : List Dat} (rg : RelG K G H) (r : Rep K H x d) (e : lstOf G d = some ds) : ∃ a vs, x = .ref a ∧ Rd H a (.lst vs) ∧ Reps K H vs ds := by
  cases d with
  | lst es =>
    cases e
    cases r with
    | lst h q => obtain ⟨o, h⟩ := h; exact ⟨_, _, rfl, .inr ⟨o, h⟩, q⟩
  | ref a =>
    cases r
    cases q : G a with
    | none => simp only [lstOf, q] at e; cases e
    | some o =>
      simp only [lstOf, q] at e
      cases o with
      | lst es =>
        cases e
        obtain ⟨vs, h, r⟩ := rg.lst q
        exact ⟨a, vs, rfl, .inl h, r⟩
      | _ => cases e
  | _ => cases e
theorem seqOf_rd {K : PySem.W.Frag} {G : AG} {H : Hp} {x : V} {d : Dat} {ds : List Dat} (rg : RelG K G H) (r : Rep K H x d) (e : seqOf G d = some ds) : ∃ a vs, x = .ref a ∧ (SqL K H a vs ∨ SqT K H a vs) ∧ Reps K H vs ds := by
  cases d with
  | tup es =>
    cases e
    cases r with
    | tup h q => exact ⟨_, _, rfl, .inr h.sq, q⟩
  | kls es =>
    cases e
    cases r with
    | kls h q => exact ⟨_, _, rfl, .inl h.sq, q⟩
  | lst es =>
    obtain ⟨a, vs, h1, h2, h3⟩ := lstOf_rd rg r e
    exact ⟨a, vs, h1, .inl (.inl h2), h3⟩
  | ref a =>
    obtain ⟨a, vs, h1, h2, h3⟩ := lstOf_rd rg r e
    exact ⟨a, vs, h1, .inl (.inl h2), h3⟩
  | ktp l =>
    cases e
    cases r with
    | ktp h h2 =>
      obtain ⟨o, h, _⟩ := h
      exact ⟨_, _, rfl, .inr (.inl (.inr ⟨o, h⟩)), h2⟩
  | _ => cases e
/-- the object of a list that is read -/
theorem lstRd {X : Cx} {pins : List (Addr × Obj)} {σ : L2.St} {H : Hp} {s : Shared} {l : Addr} {xs : List V} (I : Inv X pins σ H s) (h : Rd H l (.lst xs)) :
    xs.length ≤ sizeLine ∧ ∃ (its : List Value) (n : Nat), Vals xs its ∧ xs.length = its.length ∧ s.heap.get? l = some { cls := .type "list", data := .seq its.toArray n } := by
  obtain ⟨z, its, n, r, e⟩ := h.ok I.hok
  exact ⟨z, its, n, r, r.length, e⟩
/-- list + list, both read -/
def rCatR : R2 := fun x y H Q => ∃ l b xs zs, x = .ref l ∧ y = .ref b ∧ Rd H l (.lst xs) ∧ Rd H b (.lst zs) ∧ xs.length + zs.length ≤ sizeLine ∧ ∀ p, H p = none → Q (.ref p) (upd H p (.lst (xs ++ zs)))
theorem op_catR {X : Cx} : OpR X (binaryOp .Add) rCatR := by
  intro pins s σ H x y v u Q I rx ry h
  obtain ⟨l, b, xs, zs, rfl, rfl, hl, hb, hz, q⟩ := h
  cases rx
  cases ry
  obtain ⟨_, i1, n1, r1, l1, e1⟩ := lstRd I hl
  obtain ⟨_, i2, n2, r2, l2, e2⟩ := lstRd I hb
  refine PySem.P.add_list e1 e2 ?_ (by simp only [List.size_toArray]; omega)
  rw [show i1.toArray ++ i2.toArray = (i1 ++ i2).toArray by simp]
  exact ⟨.ref _, _, I.lnew (t' := s.toks) (r1.append r2) (by simp only [List.length_append]; omega), rfl, q _ I.fresh⟩
/-- tuple + tuple -/
def rCatTup (K : PySem.W.Frag) : R2 := fun x y H Q => ∃ a b xs ys, x = .ref a ∧ y = .ref b ∧ SqT K H a xs ∧ SqT K H b ys ∧ xs.length + ys.length ≤ sizeLine ∧ (xs = [] → Q (.ref b) H) ∧ (xs ≠ [] → ys = [] → Q (.ref a) H) ∧ (xs ≠ [] → ys ≠ [] → ∀ p, H p = none → Q (.ref p) (upd H p (.tup (xs ++ ys))))
theorem cat_nil {prog : Program} {w : World} {A : Around} {E : Value → Shared → Prop} {s : Shared} {t b : Addr} {ws : List Value} {Q : Value → Shared → Prop} (ht : IsTup s.heap t ([] : List Value).toArray) (hb : IsTup s.heap b ws.toArray) (h : Q (.ref b) s) :
    wpAny (model prog w) A (binaryOp .Add (.ref t) (.ref b)) Q E s := by
  obtain ⟨⟨c1, d1, t1, l1⟩, e1, hc1, n1, hd1⟩ := id ht
  obtain ⟨⟨c2, d2, t2, l2⟩, e2, hc2, n2, hd2⟩ := id hb
  cases (show c1 = .type "tuple" from hc1)
  cases (show c2 = .type "tuple" from hc2)
  cases (show t1 = .seq _ n1 from hd1)
  cases (show t2 = .seq _ n2 from hd2)
  exact concat_meets ⟨_, e1, rfl⟩ ⟨_, e2, rfl⟩ noFill_tuple_add seq_tuple_add PySem.F.slot_tuple_add PySem.F.entry_tuple_add (PySem.F.args_tuple_add_2 _ _)
    (tuple_addW0 t b _ ws.toArray n1 n2 d1 d2 l1 l2 (by simp)) ⟨e1, e2, h⟩
theorem op_catTup {X : Cx} : OpR X (binaryOp .Add) (rCatTup X.K) := by
  intro pins s σ H x y v u Q I rx ry h
  obtain ⟨a, b, xs, ys, rfl, rfl, ha, hb, hz, q0, q1, q2⟩ := h
  cases rx
  cases ry
  obtain ⟨i1, r1, t1, _⟩ := I.tuple ha
  obtain ⟨i2, r2, t2, _⟩ := I.tuple hb
  have l1 := r1.length
  have l2 := r2.length
  by_cases hx : xs = []
  · subst hx
    cases r1
    exact cat_nil t1 t2 ⟨.ref b, H, I, rfl, q0 rfl⟩
  · refine HT.cat_tup t1 t2 (fun z => hx (r1.nil_iff.mp z)) (fun z => ⟨.ref a, H, I, rfl, q1 hx (r2.nil_iff.mp z)⟩) (fun z => ?_) (by omega)
    exact ⟨.ref _, _, I.laid (t' := s.toks) (o := .tup (xs ++ ys)) (fun _ _ z => Heap.get?_push_of_some _ z) (Nat.le_refl _) ⟨by rw [List.length_append]; exact hz, _, r1.append r2, _, Heap.get?_push_size _ rfl, rfl, 0, rfl⟩, rfl,
      q2 hx (fun e => z (r2.nil_iff.mpr e)) _ I.fresh⟩
theorem tuple_mulSame (l : Addr) (items : Array Value) (n : Nat) (dd : Option Addr) (sl : Array (Option Value)) (x : Int) (u : Tok) (c0 : (decide (x < -(2 ^ 63)) || decide (x ≥ 2 ^ 63)) = false) (c1 : (items.isEmpty || x == 1) = true) :
    Meets (Builtin.«tuple.__mul__» ⟨[.ref l, .int x u], []⟩) (fun _ R s => s.heap.get? l = some { cls := .type "tuple", dict := dd, data := .seq items n, slots := sl } ∧
      R (.ok (.ret (Value.ref l))) s) :=
  .of_wp fun prog w A R s h => by
    obtain ⟨hp, g, d, tk, os⟩ := s
    obtain ⟨hl, h⟩ := h
    have f1 := AutoSeq1.idx_int
    wp_walk using wpAny_loadPart' hl
    repeat (first
      | (refine wpAny_ite_false (decide_eq_false (by rw [c0]; exact Bool.false_ne_true)) ?_; wp_walk using wpAny_loadPart' hl)
      | (refine wpAny_ite_true (decide_eq_true c1) ?_; wp_walk using wpAny_loadPart' hl))
    all_goals first | exact ⟨_, rfl, h⟩ | exact h
theorem tuple_mulNil (l : Addr) (items : Array Value) (n : Nat) (dd : Option Addr) (sl : Array (Option Value)) (x : Int) (u : Tok) (c0 : (decide (x < -(2 ^ 63)) || decide (x ≥ 2 ^ 63)) = false) (c1 : (items.isEmpty || x == 1) = false) (c2 : (decide (x ≤ 0) || items.isEmpty) = true) :
    Meets (Builtin.«tuple.__mul__» ⟨[.ref l, .int x u], []⟩) (fun _ R s => s.heap.get? l = some { cls := .type "tuple", dict := dd, data := .seq items n, slots := sl } ∧
      R (.ok (.ret (Value.ref s.heap.objs.size))) { s with heap := s.heap.push { cls := Value.type "tuple", data := Data.seq #[] }, toks := s.toks }) :=
  .of_wp fun prog w A R s h => by
    obtain ⟨hp, g, d, tk, os⟩ := s
    obtain ⟨hl, h⟩ := h
    have f1 := AutoSeq1.idx_int
    wp_walk using wpAny_loadPart' hl
    repeat (first
      | (refine wpAny_ite_false (decide_eq_false (by rw [c0]; exact Bool.false_ne_true)) ?_; wp_walk using wpAny_loadPart' hl)
      | (refine wpAny_ite_false (decide_eq_false (by rw [c1]; exact Bool.false_ne_true)) ?_; wp_walk using wpAny_loadPart' hl)
      | (refine wpAny_ite_true (decide_eq_true c2) ?_; wp_walk using wpAny_loadPart' hl))
    all_goals first | exact ⟨_, rfl, h⟩ | exact h
/-- tuple * int -/
def rRepTup (K : PySem.W.Frag) : R2 := fun x y H Q => ∃ l k xs, x = .ref l ∧ y = .int k ∧ SqT K H l xs ∧ -(2 ^ 63) ≤ k ∧ k < 2 ^ 63 ∧ xs.length * k.toNat ≤ 100000 ∧ ((xs = [] ∨ k = 1) → Q (.ref l) H) ∧ (xs ≠ [] → k ≠ 1 → ∀ p, H p = none → Q (.ref p) (upd H p (.tup (List.replicate k.toNat xs).flatten)))
theorem op_repTup {X : Cx} : OpR X (binaryOp .Mult) (rRepTup X.K) := by
  intro pins s σ H x y v u Q I rx ry h
  obtain ⟨l, k, xs, rfl, rfl, hT, h1, h2, hz, q1, q2⟩ := h
  cases rx
  obtain ⟨t, rfl⟩ := ry
  obtain ⟨its, r, ⟨⟨cls, dd, data, sl⟩, ho, hc, n, hd⟩, hs⟩ := I.tuple hT
  simp only at hc hd
  subst hc hd
  have hle : its.length = xs.length := r.length.symm
  have hsz0 : its.toArray.size = xs.length := by rw [List.size_toArray, hle]
  have c0 : (decide (k < -(2 ^ 63)) || decide (k ≥ 2 ^ 63)) = false := by
    rw [decide_eq_false (by omega), decide_eq_false (by omega)] <;> rfl
  by_cases hs1 : xs = [] ∨ k = 1
  · have c1 : (its.toArray.isEmpty || k == 1) = true := by
      rcases hs1 with e | e
      · subst e
        have : its = [] := List.eq_nil_of_length_eq_zero (by rw [hle]; rfl)
        subst this
        rfl
      · subst e; simp
    exact wpAny_binaryOp_repeat_ref (T := "tuple") (U := "int") (by decide) ⟨_, ho, rfl⟩ (fun s' => typeIs_int s' k t) noFill_tuple_mul F.fills_int_mul F.slot_int_rmul repeat_tuple F.slot_int_index.lookup
      (call_meets F.slot_int_rmul (typeIs_int s k t) F.entry_int_rmul (F.args_int_rmul_2 _ _) (int_rmul_tuple k t l its.toArray n dd sl)
        ⟨ho, rfl, ⟨_, ho, rfl⟩, call_meets F.slot_tuple_mul ⟨_, ho, rfl⟩ F.entry_tuple_mul (F.args_tuple_mul_2 _ _) (tuple_mulSame l its.toArray n dd sl k t c0 c1) ⟨ho, ⟨.ref l, H, I, rfl, q1 hs1⟩⟩⟩)
  · have hne : xs ≠ [] := fun e => hs1 (.inl e)
    have hk1 : k ≠ 1 := fun e => hs1 (.inr e)
    have hn : its ≠ [] := fun e => hne (by
      rw [e] at hle
      exact List.eq_nil_of_length_eq_zero hle.symm)
    have hi : its.toArray.isEmpty = false := by
      cases its with
      | nil => exact absurd rfl hn
      | cons a b => rfl
    have c1 : (its.toArray.isEmpty || k == 1) = false := by
      rw [hi, Bool.false_or]
      exact beq_eq_false_iff_ne.mpr (by omega)
    by_cases hk0 : k ≤ 0
    · have c2 : (decide (k ≤ 0) || its.toArray.isEmpty) = true := by rw [decide_eq_true hk0]; rfl
      have e0 : (List.replicate k.toNat xs).flatten = [] := by
        have : k.toNat = 0 := by omega
        rw [this]; rfl
      rw [e0] at q2
      refine wpAny_binaryOp_repeat_ref (T := "tuple") (U := "int") (by decide) ⟨_, ho, rfl⟩ (fun s' => typeIs_int s' k t) noFill_tuple_mul F.fills_int_mul F.slot_int_rmul repeat_tuple F.slot_int_index.lookup
        (call_meets F.slot_int_rmul (typeIs_int s k t) F.entry_int_rmul (F.args_int_rmul_2 _ _) (int_rmul_tuple k t l its.toArray n dd sl)
          ⟨ho, rfl, ⟨_, ho, rfl⟩, call_meets F.slot_tuple_mul ⟨_, ho, rfl⟩ F.entry_tuple_mul (F.args_tuple_mul_2 _ _) (tuple_mulNil l its.toArray n dd sl k t c0 c1 c2) ⟨ho, ?_⟩⟩)
      refine ⟨.ref s.heap.objs.size, _, I.laid (t' := s.toks) (o := .tup []) (fun b ob q => Heap.get?_push_of_some _ q) (Nat.le_refl _) ?_, rfl, q2 hne hk1 _ (I.hok.fresh (Nat.le_refl _))⟩
      exact ⟨Nat.zero_le _, _, .nil, IsTup.new _ _⟩
    · have hm : ((its.toArray.size : Nat) : Int) * k = ((xs.length * k.toNat : Nat) : Int) := by
        rw [hsz0, Int.natCast_mul, Int.toNat_of_nonneg (by omega)]
      have big : 100000 ≤ sizeLine := by decide
      have flen : (List.replicate k.toNat its).flatten.length ≤ sizeLine := by
        rw [PyProof.Rows.lm_len_rep_flat, hle, Nat.mul_comm]
        omega
      have c2 : (decide (k ≤ 0) || its.toArray.isEmpty) = false := by
        rw [hi, Bool.or_false]
        exact decide_eq_false hk0
      have c4 : Builtin.Tuple.tupleTooMany (((its.toArray.size : Nat) : Int) * k) = false := by
        unfold Builtin.Tuple.tupleTooMany
        rw [sizeLine_eq, hm]
        exact decide_eq_false (by omega)
      refine wpAny_binaryOp_repeat_ref (T := "tuple") (U := "int") (by decide) ⟨_, ho, rfl⟩ (fun s' => typeIs_int s' k t) noFill_tuple_mul F.fills_int_mul F.slot_int_rmul repeat_tuple F.slot_int_index.lookup
        (call_meets F.slot_int_rmul (typeIs_int s k t) F.entry_int_rmul (F.args_int_rmul_2 _ _) (int_rmul_tuple k t l its.toArray n dd sl)
          ⟨ho, rfl, ⟨_, ho, rfl⟩, call_meets F.slot_tuple_mul ⟨_, ho, rfl⟩ F.entry_tuple_mul (F.args_tuple_mul_2 _ _) (tuple_mulW l its.toArray n dd sl k t c0 c1 c2 (by rw [hm]; omega) c4 (by rw [size_rep, List.size_toArray]; exact flen)) ⟨ho, ?_⟩⟩)
      rw [size_rep]
      refine ⟨.ref s.heap.objs.size, _, I.laid (t' := s.toks) (o := .tup (List.replicate k.toNat xs).flatten) (fun b ob q => Heap.get?_push_of_some _ q) (Nat.le_refl _) ?_, rfl, q2 hne hk1 _ (I.hok.fresh (Nat.le_refl _))⟩
      exact ⟨by rw [PyProof.Rows.lm_len_rep_flat, Nat.mul_comm]; omega, _, r.rep k.toNat, IsTup.new _ _⟩
/-- tuple + tuple, neither empty: the object is known -/
def rKadd (K : PySem.W.Frag) : R2 := fun x y H Q => ∃ a b xs ys, x = .ref a ∧ y = .ref b ∧ SqT K H a xs ∧ SqT K H b ys ∧ xs.length + ys.length ≤ sizeLine ∧ xs ≠ [] ∧ ys ≠ [] ∧ ∀ p o, H p = none → o.dict = none → Q (.ref p) (upd H p (.frz o (.tup (xs ++ ys))))
theorem op_kadd {X : Cx} : OpR X (binaryOp .Add) (rKadd X.K) := by
  intro pins s σ H x y v u Q I rx ry h
  obtain ⟨a, b, xs, ys, rfl, rfl, ha, hb, hz, hx, hy, q⟩ := h
  cases rx
  cases ry
  obtain ⟨i1, r1, t1, _⟩ := I.tuple ha
  obtain ⟨i2, r2, t2, _⟩ := I.tuple hb
  have l1 := r1.length
  have l2 := r2.length
  refine HT.cat_tup t1 t2 (fun z => hx (r1.nil_iff.mp z)) (fun z => absurd (r2.nil_iff.mp z) hy) (fun z => ?_) (by omega)
  exact ⟨.ref _, _, I.laid (t' := s.toks) (o := .frz { cls := .type "tuple", data := .seq (i1 ++ i2).toArray } (.tup (xs ++ ys))) (fun _ _ z => Heap.get?_push_of_some _ z) (Nat.le_refl _) ⟨Heap.get?_push_size _ rfl, by rw [List.length_append]; exact hz, _, r1.append r2, _, Heap.get?_push_size _ rfl, rfl, 0, rfl⟩, rfl,
      q _ _ I.fresh rfl⟩
/-! ### values -/
section
variable {K : PySem.W.Frag} {H : Hp} {x : V}
theorem rep_i {i : Int} (r : Rep K H x (.int i)) : x = .int i := by cases r; rfl
theorem rep_s {i : Str} (r : Rep K H x (.str i)) : x = .str i := by cases r; rfl
theorem rep_b {i : Bool} (r : Rep K H x (.bl i)) : x = .bl i := by cases r; rfl
theorem rep_n (r : Rep K H x .non) : x = .non := by cases r; rfl
theorem rep_r {a : Addr} (r : Rep K H x (.ref a)) : x = .ref a := by cases r; rfl
theorem rep_ty {n : String} (r : Rep K H x (.ty n)) : x = .ty n := by cases r; rfl
theorem rep_t {ds : List Dat} (r : Rep K H x (.tup ds)) : ∃ a vs, x = .ref a ∧ TpAt K H a vs ∧ Reps K H vs ds := by
  cases r with
  | tup h q => exact ⟨_, _, rfl, h, q⟩
end
theorem PostE.val {K : PySem.W.Frag} {G : AG} {H : Hp} {Qa : AQ} {Q : VK} (p : PostE K G H Qa Q) (rg : RelG K G H) {v : V} {d : Dat} (r : Rep K H v d) (q : Qa d G) : Q v H := p d G v H .refl rg r q
/-- a new tuple -/
theorem PostE.newT {K : PySem.W.Frag} {G : AG} {H : Hp} {Qa : AQ} {Q : VK} (p : PostE K G H Qa Q) (rg : RelG K G H) {vs : List V} {ds : List Dat} (r : Reps K H vs ds) (q : Qa (.tup ds) G) : ∀ a, H a = none → Q (.ref a) (upd H a (.tup vs)) := fun a ha =>
  p (.tup ds) G (.ref a) _ (.newT ha) (rg.newT ha) (.tup (.inl upd_same) (r.mono (.new ha))) q
theorem PostZ.val {K : PySem.W.Frag} {G : AG} {H : Hp} {Qa : AQ} {Q : VK} (p : PostZ K G H Qa Q) (rg : RelG K G H) {v : V} {d : Dat} (r : Rep K H v d) (q : Qa d G) : Q v H := p.p.val rg r q
theorem PostZ.newT {K : PySem.W.Frag} {G : AG} {H : Hp} {Qa : AQ} {Q : VK} (p : PostZ K G H Qa Q) (rg : RelG K G H) {vs : List V} {ds : List Dat} (r : Reps K H vs ds) (q : Qa (.tup ds) G) : ∀ a, H a = none → Q (.ref a) (upd H a (.tup vs)) := p.p.newT rg r q
/-! ### binary operators -/
def BO.op : BO → Operator
  | .add => .Add | .sub => .Sub | .mul => .Mult | .fdiv => .FloorDiv | .mod => .Mod | .pow => .Pow | .shl => .LShift | .shr => .RShift | .band => .BitAnd | .kadd => .Add
theorem cutNil {ds : List Dat} {vs : List V} {K : PySem.W.Frag} {H : Hp} (r : Reps K H vs ds) : vs = [] ↔ ds = [] := by
  have e := r.length
  cases vs <;> cases ds <;> simp_all
theorem add_tups {K : PySem.W.Frag} {G : AG} {H : Hp} {Qa : AQ} {Q : VK} {x y : V} {a b : List Dat} (rx : Rep K H x (.tup a)) (ry : Rep K H y (.tup b)) (rg : RelG K G H) (hz : a.length + b.length ≤ sizeLine) (q : Qa (.tup (a ++ b)) G) (p : PostZ K G H Qa Q) : rCatTup K x y H Q := by
  obtain ⟨l, xs, rfl, h1, r1⟩ := rep_t rx
  obtain ⟨m, ys, rfl, h2, r2⟩ := rep_t ry
  refine ⟨l, m, xs, ys, rfl, rfl, h1.sq, h2.sq, by rw [r1.length, r2.length]; exact hz, fun e => ?_, fun _ e => ?_, fun _ _ => p.newT rg (r1.append r2) q⟩
  · have e1 := (cutNil r1).mp e
    subst e1
    exact p.val rg ry q
  · have e1 := (cutNil r2).mp e
    subst e1
    rw [List.append_nil] at q
    exact p.val rg rx q
def rAddA (K : PySem.W.Frag) : R2 := fun x y H Q => rI0 (fun i j => .int (i + j)) x y H Q ∨ (∃ i j, x = .str i ∧ y = .str j ∧ i.length + j.length ≤ sizeLine ∧ Q (.str (i ++ j)) H) ∨ rCatTup K x y H Q ∨ rCatR x y H Q
theorem rAddA_ok {X : Cx} : OpR X (binaryOp .Add) (rAddA X.K) := op_add.or (op_add_str.or (op_catTup.or op_catR))
theorem add_lsts {K : PySem.W.Frag} {G : AG} {H : Hp} {Qa : AQ} {Q : VK} {x y : V} {d e : Dat} {z : Bool} (rx : Rep K H x d) (ry : Rep K H y e) (rg : RelG K G H) (h : ∃ a b, lstOf G d = some a ∧ lstOf G e = some b ∧ nw z (a ++ b) G Qa) (p : PostZ K G H Qa Q) : rCatR x y H Q := by
  obtain ⟨a, b, h1, h2, h3⟩ := h
  obtain ⟨l, vs, rfl, k1, r1⟩ := lstOf_rd rg rx h1
  obtain ⟨m, ws, rfl, k2, r2⟩ := lstOf_rd rg ry h2
  have hz := nw_len h3
  rw [List.length_append] at hz
  exact ⟨l, m, vs, ws, rfl, rfl, k1, k2, by rw [r1.length, r2.length]; exact hz, rep_newL rg (r1.append r2) h3 p⟩
theorem opA_add {K : PySem.W.Frag} {z : Bool} : OpA K (rAddA K) (binW z .add) := by
  intro H x y d e G Qa Q rx ry rg h p
  have no : ∀ {a b : List Dat}, lstOf G d = some a → lstOf G e = some b → nw z (a ++ b) G Qa → rAddA K x y H Q := fun h1 h2 h3 => .inr (.inr (.inr (add_lsts rx ry rg ⟨_, _, h1, h2, h3⟩ p)))
  cases d with
  | int i =>
    cases e with
    | int j => cases rep_i rx; cases rep_i ry; exact .inl ⟨i, j, rfl, rfl, p.val rg (.int _) h⟩
    | _ => obtain ⟨a, b, h1, h2, h3⟩ := h; exact no h1 h2 h3
  | str i =>
    cases e with
    | str j => cases rep_s rx; cases rep_s ry; exact .inr (.inl ⟨i, j, rfl, rfl, h.1, p.val rg (.str _) h.2⟩)
    | _ => obtain ⟨a, b, h1, h2, h3⟩ := h; exact no h1 h2 h3
  | tup i =>
    cases e with
    | tup j => exact .inr (.inr (.inl (add_tups rx ry rg h.1 h.2 p)))
    | _ => obtain ⟨a, b, h1, h2, h3⟩ := h; exact no h1 h2 h3
  | _ => obtain ⟨a, b, h1, h2, h3⟩ := h; exact no h1 h2 h3
theorem opA_kadd {K : PySem.W.Frag} {z : Bool} : OpA K (rKadd K) (binW z .kadd) := by
  intro H x y d e G Qa Q rx ry rg h p
  cases d with
  | tup a =>
    cases e with
    | tup b =>
      obtain ⟨l, xs, rfl, h1, r1⟩ := rep_t rx
      obtain ⟨m, ys, rfl, h2, r2⟩ := rep_t ry
      exact ⟨l, m, xs, ys, rfl, rfl, h1.sq, h2.sq, by rw [r1.length, r2.length]; exact h.1.2, fun e => h.1.1.1 ((cutNil r1).mp e), fun e => h.1.1.2 ((cutNil r2).mp e), fun q o hq ho => p.1 _ G _ _ (.newT hq) (rg.newT hq) (.ktp ⟨o, upd_same, ho⟩ ((r1.append r2).mono (.new hq))) h.2⟩
    | _ => exact False.elim h
  | _ => cases e <;> exact False.elim h
/-- list * int, read -/
def rRepR : R2 := fun x y H Q => ∃ l k xs, x = .ref l ∧ y = .int k ∧ Rd H l (.lst xs) ∧ -(2 ^ 63) ≤ k ∧ k < 2 ^ 63 ∧ xs.length * k.toNat ≤ sizeLine ∧ ∀ p, H p = none → Q (.ref p) (upd H p (.lst (List.replicate k.toNat xs).flatten))
theorem op_repR {X : Cx} : OpR X (binaryOp .Mult) rRepR := by
  intro pins s σ H x y v u Q I rx ry h
  obtain ⟨l, k, xs, rfl, rfl, hl, h1, h2, hz, q⟩ := h
  cases rx
  obtain ⟨t, rfl⟩ := ry
  obtain ⟨z, its, n, r, el, e⟩ := lstRd I hl
  have a1 : its.toArray.size * k.toNat ≤ sizeLine := by simp only [List.size_toArray]; rw [← el]; exact hz
  have a2 : ¬ its.toArray.size * k.toNat > (2 ^ 63 - 1) / 8 := by
    have b : (sizeLine : Nat) ≤ (2 ^ 63 - 1) / 8 := by decide
    omega
  have a3 : ¬ (!Builtin.List.listFitsIndex k) = true := by
    rw [fitsIndex_both h1 h2]
    simp
  have a4 : ¬ Builtin.List.listTooLong (its.toArray.size * k.toNat) = true := by
    rw [notLongL a1]
    simp
  have a5 : List.foldl (fun x1 x2 => x1 ++ x2) #[] (List.replicate (if its.toArray.isEmpty = true then 0 else k.toNat) its.toArray) = (List.replicate k.toNat its).flatten.toArray := by
    have f0 : ∀ m : Nat, List.foldl (fun x1 x2 => x1 ++ x2) #[] (List.replicate m its.toArray) = (List.replicate m its).flatten.toArray := fun m => by
      have b := foldl_rep its m []
      rw [List.nil_append] at b
      exact b
    rw [f0]
    cases its with
    | nil => simp
    | cons a q => rw [if_neg (by simp)]
  refine wpAny_binaryOp_repeat_ref (T := "list") (U := "int") (by decide) ⟨_, e, rfl⟩ (fun s' => typeIs_int s' k t) noFill_list_mul F.fills_int_mul F.slot_int_rmul repeat_list F.slot_int_index.lookup
    (call_meets F.slot_int_rmul (typeIs_int s k t) F.entry_int_rmul (F.args_int_rmul_2 _ _) (int___rmul___int_list k t l its.toArray n)
      ⟨e, rfl, ⟨_, e, rfl⟩, call_meets F.slot_list_mul ⟨_, e, rfl⟩ F.entry_list_mul (F.args_list_mul_2 _ _) (AutoListH.list___mul___list_int_3 l its.toArray n k t a3 a2 a4) ⟨e, ?_⟩⟩)
  rw [a5]
  exact ⟨.ref _, _, I.lnew (t' := s.toks) (r.rep k.toNat) (by rw [PyProof.Rows.lm_len_rep_flat, Nat.mul_comm]; exact hz), rfl, q _ I.fresh⟩
/-- a text, at most once -/
def rMulS : R2 := fun x y H Q => ∃ a k, x = .str a ∧ y = .int k ∧ -(2 ^ 63) ≤ k ∧ k ≤ 1 ∧ Q (.str (if k < 1 then Str.empty else a)) H
theorem op_mulS {X : Cx} : OpR X (binaryOp .Mult) rMulS := by
  intro pins s σ H x y v u Q I rx ry ⟨a, k, e1, e2, h1, h2, q⟩
  subst e1 e2
  obtain ⟨t, rfl⟩ := rx
  obtain ⟨t', rfl⟩ := ry
  have n1 : ¬ k < -(2 ^ 63) := by omega
  have n2 : ¬ k ≥ 2 ^ 63 := by omega
  have one : ¬ k < 1 → k = 1 := fun z => by omega
  refine PySem.P.mul_str (by rw [decide_eq_false n1, decide_eq_false n2]; rfl) (fun z e => ?_) (fun z e => ?_) ?_
  · rw [one z] at e; cases e
  · rw [one z] at e; cases e
  · by_cases h : k < 1
    · rw [if_pos h] at q ⊢
      exact ⟨by decide, .str Str.empty, H, I.tok _, ⟨_, rfl⟩, q⟩
    · rw [if_neg h] at q ⊢
      rw [one h]
      exact ⟨.str a, H, I.tok _, ⟨_, rfl⟩, q⟩
def rMulA (K : PySem.W.Frag) : R2 := fun x y H Q => rI CMul (fun i j => .int (i * j)) x y H Q ∨ rRepR x y H Q ∨ rMulS x y H Q ∨ rRepTup K x y H Q
theorem rMulA_ok {X : Cx} : OpR X (binaryOp .Mult) (rMulA X.K) := op_mul.or (op_repR.or (op_mulS.or op_repTup))
theorem len_rep {α : Type} (n : Nat) (l : List α) : (List.replicate n l).flatten.length = l.length * n := by
  simp [List.length_flatten, Nat.mul_comm]
theorem opA_mul {K : PySem.W.Frag} {z : Bool} : OpA K (rMulA K) (binW z .mul) := by
  intro H x y d e G Qa Q rx ry rg h p
  have no : ∀ {k : Int}, e = .int k → (∃ a, lstOf G d = some a ∧ -(2 ^ 63) ≤ k ∧ k < 2 ^ 63 ∧ nw z (List.replicate k.toNat a).flatten G Qa) → rMulA K x y H Q := fun {k} he hq => by
    subst he
    obtain ⟨a, h1, h2, h3, h4⟩ := hq
    cases rep_i ry
    obtain ⟨l, vs, rfl, k1, r1⟩ := lstOf_rd rg rx h1
    have hz := nw_len h4
    rw [len_rep] at hz
    exact .inr (.inl ⟨l, k, vs, rfl, rfl, k1, h2, h3, by rw [r1.length]; exact hz, rep_newL rg (r1.rep _) h4 p⟩)
  cases d with
  | int i =>
    cases e with
    | int j => cases rep_i rx; cases rep_i ry; exact .inl ⟨i, j, rfl, rfl, h.1, p.val rg (.int _) h.2⟩
    | _ => exact False.elim h
  | str a =>
    cases e with
    | int j => cases rep_s rx; cases rep_i ry; exact .inr (.inr (.inl ⟨a, j, rfl, rfl, h.1.1, h.1.2, p.val rg (.str _) h.2⟩))
    | _ => exact False.elim h
  | tup a =>
    cases e with
    | int j =>
      cases rep_i ry
      obtain ⟨l, xs, rfl, h1, r1⟩ := rep_t rx
      refine .inr (.inr (.inr ⟨l, j, xs, rfl, rfl, h1.sq, h.1.1.1, h.1.1.2, by rw [r1.length]; exact h.1.2, fun e => ?_, fun _ _ => p.newT rg (r1.rep _) h.2⟩))
      have q := h.2
      have e2 : (List.replicate j.toNat a).flatten = a := by
        rcases e with e | e
        · rw [(cutNil r1).mp e]; simp
        · rw [e]; simp
      rw [e2] at q
      exact p.val rg rx q
    | _ => exact False.elim h
  | _ =>
    cases e with
    | int j => exact no rfl h
    | _ => exact False.elim h
theorem opA_I {K : PySem.W.Frag} {C : Int → Int → Prop} {g : Int → Int → Int} {rA : Dat → Dat → AG → AQ → Prop} (e : ∀ d e G Q, rA d e G Q → ∃ i j, d = .int i ∧ e = .int j ∧ C i j ∧ Q (.int (g i j)) G) : OpA K (rI C fun i j => .int (g i j)) rA := by
  intro H x y d e' G Qa Q rx ry rg h p
  obtain ⟨i, j, rfl, rfl, h1, h2⟩ := e _ _ _ _ h
  cases rep_i rx
  cases rep_i ry
  exact ⟨i, j, rfl, rfl, h1, p.val rg (.int _) h2⟩
theorem rI0_I {g : Int → Int → V} {x y : V} {H : Hp} {Q : VK} (h : rI (fun _ _ => True) g x y H Q) : rI0 g x y H Q := by
  obtain ⟨i, j, h1, h2, _, h3⟩ := h
  exact ⟨i, j, h1, h2, h3⟩
theorem OpA.imp {K : PySem.W.Frag} {r r' : R2} {rA : Dat → Dat → AG → AQ → Prop} (f : ∀ x y H Q, r x y H Q → r' x y H Q) (h : OpA K r rA) : OpA K r' rA := fun H x y d e G Qa Q rx ry rg q p => f _ _ _ _ (h H x y d e G Qa Q rx ry rg q p)
theorem bin_ok (X : Cx) (z : Bool) (o : BO) : ∃ r, OpR X (binaryOp o.op) r ∧ OpA X.K r (binW z o) := by
  cases o with
  | add => exact ⟨_, rAddA_ok, opA_add⟩
  | kadd => exact ⟨_, op_kadd, opA_kadd⟩
  | sub => exact ⟨_, op_sub, .imp (fun _ _ _ _ => rI0_I) (opA_I (C := fun _ _ => True) (g := fun i j => i - j) fun d e G Q h => by cases d <;> cases e <;> first | exact ⟨_, _, rfl, rfl, trivial, h⟩ | exact False.elim h)⟩
  | mul => exact ⟨_, rMulA_ok, opA_mul⟩
  | fdiv => exact ⟨_, op_fdiv, opA_I fun d e G Q h => by cases d <;> cases e <;> first | exact ⟨_, _, rfl, rfl, h.1, h.2⟩ | exact False.elim h⟩
  | mod => exact ⟨_, op_mod, opA_I fun d e G Q h => by cases d <;> cases e <;> first | exact ⟨_, _, rfl, rfl, h.1, h.2⟩ | exact False.elim h⟩
  | pow => exact ⟨_, op_pow, opA_I fun d e G Q h => by cases d <;> cases e <;> first | exact ⟨_, _, rfl, rfl, h.1, h.2⟩ | exact False.elim h⟩
  | shl => exact ⟨_, op_shl, opA_I fun d e G Q h => by cases d <;> cases e <;> first | exact ⟨_, _, rfl, rfl, h.1, h.2⟩ | exact False.elim h⟩
  | shr => exact ⟨_, op_shr, opA_I fun d e G Q h => by cases d <;> cases e <;> first | exact ⟨_, _, rfl, rfl, h.1, h.2⟩ | exact False.elim h⟩
  | band => exact ⟨_, op_and, .imp (fun _ _ _ _ => rI0_I) (opA_I (C := fun _ _ => True) (g := fun i j => Builtin.bitAnd i j) fun d e G Q h => by cases d <;> cases e <;> first | exact ⟨_, _, rfl, rfl, trivial, h⟩ | exact False.elim h)⟩
end Av
set_option Elab.async false
set_option linter.all false
set_option maxRecDepth 100000
set_option maxHeartbeats 4000000
/-! # AvS: sorted, list.count, enumerate of a tuple -/
namespace Av
open PySem PySem.Spec PyProof.Rows L2
variable [Tb]
/-! ### sorted -/
/-- x is a pair of these ints -/
def PrI (K : PySem.W.Frag) (H : Hp) (x : V) (q : Int × Int) : Prop := ∃ t, x = .ref t ∧ TpAt K H t [.int q.1, .int q.2]
def leP (a b : Int × Int) : Prop := a.1 < b.1 ∨ (a.1 = b.1 ∧ a.2 ≤ b.2)
def rSortP (K : PySem.W.Frag) : List V → Hp → VK → Prop := fun vs H Q => ∃ (a : Addr) (xs : List V) (ps : List (Int × Int)), vs = [V.ref a] ∧ SqL K H a xs ∧ Paired (PrI K H) xs ps ∧
  ∀ (ys : List V) (qs : List (Int × Int)) (p : Addr), ys.length ≤ sizeLine → Paired (PrI K H) ys qs → qs.Perm ps → qs.Pairwise leP → H p = none → Q (.ref p) (upd H p (.lst ys))
open Classical in
noncomputable def kPr (K : PySem.W.Frag) (H : Hp) (x : V) : Int × Int := if h : ∃ q, PrI K H x q then h.choose else (0, 0)
theorem paired_mem {α β : Type} {R : α → β → Prop} : ∀ {xs : List α} {ys : List β}, Paired R xs ys → ∀ x ∈ xs, ∃ y ∈ ys, R x y
  | _, _, .nil, x, h => by cases h
  | _, _, .cons a r, x, h => by
    rcases List.mem_cons.mp h with rfl | h
    · exact ⟨_, List.mem_cons_self .., a⟩
    · obtain ⟨y, h1, h2⟩ := paired_mem r x h
      exact ⟨y, List.mem_cons_of_mem _ h1, h2⟩
theorem paired_map {α β : Type} {R : α → β → Prop} {k : α → β} : ∀ {xs : List α} {ys : List β}, Paired R xs ys → (∀ x y, R x y → k x = y) → xs.map k = ys
  | _, _, .nil, _ => rfl
  | _, _, .cons a r, h => by rw [List.map_cons, h _ _ a, paired_map r h]
theorem paired_self {α β : Type} {R : α → β → Prop} {k : α → β} : ∀ (xs : List α), (∀ x ∈ xs, R x (k x)) → Paired R xs (xs.map k)
  | [], _ => .nil
  | x :: xs, h => .cons (h x (List.mem_cons_self ..)) (paired_self xs fun y hy => h y (List.mem_cons_of_mem _ hy))
theorem cr_sortP {X : Cx} : CallR X (.builtin "sorted") (rSortP X.K) := by
  intro pins s σ H vs us Q I r h
  obtain ⟨a, xs, ps, rfl, hs, hx, q⟩ := h
  obtain ⟨its, rv, hl, hz⟩ := I.list hs
  obtain ⟨u, rfl, ru⟩ := vals1 r
  obtain rfl : u = Value.ref a := ru
  have kq : ∀ x q, PrI X.K H x q → kPr X.K H x = q := fun x q hq => by
    unfold kPr
    rw [dif_pos ⟨q, hq⟩]
    have hc := (⟨q, hq⟩ : ∃ q, PrI X.K H x q).choose_spec
    generalize (⟨q, hq⟩ : ∃ q, PrI X.K H x q).choose = q' at hc
    obtain ⟨t, rfl, h1⟩ := hq
    obtain ⟨t', e, h2⟩ := hc
    cases e
    have e := I.tuple_inj h1.sq h2.sq
    obtain ⟨i, j⟩ := q
    obtain ⟨i', j'⟩ := q'
    simp only [List.cons.injEq, V.int.injEq, and_true] at e
    rw [e.1, e.2]
  have hk : ∀ x ∈ xs, PrI X.K H x (kPr X.K H x) := fun x hm => by
    obtain ⟨q, _, hq⟩ := paired_mem hx x hm
    rw [kq x q hq]; exact hq
  obtain ⟨e1, e2⟩ := refs_back rv fun x m => by
    obtain ⟨t, e, _⟩ := hk x m
    exact ⟨t, e⟩
  refine SrtO.sorted_pairsO (k := fun u => kPr X.K H (backV u)) hl.isList (by rw [← rv.length]; exact hz) (fun v hv => ?_) fun h' d out h1 h2 kp hd hn => ?_
  · obtain ⟨t, rfl⟩ := e2 v hv
    have hm : V.ref t ∈ xs := by rw [e1]; exact List.mem_map.mpr ⟨_, hv, rfl⟩
    obtain ⟨t', e, ht⟩ := hk _ hm
    cases e
    obtain ⟨its2, r2, ⟨o, ho, hc, n, hd⟩, _⟩ := I.tuple ht.sq
    obtain ⟨u1, u2, rfl, ri, rj⟩ := vals2 r2
    obtain ⟨t1, rfl⟩ := ri
    obtain ⟨t2, rfl⟩ := rj
    exact ⟨t, o, t1, t2, n, rfl, ho, hc, hd⟩
  · have h3 : ∀ u ∈ out, ∃ a, u = Value.ref a := fun u hu => e2 u (h2.perm.mem_iff.mp hu)
    obtain ⟨n, hn⟩ := hn
    have pe : (out.map backV).Perm xs := by
      rw [e1]
      exact h2.perm.map backV
    have le : (out.map backV).length ≤ sizeLine := by rw [pe.length_eq]; exact hz
    refine ⟨.ref d, upd H d (.lst (out.map backV)), I.laid (t' := s.toks) kp hd ⟨le, out, n, vals_back h3, hn⟩, rfl, q _ ((out.map backV).map (kPr X.K H)) d le (paired_self _ fun x hx' => hk x (pe.mem_iff.mp hx')) ?_ ?_ (I.hok.fresh hd)⟩
    · have := pe.map (kPr X.K H)
      rw [paired_map hx kq] at this
      exact this
    · rw [List.pairwise_map, List.pairwise_map]
      refine List.Pairwise.imp ?_ h1
      intro x y hxy
      have := SrtO.lexB_no.mp hxy
      unfold leP
      omega
/-! ### list.count of flat values -/
def rCntF (K : PySem.W.Frag) : V → List V → Hp → VK → Prop := fun x xs H Q => ∃ (a : Addr) (ys : List V) (y : V), x = V.ref a ∧ xs = [y] ∧ SqL K H a ys ∧ flatV y = true ∧ ys.all flatV = true ∧ Q (.int (ys.countP fun z => eqV z y : Nat)) H
theorem count_eqU {y : V} : ∀ {ys : List V} {us : List Value}, Vals ys us → ys.all flatV = true → us.countP (eqU y) = ys.countP fun z => eqV z y
  | _, _, .nil, _ => rfl
  | z :: ys, _, .cons r t, f => by
    rw [List.all_cons, Bool.and_eq_true] at f
    rw [List.countP_cons, List.countP_cons, count_eqU t f.2, eqU_of r f.1]
theorem mt_countF {X : Cx} : MtR X "list.count" (rCntF X.K) := by
  intro pins s σ H x xs v us Q I rx rxs h
  obtain ⟨a, ys, y, rfl, rfl, hs, fy, fys, q⟩ := h
  cases rx
  obtain ⟨uy, rfl, ry⟩ := rxs.one
  obtain ⟨its, rv, ⟨⟨cls, dd, data, sl⟩, n, ho, hc, hdn, hd⟩, hlen⟩ := I.list hs
  simp only at hc hd
  subst hc hd
  refine call_meets PySem.F.slot_list_count ⟨_, ho, rfl⟩ PySem.F.entry_list_count (PySem.F.args_list_count_2 _ _)
    (SeqAt.list_countAt a its.toArray n dd sl uy (eqU y)) ⟨ho, fun u' hu' => mem_eqAt ry fy rv fys u' (by simpa using hu'), ?_⟩
  refine ⟨.int (ys.countP fun z => eqV z y : Nat), H, I.tok _, ⟨s.toks, ?_⟩, q⟩
  show Value.int ((its.toArray.toList.countP (eqU y) : Nat) : Int) s.toks = Value.int ((ys.countP fun z => eqV z y : Nat) : Int) s.toks
  rw [show its.toArray.toList = its from rfl, count_eqU rv fys]
/-! ### enumerate of a tuple -/
open AutoSeq1 (wpAny_loadPart') in
theorem meets_enumT (l : Addr) (items : Array Value) (n : Nat) (dct : Option Addr) (sl : Array (Option Value)) :
    Meets (Builtin.«enumerate.__new__» ⟨[.type "enumerate", .ref l], []⟩) (fun _ R s => s.heap.get? l = some { cls := .type "tuple", dict := dct, data := .seq items n, slots := sl } ∧
      R (.ok (.ret (.ref (s.heap.push { cls := .type "tuple_iterator", data := .fields #[.ref l, .int 0 0] }).objs.size)))
        { s with heap := (s.heap.push { cls := .type "tuple_iterator", data := .fields #[.ref l, .int 0 0] }).push { cls := .type "enumerate", data := .fields #[.none, .bool false, .ref s.heap.objs.size, rawInt 0, .none, .none] } }) :=
  .of_wp fun prog w A R s h => by
    obtain ⟨hp, g, d, tk, os⟩ := s; obtain ⟨hl, h⟩ := h
    have hsub := sub_enumerate
    have hL : Heap.IsTuple (Shared.heap ⟨hp, g, d, tk, os⟩) l items := ⟨_, hl, rfl, n, rfl⟩
    wp_walk using wpAny_loadPart' hl
    refine wpAny_stack_any fun st => wpAny_pure ?_
    split
    · rename_i c _ _ _ _ _
      cases (c == Value.type "enumerate")
      · wp_walk using wpAny_loadPart' hl, wpAny_pyIter_tuple hL
        exact ⟨_, rfl, h⟩
      · wp_walk using wpAny_loadPart' hl, wpAny_pyIter_tuple hL
        exact ⟨_, rfl, h⟩
    · wp_walk using wpAny_loadPart' hl, wpAny_pyIter_tuple hL
      exact ⟨_, rfl, h⟩
theorem call_enumT {prog : Program} {w : World} {A : Around} {E : Value → Shared → Prop} {s : Shared} {l : Addr} {items : Array Value} {Q : Value → Shared → Prop} (hL : s.heap.IsTuple l items)
    (h : ∀ h', IsEnum h' (s.heap.objs.size + 1) s.heap.objs.size 0 .none → h'.IsTupleIter s.heap.objs.size l 0 → h'.objs.size = s.heap.objs.size + 2 →
      (∀ b o, s.heap.get? b = some o → h'.get? b = some o) → Q (.ref (s.heap.objs.size + 1)) { s with heap := h' }) :
    wpAny (model prog w) A (call (.type "enumerate") [.ref l]) Q E s := by
  obtain ⟨⟨c, dct, dt, sl⟩, hl, hc, n, hd⟩ := hL
  replace hc : c = .type "tuple" := hc
  replace hd : dt = .seq items n := hd
  subst hc hd
  refine callType_new F.called_enumerate (by decide) (F.typeCall_enumerate_1 _) (F.newCall_enumerate_1 _) (fun obj => F.args_object_init_2 obj _) F.entry_enumerate_new
    (meets_enumT l items n dct sl) ⟨hl, ?_⟩
  have hz : (s.heap.push { cls := .type "tuple_iterator", data := .fields #[.ref l, .int 0 0] }).objs.size = s.heap.objs.size + 1 := Heap.size_push ..
  show _ ∧ _
  rw [hz]
  have he : IsEnum ((s.heap.push { cls := .type "tuple_iterator", data := .fields #[.ref l, .int 0 0] }).push
      { cls := .type "enumerate", data := .fields #[.none, .bool false, .ref s.heap.objs.size, rawInt 0, .none, .none] }) (s.heap.objs.size + 1) s.heap.objs.size 0 .none := by
    have := Heap.get?_push_size (s.heap.push { cls := .type "tuple_iterator", data := .fields #[.ref l, .int 0 0] })
      (o := { cls := .type "enumerate", data := .fields #[.none, .bool false, .ref s.heap.objs.size, rawInt 0, .none, .none] }) rfl
    rw [hz] at this; exact this
  refine ⟨⟨_, he, rfl⟩, h _ he ⟨_, Heap.get?_push_of_some _ (Heap.get?_push_size _ rfl), rfl, rfl⟩ (by rw [Heap.size_push, hz]) fun b o x => Heap.get?_push_of_some _ (Heap.get?_push_of_some _ x)⟩
/-- the tuple at a as it stands at each turn, each item in a new pair -/
def IteT (K : PySem.W.Frag) (a : Addr) : It :=
  ⟨fun i H => ∃ (xs : List V) (x : V), SqT K H a xs ∧ xs[i]? = some x, fun i H v H' => ∃ T x, v = .ref T ∧ H T = none ∧ H' = upd H T (.tup [.int (i : Nat), x]) ∧ ∀ xs, SqT K H a xs → xs[i]? = some x, fun i H => ∃ xs : List V, SqT K H a xs ∧ xs.length ≤ i⟩
theorem turn_enumT {P : Program} {w : World} {K : PySem.W.Frag} {elts : List Expr} {kk : Nat} {tpos : Pos} (a e it : Addr) :
    Turn P w K (.Tuple elts kk tpos) (IteT K a) [e, it] e (fun i h => (∃ old, IsEnum h e it ((i : Nat) : Int) old) ∧ h.IsTupleIter it a i ∧ e ≠ it ∧ a ≠ it ∧ a ≠ e) where
  mem := by simp
  obj := fun i h st b hb => by
    obtain ⟨⟨old, he⟩, ⟨o, ho, hc, hd⟩, _⟩ := st
    have e' : b = e ∨ b = it := by simpa using hb
    rcases e' with z | z
    · rw [z]; exact ⟨_, he, fun v q => nomatch q⟩
    · rw [z]; exact ⟨o, ho, fun v q => by rw [hd] at q; cases q⟩
  keep := fun i h h' st k => let ⟨⟨old, he⟩, hi, hne⟩ := st; ⟨⟨old, k e (by simp) _ he⟩, hi.at fun o q => k it (by simp) o q, hne⟩
  item := by
    intro X hP hw hK hc i pins s σ H E I hf st hg
    subst hP hw hK
    obtain ⟨⟨old, he⟩, hit, hne, hai, hae⟩ := st
    obtain ⟨xs, x, hq, hx⟩ := hg
    obtain ⟨its, rv, p, hz⟩ := I.tuple hq
    obtain ⟨u, hu, ru⟩ := rv.get hx
    have hel : e < s.heap.objs.size := Heap.lt_size he
    have hil : it < s.heap.objs.size := by obtain ⟨_, q, _⟩ := hit; exact Heap.lt_size q
    have hlt : i < its.toArray.size := by have := (List.getElem?_eq_some_iff.mp hu).1; simpa using this
    refine wpAny_pyNext_enum_itemD (Draws.tuple (A := X.A.in1) (show X.A.in1.handled = none from I.ok.hd hc) it a hai its.toArray) he ⟨hit, p⟩ hlt hne (by simp [hne, Ne.symm hae]) fun x' h' tk hx' ho st' hT hsz hk => ?_
    have ex : x' = u := by
      have : its.toArray[i]? = some u := by simpa using hu
      rw [this] at hx'
      exact (Option.some.inj hx').symm
    subst ex
    obtain ⟨hit', _⟩ := st'
    refine ⟨_, rfl, wpAny_letOwnedTupleGo_enum (s := { s with heap := h', toks := tk + 1 }) ho fun h'' he' sb => ?_⟩
    have hT2 : h''.get? s.heap.objs.size = some { cls := .type "tuple", data := .seq #[.int i tk, x'] } := (sb.2 _ (Nat.ne_of_gt hel)).trans hT
    have new : ObjOk X.prog X.w (upd H s.heap.objs.size (.tup [.int (i : Nat), x])) h'' s.heap.objs.size (.tup [.int (i : Nat), x]) :=
      ⟨by show 2 ≤ sizeLine; decide, [.int i tk, x'], .cons ⟨_, rfl⟩ (.cons ru .nil), ⟨_, hT2, rfl, _, rfl⟩⟩
    have I1 : Inv X pins σ (upd H s.heap.objs.size (.tup [.int (i : Nat), x])) { s with heap := h'', toks := tk + 1 } :=
      I.turnedNew (ch := [e, it]) (fun b ob hb q => (sb.2 b (fun z => hb (by simp [z]))).trans (hk b ob (fun z => hb (by simp [z])) (fun z => hb (by simp [z])) q)) hf (Nat.le_refl _) new
    refine ⟨.ref s.heap.objs.size, _, I1, rfl, ⟨_, x, rfl, I.hok.fresh (Nat.le_refl _), rfl, fun ys hy => by rw [I.tuple_inj hy hq]; exact hx⟩, ⟨⟨x', ?_⟩, hit'.at fun o q => (sb.2 it (Ne.symm hne)).trans q, hne, hai, hae⟩, fun b hb => ?_⟩
    · have e1 : ((i + 1 : Nat) : Int) = (i : Int) + 1 := by omega
      rw [e1]; exact he'
    · have hb' : b < s.heap.objs.size := by
        have e' : b = e ∨ b = it := by simpa using hb
        rcases e' with z | z
        · rw [z]; exact hel
        · rw [z]; exact hil
      rw [upd_ne (Nat.ne_of_lt hb')]
      exact (hf b hb).1
  done := by
    intro X hP hw hK hc i pins s σ H E I hf st hg
    subst hP hw hK
    obtain ⟨⟨old, he⟩, hit, hne, hai, hae⟩ := st
    obtain ⟨xs, hq, hx⟩ := hg
    obtain ⟨its, rv, p, hz⟩ := I.tuple hq
    obtain ⟨f0, f1, f2, f3, f4, f5⟩ := hf it (by simp)
    have hl := rv.length
    have hT : s.TypeIs (.ref e) "enumerate" := ⟨_, he, rfl⟩
    unfold pyNext
    refine wpAny_bind (wpAny_attempt (wpAny_callSpecial?_slot (name := Str.ofString "__next__") hT F.slot_enumerate_next
      (wpAny_call_entry F.slot_enumerate_next hT F.entry_enumerate_next ?_ (F.args_enumerate_next_1 _))))
    show wpAny _ _ (field (.ref e) 2 >>= _) _ _ _
    refine wpAny_bind (wpAny_field he rfl (x := .ref it) rfl ?_)
    refine wpAny_bind (wpAny_nextOf_tuple_end (I.ok.hd hc) hit p (by simp; omega) fun h' x he' hx' => ?_)
    obtain ⟨o, ho, hc'⟩ := hx'
    refine wpAny_bind (wpAny_isInstance (T := "StopIteration") (b := true) ⟨o, ho, hc'⟩ isSubtype_stop ?_)
    exact wpAny_pure ⟨rfl, I.turned (t' := s.toks) (fun b o hb q => he' b o hb q) f0 f1 f3 f4 f5⟩
  self := fun A i s Q E st h => let ⟨⟨_, he⟩, _⟩ := st; wpAny_pyIter_enum he h
def iEnumA (K : PySem.W.Frag) (ta : TA) : TI := fun σ H R => ta σ H fun vs H1 => ∃ a xs, vs = [.ref a] ∧ ((SqL K H1 a xs ∧ R (Ite K a) H1) ∨ (SqT K H1 a xs ∧ R (IteT K a) H1))
theorem pi_enumA {X : Cx} {e : Expr} {ta : TA} {p pos tpos : Pos} {elts : List Expr} {kk : Nat} (hg : Gl X "enumerate") (hm : X.mg "enumerate" = none) (ha : PA X [e] ta) (hs : starEach [e] X.env = [(false, eval e X.env)] := by rfl) :
    PI X (.Tuple elts kk tpos) (.Call (.Name "enumerate" p) [e] [] pos) (iEnumA X.K ta) := by
  refine ⟨fun pins s σ H R I h => ?_⟩
  refine Call_ (ld_blt I hg hm boot_enumerate (PyProof.Rows.callWith_type1 (thn (ha.run pos pins s σ H _ I h) fun us s1 ⟨vs, H1, I1, r1, q1⟩ => ?_) hs rfl))
  obtain ⟨a, xs, ex, hq⟩ := q1
  subst ex
  cases r1 with
  | cons r rr =>
    cases rr
    cases r
    have fp : ∀ b ∈ [s1.heap.objs.size + 1, s1.heap.objs.size], s1.heap.objs.size ≤ b := fun b hb => by
      have e' : b = s1.heap.objs.size + 1 ∨ b = s1.heap.objs.size := by simpa using hb
      rcases e' with z | z
      · rw [z]; exact Nat.le_add_right _ _
      · rw [z]; exact Nat.le_refl _
    rcases hq with ⟨hq, q⟩ | ⟨hq, q⟩
    · obtain ⟨its, rv, p', hz⟩ := I1.list hq
      refine call_enumerate_list p'.isList fun h' he hit hsz hk => wpAny_pyIter_enum he ?_
      have I2 : Inv X pins σ H1 { s1 with heap := h' } := I1.kept (t' := s1.toks) hk
      refine ⟨s1.heap.objs.size + 1, [s1.heap.objs.size + 1, s1.heap.objs.size], _, _, H1, rfl, I2, turn_enum a (s1.heap.objs.size + 1) s1.heap.objs.size, ⟨⟨.none, he⟩, hit, Nat.succ_ne_self _⟩, fun b hb => ?_, q⟩
      exact I1.fpOk (fp b hb) (I1.hok.fresh (fp b hb))
    · obtain ⟨its, rv, p', hz⟩ := I1.tuple hq
      have hal : a < s1.heap.objs.size := by obtain ⟨_, z, _⟩ := p'; exact Heap.lt_size z
      refine call_enumT p' fun h' he hit hsz hk => wpAny_pyIter_enum he ?_
      have I2 : Inv X pins σ H1 { s1 with heap := h' } := I1.kept (t' := s1.toks) hk
      refine ⟨s1.heap.objs.size + 1, [s1.heap.objs.size + 1, s1.heap.objs.size], _, _, H1, rfl, I2, turn_enumT a (s1.heap.objs.size + 1) s1.heap.objs.size, ⟨⟨.none, he⟩, hit, Nat.succ_ne_self _, Nat.ne_of_lt hal, Nat.ne_of_lt (Nat.lt_succ_of_lt hal)⟩, fun b hb => ?_, q⟩
      exact I1.fpOk (fp b hb) (I1.hok.fresh (fp b hb))
end Av
set_option Elab.async false
set_option linter.all false
set_option maxRecDepth 100000
set_option maxHeartbeats 4000000
/-! # AvSum: sum(list, start) of lists, of tuples -/
namespace Av
open PySem PySem.Spec PyProof.Rows L2
variable [Tb]
abbrev sm (X : Cx) : Cx := { X with A := X.A.in1, xe := fun _ _ => False }
section
variable {X : Cx} {pins : List (Addr × Obj)} {σ : L2.St} {H : Hp} {s : Shared}
theorem inv_sm (I : Inv X pins σ H s) : Inv (sm X) pins σ H s :=
  ⟨⟨I.ok.mod, I.ok.kind, I.ok.glob, I.ok.blt, I.ok.above, I.ok.inj, I.ok.has, I.ok.cab, I.ok.hd, I.ok.frames, I.ok.stk, I.ok.exf, I.ok.bs, I.ok.bsz, I.ok.noex, I.ok.exfs, I.ok.funs, I.ok.frf⟩, I.os, I.bare, I.base, I.loc, I.cell, I.free, I.freeC, I.pin, I.hok, I.len⟩
theorem sm_inv (I : Inv (sm X) pins σ H s) : Inv X pins σ H s :=
  ⟨⟨I.ok.mod, I.ok.kind, I.ok.glob, I.ok.blt, I.ok.above, I.ok.inj, I.ok.has, I.ok.cab, I.ok.hd, I.ok.frames, I.ok.stk, I.ok.exf, I.ok.bs, I.ok.bsz, I.ok.noex, I.ok.exfs, I.ok.funs, I.ok.frf⟩, I.os, I.bare, I.base, I.loc, I.cell, I.free, I.freeC, I.pin, I.hok, I.len⟩
theorem args_sum2 (a b : Value) : argsOk "sum" ⟨[a, b], []⟩ := by unfold argsOk; kernel_rfl
def sumObj (u : Value) (c : Nat) : Obj := { cls := .type "list", dict := none, data := .seq #[u] c, slots := #[] }
theorem sum_go {r : R2} {a it S : Addr} {n : Nat} {W : Nat → V → Hp → Prop} {Q : VK} (hr : OpR (sm X) (binaryOp .Add) r) (hc : X.calm = true) (hS : it ≠ S)
    (hW : ∀ i t H, W i t H → (∃ b, t = .ref b) ∧ ∃ xs, SqL X.K H a xs ∧ xs.length = n ∧ (n ≤ i → Q t H) ∧ ∀ x, xs[i]? = some x → r t x H fun t' H' => W (i + 1) t' H') :
    ∀ (k i : Nat) (s : Shared) (H : Hp) (t : V) (u : Value) (c : Nat), n - i = k → Inv (sm X) pins σ H s → (∀ b ∈ [it, S], FpOk (sm X) pins H b) → s.heap.IsListIter it a i → s.heap.get? S = some (sumObj u c) → RelV t u → W i t H →
      codeAny (model X.prog X.w) X.A (.builtin "sum.loop" ⟨[.ref it, .ref S, rawInt 2, rawInt 0], []⟩) (fun f s' => ∃ v, f = .ok (.ret v) ∧ EP (sm X) pins σ Q v s') s := by
  intro k
  induction k with
  | zero =>
    intro i s H t u c hk I hf hit hSo rt w
    obtain ⟨⟨b, rfl⟩, xs, h1, h2, h3, _⟩ := hW i t H w
    cases rt
    obtain ⟨its, rv, p, _⟩ := I.list h1
    obtain ⟨f0, f1, f2, f3, f4, f5⟩ := hf it (by simp)
    have hl := rv.length
    refine codeAny_builtin PySem.F.entry_sum_loop ?_
    rw [Around.under_plainId PySem.F.plain_sum_loop _]
    show wpAny _ X.A.in1 (seqItems? (.ref S) >>= _) _ _ s
    refine wpAny_bind (wpAny_seqItems hSo rfl ?_)
    show wpAny _ X.A.in1 (tryCatch (pyNext (.ref it)) _ >>= _) _ _ s
    refine wpAny_bind (wpAny_tryCatch (wpAny_pyNext_list_end (I.ok.hd hc) hit p.isList (by simp; omega) fun h' eb => ?_))
    exact wpAny_pure ⟨.ref b, rfl, .ref b, H, I.turned (t' := s.toks) (fun b o hb e => eb b o hb e) f0 f1 f3 f4 f5, rfl, h3 (by omega)⟩
  | succ k ih =>
    intro i s H t u c hk I hf hit hSo rt w
    obtain ⟨⟨b, rfl⟩, xs, h1, h2, _, h4⟩ := hW i t H w
    cases rt
    obtain ⟨its, rv, p, _⟩ := I.list h1
    obtain ⟨f0, f1, f2, f3, f4, f5⟩ := hf it (by simp)
    have hlt : i < xs.length := by omega
    obtain ⟨x, hx⟩ : ∃ x, xs[i]? = some x := ⟨xs[i], List.getElem?_eq_getElem hlt⟩
    obtain ⟨v, hv, rx⟩ := rv.get hx
    refine codeAny_builtin PySem.F.entry_sum_loop ?_
    rw [Around.under_plainId PySem.F.plain_sum_loop _]
    show wpAny _ X.A.in1 (seqItems? (.ref S) >>= _) _ _ s
    refine wpAny_bind (wpAny_seqItems hSo rfl ?_)
    show wpAny _ X.A.in1 (tryCatch (pyNext (.ref it)) _ >>= _) _ _ s
    refine wpAny_bind (wpAny_tryCatch (wpAny_pyNext_list_item hit p.isList (x := v) (by simpa using hv) fun h' hit' sb => ?_))
    have I1 : Inv (sm X) pins σ H { s with heap := h' } := I.turned (t' := s.toks) (fun b o hb e => (sb.2 b hb).trans e) f0 f1 f3 f4 f5
    have hSo1 : h'.get? S = some (sumObj (.ref b) c) := (sb.2 S (Ne.symm hS)).trans hSo
    obtain ⟨oi, ei, ci, di⟩ := id hit'
    have I2 := I1.pinned (fp := [it, S]) hf fun q hq => by
      rcases List.mem_cons.mp hq with e | hq
      · subst e
        exact ⟨oi, ei, fun z e => by rw [di] at e; cases e⟩
      · cases List.mem_singleton.mp hq
        exact ⟨_, hSo1, fun z e => by cases e⟩
    show wpAny _ X.A.in1 ((holding [v] (binaryOp .Add (.ref b) v)).attempt >>= _) _ _ _
    refine wpAny_bind (wpAny_attempt (wpAny_holding ?_))
    refine wpAny_mono (hr _ { s with heap := h' } σ H (.ref b) x (.ref b) v _ I2 rfl rx (h4 x hx)) ?_ fun _ _ z => False.elim z
    rintro z s2 ⟨t', H2, I3, rt', w'⟩
    have pS := I3.pin (S, sumObj (.ref b) c) (List.mem_append_right _ (List.mem_append_right _ (mem_pinsAt (by simp) hSo1)))
    have pI := I3.pin (it, oi) (List.mem_append_right _ (List.mem_append_right _ (mem_pinsAt (by simp) ei)))
    have I4 : Inv (sm X) pins σ H2 s2 := I3.unpinned
    have hf2 : ∀ q ∈ [it, S], FpOk (sm X) pins H2 q := fun q hq => by
      refine ⟨?_, (hf q hq).2⟩
      rcases List.mem_cons.mp hq with e | hq
      · subst e; exact pI.2.1
      · cases List.mem_singleton.mp hq
        exact pS.2.1
    obtain ⟨g0, g1, g2, g3, g4, g5⟩ := hf2 S (by simp)
    have eS : s2.heap.get? S = some { cls := .type "list", dict := none, data := .seq #[.ref b] c, slots := #[] } := pS.1
    show wpAny _ X.A.in1 (updateSeq S (fun _ => #[z]) >>= _) _ _ _
    refine wpAny_bind ?_
    refine wpAny_updateSeq eS rfl ?_
    have e2 := Heap.get?_update_self (Obj.mapSeq fun _ => #[z]) eS rfl
    refine wpAny_bind (wpAny_letGo ?_)
    refine wpAny_bind ?_
    refine wpAny_updateSeq e2 rfl (wpAny_pure ⟨plainId_quiet PySem.F.plain_sum_loop _, ?_⟩)
    have e3 := Heap.get?_update_self (Obj.mapSeq fun _ => #[z]) e2 rfl
    have kp : ∀ (q : Addr) (o : Obj), q ≠ S → s2.heap.get? q = some o → ((s2.heap.update S (Obj.mapSeq fun _ => #[z])).update S (Obj.mapSeq fun _ => #[z])).get? q = some o := fun q o hq e =>
      (Heap.get?_update_other _ _ (Ne.symm hq)).trans ((Heap.get?_update_other _ _ (Ne.symm hq)).trans e)
    refine ih (i + 1) _ H2 t' z _ (by omega) (I4.turned (t' := s2.toks) (fun q o hq e => kp q o hq e) g0 g1 g3 g4 g5) hf2 ⟨oi, kp it oi hS pI.1, ci, di⟩ e3 rt' w'
/-- sum(xs, t), t a list or a tuple -/
def rSum2 (r : R2) (K : PySem.W.Frag) : List V → Hp → VK → Prop := fun vs H Q => ∃ a b xs T, vs = [.ref a, .ref b] ∧ SqL K H a xs ∧ (T = "list" ∧ (∃ ys, Rd H b (.lst ys)) ∨ T = "tuple" ∧ ∃ ys, SqT K H b ys) ∧
  ∃ W : Nat → V → Hp → Prop, W 0 (.ref b) H ∧ ∀ i t H, W i t H → (∃ b, t = .ref b) ∧ ∃ xs', SqL K H a xs' ∧ xs'.length = xs.length ∧ (xs.length ≤ i → Q t H) ∧ ∀ x, xs'[i]? = some x → r t x H fun t' H' => W (i + 1) t' H'
theorem cr_sum2 {r : R2} (hr : OpR (sm X) (binaryOp .Add) r) (hc : X.calm = true) : CallR X (.builtin "sum") (rSum2 r X.K) := by
  intro pins s σ H vs us Q I rv h
  obtain ⟨a, b, xs, T, rfl, h1, h2, W, w0, hW⟩ := h
  obtain ⟨u1, u2, rfl, r1, r2⟩ := rv.two
  cases r1
  cases r2
  obtain ⟨its, rl, p, _⟩ := I.list h1
  refine call_function_tree PySem.F.kind_sum PySem.F.plain_sum PySem.F.entry_sum (args_sum2 _ _) ?_
  unfold Builtin.«sum»
  simp only [List.length_cons, List.length_nil]
  rw [if_neg (by decide)]
  refine wpAny_bind (wpAny_of_eq (show Builtin.Builtins.bindParams "sum" ["start"] 0 ⟨[.ref b], []⟩ = pure [some (.ref b)] from rfl) ?_)
  refine wpAny_bind (wpAny_pyIter_list p.isList ?_)
  have I1 : Inv (sm X) pins σ H { s with heap := s.heap.push { cls := .type "list_iterator", data := .fields #[.ref a, .int 0 0] } } := (inv_sm I).kept (t' := s.toks) fun q o e => Heap.get?_push_of_some _ e
  have tl : ∀ U : String, isSubtype (.type "list") (.type U) = pure false → isSubtype (.type "tuple") (.type U) = pure false → ∀ (Qk : Bool → Shared → Prop), Qk false { s with heap := s.heap.push { cls := .type "list_iterator", data := .fields #[.ref a, .int 0 0] } } →
      wpAny (model X.prog X.w) X.A.in1 (isInstance (.ref b) (.type U)) Qk X.xe { s with heap := s.heap.push { cls := .type "list_iterator", data := .fields #[.ref a, .int 0 0] } } := fun U e1 e2 Qk q => by
    rcases h2 with ⟨_, ys, h2⟩ | ⟨_, ys, h2⟩
    · obtain ⟨_, i2, n2, _, _, e⟩ := lstRd I1 h2
      exact wpAny_isInstance (T := "list") (b := false) ⟨_, e, rfl⟩ e1 q
    · obtain ⟨i2, _, ⟨⟨oc, od, dt, sl⟩, e, hcl, n2, hd⟩, _⟩ := I1.tuple h2
      cases (show oc = .type "tuple" from hcl)
      exact wpAny_isInstance (T := "tuple") (b := false) ⟨_, e, rfl⟩ e2 q
  refine wpAny_bind (wpAny_pure ?_)
  simp only [List.forIn_cons, List.forIn_nil]
  refine wpAny_bind (wpAny_bind (wpAny_bind (tl "str" PySem.F.sub_list_str PySem.F.sub_tuple_str _ ?_)))
  simp only [Bool.false_eq_true, if_false]
  refine wpAny_pure (wpAny_bind (wpAny_bind (tl "bytes" PySem.F.sub_list_bytes PySem.F.sub_tuple_bytes _ ?_)))
  simp only [Bool.false_eq_true, if_false]
  refine wpAny_pure (wpAny_bind (wpAny_bind (tl "bytearray" PySem.F.sub_list_bytearray PySem.F.sub_tuple_bytearray _ ?_)))
  simp only [Bool.false_eq_true, if_false]
  refine wpAny_pure (wpAny_pure ?_)
  refine wpAny_bind (wpAny_newObj_type ?_)
  have sz : ({ s with heap := s.heap.push { cls := .type "list_iterator", data := .fields #[.ref a, .int 0 0] } } : Shared).heap.objs.size = s.heap.objs.size + 1 := Array.size_push ..
  have it0 : (s.heap.push { cls := .type "list_iterator", data := .fields #[.ref a, .int 0 0] }).IsListIter s.heap.objs.size a 0 := ⟨_, Heap.get?_push_size _ rfl, rfl, rfl⟩
  have fI : FpOk (sm X) pins H s.heap.objs.size := (inv_sm I).fpOk (Nat.le_refl _) (I.hok.fresh (Nat.le_refl _))
  have fS : FpOk (sm X) pins H (s.heap.push { cls := .type "list_iterator", data := .fields #[.ref a, .int 0 0] }).objs.size := I1.fpOk (Nat.le_refl _) (I1.hok.fresh (Nat.le_refl _))
  refine wpAny_pure ⟨plainId_quiet PySem.F.plain_sum_loop _, ?_⟩
  refine codeAny_mono (sum_go hr hc (Nat.ne_of_lt (Heap.lt_size it0.choose_spec.1)) hW (xs.length - 0) 0 _ H (.ref b) (.ref b) 0 rfl (I1.kept (t' := s.toks) fun q o e => Heap.get?_push_of_some _ e) ?_ (it0.at fun o e => Heap.get?_push_of_some _ e) (Heap.get?_push_size _ rfl) rfl w0) ?_
  · intro q hq
    rcases List.mem_cons.mp hq with e | hq
    · subst e; exact fI
    · cases List.mem_singleton.mp hq
      exact fS
  · rintro f s' ⟨v, rfl, t', H', I', rt, q⟩
    exact ⟨t', H', sm_inv I', rt, q⟩
end
end Av
set_option Elab.async false
set_option linter.all false
set_option maxRecDepth 100000
set_option maxHeartbeats 4000000
/-! # Av3: comparisons, truth, subscripts, slices, built-ins, methods by values -/
namespace Av
open PySem PySem.Spec PyProof.Rows L2
variable [Tb]
/-! ### equality -/
mutual
theorem deep_dp {K : PySem.W.Frag} {G : AG} {H : Hp} (rg : RelG K G H) : ∀ {d : Dat} {p : PyData} {x : V}, Deep G d p → Rep K H x d → Dp K H x p
  | _, _, _, .non, .non => .non
  | _, _, _, .bl b, .bl _ => .bl b
  | _, _, _, .int b, .int _ => .int b
  | _, _, _, .str b, .str _ => .str b
  | _, _, _, .tup h, .tup a r => .tup a.sq (deeps_dp rg h r)
  | _, _, _, .lst h, .lst a r => .lst a.sq (deeps_dp rg h r)
  | _, _, _, .ref e h, r => by
    cases rep_r r
    obtain ⟨vs, h1, h2⟩ := rg.lst e
    exact .lst (.inl (.inl h1)) (deeps_dp rg h h2)
theorem deeps_dp {K : PySem.W.Frag} {G : AG} {H : Hp} (rg : RelG K G H) : ∀ {ds : List Dat} {ps : List PyData} {xs : List V}, Deeps G ds ps → Reps K H xs ds → DpAll K H xs ps
  | _, _, _, .nil, .nil => .nil
  | _, _, _, .cons a b, .cons c d => .cons (deep_dp rg a c) (deeps_dp rg b d)
end
def CO.op : CO → CmpOp
  | .lt => .Lt | .le => .LtE | .gt => .Gt | .ge => .GtE | .eq => .Eq | .ne => .NotEq | .isn => .Is | .isnt => .IsNot | .mem => .In | .nmem => .NotIn | .memd => .In | .nmemd => .NotIn
theorem strD_inv {K : PySem.W.Frag} {H : Hp} {v : V} {d : Dat} {s : Str} (r : Rep K H v d) (e : strD d = some s) : v = .str s ∧ d = .str s := by
  cases d with
  | str x => cases e; exact ⟨rep_s r, rfl⟩
  | _ => cases e
theorem flat_rep {K : PySem.W.Frag} {H : Hp} {x : V} {d : Dat} (r : Rep K H x d) (f : flatD d = true) : x = toV d ∧ flatV x = true := by
  cases r <;> first | exact ⟨rfl, rfl⟩ | cases f
theorem opA_eq {K : PySem.W.Frag} : OpA K (fun x y H Q => rEq x y H Q ∨ rEqD K x y H Q) (cmpW .eq) := by
  intro H x y d e G Qa Q rx ry rg h p
  rcases h with ⟨h1, h3⟩ | ⟨a, b, h1, h2, h3, h4, h5⟩
  · simp only [Bool.and_eq_true] at h1
    obtain ⟨rfl, _⟩ := flat_rep rx h1.1.1
    obtain ⟨rfl, _⟩ := flat_rep ry h1.1.2
    exact .inl ⟨h1.2, p.val rg (.bl _) h3⟩
  · exact .inr ⟨a, b, deep_dp rg h1 rx, deep_dp rg h2 ry, h3, h4, p.val rg (.bl _) h5⟩
theorem opA_ne {K : PySem.W.Frag} : OpA K (fun x y H Q => rNe x y H Q ∨ rNeD K x y H Q) (cmpW .ne) := by
  intro H x y d e G Qa Q rx ry rg h p
  rcases h with ⟨h1, h3⟩ | ⟨a, b, h1, h2, h3, h4, h5⟩
  · simp only [Bool.and_eq_true] at h1
    obtain ⟨rfl, _⟩ := flat_rep rx h1.1.1
    obtain ⟨rfl, _⟩ := flat_rep ry h1.1.2
    exact .inl ⟨h1.2, p.val rg (.bl _) h3⟩
  · exact .inr ⟨a, b, deep_dp rg h1 rx, deep_dp rg h2 ry, h3, h4, p.val rg (.bl _) h5⟩
theorem flats_rep {K : PySem.W.Frag} {H : Hp} : ∀ {ds : List Dat} {xs : List V}, Reps K H xs ds → ds.all flatD = true → xs = ds.map toV ∧ xs.all flatV = true
  | [], _, .nil, _ => ⟨rfl, rfl⟩
  | d :: ds, _, .cons a r, f => by
    rw [List.all_cons, Bool.and_eq_true] at f
    obtain ⟨h1, h2⟩ := flat_rep a f.1
    obtain ⟨h3, h4⟩ := flats_rep r f.2
    exact ⟨by rw [List.map_cons, ← h1, ← h3], by rw [List.all_cons, h2, h4] <;> rfl⟩
theorem opA_mem {K : PySem.W.Frag} {n : Bool} {rA : Dat → Dat → AG → AQ → Prop} (e : ∀ x y G Q, rA x y G Q → memW n x y G Q) : OpA K (rIn K n) rA := by
  intro H x y d e' G Qa Q rx ry rg h p
  obtain ⟨ds, h1, h2, h3, h4⟩ := e _ _ _ _ h
  obtain ⟨a, vs, rfl, h5, h6⟩ := seqOf_rd rg ry h1
  obtain ⟨f1, f2⟩ := flat_rep rx h2
  obtain ⟨f3, f4⟩ := flats_rep h6 h3
  refine ⟨a, vs, rfl, h5, f2, f4, ?_⟩
  have q : inV x vs = ds.any fun d' => eqF d' d := by
    unfold inV
    rw [f3, f1, List.any_map]
    rfl
  rw [q]
  exact p.val rg (.bl _) h4
theorem opA_B {K : PySem.W.Frag} {g : Int → Int → Bool} {rA : Dat → Dat → AG → AQ → Prop} (e : ∀ d e G Q, rA d e G Q → ∃ i j, d = .int i ∧ e = .int j ∧ Q (.bl (g i j)) G) : OpA K (rI0 fun i j => .bl (g i j)) rA := by
  intro H x y d e' G Qa Q rx ry rg h p
  obtain ⟨i, j, rfl, rfl, h2⟩ := e _ _ _ _ h
  cases rep_i rx
  cases rep_i ry
  exact ⟨i, j, rfl, rfl, p.val rg (.bl _) h2⟩
theorem non_dec {K : PySem.W.Frag} {H : Hp} {x : V} {d : Dat} (r : Rep K H x d) : decide (x = .non) = isNonD d := by
  cases r <;> first | rfl | exact decide_eq_false (fun z => by cases z)
def rInT (K : PySem.W.Frag) (n : Bool) : R2 := fun x y H Q => ∃ d ds, Dp K H x d ∧ Dp K H y (.tuple ds) ∧ d.plain = true ∧ PyData.plainAll ds = true ∧ min (PyData.depthAll ds) d.depth ≤ 60 ∧ Q (.bl (if n then !ds.any (fun z => PyData.eqv z d) else ds.any fun z => PyData.eqv z d)) H
theorem op_inT {X : Cx} (hu : X.A.units + 64 < cLine) : OpR X (compareOp .In) (rInT X.K false) := by
  intro pins s σ H x y v u Q I rx ry h
  obtain ⟨d, ds, hd, he, sd, se, hm, q⟩ := h
  obtain ⟨as, r1⟩ := Dp.reads I d x v hd rx
  obtain ⟨bs, r2⟩ := Dp.reads I (.tuple ds) y u he ry
  exact SeqAt.in_tuple_data r2 r1 se sd (by omega) ⟨.bl _, H, I, rfl, q⟩
theorem op_notInT {X : Cx} (hu : X.A.units + 64 < cLine) : OpR X (compareOp .NotIn) (rInT X.K true) := by
  intro pins s σ H x y v u Q I rx ry h
  obtain ⟨d, ds, hd, he, sd, se, hm, q⟩ := h
  obtain ⟨as, r1⟩ := Dp.reads I d x v hd rx
  obtain ⟨bs, r2⟩ := Dp.reads I (.tuple ds) y u he ry
  exact SeqAt.notIn_tuple_data r2 r1 se sd (by omega) ⟨.bl _, H, I, rfl, q⟩
theorem opA_memd {K : PySem.W.Frag} : OpA K (rInT K false) (cmpW .memd) := by
  intro H x y d e' G Qa Q rx ry rg h p
  have h : memD false d e' G Qa := by cases d <;> cases e' <;> exact h
  obtain ⟨q, qs, h1, h2, h3, h4, h5, h6⟩ := h
  exact ⟨q, qs, deep_dp rg h1 rx, deep_dp rg h2 ry, h3, h4, h5, p.val rg (.bl _) h6⟩
theorem opA_nmemd {K : PySem.W.Frag} : OpA K (rInT K true) (cmpW .nmemd) := by
  intro H x y d e' G Qa Q rx ry rg h p
  have h : memD true d e' G Qa := by cases d <;> cases e' <;> exact h
  obtain ⟨q, qs, h1, h2, h3, h4, h5, h6⟩ := h
  exact ⟨q, qs, deep_dp rg h1 rx, deep_dp rg h2 ry, h3, h4, h5, p.val rg (.bl _) h6⟩
theorem cmp_ok (X : Cx) (hu : X.A.units + 64 < cLine) (o : CO) : ∃ r, OpR X (compareOp o.op) r ∧ OpA X.K r (cmpW o) := by
  cases o with
  | lt => exact ⟨_, op_lt, opA_B fun d e G Q h => by cases d <;> cases e <;> first | exact ⟨_, _, rfl, rfl, h⟩ | exact False.elim h⟩
  | le => exact ⟨_, op_le, opA_B fun d e G Q h => by cases d <;> cases e <;> first | exact ⟨_, _, rfl, rfl, h⟩ | exact False.elim h⟩
  | gt => exact ⟨_, op_gt, opA_B fun d e G Q h => by cases d <;> cases e <;> first | exact ⟨_, _, rfl, rfl, h⟩ | exact False.elim h⟩
  | ge => exact ⟨_, op_ge, opA_B fun d e G Q h => by cases d <;> cases e <;> first | exact ⟨_, _, rfl, rfl, h⟩ | exact False.elim h⟩
  | eq => exact ⟨_, op_eq.or (op_eqD hu), opA_eq⟩
  | ne => exact ⟨_, op_ne.or (op_neD hu), opA_ne⟩
  | isn =>
    refine ⟨_, op_isN, fun H x y d e G Qa Q rx ry rg h p => ?_⟩
    cases e with
    | non => cases rep_n ry; exact ⟨rfl, by rw [non_dec rx]; exact p.val rg (.bl _) h⟩
    | _ => exact False.elim h
  | isnt =>
    refine ⟨_, op_notN, fun H x y d e G Qa Q rx ry rg h p => ?_⟩
    cases e with
    | non =>
      cases rep_n ry
      refine ⟨rfl, ?_⟩
      rw [non_dec rx]
      exact p.val rg (.bl _) h
    | _ => exact False.elim h
  | mem => exact ⟨_, op_in_seq, opA_mem fun _ _ _ _ h => h⟩
  | nmem => exact ⟨_, op_notIn_seq, opA_mem fun _ _ _ _ h => h⟩
  | memd => exact ⟨_, op_inT hu, opA_memd⟩
  | nmemd => exact ⟨_, op_notInT hu, opA_nmemd⟩
/-! ### truth -/
theorem emp {K : PySem.W.Frag} {H : Hp} {vs : List V} {ds : List Dat} (r : Reps K H vs ds) : (!vs.isEmpty) = !ds.isEmpty := by
  cases r <;> rfl
theorem tru_A {K : PySem.W.Frag} {H : Hp} {x : V} {d : Dat} {G : AG} {Qa : Bool → AG → Prop} {Q : Bool → Hp → Prop} (rx : Rep K H x d) (rg : RelG K G H) (h : truW d G Qa) (p : ∀ k, Qa k G → Q k H) : ∃ k, TruV K x H k ∧ Q k H := by
  cases d with
  | non => cases rep_n rx; exact ⟨false, rfl, p _ h⟩
  | bl b => cases rep_b rx; exact ⟨b, rfl, p _ h⟩
  | int i => cases rep_i rx; exact ⟨_, rfl, p _ h⟩
  | str z =>
    cases rep_s rx
    have e : ((z.length : Int) != 0) = (z.length != 0) := by
      have q : ((z.length : Int) == 0) = (z.length == 0) := by rw [Bool.eq_iff_iff]; simp
      simp only [bne, q]
    exact ⟨_, ⟨h.1, rfl⟩, by rw [e]; exact p _ h.2⟩
  | tup ds =>
    obtain ⟨a, vs, rfl, h1, h2⟩ := rep_t rx
    exact ⟨_, .inr (.inl ⟨vs, h1.sq, rfl⟩), by rw [emp h2]; exact p _ h⟩
  | _ =>
    obtain ⟨ds, h1, h2⟩ := h
    obtain ⟨a, vs, rfl, h3, h4⟩ := lstOf_rd rg rx h1
    exact ⟨_, .inl ⟨vs, .inl h3, rfl⟩, by rw [emp h4]; exact p _ h2⟩
/-! ### subscripts, slices -/
theorem atI_rep {K : PySem.W.Frag} {H : Hp} {vs : List V} {ds : List Dat} {i : Int} {d : Dat} (r : Reps K H vs ds) (e : atI ds i = some d) : ∃ v, atI vs i = some v ∧ Rep K H v d := by
  unfold atI at e ⊢
  rw [r.length]
  cases q : ixN ds.length i with
  | none => rw [q] at e; cases e
  | some j =>
    rw [q] at e
    obtain ⟨v, h1, h2⟩ := r.get (i := j) e
    exact ⟨v, h1, h2⟩
theorem opA_ix {K : PySem.W.Frag} : OpA K (rIx K) ixW := by
  intro H x y d e G Qa Q rx ry rg h p
  cases e with
  | int i =>
    cases rep_i ry
    obtain ⟨ds, d', h1, h2, h3⟩ := h
    obtain ⟨a, vs, rfl, h5, h6⟩ := seqOf_rd rg rx h1
    obtain ⟨v, h7, h8⟩ := atI_rep h6 h2
    rcases h5 with h5 | h5
    · exact .inl ⟨a, vs, i, v, rfl, rfl, h5, h7, p.val rg h8 h3⟩
    · exact .inr (.inl ⟨a, vs, i, v, rfl, rfl, h5, h7, p.val rg h8 h3⟩)
  | _ => exact False.elim h
theorem cut_rep {K : PySem.W.Frag} {H : Hp} {vs : List V} {ds : List Dat} (r : Reps K H vs ds) (lo hi : Option Int) : Reps K H (cutV vs lo hi) (cutD ds lo hi) := by
  unfold cutV cutD
  rw [r.length]
  exact (r.drop _).take _
def rSlAny (K : PySem.W.Frag) : V → Option Int → Option Int → Hp → VK → Prop := fun x lo hi H Q => (rSlL K x lo hi H Q ∨ rSlA K x lo hi H Q) ∨ C8.rSlX x lo hi H Q
theorem sl_any {X : Cx} : SlR X (rSlAny X.K) := (sl_list.or sl_tupA).or C8.sl_txt
theorem slA_ok {K : PySem.W.Frag} {H : Hp} {x : V} {d : Dat} {G : AG} {Qa : AQ} {Q : VK} {lo hi : Option Int} (rx : Rep K H x d) (rg : RelG K G H) {z : Bool} (h : slW z d lo hi G Qa) (p : PostZ K G H Qa Q) : rSlAny K x lo hi H Q := by
  have no : (∃ ds, lstOf G d = some ds ∧ nw z (cutD ds lo hi) G Qa) → rSlAny K x lo hi H Q := fun hq => by
    obtain ⟨ds, h1, h2⟩ := hq
    obtain ⟨a, vs, rfl, k1, r1⟩ := lstOf_rd rg rx h1
    exact .inl (.inl ⟨a, vs, rfl, .inl k1, rep_newL rg (cut_rep r1 lo hi) h2 p⟩)
  cases d with
  | tup ds =>
    obtain ⟨a, vs, rfl, h1, h2⟩ := rep_t rx
    refine .inl (.inr ⟨a, vs, rfl, h1.sq, fun hw => ?_, fun _ => p.newT rg (cut_rep h2 lo hi) h⟩)
    have e : cutD ds lo hi = ds := by
      unfold cutD
      rw [← h2.length, hw.1, hw.2]
      rw [List.drop_zero, Nat.sub_zero, h2.length, List.take_length]
    have h' : Qa (.tup ds) G := by
      have q : Qa (.tup (cutD ds lo hi)) G := h
      rw [e] at q
      exact q
    exact p.val rg rx h'
  | str x =>
    cases rep_s rx
    exact .inr ⟨x, rfl, h.1, p.val rg (.str _) h.2⟩
  | _ => exact no h
/-- t[lo:], lo from 1 on: the object is known -/
def rSlK (K : PySem.W.Frag) : V → Option Int → Option Int → Hp → VK → Prop := fun x lo hi H Q => ∃ a xs i, x = .ref a ∧ lo = some i ∧ hi = none ∧ SqT K H a xs ∧ xs ≠ [] ∧ 0 < i ∧ ∀ p o, H p = none → o.dict = none → Q (.ref p) (upd H p (.frz o (.tup (cutV xs lo hi))))
theorem sl_ktup {X : Cx} : SlR X (rSlK X.K) := by
  intro pins s σ H x v vl vu lo hi sl Q I rx hs pl pu h
  obtain ⟨a, xs, i, rfl, e1, e2, hx, hne, h0, q⟩ := h
  cases rx
  obtain ⟨its, r, ht, hz⟩ := I.tuple hx
  have hlen : its.toArray.size = xs.length := by rw [List.size_toArray]; exact r.length.symm
  have l0 : 0 < xs.length := List.length_pos_iff.2 hne
  have hw : ¬ (HT.sIx xs.length 0 lo = 0 ∧ HT.sIx xs.length xs.length hi = xs.length) := by
    rintro ⟨z, _⟩
    rw [e1] at z
    unfold HT.sIx at z
    have n1 : ¬ i < 0 := by omega
    simp only [n1, if_false] at z
    omega
  refine ⟨"tuple", _, PyProof.Rows.slot_tuple_getitem.lookup, ht.typeIs, ?_⟩
  refine HT.getItem_tuple_cut ht hs pl pu (by rw [hlen]; exact hw) ?_ (by rw [hlen]; exact hz)
  rw [hlen]
  have I2 := I.laid (t' := s.toks) (h' := s.heap.push { cls := .type "tuple", data := .seq (List.take (HT.sIx xs.length xs.length hi - HT.sIx xs.length 0 lo) (List.drop (HT.sIx xs.length 0 lo) its)).toArray }) (o := .frz { cls := .type "tuple", data := .seq (List.take (HT.sIx xs.length xs.length hi - HT.sIx xs.length 0 lo) (List.drop (HT.sIx xs.length 0 lo) its)).toArray } (.tup (cutV xs lo hi))) (fun b ob q => Heap.get?_push_of_some _ q) (Nat.le_refl _)
    ⟨Heap.get?_push_size _ rfl, Nat.le_trans (cutV_length xs lo hi) hz, _, (r.drop (HT.sIx xs.length 0 lo)).take (HT.sIx xs.length xs.length hi - HT.sIx xs.length 0 lo), IsTup.new _ _⟩
  exact ⟨.ref s.heap.objs.size, _, I2, rfl, q _ _ (I.hok.fresh (Nat.le_refl _)) rfl⟩
/-! ### built-ins -/
def BF.nm : BF → Str
  | .len => "len" | .int => "int" | .tuple => "tuple" | .list => "list" | .isinst => "isinstance" | .all => "all" | .any => "any" | .sum1 => "sum" | .sum2 => "sum" | .min2 => "min" | .max2 => "max" | .ord => "ord" | .srt => "sorted" | .max1 => "max" | .str => "str" | .ktuple => "tuple"
def BF.val : BF → Value
  | .len => .builtin "len" | .int => .type "int" | .tuple => .type "tuple" | .list => .type "list" | .isinst => .builtin "isinstance" | .all => .builtin "all" | .any => .builtin "any" | .sum1 => .builtin "sum" | .sum2 => .builtin "sum"
  | .min2 => .builtin "min" | .max2 => .builtin "max" | .ord => .builtin "ord" | .srt => .builtin "sorted" | .max1 => .builtin "max" | .str => .type "str" | .ktuple => .type "tuple"
def BltA (K : PySem.W.Frag) (r : List V → Hp → VK → Prop) (rA : List Dat → AG → AQ → Prop) : Prop :=
  ∀ (H : Hp) (xs : List V) (ds : List Dat) (G : AG) (Qa : AQ) (Q : VK), Reps K H xs ds → RelG K G H → rA ds G Qa → PostZ K G H Qa Q → r xs H Q
theorem reps1 {K : PySem.W.Frag} {H : Hp} {xs : List V} {d : Dat} (r : Reps K H xs [d]) : ∃ x, xs = [x] ∧ Rep K H x d := by
  cases r with
  | cons a b => cases b; exact ⟨_, rfl, a⟩
theorem reps2 {K : PySem.W.Frag} {H : Hp} {xs : List V} {d e : Dat} (r : Reps K H xs [d, e]) : ∃ x y, xs = [x, y] ∧ Rep K H x d ∧ Rep K H y e := by
  cases r with
  | cons a b =>
    obtain ⟨y, rfl, h⟩ := reps1 b
    exact ⟨_, _, rfl, a, h⟩
theorem bls_rep {K : PySem.W.Frag} {H : Hp} : ∀ {ds : List Dat} {vs : List V} {bs : List Bool}, Reps K H vs ds → blsOf ds = some bs → vs = bs.map V.bl
  | [], _, _, .nil, e => by cases e; rfl
  | d :: ds, _, bs, .cons a r, e => by
    cases d with
    | bl b =>
      cases q : blsOf ds with
      | none => simp only [blsOf, q] at e; cases e
      | some cs =>
        simp only [blsOf, q] at e
        cases e
        cases rep_b a
        rw [List.map_cons, bls_rep r q]
    | _ => cases e
theorem ints_rep {K : PySem.W.Frag} {H : Hp} : ∀ {ds : List Dat} {vs : List V} {bs : List Int}, Reps K H vs ds → intsOf ds = some bs → vs = bs.map V.int
  | [], _, _, .nil, e => by cases e; rfl
  | d :: ds, _, bs, .cons a r, e => by
    cases d with
    | int b =>
      cases q : intsOf ds with
      | none => simp only [intsOf, q] at e; cases e
      | some cs =>
        simp only [intsOf, q] at e
        cases e
        cases rep_i a
        rw [List.map_cons, ints_rep r q]
    | _ => cases e
/-- what is asked of an own class for isinstance -/
structure InsC (K : PySem.W.Frag) (C : Addr) : Prop where
  cl : Cls K C
  ha : PySem.W.findIn K (.ref C) "__class__" = some (some (.builtin "object.__class__"))
  hn : PySem.W.specialIn K (.builtin "object.__class__") "__get__" = some (some (.builtin "getset_descriptor.__get__"))
  ht : PySem.W.takesIn K (.builtin "object.__class__") = some true
  hm : PySem.W.mroIn K C (.type "object") = some true
def tyVal (K : PySem.W.Frag) : String ⊕ Str → Value
  | .inl t => .type t
  | .inr C => .ref (He.ga K C)
/-- what is told of classes is so -/
structure KtOk (K : PySem.W.Frag) : Prop where
  own : ∀ C, Tb.own C = true → InsC K (He.ga K C)
  exo : ∀ C, Tb.exo C = true → ExcC K (He.ga K C)
  sub : ∀ t n b, Tb.sub t n = some b → PySem.W.kitOne K (tyVal K t) (tyVal K n) = some b
  xm : ∀ C D b, Tb.xm C D = some b → PySem.W.exmOne K (.ref (He.ga K C)) (.ref (He.ga K D)) = some b
/-- a value's type, exceptions too -/
def TyA (K : PySem.W.Frag) (H : Hp) (x : V) (t : Value) : Prop := TyX K H x t ∨ ∃ a C dx, x = .ref a ∧ t = .ref C ∧ H a = some (ExcB a C dx) ∧ ExcC K C ∧ ∀ d, dx = some d → ∃ fs, H d = some (ExdB d fs)
/-- a value's type, by what is known -/
theorem ty_rep0 {K : PySem.W.Frag} {G : AG} {H : Hp} {x : V} {d : Dat} {t : String} (rx : Rep K H x d) (rg : RelG K G H) (e : tyOf G d = some t) : TyX K H x (.type t) := by
  cases d with
  | non => cases rep_n rx; cases e; exact .base .non
  | bl b => cases rep_b rx; cases e; exact .base (.bl b)
  | int b => cases rep_i rx; cases e; exact .base (.int b)
  | str b => cases rep_s rx; cases e; exact .base (.str b)
  | tup ds =>
    cases e
    obtain ⟨a, vs, rfl, h1, _⟩ := rep_t rx
    rcases h1 with h1 | ⟨o, h1⟩ | ⟨o, _, _, h1, h2, _⟩
    · exact .base (.tup h1)
    · exact .fTuple h1
    · exact .kTuple h1 h2
  | ktp ds =>
    cases e
    cases rx with
    | ktp h _ => obtain ⟨o, h, _⟩ := h; exact .fTuple h
  | lst ds =>
    cases e
    cases rx with
    | lst h _ => obtain ⟨o, h⟩ := h; exact .base (.frz h)
  | ref a =>
    cases rep_r rx
    cases q : G a with
    | none => simp only [tyOf, q] at e; cases e
    | some o =>
      cases o with
      | lst ds =>
        simp only [tyOf, q] at e
        cases e
        obtain ⟨vs, h1, _⟩ := rg.lst q
        exact .base (.lst h1)
      | dk kvs =>
        simp only [tyOf, q] at e
        cases e
        obtain ⟨vk, h1, _⟩ := (show AOk K H a (.dk kvs) from rg.g a _ q)
        exact .base (.dK h1)
      | _ => simp only [tyOf, q] at e; cases e
  | _ => cases e
theorem ty_rep {K : PySem.W.Frag} {G : AG} {H : Hp} {x : V} {d : Dat} {t : String ⊕ Str} (kt : KtOk K) (rx : Rep K H x d) (rg : RelG K G H) (e : tyN G d = some t) : TyA K H x (tyVal K t) := by
  have base : (match tyOf G d with | some t => some (Sum.inl t) | none => none) = some t → TyA K H x (tyVal K t) := fun e => by
    cases q : tyOf G d with
    | none => rw [q] at e; cases e
    | some s =>
      rw [q] at e
      cases e
      exact .inl (ty_rep0 rx rg q)
  cases d with
  | exc C fl ds =>
    have e : (if Tb.exo C = true then some (Sum.inr C) else none) = some t := e
    split at e
    · rename_i hc
      cases e
      cases rx with
      | @exc a dx _ _ vs _ h1 h2 h3 =>
        refine .inr ⟨a, _, dx, rfl, rfl, h1, kt.exo C hc, fun d hd => ?_⟩
        subst hd
        exact ⟨_, h2.2⟩
    · cases e
  | ref a =>
    cases rep_r rx
    have e : (match G a with
      | some (.lst _) => some (.inl "list")
      | some (.dk _) => some (.inl "dict")
      | some (.ins C _) => if Tb.own C = true then some (.inr C) else none
      | _ => none) = some t := e
    split at e
    · rename_i ds q
      cases e
      obtain ⟨vs, h1, _⟩ := rg.lst q
      exact .inl (.base (.lst h1))
    · rename_i kvs q
      cases e
      obtain ⟨vk, h1, _⟩ := (show AOk K H a (.dk kvs) from rg.g a _ q)
      exact .inl (.base (.dK h1))
    · rename_i C fs q
      split at e
      · rename_i hc
        cases e
        obtain ⟨dx, vf, h1, _⟩ := (show AOk K H a (.ins C fs) from rg.g a _ q)
        have c := kt.own C hc
        exact .inl (.base (.ins h1 c.cl c.ha c.hn c.ht c.hm))
      · cases e
    · cases e
  | _ => exact base e
theorem clsN_ok {K : PySem.W.Frag} {H : Hp} {v : V} {d : Dat} {n : String ⊕ Str} (r : Rep K H v d) (e : clsN d = some n) : ClsV v (tyVal K n) := by
  cases d with
  | ty m => cases e; cases rep_ty r; exact .ty m
  | gf C => cases e; cases r; exact .own _
  | _ => cases e
theorem kitN_ok {K : PySem.W.Frag} (kt : KtOk K) {t n : String ⊕ Str} {b : Bool} (h : kitN t n = some b) : PySem.W.kitOne K (tyVal K t) (tyVal K n) = some b := by
  cases t with
  | inl t =>
    cases n with
    | inl n => exact kit_ty h
    | inr n => exact kt.sub _ _ _ h
  | inr t => cases n <;> exact kt.sub _ _ _ h
theorem allTy_ok {K : PySem.W.Frag} {H : Hp} : ∀ {cs : List Dat} {vs : List V}, allTy cs = true → Reps K H vs cs → ∃ us, Paired ClsV vs us
  | [], _, _, .nil => ⟨[], .nil⟩
  | d :: cs, _, e, .cons a r => by
    unfold allTy at e
    rw [Bool.and_eq_true] at e
    obtain ⟨n, hn⟩ := Option.isSome_iff_exists.mp e.1
    obtain ⟨us, h⟩ := allTy_ok e.2 r
    exact ⟨_, .cons (clsN_ok a hn) h⟩
theorem isiAny_ok {K : PySem.W.Frag} (kt : KtOk K) {H : Hp} {t : String ⊕ Str} : ∀ {cs : List Dat} {vs : List V} {b : Bool}, isiAny t cs = some b → Reps K H vs cs → ∃ us, Paired ClsV vs us ∧ PySem.W.kitAny K (tyVal K t) us = some b
  | [], _, _, e, .nil => by cases e; exact ⟨[], .nil, kitAny_nil⟩
  | d :: cs, _, b, e, .cons a r => by
    unfold isiAny at e
    split at e
    · rename_i n hn
      have c := clsN_ok a hn
      split at e
      · rename_i q
        split at e
        · rename_i hq
          cases e
          obtain ⟨us, h1⟩ := allTy_ok hq r
          exact ⟨_, .cons c h1, kitAny_cons (kitN_ok kt q) (fun z => by cases z) (fun _ => rfl)⟩
        · cases e
      · rename_i q
        obtain ⟨us, h1, h2⟩ := isiAny_ok kt e r
        exact ⟨_, .cons c h1, kitAny_cons (kitN_ok kt q) (fun _ => h2) (fun z => by cases z)⟩
      · cases e
    · cases e
/-- isinstance -/
def rIsA1 (K : PySem.W.Frag) : List V → Hp → VK → Prop := fun xs H Q => ∃ (x c : V) (t u : Value) (b : Bool), xs = [x, c] ∧ ClsV c u ∧ TyA K H x t ∧ PySem.W.kitOne K t u = some b ∧ Q (.bl b) H
def rIsAT (K : PySem.W.Frag) : List V → Hp → VK → Prop := fun xs H Q => ∃ (x : V) (tp : Addr) (cs : List V) (t : Value) (us : List Value) (b : Bool), xs = [x, .ref tp] ∧ Rd H tp (.tup cs) ∧ Paired ClsV cs us ∧ TyA K H x t ∧ PySem.W.kitAny K t us = some b ∧ Q (.bl b) H
def rIsAK (K : PySem.W.Frag) : List V → Hp → VK → Prop := fun xs H Q => ∃ (x : V) (tp : Addr) (dd : Option Addr) (us : List Value) (n : Nat) (sl : Array (Option Value)) (t : Value) (b : Bool), xs = [x, .ref tp] ∧
  K.lookup tp = some ⟨.type "tuple", dd, .seq us.toArray n, sl⟩ ∧ TyA K H x t ∧ PySem.W.kitAny K t us = some b ∧ Q (.bl b) H
def rIsiA (K : PySem.W.Frag) : List V → Hp → VK → Prop := fun xs H Q => rIsA1 K xs H Q ∨ rIsAT K xs H Q ∨ rIsAK K xs H Q
theorem excB_at {P : Program} {w : World} {H : Hp} {h : Heap} {a C : Addr} {dx : Option Addr} (hok : HOk P w H h) (e : H a = some (ExcB a C dx)) : ∃ (oe : Obj) (vs : Array Value), h.get? a = some oe ∧ oe.cls = .ref C ∧ oe.dict = dx ∧ oe.data = .fields vs := by
  obtain ⟨z, _, _⟩ := hok a _ e
  exact z
theorem exdB_at {P : Program} {w : World} {H : Hp} {h : Heap} {d : Addr} {fs : List (Str × V)} (hok : HOk P w H h) (e : H d = some (ExdB d fs)) : ∃ mA, h.Ns1 d mA ∧ ∀ f, RelO (fs.lookup f) (mA f) := by
  obtain ⟨z, _, _⟩ := hok d _ e
  exact z
theorem excB_inst {P : Program} {w : World} {H : Hp} {h : Heap} {a C : Addr} {dx : Option Addr} (hok : HOk P w H h) (e : H a = some (ExcB a C dx)) (hd : ∀ d, dx = some d → ∃ fs, H d = some (ExdB d fs)) : ∃ oe od, PySem.W.InstAt h a oe C od := by
  obtain ⟨oe, vs, h1, h2, h3, h4⟩ := excB_at hok e
  cases dx with
  | none => exact ⟨oe, none, h1, h2, by unfold PySem.W.notCls; rw [h4] <;> rfl, by rw [h3]; exact trivial⟩
  | some d =>
    obtain ⟨fs, hf⟩ := hd d rfl
    obtain ⟨mA, ⟨od, es, ep, ho, _⟩, _⟩ := exdB_at hok hf
    exact ⟨oe, some od, h1, h2, by unfold PySem.W.notCls; rw [h4] <;> rfl, by rw [h3]; exact ho⟩
theorem kit_ofA {X : Cx} {pins : List (Addr × Obj)} {σ : L2.St} {H : Hp} {s : Shared} {x : V} {u t : Value} (I : Inv X pins σ H s) (rx : RelV x u) (ty : TyA X.K H x t) : ∃ P : Heap → Prop, PySem.W.KitX X.K u t P ∧ P s.heap ∧ u ≠ .builtin "__main__.__loader__#opaque" := by
  rcases ty with ty | ⟨a, C, dx, rfl, rfl, h1, c, hd⟩
  · exact kit_of I rx ty
  · cases (show u = Value.ref a from rx)
    obtain ⟨oe, od, J⟩ := excB_inst I.hok h1 hd
    obtain ⟨cd, hcd, _⟩ := PySem.W.any_some c.hd
    exact ⟨_, PySem.W.kitx_exc (by rw [hcd]; rfl) c.hg c.hk c.hs c.ha c.hn c.ht c.hm, J, fun z => nomatch z⟩
theorem call_isA1 {X : Cx} : CallR X (.builtin "isinstance") (rIsA1 X.K) := by
  intro pins s σ H xs us Q I r h
  obtain ⟨x, c, t, u, b, rfl, k, ty, e, q⟩ := h
  obtain ⟨u1, u2, rfl, r1, r2⟩ := vals2 r
  have e2 := k.eq r2
  subst e2
  obtain ⟨P, Z, p, hx⟩ := kit_ofA I r1 ty
  exact PySem.W.kia_one Z I.kIn p e hx fun tk => ⟨.bl b, H, I.tok tk, rfl, q⟩
theorem call_isAT {X : Cx} : CallR X (.builtin "isinstance") (rIsAT X.K) := by
  intro pins s σ H xs us Q I r h
  obtain ⟨x, tp, cs, t, ws, b, rfl, hT, k, ty, e, q⟩ := h
  obtain ⟨u1, u2, rfl, r1, r2⟩ := vals2 r
  cases (show u2 = Value.ref tp from r2)
  obtain ⟨P, Z, p, hx⟩ := kit_ofA I r1 ty
  obtain ⟨_, its, rv, o, h1, h2, n, h3⟩ := (show ObjOk X.prog X.w H s.heap tp (.tup cs) from hT.ok I.hok)
  have e3 := ClsV.all k rv
  subst e3
  obtain ⟨oc, od, dt, sl⟩ := o
  simp only at h2 h3
  subst h2 h3
  exact PySem.W.kia_tup Z I.kIn p h1 e hx fun tk => ⟨.bl b, H, I.tok tk, rfl, q⟩
theorem call_isAK {X : Cx} : CallR X (.builtin "isinstance") (rIsAK X.K) := by
  intro pins s σ H xs us Q I r h
  obtain ⟨x, tp, dd, ws, n, sl, t, b, rfl, hk, ty, e, q⟩ := h
  obtain ⟨u1, u2, rfl, r1, r2⟩ := vals2 r
  cases (show u2 = Value.ref tp from r2)
  obtain ⟨P, Z, p, hx⟩ := kit_ofA I r1 ty
  exact PySem.W.kia_tup Z I.kIn p (I.kIn _ _ hk) e hx fun tk => ⟨.bl b, H, I.tok tk, rfl, q⟩
theorem call_isiA {X : Cx} : CallR X (.builtin "isinstance") (rIsiA X.K) := call_isA1.or (call_isAT.or call_isAK)
theorem blt1 {f : BF} {ds : List Dat} {G : AG} {Q : AQ} {z : Bool} (h : bltW z f ds G Q) (hf : f = .len ∨ f = .int ∨ f = .tuple ∨ f = .list ∨ f = .all ∨ f = .any ∨ f = .sum1 ∨ f = .srt ∨ f = .max1) : ∃ x, ds = [x] := by
  rcases hf with rfl | rfl | rfl | rfl | rfl | rfl | rfl | rfl | rfl <;>
  · match ds, h with
    | [x], _ => exact ⟨x, rfl⟩
    | [], h => exact False.elim h
    | a :: _ :: _, h => cases a <;> exact False.elim h
theorem blt2 {f : BF} {ds : List Dat} {G : AG} {Q : AQ} {z : Bool} (h : bltW z f ds G Q) (hf : f = .isinst ∨ f = .min2 ∨ f = .max2 ∨ f = .sum2) : ∃ x y, ds = [x, y] := by
  rcases hf with rfl | rfl | rfl | rfl <;>
  · match ds, h with
    | [x, y], _ => exact ⟨x, y, rfl⟩
    | [], h => exact False.elim h
    | [a], h => cases a <;> exact False.elim h
    | a :: b :: _ :: _, h => cases a <;> cases b <;> exact False.elim h
theorem bltA_isi {K : PySem.W.Frag} (kt : KtOk K) {z : Bool} : BltA K (rIsiA K) (bltW z .isinst) := by
  intro H xs ds G Qa Q r rg h p
  obtain ⟨d, c, rfl⟩ := blt2 h (.inl rfl)
  obtain ⟨x, y, rfl, r1, r2⟩ := reps2 r
  cases c with
  | ty n =>
    obtain ⟨t, b, h1, h2, h3⟩ := h
    exact .inl ⟨x, y, _, _, b, rfl, clsN_ok r2 rfl, ty_rep kt r1 rg h1, kitN_ok kt h2, p.val rg (.bl _) h3⟩
  | gf n =>
    obtain ⟨t, b, h1, h2, h3⟩ := h
    exact .inl ⟨x, y, _, _, b, rfl, clsN_ok r2 rfl, ty_rep kt r1 rg h1, kitN_ok kt h2, p.val rg (.bl _) h3⟩
  | tup cs =>
    obtain ⟨a, vs, rfl, h4, h5⟩ := rep_t r2
    obtain ⟨t, b, h1, h2, h3⟩ := h
    obtain ⟨us, h6, h7⟩ := isiAny_ok kt (K := K) h2 h5
    rcases h4 with h4 | ⟨o, h4⟩ | ⟨o, its, n, h4, h8, h9, h10, h11⟩
    · exact .inr (.inl ⟨x, a, vs, _, us, b, rfl, .inl h4, h6, ty_rep kt r1 rg h1, h7, p.val rg (.bl _) h3⟩)
    · exact .inr (.inl ⟨x, a, vs, _, us, b, rfl, .inr ⟨o, h4⟩, h6, ty_rep kt r1 rg h1, h7, p.val rg (.bl _) h3⟩)
    · obtain ⟨oc, od, dt, sl⟩ := o
      cases (show oc = .type "tuple" from h8)
      cases (show dt = .seq its n from h9)
      have e := ClsV.all h6 h11
      have e2 : its = us.toArray := by rw [← e]
      rw [e2] at h4
      exact .inr (.inr ⟨x, a, od, us, n, sl, _, b, rfl, h4, ty_rep kt r1 rg h1, h7, p.val rg (.bl _) h3⟩)
  | _ => exact False.elim h
theorem bltA_len {K : PySem.W.Frag} {z : Bool} : BltA K (fun xs H Q => ∃ x n, xs = [x] ∧ LenV K x H n ∧ Q (.int n) H) (bltW z .len) := by
  intro H xs ds G Qa Q r rg h p
  obtain ⟨d, rfl⟩ := blt1 h (.inl rfl)
  obtain ⟨x, rfl, r1⟩ := reps1 r
  obtain ⟨es, h1, h2⟩ := h
  obtain ⟨a, vs, rfl, h3, h4⟩ := seqOf_rd rg r1 h1
  refine ⟨.ref a, vs.length, rfl, ?_, by rw [h4.length]; exact p.val rg (.int _) h2⟩
  rcases h3 with h3 | h3
  · exact .inl ⟨vs, h3, rfl⟩
  · exact .inr ⟨vs, h3, rfl⟩
theorem bltA_int {K : PySem.W.Frag} {z : Bool} : BltA K (fun xs H Q => (∃ i, xs = [.int i] ∧ Q (.int i) H) ∨ ∃ k, xs = [.bl k] ∧ Q (.int (if k then 1 else 0)) H) (bltW z .int) := by
  intro H xs ds G Qa Q r rg h p
  obtain ⟨d, rfl⟩ := blt1 h (.inr (.inl rfl))
  obtain ⟨x, rfl, r1⟩ := reps1 r
  cases d with
  | int i => cases rep_i r1; exact .inl ⟨i, rfl, p.val rg (.int _) h⟩
  | bl i => cases rep_b r1; exact .inr ⟨i, rfl, p.val rg (.int _) h⟩
  | _ => exact False.elim h
theorem bltA_tuple {K : PySem.W.Frag} {z : Bool} : BltA K (fun xs H Q => ∃ p ys, xs = [.ref p] ∧ ((SqL K H p ys ∧ ∀ l, H l = none → Q (.ref l) (upd H l (.tup ys))) ∨ (SqT K H p ys ∧ Q (.ref p) H))) (bltW z .tuple) := by
  intro H xs ds G Qa Q r rg h p
  obtain ⟨d, rfl⟩ := blt1 h (.inr (.inr (.inl rfl)))
  obtain ⟨x, rfl, r1⟩ := reps1 r
  obtain ⟨es, h1, h2⟩ := h
  have lq : lstOf G d = some es → ∃ p ys, [x] = [V.ref p] ∧ ((SqL K H p ys ∧ ∀ l, H l = none → Q (.ref l) (upd H l (.tup ys))) ∨ (SqT K H p ys ∧ Q (.ref p) H)) := fun e => by
    obtain ⟨a, vs, rfl, h3, h4⟩ := lstOf_rd rg r1 e
    exact ⟨a, vs, rfl, .inl ⟨.inl h3, p.newT rg h4 h2⟩⟩
  cases d with
  | tup es =>
    cases h1
    obtain ⟨a, vs, rfl, h3, h4⟩ := rep_t r1
    exact ⟨a, vs, rfl, .inr ⟨h3.sq, p.val rg r1 h2⟩⟩
  | kls es =>
    cases h1
    cases r1 with
    | kls h3 h4 => exact ⟨_, _, rfl, .inl ⟨h3.sq, p.newT rg h4 h2⟩⟩
  | ktp es =>
    cases h1
    cases r1 with
    | ktp h3 h4 =>
      obtain ⟨o, h3, _⟩ := h3
      exact ⟨_, _, rfl, .inr ⟨.inl (.inr ⟨o, h3⟩), p.val rg (.tup (.inr (.inl ⟨o, h3⟩)) h4) h2⟩⟩
  | lst es => exact lq h1
  | ref a => exact lq h1
  | _ => cases h1
theorem bltA_list {K : PySem.W.Frag} {z : Bool} : BltA K (fun xs H Q => ∃ p ys, xs = [.ref p] ∧ (SqL K H p ys ∨ SqT K H p ys) ∧ ∀ l, H l = none → Q (.ref l) (upd H l (.lst ys))) (bltW z .list) := by
  intro H xs ds G Qa Q r rg h p
  obtain ⟨d, rfl⟩ := blt1 h (.inr (.inr (.inr (.inl rfl))))
  obtain ⟨x, rfl, r1⟩ := reps1 r
  obtain ⟨es, h1, h2⟩ := h
  obtain ⟨a, vs, rfl, h3, h4⟩ := seqOf_rd rg r1 h1
  exact ⟨a, vs, rfl, h3, rep_newL rg h4 h2 p⟩
theorem bltA_all {K : PySem.W.Frag} {z : Bool} : BltA K (rAll K) (bltW z .all) := by
  intro H xs ds G Qa Q r rg h p
  obtain ⟨d, rfl⟩ := blt1 h (.inr (.inr (.inr (.inr (.inl rfl)))))
  obtain ⟨x, rfl, r1⟩ := reps1 r
  obtain ⟨es, bs, h1, h2, h3⟩ := h
  obtain ⟨a, vs, rfl, h4, h5⟩ := lstOf_rd rg r1 h1
  cases bls_rep h5 h2
  exact ⟨a, bs, rfl, .inl h4, p.val rg (.bl _) h3⟩
theorem bltA_any {K : PySem.W.Frag} {z : Bool} : BltA K (rAny K) (bltW z .any) := by
  intro H xs ds G Qa Q r rg h p
  obtain ⟨d, rfl⟩ := blt1 h (.inr (.inr (.inr (.inr (.inr (.inl rfl))))))
  obtain ⟨x, rfl, r1⟩ := reps1 r
  obtain ⟨es, bs, h1, h2, h3⟩ := h
  obtain ⟨a, vs, rfl, h4, h5⟩ := lstOf_rd rg r1 h1
  cases bls_rep h5 h2
  exact ⟨a, bs, rfl, .inl h4, p.val rg (.bl _) h3⟩
theorem bltA_sum1 {K : PySem.W.Frag} {z : Bool} : BltA K (rSum K) (bltW z .sum1) := by
  intro H xs ds G Qa Q r rg h p
  obtain ⟨d, rfl⟩ := blt1 h (.inr (.inr (.inr (.inr (.inr (.inr (.inl rfl)))))))
  obtain ⟨x, rfl, r1⟩ := reps1 r
  obtain ⟨es, bs, h1, h2, h3⟩ := h
  obtain ⟨a, vs, rfl, h4, h5⟩ := lstOf_rd rg r1 h1
  cases ints_rep h5 h2
  exact ⟨a, bs, rfl, .inl h4, p.val rg (.int _) h3⟩
theorem bltA_min2 {K : PySem.W.Frag} {z : Bool} : BltA K (fun xs H Q => ∃ i j, xs = [.int i, .int j] ∧ Q (.int (if j < i then j else i)) H) (bltW z .min2) := by
  intro H xs ds G Qa Q r rg h p
  obtain ⟨d, e, rfl⟩ := blt2 h (.inr (.inl rfl))
  obtain ⟨x, y, rfl, r1, r2⟩ := reps2 r
  cases d <;> cases e <;> first | exact False.elim h | skip
  cases rep_i r1
  cases rep_i r2
  exact ⟨_, _, rfl, p.val rg (.int _) h⟩
theorem bltA_max2 {K : PySem.W.Frag} {z : Bool} : BltA K (fun xs H Q => ∃ i j, xs = [.int i, .int j] ∧ Q (.int (if j > i then j else i)) H) (bltW z .max2) := by
  intro H xs ds G Qa Q r rg h p
  obtain ⟨d, e, rfl⟩ := blt2 h (.inr (.inr (.inl rfl)))
  obtain ⟨x, y, rfl, r1, r2⟩ := reps2 r
  cases d <;> cases e <;> first | exact False.elim h | skip
  cases rep_i r1
  cases rep_i r2
  exact ⟨_, _, rfl, p.val rg (.int _) h⟩
theorem take_flat {ls : List (List Dat)} {i : Nat} {b : List Dat} (h : ls[i]? = some b) : (ls.take (i + 1)).flatten = (ls.take i).flatten ++ b := by
  obtain ⟨h1, h2⟩ := List.getElem?_eq_some_iff.mp h
  rw [List.take_succ, h, List.flatten_append]
  simp
theorem flat_le {ls : List (List Dat)} (i : Nat) : (ls.take i).flatten.length ≤ ls.flatten.length := by
  conv => rhs; rw [← List.take_append_drop i ls, List.flatten_append, List.length_append]
  omega
theorem tupsOf_get : ∀ {rows : List Dat} {ls : List (List Dat)}, tupsOf rows = some ls → rows = ls.map Dat.tup
  | [], ls, h => by cases h; rfl
  | d :: r, ls, h => by
    cases d with
    | tup b =>
      cases q : tupsOf r with
      | none => simp only [tupsOf, q] at h; cases h
      | some l2 =>
        simp only [tupsOf, q] at h
        cases h
        rw [List.map_cons, tupsOf_get q]
    | _ => cases h
theorem lstsOf_get {G : AG} : ∀ {rows : List Dat} {ls : List (List Dat)}, lstsOf G rows = some ls → rows.length = ls.length ∧ ∀ (i : Nat) (d : Dat), rows[i]? = some d → ∃ b, ls[i]? = some b ∧ lstOf G d = some b
  | [], ls, h => by cases h; exact ⟨rfl, fun i d e => by simp at e⟩
  | x :: r, ls, h => by
    unfold lstsOf at h
    split at h
    · rename_i b l2 e1 e2
      cases h
      obtain ⟨h1, h2⟩ := lstsOf_get e2
      refine ⟨congrArg (· + 1) h1, fun i d e => ?_⟩
      cases i with
      | zero =>
        simp only [List.getElem?_cons_zero, Option.some.injEq] at e
        subst e
        exact ⟨b, rfl, e1⟩
      | succ i => exact h2 i d e
    · cases h
theorem bltA_sum2T {K : PySem.W.Frag} {H : Hp} {a : Addr} {xs : List V} {rows : List Dat} {t0 : List Dat} {y : V} {G : AG} {Qa : AQ} {Q : VK} (rg : RelG K G H) (hl : SqL K H a xs) (r1 : Reps K H xs rows) (hst : ∀ H', Fra G H G H' → RelG K G H' → ∃ xs', SqL K H' a xs' ∧ Reps K H' xs' rows) (r2 : Rep K H y (.tup t0))
    (h : ∃ ls, tupsOf rows = some ls ∧ t0.length + ls.flatten.length ≤ sizeLine ∧ Qa (.tup (t0 ++ ls.flatten)) G) (p : PostE K G H Qa Q) : rSum2 (rCatTup K) K [.ref a, y] H Q := by
  obtain ⟨ls, e, hz, q⟩ := h
  have e := tupsOf_get e
  obtain ⟨b, ys, rfl, h3, _⟩ := rep_t r2
  have lr : rows.length = ls.length := by rw [e, List.length_map]
  refine ⟨a, b, xs, "tuple", rfl, hl, .inr ⟨rfl, ys, h3.sq⟩, fun i t H' => Fra G H G H' ∧ RelG K G H' ∧ Rep K H' t (.tup (t0 ++ (ls.take i).flatten)), ⟨.refl, rg, by simpa using r2⟩, ?_⟩
  rintro i t H' ⟨f, g, rt⟩
  obtain ⟨c, zs, rfl, _, _⟩ := rep_t rt
  obtain ⟨xs', q1, q2⟩ := hst H' f g
  have l1 := r1.length
  have l2 := q2.length
  refine ⟨⟨c, rfl⟩, xs', q1, by omega, fun hi => ?_, fun x hx => ?_⟩
  · rw [List.take_of_length_le (by omega)] at rt
    exact p _ _ _ _ f g rt q
  · obtain ⟨d, hd, rd⟩ := q2.getV hx
    rw [e, List.getElem?_map] at hd
    cases eb : ls[i]? with
    | none => rw [eb] at hd; cases hd
    | some bb =>
      rw [eb] at hd
      cases hd
      have l1 := flat_le (ls := ls) (i + 1)
      rw [take_flat eb] at l1
      rw [List.length_append] at l1
      refine add_tups (Qa := fun d G' => d = .tup ((t0 ++ (ls.take i).flatten) ++ bb) ∧ G' = G) rt rd g (by rw [List.length_append]; omega) ⟨rfl, rfl⟩ ⟨fun d G' v H2 f2 g2 r2 hq => ?_, fun _ _ _ _ _ _ _ _ _ hq => nomatch hq.1⟩
      obtain ⟨rfl, rfl⟩ := hq
      refine ⟨f.trans f2, g2, ?_⟩
      rw [take_flat eb, ← List.append_assoc]
      exact r2
theorem bltA_sum2L {K : PySem.W.Frag} {H : Hp} {a : Addr} {xs : List V} {rows : List Dat} {d0 : Dat} {y : V} {G : AG} {Qa : AQ} {Q : VK} {z : Bool} (rg : RelG K G H) (hl : SqL K H a xs) (r1 : Reps K H xs rows) (hst : ∀ H', Fra G H G H' → RelG K G H' → ∃ xs', SqL K H' a xs' ∧ Reps K H' xs' rows) (r2 : Rep K H y d0)
    (h : ∃ s0 ls, lstOf G d0 = some s0 ∧ lstsOf G rows = some ls ∧ s0.length + ls.flatten.length ≤ sizeLine ∧ if ls = [] then Qa d0 G else nw z (s0 ++ ls.flatten) G Qa) (p : PostZ K G H Qa Q) : rSum2 rCatR K [.ref a, y] H Q := by
  obtain ⟨s0, ls, e0, e, hz, q⟩ := h
  obtain ⟨ln, e⟩ := lstsOf_get e
  obtain ⟨b, ys, rfl, h3, r3⟩ := lstOf_rd rg r2 e0
  have lx : xs.length = ls.length := by rw [r1.length, ln]
  refine ⟨a, b, xs, "list", rfl, hl, .inl ⟨rfl, ys, h3⟩, fun i t H' => i ≤ ls.length ∧ (Fra G H G H' ∧ RelG K G H') ∧ ∃ l vs, t = .ref l ∧ Rd H' l (.lst vs) ∧ Reps K H' vs (s0 ++ (ls.take i).flatten) ∧
    ((i = 0 ∧ l = b ∧ H' = H) ∨ (0 < i ∧ ∃ H1, H1 l = none ∧ H' = upd H1 l (.lst vs) ∧ Fra G H G H1 ∧ RelG K G H1 ∧ Reps K H1 vs (s0 ++ (ls.take i).flatten))), ⟨Nat.zero_le _, ⟨.refl, rg⟩, b, ys, rfl, h3, by simpa using r3, .inl ⟨rfl, rfl, rfl⟩⟩, ?_⟩
  rintro i t H' ⟨hi0, ⟨f, g⟩, l, vs, rfl, hr, rv, h4⟩
  obtain ⟨xs', q1, q2⟩ := hst H' f g
  have l1 := r1.length
  have l2 := q2.length
  refine ⟨⟨l, rfl⟩, xs', q1, by omega, fun hi => ?_, fun x hx => ?_⟩
  · rw [List.take_of_length_le (by omega)] at rv h4
    rcases h4 with ⟨rfl, rfl, rfl⟩ | ⟨hpos, H1, k1, rfl, k2, k3, k4⟩
    · have : ls = [] := List.length_eq_zero_iff.mp (by omega)
      subst this
      rw [if_pos rfl] at q
      exact p.val rg r2 q
    · have hn : ls ≠ [] := fun z => by rw [z] at hi0; simp at hi0; omega
      rw [if_neg hn] at q
      exact rep_newL k3 k4 q (p.fra k2) l k1
  · obtain ⟨d, hd, rd⟩ := q2.getV hx
    obtain ⟨bb, eb, ed⟩ := e i d hd
    obtain ⟨c, zs, rfl, k1, k2⟩ := lstOf_rd g rd ed
    have l1 := flat_le (ls := ls) (i + 1)
    rw [take_flat eb] at l1
    rw [List.length_append] at l1
    have lv := rv.length
    have lz := k2.length
    rw [List.length_append] at lv
    have hlt := (List.getElem?_eq_some_iff.mp eb).1
    refine ⟨l, c, vs, zs, rfl, rfl, hr, k1, by omega, fun u hu => ⟨hlt, ⟨f.trans (.newT hu), g.newT hu⟩, u, vs ++ zs, rfl, .inl upd_same, ?_, .inr ⟨by omega, H', hu, rfl, f, g, ?_⟩⟩⟩
    · rw [take_flat eb, ← List.append_assoc]
      exact (rv.append k2).mono (.new hu)
    · rw [take_flat eb, ← List.append_assoc]
      exact rv.append k2
theorem bltA_sum2 {K : PySem.W.Frag} {z : Bool} : BltA K (fun vs H Q => rSum2 rCatR K vs H Q ∨ rSum2 (rCatTup K) K vs H Q) (bltW z .sum2) := by
  intro H xs ds G Qa Q r rg h p
  obtain ⟨d, e, rfl⟩ := blt2 h (.inr (.inr (.inr rfl)))
  obtain ⟨x, y, rfl, r1, r2⟩ := reps2 r
  obtain ⟨rows, h1, h2⟩ := h
  obtain ⟨a, vs, rfl, k1, k2⟩ := lstOf_rd rg r1 h1
  have src : ∀ H', Fra G H G H' → RelG K G H' → ∃ xs', SqL K H' a xs' ∧ Reps K H' xs' rows := fun H' f g => by
    obtain ⟨b, ws, e1, e2, e3⟩ := lstOf_rd g (r1.mono (f.stab rg)) h1
    cases e1
    exact ⟨ws, .inl e2, e3⟩
  cases e with
  | tup t0 => exact .inr (bltA_sum2T rg (.inl k1) k2 src r2 h2 p.p)
  | _ => exact .inl (bltA_sum2L rg (.inl k1) k2 src r2 h2 p)
theorem bltA_ord {K : PySem.W.Frag} {z : Bool} : BltA K (fun xs H Q => ∃ x, xs = [.str x] ∧ x.length = 1 ∧ Q (.int (x.cps.getD 0 0 : Nat)) H) (bltW z .ord) := by
  intro H xs ds G Qa Q r rg h p
  match ds, h with
  | [.str x], h =>
    obtain ⟨y, rfl, r1⟩ := reps1 r
    cases rep_s r1
    exact ⟨x, rfl, h.1, p.val rg (.int _) h.2⟩
theorem pairs_rep {K : PySem.W.Frag} {H : Hp} : ∀ {ps : List (Int × Int)} {vs : List V}, Reps K H vs (ps.map pairD) → Paired (PrI K H) vs ps
  | [], _, .nil => .nil
  | q :: ps, _, .cons a r => by
    refine .cons ?_ (pairs_rep r)
    obtain ⟨t, xs, rfl, h1, h2⟩ := rep_t a
    obtain ⟨x, y, rfl, r1, r2⟩ := reps2 h2
    cases rep_i r1
    cases rep_i r2
    exact ⟨t, rfl, h1⟩
theorem rep_pairs {K : PySem.W.Frag} {H : Hp} : ∀ {ps : List (Int × Int)} {vs : List V}, Paired (PrI K H) vs ps → Reps K H vs (ps.map pairD)
  | [], _, .nil => .nil
  | q :: ps, _, .cons a r => by
    obtain ⟨t, rfl, h⟩ := a
    exact .cons (.tup h (.cons (.int _) (.one (.int _)))) (rep_pairs r)
theorem reps_ints {K : PySem.W.Frag} {H : Hp} : ∀ (ns : List Int), Reps K H (ns.map V.int) (ns.map Dat.int)
  | [] => .nil
  | n :: ns => .cons (.int n) (reps_ints ns)
theorem bltA_srt {K : PySem.W.Frag} {z : Bool} : BltA K (fun vs H Q => rSortP K vs H Q ∨ rSortedI K vs H Q) (bltW z .srt) := by
  intro H xs ds G Qa Q r rg h p
  obtain ⟨d, rfl⟩ := blt1 h (.inr (.inr (.inr (.inr (.inr (.inr (.inr (.inl rfl))))))))
  obtain ⟨x, rfl, r1⟩ := reps1 r
  obtain ⟨es, h1, h2⟩ := h
  obtain ⟨a, vs, rfl, h4, h5⟩ := lstOf_rd rg r1 h1
  rcases h2 with ⟨ps, rfl, h2⟩ | ⟨ns, rfl, h2⟩
  · refine .inl ⟨a, vs, ps, rfl, .inl h4, pairs_rep h5, fun ys qs q _ k1 k2 k3 k4 => ?_⟩
    exact rep_newL rg (rep_pairs k1) (h2 qs k2 k3) p q k4
  · have e := Reps.ints h5
    subst e
    refine .inr ⟨a, ns, rfl, .inl h4, fun ms q k2 k3 k4 => ?_⟩
    exact rep_newL rg (reps_ints ms) (h2 ms k2 k3) p q k4
theorem bltA_max1 {K : PySem.W.Frag} {z : Bool} : BltA K (rMax K) (bltW z .max1) := by
  intro H xs ds G Qa Q r rg h p
  obtain ⟨d, rfl⟩ := blt1 h (.inr (.inr (.inr (.inr (.inr (.inr (.inr (.inr rfl))))))))
  obtain ⟨x, rfl, r1⟩ := reps1 r
  obtain ⟨es, ns, h1, h2, h3, h6⟩ := h
  obtain ⟨a, vs, rfl, h4, h5⟩ := lstOf_rd rg r1 h1
  cases ints_rep h5 h2
  exact ⟨a, ns, rfl, .inl h4, h3, fun m k1 k2 => p.val rg (.int _) (h6 m k1 k2)⟩
theorem bltA_str {K : PySem.W.Frag} {z : Bool} : BltA K (fun xs H Q => ∃ i, xs = [.int i] ∧ i.natAbs.log2 < 1920 ∧ Q (.str (toString i)) H) (bltW z .str) := by
  intro H xs ds G Qa Q r rg h p
  match ds, h with
  | [.int i], h =>
    obtain ⟨x, rfl, r1⟩ := reps1 r
    cases rep_i r1
    exact ⟨i, rfl, h.1, p.val rg (.str _) h.2⟩
  | [], h => exact False.elim h
  | a :: _ :: _, h => cases a <;> exact False.elim h
/-- tuple(a list): the object is known -/
theorem call_ktuple {X : Cx} : CallR X (.type "tuple") (fun xs H Q => ∃ p ys, xs = [.ref p] ∧ SqL X.K H p ys ∧ ∀ l o, H l = none → o.dict = none → Q (.ref l) (upd H l (.frz o (.tup ys)))) := by
  intro pins s σ H xs us Q I r h
  obtain ⟨p, ys, rfl, hq, q⟩ := h
  obtain ⟨u, rfl, rx⟩ := vals1 r
  cases rx
  obtain ⟨its, r', pl, hz⟩ := I.list hq
  have hlen := r'.length
  refine call_tuple_list pl.isList (fun h' kp => ?_) (by simp only [List.size_toArray] <;> omega)
  have I1 : Inv X pins σ H { s with heap := h' } := I.kept (t' := s.toks) kp
  have I2 : Inv X pins σ (upd H h'.objs.size (.frz { cls := .type "tuple", data := .seq its.toArray } (.tup ys))) { s with heap := h'.push { cls := .type "tuple", data := .seq its.toArray } } :=
    I1.laid (t' := s.toks) (fun b o e => Heap.get?_push_of_some _ e) (Nat.le_refl _) (show ObjOk X.prog X.w _ _ _ (.frz _ (.tup ys)) from ⟨Heap.get?_push_size _ rfl, hz, its, r', IsTup.new _ _⟩)
  exact ⟨.ref h'.objs.size, _, I2, rfl, q _ _ (I1.hok.fresh (Nat.le_refl _)) rfl⟩
theorem bltA_ktuple {K : PySem.W.Frag} {z : Bool} : BltA K (fun xs H Q => ∃ p ys, xs = [.ref p] ∧ SqL K H p ys ∧ ∀ l o, H l = none → o.dict = none → Q (.ref l) (upd H l (.frz o (.tup ys)))) (bltW z .ktuple) := by
  intro H xs ds G Qa Q r rg h p
  match ds, h with
  | [d], h =>
    obtain ⟨es, h1, h2⟩ := h
    obtain ⟨x, rfl, r1⟩ := reps1 r
    obtain ⟨a, vs, rfl, h3, h4⟩ := lstOf_rd rg r1 h1
    exact ⟨a, vs, rfl, .inl h3, fun l o hl ho => p.1 _ G _ _ (.newT hl) (rg.newT hl) (.ktp ⟨o, upd_same, ho⟩ (h4.mono (.new hl))) h2⟩
  | [], h => exact False.elim h
  | a :: _ :: _, h => cases a <;> exact False.elim h
theorem blt_ok (X : Cx) (kt : KtOk X.K) (hc : X.calm = true) (z : Bool) (f : BF) : ∃ r, CallR X f.val r ∧ BltA X.K r (bltW z f) := by
  cases f with
  | len => exact ⟨_, call_len, bltA_len⟩
  | int => exact ⟨_, call_int1, bltA_int⟩
  | tuple => exact ⟨_, call_tuple_of, bltA_tuple⟩
  | list => exact ⟨_, call_list_of, bltA_list⟩
  | isinst => exact ⟨_, call_isiA, bltA_isi kt⟩
  | all => exact ⟨_, cr_all hc, bltA_all⟩
  | any => exact ⟨_, cr_any hc, bltA_any⟩
  | sum1 => exact ⟨_, cr_sum hc, bltA_sum1⟩
  | sum2 => exact ⟨_, (cr_sum2 (r := rCatR) op_catR hc).or (cr_sum2 op_catTup hc), bltA_sum2⟩
  | min2 => exact ⟨_, call_min2 hc, bltA_min2⟩
  | max2 => exact ⟨_, call_max2 hc, bltA_max2⟩
  | ord => exact ⟨_, call_ord, bltA_ord⟩
  | srt => exact ⟨_, cr_sortP.or cr_sortedI, bltA_srt⟩
  | max1 => exact ⟨_, cr_max hc, bltA_max1⟩
  | str => exact ⟨_, call_str_int, bltA_str⟩
  | ktuple => exact ⟨_, call_ktuple, bltA_ktuple⟩
/-! ### methods -/
def MF.nm : MF → Str
  | .append => "append" | .extend => "extend" | .pop => "pop" | .popAt => "pop" | .clear => "clear" | .reverse => "reverse" | .insert => "insert" | .count => "count" | .index => "index"
def MetA (K : PySem.W.Frag) (T : String) (r : V → List V → Hp → VK → Prop) (rA : Dat → List Dat → AG → AQ → Prop) : Prop :=
  ∀ (H : Hp) (x : V) (d : Dat) (xs : List V) (ds : List Dat) (G : AG) (Qa : AQ) (Q : VK), Rep K H x d → Reps K H xs ds → RelG K G H → rA d ds G Qa → PostE K G H Qa Q → r x xs H Q
theorem PostE.setL {K : PySem.W.Frag} {G : AG} {H : Hp} {Qa : AQ} {Q : VK} (p : PostE K G H Qa Q) (rg : RelG K G H) {l : Addr} {ds es : List Dat} {vs ws : List V} {v : V} {d : Dat} (e : G l = some (.lst ds)) (h : H l = some (.lst vs)) (rv : Rep K H v d) (r : Reps K H ws es) (q : Qa d (gu G l (.lst es))) :
    Q v (upd H l (.lst ws)) := p d (gu G l (.lst es)) v _ (.set e) (rg.set e (show AOk K _ l (.lst es) from ⟨ws, upd_same, r.mono (.lst h)⟩)) (rv.mono (.lst h)) q
/-- l.extend(any sequence) -/
def rExtR (K : PySem.W.Frag) : V → List V → Hp → VK → Prop := fun x vs H Q => ∃ l b xs zs, x = .ref l ∧ vs = [.ref b] ∧ H l = some (.lst xs) ∧ (Rd H b (.lst zs) ∨ SqT K H b zs) ∧ xs.length + zs.length ≤ sizeLine ∧ Q .non (upd H l (.lst (xs ++ zs)))
theorem ext_tup (l : Addr) (ia : Array Value) (n : Nat) (b : Addr) (ib : Array Value) (n2 : Nat) (db : Option Addr) (sb : Array (Option Value)) (h0 : ¬(!ia.isEmpty && Builtin.List.listTooLong (ia.size + ib.size)) = true) (h1 : ia.size ≤ sizeLine) (h2 : ia.size + ib.size ≤ sizeLine + 1) :
    Meets (Builtin.«list.extend» ⟨[.ref l, .ref b], []⟩) (fun _ R s => s.heap.get? l = some { cls := .type "list", dict := none, data := .seq ia n, slots := #[] } ∧ s.heap.get? b = some { cls := .type "tuple", dict := db, data := .seq ib n2, slots := sb } ∧
      R (.ok (.ret Value.none)) { s with heap := s.heap.update l (Obj.mapSeq fun x => x ++ ib), toks := s.toks }) := by
  refine .of_wp fun prog w A R s h => ?_
  obtain ⟨hp, g, d, tk, os⟩ := s
  obtain ⟨hl, hb, h⟩ := h
  have f1 := AutoSeq1.idx_int
  have f2 := AutoSeq1.sub_tuple_tuple
  have f3 := AutoSeq1.sub_list_list
  have f4 := AutoSeq1.sub_tuple_list
  have f5 := AutoSeq1.sub_list_tuple
  have hz : (ia ++ ib).size ≤ sizeLine + 1 := by rw [Array.size_append]; exact h2
  wp_walk using (wpAny_updateSeq hl rfl (hz := h1) (_hz' := hz)), wpAny_loadPart' hl, wpAny_loadPart' hb
  exact ⟨_, rfl, h⟩
theorem mt_extR {X : Cx} : MtM X "list.extend" (rExtR X.K) := by
  intro pins s σ H x vs v us Q I rx rv h
  obtain ⟨l, b, xs, zs, rfl, rfl, hl, hb, hz, q⟩ := h
  cases rx
  obtain ⟨u, rfl, ru⟩ := rv.one
  cases ru
  obtain ⟨z, its, n, r, el, e⟩ := I.lstM hl
  have fin : ∀ i2 : List Value, Vals zs i2 → EP X pins σ Q Value.none { s with heap := s.heap.update l (Obj.mapSeq (· ++ i2.toArray)), toks := s.toks } := fun i2 r2 =>
    ⟨.non, _, I.lset (its' := its ++ i2) hl e (by simp) (r.append r2) (by simp only [List.length_append]; omega), rfl, q⟩
  have lng : ∀ i2 : List Value, Vals zs i2 → ¬ (!its.toArray.isEmpty && Builtin.List.listTooLong (its.toArray.size + i2.toArray.size)) = true := fun i2 r2 => by
    have e2 := r2.length
    rw [notLongL (by simp only [List.size_toArray]; omega), Bool.and_false]
    simp
  rcases hb with hb | hb
  · obtain ⟨_, i2, n2, r2, l2, e2⟩ := lstRd I hb
    exact call_meets F.slot_list_extend ⟨_, e, rfl⟩ F.entry_list_extend (F.args_list_extend_2 _ _)
      (AutoSeq1.list_extend_list_list_0 l its.toArray n b i2.toArray n2 (lng i2 r2) (by simp only [List.size_toArray]; omega) (by simp only [List.size_toArray]; omega)) ⟨e, e2, fin i2 r2⟩
  · obtain ⟨i2, r2, ⟨⟨oc, od, dt, sl⟩, e2, hc, n2, hd⟩, _⟩ := I.tuple hb
    have l2 := r2.length
    cases (show oc = .type "tuple" from hc)
    cases (show dt = .seq i2.toArray n2 from hd)
    exact call_meets F.slot_list_extend ⟨_, e, rfl⟩ F.entry_list_extend (F.args_list_extend_2 _ _)
      (ext_tup l its.toArray n b i2.toArray n2 od sl (lng i2 r2) (by simp only [List.size_toArray]; omega) (by simp only [List.size_toArray]; omega)) ⟨e, e2, fin i2 r2⟩
theorem metA_append {K : PySem.W.Frag} : MetA K "list" rAppend (methW .append) := by
  intro H x d xs ds G Qa Q rx r rg h p
  cases d with
  | ref a =>
    match ds, h with
    | [], h => exact False.elim h
    | _ :: _ :: _, h => exact False.elim h
    | [y], h =>
      cases rep_r rx
      obtain ⟨u, rfl, ru⟩ := reps1 r
      obtain ⟨es, h1, h2, h3⟩ := h
      obtain ⟨vs, h4, h5⟩ := rg.lst h1
      exact ⟨a, vs, u, rfl, rfl, h4, by rw [h5.length]; exact h2, p.setL rg h1 h4 .non (h5.append (.one ru)) h3⟩
  | _ => exact False.elim h
theorem metA_extend {K : PySem.W.Frag} : MetA K "list" (rExtR K) (methW .extend) := by
  intro H x d xs ds G Qa Q rx r rg h p
  cases d with
  | ref a =>
    match ds, h with
    | [], h => exact False.elim h
    | _ :: _ :: _, h => exact False.elim h
    | [y], h =>
      cases rep_r rx
      obtain ⟨u, rfl, ru⟩ := reps1 r
      obtain ⟨es, fs, h1, h2, h3, h6⟩ := h
      obtain ⟨vs, h4, h5⟩ := rg.lst h1
      have sq : ∃ b zs, u = .ref b ∧ (Rd H b (.lst zs) ∨ SqT K H b zs) ∧ Reps K H zs fs := by
        cases y with
        | tup es =>
          cases h2
          obtain ⟨b, zs, rfl, k1, k2⟩ := rep_t ru
          exact ⟨b, zs, rfl, .inr k1.sq, k2⟩
        | lst es =>
          obtain ⟨b, zs, rfl, k1, k2⟩ := lstOf_rd rg ru h2
          exact ⟨b, zs, rfl, .inl k1, k2⟩
        | ref c =>
          obtain ⟨b, zs, rfl, k1, k2⟩ := lstOf_rd rg ru h2
          exact ⟨b, zs, rfl, .inl k1, k2⟩
        | _ => cases h2
      obtain ⟨b, zs, rfl, k1, k2⟩ := sq
      exact ⟨a, b, vs, zs, rfl, rfl, h4, k1, by rw [h5.length, k2.length]; exact h3, p.setL rg h1 h4 .non (h5.append k2) h6⟩
  | _ => exact False.elim h
theorem reps_last {K : PySem.W.Frag} {H : Hp} : ∀ {vs : List V} {ds : List Dat}, Reps K H vs ds → Reps K H vs.dropLast ds.dropLast
  | _, _, .nil => .nil
  | _, _, .cons a .nil => .nil
  | _, _, .cons a (.cons b r) => .cons a (reps_last (.cons b r))
theorem metA_pop {K : PySem.W.Frag} : MetA K "list" rPop (methW .pop) := by
  intro H x d xs ds G Qa Q rx r rg h p
  cases d with
  | ref a =>
    match ds, h with
    | _ :: _, h => exact False.elim h
    | [], h =>
      cases rep_r rx
      cases r
      obtain ⟨es, y, h1, h2, h3⟩ := h
      obtain ⟨vs, h4, h5⟩ := rg.lst h1
      obtain ⟨v, h6, h7⟩ := h5.get h2
      exact ⟨a, vs, v, rfl, rfl, h4, by rw [h5.length]; exact h6, p.setL rg h1 h4 h7 (reps_last h5) h3⟩
  | _ => exact False.elim h
theorem metA_popAt {K : PySem.W.Frag} : MetA K "list" rPopAt (methW .popAt) := by
  intro H x d xs ds G Qa Q rx r rg h p
  cases d with
  | ref a =>
    match ds, h with
    | [], h => exact False.elim h
    | c :: _ :: _, h => cases c <;> exact False.elim h
    | [.int i], h =>
      cases rep_r rx
      obtain ⟨u, rfl, ru⟩ := reps1 r
      cases rep_i ru
      obtain ⟨es, k, y, h1, h2, h3, h8, h9, h10⟩ := h
      obtain ⟨vs, h4, h5⟩ := rg.lst h1
      obtain ⟨v, h6, h7⟩ := h5.get h9
      exact ⟨a, vs, i, k, v, rfl, rfl, h4, h2, h3, by rw [h5.length]; exact h8, h6, p.setL rg h1 h4 h7 (h5.eraseIdx k) h10⟩
    | [.non], h | [.bl _], h | [.str _], h | [.tup _], h | [.lst _], h | [.ref _], h | [.ty _], h => exact False.elim h
  | _ => exact False.elim h
theorem metA_clear {K : PySem.W.Frag} : MetA K "list" rClear (methW .clear) := by
  intro H x d xs ds G Qa Q rx r rg h p
  cases d with
  | ref a =>
    match ds, h with
    | _ :: _, h => exact False.elim h
    | [], h =>
      cases rep_r rx
      cases r
      obtain ⟨es, h1, h3⟩ := h
      obtain ⟨vs, h4, h5⟩ := rg.lst h1
      exact ⟨a, vs, rfl, rfl, h4, p.setL rg h1 h4 .non .nil h3⟩
  | _ => exact False.elim h
theorem metA_reverse {K : PySem.W.Frag} : MetA K "list" rReverse (methW .reverse) := by
  intro H x d xs ds G Qa Q rx r rg h p
  cases d with
  | ref a =>
    match ds, h with
    | _ :: _, h => exact False.elim h
    | [], h =>
      cases rep_r rx
      cases r
      obtain ⟨es, h1, h3⟩ := h
      obtain ⟨vs, h4, h5⟩ := rg.lst h1
      exact ⟨a, vs, rfl, rfl, h4, p.setL rg h1 h4 .non h5.reverse h3⟩
  | _ => exact False.elim h
theorem metA_insert {K : PySem.W.Frag} : MetA K "list" (fun x vs H Q => ∃ (l : Addr) (xs : List V) (i : Int) (y : V), x = .ref l ∧ vs = [.int i, y] ∧ H l = some (.lst xs) ∧ xs.length < sizeLine ∧ 0 ≤ i ∧ i < 2 ^ 63 ∧ Q .non (upd H l (.lst (xs.take i.toNat ++ [y] ++ xs.drop i.toNat)))) (methW .insert) := by
  intro H x d xs ds G Qa Q rx r rg h p
  match d, ds, h with
  | .ref a, [.int i, y], h =>
    cases rep_r rx
    obtain ⟨u, v, rfl, ru, rv⟩ := reps2 r
    cases rep_i ru
    obtain ⟨es, h1, h2, h3, h6, h7⟩ := h
    obtain ⟨vs, h4, h5⟩ := rg.lst h1
    exact ⟨a, vs, i, v, rfl, rfl, h4, by rw [h5.length]; exact h2, h3, h6, p.setL rg h1 h4 .non (((h5.take _).append (.one rv)).append (h5.drop _)) h7⟩
theorem metA_count {K : PySem.W.Frag} : MetA K "list" (rCntF K) (methW .count) := by
  intro H x d xs ds G Qa Q rx r rg h p
  match ds, h with
  | [y], h =>
    obtain ⟨u, rfl, ru⟩ := reps1 r
    have h : ∃ es, lstOf G d = some es ∧ flatD y = true ∧ es.all flatD = true ∧ Qa (.int (es.countP fun d => eqF d y : Nat)) G := by cases d <;> exact h
    obtain ⟨es, h1, h2, h3, h4⟩ := h
    obtain ⟨a, vs, rfl, h5, h6⟩ := lstOf_rd rg rx h1
    obtain ⟨rfl, f1⟩ := flat_rep ru h2
    obtain ⟨rfl, f2⟩ := flats_rep h6 h3
    refine ⟨a, _, _, rfl, rfl, .inl h5, f1, f2, ?_⟩
    have e : List.countP (fun z => eqV z (toV y)) (List.map toV es) = List.countP (fun d => eqF d y) es := by rw [List.countP_map]; rfl
    rw [e]
    exact p.val rg (.int _) h4
  | [], h => exact absurd h (by cases d <;> exact id)
  | _ :: _ :: _, h => exact absurd h (by cases d <;> exact id)
theorem metA_index {K : PySem.W.Frag} : MetA K "list" (rIndex K) (methW .index) := by
  intro H x d xs ds G Qa Q rx r rg h p
  match ds, h with
  | [y], h =>
    obtain ⟨u, rfl, ru⟩ := reps1 r
    have h : ∃ es j e, lstOf G d = some es ∧ flatD y = true ∧ es.all flatD = true ∧ es[j]? = some e ∧ eqF e y = true ∧ (∀ m d', m < j → es[m]? = some d' → eqF d' y = false) ∧ Qa (.int (j : Nat)) G := by cases d <;> exact h
    obtain ⟨es, j, e, h1, h2, h3, h7, h8, h9, h4⟩ := h
    obtain ⟨a, vs, rfl, h5, h6⟩ := lstOf_rd rg rx h1
    obtain ⟨rfl, f1⟩ := flat_rep ru h2
    obtain ⟨rfl, f2⟩ := flats_rep h6 h3
    refine ⟨a, _, _, j, toV e, rfl, rfl, .inl h5, f1, f2, by rw [List.getElem?_map, h7]; rfl, h8, fun m z hm hz => ?_, p.val rg (.int _) h4⟩
    rw [List.getElem?_map] at hz
    cases q : es[m]? with
    | none => rw [q] at hz; cases hz
    | some d' => rw [q] at hz; cases hz; exact h9 m d' hm q
  | [], h => exact absurd h (by cases d <;> exact id)
  | _ :: _ :: _, h => exact absurd h (by cases d <;> exact id)
/-- a method by values: which arguments it takes, the type that it belongs to -/
structure MetOk (X : Cx) (m : MF) : Prop where
  ok : ∃ (T id : String) (r : V → List V → Hp → VK → Prop), PlainAttrs T ∧ Slot T m.nm id ∧ typeOf (.builtin id) = pure (.type "method_descriptor") ∧ MtR X id r ∧ MetA X.K T r (methW m) ∧
    ∀ (H : Hp) (x : V) (d : Dat) (ds : List Dat) (G : AG) (Qa : AQ), Rep X.K H x d → RelG X.K G H → methW m d ds G Qa → tyV X.K T x H
end Av
set_option Elab.async false
set_option linter.all false
set_option maxRecDepth 100000
set_option maxHeartbeats 4000000
/-! # Av4: the words of Av1 over the hand layer's judgements -/
namespace Av
open PySem PySem.Spec PyProof.Rows L2
variable [Tb]
theorem PE.imp {X : Cx} {e : Expr} {t t' : TE} (h : PE X e t) (f : ∀ σ H Q, t' σ H Q → t σ H Q) : PE X e t' := ⟨fun pins s σ H Q I q => h.run pins s σ H Q I (f σ H Q q)⟩
theorem PT.imp {X : Cx} {e : Expr} {t t' : TT} (h : PT X e t) (f : ∀ σ H Q, t' σ H Q → t σ H Q) : PT X e t' := ⟨fun pins s σ H Q I q => h.run pins s σ H Q I (f σ H Q q)⟩
theorem PW.imp {X : Cx} {e : Expr} {t t' : TT} (h : PW X e t) (f : ∀ σ H Q, t' σ H Q → t σ H Q) : PW X e t' := ⟨fun wh pins s σ H Q I q => h.run wh pins s σ H Q I (f σ H Q q)⟩
theorem PA.imp {X : Cx} {es : List Expr} {t t' : TA} (h : PA X es t) (f : ∀ σ H Q, t' σ H Q → t σ H Q) : PA X es t' := ⟨fun pos pins s σ H Q I q => h.run pos pins s σ H Q I (f σ H Q q)⟩
theorem PI.imp {X : Cx} {tg e : Expr} {t t' : TI} (h : PI X tg e t) (f : ∀ σ H Q, t' σ H Q → t σ H Q) : PI X tg e t' := ⟨fun pins s σ H Q I q => h.run pins s σ H Q I (f σ H Q q)⟩
theorem PS.imp {X : Cx} {st : Stmt} {t t' : TS} (h : PS X st t) (f : ∀ D σ H, t' D σ H → t D σ H) : PS X st t' := ⟨fun pins s σ H D I q => h.run pins s σ H D I (f D σ H q)⟩
theorem PSs.imp {X : Cx} {st : List Stmt} {t t' : TS} (h : PSs X st t) (f : ∀ D σ H, t' D σ H → t D σ H) : PSs X st t' := ⟨fun pins s σ H D I q => h.run pins s σ H D I (f D σ H q)⟩
section
variable {X : Cx}
/-! ### what is frozen -/
theorem Inv.frozen {pins : List (Addr × Obj)} {σ : L2.St} {H : Hp} {s : Shared} {l : Addr} {vs : List V} {o : Obj} (I : Inv X pins σ H s) (h : H l = some (.lst vs)) (ho : s.heap.get? l = some o) : Inv X pins σ (upd H l (.frz o (.lst vs))) s := by
  have ne : ∀ {b u}, H b = some u → u ≠ .lst vs → b ≠ l := fun e d z => by rw [z, h] at e; exact d (Option.some.inj e).symm
  have nn : ∀ {b}, H b = none → b ≠ l := fun e z => by rw [z, h] at e; cases e
  have u : Un X.fs [] H (upd H l (.frz o (.lst vs))) s.heap s.heap := by
    refine ⟨fun _ _ q _ _ _ => q, fun b ob q _ _ _ => ⟨ob.slots, q⟩, fun b ob q n _ => by rw [upd_ne (nn n)]; exact n, fun b ob q _ => ⟨ob, q⟩, fun b xs q => by rw [upd_ne (ne q (by simp))]; exact q,
      fun b ob w q => by rw [upd_ne (ne q (by simp))]; exact q, fun b ps q => ⟨#[], by rw [upd_ne (ne q (by simp)), q]; simp⟩⟩
  have k : HOk X.prog X.w (upd H l (.frz o (.lst vs))) s.heap := fun b w q => by
    by_cases hb : b = l
    · subst hb
      rw [upd_same] at q
      cases q
      exact ⟨ho, I.hok b _ h⟩
    · rw [upd_ne hb] at q
      exact (I.hok b w q).stay (fun _ _ _ z => z) (fun c z => by rw [upd_ne (ne z (by simp))]; exact z) fun c xs z => by rw [upd_ne (ne z (by simp))]; exact z
  exact I.un (h' := s.heap) (t' := s.toks) u k
theorem pe_z {e : Expr} {t : TE} (h : PE X e t) : PE X e fun σ H Q => t σ H (Qz Q) := by
  refine ⟨fun pins s σ H Q I q => thn (h.run pins s σ H _ I q) ?_⟩
  rintro u s1 ⟨v, H1, I1, rv, q | ⟨a, vs, rfl, ha, q⟩⟩
  · exact ⟨v, H1, I1, rv, q⟩
  · obtain ⟨z, its, n, _, _, ho⟩ := I1.lstM ha
    exact ⟨.ref a, _, Inv.frozen I1 ha ho, rv, q _⟩
end
theorem postB {K : PySem.W.Frag} {G : AG} {H : Hp} {Qa : AQ} {Q : VK} (p : PostE K G H Qa Q) (no : ∀ ds G, ¬ Qa (.lst ds) G) : PostZ K G H Qa Q := ⟨p, fun G' _ ds _ _ _ _ _ _ q => absurd q (no ds G')⟩
/-- a transformer of Av1 over the layer's: from told states to tracked ones -/
def Lf (K : PySem.W.Frag) (W : WX) {α β : Type} (R : Hp → β → α → Prop) (w : Env' → AG → (α → AG → Prop) → AX → Prop) : L2.St → Hp → (β → Hp → Prop) → Prop := fun σ H Q =>
  ∃ ρ G Qa Ea, RelE K H ρ σ ∧ RelG K G H ∧ w ρ G Qa Ea ∧ (∀ d G' v H', Fra G H G' H' → RelG K G' H' → R H' v d → Qa d G' → Q v H') ∧ PostX K G H Ea fun c dx H' => W c dx σ H'
abbrev LfE (K : PySem.W.Frag) (W : WX) (w : Env' → AG → AQ → AX → Prop) : TE := Lf K W (Rep K) w
abbrev LfA (K : PySem.W.Frag) (W : WX) (w : Env' → AG → (List Dat → AG → Prop) → AX → Prop) : TA := Lf K W (Reps K) w
abbrev LfT (K : PySem.W.Frag) (W : WX) (w : Env' → AG → (Bool → AG → Prop) → AX → Prop) : TT := Lf K W (fun _ b c => b = c) w
section
variable {X : Cx} {W : WX} {a b c : Expr} {pos : Pos} {w1 w2 w3 : Env' → AG → AQ → AX → Prop}
/-! ### operators, comparisons -/
theorem se_op {op : Operator} {r : R2} {rA : Dat → Dat → AG → AQ → Prop} (ho : OpR X (binaryOp op) r) (hA : OpA X.K r rA) (h1 : PE X a (LfE X.K W w1)) (h2 : PE X b (LfE X.K W w2)) :
    PE X (.BinOp a op b pos) (LfE X.K W fun ρ G Q E => w1 ρ G (fun x G1 => w2 ρ G1 (fun y G2 => rA x y G2 Q) E) E) :=
  PE.imp (pe_z (pe_op ho h1 h2)) fun _ _ _ ⟨ρ, G, Qa, Ea, hE, hG, hw, hp, hx⟩ => ⟨ρ, G, _, Ea, hE, hG, hw, fun d G1 v H1 f g r1 q => ⟨ρ, G1, _, Ea, hE.mono (f.stab hG), g, q,
    fun e G2 u H2 f2 g2 r2 q2 => hA H2 v u d e G2 Qa _ (r1.mono (f2.stab g)) r2 g2 q2 (postZ fun d' G' v' H' f3 => hp d' G' v' H' ((f.trans f2).trans f3)), hx.fra f⟩, hx⟩
theorem se_cmp {op : CmpOp} {r : R2} {rA : Dat → Dat → AG → AQ → Prop} (ho : OpR X (compareOp op) r) (hA : OpA X.K r rA) (hm : behindInMarks op b = false) (h1 : PE X a (LfE X.K W w1)) (h2 : PE X b (LfE X.K W w2)) :
    PE X (.Compare a [op] [b] pos) (LfE X.K W fun ρ G Q E => w1 ρ G (fun x G1 => w2 ρ G1 (fun y G2 => rA x y G2 Q) E) E) :=
  PE.imp (pe_z (pe_cmpR ho h1 h2 hm)) fun _ _ _ ⟨ρ, G, Qa, Ea, hE, hG, hw, hp, hx⟩ => ⟨ρ, G, _, Ea, hE, hG, hw, fun d G1 v H1 f g r1 q => ⟨ρ, G1, _, Ea, hE.mono (f.stab hG), g, q,
    fun e G2 u H2 f2 g2 r2 q2 => hA H2 v u d e G2 Qa _ (r1.mono (f2.stab g)) r2 g2 q2 (postZ fun d' G' v' H' f3 => hp d' G' v' H' ((f.trans f2).trans f3)), hx.fra f⟩, hx⟩
theorem boolW_inv {Q : Bool → AG → Prop} {d : Dat} {G : AG} (h : boolW Q d G) : ∃ k, d = .bl k ∧ Q k G := by
  cases d with
  | bl k => exact ⟨k, rfl, h⟩
  | _ => exact False.elim h
theorem st_cmp {op : CmpOp} {r : R2} {rA : Dat → Dat → AG → AQ → Prop} (ho : OpR X (compareOp op) r) (hA : OpA X.K r rA) (hm : behindInMarks op b = false) (h1 : PE X a (LfE X.K W w1)) (h2 : PE X b (LfE X.K W w2)) :
    PT X (.Compare a [op] [b] pos) (LfT X.K W fun ρ G Q E => w1 ρ G (fun x G1 => w2 ρ G1 (fun y G2 => rA x y G2 (boolW Q)) E) E) :=
  PT.imp (pt_cmpR ho h1 h2 hm) fun _ _ _ ⟨ρ, G, Qa, Ea, hE, hG, hw, hp, hx⟩ => ⟨ρ, G, _, Ea, hE, hG, hw, fun d G1 v H1 f g r1 q => ⟨ρ, G1, _, Ea, hE.mono (f.stab hG), g, q,
    fun e G2 u H2 f2 g2 r2 q2 => hA H2 v u d e G2 (boolW Qa) _ (r1.mono (f2.stab g)) r2 g2 q2 (postB (fun d' G' v' H' f3 g3 r3 q3 => by
      obtain ⟨k, e, q4⟩ := boolW_inv q3
      subst e
      exact ⟨k, rep_b r3, hp k G' k H' ((f.trans f2).trans f3) g3 rfl q4⟩) fun _ _ z => z), hx.fra f⟩, hx⟩
theorem se_cmp2 {op op' : CmpOp} {r r' : R2} {rA rA' : Dat → Dat → AG → AQ → Prop} (ho : OpR X (compareOp op) r) (hA : OpA X.K r rA) (ho' : OpR X (compareOp op') r') (hA' : OpA X.K r' rA') (hm : behindInMarks op' c = false)
    (h1 : PE X a (LfE X.K W w1)) (h2 : PE X b (LfE X.K W w2)) (h3 : PE X c (LfE X.K W w3)) :
    PE X (.Compare a [op, op'] [b, c] pos) (LfE X.K W fun ρ G Q E => w1 ρ G (fun x G1 => w2 ρ G1 (fun y G2 => rA x y G2 (boolW fun k G3 => if k = true then w3 ρ G3 (fun z G4 => rA' y z G4 Q) E else Q (.bl false) G3)) E) E) := by
  refine PE.imp (pe_z (pe_chain ho ho' h1 h2 h3 ?_)) ?_
  · exact hm
  · rintro σ H Q ⟨ρ, G, Qa, Ea, hE, hG, hw, hp, hx⟩
    refine ⟨ρ, G, _, Ea, hE, hG, hw, fun d G1 v H1 f g r1 q => ⟨ρ, G1, _, Ea, hE.mono (f.stab hG), g, q, fun e G2 u H2 f2 g2 r2 q2 => ?_, hx.fra f⟩, hx⟩
    refine hA H2 v u d e G2 _ _ (r1.mono (f2.stab g)) r2 g2 q2 (postB (fun d' G3 v' H3 f3 g3 r3 q3 => ?_) fun _ _ z => z)
    obtain ⟨k, e3, q4⟩ := boolW_inv q3
    subst e3
    refine ⟨k, rep_b r3, ?_⟩
    have f03 := (f.trans f2).trans f3
    cases k with
    | true =>
      rw [if_pos rfl] at q4 ⊢
      exact ⟨ρ, G3, _, Ea, hE.mono (f03.stab hG), g3, q4, fun z G4 t H4 f4 g4 r4 q5 => hA' H4 u t e z G4 Qa _ (r2.mono ((f3.trans f4).stab g2)) r4 g4 q5 (postZ fun d' G' v' H' f5 => hp d' G' v' H' ((f03.trans f4).trans f5)), hx.fra f03⟩
    | false =>
      rw [if_neg (by simp)] at q4 ⊢
      exact .inl (hp _ _ _ _ f03 g3 (.bl false) q4)
theorem st_cmp2 {op op' : CmpOp} {r r' : R2} {rA rA' : Dat → Dat → AG → AQ → Prop} (ho : OpR X (compareOp op) r) (hA : OpA X.K r rA) (ho' : OpR X (compareOp op') r') (hA' : OpA X.K r' rA') (hm : behindInMarks op' c = false)
    (h1 : PE X a (LfE X.K W w1)) (h2 : PE X b (LfE X.K W w2)) (h3 : PE X c (LfE X.K W w3)) :
    PT X (.Compare a [op, op'] [b, c] pos) (LfT X.K W fun ρ G Q E => w1 ρ G (fun x G1 => w2 ρ G1 (fun y G2 => rA x y G2 (boolW fun k G3 => if k = true then w3 ρ G3 (fun z G4 => rA' y z G4 (boolW Q)) E else Q false G3)) E) E) := by
  refine PT.imp (pt_chain ho ho' h1 h2 h3 ?_) ?_
  · exact hm
  · rintro σ H Q ⟨ρ, G, Qa, Ea, hE, hG, hw, hp, hx⟩
    refine ⟨ρ, G, _, Ea, hE, hG, hw, fun d G1 v H1 f g r1 q => ⟨ρ, G1, _, Ea, hE.mono (f.stab hG), g, q, fun e G2 u H2 f2 g2 r2 q2 => ?_, hx.fra f⟩, hx⟩
    refine hA H2 v u d e G2 _ _ (r1.mono (f2.stab g)) r2 g2 q2 (postB (fun d' G3 v' H3 f3 g3 r3 q3 => ?_) fun _ _ z => z)
    obtain ⟨k, e3, q4⟩ := boolW_inv q3
    subst e3
    refine ⟨k, rep_b r3, ?_⟩
    have f03 := (f.trans f2).trans f3
    cases k with
    | true =>
      rw [if_pos rfl] at q4 ⊢
      exact ⟨ρ, G3, _, Ea, hE.mono (f03.stab hG), g3, q4, fun z G4 t H4 f4 g4 r4 q5 => hA' H4 u t e z G4 (boolW Qa) _ (r2.mono ((f3.trans f4).stab g2)) r4 g4 q5 (postB (fun d' G' v' H' f5 g5 r5 q6 => by
        obtain ⟨b, e4, q7⟩ := boolW_inv q6
        subst e4
        exact ⟨b, rep_b r5, hp b G' b H' ((f03.trans f4).trans f5) g5 rfl q7⟩) fun _ _ z => z), hx.fra f03⟩
    | false =>
      rw [if_neg (by simp)] at q4 ⊢
      exact ⟨false, rfl, hp _ _ _ _ f03 g3 rfl q4⟩
/-! ### and, or, not, if: by truth -/
variable {rest : List Expr} {wt wt1 wt2 : Env' → AG → (Bool → AG → Prop) → AX → Prop}
theorem truK {K : PySem.W.Frag} {H : Hp} {x : V} {d : Dat} {G : AG} {Qa : Bool → AG → Prop} (rx : Rep K H x d) (rg : RelG K G H) (h : truW d G Qa) : ∃ k, TruV K x H k ∧ Qa k G := tru_A (Q := fun k _ => Qa k G) rx rg h fun _ q => q
theorem se_and (h1 : PE X a (LfE X.K W w1)) (h2 : PE X (.BoolOp .And (b :: rest) pos) (LfE X.K W w2)) :
    PE X (.BoolOp .And (a :: b :: rest) pos) (LfE X.K W fun ρ G Q E => w1 ρ G (fun x G1 => truW x G1 fun k G2 => if k = true then w2 ρ G2 Q E else Q x G2) E) := by
  refine PE.imp (pe_andT h1 h2) ?_
  rintro σ H Q ⟨ρ, G, Qa, Ea, hE, hG, hw, hp, hx⟩
  refine ⟨ρ, G, _, Ea, hE, hG, hw, fun d G1 v H1 f g r1 q => ?_, hx⟩
  obtain ⟨k, h3, h4⟩ := truK r1 g q
  refine ⟨k, h3, ?_⟩
  cases k with
  | true =>
    rw [if_pos rfl] at h4 ⊢
    exact ⟨ρ, G1, _, Ea, hE.mono (f.stab hG), g, h4, fun d' G' v' H' f3 => hp d' G' v' H' (f.trans f3), hx.fra f⟩
  | false =>
    rw [if_neg (by simp)] at h4 ⊢
    exact hp _ _ _ _ f g r1 h4
theorem se_or (h1 : PE X a (LfE X.K W w1)) (h2 : PE X (.BoolOp .Or (b :: rest) pos) (LfE X.K W w2)) :
    PE X (.BoolOp .Or (a :: b :: rest) pos) (LfE X.K W fun ρ G Q E => w1 ρ G (fun x G1 => truW x G1 fun k G2 => if k = true then Q x G2 else w2 ρ G2 Q E) E) := by
  refine PE.imp (pe_orT h1 h2) ?_
  rintro σ H Q ⟨ρ, G, Qa, Ea, hE, hG, hw, hp, hx⟩
  refine ⟨ρ, G, _, Ea, hE, hG, hw, fun d G1 v H1 f g r1 q => ?_, hx⟩
  obtain ⟨k, h3, h4⟩ := truK r1 g q
  refine ⟨k, h3, ?_⟩
  cases k with
  | true =>
    rw [if_pos rfl] at h4 ⊢
    exact hp _ _ _ _ f g r1 h4
  | false =>
    rw [if_neg (by simp)] at h4 ⊢
    exact ⟨ρ, G1, _, Ea, hE.mono (f.stab hG), g, h4, fun d' G' v' H' f3 => hp d' G' v' H' (f.trans f3), hx.fra f⟩
theorem se_not (h1 : PE X a (LfE X.K W w1)) : PE X (.UnaryOp .Not a pos) (LfE X.K W fun ρ G Q E => w1 ρ G (fun x G1 => truW x G1 fun k G2 => Q (.bl (!k)) G2) E) := by
  refine PE.imp (pe_notT h1) ?_
  rintro σ H Q ⟨ρ, G, Qa, Ea, hE, hG, hw, hp, hx⟩
  refine ⟨ρ, G, _, Ea, hE, hG, hw, fun d G1 v H1 f g r1 q => ?_, hx⟩
  obtain ⟨k, h3, h4⟩ := truK r1 g q
  exact ⟨k, h3, hp _ _ _ _ f g (.bl _) h4⟩
theorem se_ite (h0 : PT X c (LfT X.K W wt)) (h1 : PE X a (LfE X.K W w1)) (h2 : PE X b (LfE X.K W w2)) :
    PE X (.IfExp c a b pos) (LfE X.K W fun ρ G Q E => wt ρ G (fun k G1 => if k = true then w1 ρ G1 Q E else w2 ρ G1 Q E) E) := by
  refine PE.imp (pe_ifExp h0 h1 h2) ?_
  rintro σ H Q ⟨ρ, G, Qa, Ea, hE, hG, hw, hp, hx⟩
  refine ⟨ρ, G, _, Ea, hE, hG, hw, fun d G1 v H1 f g r1 q => ?_, hx⟩
  cases r1
  cases d with
  | true =>
    rw [if_pos rfl] at q ⊢
    exact ⟨ρ, G1, _, Ea, hE.mono (f.stab hG), g, q, fun d' G' v' H' f3 => hp d' G' v' H' (f.trans f3), hx.fra f⟩
  | false =>
    rw [if_neg (by simp)] at q ⊢
    exact ⟨ρ, G1, _, Ea, hE.mono (f.stab hG), g, q, fun d' G' v' H' f3 => hp d' G' v' H' (f.trans f3), hx.fra f⟩
/-! ### tests -/
theorem st_val (h1 : PE X a (LfE X.K W w1)) (he : ∀ whole, isTrue a X.env whole = (do let v ← whole; standAt a.pos; holding [v] (truthy v))) : PT X a (LfT X.K W fun ρ G Q E => w1 ρ G (fun x G1 => truW x G1 Q) E) := by
  refine PT.imp (pt_truth h1 he) ?_
  rintro σ H Q ⟨ρ, G, Qa, Ea, hE, hG, hw, hp, hx⟩
  refine ⟨ρ, G, _, Ea, hE, hG, hw, fun d G1 v H1 f g r1 q => ?_, hx⟩
  obtain ⟨k, h3, h4⟩ := truK r1 g q
  exact ⟨k, h3, hp _ _ _ _ f g rfl h4⟩
theorem st_not (h1 : PT X a (LfT X.K W wt)) : PT X (.UnaryOp .Not a pos) (LfT X.K W fun ρ G Q E => wt ρ G (fun k G1 => Q (!k) G1) E) := by
  refine PT.imp (pt_not h1) ?_
  rintro σ H Q ⟨ρ, G, Qa, Ea, hE, hG, hw, hp, hx⟩
  exact ⟨ρ, G, _, Ea, hE, hG, hw, fun d G1 v H1 f g r1 q => by cases r1; exact hp _ _ _ _ f g rfl q, hx⟩
theorem st_and (h1 : PT X a (LfT X.K W wt1)) (h2 : PW X (.BoolOp .And (b :: rest) pos) (LfT X.K W wt2)) :
    PW X (.BoolOp .And (a :: b :: rest) pos) (LfT X.K W fun ρ G Q E => wt1 ρ G (fun k G1 => if k = true then wt2 ρ G1 Q E else Q false G1) E) := by
  refine PW.imp (pw_and h1 h2) ?_
  rintro σ H Q ⟨ρ, G, Qa, Ea, hE, hG, hw, hp, hx⟩
  refine ⟨ρ, G, _, Ea, hE, hG, hw, fun d G1 v H1 f g r1 q => ?_, hx⟩
  cases r1
  cases d with
  | true =>
    rw [if_pos rfl] at q ⊢
    exact ⟨ρ, G1, _, Ea, hE.mono (f.stab hG), g, q, fun d' G' v' H' f3 => hp d' G' v' H' (f.trans f3), hx.fra f⟩
  | false =>
    rw [if_neg (by simp)] at q ⊢
    exact hp _ _ _ _ f g rfl q
theorem st_or (h1 : PT X a (LfT X.K W wt1)) (h2 : PW X (.BoolOp .Or (b :: rest) pos) (LfT X.K W wt2)) :
    PW X (.BoolOp .Or (a :: b :: rest) pos) (LfT X.K W fun ρ G Q E => wt1 ρ G (fun k G1 => if k = true then Q true G1 else wt2 ρ G1 Q E) E) := by
  refine PW.imp (pw_or h1 h2) ?_
  rintro σ H Q ⟨ρ, G, Qa, Ea, hE, hG, hw, hp, hx⟩
  refine ⟨ρ, G, _, Ea, hE, hG, hw, fun d G1 v H1 f g r1 q => ?_, hx⟩
  cases r1
  cases d with
  | true =>
    rw [if_pos rfl] at q ⊢
    exact hp _ _ _ _ f g rfl q
  | false =>
    rw [if_neg (by simp)] at q ⊢
    exact ⟨ρ, G1, _, Ea, hE.mono (f.stab hG), g, q, fun d' G' v' H' f3 => hp d' G' v' H' (f.trans f3), hx.fra f⟩
/-! ### displays, subscripts, slices -/
variable {es : List Expr} {wa : Env' → AG → (List Dat → AG → Prop) → AX → Prop}
theorem se_tup {k : Nat} (h : PA X es (LfA X.K W wa)) : PE X (.Tuple es k pos) (LfE X.K W fun ρ G Q E => wa ρ G (fun ds G1 => ds.length ≤ sizeLine ∧ Q (.tup ds) G1) E) := by
  refine PE.imp (pe_tup h) ?_
  rintro σ H Q ⟨ρ, G, Qa, Ea, hE, hG, hw, hp, hx⟩
  refine ⟨ρ, G, _, Ea, hE, hG, hw, fun d G1 v H1 f g r1 q => ⟨by rw [r1.length]; exact q.1, ?_⟩, hx⟩
  exact PostE.newT (fun d' G' v' H' f3 => hp d' G' v' H' (f.trans f3)) g r1 q.2
theorem se_lst {z : Bool} (h : PA X es (LfA X.K W wa)) : PE X (.List es pos) (LfE X.K W fun ρ G Q E => wa ρ G (fun ds G1 => nw z ds G1 Q) E) := by
  refine PE.imp (pe_z (pe_lst h)) ?_
  rintro σ H Q ⟨ρ, G, Qa, Ea, hE, hG, hw, hp, hx⟩
  refine ⟨ρ, G, _, Ea, hE, hG, hw, fun d G1 v H1 f g r1 q => ⟨by rw [r1.length]; exact nw_len q, ?_⟩, hx⟩
  exact rep_newL g r1 q (postZ fun d' G' v' H' f3 => hp d' G' v' H' (f.trans f3))
theorem se_ix (hs : PlainIx b) (h1 : PE X a (LfE X.K W w1)) (h2 : PE X b (LfE X.K W w2)) :
    PE X (.Subscript a b pos) (LfE X.K W fun ρ G Q E => w1 ρ G (fun x G1 => w2 ρ G1 (fun y G2 => ixW x y G2 Q) E) E) :=
  PE.imp (pe_z (pe_ix ix_seq h1 h2 hs)) fun _ _ _ ⟨ρ, G, Qa, Ea, hE, hG, hw, hp, hx⟩ => ⟨ρ, G, _, Ea, hE, hG, hw, fun d G1 v H1 f g r1 q => ⟨ρ, G1, _, Ea, hE.mono (f.stab hG), g, q,
    fun e G2 u H2 f2 g2 r2 q2 => opA_ix H2 v u d e G2 Qa _ (r1.mono (f2.stab g)) r2 g2 q2 (postZ fun d' G' v' H' f3 => hp d' G' v' H' ((f.trans f2).trans f3)), hx.fra f⟩, hx⟩
theorem intK_inv {Q : Int → AG → Prop} {d : Dat} {G : AG} (h : intK Q d G) : ∃ k, d = .int k ∧ Q k G := by
  cases d with
  | int k => exact ⟨k, rfl, h⟩
  | _ => exact False.elim h
/-- a part of a slice -/
abbrev LfO (K : PySem.W.Frag) (W : WX) (w : Env' → AG → (Option Int → AG → Prop) → AX → Prop) : TO := Lf K W (fun _ b c => b = c) w
theorem so_none : PO X none (LfO X.K W fun _ G Q _ => Q none G) := ⟨fun pins s σ H Q I ⟨ρ, G, Qa, Ea, hE, hG, hw, hp, hx⟩ => po_none.run pins s σ H Q I (hp none G none H .refl hG rfl hw)⟩
theorem so_some (h1 : PE X a (LfE X.K W w1)) : PO X (some a) (LfO X.K W fun ρ G Q E => w1 ρ G (intK fun i G1 => Q (some i) G1) E) := by
  refine ⟨fun pins s σ H Q I ⟨ρ, G, Qa, Ea, hE, hG, hw, hp, hx⟩ => (po_some h1).run pins s σ H Q I ⟨ρ, G, _, Ea, hE, hG, hw, fun d G1 v H1 f g r1 q => ?_, hx⟩⟩
  obtain ⟨i, rfl, q1⟩ := intK_inv q
  exact ⟨i, rep_i r1, hp _ _ _ _ f g rfl q1⟩
theorem se_sl {z : Bool} {lo hi : Option Expr} {p2 : Pos} {wl wh : Env' → AG → (Option Int → AG → Prop) → AX → Prop} (h1 : PE X a (LfE X.K W w1)) (h2 : PO X lo (LfO X.K W wl)) (h3 : PO X hi (LfO X.K W wh)) :
    PE X (.Subscript a (.Slice lo hi none p2) pos) (LfE X.K W fun ρ G Q E => w1 ρ G (fun x G1 => wl ρ G1 (fun i G2 => wh ρ G2 (fun j G3 => slW z x i j G3 Q) E) E) E) := by
  refine PE.imp (pe_z (pe_slice sl_any h1 h2 h3)) ?_
  rintro σ H Q ⟨ρ, G, Qa, Ea, hE, hG, hw, hp, hx⟩
  refine ⟨ρ, G, _, Ea, hE, hG, hw, fun d G1 v H1 f g r1 q => ⟨ρ, G1, _, Ea, hE.mono (f.stab hG), g, q, fun i G2 u H2 f2 g2 r2 q2 => ?_, hx.fra f⟩, hx⟩
  cases r2
  refine ⟨ρ, G2, _, Ea, hE.mono ((f.trans f2).stab hG), g2, q2, fun j G3 t H3 f3 g3 r3 q3 => ?_, hx.fra (f.trans f2)⟩
  cases r3
  exact slA_ok (r1.mono ((f2.trans f3).stab g)) g3 q3 (postZ fun d' G' v' H' f4 => hp d' G' v' H' (((f.trans f2).trans f3).trans f4))
theorem se_kslF {lo : Expr} {p2 : Pos} {w2 : Env' → AG → AQ → AX → Prop} (h1 : PE X a (LfE X.K W w1)) (h2 : PE X lo (LfE X.K W w2)) :
    PE X (.Subscript a (.Slice (some lo) none none p2) pos) (LfE X.K W fun ρ G Q E => w1 ρ G (fun x G1 => w2 ρ G1 (intK fun i G2 => kslW x i G2 Q) E) E) := by
  refine PE.imp (pe_slice sl_ktup h1 (so_some (W := W) h2) (so_none (W := W))) ?_
  rintro σ H Q ⟨ρ, G, Qa, Ea, hE, hG, hw, hp, hx⟩
  refine ⟨ρ, G, _, Ea, hE, hG, hw, fun d G1 v H1 f g r1 q => ⟨ρ, G1, (fun o G2 => ∃ i, o = some i ∧ kslW d i G2 Qa), Ea, hE.mono (f.stab hG), g, ?_, fun i G2 u H2 f2 g2 r2 q2 => ?_, hx.fra f⟩, hx⟩
  · show w2 ρ G1 (intK fun i G1 => ∃ i', some i = some i' ∧ kslW d i' G1 Qa) Ea
    have e : (intK fun i G1 => ∃ i', some i = some i' ∧ kslW d i' G1 Qa) = intK fun i G1 => kslW d i G1 Qa := by
      funext x G
      cases x <;> first | rfl | (simp only [intK, Option.some.injEq, exists_eq_left'])
    rw [e]
    exact q
  obtain ⟨i, rfl, q2⟩ := q2
  cases r2
  refine ⟨ρ, G2, (fun o G3 => o = none ∧ kslW d i G3 Qa), Ea, hE.mono ((f.trans f2).stab hG), g2, ⟨rfl, q2⟩, fun j G3 t H3 f3 g3 r3 q3 => ?_, hx.fra (f.trans f2)⟩
  obtain ⟨rfl, q3⟩ := q3
  cases r3
  cases d with
  | tup ds =>
    obtain ⟨l, vs, rfl, k1, k2⟩ := rep_t (r1.mono ((f2.trans f3).stab g))
    refine ⟨l, vs, i, rfl, rfl, rfl, k1.sq, fun e => q3.1.1 ((cutNil k2).mp e), q3.1.2, fun p o hpn ho => ?_⟩
    exact hp _ G3 _ _ ((((f.trans f2).trans f3)).trans (.newT hpn)) (g3.newT hpn) (.ktp ⟨o, upd_same, ho⟩ ((cut_rep k2 _ _).mono (.new hpn))) q3.2
  | _ => exact False.elim q3
/-! ### arguments -/
theorem sa_nil : PA X [] (LfA X.K W fun _ G Q _ => Q [] G) := PA.imp pa_nil fun _ _ _ ⟨ρ, G, Qa, Ea, hE, hG, hw, hp, hx⟩ => hp [] G [] _ .refl hG .nil hw
theorem sa_cons (hs : starEach (a :: es) X.env = (false, eval a X.env) :: starEach es X.env) (h1 : PE X a (LfE X.K W w1)) (h2 : PA X es (LfA X.K W wa)) :
    PA X (a :: es) (LfA X.K W fun ρ G Q E => w1 ρ G (fun d G1 => wa ρ G1 (fun ds G2 => Q (d :: ds) G2) E) E) :=
  PA.imp (pa_cons h1 h2 hs) fun _ _ _ ⟨ρ, G, Qa, Ea, hE, hG, hw, hp, hx⟩ => ⟨ρ, G, _, Ea, hE, hG, hw, fun d G1 v H1 f g r1 q => ⟨ρ, G1, _, Ea, hE.mono (f.stab hG), g, q,
    fun e G2 u H2 f2 g2 r2 q2 => hp _ _ _ _ (f.trans f2) g2 (.cons (r1.mono (f2.stab g)) r2) q2, hx.fra f⟩, hx⟩
theorem sk_nil : PK X [] (LfA X.K W fun _ G Q _ => Q [] G) := ⟨fun pos pins s σ H Q I ⟨ρ, G, Qa, Ea, hE, hG, hw, hp, hx⟩ => pk_nil.run pos pins s σ H Q I (hp [] G [] _ .refl hG .nil hw)⟩
theorem sk_cons {nm : Option Str} {kpos : Pos} {kws : List Keyword} (h1 : PE X a (LfE X.K W w1)) (h2 : PK X kws (LfA X.K W wa)) :
    PK X (⟨nm, a, kpos⟩ :: kws) (LfA X.K W fun ρ G Q E => w1 ρ G (fun d G1 => wa ρ G1 (fun ds G2 => Q (d :: ds) G2) E) E) :=
  ⟨fun pos pins s σ H Q I ⟨ρ, G, Qa, Ea, hE, hG, hw, hp, hx⟩ => (pk_cons h1 h2).run pos pins s σ H Q I ⟨ρ, G, _, Ea, hE, hG, hw, fun d G1 v H1 f g r1 q => ⟨ρ, G1, _, Ea, hE.mono (f.stab hG), g, q,
    fun e G2 u H2 f2 g2 r2 q2 => hp _ _ _ _ (f.trans f2) g2 (.cons (r1.mono (f2.stab g)) r2) q2, hx.fra f⟩, hx⟩⟩
/-! ### names, constants -/
theorem se_var {i : Nat} {x : Str} (hN : X.N[i]? = some x) (hv : Vis X.env.scope x) (hd : (x == ("__debug__" : Str)) = false) (hcd : (x == ("__classdict__" : Str)) = false) :
    PE X (.Name x pos) (LfE X.K W fun ρ G Q _ => match ρ[i]? with | some (some d) => Q d G | _ => False) := by
  refine PE.imp (pe_var hN hv hd hcd) ?_
  rintro σ H Q ⟨ρ, G, Qa, Ea, hE, hG, hw, hp, hx⟩
  cases e : ρ[i]? with
  | none => rw [e] at hw; exact False.elim hw
  | some o =>
    cases o with
    | none => rw [e] at hw; exact False.elim hw
    | some d =>
      rw [e] at hw
      obtain ⟨v, h1, h2⟩ := hE.2 i d e
      exact ⟨v, h1, hp d G v H .refl hG h2 hw⟩
theorem se_c {v : V} {d : Dat} (h : PE X a (tC v)) (r : ∀ H, Rep X.K H v d) : PE X a (LfE X.K W fun _ G Q _ => Q d G) :=
  PE.imp h fun _ H _ ⟨ρ, G, Qa, Ea, hE, hG, hw, hp, hx⟩ => hp d G v H .refl hG (r H) hw
theorem se_neg (h1 : PE X a (LfE X.K W w1)) : PE X (.UnaryOp .USub a pos) (LfE X.K W fun ρ G Q E => w1 ρ G (intK fun i G1 => Q (.int (-i)) G1) E) :=
  PE.imp (pe_un un_neg h1) fun _ _ _ ⟨ρ, G, Qa, Ea, hE, hG, hw, hp, hx⟩ => ⟨ρ, G, _, Ea, hE, hG, hw, fun d G1 v H1 f g r1 q => by
    obtain ⟨i, rfl, q1⟩ := intK_inv q
    exact ⟨i, rep_i r1, hp _ _ _ _ f g (.int _) q1⟩, hx⟩
theorem frzW_inv {Q : AQ} {d : Dat} {G : AG} (h : frzW d G Q) : (∃ p ds, d = .ref p ∧ G p = some (.lst ds) ∧ Q (.lst ds) (gx G p)) ∨ Q d G := by
  unfold frzW at h
  split at h
  · split at h
    · exact .inl ⟨_, _, rfl, by assumption, h⟩
    · exact .inr h
  · exact .inr h
theorem frz_step {K : PySem.W.Frag} {G : AG} {H : Hp} {p : Addr} {ds : List Dat} {vs : List V} {o : Obj} (g : RelG K G H) (e : G p = some (.lst ds)) (h : H p = some (.lst vs)) (r : Reps K H vs ds) :
    Fra G H (gx G p) (upd H p (.frz o (.lst vs))) ∧ RelG K (gx G p) (upd H p (.frz o (.lst vs))) ∧ Rep K (upd H p (.frz o (.lst vs))) (.ref p) (.lst ds) := by
  refine ⟨fun a u q _ n => ?_, ⟨fun a w q => ?_, tabs_soft g.t h Soft.lst⟩, .lst ⟨o, upd_same⟩ (r.mono (.lst h))⟩
  · have d : a ≠ p := fun z => by rw [z, e] at n; cases n
    exact ⟨by rw [upd_ne d]; exact q, by rw [gx_ne d]; exact n⟩
  · have d : a ≠ p := fun z => by rw [z, gx_same] at q; cases q
    rw [gx_ne d] at q
    exact (g.g a w q).mono (.lst h) (upd_ne d)
theorem se_frz (h1 : PE X a (LfE X.K W w1)) : PE X a (LfE X.K W fun ρ G Q E => w1 ρ G (fun x G1 => frzW x G1 Q) E) := by
  refine ⟨fun pins s σ H Q I ⟨ρ, G, Qa, Ea, hE, hG, hw, hp, hx⟩ => ?_⟩
  refine thn (h1.run pins s σ H (fun v H1 => ∃ d G1, Fra G H G1 H1 ∧ RelG X.K G1 H1 ∧ Rep X.K H1 v d ∧ frzW d G1 Qa) I ⟨ρ, G, _, Ea, hE, hG, hw, fun d G1 v H1 f g r q => ⟨d, G1, f, g, r, q⟩, hx⟩) ?_
  rintro u s1 ⟨v, H1, I1, rv, d, G1, f, g, r, q⟩
  rcases frzW_inv q with ⟨p, ds, rfl, e, q1⟩ | q1
  · cases rep_r r
    obtain ⟨vs, h2, h3⟩ := g.lst e
    obtain ⟨z, its, n, _, _, ho⟩ := I1.lstM h2
    obtain ⟨f2, g2, r2⟩ := frz_step (o := { cls := .type "list", data := .seq its.toArray n }) g e h2 h3
    exact ⟨.ref p, _, Inv.frozen I1 h2 ho, rv, hp _ _ _ _ (f.trans f2) g2 r2 q1⟩
  · exact ⟨v, H1, I1, rv, hp _ _ _ _ f g r q1⟩
end
end Av
set_option Elab.async false
set_option linter.all false
set_option maxRecDepth 100000
set_option maxHeartbeats 4000000
/-! # AvX0: raising own exceptions, by the layer's judgements -/
namespace Av
open PySem PySem.Spec PyProof.Rows L2
variable [Tb]
section
variable {X : Cx} {C : Addr} {bmB : List Value} {B newId initId : String}
/-- X() of an own class without own __init__ -/
theorem pmk_bare {x : Str} {p pos : Pos} (F : ExcBaseFacts B newId initId bmB) (q : PySem.W.excIn X.K C bmB newId = true) (gC : X.mg x = some (.ref C)) (kC : PySem.W.keepIn X.K (.ref C) = true) (r : Raises X (.ref C)) (hg : Gl X x) (hdb : (x == ("__debug__" : Str)) = false) :
    PMk X (.Call (.Name x p) [] [] pos) (fun _ H Q => Q (.ref C) none H) := by
  intro pins s σ H Q I h
  refine wpAny_Call_Name_kw (ld_glob I hg gC ?_ hdb)
  refine PySem.W.callWith_K0 I.kIn kC ?_
  obtain ⟨bm, N, nm, qn, bs, hdct, sn, sub, ab, col, dd, k0, k1, k2, k3, k5, mN, hC, hN, hni, T⟩ := exc_obj I.kIn q
  refine wpAny_call_exc_subT F T hC hN hni (fun h' e hm => ?_) (Nat.zero_le _)
  exact mk_of I hm r h (I.hok.gone hm.new)
/-- the fields that are put one behind another -/
theorem exo_put {H : Hp} {a d : Addr} {C : Addr} {fs gs : List (Str × V)} (hd : d ≠ a) : upd (upd (upd H d (exd d fs)) a (exo a C (some d))) d (exd d gs) = upd (upd H d (exd d gs)) a (exo a C (some d)) := by
  funext b
  unfold upd
  by_cases h1 : b = d
  · subst h1; simp [hd]
  · simp [h1]
theorem upd_id {H : Hp} {d : Addr} {o : HO} (h : H d = some o) : upd H d o = H := by
  funext b
  by_cases hb : b = d
  · subst hb; rw [upd_same, h]
  · rw [upd_ne hb]
/-- self.f = p, .. -/
def xiB (N : List Str) (sc : Scope) : Nat → List Str → List Stmt → Bool
  | _, [], [] => true
  | i, f :: fl, .Assign [.Attribute (.Name x _) g _] (.Name y _) _ :: r => (f == g) && (N[0]? == some x) && (N[i]? == some y) && decide (sc.names.lookup x = some .local) && decide (sc.names.lookup y = some .local) && !(x == ("__debug__" : Str)) && !(x == ("__classdict__" : Str)) && !(y == ("__debug__" : Str)) && !(y == ("__classdict__" : Str)) && xiB N sc (i + 1) fl r
  | _, _, _ => false
theorem xi_more (hk : OexC X.K C) : ∀ (fl : List Str) (i : Nat) (sts : List Stmt), xiB X.N X.env.scope i fl sts = true → (∀ f ∈ fl, PySem.W.findIn X.K (.ref C) f = some none) →
    PSs X sts fun D σ H => ∃ a d fs ws, d ≠ a ∧ σ[0]? = some (some (.ref a)) ∧ ws.length = fl.length ∧ (∀ j v, ws[j]? = some v → σ[i + j]? = some (some v)) ∧ H a = some (exo a C (some d)) ∧ H d = some (exd d fs) ∧ fs.length + fl.length ≤ 900 ∧ D.nx σ (upd H d (exd d ((fl.zip ws).reverse ++ fs)))
  | [], i, [], _, _ => PSs.imp pss_nil fun D σ H ⟨a, d, fs, ws, hda, h0, hl, h1, h2, h3, h4, h5⟩ => by
      have : ws = [] := List.length_eq_zero_iff.mp hl
      subst this
      have h6 : D.nx σ (upd H d (exd d fs)) := h5
      rw [upd_id h3] at h6
      exact h6
  | f :: fl, i, st :: sts, h, hn => by
      unfold xiB at h
      split at h
      · rename_i q1 q2
        cases q1
      · rename_i i2 _ _ _ _ _ _ _ _ _ _ _ _ _ e1 e2
        cases e1
        cases e2
        simp only [Bool.and_eq_true, Bool.not_eq_true', beq_iff_eq, decide_eq_true_eq] at h
        obtain ⟨⟨⟨⟨⟨⟨⟨⟨⟨rfl, g1⟩, g2⟩, g3⟩, g4⟩, g5⟩, g6⟩, g7⟩, g8⟩, g9⟩ := h
        have ih := xi_more hk fl (i2 + 1) _ g9 fun x hx => hn x (List.mem_cons_of_mem _ hx)
        refine PSs.imp (pss_cons (ps_ost (pe_var g1 (.inl g3) g5 g6) (pe_var g2 (.inl g4) g7 g8) rfl) ih) fun D σ H ⟨a, d, fs, ws, hda, h0, hl, h1, h2, h3, h4, h5⟩ => ?_
        cases ws with
        | nil => cases hl
        | cons v ws =>
          refine ⟨v, h1 0 v rfl, .ref a, h0, a, C, rfl, hk, hn _ (List.mem_cons_self ..), .inr ⟨d, fs, h2, h3, by simp at h4; omega, ?_⟩⟩
          refine ⟨a, d, _, ws, hda, h0, by simpa using hl, fun j u hu => by have := h1 (j + 1) u hu; rw [show i2 + 1 + j = i2 + (j + 1) by omega]; exact this, by rw [upd_ne (Ne.symm hda)]; exact h2, upd_same, by simp at h4 ⊢; omega, ?_⟩
          rw [L2.upd_upd]
          simpa using h5
      · cases h
  | [], _, _ :: _, h, _ => by unfold xiB at h; cases h
  | _ :: _, _, [], h, _ => by unfold xiB at h; cases h
theorem xi_first (hk : OexC X.K C) : ∀ (fl : List Str) (i : Nat) (sts : List Stmt), fl ≠ [] → fl.length ≤ 900 → xiB X.N X.env.scope i fl sts = true → (∀ f ∈ fl, PySem.W.findIn X.K (.ref C) f = some none) →
    PSs X sts fun D σ H => ∃ a ws, σ[0]? = some (some (.ref a)) ∧ ws.length = fl.length ∧ (∀ j v, ws[j]? = some v → σ[i + j]? = some (some v)) ∧ H a = some (exo a C none) ∧ ∀ d, H d = none → d ≠ a → D.nx σ (upd (upd H d (exd d (fl.zip ws).reverse)) a (exo a C (some d)))
  | [], _, _, h0, _, _, _ => absurd rfl h0
  | f :: fl, i, [], _, _, h, _ => by unfold xiB at h; cases h
  | f :: fl, i, st :: sts, _, h9, h, hn => by
      unfold xiB at h
      split at h
      · rename_i q1 q2
        cases q1
      · rename_i i2 _ _ _ _ _ _ _ _ _ _ _ _ _ e1 e2
        cases e1
        cases e2
        simp only [Bool.and_eq_true, Bool.not_eq_true', beq_iff_eq, decide_eq_true_eq] at h
        obtain ⟨⟨⟨⟨⟨⟨⟨⟨⟨rfl, g1⟩, g2⟩, g3⟩, g4⟩, g5⟩, g6⟩, g7⟩, g8⟩, g9⟩ := h
        have ih := xi_more hk fl (i2 + 1) _ g9 fun x hx => hn x (List.mem_cons_of_mem _ hx)
        refine PSs.imp (pss_cons (ps_ost (pe_var g1 (.inl g3) g5 g6) (pe_var g2 (.inl g4) g7 g8) rfl) ih) fun D σ H ⟨a, ws, h0, hl, h1, h2, h5⟩ => ?_
        cases ws with
        | nil => cases hl
        | cons v ws =>
          refine ⟨v, h1 0 v rfl, .ref a, h0, a, C, rfl, hk, hn _ (List.mem_cons_self ..), .inl ⟨h2, fun d hd hda => ?_⟩⟩
          refine ⟨a, d, _, ws, hda, h0, by simpa using hl, fun j u hu => by have := h1 (j + 1) u hu; rw [show i2 + 1 + j = i2 + (j + 1) by omega]; exact this, upd_same, by rw [upd_ne hda]; exact upd_same, by simp at h9 ⊢; omega, ?_⟩
          rw [exo_put hda]
          simpa using h5 d hd hda
      · cases h
/-- an __init__ of nothing but self.f = p -/
def spXi (K : PySem.W.Frag) (C : Addr) (fl : List Str) : Sp := fun vs H Q _ => ∃ a ws, vs = .ref a :: ws ∧ ws.length = fl.length ∧ H a = some (exo a C none) ∧ ∀ d, H d = none → d ≠ a → Q .non (upd (upd H d (exd d (fl.zip ws).reverse)) a (exo a C (some d)))
theorem start_get {N : List Str} {vs : List V} {i : Nat} {v : V} (h : vs[i]? = some v) : (L2.start N vs)[i]? = some (some v) := by
  unfold L2.start
  have hl := (List.getElem?_eq_some_iff.mp h).1
  rw [List.getElem?_append_left (by rw [List.length_map]; exact hl), List.getElem?_map, h]
  rfl
theorem xi_ok {P : Program} {w : World} {K : PySem.W.Frag} {mg : Str → Option Value} {base : Heap} {N ps fl : List Str} {x qual : Str} {params : Arguments} {body : List Stmt} {scope : Scope} {f : Addr} {fd : FuncData} (FD : FunD K x qual params body scope [] [] f fd) (S : FnScope N ps scope) (hl : ps.length = fl.length + 1)
    (hk : OexC K C) (hb : xiB N scope 1 fl body = true) (hn : ∀ f ∈ fl, PySem.W.findIn K (.ref C) f = some none) (h0 : fl ≠ []) (h9 : fl.length ≤ 900) : FnOk P w K mg base (L2.CX P w) 1 f fd ps (spXi K C fl) := by
  refine FD.ok S (fun vs H Q E h => by obtain ⟨a, ws, rfl, h1, _⟩ := h; rw [List.length_cons, h1, hl]) fun cdv A outer s H vs Q E hr hsp => ?_
  obtain ⟨a, ws, rfl, hw, ha, hq⟩ := hsp
  refine ⟨_, xi_first (X := cxOf (L2.CX P w) P w K mg base N qual scope f cdv A outer s H E) hk fl 1 body h0 h9 hb hn, a, ws, start_get rfl, hw, fun j v hv => ?_, ha, fun d hd hda => hq d hd hda⟩
  exact start_get (by rw [Nat.add_comm]; exact hv)
end
end Av
set_option Elab.async false
set_option linter.all false
set_option maxRecDepth 100000
set_option maxHeartbeats 4000000
/-! # AvG: dicts of the module, by their names -/
namespace Av
open PySem PySem.Spec PyProof.Rows L2
variable [Tb]
/-- the module's dict at d: what it holds -/
structure KdAt (K : PySem.W.Frag) (P : Program) (w : World) (d : Addr) (vk : List (Key × V)) : Prop where
  at_ : ∃ (o : Obj) (es : Array DictEntry) (ep : Nat) (vs : List (Key × Value)), K.lookup d = some o ∧ o.ExactDict ∧ o.data = .dict es ep ∧ PySem.KeysOf (mixKind P w) es ∧ PySem.Pairs (mixKind P w) es.toList vs ∧ (vs.map (·.1)).Nodup ∧ KV vk vs
  low : (d == sysModules) = false
section
variable {X : Cx} {pins : List (Addr × Obj)} {σ : L2.St} {H : Hp} {s : Shared} {d : Addr} {vk : List (Key × V)}
theorem KdAt.of (h : KdAt X.K X.prog X.w d vk) (I : Inv X pins σ H s) : ∃ vs, KV vk vs ∧ s.heap.DictOf (mixKind X.prog X.w) d vs := by
  obtain ⟨⟨o, es, ep, vs, h1, h2, h3, h4, h5, h6, h7⟩, _⟩ := h
  exact ⟨vs, h7, o, es, ep, I.kIn _ _ h1, h2, h3, h4, h5, h6⟩
/-- x in D -/
def rKdIn (n : Bool) (vk : List (Key × V)) (d : Addr) : V → V → Hp → VK → Prop := fun x y H Q => ∃ k, y = .ref d ∧ x = kV k ∧ Q (.bl (if n then !(valV vk k).isSome else (valV vk k).isSome)) H
theorem op_kdIn (h : KdAt X.K X.prog X.w d vk) : OpR X (compareOp .In) (rKdIn false vk d) := by
  intro pins s σ H x y v u Q I rx ry ⟨k, e1, e2, q⟩
  subst e1 e2
  cases ry
  obtain ⟨vs, rel, dd⟩ := h.of I
  refine wpAny_in_of (kV_is rx) h.low dd.mapOf ?_
  rw [← (rel.val k).isSome_eq]
  exact ⟨.bl _, H, I.tok _, rfl, q⟩
theorem op_kdNotIn (h : KdAt X.K X.prog X.w d vk) : OpR X (compareOp .NotIn) (rKdIn true vk d) := by
  intro pins s σ H x y v u Q I rx ry ⟨k, e1, e2, q⟩
  subst e1 e2
  cases ry
  obtain ⟨vs, rel, dd⟩ := h.of I
  refine wpAny_notIn_of (kV_is rx) h.low dd.mapOf ?_
  rw [← (rel.val k).isSome_eq]
  exact ⟨.bl _, H, I.tok _, rfl, q⟩
/-- D[x] -/
theorem kd_item {A : Around} {E : Value → Shared → Prop} {k : Key} {v : V} {u : Value} {Q : Value → Shared → Prop} (h : KdAt X.K X.prog X.w d vk) (I : Inv X pins σ H s) (ry : RelV (kV k) u) (l : valV vk k = some v) (hq : ∀ w' s', Inv X pins σ H s' → RelV v w' → Q w' s') :
    wpAny (model X.prog X.w) A (getItem (.ref d) u) Q E s := by
  obtain ⟨vs, rel, dd⟩ := h.of I
  obtain ⟨w', hw, rw'⟩ := RelO.some_of (v := v) (o := valueAt vs k) (by rw [← l]; exact rel.val k)
  exact wpAny_getItem_of (kV_is ry) dd.mapOf hw (hq w' _ (I.tok _) rw')
theorem kd_get1 {A : Around} {E : Value → Shared → Prop} {k : Key} {u : Value} {Q : Value → Shared → Prop} (h : KdAt X.K X.prog X.w d vk) (I : Inv X pins σ H s) (ry : RelV (kV k) u) (hq : ∀ w' s', Inv X pins σ H s' → RelV ((valV vk k).getD .non) w' → Q w' s') :
    wpAny (model X.prog X.w) A (call (.builtin "dict.get") [.ref d, u]) Q E s := by
  obtain ⟨vs, rel, dd⟩ := h.of I
  refine call_meetsIn PySem.F.slot_dict_get dd.typeIs PySem.F.entry_dict_get (PySem.F.args_dict_get_2 _ _) (meets_dict_get (mixKind X.prog X.w) d (kV_is ry) h.low) ⟨_, dd.mapOf, hq _ _ (I.tok _) ?_⟩
  exact (rel.val k).getD rfl
theorem kd_get2 {A : Around} {E : Value → Shared → Prop} {k : Key} {u r : Value} {z : V} {Q : Value → Shared → Prop} (h : KdAt X.K X.prog X.w d vk) (I : Inv X pins σ H s) (ry : RelV (kV k) u) (rd : RelV z r) (hq : ∀ w' s', Inv X pins σ H s' → RelV ((valV vk k).getD z) w' → Q w' s') :
    wpAny (model X.prog X.w) A (call (.builtin "dict.get") [.ref d, u, r]) Q E s := by
  obtain ⟨vs, rel, dd⟩ := h.of I
  refine call_meetsIn PySem.F.slot_dict_get dd.typeIs PySem.F.entry_dict_get (PySem.F.args_dict_get_3 _ _ _) (meets_dict_get_default (mixKind X.prog X.w) d (kV_is ry) h.low r) ⟨_, dd.mapOf, hq _ _ (I.tok _) ?_⟩
  exact (rel.val k).getD rd
end
section
variable {X : Cx} {D x : Str} {p pos apos cpos : Pos} {d : Addr} {vk : List (Key × V)} {a b : Expr} {t t2 : TE}
theorem pe_gname (hg : Gl X D) (hm : X.mg D = some (.ref d)) (hdb : (D == ("__debug__" : Str)) = false) : PE X (.Name D p) (tC (.ref d)) :=
  ⟨fun pins s σ H Q I q => ld_glob I hg hm ⟨.ref d, H, I, rfl, q⟩ hdb⟩
def tKdIx (vk : List (Key × V)) (t : TE) : TE := fun σ H Q => t σ H fun y H1 => ∃ k v, y = kV k ∧ valV vk k = some v ∧ Q v H1
theorem pe_kdIx (h : KdAt X.K X.prog X.w d vk) (hg : Gl X D) (hm : X.mg D = some (.ref d)) (hdb : (D == ("__debug__" : Str)) = false) (hi : PE X a t) (hs : NoSl a) : PE X (.Subscript (.Name D p) a pos) (tKdIx vk t) := by
  refine ⟨fun pins s σ H Q I q => ?_⟩
  refine subD_of PySem.F.slot_dict_getitem.lookup hs (thn ((pe_gname (p := p) hg hm hdb).run pins s σ H (fun v H1 => v = .ref d ∧ H1 = H) I ⟨rfl, rfl⟩) fun u s1 ⟨v, H1, I1, rv, e1, e2⟩ => ?_)
  subst e1 e2
  cases rv
  refine thn (hi.run pins s1 σ _ _ I1 q) fun iv s2 ⟨y, H2, I2, ry, k, v, e, l, q2⟩ => ?_
  subst e
  obtain ⟨vs, rel, dd⟩ := h.of I2
  exact ⟨dd.typeIs, kd_item h I2 ry l fun w' s3 I3 rw' => ⟨v, H2, I3, rw', q2⟩⟩
def tKdG1 (vk : List (Key × V)) (t : TE) : TE := fun σ H Q => t σ H fun y H1 => ∃ k, y = kV k ∧ Q ((valV vk k).getD .non) H1
def tKdG2 (vk : List (Key × V)) (t t2 : TE) : TE := fun σ H Q => t σ H fun y H1 => t2 σ H1 fun z H2 => ∃ k, y = kV k ∧ Q ((valV vk k).getD z) H2
theorem kd_noDict {pins : List (Addr × Obj)} {σ : L2.St} {H : Hp} {s : Shared} (h : KdAt X.K X.prog X.w d vk) (I : Inv X pins σ H s) : s.TypeIs (.ref d) "dict" ∧ ∀ b, Value.ref d = .ref b → ∃ ob, s.heap.get? b = some ob ∧ ob.dict = none := by
  obtain ⟨vs, rel, dd⟩ := h.of I
  refine ⟨dd.typeIs, fun b q => ?_⟩
  cases q
  obtain ⟨ob, _, _, h1, h2, _⟩ := dd
  exact ⟨ob, h1, h2.2.1⟩
theorem pe_kdG1 (h : KdAt X.K X.prog X.w d vk) (hg : Gl X D) (hm : X.mg D = some (.ref d)) (hdb : (D == ("__debug__" : Str)) = false) (he : PE X a t) (m : M1 X (.Name D p) "get" apos a cpos) : PE X (.Call (.Attribute (.Name D p) "get" apos) [a] [] cpos) (tKdG1 vk t) := by
  refine ⟨fun pins s σ H Q I q => ?_⟩
  refine wpAny_Call_method m.base m.few m.line PySem.F.plainAttrs_dict PySem.F.slot_dict_get PySem.F.type_dict_get (thn ((pe_gname (p := p) hg hm hdb).run pins s σ H (fun v H1 => v = .ref d ∧ H1 = H) I ⟨rfl, rfl⟩) fun u s1 ⟨v, H1, I1, rv, e1, e2⟩ => ?_)
  subst e1 e2
  cases rv
  obtain ⟨t1, t2⟩ := kd_noDict h I1
  refine ⟨t1, t2, ?_⟩
  rw [m.trees]
  refine Calls.callWith_builtin rfl (Calls.evalArgs_plain (Calls.spliced_cons (thn (he.run pins s1 σ _ _ I1 q) fun iv s2 ⟨y, H2, I2, ry, k, e, q2⟩ => Calls.spliced_nil ?_)))
  subst e
  exact kd_get1 h I2 ry fun w' s3 I3 rw' => ⟨_, H2, I3, rw', q2⟩
theorem pe_kdG2 (h : KdAt X.K X.prog X.w d vk) (hg : Gl X D) (hm : X.mg D = some (.ref d)) (hdb : (D == ("__debug__" : Str)) = false) (he : PE X a t) (hf : PE X b t2) (m : M2 X (.Name D p) "get" apos a b cpos) : PE X (.Call (.Attribute (.Name D p) "get" apos) [a, b] [] cpos) (tKdG2 vk t t2) := by
  refine ⟨fun pins s σ H Q I q => ?_⟩
  refine wpAny_Call_method m.base m.few m.line PySem.F.plainAttrs_dict PySem.F.slot_dict_get PySem.F.type_dict_get (thn ((pe_gname (p := p) hg hm hdb).run pins s σ H (fun v H1 => v = .ref d ∧ H1 = H) I ⟨rfl, rfl⟩) fun u s1 ⟨v, H1, I1, rv, e1, e2⟩ => ?_)
  subst e1 e2
  cases rv
  obtain ⟨t1, t3⟩ := kd_noDict h I1
  refine ⟨t1, t3, ?_⟩
  rw [m.trees]
  refine Calls.callWith_builtin rfl (Calls.evalArgs_plain (Calls.spliced_cons (thn (he.run pins s1 σ _ _ I1 q) fun iv s2 ⟨y, H2, I2, ry, q2⟩ =>
    Calls.spliced_cons (thn (hf.run pins s2 σ H2 _ I2 q2) fun fv s3 ⟨z, H3, I3, rz, k, e, q3⟩ => Calls.spliced_nil ?_))))
  subst e
  exact kd_get2 h I3 ry rz fun w' s4 I4 rw' => ⟨_, H3, I4, rw', q3⟩
end
/-! ### its keys, walked -/
def ItK (vk : List (Key × V)) : It := ⟨fun i _ => i < vk.length, fun i H x H' => H' = H ∧ ∃ k v, vk[i]? = some (k, v) ∧ x = kV k, fun i _ => vk.length ≤ i⟩
section
variable {P : Program} {w : World} {K : PySem.W.Frag} {tg : Expr} {d : Addr} {vk : List (Key × V)}
theorem KdAt.lit {X : Cx} {pins : List (Addr × Obj)} {σ : L2.St} {H : Hp} {s : Shared} {o : Obj} {es : Array DictEntry} {ep : Nat} (h : KdAt X.K X.prog X.w d vk) (e : X.K.lookup d = some o) (hd : o.data = .dict es ep) (I : Inv X pins σ H s) :
    s.heap.get? d = some o ∧ o.ExactDict ∧ es.size = vk.length ∧ ∃ vs, KV vk vs ∧ s.heap.DictAt (mixKind X.prog X.w) d vs ep := by
  obtain ⟨⟨o', es', ep', vs, h1, h2, h3, h4, h5, h6, h7⟩, _⟩ := h
  rw [e] at h1
  cases h1
  obtain ⟨q1, q2⟩ := dict_ep hd h3
  subst q1 q2
  have g := I.kIn _ _ e
  have l1 := h5.length
  have l2 : vk.length = vs.length := Paired.length h7
  rw [Array.length_toList] at l1
  exact ⟨g, h2, by omega, vs, h7, o, _, g, h2, hd, h4, h5, h6⟩
theorem turn_kd {o : Obj} {es : Array DictEntry} {ep : Nat} (it : Addr) (h : KdAt K P w d vk) (e : K.lookup d = some o) (hod : o.data = .dict es ep) : Turn P w K tg (ItK vk) [it] it (fun i h => h.IsKeyIter it d i vk.length ep) where
  mem := List.mem_singleton.mpr rfl
  obj := fun i hp st b hb => by
    cases List.mem_singleton.mp hb
    obtain ⟨oi, e, c, dd⟩ := st
    exact ⟨oi, e, fun v z => by rw [dd] at z; cases z⟩
  keep := fun i hp hp' st k => st.at fun oi e => k it (List.mem_singleton.mpr rfl) oi e
  item := by
    intro X hP hw hK hc i pins s σ H E I hf st hi
    subst hP hw hK
    obtain ⟨f0, f1, f2, f3, f4, f5⟩ := hf it (List.mem_singleton.mpr rfl)
    obtain ⟨hgd, hx, hsz, vs, kv, hm⟩ := h.lit e hod I
    have hi : i < vk.length := hi
    obtain ⟨⟨k, v⟩, hkv⟩ : ∃ q, vk[i]? = some q := ⟨vk[i], List.getElem?_eq_getElem hi⟩
    obtain ⟨u, hu, ru⟩ := kv_get kv hkv
    have hl : vk.length = vs.length := Paired.length kv
    rw [hl] at st
    refine wpAny_pyNext_dict_item st hm hu fun key h' hkey st' sb => ?_
    have I1 : Inv X pins σ H { s with heap := h' } := I.turned (t' := s.toks) (fun b ob hb e => (sb.2 b hb).trans e) f0 f1 f3 f4 f5
    obtain ⟨oi, e6, c, dd⟩ := id st'
    have rk : RelV (kV k) key := relV_key hkey
    refine ⟨key, rfl, go_of (s := { s with heap := h' }) e6 c dd (by decide) ⟨kV k, H, I1, rk, ⟨rfl, k, v, hkv, rfl⟩, ?_, fun b hb => (hf b hb).1⟩⟩
    show h'.IsKeyIter it d (i + 1) vk.length _
    rw [hl]
    exact st'
  done := by
    intro X hP hw hK hc i pins s σ H E I hf st hi
    subst hP hw hK
    obtain ⟨f0, f1, f2, f3, f4, f5⟩ := hf it (List.mem_singleton.mpr rfl)
    obtain ⟨hgd, hx, hsz, vs, kv, hm⟩ := h.lit e hod I
    exact next_key_end (I.ok.hd hc) st hgd hod hsz hi fun h' eb => ⟨rfl, I.turned (t' := s.toks) (fun b ob hb e => eb b ob hb e) f0 f1 f3 f4 f5⟩
  self := fun A i s Q E st h => wpAny_pyIter_keyiter st h
theorem pi_kd {X : Cx} {D : Str} {p : Pos} (h : KdAt X.K X.prog X.w d vk) (hg : Gl X D) (hm : X.mg D = some (.ref d)) (hdb : (D == ("__debug__" : Str)) = false) : PI X tg (.Name D p) (fun _ H R => R (ItK vk) H) := by
  refine ⟨fun pins s σ H R I q => ?_⟩
  refine thn ((pe_gname (p := p) hg hm hdb).run pins s σ H (fun v H1 => v = .ref d ∧ H1 = H) I ⟨rfl, rfl⟩) fun u s1 ⟨v, H1, I1, rv, e1, e2⟩ => ?_
  subst e1 e2
  cases rv
  obtain ⟨o, es, ep, _, h1, h2, h3, _⟩ := h.at_
  obtain ⟨hgd, hx, hsz, vs, kv, hm'⟩ := h.lit h1 h3 I1
  refine iter_keys h.low hgd hx h3 (pi_one (tk := s1.toks) I1 _ (turn_kd _ h h1 h3) ⟨_, Heap.get?_push_size _ rfl, rfl, ?_⟩ q)
  rw [hsz]
  rfl
end
end Av
set_option Elab.async false
set_option linter.all false
set_option maxRecDepth 100000
set_option maxHeartbeats 4000000
/-! # AvHt0: defs that are called in except suites with the exception that is held -/
namespace Av
open PySem PySem.Spec PyProof.Rows L2 L2H
variable [Tb]
/-- what it tells of an exception: by the class and the fields -/
abbrev HotG := Str → List (Str × Dat) → Option Dat
structure HotFn (P : Program) (w : World) (K : PySem.W.Frag) (mg : Str → Option Value) (base : Heap) (k : Nat) (f : Addr) (fd : FuncData) (ps : List Str) (g : HotG) : Prop where
  one : ps.length = 1
  run : ∀ (A : Around) (outer : List Env) (s : Shared) (H : Hp) (args : Args) (p : Addr × Obj) (C : Str) (fs : List (Str × Dat)) (G : AG) (d : Dat) (Q : VK), RoomH k A → PinOk outer H s p → Env0 P w K mg base A outer s H → BindsTo s fd args (ps.zip [.ref p.1]) →
    p.2.cls = .ref (He.ga K C) → (∃ vs, p.2.data = .fields vs) → RelG K G H → RelX K H p.2.dict fs → g C fs = some d → (∀ v H', Fra G H G H' → RelG K G H' → RelX K H' p.2.dict fs → Rep K H' v d → Q v H') →
    codeAny (model P w) A (.call (.ref f) args) (CR (L2.CX P w) outer P w H s Q fun _ _ _ => False) s
theorem HotFn.mono {P : Program} {w : World} {K : PySem.W.Frag} {mg : Str → Option Value} {base : Heap} {j k : Nat} {f : Addr} {fd : FuncData} {ps : List Str} {g : HotG} (h : HotFn P w K mg base j f fd ps g) (hj : j ≤ k) : HotFn P w K mg base k f fd ps g :=
  ⟨h.one, fun A outer s H args p C fs G d Q hr => h.run A outer s H args p C fs G d Q (hr.mono hj)⟩
end Av
set_option Elab.async false
set_option linter.all false
set_option maxRecDepth 100000
set_option maxHeartbeats 4000000
/-! # Av5: calls, methods, what is walked, comprehensions -/
namespace Av
open PySem PySem.Spec PyProof.Rows L2
variable [Tb]
/-- a def's promise by its contract -/
def spOf (K : PySem.W.Frag) (F : FnE) : Sp := fun vs H Q E => ∃ ds G Qa Ea, Reps K H vs ds ∧ RelG K G H ∧ F.con ds G Qa Ea ∧ PostE K G H Qa Q ∧ PostX K G H Ea E
theorem spOf_len {K : PySem.W.Frag} {F : FnE} {vs : List V} {H : Hp} {Q : VK} {E : XK} (h : spOf K F vs H Q E) : vs.length = F.ar := by
  obtain ⟨ds, G, Qa, Ea, h1, _, h2, _⟩ := h
  rw [h1.length]
  exact F.len _ _ _ _ h2
/-- a class that is raised: without fields and without own __init__, or with an __init__ of nothing but self.f = p -/
def XcOk (P : Program) (w : World) (K : PySem.W.Frag) (mg : Str → Option Value) (base : Heap) (k : Nat) (C : Addr) (fl : List Str) : Prop :=
  (fl = [] ∧ PySem.W.excIn K C He.veBase "ValueError.__new__" = true ∧ PySem.W.keepIn K (.ref C) = true ∧ PySem.W.subIn K (.ref C) (.type "BaseException") = some true ∧ PySem.W.typeIn K (.ref C) = some (.type "type")) ∨
  (fl ≠ [] ∧ fl.length ≤ 900 ∧ OexC K C ∧ ∃ a fd ps j, j + 1 ≤ k ∧ PySem.W.findIn K (.ref C) "__init__" = some (some (.ref a)) ∧ PySem.W.typeIn K (.ref a) = some (.type "function") ∧ FnOk P w K mg base (L2.CX P w) j a fd ps (spXi K C fl) ∧ Binds K fd ps [])
/-- a made function's promise -/
def spLam (K : PySem.W.Frag) (q : Nat) (L : LamE) (f : Addr) (cl : List Addr) : Sp := fun vs H Q E => ∃ ds G Qa Ea, Rep K H (.ref f) (.clo q cl) ∧ Reps K H vs ds ∧ RelG K G H ∧ L.con cl ds G Qa Ea ∧ PostE K G H Qa Q ∧ PostX K G H Ea E
def LamOk (P : Program) (w : World) (K : PySem.W.Frag) (mg : Str → Option Value) (base : Heap) (k : Nat) (q : Nat) (L : LamE) : Prop :=
  ∀ (f : Addr) (cl : List Addr) (A : Around) (outer : List Env) (s : Shared) (H : Hp) (us : List Value) (vs : List V) (Q : VK) (E : XK), Room k A → Env0 P w K mg base A outer s H → Vals vs us → spLam K q L f cl vs H Q E →
    codeAny (model P w) A (.call (.ref f) ⟨us, []⟩) (CR (L2.CX P w) outer P w H s Q E) s
theorem LamOk.mono {P : Program} {w : World} {K : PySem.W.Frag} {mg : Str → Option Value} {base : Heap} {j k q : Nat} {L : LamE} (o : LamOk P w K mg base j q L) (h : j ≤ k) : LamOk P w K mg base k q L := fun f cl A outer s H us vs Q E hr => o f cl A outer s H us vs Q E (hr.mono h)
/-- what the table of names says is so -/
structure TbOk (P : Program) (w : World) (K : PySem.W.Frag) (mg : Str → Option Value) (base : Heap) (Γ : Gam) (k : Nat) : Prop where
  fn : ∀ f F, Γ.fn f = some F → ∃ a fd ps, FnOk P w K mg base (L2.CX P w) k a fd ps (spOf K F) ∧ mg f = some (.ref a) ∧ PySem.W.keepIn K (.ref a) = true ∧
    ∀ m, F.ar ≤ m + F.dfl.length → m ≤ F.ar → ∃ ds dvs, Binds K fd ps ds ∧ Vals dvs ds ∧ ∀ H, Reps K H dvs (F.dfl.drop (m + F.dfl.length - F.ar))
  gl : ∀ x d, Γ.gl x = some d → ∃ u v, RelV v u ∧ (∀ H, Rep K H v d) ∧ (mg x = some u ∨ (mg x = none ∧ bootBuiltins x = some u))
  blt : ∀ f : BF, mg f.nm = none
  at_ : ∀ C f, Γ.at_ C f = true → Cls K (He.ga K C) ∧ NoAttr K (He.ga K C) f
  ms : ∀ C m F, Γ.ms C m = some F → ∃ a fd ps, FnOk P w K mg base (L2.CX P w) k a fd ps (spOf K F) ∧ Cls K (He.ga K C) ∧ Meth K (He.ga K C) m a ∧
    ∀ m, F.ar ≤ m + 1 + F.dfl.length → m + 1 ≤ F.ar → ∃ ds dvs, Binds K fd ps ds ∧ Vals dvs ds ∧ ∀ H, Reps K H dvs (F.dfl.drop (m + 1 + F.dfl.length - F.ar))
  mke : ∀ C F, Γ.mke C = some F → ∃ a fd ps j, j + 1 ≤ k ∧ FnOk P w K mg base (L2.CX P w) j a fd ps (spOf K F) ∧ Mk K (He.ga K C) a ∧ mg C = some (.ref (He.ga K C)) ∧
    ∀ m, F.ar ≤ m + 1 + F.dfl.length → m + 1 ≤ F.ar → ∃ ds dvs, Binds K fd ps ds ∧ Vals dvs ds ∧ ∀ H, Reps K H dvs (F.dfl.drop (m + 1 + F.dfl.length - F.ar))
  xc : ∀ C fl, Γ.xc C = some fl → mg C = some (.ref (He.ga K C)) ∧ XcOk P w K mg base k (He.ga K C) fl
  xf : ∀ C fl, Γ.xc C = some fl → fl ≠ [] → XfC K (He.ga K C) ∧ ∀ f ∈ fl, PySem.W.findIn K (.ref (He.ga K C)) f = some none
  dc : ∀ x kvs, Γ.dc x = some kvs → ∃ d vk, mg x = some (.ref d) ∧ KdAt K P w d vk ∧ ∀ H, KRel K H vk kvs
  fa : ∀ f F, Γ.fn f = some F → mg f = some (.ref (He.ga K f))
  kt : KtOk K
  lam : ∀ q L, Γ.lam q = some L → LamOk P w K mg base k q L
  hf : ∀ f g, Γ.hf f = some g → ∃ a fd ps, HotFn P w K mg base k a fd ps g ∧ mg f = some (.ref a) ∧ PySem.W.keepIn K (.ref a) = true ∧ Binds K fd ps []
  rng : mg "range" = none
  zip : mg "zip" = none
  enum : mg "enumerate" = none
  cm : ∀ C m F, Γ.cm C m = some F → ∃ a fd ps mc, FnOk P w K mg base (L2.CX P w) k a fd ps (spOf K F) ∧ ClX.CRead K (He.ga K C) mc ∧ PySem.W.findCls K (.ref (He.ga K C)) mc m = some (.val (.ref a)) ∧ PySem.W.keepIn K (.ref a) = true ∧ mg C = some (.ref (He.ga K C)) ∧
    ∀ m, F.ar ≤ m + F.dfl.length → m ≤ F.ar → ∃ ds dvs, Binds K fd ps ds ∧ Vals dvs ds ∧ ∀ H, Reps K H dvs (F.dfl.drop (m + F.dfl.length - F.ar))
  mn : ∀ C m n ks F pm, Γ.mn C m n ks = some (F, pm) → ∃ a fd ps dvs its, FnOk P w K mg base (L2.CX P w) k a fd ps (spOf K F) ∧ Cls K (He.ga K C) ∧ Meth K (He.ga K C) m a ∧
    KBn K fd ps (n + 1) ks (fun us ws => permL pm (us ++ ws ++ its)) (fun vs zs => permL pm (vs ++ zs ++ dvs)) ∧ ∀ H, Reps K H dvs F.dfl
structure Oc (X : Cx) (W : WX) (Γ : Gam) (k : Nat) : Prop where
  room : Room k X.A
  nd : X.N.Nodup
  calm : X.calm = true
  tk : Takes X W
  tb : TbOk X.prog X.w X.K X.mg X.base Γ k
section
variable {X : Cx} {W : WX} {Γ : Gam} {k : Nat} {a b c : Expr} {pos p : Pos} {es : List Expr} {w1 w2 : Env' → AG → AQ → AX → Prop} {wa : Env' → AG → (List Dat → AG → Prop) → AX → Prop}
/-- f(), with what is raised wished for at the slots -/
theorem pe_callSD0 {CX : CXT} {f : Addr} {fd : FuncData} {ps : List Str} {sp : Sp} {dvs : List V} {ds : List Value} {E : L2.St → XK} {x : Str} (F : FnOk X.prog X.w X.K X.mg X.base CX k f fd ps sp) (hr : Room k X.A) (hg : Gl X x) (hm : X.mg x = some (.ref f)) (hk : PySem.W.keepIn X.K (.ref f) = true)
    (hb : Binds X.K fd ps ds) (hd : Vals dvs ds) (hx : ∀ σ, PassesAt CX X σ (E σ)) (hdb : (x == ("__debug__" : Str)) = false) : PE X (.Call (.Name x p) [] [] pos) (tCallSD sp dvs E tNil) := by
  refine ⟨fun pins s σ H Q I h => ?_⟩
  refine wpAny_Call_Name_kw (ld_glob I hg hm ?_ hdb)
  exact PySem.W.callWith_K0 I.kIn hk (run_fnSD (us := []) F hr hb hd (hx σ) I .nil h)
theorem se_call0 (oc : Oc X W Γ k) {f : Str} {F : FnE} (hF : Γ.fn f = some F) (hg : Gl X f) (hdb : (f == ("__debug__" : Str)) = false) (h1 : F.ar ≤ 0 + F.dfl.length) :
    PE X (.Call (.Name f p) [] [] pos) (LfE X.K W fun ρ G Q E => F.con ([] ++ F.dfl.drop (0 + F.dfl.length - F.ar)) G Q E) := by
  obtain ⟨a, fd, ps, hok, hm, hk, hbind⟩ := oc.tb.fn f F hF
  obtain ⟨ds, dvs, hb, hv, hd⟩ := hbind 0 h1 (Nat.zero_le _)
  exact PE.imp (pe_callSD0 (E := WE W) hok oc.room hg hm hk hb hv (fun σ => passAt oc.tk σ) hdb) fun σ H Q ⟨ρ, G, Qa, Ea, hE, hG, hw, hp, hx⟩ => ⟨_, G, Qa, Ea, hd H, hG, hw, hp, hx⟩
theorem call_imp {F : FnE} {dvs : List V} {n : Nat} (hd : ∀ H, Reps X.K H dvs (F.dfl.drop n)) {t : TA} (ht : ∀ σ H Q, LfA X.K W wa σ H Q → t σ H Q) (σ : L2.St) (H : Hp) (Q : VK)
    (h : LfE X.K W (fun ρ G Q E => wa ρ G (fun ds G1 => F.con (ds ++ F.dfl.drop n) G1 Q E) E) σ H Q) : tCallSD (spOf X.K F) dvs (WE W) t σ H Q := by
  obtain ⟨ρ, G, Qa, Ea, hE, hG, hw, hp, hx⟩ := h
  exact ht _ _ _ ⟨ρ, G, _, Ea, hE, hG, hw, fun d G1 v H1 f g r q => ⟨_, G1, Qa, Ea, r.append (hd H1), g, q, fun d' G' v' H' f3 => hp d' G' v' H' (f.trans f3), hx.fra f⟩, hx⟩
theorem se_call (oc : Oc X W Γ k) {f : Str} {F : FnE} (hF : Γ.fn f = some F) (hg : Gl X f) (hdb : (f == ("__debug__" : Str)) = false) (h1 : F.ar ≤ (a :: es).length + F.dfl.length) (h2 : (a :: es).length ≤ F.ar) (ha : PA X (a :: es) (LfA X.K W wa))
    (he1 : starEach (a :: es) X.env = (false, eval a X.env) :: starEach es X.env) (he2 : (backTo pos (starEach es X.env)).any (·.1) = false) :
    PE X (.Call (.Name f p) (a :: es) [] pos) (LfE X.K W fun ρ G Q E => wa ρ G (fun ds G1 => F.con (ds ++ F.dfl.drop ((a :: es).length + F.dfl.length - F.ar)) G1 Q E) E) := by
  obtain ⟨q, fd, ps, hok, hm, hk, hbind⟩ := oc.tb.fn f F hF
  obtain ⟨ds, dvs, hb, hv, hd⟩ := hbind (a :: es).length h1 h2
  exact PE.imp (pe_callSD (E := WE W) hok oc.room hg hm hk hb hv (fun σ => passAt oc.tk σ) ha hdb he1 he2) (call_imp hd fun _ _ _ z => z)
/-- C.m(..), m a function of the class C: a call word ccall -/
theorem pe_cfun {CX : CXT} {f C : Addr} {mc : Value} {fd : FuncData} {ps : List Str} {sp : Sp} {dvs : List V} {ds : List Value} {E : L2.St → XK} {x m : Str} {apos : Pos} {pl : Sem Bool} {e : Expr} {t : TA} (F : FnOk X.prog X.w X.K X.mg X.base CX k f fd ps sp) (hr : Room k X.A) (hg : Gl X x) (hm : X.mg x = some (.ref C)) (r : ClX.CRead X.K C mc)
    (hc : PySem.W.findCls X.K (.ref C) mc m = some (.val (.ref f))) (hk : PySem.W.keepIn X.K (.ref f) = true) (hb : Binds X.K fd ps ds) (hd : Vals dvs ds) (hx : ∀ σ, PassesAt CX X σ (E σ)) (ha : PA X (e :: es) t) (hdb : (x == ("__debug__" : Str)) = false)
    (he : starEach (e :: es) X.env = (false, eval e X.env) :: starEach es X.env) (hpl : (backTo pos (starEach es X.env)).any (·.1) = false)
    (ht : eval (.Call (.Attribute (.Name x p) m apos) (e :: es) [] pos) X.env = (do
      let w ← eval (.Name x p) X.env
      standAt apos.atName
      let (g, one) ← holding [w] (getMethod w m pl)
      callWith pos g one (backTo pos (starEach (e :: es) X.env)) (backToKw pos (keywordEach [] X.env)))) :
    PE X (.Call (.Attribute (.Name x p) m apos) (e :: es) [] pos) (tCallSD sp dvs E t) := by
  refine ⟨fun pins s σ H Q I h => ?_⟩
  refine PySem.W.methodCall_KW (pl := pl) (ld_glob I hg hm ?_ hdb) ht
  refine PySem.W.method_cls I.kIn r.ga (PySem.W.cls_value I.kIn r.rd hc (handed_of (v := .ref f) rfl) ?_)
  have I2 := I.tok (s.toks + 1)
  exact PySem.W.callWith_K (h₀ := X.base) I2.ok.mod.kin hk (thn (ha.run pos pins _ σ H _ I2 h) fun us s1 ⟨vs, H1, I1, r, q⟩ => ⟨I1.kIn, run_fnSD F hr hb hd (hx σ) I1 r q⟩) he hpl
theorem se_ccall (oc : Oc X W Γ k) {C m : Str} {F : FnE} {apos : Pos} {pl : Sem Bool} (hF : Γ.cm C m = some F) (hg : Gl X C) (hdb : (C == ("__debug__" : Str)) = false) (h1 : F.ar ≤ (a :: es).length + F.dfl.length) (h2 : (a :: es).length ≤ F.ar) (ha : PA X (a :: es) (LfA X.K W wa))
    (he1 : starEach (a :: es) X.env = (false, eval a X.env) :: starEach es X.env) (he2 : (backTo pos (starEach es X.env)).any (·.1) = false)
    (ht : eval (.Call (.Attribute (.Name C p) m apos) (a :: es) [] pos) X.env = (do
      let w ← eval (.Name C p) X.env
      standAt apos.atName
      let (g, one) ← holding [w] (getMethod w m pl)
      callWith pos g one (backTo pos (starEach (a :: es) X.env)) (backToKw pos (keywordEach [] X.env)))) :
    PE X (.Call (.Attribute (.Name C p) m apos) (a :: es) [] pos) (LfE X.K W fun ρ G Q E => wa ρ G (fun ds G1 => F.con (ds ++ F.dfl.drop ((a :: es).length + F.dfl.length - F.ar)) G1 Q E) E) := by
  obtain ⟨q, fd, ps, mc, hok, hr, hc, hk, hm, hbind⟩ := oc.tb.cm C m F hF
  obtain ⟨ds, dvs, hb, hv, hd⟩ := hbind (a :: es).length h1 h2
  exact PE.imp (pe_cfun (E := WE W) hok oc.room hg hm hr hc hk hb hv (fun σ => passAt oc.tk σ) ha hdb he1 he2 ht) (call_imp hd fun _ _ _ z => z)
/-! ### built-ins -/
theorem boot_bf (f : BF) : bootBuiltins f.nm = some f.val := by cases f <;> decide +kernel
theorem bf_n (f : BF) : f.nm ≠ ("__name__" : Str) ∧ (f.nm == ("__debug__" : Str)) = false := by cases f <;> exact ⟨by decide, by decide⟩
theorem blt_imp {r : List V → Hp → VK → Prop} {rA : List Dat → AG → AQ → Prop} (hA : BltA X.K r rA) (σ : L2.St) (H : Hp) (Q : VK) (h : LfE X.K W (fun ρ G Q E => wa ρ G (fun ds G1 => rA ds G1 Q) E) σ H Q) : tCB r (LfA X.K W wa) σ H (Qz Q) := by
  obtain ⟨ρ, G, Qa, Ea, hE, hG, hw, hp, hx⟩ := h
  exact ⟨ρ, G, _, Ea, hE, hG, hw, fun d G1 v H1 f g r1 q => hA H1 v d G1 Qa _ r1 g q (postZ fun d' G' v' H' f3 => hp d' G' v' H' (f.trans f3)), hx⟩
theorem se_blt (oc : Oc X W Γ k) {z : Bool} {f : BF} (hg : Gl X f.nm) (ha : PA X (a :: es) (LfA X.K W wa))
    (he1 : starEach (a :: es) X.env = (false, eval a X.env) :: starEach es X.env) (he2 : (backTo pos (starEach es X.env)).any (·.1) = false) :
    PE X (.Call (.Name f.nm p) (a :: es) [] pos) (LfE X.K W fun ρ G Q E => wa ρ G (fun ds G1 => bltW z f ds G1 Q) E) := by
  obtain ⟨r, hc, hA⟩ := blt_ok X oc.tb.kt oc.calm z f
  have h1 := boot_bf f
  have h2 := bf_n f
  have h3 := oc.tb.blt f
  cases f <;> first
    | exact PE.imp (pe_z (pe_callB hc hg h3 h1 ha h2.1 h2.2 he1 he2)) (blt_imp hA)
    | exact PE.imp (pe_z (pe_callTy hc hg h3 h1 ha h2.1 h2.2 he1 he2)) (blt_imp hA)
/-! ### methods of lists -/
theorem met_ok (X : Cx) (m : MF) : ∃ id r, Slot "list" m.nm id ∧ typeOf (.builtin id) = pure (.type "method_descriptor") ∧ MtR X id r ∧ MetA X.K "list" r (methW m) := by
  cases m with
  | append => exact ⟨_, _, F.slot_list_append, rfl, mt_append, metA_append⟩
  | extend => exact ⟨_, _, F.slot_list_extend, rfl, mt_extR, metA_extend⟩
  | pop => exact ⟨_, _, F.slot_list_pop, rfl, mt_pop, metA_pop⟩
  | popAt => exact ⟨_, _, F.slot_list_pop, rfl, mt_popAt, metA_popAt⟩
  | clear => exact ⟨_, _, F.slot_list_clear, rfl, mt_clear, metA_clear⟩
  | reverse => exact ⟨_, _, F.slot_list_reverse, rfl, mt_reverse, metA_reverse⟩
  | insert => exact ⟨_, _, F.slot_list_insert, rfl, mt_insert, metA_insert⟩
  | count => exact ⟨_, _, F.slot_list_count, rfl, mt_countF, metA_count⟩
  | index => exact ⟨_, _, F.slot_list_index, rfl, mt_index, metA_index⟩
theorem tyV_lst {K : PySem.W.Frag} {G : AG} {H : Hp} {x : V} {d : Dat} (rg : RelG K G H) (r : Rep K H x d) (h : ∃ ds, lstOf G d = some ds) : tyV K "list" x H := by
  obtain ⟨ds, e⟩ := h
  obtain ⟨q, vs, rfl, h3, _⟩ := lstOf_rd rg r e
  exact .inl ⟨rfl, vs, .inl h3⟩
theorem se_meth {m : MF} {apos : Pos} (h1 : PE X b (LfE X.K W w1)) (ha : PA X (a :: es) (LfA X.K W wa))
    (hbase : attributeBase b m.nm X.env (eval b X.env) = eval b X.env)
    (hfew : ((backTo pos (starEach (a :: es) X.env)).all (fun x => !x.1) && (backToKw pos (keywordEach [] X.env)).all (fun x => x.1.isSome)
      && decide ((a :: es).length + ([] : List Keyword).length + (if ([] : List Keyword).isEmpty then 0 else 1) < 30)) = true)
    (hline : (apos.endLine == pos.line) = true) (he1 : starEach (a :: es) X.env = (false, eval a X.env) :: starEach es X.env) (he2 : (backTo pos (starEach es X.env)).any (·.1) = false) :
    PE X (.Call (.Attribute b m.nm apos) (a :: es) [] pos) (LfE X.K W fun ρ G Q E => w1 ρ G (fun x G1 => (∃ ds, lstOf G1 x = some ds) ∧ wa ρ G1 (fun ds G2 => methW m x ds G2 Q) E) E) := by
  obtain ⟨id, r, k1, k2, k3, k4⟩ := met_ok X m
  refine PE.imp (pe_bm F.plainAttrs_list k1 k2 k3 h1 ha hbase hfew hline he1 he2) ?_
  rintro σ H Q ⟨ρ, G, Qa, Ea, hE, hG, hw, hp, hx⟩
  refine ⟨ρ, G, _, Ea, hE, hG, hw, fun d G1 v H1 f g r1 q => ⟨tyV_lst g r1 q.1, ρ, G1, _, Ea, hE.mono (f.stab hG), g, q.2, fun e G2 u H2 f2 g2 r2 q2 => ?_, hx.fra f⟩, hx⟩
  exact k4 H2 v d u e G2 Qa Q (r1.mono (f2.stab g)) r2 g2 q2 fun d' G' v' H' f3 => hp d' G' v' H' ((f.trans f2).trans f3)
theorem se_meth0 {m : MF} {apos : Pos} (h1 : PE X b (LfE X.K W w1)) (hbase : attributeBase b m.nm X.env (eval b X.env) = eval b X.env) (hline : (apos.endLine == pos.line) = true) :
    PE X (.Call (.Attribute b m.nm apos) [] [] pos) (LfE X.K W fun ρ G Q E => w1 ρ G (fun x G1 => (∃ ds, lstOf G1 x = some ds) ∧ methW m x [] G1 Q) E) := by
  obtain ⟨id, r, k1, k2, k3, k4⟩ := met_ok X m
  refine PE.imp (pe_bm0 F.plainAttrs_list k1 k2 k3 h1 hbase hline) ?_
  rintro σ H Q ⟨ρ, G, Qa, Ea, hE, hG, hw, hp, hx⟩
  refine ⟨ρ, G, _, Ea, hE, hG, hw, fun d G1 v H1 f g r1 q => ⟨tyV_lst g r1 q.1, ?_⟩, hx⟩
  exact k4 H1 v d [] [] G1 Qa Q r1 .nil g q.2 fun d' G' v' H' f3 => hp d' G' v' H' (f.trans f3)
/-! ### a.index(b), a a tuple whose object is known -/
theorem mt_tidx : MtR X "tuple.index" (fun x xs H Q => ∃ (p : Addr) (ys : List V) (y : V) (j : Nat) (z : V), x = .ref p ∧ xs = [y] ∧ SqT X.K H p ys ∧ flatV y = true ∧ ys.all flatV = true ∧ ys[j]? = some z ∧ eqV z y = true ∧ (∀ m w, m < j → ys[m]? = some w → eqV w y = false) ∧ Q (.int (j : Nat)) H) := by
  intro pins s σ H x xs v us Q I rx rs h
  obtain ⟨p, ys, y, j, z, rfl, rfl, hq, fy, fys, hz, hzj, hno, q⟩ := h
  cases rx
  obtain ⟨uy, rfl, ry⟩ := vals1 rs
  obtain ⟨its, rv, pl, hl⟩ := I.tuple hq
  obtain ⟨⟨cls, dd, dt, sl⟩, ho, hc, n, hd⟩ := pl
  simp only at hc hd
  subst hc
  subst hd
  obtain ⟨u, hu, ru⟩ := rv.get hz
  obtain ⟨hjl, hje⟩ := List.getElem?_eq_some_iff.mp hu
  have hvl := rv.length
  have hj : j < its.toArray.size := by simpa using hjl
  refine call_meets PySem.F.slot_tuple_index ⟨_, ho, rfl⟩ PySem.F.entry_tuple_index (PySem.F.args_tuple_index_2 _ _) (TI.tuple_indexAt p its.toArray n dd sl uy (eqU y) j hj ?_ ?_)
    ⟨ho, fun u' hu' => mem_eqAt ry fy rv fys u' (by simpa using hu'), ?_⟩
  · have e1 : its.toArray[j] = u := by simpa using hje
    rw [e1, eqU_of ru (flat_at fys hz)]
    exact hzj
  · intro m hm hmj
    have hml : m < its.length := by simpa using hm
    have hmy : m < ys.length := by omega
    have hy' : ys[m]? = some ys[m] := List.getElem?_eq_getElem hmy
    obtain ⟨u2, hu2, ru2⟩ := rv.get hy'
    obtain ⟨_, hme⟩ := List.getElem?_eq_some_iff.mp hu2
    have e1 : its.toArray[m] = u2 := by simpa using hme
    rw [e1, eqU_of ru2 (flat_at fys hy')]
    exact hno m _ hmj hy'
  · exact ⟨.int (j : Nat), H, I.tok _, ⟨_, rfl⟩, q⟩
theorem pe_tmeth {o e : Expr} {to : TE} {t : TA} {name : Str} {apos cpos : Pos} {id : String} {r : V → List V → Hp → VK → Prop} (slot : Slot "tuple" name id) (hty : typeOf (.builtin id) = pure (.type "method_descriptor")) (hm : MtR X id r) (ho : PE X o to) (ha : PA X (e :: es) t)
    (hbase : attributeBase o name X.env (eval o X.env) = eval o X.env)
    (hfew : ((backTo cpos (starEach (e :: es) X.env)).all (fun x => !x.1) && (backToKw cpos (keywordEach [] X.env)).all (fun x => x.1.isSome)
      && decide ((e :: es).length + ([] : List Keyword).length + (if ([] : List Keyword).isEmpty then 0 else 1) < 30)) = true)
    (hline : (apos.endLine == cpos.line) = true) (hs : starEach (e :: es) X.env = (false, eval e X.env) :: starEach es X.env) (hplain : (backTo cpos (starEach es X.env)).any (·.1) = false) :
    PE X (.Call (.Attribute o name apos) (e :: es) [] cpos) (fun σ H Q => to σ H fun x H1 => (∃ (p : Addr) (ob : Obj) (ys : List V), x = .ref p ∧ H1 p = some (.frz ob (.tup ys)) ∧ ob.dict = none) ∧ t σ H1 fun xs H2 => r x xs H2 Q) := by
  refine ⟨fun pins s σ H Q I h => ?_⟩
  refine wpAny_Call_method_late hbase hfew hline rfl (thn (ho.run pins s σ H _ I h) fun v s1 ⟨x, H1, I1, r1, ty, q1⟩ => ?_)
  obtain ⟨p, ob, ys, rfl, hH, hd⟩ := ty
  cases (show v = Value.ref p from r1)
  obtain ⟨h0, _, its, rv, ⟨o2, h3, h4, _⟩⟩ := (show ObjOk X.prog X.w H1 s1.heap p (.frz ob (.tup ys)) from I1.hok p _ hH)
  refine ⟨"tuple", id, F.plainAttrs_tuple, slot, hty, ⟨o2, h3, h4⟩, fun a e => by cases e; exact ⟨ob, h0, hd⟩, ?_⟩
  have hA := ha.run cpos pins s1 σ H1 _ I1 q1
  rw [hs] at hA ⊢
  refine Calls.callWith_builtin (by show (false || (backTo cpos (starEach es X.env)).any (·.1)) = false; rw [hplain] <;> rfl) (Calls.evalArgs_plain ?_)
  exact thn hA fun us s2 ⟨vs, H2, I2, r2, q2⟩ => hm pins s2 σ H2 (.ref p) vs (.ref p) us Q I2 rfl r2 q2
theorem se_tidx {apos : Pos} (h1 : PE X b (LfE X.K W w1)) (h2 : PE X a (LfE X.K W w2)) (hbase : attributeBase b "index" X.env (eval b X.env) = eval b X.env)
    (hfew : ((backTo pos (starEach [a] X.env)).all (fun x => !x.1) && (backToKw pos (keywordEach [] X.env)).all (fun x => x.1.isSome)
      && decide ([a].length + ([] : List Keyword).length + (if ([] : List Keyword).isEmpty then 0 else 1) < 30)) = true)
    (hline : (apos.endLine == pos.line) = true) (he1 : starEach [a] X.env = (false, eval a X.env) :: starEach [] X.env) :
    PE X (.Call (.Attribute b "index" apos) [a] [] pos) (LfE X.K W fun ρ G Q E => w1 ρ G (fun x G1 => (∃ ds, x = .ktp ds) ∧ w2 ρ G1 (fun y G2 => tidxW x y G2 Q) E) E) := by
  refine PE.imp (pe_tmeth F.slot_tuple_index rfl mt_tidx h1 (pa_cons h2 pa_nil he1) hbase hfew hline he1 (by rfl)) ?_
  rintro σ H Q ⟨ρ, G, Qa, Ea, hE, hG, hw, hp, hx⟩
  refine ⟨ρ, G, _, Ea, hE, hG, hw, fun d G1 v H1 f g r1 q => ?_, hx⟩
  obtain ⟨⟨ds, rfl⟩, q⟩ := q
  cases r1 with
  | ktp hk hr =>
    obtain ⟨ob, hk, hd⟩ := hk
    refine ⟨⟨_, ob, _, rfl, hk, hd⟩, ρ, G1, _, Ea, hE.mono (f.stab hG), g, q, fun e G2 u H2 f2 g2 r2 q2 => ?_, hx.fra f⟩
    obtain ⟨ds', j, d, e1, h2, h3, h7, h8, h9, h4⟩ := q2
    cases e1
    have st := f2.stab g
    obtain ⟨rfl, f1⟩ := flat_rep r2 h2
    obtain ⟨rfl, f2'⟩ := flats_rep (hr.mono st) h3
    refine ⟨_, _, _, j, toV d, rfl, rfl, .inl (.inr ⟨ob, st.fzt _ _ _ hk⟩), f1, f2', by rw [List.getElem?_map, h7]; rfl, h8, fun m z hm hz => ?_, hp _ _ _ _ (f.trans f2) g2 (.int _) h4⟩
    rw [List.getElem?_map] at hz
    cases q : ds[m]? with
    | none => rw [q] at hz; cases hz
    | some d' => rw [q] at hz; cases hz; exact h9 m d' hm q
theorem se_or2 (h1 : PE X a (LfE X.K W w1)) (h2 : PE X a (LfE X.K W w2)) : PE X a (LfE X.K W fun ρ G Q E => w1 ρ G Q E ∨ w2 ρ G Q E) := ⟨fun pins s σ H Q I t => by
  obtain ⟨ρ, G, Qa, Ea, hE, hG, hw, rest⟩ := t
  rcases hw with hw | hw
  · exact h1.run _ _ _ _ _ I ⟨ρ, G, Qa, Ea, hE, hG, hw, rest⟩
  · exact h2.run _ _ _ _ _ I ⟨ρ, G, Qa, Ea, hE, hG, hw, rest⟩⟩
theorem se_ktt (h1 : PE X a (LfE X.K W w1)) : PE X a (LfE X.K W fun ρ G Q E => w1 ρ G (fun x G1 => kttW x G1 Q) E) := by
  refine PE.imp h1 ?_
  rintro σ H Q ⟨ρ, G, Qa, Ea, hE, hG, hw, hp, hx⟩
  refine ⟨ρ, G, _, Ea, hE, hG, hw, fun d G1 v H1 f g r1 q => ?_, hx⟩
  cases d with
  | ktp ds =>
    cases r1 with
    | ktp hk hr =>
      obtain ⟨ob, hk, _⟩ := hk
      exact hp _ _ _ _ f g (.tup (.inr (.inl ⟨ob, hk⟩)) hr) q
  | _ => exact False.elim q
/-! ### global values -/
theorem se_glo (oc : Oc X W Γ k) {x : Str} (hg : Gl X x) (hn : x ≠ "__name__") (hd : (x == ("__debug__" : Str)) = false) : PE X (.Name x pos) (LfE X.K W fun ρ G Q _ => match Γ.gl x with | some d => Q d G | none => False) := by
  refine ⟨fun pins s σ H Q I ⟨ρ, G, Qa, Ea, hE, hG, hw, hp, hx⟩ => ?_⟩
  cases e : Γ.gl x with
  | none => rw [e] at hw; exact False.elim hw
  | some d =>
    rw [e] at hw
    obtain ⟨u, v, rv, rd, h⟩ := oc.tb.gl x d e
    rcases h with h | ⟨h, h'⟩
    · exact ld_glob I hg h ⟨v, H, I, rv, hp d G v H .refl hG (rd H) hw⟩ hd
    · exact ld_blt I hg h h' ⟨v, H, I, rv, hp d G v H .refl hG (rd H) hw⟩ hn hd
end
end Av
set_option Elab.async false
set_option linter.all false
set_option maxRecDepth 100000
set_option maxHeartbeats 4000000
/-! # Av6: what is walked, targets, comprehensions -/
namespace Av
open PySem PySem.Spec PyProof.Rows L2
variable [Tb]
/-- what walks the items ds -/
structure ItOk (K : PySem.W.Frag) (H0 : Hp) (J : It) (ds : List Dat) (gd : Gd) : Prop where
  go : ∀ i H G, Stab H0 H → RelG K G H → gdOk G gd → i < ds.length → J.go i H
  stop : ∀ i H G, Stab H0 H → RelG K G H → gdOk G gd → ds.length ≤ i → J.stop i H
  yld : ∀ i H G x H', Stab H0 H → RelG K G H → gdOk G gd → i < ds.length → J.yld i H x H' → ∃ d, ds[i]? = some d ∧ Fra G H G H' ∧ RelG K G H' ∧ Rep K H' x d
def Src (K : PySem.W.Frag) (T : Hp → Addr → List V → Prop) (H0 : Hp) (a : Addr) (ds : List Dat) (gd : Gd) : Prop := ∀ H G, Stab H0 H → RelG K G H → gdOk G gd → ∃ xs, T H a xs ∧ Reps K H xs ds
section
variable {K : PySem.W.Frag} {H H0 : Hp} {G : AG} {a b : Addr} {ds es : List Dat} {gd ge : Gd} {T : Hp → Addr → List V → Prop}
theorem gdOk_app : ∀ {gd ge : Gd}, gdOk G (gd ++ ge) ↔ gdOk G gd ∧ gdOk G ge
  | [], ge => ⟨fun h => ⟨trivial, h⟩, fun h => h.2⟩
  | (a, d) :: r, ge => by
    show (G a = some (.lst d) ∧ gdOk G (r ++ ge)) ↔ (G a = some (.lst d) ∧ gdOk G r) ∧ gdOk G ge
    rw [gdOk_app, and_assoc]
theorem Src.mono (h : Src K T H0 a ds gd) (s : Stab H0 H) : Src K T H a ds gd := fun H' G' s' => h H' G' (s.trans s')
theorem lstG_src {v : V} {x : Dat} {Q : List Dat → Gd → AG → Prop} (r : Rep K H v x) (h : lstG x G Q) : ∃ a ds gd, v = .ref a ∧ Q ds gd G ∧ gdOk G gd ∧ Src K (SqL K) H a ds gd := by
  cases x with
  | lst ds =>
    cases r with
    | lst h1 q => exact ⟨_, ds, [], rfl, h, trivial, fun H' G' s _ _ => ⟨_, (h1.mono s).sq, q.mono s⟩⟩
  | ref a =>
    cases rep_r r
    obtain ⟨ds, e, q⟩ := h
    refine ⟨a, ds, [(a, ds)], rfl, q, ⟨e, trivial⟩, fun H' G' s rg gk => ?_⟩
    obtain ⟨vs, h1, h2⟩ := rg.lst gk.1
    exact ⟨vs, .inl (.inl h1), h2⟩
  | _ => exact False.elim h
theorem seqG_src {v : V} {x : Dat} {Q : List Dat → Gd → AG → Prop} (r : Rep K H v x) (h : seqG x G Q) : ∃ a ds gd, v = .ref a ∧ Q ds gd G ∧ gdOk G gd ∧ (Src K (SqL K) H a ds gd ∨ Src K (SqT K) H a ds gd) := by
  cases x with
  | tup ds =>
    obtain ⟨a, vs, rfl, h1, q⟩ := rep_t r
    exact ⟨_, ds, [], rfl, h, trivial, .inr fun H' G' s _ _ => ⟨_, (h1.mono s).sq, q.mono s⟩⟩
  | kls ds =>
    cases r with
    | kls h1 q => exact ⟨_, ds, [], rfl, h, trivial, .inl fun H' G' s _ _ => ⟨_, (h1.mono s).sq, q.mono s⟩⟩
  | lst ds =>
    obtain ⟨a, es, gd, h1, h2, h3, h4⟩ := lstG_src (Q := Q) r h
    exact ⟨a, es, gd, h1, h2, h3, .inl h4⟩
  | ref a =>
    obtain ⟨a, es, gd, h1, h2, h3, h4⟩ := lstG_src (Q := Q) r h
    exact ⟨a, es, gd, h1, h2, h3, .inl h4⟩
  | _ => exact False.elim h
theorem Reps.lt {vs : List V} {i : Nat} (r : Reps K H vs ds) (h : i < ds.length) : ∃ v d, vs[i]? = some v ∧ ds[i]? = some d ∧ Rep K H v d := by
  obtain ⟨v, h1, h2⟩ := r.get (List.getElem?_eq_getElem h)
  exact ⟨v, _, h1, List.getElem?_eq_getElem h, h2⟩
theorem it_list (h : Src K (SqL K) H0 a ds gd) : ItOk K H0 (Itl K a) ds gd := by
  refine ⟨fun i H G s rg gk hi => ?_, fun i H G s rg gk hi => ?_, fun i H G x H' s rg gk hi hy => ?_⟩
  · obtain ⟨xs, h1, h2⟩ := h H G s rg gk
    obtain ⟨v, d, h3, _⟩ := h2.lt hi
    exact ⟨xs, v, h1, h3⟩
  · obtain ⟨xs, h1, h2⟩ := h H G s rg gk
    exact ⟨xs, h1, by rw [h2.length]; exact hi⟩
  · obtain ⟨xs, h1, h2⟩ := h H G s rg gk
    obtain ⟨v, d, h3, h4, h5⟩ := h2.lt hi
    obtain ⟨rfl, h6⟩ := hy
    have e := h6 xs h1
    rw [h3] at e
    cases e
    exact ⟨d, h4, .refl, rg, h5⟩
theorem it_tup (h : Src K (SqT K) H0 a ds gd) : ItOk K H0 (Itt K a) ds gd := by
  refine ⟨fun i H G s rg gk hi => ?_, fun i H G s rg gk hi => ?_, fun i H G x H' s rg gk hi hy => ?_⟩
  · obtain ⟨xs, h1, h2⟩ := h H G s rg gk
    obtain ⟨v, d, h3, _⟩ := h2.lt hi
    exact ⟨xs, v, h1, h3⟩
  · obtain ⟨xs, h1, h2⟩ := h H G s rg gk
    exact ⟨xs, h1, by rw [h2.length]; exact hi⟩
  · obtain ⟨xs, h1, h2⟩ := h H G s rg gk
    obtain ⟨v, d, h3, h4, h5⟩ := h2.lt hi
    obtain ⟨rfl, h6⟩ := hy
    have e := h6 xs h1
    rw [h3] at e
    cases e
    exact ⟨d, h4, .refl, rg, h5⟩
theorem it_rng {lo : Int} {n : Nat} : ItOk K H0 (Itr lo n) (rngD lo n) [] := by
  have hl : (rngD lo n).length = n := by unfold rngD; rw [List.length_map, List.length_range]
  refine ⟨fun i H G s rg gk hi => by rw [hl] at hi; exact hi, fun i H G s rg gk hi => by rw [hl] at hi; exact hi, fun i H G x H' s rg gk hi hy => ?_⟩
  obtain ⟨rfl, rfl⟩ := hy
  rw [hl] at hi
  refine ⟨.int (lo + i), ?_, .refl, rg, .int _⟩
  unfold rngD
  rw [List.getElem?_map, List.getElem?_range hi]
  rfl
theorem it_rngC {lo c : Int} {n : Nat} : ItOk K H0 (Itc lo c n) (rngC lo c n) [] := by
  have hl : (rngC lo c n).length = n := by unfold rngC; rw [List.length_map, List.length_range]
  refine ⟨fun i H G s rg gk hi => by rw [hl] at hi; exact hi, fun i H G s rg gk hi => by rw [hl] at hi; exact hi, fun i H G x H' s rg gk hi hy => ?_⟩
  obtain ⟨rfl, rfl⟩ := hy
  rw [hl] at hi
  refine ⟨.int (lo + (i : Nat) * c), ?_, .refl, rg, .int _⟩
  unfold rngC
  rw [List.getElem?_map, List.getElem?_range hi]
  rfl
theorem enumD_get : ∀ {ds : List Dat} {k i : Nat} {d : Dat}, ds[i]? = some d → (enumD k ds)[i]? = some (.tup [.int ((k + i : Nat) : Int), d])
  | [], _, _, _, e => by simp at e
  | x :: ds, k, 0, d, e => by
    simp only [List.getElem?_cons_zero, Option.some.injEq] at e
    subst e
    rfl
  | x :: ds, k, i + 1, d, e => by
    simp only [List.getElem?_cons_succ] at e
    have h := enumD_get (k := k + 1) e
    rw [show k + (i + 1) = k + 1 + i by omega, ← h]
    rfl
theorem enumD_len : ∀ {ds : List Dat} {k : Nat}, (enumD k ds).length = ds.length
  | [], _ => rfl
  | x :: ds, k => by
    show (enumD (k + 1) ds).length + 1 = ds.length + 1
    rw [enumD_len]
theorem it_enum (h : Src K (SqL K) H0 a ds gd) : ItOk K H0 (Ite K a) (enumD 0 ds) gd := by
  refine ⟨fun i H G s rg gk hi => ?_, fun i H G s rg gk hi => ?_, fun i H G x H' s rg gk hi hy => ?_⟩
  all_goals rw [enumD_len] at hi
  all_goals obtain ⟨xs, h1, h2⟩ := h H G s rg gk
  · obtain ⟨v, d, h3, _⟩ := h2.lt hi
    exact ⟨xs, v, h1, h3⟩
  · exact ⟨xs, h1, by rw [h2.length]; exact hi⟩
  · obtain ⟨v, d, h3, h4, h5⟩ := h2.lt hi
    obtain ⟨t, y, rfl, hn, rfl, h6⟩ := hy
    have e := h6 xs h1
    rw [h3] at e
    cases e
    refine ⟨.tup [.int ((0 + i : Nat) : Int), d], enumD_get h4, .newT hn, rg.newT hn, .tup (.inl upd_same) (.cons ?_ (.one (h5.mono (.new hn))))⟩
    rw [Nat.zero_add]
    exact .int _
theorem it_enumT (h : Src K (SqT K) H0 a ds gd) : ItOk K H0 (IteT K a) (enumD 0 ds) gd := by
  refine ⟨fun i H G s rg gk hi => ?_, fun i H G s rg gk hi => ?_, fun i H G x H' s rg gk hi hy => ?_⟩
  all_goals rw [enumD_len] at hi
  all_goals obtain ⟨xs, h1, h2⟩ := h H G s rg gk
  · obtain ⟨v, d, h3, _⟩ := h2.lt hi
    exact ⟨xs, v, h1, h3⟩
  · exact ⟨xs, h1, by rw [h2.length]; exact hi⟩
  · obtain ⟨v, d, h3, h4, h5⟩ := h2.lt hi
    obtain ⟨t, y, rfl, hn, rfl, h6⟩ := hy
    have e := h6 xs h1
    rw [h3] at e
    cases e
    refine ⟨.tup [.int ((0 + i : Nat) : Int), d], enumD_get h4, .newT hn, rg.newT hn, .tup (.inl upd_same) (.cons ?_ (.one (h5.mono (.new hn))))⟩
    rw [Nat.zero_add]
    exact .int _
theorem zipD_get {d e : Dat} : ∀ (ds es : List Dat) (i : Nat), ds[i]? = some d → es[i]? = some e → (zipD ds es)[i]? = some (.tup [d, e])
  | [], _, _, h, _ => by simp at h
  | _ :: _, [], _, _, h => by simp at h
  | x :: ds, y :: es, 0, h1, h2 => by
    simp only [List.getElem?_cons_zero, Option.some.injEq] at h1 h2
    subst h1 h2
    rfl
  | x :: ds, y :: es, i + 1, h1, h2 => by
    have k1 : ds[i]? = some d := h1
    have k2 : es[i]? = some e := h2
    have q := zipD_get ds es i k1 k2
    rw [← q]
    rfl
theorem zipD_len : ∀ {ds es : List Dat}, (zipD ds es).length = min ds.length es.length
  | [], _ => by simp [zipD]
  | _ :: _, [] => by simp [zipD]
  | x :: ds, y :: es => by
    show (zipD ds es).length + 1 = _
    rw [zipD_len, List.length_cons, List.length_cons]
    omega
theorem it_zipL (h : Src K (SqL K) H0 a ds gd) (h' : Src K (SqL K) H0 b es ge) : ItOk K H0 (Itz K a b) (zipD ds es) (gd ++ ge) := by
  refine ⟨fun i H G s rg gk hi => ?_, fun i H G s rg gk hi => ?_, fun i H G x H' s rg gk hi hy => ?_⟩
  all_goals rw [zipD_len] at hi
  all_goals obtain ⟨gk1, gk2⟩ := gdOk_app.mp gk
  all_goals obtain ⟨xs, h1, h2⟩ := h H G s rg gk1
  all_goals obtain ⟨ys, k1, k2⟩ := h' H G s rg gk2
  · obtain ⟨v, d, h3, _⟩ := h2.lt (i := i) (by omega)
    obtain ⟨u, e, k3, _⟩ := k2.lt (i := i) (by omega)
    exact ⟨xs, ys, v, u, h1, k1, h3, k3⟩
  · exact ⟨xs, ys, h1, k1, by rw [h2.length, k2.length]; omega⟩
  · obtain ⟨v, d, h3, h4, h5⟩ := h2.lt (i := i) (by omega)
    obtain ⟨u, e, k3, k4, k5⟩ := k2.lt (i := i) (by omega)
    obtain ⟨t, y, z, rfl, hn, rfl, h6, k6⟩ := hy
    have e1 := h6 xs h1
    have e2 := k6 ys k1
    rw [h3] at e1
    rw [k3] at e2
    cases e1
    cases e2
    exact ⟨.tup [d, e], zipD_get _ _ _ h4 k4, .newT hn, rg.newT hn, .tup (.inl upd_same) (.cons (h5.mono (.new hn)) (.one (k5.mono (.new hn))))⟩
theorem it_zipT (h : Src K (SqT K) H0 a ds gd) (h' : Src K (SqT K) H0 b es ge) : ItOk K H0 (RZ.ItzT K a b) (zipD ds es) (gd ++ ge) := by
  refine ⟨fun i H G s rg gk hi => ?_, fun i H G s rg gk hi => ?_, fun i H G x H' s rg gk hi hy => ?_⟩
  all_goals rw [zipD_len] at hi
  all_goals obtain ⟨gk1, gk2⟩ := gdOk_app.mp gk
  all_goals obtain ⟨xs, h1, h2⟩ := h H G s rg gk1
  all_goals obtain ⟨ys, k1, k2⟩ := h' H G s rg gk2
  · obtain ⟨v, d, h3, _⟩ := h2.lt (i := i) (by omega)
    obtain ⟨u, e, k3, _⟩ := k2.lt (i := i) (by omega)
    exact ⟨xs, ys, v, u, h1, k1, h3, k3⟩
  · exact ⟨xs, ys, h1, k1, by rw [h2.length, k2.length]; omega⟩
  · obtain ⟨v, d, h3, h4, h5⟩ := h2.lt (i := i) (by omega)
    obtain ⟨u, e, k3, k4, k5⟩ := k2.lt (i := i) (by omega)
    obtain ⟨t, y, z, rfl, hn, rfl, h6, k6⟩ := hy
    have e1 := h6 xs h1
    have e2 := k6 ys k1
    rw [h3] at e1
    rw [k3] at e2
    cases e1
    cases e2
    exact ⟨.tup [d, e], zipD_get _ _ _ h4 k4, .newT hn, rg.newT hn, .tup (.inl upd_same) (.cons (h5.mono (.new hn)) (.one (k5.mono (.new hn))))⟩
end
/-- an iterable, lifted -/
def LfI (K : PySem.W.Frag) (W : WX) (w : Env' → AG → (List Dat → Gd → AG → Prop) → AX → Prop) : TI := fun σ H R =>
  ∃ ρ G Qa Ea, RelE K H ρ σ ∧ RelG K G H ∧ w ρ G Qa Ea ∧ (∀ ds gd G' J H', Fra G H G' H' → RelG K G' H' → gdOk G' gd → ItOk K H' J ds gd → Qa ds gd G' → R J H') ∧ PostX K G H Ea fun c dx H' => W c dx σ H'
section
variable {X : Cx} {W : WX} {tg a b : Expr} {pos p tpos : Pos} {w1 w2 : Env' → AG → AQ → AX → Prop}
/-- a list or a tuple, walked -/
def iAny (K : PySem.W.Frag) (te : TE) : TI := fun σ H R => te σ H fun x H1 => ∃ a, x = .ref a ∧ ((∃ xs, SqL K H1 a xs) ∧ R (Itl K a) H1 ∨ (∃ xs, SqT K H1 a xs) ∧ R (Itt K a) H1)
theorem pi_any {te : TE} (h : PE X a te) : PI X tg a (iAny X.K te) := by
  refine ⟨fun pins s σ H R I hw => thn (h.run pins s σ H _ I hw) fun u s1 hq => ?_⟩
  obtain ⟨x, H1, I1, r1, l, rfl, q⟩ := hq
  cases r1
  have fin : ∀ {o : Obj}, ∀ b ∈ [s1.heap.objs.size], FpOk X pins H1 b := fun c hc => by
    cases List.mem_singleton.mp hc
    exact I1.fpOk (Nat.le_refl _) (I1.hok.fresh (Nat.le_refl _))
  rcases q with ⟨⟨xs, hx⟩, q⟩ | ⟨⟨xs, hx⟩, q⟩
  · obtain ⟨its, rv, hp, _⟩ := I1.list hx
    exact wpAny_pyIter_list hp.isList ⟨_, [s1.heap.objs.size], _, _, H1, rfl, I1.kept (t' := s1.toks) fun _ _ z => Heap.get?_push_of_some _ z, turn_list l _, ⟨_, Heap.get?_push_size _ rfl, rfl, rfl⟩, fin (o := default), q⟩
  · obtain ⟨its, rv, hp, _⟩ := I1.tuple hx
    exact wpAny_pyIter_tuple (show s1.heap.IsTuple l its.toArray from hp) ⟨_, [s1.heap.objs.size], _, _, H1, rfl, I1.kept (t' := s1.toks) fun _ _ z => Heap.get?_push_of_some _ z, turn_tuple l _, ⟨_, Heap.get?_push_size _ rfl, rfl, rfl⟩, fin (o := default), q⟩
theorem si_seq (h : PE X a (LfE X.K W w1)) : PI X tg a (LfI X.K W fun ρ G Q E => w1 ρ G (fun x G1 => seqG x G1 Q) E) := by
  refine PI.imp (pi_any h) ?_
  rintro σ H R ⟨ρ, G, Qa, Ea, hE, hG, hw, hp, hx⟩
  refine ⟨ρ, G, _, Ea, hE, hG, hw, fun d G1 v H1 f g r q => ?_, hx⟩
  obtain ⟨l, ds, gd, rfl, h1, h2, h3⟩ := seqG_src r q
  refine ⟨l, rfl, ?_⟩
  rcases h3 with h3 | h3
  · obtain ⟨xs, h4, _⟩ := h3 H1 G1 (.refl _) g h2
    exact .inl ⟨⟨xs, h4⟩, hp _ _ _ _ _ f g h2 (it_list h3) h1⟩
  · obtain ⟨xs, h4, _⟩ := h3 H1 G1 (.refl _) g h2
    exact .inr ⟨⟨xs, h4⟩, hp _ _ _ _ _ f g h2 (it_tup h3) h1⟩
theorem arg1 (h : PE X a (LfE X.K W w1)) (hs : starEach [a] X.env = [(false, eval a X.env)]) : PA X [a] (LfA X.K W fun ρ G Q E => w1 ρ G (fun d G1 => Q [d] G1) E) := sa_cons (es := []) hs h sa_nil
theorem si_rng1 (hg : Gl X "range") (hm : X.mg "range" = none) (h : PE X a (LfE X.K W w1)) (hs : starEach [a] X.env = [(false, eval a X.env)]) :
    PI X tg (.Call (.Name "range" p) [a] [] pos) (LfI X.K W fun ρ G Q E => w1 ρ G (intK fun n G1 => -(2 ^ 62) ≤ n ∧ n < 2 ^ 62 ∧ Q (rngD 0 n.toNat) [] G1) E) := by
  refine PI.imp (pi_range1 hg hm (arg1 h hs) hs) ?_
  rintro σ H R ⟨ρ, G, Qa, Ea, hE, hG, hw, hp, hx⟩
  refine ⟨ρ, G, fun ds G1 => match ds with | [d] => intK (fun n G1 => -(2 ^ 62) ≤ n ∧ n < 2 ^ 62 ∧ Qa (rngD 0 n.toNat) [] G1) d G1 | _ => False, Ea, hE, hG, hw, ?_, hx⟩
  intro ds G1 v H1 f g r q
  match ds, q with
  | [d], q =>
    obtain ⟨i, rfl, h1, h2, h3⟩ := intK_inv q
    obtain ⟨x, rfl, rx⟩ := reps1 r
    cases rep_i rx
    exact ⟨i, rfl, h1, h2, hp _ [] _ _ _ f g trivial it_rng h3⟩
theorem si_rng2 (hg : Gl X "range") (hm : X.mg "range" = none) (h : PE X a (LfE X.K W w1)) (h2 : PE X b (LfE X.K W w2)) (hs : starEach [a, b] X.env = [(false, eval a X.env), (false, eval b X.env)]) (hs2 : starEach [b] X.env = [(false, eval b X.env)]) :
    PI X tg (.Call (.Name "range" p) [a, b] [] pos) (LfI X.K W fun ρ G Q E => w1 ρ G (intK fun m G1 => w2 ρ G1 (intK fun n G2 => (-(2 ^ 62) ≤ m ∧ m < 2 ^ 62 ∧ -(2 ^ 62) ≤ n ∧ n < 2 ^ 62) ∧ Q (rngD m (n - m).toNat) [] G2) E) E) := by
  refine ⟨fun pins s σ H R I ⟨ρ, G, Qa, Ea, hE, hG, hw, hp, hx⟩ => ?_⟩
  refine (pi_range2 (tg := tg) hg hm (pa_cons h (pa_cons h2 pa_nil hs2) (by rw [hs, hs2])) hs hs2).run pins s σ H R I ?_
  refine ⟨ρ, G, _, Ea, hE, hG, hw, fun d G1 v H1 f g r q => ?_, hx⟩
  obtain ⟨i, rfl, q⟩ := intK_inv q
  cases rep_i r
  refine ⟨ρ, G1, _, Ea, hE.mono (f.stab hG), g, q, fun e G2 u H2 f2 g2 r2 q2 => ?_, hx.fra f⟩
  obtain ⟨j, rfl, q1, q3⟩ := intK_inv q2
  cases rep_i r2
  exact ⟨i, j, rfl, q1, hp _ [] _ _ _ (f.trans f2) g2 trivial it_rng q3⟩
theorem si_rng3 {c : Expr} {w3 : Env' → AG → AQ → AX → Prop} (hg : Gl X "range") (hm : X.mg "range" = none) (h : PE X a (LfE X.K W w1)) (h2 : PE X b (LfE X.K W w2)) (h3 : PE X c (LfE X.K W w3)) (hs : starEach [a, b, c] X.env = (false, eval a X.env) :: starEach [b, c] X.env) (hs2 : starEach [b, c] X.env = (false, eval b X.env) :: starEach [c] X.env) (hs3 : starEach [c] X.env = [(false, eval c X.env)]) :
    PI X tg (.Call (.Name "range" p) [a, b, c] [] pos) (LfI X.K W fun ρ G Q E => w1 ρ G (intK fun i G1 => w2 ρ G1 (intK fun j G2 => w3 ρ G2 (intK fun k G3 => ∃ n, RgC i j k n ∧ Q (rngC i k n) [] G3) E) E) E) := by
  refine ⟨fun pins s σ H R I ⟨ρ, G, Qa, Ea, hE, hG, hw, hp, hx⟩ => ?_⟩
  refine (pi_range3 (tg := tg) hg hm (pa_cons h (pa_cons h2 (pa_cons h3 pa_nil hs3) hs2) hs) hs (by rw [hs2, hs3]; rfl)).run pins s σ H R I ?_
  refine ⟨ρ, G, _, Ea, hE, hG, hw, fun d G1 v H1 f g r q => ?_, hx⟩
  obtain ⟨i, rfl, q⟩ := intK_inv q
  cases rep_i r
  refine ⟨ρ, G1, _, Ea, hE.mono (f.stab hG), g, q, fun e G2 u H2 f2 g2 r2 q2 => ?_, hx.fra f⟩
  obtain ⟨j, rfl, q2⟩ := intK_inv q2
  cases rep_i r2
  refine ⟨ρ, G2, _, Ea, hE.mono ((f.trans f2).stab hG), g2, q2, fun e G3 u H3 f3 g3 r3 q3 => ?_, hx.fra (f.trans f2)⟩
  obtain ⟨k, rfl, n, q4, q5⟩ := intK_inv q3
  cases rep_i r3
  exact ⟨i, j, k, n, rfl, q4, hp _ [] _ _ _ ((f.trans f2).trans f3) g3 trivial it_rngC q5⟩
theorem si_enum {elts : List Expr} {kk : Nat} (hg : Gl X "enumerate") (hm : X.mg "enumerate" = none) (h : PE X a (LfE X.K W w1)) (hs : starEach [a] X.env = [(false, eval a X.env)]) :
    PI X (.Tuple elts kk tpos) (.Call (.Name "enumerate" p) [a] [] pos) (LfI X.K W fun ρ G Q E => w1 ρ G (fun x G1 => seqG x G1 fun xs gx G2 => Q (enumD 0 xs) gx G2) E) := by
  refine PI.imp (pi_enumA hg hm (pa_cons h pa_nil hs) hs) ?_
  rintro σ H R ⟨ρ, G, Qa, Ea, hE, hG, hw, hp, hx⟩
  refine ⟨ρ, G, _, Ea, hE, hG, hw, fun d G1 v H1 f g r q => ?_, hx⟩
  obtain ⟨l, ds, gd, rfl, h1, h2, h3⟩ := seqG_src r q
  rcases h3 with h3 | h3
  · obtain ⟨xs, h4, _⟩ := h3 H1 G1 (.refl _) g h2
    exact ⟨l, xs, rfl, .inl ⟨h4, hp _ _ _ _ _ f g h2 (it_enum h3) h1⟩⟩
  · obtain ⟨xs, h4, _⟩ := h3 H1 G1 (.refl _) g h2
    exact ⟨l, xs, rfl, .inr ⟨h4, hp _ _ _ _ _ f g h2 (it_enumT h3) h1⟩⟩
theorem zipG_src {K : PySem.W.Frag} {H : Hp} {G : AG} {v u : V} {x y : Dat} {Q : List Dat → Gd → AG → Prop} (r : Rep K H v x) (r2 : Rep K H u y) (h : zipG x y G Q) :
    ∃ a b ds es gd ge, v = .ref a ∧ u = .ref b ∧ Q (zipD ds es) (gd ++ ge) G ∧ gdOk G (gd ++ ge) ∧ ((Src K (SqL K) H a ds gd ∧ Src K (SqL K) H b es ge) ∨ (Src K (SqT K) H a ds gd ∧ Src K (SqT K) H b es ge)) := by
  have no : (lstG x G fun xs gx G1 => lstG y G1 fun ys gy G2 => Q (zipD xs ys) (gx ++ gy) G2) → ∃ a b ds es gd ge, v = .ref a ∧ u = .ref b ∧ Q (zipD ds es) (gd ++ ge) G ∧ gdOk G (gd ++ ge) ∧ ((Src K (SqL K) H a ds gd ∧ Src K (SqL K) H b es ge) ∨ (Src K (SqT K) H a ds gd ∧ Src K (SqT K) H b es ge)) := fun hq => by
    obtain ⟨a, ds, gd, rfl, h1, h2, h3⟩ := lstG_src r hq
    obtain ⟨b, es, ge, rfl, k1, k2, k3⟩ := lstG_src r2 h1
    exact ⟨a, b, ds, es, gd, ge, rfl, rfl, k1, gdOk_app.mpr ⟨h2, k2⟩, .inl ⟨h3, k3⟩⟩
  cases x with
  | tup ds =>
    cases y with
    | tup es =>
      obtain ⟨a, vs, rfl, h1, q⟩ := rep_t r
      obtain ⟨b, us, rfl, h2, q2⟩ := rep_t r2
      exact ⟨a, b, ds, es, [], [], rfl, rfl, h, trivial, .inr ⟨fun H' G' s _ _ => ⟨_, (h1.mono s).sq, q.mono s⟩, fun H' G' s _ _ => ⟨_, (h2.mono s).sq, q2.mono s⟩⟩⟩
    | _ => exact no h
  | _ => exact no h
theorem si_zip {elts : List Expr} {kk : Nat} (hg : Gl X "zip") (hm : X.mg "zip" = none) (h : PE X a (LfE X.K W w1)) (h2 : PE X b (LfE X.K W w2)) (hs : starEach [a, b] X.env = (false, eval a X.env) :: starEach [b] X.env) (hs2 : starEach [b] X.env = [(false, eval b X.env)]) :
    PI X (.Tuple elts kk tpos) (.Call (.Name "zip" p) [a, b] [] pos) (LfI X.K W fun ρ G Q E => w1 ρ G (fun x G1 => w2 ρ G1 (fun y G2 => zipG x y G2 Q) E) E) := by
  refine PI.imp (RZ.pi_zipA hg hm (pa_cons h (pa_cons h2 pa_nil hs2) hs) hs (by rw [hs2]; rfl)) ?_
  rintro σ H R ⟨ρ, G, Qa, Ea, hE, hG, hw, hp, hx⟩
  refine ⟨ρ, G, _, Ea, hE, hG, hw, fun d G1 v H1 f g r q => ⟨ρ, G1, _, Ea, hE.mono (f.stab hG), g, q, fun e G2 u H2 f2 g2 r2 q2 => ?_, hx.fra f⟩, hx⟩
  obtain ⟨l, m, ds, es, gd, ge, rfl, rfl, h1, h3, h4⟩ := zipG_src (r.mono (f2.stab g)) r2 q2
  obtain ⟨k1, k2⟩ := gdOk_app.mp h3
  rcases h4 with ⟨h4, h5⟩ | ⟨h4, h5⟩
  · obtain ⟨xs, x1, _⟩ := h4 H2 G2 (.refl _) g2 k1
    obtain ⟨ys, y1, _⟩ := h5 H2 G2 (.refl _) g2 k2
    exact ⟨l, m, xs, ys, rfl, .inl ⟨x1, y1, hp _ _ _ _ _ (f.trans f2) g2 h3 (it_zipL h4 h5) h1⟩⟩
  · obtain ⟨xs, x1, _⟩ := h4 H2 G2 (.refl _) g2 k1
    obtain ⟨ys, y1, _⟩ := h5 H2 G2 (.refl _) g2 k2
    exact ⟨l, m, xs, ys, rfl, .inr ⟨x1, y1, hp _ _ _ _ _ (f.trans f2) g2 h3 (it_zipT h4 h5) h1⟩⟩
/-! ### targets -/
def tgIx : TGt → List Nat
  | .nm i => [i]
  | .tp is => is
  | .tq i is => i :: is
/-- a target, lifted -/
def LfG (K : PySem.W.Frag) (g : TGt) : TG := fun v σ H Q => ∃ ρ G d k, RelE K H ρ σ ∧ RelG K G H ∧ Rep K H v d ∧ tgW g d ρ k ∧ ∀ ρ' σ', RelE K H ρ' σ' → (∀ vs : List Nat, (∀ i ∈ tgIx g, i ∈ vs) → L2.wipe σ' vs = L2.wipe σ vs) → k ρ' → Q σ' H
theorem wipe_get {σ : L2.St} {j : Nat} : ∀ vs : List Nat, (L2.wipe σ vs)[j]? = if j ∈ vs then (σ[j]?).map (fun _ => none) else σ[j]?
  | [] => by simp [L2.wipe]
  | v :: vs => by
    have ih := wipe_get (σ := σ) (j := j) vs
    show ((L2.wipe σ vs).set v none)[j]? = _
    by_cases hj : v = j
    · subst hj
      rw [List.getElem?_set_self', ih]
      by_cases hm : v ∈ vs
      · rw [if_pos hm, if_pos (List.mem_cons_self ..)]
        cases σ[v]? <;> rfl
      · rw [if_neg hm, if_pos (List.mem_cons_self ..)]
        rfl
    · rw [List.getElem?_set_ne hj, ih]
      by_cases hm : j ∈ vs
      · rw [if_pos hm, if_pos (List.mem_cons_of_mem _ hm)]
      · rw [if_neg hm, if_neg (fun z => by rcases List.mem_cons.mp z with z | z; exact hj z.symm; exact hm z)]
theorem wipe_set {σ : L2.St} {i : Nat} {x : Option V} {vs : List Nat} (h : i ∈ vs) : L2.wipe (σ.set i x) vs = L2.wipe σ vs := by
  refine List.ext_getElem? fun j => ?_
  rw [wipe_get, wipe_get]
  by_cases hj : i = j
  · subst hj
    rw [if_pos h, if_pos h, List.getElem?_set_self']
    cases σ[i]? <;> rfl
  · rw [List.getElem?_set_ne hj]
theorem sg_nm {i : Nat} {x : Str} (hN : X.N.Nodup) (hi : X.N[i]? = some x) (hx : Loc X.env.scope x) (hf : X.fn x = true ∨ X.env.scope.names.lookup x = some .local) : PG X (.Name x pos) (LfG X.K (.nm i)) := by
  refine ⟨fun pins s σ H v u Q I r ⟨ρ, G, d, k, hE, hG, rv, hk, hq⟩ => ?_⟩
  exact (pg_name hN hi hx hf).run pins s σ H v u Q I r (hq _ _ (hE.set rv) (fun vs hv => wipe_set (hv i (List.mem_singleton.mpr rfl))) hk)
def gAll : List Nat → TGs
  | [] => gNil
  | i :: is => gCons (gName i) (gAll is)
/-- names of the frame, at their places -/
def nmsOk (X : Cx) : List Expr → List Nat → Prop
  | [], [] => True
  | .Name x _ :: ts, i :: is => (X.N[i]? = some x ∧ Loc X.env.scope x ∧ (X.fn x = true ∨ X.env.scope.names.lookup x = some .local)) ∧ nmsOk X ts is
  | _, _ => False
theorem nmsOk_each (X : Cx) : ∀ {ts : List Expr} {is : List Nat}, nmsOk X ts is → X.N.Nodup → (assignEach ts X.env).length = is.length ∧ (assignEach ts X.env).findIdx? (·.1) = none ∧ PGs X ts (gAll is)
  | [], [], _, _ => ⟨rfl, rfl, pgs_nil⟩
  | .Name x q :: ts, i :: is, h, hN => by
    obtain ⟨h1, h2, h3⟩ := nmsOk_each X h.2 hN
    refine ⟨congrArg (· + 1) h1, ?_, pgs_cons (pg_name hN h.1.1 h.1.2.1 h.1.2.2) h3⟩
    show List.findIdx? (·.1) ((false, assign (.Name x q) X.env) :: assignEach ts X.env) = none
    rw [List.findIdx?_cons, h2]
    rfl
theorem gAll_set {K : PySem.W.Frag} {H : Hp} {Q : L2.St → Hp → Prop} : ∀ {is : List Nat} {vs : List V} {ds : List Dat} {ρ : Env'} {σ : L2.St}, RelE K H ρ σ → Reps K H vs ds → ds.length = is.length →
    (∀ σ', RelE K H (setAll is ds ρ) σ' → (∀ ws : List Nat, (∀ i ∈ is, i ∈ ws) → L2.wipe σ' ws = L2.wipe σ ws) → Q σ' H) → gAll is vs σ H Q
  | [], _, _, ρ, σ, hE, .nil, _, h => ⟨rfl, h σ hE fun _ _ => rfl⟩
  | i :: is, _, _, ρ, σ, hE, .cons a r, hl, h => ⟨_, _, rfl, gAll_set (hE.set a) r (by simpa using hl) fun σ' h1 h2 => h σ' h1 fun ws hw => by
      rw [h2 ws fun j hj => hw j (List.mem_cons_of_mem _ hj), wipe_set (hw i (List.mem_cons_self ..))]⟩
theorem sg_tp {ts : List Expr} {is : List Nat} {kk : Nat} (hc : X.calm = true) (hN : X.N.Nodup) (h : nmsOk X ts is) : PG X (.Tuple ts kk pos) (LfG X.K (.tp is)) := by
  obtain ⟨h1, h2, h3⟩ := nmsOk_each X h hN
  refine ⟨fun pins s σ H v u Q I r ⟨ρ, G, d, k, hE, hG, rv, hk, hq⟩ => ?_⟩
  refine (pg_tup hc h3 h1 h2).run pins s σ H v u Q I r ?_
  cases d with
  | tup ds =>
    obtain ⟨a, vs, rfl, k1, k2⟩ := rep_t rv
    obtain ⟨k3, k4⟩ := hk
    exact ⟨a, vs, rfl, k1.sq, by rw [k2.length, k3], gAll_set hE k2 k3 fun σ' e1 e2 => hq _ σ' e1 e2 k4⟩
  | _ => exact False.elim hk
theorem sg_tq {t : Expr} {x : Str} {px : Pos} {ts : List Expr} {i : Nat} {is : List Nat} {kk k2 : Nat} {p2 : Pos} (hc : X.calm = true) (hN : X.N.Nodup) (hx : nmsOk X [.Name x px] [i]) (h : nmsOk X ts is) : PG X (.Tuple [.Name x px, .Tuple ts k2 p2] kk pos) (LfG X.K (.tq i is)) := by
  obtain ⟨h1, h2, h3⟩ := nmsOk_each X h hN
  obtain ⟨⟨x1, x2, x3⟩, _⟩ := hx
  refine ⟨fun pins s σ H v u Q I r ⟨ρ, G, d, k, hE, hG, rv, hk, hq⟩ => ?_⟩
  refine (pg_tup (n := 2) hc (pgs_cons (pg_name hN x1 x2 x3) (pgs_cons (pg_tup hc h3 h1 h2) pgs_nil)) rfl rfl).run pins s σ H v u Q I r ?_
  match d, hk with
  | .tup [d, .tup ds], hk =>
    obtain ⟨a, vs, rfl, k1, k2⟩ := rep_t rv
    obtain ⟨y, z, rfl, ry, rz⟩ : ∃ y z, vs = [y, z] ∧ Rep X.K H y d ∧ Rep X.K H z (.tup ds) := by
      cases k2 with
      | cons a b => cases b with
        | cons c e => cases e; exact ⟨_, _, rfl, a, c⟩
    obtain ⟨b, ws, rfl, k3, k4⟩ := rep_t rz
    obtain ⟨k5, k6⟩ := hk
    refine ⟨a, [y, .ref b], rfl, k1.sq, rfl, y, [.ref b], rfl, .ref b, [], rfl, b, ws, rfl, k3.sq, by rw [k4.length, k5], gAll_set (hE.set ry) k4 k5 fun σ' e1 e2 => ⟨rfl, hq _ σ' e1 (fun vs hv => ?_) k6⟩⟩
    rw [e2 vs fun j hj => hv j (List.mem_cons_of_mem _ hj), wipe_set (hv i (List.mem_cons_self ..))]
end
end Av
set_option Elab.async false
set_option linter.all false
set_option maxRecDepth 100000
set_option maxHeartbeats 4000000
/-! # AvCls: instances -/
namespace Av
open PySem PySem.Spec PyProof.Rows L2
variable [Tb]
theorem kr_look {K : PySem.W.Frag} {H : Hp} {f : Str} {d : Dat} : ∀ {vf : List (Str × V)} {fs : List (Str × Dat)}, KRel K H vf fs → fs.lookup f = some d → ∃ v, vf.lookup f = some v ∧ Rep K H v d
  | _, _, .nil, e => by cases e
  | (g, v) :: vf, (g', d') :: fs, .cons h r, e => by
    obtain ⟨rfl, h⟩ := h
    have e2 : (match f == g with | true => some d' | false => fs.lookup f) = some d := e
    show ∃ u, (match f == g with | true => some v | false => vf.lookup f) = some u ∧ Rep K H u d
    cases q : (f == g) with
    | true => rw [q] at e2; cases e2; exact ⟨v, rfl, h⟩
    | false => rw [q] at e2; exact kr_look r e2
theorem kr_none {K : PySem.W.Frag} {H : Hp} {f : Str} : ∀ {vf : List (Str × V)} {fs : List (Str × Dat)}, KRel K H vf fs → fs.lookup f = none → vf.lookup f = none
  | _, _, .nil, _ => rfl
  | (g, v) :: vf, (g', d') :: fs, .cons h r, e => by
    obtain ⟨rfl, h⟩ := h
    have e2 : (match f == g with | true => some d' | false => fs.lookup f) = none := e
    show (match f == g with | true => some v | false => vf.lookup f) = none
    cases q : (f == g) with
    | true => rw [q] at e2; cases e2
    | false => rw [q] at e2; exact kr_none r e2
theorem kr_len {K : PySem.W.Frag} {H : Hp} : ∀ {vf : List (Str × V)} {fs : List (Str × Dat)}, KRel K H vf fs → vf.length = fs.length
  | _, _, .nil => rfl
  | _, _, .cons _ r => congrArg (· + 1) (kr_len r)
theorem kr_put {K : PySem.W.Frag} {H : Hp} {f : Str} {v : V} {d : Dat} (h : Rep K H v d) : ∀ {vf : List (Str × V)} {fs : List (Str × Dat)}, KRel K H vf fs → KRel K H (putF f v vf) (putD f d fs)
  | _, _, .nil => .cons ⟨rfl, h⟩ .nil
  | (g, u) :: vf, (g', e) :: fs, .cons h1 r => by
    obtain ⟨rfl, h2⟩ := h1
    show KRel K H (if g = f then (g, v) :: vf else (g, u) :: putF f v vf) (if g = f then (g, d) :: fs else (g, e) :: putD f d fs)
    by_cases q : g = f
    · rw [if_pos q, if_pos q]; exact .cons ⟨rfl, h⟩ r
    · rw [if_neg q, if_neg q]; exact .cons ⟨rfl, h2⟩ (kr_put h r)
theorem RelG.ins {K : PySem.W.Frag} {G : AG} {H : Hp} {p : Addr} {C : Str} {fs : List (Str × Dat)} (g : RelG K G H) (e : G p = some (.ins C fs)) : ∃ dx vf, H p = some (.ins (He.ga K C) dx vf) ∧ KRel K H vf fs := g.g p _ e
theorem attW_inv {Γ : Gam} {f : Str} {x : Dat} {G : AG} {Q : AQ} (h : attW Γ f x G Q) : (∃ p C fs d, x = .ref p ∧ G p = some (.ins C fs) ∧ Γ.at_ C f = true ∧ fs.lookup f = some d ∧ Q d G) ∨ ∃ C fl ds d, x = .exc C fl ds ∧ Γ.xc C = some fl ∧ f ∈ fl ∧ (fl.zip ds).reverse.lookup f = some d ∧ Q d G := by
  cases x with
  | ref p => obtain ⟨C, fs, d, h⟩ := h; exact .inl ⟨p, C, fs, d, rfl, h⟩
  | exc C fl ds => obtain ⟨d, h⟩ := h; exact .inr ⟨C, fl, ds, d, rfl, h⟩
  | _ => exact False.elim h
theorem kr_zip {K : PySem.W.Frag} {H : Hp} : ∀ {fl : List Str} {vs : List V} {ds : List Dat}, Reps K H vs ds → KRel K H (fl.zip vs) (fl.zip ds)
  | [], _, _, _ => .nil
  | _ :: _, _, _, .nil => .nil
  | f :: fl, _, _, .cons a r => .cons ⟨rfl, a⟩ (kr_zip r)
theorem kr_app {K : PySem.W.Frag} {H : Hp} {x : Str} {v : V} {d : Dat} (h : Rep K H v d) : ∀ {vk : List (Str × V)} {kvs : List (Str × Dat)}, KRel K H vk kvs → KRel K H (vk ++ [(x, v)]) (kvs ++ [(x, d)])
  | _, _, .nil => .cons ⟨rfl, h⟩ .nil
  | _ :: _, _ :: _, .cons h1 r => .cons h1 (kr_app h r)
theorem kr_rev {K : PySem.W.Frag} {H : Hp} : ∀ {vk : List (Str × V)} {kvs : List (Str × Dat)}, KRel K H vk kvs → KRel K H vk.reverse kvs.reverse
  | _, _, .nil => .nil
  | (k, v) :: vk, (k', d) :: kvs, .cons h r => by
    obtain ⟨rfl, h⟩ := h
    rw [List.reverse_cons, List.reverse_cons]
    exact kr_app h (kr_rev r)
theorem satW_inv {Γ : Gam} {f : Str} {v x : Dat} {G : AG} {Q : AG → Prop} (h : satW Γ f v x G Q) : ∃ p C fs, x = .ref p ∧ G p = some (.ins C fs) ∧ Γ.at_ C f = true ∧ fs.length < 1000 ∧ Q (gu G p (.ins C (putD f v fs))) := by
  cases x with
  | ref p => obtain ⟨C, fs, h⟩ := h; exact ⟨p, C, fs, rfl, h⟩
  | _ => exact False.elim h
theorem insW_inv {C m : Str} {x : Dat} {G : AG} (h : insW C m x G) : ∃ p fs, x = .ref p ∧ G p = some (.ins C fs) ∧ fs.lookup m = none := by
  cases x with
  | ref p => obtain ⟨fs, h⟩ := h; exact ⟨p, fs, rfl, h⟩
  | _ => exact False.elim h
section
variable {X : Cx} {W : WX} {Γ : Gam} {k : Nat} {a o : Expr} {pos p apos : Pos} {es : List Expr} {w1 : Env' → AG → AQ → AX → Prop} {wa : Env' → AG → (List Dat → AG → Prop) → AX → Prop}
/-- e.f, of an instance or of an exception -/
def tFldA (K : PySem.W.Frag) (te : TE) (f : Str) : TE := fun σ H Q => te σ H fun x H1 => (∃ a C dx fs v, x = .ref a ∧ H1 a = some (.ins C dx fs) ∧ Cls K C ∧ NoAttr K C f ∧ fs.lookup f = some v ∧ Q v H1) ∨
  ∃ a C dx fs v, x = .ref a ∧ H1 a = some (ExcB a C (some dx)) ∧ H1 dx = some (ExdB dx fs) ∧ XfC K C ∧ PySem.W.findIn K (.ref C) f = some none ∧ fs.lookup f = some v ∧ Q v H1
theorem pe_fldA {f : Str} {te : TE} (he : PE X a te) (hb : attributeBase a f X.env (eval a X.env) = eval a X.env) : PE X (.Attribute a f pos) (tFldA X.K te f) := by
  refine ⟨fun pins s σ H Q I h => ?_⟩
  refine attr_of hb (thn (he.run pins s σ H _ I h) fun u s1 ⟨x, H1, I1, rx, q⟩ => ?_)
  rcases q with ⟨b, C, dx, fs, v, ex, ea, c, n, l, q⟩ | ⟨b, C, dx, fs, v, ex, ea, ed, T, n, l, q⟩
  · subst ex
    obtain rfl : u = Value.ref b := rx
    exact getattr_ok I1 ea c n l fun u' s2 I2 ru => ⟨v, H1, I2, ru, q⟩
  · subst ex
    obtain rfl : u = Value.ref b := rx
    obtain ⟨oe, vs, h1, h2, h3, h4⟩ := excB_at I1.hok ea
    obtain ⟨mA, hns, hr⟩ := exdB_at I1.hok ed
    obtain ⟨od, ho, hl⟩ := lookIn_ns hns
    obtain ⟨u, hu, ru⟩ := RelO.some_of (v := v) (o := mA f) (by rw [← l]; exact hr f)
    have J : PySem.W.InstAt s1.heap b oe C (some od) := ⟨h1, h2, by unfold PySem.W.notCls; rw [h4] <;> rfl, by rw [h3]; exact ho⟩
    exact HandSPX.exc_get I1.kIn J T.ga T.gg T.exC (PySem.W.findObj_own T.hdC n rfl (by rw [hl, hu])) (handed_of ru) ⟨v, H1, I1.tok _, ru, q⟩
theorem se_att (oc : Oc X W Γ k) {f : Str} (h1 : PE X a (LfE X.K W w1)) (hb : attributeBase a f X.env (eval a X.env) = eval a X.env) : PE X (.Attribute a f pos) (LfE X.K W fun ρ G Q E => w1 ρ G (fun x G1 => attW Γ f x G1 Q) E) := by
  refine PE.imp (pe_fldA h1 hb) ?_
  rintro σ H Q ⟨ρ, G, Qa, Ea, hE, hG, hw, hp, hx⟩
  refine ⟨ρ, G, _, Ea, hE, hG, hw, fun d G1 v H1 fr g r q => ?_, hx⟩
  rcases attW_inv q with ⟨b, C, fs, e, rfl, k1, k2, k3, k4⟩ | ⟨C, fl, ds, e, rfl, k1, k2, k3, k4⟩
  · cases rep_r r
    obtain ⟨dx, vf, k5, k6⟩ := g.ins k1
    obtain ⟨u, k7, k8⟩ := kr_look k6 k3
    obtain ⟨c1, c2⟩ := oc.tb.at_ C f k2
    exact .inl ⟨b, _, dx, vf, u, rfl, k5, c1, c2, k7, hp _ _ _ _ fr g k8 k4⟩
  · cases r with
    | @exc a dx _ _ vs _ m1 m2 m3 =>
      have h0 : fl ≠ [] := fun z => by rw [z] at k2; cases k2
      obtain ⟨c1, c2⟩ := oc.tb.xf C fl k1 h0
      cases dx with
      | none => exact absurd m2.1 h0
      | some dx =>
        obtain ⟨u, k7, k8⟩ := kr_look (kr_rev (kr_zip m3)) k3
        exact .inr ⟨a, _, dx, _, u, rfl, m1, m2.2, c1, c2 f k2, k7, hp _ _ _ _ fr g k8 k4⟩
/-- o.m(..), what is raised wished for at the slots -/
def tMethS (C : Addr) (m : Str) (sp : Sp) (dvs : List V) (E : L2.St → XK) (to : TE) (t : TA) : TE := fun σ H Q => to σ H fun x H1 => ∃ b dx fs, x = .ref b ∧ H1 b = some (.ins C dx fs) ∧ fs.lookup m = none ∧ t σ H1 fun vs H2 => sp (x :: (vs ++ dvs)) H2 Q (E σ)
theorem pe_methSD {CX : CXT} {C f : Addr} {m : Str} {fd : FuncData} {ps : List Str} {sp : Sp} {dvs : List V} {ds : List Value} {E : L2.St → XK} {to : TE} {t : TA} {e : Expr} {pl : Sem Bool} (he : PE X o to) (c : Cls X.K C) (hm : Meth X.K C m f) (F : FnOk X.prog X.w X.K X.mg X.base CX k f fd ps sp) (hr : Room k X.A)
    (hb : Binds X.K fd ps ds) (hd : Vals dvs ds) (hx : ∀ σ, PassesAt CX X σ (E σ)) (ha : PA X (e :: es) t) (hst : starEach (e :: es) X.env = (false, eval e X.env) :: starEach es X.env) (hpl : (backTo pos (starEach es X.env)).any (·.1) = false)
    (ht : eval (.Call (.Attribute o m apos) (e :: es) [] pos) X.env = (do
      let w ← eval o X.env
      standAt apos.atName
      let (g, one) ← holding [w] (getMethod w m pl)
      callWith pos g one (backTo pos (starEach (e :: es) X.env)) (backToKw pos (keywordEach [] X.env)))) : PE X (.Call (.Attribute o m apos) (e :: es) [] pos) (tMethS C m sp dvs E to t) := by
  refine ⟨fun pins s σ H Q I h => ?_⟩
  refine PySem.W.methodCall_KW (pl := pl) (thn (he.run pins s σ H _ I h) fun u s1 ⟨x, H1, I1, rx, b, dx, fs, ex, eb, l, q⟩ => ?_) ht
  subst ex
  obtain rfl : u = Value.ref b := rx
  refine getmeth_ok I1 eb c hm l ?_
  refine PySem.W.callWith_K (first := [.ref b]) (h₀ := X.base) I.ok.mod.kin hm.kp (thn (ha.run pos pins s1 σ H1 _ I1 q) fun us s2 ⟨vs, H2, I2, r, q2⟩ => ⟨I2.kIn, ?_⟩) hst hpl
  exact run_fnSD (us := .ref b :: us) (vs := .ref b :: vs) F hr hb hd (hx σ) I2 (.cons rfl r) q2
theorem pe_methSD0 {CX : CXT} {C f : Addr} {m : Str} {fd : FuncData} {ps : List Str} {sp : Sp} {dvs : List V} {ds : List Value} {E : L2.St → XK} {to : TE} {pl : Sem Bool} (he : PE X o to) (c : Cls X.K C) (hm : Meth X.K C m f) (F : FnOk X.prog X.w X.K X.mg X.base CX k f fd ps sp) (hr : Room k X.A)
    (hb : Binds X.K fd ps ds) (hd : Vals dvs ds) (hx : ∀ σ, PassesAt CX X σ (E σ))
    (ht : eval (.Call (.Attribute o m apos) [] [] pos) X.env = (do
      let w ← eval o X.env
      standAt apos.atName
      let (g, one) ← holding [w] (getMethod w m pl)
      callWith pos g one (backTo pos (starEach [] X.env)) (backToKw pos (keywordEach [] X.env)))) : PE X (.Call (.Attribute o m apos) [] [] pos) (tMethS C m sp dvs E to tNil) := by
  refine ⟨fun pins s σ H Q I h => ?_⟩
  refine PySem.W.methodCall_KW (pl := pl) (thn (he.run pins s σ H _ I h) fun u s1 ⟨x, H1, I1, rx, b, dx, fs, ex, eb, l, q⟩ => ?_) ht
  subst ex
  obtain rfl : u = Value.ref b := rx
  refine getmeth_ok I1 eb c hm l ?_
  exact PySem.W.callWith_K0 (first := [.ref b]) I1.kIn hm.kp (run_fnSD (us := [.ref b]) (vs := [.ref b]) F hr hb hd (hx σ) I1 (.cons rfl .nil) q)
theorem ms_imp {F : FnE} {C m : Str} {dvs : List V} {n : Nat} {to : Env' → AG → AQ → AX → Prop} {t : TA} (hd : ∀ H, Reps X.K H dvs (F.dfl.drop n)) (ht : ∀ σ H Q, LfA X.K W wa σ H Q → t σ H Q) (σ : L2.St) (H : Hp) (Q : VK)
    (h : LfE X.K W (fun ρ G Q E => to ρ G (fun x G1 => insW C m x G1 ∧ wa ρ G1 (fun ds G2 => F.con (x :: (ds ++ F.dfl.drop n)) G2 Q E) E) E) σ H Q) : tMethS (He.ga X.K C) m (spOf X.K F) dvs (WE W) (LfE X.K W to) t σ H Q := by
  obtain ⟨ρ, G, Qa, Ea, hE, hG, hw, hp, hx⟩ := h
  refine ⟨ρ, G, _, Ea, hE, hG, hw, fun d G1 v H1 f g r q => ?_, hx⟩
  obtain ⟨b, fs, rfl, k1, k2⟩ := insW_inv q.1
  cases rep_r r
  obtain ⟨dx, vf, k3, k4⟩ := g.ins k1
  refine ⟨b, dx, vf, rfl, k3, kr_none k4 k2, ht _ _ _ ⟨ρ, G1, _, Ea, hE.mono (f.stab hG), g, q.2, fun ds G2 vs H2 f2 g2 r2 q2 => ?_, hx.fra f⟩⟩
  exact ⟨_, G2, Qa, Ea, .cons (.ref b) (r2.append (hd H2)), g2, q2, fun d' G' v' H' f3 => hp d' G' v' H' ((f.trans f2).trans f3), hx.fra (f.trans f2)⟩
theorem se_mcall (oc : Oc X W Γ k) {C m : Str} {F : FnE} {e : Expr} {pl : Sem Bool} (hF : Γ.ms C m = some F) (h1 : F.ar ≤ (e :: es).length + 1 + F.dfl.length) (h2 : (e :: es).length + 1 ≤ F.ar) (ho : PE X o (LfE X.K W w1)) (ha : PA X (e :: es) (LfA X.K W wa))
    (hst : starEach (e :: es) X.env = (false, eval e X.env) :: starEach es X.env) (hpl : (backTo pos (starEach es X.env)).any (·.1) = false)
    (ht : eval (.Call (.Attribute o m apos) (e :: es) [] pos) X.env = (do
      let w ← eval o X.env
      standAt apos.atName
      let (g, one) ← holding [w] (getMethod w m pl)
      callWith pos g one (backTo pos (starEach (e :: es) X.env)) (backToKw pos (keywordEach [] X.env)))) :
    PE X (.Call (.Attribute o m apos) (e :: es) [] pos) (LfE X.K W fun ρ G Q E => w1 ρ G (fun x G1 => insW C m x G1 ∧ wa ρ G1 (fun ds G2 => F.con (x :: (ds ++ F.dfl.drop ((e :: es).length + 1 + F.dfl.length - F.ar))) G2 Q E) E) E) := by
  obtain ⟨a, fd, ps, hok, hc, hm, hbind⟩ := oc.tb.ms C m F hF
  obtain ⟨ds, dvs, hb, hv, hd⟩ := hbind (e :: es).length h1 h2
  exact PE.imp (pe_methSD (E := WE W) ho hc hm hok oc.room hb hv (fun σ => passAt oc.tk σ) ha hst hpl ht) (ms_imp hd fun _ _ _ z => z)
theorem se_mcall0 (oc : Oc X W Γ k) {C m : Str} {F : FnE} {pl : Sem Bool} (hF : Γ.ms C m = some F) (h1 : F.ar ≤ 0 + 1 + F.dfl.length) (h2 : 0 + 1 ≤ F.ar) (ho : PE X o (LfE X.K W w1))
    (ht : eval (.Call (.Attribute o m apos) [] [] pos) X.env = (do
      let w ← eval o X.env
      standAt apos.atName
      let (g, one) ← holding [w] (getMethod w m pl)
      callWith pos g one (backTo pos (starEach [] X.env)) (backToKw pos (keywordEach [] X.env)))) :
    PE X (.Call (.Attribute o m apos) [] [] pos) (LfE X.K W fun ρ G Q E => w1 ρ G (fun x G1 => insW C m x G1 ∧ F.con (x :: ([] ++ F.dfl.drop (0 + 1 + F.dfl.length - F.ar))) G1 Q E) E) := by
  obtain ⟨a, fd, ps, hok, hc, hm, hbind⟩ := oc.tb.ms C m F hF
  obtain ⟨ds, dvs, hb, hv, hd⟩ := hbind 0 h1 h2
  exact PE.imp (pe_methSD0 (E := WE W) ho hc hm hok oc.room hb hv (fun σ => passAt oc.tk σ) ht)
    (ms_imp (wa := fun _ G Q _ => Q [] G) hd fun _ _ _ ⟨ρ, G, Qa, Ea, hE, hG, hw, hp, hx⟩ => hp [] G [] _ .refl hG .nil hw)
/-! ### o.m(.., k = v, ..) -/
theorem perm_reps {K : PySem.W.Frag} {H : Hp} {pm : List Nat} {vs : List V} {ds : List Dat} (h : Reps K H vs ds) : Reps K H (permL pm vs) (permL pm ds) := by
  induction pm with
  | nil => exact .nil
  | cons i pm ih =>
    unfold permL
    rw [List.filterMap_cons, List.filterMap_cons]
    cases e : ds[i]? with
    | none =>
      have e2 : vs[i]? = none := by rw [List.getElem?_eq_none_iff] at e ⊢; rw [h.length]; exact e
      rw [e2]
      exact ih
    | some d =>
      obtain ⟨v, e2, r⟩ := h.get e
      rw [e2]
      exact .cons r ih
/-- o.m(.., k = v, ..): n by place, the names ks -/
def tMethN (C : Addr) (m : Str) (n : Nat) (ks : List Str) (sp : Sp) (gV : List V → List V → List V) (E : L2.St → XK) (to : TE) (t tk : TA) : TE := fun σ H Q => to σ H fun x H1 => ∃ b dx fs, x = .ref b ∧ H1 b = some (.ins C dx fs) ∧ fs.lookup m = none ∧
  t σ H1 fun vs H2 => tk σ H2 fun zs H3 => vs.length = n ∧ zs.length = ks.length ∧ sp (gV (x :: vs) zs) H3 Q (E σ)
theorem run_fnND {CX : CXT} {f : Addr} {fd : FuncData} {ps ks : List Str} {sp : Sp} {E : L2.St → XK} {n : Nat} {g : List Value → List Value → List Value} {gV : List V → List V → List V} {pins : List (Addr × Obj)} {σ : L2.St} {H : Hp} {s : Shared} {Q : VK} {us ws : List Value} {vs zs : List V}
    (F : FnOk X.prog X.w X.K X.mg X.base CX k f fd ps sp) (hr : Room k X.A) (hb : KBn X.K fd ps n ks g gV) (hx : PassesAt CX X σ (E σ)) (I : Inv X pins σ H s) (r : Vals vs us) (rz : Vals zs ws) (l1 : vs.length = n) (l2 : zs.length = ks.length) (h : sp (gV vs zs) H Q (E σ)) :
    wpAny (model X.prog X.w) X.A (call (.ref f) us (ks.zip ws)) (EP X pins σ Q) X.xe s := by
  have r2 := hb.rel r rz
  refine wpAny_call (codeAny_mono (F.run X.A X.stack s H ⟨us, ks.zip ws⟩ (g us ws) (gV vs zs) Q (E σ) hr I.env0 (hb.to s us ws I.kIn (r.length.symm.trans l1) (rz.length.symm.trans l2)) r2 h) fun r s' hq => ?_)
  cases r with
  | error e => exact hx pins H s e s' I hq
  | ok fl =>
    cases fl with
    | ret u => exact I.after hq
    | next => exact False.elim hq
    | brk => exact False.elim hq
    | cont => exact False.elim hq
theorem pe_methN {CX : CXT} {C f : Addr} {m : Str} {fd : FuncData} {ps ks : List Str} {sp : Sp} {E : L2.St → XK} {to : TE} {t tk : TA} {kws : List Keyword} {n : Nat} {g : List Value → List Value → List Value} {gV : List V → List V → List V} {pl : Sem Bool}
    (he : PE X o to) (c : Cls X.K C) (hm : Meth X.K C m f) (F : FnOk X.prog X.w X.K X.mg X.base CX k f fd ps sp) (hr : Room k X.A) (hb : KBn X.K fd ps (n + 1) ks g gV) (hx : ∀ σ, PassesAt CX X σ (E σ)) (ha : PA X es t) (hkw : PK X kws tk)
    (hall : (backToKw pos (keywordEach kws X.env)).all (·.1.isSome) = true) (hks : (backToKw pos (keywordEach kws X.env)).filterMap (·.1) = ks)
    (hst : ∀ e es', es = e :: es' → starEach es X.env = (false, eval e X.env) :: starEach es' X.env) (hpl : ((backTo pos (starEach es X.env)).any (·.1) || (backToKw pos (keywordEach kws X.env)).any (·.1.isNone)) = false)
    (hnil : ∀ σ H Q, es = [] → t σ H Q → Q [] H)
    (ht : eval (.Call (.Attribute o m apos) es kws pos) X.env = (do
      let w ← eval o X.env
      standAt apos.atName
      let (g, one) ← holding [w] (getMethod w m pl)
      callWith pos g one (backTo pos (starEach es X.env)) (backToKw pos (keywordEach kws X.env)))) : PE X (.Call (.Attribute o m apos) es kws pos) (tMethN C m n ks sp gV E to t tk) := by
  refine ⟨fun pins s σ H Q I h => ?_⟩
  refine PySem.W.methodCall_KW (pl := pl) (thn (he.run pins s σ H _ I h) fun u s1 ⟨x, H1, I1, rx, b, dx, fs, ex, eb, l, q⟩ => ?_) ht
  subst ex
  obtain rfl : u = Value.ref b := rx
  refine getmeth_ok I1 eb c hm l ?_
  cases es with
  | nil =>
    have q := hnil _ _ _ rfl q
    refine PySem.W.callWith_KW0 (first := [.ref b]) (h₀ := X.base) I.ok.mod.kin hm.kp hall (thn (hkw.run pos pins s1 σ H1 _ I1 q) fun ws s2 ⟨zs, H2, I2, rz, l1, l2, q2⟩ => ⟨I2.kIn, ?_⟩) hpl
    rw [hks]
    exact run_fnND (us := [.ref b]) (vs := [.ref b]) F hr hb (hx σ) I2 (.cons rfl .nil) rz (congrArg (· + 1) l1) l2 q2
  | cons e es =>
    refine PySem.W.callWith_KW (first := [.ref b]) (h₀ := X.base) I.ok.mod.kin hm.kp hall (thn (ha.run pos pins s1 σ H1 _ I1 q) fun us s2 ⟨vs, H2, I2, r, q2⟩ => ?_) hpl (hst e es rfl)
    refine thn (hkw.run pos pins s2 σ H2 _ I2 q2) fun ws s3 ⟨zs, H3, I3, rz, l1, l2, q3⟩ => ⟨I3.kIn, ?_⟩
    rw [hks]
    exact run_fnND (us := .ref b :: us) (vs := .ref b :: vs) F hr hb (hx σ) I3 (.cons rfl r) rz (congrArg (· + 1) l1) l2 q3
theorem se_mnam (oc : Oc X W Γ k) {C m : Str} {ks : List Str} {F : FnE × List Nat} {kws : List Keyword} {n : Nat} {wk : Env' → AG → (List Dat → AG → Prop) → AX → Prop} {pl : Sem Bool} (hF : Γ.mn C m n ks = some F) (ho : PE X o (LfE X.K W w1)) (ha : PA X es (LfA X.K W wa)) (hkw : PK X kws (LfA X.K W wk))
    (hall : (backToKw pos (keywordEach kws X.env)).all (·.1.isSome) = true) (hks : (backToKw pos (keywordEach kws X.env)).filterMap (·.1) = ks)
    (hst : ∀ e es', es = e :: es' → starEach es X.env = (false, eval e X.env) :: starEach es' X.env) (hpl : ((backTo pos (starEach es X.env)).any (·.1) || (backToKw pos (keywordEach kws X.env)).any (·.1.isNone)) = false)
    (hnil : ∀ ρ G Q E, es = [] → wa ρ G Q E → Q [] G)
    (ht : eval (.Call (.Attribute o m apos) es kws pos) X.env = (do
      let w ← eval o X.env
      standAt apos.atName
      let (g, one) ← holding [w] (getMethod w m pl)
      callWith pos g one (backTo pos (starEach es X.env)) (backToKw pos (keywordEach kws X.env)))) :
    PE X (.Call (.Attribute o m apos) es kws pos) (LfE X.K W fun ρ G Q E => w1 ρ G (fun x G1 => insW C m x G1 ∧ wa ρ G1 (fun ds G2 => wk ρ G2 (fun zs G3 => ds.length = n ∧ zs.length = ks.length ∧ F.1.con (permL F.2 ((x :: ds) ++ zs ++ F.1.dfl)) G3 Q E) E) E) E) := by
  obtain ⟨F, pm⟩ := F
  obtain ⟨a, fd, ps, dvs, its, hok, hc, hm, hb, hd⟩ := oc.tb.mn C m n ks F pm hF
  refine PE.imp (pe_methN (E := WE W) ho hc hm hok oc.room hb (fun σ => passAt oc.tk σ) ha hkw hall hks hst hpl (fun σ H Q e ⟨ρ, G, Qa, Ea, hE, hG, hw, hp, hx⟩ => hp [] G [] _ .refl hG .nil (hnil _ _ _ _ e hw)) ht) ?_
  rintro σ H Q ⟨ρ, G, Qa, Ea, hE, hG, hw, hp, hx⟩
  refine ⟨ρ, G, _, Ea, hE, hG, hw, fun d G1 v H1 f g r q => ?_, hx⟩
  obtain ⟨b, fs, rfl, k1, k2⟩ := insW_inv q.1
  cases rep_r r
  obtain ⟨dx, vf, k3, k4⟩ := g.ins k1
  refine ⟨b, dx, vf, rfl, k3, kr_none k4 k2, ⟨ρ, G1, _, Ea, hE.mono (f.stab hG), g, q.2, fun ds G2 vs H2 f2 g2 r2 q2 => ?_, hx.fra f⟩⟩
  refine ⟨ρ, G2, _, Ea, hE.mono ((f.trans f2).stab hG), g2, q2, fun zs G3 us H3 f3 g3 r3 q3 => ?_, hx.fra (f.trans f2)⟩
  refine ⟨r2.length.trans q3.1, r3.length.trans q3.2.1, _, G3, Qa, Ea, perm_reps (pm := pm) (((Reps.cons (.ref b) (r2.mono (f3.stab g2))).append r3).append (hd H3)), g3, q3.2.2, fun d' G' v' H' f4 => hp d' G' v' H' (((f.trans f2).trans f3).trans f4), hx.fra ((f.trans f2).trans f3)⟩
/-! ### C(..) -/
def tMakeS (C : Addr) (sp : Sp) (dvs : List V) (E : L2.St → XK) (t : TA) : TE := fun σ H Q => t σ H fun vs H1 => ∀ x dx, H1 x = none → H1 dx = none → dx ≠ x →
  sp (.ref x :: (vs ++ dvs)) (upd (upd H1 dx (.own x)) x (.ins C dx [])) (fun v H2 => v = .non ∧ Q (.ref x) H2) (E σ)
theorem run_makeSD {CX : CXT} {C f : Addr} {fd : FuncData} {ps : List Str} {sp : Sp} {dvs : List V} {ds : List Value} {E : L2.St → XK} {pins : List (Addr × Obj)} {σ : L2.St} {H : Hp} {s : Shared} {Q : VK} {us : List Value} {vs : List V} (M : Mk X.K C f) (F : FnOk X.prog X.w X.K X.mg X.base CX k f fd ps sp) (hr : Room (k + 1) X.A)
    (hb : Binds X.K fd ps ds) (hd : Vals dvs ds) (hx : PassesAt CX X σ (E σ)) (I : Inv X pins σ H s) (r : Vals vs us)
    (h : ∀ x dx, H x = none → H dx = none → dx ≠ x → sp (.ref x :: (vs ++ dvs)) (upd (upd H dx (.own x)) x (.ins C dx [])) (fun v H2 => v = .non ∧ Q (.ref x) H2) (E σ)) :
    wpAny (model X.prog X.w) X.A (call (.ref C) us) (EP X pins σ Q) X.xe s := by
  have q0 := h (s.heap.objs.size + 1) s.heap.objs.size (I.hok.fresh (Nat.le_succ _)) (I.hok.fresh (Nat.le_refl _)) (Nat.ne_of_lt (Nat.lt_succ_self _))
  have J := Inv.made (C := C) I
  have rr : Vals (V.ref (s.heap.objs.size + 1) :: (vs ++ dvs)) (Value.ref (s.heap.objs.size + 1) :: (us ++ ds)) := .cons rfl (r.append hd)
  have ll : (Value.ref (s.heap.objs.size + 1) :: us ++ ds).length = ps.length := by
    have z := rr.length
    rw [F.len _ _ _ _ q0] at z
    exact z.symm
  refine wpAny_call (make_map (f := f) I.kIn M.makes M.init (beq_iff_eq.mp M.fn) (codeAny_mono (F.run _ X.stack _ _ ⟨Value.ref (s.heap.objs.size + 1) :: us, []⟩ (Value.ref (s.heap.objs.size + 1) :: (us ++ ds)) _ _ (E σ) (hr.make C us []) (J.env0.make C us []) (hb _ (Value.ref (s.heap.objs.size + 1) :: us) J.kIn ll) rr q0) fun res s' hq => ?_))
  cases res with
  | error e => exact hx pins _ _ e s' J hq
  | ok fl =>
    cases fl with
    | ret u =>
      obtain ⟨v, H', J3, rv, ev, q3⟩ := J.after hq
      subst ev
      exact ⟨rv, ⟨V.ref (s.heap.objs.size + 1), H', J3, rfl, q3⟩⟩
    | next => exact False.elim hq
    | brk => exact False.elim hq
    | cont => exact False.elim hq
theorem FnOk.room {P : Program} {w : World} {K : PySem.W.Frag} {mg : Str → Option Value} {base : Heap} {CX : CXT} {f : Addr} {fd : FuncData} {ps : List Str} {sp : Sp} {j : Nat} (F : FnOk P w K mg base CX j f fd ps sp) {k : Nat} (h : j ≤ k) : FnOk P w K mg base CX k f fd ps sp := F.mono h
theorem mk_imp {F : FnE} {C : Str} {dvs : List V} {n : Nat} {t : TA} (hd : ∀ H, Reps X.K H dvs (F.dfl.drop n)) (ht : ∀ σ H Q, LfA X.K W wa σ H Q → t σ H Q) (σ : L2.St) (H : Hp) (Q : VK)
    (h : LfE X.K W (fun ρ G Q E => wa ρ G (fun ds G1 => ∀ p, G1 p = none → F.con (.ref p :: (ds ++ F.dfl.drop n)) (gu G1 p (.ins C [])) (fun d G2 => d = .non ∧ Q (.ref p) G2) E) E) σ H Q) : tMakeS (He.ga X.K C) (spOf X.K F) dvs (WE W) t σ H Q := by
  obtain ⟨ρ, G, Qa, Ea, hE, hG, hw, hp, hx⟩ := h
  refine ht _ _ _ ⟨ρ, G, _, Ea, hE, hG, hw, fun ds G1 vs H1 f g r q x dx hx1 hdx hne => ?_, hx⟩
  have g1 := g.newT (o := .own x) hdx
  have e1 : (upd H1 dx (.own x)) x = none := by rw [upd_ne (Ne.symm hne)]; exact hx1
  have n1 : G1 x = none := g.free hx1
  have f1 : Fra G1 H1 (gu G1 x (.ins C [])) (upd (upd H1 dx (.own x)) x (.ins (He.ga X.K C) dx [])) := (Fra.newT hdx).trans (.new e1)
  have g2 : RelG X.K (gu G1 x (.ins C [])) (upd (upd H1 dx (.own x)) x (.ins (He.ga X.K C) dx [])) := g1.new e1 (show AOk X.K _ x (.ins C []) from ⟨dx, [], upd_same, .nil⟩)
  refine ⟨_, _, _, Ea, .cons (.ref x) ((r.mono (f1.stab g)).append (hd _)), g2, q x n1, fun d' G' v' H' f3 g3 r3 q3 => ?_, hx.fra (f.trans f1)⟩
  obtain ⟨rfl, q3⟩ := q3
  exact ⟨rep_n r3, hp _ _ _ _ ((f.trans f1).trans f3) g3 (.ref x) q3⟩
theorem se_new (oc : Oc X W Γ k) {C : Str} {F : FnE} {e : Expr} (hF : Γ.mke C = some F) (hg : Gl X C) (hdb : (C == ("__debug__" : Str)) = false) (h1 : F.ar ≤ (e :: es).length + 1 + F.dfl.length) (h2 : (e :: es).length + 1 ≤ F.ar) (ha : PA X (e :: es) (LfA X.K W wa))
    (hst : starEach (e :: es) X.env = (false, eval e X.env) :: starEach es X.env) (hpl : (backTo pos (starEach es X.env)).any (·.1) = false) :
    PE X (.Call (.Name C p) (e :: es) [] pos) (LfE X.K W fun ρ G Q E => wa ρ G (fun ds G1 => ∀ p, G1 p = none → F.con (.ref p :: (ds ++ F.dfl.drop ((e :: es).length + 1 + F.dfl.length - F.ar))) (gu G1 p (.ins C [])) (fun d G2 => d = .non ∧ Q (.ref p) G2) E) E) := by
  obtain ⟨a, fd, ps, j, hj, hok, hM, hm, hbind⟩ := oc.tb.mke C F hF
  obtain ⟨ds, dvs, hb, hv, hd⟩ := hbind (e :: es).length h1 h2
  refine PE.imp (t := tMakeS (He.ga X.K C) (spOf X.K F) dvs (WE W) (LfA X.K W wa)) ⟨fun pins s σ H Q I h => ?_⟩ (mk_imp hd fun _ _ _ z => z)
  refine wpAny_Call_Name_kw (ld_glob I hg hm ?_ hdb)
  refine PySem.W.callWith_K (h₀ := X.base) I.ok.mod.kin hM.kp (thn (ha.run pos pins s σ H _ I h) fun us s1 ⟨vs, H1, I1, r, q⟩ => ⟨I1.kIn, ?_⟩) hst hpl
  exact run_makeSD hM hok (oc.room.mono hj) hb hv (passAt oc.tk σ) I1 r q
theorem se_new0 (oc : Oc X W Γ k) {C : Str} {F : FnE} (hF : Γ.mke C = some F) (hg : Gl X C) (hdb : (C == ("__debug__" : Str)) = false) (h1 : F.ar ≤ 0 + 1 + F.dfl.length) (h2 : 0 + 1 ≤ F.ar) :
    PE X (.Call (.Name C p) [] [] pos) (LfE X.K W fun ρ G Q E => ∀ p, G p = none → F.con (.ref p :: ([] ++ F.dfl.drop (0 + 1 + F.dfl.length - F.ar))) (gu G p (.ins C [])) (fun d G2 => d = .non ∧ Q (.ref p) G2) E) := by
  obtain ⟨a, fd, ps, j, hj, hok, hM, hm, hbind⟩ := oc.tb.mke C F hF
  obtain ⟨ds, dvs, hb, hv, hd⟩ := hbind 0 h1 h2
  refine PE.imp (t := tMakeS (He.ga X.K C) (spOf X.K F) dvs (WE W) tNil) ⟨fun pins s σ H Q I h => ?_⟩ (mk_imp (wa := fun _ G Q _ => Q [] G) hd fun _ _ _ ⟨ρ, G, Qa, Ea, hE, hG, hw, hp, hx⟩ => hp [] G [] _ .refl hG .nil hw)
  refine wpAny_Call_Name_kw (ld_glob I hg hm ?_ hdb)
  exact PySem.W.callWith_K0 I.kIn hM.kp (run_makeSD (us := []) hM hok (oc.room.mono hj) hb hv (passAt oc.tk σ) I .nil h)
end
end Av
set_option Elab.async false
set_option linter.all false
set_option maxRecDepth 100000
set_option maxHeartbeats 4000000
/-! # AvD: dicts -/
namespace Av
open PySem PySem.Spec PyProof.Rows L2
variable [Tb]
theorem keyD_rep {K : PySem.W.Frag} {H : Hp} {v : V} {d : Dat} {x : Key} (r : Rep K H v d) (e : keyD d = some x) : v = kV x := by
  cases d with
  | int i => cases rep_i r; cases e; rfl
  | str i => cases rep_s r; cases e; rfl
  | _ => cases e
theorem kd_look {K : PySem.W.Frag} {H : Hp} {x : Key} : ∀ {vk : List (Key × V)} {kvs : List (Key × Dat)}, KRel K H vk kvs → (∀ d, lookD kvs x = some d → ∃ v, valV vk x = some v ∧ Rep K H v d) ∧ (lookD kvs x = none → valV vk x = none)
  | _, _, .nil => ⟨(fun d e => by cases e), fun _ => rfl⟩
  | (k, v) :: vk, (k', d') :: kvs, .cons h r => by
    obtain ⟨rfl, h⟩ := h
    obtain ⟨i1, i2⟩ := kd_look (x := x) r
    by_cases q : k = x
    · have e1 : lookD ((k, d') :: kvs) x = some d' := by simp [lookD, List.find?_cons, q]
      have e2 : valV ((k, v) :: vk) x = some v := valV_pos q
      rw [e1, e2]
      exact ⟨(fun d e => by cases e; exact ⟨v, rfl, h⟩), fun e => by cases e⟩
    · have e1 : lookD ((k, d') :: kvs) x = lookD kvs x := by simp [lookD, List.find?_cons, q]
      have e2 : valV ((k, v) :: vk) x = valV vk x := valV_neg q
      rw [e1, e2]
      exact ⟨i1, i2⟩
theorem kd_any {K : PySem.W.Frag} {H : Hp} {x : Key} : ∀ {vk : List (Key × V)} {kvs : List (Key × Dat)}, KRel K H vk kvs → (vk.any fun q => decide (q.1 = x)) = (kvs.any fun q => decide (q.1 = x))
  | _, _, .nil => rfl
  | (k, v) :: vk, (k', d') :: kvs, .cons h r => by
    obtain ⟨rfl, h⟩ := h
    rw [List.any_cons, List.any_cons, kd_any r]
theorem kd_map {K : PySem.W.Frag} {H : Hp} {x : Key} {v : V} {d : Dat} (h : Rep K H v d) : ∀ {vk : List (Key × V)} {kvs : List (Key × Dat)}, KRel K H vk kvs → KRel K H (vk.map fun q => if q.1 = x then (q.1, v) else q) (kvs.map fun q => if q.1 = x then (q.1, d) else q)
  | _, _, .nil => .nil
  | (k, u) :: vk, (k', e) :: kvs, .cons h1 r => by
    obtain ⟨rfl, h2⟩ := h1
    rw [List.map_cons, List.map_cons]
    refine .cons ?_ (kd_map h r)
    by_cases q : k = x
    · simp only [q, if_true]; exact ⟨trivial, h⟩
    · simp only [q, if_false]; exact ⟨trivial, h2⟩
theorem kd_app {K : PySem.W.Frag} {H : Hp} {x : Key} {v : V} {d : Dat} (h : Rep K H v d) : ∀ {vk : List (Key × V)} {kvs : List (Key × Dat)}, KRel K H vk kvs → KRel K H (vk ++ [(x, v)]) (kvs ++ [(x, d)])
  | _, _, .nil => .cons ⟨rfl, h⟩ .nil
  | _ :: _, _ :: _, .cons h1 r => .cons h1 (kd_app h r)
theorem kd_put {K : PySem.W.Frag} {H : Hp} {x : Key} {v : V} {d : Dat} (h : Rep K H v d) {vk : List (Key × V)} {kvs : List (Key × Dat)} (r : KRel K H vk kvs) : KRel K H (putK vk x v) (putKD kvs x d) := by
  unfold putK putKD
  rw [kd_any r]
  split
  · exact kd_map h r
  · exact kd_app h r
theorem kd_merge {K : PySem.W.Frag} {H : Hp} : ∀ {vm : List (Key × V)} {more : List (Key × Dat)} {vk : List (Key × V)} {kvs : List (Key × Dat)}, KRel K H vm more → KRel K H vk kvs → KRel K H (mergeK vk vm) (mergeD kvs more)
  | _, _, _, _, .nil, r => r
  | (k, v) :: vm, (k', d) :: more, vk, kvs, .cons h1 r1, r => by
    obtain ⟨rfl, h⟩ := h1
    show KRel K H (mergeK (putK vk k v) vm) (mergeD (putKD kvs k d) more)
    exact kd_merge r1 (kd_put h r)
theorem kd_len {K : PySem.W.Frag} {H : Hp} : ∀ {vk : List (Key × V)} {kvs : List (Key × Dat)}, KRel K H vk kvs → vk.length = kvs.length
  | _, _, .nil => rfl
  | _, _, .cons _ r => congrArg (· + 1) (kd_len r)
theorem RelG.dk {K : PySem.W.Frag} {G : AG} {H : Hp} {p : Addr} {kvs : List (Key × Dat)} (g : RelG K G H) (e : G p = some (.dk kvs)) : ∃ vk, H p = some (.dK vk) ∧ KRel K H vk kvs := g.g p _ e
theorem dixW_inv {x y : Dat} {G : AG} {Q : AQ} (h : dixW x y G Q) : ∃ p kvs k v, x = .ref p ∧ G p = some (.dk kvs) ∧ keyD y = some k ∧ lookD kvs k = some v ∧ Q v G := by
  cases x with
  | ref p => obtain ⟨kvs, k, v, h⟩ := h; exact ⟨p, kvs, k, v, rfl, h⟩
  | _ => exact False.elim h
theorem dgetW_inv {x z y : Dat} {G : AG} {Q : AQ} (h : dgetW x z y G Q) : ∃ p kvs k, x = .ref p ∧ G p = some (.dk kvs) ∧ keyD y = some k ∧ Q ((lookD kvs k).getD z) G := by
  cases x with
  | ref p => obtain ⟨kvs, k, h⟩ := h; exact ⟨p, kvs, k, rfl, h⟩
  | _ => exact False.elim h
theorem isDk_inv {x : Dat} {G : AG} (h : isDk G x) : ∃ p kvs, x = .ref p ∧ G p = some (.dk kvs) := by
  cases x with
  | ref p => obtain ⟨kvs, h⟩ := h; exact ⟨p, kvs, rfl, h⟩
  | _ => exact False.elim h
theorem dsetW_inv {x k v : Dat} {G : AG} {Q : AG → Prop} (h : dsetW x k v G Q) : ∃ p kvs y, x = .ref p ∧ G p = some (.dk kvs) ∧ keyD k = some y ∧ kvs.length < sizeLine ∧ Q (gu G p (.dk (putKD kvs y v))) := by
  cases x with
  | ref p => obtain ⟨kvs, y, h⟩ := h; exact ⟨p, kvs, y, rfl, h⟩
  | _ => exact False.elim h
section
variable {X : Cx} {W : WX} {Γ : Gam} {k : Nat} {a b c o e f : Expr} {pos p apos : Pos} {w1 w2 w3 : Env' → AG → AQ → AX → Prop}
theorem Oc.u1 (oc : Oc X W Γ k) : X.A.units + 1 < cLine := Nat.lt_of_le_of_lt (Nat.add_le_add_left (by decide) _) oc.room.units
theorem se_dix (oc : Oc X W Γ k) (hs : NoSl b) (h1 : PE X a (LfE X.K W w1)) (h2 : PE X b (LfE X.K W w2)) : PE X (.Subscript a b pos) (LfE X.K W fun ρ G Q E => w1 ρ G (fun x G1 => w2 ρ G1 (fun y G2 => dixW x y G2 Q) E) E) := by
  refine PE.imp (pe_dget oc.u1 h1 h2 hs) ?_
  rintro σ H Q ⟨ρ, G, Qa, Ea, hE, hG, hw, hp, hx⟩
  refine ⟨ρ, G, _, Ea, hE, hG, hw, fun d G1 v H1 f g r1 q => ⟨ρ, G1, _, Ea, hE.mono (f.stab hG), g, q, fun e G2 u H2 f2 g2 r2 q2 => ?_, hx.fra f⟩, hx⟩
  obtain ⟨p, kvs, kk, dv, rfl, k1, k2, k3, k4⟩ := dixW_inv q2
  cases rep_r r1
  cases keyD_rep r2 k2
  obtain ⟨vk, k5, k6⟩ := g2.dk k1
  obtain ⟨v', k7, k8⟩ := (kd_look k6).1 dv k3
  exact ⟨p, v', rfl, .inl ⟨vk, kk, .inl k5, rfl, k7.symm⟩, hp _ _ _ _ (f.trans f2) g2 k8 k4⟩
theorem isD_of {K : PySem.W.Frag} {G : AG} {H : Hp} {p : Addr} {kvs : List (Key × Dat)} (g : RelG K G H) (e : G p = some (.dk kvs)) : IsD H p := by
  obtain ⟨vk, h, _⟩ := g.dk e
  exact .inl ⟨vk, .inl h⟩
theorem dget_ok {K : PySem.W.Frag} {G : AG} {H : Hp} {p : Addr} {y : V} {dy z : Dat} {vz : V} {kvs : List (Key × Dat)} {kk : Key} (g : RelG K G H) (k1 : G p = some (.dk kvs)) (ry : Rep K H y dy) (k2 : keyD dy = some kk) (rz : Rep K H vz z) :
    ∃ ov, DGet H p y ov ∧ Rep K H (ov.getD vz) ((lookD kvs kk).getD z) := by
  cases keyD_rep ry k2
  obtain ⟨vk, k5, k6⟩ := g.dk k1
  refine ⟨valV vk kk, .inl ⟨vk, kk, .inl k5, rfl, rfl⟩, ?_⟩
  cases e : lookD kvs kk with
  | none => rw [(kd_look k6).2 e]; exact rz
  | some d =>
    obtain ⟨v', k7, k8⟩ := (kd_look k6).1 d e
    rw [k7]
    exact k8
/-- d.update(e) -/
theorem d_update {X : Cx} {pins : List (Addr × Obj)} {σ : L2.St} {H : Hp} {s : Shared} {A : Around} {E : Value → Shared → Prop} {a b : Addr} {kvs more : List (Key × V)} {Q : Value → Shared → Prop} (I : Inv X pins σ H s) (e : H a = some (.dK kvs)) (e2 : H b = some (.dK more)) (hne : a ≠ b) (hz : kvs.length + more.length ≤ sizeLine)
    (h : ∀ s', Inv X pins σ (upd H a (.dK (mergeK kvs more))) s' → Q .none s') : wpAny (model X.prog X.w) A (call (.builtin "dict.update") [.ref a, .ref b]) Q E s := by
  obtain ⟨z, hd, vs, rel, dd⟩ := dk_of I.hok e
  obtain ⟨z2, hd2, vs2, rel2, dd2⟩ := dk_of I.hok e2
  refine call_meetsIn PySem.F.slot_dict_update dd.typeIs PySem.F.entry_dict_update (PySem.F.args_dict_update_2 _ _) (meets_dict_update (mixKind X.prog X.w) a b hne hd2) ⟨vs, vs2, dd, dd2, by rw [← rel.length, ← rel2.length]; exact hz, fun h' dd' dd2' hs => h _ ?_⟩
  have he : ∃ q, h'.get? a = some q := let ⟨q, _, _, hq, _⟩ := dd'; ⟨q, hq⟩
  have hl := length_mergeK more kvs
  exact d_write (t' := s.toks) I (by rw [e]; exact True.intro) hs he (dk_new (by omega) hd (KV.merge rel2 rel) dd')
def rDUpd : V → List V → Hp → VK → Prop := fun x vs H Q => ∃ (a b : Addr) (kvs more : List (Key × V)), x = .ref a ∧ vs = [.ref b] ∧ H a = some (.dK kvs) ∧ H b = some (.dK more) ∧ a ≠ b ∧ kvs.length + more.length ≤ sizeLine ∧ Q .non (upd H a (.dK (mergeK kvs more)))
theorem mtd_update {X : Cx} : MtR X "dict.update" rDUpd := by
  intro pins s σ H x vs v us Q I rx rv h
  obtain ⟨a, b, kvs, more, ex, ev, e, e2, hne, hz, q⟩ := h
  subst ex
  subst ev
  obtain rfl : v = Value.ref a := rx
  obtain ⟨u, rfl, ru⟩ := rv.one
  obtain rfl : u = Value.ref b := ru
  exact d_update I e e2 hne hz fun s' I' => ⟨.non, _, I', rfl, q⟩
theorem dupdW_inv {x y : Dat} {G : AG} {Q : AQ} (h : dupdW x y G Q) : ∃ p b kvs more, x = .ref p ∧ y = .ref b ∧ G p = some (.dk kvs) ∧ G b = some (.dk more) ∧ p ≠ b ∧ kvs.length + more.length ≤ sizeLine ∧ Q .non (gu G p (.dk (mergeD kvs more))) := by
  unfold dupdW at h
  split at h
  · obtain ⟨kvs, more, h⟩ := h
    exact ⟨_, _, kvs, more, rfl, rfl, h⟩
  · exact False.elim h
theorem se_dupd (oc : Oc X W Γ k) (h1 : PE X o (LfE X.K W w1)) (h2 : PE X e (LfE X.K W w2)) (hbase : attributeBase o "update" X.env (eval o X.env) = eval o X.env)
    (hfew : ((backTo pos (starEach [e] X.env)).all (fun x => !x.1) && (backToKw pos (keywordEach [] X.env)).all (fun x => x.1.isSome) && decide (([e] : List Expr).length + ([] : List Keyword).length + (if ([] : List Keyword).isEmpty then 0 else 1) < 30)) = true)
    (hline : (apos.endLine == pos.line) = true) (hs : starEach [e] X.env = (false, eval e X.env) :: starEach [] X.env) :
    PE X (.Call (.Attribute o "update" apos) [e] [] pos) (LfE X.K W fun ρ G Q E => w1 ρ G (fun x G1 => isDk G1 x ∧ w2 ρ G1 (fun y G2 => dupdW x y G2 Q) E) E) := by
  refine PE.imp (pe_bm PySem.F.plainAttrs_dict PySem.F.slot_dict_update PySem.F.type_dict_update mtd_update h1 (pa_cons h2 pa_nil hs) hbase hfew hline hs (by rfl)) ?_
  rintro σ H Q ⟨ρ, G, Qa, Ea, hE, hG, hw, hp, hx⟩
  refine ⟨ρ, G, _, Ea, hE, hG, hw, fun d G1 v H1 f g r1 q => ?_, hx⟩
  obtain ⟨p, kv0, rfl, k0⟩ := isDk_inv q.1
  cases rep_r r1
  obtain ⟨vk0, h0, _⟩ := g.dk k0
  refine ⟨?_, ρ, G1, _, Ea, hE.mono (f.stab hG), g, q.2, fun e G2 u H2 f2 g2 r2 q2 => ?_, hx.fra f⟩
  · exact .inr (.inr (.inl ⟨rfl, .inl ⟨vk0, h0⟩⟩))
  obtain ⟨p', b, kvs, more, e1, e2, k1, k2, k3, k4, k5⟩ := dupdW_inv q2
  cases e1
  subst e2
  cases rep_r r2
  obtain ⟨vk, h3, h4⟩ := g2.dk k1
  obtain ⟨vm, h5, h6⟩ := g2.dk k2
  have f3 : Fra G2 H2 (gu G2 p (.dk (mergeD kvs more))) (upd H2 p (.dK (mergeK vk vm))) := .set k1
  refine ⟨p, b, vk, vm, rfl, rfl, h3, h5, k3, by rw [kd_len h4, kd_len h6]; exact k4, hp _ _ _ _ ((f.trans f2).trans f3) (g2.set k1 (show AOk X.K _ p (.dk (mergeD kvs more)) from ⟨_, upd_same, KRel.mono (g2.stabSet (o := .dK (mergeK vk vm)) k1) (kd_merge h6 h4)⟩)) .non k5⟩
theorem se_dget1 (oc : Oc X W Γ k) (h1 : PE X o (LfE X.K W w1)) (h2 : PE X e (LfE X.K W w2)) (m : M1 X o "get" apos e pos) : PE X (.Call (.Attribute o "get" apos) [e] [] pos) (LfE X.K W fun ρ G Q E => w1 ρ G (fun x G1 => isDk G1 x ∧ w2 ρ G1 (fun y G2 => dgetW x .non y G2 Q) E) E) := by
  refine PE.imp (pe_dget1 oc.u1 h1 h2 m) ?_
  rintro σ H Q ⟨ρ, G, Qa, Ea, hE, hG, hw, hp, hx⟩
  refine ⟨ρ, G, _, Ea, hE, hG, hw, fun d G1 v H1 f g r1 q => ?_, hx⟩
  obtain ⟨p, kv0, rfl, k0⟩ := isDk_inv q.1
  cases rep_r r1
  refine ⟨p, rfl, isD_of g k0, ρ, G1, _, Ea, hE.mono (f.stab hG), g, q.2, fun e G2 u H2 f2 g2 r2 q2 => ?_, hx.fra f⟩
  obtain ⟨p', kvs, kk, e1, k1, k2, k4⟩ := dgetW_inv q2
  cases e1
  obtain ⟨ov, h3, h4⟩ := dget_ok g2 k1 r2 k2 (.non : Rep X.K H2 .non .non)
  exact ⟨ov, h3, hp _ _ _ _ (f.trans f2) g2 h4 k4⟩
theorem se_dget2 (oc : Oc X W Γ k) (h1 : PE X o (LfE X.K W w1)) (h2 : PE X e (LfE X.K W w2)) (h3 : PE X f (LfE X.K W w3)) (m : M2 X o "get" apos e f pos) :
    PE X (.Call (.Attribute o "get" apos) [e, f] [] pos) (LfE X.K W fun ρ G Q E => w1 ρ G (fun x G1 => isDk G1 x ∧ w2 ρ G1 (fun y G2 => w3 ρ G2 (fun z G3 => dgetW x z y G3 Q) E) E) E) := by
  refine PE.imp (pe_dget2 oc.u1 h1 h2 h3 m) ?_
  rintro σ H Q ⟨ρ, G, Qa, Ea, hE, hG, hw, hp, hx⟩
  refine ⟨ρ, G, _, Ea, hE, hG, hw, fun d G1 v H1 f g r1 q => ?_, hx⟩
  obtain ⟨p, kv0, rfl, k0⟩ := isDk_inv q.1
  cases rep_r r1
  refine ⟨p, rfl, isD_of g k0, ρ, G1, _, Ea, hE.mono (f.stab hG), g, q.2, fun e G2 u H2 f2 g2 r2 q2 => ⟨ρ, G2, _, Ea, hE.mono ((f.trans f2).stab hG), g2, q2, fun e3 G3 t H3 f3 g3 r3 q3 => ?_, hx.fra (f.trans f2)⟩, hx.fra f⟩
  obtain ⟨p', kvs, kk, e1, k1, k2, k4⟩ := dgetW_inv q3
  cases e1
  obtain ⟨ov, h3, h4⟩ := dget_ok g3 k1 (r2.mono (f3.stab g2)) k2 r3
  exact ⟨ov, h3, hp _ _ _ _ ((f.trans f2).trans f3) g3 h4 k4⟩
/-! ### displays -/
/-- keys and values, one behind another -/
inductive Alt : List (Option Expr) → List Expr → List Expr → Prop
  | nil : Alt [] [] []
  | cons {k v : Expr} {ks : List (Option Expr)} {vs xs : List Expr} : Alt ks vs xs → Alt (some k :: ks) (v :: vs) (k :: v :: xs)
def DspOk (X : Cx) (pos : Pos) (ks : List (Option Expr)) (vs : List Expr) (t : L2.St → Hp → (List (V × V) → Hp → Prop) → Prop) : Prop :=
  ∀ (pins : List (Addr × Obj)) (s : Shared) (σ : L2.St) (H : Hp) (Q : List (V × V) → Hp → Prop), Inv X pins σ H s → t σ H Q →
    wpAny (model X.prog X.w) X.A (evalPairs (pairTrees ks vs X.env pos)) (fun us s' => ∃ ps H', Inv X pins σ H' s' ∧ VV ps us ∧ Q ps H') X.xe s
def pairUp : List V → List (V × V)
  | k :: v :: r => (k, v) :: pairUp r
  | _ => []
theorem dsp_nil : DspOk X pos [] [] fun _ H Q => Q [] H := fun pins s σ H Q I h => pairTrees_nil_walk ⟨[], H, I, .nil, h⟩
theorem dsp_cons {ks : List (Option Expr)} {vs : List Expr} {tk tv : TE} {t : L2.St → Hp → (List (V × V) → Hp → Prop) → Prop} (hk : PE X a tk) (hv : PE X b tv) (hr : DspOk X pos ks vs t) :
    DspOk X pos (some a :: ks) (b :: vs) fun σ H Q => tk σ H fun x H1 => tv σ H1 fun y H2 => t σ H2 fun ps H3 => Q ((x, y) :: ps) H3 := fun pins s σ H Q I h =>
  pairTrees_cons_walk (thn (hk.run pins s σ H _ I h) fun u s1 ⟨x, H1, I1, rx, q1⟩ => thn (hv.run pins s1 σ H1 _ I1 q1) fun w2 s2 ⟨y, H2, I2, ry, q2⟩ =>
    thn (hr pins s2 σ H2 _ I2 q2) fun ws s3 ⟨ps, H3, I3, rel, q3⟩ => ⟨(x, y) :: ps, H3, I3, .cons ⟨rx, ry⟩ rel, q3⟩)
theorem pe_dsp {keys : List (Option Expr)} {values : List Expr} {t : L2.St → Hp → (List (V × V) → Hp → Prop) → Prop} (h : DspOk X pos keys values t) (hall : keys.all (·.isSome) = true) (hl : keys.length = values.length) (h0 : keys ≠ []) (h15 : keys.length ≤ 15) :
    PE X (.Dict keys values pos) (fun σ H Q => ∀ p, H p = none → t σ (upd H p (.dK [])) fun ps H2 => H2 p = some (.dK []) ∧ ∃ kvs : List (Key × V), ps = kvs.map (fun kv => (kV kv.1, kv.2)) ∧ kvs.length ≤ 15 ∧ Q (.ref p) (upd H2 p (.dK (mergeK [] kvs)))) := by
  refine ⟨fun pins s σ H Q I q => ?_⟩
  have fr := I.hok.fresh (Nat.le_refl s.heap.objs.size)
  have J := I.laid (a := s.heap.objs.size) (o := .dK []) (h' := s.heap.push { cls := .type "dict", data := .dict #[] }) (t' := s.toks) (fun _ _ z => Heap.get?_push_of_some _ z) (Nat.le_refl _) (dk_empty s.heap I.big)
  refine wpAny_Dict_walk (knd := mixKind X.prog X.w) hall hl h0 h15 (thn (h pins _ σ _ _ J (q _ fr)) fun ws s2 ⟨ps, H2, I2, rel, e, kvs, ep, lk, q2⟩ => ?_)
  subst ep
  obtain ⟨rs, cc, rk⟩ := carries_of (P := X.prog) (w := X.w) rel
  obtain ⟨zz, hd, vs0, r0, dd⟩ := dk_of I2.hok e
  cases r0
  refine ⟨rs, cc, dd, fun h' dd' hs => ⟨.ref s.heap.objs.size, _, ?_, rfl, q2⟩⟩
  have hz : (mergeK [] kvs).length ≤ sizeLine := by
    have h1 := length_mergeK kvs []
    rw [List.length_nil] at h1
    rw [sizeLine_eq]; omega
  have he : ∃ q, h'.get? s.heap.objs.size = some q := let ⟨q, _, _, hq, _⟩ := dd'; ⟨q, hq⟩
  exact d_write I2 (by rw [e]; exact True.intro) hs he (dk_new hz hd (rk.merge .nil) dd')
theorem pairsOf_rep {K : PySem.W.Frag} {H : Hp} : ∀ {ds : List Dat} {kvs : List (Key × Dat)} {vs : List V}, pairsOf ds = some kvs → Reps K H vs ds → ∃ vk : List (Key × V), pairUp vs = vk.map (fun kv => (kV kv.1, kv.2)) ∧ KRel K H vk kvs
  | [], _, _, e, .nil => by cases e; exact ⟨[], rfl, .nil⟩
  | [_], _, _, e, _ => by cases e
  | k :: d :: r, kvs, _, e, .cons h1 (.cons h2 h3) => by
    unfold pairsOf at e
    split at e
    · rename_i x kv2 e1 e2
      cases e
      obtain ⟨vk, k1, k2⟩ := pairsOf_rep e2 h3
      cases keyD_rep h1 e1
      exact ⟨(x, _) :: vk, by show _ :: pairUp _ = _; rw [k1]; rfl, .cons ⟨rfl, h2⟩ k2⟩
    · cases e
theorem Soft.dK {xs : List (Key × V)} : Soft (.dK xs) := ⟨fun _ z => (by cases z), fun _ _ z => (by cases z), fun _ z => (by cases z), fun _ z => (by cases z), fun _ _ z => by cases z⟩
/-- the pairs of a display as one list of arguments -/
def LfD (K : PySem.W.Frag) (W : WX) (w : Env' → AG → (List Dat → AG → Prop) → AX → Prop) : L2.St → Hp → (List (V × V) → Hp → Prop) → Prop := fun σ H Q =>
  ∃ ρ G Qa Ea, RelE K H ρ σ ∧ RelG K G H ∧ w ρ G Qa Ea ∧ (∀ ds G' vs H', Fra G H G' H' → RelG K G' H' → Reps K H' vs ds → Qa ds G' → Q (pairUp vs) H') ∧ PostX K G H Ea fun c dx H' => W c dx σ H'
theorem sd_nil : DspOk X pos [] [] (LfD X.K W fun _ G Q _ => Q [] G) := fun pins s σ H Q I ⟨ρ, G, Qa, Ea, hE, hG, hw, hp, hx⟩ => dsp_nil pins s σ H Q I (hp [] G [] H .refl hG .nil hw)
theorem sd_cons {ks : List (Option Expr)} {vs : List Expr} {wa : Env' → AG → (List Dat → AG → Prop) → AX → Prop} (h1 : PE X a (LfE X.K W w1)) (h2 : PE X b (LfE X.K W w2)) (h3 : DspOk X pos ks vs (LfD X.K W wa)) :
    DspOk X pos (some a :: ks) (b :: vs) (LfD X.K W fun ρ G Q E => w1 ρ G (fun x G1 => w2 ρ G1 (fun y G2 => wa ρ G2 (fun ds G3 => Q (x :: y :: ds) G3) E) E) E) := fun pins s σ H Q I ⟨ρ, G, Qa, Ea, hE, hG, hw, hp, hx⟩ =>
  dsp_cons h1 h2 h3 pins s σ H Q I ⟨ρ, G, _, Ea, hE, hG, hw, fun d G1 v H1 f g r q => ⟨ρ, G1, _, Ea, hE.mono (f.stab hG), g, q, fun d2 G2 u H2 f2 g2 r2 q2 => ⟨ρ, G2, _, Ea, hE.mono ((f.trans f2).stab hG), g2, q2,
    fun ds G3 ws H3 f3 g3 r3 q3 => hp _ _ _ _ ((f.trans f2).trans f3) g3 (.cons (r.mono ((f2.trans f3).stab g)) (.cons (r2.mono (f3.stab g2)) r3)) q3, hx.fra (f.trans f2)⟩, hx.fra f⟩, hx⟩
theorem se_dlit {keys : List (Option Expr)} {values : List Expr} {wa : Env' → AG → (List Dat → AG → Prop) → AX → Prop} (h : DspOk X pos keys values (LfD X.K W wa)) (hall : keys.all (·.isSome) = true) (hl : keys.length = values.length) (h0 : keys ≠ []) (h15 : keys.length ≤ 15) :
    PE X (.Dict keys values pos) (LfE X.K W fun ρ G Q E => wa ρ G (fun ds G1 => dlitW ds G1 Q) E) := by
  refine PE.imp (pe_dsp h hall hl h0 h15) ?_
  rintro σ H Q ⟨ρ, G, Qa, Ea, hE, hG, hw, hp, hx⟩ p hp0
  have f0 : Fra G H G (upd H p (.dK [])) := .newT hp0
  refine ⟨ρ, G, _, Ea, hE.mono (.new hp0), hG.newT hp0, hw, fun ds G1 vs H1 f g r q => ?_, hx.fra f0⟩
  have n0 : G p = none := hG.free hp0
  obtain ⟨e1, n1⟩ := f p _ upd_same (fun _ z => by cases z) n0
  obtain ⟨kvs, k1, k2, k3⟩ := q
  obtain ⟨vk, k4, k5⟩ := pairsOf_rep k1 r
  refine ⟨e1, vk, k4, by rw [kd_len k5]; exact k2, hp (.ref p) (gu G1 p (.dk (mergeD [] kvs))) (.ref p) _ (fun a o q t n => ?_) ⟨fun a o q => ?_, tabs_soft g.t e1 Soft.dK⟩ (.ref p) (k3 p n1)⟩
  · have d : a ≠ p := fun z => by rw [z, hp0] at q; cases q
    obtain ⟨h6, n6⟩ := (f0.trans f) a o q t n
    exact ⟨by rw [upd_ne d]; exact h6, by rw [gu_ne d]; exact n6⟩
  · by_cases ha : a = p
    · subst ha
      rw [gu_same] at q
      cases q
      exact ⟨_, upd_same, KRel.mono (.mut e1 Soft.dK) (kd_merge k5 .nil)⟩
    · rw [gu_ne ha] at q
      exact (g.g a o q).mono (.mut e1 Soft.dK) (upd_ne ha)
theorem se_dlit0 : PE X (.Dict [] [] pos) (LfE X.K W fun _ G Q _ => dlitW [] G Q) := by
  refine PE.imp pe_dnewK ?_
  rintro σ H Q ⟨ρ, G, Qa, Ea, hE, hG, ⟨kvs, k1, _, k3⟩, hp, hx⟩ p hp0
  cases k1
  exact hp (.ref p) (gu G p (.dk [])) (.ref p) _ (.new hp0) (hG.new hp0 (show AOk X.K _ p (.dk []) from ⟨[], upd_same, .nil⟩)) (.ref p) (k3 p (hG.free hp0))
end
end Av
set_option Elab.async false
set_option linter.all false
set_option maxRecDepth 100000
set_option maxHeartbeats 4000000
/-! # AvX: raise -/
namespace Av
open PySem PySem.Spec PyProof.Rows L2
variable [Tb]
section
variable {X : Cx} {W : WX} {Γ : Gam} {k : Nat} {e : Expr} {es : List Expr} {pos p : Pos} {wa : Env' → AG → (List Dat → AG → Prop) → AX → Prop}
/-- C(..), to be raised -/
theorem mk_raise (oc : Oc X W Γ k) {C : Str} {fl : List Str} (hF : Γ.xc C = some fl) (h0 : fl ≠ []) (hg : Gl X C) (hdb : (C == ("__debug__" : Str)) = false) (ha : PA X (e :: es) (LfA X.K W wa))
    (hst : starEach (e :: es) X.env = (false, eval e X.env) :: starEach es X.env) (hpl : (backTo pos (starEach es X.env)).any (·.1) = false) :
    PMk X (.Call (.Name C p) (e :: es) [] pos) (fun σ H Q => ∃ ρ G Ex, RelE X.K H ρ σ ∧ RelG X.K G H ∧ wa ρ G (fun ds G1 => ds.length = fl.length ∧ Ex C (fl.zip ds).reverse G1) Ex ∧ (PostX X.K G H Ex Q) ∧ PostX X.K G H Ex fun c dx H' => W c dx σ H') := by
  obtain ⟨hm, hc⟩ := oc.tb.xc C fl hF
  rcases hc with ⟨h, _⟩ | ⟨_, h9, hO, a, fd, ps, j, hj, hi, ht, hok, hb⟩
  · exact absurd h h0
  have base := pmk_oex (X := X) (x := C) (p := p) (pos := pos) (dvs := []) (ds := []) hO hi ht hok (oc.room.mono hj) hb .nil (passes_call (X := X) (W := fun _ _ _ _ => False) (fun _ _ ⟨_, _, _, _, _, _, _, _, _, _, _, _, _, _, _, _, w⟩ => False.elim w) fun _ _ _ _ z => z) hg hm ha hdb hst hpl
  intro pins s σ H Q I ⟨ρ, G, Ex, hE, hG, hw, hq, hx⟩
  refine base pins s σ H Q I ⟨ρ, G, _, Ex, hE, hG, hw, fun ds G1 vs H1 f g r q => ?_, hx⟩
  have lv : vs.length = fl.length := by rw [r.length]; exact q.1
  refine ⟨by omega, fun a hn => ⟨a, vs, by simp, lv, upd_same, fun d hd hda => ⟨rfl, d, (fl.zip vs).reverse, upd_same, by rw [upd_ne hda]; exact upd_same, ?_, ?_⟩⟩⟩
  · rw [upd_ne hda] at hd; exact hd
  · have hd1 : H1 d = none := by rw [upd_ne hda] at hd; exact hd
    have e1 : upd (del (upd (upd (upd H1 a (exo a (He.ga X.K C) none)) d (exd d (fl.zip vs).reverse)) a (exo a (He.ga X.K C) (some d))) a) d (.xd (fl.zip vs).reverse) = upd H1 d (.xd (fl.zip vs).reverse) := by
      funext b
      unfold upd del
      by_cases h1 : b = d
      · simp [h1]
      · by_cases h2 : b = a
        · subst h2; simp [h1, hn]
        · simp [h1, h2]
    rw [e1]
    exact hq C _ G1 (some d) _ (f.trans (.newT hd1)) (g.newT hd1) ⟨_, upd_same, kr_rev (kr_zip (r.mono (.new hd1)))⟩ q.2
theorem mk_raise0 (oc : Oc X W Γ k) {C : Str} (hF : Γ.xc C = some []) (hg : Gl X C) (hdb : (C == ("__debug__" : Str)) = false) :
    PMk X (.Call (.Name C p) [] [] pos) (fun _ H Q => ∃ G Ex, RelG X.K G H ∧ Ex C [] G ∧ PostX X.K G H Ex Q) := by
  obtain ⟨hm, hc⟩ := oc.tb.xc C [] hF
  rcases hc with ⟨_, h1, h2, h3, h4⟩ | ⟨h, _⟩
  · intro pins s σ H Q I ⟨G, Ex, hG, hw, hq⟩
    exact pmk_bare F.excBase_ValueError h1 hm h2 (raises_own h3 h4) hg hdb pins s σ H Q I (hq C [] G none H .refl hG rfl hw)
  · exact absurd rfl h
end
end Av
set_option Elab.async false
set_option linter.all false
set_option maxRecDepth 100000
set_option maxHeartbeats 4000000
/-! # AvRv: t[::-1] -/
namespace Av
open PySem PySem.Spec PyProof.Rows L2 HT
section
variable {prog : Program} {w : World} {A : Around} {E : Value → Shared → Prop} {s : Shared}
theorem adjust_rev (n : Nat) : Builtin.Slice.sliceAdjust none none (-1) (n : Int) = ((n : Int) - 1, -1) := by
  unfold Builtin.Slice.sliceAdjust
  have h1 : ((-1 : Int) < 0) := by decide
  simp only [h1, if_true]
theorem places_rev (n : Nat) : Builtin.Slice.slicePlaces ((n : Int) - 1) (-1) (-1) = n := by
  unfold Builtin.Slice.slicePlaces
  have h1 : ¬ ((-1 : Int) > 0) := by decide
  have h2 : (- -1 : Int) = 1 := by decide
  simp only [h1, if_false, h2, Int.ediv_one]
  split <;> omega
theorem sliceApplied_rev {sl : Addr} {vs : Value} {n : Nat} {Q : Int × Int × Nat → Shared → Prop} (hs : s.heap.IsSliceOf sl .none .none vs) (ps : IsPart vs (some (-1)))
    (h : Q ((n : Int) - 1, -1, n) s) : wpAny (model prog w) A (Builtin.Slice.sliceApplied (.ref sl) (pure (n : Int))) Q E s := by
  obtain ⟨os, hos, hcs, hds⟩ := id hs
  unfold Builtin.Slice.sliceApplied Builtin.Slice.sliceFields
  refine wpAny_bind (wpAny_bind (wpAny_field hos hds (x := .none) rfl (wpAny_bind (wpAny_field hos hds (x := .none) rfl (wpAny_bind (wpAny_field hos hds (x := vs) rfl (wpAny_pure ?_)))))))
  refine wpAny_bind (slicePart_ ps ?_)
  show wpAny _ _ (if ((-1 : Int) == 0) = true then _ else _) _ _ s
  rw [if_neg (by decide)]
  refine wpAny_bind (slicePart_none (wpAny_bind (slicePart_none (wpAny_bind (wpAny_pure ?_)))))
  show wpAny _ _ (match Builtin.Slice.sliceAdjust none none (-1) (n : Int) with | (lo, hi) => pure (lo, (-1 : Int), Builtin.Slice.slicePlaces lo hi (-1))) _ _ s
  rw [adjust_rev n]
  show wpAny _ _ (pure ((n : Int) - 1, (-1 : Int), Builtin.Slice.slicePlaces ((n : Int) - 1) (-1) (-1))) _ _ s
  rw [places_rev]
  exact wpAny_pure h
theorem pick_rev (xs : Array Value) : ((List.range xs.size).filterMap fun (m : Nat) => xs[(((xs.size : Nat) : Int) - 1 + (m : Int) * -1).toNat]?).toArray = xs.toList.reverse.toArray := by
  have e : (List.range xs.size).filterMap (fun (m : Nat) => xs[(((xs.size : Nat) : Int) - 1 + (m : Int) * -1).toNat]?) = ((List.range xs.size).map (fun k => xs.size - 1 - k)).filterMap (xs[·]?) := by
    rw [List.filterMap_map]
    have gen : ∀ l : List Nat, (∀ k ∈ l, k < xs.size) → l.filterMap (fun (m : Nat) => xs[(((xs.size : Nat) : Int) - 1 + (m : Int) * -1).toNat]?) = l.filterMap ((xs[·]?) ∘ fun k => xs.size - 1 - k) := by
      intro l
      induction l with
      | nil => intro _; rfl
      | cons k l ih =>
        intro h
        have hk := h k (by simp)
        have : (((xs.size : Nat) : Int) - 1 + (k : Int) * -1).toNat = xs.size - 1 - k := by omega
        rw [List.filterMap_cons, List.filterMap_cons, ih (fun j hj => h j (by simp [hj])), this]
        rfl
    exact gen _ fun k hk => List.mem_range.1 hk
  rw [e, PySem.W.krv_range, List.filterMap_reverse, PySem.W.krv_all]
theorem getItem_tuple_rev {t sl : Addr} {items : Array Value} {vs : Value} {Q : Value → Shared → Prop} (ht : IsTup s.heap t items) (hs : s.heap.IsSliceOf sl .none .none vs) (ps : IsPart vs (some (-1)))
    (h : Q (.ref s.heap.objs.size) { s with heap := s.heap.push { cls := .type "tuple", data := .seq items.toList.reverse.toArray } })
    (hsz : items.size ≤ sizeLine) : wpAny (model prog w) A (getItem (.ref t) (.ref sl)) Q E s := by
  have htake : sizeOk (.seq items.toList.reverse.toArray) := by
    show items.toList.reverse.toArray.size ≤ sizeLine
    rw [List.size_toArray, List.length_reverse, Array.length_toList]
    exact hsz
  obtain ⟨os, hos, hcs, hds⟩ := id hs
  have hTs : s.TypeIs (.ref sl) "slice" := ⟨os, hos, hcs⟩
  unfold getItem
  try with_reducible refine wpAny_holding ?_
  first | refine wpAny_bind (wpAny_pure ?_) | skip
  refine wpAny_bind (wpAny_sequenceKey ht.typeIs (by decide) ?_)
  refine wpAny_bind (wpAny_callSpecial?_slot (name := Str.ofString "__getitem__") ht.typeIs PyProof.Rows.slot_tuple_getitem
    (wpAny_call_entry PyProof.Rows.slot_tuple_getitem ht.typeIs entry_tuple_getitem ?_ (args_tuple_getitem _ _)))
  show wpAny _ _ (Builtin.Tuple.tupleItemsOf (.ref t) >>= _) _ _ s
  refine wpAny_bind (tupleItemsOf_ ht ?_)
  refine wpAny_bind (wpAny_typeOf hTs ?_)
  rw [if_pos (by decide)]
  refine wpAny_bind (sliceApplied_rev hs ps ?_)
  have hno : ¬ ((((items.size : Int) - 1) == 0 && (-1 : Int) == 1 && items.size == items.size) = true) := by
    intro q
    rw [Bool.and_eq_true, Bool.and_eq_true] at q
    exact absurd q.1.2 (by decide)
  show wpAny _ _ (if ((((items.size : Nat) : Int) - 1) == 0 && (-1 : Int) == 1 && items.size == items.size) = true then _ else _) _ _ s
  rw [if_neg hno, pick_rev]
  first
    | exact wpAny_bind (m := Builtin.Tuple.tupleExact _) (wpAny_newObj_type (wpAny_pure ⟨_, rfl, wpAny_pure h⟩) htake)
    | exact wpAny_bind (m := Builtin.Tuple.tupleExact _) (wpAny_newObj_type (wpAny_bind (wpAny_pure (wpAny_pure ⟨_, rfl, wpAny_pure h⟩))) htake)
    | exact wpAny_bind (wpAny_bind (m := Builtin.Tuple.tupleExact _) (wpAny_newObj_type (wpAny_pure (wpAny_pure ⟨_, rfl, wpAny_pure h⟩)) htake))
    | exact wpAny_bind (wpAny_bind (m := Builtin.Tuple.tupleExact _) (wpAny_newObj_type (wpAny_pure ⟨_, rfl, wpAny_pure h⟩) htake))
end
section
variable {X : Cx}
def tRevT (K : PySem.W.Frag) (te : TE) : TE := fun σ H Q => te σ H fun x H1 => ∃ a xs, x = .ref a ∧ SqT K H1 a xs ∧ ∀ p, H1 p = none → Q (.ref p) (upd H1 p (.tup xs.reverse))
theorem pe_revT {e : Expr} {te : TE} {k : Nat} {p1 p2 p3 pos : Pos} (he : PE X e te) : PE X (.Subscript e (.Slice none none (some (.UnaryOp .USub (.Constant (.int 1) k p1) p2)) p3) pos) (tRevT X.K te) := by
  refine ⟨fun pins s σ H Q I h => ?_⟩
  refine Subscript_ (thn (he.run pins s σ H _ I h) fun v s1 ⟨x, H1, I1, r1, q1⟩ => ?_)
  obtain ⟨a, xs, ex, hx, q⟩ := q1
  subst ex
  cases r1
  have hst : PO X (some (.UnaryOp .USub (.Constant (.int 1) k p1) p2)) (tPart (tUn (rU fun i => .int (-i)) (tC (.int 1)))) := po_some (pe_un un_neg pe_int)
  refine wpAny_Slice (thn (po_none.run pins s1 σ H1 (fun o H2 => o = none ∧ H2 = H1) I1 ⟨rfl, rfl⟩) fun vl s2 ⟨l, H2, I2, pl, el, e2⟩ => ?_)
  subst el e2
  refine thn (po_none.run pins s2 σ H2 (fun o H3 => o = none ∧ H3 = H2) I2 ⟨rfl, rfl⟩) fun vu s3 ⟨u, H3, I3, pu, eu, e3⟩ => ?_
  subst eu e3
  refine thn (hst.run pins s3 σ H3 (fun o H4 => o = some (-1) ∧ H4 = H3) I3 ⟨1, rfl, -1, rfl, rfl, rfl⟩) fun vs s4 ⟨o, H4, I4, ps, eo, e4⟩ => ?_
  subst eo e4
  cases pl
  cases pu
  have I5 : Inv X pins σ H4 { s4 with heap := s4.heap.push { cls := .type "slice", data := .fields #[.none, .none, vs] } } := I4.kept (t' := s4.toks) fun b ob q => Heap.get?_push_of_some _ q
  obtain ⟨its, r, ht, hz⟩ := I5.tuple hx
  have hlen := r.length
  show wpAny (model X.prog X.w) X.A (subscriptTail e (.Slice none none (some (.UnaryOp .USub (.Constant (.int 1) k p1) p2)) p3) (.ref a) (.ref s4.heap.objs.size)) (EP X pins σ Q) X.xe { s4 with heap := s4.heap.push { cls := .type "slice", data := .fields #[.none, .none, vs] } }
  refine tail_any (ops := [.ref a, .ref s4.heap.objs.size]) ht.typeIs PyProof.Rows.slot_tuple_getitem.lookup ?_ (by with_unfolding_all rfl)
  refine getItem_tuple_rev ht (Heap.IsSliceOf.new _ .none .none vs) ps ?_ (by rw [List.size_toArray]; omega)
  refine ⟨.ref _, _, I5.laid (t' := s4.toks) (o := .tup xs.reverse) (fun b ob q => Heap.get?_push_of_some _ q) (Nat.le_refl _) ?_, rfl, q _ (I5.hok.fresh (Nat.le_refl _))⟩
  exact ⟨by rw [List.length_reverse]; exact hz, _, r.reverse, IsTup.new _ _⟩
end
end Av
set_option Elab.async false
set_option linter.all false
set_option maxRecDepth 100000
set_option maxHeartbeats 4000000
/-! # AvT: texts, dicts of the module, defs held by local names -/
namespace Av
open PySem PySem.Spec PyProof.Rows L2
variable [Tb]
theorem dkOf_inv {K : PySem.W.Frag} {G : AG} {H : Hp} {v : V} {d : Dat} {kv : List (Key × Dat)} (g : RelG K G H) (r : Rep K H v d) (e : dkOf G d = some kv) : ∃ p vk, v = .ref p ∧ H p = some (.dK vk) ∧ KRel K H vk kv := by
  cases d with
  | ref p =>
    cases rep_r r
    unfold dkOf at e
    cases q : G p with
    | none => simp only [q] at e; cases e
    | some o =>
      cases o with
      | dk kvs => simp only [q] at e; cases e; obtain ⟨vk, h1, h2⟩ := g.dk q; exact ⟨p, vk, rfl, h1, h2⟩
      | _ => simp only [q] at e; cases e
  | _ => cases e
theorem kd_some {K : PySem.W.Frag} {H : Hp} {x : Key} {vk : List (Key × V)} {kvs : List (Key × Dat)} (r : KRel K H vk kvs) : (valV vk x).isSome = (lookD kvs x).isSome := by
  obtain ⟨h1, h2⟩ := kd_look (x := x) r
  cases e : lookD kvs x with
  | none => rw [h2 e]; rfl
  | some d => obtain ⟨v, h3, _⟩ := h1 d e; rw [h3]; rfl
theorem kd_getD {K : PySem.W.Frag} {H : Hp} {x : Key} {vk : List (Key × V)} {kvs : List (Key × Dat)} {z : V} {dz : Dat} (r : KRel K H vk kvs) (rz : Rep K H z dz) : Rep K H ((valV vk x).getD z) ((lookD kvs x).getD dz) := by
  obtain ⟨h1, h2⟩ := kd_look (x := x) r
  cases e : lookD kvs x with
  | none => rw [h2 e]; exact rz
  | some d => obtain ⟨v, h3, h4⟩ := h1 d e; rw [h3]; exact h4
section
variable {X : Cx} {W : WX} {Γ : Gam} {k : Nat} {a b o e : Expr} {es : List Expr} {D : Str} {pos p apos cpos : Pos} {w1 w2 w3 : Env' → AG → AQ → AX → Prop} {wa : Env' → AG → (List Dat → AG → Prop) → AX → Prop}
/-! ### dicts of the module -/
abbrev gopE (n : Bool) : CmpOp := if n then .NotIn else .In
theorem op_kd {d : Addr} {vk : List (Key × V)} (h : KdAt X.K X.prog X.w d vk) (n : Bool) : OpR X (compareOp (gopE n)) (rKdIn n vk d) := by
  cases n with
  | false => exact op_kdIn h
  | true => exact op_kdNotIn h
theorem mk_op (n : Bool) (y : Str) (p : Pos) : behindInMarks (gopE n) (.Name y p) = false := by cases n <;> rfl
theorem rKd_ok {d : Addr} {vk : List (Key × V)} {n : Bool} {kk : Key} {H : Hp} {Q : VK} {kvs : List (Key × Dat)} (r : KRel X.K H vk kvs) (q : Q (.bl (negB n (lookD kvs kk).isSome)) H) : rKdIn n vk d (kV kk) (.ref d) H Q := by
  refine ⟨kk, rfl, rfl, ?_⟩
  rw [kd_some r]
  cases n <;> exact q
theorem keyV {K : PySem.W.Frag} {H : Hp} {v : V} {d : Dat} {x : Key} (r : Rep K H v d) (e : keyD d = some x) : v = kV x := keyD_rep r e
theorem se_gin (oc : Oc X W Γ k) {n : Bool} {kv : List (Key × Dat)} (hd : Γ.dc D = some kv) (hg : Gl X D) (hdb : (D == ("__debug__" : Str)) = false) (h1 : PE X a (LfE X.K W w1)) :
    PE X (.Compare a [gopE n] [.Name D p] pos) (LfE X.K W fun ρ G Q E => w1 ρ G (fun y G1 => ∃ kk, keyD y = some kk ∧ Q (.bl (negB n (lookD kv kk).isSome)) G1) E) := by
  obtain ⟨d, vk, hm, hk, hr⟩ := oc.tb.dc D kv hd
  refine PE.imp (pe_cmpR (op_kd hk n) h1 (pe_gname (p := p) hg hm hdb) (mk_op n D p)) ?_
  rintro σ H Q ⟨ρ, G, Qa, Ea, hE, hG, hw, hp, hx⟩
  refine ⟨ρ, G, _, Ea, hE, hG, hw, fun y G1 v H1 f g r ⟨kk, e, q⟩ => ?_, hx⟩
  cases keyV r e
  exact rKd_ok (hr H1) (hp _ _ _ _ f g (.bl _) q)
theorem st_gin (oc : Oc X W Γ k) {n : Bool} {kv : List (Key × Dat)} (hd : Γ.dc D = some kv) (hg : Gl X D) (hdb : (D == ("__debug__" : Str)) = false) (h1 : PE X a (LfE X.K W w1)) :
    PT X (.Compare a [gopE n] [.Name D p] pos) (LfT X.K W fun ρ G Q E => w1 ρ G (fun y G1 => ∃ kk, keyD y = some kk ∧ Q (negB n (lookD kv kk).isSome) G1) E) := by
  obtain ⟨d, vk, hm, hk, hr⟩ := oc.tb.dc D kv hd
  refine PT.imp (pt_cmpR (op_kd hk n) h1 (pe_gname (p := p) hg hm hdb) (mk_op n D p)) ?_
  rintro σ H Q ⟨ρ, G, Qa, Ea, hE, hG, hw, hp, hx⟩
  refine ⟨ρ, G, _, Ea, hE, hG, hw, fun y G1 v H1 f g r ⟨kk, e, q⟩ => ?_, hx⟩
  cases keyV r e
  exact rKd_ok (Q := fun v H' => ∃ k, v = .bl k ∧ Q k H') (hr H1) ⟨_, rfl, hp _ _ _ _ f g rfl q⟩
theorem se_gix (oc : Oc X W Γ k) {kv : List (Key × Dat)} (hd : Γ.dc D = some kv) (hg : Gl X D) (hdb : (D == ("__debug__" : Str)) = false) (hs : NoSl a) (h1 : PE X a (LfE X.K W w1)) :
    PE X (.Subscript (.Name D p) a pos) (LfE X.K W fun ρ G Q E => w1 ρ G (fun y G1 => ∃ kk d, keyD y = some kk ∧ lookD kv kk = some d ∧ Q d G1) E) := by
  obtain ⟨d, vk, hm, hk, hr⟩ := oc.tb.dc D kv hd
  refine PE.imp (pe_kdIx hk hg hm hdb h1 hs) ?_
  rintro σ H Q ⟨ρ, G, Qa, Ea, hE, hG, hw, hp, hx⟩
  refine ⟨ρ, G, _, Ea, hE, hG, hw, fun y G1 v H1 f g r ⟨kk, dv, e, l, q⟩ => ?_, hx⟩
  obtain ⟨v', h3, h4⟩ := (kd_look (hr H1)).1 dv l
  exact ⟨kk, v', keyV r e, h3, hp _ _ _ _ f g h4 q⟩
theorem se_gget1 (oc : Oc X W Γ k) {kv : List (Key × Dat)} (hd : Γ.dc D = some kv) (hg : Gl X D) (hdb : (D == ("__debug__" : Str)) = false) (h1 : PE X a (LfE X.K W w1)) (m : M1 X (.Name D p) "get" apos a cpos) :
    PE X (.Call (.Attribute (.Name D p) "get" apos) [a] [] cpos) (LfE X.K W fun ρ G Q E => w1 ρ G (fun y G1 => ∃ kk, keyD y = some kk ∧ Q ((lookD kv kk).getD .non) G1) E) := by
  obtain ⟨d, vk, hm, hk, hr⟩ := oc.tb.dc D kv hd
  refine PE.imp (pe_kdG1 hk hg hm hdb h1 m) ?_
  rintro σ H Q ⟨ρ, G, Qa, Ea, hE, hG, hw, hp, hx⟩
  refine ⟨ρ, G, _, Ea, hE, hG, hw, fun y G1 v H1 f g r ⟨kk, e, q⟩ => ?_, hx⟩
  exact ⟨kk, keyV r e, hp _ _ _ _ f g (kd_getD (hr H1) .non) q⟩
theorem se_gget2 (oc : Oc X W Γ k) {kv : List (Key × Dat)} (hd : Γ.dc D = some kv) (hg : Gl X D) (hdb : (D == ("__debug__" : Str)) = false) (h1 : PE X a (LfE X.K W w1)) (h2 : PE X b (LfE X.K W w2)) (m : M2 X (.Name D p) "get" apos a b cpos) :
    PE X (.Call (.Attribute (.Name D p) "get" apos) [a, b] [] cpos) (LfE X.K W fun ρ G Q E => w1 ρ G (fun y G1 => w2 ρ G1 (fun z G2 => ∃ kk, keyD y = some kk ∧ Q ((lookD kv kk).getD z) G2) E) E) := by
  obtain ⟨d, vk, hm, hk, hr⟩ := oc.tb.dc D kv hd
  refine PE.imp (pe_kdG2 hk hg hm hdb h1 h2 m) ?_
  rintro σ H Q ⟨ρ, G, Qa, Ea, hE, hG, hw, hp, hx⟩
  refine ⟨ρ, G, _, Ea, hE, hG, hw, fun y G1 v H1 f g r q => ⟨ρ, G1, _, Ea, hE.mono (f.stab hG), g, q, fun z G2 u H2 f2 g2 r2 ⟨kk, e, q2⟩ => ?_, hx.fra f⟩, hx⟩
  exact ⟨kk, (keyV r e), hp _ _ _ _ (f.trans f2) g2 (kd_getD (hr H2) r2) q2⟩
theorem keyDat_rep {K : PySem.W.Frag} {H : Hp} (x : Key) : Rep K H (kV x) (keyDat x) := by
  cases x with
  | inl i => exact .int i
  | inr s => exact .str s
theorem it_kd {K : PySem.W.Frag} {H0 : Hp} {vk : List (Key × V)} {kv : List (Key × Dat)} (h : ∀ H, KRel K H vk kv) : ItOk K H0 (ItK vk) (kv.map fun q => keyDat q.1) [] := by
  have hl : (kv.map fun q => keyDat q.1).length = vk.length := by rw [List.length_map]; exact (kd_len (h H0)).symm
  refine ⟨fun i H G s rg gk hi => by rw [hl] at hi; exact hi, fun i H G s rg gk hi => by rw [hl] at hi; exact hi, fun i H G x H' s rg gk hi hy => ?_⟩
  obtain ⟨rfl, kk, v, e, rfl⟩ := hy
  have r := h H'
  have key : ∀ {vk : List (Key × V)} {kv : List (Key × Dat)} {i : Nat}, KRel K H' vk kv → vk[i]? = some (kk, v) → (kv.map fun q => keyDat q.1)[i]? = some (keyDat kk) := by
    intro vk kv i r
    induction r generalizing i with
    | nil => intro e; simp at e
    | @cons p q l m hpq hr ih =>
      intro e
      cases i with
      | zero =>
        simp only [List.getElem?_cons_zero, Option.some.injEq] at e
        subst e
        simp only [List.map_cons, List.getElem?_cons_zero]
        rw [← hpq.1]
      | succ j =>
        simp only [List.getElem?_cons_succ] at e
        simp only [List.map_cons, List.getElem?_cons_succ]
        exact ih e
  exact ⟨keyDat kk, key r e, .refl, rg, keyDat_rep kk⟩
theorem si_gkeys (oc : Oc X W Γ k) {tg : Expr} {kv : List (Key × Dat)} (hd : Γ.dc D = some kv) (hg : Gl X D) (hdb : (D == ("__debug__" : Str)) = false) : PI X tg (.Name D p) (LfI X.K W fun _ G Q _ => Q (kv.map fun q => keyDat q.1) [] G) := by
  obtain ⟨d, vk, hm, hk, hr⟩ := oc.tb.dc D kv hd
  refine PI.imp (pi_kd hk hg hm hdb) ?_
  rintro σ H R ⟨ρ, G, Qa, Ea, hE, hG, hw, hp, hx⟩
  exact hp _ [] _ _ _ .refl hG trivial (it_kd hr) hw
/-! ### texts -/
theorem it_str {K : PySem.W.Frag} {H0 : Hp} {x : Str} : ItOk K H0 (Its x) (signsD x) [] := by
  have hl : (signsD x).length = x.cps.size := by unfold signsD; rw [List.length_map, Array.length_toList]
  refine ⟨fun i H G s rg gk hi => by rw [hl] at hi; exact hi, fun i H G s rg gk hi => by rw [hl] at hi; exact hi, fun i H G y H' s rg gk hi hy => ?_⟩
  obtain ⟨rfl, c, e, rfl⟩ := hy
  refine ⟨.str ⟨#[c]⟩, ?_, .refl, rg, .str _⟩
  unfold signsD
  rw [List.getElem?_map, Array.getElem?_toList, e]
  rfl
theorem si_str {tg : Expr} (h1 : PE X a (LfE X.K W w1)) : PI X tg a (LfI X.K W fun ρ G Q E => w1 ρ G (fun x G1 => ∃ s, strD x = some s ∧ Q (signsD s) [] G1) E) := by
  refine PI.imp (pi_str h1) ?_
  rintro σ H R ⟨ρ, G, Qa, Ea, hE, hG, hw, hp, hx⟩
  refine ⟨ρ, G, _, Ea, hE, hG, hw, fun y G1 v H1 f g r ⟨s, e, q⟩ => ?_, hx⟩
  obtain ⟨rfl, _⟩ := strD_inv r e
  exact ⟨s, rfl, hp (signsD s) [] _ _ _ f g trivial it_str q⟩
def rSin (n : Bool) : R2 := fun x y H Q => ∃ i j, x = .str i ∧ y = .str j ∧ Q (.bl (negB n (sIn i j))) H
theorem op_sin (n : Bool) : OpR X (compareOp (gopE n)) (rSin n) := by
  cases n with
  | false => exact op_in_str
  | true => exact op_notIn_str
theorem mk_op2 (n : Bool) {b : Expr} (h : behindInMarks .In b = false) : behindInMarks (gopE n) b = false := by cases n <;> exact h
theorem se_sin {n : Bool} (hm : behindInMarks .In b = false) (h1 : PE X a (LfE X.K W w1)) (h2 : PE X b (LfE X.K W w2)) :
    PE X (.Compare a [gopE n] [b] pos) (LfE X.K W fun ρ G Q E => w1 ρ G (fun x G1 => w2 ρ G1 (fun y G2 => ∃ s t, strD x = some s ∧ strD y = some t ∧ Q (.bl (negB n (sIn s t))) G2) E) E) := by
  refine PE.imp (pe_cmpR (op_sin n) h1 h2 (mk_op2 n hm)) ?_
  rintro σ H Q ⟨ρ, G, Qa, Ea, hE, hG, hw, hp, hx⟩
  refine ⟨ρ, G, _, Ea, hE, hG, hw, fun y G1 v H1 f g r q => ⟨ρ, G1, _, Ea, hE.mono (f.stab hG), g, q, fun z G2 u H2 f2 g2 r2 ⟨s, t, e1, e2, q2⟩ => ?_, hx.fra f⟩, hx⟩
  obtain ⟨rfl, _⟩ := strD_inv r e1
  obtain ⟨rfl, _⟩ := strD_inv r2 e2
  exact ⟨s, t, rfl, rfl, hp _ _ _ _ (f.trans f2) g2 (.bl _) q2⟩
theorem st_sin {n : Bool} (hm : behindInMarks .In b = false) (h1 : PE X a (LfE X.K W w1)) (h2 : PE X b (LfE X.K W w2)) :
    PT X (.Compare a [gopE n] [b] pos) (LfT X.K W fun ρ G Q E => w1 ρ G (fun x G1 => w2 ρ G1 (fun y G2 => ∃ s t, strD x = some s ∧ strD y = some t ∧ Q (negB n (sIn s t)) G2) E) E) := by
  refine PT.imp (pt_cmpR (op_sin n) h1 h2 (mk_op2 n hm)) ?_
  rintro σ H Q ⟨ρ, G, Qa, Ea, hE, hG, hw, hp, hx⟩
  refine ⟨ρ, G, _, Ea, hE, hG, hw, fun y G1 v H1 f g r q => ⟨ρ, G1, _, Ea, hE.mono (f.stab hG), g, q, fun z G2 u H2 f2 g2 r2 ⟨s, t, e1, e2, q2⟩ => ?_, hx.fra f⟩, hx⟩
  obtain ⟨rfl, _⟩ := strD_inv r e1
  obtain ⟨rfl, _⟩ := strD_inv r2 e2
  exact ⟨s, t, rfl, rfl, _, rfl, hp _ _ _ _ (f.trans f2) g2 rfl q2⟩
/-! ### a key in a dict -/
theorem se_din (oc : Oc X W Γ k) {n : Bool} (h1 : PE X a (LfE X.K W w1)) (h2 : PE X b (LfE X.K W w2)) : PC X (gopE n) a b (LfE X.K W fun ρ G Q E => w1 ρ G (fun y G1 => w2 ρ G1 (fun x G2 => ∃ kv kk, dkOf G2 x = some kv ∧ keyD y = some kk ∧ Q (.bl (negB n (lookD kv kk).isSome)) G2) E) E) := by
  have main : ∀ (σ : L2.St) (H : Hp) (Q : VK), LfE X.K W (fun ρ G Q E => w1 ρ G (fun y G1 => w2 ρ G1 (fun x G2 => ∃ kv kk, dkOf G2 x = some kv ∧ keyD y = some kk ∧ Q (.bl (negB n (lookD kv kk).isSome)) G2) E) E) σ H Q →
      LfE X.K W w1 σ H fun y H1 => LfE X.K W w2 σ H1 fun x H2 => ∃ p ov, x = .ref p ∧ DGet H2 p y ov ∧ Q (.bl (negB n ov.isSome)) H2 := by
    rintro σ H Q ⟨ρ, G, Qa, Ea, hE, hG, hw, hp, hx⟩
    refine ⟨ρ, G, _, Ea, hE, hG, hw, fun y G1 v H1 f g r q => ⟨ρ, G1, _, Ea, hE.mono (f.stab hG), g, q, fun z G2 u H2 f2 g2 r2 ⟨kv, kk, e1, e2, q2⟩ => ?_, hx.fra f⟩, hx⟩
    obtain ⟨p, vk, rfl, h3, h4⟩ := dkOf_inv g2 r2 e1
    cases keyV r e2
    refine ⟨p, valV vk kk, rfl, .inl ⟨vk, kk, .inl h3, rfl, rfl⟩, hp _ _ _ _ (f.trans f2) g2 (.bl _) ?_⟩
    rw [kd_some h4]
    exact q2
  cases n with
  | false => exact ⟨fun pins s σ H Q I q => (pc_din oc.u1 h1 h2).run pins s σ H Q I (main σ H Q q)⟩
  | true => exact ⟨fun pins s σ H Q I q => (pc_dnotin oc.u1 h1 h2).run pins s σ H Q I (main σ H Q q)⟩
/-! ### a def held by a local name -/
theorem pe_callSDL {CX : CXT} {i : Nat} {f : Addr} {fd : FuncData} {ps : List Str} {sp : Sp} {dvs : List V} {ds : List Value} {E : L2.St → XK} {x : Str} {t : TA} (F : FnOk X.prog X.w X.K X.mg X.base CX k f fd ps sp) (hr : Room k X.A) (hN : X.N[i]? = some x) (hv : Vis X.env.scope x)
    (hk : PySem.W.keepIn X.K (.ref f) = true) (hb : Binds X.K fd ps ds) (hd : Vals dvs ds) (hx : ∀ σ, PassesAt CX X σ (E σ)) (ha : PA X (e :: es) t) (hdb : (x == ("__debug__" : Str)) = false) (hcd : (x == ("__classdict__" : Str)) = false)
    (he : starEach (e :: es) X.env = (false, eval e X.env) :: starEach es X.env) (hpl : (backTo pos (starEach es X.env)).any (·.1) = false) :
    PE X (.Call (.Name x p) (e :: es) [] pos) (fun σ H Q => σ[i]? = some (some (.ref f)) ∧ tCallSD sp dvs E t σ H Q) := by
  refine ⟨fun pins s σ H Q I ⟨hs, ht⟩ => ?_⟩
  refine wpAny_Call_Name_kw (thn ((pe_var (pos := p) hN hv hdb hcd).run pins s σ H (fun v H1 => v = .ref f ∧ H1 = H) I ⟨.ref f, hs, rfl, rfl⟩) fun u s1 ⟨v, H1, I1, r1, q1, q2⟩ => ?_)
  subst q1 q2
  cases r1
  refine PySem.W.callWith_K (h₀ := X.base) I.ok.mod.kin hk (thn (ha.run pos pins s1 σ _ _ I1 ht) fun us s2 ⟨vs, H2, I2, r, q⟩ => ⟨I2.kIn, ?_⟩) he hpl
  exact run_fnSD F hr hb hd (hx σ) I2 r q
theorem se_callV (oc : Oc X W Γ k) {i : Nat} {x : Str} (hN : X.N[i]? = some x) (hv : Vis X.env.scope x) (hdb : (x == ("__debug__" : Str)) = false) (hcd : (x == ("__classdict__" : Str)) = false) (ha : PA X (e :: es) (LfA X.K W wa))
    (he1 : starEach (e :: es) X.env = (false, eval e X.env) :: starEach es X.env) (he2 : (backTo pos (starEach es X.env)).any (·.1) = false) :
    PE X (.Call (.Name x p) (e :: es) [] pos) (LfE X.K W fun ρ G Q E => match ρ[i]? with
      | some (some (.gf f)) => (match Γ.fn f with
        | some F => (F.ar ≤ (e :: es).length + F.dfl.length ∧ (e :: es).length ≤ F.ar) ∧ wa ρ G (fun ds G1 => F.con (ds ++ F.dfl.drop ((e :: es).length + F.dfl.length - F.ar)) G1 Q E) E
        | none => False)
      | _ => False) := by
  refine ⟨fun pins s σ H Q I ⟨ρ, G, Qa, Ea, hE, hG, hw, hp, hx⟩ => ?_⟩
  dsimp only at hw
  cases q : ρ[i]? with
  | none => rw [q] at hw; exact False.elim hw
  | some o =>
    cases o with
    | none => rw [q] at hw; exact False.elim hw
    | some d =>
      cases d with
      | gf f =>
        rw [q] at hw
        cases hF : Γ.fn f with
        | none => simp only [hF] at hw
        | some F =>
          simp only [hF] at hw
          obtain ⟨⟨h1, h2⟩, hw⟩ := hw
          obtain ⟨v, hs, rv⟩ := hE.2 i _ q
          obtain ⟨a, fd, ps, hok, hm, hk, hbind⟩ := oc.tb.fn f F hF
          have e0 := oc.tb.fa f F hF
          rw [hm] at e0
          cases e0
          cases rv
          obtain ⟨ds, dvs, hb, hvv, hd⟩ := hbind (e :: es).length h1 h2
          refine (pe_callSDL (E := WE W) hok oc.room hN hv hk hb hvv (fun σ => passAt oc.tk σ) ha hdb hcd he1 he2).run pins s σ H Q I ⟨hs, ?_⟩
          exact call_imp hd (fun _ _ _ z => z) σ H Q ⟨ρ, G, Qa, Ea, hE, hG, hw, hp, hx⟩
      | _ => rw [q] at hw; exact False.elim hw
/-! ### methods of texts -/
def SM.nm : SM → Str
  | .lower => "lower" | .upper => "upper" | .split => "split" | .startswith => "startswith" | .endswith => "endswith"
def SmA (K : PySem.W.Frag) (z : Bool) (m : SM) (r : V → List V → Hp → VK → Prop) : Prop :=
  ∀ (H : Hp) (a : Str) (xs : List V) (ds : List Dat) (G : AG) (Qa : AQ) (Q : VK), Reps K H xs ds → RelG K G H → smW z m a ds G Qa → PostZ K G H Qa Q → r (.str a) xs H Q
theorem strsD_rep {K : PySem.W.Frag} {H : Hp} : ∀ l : List Str, Reps K H (l.map V.str) (strsD l)
  | [] => .nil
  | x :: l => .cons (.str x) (strsD_rep l)
theorem sm_ok (X : Cx) (z : Bool) (m : SM) : ∃ id r, Slot "str" m.nm id ∧ typeOf (.builtin id) = pure (.type "method_descriptor") ∧ MtR X id r ∧ SmA X.K z m r := by
  cases m with
  | lower =>
    refine ⟨_, _, F.slot_str_lower, rfl, mt_lower, fun H a xs ds G Qa Q r g h p => ?_⟩
    match ds, h with
    | [], h => cases r; exact ⟨a, rfl, rfl, h.1, p.val g (.str _) h.2⟩
  | upper =>
    refine ⟨_, _, F.slot_str_upper, rfl, mt_upper, fun H a xs ds G Qa Q r g h p => ?_⟩
    match ds, h with
    | [], h => cases r; exact ⟨a, rfl, rfl, h.1, p.val g (.str _) h.2⟩
  | split =>
    refine ⟨_, _, F.slot_str_split, rfl, mt_split, fun H a xs ds G Qa Q r g h p => ?_⟩
    match ds, h with
    | [.str b], h =>
      obtain ⟨y, rfl, r1⟩ := reps1 r
      cases rep_s r1
      exact ⟨a, b, rfl, rfl, h.1.1, h.1.2, rep_newL g (strsD_rep _) h.2 p⟩
  | startswith =>
    refine ⟨_, _, F.slot_str_startswith, rfl, mt_startswith, fun H a xs ds G Qa Q r g h p => ?_⟩
    match ds, h with
    | [.str b], h =>
      obtain ⟨y, rfl, r1⟩ := reps1 r
      cases rep_s r1
      exact ⟨a, b, rfl, rfl, p.val g (.bl _) h⟩
  | endswith =>
    refine ⟨_, _, F.slot_str_endswith, rfl, mt_endswith, fun H a xs ds G Qa Q r g h p => ?_⟩
    match ds, h with
    | [.str b], h =>
      obtain ⟨y, rfl, r1⟩ := reps1 r
      cases rep_s r1
      exact ⟨a, b, rfl, rfl, p.val g (.bl _) h⟩
theorem se_smeth {z : Bool} {m : SM} (h1 : PE X b (LfE X.K W w1)) (ha : PA X (a :: es) (LfA X.K W wa))
    (hbase : attributeBase b m.nm X.env (eval b X.env) = eval b X.env)
    (hfew : ((backTo pos (starEach (a :: es) X.env)).all (fun x => !x.1) && (backToKw pos (keywordEach [] X.env)).all (fun x => x.1.isSome)
      && decide ((a :: es).length + ([] : List Keyword).length + (if ([] : List Keyword).isEmpty then 0 else 1) < 30)) = true)
    (hline : (apos.endLine == pos.line) = true) (he1 : starEach (a :: es) X.env = (false, eval a X.env) :: starEach es X.env) (he2 : (backTo pos (starEach es X.env)).any (·.1) = false) :
    PE X (.Call (.Attribute b m.nm apos) (a :: es) [] pos) (LfE X.K W fun ρ G Q E => w1 ρ G (fun x G1 => ∃ s, strD x = some s ∧ wa ρ G1 (fun ds G2 => smW z m s ds G2 Q) E) E) := by
  obtain ⟨id, r, k1, k2, k3, k4⟩ := sm_ok X z m
  refine PE.imp (pe_z (pe_bm F.plainAttrs_str k1 k2 k3 h1 ha hbase hfew hline he1 he2)) ?_
  rintro σ H Q ⟨ρ, G, Qa, Ea, hE, hG, hw, hp, hx⟩
  refine ⟨ρ, G, _, Ea, hE, hG, hw, fun d G1 v H1 f g r1 ⟨s, e, q⟩ => ?_, hx⟩
  obtain ⟨rfl, _⟩ := strD_inv r1 e
  exact ⟨rfl, ρ, G1, _, Ea, hE.mono (f.stab hG), g, q, fun e G2 u H2 f2 g2 r2 q2 => k4 H2 s u e G2 Qa _ r2 g2 q2 (postZ fun d' G' v' H' f3 => hp d' G' v' H' ((f.trans f2).trans f3)), hx.fra f⟩
theorem se_smeth0 {z : Bool} {m : SM} (h1 : PE X b (LfE X.K W w1)) (hbase : attributeBase b m.nm X.env (eval b X.env) = eval b X.env) (hline : (apos.endLine == pos.line) = true) :
    PE X (.Call (.Attribute b m.nm apos) [] [] pos) (LfE X.K W fun ρ G Q E => w1 ρ G (fun x G1 => ∃ s, strD x = some s ∧ smW z m s [] G1 Q) E) := by
  obtain ⟨id, r, k1, k2, k3, k4⟩ := sm_ok X z m
  refine PE.imp (pe_z (pe_bm0 F.plainAttrs_str k1 k2 k3 h1 hbase hline)) ?_
  rintro σ H Q ⟨ρ, G, Qa, Ea, hE, hG, hw, hp, hx⟩
  refine ⟨ρ, G, _, Ea, hE, hG, hw, fun d G1 v H1 f g r1 ⟨s, e, q⟩ => ?_, hx⟩
  obtain ⟨rfl, _⟩ := strD_inv r1 e
  exact ⟨rfl, k4 H1 s [] [] G1 Qa _ .nil g q (postZ fun d' G' v' H' f3 => hp d' G' v' H' (f.trans f3))⟩
theorem se_six (hs : PlainIx b) (h1 : PE X a (LfE X.K W w1)) (h2 : PE X b (LfE X.K W w2)) :
    PE X (.Subscript a b pos) (LfE X.K W fun ρ G Q E => w1 ρ G (fun x G1 => w2 ρ G1 (fun y G2 => ∃ s i c, strD x = some s ∧ y = .int i ∧ s.length ≤ sizeLine ∧ L2.atI s.cps.toList i = some c ∧ Q (.str ⟨#[c]⟩) G2) E) E) := by
  refine PE.imp (pe_ix ix_str h1 h2 hs) ?_
  rintro σ H Q ⟨ρ, G, Qa, Ea, hE, hG, hw, hp, hx⟩
  refine ⟨ρ, G, _, Ea, hE, hG, hw, fun y G1 v H1 f g r q => ⟨ρ, G1, _, Ea, hE.mono (f.stab hG), g, q, fun z G2 u H2 f2 g2 r2 ⟨s, i, c, e1, e2, e3, e4, q2⟩ => ?_, hx.fra f⟩, hx⟩
  obtain ⟨rfl, _⟩ := strD_inv r e1
  subst e2
  cases rep_i r2
  exact ⟨s, i, c, rfl, rfl, e3, e4, hp _ _ _ _ (f.trans f2) g2 (.str _) q2⟩
/-! ### a tuple of a range -/
theorem reps_rg {K : PySem.W.Frag} {H : Hp} (a b : Int) : Reps K H (rgV a b) (rngD a (b - a).toNat) := by
  unfold rgV rngD
  generalize List.range (b - a).toNat = l
  induction l with
  | nil => exact .nil
  | cons n l ih => exact .cons (.int _) ih
theorem se_tupR {b : Expr} {w2 : Env' → AG → AQ → AX → Prop} {p1 p2 p3 p4 : Pos} (hc : X.calm = true) (gt : Gl X "tuple") (mt : X.mg "tuple" = none) (hg : Gl X "range") (hm : X.mg "range" = none) (h1 : PE X a (LfE X.K W w1)) (h2 : PE X b (LfE X.K W w2))
    (na : starEach [a, b] X.env = (false, eval a X.env) :: starEach [b] X.env) (nb : starEach [b] X.env = (false, eval b X.env) :: starEach [] X.env) (hp : (backTo p2 (starEach [b] X.env)).any (·.1) = false) :
    PE X (.Call (.Name "tuple" p3) [.Call (.Name "range" p1) [a, b] [] p2] [] p4) (LfE X.K W fun ρ G Q E => w1 ρ G (intK fun m G1 => w2 ρ G1 (intK fun n G2 => RgOk m n ∧ Q (.tup (rngD m (n - m).toNat)) G2) E) E) := by
  refine PE.imp (pe_tupRg hc gt mt (prg_2 hg hm h1 h2 na nb hp)) ?_
  rintro σ H Q ⟨ρ, G, Qa, Ea, hE, hG, hw, hp, hx⟩
  refine ⟨ρ, G, _, Ea, hE, hG, hw, fun d G1 v H1 f g r q => ?_, hx⟩
  obtain ⟨i, rfl, q⟩ := intK_inv q
  cases rep_i r
  refine ⟨ρ, G1, _, Ea, hE.mono (f.stab hG), g, q, fun e G2 u H2 f2 g2 r2 q2 => ?_, hx.fra f⟩
  obtain ⟨j, rfl, q1, q3⟩ := intK_inv q2
  cases rep_i r2
  exact ⟨i, j, rfl, rfl, q1, PostE.newT (fun d' G' v' H' f3 => hp d' G' v' H' ((f.trans f2).trans f3)) g2 (reps_rg i j) q3⟩
/-! ### a list, back to front -/
theorem se_rev {k0 : Nat} {p1 p2 p3 : Pos} (h1 : PE X a (LfE X.K W w1)) : PE X (.Subscript a (.Slice none none (some (.UnaryOp .USub (.Constant (.int 1) k0 p1) p2)) p3) pos) (LfE X.K W fun ρ G Q E => w1 ρ G (fun x G1 => ∃ ds, lstOf G1 x = some ds ∧ ds.length ≤ sizeLine ∧ Q (.lst ds.reverse) G1) E) := by
  refine PE.imp (pe_z (pe_revL h1)) ?_
  rintro σ H Q ⟨ρ, G, Qa, Ea, hE, hG, hw, hp, hx⟩
  refine ⟨ρ, G, _, Ea, hE, hG, hw, fun y G1 v H1 f g r ⟨ds, e, hz, q⟩ => ?_, hx⟩
  obtain ⟨l, vs, rfl, k1, r1⟩ := lstOf_rd g r e
  have sq : SqL X.K H1 l vs := .inl k1
  exact ⟨l, vs, rfl, sq, rep_newL (z := true) g r1.reverse (show nw true ds.reverse G1 Qa from ⟨by rw [List.length_reverse]; exact hz, q⟩) (postZ fun d' G' v' H' f3 => hp d' G' v' H' (f.trans f3))⟩
theorem se_revT {k0 : Nat} {p1 p2 p3 : Pos} (h1 : PE X a (LfE X.K W w1)) : PE X (.Subscript a (.Slice none none (some (.UnaryOp .USub (.Constant (.int 1) k0 p1) p2)) p3) pos) (LfE X.K W fun ρ G Q E => w1 ρ G (fun x G1 => ∃ ds, x = .tup ds ∧ Q (.tup ds.reverse) G1) E) := by
  refine PE.imp (pe_revT h1) ?_
  rintro σ H Q ⟨ρ, G, Qa, Ea, hE, hG, hw, hp, hx⟩
  refine ⟨ρ, G, _, Ea, hE, hG, hw, fun y G1 v H1 f g r ⟨ds, e, q⟩ => ?_, hx⟩
  subst e
  cases r with
  | tup k1 r1 => exact ⟨_, _, rfl, k1.sq, PostE.newT (fun d' G' v' H' f3 => hp d' G' v' H' (f.trans f3)) g r1.reverse q⟩
end
end Av
set_option Elab.async false
set_option linter.all false
set_option maxRecDepth 100000
set_option maxHeartbeats 4000000
/-! # AvL: own cells told for a call; made functions -/
namespace Av
open PySem PySem.Spec PyProof.Rows L2
variable [Tb]
/-! ### cells tracked for a while -/
/-- the cells at l are tracked as what they are -/
def pubH (H : Hp) (l : List Addr) (h : Heap) : Hp := fun b => if b ∈ l then (h.get? b).map fun o => HO.frz o (.own b) else H b
def delHs (H : Hp) (l : List Addr) : Hp := fun b => if b ∈ l then none else H b
theorem pubH_in {H : Hp} {l : List Addr} {h : Heap} {b : Addr} {o : Obj} (hb : b ∈ l) (e : h.get? b = some o) : pubH H l h b = some (.frz o (.own b)) := by unfold pubH; rw [if_pos hb, e]; rfl
theorem pubH_out {H : Hp} {l : List Addr} {h : Heap} {b : Addr} (hb : b ∉ l) : pubH H l h b = H b := if_neg hb
theorem delHs_in {H : Hp} {l : List Addr} {b : Addr} (hb : b ∈ l) : delHs H l b = none := if_pos hb
theorem delHs_out {H : Hp} {l : List Addr} {b : Addr} (hb : b ∉ l) : delHs H l b = H b := if_neg hb
section
variable {P : Program} {w : World} {K : PySem.W.Frag} {mg : Str → Option Value} {base : Heap} {A : Around} {outer : List Env} {s s' : Shared} {H H' : Hp} {l : List Addr}
theorem env0_pub (e : Env0 P w K mg base A outer s H) (hl : ∀ c ∈ l, base.get? c = none ∧ c ∉ frs outer ∧ H c = none ∧ ∃ o, s.heap.get? c = some o) : Env0 P w K mg base A outer s (pubH H l s.heap) := by
  refine ⟨e.frames, e.mod, fun b o q => ⟨(e.bs b o q).1, ?_⟩, e.bsz, e.funs, fun b hb => ?_, fun a o q => ?_, e.bare⟩
  · have : b ∉ l := fun z => by rw [(hl b z).1] at q; cases q
    rw [pubH_out this]; exact (e.bs b o q).2
  · have : b ∉ l := fun z => (hl b z).2.1 hb
    rw [pubH_out this]; exact e.frf b hb
  · by_cases ha : a ∈ l
    · obtain ⟨o', ho⟩ := (hl a ha).2.2.2
      rw [pubH_in ha ho] at q
      cases q
      exact ⟨ho, ⟨o', ho⟩⟩
    · rw [pubH_out ha] at q
      have no : ∀ b u, H b = some u → b ∉ l := fun b u z1 z2 => by rw [(hl b z2).2.2.1] at z1; cases z1
      exact (e.hok a o q).stay (fun _ _ _ z => z) (fun b z => by rw [pubH_out (no b _ z)]; exact z) fun b xs z => by rw [pubH_out (no b _ z)]; exact z
/-- what stands at l is a cell that is tracked -/
def CelsIn (H : Hp) (l : List Addr) : Prop := ∀ c ∈ l, ∃ o, H c = some (.frz o (.own c))
theorem hok_del {h : Heap} (hok : HOk P w H h) (hl : CelsIn H l) : HOk P w (delHs H l) h := fun a o q => by
  by_cases ha : a ∈ l
  · rw [delHs_in ha] at q; cases q
  · rw [delHs_out ha] at q
    have no : ∀ b u, H b = some u → (∀ o, u ≠ .frz o (.own b)) → b ∉ l := fun b u z1 z2 z3 => by
      obtain ⟨o, z⟩ := hl b z3
      rw [z1] at z
      exact z2 o (Option.some.inj z)
    exact (hok a o q).stay (fun _ _ _ z => z) (fun b z => by rw [delHs_out (no b _ z (fun _ z => by cases z))]; exact z) fun b xs z => by rw [delHs_out (no b _ z (fun _ z => by cases z))]; exact z
theorem stab_del (hl : CelsIn H l) : Stab H (delHs H l) := by
  have no : ∀ b u, H b = some u → (∀ o, u ≠ .frz o (.own b)) → b ∉ l := fun b u z1 z2 z3 => by
    obtain ⟨o, z⟩ := hl b z3
    rw [z1] at z
    exact z2 o (Option.some.inj z)
  exact ⟨fun b xs z => by rw [delHs_out (no b _ z (fun _ z => by cases z))]; exact z, fun b o xs z => by rw [delHs_out (no b _ z (fun _ z => by cases z))]; exact z, fun b φ z => by rw [delHs_out (no b _ z (fun _ z => by cases z))]; exact z, fun b o xs z => by rw [delHs_out (no b _ z (fun _ z => by cases z))]; exact z⟩
/-- behind a call for which cells were told -/
theorem ce_unpub {Q Q' : VK} {u : Value} (hl : ∀ c ∈ l, c ∉ frs outer ∧ H c = none ∧ ∃ o, s.heap.get? c = some o) (hq : ∀ v H', Q' v H' → (∀ c ∈ l, H' c = pubH H l s.heap c) → Q v (delHs H' l)) (h : CE outer P w (pubH H l s.heap) s Q' u s') : CE outer P w H s Q u s' := by
  obtain ⟨v, H', os, bare, un, hok, r, q⟩ := h
  have at_ : ∀ c ∈ l, H' c = pubH H l s.heap c := fun c hc => by
    obtain ⟨o, ho⟩ := (hl c hc).2.2
    rw [pubH_in hc ho]
    exact un.frzs _ _ _ (pubH_in hc ho)
  have cin : CelsIn H' l := fun c hc => by
    obtain ⟨o, ho⟩ := (hl c hc).2.2
    exact ⟨o, by rw [at_ c hc]; exact pubH_in hc ho⟩
  have no : ∀ b x, H b = some x → b ∉ l := fun b x z1 z2 => by rw [(hl b z2).2.1] at z1; cases z1
  have kp : ∀ b o, b ∈ l → s.heap.get? b = some o → s'.heap.get? b = some o := fun b o hb ho => by
    have z : H' b = some (.frz o (.own b)) := by rw [at_ b hb]; exact pubH_in hb ho
    exact (show ObjOk P w H' s'.heap b (.frz o (.own b)) from hok b _ z).1
  refine ⟨v, delHs H' l, os, bare, ⟨fun b o e n h1 h2 => ?_, fun b o e n h1 h2 => ?_, fun b o e n h1 => ?_, un.there, fun b xs e => ?_, fun b o x e => ?_, fun b ps e => ?_⟩, hok_del hok cin, r, hq v H' q at_⟩
  · by_cases hb : b ∈ l
    · exact kp b o hb e
    · exact un.keep b o e (by rw [pubH_out hb]; exact n) h1 h2
  · exact un.slot b o e (by rw [pubH_out (fun z => (hl b z).1 h1)]; exact n) h1 h2
  · by_cases hb : b ∈ l
    · exact delHs_in hb
    · rw [delHs_out hb]
      exact un.free b o e (by rw [pubH_out hb]; exact n) h1
  · rw [delHs_out (no b _ e)]
    exact un.tups b xs (by rw [pubH_out (no b _ e)]; exact e)
  · rw [delHs_out (no b _ e)]
    exact un.frzs b o x (by rw [pubH_out (no b _ e)]; exact e)
  · obtain ⟨m, q⟩ := un.tbls b ps (by rw [pubH_out (no b _ e)]; exact e)
    exact ⟨m, by rw [delHs_out (no b _ e)]; exact q⟩
theorem cx_unpub {E E' : XK} {u : Value} (hl : ∀ c ∈ l, c ∉ frs outer ∧ H c = none ∧ ∃ o, s.heap.get? c = some o) (hq : ∀ c d H', E' c d H' → (∀ c ∈ l, H' c = pubH H l s.heap c) → E c d (delHs H' l)) (h : L2.CX P w outer (pubH H l s.heap) s E' u s') : L2.CX P w outer H s E u s' := by
  obtain ⟨a, B, H', cls, d, rfl, fl, hok, ub, na, os, ag, q⟩ := h
  have at_ : ∀ c ∈ l, H' c = pubH H l s.heap c := fun c hc => by
    obtain ⟨o, ho⟩ := (hl c hc).2.2
    rw [pubH_in hc ho]
    exact ub.frzs _ _ _ (pubH_in hc ho)
  have cin : CelsIn H' l := fun c hc => by
    obtain ⟨o, ho⟩ := (hl c hc).2.2
    exact ⟨o, by rw [at_ c hc]; exact pubH_in hc ho⟩
  have no : ∀ b x, H b = some x → b ∉ l := fun b x z1 z2 => by rw [(hl b z2).2.1] at z1; cases z1
  have kp : ∀ b o, b ∈ l → s.heap.get? b = some o → B.get? b = some o := fun b o hb ho => by
    have z : H' b = some (.frz o (.own b)) := by rw [at_ b hb]; exact pubH_in hb ho
    exact (show ObjOk P w H' B b (.frz o (.own b)) from hok b _ z).1
  refine ⟨a, B, delHs H' l, cls, d, rfl, fl, hok_del hok cin, ⟨fun b o e n h1 => ?_, ub.slot, fun b o e n => ?_, ub.there, fun b xs e => ?_, fun b o x e => ?_, fun b ps e => ?_⟩, ?_, os, ag, hq cls d H' q at_⟩
  · by_cases hb : b ∈ l
    · exact kp b o hb e
    · exact ub.keep b o e (by rw [pubH_out hb]; exact n) h1
  · by_cases hb : b ∈ l
    · exact delHs_in hb
    · rw [delHs_out hb]
      exact ub.free b o e (by rw [pubH_out hb]; exact n)
  · rw [delHs_out (no b _ e)]
    exact ub.tups b xs (by rw [pubH_out (no b _ e)]; exact e)
  · rw [delHs_out (no b _ e)]
    exact ub.frzs b o x (by rw [pubH_out (no b _ e)]; exact e)
  · obtain ⟨m, q⟩ := ub.tbls b ps (by rw [pubH_out (no b _ e)]; exact e)
    exact ⟨m, by rw [delHs_out (no b _ e)]; exact q⟩
  · by_cases ha : a ∈ l
    · exact delHs_in ha
    · rw [delHs_out ha]; exact na
end
end Av
set_option Elab.async false
set_option linter.all false
set_option maxRecDepth 100000
set_option maxHeartbeats 4000000
/-! # Av7: comprehensions -/
namespace Av
open PySem PySem.Spec PyProof.Rows L2
variable [Tb]
section
variable {K : PySem.W.Frag} {G G1 : AG} {H H1 : Hp} {D : Addr}
theorem RelG.updU {xs ys : List V} (g : RelG K G H) (n : G D = none) (h : H D = some (.lst xs)) : RelG K G (upd H D (.lst ys)) := ⟨fun a w q => by
  have d : a ≠ D := fun z => by rw [z, n] at q; cases q
  exact (g.g a w q).mono (.lst h) (upd_ne d), tabs_soft g.t h Soft.lst⟩
theorem Fra.updU {xs ys : List V} (f : Fra G1 H1 G H) (e : H1 D = none) (h : H D = some (.lst xs)) : Fra G1 H1 G (upd H D (.lst ys)) := fun a o q t n => by
  have d : a ≠ D := fun z => by rw [z, e] at q; cases q
  obtain ⟨h1, h2⟩ := f a o q t n
  exact ⟨by rw [upd_ne d]; exact h1, h2⟩
end
theorem wipe_wipe {σ : L2.St} {vs : List Nat} : L2.wipe (L2.wipe σ vs) vs = L2.wipe σ vs := by
  refine List.ext_getElem? fun j => ?_
  rw [wipe_get, wipe_get]
  by_cases h : j ∈ vs
  · rw [if_pos h, if_pos h]
    cases σ[j]? <;> rfl
  · rw [if_neg h]
abbrev WF : WX := fun _ _ _ _ => False
theorem takesF {X : Cx} : Takes X WF := fun _ _ ⟨_, _, _, _, _, _, _, _, _, _, _, _, _, _, _, _, w⟩ => False.elim w
theorem postX_no {K : PySem.W.Frag} {G : AG} {H : Hp} {W : XK} : PostX K G H noX W := fun _ _ _ _ _ _ _ _ z => False.elim z
theorem Oc.blk {X : Cx} {W : WX} {Γ : Gam} {k : Nat} (oc : Oc X W Γ k) (s : Shared) (H : Hp) (scope : Scope) (env : Env) (fp : List Addr) : Oc (X.blk s H scope env fp) WF Γ k :=
  ⟨oc.room, oc.nd, oc.calm, takesF, oc.tb⟩
abbrev WfE := Env' → AG → AQ → AX → Prop
abbrev WfT := Env' → AG → (Bool → AG → Prop) → AX → Prop
abbrev WfI := Env' → AG → (List Dat → Gd → AG → Prop) → AX → Prop
/-- a comprehension's transformer from its parts -/
def lcG (z : Bool) (wi : WfI) (wt : WfT) (we : WfE) (g : TGt) (own : List Nat) : WfE := fun ρ G Q E => wi ρ G (fun ds gd G1 => lcIfW z (fun ρ1 G Q => wt ρ1 G Q noX) (fun ρ1 G Q => we ρ1 G Q noX) g own gd ρ Q ds [] G1) E
theorem lcW_if {z : Bool} {elt : Env' → AG → AQ → Prop} {g : TGt} {own : List Nat} {gd : Gd} {ρ : Env'} {Q : AQ} : ∀ (ds acc : List Dat) (G : AG), lcIfW z (fun _ G Q => Q true G) elt g own gd ρ Q ds acc G = lcW z elt g own gd ρ Q ds acc G
  | [], _, _ => rfl
  | d :: ds, acc, G => by
    simp only [lcIfW, lcW, if_true]
    have ih := fun acc G => lcW_if (z := z) (elt := elt) (g := g) (own := own) (gd := gd) (ρ := ρ) (Q := Q) ds acc G
    simp only [ih]
section
variable {X : Cx} {W : WX} {Γ : Gam} {k : Nat} {own : List (Str × Nat)} {g : TGt} {wi : WfI} {wt : WfT} {we : WfE} {tt : TT}
theorem lc_imp {z : Bool} (hix : ∀ i ∈ tgIx g, i ∈ own.map (·.2)) (σ : L2.St) (H : Hp) (Q Q' : VK) (hq : ∀ v H, Qz Q v H → Q' v H)
    (htt : ∀ (σ : L2.St) (H : Hp) (Q : Bool → Hp → Prop) ρ G Qa, RelE X.K H ρ σ → RelG X.K G H → wt ρ G Qa noX → (∀ b G' H', Fra G H G' H' → RelG X.K G' H' → Qa b G' → Q b H') → tt σ H Q)
    (h : LfE X.K W (lcG z wi wt we g (own.map (·.2))) σ H Q) : tLc (LfI X.K W wi) (LfG X.K g) tt (LfE X.K WF we) (own.map (·.2)) σ H Q' := by
  obtain ⟨ρ, G, Qa, Ea, hE, hG, hw, hp, hx⟩ := h
  refine ⟨ρ, G, _, Ea, hE, hG, hw, fun ds gd G1 J H1 f1 g1 gk1 it q1 D hD => ?_, hx⟩
  have nD1 : G1 D = none := g1.free hD
  refine ⟨fun i m H2 => m = ds.length - i ∧ i ≤ ds.length ∧ ∃ G2 acc accV, RelG X.K G2 H2 ∧ G2 D = none ∧ H2 D = some (.lst accV) ∧ Reps X.K H2 accV acc ∧ Fra G1 H1 G2 H2 ∧ lcIfW z (fun ρ1 G Q => wt ρ1 G Q noX) (fun ρ1 G Q => we ρ1 G Q noX) g (own.map (·.2)) gd ρ Qa (ds.drop i) acc G2,
    ⟨ds.length, by simp, Nat.zero_le _, G1, [], [], g1.newT hD, nD1, upd_same, .nil, .newT hD, q1⟩, ?_⟩
  rintro i m H2 ⟨rfl, hi, G2, acc, accV, g2, n2, h2, r2, f2, w2⟩
  have st2 : Stab H1 H2 := f2.stab g1
  by_cases hlt : i < ds.length
  · rw [List.drop_eq_getElem_cons hlt] at w2
    obtain ⟨gk, w2⟩ := w2
    refine .inr ⟨it.go i H2 G2 st2 g2 gk hlt, fun H' => ∃ G3 acc accV, RelG X.K G3 H' ∧ G3 D = none ∧ H' D = some (.lst accV) ∧ Reps X.K H' accV acc ∧ Fra G1 H1 G3 H' ∧ lcIfW z (fun ρ1 G Q => wt ρ1 G Q noX) (fun ρ1 G Q => we ρ1 G Q noX) g (own.map (·.2)) gd ρ Qa (ds.drop (i + 1)) acc G3,
      fun H' q => ⟨ds.length - (i + 1), by omega, rfl, hlt, q⟩, fun x H3 hy => ?_⟩
    obtain ⟨d, hd, f3, g3, rx⟩ := it.yld i H2 G2 x H3 st2 g2 gk hlt hy
    rw [List.getElem?_eq_getElem hlt] at hd
    cases hd
    have f13 := f2.trans f3
    refine ⟨wipeD ρ (own.map (·.2)), G2, _, _, (hE.mono ((f1.trans f13).stab hG)).wipe _, g3, rx, w2, fun ρ1 σ1 e1 hwp w3 => ⟨(hwp _ hix).trans wipe_wipe, ?_⟩⟩
    obtain ⟨h3, n3⟩ := f3 D _ h2 (fun _ z => by cases z) n2
    have r3 := r2.mono (f3.stab g2)
    refine htt σ1 H3 _ ρ1 G2 _ e1 g3 w3 fun b G4 H4 f4 g4 w4 => ?_
    obtain ⟨h4, n4⟩ := f4 D _ h3 (fun _ z => by cases z) n3
    cases b with
    | false =>
      rw [if_neg (by simp)] at w4 ⊢
      exact ⟨G4, acc, accV, g4, n4, h4, r3.mono (f4.stab g3), f13.trans f4, w4⟩
    | true =>
      rw [if_pos rfl] at w4 ⊢
      refine ⟨ρ1, G4, _, noX, e1.mono (f4.stab g3), g4, w4, fun y G5 v H5 f5 g5 r5 w5 => ?_, postX_no⟩
      obtain ⟨h5, n5⟩ := f5 D _ h4 (fun _ z => by cases z) n4
      have r4 := (r3.mono (f4.stab g3)).mono (f5.stab g4)
      refine ⟨accV, h5, by rw [r4.length]; exact w5.1, G5, acc ++ [y], accV ++ [v], g5.updU n5 h5, n5, upd_same, (r4.append (.one r5)).mono (.lst h5), ((f13.trans f4).trans f5).updU hD h5, w5.2⟩
  · have e : i = ds.length := by omega
    subst e
    rw [List.drop_length] at w2
    obtain ⟨gk, w2⟩ := w2
    refine .inl ⟨it.stop _ H2 G2 st2 g2 gk (Nat.le_refl _), ?_⟩
    have f12 := f1.trans f2
    cases z with
    | true =>
      rw [if_pos rfl] at w2
      refine hq _ _ (.inr ⟨D, accV, rfl, h2, fun o => hp (.lst acc) G2 (.ref D) _ (fun a u q t n => ?_) ⟨fun a u q => ?_, tabs_soft g2.t h2 Soft.lst⟩ (.lst ⟨o, upd_same⟩ (r2.mono (.lst h2))) w2⟩)
      · obtain ⟨h6, n6⟩ := f1 a u q t n
        obtain ⟨h7, n7⟩ := f2 a u h6 t n6
        have d : a ≠ D := fun z => by rw [z, hD] at h6; cases h6
        exact ⟨by rw [upd_ne d]; exact h7, n7⟩
      · have d : a ≠ D := fun z => by rw [z, n2] at q; cases q
        exact (g2.g a u q).mono (.lst h2) (upd_ne d)
    | false =>
    rw [if_neg (by simp)] at w2
    refine hq _ _ (.inl (hp (.ref D) (gu G2 D (.lst acc)) (.ref D) H2 (fun a o q t n => ?_) ⟨fun a o q => ?_, g2.t⟩ (.ref D) (w2 D n2)))
    · obtain ⟨h6, n6⟩ := f1 a o q t n
      obtain ⟨h7, n7⟩ := f2 a o h6 t n6
      have d : a ≠ D := fun z => by rw [z, hD] at h6; cases h6
      exact ⟨h7, by rw [gu_ne d]; exact n7⟩
    · by_cases ha : a = D
      · subst ha
        rw [gu_same] at q
        cases q
        exact ⟨accV, h2, r2⟩
      · rw [gu_ne ha] at q
        exact g2.g a o q
theorem yes_imp (K : PySem.W.Frag) (σ : L2.St) (H : Hp) (Q : Bool → Hp → Prop) (ρ : Env') (G : AG) (Qa : Bool → AG → Prop) (hE : RelE K H ρ σ) (hG : RelG K G H) (hw : Qa true G) (hp : ∀ b G' H', Fra G H G' H' → RelG K G' H' → Qa b G' → Q b H') : tYes σ H Q := hp true G H .refl hG hw
theorem tst_imp (K : PySem.W.Frag) (σ : L2.St) (H : Hp) (Q : Bool → Hp → Prop) (ρ : Env') (G : AG) (Qa : Bool → AG → Prop) (hE : RelE K H ρ σ) (hG : RelG K G H) (hw : wt ρ G Qa noX) (hp : ∀ b G' H', Fra G H G' H' → RelG K G' H' → Qa b G' → Q b H') : LfT K WF wt σ H Q :=
  ⟨ρ, G, Qa, noX, hE, hG, hw, fun d G' v H' f g r q => by cases r; exact hp d G' H' f g q, postX_no⟩
variable {elt tg iter : Expr} {ifs : List Expr} {scope : Scope} {pos : Pos}
theorem se_lcG {z : Bool} (oc : Oc X W Γ k) (hi : PI X tg iter (LfI X.K W wi)) (ok : BlkOk X.N X.env.scope scope own) (hix : ∀ i ∈ tgIx g, i ∈ own.map (·.2))
    (hg : ∀ (s : Shared) (H : Hp) (C : Addr) (cl : List (Str × Addr)) (fp : List Addr), PG (X.blk s H scope (compEnvC scope cl C X.env) fp) tg (LfG X.K g))
    (ht : ∀ (s : Shared) (H : Hp) (C : Addr) (cl : List (Str × Addr)) (fp : List Addr), PTs (X.blk s H scope (compEnvC scope cl C X.env) fp) ifs tt)
    (he : ∀ (s : Shared) (H : Hp) (C : Addr) (cl : List (Str × Addr)) (fp : List Addr), PE (X.blk s H scope (compEnvC scope cl C X.env) fp) elt (LfE X.K WF we)) (hs : ∀ x, foldedSetIterable iter X.env x = pure x)
    (htt : ∀ (σ : L2.St) (H : Hp) (Q : Bool → Hp → Prop) ρ G Qa, RelE X.K H ρ σ → RelG X.K G H → wt ρ G Qa noX → (∀ b G' H', Fra G H G' H' → RelG X.K G' H' → Qa b G' → Q b H') → tt σ H Q) :
    PE X (.ListComp elt [⟨tg, iter, ifs, 0⟩] scope pos) (LfE X.K W (lcG z wi wt we g (own.map (·.2)))) :=
  PE.imp (pe_z (pe_lc oc.calm oc.nd hi ok hg ht he hs)) fun σ H Q h => lc_imp hix σ H Q _ (fun _ _ z => z) htt h
end
end Av
set_option Elab.async false
set_option linter.all false
set_option maxRecDepth 100000
set_option maxHeartbeats 4000000
/-! # AvSl: a slice of a list set to another list, also beyond its end -/
namespace Av
open PySem PySem.Spec PyProof.Rows L2
section
variable {prog : Program} {w : World} {A : Around} {E : Value → Shared → Prop} {s : Shared}
theorem bounds_cut {a c n : Nat} (ha : a ≤ n) (hac : a ≤ c) : sliceBounds (some (a : Int)) (some (c : Int)) none n = ((a : Int), ((min c n : Nat) : Int), 1) := by
  simp only [sliceBounds, Option.getD_none]
  have h1 : ¬ ((a : Int) < 0) := by omega
  have h2 : ¬ ((c : Int) < 0) := by omega
  simp only [h1, h2, if_false, show (1 : Int) > 0 by decide, if_true]
  congr 1
  · omega
  · congr 1; omega
theorem setItem_sliceC {l b sl : Addr} {items new : Array Value} {n n2 : Nat} {vl vu : Value} {a c : Nat} {Q : Unit → Shared → Prop}
    (e : s.heap.get? l = some { cls := .type "list", data := .seq items n }) (e2 : s.heap.get? b = some { cls := .type "list", data := .seq new n2 }) (hne : l ≠ b)
    (hs : s.heap.IsSliceOf sl vl vu .none) (pl : IsPart vl (some (a : Int))) (pu : IsPart vu (some (c : Int))) (ha : a ≤ items.size) (hac : a ≤ c)
    (hsz : items.size + new.size ≤ sizeLine) (h : Q () { s with heap := s.heap.update l (Obj.mapSeq fun xs => xs.extract 0 a ++ new ++ xs.extract (min c items.size) xs.size) }) :
    wpAny (model prog w) A (setItem (.ref l) (.ref sl) (.ref b)) Q E s := by
  have hl : s.heap.IsList l items := PySem.IsL.isList e
  have hb : s.heap.IsList b new := PySem.IsL.isList e2
  obtain ⟨os, hos, hcs, hds⟩ := id hs
  have hTs : s.TypeIs (.ref sl) "slice" := ⟨os, hos, hcs⟩
  have hstep : ¬ ((rawPart none == rawInt 0) = true) := Bool.false_ne_true
  have hsame : Builtin.List.listSameRef (.ref l) (.ref b) = false := by
    unfold Builtin.List.listSameRef
    exact beq_eq_false_iff_ne.mpr hne
  have hmax : (max (a : Int) ((min c items.size : Nat) : Int)).toNat = min c items.size := by omega
  have hz' : ((fun xs : Array Value => xs.extract 0 a ++ new ++ xs.extract (min c items.size) xs.size) items).size ≤ sizeLine + 1 := by
    simp only [Array.size_append, Array.size_extract]
    omega
  unfold setItem
  try with_reducible refine wpAny_holding ?_
  first | refine wpAny_bind (wpAny_pure ?_) | skip
  refine wpAny_bind (wpAny_sequenceKey hl.typeIs (by decide) ?_)
  refine wpAny_bind (wpAny_callSpecial?_slot (name := Str.ofString "__setitem__") hl.typeIs F.slot_list_setitem
    (wpAny_call_entry F.slot_list_setitem hl.typeIs F.entry_list_setitem ?_ (args_list_setitem _ _ _)))
  show wpAny _ _ (Builtin.List.listSubscript? (.ref sl) >>= _) _ _ s
  refine wpAny_bind ?_
  unfold Builtin.List.listSubscript?
  refine wpAny_bind (wpAny_specialOf hTs slice_no_index ?_)
  simp only [Option.isNone_none, if_true]
  refine wpAny_pure ?_
  show wpAny _ _ (typeOf (.ref sl) >>= _) _ _ s
  refine wpAny_bind (wpAny_typeOf hTs ?_)
  first
    | rw [if_neg (by decide)]
    | refine PySem.W.KFB.if_not (by decide) ?_
  rw [listSliceParts_eq]
  refine wpAny_bind (wpAny_bind (wpAny_field hos hds (x := .none) rfl (wpAny_bind (wpAny_listPart .none ?_))))
  rw [if_neg hstep]
  refine wpAny_bind (wpAny_field hos hds (x := vl) rfl (wpAny_bind (wpAny_listPart pl ?_)))
  refine wpAny_bind (wpAny_field hos hds (x := vu) rfl (wpAny_bind (wpAny_listPart pu (wpAny_pure ?_))))
  first
    | simp only [hsame, Bool.false_eq_true, if_false]
    | refine PySem.W.KFB.if_not hsame ?_
    | (dsimp only; rw [if_neg (by rw [hsame]; exact Bool.false_ne_true)])
  refine wpAny_bind (m := Builtin.List.listAllItems (.ref b) "must assign iterable to extended slice") ?_
  unfold Builtin.List.listAllItems
  refine wpAny_bind (wpAny_typeOf hb.typeIs ?_)
  first
    | refine PySem.W.KFB.if_so (by decide) ?_
    | rw [if_pos (by decide)]
    | simp only [beq_self_eq_true, Bool.true_or, if_true]
  unfold Builtin.List.listItems
  refine wpAny_bind (wpAny_seqItems e2 rfl (wpAny_pure ?_))
  refine wpAny_bind (wpAny_bind (wpAny_seqItems e rfl (wpAny_pure ?_)))
  refine wpAny_bind (wpAny_of_eq ((sliceIndices_raw (some (a : Int)) (some (c : Int)) none items.size (by simp)).trans (congrArg (pure : Int × Int × Int → Sem (Int × Int × Int)) (bounds_cut ha hac))) ?_)
  show wpAny _ _ (if ((1 : Int) == 1) = true then _ else _) _ _ s
  rw [if_pos (by decide)]
  refine wpAny_bind (wpAny_rule ?_)
  first
    | simp only [notLongL hsz, Bool.false_eq_true, if_false]
    | refine PySem.W.KFB.if_not (notLongL hsz) ?_
  first | refine wpAny_bind (wpAny_pure ?_) | skip
  show wpAny _ _ (updateSeq l (fun xs => xs.extract 0 ((a : Int)).toNat ++ new ++ xs.extract (max (a : Int) ((min c items.size : Nat) : Int)).toNat xs.size) >>= _) _ _ s
  rw [hmax, Int.toNat_natCast]
  refine wpAny_bind (wpAny_updateSeq (hz := Nat.le_trans (Nat.le_add_right _ _) hsz) (_hz' := hz') e rfl ?_)
  refine wpAny_bind (wpAny_letGo ?_)
  first
    | exact wpAny_bind (wpAny_pure (wpAny_pure ⟨.none, rfl, wpAny_pure h⟩))
    | exact wpAny_pure ⟨.none, rfl, wpAny_pure h⟩
end
section
variable {X : Cx}
theorem set_sliceC {pins : List (Addr × Obj)} {s : Shared} {σ : L2.St} {H : Hp} {l b sl : Addr} {xs ys : List V} {a c : Int} {vl vu : Value} {Q : Unit → Shared → Prop} (I : Inv X pins σ H s)
    (hH : H l = some (.lst xs)) (hB : H b = some (.lst ys)) (hne : l ≠ b) (hs : s.heap.IsSliceOf sl vl vu .none) (ra : RelV (.int a) vl) (rc : RelV (.int c) vu) (h0 : 0 ≤ a) (hac : a ≤ c) (hc : a ≤ xs.length)
    (hz : xs.length + ys.length ≤ sizeLine) (h : ∀ s', Inv X pins σ (upd H l (.lst (xs.take a.toNat ++ ys ++ xs.drop c.toNat))) s' → Q () s') :
    wpAny (model X.prog X.w) X.A (setItem (.ref l) (.ref sl) (.ref b)) Q X.xe s := by
  obtain ⟨ta, rfl⟩ := ra
  obtain ⟨tc, rfl⟩ := rc
  obtain ⟨z, its, n, r, hl, e⟩ := I.lstM hH
  obtain ⟨z2, its2, n2, r2, hl2, e2⟩ := I.lstM hB
  obtain ⟨a', rfl⟩ := Int.eq_ofNat_of_zero_le h0
  obtain ⟨c', rfl⟩ := Int.eq_ofNat_of_zero_le (Int.le_trans h0 hac)
  simp only [Int.toNat_natCast] at h
  refine setItem_sliceC (a := a') (c := c') e e2 hne hs (.int _ _) (.int _ _) (by rw [List.size_toArray]; omega) (by omega) (by rw [List.size_toArray, List.size_toArray]; omega) (h _ ?_)
  refine I.lset (its' := its.take a' ++ its2 ++ its.drop c') (t' := s.toks) hH e ?_ (Vals.append (Vals.append (r.take _) r2) (r.drop _)) ?_
  · have : its.drop c' = its.drop (min c' its.toArray.size) := by
      rw [List.size_toArray]
      by_cases q : c' ≤ its.length
      · rw [Nat.min_eq_left q]
      · rw [Nat.min_eq_right (by omega), List.drop_of_length_le (by omega), List.drop_of_length_le (Nat.le_refl _)]
    rw [this]
    exact splice_eq its its2 a' (min c' its.toArray.size)
  · rw [List.length_append, List.length_append, List.length_take, List.length_drop]
    omega
/-- o[lo:hi] = .. -/
def gSlc (to tl th : TE) : TG := fun v σ H Q => to σ H fun o H1 => tPart tl σ H1 fun lo H2 => tPart th σ H2 fun hi H3 => ∃ (a c : Int) (p b : Addr) (xs ys : List V), lo = some a ∧ hi = some c ∧ o = .ref p ∧ v = .ref b ∧ H3 p = some (.lst xs) ∧ H3 b = some (.lst ys) ∧ p ≠ b ∧ 0 ≤ a ∧ a ≤ c ∧ a ≤ xs.length ∧
  xs.length + ys.length ≤ sizeLine ∧ Q σ (upd H3 p (.lst (xs.take a.toNat ++ ys ++ xs.drop c.toNat)))
theorem pg_slc {o lo hi : Expr} {to tl th : TE} {p2 pos : Pos} (ho : PE X o to) (hl : PE X lo tl) (hu : PE X hi th) : PG X (.Subscript o (.Slice (some lo) (some hi) none p2) pos) (gSlc to tl th) := by
  refine ⟨fun pins s σ H v u Q I r h => ?_⟩
  show wpAny _ _ (do
    let ov ← holding [u] (eval o X.env)
    let iv ← holding [u, ov] (eval (.Slice (some lo) (some hi) none p2) X.env)
    standAt pos
    holding [u, ov, iv] (setItem ov iv u)
    release [iv, u, ov] []) _ _ s
  refine wpAny_bind (wpAny_holding (thn (ho.run pins s σ H _ I h) fun ov s1 ⟨x, H1, I1, r1, q1⟩ => ?_))
  refine wpAny_bind (wpAny_holding ?_)
  refine wpAny_Slice (thn ((po_some hl).run pins s1 σ H1 _ I1 q1) fun vl s2 ⟨l, H2, I2, pl, q2⟩ => thn ((po_some hu).run pins s2 σ H2 _ I2 q2) fun vu s3 ⟨m, H3, I3, pu, q3⟩ => ?_)
  obtain ⟨a, c, p, b, xs, ys, rfl, rfl, rfl, rfl, h1, h2, h3, h4, h5, h6, h7, q⟩ := q3
  obtain rfl : ov = Value.ref p := r1
  obtain rfl : u = Value.ref b := r
  rw [evalPart_none]
  refine wpAny_pure ?_
  have I4 : Inv X pins σ H3 { s3 with heap := s3.heap.push { cls := .type "slice", data := .fields #[vl, vu, .none] } } := I3.kept (t' := s3.toks) fun b ob q => Heap.get?_push_of_some _ q
  refine wpAny_bind (wpAny_standAt (wpAny_bind (wpAny_holding ?_)))
  cases pl
  cases pu
  refine set_sliceC I4 h1 h2 h3 (Heap.IsSliceOf.new ..) ⟨_, rfl⟩ ⟨_, rfl⟩ h4 h5 h6 h7 fun s' I5 => ?_
  exact wpAny_release ⟨σ, _, I5, q⟩
end
end Av
set_option Elab.async false
set_option linter.all false
set_option maxRecDepth 100000
set_option maxHeartbeats 4000000
/-! # Av8: statements -/
namespace Av
open PySem PySem.Spec PyProof.Rows L2
variable [Tb]
/-- the told ends and the tracked ones -/
structure Ln (K : PySem.W.Frag) (W : WX) (G : AG) (H : Hp) (A : AEnds) (D : Ends) : Prop where
  nx : ∀ ρ' G' σ' H', Fra G H G' H' → RelE K H' ρ' σ' → RelG K G' H' → A.nx ρ' G' → D.nx σ' H'
  rt : PostE K G H A.rt D.rt
  bk : ∀ ρ' G' σ' H', Fra G H G' H' → RelE K H' ρ' σ' → RelG K G' H' → A.bk ρ' G' → D.bk σ' H'
  ct : ∀ ρ' G' σ' H', Fra G H G' H' → RelE K H' ρ' σ' → RelG K G' H' → A.ct ρ' G' → D.ct σ' H'
  ex : ∀ ρ' G' σ' H', Fra G H G' H' → RelE K H' ρ' σ' → RelG K G' H' → PostX K G' H' (A.ex ρ') fun c dx H'' => W c dx σ' H''
section
variable {K : PySem.W.Frag} {W : WX} {G G1 : AG} {H H1 : Hp} {A : AEnds} {D : Ends}
theorem Ln.fra (l : Ln K W G H A D) (f : Fra G H G1 H1) : Ln K W G1 H1 A D :=
  ⟨fun a b c d f2 => l.nx a b c d (f.trans f2), l.rt.fra f, fun a b c d f2 => l.bk a b c d (f.trans f2), fun a b c d f2 => l.ct a b c d (f.trans f2), fun a b c d f2 => l.ex a b c d (f.trans f2)⟩
theorem Ln.x (l : Ln K W G H A D) {ρ : Env'} {σ : L2.St} (h : RelE K H ρ σ) (hg : RelG K G H) : PostX K G H (A.ex ρ) fun c dx H'' => W c dx σ H'' := l.ex ρ G σ H .refl h hg
theorem Ln.with (l : Ln K W G H A D) (n : Env' → AG → Prop) (n' : L2.St → Hp → Prop) (h : ∀ ρ' G' σ' H', Fra G H G' H' → RelE K H' ρ' σ' → RelG K G' H' → n ρ' G' → n' σ' H') : Ln K W G H { A with nx := n } { D with nx := n' } := ⟨h, l.rt, l.bk, l.ct, l.ex⟩
end
abbrev WfS := Env' → AG → AEnds → Prop
def LfS (K : PySem.W.Frag) (W : WX) (w : WfS) : TS := fun D σ H => ∃ ρ G A, RelE K H ρ σ ∧ RelG K G H ∧ w ρ G A ∧ Ln K W G H A D
section
variable {X : Cx} {W : WX} {e e1 e2 : Expr} {st : Stmt} {pos : Pos} {we w1 w2 w3 : WfE} {wt : WfT} {wi : WfI} {ws wr : WfS} {a b : List Stmt}
theorem sss_nil : PSs X [] (LfS X.K W fun ρ G A => A.nx ρ G) := PSs.imp pss_nil fun D σ H ⟨ρ, G, A, hE, hG, hw, l⟩ => l.nx ρ G σ H .refl hE hG hw
theorem sss_cons (h1 : PS X st (LfS X.K W ws)) (h2 : PSs X b (LfS X.K W wr)) : PSs X (st :: b) (LfS X.K W fun ρ G A => ws ρ G { A with nx := fun ρ' G' => wr ρ' G' A }) :=
  PSs.imp (pss_cons h1 h2) fun D σ H ⟨ρ, G, A, hE, hG, hw, l⟩ => ⟨ρ, G, _, hE, hG, hw, l.with _ _ fun ρ' G' σ' H' f hE' hG' q => ⟨ρ', G', A, hE', hG', q, l.fra f⟩⟩
theorem ss_set {i : Nat} {x : Str} {pos' : Pos} (hN : X.N.Nodup) (hi : X.N[i]? = some x) (hx : Loc X.env.scope x) (he : PE X e (LfE X.K W we)) (hs : swapsWith e (some (.Name x pos')) pos.line X.env = pure false)
    (hf : X.fn x = true ∨ X.env.scope.names.lookup x = some .local) : PS X (.Assign [.Name x pos'] e pos) (LfS X.K W fun ρ G A => we ρ G (fun d G1 => A.nx (ρ.set i (some d)) G1) (A.ex ρ)) :=
  PS.imp (ps_set hN hi hx he hs hf) fun D σ H ⟨ρ, G, A, hE, hG, hw, l⟩ => ⟨ρ, G, _, _, hE, hG, hw, fun d G1 v H1 f g r q => l.nx _ G1 _ H1 f ((hE.mono (f.stab hG)).set r) g q, l.x hE hG⟩
theorem ps_z {te : TE} {i : Nat} (h : PS X st (tAsg te (gName i))) : PS X st fun D σ H => ∀ Q' : VK, (∀ v H1, Qz (fun x H1 => D.nx (σ.set i (some x)) H1) v H1 → Q' v H1) → te σ H Q' := by
  refine ⟨fun pins s σ H D I hq => ?_⟩
  refine thn (h.run pins s σ H { D with nx := fun σ' H' => D.nx σ' H' ∨ ∃ a vs, H' a = some (.lst vs) ∧ ∀ o, D.nx σ' (upd H' a (.frz o (.lst vs))) } I ?_) fun fl s1 q => ?_
  · refine hq _ fun v H1 q => ?_
    rcases q with q | ⟨a, vs, rfl, ha, q⟩
    · exact .inl q
    · exact .inr ⟨a, vs, ha, q⟩
  · cases fl with
    | brk => exact q
    | cont => exact q
    | ret v => exact q
    | next =>
      obtain ⟨σ1, H1, I1, q | ⟨a, vs, ha, q⟩⟩ := q
      · exact ⟨σ1, H1, I1, q⟩
      · obtain ⟨z, its, n, _, _, ho⟩ := I1.lstM ha
        exact ⟨σ1, _, Inv.frozen I1 ha ho, q _⟩
/-- a comprehension that is stored -/
theorem ss_setLc {z : Bool} {Γ : Gam} {k i : Nat} {y : Str} {py spos : Pos} {own : List (Str × Nat)} {g : TGt} {tt : TT} {elt tg iter : Expr} {ifs : List Expr} {scope : Scope} (oc : Oc X W Γ k) (hy : X.N[i]? = some y) (hyl : X.env.scope.names.lookup y = some .local)
    (hsw : swapsWith (.ListComp elt [⟨tg, iter, ifs, 0⟩] scope pos) (some (.Name y py)) spos.line X.env = pure true) (hi : PI X tg iter (LfI X.K W wi)) (ok : BlkOk X.N X.env.scope scope own) (hix : ∀ i ∈ tgIx g, i ∈ own.map (·.2))
    (hg : ∀ (s : Shared) (H : Hp) (C : Addr) (cl : List (Str × Addr)) (fp : List Addr), PG (X.blk s H scope (compEnvC scope cl C X.env) fp) tg (LfG X.K g))
    (ht : ∀ (s : Shared) (H : Hp) (C : Addr) (cl : List (Str × Addr)) (fp : List Addr), PTs (X.blk s H scope (compEnvC scope cl C X.env) fp) ifs tt)
    (he : ∀ (s : Shared) (H : Hp) (C : Addr) (cl : List (Str × Addr)) (fp : List Addr), PE (X.blk s H scope (compEnvC scope cl C X.env) fp) elt (LfE X.K WF we)) (hs : ∀ x, foldedSetIterable iter X.env x = pure x)
    (htt : ∀ (σ : L2.St) (H : Hp) (Q : Bool → Hp → Prop) ρ G Qa, RelE X.K H ρ σ → RelG X.K G H → wt ρ G Qa noX → (∀ b G' H', Fra G H G' H' → RelG X.K G' H' → Qa b G' → Q b H') → tt σ H Q) :
    PS X (.Assign [.Name y py] (.ListComp elt [⟨tg, iter, ifs, 0⟩] scope pos) spos) (LfS X.K W fun ρ G A => lcG z wi wt we g (own.map (·.2)) ρ G (fun d G1 => A.nx (ρ.set i (some d)) G1) (A.ex ρ)) :=
  PS.imp (ps_z (ps_setLc oc.calm oc.nd hy hyl hsw hi ok hg ht he hs)) fun D σ H ⟨ρ, G, A, hE, hG, hw, l⟩ Q' hq => lc_imp hix σ H _ Q' hq htt ⟨ρ, G, _, _, hE, hG, hw, fun d G1 v H1 f g r q => l.nx _ G1 _ H1 f ((hE.mono (f.stab hG)).set r) g q, l.x hE hG⟩
theorem set_inj {ρ : Env'} {i : Nat} {d d' : Dat} (h : i < ρ.length) (e : ρ.set i (some d) = ρ.set i (some d')) : d = d' := by
  have q := congrArg (fun l : Env' => l[i]?) e
  simp only [List.getElem?_set_self h, Option.some.injEq] at q
  exact q
theorem ss_frz {i : Nat} {x : Str} (hi : X.N[i]? = some x) (h : PS X st (LfS X.K W fun ρ G A => we ρ G (fun d G1 => A.nx (ρ.set i (some d)) G1) (A.ex ρ))) :
    PS X st (LfS X.K W fun ρ G A => we ρ G (fun d G1 => frzW d G1 fun d' G2 => A.nx (ρ.set i (some d')) G2) (A.ex ρ)) := by
  refine ⟨fun pins s σ H D I ⟨ρ, G, A, hE, hG, hw, l⟩ => ?_⟩
  have hlt : i < ρ.length := by
    rw [hE.1, I.len]
    exact (List.getElem?_eq_some_iff.mp hi).1
  let n1 : Env' → AG → Prop := fun ρ' G1 => ∃ d, ρ' = ρ.set i (some d) ∧ frzW d G1 fun d' G2 => A.nx (ρ.set i (some d')) G2
  have eq : (fun d G1 => n1 (ρ.set i (some d)) G1) = (fun d G1 => frzW d G1 fun d' G2 => A.nx (ρ.set i (some d')) G2) := by
    funext d G1
    exact propext ⟨fun ⟨d', e, q⟩ => by rw [set_inj hlt e]; exact q, fun q => ⟨d, rfl, q⟩⟩
  let n2 : L2.St → Hp → Prop := fun σ' H' => ∃ ρ' G', Fra G H G' H' ∧ RelE X.K H' ρ' σ' ∧ RelG X.K G' H' ∧ n1 ρ' G'
  refine thn (h.run pins s σ H { D with nx := n2 } I ⟨ρ, G, { A with nx := n1 }, hE, hG, ?_, l.with n1 n2 fun ρ' G' σ' H' f a b c => ⟨ρ', G', f, a, b, c⟩⟩) fun fl s1 q => ?_
  · show we ρ G (fun d G1 => n1 (ρ.set i (some d)) G1) (A.ex ρ)
    rw [eq]
    exact hw
  · cases fl with
    | brk => exact q
    | cont => exact q
    | ret v => exact q
    | next =>
      obtain ⟨σ1, H1, I1, ρ1, G1, f1, e1, g1, d, rfl, q⟩ := q
      obtain ⟨v, hv, rv⟩ := e1.2 i d (List.getElem?_set_self hlt)
      have fin : ∀ d' G2 H2, Fra G1 H1 G2 H2 → RelG X.K G2 H2 → Rep X.K H2 v d' → A.nx (ρ.set i (some d')) G2 → D.nx σ1 H2 := fun d' G2 H2 f2 g2 r2 q2 => by
        refine l.nx _ G2 σ1 H2 (f1.trans f2) ⟨by rw [List.length_set, ← e1.1, List.length_set], fun j c hj => ?_⟩ g2 q2
        by_cases hij : i = j
        · subst hij
          rw [List.getElem?_set_self hlt] at hj
          cases hj
          exact ⟨v, hv, r2⟩
        · rw [List.getElem?_set_ne hij] at hj
          obtain ⟨u, h1, h2⟩ := e1.2 j c (by rw [List.getElem?_set_ne hij]; exact hj)
          exact ⟨u, h1, h2.mono (f2.stab g1)⟩
      rcases frzW_inv q with ⟨p, ds, rfl, ep, q1⟩ | q1
      · cases rep_r rv
        obtain ⟨vs, h2, h3⟩ := g1.lst ep
        obtain ⟨z, its, n, _, _, ho⟩ := I1.lstM h2
        obtain ⟨f2, g2, r2⟩ := frz_step (o := { cls := .type "list", data := .seq its.toArray n }) g1 ep h2 h3
        exact ⟨σ1, _, Inv.frozen I1 h2 ho, fin _ _ _ f2 g2 r2 q1⟩
      · exact ⟨σ1, H1, I1, fin _ _ _ .refl g1 rv q1⟩
theorem ss_setTp {ts : List Expr} {is : List Nat} {kk : Nat} {pt : Pos} (hc : X.calm = true) (hN : X.N.Nodup) (h : nmsOk X ts is) (he : PE X e (LfE X.K W we)) (hs : swapsWithSole [.Tuple ts kk pt] e pos.line X.env = pure false)
    (hw : swappedStores [.Tuple ts kk pt] e X.env = pure none) : PS X (.Assign [.Tuple ts kk pt] e pos) (LfS X.K W fun ρ G A => we ρ G (fun d G1 => tgW (.tp is) d ρ fun ρ1 => A.nx ρ1 G1) (A.ex ρ)) :=
  PS.imp (ps_asg he (sg_tp (pos := pt) hc hN h) hs hw rfl) fun D σ H ⟨ρ, G, A, hE, hG, hq, l⟩ => ⟨ρ, G, _, _, hE, hG, hq, fun d G1 v H1 f g r q => ⟨ρ, G1, d, _, hE.mono (f.stab hG), g, r, q, fun ρ' σ' e' _ q' => l.nx ρ' G1 σ' H1 f e' g q'⟩, l.x hE hG⟩
theorem ss_par2 {i j : Nat} {x y : Str} {a b : Expr} {px py pt : Pos} {kt k2 pt2} (hc : X.calm = true) (hN : X.N.Nodup) (hi : X.N[i]? = some x) (hj : X.N[j]? = some y) (hij : i ≠ j)
    (hx : X.env.scope.names.lookup x = some .local) (hy : X.env.scope.names.lookup y = some .local) (h1 : PE X a (LfE X.K W w1)) (h2 : PE X b (LfE X.K W w2)) (hs1 : starEach [a, b] X.env = (false, eval a X.env) :: starEach [b] X.env) (hs2 : starEach [b] X.env = [(false, eval b X.env)])
    (hw : swappedStores [.Tuple [.Name x px, .Name y py] kt pt] (.Tuple [a, b] k2 pt2) X.env = pure (some [x, y]))
    (hs : swapsWithSole [.Tuple [.Name x px, .Name y py] kt pt] (.Tuple [a, b] k2 pt2) pos.line X.env = pure false) :
    PS X (.Assign [.Tuple [.Name x px, .Name y py] kt pt] (.Tuple [a, b] k2 pt2) pos) (LfS X.K W fun ρ G A => w1 ρ G (fun x G1 => w2 ρ G1 (fun y G2 => A.nx ((ρ.set i (some x)).set j (some y)) G2) (A.ex ρ)) (A.ex ρ)) :=
  PS.imp (ps_par hc hN hi hj hij hx hy (pa_cons h1 (pa_cons h2 pa_nil hs2) hs1) hw hs) fun D σ H ⟨ρ, G, A, hE, hG, hq, l⟩ => ⟨ρ, G, _, _, hE, hG, hq, fun d G1 v H1 f g r q => ⟨ρ, G1, _, _, hE.mono (f.stab hG), g, q,
    fun d2 G2 u H2 f2 g2 r2 q2 => ⟨v, u, rfl, l.nx _ G2 _ H2 (f.trans f2) (((hE.mono ((f.trans f2).stab hG)).set (r.mono (f2.stab g))).set r2) g2 q2⟩, (l.fra f).x (hE.mono (f.stab hG)) g⟩, l.x hE hG⟩
theorem ss_par3 {i j m : Nat} {x y z : Str} {a b c : Expr} {px py pz pt : Pos} {kt k2 pt2} (hc : X.calm = true) (hN : X.N.Nodup) (hi : X.N[i]? = some x) (hj : X.N[j]? = some y) (hm : X.N[m]? = some z) (hij : i ≠ j) (him : i ≠ m) (hjm : j ≠ m)
    (hx : X.env.scope.names.lookup x = some .local) (hy : X.env.scope.names.lookup y = some .local) (hz : X.env.scope.names.lookup z = some .local) (h1 : PE X a (LfE X.K W w1)) (h2 : PE X b (LfE X.K W w2)) (h3 : PE X c (LfE X.K W w3))
    (hs1 : starEach [a, b, c] X.env = (false, eval a X.env) :: starEach [b, c] X.env) (hs2 : starEach [b, c] X.env = (false, eval b X.env) :: starEach [c] X.env) (hs3 : starEach [c] X.env = [(false, eval c X.env)])
    (hw : swappedStores [.Tuple [.Name x px, .Name y py, .Name z pz] kt pt] (.Tuple [a, b, c] k2 pt2) X.env = pure (some [x, y, z]))
    (hs : swapsWithSole [.Tuple [.Name x px, .Name y py, .Name z pz] kt pt] (.Tuple [a, b, c] k2 pt2) pos.line X.env = pure false) :
    PS X (.Assign [.Tuple [.Name x px, .Name y py, .Name z pz] kt pt] (.Tuple [a, b, c] k2 pt2) pos) (LfS X.K W fun ρ G A => w1 ρ G (fun x G1 => w2 ρ G1 (fun y G2 => w3 ρ G2 (fun z G3 => A.nx (((ρ.set i (some x)).set j (some y)).set m (some z)) G3) (A.ex ρ)) (A.ex ρ)) (A.ex ρ)) :=
  PS.imp (ps_par3 hc hN hi hj hm hij him hjm hx hy hz (pa_cons h1 (pa_cons h2 (pa_cons h3 pa_nil hs3) hs2) hs1) hw hs) fun D σ H ⟨ρ, G, A, hE, hG, hq, l⟩ => ⟨ρ, G, _, _, hE, hG, hq, fun d G1 v H1 f g r q => ⟨ρ, G1, _, _, hE.mono (f.stab hG), g, q,
    fun d2 G2 u H2 f2 g2 r2 q2 => ⟨ρ, G2, _, _, hE.mono ((f.trans f2).stab hG), g2, q2, fun d3 G3 t H3 f3 g3 r3 q3 => ⟨v, u, t, rfl, l.nx _ G3 _ H3 ((f.trans f2).trans f3) ((((hE.mono (((f.trans f2).trans f3).stab hG)).set (r.mono ((f2.trans f3).stab g))).set (r2.mono (f3.stab g2))).set r3) g3 q3⟩,
      (l.fra (f.trans f2)).x (hE.mono ((f.trans f2).stab hG)) g2⟩, (l.fra f).x (hE.mono (f.stab hG)) g⟩, l.x hE hG⟩
theorem ss_expr (he : PE X e (LfE X.K W we)) (hs : swapsWith e none pos.line X.env = pure false) : PS X (.Expr e pos) (LfS X.K W fun ρ G A => we ρ G (fun _ G1 => A.nx ρ G1) (A.ex ρ)) :=
  PS.imp (ps_expr he hs) fun D σ H ⟨ρ, G, A, hE, hG, hw, l⟩ => ⟨ρ, G, _, _, hE, hG, hw, fun d G1 v H1 f g r q => l.nx _ G1 _ H1 f (hE.mono (f.stab hG)) g q, l.x hE hG⟩
theorem ss_ret (he : PE X e (LfE X.K W we)) : PS X (.Return (some e) pos) (LfS X.K W fun ρ G A => we ρ G A.rt (A.ex ρ)) :=
  PS.imp (ps_ret he) fun D σ H ⟨ρ, G, A, hE, hG, hw, l⟩ => ⟨ρ, G, _, _, hE, hG, hw, l.rt, l.x hE hG⟩
theorem ss_retN : PS X (.Return none pos) (LfS X.K W fun ρ G A => A.rt .non G) := PS.imp ps_retN fun D σ H ⟨ρ, G, A, hE, hG, hw, l⟩ => l.rt.val hG .non hw
theorem ss_pass : PS X (.Pass pos) (LfS X.K W fun ρ G A => A.nx ρ G) := PS.imp ps_pass fun D σ H ⟨ρ, G, A, hE, hG, hw, l⟩ => l.nx ρ G σ H .refl hE hG hw
theorem ss_doc {x j pos'} : PS X (.Expr (.Constant (.str x) j pos') pos) (LfS X.K W fun ρ G A => A.nx ρ G) := PS.imp ps_doc fun D σ H ⟨ρ, G, A, hE, hG, hw, l⟩ => l.nx ρ G σ H .refl hE hG hw
theorem ss_brk : PS X (.Break pos) (LfS X.K W fun ρ G A => A.bk ρ G) := PS.imp ps_break fun D σ H ⟨ρ, G, A, hE, hG, hw, l⟩ => l.bk ρ G σ H .refl hE hG hw
theorem ss_cont : PS X (.Continue pos) (LfS X.K W fun ρ G A => A.ct ρ G) := PS.imp ps_continue fun D σ H ⟨ρ, G, A, hE, hG, hw, l⟩ => l.ct ρ G σ H .refl hE hG hw
theorem ss_if (hc : PT X e (LfT X.K W wt)) (ha : PSs X a (LfS X.K W ws)) (hb : PSs X b (LfS X.K W wr)) : PS X (.If e a b pos) (LfS X.K W fun ρ G A => wt ρ G (fun k G1 => if k = true then ws ρ G1 A else wr ρ G1 A) (A.ex ρ)) := by
  refine PS.imp (ps_if hc ha hb) fun D σ H ⟨ρ, G, A, hE, hG, hw, l⟩ => ⟨ρ, G, _, _, hE, hG, hw, fun d G1 v H1 f g r q => ?_, l.x hE hG⟩
  cases r
  cases d with
  | true =>
    rw [if_pos rfl] at q ⊢
    exact ⟨ρ, G1, A, hE.mono (f.stab hG), g, q, l.fra f⟩
  | false =>
    rw [if_neg (by simp)] at q ⊢
    exact ⟨ρ, G1, A, hE.mono (f.stab hG), g, q, l.fra f⟩
theorem ss_while (hp : PassesOwn (model X.prog X.w) X.A X.env X.xe) (hc : PT X e (LfT X.K W wt)) (ha : PSs X a (LfS X.K W ws)) :
    PS X (.While e a [] pos) (LfS X.K W fun ρ G A => ∃ V : Nat → Env' → AG → Prop, (∃ m, V m ρ G) ∧ ∀ m ρ G, V m ρ G →
      wt ρ G (fun k G1 => if k = true then ws ρ G1 { A with nx := fun ρ' G' => ∃ m', m' < m ∧ V m' ρ' G', ct := fun ρ' G' => ∃ m', m' < m ∧ V m' ρ' G', bk := A.nx } else A.nx ρ G1) (A.ex ρ)) := by
  refine PS.imp (ps_while hp hc ha) fun D σ H ⟨ρ, G, A, hE, hG, ⟨V, ⟨m0, v0⟩, hV⟩, l⟩ => ?_
  refine ⟨fun m σ1 H1 => ∃ ρ1 G1, Fra G H G1 H1 ∧ RelE X.K H1 ρ1 σ1 ∧ RelG X.K G1 H1 ∧ V m ρ1 G1, ⟨m0, ρ, G, .refl, hE, hG, v0⟩, ?_⟩
  rintro m σ1 H1 ⟨ρ1, G1, f1, e1, g1, v1⟩
  refine ⟨ρ1, G1, _, _, e1, g1, hV m ρ1 G1 v1, fun d G2 v H2 f2 g2 r q => ?_, (l.fra f1).x e1 g1⟩
  cases r
  cases d with
  | true =>
    rw [if_pos rfl] at q ⊢
    refine ⟨fun σ' H' => ∃ m', m' < m ∧ ∃ ρ' G', Fra G H G' H' ∧ RelE X.K H' ρ' σ' ∧ RelG X.K G' H' ∧ V m' ρ' G', fun σ' H' z => z, ρ1, G2, _, e1.mono (f2.stab g1), g2, q, ?_⟩
    have l2 := l.fra (f1.trans f2)
    have nxt : ∀ ρ' G' σ' H', Fra G2 H2 G' H' → RelE X.K H' ρ' σ' → RelG X.K G' H' → (∃ m', m' < m ∧ V m' ρ' G') → ∃ m', m' < m ∧ ∃ ρ' G', Fra G H G' H' ∧ RelE X.K H' ρ' σ' ∧ RelG X.K G' H' ∧ V m' ρ' G' :=
      fun ρ' G' σ' H' f' a b ⟨m', h1, h2⟩ => ⟨m', h1, ρ', G', (f1.trans f2).trans f', a, b, h2⟩
    exact ⟨nxt, l2.rt, l2.nx, nxt, l2.ex⟩
  | false =>
    rw [if_neg (by simp)] at q ⊢
    exact l.nx ρ1 G2 σ1 H2 (f1.trans f2) (e1.mono (f2.stab g1)) g2 q
theorem ss_for {tg iter : Expr} {g : TGt} (hp : PassesOwn (model X.prog X.w) X.A X.env X.xe) (hc : X.calm = true) (hi : PI X tg iter (LfI X.K W wi)) (hg : PG X tg (LfG X.K g)) (hb : PSs X a (LfS X.K W ws)) (hs : ∀ x, foldedSetIterable iter X.env x = pure x) :
    PS X (.For tg iter a [] pos) (LfS X.K W fun ρ G A => wi ρ G (fun ds gd G1 => forW ws g gd A ds ρ G1) (A.ex ρ)) := by
  refine PS.imp (ps_for hp hc hi hg hb hs) fun D σ H ⟨ρ, G, A, hE, hG, hw, l⟩ => ⟨ρ, G, _, _, hE, hG, hw, fun ds gd G1 J H1 f1 g1 gk1 it q1 => ?_, l.x hE hG⟩
  refine ⟨fun i m σ2 H2 => m = ds.length - i ∧ i ≤ ds.length ∧ ∃ ρ2 G2, Fra G1 H1 G2 H2 ∧ RelE X.K H2 ρ2 σ2 ∧ RelG X.K G2 H2 ∧ forW ws g gd A (ds.drop i) ρ2 G2, ⟨ds.length, by simp, Nat.zero_le _, ρ, G1, .refl, hE.mono (f1.stab hG), g1, q1⟩, ?_⟩
  rintro i m σ2 H2 ⟨rfl, hi', ρ2, G2, f2, e2, g2, w2⟩
  have st2 := f2.stab g1
  by_cases hlt : i < ds.length
  · rw [List.drop_eq_getElem_cons hlt] at w2
    obtain ⟨gk, w2⟩ := w2
    refine .inr ⟨it.go i H2 G2 st2 g2 gk hlt, fun σ' H' => ∃ ρ' G', Fra G1 H1 G' H' ∧ RelE X.K H' ρ' σ' ∧ RelG X.K G' H' ∧ forW ws g gd A (ds.drop (i + 1)) ρ' G', fun σ' H' q => ⟨ds.length - (i + 1), by omega, rfl, hlt, q⟩, fun x H3 hy => ?_⟩
    obtain ⟨d, hd, f3, g3, rx⟩ := it.yld i H2 G2 x H3 st2 g2 gk hlt hy
    rw [List.getElem?_eq_getElem hlt] at hd
    cases hd
    have f13 := f2.trans f3
    refine ⟨ρ2, G2, _, _, e2.mono (f3.stab g2), g3, rx, w2, fun ρ3 σ3 e3 _ w3 => ⟨ρ3, G2, _, e3, g3, w3, ?_⟩⟩
    have l3 := l.fra (f1.trans f13)
    have nxt : ∀ ρ' G' σ' H', Fra G2 H3 G' H' → RelE X.K H' ρ' σ' → RelG X.K G' H' → forW ws g gd A (ds.drop (i + 1)) ρ' G' → ∃ ρ' G', Fra G1 H1 G' H' ∧ RelE X.K H' ρ' σ' ∧ RelG X.K G' H' ∧ forW ws g gd A (ds.drop (i + 1)) ρ' G' :=
      fun ρ' G' σ' H' f' a b c => ⟨ρ', G', f13.trans f', a, b, c⟩
    exact ⟨nxt, l3.rt, l3.nx, nxt, l3.ex⟩
  · have e : i = ds.length := by omega
    subst e
    rw [List.drop_length] at w2
    exact .inl ⟨it.stop _ H2 G2 st2 g2 w2.1 (Nat.le_refl _), l.nx ρ2 G2 σ2 H2 (f1.trans f2) e2 g2 w2.2⟩
theorem setW_inv {x k v : Dat} {G : AG} {Q : AG → Prop} (h : setW x k v G Q) : ∃ p i ds j, x = .ref p ∧ k = .int i ∧ G p = some (.lst ds) ∧ ixN ds.length i = some j ∧ Q (gu G p (.lst (ds.set j v))) := by
  cases x <;> cases k <;> first | exact False.elim h | skip
  obtain ⟨ds, j, h1, h2, h3⟩ := h
  exact ⟨_, _, ds, j, rfl, rfl, h1, h2, h3⟩
theorem ss_setIx {o i : Expr} {pt : Pos} (he : PE X e (LfE X.K W w1)) (ho : PE X o (LfE X.K W w2)) (hi : PE X i (LfE X.K W w3)) (hs : swapsWithSole [.Subscript o i pt] e pos.line X.env = pure false) (hw : swappedStores [.Subscript o i pt] e X.env = pure none)
    (h1 : (assignEach [.Subscript o i pt] X.env).map (·.2) = [assign (.Subscript o i pt) X.env])
    (ha : ∀ v, assign (.Subscript o i pt) X.env v = (do
      let ov ← holding [v] (eval o X.env)
      let iv ← holding [v, ov] (eval i X.env)
      standAt pt
      holding [v, ov, iv] (setItem ov iv v)
      release [v, ov, iv] [])) :
    PS X (.Assign [.Subscript o i pt] e pos) (LfS X.K W fun ρ G A => w1 ρ G (fun v G1 => w2 ρ G1 (fun x G2 => w3 ρ G2 (fun k G3 => setW x k v G3 fun G4 => A.nx ρ G4) (A.ex ρ)) (A.ex ρ)) (A.ex ρ)) := by
  refine PS.imp (ps_asg he (pg_sub ho hi set_list ha) hs hw h1) fun D σ H ⟨ρ, G, A, hE, hG, hq, l⟩ => ⟨ρ, G, _, _, hE, hG, hq, fun d G1 v H1 f g r q => ⟨ρ, G1, _, _, hE.mono (f.stab hG), g, q,
    fun d2 G2 u H2 f2 g2 r2 q2 => ⟨ρ, G2, _, _, hE.mono ((f.trans f2).stab hG), g2, q2, fun d3 G3 t H3 f3 g3 r3 q3 => ?_, (l.fra (f.trans f2)).x (hE.mono ((f.trans f2).stab hG)) g2⟩, (l.fra f).x (hE.mono (f.stab hG)) g⟩, l.x hE hG⟩
  obtain ⟨p, m, ds, j, rfl, rfl, k1, k2, k3⟩ := setW_inv q3
  cases rep_r (r2.mono (f3.stab g2))
  cases rep_i r3
  obtain ⟨vs, h4, h5⟩ := g3.lst k1
  have rv := r.mono ((f2.trans f3).stab g)
  have f4 := (f.trans f2).trans f3
  have f5 : Fra G3 H3 (gu G3 p (.lst (ds.set j d))) (upd H3 p (.lst (vs.set j v))) := .set k1
  refine ⟨p, vs, m, j, rfl, rfl, h4, by rw [h5.length]; exact k2, l.nx ρ _ σ _ (f4.trans f5) (hE.mono ((f4.trans f5).stab hG)) (g3.set k1 (show AOk X.K _ p (.lst (ds.set j d)) from ⟨_, upd_same, (h5.set rv j).mono (.lst h4)⟩)) k3⟩
theorem slsW_inv {x v : Dat} {a c : Int} {G : AG} {Q : AG → Prop} (h : slsW x v a c G Q) : ∃ p b ds es, x = .ref p ∧ v = .ref b ∧ G p = some (.lst ds) ∧ G b = some (.lst es) ∧ p ≠ b ∧ 0 ≤ a ∧ a ≤ c ∧ a ≤ ds.length ∧ ds.length + es.length ≤ sizeLine ∧ Q (gu G p (.lst (ds.take a.toNat ++ es ++ ds.drop c.toNat))) := by
  unfold slsW at h
  split at h
  · obtain ⟨ds, es, h⟩ := h
    exact ⟨_, _, ds, es, rfl, rfl, h⟩
  · exact False.elim h
theorem ss_setSl {o lo hi : Expr} {pt p2 : Pos} {w4 : Env' → AG → AQ → AX → Prop} (he : PE X e (LfE X.K W w1)) (ho : PE X o (LfE X.K W w2)) (hl : PE X lo (LfE X.K W w3)) (hu : PE X hi (LfE X.K W w4)) (hs : swapsWithSole [.Subscript o (.Slice (some lo) (some hi) none p2) pt] e pos.line X.env = pure false) (hw : swappedStores [.Subscript o (.Slice (some lo) (some hi) none p2) pt] e X.env = pure none)
    (h1 : (assignEach [.Subscript o (.Slice (some lo) (some hi) none p2) pt] X.env).map (·.2) = [assign (.Subscript o (.Slice (some lo) (some hi) none p2) pt) X.env]) :
    PS X (.Assign [.Subscript o (.Slice (some lo) (some hi) none p2) pt] e pos) (LfS X.K W fun ρ G A => w1 ρ G (fun v G1 => w2 ρ G1 (fun x G2 => w3 ρ G2 (intK fun a G3 => w4 ρ G3 (intK fun c G4 => slsW x v a c G4 fun G5 => A.nx ρ G5) (A.ex ρ)) (A.ex ρ)) (A.ex ρ)) (A.ex ρ)) := by
  refine PS.imp (ps_asg he (pg_slc ho hl hu) hs hw h1) fun D σ H ⟨ρ, G, A, hE, hG, hq, l⟩ => ⟨ρ, G, _, _, hE, hG, hq, fun d G1 v H1 f g r q => ⟨ρ, G1, _, _, hE.mono (f.stab hG), g, q,
    fun d2 G2 u H2 f2 g2 r2 q2 => ⟨ρ, G2, _, _, hE.mono ((f.trans f2).stab hG), g2, q2, fun d3 G3 t H3 f3 g3 r3 q3 => ?_, (l.fra (f.trans f2)).x (hE.mono ((f.trans f2).stab hG)) g2⟩, (l.fra f).x (hE.mono (f.stab hG)) g⟩, l.x hE hG⟩
  obtain ⟨a, rfl, q3⟩ := intK_inv q3
  cases rep_i r3
  refine ⟨a, rfl, ρ, G3, _, _, hE.mono (((f.trans f2).trans f3).stab hG), g3, q3, fun d4 G4 t4 H4 f4 g4 r4 q4 => ?_, (l.fra ((f.trans f2).trans f3)).x (hE.mono (((f.trans f2).trans f3).stab hG)) g3⟩
  obtain ⟨c, rfl, q4⟩ := intK_inv q4
  cases rep_i r4
  obtain ⟨p, b, ds, es, rfl, rfl, k1, k2, k3, k4, k5, k6, k7, k8⟩ := slsW_inv q4
  have f34 := f3.trans f4
  cases rep_r (r2.mono (f34.stab g2))
  have f24 := f2.trans f34
  cases rep_r (r.mono (f24.stab g))
  obtain ⟨vs, h4, h5⟩ := g4.lst k1
  obtain ⟨us, h6, h7⟩ := g4.lst k2
  have f5 := f.trans f24
  have f6 : Fra G4 H4 (gu G4 p (.lst (ds.take a.toNat ++ es ++ ds.drop c.toNat))) (upd H4 p (.lst (vs.take a.toNat ++ us ++ vs.drop c.toNat))) := .set k1
  refine ⟨c, rfl, a, c, p, b, vs, us, rfl, rfl, rfl, rfl, h4, h6, k3, k4, k5, by rw [h5.length]; exact k6, by rw [h5.length, h7.length]; exact k7, l.nx ρ _ σ _ (f5.trans f6) (hE.mono ((f5.trans f6).stab hG)) (g4.set k1 (show AOk X.K _ p (.lst (ds.take a.toNat ++ es ++ ds.drop c.toNat)) from ⟨_, upd_same, (((h5.take a.toNat).append h7).append (h5.drop c.toNat)).mono (.lst h4)⟩)) k8⟩
theorem ss_setIN {o i : Expr} {pt px ptt : Pos} {x : Str} {j kk : Nat} (hc : X.calm = true) (hN : X.N.Nodup) (h : nmsOk X [.Name x px] [j]) (he : PE X e (LfE X.K W w1)) (ho : PE X o (LfE X.K W w2)) (hi : PE X i (LfE X.K W w3))
    (hs : swapsWithSole [.Tuple [.Subscript o i pt, .Name x px] kk ptt] e pos.line X.env = pure false) (hw : swappedStores [.Tuple [.Subscript o i pt, .Name x px] kk ptt] e X.env = pure none)
    (ha : ∀ v, assign (.Subscript o i pt) X.env v = (do
      let ov ← holding [v] (eval o X.env)
      let iv ← holding [v, ov] (eval i X.env)
      standAt pt
      holding [v, ov, iv] (setItem ov iv v)
      release [v, ov, iv] [])) :
    PS X (.Assign [.Tuple [.Subscript o i pt, .Name x px] kk ptt] e pos) (LfS X.K W fun ρ G A => w1 ρ G (fun d G1 => ∃ a b, d = .tup [a, b] ∧ w2 ρ G1 (fun x G2 => w3 ρ G2 (fun k G3 => setW x k a G3 fun G4 => A.nx (ρ.set j (some b)) G4) (A.ex ρ)) (A.ex ρ)) (A.ex ρ)) := by
  obtain ⟨⟨x1, x2, x3⟩, _⟩ := h
  refine PS.imp (ps_asg he (pg_tup (n := 2) hc (pgs_cons (pg_sub ho hi set_list ha) (pgs_cons (pg_name hN x1 x2 x3) pgs_nil)) rfl rfl) hs hw rfl) fun D σ H ⟨ρ, G, A, hE, hG, hq, l⟩ => ⟨ρ, G, _, _, hE, hG, hq, fun d G1 v H1 f g r q => ?_, l.x hE hG⟩
  obtain ⟨a, b, rfl, q⟩ := q
  obtain ⟨t, vs, rfl, k1, k2⟩ := rep_t r
  obtain ⟨va, vb, rfl, ra, rb⟩ := reps2 k2
  refine ⟨t, [va, vb], rfl, k1.sq, rfl, va, [vb], rfl, ?_⟩
  refine ⟨ρ, G1, _, _, hE.mono (f.stab hG), g, q, fun d2 G2 u H2 f2 g2 r2 q2 => ⟨ρ, G2, _, _, hE.mono ((f.trans f2).stab hG), g2, q2, fun d3 G3 t3 H3 f3 g3 r3 q3 => ?_, (l.fra (f.trans f2)).x (hE.mono ((f.trans f2).stab hG)) g2⟩, (l.fra f).x (hE.mono (f.stab hG)) g⟩
  obtain ⟨p, m, ds, jj, rfl, rfl, k3, k4, k5⟩ := setW_inv q3
  cases rep_r (r2.mono (f3.stab g2))
  cases rep_i r3
  obtain ⟨vs, h4, h5⟩ := g3.lst k3
  have rv := ra.mono ((f2.trans f3).stab g)
  have f4 := (f.trans f2).trans f3
  have f5 : Fra G3 H3 (gu G3 p (.lst (ds.set jj a))) (upd H3 p (.lst (vs.set jj va))) := .set k3
  refine ⟨p, vs, m, jj, rfl, rfl, h4, by rw [h5.length]; exact k4, vb, [], rfl, rfl, ?_⟩
  exact l.nx _ _ _ _ (f4.trans f5) ((hE.mono ((f4.trans f5).stab hG)).set (rb.mono (((f2.trans f3).trans f5).stab g))) (g3.set k3 (show AOk X.K _ p (.lst (ds.set jj a)) from ⟨_, upd_same, (h5.set rv jj).mono (.lst h4)⟩)) k5
theorem ss_setAtt {Γ : Gam} {k : Nat} {o : Expr} {f : Str} {pt : Pos} (oc : Oc X W Γ k) (he : PE X e (LfE X.K W w1)) (ho : PE X o (LfE X.K W w2)) (hs : swapsWith e (some (.Attribute o f pt)) pos.line X.env = pure false) :
    PS X (.Assign [.Attribute o f pt] e pos) (LfS X.K W fun ρ G A => w1 ρ G (fun v G1 => w2 ρ G1 (fun x G2 => satW Γ f v x G2 fun G3 => A.nx ρ G3) (A.ex ρ)) (A.ex ρ)) := by
  refine PS.imp (ps_fld ho he hs) fun D σ H ⟨ρ, G, A, hE, hG, hq, l⟩ => ⟨ρ, G, _, _, hE, hG, hq, fun d G1 v H1 fr g r q => ⟨ρ, G1, _, _, hE.mono (fr.stab hG), g, q, fun d2 G2 u H2 f2 g2 r2 q2 => ?_, (l.fra fr).x (hE.mono (fr.stab hG)) g⟩, l.x hE hG⟩
  obtain ⟨p, C, fs, rfl, k1, k2, k3, k4⟩ := satW_inv q2
  cases rep_r r2
  obtain ⟨dx, vf, k5, k6⟩ := g2.ins k1
  obtain ⟨c1, c2⟩ := oc.tb.at_ C f k2
  have f12 := fr.trans f2
  have f3 : Fra G2 H2 (gu G2 p (.ins C (putD f d fs))) (upd H2 p (.ins (He.ga X.K C) dx (putF f v vf))) := .set k1
  have st := g2.stabSet (o := .ins (He.ga X.K C) dx (putF f v vf)) k1
  have rv := r.mono (f2.stab g)
  exact ⟨p, _, dx, vf, rfl, k5, c1, c2, by rw [kr_len k6]; exact k3, l.nx ρ _ σ _ (f12.trans f3) (hE.mono ((f12.trans f3).stab hG)) (g2.set k1 (show AOk X.K _ p (.ins C (putD f d fs)) from ⟨dx, _, upd_same, KRel.mono st (kr_put rv k6)⟩)) k4⟩
/-- o.f = a value that is at hand -/
def gFld (K : PySem.W.Frag) (ta : TE) (f : Str) : TG := fun v σ H Q => ta σ H fun x H1 => ∃ a C dx fs, x = .ref a ∧ H1 a = some (.ins C dx fs) ∧ Cls K C ∧ NoAttr K C f ∧ fs.length < 1000 ∧ Q σ (upd H1 a (.ins C dx (putF f v fs)))
theorem pg_fld {X : Cx} {o : Expr} {f : Str} {pt : Pos} {ta : TE} (ho : PE X o ta) : PG X (.Attribute o f pt) (gFld X.K ta f) := by
  refine ⟨fun pins s σ H v u Q I r h => ?_⟩
  rw [assign_Attribute]
  refine wpAny_bind (wpAny_holding (thn (ho.run pins s σ H _ I h) fun ov s1 ⟨x, H1, I1, r1, a, C, dx, fs, ex, ea, c, n, l, q⟩ => ?_))
  subst ex
  obtain rfl : ov = Value.ref a := r1
  refine wpAny_bind (wpAny_standAt (wpAny_bind (wpAny_holding (setattr_ok I1 ea c n l r fun s3 I3 => ?_))))
  exact wpAny_release ⟨σ, _, I3, q⟩
theorem ss_setAt2 {Γ : Gam} {k : Nat} {o o' : Expr} {f f' : Str} {pt pt' ptt : Pos} {kk : Nat} (oc : Oc X W Γ k) (he : PE X e (LfE X.K W w1)) (ho : PE X o (LfE X.K W w2)) (ho' : PE X o' (LfE X.K W w2))
    (hs : swapsWithSole [.Tuple [.Attribute o f pt, .Attribute o' f' pt'] kk ptt] e pos.line X.env = pure false) (hw : swappedStores [.Tuple [.Attribute o f pt, .Attribute o' f' pt'] kk ptt] e X.env = pure none) :
    PS X (.Assign [.Tuple [.Attribute o f pt, .Attribute o' f' pt'] kk ptt] e pos) (LfS X.K W fun ρ G A => w1 ρ G (fun d G1 => ∃ a b, d = .tup [a, b] ∧ w2 ρ G1 (fun x G2 => satW Γ f a x G2 fun G3 => w2 ρ G3 (fun y G4 => satW Γ f' b y G4 fun G5 => A.nx ρ G5) (A.ex ρ)) (A.ex ρ)) (A.ex ρ)) := by
  refine PS.imp (ps_asg he (pg_tup (n := 2) oc.calm (pgs_cons (pg_fld ho) (pgs_cons (pg_fld ho') pgs_nil)) rfl rfl) hs hw rfl) fun D σ H ⟨ρ, G, A, hE, hG, hq, l⟩ => ⟨ρ, G, _, _, hE, hG, hq, fun d G1 v H1 fr g r q => ?_, l.x hE hG⟩
  obtain ⟨a, b, rfl, q⟩ := q
  obtain ⟨t, vs, rfl, k1, k2⟩ := rep_t r
  obtain ⟨va, vb, rfl, ra, rb⟩ := reps2 k2
  refine ⟨t, [va, vb], rfl, k1.sq, rfl, va, [vb], rfl, ?_⟩
  refine ⟨ρ, G1, _, _, hE.mono (fr.stab hG), g, q, fun d2 G2 u H2 f2 g2 r2 q2 => ?_, (l.fra fr).x (hE.mono (fr.stab hG)) g⟩
  obtain ⟨p, C, fs, rfl, k1, k2, k3, k4⟩ := satW_inv q2
  cases rep_r r2
  obtain ⟨dx, vf, k5, k6⟩ := g2.ins k1
  obtain ⟨c1, c2⟩ := oc.tb.at_ C f k2
  have f12 := fr.trans f2
  have f3 : Fra G2 H2 (gu G2 p (.ins C (putD f a fs))) (upd H2 p (.ins (He.ga X.K C) dx (putF f va vf))) := .set k1
  have st := g2.stabSet (o := .ins (He.ga X.K C) dx (putF f va vf)) k1
  have rv := ra.mono (f2.stab g)
  have g3 := g2.set k1 (show AOk X.K _ p (.ins C (putD f a fs)) from ⟨dx, _, upd_same, KRel.mono st (kr_put rv k6)⟩)
  have f123 := f12.trans f3
  refine ⟨p, _, dx, vf, rfl, k5, c1, c2, by rw [kr_len k6]; exact k3, vb, [], rfl, ?_⟩
  refine ⟨ρ, _, _, _, hE.mono (f123.stab hG), g3, k4, fun d4 G4 w H4 f4 g4 r4 q4 => ?_, (l.fra f123).x (hE.mono (f123.stab hG)) g3⟩
  obtain ⟨p', C', fs', rfl, m1, m2, m3, m4⟩ := satW_inv q4
  cases rep_r r4
  obtain ⟨dx', vf', m5, m6⟩ := g4.ins m1
  obtain ⟨e1, e2⟩ := oc.tb.at_ C' f' m2
  have f1234 := f123.trans f4
  have f5 : Fra G4 H4 (gu G4 p' (.ins C' (putD f' b fs'))) (upd H4 p' (.ins (He.ga X.K C') dx' (putF f' vb vf'))) := .set m1
  have st' := g4.stabSet (o := .ins (He.ga X.K C') dx' (putF f' vb vf')) m1
  have rv' := rb.mono (((f2.trans f3).trans f4).stab g)
  exact ⟨p', _, dx', vf', rfl, m5, e1, e2, by rw [kr_len m6]; exact m3, rfl, l.nx ρ _ σ _ (f1234.trans f5) (hE.mono ((f1234.trans f5).stab hG)) (g4.set m1 (show AOk X.K _ p' (.ins C' (putD f' b fs')) from ⟨dx', _, upd_same, KRel.mono st' (kr_put rv' m6)⟩)) m4⟩
theorem ss_dset {Γ : Gam} {k : Nat} {o i : Expr} {pt : Pos} (oc : Oc X W Γ k) (he : PE X e (LfE X.K W w1)) (ho : PE X o (LfE X.K W w2)) (hi : PE X i (LfE X.K W w3)) (hs : swapsWith e (some (.Subscript o i pt)) pos.line X.env = pure false) :
    PS X (.Assign [.Subscript o i pt] e pos) (LfS X.K W fun ρ G A => w1 ρ G (fun v G1 => w2 ρ G1 (fun x G2 => w3 ρ G2 (fun k G3 => dsetW x k v G3 fun G4 => A.nx ρ G4) (A.ex ρ)) (A.ex ρ)) (A.ex ρ)) := by
  refine PS.imp (ps_dput oc.u1 ho hi he hs) fun D σ H ⟨ρ, G, A, hE, hG, hq, l⟩ => ⟨ρ, G, _, _, hE, hG, hq, fun d G1 v H1 f g r q => ⟨ρ, G1, _, _, hE.mono (f.stab hG), g, q,
    fun d2 G2 u H2 f2 g2 r2 q2 => ⟨ρ, G2, _, _, hE.mono ((f.trans f2).stab hG), g2, q2, fun d3 G3 t H3 f3 g3 r3 q3 => ?_, (l.fra (f.trans f2)).x (hE.mono ((f.trans f2).stab hG)) g2⟩, (l.fra f).x (hE.mono (f.stab hG)) g⟩, l.x hE hG⟩
  obtain ⟨p, kvs, y, rfl, k1, k2, k3, k4⟩ := dsetW_inv q3
  cases rep_r (r2.mono (f3.stab g2))
  cases keyD_rep r3 k2
  obtain ⟨vk, k5, k6⟩ := g3.dk k1
  have rv := r.mono ((f2.trans f3).stab g)
  have st := g3.stabSet (o := .dK (putK vk y v)) k1
  have f5 : Fra G3 H3 (gu G3 p (.dk (putKD kvs y d))) (upd H3 p (.dK (putK vk y v))) := .set k1
  have f6 := ((f.trans f2).trans f3).trans f5
  exact ⟨p, _, rfl, .inl ⟨vk, y, k5, rfl, by rw [kd_len k6]; exact k3, rfl⟩, l.nx ρ _ σ _ f6 (hE.mono (f6.stab hG)) (g3.set k1 (show AOk X.K _ p (.dk (putKD kvs y d)) from ⟨_, upd_same, KRel.mono st (kd_put rv k6)⟩)) k4⟩
theorem ss_raise {Γ : Gam} {k : Nat} {C : Str} {es : List Expr} {p pc : Pos} {wa : Env' → AG → (List Dat → AG → Prop) → AX → Prop} (oc : Oc X W Γ k) (hg : Gl X C) (hdb : (C == ("__debug__" : Str)) = false) (ha : PA X (e :: es) (LfA X.K W wa))
    (hst : starEach (e :: es) X.env = (false, eval e X.env) :: starEach es X.env) (hpl : (backTo pc (starEach es X.env)).any (·.1) = false) :
    PS X (.Raise (some (.Call (.Name C p) (e :: es) [] pc)) none pos) (LfS X.K W fun ρ G A => ∃ fl, Γ.xc C = some fl ∧ fl ≠ [] ∧ wa ρ G (fun ds G1 => ds.length = fl.length ∧ A.ex ρ C (fl.zip ds).reverse G1) (A.ex ρ)) := by
  refine ⟨fun pins s σ H D I ⟨ρ, G, A, hE, hG, ⟨fl, hF, h0, hq⟩, l⟩ => ?_⟩
  have hm := mk_raise (p := p) (pos := pc) oc hF h0 hg hdb ha hst hpl
  exact (ps_raise oc.calm oc.tk hm).run pins s σ H D I ⟨ρ, G, A.ex ρ, hE, hG, hq, l.x hE hG, l.x hE hG⟩
theorem ss_raise0 {Γ : Gam} {k : Nat} {C : Str} {p pc : Pos} (oc : Oc X W Γ k) (hg : Gl X C) (hdb : (C == ("__debug__" : Str)) = false) :
    PS X (.Raise (some (.Call (.Name C p) [] [] pc)) none pos) (LfS X.K W fun ρ G A => Γ.xc C = some [] ∧ A.ex ρ C [] G) := by
  refine ⟨fun pins s σ H D I ⟨ρ, G, A, hE, hG, ⟨hF, hq⟩, l⟩ => ?_⟩
  have hm := mk_raise0 (p := p) (pos := pc) oc hF hg hdb
  exact (ps_raise oc.calm oc.tk hm).run pins s σ H D I ⟨G, A.ex ρ, hG, hq, l.x hE hG⟩
theorem ss_aug {i : Nat} {x : Str} {o : BO} {pos' : Pos} (hN : X.N.Nodup) (hi : X.N[i]? = some x) (hx : Loc X.env.scope x) (he : PE X e (LfE X.K W we)) (ho : o = .add ∨ o = .sub) (hf : X.fn x = true ∨ X.env.scope.names.lookup x = some .local) :
    PS X (.AugAssign (.Name x pos') o.op e pos) (LfS X.K W fun ρ G A => match ρ[i]? with
      | some (some x) => we ρ G (fun y G1 => augW o x y G1 fun z G2 => A.nx (ρ.set i (some z)) G2) (A.ex ρ)
      | _ => False) := by
  have main : ∀ (g : Int → Int → Int), PIp X o.op (ipI g) → (∀ x y G Q, augW o x y G Q → ∃ i j, x = .int i ∧ y = .int j ∧ Q (.int (g i j)) G) → PS X (.AugAssign (.Name x pos') o.op e pos) (LfS X.K W fun ρ G A => match ρ[i]? with
      | some (some x) => we ρ G (fun y G1 => augW o x y G1 fun z G2 => A.nx (ρ.set i (some z)) G2) (A.ex ρ)
      | _ => False) := fun g hg hq => by
    refine PS.imp (ps_aug hN hi hx he hg hf) fun D σ H ⟨ρ, G, A, hE, hG, hw, l⟩ => ?_
    dsimp only at hw
    cases e1 : ρ[i]? with
    | none => rw [e1] at hw; exact False.elim hw
    | some od =>
      cases od with
      | none => rw [e1] at hw; exact False.elim hw
      | some d =>
        rw [e1] at hw
        obtain ⟨v, h1, h2⟩ := hE.2 i d e1
        refine ⟨v, h1, ρ, G, _, _, hE, hG, hw, fun y G1 u H1 f g1 r q => ?_, l.x hE hG⟩
        obtain ⟨m, n, rfl, rfl, q2⟩ := hq _ _ _ _ q
        cases rep_i h2
        cases rep_i r
        exact ⟨m, n, rfl, rfl, l.nx _ G1 _ H1 f ((hE.mono (f.stab hG)).set (.int _)) g1 q2⟩
  rcases ho with rfl | rfl
  · exact main _ ip_add fun x y G Q h => by cases x <;> cases y <;> first | exact ⟨_, _, rfl, rfl, h⟩ | exact False.elim h
  · exact main _ ip_sub fun x y G Q h => by cases x <;> cases y <;> first | exact ⟨_, _, rfl, rfl, h⟩ | exact False.elim h
end
end Av
set_option Elab.async false
set_option linter.all false
set_option maxRecDepth 100000
set_option maxHeartbeats 4000000
/-! # Av9: a checker of bodies against words, and what it says -/
namespace Av
open PySem PySem.Spec PyProof.Rows L2
variable [Tb]
structure Ck where
  N : List Str
  sc : Scope
  top : Bool
  /-- the parts that a made function of a number may have, the names that it captures -/
  isL : Nat → LamP → Bool := fun _ _ => false
  fr : Nat → List Str := fun _ => []
def visB (sc : Scope) (x : Str) : Bool := match sc.names.lookup x with
  | some .local => true
  | some .cell => true
  | some .free => true
  | _ => false
def glB (sc : Scope) (x : Str) : Bool := match sc.names.lookup x with
  | some .globalImplicit => true
  | _ => false
def lclB (sc : Scope) (x : Str) : Bool := match sc.names.lookup x with
  | some .local => true
  | _ => false
def celB (sc : Scope) (x : Str) : Bool := match sc.names.lookup x with
  | some .cell => true
  | _ => false
def okNm (x : Str) : Bool := !(x == ("__debug__" : Str)) && !(x == ("__classdict__" : Str)) && !(x == ("__name__" : Str))
def varB (C : Ck) (i : Nat) (x : Str) : Bool := (C.N[i]? == some x) && visB C.sc x && okNm x
def gloB (C : Ck) (x : Str) : Bool := glB C.sc x && okNm x
def locB (C : Ck) (i : Nat) (x : Str) : Bool := (C.N[i]? == some x) && (lclB C.sc x || (celB C.sc x && C.top))
def noStar : Expr → Bool
  | .Starred .. => false
  | _ => true
def noComp : Expr → Bool
  | .ListComp .. => false | .SetComp .. => false | .DictComp .. => false
  | _ => true
def noTup : Expr → Bool
  | .Tuple .. => false | .List .. => false
  | _ => true
def noSet : Expr → Bool
  | .Set .. => false
  | _ => true
def noSlice : Expr → Bool
  | .Slice .. => false
  | _ => true
/-- not super() -/
def noCall : Expr → Bool
  | .Call (.Name id _) [] [] _ => !(id == ("super" : Str))
  | _ => true
def isTup : Expr → Bool
  | .Tuple .. => true
  | _ => false
/-- a test by truth -/
def valB : Expr → Bool
  | .UnaryOp .. => false | .BoolOp .. => false | .IfExp .. => false | .Compare .. => false
  | _ => true
def cstB : Dat → Const → Bool
  | .int i, .int j => i == j
  | .str i, .str j => i == j
  | .bl i, .bool j => i == j
  | .non, .none => true
  | _, _ => false
def ownN (N : List Str) (own : List Nat) : List (Str × Nat) := own.filterMap fun i => (N[i]?).map fun x => (x, i)
def namesB (C : Ck) : List Expr → List Nat → Bool
  | [], [] => true
  | .Name x _ :: ts, i :: is => locB C i x && namesB C ts is
  | _, _ => false
def corG (C : Ck) : TGt → Expr → Bool
  | .nm i, .Name x _ => locB C i x
  | .tp is, .Tuple ts _ _ => namesB C ts is
  | .tq i is, .Tuple [.Name x _, .Tuple ts _ _] _ _ => locB C i x && namesB C ts is
  | _, _ => false
def Ck.into (C : Ck) (scope : Scope) : Ck := { N := C.N, sc := relS scope C.sc, top := false }
def lcB (C : Ck) (g : TGt) (own : List Nat) (scope : Scope) (tg iter : Expr) : Bool :=
  ((ownN C.N own).map (·.2) == own) && blkC C.N C.sc scope (ownN C.N own) && (tgIx g).all (fun i => own.contains i) && corG (C.into scope) g tg && noSet iter
/-- the captured names stand in these slots -/
def capB (C : Ck) (fr : List Str) (ls : List Nat) (scope : Scope) : Bool :=
  (ls.map fun i => C.N[i]?) == fr.map some && (scope.names.all fun y => !(y.2 == .free) || (fr.contains y.1 && (C.sc.names.lookup y.1 == some .cell || C.sc.names.lookup y.1 == some .free))) && fr.all fun y => scope.names.any fun z => z.1 == y && z.2 == .free
mutual
def corE (C : Ck) : E → Expr → Bool
  | .var i, x => match x with
    | .Name x _ => varB C i x
    | _ => false
  | .cst d, x => match x with
    | .Constant c _ _ => cstB d c
    | _ => false
  | .glo n, x => match x with
    | .Name y _ => (n == y) && gloB C y
    | _ => false
  | .bin _ o a b, x => match x with
    | .BinOp l op r _ => (op == o.op) && corE C a l && corE C b r
    | _ => false
  | .neg a, x => match x with
    | .UnaryOp .USub x _ => corE C a x
    | _ => false
  | .cmp o a b, x => match x with
    | .Compare l [op] [r] _ => (op == o.op) && noSet r && corE C a l && corE C b r
    | _ => false
  | .cmp2 o o' a b c, x => match x with
    | .Compare l [op, op'] [r, r'] _ => (op == o.op) && (op' == o'.op) && noSet r' && corE C a l && corE C b r && corE C c r'
    | _ => false
  | .andV a b, x => match x with
    | .BoolOp .And (x :: y :: rest) p => corE C a x && corE C b (.BoolOp .And (y :: rest) p)
    | _ => false
  | .orV a b, x => match x with
    | .BoolOp .Or (x :: y :: rest) p => corE C a x && corE C b (.BoolOp .Or (y :: rest) p)
    | _ => false
  | .one a, x => match x with
    | .BoolOp _ [x] _ => corE C a x
    | _ => false
  | .notV a, x => match x with
    | .UnaryOp .Not x _ => corE C a x
    | _ => false
  | .ite c a b, x => match x with
    | .IfExp t x y _ => corT C c t && corE C a x && corE C b y
    | _ => false
  | .tup es, x => match x with
    | .Tuple xs _ _ => corEs C es xs
    | _ => false
  | .lst _ es, x => match x with
    | .List xs _ => corEs C es xs
    | _ => false
  | .ix a b, x => match x with
    | .Subscript x y _ => noSlice y && corE C a x && corE C b y
    | _ => false
  | .slAll _ a, x => match x with
    | .Subscript x (.Slice none none none _) _ => corE C a x
    | _ => false
  | .slFrom _ a lo, x => match x with
    | .Subscript x (.Slice (some y) none none _) _ => corE C a x && corE C lo y
    | _ => false
  | .slTo _ a hi, x => match x with
    | .Subscript x (.Slice none (some z) none _) _ => corE C a x && corE C hi z
    | _ => false
  | .sl _ a lo hi, x => match x with
    | .Subscript x (.Slice (some y) (some z) none _) _ => corE C a x && corE C lo y && corE C hi z
    | _ => false
  | .call f [], x => match x with
    | .Call (.Name g _) [] [] _ => (f == g) && gloB C g
    | _ => false
  | .call f es, x => match x with
    | .Call (.Name g _) (x :: xs) [] _ => (f == g) && gloB C g && corEs C es (x :: xs)
    | _ => false
  | .mnam _ m o es ks fs, x => match x with
    | .Call (.Attribute y g ap) zs kws cp => (g == m) && noCall y && (ap.endLine == cp.line) && decide (zs.length < 20) && decide (kws.length < 8) && corE C o y && corEs C es zs && corKs C fs ks kws
    | _ => false
  | .ccall n m es, x => match x with
    | .Call (.Attribute (.Name y _) g ap) (z :: zs) [] cp => (n == y) && (g == m) && gloB C y && (ap.endLine == cp.line) && decide ((z :: zs).length < 20) && corEs C es (z :: zs)
    | _ => false
  | .blt _ f es, x => match x with
    | .Call (.Name g _) (x :: xs) [] _ => (g == f.nm) && gloB C g && corEs C es (x :: xs)
    | _ => false
  | .meth m o [], x => match x with
    | .Call (.Attribute x nm ap) [] [] cp => (nm == m.nm) && noCall x && (ap.endLine == cp.line) && corE C o x
    | _ => false
  | .meth m o es, x => match x with
    | .Call (.Attribute x nm ap) (y :: ys) [] cp => (nm == m.nm) && noCall x && (ap.endLine == cp.line) && decide (ys.length < 20) && corE C o x && corEs C es (y :: ys)
    | _ => false
  | .lc _ e g it own, x => match x with
    | .ListComp elt [⟨tg, iter, [], 0⟩] scope _ => lcB C g own scope tg iter && corI C it tg iter && corE (C.into scope) e elt
    | _ => false
  | .lcIf _ e g it t own, x => match x with
    | .ListComp elt [⟨tg, iter, [c], 0⟩] scope _ => lcB C g own scope tg iter && corI C it tg iter && corE (C.into scope) e elt && corT (C.into scope) t c
    | _ => false
  | .tupR a b, x => match x with
    | .Call (.Name t _) [.Call (.Name g _) [x, y] [] cp] [] _ => (t == ("tuple" : Str)) && gloB C t && (g == ("range" : Str)) && gloB C g && noStar x && noStar y && corE C a x && corE C b y
    | _ => false
  | .rev a, x => match x with
    | .Subscript y (.Slice none none (some (.UnaryOp .USub (.Constant (.int i) _ _) _)) _) _ => (i == 1) && corE C a y
    | _ => false
  | .revT a, x => match x with
    | .Subscript y (.Slice none none (some (.UnaryOp .USub (.Constant (.int i) _ _) _)) _) _ => (i == 1) && corE C a y
    | _ => false
  | .att a f, x => match x with
    | .Attribute y g _ => (g == f) && noCall y && corE C a y
    | _ => false
  | .mcall _ m o [], x => match x with
    | .Call (.Attribute y g ap) [] [] cp => (g == m) && noCall y && (ap.endLine == cp.line) && corE C o y
    | _ => false
  | .mcall _ m o es, x => match x with
    | .Call (.Attribute y g ap) (z :: zs) [] cp => (g == m) && noCall y && (ap.endLine == cp.line) && decide ((z :: zs).length < 20) && corE C o y && corEs C es (z :: zs)
    | _ => false
  | .dlit es, x => match x with
    | .Dict ks vs _ => corD C es ks vs && decide (ks.length ≤ 15)
    | _ => false
  | .dix a b, x => match x with
    | .Subscript y z _ => noSlice z && corE C a y && corE C b z
    | _ => false
  | .dupd a b, x => match x with
    | .Call (.Attribute y nm ap) [z] [] cp => (nm == ("update" : Str)) && noCall y && (ap.endLine == cp.line) && noStar z && corE C a y && corE C b z
    | _ => false
  | .dget1 a b, x => match x with
    | .Call (.Attribute y nm ap) [z] [] cp => (nm == ("get" : Str)) && noCall y && (ap.endLine == cp.line) && noStar z && corE C a y && corE C b z
    | _ => false
  | .dget2 a b c, x => match x with
    | .Call (.Attribute y nm ap) [z, t] [] cp => (nm == ("get" : Str)) && noCall y && (ap.endLine == cp.line) && noStar z && noStar t && corE C a y && corE C b z && corE C c t
    | _ => false
  | .new n [], x => match x with
    | .Call (.Name g _) [] [] _ => (n == g) && gloB C g
    | _ => false
  | .new n es, x => match x with
    | .Call (.Name g _) (z :: zs) [] _ => (n == g) && gloB C g && corEs C es (z :: zs)
    | _ => false
  | .frz a, z => corE C a z
  | .dead, _ => true
  | .gin n d a, x => match x with
    | .Compare l [op] [.Name y _] _ => (op == gopE n) && (d == y) && gloB C y && corE C a l
    | _ => false
  | .gix d a, x => match x with
    | .Subscript (.Name y _) z _ => (d == y) && gloB C y && noSlice z && corE C a z
    | _ => false
  | .gget1 d a, x => match x with
    | .Call (.Attribute (.Name y _) nm ap) [z] [] cp => (nm == ("get" : Str)) && (d == y) && gloB C y && (ap.endLine == cp.line) && noStar z && corE C a z
    | _ => false
  | .gget2 d a b, x => match x with
    | .Call (.Attribute (.Name y _) nm ap) [z, t] [] cp => (nm == ("get" : Str)) && (d == y) && gloB C y && (ap.endLine == cp.line) && noStar z && noStar t && corE C a z && corE C b t
    | _ => false
  | .callV i es, x => match x with
    | .Call (.Name y _) (z :: zs) [] _ => varB C i y && corEs C es (z :: zs)
    | _ => false
  | .din n a b, x => match x with
    | .Compare l [op] [r] _ => (op == gopE n) && noSet r && corE C a l && corE C b r
    | _ => false
  | .sin n a b, x => match x with
    | .Compare l [op] [r] _ => (op == gopE n) && noSet r && corE C a l && corE C b r
    | _ => false
  | .smeth _ m o [], x => match x with
    | .Call (.Attribute x nm ap) [] [] cp => (nm == m.nm) && noCall x && (ap.endLine == cp.line) && corE C o x
    | _ => false
  | .smeth _ m o es, x => match x with
    | .Call (.Attribute x nm ap) (y :: ys) [] cp => (nm == m.nm) && noCall x && (ap.endLine == cp.line) && decide (ys.length < 20) && corE C o x && corEs C es (y :: ys)
    | _ => false
  | .six a b, x => match x with
    | .Subscript x y _ => noSlice y && corE C a x && corE C b y
    | _ => false
  | .tidx a b, x => match x with
    | .Call (.Attribute y g ap) [z] [] cp => (g == ("index" : Str)) && noCall y && (ap.endLine == cp.line) && noStar z && corE C a y && corE C b z
    | _ => false
  | .kslF a lo, x => match x with
    | .Subscript y (.Slice (some z) none none _) _ => corE C a y && corE C lo z
    | _ => false
  | .ktt a, x => (match x with | .ListComp .. => false | _ => true) && corE C a x
  | .or2 a b, x => (match x with | .ListComp .. => false | _ => true) && (corE C a x && corE C b x)
  | .lam q ls, x => match x with
    | .Lambda params body scope _ => C.top && C.isL q ⟨params, .expr body, scope⟩ && params.defaults.isEmpty && params.kw_defaults.isEmpty && capB C (C.fr q) ls scope
    | _ => false
  | .pcall _ f es, x => match x with
    | .Call (.Name g _) xs [] _ => C.top && (f == g) && gloB C g && corEs C es xs
    | _ => false
  | .pcallV _ i es, x => match x with
    | .Call (.Name y _) xs [] _ => C.top && varB C i y && corEs C es xs
    | _ => false
  | .mcd ls m o es, x => match x with
    | .Call (.Attribute y g ap) xs [] cp => (C.top || ls.isEmpty) && (g == m) && noCall y && (ap.endLine == cp.line) && decide (xs.length < 20) && corE C o y && corEs C es xs
    | _ => false
  | .xnew n es, x => match x with
    | .Call (.Name g _) xs [] _ => (n == g) && gloB C g && corEs C es xs
    | _ => false
def corEs (C : Ck) : List E → List Expr → Bool
  | [], [] => true
  | e :: es, x :: xs => noStar x && corE C e x && corEs C es xs
  | _, _ => false
def corKs (C : Ck) : List E → List Str → List Keyword → Bool
  | [], [], [] => true
  | e :: es, k :: ks, ⟨some n, x, _⟩ :: kws => (n == k) && corE C e x && corKs C es ks kws
  | _, _, _ => false
def corD (C : Ck) : List E → List (Option Expr) → List Expr → Bool
  | [], [], [] => true
  | k :: v :: es, some x :: ks, y :: vs => corE C k x && corE C v y && corD C es ks vs
  | _, _, _ => false
def corT (C : Ck) : T → Expr → Bool
  | .and_ a b, x => match x with
    | .BoolOp .And (x :: y :: rest) p => corT C a x && corT C b (.BoolOp .And (y :: rest) p)
    | _ => false
  | .or_ a b, x => match x with
    | .BoolOp .Or (x :: y :: rest) p => corT C a x && corT C b (.BoolOp .Or (y :: rest) p)
    | _ => false
  | .one a, x => match x with
    | .BoolOp .And [x] _ => corT C a x
    | .BoolOp .Or [x] _ => corT C a x
    | _ => false
  | .not_ a, x => match x with
    | .UnaryOp .Not x _ => corT C a x
    | _ => false
  | .cmp o a b, x => match x with
    | .Compare l [op] [r] _ => (op == o.op) && noSet r && corE C a l && corE C b r
    | _ => false
  | .cmp2 o o' a b c, x => match x with
    | .Compare l [op, op'] [r, r'] _ => (op == o.op) && (op' == o'.op) && noSet r' && corE C a l && corE C b r && corE C c r'
    | _ => false
  | .val a, z => valB z && corE C a z
  | .gin n d a, x => match x with
    | .Compare l [op] [.Name y _] _ => (op == gopE n) && (d == y) && gloB C y && corE C a l
    | _ => false
  | .din n a b, x => match x with
    | .Compare l [op] [r] _ => (op == gopE n) && noSet r && corE C a l && corE C b r
    | _ => false
  | .sin n a b, x => match x with
    | .Compare l [op] [r] _ => (op == gopE n) && noSet r && corE C a l && corE C b r
    | _ => false
  | .ite _ _ _, _ => false
def corI (C : Ck) : I → Expr → Expr → Bool
  | .gkeys d, tg, x => match x with
    | .Name y _ => (d == y) && gloB C y
    | _ => false
  | .str a, tg, x => corE C a x
  | .rng1 a, tg, x => match x with
    | .Call (.Name g _) [x] [] _ => (g == ("range" : Str)) && gloB C g && noStar x && corE C a x
    | _ => false
  | .rng2 a b, tg, x => match x with
    | .Call (.Name g _) [x, y] [] _ => (g == ("range" : Str)) && gloB C g && noStar x && noStar y && corE C a x && corE C b y
    | _ => false
  | .rng3 a b c, tg, x => match x with
    | .Call (.Name g _) [x, y, z] [] _ => (g == ("range" : Str)) && gloB C g && noStar x && noStar y && noStar z && corE C a x && corE C b y && corE C c z
    | _ => false
  | .zip a b, tg, x => match x with
    | .Call (.Name g _) [x, y] [] _ => isTup tg && (g == ("zip" : Str)) && gloB C g && noStar x && noStar y && corE C a x && corE C b y
    | _ => false
  | .enum a, tg, x => match x with
    | .Call (.Name g _) [x] [] _ => isTup tg && (g == ("enumerate" : Str)) && gloB C g && noStar x && corE C a x
    | _ => false
  | .seq a, tg, z => corE C a z
end
/-! ### what the parts say -/
section
variable {X : Cx} {C : Ck} {x y : Expr} {pos : Pos}
theorem beqS {x y : Str} (h : (x == y) = true) : x = y := by simpa using h
theorem star1 {env : Env} {r : List Expr} (h : noStar x = true) : starEach (x :: r) env = (false, eval x env) :: starEach r env := by
  cases x <;> first | rfl | cases h
theorem plain_star {env : Env} : ∀ {r : List Expr}, r.all noStar = true → (backTo pos (starEach r env)).any (·.1) = false
  | [], _ => rfl
  | x :: r, h => by
    rw [List.all_cons, Bool.and_eq_true] at h
    rw [star1 h.1]
    show (false || _) = false
    rw [Bool.false_or]
    exact plain_star h.2
theorem plain_few {env : Env} : ∀ {r : List Expr}, r.all noStar = true → (backTo pos (starEach r env)).all (fun x => !x.1) = true
  | [], _ => rfl
  | x :: r, h => by
    rw [List.all_cons, Bool.and_eq_true] at h
    rw [star1 h.1]
    show (true && _) = true
    rw [Bool.true_and]
    exact plain_few h.2
theorem sw_no {t : Option Expr} {l : Nat} {env : Env} (h : noComp x = true) : swapsWith x t l env = pure false := by
  cases x <;> first | rfl | cases h
theorem fold_no {env : Env} (h : noSet x = true) : ∀ v, foldedSetIterable x env v = pure v := by
  intro v
  cases x <;> first | rfl | cases h
theorem marks_no {op : CmpOp} (h : noSet x = true) : behindInMarks op x = false := by
  cases x <;> first | rfl | cases h
theorem plain_ix (h : noSlice x = true) : PlainIx x := by
  intro o i
  cases x <;> first | rfl | cases h
theorem base_no {nm : Str} {env : Env} (h : noCall x = true) : attributeBase x nm env (eval x env) = eval x env := by
  unfold noCall at h
  split at h
  · rename_i id _ _
    have e : (id != ("super" : Str)) = true := h
    unfold attributeBase
    dsimp only
    rw [e]
    simp only [Bool.true_or, if_true]
  · rename_i no
    cases x <;> first | rfl | skip
    rename_i f as ks p
    cases f <;> first | rfl | skip
    cases as <;> first | rfl | skip
    cases ks <;> first | rfl | skip
    exact absurd rfl (no _ _ _)
theorem val_no {env : Env} (h : valB x = true) : ∀ whole, isTrue x env whole = (do let v ← whole; standAt x.pos; holding [v] (truthy v)) := by
  intro w
  cases x <;> first | rfl | cases h
theorem swap_no {t : Expr} {env : Env} (h : noTup x = true) : swappedStores [t] x env = pure none := by
  cases x <;> first | (cases t <;> rfl) | cases h
/-- the own cells' addresses -/
def CsOk (X : Cx) (Γ : Gam) : Prop := ∀ i c, Γ.cs i = some c → ∃ x, X.N[i]? = some x ∧ Vis X.env.scope x ∧ (X.env.scope.names.lookup x = some .cell ∨ X.env.scope.names.lookup x = some .free) ∧ X.env.cells.lookup x = some c ∧ ∀ {pn : List (Addr × Obj)} {xe : Value → Shared → Prop} {pins : List (Addr × Obj)} {σ : L2.St} {H : Hp} {s : Shared}, Inv (X.tr pn xe) pins σ H s → X.base.get? c = none ∧ c ∉ frs X.stack
/-- where made functions' code objects are kept -/
def LmOk (X : Cx) : Prop := ∃ (c P : Addr) (nm : Nat → Nat → Str), LamX.TabB X.base X.mg c P ∧ X.env.code = .ref c ∧ (P, nm) ∈ Tb.T ∧ (∀ p ∈ Tb.T, p.1 = P → p.2 = nm) ∧ ∀ a b, nm a b = X.env.qual ++ "<lambda>"
theorem CsOk.at {X : Cx} {Γ : Gam} (cz : CsOk X Γ) {i : Nat} {c : Addr} (e : Γ.cs i = some c) {pins : List (Addr × Obj)} {σ : L2.St} {H : Hp} {s : Shared} (I : Inv X pins σ H s) : X.base.get? c = none ∧ c ∉ frs X.stack := by
  obtain ⟨x, _, _, _, _, h⟩ := cz i c e
  exact h (pn := X.pn) (xe := X.xe) I
theorem CsOk.tr {X : Cx} {Γ : Gam} (cz : CsOk X Γ) (pn : List (Addr × Obj)) (xe : Value → Shared → Prop) : CsOk (X.tr pn xe) Γ := cz
structure CkOk (X : Cx) (C : Ck) (Γ : Gam) : Prop where
  n : C.N = X.N
  sc : X.env.scope = C.sc
  fn : C.top = true → ∀ x, C.sc.names.lookup x = some .cell → X.fn x = true
  cs : C.top = true → CsOk X Γ
  isL : ∀ q L, C.isL q L = true → Tb.is q L ∧ C.fr q = Tb.fr q ∧ LmOk X
variable {Γ : Gam} (k : CkOk X C Γ)
theorem gl_of {x : Str} (k : CkOk X C Γ) (h : gloB C x = true) : Gl X x ∧ (x == ("__debug__" : Str)) = false ∧ x ≠ ("__name__" : Str) := by
  unfold gloB glB okNm at h
  simp only [Bool.and_eq_true, Bool.not_eq_true'] at h
  obtain ⟨h1, ⟨h2, h3⟩, h4⟩ := h
  refine ⟨?_, h2, fun z => by rw [z] at h4; simp at h4⟩
  show X.env.scope.names.lookup x = some .globalImplicit
  rw [k.sc]
  split at h1
  · assumption
  · cases h1
theorem vis_of {x : Str} {i : Nat} (k : CkOk X C Γ) (h : varB C i x = true) : X.N[i]? = some x ∧ Vis X.env.scope x ∧ (x == ("__debug__" : Str)) = false ∧ (x == ("__classdict__" : Str)) = false := by
  unfold varB visB okNm at h
  simp only [Bool.and_eq_true, Bool.not_eq_true', beq_iff_eq] at h
  obtain ⟨⟨h1, h2⟩, ⟨h3, h4⟩, h5⟩ := h
  refine ⟨by rw [← k.n]; exact h1, ?_, h3, h4⟩
  unfold Vis
  rw [k.sc]
  split at h2
  · exact .inl (by assumption)
  · exact .inr (.inl (by assumption))
  · exact .inr (.inr (by assumption))
  · cases h2
theorem loc_of {x : Str} {i : Nat} (k : CkOk X C Γ) (h : locB C i x = true) : X.N[i]? = some x ∧ L2.Loc X.env.scope x ∧ (X.fn x = true ∨ X.env.scope.names.lookup x = some .local) := by
  unfold locB lclB celB at h
  simp only [Bool.and_eq_true, Bool.or_eq_true, beq_iff_eq] at h
  obtain ⟨h1, h2⟩ := h
  refine ⟨by rw [← k.n]; exact h1, ?_⟩
  unfold L2.Loc
  rw [k.sc]
  rcases h2 with h2 | ⟨h2, h3⟩
  · split at h2
    · rename_i e
      exact ⟨.inl e, .inr e⟩
    · cases h2
  · split at h2
    · rename_i e
      exact ⟨.inr e, .inl (k.fn h3 x e)⟩
    · cases h2
theorem lcl_of {x : Str} (k : CkOk X C Γ) (h : lclB C.sc x = true) : X.env.scope.names.lookup x = some .local := by
  unfold lclB at h
  rw [k.sc]
  split at h
  · assumption
  · cases h
theorem names_of (k : CkOk X C Γ) : ∀ {ts : List Expr} {is : List Nat}, namesB C ts is = true → nmsOk X ts is
  | [], [], _ => trivial
  | t :: ts, i :: is, h => by
    cases t with
    | Name x p =>
      simp only [namesB, Bool.and_eq_true] at h
      exact ⟨loc_of k h.1, names_of k h.2⟩
    | _ => cases h
  | [], _ :: _, h => by cases h
  | t :: _, [], h => by cases t <;> cases h
theorem corG_ok (k : CkOk X C Γ) {g : TGt} {tg : Expr} (hc : X.calm = true) (hN : X.N.Nodup) (h : corG C g tg = true) : PG X tg (LfG X.K g) := by
  cases g with
  | nm i =>
    cases tg with
    | Name x p =>
      obtain ⟨h1, h2, h3⟩ := loc_of k h
      exact sg_nm hN h1 h2 h3
    | _ => cases h
  | tp is =>
    cases tg with
    | Tuple ts kk p => exact sg_tp hc hN (names_of k h)
    | _ => cases h
  | tq i is =>
    have q : ∀ tg : Expr, corG C (.tq i is) tg = true → ∃ x px ts k2 p2 kk p, tg = .Tuple [.Name x px, .Tuple ts k2 p2] kk p ∧ locB C i x = true ∧ namesB C ts is = true := by
      intro tg h
      unfold corG at h
      split at h
      · rename_i e; cases e
      · rename_i e; cases e
      · rename_i e
        cases e
        simp only [Bool.and_eq_true] at h
        exact ⟨_, _, _, _, _, _, _, rfl, h.1, h.2⟩
      · cases h
    have tg0 := tg
    obtain ⟨x, px, ts, k2, p2, kk, p, rfl, h1, h2⟩ := q tg h
    exact sg_tq (t := tg0) hc hN ⟨loc_of k h1, trivial⟩ (names_of k h2)
theorem into_ok (k : CkOk X C Γ) (s : Shared) (H : Hp) (scope : Scope) (cl : List (Str × Addr)) (c : Addr) (fp : List Addr) : CkOk (X.blk s H scope (compEnvC scope cl c X.env) fp) (C.into scope) Γ :=
  ⟨k.n, by show relabel scope X.env = relS scope C.sc; rw [← k.sc]; rfl, (fun z => by cases z), (fun z => by cases z), fun _ _ z => by cases z⟩
theorem lcB_ok (k : CkOk X C Γ) {g : TGt} {own : List Nat} {scope : Scope} {tg iter : Expr} (hc : X.calm = true) (hN : X.N.Nodup) (h : lcB C g own scope tg iter = true) : ∃ on : List (Str × Nat), on.map (·.2) = own ∧ BlkOk X.N X.env.scope scope on ∧ (∀ i ∈ tgIx g, i ∈ on.map (·.2)) ∧
    (∀ (s : Shared) (H : Hp) (c : Addr) (cl : List (Str × Addr)) (fp : List Addr), PG (X.blk s H scope (compEnvC scope cl c X.env) fp) tg (LfG X.K g)) ∧ ∀ x, foldedSetIterable iter X.env x = pure x := by
  unfold lcB at h
  simp only [Bool.and_eq_true, beq_iff_eq, List.all_eq_true, List.contains_iff_mem] at h
  obtain ⟨⟨⟨⟨h1, h2⟩, h3⟩, h4⟩, h5⟩ := h
  refine ⟨ownN C.N own, h1, blkOk_by (by rw [← k.n, k.sc]; exact h2), fun i hi => by rw [h1]; exact h3 i hi, fun s H c cl fp => corG_ok (into_ok k s H scope cl c fp) (X := X.blk s H scope (compEnvC scope cl c X.env) fp) hc hN h4, fold_no h5⟩
end
end Av
set_option Elab.async false
set_option linter.all false
set_option maxRecDepth 100000
set_option maxHeartbeats 4000000
/-! # AvL2: calls for which own cells are told -/
namespace Av
open PySem PySem.Spec PyProof.Rows L2
variable [Tb]
/-- the cells that are told -/
def pubL (cs : Nat → Option Addr) (ρ : Env') : List Nat → List Addr
  | [] => []
  | i :: r => match cs i, ρ[i]? with
    | some c, some (some _) => c :: pubL cs ρ r
    | _, _ => pubL cs ρ r
theorem pubL_mem {cs : Nat → Option Addr} {ρ : Env'} : ∀ {ls : List Nat} {c : Addr}, c ∈ pubL cs ρ ls → ∃ i ∈ ls, cs i = some c ∧ ∃ d, ρ[i]? = some (some d)
  | [], _, h => by cases h
  | i :: r, c, h => by
    unfold pubL at h
    split at h
    · rename_i c' d e1 e2
      rcases List.mem_cons.mp h with rfl | h
      · exact ⟨i, List.mem_cons_self .., e1, d, e2⟩
      · obtain ⟨j, hj, q⟩ := pubL_mem h
        exact ⟨j, List.mem_cons_of_mem _ hj, q⟩
    · obtain ⟨j, hj, q⟩ := pubL_mem h
      exact ⟨j, List.mem_cons_of_mem _ hj, q⟩
theorem unpG_s {cs : Nat → Option Addr} {G : AG} {i : Nat} {r : List Nat} {c : Addr} (e : cs i = some c) : unpG cs (i :: r) G = gx (unpG cs r G) c := by simp only [unpG, e]
theorem unpG_n {cs : Nat → Option Addr} {G : AG} {i : Nat} {r : List Nat} (e : cs i = none) : unpG cs (i :: r) G = unpG cs r G := by simp only [unpG, e]
theorem unpG_at {cs : Nat → Option Addr} {G : AG} {a : Addr} : ∀ {ls : List Nat}, unpG cs ls G a = G a ∨ unpG cs ls G a = none
  | [] => .inl rfl
  | i :: r => by
    cases e : cs i with
    | some c =>
      rw [unpG_s e]
      by_cases h : a = c
      · subst h; exact .inr gx_same
      · rw [gx_ne h]; exact unpG_at
    | none => rw [unpG_n e]; exact unpG_at
theorem unpG_none {cs : Nat → Option Addr} {G : AG} : ∀ {ls : List Nat} {i : Nat} {c : Addr}, i ∈ ls → cs i = some c → unpG cs ls G c = none
  | [], _, _, h, _ => by cases h
  | j :: r, i, c, h, e => by
    rcases List.mem_cons.mp h with rfl | h
    · rw [unpG_s e]; exact gx_same
    · have ih := unpG_none (G := G) h e
      cases e' : cs j with
      | some c' =>
        rw [unpG_s e']
        by_cases hc : c = c'
        · subst hc; exact gx_same
        · rw [gx_ne hc]; exact ih
      | none => rw [unpG_n e']; exact ih
theorem sub_unp {cs : Nat → Option Addr} {ls : List Nat} {G : AG} : Sub (unpG cs ls G) G := fun a o e => by
  rcases unpG_at (cs := cs) (G := G) (a := a) (ls := ls) with h | h
  · rw [h] at e; exact e
  · rw [h] at e; cases e
theorem tabs_del {T : List NdefX.NTab} {H : Hp} {l : List Addr} (t : NdefX.TabsN T H) (hl : CelsIn H l) : NdefX.TabsN T (delHs H l) := fun q hq => by
  obtain ⟨ps, e, e2, e3⟩ := t q hq
  have no : ∀ b u, H b = some u → (∀ o, u ≠ .frz o (.own b)) → b ∉ l := fun b u z1 z2 z3 => by
    obtain ⟨o, z⟩ := hl b z3
    rw [z1] at z
    exact z2 o (Option.some.inj z)
  refine ⟨ps, by rw [delHs_out (no _ _ e fun _ z => by cases z)]; exact e, e2, fun pos cv hc => ?_⟩
  obtain ⟨c, e4, e5⟩ := e3 pos cv hc
  exact ⟨c, e4, by rw [delHs_out (no _ _ e5 fun _ z => by unfold LamX.CodeO at z; cases z)]; exact e5⟩
section
variable {X : Cx} {W : WX} {Γ : Gam} {pins : List (Addr × Obj)} {σ : L2.St} {H H' : Hp} {s s' : Shared} {G G' : AG} {ρ : Env'} {ls : List Nat}
theorem look_fun {env : Env} {h : Heap} {m : Str → Option Value} {x : Str} {u : Value} {c : Addr} (l : Look env h m x u) (k : env.scope.names.lookup x = some .cell ∨ env.scope.names.lookup x = some .free) (e : env.cells.lookup x = some c) : h.IsCell c (some u) := by
  rcases l with ⟨z, _⟩ | ⟨_, c', e', h'⟩
  · exfalso
    have z : env.scope.names.lookup x = some .local := z
    rcases k with k | k <;> rw [k] at z <;> cases z
  · rw [e] at e'; cases e'; exact h'
/-- an own cell's content -/
theorem cs_cell (cz : CsOk X Γ) (I : Inv X pins σ H s) (hE : RelE X.K H ρ σ) {i : Nat} {c : Addr} {d : Dat} (e : Γ.cs i = some c) (hd : ρ[i]? = some (some d)) :
    ∃ (o : Obj) (u : Value) (v : V), s.heap.get? c = some o ∧ o.data = .cell (some u) ∧ RelV v u ∧ Rep X.K H v d := by
  obtain ⟨x, h1, h2, h3, h4, _⟩ := cz i c e
  obtain ⟨v, h5, h6⟩ := hE.2 i d hd
  obtain ⟨m, _, hl⟩ := I.loc
  obtain ⟨u, h7, h8⟩ := hl i x v h1 h5 h2
  obtain ⟨o, h9, h10⟩ := look_fun h8 h3 h4
  exact ⟨o, u, v, h9, h10, h7, h6⟩
theorem cs_free (cz : CsOk X Γ) (I : Inv X pins σ H s) {i : Nat} {c : Addr} (e : Γ.cs i = some c) : H c = none := by
  obtain ⟨x, _, _, _, h4, _⟩ := cz i c e
  exact I.freeC x c h4
theorem nodup_ix {α : Type} {l : List α} (nd : l.Nodup) {i j : Nat} {x : α} (h1 : l[i]? = some x) (h2 : l[j]? = some x) : i = j :=
   (List.getElem?_inj (List.getElem?_eq_some_iff.mp h1).1 nd).mp (h1.trans h2.symm)
theorem cs_none (nd : X.N.Nodup) (cz : CsOk X Γ) (I : Inv X pins σ H s) (hG : RelG X.K G H) : noneG Γ.cs ls G := fun i _ c e => ⟨hG.free (cs_free cz I e), fun j _ e2 => by
  obtain ⟨x, h1, _, _, h2, _⟩ := cz i c e
  obtain ⟨y, h3, _, _, h4, _⟩ := cz j c e2
  have := I.ok.inj x y c h2 h4
  subst this
  exact nodup_ix nd h1 h3⟩
theorem pub_cond (cz : CsOk X Γ) (I : Inv X pins σ H s) (hE : RelE X.K H ρ σ) : ∀ c ∈ pubL Γ.cs ρ ls, X.base.get? c = none ∧ c ∉ frs X.stack ∧ H c = none ∧ ∃ o, s.heap.get? c = some o := fun c hc => by
  obtain ⟨i, hi, e, d, hd⟩ := pubL_mem hc
  obtain ⟨x, _, _, _, _, h56⟩ := cz i c e
  obtain ⟨h5, h6⟩ := h56 I
  obtain ⟨o, u, v, h1, _⟩ := cs_cell cz I hE e hd
  exact ⟨h5, h6, cs_free cz I e, o, h1⟩
theorem stab_pub {l : List Addr} {h : Heap} (hl : ∀ c ∈ l, H c = none) : Stab H (pubH H l h) := by
  have no : ∀ b u, H b = some u → b ∉ l := fun b u z1 z2 => by rw [hl b z2] at z1; cases z1
  exact ⟨fun b xs z => by rw [pubH_out (no b _ z)]; exact z, fun b o xs z => by rw [pubH_out (no b _ z)]; exact z, fun b φ z => by rw [pubH_out (no b _ z)]; exact z, fun b o xs z => by rw [pubH_out (no b _ z)]; exact z⟩
theorem pub_s {cs : Nat → Option Addr} {ρ : Env'} {G : AG} {i : Nat} {r : List Nat} {c : Addr} {d : Dat} (e1 : cs i = some c) (e2 : ρ[i]? = some (some d)) : pubG cs ρ (i :: r) G = gu (pubG cs ρ r G) c (.cel d) ∧ pubL cs ρ (i :: r) = c :: pubL cs ρ r := by
  constructor
  · simp only [pubG, e1, e2]
  · simp only [pubL, e1, e2]
theorem pub_n {cs : Nat → Option Addr} {ρ : Env'} {G : AG} {i : Nat} {r : List Nat} (h : cs i = none ∨ ∀ d, ρ[i]? ≠ some (some d)) : pubG cs ρ (i :: r) G = pubG cs ρ r G ∧ pubL cs ρ (i :: r) = pubL cs ρ r := by
  cases e1 : cs i with
  | none => simp only [pubG, pubL, e1]; exact ⟨trivial, trivial⟩
  | some c =>
    cases e2 : ρ[i]? with
    | none => simp only [pubG, pubL, e1, e2]; exact ⟨trivial, trivial⟩
    | some o =>
      cases o with
      | none => simp only [pubG, pubL, e1, e2]; exact ⟨trivial, trivial⟩
      | some d =>
        rcases h with h | h
        · rw [e1] at h; cases h
        · exact absurd e2 (h d)
theorem pubG_at {cs : Nat → Option Addr} {ρ : Env'} {G : AG} {a : Addr} : ∀ {ls : List Nat}, (a ∉ pubL cs ρ ls ∧ pubG cs ρ ls G a = G a) ∨ ∃ i d, i ∈ ls ∧ cs i = some a ∧ ρ[i]? = some (some d) ∧ a ∈ pubL cs ρ ls ∧ pubG cs ρ ls G a = some (.cel d)
  | [] => .inl ⟨(by simp [pubL]), rfl⟩
  | i :: r => by
    have ih := pubG_at (cs := cs) (ρ := ρ) (G := G) (a := a) (ls := r)
    by_cases h : ∃ c d, cs i = some c ∧ ρ[i]? = some (some d)
    · obtain ⟨c, d, e1, e2⟩ := h
      obtain ⟨q1, q2⟩ := pub_s (r := r) (G := G) e1 e2
      rw [q1, q2]
      by_cases h : a = c
      · subst h
        exact .inr ⟨i, d, List.mem_cons_self .., e1, e2, List.mem_cons_self .., gu_same⟩
      · rw [gu_ne h]
        rcases ih with ⟨h1, h2⟩ | ⟨j, d', h1, h2, h3, h4, h5⟩
        · exact .inl ⟨fun z => (List.mem_cons.mp z).elim h h1, h2⟩
        · exact .inr ⟨j, d', List.mem_cons_of_mem _ h1, h2, h3, List.mem_cons_of_mem _ h4, h5⟩
    · have : cs i = none ∨ ∀ d, ρ[i]? ≠ some (some d) := by
        cases e1 : cs i with
        | none => exact .inl rfl
        | some c => exact .inr fun d e2 => h ⟨c, d, e1, e2⟩
      obtain ⟨q1, q2⟩ := pub_n (r := r) (G := G) this
      rw [q1, q2]
      rcases ih with ⟨h1, h2⟩ | ⟨j, d', h1, h2, h3, h4, h5⟩
      · exact .inl ⟨h1, h2⟩
      · exact .inr ⟨j, d', List.mem_cons_of_mem _ h1, h2, h3, h4, h5⟩
theorem relG_pub (cz : CsOk X Γ) (I : Inv X pins σ H s) (hE : RelE X.K H ρ σ) (hG : RelG X.K G H) : RelG X.K (pubG Γ.cs ρ ls G) (pubH H (pubL Γ.cs ρ ls) s.heap) := by
  have hc := pub_cond (ls := ls) cz I hE
  have st : Stab H (pubH H (pubL Γ.cs ρ ls) s.heap) := stab_pub fun c h => (hc c h).2.2.1
  refine ⟨fun a o e => ?_, hG.t.ext fun b o e => ?_⟩
  · rcases pubG_at (cs := Γ.cs) (ρ := ρ) (G := G) (a := a) (ls := ls) with ⟨h1, h2⟩ | ⟨i, d, h1, h2, h3, h4, h5⟩
    · rw [h2] at e
      exact (hG.g a o e).mono st (pubH_out h1)
    · rw [h5] at e
      cases e
      obtain ⟨o, u, v, k1, k2, k3, k4⟩ := cs_cell cz I hE h2 h3
      exact ⟨o, u, v, pubH_in h4 k1, k2, k3, k4.mono st⟩
  · have : b ∉ pubL Γ.cs ρ ls := fun z => by rw [(hc b z).2.2.1] at e; cases e
    rw [pubH_out this]; exact e
/-- what is wanted behind such a call -/
theorem post_pub (cz : CsOk X Γ) (I : Inv X pins σ H s) (hE : RelE X.K H ρ σ) {Qa : AQ} {Q : VK} (hp : PostE X.K G H Qa Q) :
    PostE X.K (pubG Γ.cs ρ ls G) (pubH H (pubL Γ.cs ρ ls) s.heap) (fun d G2 => Qa d (unpG Γ.cs ls G2)) fun v H' => (∀ c ∈ pubL Γ.cs ρ ls, H' c = pubH H (pubL Γ.cs ρ ls) s.heap c) → Q v (delHs H' (pubL Γ.cs ρ ls)) := by
  have hc := pub_cond (ls := ls) cz I hE
  intro d G' v H' f g r q ha
  have cin : CelsIn H' (pubL Γ.cs ρ ls) := fun c h => by
    obtain ⟨o, ho⟩ := (hc c h).2.2.2
    exact ⟨o, by rw [ha c h]; exact pubH_in h ho⟩
  have st := stab_del cin
  have ng : ∀ a o, unpG Γ.cs ls G' a = some o → a ∉ pubL Γ.cs ρ ls := fun a o e z => by
    obtain ⟨i, hi, e1, _⟩ := pubL_mem z
    rw [unpG_none hi e1] at e; cases e
  refine hp d _ v _ (fun a o e t n => ?_) ⟨fun a o e => ?_, tabs_del g.t cin⟩ (r.mono st) q
  · have na : a ∉ pubL Γ.cs ρ ls := fun z => by rw [(hc a z).2.2.1] at e; cases e
    have ng' : pubG Γ.cs ρ ls G a = none := by
      rcases pubG_at (cs := Γ.cs) (ρ := ρ) (G := G) (a := a) (ls := ls) with ⟨_, h2⟩ | ⟨_, _, _, _, _, h4, _⟩
      · rw [h2]; exact n
      · exact absurd h4 na
    obtain ⟨k1, k2⟩ := f a o (by rw [pubH_out na]; exact e) t ng'
    refine ⟨by rw [delHs_out na]; exact k1, ?_⟩
    rcases unpG_at (cs := Γ.cs) (G := G') (a := a) (ls := ls) with h | h
    · rw [h]; exact k2
    · exact h
  · have na := ng a o e
    have e' := sub_unp a o e
    exact (g.g a o e').mono st (delHs_out na)
theorem postX_pub (cz : CsOk X Γ) (I : Inv X pins σ H s) (hE : RelE X.K H ρ σ) {Ea : AX} {E : XK} (hx : PostX X.K G H Ea E) :
    PostX X.K (pubG Γ.cs ρ ls G) (pubH H (pubL Γ.cs ρ ls) s.heap) (fun c fs G2 => Ea c fs (unpG Γ.cs ls G2)) fun c d H' => (∀ c ∈ pubL Γ.cs ρ ls, H' c = pubH H (pubL Γ.cs ρ ls) s.heap c) → E c d (delHs H' (pubL Γ.cs ρ ls)) := by
  have hc := pub_cond (ls := ls) cz I hE
  intro C fs G' dx H' f g r q ha
  have cin : CelsIn H' (pubL Γ.cs ρ ls) := fun c h => by
    obtain ⟨o, ho⟩ := (hc c h).2.2.2
    exact ⟨o, by rw [ha c h]; exact pubH_in h ho⟩
  have st := stab_del cin
  have ng : ∀ a o, unpG Γ.cs ls G' a = some o → a ∉ pubL Γ.cs ρ ls := fun a o e z => by
    obtain ⟨i, hi, e1, _⟩ := pubL_mem z
    rw [unpG_none hi e1] at e; cases e
  have r' : RelX X.K (delHs H' (pubL Γ.cs ρ ls)) dx fs := by
    cases dx with
    | none => exact r
    | some d =>
      obtain ⟨vf, h1, h2⟩ := r
      have nd : d ∉ pubL Γ.cs ρ ls := fun z => by
        obtain ⟨o, z⟩ := cin d z
        rw [h1] at z; cases z
      exact ⟨vf, by rw [delHs_out nd]; exact h1, KRel.mono st h2⟩
  refine hx C fs _ dx _ (fun a o e t n => ?_) ⟨fun a o e => ?_, tabs_del g.t cin⟩ r' q
  · have na : a ∉ pubL Γ.cs ρ ls := fun z => by rw [(hc a z).2.2.1] at e; cases e
    have ng' : pubG Γ.cs ρ ls G a = none := by
      rcases pubG_at (cs := Γ.cs) (ρ := ρ) (G := G) (a := a) (ls := ls) with ⟨_, h2⟩ | ⟨_, _, _, _, _, h4, _⟩
      · rw [h2]; exact n
      · exact absurd h4 na
    obtain ⟨k1, k2⟩ := f a o (by rw [pubH_out na]; exact e) t ng'
    refine ⟨by rw [delHs_out na]; exact k1, ?_⟩
    rcases unpG_at (cs := Γ.cs) (G := G') (a := a) (ls := ls) with h | h
    · rw [h]; exact k2
    · exact h
  · have na := ng a o e
    have e' := sub_unp a o e
    exact (g.g a o e').mono st (delHs_out na)
/-- a call, for which own cells are told -/
theorem run_pub {us : List Value} {f : Value} (cz : CsOk X Γ) (tk : Takes X W) (I : Inv X pins σ H s) (hE : RelE X.K H ρ σ) (hG : RelG X.K G H) {Qa : AQ} {Ea : AX} {Q : VK} (hp : PostE X.K G H Qa Q) (hx : PostX X.K G H Ea fun c dx H' => W c dx σ H')
    (h : ∀ (Q' : VK) (E' : XK), Env0 X.prog X.w X.K X.mg X.base X.A X.stack s (pubH H (pubL Γ.cs ρ ls) s.heap) → RelG X.K (pubG Γ.cs ρ ls G) (pubH H (pubL Γ.cs ρ ls) s.heap) → Stab H (pubH H (pubL Γ.cs ρ ls) s.heap) →
      PostE X.K (pubG Γ.cs ρ ls G) (pubH H (pubL Γ.cs ρ ls) s.heap) (fun d G2 => Qa d (unpG Γ.cs ls G2)) Q' → PostX X.K (pubG Γ.cs ρ ls G) (pubH H (pubL Γ.cs ρ ls) s.heap) (fun c fs G2 => Ea c fs (unpG Γ.cs ls G2)) E' →
      codeAny (model X.prog X.w) X.A (.call f ⟨us, []⟩) (CR (L2.CX X.prog X.w) X.stack X.prog X.w (pubH H (pubL Γ.cs ρ ls) s.heap) s Q' E') s) :
    wpAny (model X.prog X.w) X.A (call f us) (EP X pins σ Q) X.xe s := by
  have hc := pub_cond (ls := ls) cz I hE
  have hl : ∀ c ∈ pubL Γ.cs ρ ls, c ∉ frs X.stack ∧ H c = none ∧ ∃ o, s.heap.get? c = some o := fun c h => (hc c h).2
  have go := h _ _ (env0_pub I.env0 hc) (relG_pub cz I hE hG) (stab_pub fun c h => (hc c h).2.2.1) (post_pub cz I hE hp) (postX_pub cz I hE hx)
  refine wpAny_call (codeAny_mono go fun r s' hq => ?_)
  cases r with
  | error e =>
    have hq := cx_unpub (E := fun c dx H' => W c dx σ H') hl (fun c d H' q a => q a) hq
    exact tk e s' (XE.of_call I (fun _ _ _ z => z) hq)
  | ok fl =>
    cases fl with
    | ret u => exact I.after (ce_unpub hl (fun v H' q a => q a) hq)
    | next => exact False.elim hq
    | brk => exact False.elim hq
    | cont => exact False.elim hq
end
end Av
set_option Elab.async false
set_option linter.all false
set_option maxRecDepth 100000
set_option maxHeartbeats 4000000
/-! # AvL3: the rules of calls with own cells told, of made functions, of exceptions as values -/
namespace Av
open PySem PySem.Spec PyProof.Rows L2
variable [Tb]
section
variable {M : Model} {A : Around} {E : Value → Shared → Prop} {s : Shared}
theorem evalArgs_gen {f : Value} {args : List (Bool × Sem Value)} {Q : Args → Shared → Prop} (hn : args.any (·.1) = false) (h : wpAny M A (spliced args) (fun vs s' => Q ⟨vs, []⟩ s') E s) : wpAny M A (evalArgs f true args []) Q E s := by
  cases args with
  | nil =>
    unfold evalArgs
    show wpAny M A (spliced [] >>= _) Q E s
    refine wpAny_bind (wpAny_mono h (fun vs s' h' => ?_) fun _ _ x => x)
    first
      | exact wpAny_bind (wpAny_pure (wpAny_holding (wpAny_bind (wpAny_pure (wpAny_bind (wpAny_pure (wpAny_pure h')))))))
      | exact wpAny_holding (wpAny_bind (wpAny_pure (wpAny_bind (wpAny_pure (wpAny_pure h')))))
  | cons x rest =>
    obtain ⟨b, x⟩ := x
    cases b with
    | true => cases hn
    | false => exact Calls.evalArgs_plain h
end
section
variable {X : Cx} {W : WX} {Γ : Gam} {k : Nat} {es : List Expr} {pos p : Pos} {wa : Env' → AG → (List Dat → AG → Prop) → AX → Prop} {pins : List (Addr × Obj)} {s : Shared} {σ : L2.St} {H : Hp} {G : AG} {ρ : Env'} {Qa : List Dat → AG → Prop} {Ea : AX}
/-- the arguments, then the call -/
theorem args_then {f : Value} {first : List Value} {P : Heap → Prop} {R : Value → Shared → Prop} (ha : PA X es (LfA X.K W wa)) (hs : es.all noStar = true) (hk : ∀ h, P h → ∃ k, (k = Keeper.frame ∨ k = Keeper.machine ∨ k = Keeper.boundFrame) ∧ PySem.W.Looks (model X.prog X.w) h (keeperOf f) k)
    (I : Inv X pins σ H s) (hE : RelE X.K H ρ σ) (hG : RelG X.K G H) (hw : wa ρ G Qa Ea) (hx : PostX X.K G H Ea fun c dx H' => W c dx σ H')
    (h : ∀ us s1 vs H1 ds G1, Inv X pins σ H1 s1 → Vals vs us → Fra G H G1 H1 → RelG X.K G1 H1 → Reps X.K H1 vs ds → Qa ds G1 → P s1.heap ∧ wpAny (model X.prog X.w) X.A (call f (first ++ us)) R X.xe s1) :
    wpAny (model X.prog X.w) X.A (callWith pos f first (backTo pos (starEach es X.env)) (backToKw pos (keywordEach [] X.env))) R X.xe s := by
  refine PySem.W.callWith_of (P := P) ?_ hk (evalArgs_gen (plain_star hs) (thn (ha.run pos pins s σ H (fun vs H1 => ∃ ds G1, Fra G H G1 H1 ∧ RelG X.K G1 H1 ∧ Reps X.K H1 vs ds ∧ Qa ds G1) I ⟨ρ, G, _, Ea, hE, hG, hw, fun ds G1 vs H1 f g r q => ⟨ds, G1, f, g, r, q⟩, hx⟩) fun us s1 ⟨vs, H1, I1, r, ds, G1, f, g, rr, q⟩ => h us s1 vs H1 ds G1 I1 r f g rr q))
  rw [plain_star hs]; rfl
theorem keep_K {f : Value} (hk : PySem.W.keepIn X.K f = true) : ∀ h, X.K.In h → ∃ k, (k = Keeper.frame ∨ k = Keeper.machine ∨ k = Keeper.boundFrame) ∧ PySem.W.Looks (model X.prog X.w) h (keeperOf f) k := fun h x => PySem.W.keeps_K hk h x
theorem fnB_at {P : Program} {w : World} {H : Hp} {h : Heap} {f c' : Addr} {L : LamP} {qual : Str} {clos : List (Str × Addr)} (hok : HOk P w H h) (e : H f = some (FnB f L qual clos c')) : PySem.W.FnAt f h := by
  obtain ⟨⟨od, sl, name, doc, pm, ctv, z⟩, _, _⟩ := hok f _ e
  exact ⟨_, _, _, _, z⟩
/-- f(..), own cells told -/
theorem se_pcall (oc : Oc X W Γ k) (cz : CsOk X Γ) {ls : List Nat} {f : Str} {F : FnE} (hF : Γ.fn f = some F) (hg : Gl X f) (hdb : (f == ("__debug__" : Str)) = false) (h1 : F.ar ≤ es.length + F.dfl.length) (h2 : es.length ≤ F.ar) (ha : PA X es (LfA X.K W wa)) (hs : es.all noStar = true) :
    PE X (.Call (.Name f p) es [] pos) (LfE X.K W fun ρ G Q E => wa ρ G (fun ds G1 => noneG Γ.cs ls G1 → F.con (ds ++ F.dfl.drop (es.length + F.dfl.length - F.ar)) (pubG Γ.cs ρ ls G1) (fun d G2 => Q d (unpG Γ.cs ls G2)) (fun c fs G2 => E c fs (unpG Γ.cs ls G2))) E) := by
  refine ⟨fun pins s σ H Q I ⟨ρ, G, Qa, Ea, hE, hG, hw, hp, hx⟩ => ?_⟩
  obtain ⟨a, fd, ps, hok, hm, hk, hbind⟩ := oc.tb.fn f F hF
  obtain ⟨dv, dvs, hb, hv, hd⟩ := hbind es.length h1 h2
  refine wpAny_Call_Name_kw (ld_glob I hg hm ?_ hdb)
  refine args_then (first := []) ha hs (keep_K hk) I hE hG hw hx fun us s1 vs H1 ds G1 I1 r f1 g1 rr q => ⟨I1.kIn, ?_⟩
  have hE1 := hE.mono (f1.stab hG)
  refine run_pub (ls := ls) cz oc.tk I1 hE1 g1 (fun d G' v H' f2 => hp d G' v H' (f1.trans f2)) (hx.fra f1) fun Q' E' e0 rg st px pe => ?_
  have sp : spOf X.K F (vs ++ dvs) (pubH H1 (pubL Γ.cs ρ ls) s1.heap) Q' E' := ⟨_, _, _, _, (rr.mono st).append (hd _), rg, q (cs_none oc.nd cz I1 g1), px, pe⟩
  have r2 : Vals (vs ++ dvs) (us ++ dv) := r.append hv
  exact hok.run X.A X.stack s1 _ ⟨[] ++ us, []⟩ (us ++ dv) (vs ++ dvs) Q' E' oc.room e0 (hb s1 us I1.kIn (by rw [← r2.length]; exact hok.len _ _ _ _ sp)) r2 sp
/-- a name's function called -/
theorem se_pcallV (oc : Oc X W Γ k) (cz : CsOk X Γ) {ls : List Nat} {i : Nat} {x : Str} (hN : X.N[i]? = some x) (hv : Vis X.env.scope x) (hdb : (x == ("__debug__" : Str)) = false) (hcd : (x == ("__classdict__" : Str)) = false) (ha : PA X es (LfA X.K W wa)) (hs : es.all noStar = true) :
    PE X (.Call (.Name x p) es [] pos) (LfE X.K W fun ρ G Q E => match ρ[i]? with
      | some (some (.gf f)) => (match Γ.fn f with
        | some F => (F.ar ≤ es.length + F.dfl.length ∧ es.length ≤ F.ar) ∧ wa ρ G (fun ds G1 => noneG Γ.cs ls G1 → F.con (ds ++ F.dfl.drop (es.length + F.dfl.length - F.ar)) (pubG Γ.cs ρ ls G1) (fun d G2 => Q d (unpG Γ.cs ls G2)) (fun c fs G2 => E c fs (unpG Γ.cs ls G2))) E
        | none => False)
      | some (some (.clo q cl)) => (match Γ.lam q with
        | some L => es.length = L.ar ∧ wa ρ G (fun ds G1 => noneG Γ.cs ls G1 → L.con cl ds (pubG Γ.cs ρ ls G1) (fun d G2 => Q d (unpG Γ.cs ls G2)) (fun c fs G2 => E c fs (unpG Γ.cs ls G2))) E
        | none => False)
      | _ => False) := by
  refine ⟨fun pins s σ H Q I ⟨ρ, G, Qa, Ea, hE, hG, hw, hp, hx⟩ => ?_⟩
  dsimp only at hw
  cases q : ρ[i]? with
  | none => rw [q] at hw; exact False.elim hw
  | some o =>
    cases o with
    | none => rw [q] at hw; exact False.elim hw
    | some d =>
      obtain ⟨v, hsv, rv⟩ := hE.2 i _ q
      have enter : ∀ {b : Addr} {P : Heap → Prop}, v = .ref b → (∀ h, P h → ∃ k, (k = Keeper.frame ∨ k = Keeper.machine ∨ k = Keeper.boundFrame) ∧ PySem.W.Looks (model X.prog X.w) h (keeperOf (.ref b)) k) → ∀ {Qb : List Dat → AG → Prop}, wa ρ G Qb Ea →
          (∀ us s1 vs H1 ds G1, Inv X pins σ H1 s1 → Vals vs us → Fra G H G1 H1 → RelG X.K G1 H1 → Reps X.K H1 vs ds → Qb ds G1 → P s1.heap ∧ wpAny (model X.prog X.w) X.A (call (.ref b) us) (EP X pins σ Q) X.xe s1) → wpAny (model X.prog X.w) X.A (eval (.Call (.Name x p) es [] pos) X.env) (EP X pins σ Q) X.xe s := by
        intro b P hb hk Qb hwb h
        subst hb
        refine wpAny_Call_Name_kw (thn ((pe_var (pos := p) hN hv hdb hcd).run pins s σ H (fun v H1 => v = .ref b ∧ H1 = H) I ⟨.ref b, hsv, rfl, rfl⟩) fun u s1 ⟨v, H1, I1, r1, q1, q2⟩ => ?_)
        subst q1 q2
        cases r1
        exact args_then (first := []) ha hs hk I1 hE hG hwb hx h
      cases d with
      | gf f =>
        rw [q] at hw
        cases hF : Γ.fn f with
        | none => simp only [hF] at hw
        | some F =>
          simp only [hF] at hw
          obtain ⟨⟨h1, h2⟩, hw⟩ := hw
          obtain ⟨a, fd, ps, hok, hm, hk, hbind⟩ := oc.tb.fn f F hF
          have e0 := oc.tb.fa f F hF
          rw [hm] at e0
          cases e0
          cases rv
          obtain ⟨dv, dvs, hb, hvv, hd⟩ := hbind es.length h1 h2
          refine enter rfl (keep_K hk) hw fun us s1 vs H1 ds G1 I1 r f1 g1 rr q => ⟨I1.kIn, ?_⟩
          have hE1 := hE.mono (f1.stab hG)
          refine run_pub (ls := ls) cz oc.tk I1 hE1 g1 (fun d G' v H' f2 => hp d G' v H' (f1.trans f2)) (hx.fra f1) fun Q' E' e0 rg st px pe => ?_
          have sp : spOf X.K F (vs ++ dvs) (pubH H1 (pubL Γ.cs ρ ls) s1.heap) Q' E' := ⟨_, _, _, _, (rr.mono st).append (hd _), rg, q (cs_none oc.nd cz I1 g1), px, pe⟩
          have r2 : Vals (vs ++ dvs) (us ++ dv) := r.append hvv
          exact hok.run X.A X.stack s1 _ ⟨us, []⟩ (us ++ dv) (vs ++ dvs) Q' E' oc.room e0 (hb s1 us I1.kIn (by rw [← r2.length]; exact hok.len _ _ _ _ sp)) r2 sp
      | clo m cl =>
        rw [q] at hw
        cases hF : Γ.lam m with
        | none => simp only [hF] at hw
        | some L =>
          simp only [hF] at hw
          obtain ⟨hlen, hw⟩ := hw
          have lo := oc.tb.lam m L hF
          obtain ⟨f, rfl⟩ : ∃ f, v = .ref f := by cases rv; exact ⟨_, rfl⟩
          refine enter rfl (P := PySem.W.FnAt f) (PySem.W.keeps_F) hw fun us s1 vs H1 ds G1 I1 r f1 g1 rr q => ?_
          have rv1 := rv.mono (f1.stab hG)
          refine ⟨?_, ?_⟩
          · cases rv1 with
            | clo _ _ hf _ => exact fnB_at I1.hok hf
          · have hE1 := hE.mono (f1.stab hG)
            refine run_pub (ls := ls) cz oc.tk I1 hE1 g1 (fun d G' v H' f2 => hp d G' v H' (f1.trans f2)) (hx.fra f1) fun Q' E' e0 rg st px pe => ?_
            exact lo f cl X.A X.stack s1 _ us vs Q' E' oc.room e0 r ⟨ds, _, _, _, rv1.mono st, rr.mono st, rg, q (cs_none oc.nd cz I1 g1), px, pe⟩
      | _ => rw [q] at hw; exact False.elim hw
/-- o.m(..), the class as it is told -/
theorem se_mcd (oc : Oc X W Γ k) {ls : List Nat} (cz : ls = [] ∨ CsOk X Γ) {o : Expr} {m : Str} {apos : Pos} {w1 : WfE} (ho : PE X o (LfE X.K W w1)) (ha : PA X es (LfA X.K W wa)) (hs : es.all noStar = true) {pl : Sem Bool}
    (ht : eval (.Call (.Attribute o m apos) es [] pos) X.env = (do
      let w ← eval o X.env
      standAt apos.atName
      let (g, one) ← holding [w] (getMethod w m pl)
      callWith pos g one (backTo pos (starEach es X.env)) (backToKw pos (keywordEach [] X.env)))) :
    PE X (.Call (.Attribute o m apos) es [] pos) (LfE X.K W fun ρ G Q E => w1 ρ G (fun x G1 => ∃ p C fs F, x = .ref p ∧ G1 p = some (.ins C fs) ∧ fs.lookup m = none ∧ Γ.ms C m = some F ∧ (F.ar ≤ es.length + 1 + F.dfl.length ∧ es.length + 1 ≤ F.ar) ∧
      wa ρ G1 (fun ds G2 => noneG Γ.cs ls G2 → F.con (x :: (ds ++ F.dfl.drop (es.length + 1 + F.dfl.length - F.ar))) (pubG Γ.cs ρ ls G2) (fun d G3 => Q d (unpG Γ.cs ls G3)) (fun c fs G3 => E c fs (unpG Γ.cs ls G3))) E) E) := by
  refine ⟨fun pins s σ H Q I ⟨ρ, G, Qa, Ea, hE, hG, hw, hp, hx⟩ => ?_⟩
  refine PySem.W.methodCall_KW (pl := pl) (thn (ho.run pins s σ H (fun v H1 => ∃ d G1, Fra G H G1 H1 ∧ RelG X.K G1 H1 ∧ Rep X.K H1 v d ∧ _) I ⟨ρ, G, _, Ea, hE, hG, hw, fun d G1 v H1 f g r q => ⟨d, G1, f, g, r, q⟩, hx⟩) fun u s1 ⟨v, H1, I1, rx, d, G1, f1, g1, rv, b, C, fs, F, ed, e1, e2, hF, ⟨h1, h2⟩, hw2⟩ => ?_) ht
  subst ed
  cases rep_r rv
  obtain rfl : u = Value.ref b := rx
  obtain ⟨a, fd, ps, hok, hc, hm, hbind⟩ := oc.tb.ms C m F hF
  obtain ⟨dv, dvs, hb, hv, hd⟩ := hbind es.length h1 h2
  obtain ⟨dx, vf, k3, k4⟩ := g1.ins e1
  refine getmeth_ok I1 k3 hc hm (kr_none k4 e2) ?_
  have hE1 := hE.mono (f1.stab hG)
  refine args_then (first := [.ref b]) ha hs (keep_K hm.kp) I1 hE1 g1 hw2 (hx.fra f1) fun us s2 vs H2 ds G2 I2 r f2 g2 rr q => ⟨I2.kIn, ?_⟩
  have hE2 := hE1.mono (f2.stab g1)
  have f12 := f1.trans f2
  rcases cz with rfl | cz
  · have sp : spOf X.K F (.ref b :: (vs ++ dvs)) H2 Q (WE W σ) := ⟨_, G2, Qa, Ea, .cons (.ref b) (rr.append (hd H2)), g2, q (fun i hi => nomatch hi), fun d' G' v' H' f3 => hp d' G' v' H' (f12.trans f3), hx.fra f12⟩
    exact run_fnSD (us := .ref b :: us) (vs := .ref b :: vs) hok oc.room hb hv (passAt oc.tk σ) I2 (.cons rfl r) sp
  · refine run_pub (ls := ls) cz oc.tk I2 hE2 g2 (fun d G' v H' f3 => hp d G' v H' (f12.trans f3)) (hx.fra f12) fun Q' E' e0 rg st px pe => ?_
    have sp : spOf X.K F (.ref b :: (vs ++ dvs)) (pubH H2 (pubL Γ.cs ρ ls) s2.heap) Q' E' := ⟨_, _, _, _, .cons (.ref b) ((rr.mono st).append (hd _)), rg, q (cs_none oc.nd cz I2 g2), px, pe⟩
    have r2 : Vals (V.ref b :: (vs ++ dvs)) (Value.ref b :: (us ++ dv)) := .cons rfl (r.append hv)
    exact hok.run X.A X.stack s2 _ ⟨Value.ref b :: us, []⟩ (Value.ref b :: (us ++ dv)) (.ref b :: (vs ++ dvs)) Q' E' oc.room e0 (hb s2 (Value.ref b :: us) I2.kIn (by rw [← hok.len _ _ _ _ sp, r2.length]; rfl)) r2 sp
end
end Av
set_option Elab.async false
set_option linter.all false
set_option maxRecDepth 100000
set_option maxHeartbeats 4000000
/-! # AvL4: lambdas made; their promise by their words; exceptions as values -/
namespace Av
open PySem PySem.Spec PyProof.Rows L2 LamX NdefX
variable [Tb]
section
variable {X : Cx} {pins : List (Addr × Obj)} {σ : L2.St} {H : Hp} {s : Shared}
theorem inv_fnB {params : Arguments} {body : Expr} {scope : Scope} {qual : Str} {clos : List (Str × Addr)} {pm ctv : Value} {c' : Addr} {t' : Nat} (I : Inv X pins σ H s) :
    Inv X pins σ (upd H s.heap.objs.size (FnB s.heap.objs.size ⟨params, .expr body, scope⟩ qual clos c')) { s with heap := s.heap.push (PySem.W.kla_obj "<lambda>" qual params body scope clos pm c' ctv), toks := t' } := by
  refine I.laid (a := s.heap.objs.size) (fun b u e => Heap.get?_push_of_some _ e) (Nat.le_refl _) ?_
  have e : (s.heap.push (PySem.W.kla_obj "<lambda>" qual params body scope clos pm c' ctv)).get? s.heap.objs.size = some (PySem.W.kla_obj "<lambda>" qual params body scope clos pm c' ctv) := Heap.get?_push_size _ rfl
  exact ⟨⟨_, _, "<lambda>", _, pm, ctv, e⟩, ⟨_, e⟩, fun h1 h2 ⟨od, sl, n, d, p, t, z⟩ st => ⟨od, sl, n, d, p, t, st _ z⟩⟩
theorem lam_makeB {T : List NTab} {nm : Nat → Nat → Str} {c P : Addr} {params : Arguments} {body : Expr} {scope : Scope} {pos : Pos} {E : Value → Shared → Prop} {Q : Value → Shared → Prop} (I : Inv X pins σ H s) (TB : TabB X.base X.mg c P) (hcode : X.env.code = .ref c)
    (hm : (P, nm) ∈ T) (hn : nm pos.line pos.col = X.env.qual ++ "<lambda>") (hu : ∀ p ∈ T, p.1 = P → p.2 = nm) (hT : TabsN T H) (hdef : defaultsOf params X.env = ([], [])) (hfree : ∀ y ∈ scope.names, y.2 = .free → ∃ c, X.env.cells.lookup y.1 = some c)
    (h : ∀ (f c' : Addr) (H1 : Hp) (s' : Shared), Inv X pins σ H1 s' → ExtN H H1 → TabsN T H1 → H1 f = some (FnB f ⟨params, .expr body, scope⟩ (X.env.qual ++ "<lambda>") (cloFrom X.env.cells scope.names []) c') → H1 c' = some (CodeO c' (X.env.qual ++ "<lambda>")) → Q (.ref f) s') :
    wpAny (model X.prog X.w) X.A (eval (.Lambda params body scope pos) X.env) Q E s := by
  obtain ⟨ps, hP, ht, ha⟩ := (show TabN H P nm from hT _ hm)
  refine PySem.W.kla_eval hdef ?_
  have bP : s.heap.BuiltinsAt X.mg P := TB.bm.keeps I.bk
  have hP' : s.heap.get? P = some { cls := .none, data := .fields ps } := I.hok P _ hP
  cases hc : codeAmong pos ps.toList with
  | none =>
    refine PySem.W.kla_makeFunction (mg := X.mg) (c := c) (P := P) (ps := ps) (closure_ok hfree) I.ok.glob (I.mod.glob.keeps I.bk) hcode (TB.code.keeps I.bk) hP' ht hc TB.gP bP fun c' ctv h' tk hx hge hlt hrec htb => ?_
    obtain ⟨c2, oc, vs, t, e2, hoc, hd, hv⟩ := hrec
    cases e2
    have nC : H c' = none := I.hok.fresh hge
    have I1 := inv_table (t' := tk) (more := #[rawInt pos.line, rawInt pos.col, .ref c']) (h' := h') I hP (fun b o hb e => hx b o hb e) htb hge ⟨oc, vs, t, hoc, hd, hv⟩
    have hE : ExtN H (upd (upd H P (.tbl (ps ++ #[rawInt pos.line, rawInt pos.col, .ref c']))) c' (CodeO c' (X.env.qual ++ "<lambda>"))) := fun b o e n => by
      rw [upd_ne (ne_of_none e nC), upd_ne (fun z => n ps (Option.some.inj (e.symm.trans (by rw [z]; exact hP))))]
      exact e
    have eL : (ps ++ #[rawInt pos.line, rawInt pos.col, .ref c']).toList = ps.toList ++ [rawInt pos.line, rawInt pos.col, .ref c'] := by simp
    have T1 : TabsN T (upd (upd H P (.tbl (ps ++ #[rawInt pos.line, rawInt pos.col, .ref c']))) c' (CodeO c' (X.env.qual ++ "<lambda>"))) := fun p hp => by
      by_cases hb : p.1 = P
      · rw [hu p hp hb, hb]
        refine ⟨_, by rw [upd_ne (ne_of_none hP nC), upd_same], by rw [eL]; exact PySem.TriplesOk_snoc _ _ _ _ ht, fun p' cv hcv => ?_⟩
        rw [eL] at hcv
        rcases among_app2 _ ht hcv with z | ⟨z, z1, z2⟩
        · obtain ⟨c0, e1, e2⟩ := ha p' cv z
          exact ⟨c0, e1, hE _ _ e2 codeO_ne⟩
        · refine ⟨c', z, ?_⟩
          rw [← z1, ← z2, hn]
          exact upd_same
      · obtain ⟨ps', a1, a2, a3⟩ := hT p hp
        refine ⟨ps', by rw [upd_ne (ne_of_none a1 nC), upd_ne hb]; exact a1, a2, fun p' cv hcv => ?_⟩
        obtain ⟨c0, e1, e2⟩ := a3 p' cv hcv
        exact ⟨c0, e1, hE _ _ e2 codeO_ne⟩
    have nF := I1.hok.fresh (Nat.le_refl _)
    have I2 := inv_fnB (params := params) (body := body) (scope := scope) (qual := X.env.qual ++ "<lambda>") (clos := cloFrom X.env.cells scope.names []) (c' := c') (t' := tk) (ctv := ctv) (pm := (X.mg "__name__").getD .none) I1
    refine h h'.objs.size c' _ _ I2 (fun b o e n => ?_) (T1.ext fun b o e => ?_) upd_same ?_
    · have e1 := hE b o e n
      exact (upd_ne (ne_of_none e1 nF)).trans e1
    · exact (upd_ne (ne_of_none e nF)).trans e
    · exact (upd_ne (Nat.ne_of_lt hlt)).trans upd_same
  | some cv =>
    obtain ⟨c', e, hco⟩ := ha pos cv hc
    subst e
    rw [hn] at hco
    refine PySem.W.kla_makeFunctionHit (mg := X.mg) (c := c) (P := P) (ps := ps) (closure_ok hfree) I.ok.glob (I.mod.glob.keeps I.bk) hcode (TB.code.keeps I.bk) hP' ht hc bP fun ctv h' tk hx hsz => ?_
    have I1 : Inv X pins σ H { s with heap := h', toks := tk } := I.kept hx
    have nF : H h'.objs.size = none := I1.hok.fresh (Nat.le_refl _)
    have I2 := inv_fnB (params := params) (body := body) (scope := scope) (qual := X.env.qual ++ "<lambda>") (clos := cloFrom X.env.cells scope.names []) (c' := c') (t' := tk) (ctv := ctv) (pm := (X.mg "__name__").getD .none) I1
    refine h h'.objs.size c' _ _ I2 (fun b o e n => ?_) (hT.ext fun b o e => ?_) upd_same ?_
    · exact (upd_ne (ne_of_none e nF)).trans e
    · exact (upd_ne (ne_of_none e nF)).trans e
    · exact (upd_ne (ne_of_none hco nF)).trans hco
end
theorem celsOf_at {cs : Nat → Option Addr} : ∀ {ls : List Nat} {cl : List Addr}, celsOf cs ls = some cl → cl.length = ls.length ∧ ∀ (j : Nat) (i : Nat) (c : Addr), ls[j]? = some i → cl[j]? = some c → cs i = some c
  | [], cl, h => by cases h; exact ⟨rfl, fun j i c e => by simp at e⟩
  | i :: r, cl, h => by
    unfold celsOf at h
    split at h
    · rename_i c l e1 e2
      cases h
      obtain ⟨h1, h2⟩ := celsOf_at e2
      refine ⟨by rw [List.length_cons, List.length_cons, h1], fun j i' c' q1 q2 => ?_⟩
      cases j with
      | zero => simp at q1 q2; rw [← q1, ← q2]; exact e1
      | succ j => simp at q1 q2; exact h2 j i' c' q1 q2
    · cases h
section
variable {X : Cx} {W : WX} {Γ : Gam} {C : Ck} {k : Nat} {pos : Pos}
theorem se_lam (ck : CkOk X C Γ) {q : Nat} {ls : List Nat} {params : Arguments} {body : Expr} {scope : Scope} (ht : C.top = true) (hL : C.isL q ⟨params, .expr body, scope⟩ = true) (hd : params.defaults = []) (hk : params.kw_defaults = []) (hc : capB C (C.fr q) ls scope = true) :
    PE X (.Lambda params body scope pos) (LfE X.K W fun ρ G Q E => ∃ cl, celsOf Γ.cs ls = some cl ∧ Q (.clo q cl) G) := by
  refine ⟨fun pins s σ H Q I ⟨ρ, G, Qa, Ea, hE, hG, ⟨cl, hcl, hw⟩, hp, hx⟩ => ?_⟩
  obtain ⟨hi, hfr, c, P, nm, TB, hcode, hm, hu, hn⟩ := ck.isL q _ hL
  have cz := ck.cs ht
  obtain ⟨l1, l2⟩ := celsOf_at hcl
  unfold capB at hc
  simp only [Bool.and_eq_true, beq_iff_eq, List.all_eq_true, Bool.or_eq_true, Bool.not_eq_true', List.contains_iff_mem, beq_eq_false_iff_ne, List.any_eq_true] at hc
  obtain ⟨⟨hc1, hc2⟩, hc3⟩ := hc
  have lf : ls.length = (Tb.fr q).length := by
    have := congrArg List.length hc1
    rw [List.length_map, List.length_map, hfr] at this
    exact this
  have hfree : ∀ y ∈ scope.names, y.2 = .free → ∃ c, X.env.cells.lookup y.1 = some c := fun y hy e => by
    rcases hc2 y hy with z | ⟨_, z⟩
    · exact absurd e z
    · exact I.ok.has _ (by
        show X.env.scope.names.lookup y.1 = some .cell ∨ X.env.scope.names.lookup y.1 = some .free
        rw [ck.sc]; exact z)
  -- the j-th name's cell
  have cell : ∀ (j : Nat) (y : Str) (c : Addr), (Tb.fr q)[j]? = some y → cl[j]? = some c → X.env.cells.lookup y = some c := fun j y c e1 e2 => by
    have hj : j < ls.length := by rw [← l1]; exact (List.getElem?_eq_some_iff.mp e2).1
    obtain ⟨x, h1, _, _, h2, _⟩ := cz _ c (l2 j _ c (List.getElem?_eq_getElem hj) e2)
    have e3 := congrArg (fun l => l[j]?) hc1
    rw [← hfr] at e1
    simp only [List.getElem?_map, List.getElem?_eq_getElem hj, e1, Option.map_some, Option.some.injEq] at e3
    rw [ck.n] at e3
    rw [e3] at h1
    cases h1
    exact h2
  have clo : CloIs (Tb.fr q) cl (cloFrom X.env.cells scope.names []) := by
    refine ⟨by rw [l1, lf], fun j y c e1 e2 => ?_, fun y c e => ?_, fun x y c e1 e2 => ?_⟩
    · have e3 := cell j y c e1 e2
      have hy : (y, NameKind.free) ∈ scope.names := by
        obtain ⟨z, hz, h1, h2⟩ := hc3 y (by rw [hfr]; exact List.mem_of_getElem? e1)
        rw [← h1, ← h2]; exact hz
      exact clo_has hfree hy e3
    · have hf := clo_cm hfree e
      rcases cloFrom_mem (PySem.mem_of_lookup e) with hm | ⟨h1, h2⟩
      · cases hm
      · rcases hc2 _ h1 with z | ⟨z, _⟩
        · exact absurd rfl z
        · rw [hfr] at z
          obtain ⟨j, hj⟩ := List.mem_iff_getElem?.mp z
          refine ⟨j, hj, ?_⟩
          have hl : j < cl.length := by rw [l1, lf]; exact (List.getElem?_eq_some_iff.mp hj).1
          have e5 := cell j y _ hj (List.getElem?_eq_getElem hl)
          rw [hf] at e5
          cases e5
          exact List.getElem?_eq_getElem hl
    · exact I.ok.inj x y c (clo_cm hfree e1) (clo_cm hfree e2)
  have hdef : defaultsOf params X.env = ([], []) := by
    obtain ⟨a, b, c, d, e, f, g⟩ := params
    simp only at hd hk
    subst hd hk
    rfl
  refine lam_makeB I TB hcode hm (hn _ _) hu hG.t hdef hfree fun f c' H1 s' I1 en T1 hf hc' => ?_
  have st : Stab H H1 := ⟨fun b xs e => en b _ e (fun _ z => by cases z), fun b o xs e => en b _ e (fun _ z => by cases z), fun b φ e => en b _ e (fun _ z => by cases z), fun b o xs e => en b _ e (fun _ z => by cases z)⟩
  refine ⟨.ref f, H1, I1, rfl, hp (.clo q cl) G (.ref f) H1 (fun a o e t n => ⟨en a o e t, n⟩) ⟨fun a o e => ?_, T1⟩ (.clo hi clo hf hc') hw⟩
  obtain ⟨u, h1, h2⟩ := (hG.g a o e).some
  exact (hG.g a o e).mono st (by rw [h1]; exact en a u h1 h2.2.2.2.1)
end
/-! ### exceptions as values -/
section
variable {X : Cx} {W : WX} {Γ : Gam} {k : Nat} {pos p : Pos} {es : List Expr} {wa : Env' → AG → (List Dat → AG → Prop) → AX → Prop}
/-- what is told of the object is less now -/
theorem Inv.excB {pins : List (Addr × Obj)} {σ : L2.St} {H : Hp} {s : Shared} {a C : Addr} {d : Option Addr} (I : Inv X pins σ H s) (h : H a = some (exo a C d)) : Inv X pins σ (upd H a (ExcB a C d)) s := by
  have ne : ∀ {b u}, H b = some u → (∀ φ, u ≠ .ext φ) → b ≠ a := fun e q z => by rw [z, h] at e; exact q _ (Option.some.inj e).symm
  have nn : ∀ {b}, H b = none → b ≠ a := fun e z => by rw [z, h] at e; cases e
  have u : Un X.fs [] H (upd H a (ExcB a C d)) s.heap s.heap := by
    refine ⟨fun _ _ q _ _ _ => q, fun b ob q _ _ _ => ⟨ob.slots, q⟩, fun b ob q n _ => by rw [upd_ne (nn n)]; exact n, fun b ob q _ => ⟨ob, q⟩, fun b xs q => by rw [upd_ne (ne q (fun _ z => by cases z))]; exact q,
      fun b ob w q => by rw [upd_ne (ne q (fun _ z => by cases z))]; exact q, fun b ps q => ⟨#[], by rw [upd_ne (ne q (fun _ z => by cases z)), q]; simp⟩⟩
  have k : HOk X.prog X.w (upd H a (ExcB a C d)) s.heap := fun b w q => by
    by_cases hb : b = a
    · subst hb
      rw [upd_same] at q
      cases q
      obtain ⟨t1, ho⟩ := exo_at I.hok h
      exact ⟨⟨_, _, ho, rfl, rfl, rfl⟩, ⟨_, ho⟩, fun h1 h2 ⟨oe, vs, z, z2⟩ st => ⟨oe, vs, st _ z, z2⟩⟩
    · rw [upd_ne hb] at q
      exact (I.hok b w q).stay (fun _ _ _ z => z) (fun c z => by rw [upd_ne (ne z (fun _ z => by cases z))]; exact z) fun c xs z => by rw [upd_ne (ne z (fun _ z => by cases z))]; exact z
  exact I.un (h' := s.heap) (t' := s.toks) u k
def tXnew (C : Addr) (fl : List Str) (ta : TA) : TE := fun σ H Q => ta σ H fun vs H1 => vs.length = fl.length ∧ ∀ a d, H1 a = none → H1 d = none → d ≠ a → Q (.ref a) (upd (upd H1 d (exd d (fl.zip vs).reverse)) a (ExcB a C (some d)))
theorem pe_xnew {x : Str} {C fI : Addr} {fl : List Str} {fd : FuncData} {ps : List Str} {ta : TA} (T : OexC X.K C) (iC : PySem.W.findIn X.K (.ref C) "__init__" = some (some (.ref fI))) (tI : PySem.W.typeIn X.K (.ref fI) = some (.type "function"))
    (F1 : FnOk X.prog X.w X.K X.mg X.base (L2.CX X.prog X.w) k fI fd ps (spXi X.K C fl)) (hl9 : fl.length ≤ 900) (hr : Room (k + 1) X.A) (hb : Binds X.K fd ps []) (hg : Gl X x) (hm : X.mg x = some (.ref C)) (ha : PA X es ta) (hs : es.all noStar = true)
    (hdb : (x == ("__debug__" : Str)) = false) : PE X (.Call (.Name x p) es [] pos) (tXnew C fl ta) := by
  refine ⟨fun pins s σ H Q I h => ?_⟩
  obtain ⟨nm, q, N, bs, bm, sn, sub, ab, col, dd, k0, k1, k2, k3, k5, hC, hbm⟩ := T.cls
  refine wpAny_Call_Name_kw (ld_glob I hg hm ?_ hdb)
  refine PySem.W.callWith_of (P := fun h => X.K.In h) ?_ (keep_K T.kC) (evalArgs_gen (plain_star hs) (thn (ha.run pos pins s σ H _ I h) fun us s1 ⟨vs, H1, I1, r1, hz, q1⟩ => ⟨I1.kIn, ?_⟩))
  · rw [plain_star hs]; rfl
  show wpAny _ _ (call (.ref C) us) _ _ _
  obtain ⟨hp, g, dr, tk, os⟩ := s1
  have hsz : hp.objs.size ≤ hp.objs.size + 1 := Nat.le_succ _
  have hn : H1 (hp.objs.size + 1) = none := I1.hok.fresh hsz
  have kk : ∀ b o, hp.get? b = some o → ((hp.push (PySem.W.kdv_tup us)).push (PySem.HandSPX.excO C hp.objs.size)).get? b = some o := fun b o e => Heap.get?_push_of_some _ (Heap.get?_push_of_some _ e)
  have hget : ((hp.push (PySem.W.kdv_tup us)).push (PySem.HandSPX.excO C hp.objs.size)).get? (hp.objs.size + 1) = some (PySem.HandSPX.excO C hp.objs.size) := by heap_get
  have I2 : Inv X pins σ (upd H1 (hp.objs.size + 1) (exo (hp.objs.size + 1) C none)) ⟨(hp.push (PySem.W.kdv_tup us)).push (PySem.HandSPX.excO C hp.objs.size), g, dr, tk, os⟩ :=
    I1.laid (t' := tk) (a := hp.objs.size + 1) (o := exo (hp.objs.size + 1) C none) (h' := (hp.push (PySem.W.kdv_tup us)).push (PySem.HandSPX.excO C hp.objs.size)) kk hsz (exo_ok hget)
  have hq : spXi X.K C fl (V.ref (hp.objs.size + 1) :: (vs ++ [])) (upd H1 (hp.objs.size + 1) (exo (hp.objs.size + 1) C none)) (fun v H2 => v = .non ∧ ∃ d, H1 d = none ∧ d ≠ hp.objs.size + 1 ∧ H2 = upd (upd (upd H1 (hp.objs.size + 1) (exo (hp.objs.size + 1) C none)) d (exd d (fl.zip vs).reverse)) (hp.objs.size + 1) (exo (hp.objs.size + 1) C (some d))) (fun _ _ _ => False) :=
    ⟨hp.objs.size + 1, vs, by simp, hz, upd_same, fun d hd hda => ⟨rfl, d, by rw [upd_ne hda] at hd; exact hd, hda, rfl⟩⟩
  have r2 : Vals (V.ref (hp.objs.size + 1) :: (vs ++ [])) (Value.ref (hp.objs.size + 1) :: (us ++ [])) := .cons rfl (r1.append .nil)
  have hl : (Value.ref (hp.objs.size + 1) :: us ++ []).length = ps.length := by
    have e := r2.length
    rw [F1.len _ _ _ _ hq] at e
    exact e.symm
  have hus : us.length ≤ sizeLine := by
    rw [← Paired.length r1, sizeLine_eq]
    omega
  refine wpAny_call (PySem.HandSPX.call_own F.excBase_ValueError (fun Y => PySem.HandSPX.refsVE_contains Y bm hbm) (I1.kIn _ _ hC) (PySem.W.looks_findIn I1.kIn iC) (fun self => PySem.W.bind_fn I1.kIn self tI) hus
    (codeAny_mono (F1.run _ X.stack _ _ ⟨Value.ref (hp.objs.size + 1) :: us, []⟩ (Value.ref (hp.objs.size + 1) :: (us ++ [])) _ _ (fun _ _ _ => False) (hr.make C us []) (I2.env0.make C us []) (by simpa using hb _ (Value.ref (hp.objs.size + 1) :: us) I2.kIn hl) r2 hq) fun r s' hq' => ?_))
  cases r with
  | error er =>
    obtain ⟨_, _, _, _, _, _, _, _, _, _, _, _, z⟩ := hq'
    exact z.elim
  | ok fl =>
    cases fl with
    | ret u =>
      obtain ⟨v, H2, I3, rv, ev, d, hd, hda, eH⟩ := I2.after hq'
      subst ev eH
      refine ⟨rv, V.ref (hp.objs.size + 1), _, Inv.excB I3 upd_same, rfl, ?_⟩
      rw [L2.upd_upd]
      have e : upd (upd (upd H1 (hp.objs.size + 1) (exo (hp.objs.size + 1) C none)) d (exd d (fl.zip vs).reverse)) (hp.objs.size + 1) (ExcB (hp.objs.size + 1) C (some d)) = upd (upd H1 d (exd d (fl.zip vs).reverse)) (hp.objs.size + 1) (ExcB (hp.objs.size + 1) C (some d)) := by
        funext b
        unfold upd
        by_cases h1 : b = hp.objs.size + 1
        · simp only [if_pos h1]
        · simp only [if_neg h1]
      rw [e]
      exact q1 _ d hn hd hda
    | next => exact False.elim hq'
    | brk => exact False.elim hq'
    | cont => exact False.elim hq'
theorem se_xnew (oc : Oc X W Γ k) {C : Str} (hg : Gl X C) (hdb : (C == ("__debug__" : Str)) = false) (ha : PA X es (LfA X.K W wa)) (hs : es.all noStar = true) :
    PE X (.Call (.Name C p) es [] pos) (LfE X.K W fun ρ G Q E => ∃ fl, Γ.xc C = some fl ∧ fl ≠ [] ∧ wa ρ G (fun ds G1 => ds.length = fl.length ∧ Q (.exc C fl ds) G1) E) := by
  refine ⟨fun pins s σ H Q I ⟨ρ, G, Qa, Ea, hE, hG, ⟨fl, hF, h0, hw⟩, hp, hx⟩ => ?_⟩
  obtain ⟨hm, hc⟩ := oc.tb.xc C fl hF
  rcases hc with ⟨h, _⟩ | ⟨_, h9, hO, a, fd, ps, j, hj, hi, ht, hok, hb⟩
  · exact absurd h h0
  refine (pe_xnew (p := p) (pos := pos) hO hi ht hok h9 (oc.room.mono hj) hb hg hm ha hs hdb).run pins s σ H Q I ⟨ρ, G, _, Ea, hE, hG, hw, fun ds G1 vs H1 f g r q => ?_, hx⟩
  refine ⟨by rw [r.length]; exact q.1, fun a d hna hnd hda => ?_⟩
  have ga := g.free hna
  have gd := g.free hnd
  have st : Stab H1 (upd (upd H1 d (exd d (fl.zip vs).reverse)) a (ExcB a (He.ga X.K C) (some d))) := (Stab.new hnd).trans (Stab.new (by rw [upd_ne (Ne.symm hda)]; exact hna))
  have g2 := (g.newT (o := exd d (fl.zip vs).reverse) hnd).newT (o := ExcB a (He.ga X.K C) (some d)) (p := a) (by rw [upd_ne (Ne.symm hda)]; exact hna)
  refine hp (.exc C fl ds) G1 (.ref a) _ (f.trans ((Fra.newT hnd).trans (.newT (by rw [upd_ne (Ne.symm hda)]; exact hna)))) g2 (.exc (dx := some d) upd_same ⟨by rw [r.length]; exact q.1, ?_⟩ (r.mono st)) q.2
  rw [upd_ne hda, upd_same]
  rfl
end
end Av
set_option Elab.async false
set_option linter.all false
set_option maxRecDepth 100000
set_option maxHeartbeats 4000000
/-! # Av10: a body that fits its words does what they say (values) -/
namespace Av
open PySem PySem.Spec PyProof.Rows L2
variable [Tb]
section
variable {X : Cx} {W : WX} {x : Expr} {pos : Pos}
theorem pe_never {w : WfE} (h : ∀ ρ G Q E, ¬ w ρ G Q E) : PE X x (LfE X.K W w) := ⟨fun _ _ _ _ _ _ ⟨ρ, G, Q, E, _, _, hw, _⟩ => absurd hw (h ρ G Q E)⟩
theorem pt_never {w : WfT} (h : ∀ ρ G Q E, ¬ w ρ G Q E) : PT X x (LfT X.K W w) := ⟨fun _ _ _ _ _ _ ⟨ρ, G, Q, E, _, _, hw, _⟩ => absurd hw (h ρ G Q E)⟩
theorem pi_never {tg : Expr} {w : WfI} (h : ∀ ρ G Q E, ¬ w ρ G Q E) : PI X tg x (LfI X.K W w) := ⟨fun _ _ _ _ _ _ ⟨ρ, G, Q, E, _, _, hw, _⟩ => absurd hw (h ρ G Q E)⟩
theorem st_din {Γ : Gam} {k : Nat} {a b : Expr} {w1 w2 : WfE} {n : Bool} (oc : Oc X W Γ k) (hm : behindInMarks (gopE n) b = false) (h1 : PE X a (LfE X.K W w1)) (h2 : PE X b (LfE X.K W w2)) :
    PT X (.Compare a [gopE n] [b] pos) (LfT X.K W fun ρ G Q E => w1 ρ G (fun y G1 => w2 ρ G1 (fun x G2 => ∃ kv kk, dkOf G2 x = some kv ∧ keyD y = some kk ∧ Q (negB n (lookD kv kk).isSome) G2) E) E) := by
  refine PT.imp (pt_cmp (se_din (n := n) oc h1 h2) hm) ?_
  rintro σ H Q ⟨ρ, G, Qa, Ea, hE, hG, hw, hp, hx⟩
  refine ⟨ρ, G, boolW Qa, Ea, hE, hG, hw, fun d G1 v H1 f g r q => ?_, hx⟩
  obtain ⟨kb, e, q⟩ := boolW_inv q
  subst e
  exact ⟨kb, rep_b r, hp _ _ _ _ f g rfl q⟩
theorem cst_ok {d : Dat} {c : Const} {j : Nat} (h : cstB d c = true) : PE X (.Constant c j pos) (LfE X.K W fun _ G Q _ => Q d G) := by
  unfold cstB at h
  split at h
  · cases beq_iff_eq.mp h; exact se_c pe_int fun _ => .int _
  · cases beq_iff_eq.mp h; exact se_c pe_str fun _ => .str _
  · cases beq_iff_eq.mp h; exact se_c pe_bl fun _ => .bl _
  · exact se_c pe_non fun _ => .non
  · cases h
theorem pe_one {op : BoolOp} {t : TE} (h : PE X x t) : PE X (.BoolOp op [x] pos) t := ⟨fun pins s σ H Q I q => h.run pins s σ H Q I q⟩
theorem corEs_len {C : Ck} : ∀ {es : List E} {xs : List Expr}, corEs C es xs = true → es.length = xs.length ∧ xs.all noStar = true
  | [], [], _ => ⟨rfl, rfl⟩
  | e :: es, x :: xs, h => by
    unfold corEs at h
    simp only [Bool.and_eq_true] at h
    obtain ⟨h1, h2⟩ := corEs_len h.2
    exact ⟨by rw [List.length_cons, List.length_cons, h1], by rw [List.all_cons, h.1.1, h2]; rfl⟩
  | [], _ :: _, h => by unfold corEs at h; cases h
  | _ :: _, [], h => by unfold corEs at h; cases h
theorem all_cons1 {x : Expr} {xs : List Expr} (h : (x :: xs).all noStar = true) : noStar x = true ∧ xs.all noStar = true := by
  rw [List.all_cons, Bool.and_eq_true] at h
  exact h
theorem few_ok {y : Expr} {ys : List Expr} {env : Env} (h : (y :: ys).all noStar = true) (hl : ys.length < 20) :
    ((backTo pos (starEach (y :: ys) env)).all (fun x => !x.1) && (backToKw pos (keywordEach [] env)).all (fun x => x.1.isSome)
      && decide ((y :: ys).length + ([] : List Keyword).length + (if ([] : List Keyword).isEmpty then 0 else 1) < 30)) = true := by
  rw [plain_few h]
  show decide (ys.length + 1 + 0 + 0 < 30) = true
  exact decide_eq_true (by omega)
theorem meth_eq {o : Expr} {m : Str} {apos : Pos} {env : Env} {xs : List Expr} (h : noCall o = true) (hl : (apos.endLine == pos.line) = true) (hs : xs.all noStar = true) (hn : xs.length < 20) : eval (.Call (.Attribute o m apos) xs [] pos) env = (do
      let w ← eval o env
      standAt apos.atName
      let (g, one) ← holding [w] (getMethod w m (do return (← importBound o env).getD true))
      callWith pos g one (backTo pos (starEach xs env)) (backToKw pos (keywordEach [] env))) := by
  have e1 : eval (.Call (.Attribute o m apos) xs [] pos) env = (do
      let w ← attributeBase o m env (eval o env)
      standAt apos.atName
      methodCall o m apos pos env w (xs.length + 0) (backTo pos (starEach xs env)) (backToKw pos (keywordEach [] env))) := rfl
  have few : methodCallForm (xs.length + 0) (backTo pos (starEach xs env)) (backToKw pos (keywordEach [] env)) = true := by
    unfold methodCallForm
    rw [plain_few hs]
    show decide (xs.length + 0 + 0 < 30) = true
    exact decide_eq_true (by omega)
  have e2 : ∀ w, methodCall o m apos pos env w (xs.length + 0) (backTo pos (starEach xs env)) (backToKw pos (keywordEach [] env)) = (do
      let (g, one) ← holding [w] (getMethod w m (do return (← importBound o env).getD true))
      callWith pos g one (backTo pos (starEach xs env)) (backToKw pos (keywordEach [] env))) := fun w => by
    unfold methodCall calleeOf methodCallPos
    rw [few, hl]
    simp only [if_true, Bool.not_true, Bool.or_true, pure_bind]
  rw [e1, base_no h]
  simp only [e2]
theorem kw_all {C : Ck} {env : Env} {pos : Pos} : ∀ {es : List E} {ks : List Str} {kws : List Keyword}, corKs C es ks kws = true → (backToKw pos (keywordEach kws env)).all (·.1.isSome) = true
  | [], [], [], _ => rfl
  | e :: es, n :: ks, ⟨some m, x, p⟩ :: kws, h => by
    unfold corKs at h
    simp only [Bool.and_eq_true] at h
    show (true && _) = true
    rw [Bool.true_and]
    exact kw_all h.2
  | [], [], _ :: _, h => by unfold corKs at h; cases h
  | [], _ :: _, _, h => by unfold corKs at h; cases h
  | _ :: _, [], _, h => by unfold corKs at h; cases h
  | _ :: _, _ :: _, [], h => by unfold corKs at h; cases h
  | _ :: _, _ :: _, ⟨none, _, _⟩ :: _, h => by unfold corKs at h; cases h
theorem kw_nms {C : Ck} {env : Env} {pos : Pos} : ∀ {es : List E} {ks : List Str} {kws : List Keyword}, corKs C es ks kws = true → (backToKw pos (keywordEach kws env)).filterMap (·.1) = ks
  | [], [], [], _ => rfl
  | e :: es, n :: ks, ⟨some m, x, p⟩ :: kws, h => by
    unfold corKs at h
    simp only [Bool.and_eq_true] at h
    cases beqS h.1.1
    show n :: _ = n :: ks
    exact congrArg (n :: ·) (kw_nms h.2)
  | [], [], _ :: _, h => by unfold corKs at h; cases h
  | [], _ :: _, _, h => by unfold corKs at h; cases h
  | _ :: _, [], _, h => by unfold corKs at h; cases h
  | _ :: _, _ :: _, [], h => by unfold corKs at h; cases h
  | _ :: _, _ :: _, ⟨none, _, _⟩ :: _, h => by unfold corKs at h; cases h
theorem kw_some {C : Ck} {env : Env} {pos : Pos} : ∀ {es : List E} {ks : List Str} {kws : List Keyword}, corKs C es ks kws = true → (backToKw pos (keywordEach kws env)).any (·.1.isNone) = false
  | [], [], [], _ => rfl
  | e :: es, n :: ks, ⟨some m, x, p⟩ :: kws, h => by
    unfold corKs at h
    simp only [Bool.and_eq_true] at h
    show (false || _) = false
    rw [Bool.false_or]
    exact kw_some h.2
  | [], [], _ :: _, h => by unfold corKs at h; cases h
  | [], _ :: _, _, h => by unfold corKs at h; cases h
  | _ :: _, [], _, h => by unfold corKs at h; cases h
  | _ :: _, _ :: _, [], h => by unfold corKs at h; cases h
  | _ :: _, _ :: _, ⟨none, _, _⟩ :: _, h => by unfold corKs at h; cases h
theorem kw_plain {C : Ck} {env : Env} {pos : Pos} {xs : List Expr} {es : List E} {ks : List Str} {kws : List Keyword} (h1 : xs.all noStar = true) (h : corKs C es ks kws = true) :
    ((backTo pos (starEach xs env)).any (·.1) || (backToKw pos (keywordEach kws env)).any (·.1.isNone)) = false := by
  rw [plain_star h1, kw_some h]
  rfl
theorem meth_eqK {o : Expr} {m : Str} {apos : Pos} {env : Env} {xs : List Expr} {kws : List Keyword} (h : noCall o = true) (hl : (apos.endLine == pos.line) = true) (hs : xs.all noStar = true) (hk : (backToKw pos (keywordEach kws env)).all (·.1.isSome) = true) (hk2 : kws.length < 8) (hn : xs.length < 20) : eval (.Call (.Attribute o m apos) xs kws pos) env = (do
      let w ← eval o env
      standAt apos.atName
      let (g, one) ← holding [w] (getMethod w m (do return (← importBound o env).getD true))
      callWith pos g one (backTo pos (starEach xs env)) (backToKw pos (keywordEach kws env))) := by
  have e1 : eval (.Call (.Attribute o m apos) xs kws pos) env = (do
      let w ← attributeBase o m env (eval o env)
      standAt apos.atName
      methodCall o m apos pos env w (xs.length + kws.length) (backTo pos (starEach xs env)) (backToKw pos (keywordEach kws env))) := rfl
  have few : methodCallForm (xs.length + kws.length) (backTo pos (starEach xs env)) (backToKw pos (keywordEach kws env)) = true := by
    unfold methodCallForm
    rw [plain_few hs, hk]
    have : ∀ b : Bool, (if b = true then 0 else 1) ≤ 1 := by decide
    have := this (backToKw pos (keywordEach kws env)).isEmpty
    simp only [Bool.true_and, decide_eq_true_eq]
    omega
  have e2 : ∀ w, methodCall o m apos pos env w (xs.length + kws.length) (backTo pos (starEach xs env)) (backToKw pos (keywordEach kws env)) = (do
      let (g, one) ← holding [w] (getMethod w m (do return (← importBound o env).getD true))
      callWith pos g one (backTo pos (starEach xs env)) (backToKw pos (keywordEach kws env))) := fun w => by
    unfold methodCall calleeOf methodCallPos
    rw [few, hl]
    simp only [if_true, Bool.not_true, Bool.or_true, pure_bind]
  rw [e1, base_no h]
  simp only [e2]
theorem corD_len {C : Ck} : ∀ {es : List E} {ks : List (Option Expr)} {vs : List Expr}, corD C es ks vs = true → ks.length = vs.length ∧ ks.all (·.isSome) = true
  | [], [], [], _ => ⟨rfl, rfl⟩
  | k :: v :: es, some x :: ks, y :: vs, h => by
    unfold corD at h
    simp only [Bool.and_eq_true] at h
    obtain ⟨h1, h2⟩ := corD_len h.2
    exact ⟨by rw [List.length_cons, List.length_cons, h1], by rw [List.all_cons, h2]; rfl⟩
  | [], [], _ :: _, h => by unfold corD at h; cases h
  | [], _ :: _, _, h => by unfold corD at h; cases h
  | [_], _, _, h => by unfold corD at h; cases h
  | _ :: _ :: _, [], _, h => by unfold corD at h; cases h
  | _ :: _ :: _, none :: _, _, h => by unfold corD at h; cases h
  | _ :: _ :: _, some _ :: _, [], h => by unfold corD at h; cases h
theorem few1 {xs : List Expr} {env : Env} (h : xs.all noStar = true) (hl : xs.length < 20) : ((backTo pos (starEach xs env)).all (fun x => !x.1) && (backToKw pos (keywordEach [] env)).all (fun x => x.1.isSome)
      && decide (xs.length + ([] : List Keyword).length + (if ([] : List Keyword).isEmpty then 0 else 1) < 30)) = true := by
  rw [plain_few h]
  show decide (xs.length + 0 + 0 < 30) = true
  exact decide_eq_true (by omega)
theorem m1_ok {X : Cx} {o e : Expr} {m : Str} {apos : Pos} (h : noCall o = true) (hl : (apos.endLine == pos.line) = true) (hs : noStar e = true) : M1 X o m apos e pos :=
  ⟨base_no h, few1 (xs := [e]) (by rw [List.all_cons, hs]; rfl) (show 1 < 20 by decide), hl, by rw [star1 hs]; rfl⟩
theorem m2_ok {X : Cx} {o e f : Expr} {m : Str} {apos : Pos} (h : noCall o = true) (hl : (apos.endLine == pos.line) = true) (hs : noStar e = true) (hs2 : noStar f = true) : M2 X o m apos e f pos :=
  ⟨base_no h, few1 (xs := [e, f]) (by rw [List.all_cons, List.all_cons, hs, hs2]; rfl) (show 2 < 20 by decide), hl, by rw [star1 hs, star1 hs2]; rfl⟩
theorem nosl_ok {i : Expr} (h : noSlice i = true) : NoSl i := plain_ix h
end
mutual
theorem okE {Γ : Gam} {k : Nat} : ∀ (e : E) {X : Cx} {W : WX} {C : Ck} (x : Expr), Oc X W Γ k → CkOk X C Γ → corE C e x = true → PE X x (LfE X.K W (wE Γ e))
  | .var i, X, W, C, x, oc, ck, h => by
    unfold corE at h
    split at h
    · obtain ⟨h1, h2, h3, h4⟩ := vis_of ck h
      exact se_var h1 h2 h3 h4
    · cases h
  | .cst d, X, W, C, x, oc, ck, h => by
    unfold corE at h
    split at h
    · exact cst_ok h
    · cases h
  | .glo n, X, W, C, x, oc, ck, h => by
    unfold corE at h
    split at h
    · simp only [Bool.and_eq_true] at h
      cases beqS h.1
      obtain ⟨h1, h2, h3⟩ := gl_of ck h.2
      exact se_glo oc h1 h3 h2
    · cases h
  | .bin z o a b, X, W, C, x, oc, ck, h => by
    unfold corE at h
    split at h
    · simp only [Bool.and_eq_true, beq_iff_eq] at h
      obtain ⟨⟨rfl, h1⟩, h2⟩ := h
      obtain ⟨r, k1, k2⟩ := bin_ok X z o
      exact se_op k1 k2 (okE a _ oc ck h1) (okE b _ oc ck h2)
    · cases h
  | .neg a, X, W, C, x, oc, ck, h => by
    unfold corE at h
    split at h
    · exact se_neg (okE a _ oc ck h)
    · cases h
  | .cmp o a b, X, W, C, x, oc, ck, h => by
    unfold corE at h
    split at h
    · simp only [Bool.and_eq_true, beq_iff_eq] at h
      obtain ⟨⟨⟨rfl, h0⟩, h1⟩, h2⟩ := h
      obtain ⟨r, k1, k2⟩ := cmp_ok X oc.room.units o
      exact se_cmp k1 k2 (marks_no h0) (okE a _ oc ck h1) (okE b _ oc ck h2)
    · cases h
  | .cmp2 o o' a b c, X, W, C, x, oc, ck, h => by
    unfold corE at h
    split at h
    · simp only [Bool.and_eq_true, beq_iff_eq] at h
      obtain ⟨⟨⟨⟨⟨rfl, rfl⟩, h0⟩, h1⟩, h2⟩, h3⟩ := h
      obtain ⟨r, k1, k2⟩ := cmp_ok X oc.room.units o
      obtain ⟨r', k1', k2'⟩ := cmp_ok X oc.room.units o'
      exact se_cmp2 k1 k2 k1' k2' (marks_no h0) (okE a _ oc ck h1) (okE b _ oc ck h2) (okE c _ oc ck h3)
    · cases h
  | .andV a b, X, W, C, x, oc, ck, h => by
    unfold corE at h
    split at h
    · simp only [Bool.and_eq_true] at h
      exact se_and (okE a _ oc ck h.1) (okE b _ oc ck h.2)
    · cases h
  | .orV a b, X, W, C, x, oc, ck, h => by
    unfold corE at h
    split at h
    · simp only [Bool.and_eq_true] at h
      exact se_or (okE a _ oc ck h.1) (okE b _ oc ck h.2)
    · cases h
  | .one a, X, W, C, x, oc, ck, h => by
    unfold corE at h
    split at h
    · exact pe_one (okE a _ oc ck h)
    · cases h
  | .notV a, X, W, C, x, oc, ck, h => by
    unfold corE at h
    split at h
    · exact se_not (okE a _ oc ck h)
    · cases h
  | .ite c a b, X, W, C, x, oc, ck, h => by
    unfold corE at h
    split at h
    · simp only [Bool.and_eq_true] at h
      exact se_ite (okT c _ oc ck h.1.1).1 (okE a _ oc ck h.1.2) (okE b _ oc ck h.2)
    · cases h
  | .tup es, X, W, C, x, oc, ck, h => by
    unfold corE at h
    split at h
    · exact se_tup (okEs es _ oc ck h)
    · cases h
  | .lst z es, X, W, C, x, oc, ck, h => by
    unfold corE at h
    split at h
    · exact se_lst (okEs es _ oc ck h)
    · cases h
  | .ix a b, X, W, C, x, oc, ck, h => by
    unfold corE at h
    split at h
    · simp only [Bool.and_eq_true] at h
      exact se_ix (plain_ix h.1.1) (okE a _ oc ck h.1.2) (okE b _ oc ck h.2)
    · cases h
  | .slAll z a, X, W, C, x, oc, ck, h => by
    unfold corE at h
    split at h
    · exact se_sl (okE a _ oc ck h) so_none so_none
    · cases h
  | .slFrom z a lo, X, W, C, x, oc, ck, h => by
    unfold corE at h
    split at h
    · simp only [Bool.and_eq_true] at h
      exact se_sl (okE a _ oc ck h.1) (so_some (okE lo _ oc ck h.2)) so_none
    · cases h
  | .slTo z a hi, X, W, C, x, oc, ck, h => by
    unfold corE at h
    split at h
    · simp only [Bool.and_eq_true] at h
      exact se_sl (okE a _ oc ck h.1) so_none (so_some (okE hi _ oc ck h.2))
    · cases h
  | .sl z a lo hi, X, W, C, x, oc, ck, h => by
    unfold corE at h
    split at h
    · simp only [Bool.and_eq_true] at h
      exact se_sl (okE a _ oc ck h.1.1) (so_some (okE lo _ oc ck h.1.2)) (so_some (okE hi _ oc ck h.2))
    · cases h
  | .tupR a b, X, W, C, x, oc, ck, h => by
    unfold corE at h
    split at h
    · simp only [Bool.and_eq_true] at h
      cases beqS h.1.1.1.1.1.1.1
      cases beqS h.1.1.1.1.1.2
      obtain ⟨t1, t2, t3⟩ := gl_of ck h.1.1.1.1.1.1.2
      obtain ⟨h1, h2, h3⟩ := gl_of ck h.1.1.1.1.2
      exact se_tupR oc.calm t1 (oc.tb.blt .tuple) h1 oc.tb.rng (okE a _ oc ck h.1.2) (okE b _ oc ck h.2) (by rw [star1 h.1.1.1.2]) (star1 h.1.1.2) (by rw [star1 h.1.1.2]; rfl)
    · cases h
  | .rev a, X, W, C, x, oc, ck, h => by
    unfold corE at h
    split at h
    · simp only [Bool.and_eq_true, beq_iff_eq] at h
      obtain ⟨rfl, h1⟩ := h
      exact se_rev (okE a _ oc ck h1)
    · cases h
  | .revT a, X, W, C, x, oc, ck, h => by
    unfold corE at h
    split at h
    · simp only [Bool.and_eq_true, beq_iff_eq] at h
      obtain ⟨rfl, h1⟩ := h
      exact se_revT (okE a _ oc ck h1)
    · cases h
  | .call f es, X, W, C, x, oc, ck, h => by
    cases hF : Γ.fn f with
    | none => exact pe_never fun ρ G Q E hw => by unfold wE at hw; rw [hF] at hw; exact hw
    | some F =>
      by_cases ha : F.ar ≤ es.length + F.dfl.length ∧ es.length ≤ F.ar
      · cases es with
        | nil =>
          unfold corE at h
          split at h
          · simp only [Bool.and_eq_true] at h
            cases beqS h.1
            obtain ⟨h1, h2, h3⟩ := gl_of ck h.2
            refine PE.imp (se_call0 oc hF h1 h2 ha.1) ?_
            rintro σ H Q ⟨ρ, G, Qa, Ea, hE, hG, hw, hp, hx⟩
            unfold wE at hw
            rw [hF] at hw
            exact ⟨ρ, G, Qa, Ea, hE, hG, hw.2, hp, hx⟩
          · cases h
        | cons e es =>
          unfold corE at h
          split at h
          · simp only [Bool.and_eq_true] at h
            cases beqS h.1.1
            obtain ⟨h1, h2, h3⟩ := gl_of ck h.1.2
            obtain ⟨l1, l2⟩ := corEs_len h.2
            obtain ⟨l3, l4⟩ := all_cons1 l2
            have hq := okEs (e :: es) _ oc ck h.2
            rw [l1] at ha
            refine PE.imp (se_call oc hF h1 h2 ha.1 ha.2 hq (star1 l3) (plain_star l4)) ?_
            rintro σ H Q ⟨ρ, G, Qa, Ea, hE, hG, hw, hp, hx⟩
            unfold wE at hw
            rw [hF] at hw
            rw [← l1]
            exact ⟨ρ, G, Qa, Ea, hE, hG, hw.2, hp, hx⟩
          · cases h
      · exact pe_never fun ρ G Q E hw => by unfold wE at hw; rw [hF] at hw; exact ha hw.1
  | .blt z f es, X, W, C, x, oc, ck, h => by
    unfold corE at h
    split at h
    · simp only [Bool.and_eq_true] at h
      cases beqS h.1.1
      obtain ⟨h1, h2, h3⟩ := gl_of ck h.1.2
      obtain ⟨l1, l2⟩ := corEs_len h.2
      obtain ⟨l3, l4⟩ := all_cons1 l2
      exact se_blt oc h1 (okEs es _ oc ck h.2) (star1 l3) (plain_star l4)
    · cases h
  | .meth m o es, X, W, C, x, oc, ck, h => by
    cases es with
    | nil =>
      unfold corE at h
      split at h
      · simp only [Bool.and_eq_true] at h
        cases beqS h.1.1.1
        exact se_meth0 (okE o _ oc ck h.2) (base_no h.1.1.2) h.1.2
      · cases h
    | cons e es =>
      unfold corE at h
      split at h
      · simp only [Bool.and_eq_true, decide_eq_true_eq] at h
        cases beqS h.1.1.1.1.1
        obtain ⟨l1, l2⟩ := corEs_len h.2
        obtain ⟨l3, l4⟩ := all_cons1 l2
        exact se_meth (okE o _ oc ck h.1.2) (okEs (e :: es) _ oc ck h.2) (base_no h.1.1.1.1.2) (few_ok l2 h.1.1.2) h.1.1.1.2 (star1 l3) (plain_star l4)
      · cases h
  | .lc z e g it own, X, W, C, x, oc, ck, h => by
    unfold corE at h
    split at h
    · simp only [Bool.and_eq_true] at h
      obtain ⟨on, rfl, k1, k2, k3, k4⟩ := lcB_ok ck oc.calm oc.nd h.1.1
      refine PE.imp (se_lcG (z := z) (wt := fun _ G Q _ => Q true G) oc (okI it _ _ oc ck h.1.2) k1 k2 k3 (fun s H c cl fp => pts_nil) (fun s H c cl fp => okE e _ (oc.blk s H _ _ fp) (into_ok ck s H _ cl c fp) h.2) k4 (fun σ H Q ρ G Qa a b c d => yes_imp _ σ H Q ρ G Qa a b c d)) ?_
      rintro σ H Q ⟨ρ, G, Qa, Ea, hE, hG, hw, hp, hx⟩
      refine ⟨ρ, G, Qa, Ea, hE, hG, ?_, hp, hx⟩
      unfold wE at hw
      unfold lcG
      simp only [lcW_if]
      exact hw
    · cases h
  | .lcIf z e g it t own, X, W, C, x, oc, ck, h => by
    unfold corE at h
    split at h
    · simp only [Bool.and_eq_true] at h
      obtain ⟨on, rfl, k1, k2, k3, k4⟩ := lcB_ok ck oc.calm oc.nd h.1.1.1
      exact se_lcG (z := z) (wt := wT Γ t) oc (okI it _ _ oc ck h.1.1.2) k1 k2 k3 (fun s H c cl fp => pts_one (okT t _ (oc.blk s H _ _ fp) (into_ok ck s H _ cl c fp) h.2).1) (fun s H c cl fp => okE e _ (oc.blk s H _ _ fp) (into_ok ck s H _ cl c fp) h.1.2) k4
        (fun σ H Q ρ G Qa a b c d => tst_imp _ σ H Q ρ G Qa a b c d)
    · cases h
  | .frz a, X, W, C, x, oc, ck, h => by
    unfold corE at h
    exact se_frz (okE a _ oc ck h)
  | .att a f, X, W, C, x, oc, ck, h => by
    unfold corE at h
    split at h
    · simp only [Bool.and_eq_true] at h
      cases beqS h.1.1
      exact se_att oc (okE a _ oc ck h.2) (base_no h.1.2)
    · cases h
  | .mnam n m o es ks fs, X, W, C, x, oc, ck, h => by
    unfold corE at h
    split at h
    · rename_i y g ap zs kws cp
      simp only [Bool.and_eq_true] at h
      obtain ⟨⟨⟨⟨⟨⟨⟨h1, h2⟩, h3⟩, h4⟩, h8⟩, h5⟩, h6⟩, h7⟩ := h
      cases beqS h1
      obtain ⟨l1, l2⟩ := corEs_len h6
      cases hF : Γ.mn n m es.length ks with
      | none => exact pe_never fun ρ G Q E hw => by unfold wE at hw; rw [hF] at hw; exact hw
      | some F =>
        refine PE.imp (se_mnam (n := es.length) oc hF (okE o _ oc ck h5) (okEs es _ oc ck h6) (okKs fs _ _ oc ck h7) (kw_all h7) (kw_nms h7) (fun e es' e1 => by subst e1; exact star1 (all_cons1 l2).1) (kw_plain l2 h7) (fun ρ G Q E e1 hw => ?_) (meth_eqK h2 h3 l2 (kw_all h7) (of_decide_eq_true h8) (of_decide_eq_true h4))) ?_
        · subst e1
          cases es with
          | nil => exact hw
          | cons e es => cases l1
        · rintro σ H Q ⟨ρ, G, Qa, Ea, hE, hG, hw, hp, hx⟩
          unfold wE at hw
          rw [hF] at hw
          exact ⟨ρ, G, Qa, Ea, hE, hG, hw, hp, hx⟩
    · cases h
  | .ccall n m es, X, W, C, x, oc, ck, h => by
    cases hF : Γ.cm n m with
    | none => exact pe_never fun ρ G Q E hw => by unfold wE at hw; rw [hF] at hw; exact hw
    | some F =>
      by_cases ha : F.ar ≤ es.length + F.dfl.length ∧ es.length ≤ F.ar
      · unfold corE at h
        split at h
        · rename_i y p g ap z zs cp
          simp only [Bool.and_eq_true] at h
          obtain ⟨⟨⟨⟨⟨h1, h2⟩, h3⟩, h4⟩, h5⟩, h6⟩ := h
          cases beqS h1
          cases beqS h2
          obtain ⟨g1, g2, g3⟩ := gl_of ck h3
          obtain ⟨l1, l2⟩ := corEs_len h6
          obtain ⟨l3, l4⟩ := all_cons1 l2
          have hq := okEs es _ oc ck h6
          rw [l1] at ha
          refine PE.imp (se_ccall oc hF g1 g2 ha.1 ha.2 hq (star1 l3) (plain_star l4) (meth_eq rfl h4 l2 (of_decide_eq_true h5))) ?_
          rintro σ H Q ⟨ρ, G, Qa, Ea, hE, hG, hw, hp, hx⟩
          unfold wE at hw
          rw [hF] at hw
          rw [← l1]
          exact ⟨ρ, G, Qa, Ea, hE, hG, hw.2, hp, hx⟩
        · cases h
      · exact pe_never fun ρ G Q E hw => by unfold wE at hw; rw [hF] at hw; exact ha hw.1
  | .mcall n m o es, X, W, C, x, oc, ck, h => by
    cases hF : Γ.ms n m with
    | none => exact pe_never fun ρ G Q E hw => by unfold wE at hw; rw [hF] at hw; exact hw
    | some F =>
      by_cases ha : F.ar ≤ es.length + 1 + F.dfl.length ∧ es.length + 1 ≤ F.ar
      · cases es with
        | nil =>
          unfold corE at h
          split at h
          · simp only [Bool.and_eq_true] at h
            cases beqS h.1.1.1
            refine PE.imp (se_mcall0 oc hF ha.1 ha.2 (okE o _ oc ck h.2) (meth_eq h.1.1.2 h.1.2 rfl (Nat.zero_lt_succ _))) ?_
            rintro σ H Q ⟨ρ, G, Qa, Ea, hE, hG, hw, hp, hx⟩
            unfold wE at hw
            rw [hF] at hw
            exact ⟨ρ, G, Qa, Ea, hE, hG, hw.2, hp, hx⟩
          · cases h
        | cons e es =>
          unfold corE at h
          split at h
          · simp only [Bool.and_eq_true] at h
            cases beqS h.1.1.1.1.1
            obtain ⟨l1, l2⟩ := corEs_len h.2
            obtain ⟨l3, l4⟩ := all_cons1 l2
            have hq := okEs (e :: es) _ oc ck h.2
            rw [l1] at ha
            refine PE.imp (se_mcall oc hF ha.1 ha.2 (okE o _ oc ck h.1.2) hq (star1 l3) (plain_star l4) (meth_eq h.1.1.1.1.2 h.1.1.1.2 l2 (of_decide_eq_true h.1.1.2))) ?_
            rintro σ H Q ⟨ρ, G, Qa, Ea, hE, hG, hw, hp, hx⟩
            unfold wE at hw
            rw [hF] at hw
            rw [← l1]
            exact ⟨ρ, G, Qa, Ea, hE, hG, hw.2, hp, hx⟩
          · cases h
      · exact pe_never fun ρ G Q E hw => by unfold wE at hw; rw [hF] at hw; exact ha hw.1
  | .new n es, X, W, C, x, oc, ck, h => by
    cases hF : Γ.mke n with
    | none => exact pe_never fun ρ G Q E hw => by unfold wE at hw; rw [hF] at hw; exact hw
    | some F =>
      by_cases ha : F.ar ≤ es.length + 1 + F.dfl.length ∧ es.length + 1 ≤ F.ar
      · cases es with
        | nil =>
          unfold corE at h
          split at h
          · simp only [Bool.and_eq_true] at h
            cases beqS h.1
            obtain ⟨h1, h2, h3⟩ := gl_of ck h.2
            refine PE.imp (se_new0 oc hF h1 h2 ha.1 ha.2) ?_
            rintro σ H Q ⟨ρ, G, Qa, Ea, hE, hG, hw, hp, hx⟩
            unfold wE at hw
            rw [hF] at hw
            exact ⟨ρ, G, Qa, Ea, hE, hG, hw.2, hp, hx⟩
          · cases h
        | cons e es =>
          unfold corE at h
          split at h
          · simp only [Bool.and_eq_true] at h
            cases beqS h.1.1
            obtain ⟨h1, h2, h3⟩ := gl_of ck h.1.2
            obtain ⟨l1, l2⟩ := corEs_len h.2
            obtain ⟨l3, l4⟩ := all_cons1 l2
            have hq := okEs (e :: es) _ oc ck h.2
            rw [l1] at ha
            refine PE.imp (se_new oc hF h1 h2 ha.1 ha.2 hq (star1 l3) (plain_star l4)) ?_
            rintro σ H Q ⟨ρ, G, Qa, Ea, hE, hG, hw, hp, hx⟩
            unfold wE at hw
            rw [hF] at hw
            rw [← l1]
            exact ⟨ρ, G, Qa, Ea, hE, hG, hw.2, hp, hx⟩
          · cases h
      · exact pe_never fun ρ G Q E hw => by unfold wE at hw; rw [hF] at hw; exact ha hw.1
  | .dlit es, X, W, C, x, oc, ck, h => by
    unfold corE at h
    split at h
    · rename_i ks vs q
      simp only [Bool.and_eq_true, decide_eq_true_eq] at h
      obtain ⟨l1, l2⟩ := corD_len h.1
      by_cases h0 : ks = []
      · subst h0
        have : vs = [] := List.length_eq_zero_iff.mp l1.symm
        subst this
        cases es with
        | nil => exact se_dlit0
        | cons a r =>
          cases r with
          | nil => have := h.1; unfold corD at this; cases this
          | cons => have := h.1; unfold corD at this; cases this
      · exact se_dlit (okD es ks vs oc ck h.1) l2 l1 h0 h.2
    · cases h
  | .dix a b, X, W, C, x, oc, ck, h => by
    unfold corE at h
    split at h
    · simp only [Bool.and_eq_true] at h
      exact se_dix oc (nosl_ok h.1.1) (okE a _ oc ck h.1.2) (okE b _ oc ck h.2)
    · cases h
  | .dupd a b, X, W, C, x, oc, ck, h => by
    unfold corE at h
    split at h
    · simp only [Bool.and_eq_true] at h
      obtain ⟨⟨⟨⟨⟨h1, h2⟩, h3⟩, h4⟩, h5⟩, h6⟩ := h
      cases beqS h1
      exact se_dupd oc (okE a _ oc ck h5) (okE b _ oc ck h6) (base_no h2) (few_ok (by rw [List.all_cons, h4]; rfl) (by decide)) h3 (star1 h4)
    · cases h
  | .dget1 a b, X, W, C, x, oc, ck, h => by
    unfold corE at h
    split at h
    · simp only [Bool.and_eq_true] at h
      cases beqS h.1.1.1.1.1
      exact se_dget1 oc (okE a _ oc ck h.1.2) (okE b _ oc ck h.2) (m1_ok h.1.1.1.1.2 h.1.1.1.2 h.1.1.2)
    · cases h
  | .dget2 a b c, X, W, C, x, oc, ck, h => by
    unfold corE at h
    split at h
    · simp only [Bool.and_eq_true] at h
      cases beqS h.1.1.1.1.1.1.1
      exact se_dget2 oc (okE a _ oc ck h.1.1.2) (okE b _ oc ck h.1.2) (okE c _ oc ck h.2) (m2_ok h.1.1.1.1.1.1.2 h.1.1.1.1.1.2 h.1.1.1.1.2 h.1.1.1.2)
    · cases h
  | .dead, X, W, C, x, oc, ck, h => pe_never fun ρ G Q E hw => by unfold wE at hw; exact hw
  | .gin n d a, X, W, C, x, oc, ck, h => by
    cases hd : Γ.dc d with
    | none => exact pe_never fun ρ G Q E hw => by unfold wE at hw; rw [hd] at hw; exact hw
    | some kv =>
      unfold corE at h
      split at h
      · simp only [Bool.and_eq_true, beq_iff_eq] at h
        obtain ⟨⟨⟨rfl, h0⟩, h1⟩, h2⟩ := h
        subst h0
        obtain ⟨g1, g2, g3⟩ := gl_of ck h1
        refine PE.imp (se_gin oc hd g1 g2 (okE a _ oc ck h2)) fun σ H Q ⟨ρ, G, Qa, Ea, hE, hG, hw, hp, hx⟩ => ⟨ρ, G, Qa, Ea, hE, hG, ?_, hp, hx⟩
        unfold wE at hw
        rw [hd] at hw
        exact hw
      · cases h
  | .gix d a, X, W, C, x, oc, ck, h => by
    cases hd : Γ.dc d with
    | none => exact pe_never fun ρ G Q E hw => by unfold wE at hw; rw [hd] at hw; exact hw
    | some kv =>
      unfold corE at h
      split at h
      · simp only [Bool.and_eq_true, beq_iff_eq] at h
        obtain ⟨⟨⟨h0, h1⟩, h3⟩, h2⟩ := h
        subst h0
        obtain ⟨g1, g2, g3⟩ := gl_of ck h1
        refine PE.imp (se_gix oc hd g1 g2 (nosl_ok h3) (okE a _ oc ck h2)) fun σ H Q ⟨ρ, G, Qa, Ea, hE, hG, hw, hp, hx⟩ => ⟨ρ, G, Qa, Ea, hE, hG, ?_, hp, hx⟩
        unfold wE at hw
        rw [hd] at hw
        exact hw
      · cases h
  | .gget1 d a, X, W, C, x, oc, ck, h => by
    cases hd : Γ.dc d with
    | none => exact pe_never fun ρ G Q E hw => by unfold wE at hw; rw [hd] at hw; exact hw
    | some kv =>
      unfold corE at h
      split at h
      · simp only [Bool.and_eq_true, beq_iff_eq] at h
        obtain ⟨⟨⟨⟨⟨rfl, h0⟩, h1⟩, h3⟩, h4⟩, h2⟩ := h
        subst h0
        obtain ⟨g1, g2, g3⟩ := gl_of ck h1
        refine PE.imp (se_gget1 oc hd g1 g2 (okE a _ oc ck h2) (m1_ok rfl (beq_iff_eq.mpr h3) h4)) fun σ H Q ⟨ρ, G, Qa, Ea, hE, hG, hw, hp, hx⟩ => ⟨ρ, G, Qa, Ea, hE, hG, ?_, hp, hx⟩
        unfold wE at hw
        rw [hd] at hw
        exact hw
      · cases h
  | .gget2 d a b, X, W, C, x, oc, ck, h => by
    cases hd : Γ.dc d with
    | none => exact pe_never fun ρ G Q E hw => by unfold wE at hw; rw [hd] at hw; exact hw
    | some kv =>
      unfold corE at h
      split at h
      · simp only [Bool.and_eq_true, beq_iff_eq] at h
        obtain ⟨⟨⟨⟨⟨⟨⟨rfl, h0⟩, h1⟩, h3⟩, h4⟩, h5⟩, h2⟩, h6⟩ := h
        subst h0
        obtain ⟨g1, g2, g3⟩ := gl_of ck h1
        refine PE.imp (se_gget2 oc hd g1 g2 (okE a _ oc ck h2) (okE b _ oc ck h6) (m2_ok rfl (beq_iff_eq.mpr h3) h4 h5)) fun σ H Q ⟨ρ, G, Qa, Ea, hE, hG, hw, hp, hx⟩ => ⟨ρ, G, Qa, Ea, hE, hG, ?_, hp, hx⟩
        unfold wE at hw
        rw [hd] at hw
        exact hw
      · cases h
  | .callV i es, X, W, C, x, oc, ck, h => by
    unfold corE at h
    split at h
    · simp only [Bool.and_eq_true] at h
      obtain ⟨v1, v2, v3, v4⟩ := vis_of ck h.1
      obtain ⟨l1, l2⟩ := corEs_len h.2
      obtain ⟨l3, l4⟩ := all_cons1 l2
      refine PE.imp (se_callV oc v1 v2 v3 v4 (okEs es _ oc ck h.2) (star1 l3) (plain_star l4)) fun σ H Q ⟨ρ, G, Qa, Ea, hE, hG, hw, hp, hx⟩ => ⟨ρ, G, Qa, Ea, hE, hG, ?_, hp, hx⟩
      unfold wE at hw
      rw [l1] at hw
      exact hw
    · cases h
  | .din n a b, X, W, C, x, oc, ck, h => by
    unfold corE at h
    split at h
    · simp only [Bool.and_eq_true, beq_iff_eq] at h
      obtain ⟨⟨⟨rfl, h0⟩, h1⟩, h2⟩ := h
      exact pe_cmp (se_din oc (okE a _ oc ck h1) (okE b _ oc ck h2)) (marks_no h0)
    · cases h
  | .sin n a b, X, W, C, x, oc, ck, h => by
    unfold corE at h
    split at h
    · simp only [Bool.and_eq_true, beq_iff_eq] at h
      obtain ⟨⟨⟨rfl, h0⟩, h1⟩, h2⟩ := h
      exact se_sin (marks_no h0) (okE a _ oc ck h1) (okE b _ oc ck h2)
    · cases h
  | .smeth z m o es, X, W, C, x, oc, ck, h => by
    cases es with
    | nil =>
      unfold corE at h
      split at h
      · simp only [Bool.and_eq_true] at h
        cases beqS h.1.1.1
        exact se_smeth0 (okE o _ oc ck h.2) (base_no h.1.1.2) h.1.2
      · cases h
    | cons e es =>
      unfold corE at h
      split at h
      · simp only [Bool.and_eq_true, decide_eq_true_eq] at h
        cases beqS h.1.1.1.1.1
        obtain ⟨l1, l2⟩ := corEs_len h.2
        obtain ⟨l3, l4⟩ := all_cons1 l2
        exact se_smeth (okE o _ oc ck h.1.2) (okEs (e :: es) _ oc ck h.2) (base_no h.1.1.1.1.2) (few_ok l2 h.1.1.2) h.1.1.1.2 (star1 l3) (plain_star l4)
      · cases h
  | .six a b, X, W, C, x, oc, ck, h => by
    unfold corE at h
    split at h
    · simp only [Bool.and_eq_true] at h
      exact se_six (plain_ix h.1.1) (okE a _ oc ck h.1.2) (okE b _ oc ck h.2)
    · cases h
  | .tidx a b, X, W, C, x, oc, ck, h => by
    unfold corE at h
    split at h
    · rename_i y g ap z cp
      simp only [Bool.and_eq_true] at h
      obtain ⟨⟨⟨⟨⟨h1, h2⟩, h3⟩, h4⟩, h5⟩, h6⟩ := h
      have e1 : g = "index" := beqS h1
      subst e1
      exact se_tidx (okE a _ oc ck h5) (okE b _ oc ck h6) (base_no h2) (few_ok (by rw [List.all_cons, h4]; rfl) (by decide)) h3 (star1 h4)
    · cases h
  | .kslF a lo, X, W, C, x, oc, ck, h => by
    unfold corE at h
    split at h
    · simp only [Bool.and_eq_true] at h
      exact se_kslF (okE a _ oc ck h.1) (okE lo _ oc ck h.2)
    · cases h
  | .ktt a, X, W, C, x, oc, ck, h => by
    unfold corE at h
    simp only [Bool.and_eq_true] at h
    exact se_ktt (okE a _ oc ck h.2)
  | .or2 a b, X, W, C, x, oc, ck, h => by
    unfold corE at h
    simp only [Bool.and_eq_true] at h
    exact se_or2 (okE a _ oc ck h.2.1) (okE b _ oc ck h.2.2)
  | .lam q ls, X, W, C, x, oc, ck, h => by
    unfold corE at h
    split at h
    · simp only [Bool.and_eq_true, List.isEmpty_iff] at h
      obtain ⟨⟨⟨⟨h1, h2⟩, h3⟩, h4⟩, h5⟩ := h
      exact se_lam ck h1 h2 h3 h4 h5
    · cases h
  | .pcall ls f es, X, W, C, x, oc, ck, h => by
    unfold corE at h
    split at h
    · simp only [Bool.and_eq_true] at h
      obtain ⟨⟨⟨h0, h1⟩, h2⟩, h3⟩ := h
      cases beqS h1
      obtain ⟨l1, l2⟩ := corEs_len h3
      obtain ⟨g1, g2, g3⟩ := gl_of ck h2
      cases hF : Γ.fn f with
      | none => exact pe_never fun ρ G Q E hw => by unfold wE at hw; rw [hF] at hw; exact hw
      | some F =>
        by_cases hb : F.ar ≤ es.length + F.dfl.length ∧ es.length ≤ F.ar
        · refine PE.imp (se_pcall (ls := ls) oc (ck.cs h0) hF g1 g2 (by rw [← l1]; exact hb.1) (by rw [← l1]; exact hb.2) (okEs es _ oc ck h3) l2) fun σ H Q ⟨ρ, G, Qa, Ea, hE, hG, hw, hp, hx⟩ => ⟨ρ, G, Qa, Ea, hE, hG, ?_, hp, hx⟩
          unfold wE at hw
          rw [hF] at hw
          have hw := hw.2
          rw [l1] at hw
          exact hw
        · exact pe_never fun ρ G Q E hw => by unfold wE at hw; rw [hF] at hw; exact hb hw.1
    · cases h
  | .pcallV ls i es, X, W, C, x, oc, ck, h => by
    unfold corE at h
    split at h
    · simp only [Bool.and_eq_true] at h
      obtain ⟨v1, v2, v3, v4⟩ := vis_of ck h.1.2
      obtain ⟨l1, l2⟩ := corEs_len h.2
      refine PE.imp (se_pcallV (ls := ls) oc (ck.cs h.1.1) v1 v2 v3 v4 (okEs es _ oc ck h.2) l2) fun σ H Q ⟨ρ, G, Qa, Ea, hE, hG, hw, hp, hx⟩ => ⟨ρ, G, Qa, Ea, hE, hG, ?_, hp, hx⟩
      unfold wE at hw
      rw [l1] at hw
      exact hw
    · cases h
  | .mcd ls m o es, X, W, C, x, oc, ck, h => by
    unfold corE at h
    split at h
    · simp only [Bool.and_eq_true, Bool.or_eq_true, List.isEmpty_iff, decide_eq_true_eq] at h
      obtain ⟨⟨⟨⟨⟨⟨h0, h1⟩, h2⟩, h3⟩, h4⟩, h5⟩, h6⟩ := h
      cases beqS h1
      obtain ⟨l1, l2⟩ := corEs_len h6
      have cz : ls = [] ∨ CsOk X Γ := h0.elim (fun z => .inr (ck.cs z)) .inl
      refine PE.imp (se_mcd (ls := ls) oc cz (okE o _ oc ck h5) (okEs es _ oc ck h6) l2 (meth_eq h2 h3 l2 h4)) fun σ H Q ⟨ρ, G, Qa, Ea, hE, hG, hw, hp, hx⟩ => ⟨ρ, G, Qa, Ea, hE, hG, ?_, hp, hx⟩
      unfold wE at hw
      rw [l1] at hw
      exact hw
    · cases h
  | .xnew n es, X, W, C, x, oc, ck, h => by
    unfold corE at h
    split at h
    · simp only [Bool.and_eq_true] at h
      obtain ⟨⟨h1, h2⟩, h3⟩ := h
      cases beqS h1
      obtain ⟨l1, l2⟩ := corEs_len h3
      obtain ⟨g1, g2, g3⟩ := gl_of ck h2
      exact se_xnew oc g1 g2 (okEs es _ oc ck h3) l2
    · cases h
theorem okD {Γ : Gam} {k : Nat} : ∀ (es : List E) {X : Cx} {W : WX} {C : Ck} {pos : Pos} (ks : List (Option Expr)) (vs : List Expr), Oc X W Γ k → CkOk X C Γ → corD C es ks vs = true → DspOk X pos ks vs (LfD X.K W (wEs Γ es))
  | [], X, W, C, pos, [], [], oc, ck, h => sd_nil
  | a :: b :: es, X, W, C, pos, some x :: ks, y :: vs, oc, ck, h => by
    unfold corD at h
    simp only [Bool.and_eq_true] at h
    exact sd_cons (okE a _ oc ck h.1.1) (okE b _ oc ck h.1.2) (okD es ks vs oc ck h.2)
  | [], _, _, _, _, [], _ :: _, _, _, h => by unfold corD at h; cases h
  | [], _, _, _, _, _ :: _, _, _, _, h => by unfold corD at h; cases h
  | [_], _, _, _, _, _, _, _, _, h => by unfold corD at h; cases h
  | _ :: _ :: _, _, _, _, _, [], _, _, _, h => by unfold corD at h; cases h
  | _ :: _ :: _, _, _, _, _, none :: _, _, _, _, h => by unfold corD at h; cases h
  | _ :: _ :: _, _, _, _, _, some _ :: _, [], _, _, h => by unfold corD at h; cases h
theorem okEs {Γ : Gam} {k : Nat} : ∀ (es : List E) {X : Cx} {W : WX} {C : Ck} (xs : List Expr), Oc X W Γ k → CkOk X C Γ → corEs C es xs = true → PA X xs (LfA X.K W (wEs Γ es))
  | [], X, W, C, [], oc, ck, h => sa_nil
  | e :: es, X, W, C, x :: xs, oc, ck, h => by
    unfold corEs at h
    simp only [Bool.and_eq_true] at h
    exact sa_cons (star1 h.1.1) (okE e _ oc ck h.1.2) (okEs es _ oc ck h.2)
  | [], _, _, _, _ :: _, _, _, h => by unfold corEs at h; cases h
  | _ :: _, _, _, _, [], _, _, h => by unfold corEs at h; cases h
theorem okKs {Γ : Gam} {k : Nat} : ∀ (es : List E) {X : Cx} {W : WX} {C : Ck} (ks : List Str) (kws : List Keyword), Oc X W Γ k → CkOk X C Γ → corKs C es ks kws = true → PK X kws (LfA X.K W (wEs Γ es))
  | [], X, W, C, [], [], oc, ck, h => sk_nil
  | e :: es, X, W, C, n :: ks, ⟨some m, x, p⟩ :: kws, oc, ck, h => by
    unfold corKs at h
    simp only [Bool.and_eq_true] at h
    exact sk_cons (okE e _ oc ck h.1.2) (okKs es ks kws oc ck h.2)
  | [], _, _, _, [], _ :: _, _, _, h => by unfold corKs at h; cases h
  | [], _, _, _, _ :: _, _, _, _, h => by unfold corKs at h; cases h
  | _ :: _, _, _, _, [], _, _, _, h => by unfold corKs at h; cases h
  | _ :: _, _, _, _, _ :: _, [], _, _, h => by unfold corKs at h; cases h
  | _ :: _, _, _, _, _ :: _, ⟨none, _, _⟩ :: _, _, _, h => by unfold corKs at h; cases h
theorem okT {Γ : Gam} {k : Nat} : ∀ (t : T) {X : Cx} {W : WX} {C : Ck} (x : Expr), Oc X W Γ k → CkOk X C Γ → corT C t x = true → PT X x (LfT X.K W (wT Γ t)) ∧ ((∀ op xs p, x = .BoolOp op xs p → PW X x (LfT X.K W (wT Γ t))))
  | .and_ a b, X, W, C, x, oc, ck, h => by
    unfold corT at h
    split at h
    · simp only [Bool.and_eq_true] at h
      have q := st_and (okT a _ oc ck h.1).1 ((okT b _ oc ck h.2).2 _ _ _ rfl)
      exact ⟨q.pt, fun _ _ _ _ => q⟩
    · cases h
  | .or_ a b, X, W, C, x, oc, ck, h => by
    unfold corT at h
    split at h
    · simp only [Bool.and_eq_true] at h
      have q := st_or (okT a _ oc ck h.1).1 ((okT b _ oc ck h.2).2 _ _ _ rfl)
      exact ⟨q.pt, fun _ _ _ _ => q⟩
    · cases h
  | .one a, X, W, C, x, oc, ck, h => by
    unfold corT at h
    split at h
    · have q := pw_and1 (pos := by assumption) (okT a _ oc ck h).1
      exact ⟨q.pt, fun _ _ _ _ => q⟩
    · have q := pw_or1 (pos := by assumption) (okT a _ oc ck h).1
      exact ⟨q.pt, fun _ _ _ _ => q⟩
    · cases h
  | .not_ a, X, W, C, x, oc, ck, h => by
    unfold corT at h
    split at h
    · exact ⟨st_not (okT a _ oc ck h).1, fun _ _ _ e => by cases e⟩
    · cases h
  | .cmp o a b, X, W, C, x, oc, ck, h => by
    unfold corT at h
    split at h
    · simp only [Bool.and_eq_true, beq_iff_eq] at h
      obtain ⟨⟨⟨rfl, h0⟩, h1⟩, h2⟩ := h
      obtain ⟨r, k1, k2⟩ := cmp_ok X oc.room.units o
      exact ⟨st_cmp k1 k2 (marks_no h0) (okE a _ oc ck h1) (okE b _ oc ck h2), fun _ _ _ e => by cases e⟩
    · cases h
  | .cmp2 o o' a b c, X, W, C, x, oc, ck, h => by
    unfold corT at h
    split at h
    · simp only [Bool.and_eq_true, beq_iff_eq] at h
      obtain ⟨⟨⟨⟨⟨rfl, rfl⟩, h0⟩, h1⟩, h2⟩, h3⟩ := h
      obtain ⟨r, k1, k2⟩ := cmp_ok X oc.room.units o
      obtain ⟨r', k1', k2'⟩ := cmp_ok X oc.room.units o'
      exact ⟨st_cmp2 k1 k2 k1' k2' (marks_no h0) (okE a _ oc ck h1) (okE b _ oc ck h2) (okE c _ oc ck h3), fun _ _ _ e => by cases e⟩
    · cases h
  | .val a, X, W, C, x, oc, ck, h => by
    unfold corT at h
    simp only [Bool.and_eq_true] at h
    refine ⟨st_val (okE a _ oc ck h.2) (val_no h.1), fun _ _ _ e => ?_⟩
    rw [e] at h
    cases h.1
  | .ite _ _ _, X, W, C, x, oc, ck, h => by unfold corT at h; cases h
  | .gin n d a, X, W, C, x, oc, ck, h => by
    cases hd : Γ.dc d with
    | none =>
      unfold corT at h
      split at h
      · exact ⟨pt_never fun ρ G Q E hw => by unfold wT at hw; rw [hd] at hw; exact hw, fun _ _ _ e => by cases e⟩
      · cases h
    | some kv =>
      unfold corT at h
      split at h
      · simp only [Bool.and_eq_true, beq_iff_eq] at h
        obtain ⟨⟨⟨rfl, h0⟩, h1⟩, h2⟩ := h
        subst h0
        obtain ⟨g1, g2, g3⟩ := gl_of ck h1
        refine ⟨PT.imp (st_gin oc hd g1 g2 (okE a _ oc ck h2)) fun σ H Q ⟨ρ, G, Qa, Ea, hE, hG, hw, hp, hx⟩ => ⟨ρ, G, Qa, Ea, hE, hG, ?_, hp, hx⟩, fun _ _ _ e => by cases e⟩
        unfold wT at hw
        rw [hd] at hw
        exact hw
      · cases h
  | .din n a b, X, W, C, x, oc, ck, h => by
    unfold corT at h
    split at h
    · simp only [Bool.and_eq_true, beq_iff_eq] at h
      obtain ⟨⟨⟨rfl, h0⟩, h1⟩, h2⟩ := h
      exact ⟨st_din oc (marks_no h0) (okE a _ oc ck h1) (okE b _ oc ck h2), fun _ _ _ e => by cases e⟩
    · cases h
  | .sin n a b, X, W, C, x, oc, ck, h => by
    unfold corT at h
    split at h
    · simp only [Bool.and_eq_true, beq_iff_eq] at h
      obtain ⟨⟨⟨rfl, h0⟩, h1⟩, h2⟩ := h
      exact ⟨st_sin (marks_no h0) (okE a _ oc ck h1) (okE b _ oc ck h2), fun _ _ _ e => by cases e⟩
    · cases h
theorem okI {Γ : Gam} {k : Nat} : ∀ (i : I) {X : Cx} {W : WX} {C : Ck} (tg x : Expr), Oc X W Γ k → CkOk X C Γ → corI C i tg x = true → PI X tg x (LfI X.K W (wI Γ i))
  | .gkeys d, X, W, C, tg, x, oc, ck, h => by
    cases hd : Γ.dc d with
    | none => exact pi_never fun ρ G Q E hw => by unfold wI at hw; rw [hd] at hw; exact hw
    | some kv =>
      unfold corI at h
      split at h
      · simp only [Bool.and_eq_true, beq_iff_eq] at h
        obtain ⟨h0, h1⟩ := h
        subst h0
        obtain ⟨g1, g2, g3⟩ := gl_of ck h1
        refine PI.imp (si_gkeys oc hd g1 g2) fun σ H Q ⟨ρ, G, Qa, Ea, hE, hG, hw, hp, hx⟩ => ⟨ρ, G, Qa, Ea, hE, hG, ?_, hp, hx⟩
        unfold wI at hw
        rw [hd] at hw
        exact hw
      · cases h
  | .str a, X, W, C, tg, x, oc, ck, h => by
    unfold corI at h
    exact si_str (okE a _ oc ck h)
  | .rng1 a, X, W, C, tg, x, oc, ck, h => by
    unfold corI at h
    split at h
    · simp only [Bool.and_eq_true] at h
      cases beqS h.1.1.1
      obtain ⟨h1, h2, h3⟩ := gl_of ck h.1.1.2
      exact si_rng1 h1 oc.tb.rng (okE a _ oc ck h.2) (star1 h.1.2)
    · cases h
  | .rng2 a b, X, W, C, tg, x, oc, ck, h => by
    unfold corI at h
    split at h
    · simp only [Bool.and_eq_true] at h
      cases beqS h.1.1.1.1.1
      obtain ⟨h1, h2, h3⟩ := gl_of ck h.1.1.1.1.2
      exact si_rng2 h1 oc.tb.rng (okE a _ oc ck h.1.2) (okE b _ oc ck h.2) (by rw [star1 h.1.1.1.2, star1 h.1.1.2]; rfl) (star1 h.1.1.2)
    · cases h
  | .rng3 a b c, X, W, C, tg, x, oc, ck, h => by
    unfold corI at h
    split at h
    · simp only [Bool.and_eq_true] at h
      obtain ⟨⟨⟨⟨⟨⟨⟨k1, k2⟩, k3⟩, k4⟩, k5⟩, k6⟩, k7⟩, k8⟩ := h
      cases beqS k1
      obtain ⟨h1, h2, h3⟩ := gl_of ck k2
      exact si_rng3 h1 oc.tb.rng (okE a _ oc ck k6) (okE b _ oc ck k7) (okE c _ oc ck k8) (star1 k3) (star1 k4) (star1 k5)
    · cases h
  | .zip a b, X, W, C, tg, x, oc, ck, h => by
    unfold corI at h
    split at h
    · simp only [Bool.and_eq_true] at h
      cases beqS h.1.1.1.1.1.2
      obtain ⟨h1, h2, h3⟩ := gl_of ck h.1.1.1.1.2
      cases tg with
      | Tuple ts kk p => exact si_zip h1 oc.tb.zip (okE a _ oc ck h.1.2) (okE b _ oc ck h.2) (star1 h.1.1.1.2) (star1 h.1.1.2)
      | _ => cases h.1.1.1.1.1.1
    · cases h
  | .enum a, X, W, C, tg, x, oc, ck, h => by
    unfold corI at h
    split at h
    · simp only [Bool.and_eq_true] at h
      cases beqS h.1.1.1.2
      obtain ⟨h1, h2, h3⟩ := gl_of ck h.1.1.2
      cases tg with
      | Tuple ts kk p => exact si_enum h1 oc.tb.enum (okE a _ oc ck h.2) (star1 h.1.2)
      | _ => cases h.1.1.1.1
    · cases h
  | .seq a, X, W, C, tg, x, oc, ck, h => by
    unfold corI at h
    exact si_seq (okE a _ oc ck h)
end
end Av
set_option Elab.async false
set_option linter.all false
set_option maxRecDepth 100000
set_option maxHeartbeats 4000000
/-! # AvY: try, except clauses of one class each, with names or without -/
namespace Av
open PySem PySem.Spec PyProof.Rows L2
variable [Tb]
abbrev SuT := Addr → Value → Option Addr → TS
/-- a slot that a clause's name has, behind the suite -/
def slN : Option Nat → L2.St → L2.St
  | none, σ => σ
  | some i, σ => σ.set i none
def slA (a : Addr) : Option Nat → L2.St → L2.St
  | none, σ => σ
  | some i, σ => σ.set i (some (.ref a))
def endN (o : Option Nat) (D : Ends) : Ends := { nx := fun σ H => D.nx (slN o σ) H, rt := D.rt, bk := fun σ H => D.bk (slN o σ) H, ct := fun σ H => D.ct (slN o σ) H }
/-- whether an exception's class is one of a clause's -/
def exmL (K : PySem.W.Frag) (cls : Value) : List Value → Option Bool
  | [c] => PySem.W.exmOne K cls c
  | cs => PySem.W.exmAny K cls cs
/-- what clauses wish, one behind the other -/
def wHds (n : Nat) (K : PySem.W.Frag) (W0 : WX) (D : Ends) : List (List Value × Option Nat × SuT) → WX
  | [] => W0
  | (c, o, ts) :: r => fun cls d σ H => ∃ k, exmL K cls c = some k ∧ (k = true → σ.length = n → ∀ a, H a = none → ts a cls d (endN o D) (slA a o σ) H) ∧ (k = false → wHds n K W0 D r cls d σ H)
/-- a clause's name and its slot -/
def SlOk (X : Cx) : Option Str → Option Nat → Prop
  | none, none => True
  | some n, some i => X.N[i]? = some n ∧ X.env.kindOf n = some .local
  | _, _ => False
/-- a clause's test: one class, or a tuple of two -/
inductive TestOk (X : Cx) : Expr → List Value → Prop
  | one {x : Str} {p : Pos} {c : Value} (h : Names X x c) : TestOk X (.Name x p) [c]
  | two {x y : Str} {p p2 p3 : Pos} {k} {c d : Value} (h : Names X x c) (h2 : Names X y d) : TestOk X (.Tuple [.Name x p, .Name y p2] k p3) [c, d]
inductive Cls1 (X : Cx) : List ExceptHandler → List (List Value × Option Nat × SuT) → Prop
  | nil : Cls1 X [] []
  | cons {x : Expr} {c : List Value} {nm : Option Str} {o : Option Nat} {ts : SuT} {b : Stmt} {bs : List Stmt} {q : Pos} {hs : List ExceptHandler} {l : List (List Value × Option Nat × SuT)} (hc : TestOk X x c) (ho : SlOk X nm o)
      (hb : ∀ (a : Addr) (oe : Obj) (cls : Value) (d : Option Addr) (pn : List (Addr × Obj)), Zc cls d oe → (∃ vs, oe.data = .fields vs) → PSs (X.suite a ((a, oe) :: pn)) (b :: bs) (ts a cls d)) (r : Cls1 X hs l) :
      Cls1 X (.ExceptHandler (some x) nm (b :: bs) q :: hs) ((c, o, ts) :: l)
section
variable {X : Cx} {body : List Stmt} {h0 : ExceptHandler} {hs : List ExceptHandler} {l : List (List Value × Option Nat × SuT)} {pos : Pos} {tb : WX → TS} {W0 : WX}
/-- the end of a suite: its name goes -/
theorem suite_end {pins : List (Addr × Obj)} {D : Ends} {x : Addr} {ox : Obj} {nm : Option Str} {o : Option Nat} {p : Pos} {fl : Flow} {s6 : Shared} (ok : X.Ok) (hN : X.N.Nodup) (ho : SlOk X nm o)
    (h : SP (X.suite x ((x, ox) :: (X.pn ++ pins))) [] (endN o D) fl s6) :
    wpAny (model X.prog X.w) X.A (match nm with | some n => (do bindName X.env n .none; unbindBehindTheSuite X.env n p : Sem Unit) | none => pure ()) (fun _ s7 => SP X pins D fl s7) X.xe s6 := by
  cases nm with
  | none =>
    cases o with
    | some _ => exact False.elim ho
    | none =>
      refine wpAny_pure ?_
      cases fl with
      | next => obtain ⟨σ6, H6, S6, q6⟩ := h; exact ⟨σ6, H6, S6.unsuite ok, q6⟩
      | brk => obtain ⟨σ6, H6, S6, q6⟩ := h; exact ⟨σ6, H6, S6.unsuite ok, q6⟩
      | cont => obtain ⟨σ6, H6, S6, q6⟩ := h; exact ⟨σ6, H6, S6.unsuite ok, q6⟩
      | ret u => obtain ⟨v6, σ6, H6, S6, r6, q6⟩ := h; exact ⟨v6, σ6, H6, S6.unsuite ok, r6, q6⟩
  | some n =>
    cases o with
    | none => exact False.elim ho
    | some i =>
      obtain ⟨hi, hk⟩ := ho
      cases fl with
      | next => obtain ⟨σ6, H6, S6, q6⟩ := h; exact gone_ok (S6.unsuite ok) hN hi hk fun s7 J7 => ⟨_, _, J7, q6⟩
      | brk => obtain ⟨σ6, H6, S6, q6⟩ := h; exact gone_ok (S6.unsuite ok) hN hi hk fun s7 J7 => ⟨_, _, J7, q6⟩
      | cont => obtain ⟨σ6, H6, S6, q6⟩ := h; exact gone_ok (S6.unsuite ok) hN hi hk fun s7 J7 => ⟨_, _, J7, q6⟩
      | ret u => obtain ⟨v6, σ6, H6, S6, r6, q6⟩ := h; exact gone_ok (S6.unsuite ok) hN hi hk fun s7 J7 => ⟨v6, _, _, J7, r6, q6⟩
theorem flying_keeps {B h h' : Heap} {l : List Env} {x : Addr} {Z : Obj → Prop} (k : ∀ b o, h.get? b = some o → h'.get? b = some o) (f : HandSPX.FlyingZ B l x Z h) : HandSPX.FlyingZ B l x Z h' := by
  obtain ⟨f1, f2, f3, oe, vs, T, oT, ts, a1, a2, a3, a4, a5, a6, a7, a8, a9⟩ := f
  exact ⟨fun b o e => k b o (f1 b o e), f2, Heap.FunFrames.of_keeps (fun b o e _ => ⟨o, k b o e, rfl⟩) f3, oe, vs, T, oT, ts, k _ _ a1, a2, a3, a4, a5, a6, k _ _ a7, a8, a9⟩
/-- a class's name, read while an exception is held -/
theorem name_held {pins : List (Addr × Obj)} {σ : L2.St} {H : Hp} {s3 : Shared} {x : Addr} {o3 : Obj} (S3 : Inv (X.suite x ((x, o3) :: (X.pn ++ pins))) [] σ H s3) {y : Str} {p : Pos} {c : Value} (hc : Names X y c) {Q E : Value → Shared → Prop} (z : Q c s3) :
    wpAny (model X.prog X.w) (X.A.mark (some (.ref x))) (eval (.Name y p) X.env) Q E s3 := by
  obtain ⟨u1, u2, u3⟩ := hc
  rcases u3 with u3 | ⟨u3, u4, u5⟩
  · exact ld_glob (X := X.suite x ((x, o3) :: (X.pn ++ pins))) S3 u1 u3 z u2
  · exact ld_blt (X := X.suite x ((x, o3) :: (X.pn ++ pins))) S3 u1 u3 u4 z u5 u2
/-- a clause's test -/
theorem test_held {pins : List (Addr × Obj)} {σ : L2.St} {H : Hp} {sT : Shared} {h3 : Heap} {x : Addr} {o3 : Obj} {cls : Value} {b : Bool} (S3 : Inv (X.suite x ((x, o3) :: (X.pn ++ pins))) [] σ H { sT with heap := h3 }) (hx : h3.get? x = some o3) (hcl : o3.cls = cls) (hK : X.K.In h3) {t : Expr} {cs : List Value} (ht : TestOk X t cs) (e : exmL X.K cls cs = some b) {Q E : Value → Shared → Prop}
    (q : ∀ (v : Value) (h4 : Heap), (∀ a o, h3.get? a = some o → h4.get? a = some o) → PySem.W.Looks (model X.prog X.w) h4 (excMatches (.ref x) v) b → Q v { sT with heap := h4 }) :
    wpAny (model X.prog X.w) (X.A.mark (some (.ref x))) (eval t X.env) Q E { sT with heap := h3 } := by
  have lt : ∀ h4 : Heap, (∀ a o, h3.get? a = some o → h4.get? a = some o) → PySem.W.Looks (model X.prog X.w) h4 (typeOf (.ref x)) cls := fun h4 k4 A Q E s kk z => wpAny_typeOf_ref (kk _ _ (k4 _ _ hx)) (by rw [hcl]; exact z)
  cases ht with
  | one hc => exact name_held S3 hc (q _ h3 (fun _ _ z => z) (PySem.W.exm_one (M := model X.prog X.w) hK (lt h3 fun _ _ z => z) e))
  | @two y1 y2 p1 p2 p3 k c1 c2 hc hc2 =>
    refine wpAny_Tuple_spliced ?_
    have hs : starEach [Expr.Name y1 p1, Expr.Name y2 p2] X.env = [(false, eval (.Name y1 p1) X.env), (false, eval (.Name y2 p2) X.env)] := rfl
    rw [hs]
    refine Calls.spliced_cons (name_held S3 hc ?_)
    refine Calls.spliced_cons (name_held S3 hc2 ?_)
    refine Calls.spliced_nil ⟨show 2 ≤ sizeLine by decide, ?_⟩
    have kp : ∀ a o, h3.get? a = some o → (h3.push { cls := .type "tuple", data := .seq [c1, c2].toArray }).get? a = some o := fun a o z => Heap.get?_push_of_some _ z
    exact q _ _ kp (PySem.W.exm_tup2 (M := model X.prog X.w) (hK.keeps kp) (lt _ kp) (Heap.get?_push_size _ rfl) e)
/-- the clauses, one behind the other, of an exception that has landed -/
theorem clauses_ok {pins : List (Addr × Obj)} {D : Ends} {σ : L2.St} {H : Hp} {sI sT : Shared} {x : Addr} {cls : Value} {dx : Option Addr} {B : Heap} (ok : X.Ok) (hst : X.stack = X.env :: X.outer) (hfr : X.A.frames = some (X.env :: X.outer)) (hf : X.env.frame = some X.env.locals) (hN : X.N.Nodup) (tk : Takes X W0)
    (J : Inv X pins σ H sI) (nb : ∀ b o, sI.heap.get? b = some o → b ∉ frs X.stack → B.get? b = some o) (na : H x = none) (os : sT.os = sI.os) (ag : AllBare sT.gens) :
    ∀ {hs : List ExceptHandler} {l : List (List Value × Option Nat × SuT)}, Cls1 X hs l → ∀ (h3 : Heap), sI.heap.UpToSlots h3 → HandSPX.FlyingZ B (X.env :: X.outer) x (Zc cls dx) h3 → wHds X.N.length X.K W0 D l cls dx σ H → wpAny (model X.prog X.w) X.A (handleBy (.ref x) X.env hs) (SP X pins D) X.xe { sT with heap := h3 } := by
  have away : ∀ {h : Heap} {o : Obj} {vs : Array Value}, h.FunFrames B (X.env :: X.outer) → h.get? x = some o → o.data = .fields vs → x ≠ X.env.locals ∧ x ∉ X.fs := fun {h o vs} ff e1 e2 => by
    have out : x ∉ frs (X.env :: X.outer) := fun hm => by
      obtain ⟨_, o2, e3, no⟩ := ff.mem hm
      rw [e1] at e3
      cases e3
      exact no _ e2
    refine ⟨fun z => out (List.mem_filterMap.mpr ⟨X.env, List.mem_cons_self, by rw [hf, z]⟩), fun hm => ?_⟩
    obtain ⟨y, hy, q⟩ := List.mem_filterMap.mp hm
    exact out (List.mem_filterMap.mpr ⟨y, List.mem_cons_of_mem _ hy, q⟩)
  intro hs l k
  induction k with
  | nil =>
    intro h3 up fl w
    refine wpAny_handleBy_nil ?_
    obtain ⟨_, _, _, ob, vb, T, oT, tb', gb, _, db, e1, _⟩ := id fl
    unfold PySem.passOn
    refine wpAny_bind (wpAny_field gb db e1 ?_)
    rw [if_neg (by simp)]
    have out : wpAny (model X.prog X.w) X.A (setFlight (.ref x) X.env.frame) (fun _ s4 => wpAny (model X.prog X.w) X.A (throw (.ref x) : Sem Flow) (SP X pins D) X.xe s4) X.xe { sT with heap := h3 } := by
      rw [hf]
      exact HandSPX.setFlight_upZ fl fun h4 held up4 => wpAny_throw (tk _ _ ⟨x, B, sI, pins, σ, H, cls, dx, rfl, J, nb, up.trans up4, .inr (.inr (hst ▸ held)), na, os, ag, w⟩)
    first
      | exact wpAny_bind (wpAny_pure (wpAny_bind out))
      | exact wpAny_bind out
  | @cons y c nm o ts b bs q hs l hc ho hb r ih =>
    intro h30 up0 fl0 w
    obtain ⟨k, e1, yes, no⟩ := w
    refine wpAny_handleBy_cons (codeAny_handlers_test ?_) (by intro z; cases z)
    have J3 : Inv X pins σ H { sT with heap := h30 } := J.landed nb fl0.1 up0 os ag
    obtain ⟨o30, v3, g3, z3, d3⟩ := fl0.there
    obtain ⟨nl3, nf3⟩ := away fl0.2.2.1 g3 d3
    refine test_held (J3.suite g3 d3 na nl3 nf3) g3 z3.1 J3.kIn hc e1 fun vt h3 kp lm => lm.here ?_
    have up : sI.heap.UpToSlots h3 := up0.trans (Heap.UpToSlots.of_keeps kp)
    have fl := flying_keeps kp fl0
    cases k with
    | false =>
      show wpAny _ X.A (handleBy (.ref x) X.env hs) _ _ _
      exact ih h3 up fl (no rfl)
    | true =>
      have back : ∀ h4, HandSPX.FlyingZ B (X.env :: X.outer) x (Zc cls dx) h4 → h3.UpToSlots h4 → ∃ o4, Zc cls dx o4 ∧ (∃ vs, o4.data = .fields vs) ∧ Inv (X.suite x ((x, o4) :: (X.pn ++ pins))) [] σ H { sT with heap := h4 } := fun h4 fl4 up4 => by
        have J4 : Inv X pins σ H { sT with heap := h4 } := J.landed nb fl4.1 (up.trans up4) os ag
        obtain ⟨o4, v4, g4, z4, d4⟩ := fl4.there
        obtain ⟨nl4, nf4⟩ := away fl4.2.2.1 g4 d4
        exact ⟨o4, z4, ⟨_, d4⟩, J4.suite g4 d4 na nl4 nf4⟩
      cases nm with
      | none =>
        cases o with
        | some _ => exact False.elim ho
        | none =>
          refine codeAny_handlers_suite (HandSPX.lands_againZ fl fun h4 fl4 up4 => ?_)
          obtain ⟨o4, z4, d4, S4⟩ := back h4 fl4 up4
          refine wpAny_mono ((hb x o4 cls dx (X.pn ++ pins) z4 d4).run [] _ _ H _ S4 (yes rfl J.len x na)) (fun f s6 hsp => ?_) fun _ _ z => False.elim z
          cases f with
          | next => obtain ⟨σ6, H6, S6, q6⟩ := hsp; exact ⟨σ6, H6, S6.unsuite ok, q6⟩
          | brk => obtain ⟨σ6, H6, S6, q6⟩ := hsp; exact ⟨σ6, H6, S6.unsuite ok, q6⟩
          | cont => obtain ⟨σ6, H6, S6, q6⟩ := hsp; exact ⟨σ6, H6, S6.unsuite ok, q6⟩
          | ret u => obtain ⟨v6, σ6, H6, S6, r6, q6⟩ := hsp; exact ⟨v6, σ6, H6, S6.unsuite ok, r6, q6⟩
      | some n =>
        cases o with
        | none => exact False.elim ho
        | some i =>
          refine codeAny_handlers_suite_as (HandSPX.lands_againZ fl fun h4 fl4 up4 => ?_)
          obtain ⟨o4, z4, d4, S4⟩ := back h4 fl4 up4
          refine store_ok (X := X.suite x ((x, o4) :: (X.pn ++ pins))) (v := .ref x) S4 hN ho.1 (.inl ho.2) rfl (fun s5 S5 => ?_) (.inr ho.2)
          refine wpAny_mono ((hb x o4 cls dx (X.pn ++ pins) z4 d4).run [] s5 _ H _ S5 (yes rfl J.len x na)) (fun f s6 hsp => ?_) fun _ _ z => False.elim z
          exact suite_end (nm := some n) (o := some i) ok hN ho hsp
/-- try .. except .., one class each -/
theorem ps_tries (hst : X.stack = X.env :: X.outer) (hf : X.env.frame = some X.env.locals) (hN : X.N.Nodup) (tk : Takes X W0)
    (hb : ∀ (W : WX) (pn : List (Addr × Obj)) (xe : Value → Shared → Prop), Takes (X.tr pn xe) W → PassesOwn (model X.prog X.w) X.A X.env xe → PSs (X.tr pn xe) body (tb W))
    (hh : Cls1 X (h0 :: hs) l) : PS X (.Try body (h0 :: hs) [] [] pos) (fun D σ H => tb (wHds X.N.length X.K W0 D l) D σ H) := by
  refine ⟨fun pins s σ H D I h => wpAny_Try_except ?_⟩
  have ok := I.ok
  have hfr : X.A.frames = some (X.env :: X.outer) := by rw [ok.frames, hst]
  have caught : ∀ u s', XE (X.tr (X.pn ++ pins) fun e s₁ => wpAny (model X.prog X.w) X.A (noteFrame e X.env) (fun _ s₂ => wpAny (model X.prog X.w) X.A (setFlight e none) (fun _ s₃ => wpAny (model X.prog X.w) X.A (handleBy e X.env (h0 :: hs)) (SP X pins D) X.xe s₃) X.xe s₂) X.xe s₁) (wHds X.N.length X.K W0 D l) u s' →
      wpAny (model X.prog X.w) X.A (noteFrame u X.env) (fun _ s₂ => wpAny (model X.prog X.w) X.A (setFlight u none) (fun _ s₃ => wpAny (model X.prog X.w) X.A (handleBy u X.env (h0 :: hs)) (SP X pins D) X.xe s₃) X.xe s₂) X.xe s' := by
    rintro u sT ⟨x, B, sI, pn', σ', H', cls, dx, rfl, J', nb, up, sky, na, os, ag, w⟩
    have J : Inv X pins σ' H' sI := J'.ofTry ok
    have sky' : Sky B (X.env :: X.outer) x (Zc cls dx) X.env.locals sT.heap := by rw [← hst]; exact sky
    exact Sky.land Zc.steady hfr hf sky' fun h3 fl3 up3 => clauses_ok ok hst hfr hf hN tk J nb na os ag hh h3 (up.trans up3) fl3 w
  refine wpAny_mono ((hb _ (X.pn ++ pins) _ caught PassesOwn.looking).run [] s σ H D (I.toTry _) h) (fun f s1 q => ?_) fun e s1 he => he
  cases f with
  | next => obtain ⟨σ1, H1, J1, q1⟩ := q; exact wpAny_execs_nil ⟨σ1, H1, J1.ofTry ok, q1⟩
  | brk => obtain ⟨σ1, H1, J1, q1⟩ := q; exact ⟨σ1, H1, J1.ofTry ok, q1⟩
  | cont => obtain ⟨σ1, H1, J1, q1⟩ := q; exact ⟨σ1, H1, J1.ofTry ok, q1⟩
  | ret u => obtain ⟨v1, σ1, H1, J1, r1, q1⟩ := q; exact ⟨v1, σ1, H1, J1.ofTry ok, r1, q1⟩
end
end Av
set_option Elab.async false
set_option linter.all false
set_option maxRecDepth 100000
set_option maxHeartbeats 4000000
/-! # AvHi: isinstance of an exception that is held -/
namespace Av
open PySem PySem.Spec PyProof.Rows L2 L2H
variable [Tb]
section
variable {X : Cx} {C : Ck} {Γ : Gam} {k : Nat} {a : Addr} {oe : Obj} {E : Str} {fs : List (Str × Dat)} {pos : Pos}
theorem hx_inst {D : Addr} {pins : List (Addr × Obj)} {σ : L2.St} {H : Hp} {s : Shared} (hp : (a, oe) ∈ X.pn) (hf : ∃ vs, oe.data = .fields vs) (hc : oe.cls = .ref D) (I : Inv X pins σ H s) (hd : ∀ dd, oe.dict = some dd → ∃ vf, H dd = some (.xd vf)) : ∃ od, PySem.W.InstAt s.heap a oe D od := by
  obtain ⟨ha, _⟩ := I.pin (a, oe) (List.mem_append_left _ hp)
  obtain ⟨vs, hd'⟩ := hf
  cases q : oe.dict with
  | none => exact ⟨none, ha, hc, by unfold PySem.W.notCls; rw [hd'] <;> rfl, by rw [q]; exact trivial⟩
  | some dd =>
    obtain ⟨vf, e⟩ := hd dd q
    obtain ⟨mA, hns, hr⟩ := (show ObjOk X.prog X.w H s.heap dd (.xd vf) from I.hok dd _ e)
    obtain ⟨od, ho, hl⟩ := lookIn_ns hns
    exact ⟨some od, ha, hc, by unfold PySem.W.notCls; rw [hd'] <;> rfl, by rw [q]; exact ho⟩
/-- isinstance of it -/
def rIsP (K : PySem.W.Frag) (D a : Addr) (oe : Obj) : List V → Hp → VK → Prop := fun xs H Q => (∀ dd, oe.dict = some dd → ∃ vf, H dd = some (.xd vf)) ∧
  ((∃ (c : V) (u : Value) (b : Bool), xs = [.ref a, c] ∧ ClsV c u ∧ PySem.W.kitOne K (.ref D) u = some b ∧ Q (.bl b) H) ∨
   ∃ (tp : Addr) (cs : List V) (us : List Value) (b : Bool), xs = [.ref a, .ref tp] ∧ H tp = some (.tup cs) ∧ Paired ClsV cs us ∧ PySem.W.kitAny K (.ref D) us = some b ∧ Q (.bl b) H)
theorem cr_isP {D : Addr} (hp : (a, oe) ∈ X.pn) (hf : ∃ vs, oe.data = .fields vs) (hc : oe.cls = .ref D) (c : ExcC X.K D) : CallR X (.builtin "isinstance") (rIsP X.K D a oe) := by
  intro pins s σ H xs us Q I r ⟨hd, h⟩
  obtain ⟨od, J⟩ := hx_inst hp hf hc I hd
  obtain ⟨cd, hcd, _⟩ := PySem.W.any_some c.hd
  have Z := PySem.W.kitx_exc (K := X.K) (x := a) (C := D) (ox := oe) (od := od) (by rw [hcd]; rfl) c.hg c.hk c.hs c.ha c.hn c.ht c.hm
  rcases h with ⟨x, u, b, rfl, kx, e, q⟩ | ⟨tp, cs, ws, b, rfl, hT, kx, e, q⟩
  · obtain ⟨u1, u2, rfl, r1, r2⟩ := vals2 r
    have e2 := kx.eq r2
    subst e2
    cases (show u1 = Value.ref a from r1)
    exact PySem.W.kia_one Z I.kIn J e (fun z => nomatch z) fun tk => ⟨.bl b, H, I.tok tk, rfl, q⟩
  · obtain ⟨u1, u2, rfl, r1, r2⟩ := vals2 r
    cases (show u2 = Value.ref tp from r2)
    cases (show u1 = Value.ref a from r1)
    obtain ⟨_, its, rv, o, h1, h2, n, h3⟩ := (show ObjOk X.prog X.w H s.heap tp (.tup cs) from I.hok tp _ hT)
    have e3 := ClsV.all kx rv
    subst e3
    obtain ⟨oc, od', dt, sl⟩ := o
    simp only at h2 h3
    subst h2 h3
    exact PySem.W.kia_tup Z I.kIn J h1 e (fun z => nomatch z) fun tk => ⟨.bl b, H, I.tok tk, rfl, q⟩
theorem pe_cls {D y : Str} {p : Pos} (tb : TbOk X.prog X.w X.K X.mg X.base Γ k) (ck : CkOk X C Γ) (h : gloB C y = true) (e : y = D) (hx : (Γ.xc D).isSome = true) : PE X (.Name y p) (fun _ H Q => Q (.ref (He.ga X.K D)) H) := by
  subst e
  obtain ⟨fl, hfl⟩ := Option.isSome_iff_exists.mp hx
  obtain ⟨g1, g2, g3⟩ := gl_of ck h
  exact ⟨fun pins s σ H Q I q => ld_glob I g1 (tb.xc y fl hfl).1 ⟨.ref _, H, I, rfl, q⟩ g2⟩
end
end Av
set_option Elab.async false
set_option linter.all false
set_option maxRecDepth 100000
set_option maxHeartbeats 4000000
/-! # AvY2: except suites by their words -/
namespace Av
open PySem PySem.Spec PyProof.Rows L2
variable [Tb]
mutual
def corHE (C : Ck) (o : Option Nat) : HE → Expr → Bool
  | .cst d, x => match x with
    | .Constant c _ _ => cstB d c
    | _ => false
  | .fld f, x => match x with
    | .Attribute (.Name y _) g _ => (g == f) && (match o with | some i => varB C i y | none => false)
    | _ => false
  | .tup es, x => match x with
    | .Tuple xs _ _ => corHEs C o es xs
    | _ => false
  | .fn f, x => match x with
    | .Call (.Name g _) [.Name y _] [] _ => (g == f) && gloB C g && (match o with | some i => varB C i y | none => false)
    | _ => false
  | .isi c a b, x => match x with
    | .IfExp (.Call (.Name f fp) [.Name y yp, .Name d dp] [] pp) u v _ => (f == ("isinstance" : Str)) && gloB C f && (match o with | some i => varB C i y | none => false) && (d == c) && gloB C d && valB (.Call (.Name f fp) [.Name y yp, .Name d dp] [] pp) && corHE C o a u && corHE C o b v
    | _ => false
def corHEs (C : Ck) (o : Option Nat) : List HE → List Expr → Bool
  | [], xs => xs.isEmpty
  | e :: es, xs => match xs with
    | x :: xs => noStar x && corHE C o e x && corHEs C o es xs
    | [] => false
end
def corHS (C : Ck) (o : Option Nat) : HS → Stmt → Bool
  | .set i e, x => match x with
    | .Assign [.Name y _] v _ => locB C i y && corHE C o e v && noComp v && decide (o ≠ some i)
    | _ => false
  | .ret e, x => match x with
    | .Return (some v) _ => corHE C o e v
    | _ => false
  | .alt _ _, _ => false
def slB (C : Ck) : Option Nat → Option Str → Bool
  | none, none => true
  | some i, some n => C.N[i]? == some n && lclB C.sc n
  | _, _ => false
def corTe (C : Ck) (l : List Str) (x : Expr) : Bool := match x with
  | .Name x _ => (match l with | [c] => (x == c) && gloB C x | _ => false)
  | .Tuple [.Name x _, .Name y _] _ _ => (match l with | [c, d] => (x == c) && gloB C x && (y == d) && gloB C y | _ => false)
  | _ => false
def corHds (C : Ck) : List Hd → List ExceptHandler → Bool
  | [], ys => ys.isEmpty
  | h :: r, ys => match ys with
    | .ExceptHandler (some x) nm [st] _ :: t => corTe C h.clss x && slB C h.slot nm && corHS C h.slot h.act.act st && corHds C r t
    | _ => false
/-- what a suite's expression tells -/
def LfH (K : PySem.W.Frag) (a : Addr) (o : Option Nat) (dx : Option Addr) (fs : List (Str × Dat)) (dt : Dat) : TE := fun σ H Q => ∃ G, RelG K G H ∧ RelX K H dx fs ∧ (∀ i, o = some i → σ[i]? = some (some (.ref a))) ∧ ∀ v H', Fra G H G H' → RelG K G H' → RelX K H' dx fs → Rep K H' v dt → Q v H'
def LfHs (K : PySem.W.Frag) (a : Addr) (o : Option Nat) (dx : Option Addr) (fs : List (Str × Dat)) (ds : List Dat) : TA := fun σ H Q => ∃ G, RelG K G H ∧ RelX K H dx fs ∧ (∀ i, o = some i → σ[i]? = some (some (.ref a))) ∧ ∀ vs H', Fra G H G H' → RelG K G H' → RelX K H' dx fs → Reps K H' vs ds → Q vs H'
theorem relX_fra {K : PySem.W.Frag} {G G' : AG} {H H' : Hp} {dx : Option Addr} {fs : List (Str × Dat)} (g : RelG K G H) (r : RelX K H dx fs) (f : Fra G H G' H') : RelX K H' dx fs := by
  cases dx with
  | none => exact r
  | some d =>
    obtain ⟨vf, e1, e2⟩ := r
    have nG : G d = none := by
      cases q : G d with
      | none => rfl
      | some o =>
        have := g.g d o q
        cases o with
        | lst ds => obtain ⟨_, e, _⟩ := this; rw [e1] at e; cases e
        | dk ds => obtain ⟨_, e, _⟩ := this; rw [e1] at e; cases e
        | ins C ds => obtain ⟨_, _, e, _⟩ := this; rw [e1] at e; cases e
        | cel ds => obtain ⟨_, _, _, e, _⟩ := this; rw [e1] at e; cases e
    exact ⟨vf, (f d _ e1 (by simp) nG).1, KRel.mono (f.stab g) e2⟩
theorem relE_none {K : PySem.W.Frag} {H : Hp} (σ : L2.St) : RelE K H (List.replicate σ.length none) σ := ⟨by simp, fun i d e => by
  rw [List.getElem?_replicate] at e
  split at e <;> cases e⟩
section
variable {X : Cx} {C : Ck} {Γ : Gam} {k : Nat} {a : Addr} {oe : Obj} {cls : Value} {dx : Option Addr} {pn : List (Addr × Obj)} {E : Str} {fs : List (Str × Dat)} {o : Option Nat}
mutual
theorem okHE (hr : L2H.RoomH k X.A) (ck : CkOk X C Γ) (tb : TbOk X.prog X.w X.K X.mg X.base Γ k) (hz : Zc cls dx oe) (hf : ∃ vs, oe.data = .fields vs) (hc : cls = .ref (He.ga X.K E)) : ∀ (e : HE) (x : Expr) (dt : Dat), corHE C o e x = true → heV Γ E e fs = some dt →
    PE (X.suite a ((a, oe) :: pn)) x (LfH X.K a o dx fs dt)
  | .cst d, x, dt, h, hv => by
    unfold corHE at h
    split at h
    · unfold heV at hv
      cases hv
      refine PE.imp (cst_ok (X := X.suite a ((a, oe) :: pn)) (W := fun _ _ _ _ => True) h) ?_
      rintro σ H Q ⟨G, g, rx, _, q⟩
      exact ⟨_, G, fun d' G' => d' = d ∧ G' = G, fun _ _ _ => False, relE_none σ, g, ⟨rfl, rfl⟩, fun d' G' v H' f g' r z => (by
        obtain ⟨rfl, rfl⟩ := z
        exact q v H' f g' (relX_fra g rx f) r), fun c fs' G' dd H' _ _ _ z => False.elim z⟩
    · cases h
  | .fld f, x, dt, h, hv => by
    unfold corHE at h
    split at h
    · simp only [Bool.and_eq_true] at h
      obtain ⟨h1, h2⟩ := h
      cases beqS h1
      cases o with
      | none => cases h2
      | some i =>
        unfold heV at hv
        split at hv
        · rename_i hm
          cases hfl : Γ.xc E with
          | none => rw [hfl] at hm; cases hm
          | some fl =>
            rw [hfl] at hm
            have hm : f ∈ fl := hm
            obtain ⟨t1, t2⟩ := tb.xf E fl hfl (fun z => by rw [z] at hm; cases hm)
            obtain ⟨v1, v2, v3, v4⟩ := vis_of ck h2
            refine PE.imp (pe_xf (C := He.ga X.K E) t1 (t2 f hm) hz hf (pe_var (X := X.suite a ((a, oe) :: pn)) v1 v2 v3 v4)) ?_
            rintro σ H Q ⟨G, g, rx, hs, q⟩
            refine ⟨_, hs i rfl, rfl, hc, ?_⟩
            cases dx with
            | none => rw [show fs = [] from rx] at hv; cases hv
            | some dd =>
              obtain ⟨vf, e1, e2⟩ := id rx
              obtain ⟨v, l1, l2⟩ := kr_look e2 hv
              exact ⟨dd, vf, v, rfl, e1, l1, q v H .refl g rx l2⟩
        · cases hv
    · cases h
  | .tup es, x, dt, h, hv => by
    unfold corHE at h
    split at h
    · unfold heV at hv
      split at hv
      · rename_i ds e1
        split at hv
        · rename_i hl
          cases hv
          refine PE.imp (pe_tup (okHEs hr ck tb hz hf hc es _ ds h e1)) ?_
          rintro σ H Q ⟨G, g, rx, hs, q⟩
          refine ⟨G, g, rx, hs, fun vs H1 f1 g1 rx1 r1 => ⟨Nat.le_trans (by rw [r1.length]; exact hl) (show 1000 ≤ sizeLine by decide), fun p hp => q _ _ ?_ ?_ ?_ ?_⟩⟩
          · exact f1.trans fun b u e t n => ⟨by rw [upd_ne (ne_of_none e hp)]; exact e, n⟩
          · exact g1.newT hp
          · cases dx with
            | none => exact rx1
            | some dd =>
              obtain ⟨vf, e2, e3⟩ := rx1
              exact ⟨vf, by rw [upd_ne (ne_of_none e2 hp)]; exact e2, KRel.mono (.new hp) e3⟩
          · exact .tup (.inl upd_same) (r1.mono (.new hp))
        · cases hv
      · cases hv
    · cases h
  | .fn f, x, dt, h, hv => by
    unfold corHE at h
    split at h
    · rename_i gn gp y yp pos
      simp only [Bool.and_eq_true] at h
      obtain ⟨⟨h1, h2⟩, h3⟩ := h
      cases beqS h1
      cases o with
      | none => cases h3
      | some i =>
        unfold heV at hv
        obtain ⟨gg, hg, hv⟩ := Option.bind_eq_some_iff.mp hv
        obtain ⟨fa, fd, ps, F, hm, hk, hb⟩ := tb.hf f gg hg
        obtain ⟨v1, v2, v3, v4⟩ := vis_of ck h3
        obtain ⟨g1, g2, g3⟩ := gl_of ck h2
        have he1 : starEach [Expr.Name y yp] (X.suite a ((a, oe) :: pn)).env = (false, eval (.Name y yp) (X.suite a ((a, oe) :: pn)).env) :: starEach [] (X.suite a ((a, oe) :: pn)).env := rfl
        refine ⟨fun pins s σ H Q I ⟨G, gr, rx, hs, q⟩ => ?_⟩
        refine wpAny_Call_Name_kw (ld_glob I g1 hm ?_ g2)
        refine PySem.W.callWith_K (h₀ := X.base) I.ok.mod.kin hk (thn ((pa_cons (pe_var (X := X.suite a ((a, oe) :: pn)) v1 v2 v3 v4) pa_nil he1).run pos pins s σ H (fun vs H1 => vs = [.ref a] ∧ H1 = H) I ⟨.ref a, hs i rfl, rfl, rfl⟩) fun us s1 ⟨vs, H1, I1, r, q1⟩ => ⟨I1.kIn, ?_⟩) he1 (by rfl)
        obtain ⟨rfl, rfl⟩ := q1
        obtain ⟨u, rfl, ru⟩ := L2.Vals.one r
        obtain rfl : u = Value.ref a := ru
        have P1 := I1.pin (a, oe) (List.mem_append_left _ List.mem_cons_self)
        have hpin : L2H.PinOk X.stack H1 s1 (a, oe) := ⟨P1.1, P1.2.1, fun hm => (List.mem_cons.mp (I1.stkSub a hm)).elim P1.2.2.1 P1.2.2.2.1, P1.2.2.2.2⟩
        have b := hb s1 [.ref a] I1.kIn (by rw [List.append_nil]; exact F.one.symm)
        rw [List.append_nil] at b
        have rx' : RelX X.K H1 oe.dict fs := by rw [hz.2]; exact rx
        refine wpAny_call (codeAny_mono (F.run (X.suite a ((a, oe) :: pn)).A X.stack s1 H1 ⟨[.ref a], []⟩ (a, oe) E fs G dt Q ⟨hr.dp, hr.un⟩ hpin I1.env0 b (hz.1.trans hc) hf gr rx' hv (fun v H' f1 g1 rx1 r1 => q v H' f1 g1 (by rw [hz.2] at rx1; exact rx1) r1)) fun r s' hq => ?_)
        cases r with
        | error e =>
          obtain ⟨_, _, _, _, _, _, _, _, _, _, _, _, z⟩ := hq
          exact z.elim
        | ok fl =>
          cases fl with
          | ret u => exact I1.after hq
          | next => exact False.elim hq
          | brk => exact False.elim hq
          | cont => exact False.elim hq
    · cases h
  | .isi c ea eb, x, dt, h, hv => by
    unfold corHE at h
    split at h
    · rename_i f fp y yp d dp pp u v pz
      simp only [Bool.and_eq_true] at h
      obtain ⟨⟨⟨⟨⟨⟨⟨h1, h2⟩, h3⟩, h4⟩, h5⟩, h8⟩, h6⟩, h7⟩ := h
      have ef : f = "isinstance" := beqS h1
      subst ef
      obtain ⟨i, oi, h3⟩ : ∃ i, o = some i ∧ varB C i y = true := by
        split at h3
        · exact ⟨_, rfl, h3⟩
        · cases h3
      · unfold heV at hv
        split at hv
        · rename_i ho
          rw [Bool.and_eq_true] at ho
          obtain ⟨v1, v2, v3, v4⟩ := vis_of ck h3
          obtain ⟨g1, g2, g3⟩ := gl_of ck h2
          have pc : PE (X.suite a ((a, oe) :: pn)) (.Name d dp) (fun _ H Q => Q (.ref (He.ga X.K c)) H) := by
            have ed : d = c := beqS h4
            subst ed
            obtain ⟨fl, hfl⟩ := Option.isSome_iff_exists.mp ho.2
            obtain ⟨k1, k2, k3⟩ := gl_of ck h5
            exact ⟨fun pins s σ H Q I q => ld_glob I k1 (tb.xc _ fl hfl).1 ⟨.ref _, H, I, rfl, q⟩ k2⟩
          have call : ∀ bb, Tb.sub (.inr E) (.inr c) = some bb → PE (X.suite a ((a, oe) :: pn)) (.Call (.Name "isinstance" fp) [.Name y yp, .Name d dp] [] pp) (fun σ H Q => σ[i]? = some (some (.ref a)) ∧ (∀ dd, oe.dict = some dd → ∃ vf, H dd = some (.xd vf)) ∧ Q (.bl bb) H) := fun bb hb => by
            refine PE.imp (pe_callB (X := X.suite a ((a, oe) :: pn)) (cr_isP (X := X.suite a ((a, oe) :: pn)) (a := a) (oe := oe) List.mem_cons_self hf (hz.1.trans hc) (tb.kt.exo E ho.1)) g1 (tb.blt .isinst) (boot_bf .isinst) (pa_cons (pe_var (X := X.suite a ((a, oe) :: pn)) v1 v2 v3 v4) (pa_cons pc pa_nil (star1 (by rfl))) (star1 (by rfl))) (bf_n .isinst).1 (bf_n .isinst).2 (star1 (by rfl)) (by rfl)) ?_
            rintro σ H Q ⟨h0, hd, q⟩
            exact ⟨_, h0, hd, .inl ⟨_, _, bb, rfl, .own _, tb.kt.sub _ _ _ hb, q⟩⟩
          have xd : ∀ {H : Hp}, RelX X.K H dx fs → ∀ dd, oe.dict = some dd → ∃ vf, H dd = some (.xd vf) := fun {H} rx dd e => by
            rw [hz.2] at e
            subst e
            obtain ⟨vf, h, _⟩ := rx
            exact ⟨vf, h⟩
          split at hv
          · rename_i hs
            refine PE.imp (pe_ifExp (ta := LfH X.K a o dx fs dt) (tb := fun _ _ _ => False) (pt_val (call true hs) (val_no h8)) (okHE hr ck tb hz hf hc ea u dt h6 hv) ⟨fun _ _ _ _ _ _ z => False.elim z⟩) ?_
            rintro σ H Q ⟨G, g, rx, hsl, q⟩
            refine ⟨hsl i oi, xd rx, true, rfl, ?_⟩
            simp only [if_true]
            exact ⟨G, g, rx, hsl, q⟩
          · rename_i hs
            refine PE.imp (pe_ifExp (ta := fun _ _ _ => False) (tb := LfH X.K a o dx fs dt) (pt_val (call false hs) (val_no h8)) ⟨fun _ _ _ _ _ _ z => False.elim z⟩ (okHE hr ck tb hz hf hc eb v dt h7 hv)) ?_
            rintro σ H Q ⟨G, g, rx, hsl, q⟩
            refine ⟨hsl i oi, xd rx, false, rfl, ?_⟩
            simp only [Bool.false_eq_true, if_false]
            exact ⟨G, g, rx, hsl, q⟩
          · cases hv
        · cases hv
    · cases h
theorem okHEs (hr : L2H.RoomH k X.A) (ck : CkOk X C Γ) (tb : TbOk X.prog X.w X.K X.mg X.base Γ k) (hz : Zc cls dx oe) (hf : ∃ vs, oe.data = .fields vs) (hc : cls = .ref (He.ga X.K E)) : ∀ (es : List HE) (xs : List Expr) (ds : List Dat), corHEs C o es xs = true → hesV Γ E es fs = some ds →
    PA (X.suite a ((a, oe) :: pn)) xs (LfHs X.K a o dx fs ds)
  | [], xs, ds, h, hv => by
    unfold corHEs at h
    cases xs with
    | cons _ _ => cases h
    | nil =>
      unfold hesV at hv
      cases hv
      exact PA.imp pa_nil fun σ H Q ⟨G, g, rx, _, q⟩ => q [] H .refl g rx .nil
  | e :: es, xs, ds, h, hv => by
    unfold corHEs at h
    cases xs with
    | nil => cases h
    | cons x xs =>
      simp only [Bool.and_eq_true] at h
      unfold hesV at hv
      split at hv
      · rename_i d ds' e1 e2
        cases hv
        refine PA.imp (pa_cons (okHE hr ck tb hz hf hc e x d h.1.2 e1) (okHEs hr ck tb hz hf hc es xs ds' h.2 e2) (star1 h.1.1)) ?_
        rintro σ H Q ⟨G, g, rx, hs, q⟩
        exact ⟨G, g, rx, hs, fun v H1 f1 g1 rx1 r1 => ⟨G, g1, rx1, hs, fun vs H2 f2 g2 rx2 r2 => q _ _ (f1.trans f2) g2 rx2 (.cons (r1.mono (f2.stab g1)) r2)⟩⟩
      · cases hv
end
/-- what a suite tells -/
def tsH (K : PySem.W.Frag) (Γ : Gam) (o : Option Nat) : HS → SuT
  | .set i e => fun a cls dx D σ H => ∃ E fs dt, cls = .ref (He.ga K E) ∧ heV Γ E e fs = some dt ∧ LfH K a o dx fs dt σ H fun v H1 => D.nx (σ.set i (some v)) H1
  | .ret e => fun a cls dx D σ H => ∃ E fs dt, cls = .ref (He.ga K E) ∧ heV Γ E e fs = some dt ∧ LfH K a o dx fs dt σ H fun v H1 => D.rt v H1
  | .alt _ _ => fun _ _ _ _ _ _ => False
theorem okHS (hr : L2H.RoomH k X.A) (nd : X.N.Nodup) (ck : CkOk X C Γ) (tb : TbOk X.prog X.w X.K X.mg X.base Γ k) (hz : Zc cls dx oe) (hf : ∃ vs, oe.data = .fields vs) : ∀ (s : HS) (x : Stmt), corHS C o s x = true → PSs (X.suite a ((a, oe) :: pn)) [x] (tsH X.K Γ o s a cls dx)
  | .set i e, x, h => by
    simp only [corHS] at h
    split at h
    · simp only [Bool.and_eq_true] at h
      obtain ⟨⟨⟨h1, h2⟩, h3⟩, _⟩ := h
      obtain ⟨k1, k2, k3⟩ := loc_of ck h1
      refine ⟨fun pins s σ H D I ⟨E, fs, dt, hc, hv, q⟩ => ?_⟩
      exact (pss_cons (ps_set (X := X.suite a ((a, oe) :: pn)) nd k1 k2 (okHE hr ck tb hz hf hc e _ dt h2 hv) (sw_no h3) k3) pss_nil).run pins s σ H D I q
    · cases h
  | .ret e, x, h => by
    simp only [corHS] at h
    split at h
    · refine ⟨fun pins s σ H D I ⟨E, fs, dt, hc, hv, q⟩ => ?_⟩
      exact (pss_cons (ps_ret (okHE hr ck tb hz hf hc e _ dt h hv)) pss_nil).run pins s σ H D I q
    · cases h
  | .alt _ _, x, h => by simp only [corHS] at h; cases h
/-- the clauses' wishes -/
def clW (K : PySem.W.Frag) (Γ : Gam) (hs : List Hd) : List (List Value × Option Nat × SuT) := hs.map fun h => (h.clss.map fun c => .ref (He.ga K c), h.slot, tsH K Γ h.slot h.act.act)
theorem te_ok (ck : CkOk X C Γ) (tb : TbOk X.prog X.w X.K X.mg X.base Γ k) {l : List Str} {x : Expr} (hx : ∀ c ∈ l, (Γ.xc c).isSome = true) (h : corTe C l x = true) : TestOk X x (l.map fun c => .ref (He.ga X.K c)) := by
  have nm : ∀ c ∈ l, gloB C c = true → Names X c (.ref (He.ga X.K c)) := fun c hc g => by
    obtain ⟨g1, g2, g3⟩ := gl_of ck g
    obtain ⟨fl, hfl⟩ := Option.isSome_iff_exists.mp (hx c hc)
    exact ⟨g1, g2, .inl (tb.xc _ fl hfl).1⟩
  unfold corTe at h
  split at h
  · split at h
    · simp only [Bool.and_eq_true] at h
      cases beqS h.1
      exact .one (nm _ (by simp) h.2)
    · cases h
  · split at h
    · simp only [Bool.and_eq_true] at h
      cases beqS h.1.1.1
      cases beqS h.1.2
      exact .two (nm _ (by simp) h.1.1.2) (nm _ (by simp) h.2)
    · cases h
  · cases h
theorem hdOk_all {h : Hd} (o : hdOk Γ h) : ∀ c ∈ h.clss, (Γ.xc c).isSome = true := by
  intro c hc
  unfold Hd.clss at hc
  unfold hdOk at o
  cases e : h.act with
  | alt d a =>
    rw [e] at o hc
    simp only [List.mem_cons, List.not_mem_nil, or_false] at hc
    rcases hc with rfl | rfl
    · exact o.1
    · exact o.2
  | set i a =>
    rw [e] at o hc
    simp only [List.mem_cons, List.not_mem_nil, or_false] at hc
    rw [hc]; exact o
  | ret a =>
    rw [e] at o hc
    simp only [List.mem_cons, List.not_mem_nil, or_false] at hc
    rw [hc]; exact o
theorem okHds (hr : L2H.RoomH k X.A) (nd : X.N.Nodup) (ck : CkOk X C Γ) (tb : TbOk X.prog X.w X.K X.mg X.base Γ k) : ∀ (hs : List Hd) (ys : List ExceptHandler), (∀ h ∈ hs, hdOk Γ h) → corHds C hs ys = true → Cls1 X ys (clW X.K Γ hs)
  | [], ys, _, h => by
    unfold corHds at h
    cases ys with
    | nil => exact .nil
    | cons _ _ => cases h
  | hd :: r, ys, hx, h => by
    unfold corHds at h
    split at h
    · rename_i x nm st q t
      simp only [Bool.and_eq_true] at h
      obtain ⟨⟨⟨h1, h3⟩, h4⟩, h5⟩ := h
      refine .cons (te_ok ck tb (hdOk_all (hx hd (List.mem_cons_self ..))) h1) ?_ (fun a oe cls d pn z1 z2 => okHS hr nd ck tb z1 z2 hd.act.act st h4) (okHds hr nd ck tb r t (fun h hh => hx h (List.mem_cons_of_mem _ hh)) h5)
      unfold slB at h3
      unfold SlOk
      cases hsl : hd.slot with
      | none => cases nm with
        | none => trivial
        | some n => rw [hsl] at h3; cases h3
      | some i => cases nm with
        | none => rw [hsl] at h3; cases h3
        | some n =>
          rw [hsl] at h3
          simp only [Bool.and_eq_true, beq_iff_eq] at h3
          exact ⟨by rw [← ck.n]; exact h3.1, lcl_of ck h3.2⟩
    · cases h
/-- what a clause asks, told in one way -/
theorem hds_one {Γ : Gam} {E : Str} {fs : List (Str × Dat)} {ρ : Env'} {G : AG} {A : AEnds} {hd : Hd} {r : List Hd} {K : PySem.W.Frag} (kt : ∀ c k, Tb.xm E c = some k → PySem.W.exmOne K (.ref (He.ga K E)) (.ref (He.ga K c)) = some k) (h : hdsW Γ E fs ρ G A (hd :: r)) :
    ∃ b, exmL K (.ref (He.ga K E)) (hd.clss.map fun c => .ref (He.ga K c)) = some b ∧ if b = true then hsW Γ E hd.act.act hd.slot fs ρ G A else hdsW Γ E fs ρ G A r := by
  unfold hdsW at h
  unfold Hd.clss
  cases e : hd.act with
  | alt c a =>
    rw [e] at h
    obtain ⟨k, j, h1, h2, h3⟩ := h
    refine ⟨k || j, ?_, h3⟩
    show PySem.W.exmAny K _ [_, _] = _
    have e1 := kt _ _ h1
    have e2 := kt _ _ h2
    simp only [PySem.W.exmAny, e1, e2]
    cases k <;> cases j <;> rfl
  | set i a =>
    rw [e] at h
    obtain ⟨k, h1, h3⟩ := h
    exact ⟨k, kt _ _ h1, h3⟩
  | ret a =>
    rw [e] at h
    obtain ⟨k, h1, h3⟩ := h
    exact ⟨k, kt _ _ h1, h3⟩
/-- what was told of the clauses leads to their wishes -/
theorem hds_lead {W : WX} {D : Ends} {A : AEnds} {G G' G1 : AG} {H H' H1 : Hp} {ρ' : Env'} {σ' : L2.St} (tb : TbOk X.prog X.w X.K X.mg X.base Γ k) (l : Ln X.K W G H A D) (f : Fra G H G' H') (hE : RelE X.K H' ρ' σ') (f1 : Fra G' H' G1 H1) (g0 : RelG X.K G' H') (g1 : RelG X.K G1 H1) (rx : RelX X.K H1 dx fs) (ckN : C.N = X.N) :
    ∀ (hs : List Hd) (ys : List ExceptHandler), corHds C hs ys = true → hdsW Γ E fs ρ' G1 A hs → wHds X.N.length X.K W D (clW X.K Γ hs) (.ref (He.ga X.K E)) dx σ' H1
  | [], _, _, h => l.ex ρ' G' σ' H' f hE g0 E fs G1 dx H1 f1 g1 rx h
  | hd :: r, ys, hc, hw => by
    obtain ⟨b, hm, h⟩ := hds_one (fun c k z => tb.kt.xm _ _ _ z) hw
    refine ⟨b, hm, fun hb hN a ha => ?_, fun hb => ?_⟩
    · subst hb
      simp only [if_true] at h
      unfold corHds at hc
      split at hc
      · rename_i x nm st q t
        simp only [Bool.and_eq_true] at hc
        obtain ⟨⟨⟨_, c3⟩, c4⟩, _⟩ := hc
        have inN : ∀ i, hd.slot = some i → i < σ'.length := fun i hi => by
          rw [hN, ← ckN]
          unfold slB at c3
          rw [hi] at c3
          cases nm with
          | none => cases c3
          | some n =>
            simp only [Bool.and_eq_true, beq_iff_eq] at c3
            exact (List.getElem?_eq_some_iff.mp c3.1).1
        have slot : ∀ i, hd.slot = some i → (slA a hd.slot σ')[i]? = some (some (.ref a)) := fun i hi => by
          rw [hi]
          show (σ'.set i (some (.ref a)))[i]? = _
          rw [List.getElem?_set_self (inN i hi)]
        show tsH X.K Γ hd.slot hd.act.act a _ dx _ _ _
        cases ha2 : hd.act.act with
        | alt c a2 => rw [ha2] at h; exact h.elim
        | set i e =>
          rw [ha2] at h c4
          obtain ⟨d, hv, hn⟩ := h
          refine ⟨E, fs, d, rfl, hv, G1, g1, rx, slot, fun v H2 f2 g2 _ r2 => ?_⟩
          refine l.nx _ G1 _ H2 ((f.trans f1).trans f2) ?_ g2 hn
          have hE2 : RelE X.K H2 (ρ'.set i (some d)) (σ'.set i (some v)) := ((hE.mono (f1.stab g0)).mono (f2.stab g1)).set r2
          cases hs : hd.slot with
          | none => exact hE2
          | some j =>
            have hji : i ≠ j := fun z => by
              simp only [corHS] at c4
              split at c4
              · simp only [Bool.and_eq_true, decide_eq_true_eq] at c4
                exact c4.2 (by rw [hs, z])
              · cases c4
            show RelE X.K H2 ((ρ'.set i (some d)).set j none) (((σ'.set j (some (.ref a))).set i (some v)).set j none)
            rw [List.set_comm _ _ (Ne.symm hji), List.set_set]
            exact hE2.wipe1
        | ret e =>
          rw [ha2] at h
          obtain ⟨d, hv, hn⟩ := h
          exact ⟨E, fs, d, rfl, hv, G1, g1, rx, slot, fun v H2 f2 g2 _ r2 => l.rt d G1 v H2 ((f.trans f1).trans f2) g2 r2 hn⟩
      · cases hc
    · subst hb
      simp only [Bool.false_eq_true, if_false] at h
      unfold corHds at hc
      split at hc
      · simp only [Bool.and_eq_true] at hc
        exact hds_lead tb l f hE f1 g0 g1 rx ckN r _ hc.2 h
      · cases hc
/-- try .. except .. by its words -/
theorem ss_try {W : WX} {pos : Pos} {body : List Stmt} {h0 : ExceptHandler} {ys : List ExceptHandler} {hs : List Hd} {wb : WfS} (oc : Oc X W Γ k) (ck : CkOk X C Γ) (hst : X.stack = X.env :: X.outer) (hfr : X.env.frame = some X.env.locals) (hc : corHds C hs (h0 :: ys) = true)
    (hb : ∀ (W' : WX) (pn : List (Addr × Obj)) (xe : Value → Shared → Prop), Takes (X.tr pn xe) W' → PassesOwn (model X.prog X.w) X.A X.env xe → PSs (X.tr pn xe) body (LfS X.K W' wb)) :
    PS X (.Try body (h0 :: ys) [] [] pos) (LfS X.K W fun ρ G A => (∀ h ∈ hs, hdOk Γ h) ∧ wb ρ G { A with ex := fun ρ' E fs G' => hdsW Γ E fs ρ' G' A hs }) := by
  by_cases hx : ∀ h ∈ hs, hdOk Γ h
  · refine PS.imp (ps_tries (tb := fun W' => LfS X.K W' wb) hst hfr oc.nd oc.tk hb (okHds (L2H.roomH_of oc.room) oc.nd ck oc.tb hs (h0 :: ys) hx hc)) ?_
    rintro D σ H ⟨ρ, G, A, hE, hG, ⟨_, hw⟩, l⟩
    refine ⟨ρ, G, _, hE, hG, hw, l.nx, l.rt, l.bk, l.ct, fun ρ' G' σ' H' f hE' g0 E fs G1 dx H1 f1 g1 rx q => hds_lead oc.tb l f hE' f1 g0 g1 rx ck.n hs _ hc q⟩
  · exact ⟨fun _ _ _ _ _ _ ⟨_, _, _, _, _, ⟨z, _⟩, _⟩ => absurd z hx⟩
end
end Av
set_option Elab.async false
set_option linter.all false
set_option maxRecDepth 100000
set_option maxHeartbeats 4000000
/-! # Av11: statements checked; the rule of a def -/
namespace Av
open PySem PySem.Spec PyProof.Rows L2
variable [Tb]
def swB (C : Ck) (py : Pos) (y : Str) : Expr → Bool
  | .ListComp _ _ scope pos => (C.sc.kind == .function) && (py.line == pos.line) && !(scope.names.any fun (n, k) => n == y && (k == .local || k == .cell))
  | _ => false
def foldB : Expr → Bool
  | .Tuple vs _ _ => vs.all (foldedForSure 8) && vs.all noStar
  | _ => false
/-- a target that is no plain local name -/
def someCell (sc : Scope) (ts : List Expr) : Bool := ts.any fun
  | .Name id _ => !(sc.names.lookup id == some .local)
  | _ => true
def isDoc : Expr → Bool
  | .Constant (.str _) _ _ => true
  | _ => false
mutual
def corS (C : Ck) : S → Stmt → Bool
  | .set i e, x => match x with
    | .Assign [.Name y py] v _ => locB C i y && corE C e v && (noComp v || (lclB C.sc y && swB C py y v))
    | _ => false
  | .setTp is e, x => match x with
    | .Assign [.Tuple ts _ _] v _ => namesB C ts is && corE C e v && noComp v && ((noTup v || foldB v || decide (4 ≤ ts.length)) || someCell C.sc ts)
    | _ => false
  | .par2 i j a b, x => match x with
    | .Assign [.Tuple [.Name x px, .Name y py] _ _] (.Tuple [u, v] _ _) _ => locB C i x && locB C j y && lclB C.sc x && lclB C.sc y && !(i == j) && !(x == y) && (py.line == px.line) && (C.sc.kind == .function) &&
        !(foldedForSure 8 u && foldedForSure 8 v) && !(constantsAlone 8 u && constantsAlone 8 v) && noStar u && noStar v && corE C a u && corE C b v
    | _ => false
  | .par3 i j k a b c, x => match x with
    | .Assign [.Tuple [.Name x px, .Name y py, .Name z pz] _ _] (.Tuple [u, v, t] _ _) _ => (locB C i x && locB C j y && locB C k z) && (lclB C.sc x && lclB C.sc y && lclB C.sc z) && (!(i == j) && !(i == k) && !(j == k)) && (!(x == y) && !(x == z) && !(y == z)) && (py.line == px.line) && (pz.line == px.line) && (C.sc.kind == .function) &&
        !(foldedForSure 8 u && foldedForSure 8 v && foldedForSure 8 t) && !(constantsAlone 8 u && constantsAlone 8 v && constantsAlone 8 t) && (noStar u && noStar v && noStar t) && corE C a u && corE C b v && corE C c t
    | _ => false
  | .expr e, x => match x with
    | .Expr v _ => corE C e v && noComp v
    | _ => false
  | .ret e, x => match x with
    | .Return (some v) _ => corE C e v
    | _ => false
  | .retN, x => match x with
    | .Return none _ => true
    | _ => false
  | .if_ c a b, x => match x with
    | .If t u v _ => corT C c t && corSs C a u && corSs C b v
    | _ => false
  | .while_ c b, x => match x with
    | .While t u [] _ => corT C c t && corSs C b u
    | _ => false
  | .for_ g it b, x => match x with
    | .For tg iter u [] _ => corG C g tg && corI C it tg iter && noSet iter && corSs C b u
    | _ => false
  | .setSl o lo hi e, x => match x with
    | .Assign [.Subscript x (.Slice (some y) (some z) none _) _] v _ => noComp v && corE C e v && corE C o x && corE C lo y && corE C hi z
    | _ => false
  | .setIx o i e, x => match x with
    | .Assign [.Subscript x y _] v _ => noComp v && noSlice y && corE C e v && corE C o x && corE C i y
    | _ => false
  | .setIN o i j e, x => match x with
    | .Assign [.Tuple [.Subscript y z sp, .Name w wp] kk tp] v _ => noComp v && someCell C.sc [.Subscript y z sp, .Name w wp] && noSlice z && locB C j w && corE C e v && corE C o y && corE C i z
    | _ => false
  | .dset o i e, x => match x with
    | .Assign [.Subscript y z _] v _ => noComp v && corE C e v && corE C o y && corE C i z
    | _ => false
  | .setAtt o f e, x => match x with
    | .Assign [.Attribute y g _] v _ => (g == f) && noComp v && corE C e v && corE C o y
    | _ => false
  | .setAt2 o f g e, x => match x with
    | .Assign [.Tuple [.Attribute y a _, .Attribute z b _] _ _] v _ => (a == f) && (b == g) && noComp v && noTup v && corE C e v && corE C o y && corE C o z
    | _ => false
  | .aug i o e, x => match x with
    | .AugAssign (.Name y _) op v _ => (op == o.op) && (o == .add || o == .sub) && locB C i y && corE C e v
    | _ => false
  | .pass, x => match x with
    | .Pass _ => true
    | .Expr v _ => isDoc v
    | _ => false
  | .brk, x => match x with
    | .Break _ => true
    | _ => false
  | .cont, x => match x with
    | .Continue _ => true
    | _ => false
  | .raise n [], x => match x with
    | .Raise (some (.Call (.Name g _) [] [] _)) none _ => (n == g) && gloB C g
    | _ => false
  | .raise n es, x => match x with
    | .Raise (some (.Call (.Name g _) (z :: zs) [] _)) none _ => (n == g) && gloB C g && corEs C es (z :: zs)
    | _ => false
  | .dead, _ => true
  | .sub_, _ => false
  | .retP _ _, _ => false
  | .try_ b hs, x => match x with
    | .Try body (y :: ys) [] [] _ => corSs C b body && corHds C hs (y :: ys)
    | _ => false
def corSs (C : Ck) : List S → List Stmt → Bool
  | [], [] => true
  | .dead :: _, _ => true
  | s :: ss, x :: xs => corS C s x && corSs C ss xs
  | _, _ => false
end
theorem bkind {env : Env} (h : env.scope.kind = .function) : env.blockKind = .function := by unfold Env.blockKind; rw [h]; rfl
theorem sw_par2 {env : Env} {x y : Str} {px py pt p2 : Pos} {u v : Expr} {kt k2 : Nat} (hk : env.scope.kind = .function) (hx : env.scope.names.lookup x = some .local) (hy : env.scope.names.lookup y = some .local) (hl : (py.line == px.line) = true) (hne : (x == y) = false) (hu : noStar u = true) (hv : noStar v = true)
    (hf : (foldedForSure 8 u && foldedForSure 8 v) = false) (hc : (constantsAlone 8 u && constantsAlone 8 v) = false) : swappedStores [.Tuple [.Name x px, .Name y py] kt pt] (.Tuple [u, v] k2 p2) env = pure (some [x, y]) := by
  have kx : env.kindOf x = some .local := hx
  have ky : env.kindOf y = some .local := hy
  have hl' : (px.line == px.line) = true := by simp
  have hyx : (y == x) = false := by rw [beq_eq_false_iff_ne] at hne ⊢; exact fun z => hne z.symm
  unfold swappedStores
  simp only [List.filterMap, List.any, List.all, List.head?, Option.map, Option.getD, bkind hk, kx, ky, Expr.pos, hl, hl', hf, hc, Bool.and_true, List.length]
  simp [List.eraseDups, List.eraseDupsBy, List.eraseDupsBy.loop, hne, hyx, hf, hc, Bool.and_true]
  rintro (q | q)
  · cases u <;> first | (cases hu; done) | cases q
  · cases v <;> first | (cases hv; done) | cases q
theorem sw_par3 {env : Env} {x y z : Str} {px py pz pt p2 : Pos} {u v t : Expr} {kt k2 : Nat} (hk : env.scope.kind = .function) (hx : env.scope.names.lookup x = some .local) (hy : env.scope.names.lookup y = some .local) (hz : env.scope.names.lookup z = some .local) (hl : (py.line == px.line) = true) (hl2 : (pz.line == px.line) = true)
    (h1 : (x == y) = false) (h2 : (x == z) = false) (h3 : (y == z) = false) (hu : noStar u = true) (hv : noStar v = true) (ht : noStar t = true)
    (hf : (foldedForSure 8 u && foldedForSure 8 v && foldedForSure 8 t) = false) (hc : (constantsAlone 8 u && constantsAlone 8 v && constantsAlone 8 t) = false) : swappedStores [.Tuple [.Name x px, .Name y py, .Name z pz] kt pt] (.Tuple [u, v, t] k2 p2) env = pure (some [x, y, z]) := by
  have kx : env.kindOf x = some .local := hx
  have ky : env.kindOf y = some .local := hy
  have kz : env.kindOf z = some .local := hz
  have hl' : (px.line == px.line) = true := by simp
  have k1 : (y == x) = false := by rw [beq_eq_false_iff_ne] at h1 ⊢; exact fun w => h1 w.symm
  have k2 : (z == x) = false := by rw [beq_eq_false_iff_ne] at h2 ⊢; exact fun w => h2 w.symm
  have k3 : (z == y) = false := by rw [beq_eq_false_iff_ne] at h3 ⊢; exact fun w => h3 w.symm
  rw [Bool.and_assoc] at hf hc
  unfold swappedStores
  simp only [List.filterMap, List.any, List.all, List.head?, Option.map, Option.getD, bkind hk, kx, ky, kz, Expr.pos, hl, hl2, hl', hf, hc, Bool.and_true, List.length]
  simp [List.eraseDups, List.eraseDupsBy, List.eraseDupsBy.loop, h1, h2, h3, k1, k2, k3, hf, hc, Bool.and_true]
  rintro (q | q | q)
  · cases u <;> first | (cases hu; done) | cases q
  · cases v <;> first | (cases hv; done) | cases q
  · cases t <;> first | (cases ht; done) | cases q
theorem sw_cell {env : Env} {ts : List Expr} {kt : Nat} {pt : Pos} {v : Expr} (h : someCell env.scope ts = true) : swappedStores [.Tuple ts kt pt] v env = pure none := by
  cases v with
  | Tuple vs k p =>
    unfold swappedStores
    dsimp only
    split
    · rfl
    split
    · rfl
    split
    · rfl
    · rename_i hn
      exfalso
      apply hn
      rw [Bool.or_eq_true]
      refine .inl ?_
      rw [bne_iff_ne]
      refine Nat.ne_of_lt (List.length_filterMap_lt_length_iff_exists.2 ?_)
      obtain ⟨x, hx, hb⟩ := List.any_eq_true.1 h
      refine ⟨x, hx, ?_⟩
      cases x with
      | Name id pos =>
        have e : (env.kindOf id == some .local) = false := by
          have hb2 : (!(env.scope.names.lookup id == some .local)) = true := hb
          show (env.scope.names.lookup id == some .local) = false
          cases q : (env.scope.names.lookup id == some .local) with
          | false => rfl
          | true => rw [q] at hb2; cases hb2
        simp only [e, Bool.false_and, Bool.false_eq_true, if_false]
      | _ => rfl
  | _ => rfl
theorem sw_fold {env : Env} {ts : List Expr} {kt : Nat} {pt : Pos} {v : Expr} (h : (noTup v || foldB v || decide (4 ≤ ts.length)) = true) : swappedStores [.Tuple ts kt pt] v env = pure none := by
  rw [Bool.or_eq_true, Bool.or_eq_true] at h
  rcases h with (h | h) | h
  · exact swap_no h
  rotate_left
  · have h := of_decide_eq_true h
    have e : (!(ts.length == 2 || ts.length == 3)) = true := by
      have e2 : (ts.length == 2) = false := by simp; omega
      have e3 : (ts.length == 3) = false := by simp; omega
      rw [e2, e3]; rfl
    cases v with
    | Tuple vs k p =>
      unfold swappedStores
      simp only [e, Bool.true_or, if_true]
    | _ => rfl
  · cases v with
    | Tuple vs k p =>
      unfold foldB at h
      simp only [Bool.and_eq_true] at h
      unfold swappedStores
      simp only [h.1]
      split
      · rfl
      · split
        · rfl
        · split
          · rfl
          · simp
    | _ => cases h
theorem sw_all {X : Cx} {C : Ck} (ck : CkOk X C Γ) {ts : List Expr} {kt : Nat} {pt : Pos} {v : Expr} (h : ((noTup v || foldB v || decide (4 ≤ ts.length)) || someCell C.sc ts) = true) : swappedStores [.Tuple ts kt pt] v X.env = pure none := by
  rw [Bool.or_eq_true] at h
  rcases h with h | h
  · exact sw_fold h
  · exact sw_cell (by rw [ck.sc]; exact h)
theorem sw_one {t v : Expr} {l : Nat} {env : Env} (h : noComp v = true) : swapsWithSole [t] v l env = pure false := by cases v <;> first | rfl | cases h
theorem asg_sub {o i : Expr} {p : Pos} {env : Env} (h : noSlice i = true) : ∀ v, assign (.Subscript o i p) env v = (do
      let ov ← holding [v] (eval o env)
      let iv ← holding [v, ov] (eval i env)
      standAt p
      holding [v, ov, iv] (setItem ov iv v)
      release [v, ov, iv] []) := by
  intro v
  cases i <;> first | rfl | cases h
theorem sw_sub {env : Env} {o i : Expr} {p : Pos} {v : Expr} : swappedStores [.Subscript o i p] v env = pure none := by cases v <;> rfl
section
variable {X : Cx} {W : WX} {C : Ck} {Γ : Gam} {k : Nat}
/-- a comprehension stored into a local name -/
theorem okLcS (oc : Oc X W Γ k) (ck : CkOk X C Γ) {i : Nat} {y : Str} {py p : Pos} {v : Expr} (hi : X.N[i]? = some y) (hl : lclB C.sc y = true) (hs : swB C py y v = true) : ∀ (e : E), corE C e v = true → PS X (.Assign [.Name y py] v p) (LfS X.K W fun ρ G A => wE Γ e ρ G (fun d G1 => A.nx (ρ.set i (some d)) G1) (A.ex ρ)) := by
  cases v with
  | ListComp elt gens scope pos =>
    unfold swB at hs
    simp only [Bool.and_eq_true, Bool.not_eq_true', beq_iff_eq] at hs
    have hyl := lcl_of ck hl
    have hk : X.env.scope.kind = .function := by rw [ck.sc]; exact hs.1.1
    have hsw : ∀ gs, swapsWith (.ListComp elt gs scope pos) (some (.Name y py)) p.line X.env = pure true := fun gs => sw_true hk hyl (beq_iff_eq.mpr hs.1.2) hs.2
    intro e
    induction e using E.rec (motive_2 := fun _ => True) (motive_3 := fun _ => True) (motive_4 := fun _ => True) with
    | lc z e g it own _ _ =>
      intro h
      unfold corE at h
      split at h
      · rename_i heq
        cases heq
        simp only [Bool.and_eq_true] at h
        obtain ⟨on, rfl, k1, k2, k3, k4⟩ := lcB_ok ck oc.calm oc.nd h.1.1
        refine PS.imp (ss_setLc (z := z) (wt := fun _ G Q _ => Q true G) oc hi hyl (hsw _) (okI it _ _ oc ck h.1.2) k1 k2 k3 (fun s H c cl fp => pts_nil) (fun s H c cl fp => okE e _ (oc.blk s H _ _ fp) (into_ok ck s H _ cl c fp) h.2) k4 (fun σ H Q ρ G Qa a b c d => yes_imp _ σ H Q ρ G Qa a b c d)) ?_
        rintro D σ H ⟨ρ, G, A, hE, hG, hw, l⟩
        refine ⟨ρ, G, A, hE, hG, ?_, l⟩
        unfold wE at hw
        unfold lcG
        simp only [lcW_if]
        exact hw
      · cases h
    | lcIf z e g it t own _ _ _ =>
      intro h
      unfold corE at h
      split at h
      · rename_i heq
        cases heq
        simp only [Bool.and_eq_true] at h
        obtain ⟨on, rfl, k1, k2, k3, k4⟩ := lcB_ok ck oc.calm oc.nd h.1.1.1
        exact ss_setLc (z := z) (wt := wT Γ t) oc hi hyl (hsw _) (okI it _ _ oc ck h.1.1.2) k1 k2 k3 (fun s H c cl fp => pts_one (okT t _ (oc.blk s H _ _ fp) (into_ok ck s H _ cl c fp) h.2).1) (fun s H c cl fp => okE e _ (oc.blk s H _ _ fp) (into_ok ck s H _ cl c fp) h.1.2) k4
          (fun σ H Q ρ G Qa a b c d => tst_imp _ σ H Q ρ G Qa a b c d)
      · cases h
    | ktt a ih =>
      intro h
      unfold corE at h
      exact absurd h Bool.false_ne_true
    | or2 a b iha ihb =>
      intro h
      unfold corE at h
      exact absurd h Bool.false_ne_true
    | frz a ih =>
      intro h
      unfold corE at h
      exact ss_frz hi (ih h)
    | call f es _ => intro h; cases es <;> (unfold corE at h; cases h)
    | mcall n m o es _ _ => intro h; cases es <;> (unfold corE at h; cases h)
    | new n es _ => intro h; cases es <;> (unfold corE at h; cases h)
    | meth m o es _ _ => intro h; cases es <;> (unfold corE at h; cases h)
    | smeth z m o es _ _ => intro h; cases es <;> (unfold corE at h; cases h)
    | dead => exact fun _ => ⟨fun _ _ _ _ _ _ ⟨ρ, G, A, _, _, hw, _⟩ => by dsimp only at hw; unfold wE at hw; exact False.elim hw⟩
    | _ => first | trivial | (intro h; unfold corE at h; cases h; done) | skip
  | _ => cases hs
mutual
theorem okS' {Γ : Gam} {k : Nat} : ∀ (s : S) {X : Cx} {W : WX} {C : Ck} (x : Stmt), PassesOwn (model X.prog X.w) X.A X.env X.xe → X.stack = X.env :: X.outer ∧ X.env.frame = some X.env.locals → Oc X W Γ k → CkOk X C Γ → corS C s x = true → PS X x (LfS X.K W (wS Γ s))
  | .set i e, X, W, C, x, po, st, oc, ck, h => by
    unfold corS at h
    split at h
    · simp only [Bool.and_eq_true, Bool.or_eq_true] at h
      obtain ⟨⟨h1, h2⟩, h3⟩ := h
      obtain ⟨k1, k2, k3⟩ := loc_of ck h1
      rcases h3 with h3 | h3
      · exact ss_set oc.nd k1 k2 (okE e _ oc ck h2) (sw_no h3) k3
      · exact okLcS oc ck k1 h3.1 h3.2 e h2
    · cases h
  | .setTp is e, X, W, C, x, po, st, oc, ck, h => by
    unfold corS at h
    split at h
    · simp only [Bool.and_eq_true] at h
      exact ss_setTp oc.calm oc.nd (names_of ck h.1.1.1) (okE e _ oc ck h.1.1.2) (sw_one h.1.2) (sw_all ck h.2)
    · cases h
  | .par2 i j a b, X, W, C, x, po, st, oc, ck, h => by
    unfold corS at h
    split at h
    · simp only [Bool.and_eq_true, Bool.not_eq_true', beq_iff_eq, beq_eq_false_iff_ne] at h
      obtain ⟨⟨⟨⟨⟨⟨⟨⟨⟨⟨⟨⟨⟨h1, h2⟩, h3⟩, h4⟩, h5⟩, h6⟩, h7⟩, h8⟩, h9⟩, h10⟩, h11⟩, h12⟩, h13⟩, h14⟩ := h
      exact ss_par2 oc.calm oc.nd (loc_of ck h1).1 (loc_of ck h2).1 h5 (lcl_of ck h3) (lcl_of ck h4) (okE a _ oc ck h13) (okE b _ oc ck h14) (star1 h11) (star1 h12)
        (sw_par2 (by rw [ck.sc]; exact h8) (lcl_of ck h3) (lcl_of ck h4) (beq_iff_eq.mpr h7) (beq_eq_false_iff_ne.mpr h6) h11 h12 h9 h10) rfl
    · cases h
  | .par3 i j m a b c, X, W, C, x, po, st, oc, ck, h => by
    unfold corS at h
    split at h
    · simp only [Bool.and_eq_true, Bool.not_eq_true', beq_iff_eq, beq_eq_false_iff_ne] at h
      obtain ⟨⟨⟨⟨⟨⟨⟨⟨⟨⟨⟨⟨⟨⟨h1, h2⟩, h3⟩, ⟨h4, h5⟩, h6⟩, ⟨h7, h8⟩, h9⟩, ⟨h10, h11⟩, h12⟩, h13⟩, h14⟩, h15⟩, h16⟩, h17⟩, ⟨h18, h19⟩, h20⟩, h21⟩, h22⟩, h23⟩ := h
      exact ss_par3 oc.calm oc.nd (loc_of ck h1).1 (loc_of ck h2).1 (loc_of ck h3).1 h7 h8 h9 (lcl_of ck h4) (lcl_of ck h5) (lcl_of ck h6) (okE a _ oc ck h21) (okE b _ oc ck h22) (okE c _ oc ck h23) (star1 h18) (star1 h19) (star1 h20)
        (sw_par3 (by rw [ck.sc]; exact h15) (lcl_of ck h4) (lcl_of ck h5) (lcl_of ck h6) (beq_iff_eq.mpr h13) (beq_iff_eq.mpr h14) (beq_eq_false_iff_ne.mpr h10) (beq_eq_false_iff_ne.mpr h11) (beq_eq_false_iff_ne.mpr h12) h18 h19 h20 h16 h17) rfl
    · cases h
  | .expr e, X, W, C, x, po, st, oc, ck, h => by
    unfold corS at h
    split at h
    · simp only [Bool.and_eq_true] at h
      exact ss_expr (okE e _ oc ck h.1) (sw_no h.2)
    · cases h
  | .ret e, X, W, C, x, po, st, oc, ck, h => by
    unfold corS at h
    split at h
    · exact ss_ret (okE e _ oc ck h)
    · cases h
  | .retN, X, W, C, x, po, st, oc, ck, h => by
    unfold corS at h
    split at h
    · exact ss_retN
    · cases h
  | .if_ c a b, X, W, C, x, po, st, oc, ck, h => by
    unfold corS at h
    split at h
    · simp only [Bool.and_eq_true] at h
      exact ss_if (okT c _ oc ck h.1.1).1 (okSs' a _ po st oc ck h.1.2) (okSs' b _ po st oc ck h.2)
    · cases h
  | .while_ c b, X, W, C, x, po, st, oc, ck, h => by
    unfold corS at h
    split at h
    · simp only [Bool.and_eq_true] at h
      exact ss_while po (okT c _ oc ck h.1).1 (okSs' b _ po st oc ck h.2)
    · cases h
  | .for_ g it b, X, W, C, x, po, st, oc, ck, h => by
    unfold corS at h
    split at h
    · simp only [Bool.and_eq_true] at h
      exact ss_for po oc.calm (okI it _ _ oc ck h.1.1.2) (corG_ok ck oc.calm oc.nd h.1.1.1) (okSs' b _ po st oc ck h.2) (fold_no h.1.2)
    · cases h
  | .setSl o lo hi e, X, W, C, x, po, st, oc, ck, h => by
    unfold corS at h
    split at h
    · simp only [Bool.and_eq_true] at h
      obtain ⟨⟨⟨⟨h1, h2⟩, h3⟩, h4⟩, h5⟩ := h
      exact ss_setSl (okE e _ oc ck h2) (okE o _ oc ck h3) (okE lo _ oc ck h4) (okE hi _ oc ck h5) (sw_one h1) sw_sub rfl
    · cases h
  | .setIx o i e, X, W, C, x, po, st, oc, ck, h => by
    unfold corS at h
    split at h
    · simp only [Bool.and_eq_true] at h
      obtain ⟨⟨⟨⟨h1, h2⟩, h3⟩, h4⟩, h5⟩ := h
      exact ss_setIx (okE e _ oc ck h3) (okE o _ oc ck h4) (okE i _ oc ck h5) (sw_one h1) sw_sub rfl (asg_sub h2)
    · cases h
  | .setIN o i j e, X, W, C, x, po, st, oc, ck, h => by
    unfold corS at h
    split at h
    · simp only [Bool.and_eq_true] at h
      obtain ⟨⟨⟨⟨⟨⟨h1, h2⟩, h3⟩, h4⟩, h5⟩, h6⟩, h7⟩ := h
      exact ss_setIN oc.calm oc.nd ⟨loc_of ck h4, trivial⟩ (okE e _ oc ck h5) (okE o _ oc ck h6) (okE i _ oc ck h7) (sw_one h1) (sw_all ck (by rw [h2, Bool.or_true])) (asg_sub h3)
    · cases h
  | .dset o i e, X, W, C, x, po, st, oc, ck, h => by
    unfold corS at h
    split at h
    · simp only [Bool.and_eq_true] at h
      obtain ⟨⟨⟨h1, h2⟩, h3⟩, h4⟩ := h
      exact ss_dset oc (okE e _ oc ck h2) (okE o _ oc ck h3) (okE i _ oc ck h4) (sw_no h1)
    · cases h
  | .setAtt o f e, X, W, C, x, po, st, oc, ck, h => by
    unfold corS at h
    split at h
    · simp only [Bool.and_eq_true] at h
      obtain ⟨⟨⟨h1, h2⟩, h3⟩, h4⟩ := h
      cases beqS h1
      exact ss_setAtt oc (okE e _ oc ck h3) (okE o _ oc ck h4) (sw_no h2)
    · cases h
  | .setAt2 o f g e, X, W, C, x, po, st, oc, ck, h => by
    unfold corS at h
    split at h
    · simp only [Bool.and_eq_true] at h
      obtain ⟨⟨⟨⟨⟨⟨h1, h2⟩, h3⟩, h4⟩, h5⟩, h6⟩, h7⟩ := h
      cases beqS h1
      cases beqS h2
      exact ss_setAt2 oc (okE e _ oc ck h5) (okE o _ oc ck h6) (okE o _ oc ck h7) (sw_one h3) (sw_all ck (by rw [h4]; rfl))
    · cases h
  | .aug i o e, X, W, C, x, po, st, oc, ck, h => by
    unfold corS at h
    split at h
    · simp only [Bool.and_eq_true, Bool.or_eq_true, beq_iff_eq] at h
      obtain ⟨⟨⟨rfl, h1⟩, h2⟩, h3⟩ := h
      obtain ⟨k1, k2, k3⟩ := loc_of ck h2
      exact ss_aug oc.nd k1 k2 (okE e _ oc ck h3) h1 k3
    · cases h
  | .pass, X, W, C, x, po, st, oc, ck, h => by
    unfold corS at h
    split at h
    · exact ss_pass
    · rename_i v p
      cases v with
      | Constant c j q =>
        cases c with
        | str z => exact ss_doc
        | _ => cases h
      | _ => cases h
    · cases h
  | .brk, X, W, C, x, po, st, oc, ck, h => by
    unfold corS at h
    split at h
    · exact ss_brk
    · cases h
  | .cont, X, W, C, x, po, st, oc, ck, h => by
    unfold corS at h
    split at h
    · exact ss_cont
    · cases h
  | .raise n [], X, W, C, x, po, st, oc, ck, h => by
    unfold corS at h
    split at h
    · simp only [Bool.and_eq_true] at h
      cases beqS h.1
      obtain ⟨h1, h2, _⟩ := gl_of ck h.2
      exact ss_raise0 oc h1 h2
    · cases h
  | .raise n (e :: es), X, W, C, x, po, st, oc, ck, h => by
    unfold corS at h
    split at h
    · rename_i g p z zs pc pos
      simp only [Bool.and_eq_true] at h
      cases beqS h.1.1
      obtain ⟨h1, h2, _⟩ := gl_of ck h.1.2
      have ha := okEs (e :: es) _ oc ck h.2
      obtain ⟨l1, l2⟩ := corEs_len h.2
      obtain ⟨l3, l4⟩ := all_cons1 l2
      exact ss_raise oc h1 h2 ha (star1 l3) (plain_star l4)
    · cases h
  | .dead, X, W, C, x, po, st, oc, ck, h => ⟨fun _ _ _ _ _ _ ⟨ρ, G, A, _, _, hw, _⟩ => by unfold wS at hw; exact False.elim hw⟩
  | .sub_, X, W, C, x, po, st, oc, ck, h => by unfold corS at h; cases h
  | .retP _ _, X, W, C, x, po, st, oc, ck, h => by unfold corS at h; cases h
  | .try_ b hs, X, W, C, x, po, st, oc, ck, h => by
    unfold corS at h
    split at h
    · simp only [Bool.and_eq_true] at h
      refine PS.imp (ss_try (wb := wSs Γ b) oc ck st.1 st.2 h.2 fun W' pn xe tk po' => okSs' b _ po' st ⟨oc.room, oc.nd, oc.calm, tk, oc.tb⟩ ⟨ck.n, ck.sc, ck.fn, fun z => (ck.cs z).tr pn xe, ck.isL⟩ h.1) ?_
      rintro D σ H ⟨ρ, G, A, hE, hG, hw, l⟩
      exact ⟨ρ, G, A, hE, hG, by unfold wS at hw; exact hw, l⟩
    · cases h
theorem okSs' {Γ : Gam} {k : Nat} : ∀ (ss : List S) {X : Cx} {W : WX} {C : Ck} (xs : List Stmt), PassesOwn (model X.prog X.w) X.A X.env X.xe → X.stack = X.env :: X.outer ∧ X.env.frame = some X.env.locals → Oc X W Γ k → CkOk X C Γ → corSs C ss xs = true → PSs X xs (LfS X.K W (wSs Γ ss))
  | [], _, _, _, [], _, _, _, _, _ => sss_nil
  | [], _, _, _, _ :: _, _, _, _, _, h => by unfold corSs at h; cases h
  | s :: ss, X, W, C, xs, po, st, oc, ck, h => by
    by_cases hd : s = .dead
    · subst hd
      exact ⟨fun _ _ _ _ _ _ ⟨ρ, G, A, _, _, hw, _⟩ => by unfold wSs wS at hw; exact False.elim hw⟩
    · cases xs with
      | nil => cases s <;> first | (unfold corSs at h; cases h; done) | exact absurd rfl hd
      | cons x xs =>
        have h' : (corS C s x && corSs C ss xs) = true := by
          cases s <;> first | exact h | exact absurd rfl hd
        simp only [Bool.and_eq_true] at h'
        exact sss_cons (ws := wS Γ s) (wr := wSs Γ ss) (okS' s x po st oc ck h'.1) (okSs' ss xs po st oc ck h'.2)
end
theorem okSs (po : PassesOwn (model X.prog X.w) X.A X.env X.xe) (st : X.stack = X.env :: X.outer ∧ X.env.frame = some X.env.locals) (oc : Oc X W Γ k) (ck : CkOk X C Γ) (ss : List S) (xs : List Stmt) (h : corSs C ss xs = true) : PSs X xs (LfS X.K W (wSs Γ ss)) := okSs' ss xs po st oc ck h
end
/-! ### a def -/
def startD (N : List Str) (ds : List Dat) : Env' := ds.map some ++ List.replicate (N.length - ds.length) none
def endsOf (Q : AQ) (X : AX) : AEnds := ⟨fun _ G => ∃ G0, Sub G0 G ∧ Q .non G0, fun d G => ∃ G0, Sub G0 G ∧ Q d G0, fun _ _ => False, fun _ _ => False, fun _ c fs G => ∃ G0, Sub G0 G ∧ X c fs G0⟩
theorem relE_start {K : PySem.W.Frag} {H : Hp} {N : List Str} {vs : List V} {ds : List Dat} (r : Reps K H vs ds) : RelE K H (startD N ds) (L2.start N vs) := by
  refine ⟨by simp [startD, L2.start, r.length], fun i d e => ?_⟩
  unfold startD at e
  unfold L2.start
  by_cases hi : i < ds.length
  · rw [List.getElem?_append_left (by rw [List.length_map]; exact hi), List.getElem?_map] at e
    rw [List.getElem?_append_left (by rw [List.length_map, r.length]; exact hi), List.getElem?_map]
    obtain ⟨v, d', h1, h2, h3⟩ := r.lt hi
    rw [h2] at e
    cases e
    exact ⟨v, by rw [h1]; rfl, h3⟩
  · rw [List.getElem?_append_right (by rw [List.length_map]; omega), List.getElem?_replicate] at e
    split at e <;> cases e
def scopeB (N ps : List Str) (sc : Scope) : Bool :=
  (sc.kind == .function) && !sc.isCoroutine && !sc.isGenerator && decide N.Nodup && (N.take ps.length == ps) && (ps.all fun x => lclB sc x || celB sc x) && (sc.names.all fun y => !(y.2 == .free))
theorem scopeB_ok {N ps : List Str} {sc : Scope} (h : scopeB N ps sc = true) : FnScope N ps sc := by
  unfold scopeB at h
  simp only [Bool.and_eq_true, Bool.not_eq_true', beq_iff_eq, decide_eq_true_eq, List.all_eq_true, Bool.or_eq_true, beq_eq_false_iff_ne] at h
  obtain ⟨⟨⟨⟨⟨⟨h1, h2⟩, h3⟩, h4⟩, h5⟩, h6⟩, h7⟩ := h
  refine ⟨h1, h2, h3, h4, h5, fun x hx => ?_, h7⟩
  rcases h6 x hx with q | q
  · unfold lclB at q
    split at q
    · exact .inl (by assumption)
    · cases q
  · unfold celB at q
    split at q
    · exact .inr (by assumption)
    · cases q
/-- THE RULE of a def -/
theorem fnOk {P : Program} {w : World} {K : PySem.W.Frag} {mg : Str → Option Value} {base : Heap} {Γ : Gam} {k : Nat} {F : FnE} {N ps : List Str} {ss : List S} {x qual : Str} {params : Arguments} {body : List Stmt} {scope : Scope} {dvs : List V} {kws : List (Str × V)} {f : Addr} {fd : FuncData}
    (FD : FunD K x qual params body scope dvs kws f fd) (hS : scopeB N ps scope = true) (hl : ps.length = F.ar) (tb : TbOk P w K mg base Γ k) (cor : corSs { N := N, sc := scope, top := true } ss body = true)
    (hw : ∀ ds G Q X, F.con ds G Q X → wSs Γ ss (startD N ds) G (endsOf Q X)) (h0 : Γ.cs = fun _ => none := by rfl) : FnOk P w K mg base (L2.CX P w) (k + 1) f fd ps (spOf K F) := by
  have S := scopeB_ok hS
  refine FD.ok S (fun vs H Q E h => by rw [hl]; exact spOf_len h) fun cdv A outer s H vs Q E hr hsp => ?_
  obtain ⟨ds, G, Qa, Ea, r, g, hc, hp, hx⟩ := hsp
  refine ⟨LfS K (fun cls d _ H => E cls d H) (wSs Γ ss), okSs (passes_of rfl) ⟨rfl, rfl⟩ ⟨hr, S.nd, rfl, takes_of rfl rfl rfl rfl, tb⟩ ⟨rfl, rfl, fun _ _ _ => rfl, fun _ i c e => (by rw [h0] at e; cases e), fun _ _ z => by cases z⟩ ss body cor, startD N ds, G, endsOf Qa Ea, relE_start r, g, hw ds G Qa Ea hc, ?_⟩
  refine ⟨fun ρ' G' σ' H' f e g' q => ?_, fun d G' v H' f g' rv q => ?_, fun _ _ _ _ _ _ _ q => q.elim, fun _ _ _ _ _ _ _ q => q.elim, fun ρ' G' σ' H' f e g0 c fs G'' dx H'' f2 g2 rx q => ?_⟩
  · obtain ⟨G0, s0, q⟩ := q
    exact hp .non G0 .non H' (f.trans (.sub s0)) (g'.sub s0) .non q
  · obtain ⟨G0, s0, q⟩ := q
    exact hp d G0 v H' (f.trans (.sub s0)) (g'.sub s0) rv q
  · obtain ⟨G0, s0, q⟩ := q
    exact hx c fs G0 dx H'' ((f.trans f2).trans (.sub s0)) (g2.sub s0) rx q
end Av
set_option Elab.async false
set_option linter.all false
set_option maxRecDepth 100000
set_option maxHeartbeats 4000000
/-! # AvE: the facts of the module; the table of defs -/
namespace Av
open PySem PySem.Spec PyProof.Rows L2
variable [Tb]
/-! ### values of the written part -/
mutual
def datB (K : PySem.W.Frag) : Dat → Value → Bool
  | .non, u => match u with
    | .none => true
    | _ => false
  | .bl b, u => match u with
    | .bool c => b == c
    | _ => false
  | .int i, u => match u with
    | .int j _ => decide (i = j)
    | _ => false
  | .str x, u => match u with
    | .str y _ => decide (x = y)
    | _ => false
  | .ty n, u => match u with
    | .type m => decide (n = m)
    | _ => false
  | .tup ds, u => match u with
    | .ref a => (match K.lookup a with
      | some ⟨.type c, _, .seq its _, _⟩ => decide (c = "tuple") && decide (its.size ≤ sizeLine) && datsB K ds its.toList
      | _ => false)
    | _ => false
  | .kls ds, u => match u with
    | .ref a => (match K.lookup a with
      | some ⟨.type c, none, .seq its _, _⟩ => decide (c = "list") && decide (its.size ≤ sizeLine) && datsB K ds its.toList
      | _ => false)
    | _ => false
  | .lst _, _ => false
  | .ref _, _ => false
  | .gf x, u => match u with
    | .ref a => decide (a = He.ga K x)
    | _ => false
  | .clo .., _ => false
  | .exc .., _ => false
  | .ktp _, _ => false
def datsB (K : PySem.W.Frag) : List Dat → List Value → Bool
  | [], us => us.isEmpty
  | d :: ds, us => match us with
    | u :: us => datB K d u && datsB K ds us
    | [] => false
end
mutual
theorem datB_ok {K : PySem.W.Frag} : ∀ (d : Dat) (u : Value), datB K d u = true → ∃ v, RelV v u ∧ ∀ H, Rep K H v d
  | .non, u, h => by
    unfold datB at h
    split at h
    · exact ⟨.non, rfl, fun _ => .non⟩
    · cases h
  | .bl b, u, h => by
    unfold datB at h
    split at h
    · cases beq_iff_eq.mp h; exact ⟨.bl b, rfl, fun _ => .bl b⟩
    · cases h
  | .int b, u, h => by
    unfold datB at h
    split at h
    · cases of_decide_eq_true h; exact ⟨.int b, ⟨_, rfl⟩, fun _ => .int b⟩
    · cases h
  | .str b, u, h => by
    unfold datB at h
    split at h
    · cases of_decide_eq_true h; exact ⟨.str b, ⟨_, rfl⟩, fun _ => .str b⟩
    · cases h
  | .ty b, u, h => by
    unfold datB at h
    split at h
    · cases of_decide_eq_true h; exact ⟨.ty b, rfl, fun _ => .ty b⟩
    · cases h
  | .tup ds, u, h => by
    unfold datB at h
    split at h
    · split at h
      · simp only [Bool.and_eq_true, decide_eq_true_eq] at h
        obtain ⟨⟨rfl, h2⟩, h3⟩ := h
        obtain ⟨vs, k1, k2⟩ := datsB_ok ds _ h3
        exact ⟨.ref _, rfl, fun H => .tup (.inr (.inr ⟨_, _, _, by assumption, rfl, rfl, h2, k1⟩)) (k2 H)⟩
      · cases h
    · cases h
  | .kls ds, u, h => by
    unfold datB at h
    split at h
    · split at h
      · simp only [Bool.and_eq_true, decide_eq_true_eq] at h
        obtain ⟨⟨rfl, h2⟩, h3⟩ := h
        obtain ⟨vs, k1, k2⟩ := datsB_ok ds _ h3
        exact ⟨.ref _, rfl, fun H => .kls (.inr ⟨_, _, _, by assumption, rfl, rfl, rfl, h2, k1⟩) (k2 H)⟩
      · cases h
    · cases h
  | .lst _, _, h => by unfold datB at h; cases h
  | .ref _, _, h => by unfold datB at h; cases h
  | .gf b, u, h => by
    unfold datB at h
    split at h
    · cases of_decide_eq_true h; exact ⟨.ref _, rfl, fun _ => .gf b⟩
    · cases h
  | .clo .., _, h => by unfold datB at h; cases h
  | .exc .., _, h => by unfold datB at h; cases h
  | .ktp _, _, h => by unfold datB at h; cases h
theorem datsB_ok {K : PySem.W.Frag} : ∀ (ds : List Dat) (us : List Value), datsB K ds us = true → ∃ vs, Vals vs us ∧ ∀ H, Reps K H vs ds
  | [], us, h => by
    unfold datsB at h
    cases us with
    | nil => exact ⟨[], .nil, fun _ => .nil⟩
    | cons => cases h
  | d :: ds, us, h => by
    unfold datsB at h
    split at h
    · rename_i u us
      simp only [Bool.and_eq_true] at h
      obtain ⟨v, k1, k2⟩ := datB_ok d u h.1
      obtain ⟨vs, k3, k4⟩ := datsB_ok ds us h.2
      exact ⟨v :: vs, .cons k1 k3, fun H => .cons (k2 H) (k4 H)⟩
    · cases h
end
/-! ### a dict of the module -/
def keyO : Value → Option Key
  | .int i _ => some (.inl i)
  | .str x _ => some (.inr x)
  | _ => none
def keyHO (e : DictEntry) : Option Key × Int := (keyO e.key, e.hash)
def kdObs (K : PySem.W.Frag) (x : Str) : Option (Addr × List (Option Key × Int) × List Value) := match PySem.W.nsIn K mainGlobals x with
  | some (some (.ref d)) => (match K.lookup d with
    | some ⟨.type c, none, .dict es _, sl⟩ => (match decide (c = "dict") && (sl.isEmpty && !(d == sysModules)) with
      | true => some (d, es.toList.map keyHO, es.toList.map (·.val))
      | false => none)
    | _ => none)
  | _ => none
def kdVals (K : PySem.W.Frag) (x : Str) : List Value := match kdObs K x with
  | some (_, _, vs) => vs
  | none => []
structure KdSays (K : PySem.W.Frag) (w : World) (x : Str) (kvs : List (Key × Dat)) : Prop where
  h : (kdObs K x).map (fun q => q.2.1) = some (kvs.map fun q => (some q.1, keyH w q.1))
  v : datsB K (kvs.map (·.2)) (kdVals K x) = true
  nd : decide ((kvs.map (·.1)).Nodup) = true
theorem keyO_is {v : Value} {k : Key} (h : keyO v = some k) : keyIs k v = true := by
  cases v with
  | int i t => cases h; simp [keyIs, Value.isInt]
  | str x t => cases h; simp [keyIs, Value.isStrOf]
  | _ => cases h
theorem pairs_of {P : Program} {w : World} : ∀ {es : List DictEntry} {kvs : List (Key × Dat)} {vs : List V}, es.map keyHO = kvs.map (fun q => (some q.1, keyH w q.1)) → Vals vs (es.map (·.val)) →
    (∀ e ∈ es, ∃ k, (mixKind P w).is k e.key = true ∧ e.hash = (mixKind P w).hash k) ∧ PySem.Pairs (mixKind P w) es ((kvs.map (·.1)).zip (es.map (·.val))) ∧ KV ((kvs.map (·.1)).zip vs) ((kvs.map (·.1)).zip (es.map (·.val)))
  | [], [], vs, _, r => by cases r; exact ⟨(fun e he => by simp at he), .nil, .nil⟩
  | [], _ :: _, _, h, _ => by simp at h
  | _ :: _, [], _, h, _ => by simp at h
  | e :: es, (k, d) :: kvs, vs, h, r => by
    simp only [List.map_cons, List.cons.injEq] at h
    cases r with
    | cons r1 r2 =>
      obtain ⟨i1, i2, i3⟩ := pairs_of (P := P) h.2 r2
      have hk : keyO e.key = some k := congrArg (·.1) h.1
      have hh : e.hash = keyH w k := congrArg (·.2) h.1
      have is := keyO_is hk
      refine ⟨fun e' he => ?_, .cons is rfl i2, .cons ⟨rfl, r1⟩ i3⟩
      rcases List.mem_cons.mp he with rfl | he
      · exact ⟨k, is, hh⟩
      · exact i1 e' he
theorem krel_of {K : PySem.W.Frag} {H : Hp} : ∀ {kvs : List (Key × Dat)} {vs : List V}, Reps K H vs (kvs.map (·.2)) → KRel K H ((kvs.map (·.1)).zip vs) kvs
  | [], _, .nil => .nil
  | (k, d) :: kvs, _, .cons a r => .cons ⟨rfl, a⟩ (krel_of r)
theorem KdSays.ok {K : PySem.W.Frag} {P : Program} {w : World} {x : Str} {kvs : List (Key × Dat)} {h : Heap} {mg : Str → Option Value} (c : KdSays K w x kvs) (X : K.In h) (G : h.Ns mainGlobals mg) :
    ∃ d vk, mg x = some (.ref d) ∧ KdAt K P w d vk ∧ ∀ H, KRel K H vk kvs := by
  obtain ⟨h1, h2, h3⟩ := c
  cases q : kdObs K x with
  | none => rw [q] at h1; cases h1
  | some r =>
    obtain ⟨d, ks, us⟩ := r
    unfold kdVals at h2
    rw [q] at h1 h2
    simp only [Option.map_some, Option.some.injEq] at h1
    unfold kdObs at q
    split at q
    · rename_i d' e1
      split at q
      · rename_i c es ep sl e2
        split at q
        · rename_i e3
          simp only [Option.some.injEq, Prod.mk.injEq] at q
          obtain ⟨rfl, rfl, rfl⟩ := q
          simp only [Bool.and_eq_true, decide_eq_true_eq, Bool.not_eq_true'] at e3
          obtain ⟨rfl, e4, e5⟩ := e3
          obtain ⟨vs, v1, v2⟩ := datsB_ok _ _ h2
          obtain ⟨p1, p2, p3⟩ := pairs_of (P := P) h1 v1
          have sl0 : sl = #[] := by simpa using e4
          have nd : ((kvs.map (·.1)).zip (es.toList.map (·.val))).map (·.1) = kvs.map (·.1) := by
            have l := congrArg List.length h1
            simp only [List.length_map] at l
            exact List.map_fst_zip (by simp only [List.length_map]; omega)
          refine ⟨d', _, PySem.W.mg_of X G e1, ⟨⟨_, es, ep, _, e2, ⟨rfl, rfl, sl0⟩, rfl, fun e he => p1 e (Array.mem_toList_iff.mpr he), p2, ?_, p3⟩, e5⟩, fun H => krel_of (v2 H)⟩
          rw [nd]
          exact of_decide_eq_true h3
        · cases q
      · cases q
    · cases q
/-! ### the table -/
structure Tab where
  fns : List (Str × FnE) := []
  gl : List (Str × Dat) := []
  ats : List (Str × Str) := []
  mss : List ((Str × Str) × FnE) := []
  mks : List (Str × FnE) := []
  xcs : List (Str × List Str) := []
  dcs : List (Str × List (Key × Dat)) := []
  lms : List (Nat × LamE) := []
  cms : List ((Str × Str) × FnE) := []
  hfs : List (Str × HotG) := []
  mns : List ((Str × Str × Nat × List Str) × FnE × List Nat) := []
abbrev Gm (t : Tab) : Gam := { fn := fun f => t.fns.lookup f, gl := fun x => t.gl.lookup x, at_ := fun C f => t.ats.contains (C, f), ms := fun C m => t.mss.lookup (C, m), mke := fun C => t.mks.lookup C, xc := fun C => t.xcs.lookup C, dc := fun x => t.dcs.lookup x, lam := fun q => t.lms.lookup q, cm := fun C m => t.cms.lookup (C, m), hf := fun f => t.hfs.lookup f, mn := fun C m n ks => t.mns.lookup (C, m, n, ks) }
def tyGl : List (Str × Dat) := [("list", .ty "list"), ("tuple", .ty "tuple"), ("bool", .ty "bool"), ("int", .ty "int"), ("str", .ty "str"), ("dict", .ty "dict")]
def bltNms : List Str := ["len", "int", "tuple", "list", "isinstance", "all", "any", "sum", "min", "max", "range", "zip", "enumerate", "bool", "str", "dict", "ord", "sorted"]
section
variable {P : Program} {w : World} {K : PySem.W.Frag} {mg : Str → Option Value} {base : Heap} {t : Tab} {k : Nat}
theorem tyGl_ok : ∀ q ∈ tyGl, q.1 ∈ bltNms ∧ ∃ n, q.2 = .ty n ∧ bootBuiltins q.1 = some (.type n) := by
  intro q hq
  simp only [tyGl, List.mem_cons, List.not_mem_nil, or_false] at hq
  rcases hq with rfl | rfl | rfl | rfl | rfl | rfl
  all_goals exact ⟨by decide, _, rfl, by decide +kernel⟩
theorem TbOk.nil {gv : List (Str × Dat)} {ats : List (Str × Str)} {dcs : List (Str × List (Key × Dat))} (hf : ∀ x ∈ bltNms, mg x = none) (hg : ∀ q ∈ gv, ∃ u v, RelV v u ∧ (∀ H, Rep K H v q.2) ∧ mg q.1 = some u)
    (ha : ∀ q ∈ ats, Cls K (He.ga K q.1) ∧ NoAttr K (He.ga K q.1) q.2) (hd : ∀ q ∈ dcs, ∃ d vk, mg q.1 = some (.ref d) ∧ KdAt K P w d vk ∧ ∀ H, KRel K H vk q.2) (kt : KtOk K) :
    TbOk P w K mg base (Gm { gl := tyGl ++ gv, ats := ats, dcs := dcs }) k := by
  refine ⟨fun f F h => (by cases h), fun x d h => ?_, fun f => ?_, fun C f h => ha (C, f) (by simpa using h), fun C m F h => (by cases h), fun C F h => (by cases h), fun C fl h => (by cases h), fun C fl h => (by cases h),
    fun x kvs h => hd (x, kvs) (PySem.mem_of_lookup h), fun f F h => (by cases h), kt, fun q L h => (by cases h), fun f g h => (by cases h), hf _ (by decide), hf _ (by decide), hf _ (by decide), fun C m F h => (by cases h), fun C m n ks F pm h => (by cases h)⟩
  · have hm : (x, d) ∈ tyGl ++ gv := PySem.mem_of_lookup h
    rcases List.mem_append.mp hm with hm | hm
    · obtain ⟨h1, n, h2, h3⟩ := tyGl_ok _ hm
      cases (show d = .ty n from h2)
      exact ⟨.type n, .ty n, rfl, fun _ => .ty n, .inr ⟨hf _ h1, h3⟩⟩
    · obtain ⟨u, v, h1, h2, h3⟩ := hg _ hm
      exact ⟨u, v, h1, h2, .inl h3⟩
  · cases f <;> exact hf _ (by decide)
theorem XcOk.mono {C : Addr} {fl : List Str} {j : Nat} (h : XcOk P w K mg base j C fl) (hj : j ≤ k) : XcOk P w K mg base k C fl := by
  rcases h with h | ⟨h1, h2, h3, a, fd, ps, i, h4, h5⟩
  · exact .inl h
  · exact .inr ⟨h1, h2, h3, a, fd, ps, i, Nat.le_trans h4 hj, h5⟩
theorem TbOk.up {Γ : Gam} {j : Nat} (tb : TbOk P w K mg base Γ j) (hj : j ≤ k) : TbOk P w K mg base Γ k := by
  refine ⟨fun g F h => ?_, tb.gl, tb.blt, tb.at_, fun C m F h => ?_, fun C F h => ?_, fun C fl h => ⟨(tb.xc C fl h).1, (tb.xc C fl h).2.mono hj⟩, tb.xf, tb.dc, tb.fa, tb.kt, fun q L h => (tb.lam q L h).mono hj, fun f g h => (by obtain ⟨a, fd, ps, h3, h4⟩ := tb.hf f g h; exact ⟨a, fd, ps, h3.mono hj, h4⟩), tb.rng, tb.zip, tb.enum, fun C m F h => ?_, fun C m n ks F pm h => ?_⟩
  · obtain ⟨a, fd, ps, h3, h4⟩ := tb.fn g F h
    exact ⟨a, fd, ps, h3.mono hj, h4⟩
  · obtain ⟨a, fd, ps, h3, h4⟩ := tb.ms C m F h
    exact ⟨a, fd, ps, h3.mono hj, h4⟩
  · obtain ⟨a, fd, ps, i, h1, h3⟩ := tb.mke C F h
    exact ⟨a, fd, ps, i, Nat.le_trans h1 hj, h3⟩
  · obtain ⟨a, fd, ps, mc, h3, h4⟩ := tb.cm C m F h
    exact ⟨a, fd, ps, mc, h3.mono hj, h4⟩
  · obtain ⟨a, fd, ps, dvs, its, h3, h4⟩ := tb.mn C m n ks F pm h
    exact ⟨a, fd, ps, dvs, its, h3.mono hj, h4⟩
theorem TbOk.cons {f : Str} {F : FnE} {a : Addr} {fd : FuncData} {ps : List Str} (tb : TbOk P w K mg base (Gm t) k) (hF : FnOk P w K mg base (L2.CX P w) (k + 1) a fd ps (spOf K F)) (hm : mg f = some (.ref a)) (ha : a = He.ga K f) (hk : PySem.W.keepIn K (.ref a) = true)
    (hb : ∀ m, F.ar ≤ m + F.dfl.length → m ≤ F.ar → ∃ ds dvs, Binds K fd ps ds ∧ Vals dvs ds ∧ ∀ H, Reps K H dvs (F.dfl.drop (m + F.dfl.length - F.ar))) : TbOk P w K mg base (Gm { t with fns := (f, F) :: t.fns }) (k + 1) := by
  have up := tb.up (Nat.le_succ k)
  refine ⟨fun g F' h => ?_, up.gl, up.blt, up.at_, up.ms, up.mke, up.xc, up.xf, up.dc, fun g F' h => ?_, up.kt, up.lam, up.hf, up.rng, up.zip, up.enum, up.cm, up.mn⟩
  · have h2 : (match g == f with | true => some F | false => t.fns.lookup g) = some F' := h
    cases e : (g == f) with
    | true =>
      rw [e] at h2
      cases h2
      cases beqS e
      exact ⟨a, fd, ps, hF, hm, hk, hb⟩
    | false =>
      rw [e] at h2
      exact up.fn g F' h2
  · have h2 : (match g == f with | true => some F | false => t.fns.lookup g) = some F' := h
    cases e : (g == f) with
    | true =>
      cases beqS e
      rw [hm, ha]
    | false =>
      rw [e] at h2
      exact up.fa g F' h2
/-- a method -/
theorem TbOk.consM {C m : Str} {F : FnE} {a : Addr} {fd : FuncData} {ps : List Str} (tb : TbOk P w K mg base (Gm t) k) (hF : FnOk P w K mg base (L2.CX P w) (k + 1) a fd ps (spOf K F)) (hC : Cls K (He.ga K C)) (hM : Meth K (He.ga K C) m a)
    (hb : ∀ m, F.ar ≤ m + 1 + F.dfl.length → m + 1 ≤ F.ar → ∃ ds dvs, Binds K fd ps ds ∧ Vals dvs ds ∧ ∀ H, Reps K H dvs (F.dfl.drop (m + 1 + F.dfl.length - F.ar))) : TbOk P w K mg base (Gm { t with mss := ((C, m), F) :: t.mss }) (k + 1) := by
  have up := tb.up (Nat.le_succ k)
  refine ⟨up.fn, up.gl, up.blt, up.at_, fun D n F' h => ?_, up.mke, up.xc, up.xf, up.dc, up.fa, up.kt, up.lam, up.hf, up.rng, up.zip, up.enum, up.cm, up.mn⟩
  have h2 : (match (D, n) == (C, m) with | true => some F | false => t.mss.lookup (D, n)) = some F' := h
  cases e : ((D, n) == (C, m)) with
  | true =>
    rw [e] at h2
    cases h2
    have e2 : (D, n) = (C, m) := by simpa using e
    cases e2
    exact ⟨a, fd, ps, hF, hC, hM, hb⟩
  | false =>
    rw [e] at h2
    exact up.ms D n F' h2
/-- a class that is made -/
theorem TbOk.consK {C : Str} {F : FnE} {a : Addr} {fd : FuncData} {ps : List Str} (tb : TbOk P w K mg base (Gm t) k) (hF : FnOk P w K mg base (L2.CX P w) (k + 1) a fd ps (spOf K F)) (hM : Mk K (He.ga K C) a) (hm : mg C = some (.ref (He.ga K C)))
    (hb : ∀ m, F.ar ≤ m + 1 + F.dfl.length → m + 1 ≤ F.ar → ∃ ds dvs, Binds K fd ps ds ∧ Vals dvs ds ∧ ∀ H, Reps K H dvs (F.dfl.drop (m + 1 + F.dfl.length - F.ar))) : TbOk P w K mg base (Gm { t with mks := (C, F) :: t.mks }) (k + 2) := by
  have up := tb.up (show k ≤ k + 2 by omega)
  refine ⟨up.fn, up.gl, up.blt, up.at_, up.ms, fun D F' h => ?_, up.xc, up.xf, up.dc, up.fa, up.kt, up.lam, up.hf, up.rng, up.zip, up.enum, up.cm, up.mn⟩
  have h2 : (match D == C with | true => some F | false => t.mks.lookup D) = some F' := h
  cases e : (D == C) with
  | true =>
    rw [e] at h2
    cases h2
    cases beqS e
    exact ⟨a, fd, ps, k + 1, Nat.le_refl _, hF, hM, hm, hb⟩
  | false =>
    rw [e] at h2
    exact up.mke D F' h2
/-- no defaults -/
theorem binds_noneM {F : FnE} {fd : FuncData} {ps : List Str} (hd : F.dfl = []) (hb : Binds K fd ps []) : ∀ m, F.ar ≤ m + 1 + F.dfl.length → m + 1 ≤ F.ar → ∃ ds dvs, Binds K fd ps ds ∧ Vals dvs ds ∧ ∀ H, Reps K H dvs (F.dfl.drop (m + 1 + F.dfl.length - F.ar)) := fun m _ _ =>
  ⟨[], [], hb, .nil, fun H => by rw [hd, List.drop_nil]; exact .nil⟩
theorem binds_none {F : FnE} {fd : FuncData} {ps : List Str} (hd : F.dfl = []) (hb : Binds K fd ps []) : ∀ m, F.ar ≤ m + F.dfl.length → m ≤ F.ar → ∃ ds dvs, Binds K fd ps ds ∧ Vals dvs ds ∧ ∀ H, Reps K H dvs (F.dfl.drop (m + F.dfl.length - F.ar)) := fun m _ _ =>
  ⟨[], [], hb, .nil, fun H => by rw [hd, List.drop_nil]; exact .nil⟩
end
/-- the law's promise -/
def c_lawC : Con := fun ds G Q X => ∃ sc ns, ds = [sc] ∧ (sc = .lst (List.map Dat.int ns) ∨ sc = .kls (List.map Dat.int ns)) ∧ ∀ G', Q (.bl true) G'
/-- the hook that sees written objects -/
def hookK (as : List Addr) (K : World → PySem.W.Frag) (h : ∀ w, as = (K w).map (·.1)) : PySem.W.Hook where
  α := List (Option Obj)
  obs := fun s => as.map s.heap.get?
  val := fun w => (K w).map fun p => some p.2
  says := fun w h => (K w).In h
  of := fun w _ e => PySem.W.Frag.in_of (h w) e
  keeps := fun _ _ _ x k => PySem.W.Frag.In.keeps x k
def obsK (as : List Addr) (s : PySem.W.SharedT) : List (Option Obj) := as.map (HandSHeadRun.getT s)
theorem obsK_eq {as : List Addr} {K : World → PySem.W.Frag} {h : ∀ w, as = (K w).map (·.1)} (s : PySem.W.SharedT) : obsK as s = (hookK as K h).obs s.abs := by
  have e : HandSHeadRun.getT s = s.abs.heap.get? := funext fun a => HandSHeadRun.getT_eq s a
  unfold obsK
  rw [e]
  rfl
end Av
set_option Elab.async false
set_option linter.all false
set_option maxRecDepth 100000
set_option maxHeartbeats 4000000
/-! # AvHd: a top that is run in parts -/
noncomputable section
namespace Av.Hd
open PySem PySem.W PySem.Calls PyProof.Rows HandSHeadRun
section
variable (st : SharedT → Thread → Option (SharedT × Thread)) (n0 : Nat) (ann : Option Value)
/-- whether the part is at its end -/
def endQ (t : Thread) : Option Flow := match t.stack with
  | [_] => match t.cur with
    | .pure (.done f) => some f
    | _ => none
  | _ => none
theorem endQ_eq (t : Thread) : endAt 1 t = endQ t := by
  obtain ⟨cur, c, p, stk⟩ := t
  unfold endAt endQ
  match stk with
  | [] => rfl
  | [_] =>
    cases cur with
    | pure r => cases r <;> rfl
    | _ => rfl
  | x :: y :: r =>
    have e : ((⟨cur, c, p, x :: y :: r⟩ : Thread).stack.length == 1) = false := by simp
    simp only [e]
/-- a part of the top, to its end -/
def segQ : Nat → SharedT → Thread → Option (Flow × SharedT × Code × Pos)
  | 0, _, _ => none
  | m + 1, s, t => match endQ t with
    | some f => some (f, s, t.code, t.pos)
    | none => match stepOk n0 ann t with
      | false => none
      | true => match st s t with
        | none => none
        | some (s2, t2) => frS s2 fun s3 => segQ m s3 t2
/-- so many steps -/
def preQ : Nat → SharedT → Thread → Option (SharedT × Thread)
  | 0, s, t => some (s, t)
  | m + 1, s, t => match through t with
    | true => none
    | false => match stepOk n0 ann t with
      | false => none
      | true => match st s t with
        | none => none
        | some (s2, t2) => frS s2 fun s3 => preQ m s3 t2
end
variable {tb : String → Option Builtin} {p : Program} {w : World} {n0 : Nat} {ann : Option Value}
theorem segQ_ok : ∀ {m : Nat} {s s' : SharedT} {t : Thread} {f : Flow} {c : Code} {q : Pos}, segQ (stepT (denote tb) p w) n0 ann m s t = some (f, s', c, q) → segRun tb p w n0 ann 1 m s.abs t = some (f, s'.abs, c, q) := by
  intro m
  induction m with
  | zero => intro s s' t f c q h; cases h
  | succ m ih =>
    intro s s' t f c q h
    unfold segQ at h
    unfold segRun
    rw [endQ_eq]
    cases e1 : endQ t with
    | some g =>
      rw [e1] at h
      cases h
      rfl
    | none =>
      rw [e1] at h
      cases e2 : stepOk n0 ann t with
      | false => rw [e2] at h; cases h
      | true =>
        rw [e2] at h
        cases e3 : stepT (denote tb) p w s t with
        | none => rw [e3] at h; cases h
        | some r =>
          obtain ⟨s2, t2⟩ := r
          rw [e3] at h
          have h2 : (frS s2 fun s3 => segQ (stepT (denote tb) p w) n0 ann m s3 t2) = some (f, s', c, q) := h
          rw [frS_eq] at h2
          have z := ih h2
          simp only [stepT_spec e3]
          exact z
theorem preQ_ok : ∀ {m : Nat} {s s' : SharedT} {t t' : Thread}, preQ (stepT (denote tb) p w) n0 ann m s t = some (s', t') → topGo tb p w n0 ann m s.abs t = some (s'.abs, t') := by
  intro m
  induction m with
  | zero =>
    intro s s' t t' h
    cases h
    rfl
  | succ m ih =>
    intro s s' t t' h
    unfold preQ at h
    unfold topGo
    cases e1 : through t with
    | true => rw [e1] at h; cases h
    | false =>
      rw [e1] at h
      cases e2 : stepOk n0 ann t with
      | false => rw [e2] at h; cases h
      | true =>
        rw [e2] at h
        cases e3 : stepT (denote tb) p w s t with
        | none => rw [e3] at h; cases h
        | some r =>
          obtain ⟨s2, t2⟩ := r
          rw [e3] at h
          have h2 : (frS s2 fun s3 => preQ (stepT (denote tb) p w) n0 ann m s3 t2) = some (s', t') := h
          rw [frS_eq] at h2
          have z := ih h2
          simp only [stepT_spec e3]
          exact z
def execsQ : List Stmt → Env → Sem Flow := PySem.W.Fast.tw12563942051412417395
theorem execsQ_eq : @PySem.execs = execsQ := PySem.W.Fast.te12563942051412417395
/-- piecesOf, restOf by the library's twin -/
def piecesQ (l : List Stmt) (env : Env) (c : Code) (p : Pos) (B : List Frame) : Thread := ⟨(execsQ l env).wrap doneF deadEnd id id, c, p, B⟩
def restQ (l : List Stmt) (env : Env) (c : Code) (p : Pos) (B : List Frame) : Thread := ⟨(execsQ l env).wrap doneF (leaveH env) id id, c, p, B⟩
theorem piecesQ_eq (l : List Stmt) (env : Env) (c : Code) (p : Pos) (B : List Frame) : piecesQ l env c p B = piecesOf l env c p B := by
  unfold piecesQ
  rw [← execsQ_eq]
theorem restQ_eq (l : List Stmt) (env : Env) (c : Code) (p : Pos) (B : List Frame) : restQ l env c p B = restOf l env c p B := by
  unfold restQ restOf
  rw [← execsQ_eq]
/-- the rest of the top comes through, and the state behind it is r -/
def Rest (p : Program) (w : World) (n0 : Nat) (ann : Option Value) (s : SharedT) (l : List Stmt) (env : Env) (c : Code) (pos q : Pos) (N : Nat) (r : Shared) : Prop :=
  topRun treeTable p w n0 ann N s.abs (restOf l env c pos [topFrame q]) = some r
abbrev stQ (p : Program) (w : World) := stepQ (denQ tabQ) p w
theorem stQ_eq : stepT (denote treeTable) p w = stQ p w := by rw [stepQ_eq, denQ_eq, tabQ_eq]
theorem rest_last {s s' : SharedT} {l : List Stmt} {env : Env} {c : Code} {pos q : Pos} {N : Nat} (h : goF (stQ p w) n0 ann N s (restQ l env c pos [topFrame q]) = some s') : Rest p w n0 ann s l env c pos q N s'.abs := by
  rw [← stQ_eq, restQ_eq] at h
  exact goF_ok h
theorem rest_part {s s' : SharedT} {l l' : List Stmt} {env : Env} {c : Code} {pos pos' q : Pos} {n N : Nat} {r : Shared}
    (h : segQ (stQ p w) n0 ann n s (piecesQ l env c pos [topFrame q]) = some (.next, s', c, pos')) (k : Rest p w n0 ann s' l' env c pos' q N r) : Rest p w n0 ann s (l ++ l') env c pos q (n + N) r := by
  rw [← stQ_eq, piecesQ_eq] at h
  exact piece_app (segQ_ok h) k
/-- from the boot to the first statement -/
theorem rest_first {w : World} {os : OsState} {t0 : BT} {sa sb : SharedT} {b : List Stmt} {env : Env} {c : Code} {pos pos' q : Pos} {k0 kb N : Nat} {r : Shared} (hb : putAll (boot_heap w.params).objs.toList .nil 0 = some (t0, n0))
    (h0 : preQ (stQ p w) n0 ann k0 (bootT w os (t0, n0)) (topStub p) = some (sa, ⟨denQ tabQ (.body b env), c, pos, [topFrame q]⟩))
    (h1 : segQ (stQ p w) n0 ann kb sa (blockOf b env c pos [topFrame q]) = some (.next, sb, c, pos')) (k : Rest p w n0 ann sb b env c pos' q N r) :
    topRun treeTable p w n0 ann (k0 + (kb + N)) ⟨boot_heap w.params, #[], boot_drawn, boot_toks, os⟩ (topStub p) = some r := by
  rw [← stQ_eq] at h0 h1
  rw [← denQ_eq, ← tabQ_eq] at h0
  have z0 := preQ_ok h0
  have e : (bootT w os (t0, n0)).abs = ⟨boot_heap w.params, #[], boot_drawn, boot_toks, os⟩ := by
    have eh := putAll_heap hb
    show (⟨absHeap t0 n0 (boot_heap w.params).life, #[], boot_drawn, boot_toks, os⟩ : Shared) = _
    rw [eh]
  rw [e] at z0
  exact go_top z0 (piece_block (segQ_ok h1) k)
theorem size_of {w : World} {t0 : BT} (hb : putAll (boot_heap w.params).objs.toList .nil 0 = some (t0, n0)) : (boot_heap w.params).objs.size = n0 := by
  rw [← putAll_heap hb]
  exact absHeap_size t0 n0 _
/-- what is asked of the state behind the top -/
abbrev Told (r : OpenRow) (q : Program) (H : Hook) (ob : SharedT → H.α) (loose : List PySem.Str) (w : World) (s : SharedT) : Prop :=
  (looksF r.prog (boot_heap w.params) s.abs, seenQ q loose (importedModules r.prog.main.body) (fun s => xlAt q [] s && recOk r.toRowW.records s) s.abs, ob s) = (true, openGood q loose, H.val w)
abbrev Runs (r : OpenRow) (q : Program) (H : Hook) (ob : SharedT → H.α) (M : Nat) (loose : List PySem.Str) (w : World) : Prop :=
  ∀ os : OsState, ∃ s : SharedT, topRun treeTable r.prog w (boot_heap w.params).objs.size (bootAnn w) M ⟨boot_heap w.params, #[], boot_drawn, boot_toks, os⟩ (topStub r.prog) = some s.abs ∧ Told r q H ob loose w s
theorem leftO_runs {r : OpenRow} {q : Program} {H : Hook} {ob : SharedT → H.α} {M : Nat} {loose : List PySem.Str} (ho : ∀ s : SharedT, ob s = H.obs s.abs)
    (e : opening r.prog = plainProg r.prog.main.scope.names) (f : ∀ s, fenceModules? r.prog s = some s) (run : ∀ w, Runs r q H ob M loose w) :
    LeftO r.prog q loose (fun s => xlAt q [] s && recOk r.toRowW.records s) H.obs H.val (M + 600) true := fun w => by
  obtain ⟨⟨h, gs, d, k, os⟩, a, a'⟩ := Option.map_eq_some_iff.mp (boot_open (N := M + 600) e (Nat.ble_eq_true_of_le (by omega)) f w)
  obtain ⟨rfl, rfl, rfl, rfl⟩ : h = boot_heap w.params ∧ gs = Array.mk [] ∧ d = boot_drawn ∧ k = boot_toks := by simpa using a'
  obtain ⟨s, hs, hv⟩ := run w os
  obtain ⟨l1, l2, l3⟩ : _ ∧ _ ∧ _ := by
    simpa only [Told, Prod.mk.injEq] using hv
  have hr := topRun_mono 600 _ _ _ _ hs
  have l1' : (staticsOk (importedModules r.prog.main.body) (boot_heap w.params) s.abs.heap && namesBound r.prog s.abs.heap
      && gensDone s.abs && laidKept (boot_heap w.params) s.abs.heap) = true := l1
  have t : topFrom treeTable r.prog w (M + 600) ⟨boot_heap w.params, Array.mk [], boot_drawn, boot_toks, os⟩ = some s.abs := by
    unfold topFrom
    dsimp only
    rw [boot_ns]
    show (topRun treeTable r.prog w (boot_heap w.params).objs.size (bootAnn w) (M + 600) ⟨boot_heap w.params, #[], boot_drawn, boot_toks, os⟩ (topStub r.prog)).bind _
      = _
    rw [hr]
    show (match (staticsOk (importedModules r.prog.main.body) (boot_heap w.params) s.abs.heap && namesBound r.prog s.abs.heap
      && gensDone s.abs && laidKept (boot_heap w.params) s.abs.heap) with
      | true => some s.abs
      | false => none) = _
    rw [l1']
  unfold openEnds
  rw [a]
  show (topFrom treeTable r.prog w (M + 600) _).map _ = _
  rw [t]
  rw [← seenQ_eq] at l2
  refine congrArg some (Prod.ext l2 ?_)
  show H.obs s.abs = _
  rw [← ho]
  exact l3
theorem holds_runs {r : OpenRow} {q : Program} {H : Hook} {ob : SharedT → H.α} {M : Nat} {loose : List PySem.Str} {d : DefRec} {kwd : List (PySem.Str × PySem.Expr)} (ho : ∀ s : SharedT, ob s = H.obs s.abs)
    (e : opening r.prog = plainProg r.prog.main.scope.names) (f : ∀ s, fenceModules? r.prog s = some s) (run : ∀ w, Runs r q H ob M loose w) (hd : defOf q r.name = some (d, kwd))
    (hp : r.prog.theDef r.name = some (d.params, d.body, d.scope)) (hk : kwWritten? d.params.kwonlyargs d.params.kw_defaults = some kwd) (h1 : (!r.writes || r.records.isEmpty) = true) (h2 : r.wellSaid = true)
    (h3 : (chainsOk q && opensWell r.prog && (frees r.toRowW && r.within.isEmpty)) = true) (h4 : r.prog.bare) (h5 : r.toRowW.promised)
    (call : WalkO q loose (XL q []) H.says r.toRowW d kwd fun f vs => PySem.call f vs) : r.Holds := by
  have left := leftO_runs (M := M) ho e f run
  refine holds_open (XP := XL q []) (YP := H.says) left H.of H.keeps ?_ XL.keeps hd hp hk ?_ h1 h2 h3 h4 h5 call
  · exact fun s z => xl_of s (Bool.and_eq_true_iff.mp z).1
  · exact fun s z => recFacts_of (Bool.and_eq_true_iff.mp z).2
end Av.Hd
set_option Elab.async false
set_option linter.all false
set_option maxRecDepth 100000
set_option maxHeartbeats 0
namespace Av.Fin
open PySem PySem.Spec PyProof.Rows L2 Av
def top (i : Nat) : Stmt := PySem.Challenge.pw_signferry_k76_streams_of_bytes.main.body.getD i (.Pass ⟨0, 0, 0, 0⟩)
def mth (i j : Nat) : Stmt := match top i with
  | .ClassDef _ _ _ b _ _ _ _ _ _ _ => b.getD j (.Pass ⟨0, 0, 0, 0⟩)
  | _ => .Pass ⟨0, 0, 0, 0⟩
abbrev R : PySem.W.OpenRow := PySem.W.OpenLaw.row PySem.Challenge.rw_signferry_k76_streams_of_bytes
def nm0 : List PySem.Str := ["SignError", "BadPlace", "Octets", "_law_source", "_law_draw", "_law_pick", "_law_same", "_law_handed", "_law_from", "_law_sought", "_law_put"]
def names : List PySem.Str := nm0
local instance tb0 : Tb := { T := [], is := fun _ _ => False, fr := fun _ => [], own := fun _ => false, exo := fun _ => false, sub := fun _ _ => none, xm := fun _ _ => none }
abbrev S (x : String) : Str := Str.ofString x
abbrev s (x : String) (n : Nat) : Value := .str (Str.ofString x) n
abbrev e (P : Params) (x : String) (n : Nat) (v : Value) : DictEntry := ⟨PyData.keyHash P (Str.ofString x), .str (Str.ofString x) n, v⟩
abbrev f (st : Stmt) (nm qn : String) (g : Addr) (cl : List (Str × Addr)) (v1 v2 v3 v4 : Value) (an : Option Addr) (v5 v6 : Value) (bi : Addr) : FuncData := ⟨Str.ofString nm, Str.ofString qn, L2.defArgs st, .stmts (L2.defBody st), L2.defScope st, g, cl, v1, v2, v3, v4, an, v5, v6, bi⟩
section
open PySem.W
noncomputable def zT (P : Params) : BT := (.node (PySem.W.boot_o_0 P) (.node (PySem.W.boot_o_1 P) (.node (PySem.W.boot_o_3 P) (.node (PySem.W.boot_o_7 P) .nil .nil) .nil) (.node (PySem.W.boot_o_5 P) (.node (PySem.W.boot_o_9 P) .nil .nil) .nil)) (.node (PySem.W.boot_o_2 P) (.node (PySem.W.boot_o_4 P) (.node (PySem.W.boot_o_8 P) .nil .nil) .nil) (.node (PySem.W.boot_o_6 P) (.node (PySem.W.boot_o_10 P) .nil .nil) .nil)))
noncomputable def a11 (P : Params) : Obj := ⟨(.type "tuple"), none, (.seq #[] 0), #[]⟩
noncomputable def a12 (P : Params) : Obj := ⟨.none, none, (.fields #[]), #[]⟩
noncomputable def a13 (P : Params) : Obj := ⟨(.type "code"), none, (.fields #[(s "<module>" 182), (s "<module>" 183), (s "/claim/cut.py" 184), (.int 1 0), (.int 0 0), (.int 0 0), (.int 0 0), (.int 0 0), (.ref 11), (.bool false), (.int 181 0), (.ref 12), .none, .none, .none, .none, (.int 185 0), (.int 1 0), (s "/claim/cut.py" 186)]), #[]⟩
noncomputable def a14 (P : Params) : Obj := ⟨(.type "frame"), none, .plain, #[(some (.ref 13)), (some (.ref 3)), (some (.ref 3)), none, (some (s "__main__" 164)), none, (some (.ref 0))]⟩
noncomputable def aT (P : Params) : BT := (.node (PySem.W.boot_o_0 P) (.node (PySem.W.boot_o_1 P) (.node (PySem.W.boot_o_3 P) (.node (PySem.W.boot_o_7 P) .nil .nil) (.node (a11 P) .nil .nil)) (.node (PySem.W.boot_o_5 P) (.node (PySem.W.boot_o_9 P) .nil .nil) (.node (a13 P) .nil .nil))) (.node (PySem.W.boot_o_2 P) (.node (PySem.W.boot_o_4 P) (.node (PySem.W.boot_o_8 P) .nil .nil) (.node (a12 P) .nil .nil)) (.node (PySem.W.boot_o_6 P) (.node (PySem.W.boot_o_10 P) .nil .nil) (.node (a14 P) .nil .nil))))
noncomputable def aS (w : World) (os : OsState) : SharedT := ⟨aT w.params, 15, { }, #[], {}, 187, os⟩
noncomputable def bT (P : Params) : BT := (.node (PySem.W.boot_o_0 P) (.node (PySem.W.boot_o_1 P) (.node (PySem.W.boot_o_3 P) (.node (PySem.W.boot_o_7 P) .nil .nil) (.node (a11 P) .nil .nil)) (.node (PySem.W.boot_o_5 P) (.node (PySem.W.boot_o_9 P) .nil .nil) (.node (a13 P) .nil .nil))) (.node (PySem.W.boot_o_2 P) (.node (PySem.W.boot_o_4 P) (.node (PySem.W.boot_o_8 P) .nil .nil) (.node (a12 P) .nil .nil)) (.node (PySem.W.boot_o_6 P) (.node (PySem.W.boot_o_10 P) .nil .nil) (.node (a14 P) .nil .nil))))
noncomputable def bS (w : World) (os : OsState) : SharedT := ⟨bT w.params, 15, { }, #[], {}, 187, os⟩
noncomputable def m0_3 (P : Params) : Obj := ⟨(.type "dict"), none, (.dict #[(e P "__name__" 165 (s "law_signferry_k76_streams_of_bytes" 308)), (e P "__doc__" 166 .none), (e P "__package__" 167 .none), (e P "__loader__" 168 (.builtin "__main__.__loader__#opaque")), (e P "__spec__" 169 .none), (e P "__annotations__" 170 (.ref 6)), (e P "__builtins__" 171 (.ref 4)), (e P "__file__" 173 (s "/claim/cut.py" 172)), (e P "__cached__" 174 .none), (e P "SignError" 206 (.ref 24)), (e P "BadPlace" 231 (.ref 44)), (e P "Octets" 307 (.ref 101)), (e P "_law_source" 319 (.ref 112)), (e P "_law_draw" 329 (.ref 119)), (e P "_law_pick" 337 (.ref 126)), (e P "_law_same" 343 (.ref 131)), (e P "_law_handed" 351 (.ref 138)), (e P "_law_from" 360 (.ref 145)), (e P "_law_sought" 370 (.ref 152)), (e P "_law_put" 379 (.ref 159)), (e P "law" 385 (.ref 164))] 21), #[]⟩
noncomputable def m0_12 (P : Params) : Obj := ⟨.none, none, (.fields #[(.int 2 0), (.int 0 0), (.ref 20), (.int 4 0), (.int 0 0), (.ref 33), (.int 9 0), (.int 0 0), (.ref 52), (.int 44 0), (.int 0 0), (.ref 111), (.int 52 0), (.int 0 0), (.ref 118), (.int 60 0), (.int 0 0), (.ref 125), (.int 62 0), (.int 0 0), (.ref 130), (.int 70 0), (.int 0 0), (.ref 137), (.int 72 0), (.int 0 0), (.ref 144), (.int 78 0), (.int 0 0), (.ref 151), (.int 85 0), (.int 0 0), (.ref 158), (.int 90 0), (.int 0 0), (.ref 163)]), #[]⟩
noncomputable def m0_15 (P : Params) : Obj := ⟨(.type "tuple"), none, (.seq #[(.type "ValueError")] 0), #[]⟩
noncomputable def m0_16 (P : Params) : Obj := ⟨(.type "builtin_function_or_method"), none, (.fields #[(.builtin "type.__prepare__"), (.type "type")]), #[]⟩
noncomputable def m0_17 (P : Params) : Obj := ⟨(.type "dict"), none, (.dict #[(e P "__module__" 196 (s "signferry.errors" 187)), (e P "__qualname__" 198 (s "SignError" 197)), (e P "__firstlineno__" 200 (.int 2 199)), (e P "__static_attributes__" 201 (.ref 22))] 4), #[]⟩
noncomputable def m0_18 (P : Params) : Obj := ⟨(.type "tuple"), none, (.seq #[] 0), #[]⟩
noncomputable def m0_19 (P : Params) : Obj := ⟨.none, none, (.fields #[]), #[]⟩
noncomputable def m0_20 (P : Params) : Obj := ⟨(.type "code"), none, (.fields #[(s "SignError" 191), (s "SignError" 192), (s "/claim/cut.py" 193), (.int 2 0), (.int 0 0), (.int 0 0), (.int 0 0), (.int 0 0), (.ref 18), (.bool false), (.int 181 0), (.ref 19), .none, .none, .none, .none, (.int 194 0), (.int 2 0), (s "/claim/cut.py" 195)]), #[]⟩
noncomputable def m0_21 (P : Params) : Obj := ⟨(.type "frame"), none, .plain, #[(some (.ref 20)), (some (.ref 3)), (some (.ref 17)), none, (some (s "signferry.errors" 187)), none, (some (.ref 0))]⟩
noncomputable def m0_22 (P : Params) : Obj := ⟨(.type "tuple"), none, (.seq #[] 0), #[]⟩
noncomputable def m0_23 (P : Params) : Obj := ⟨(.type "dict"), none, (.dict #[(e P "__module__" 196 (s "signferry.errors" 187)), (e P "__firstlineno__" 200 (.int 2 199)), (e P "__static_attributes__" 201 (.ref 22)), (e P "__weakref__" 203 (.ref 25)), (e P "__doc__" 204 .none)] 3), #[]⟩
noncomputable def m0_24 (P : Params) : Obj := ⟨(.type "type"), none, (.cls ⟨(S "SignError"), [(.type "ValueError")], [(.ref 24), (.type "ValueError"), (.type "Exception"), (.type "BaseException"), (.type "object")], 23, (S "SignError"), true, [], [(.ref 44)], false, none, false⟩), #[(some (.ref 15)), none, (some (s "SignError" 189)), (some (s "SignError" 197)), (some (.builtin "ValueError.__new__")), (some (.bool true))]⟩
noncomputable def m0_25 (P : Params) : Obj := ⟨(.type "getset_descriptor"), none, (.fields #[(s "__weakref__" 202), (.ref 24), (.builtin "ExceptionGroup.__weakref__"), .none]), #[]⟩
noncomputable def m0_26 (P : Params) : Obj := ⟨(.type "super"), none, (.fields #[(.ref 24), (.ref 24), (.ref 24)]), #[]⟩
noncomputable def m0_27 (P : Params) : Obj := ⟨(.type "builtin_function_or_method"), none, (.fields #[(.builtin "object.__init_subclass__"), (.ref 24)]), #[]⟩
noncomputable def m0_28 (P : Params) : Obj := ⟨(.type "tuple"), none, (.seq #[(.ref 24)] 0), #[]⟩
noncomputable def m0_29 (P : Params) : Obj := ⟨(.type "builtin_function_or_method"), none, (.fields #[(.builtin "type.__prepare__"), (.type "type")]), #[]⟩
noncomputable def m0_30 (P : Params) : Obj := ⟨(.type "dict"), none, (.dict #[(e P "__module__" 214 (s "signferry.errors" 187)), (e P "__qualname__" 216 (s "BadPlace" 215)), (e P "__firstlineno__" 218 (.int 4 217)), (e P "__init__" 226 (.ref 41)), (e P "__static_attributes__" 228 (.ref 42))] 5), #[]⟩
noncomputable def m0_31 (P : Params) : Obj := ⟨(.type "tuple"), none, (.seq #[] 0), #[]⟩
noncomputable def m0_32 (P : Params) : Obj := ⟨.none, none, (.fields #[(.int 6 0), (.int 4 0), (.ref 40)]), #[]⟩
noncomputable def m0_33 (P : Params) : Obj := ⟨(.type "code"), none, (.fields #[(s "BadPlace" 209), (s "BadPlace" 210), (s "/claim/cut.py" 211), (.int 4 0), (.int 0 0), (.int 0 0), (.int 0 0), (.int 0 0), (.ref 31), (.bool false), (.int 181 0), (.ref 32), .none, .none, .none, .none, (.int 212 0), (.int 4 0), (s "/claim/cut.py" 213)]), #[]⟩
noncomputable def m0_34 (P : Params) : Obj := ⟨(.type "frame"), none, .plain, #[(some (.ref 33)), (some (.ref 3)), (some (.ref 30)), none, (some (s "signferry.errors" 187)), none, (some (.ref 0))]⟩
noncomputable def m0_35 (P : Params) : Obj := ⟨(.type "tuple"), none, (.seq #[] 0), #[]⟩
noncomputable def m0_36 (P : Params) : Obj := ⟨.none, none, (.fields #[]), #[]⟩
noncomputable def m0_37 (P : Params) : Obj := ⟨(.type "tuple"), none, (.seq #[(s "self" 222), (s "place" 223)] 0), #[]⟩
noncomputable def m0_38 (P : Params) : Obj := ⟨(.type "tuple"), none, (.seq #[] 0), #[]⟩
noncomputable def m0_39 (P : Params) : Obj := ⟨.none, none, (.func (f (mth 2 0) "__init__" "BadPlace.__init__" 0 [] .none .none .none .none none .none .none 0)), #[]⟩
noncomputable def m0_40 (P : Params) : Obj := ⟨(.type "code"), none, (.fields #[(s "__init__" 219), (s "BadPlace.__init__" 220), (s "/claim/cut.py" 221), (.int 6 0), (.int 2 0), (.int 0 0), (.int 0 0), (.int 3 0), (.ref 35), (.bool true), (.int 181 0), (.ref 36), .none, (.ref 37), (.ref 38), (.ref 39), (.int 224 0), (.int 6 0), (s "/claim/cut.py" 225)]), #[]⟩
noncomputable def m0_41 (P : Params) : Obj := ⟨(.type "function"), none, (.func (f (mth 2 0) "__init__" "BadPlace.__init__" 3 [] .none .none .none (s "signferry.errors" 187) none (.ref 40) .none 0)), #[]⟩
noncomputable def m0_42 (P : Params) : Obj := ⟨(.type "tuple"), none, (.seq #[(s "place" 227)] 0), #[]⟩
noncomputable def m0_43 (P : Params) : Obj := ⟨(.type "dict"), none, (.dict #[(e P "__module__" 214 (s "signferry.errors" 187)), (e P "__firstlineno__" 218 (.int 4 217)), (e P "__init__" 226 (.ref 41)), (e P "__static_attributes__" 228 (.ref 42)), (e P "__doc__" 229 .none)] 2), #[]⟩
noncomputable def m0_44 (P : Params) : Obj := ⟨(.type "type"), none, (.cls ⟨(S "BadPlace"), [(.ref 24)], [(.ref 44), (.ref 24), (.type "ValueError"), (.type "Exception"), (.type "BaseException"), (.type "object")], 43, (S "BadPlace"), true, [], [], false, none, false⟩), #[(some (.ref 28)), none, (some (s "BadPlace" 207)), (some (s "BadPlace" 215)), (some (.builtin "ValueError.__new__")), (some (.bool true))]⟩
noncomputable def m0_45 (P : Params) : Obj := ⟨(.type "super"), none, (.fields #[(.ref 44), (.ref 44), (.ref 44)]), #[]⟩
noncomputable def m0_46 (P : Params) : Obj := ⟨(.type "builtin_function_or_method"), none, (.fields #[(.builtin "object.__init_subclass__"), (.ref 44)]), #[]⟩
noncomputable def m0_47 (P : Params) : Obj := ⟨(.type "tuple"), none, (.seq #[] 0), #[]⟩
noncomputable def m0_48 (P : Params) : Obj := ⟨(.type "builtin_function_or_method"), none, (.fields #[(.builtin "type.__prepare__"), (.type "type")]), #[]⟩
noncomputable def m0_49 (P : Params) : Obj := ⟨(.type "dict"), none, (.dict #[(e P "__module__" 241 (s "signferry.streams" 232)), (e P "__qualname__" 243 (s "Octets" 242)), (e P "__firstlineno__" 245 (.int 9 244)), (e P "__init__" 254 (.ref 62)), (e P "read" 265 (.ref 70)), (e P "write" 274 (.ref 77)), (e P "seek" 282 (.ref 84)), (e P "tell" 289 (.ref 91)), (e P "content" 296 (.ref 98)), (e P "__static_attributes__" 300 (.ref 99))] 10), #[]⟩
noncomputable def m0_50 (P : Params) : Obj := ⟨(.type "tuple"), none, (.seq #[] 0), #[]⟩
noncomputable def m0_51 (P : Params) : Obj := ⟨.none, none, (.fields #[(.int 11 0), (.int 4 0), (.ref 61), (.int 16 0), (.int 4 0), (.ref 69), (.int 25 0), (.int 4 0), (.ref 76), (.int 33 0), (.int 4 0), (.ref 83), (.int 38 0), (.int 4 0), (.ref 90), (.int 41 0), (.int 4 0), (.ref 97)]), #[]⟩
noncomputable def m0_52 (P : Params) : Obj := ⟨(.type "code"), none, (.fields #[(s "Octets" 236), (s "Octets" 237), (s "/claim/cut.py" 238), (.int 9 0), (.int 0 0), (.int 0 0), (.int 0 0), (.int 0 0), (.ref 50), (.bool false), (.int 181 0), (.ref 51), .none, .none, .none, .none, (.int 239 0), (.int 9 0), (s "/claim/cut.py" 240)]), #[]⟩
noncomputable def m0_53 (P : Params) : Obj := ⟨(.type "frame"), none, .plain, #[(some (.ref 52)), (some (.ref 3)), (some (.ref 49)), none, (some (s "signferry.streams" 232)), none, (some (.ref 0))]⟩
noncomputable def m0_54 (P : Params) : Obj := ⟨(.type "tuple"), none, (.seq #[] 0), #[]⟩
noncomputable def m0_55 (P : Params) : Obj := ⟨(.type "tuple"), none, (.seq #[(.ref 54), .none] 0), #[]⟩
noncomputable def m0_56 (P : Params) : Obj := ⟨(.type "tuple"), none, (.seq #[] 0), #[]⟩
noncomputable def m0_57 (P : Params) : Obj := ⟨.none, none, (.fields #[]), #[]⟩
noncomputable def m0_58 (P : Params) : Obj := ⟨(.type "tuple"), none, (.seq #[(s "self" 249), (s "data" 250), (s "most" 251)] 0), #[]⟩
noncomputable def m0_59 (P : Params) : Obj := ⟨(.type "tuple"), none, (.seq #[] 0), #[]⟩
noncomputable def m0_60 (P : Params) : Obj := ⟨.none, none, (.func (f (mth 4 0) "__init__" "Octets.__init__" 0 [] .none .none .none .none none .none .none 0)), #[]⟩
noncomputable def m0_61 (P : Params) : Obj := ⟨(.type "code"), none, (.fields #[(s "__init__" 246), (s "Octets.__init__" 247), (s "/claim/cut.py" 248), (.int 11 0), (.int 3 0), (.int 0 0), (.int 0 0), (.int 3 0), (.ref 56), (.bool true), (.int 181 0), (.ref 57), .none, (.ref 58), (.ref 59), (.ref 60), (.int 252 0), (.int 11 0), (s "/claim/cut.py" 253)]), #[]⟩
noncomputable def m0_62 (P : Params) : Obj := ⟨(.type "function"), none, (.func (f (mth 4 0) "__init__" "Octets.__init__" 3 [] (.ref 55) .none .none (s "signferry.streams" 232) none (.ref 61) .none 0)), #[]⟩
noncomputable def m0_63 (P : Params) : Obj := ⟨(.type "tuple"), none, (.seq #[(.int (-1) 256)] 0), #[]⟩
noncomputable def m0_64 (P : Params) : Obj := ⟨(.type "tuple"), none, (.seq #[] 0), #[]⟩
noncomputable def m0_65 (P : Params) : Obj := ⟨.none, none, (.fields #[]), #[]⟩
noncomputable def m0_66 (P : Params) : Obj := ⟨(.type "tuple"), none, (.seq #[(s "self" 260), (s "size" 261), (s "found" 262)] 0), #[]⟩
noncomputable def m0_67 (P : Params) : Obj := ⟨(.type "tuple"), none, (.seq #[] 0), #[]⟩
noncomputable def m0_68 (P : Params) : Obj := ⟨.none, none, (.func (f (mth 4 1) "read" "Octets.read" 0 [] .none .none .none .none none .none .none 0)), #[]⟩
noncomputable def m0_69 (P : Params) : Obj := ⟨(.type "code"), none, (.fields #[(s "read" 257), (s "Octets.read" 258), (s "/claim/cut.py" 259), (.int 16 0), (.int 2 0), (.int 0 0), (.int 0 0), (.int 3 0), (.ref 64), (.bool true), (.int 181 0), (.ref 65), .none, (.ref 66), (.ref 67), (.ref 68), (.int 263 0), (.int 16 0), (s "/claim/cut.py" 264)]), #[]⟩
noncomputable def m0_70 (P : Params) : Obj := ⟨(.type "function"), none, (.func (f (mth 4 1) "read" "Octets.read" 3 [] (.ref 63) .none .none (s "signferry.streams" 232) none (.ref 69) .none 0)), #[]⟩
noncomputable def m0_71 (P : Params) : Obj := ⟨(.type "tuple"), none, (.seq #[] 0), #[]⟩
noncomputable def m0_72 (P : Params) : Obj := ⟨.none, none, (.fields #[]), #[]⟩
noncomputable def m0_73 (P : Params) : Obj := ⟨(.type "tuple"), none, (.seq #[(s "self" 269), (s "data" 270), (s "many" 271)] 0), #[]⟩
noncomputable def m0_74 (P : Params) : Obj := ⟨(.type "tuple"), none, (.seq #[] 0), #[]⟩
noncomputable def m0_75 (P : Params) : Obj := ⟨.none, none, (.func (f (mth 4 2) "write" "Octets.write" 0 [] .none .none .none .none none .none .none 0)), #[]⟩
noncomputable def m0_76 (P : Params) : Obj := ⟨(.type "code"), none, (.fields #[(s "write" 266), (s "Octets.write" 267), (s "/claim/cut.py" 268), (.int 25 0), (.int 2 0), (.int 0 0), (.int 0 0), (.int 3 0), (.ref 71), (.bool true), (.int 181 0), (.ref 72), .none, (.ref 73), (.ref 74), (.ref 75), (.int 272 0), (.int 25 0), (s "/claim/cut.py" 273)]), #[]⟩
noncomputable def m0_77 (P : Params) : Obj := ⟨(.type "function"), none, (.func (f (mth 4 2) "write" "Octets.write" 3 [] .none .none .none (s "signferry.streams" 232) none (.ref 76) .none 0)), #[]⟩
noncomputable def m0_78 (P : Params) : Obj := ⟨(.type "tuple"), none, (.seq #[] 0), #[]⟩
noncomputable def m0_79 (P : Params) : Obj := ⟨.none, none, (.fields #[]), #[]⟩
noncomputable def m0_80 (P : Params) : Obj := ⟨(.type "tuple"), none, (.seq #[(s "self" 278), (s "place" 279)] 0), #[]⟩
noncomputable def m0_81 (P : Params) : Obj := ⟨(.type "tuple"), none, (.seq #[] 0), #[]⟩
noncomputable def m0_82 (P : Params) : Obj := ⟨.none, none, (.func (f (mth 4 3) "seek" "Octets.seek" 0 [] .none .none .none .none none .none .none 0)), #[]⟩
noncomputable def m0_83 (P : Params) : Obj := ⟨(.type "code"), none, (.fields #[(s "seek" 275), (s "Octets.seek" 276), (s "/claim/cut.py" 277), (.int 33 0), (.int 2 0), (.int 0 0), (.int 0 0), (.int 3 0), (.ref 78), (.bool true), (.int 181 0), (.ref 79), .none, (.ref 80), (.ref 81), (.ref 82), (.int 280 0), (.int 33 0), (s "/claim/cut.py" 281)]), #[]⟩
noncomputable def m0_84 (P : Params) : Obj := ⟨(.type "function"), none, (.func (f (mth 4 3) "seek" "Octets.seek" 3 [] .none .none .none (s "signferry.streams" 232) none (.ref 83) .none 0)), #[]⟩
noncomputable def m0_85 (P : Params) : Obj := ⟨(.type "tuple"), none, (.seq #[] 0), #[]⟩
noncomputable def m0_86 (P : Params) : Obj := ⟨.none, none, (.fields #[]), #[]⟩
noncomputable def m0_87 (P : Params) : Obj := ⟨(.type "tuple"), none, (.seq #[(s "self" 286)] 0), #[]⟩
noncomputable def m0_88 (P : Params) : Obj := ⟨(.type "tuple"), none, (.seq #[] 0), #[]⟩
noncomputable def m0_89 (P : Params) : Obj := ⟨.none, none, (.func (f (mth 4 4) "tell" "Octets.tell" 0 [] .none .none .none .none none .none .none 0)), #[]⟩
noncomputable def m0_90 (P : Params) : Obj := ⟨(.type "code"), none, (.fields #[(s "tell" 283), (s "Octets.tell" 284), (s "/claim/cut.py" 285), (.int 38 0), (.int 1 0), (.int 0 0), (.int 0 0), (.int 3 0), (.ref 85), (.bool true), (.int 181 0), (.ref 86), .none, (.ref 87), (.ref 88), (.ref 89), (.int 287 0), (.int 38 0), (s "/claim/cut.py" 288)]), #[]⟩
noncomputable def m0_91 (P : Params) : Obj := ⟨(.type "function"), none, (.func (f (mth 4 4) "tell" "Octets.tell" 3 [] .none .none .none (s "signferry.streams" 232) none (.ref 90) .none 0)), #[]⟩
noncomputable def m0_92 (P : Params) : Obj := ⟨(.type "tuple"), none, (.seq #[] 0), #[]⟩
noncomputable def m0_93 (P : Params) : Obj := ⟨.none, none, (.fields #[]), #[]⟩
noncomputable def m0_94 (P : Params) : Obj := ⟨(.type "tuple"), none, (.seq #[(s "self" 293)] 0), #[]⟩
noncomputable def m0_95 (P : Params) : Obj := ⟨(.type "tuple"), none, (.seq #[] 0), #[]⟩
noncomputable def m0_96 (P : Params) : Obj := ⟨.none, none, (.func (f (mth 4 5) "content" "Octets.content" 0 [] .none .none .none .none none .none .none 0)), #[]⟩
noncomputable def m0_97 (P : Params) : Obj := ⟨(.type "code"), none, (.fields #[(s "content" 290), (s "Octets.content" 291), (s "/claim/cut.py" 292), (.int 41 0), (.int 1 0), (.int 0 0), (.int 0 0), (.int 3 0), (.ref 92), (.bool true), (.int 181 0), (.ref 93), .none, (.ref 94), (.ref 95), (.ref 96), (.int 294 0), (.int 41 0), (s "/claim/cut.py" 295)]), #[]⟩
noncomputable def m0_98 (P : Params) : Obj := ⟨(.type "function"), none, (.func (f (mth 4 5) "content" "Octets.content" 3 [] .none .none .none (s "signferry.streams" 232) none (.ref 97) .none 0)), #[]⟩
noncomputable def m0_99 (P : Params) : Obj := ⟨(.type "tuple"), none, (.seq #[(s "most" 297), (s "octets" 298), (s "place" 299)] 0), #[]⟩
noncomputable def m0_100 (P : Params) : Obj := ⟨(.type "dict"), none, (.dict #[(e P "__module__" 241 (s "signferry.streams" 232)), (e P "__firstlineno__" 245 (.int 9 244)), (e P "__init__" 254 (.ref 62)), (e P "read" 265 (.ref 70)), (e P "write" 274 (.ref 77)), (e P "seek" 282 (.ref 84)), (e P "tell" 289 (.ref 91)), (e P "content" 296 (.ref 98)), (e P "__static_attributes__" 300 (.ref 99)), (e P "__dict__" 302 (.ref 102)), (e P "__weakref__" 304 (.ref 103)), (e P "__doc__" 305 .none)] 4), #[]⟩
noncomputable def m0_101 (P : Params) : Obj := ⟨(.type "type"), none, (.cls ⟨(S "Octets"), [(.type "object")], [(.ref 101), (.type "object")], 100, (S "Octets"), true, [], [], false, none, false⟩), #[none, none, (some (s "Octets" 234)), (some (s "Octets" 242)), (some (.builtin "object.__new__")), (some (.bool true))]⟩
noncomputable def m0_102 (P : Params) : Obj := ⟨(.type "getset_descriptor"), none, (.fields #[(s "__dict__" 301), (.ref 101), (.builtin "function.__dict__"), (.builtin "function.__dict__#set")]), #[]⟩
noncomputable def m0_103 (P : Params) : Obj := ⟨(.type "getset_descriptor"), none, (.fields #[(s "__weakref__" 303), (.ref 101), (.builtin "ExceptionGroup.__weakref__"), .none]), #[]⟩
noncomputable def m0_104 (P : Params) : Obj := ⟨(.type "super"), none, (.fields #[(.ref 101), (.ref 101), (.ref 101)]), #[]⟩
noncomputable def m0_105 (P : Params) : Obj := ⟨(.type "builtin_function_or_method"), none, (.fields #[(.builtin "object.__init_subclass__"), (.ref 101)]), #[]⟩
noncomputable def m0_106 (P : Params) : Obj := ⟨(.type "tuple"), none, (.seq #[] 0), #[]⟩
noncomputable def m0_107 (P : Params) : Obj := ⟨.none, none, (.fields #[]), #[]⟩
noncomputable def m0_108 (P : Params) : Obj := ⟨(.type "tuple"), none, (.seq #[(s "_law_script" 313), (s "_law_k" 314), (s "_law_cell" 315), (s "_law_deep" 316)] 0), #[]⟩
noncomputable def m0_109 (P : Params) : Obj := ⟨(.type "tuple"), none, (.seq #[] 0), #[]⟩
noncomputable def m0_110 (P : Params) : Obj := ⟨.none, none, (.func (f (top 6) "_law_source" "_law_source" 0 [] .none .none .none .none none .none .none 0)), #[]⟩
noncomputable def m0_111 (P : Params) : Obj := ⟨(.type "code"), none, (.fields #[(s "_law_source" 310), (s "_law_source" 311), (s "/claim/cut.py" 312), (.int 44 0), (.int 2 0), (.int 0 0), (.int 0 0), (.int 3 0), (.ref 106), (.bool true), (.int 181 0), (.ref 107), .none, (.ref 108), (.ref 109), (.ref 110), (.int 317 0), (.int 44 0), (s "/claim/cut.py" 318)]), #[]⟩
noncomputable def m0_112 (P : Params) : Obj := ⟨(.type "function"), none, (.func (f (top 6) "_law_source" "_law_source" 3 [] .none .none .none (s "law_signferry_k76_streams_of_bytes" 308) none (.ref 111) .none 0)), #[]⟩
noncomputable def m0_113 (P : Params) : Obj := ⟨(.type "tuple"), none, (.seq #[] 0), #[]⟩
noncomputable def m0_114 (P : Params) : Obj := ⟨.none, none, (.fields #[]), #[]⟩
noncomputable def m0_115 (P : Params) : Obj := ⟨(.type "tuple"), none, (.seq #[(s "_law_draws" 323), (s "_law_many" 324), (s "_law_digit" 325), (s "_law_seed" 326)] 0), #[]⟩
noncomputable def m0_116 (P : Params) : Obj := ⟨(.type "tuple"), none, (.seq #[] 0), #[]⟩
noncomputable def m0_117 (P : Params) : Obj := ⟨.none, none, (.func (f (top 7) "_law_draw" "_law_draw" 0 [] .none .none .none .none none .none .none 0)), #[]⟩
noncomputable def m0_118 (P : Params) : Obj := ⟨(.type "code"), none, (.fields #[(s "_law_draw" 320), (s "_law_draw" 321), (s "/claim/cut.py" 322), (.int 52 0), (.int 2 0), (.int 0 0), (.int 0 0), (.int 3 0), (.ref 113), (.bool true), (.int 181 0), (.ref 114), .none, (.ref 115), (.ref 116), (.ref 117), (.int 327 0), (.int 52 0), (s "/claim/cut.py" 328)]), #[]⟩
noncomputable def m0_119 (P : Params) : Obj := ⟨(.type "function"), none, (.func (f (top 7) "_law_draw" "_law_draw" 3 [] .none .none .none (s "law_signferry_k76_streams_of_bytes" 308) none (.ref 118) .none 0)), #[]⟩
noncomputable def m0_120 (P : Params) : Obj := ⟨(.type "tuple"), none, (.seq #[] 0), #[]⟩
noncomputable def m0_121 (P : Params) : Obj := ⟨.none, none, (.fields #[]), #[]⟩
noncomputable def m0_122 (P : Params) : Obj := ⟨(.type "tuple"), none, (.seq #[(s "_law_draws" 333), (s "_law_some" 334)] 0), #[]⟩
noncomputable def m0_123 (P : Params) : Obj := ⟨(.type "tuple"), none, (.seq #[] 0), #[]⟩
noncomputable def m0_124 (P : Params) : Obj := ⟨.none, none, (.func (f (top 8) "_law_pick" "_law_pick" 0 [] .none .none .none .none none .none .none 0)), #[]⟩
noncomputable def m0_125 (P : Params) : Obj := ⟨(.type "code"), none, (.fields #[(s "_law_pick" 330), (s "_law_pick" 331), (s "/claim/cut.py" 332), (.int 60 0), (.int 2 0), (.int 0 0), (.int 0 0), (.int 3 0), (.ref 120), (.bool true), (.int 181 0), (.ref 121), .none, (.ref 122), (.ref 123), (.ref 124), (.int 335 0), (.int 60 0), (s "/claim/cut.py" 336)]), #[]⟩
noncomputable def m0_126 (P : Params) : Obj := ⟨(.type "function"), none, (.func (f (top 8) "_law_pick" "_law_pick" 3 [] .none .none .none (s "law_signferry_k76_streams_of_bytes" 308) none (.ref 125) .none 0)), #[]⟩
noncomputable def m0_127 (P : Params) : Obj := ⟨(.type "tuple"), none, (.seq #[] 0), #[]⟩
noncomputable def m0_128 (P : Params) : Obj := ⟨.none, none, (.fields #[]), #[]⟩
noncomputable def m0_129 (P : Params) : Obj := ⟨.none, none, (.func (f (top 9) "_law_same" "_law_same" 0 [] .none .none .none .none none .none .none 0)), #[]⟩
noncomputable def m0_130 (P : Params) : Obj := ⟨(.type "code"), none, (.fields #[(s "_law_same" 338), (s "_law_same" 339), (s "/claim/cut.py" 340), (.int 62 0), (.int 2 0), (.int 0 0), (.int 0 0), (.int 3 0), (.ref 127), (.bool true), (.int 181 0), (.ref 128), .none, .none, .none, (.ref 129), (.int 341 0), (.int 62 0), (s "/claim/cut.py" 342)]), #[]⟩
noncomputable def m0_131 (P : Params) : Obj := ⟨(.type "function"), none, (.func (f (top 9) "_law_same" "_law_same" 3 [] .none .none .none (s "law_signferry_k76_streams_of_bytes" 308) none (.ref 130) .none 0)), #[]⟩
noncomputable def m0_132 (P : Params) : Obj := ⟨(.type "tuple"), none, (.seq #[] 0), #[]⟩
noncomputable def m0_133 (P : Params) : Obj := ⟨.none, none, (.fields #[]), #[]⟩
noncomputable def m0_134 (P : Params) : Obj := ⟨(.type "tuple"), none, (.seq #[(s "_law_draws" 347), (s "_law_codes" 348)] 0), #[]⟩
noncomputable def m0_135 (P : Params) : Obj := ⟨(.type "tuple"), none, (.seq #[] 0), #[]⟩
noncomputable def m0_136 (P : Params) : Obj := ⟨.none, none, (.func (f (top 10) "_law_handed" "_law_handed" 0 [] .none .none .none .none none .none .none 0)), #[]⟩
noncomputable def m0_137 (P : Params) : Obj := ⟨(.type "code"), none, (.fields #[(s "_law_handed" 344), (s "_law_handed" 345), (s "/claim/cut.py" 346), (.int 70 0), (.int 2 0), (.int 0 0), (.int 0 0), (.int 3 0), (.ref 132), (.bool true), (.int 181 0), (.ref 133), .none, (.ref 134), (.ref 135), (.ref 136), (.int 349 0), (.int 70 0), (s "/claim/cut.py" 350)]), #[]⟩
noncomputable def m0_138 (P : Params) : Obj := ⟨(.type "function"), none, (.func (f (top 10) "_law_handed" "_law_handed" 3 [] .none .none .none (s "law_signferry_k76_streams_of_bytes" 308) none (.ref 137) .none 0)), #[]⟩
noncomputable def m0_139 (P : Params) : Obj := ⟨(.type "tuple"), none, (.seq #[] 0), #[]⟩
noncomputable def m0_140 (P : Params) : Obj := ⟨.none, none, (.fields #[]), #[]⟩
noncomputable def m0_141 (P : Params) : Obj := ⟨(.type "tuple"), none, (.seq #[(s "_law_stream" 355), (s "_law_size" 356), (s "_law_found" 357)] 0), #[]⟩
noncomputable def m0_142 (P : Params) : Obj := ⟨(.type "tuple"), none, (.seq #[] 0), #[]⟩
noncomputable def m0_143 (P : Params) : Obj := ⟨.none, none, (.func (f (top 11) "_law_from" "_law_from" 0 [] .none .none .none .none none .none .none 0)), #[]⟩
noncomputable def m0_144 (P : Params) : Obj := ⟨(.type "code"), none, (.fields #[(s "_law_from" 352), (s "_law_from" 353), (s "/claim/cut.py" 354), (.int 72 0), (.int 2 0), (.int 0 0), (.int 0 0), (.int 3 0), (.ref 139), (.bool true), (.int 181 0), (.ref 140), .none, (.ref 141), (.ref 142), (.ref 143), (.int 358 0), (.int 72 0), (s "/claim/cut.py" 359)]), #[]⟩
noncomputable def m0_145 (P : Params) : Obj := ⟨(.type "function"), none, (.func (f (top 11) "_law_from" "_law_from" 3 [] .none .none .none (s "law_signferry_k76_streams_of_bytes" 308) none (.ref 144) .none 0)), #[]⟩
noncomputable def m0_146 (P : Params) : Obj := ⟨(.type "tuple"), none, (.seq #[] 0), #[]⟩
noncomputable def m0_147 (P : Params) : Obj := ⟨.none, none, (.fields #[]), #[]⟩
noncomputable def m0_148 (P : Params) : Obj := ⟨(.type "tuple"), none, (.seq #[(s "_law_stream" 364), (s "_law_place" 365), (s "_law_found" 366), (s "e" 367)] 0), #[]⟩
noncomputable def m0_149 (P : Params) : Obj := ⟨(.type "tuple"), none, (.seq #[] 0), #[]⟩
noncomputable def m0_150 (P : Params) : Obj := ⟨.none, none, (.func (f (top 12) "_law_sought" "_law_sought" 0 [] .none .none .none .none none .none .none 0)), #[]⟩
noncomputable def m0_151 (P : Params) : Obj := ⟨(.type "code"), none, (.fields #[(s "_law_sought" 361), (s "_law_sought" 362), (s "/claim/cut.py" 363), (.int 78 0), (.int 2 0), (.int 0 0), (.int 0 0), (.int 3 0), (.ref 146), (.bool true), (.int 181 0), (.ref 147), .none, (.ref 148), (.ref 149), (.ref 150), (.int 368 0), (.int 78 0), (s "/claim/cut.py" 369)]), #[]⟩
noncomputable def m0_152 (P : Params) : Obj := ⟨(.type "function"), none, (.func (f (top 12) "_law_sought" "_law_sought" 3 [] .none .none .none (s "law_signferry_k76_streams_of_bytes" 308) none (.ref 151) .none 0)), #[]⟩
noncomputable def m0_153 (P : Params) : Obj := ⟨(.type "tuple"), none, (.seq #[] 0), #[]⟩
noncomputable def m0_154 (P : Params) : Obj := ⟨.none, none, (.fields #[]), #[]⟩
noncomputable def m0_155 (P : Params) : Obj := ⟨(.type "tuple"), none, (.seq #[(s "_law_m" 374), (s "_law_row" 375), (s "_law_at" 376)] 0), #[]⟩
noncomputable def m0_156 (P : Params) : Obj := ⟨(.type "tuple"), none, (.seq #[] 0), #[]⟩
noncomputable def m0_157 (P : Params) : Obj := ⟨.none, none, (.func (f (top 13) "_law_put" "_law_put" 0 [] .none .none .none .none none .none .none 0)), #[]⟩
noncomputable def m0_158 (P : Params) : Obj := ⟨(.type "code"), none, (.fields #[(s "_law_put" 371), (s "_law_put" 372), (s "/claim/cut.py" 373), (.int 85 0), (.int 2 0), (.int 0 0), (.int 0 0), (.int 3 0), (.ref 153), (.bool true), (.int 181 0), (.ref 154), .none, (.ref 155), (.ref 156), (.ref 157), (.int 377 0), (.int 85 0), (s "/claim/cut.py" 378)]), #[]⟩
noncomputable def m0_159 (P : Params) : Obj := ⟨(.type "function"), none, (.func (f (top 13) "_law_put" "_law_put" 3 [] .none .none .none (s "law_signferry_k76_streams_of_bytes" 308) none (.ref 158) .none 0)), #[]⟩
noncomputable def m0_160 (P : Params) : Obj := ⟨(.type "tuple"), none, (.seq #[] 0), #[]⟩
noncomputable def m0_161 (P : Params) : Obj := ⟨.none, none, (.fields #[]), #[]⟩
noncomputable def m0_162 (P : Params) : Obj := ⟨.none, none, (.func (f (top 14) "law" "law" 0 [] .none .none .none .none none .none .none 0)), #[]⟩
noncomputable def m0_163 (P : Params) : Obj := ⟨(.type "code"), none, (.fields #[(s "law" 380), (s "law" 381), (s "/claim/cut.py" 382), (.int 90 0), (.int 1 0), (.int 0 0), (.int 0 0), (.int 3 0), (.ref 160), (.bool true), (.int 181 0), (.ref 161), .none, .none, .none, (.ref 162), (.int 383 0), (.int 90 0), (s "/claim/cut.py" 384)]), #[]⟩
noncomputable def m0_164 (P : Params) : Obj := ⟨(.type "function"), none, (.func (f (top 14) "law" "law" 3 [] .none .none .none (s "law_signferry_k76_streams_of_bytes" 308) none (.ref 163) .none 0)), #[]⟩
noncomputable def m0_T (P : Params) : BT := (.node (PySem.W.boot_o_0 P) (.node (PySem.W.boot_o_1 P) (.node (m0_3 P) (.node (PySem.W.boot_o_7 P) (.node (m0_15 P) (.node (m0_31 P) (.node (m0_63 P) (.node (m0_127 P) .nil .nil) .nil) (.node (m0_95 P) (.node (m0_159 P) .nil .nil) .nil)) (.node (m0_47 P) (.node (m0_79 P) (.node (m0_143 P) .nil .nil) .nil) (.node (m0_111 P) .nil .nil))) (.node (m0_23 P) (.node (m0_39 P) (.node (m0_71 P) (.node (m0_135 P) .nil .nil) .nil) (.node (m0_103 P) .nil .nil)) (.node (m0_55 P) (.node (m0_87 P) (.node (m0_151 P) .nil .nil) .nil) (.node (m0_119 P) .nil .nil)))) (.node (a11 P) (.node (m0_19 P) (.node (m0_35 P) (.node (m0_67 P) (.node (m0_131 P) .nil .nil) .nil) (.node (m0_99 P) (.node (m0_163 P) .nil .nil) .nil)) (.node (m0_51 P) (.node (m0_83 P) (.node (m0_147 P) .nil .nil) .nil) (.node (m0_115 P) .nil .nil))) (.node (m0_27 P) (.node (m0_43 P) (.node (m0_75 P) (.node (m0_139 P) .nil .nil) .nil) (.node (m0_107 P) .nil .nil)) (.node (m0_59 P) (.node (m0_91 P) (.node (m0_155 P) .nil .nil) .nil) (.node (m0_123 P) .nil .nil))))) (.node (PySem.W.boot_o_5 P) (.node (PySem.W.boot_o_9 P) (.node (m0_17 P) (.node (m0_33 P) (.node (m0_65 P) (.node (m0_129 P) .nil .nil) .nil) (.node (m0_97 P) (.node (m0_161 P) .nil .nil) .nil)) (.node (m0_49 P) (.node (m0_81 P) (.node (m0_145 P) .nil .nil) .nil) (.node (m0_113 P) .nil .nil))) (.node (m0_25 P) (.node (m0_41 P) (.node (m0_73 P) (.node (m0_137 P) .nil .nil) .nil) (.node (m0_105 P) .nil .nil)) (.node (m0_57 P) (.node (m0_89 P) (.node (m0_153 P) .nil .nil) .nil) (.node (m0_121 P) .nil .nil)))) (.node (a13 P) (.node (m0_21 P) (.node (m0_37 P) (.node (m0_69 P) (.node (m0_133 P) .nil .nil) .nil) (.node (m0_101 P) .nil .nil)) (.node (m0_53 P) (.node (m0_85 P) (.node (m0_149 P) .nil .nil) .nil) (.node (m0_117 P) .nil .nil))) (.node (m0_29 P) (.node (m0_45 P) (.node (m0_77 P) (.node (m0_141 P) .nil .nil) .nil) (.node (m0_109 P) .nil .nil)) (.node (m0_61 P) (.node (m0_93 P) (.node (m0_157 P) .nil .nil) .nil) (.node (m0_125 P) .nil .nil)))))) (.node (PySem.W.boot_o_2 P) (.node (PySem.W.boot_o_4 P) (.node (PySem.W.boot_o_8 P) (.node (m0_16 P) (.node (m0_32 P) (.node (m0_64 P) (.node (m0_128 P) .nil .nil) .nil) (.node (m0_96 P) (.node (m0_160 P) .nil .nil) .nil)) (.node (m0_48 P) (.node (m0_80 P) (.node (m0_144 P) .nil .nil) .nil) (.node (m0_112 P) .nil .nil))) (.node (m0_24 P) (.node (m0_40 P) (.node (m0_72 P) (.node (m0_136 P) .nil .nil) .nil) (.node (m0_104 P) .nil .nil)) (.node (m0_56 P) (.node (m0_88 P) (.node (m0_152 P) .nil .nil) .nil) (.node (m0_120 P) .nil .nil)))) (.node (m0_12 P) (.node (m0_20 P) (.node (m0_36 P) (.node (m0_68 P) (.node (m0_132 P) .nil .nil) .nil) (.node (m0_100 P) (.node (m0_164 P) .nil .nil) .nil)) (.node (m0_52 P) (.node (m0_84 P) (.node (m0_148 P) .nil .nil) .nil) (.node (m0_116 P) .nil .nil))) (.node (m0_28 P) (.node (m0_44 P) (.node (m0_76 P) (.node (m0_140 P) .nil .nil) .nil) (.node (m0_108 P) .nil .nil)) (.node (m0_60 P) (.node (m0_92 P) (.node (m0_156 P) .nil .nil) .nil) (.node (m0_124 P) .nil .nil))))) (.node (PySem.W.boot_o_6 P) (.node (PySem.W.boot_o_10 P) (.node (m0_18 P) (.node (m0_34 P) (.node (m0_66 P) (.node (m0_130 P) .nil .nil) .nil) (.node (m0_98 P) (.node (m0_162 P) .nil .nil) .nil)) (.node (m0_50 P) (.node (m0_82 P) (.node (m0_146 P) .nil .nil) .nil) (.node (m0_114 P) .nil .nil))) (.node (m0_26 P) (.node (m0_42 P) (.node (m0_74 P) (.node (m0_138 P) .nil .nil) .nil) (.node (m0_106 P) .nil .nil)) (.node (m0_58 P) (.node (m0_90 P) (.node (m0_154 P) .nil .nil) .nil) (.node (m0_122 P) .nil .nil)))) (.node (a14 P) (.node (m0_22 P) (.node (m0_38 P) (.node (m0_70 P) (.node (m0_134 P) .nil .nil) .nil) (.node (m0_102 P) .nil .nil)) (.node (m0_54 P) (.node (m0_86 P) (.node (m0_150 P) .nil .nil) .nil) (.node (m0_118 P) .nil .nil))) (.node (m0_30 P) (.node (m0_46 P) (.node (m0_78 P) (.node (m0_142 P) .nil .nil) .nil) (.node (m0_110 P) .nil .nil)) (.node (m0_62 P) (.node (m0_94 P) (.node (m0_158 P) .nil .nil) .nil) (.node (m0_126 P) .nil .nil)))))))
noncomputable def m0_S (w : World) (os : OsState) : SharedT := ⟨m0_T w.params, 165, { }, #[], {}, 386, os⟩
noncomputable def fT (P : Params) : BT := (.node (PySem.W.boot_o_0 P) (.node (PySem.W.boot_o_1 P) (.node (m0_3 P) (.node (PySem.W.boot_o_7 P) (.node (m0_15 P) (.node (m0_31 P) (.node (m0_63 P) (.node (m0_127 P) .nil .nil) .nil) (.node (m0_95 P) (.node (m0_159 P) .nil .nil) .nil)) (.node (m0_47 P) (.node (m0_79 P) (.node (m0_143 P) .nil .nil) .nil) (.node (m0_111 P) .nil .nil))) (.node (m0_23 P) (.node (m0_39 P) (.node (m0_71 P) (.node (m0_135 P) .nil .nil) .nil) (.node (m0_103 P) .nil .nil)) (.node (m0_55 P) (.node (m0_87 P) (.node (m0_151 P) .nil .nil) .nil) (.node (m0_119 P) .nil .nil)))) (.node (a11 P) (.node (m0_19 P) (.node (m0_35 P) (.node (m0_67 P) (.node (m0_131 P) .nil .nil) .nil) (.node (m0_99 P) (.node (m0_163 P) .nil .nil) .nil)) (.node (m0_51 P) (.node (m0_83 P) (.node (m0_147 P) .nil .nil) .nil) (.node (m0_115 P) .nil .nil))) (.node (m0_27 P) (.node (m0_43 P) (.node (m0_75 P) (.node (m0_139 P) .nil .nil) .nil) (.node (m0_107 P) .nil .nil)) (.node (m0_59 P) (.node (m0_91 P) (.node (m0_155 P) .nil .nil) .nil) (.node (m0_123 P) .nil .nil))))) (.node (PySem.W.boot_o_5 P) (.node (PySem.W.boot_o_9 P) (.node (m0_17 P) (.node (m0_33 P) (.node (m0_65 P) (.node (m0_129 P) .nil .nil) .nil) (.node (m0_97 P) (.node (m0_161 P) .nil .nil) .nil)) (.node (m0_49 P) (.node (m0_81 P) (.node (m0_145 P) .nil .nil) .nil) (.node (m0_113 P) .nil .nil))) (.node (m0_25 P) (.node (m0_41 P) (.node (m0_73 P) (.node (m0_137 P) .nil .nil) .nil) (.node (m0_105 P) .nil .nil)) (.node (m0_57 P) (.node (m0_89 P) (.node (m0_153 P) .nil .nil) .nil) (.node (m0_121 P) .nil .nil)))) (.node (a13 P) (.node (m0_21 P) (.node (m0_37 P) (.node (m0_69 P) (.node (m0_133 P) .nil .nil) .nil) (.node (m0_101 P) .nil .nil)) (.node (m0_53 P) (.node (m0_85 P) (.node (m0_149 P) .nil .nil) .nil) (.node (m0_117 P) .nil .nil))) (.node (m0_29 P) (.node (m0_45 P) (.node (m0_77 P) (.node (m0_141 P) .nil .nil) .nil) (.node (m0_109 P) .nil .nil)) (.node (m0_61 P) (.node (m0_93 P) (.node (m0_157 P) .nil .nil) .nil) (.node (m0_125 P) .nil .nil)))))) (.node (PySem.W.boot_o_2 P) (.node (PySem.W.boot_o_4 P) (.node (PySem.W.boot_o_8 P) (.node (m0_16 P) (.node (m0_32 P) (.node (m0_64 P) (.node (m0_128 P) .nil .nil) .nil) (.node (m0_96 P) (.node (m0_160 P) .nil .nil) .nil)) (.node (m0_48 P) (.node (m0_80 P) (.node (m0_144 P) .nil .nil) .nil) (.node (m0_112 P) .nil .nil))) (.node (m0_24 P) (.node (m0_40 P) (.node (m0_72 P) (.node (m0_136 P) .nil .nil) .nil) (.node (m0_104 P) .nil .nil)) (.node (m0_56 P) (.node (m0_88 P) (.node (m0_152 P) .nil .nil) .nil) (.node (m0_120 P) .nil .nil)))) (.node (m0_12 P) (.node (m0_20 P) (.node (m0_36 P) (.node (m0_68 P) (.node (m0_132 P) .nil .nil) .nil) (.node (m0_100 P) (.node (m0_164 P) .nil .nil) .nil)) (.node (m0_52 P) (.node (m0_84 P) (.node (m0_148 P) .nil .nil) .nil) (.node (m0_116 P) .nil .nil))) (.node (m0_28 P) (.node (m0_44 P) (.node (m0_76 P) (.node (m0_140 P) .nil .nil) .nil) (.node (m0_108 P) .nil .nil)) (.node (m0_60 P) (.node (m0_92 P) (.node (m0_156 P) .nil .nil) .nil) (.node (m0_124 P) .nil .nil))))) (.node (PySem.W.boot_o_6 P) (.node (PySem.W.boot_o_10 P) (.node (m0_18 P) (.node (m0_34 P) (.node (m0_66 P) (.node (m0_130 P) .nil .nil) .nil) (.node (m0_98 P) (.node (m0_162 P) .nil .nil) .nil)) (.node (m0_50 P) (.node (m0_82 P) (.node (m0_146 P) .nil .nil) .nil) (.node (m0_114 P) .nil .nil))) (.node (m0_26 P) (.node (m0_42 P) (.node (m0_74 P) (.node (m0_138 P) .nil .nil) .nil) (.node (m0_106 P) .nil .nil)) (.node (m0_58 P) (.node (m0_90 P) (.node (m0_154 P) .nil .nil) .nil) (.node (m0_122 P) .nil .nil)))) (.node (a14 P) (.node (m0_22 P) (.node (m0_38 P) (.node (m0_70 P) (.node (m0_134 P) .nil .nil) .nil) (.node (m0_102 P) .nil .nil)) (.node (m0_54 P) (.node (m0_86 P) (.node (m0_150 P) .nil .nil) .nil) (.node (m0_118 P) .nil .nil))) (.node (m0_30 P) (.node (m0_46 P) (.node (m0_78 P) (.node (m0_142 P) .nil .nil) .nil) (.node (m0_110 P) .nil .nil)) (.node (m0_62 P) (.node (m0_94 P) (.node (m0_158 P) .nil .nil) .nil) (.node (m0_126 P) .nil .nil)))))))
noncomputable def fS (w : World) (os : OsState) : SharedT := ⟨fT w.params, 165, { }, #[], {}, 386, os⟩
end
noncomputable def env : Env := { scope := R.prog.main.scope, locals := mainNs, globals := mainNs, cells := [], code := (.ref 13), frame := some 14 }
noncomputable def body : List Stmt := PySem.W.behindTheImports R.prog
noncomputable abbrev cod : Code := .body body env
noncomputable abbrev fr : List Frame := [PySem.W.topFrame ⟨0, 0, 0, 0⟩]
noncomputable def l0 : List Stmt := body.drop 0
theorem bodyE : body = l0 ++ [] := by kernel_rfl
theorem bootE (w : World) : HandSHeadRun.putAll (PySem.W.boot_heap w.params).objs.toList .nil 0 = some (zT w.params, 11) := by kernel_rfl
theorem annE (w : World) : HandSHeadRun.bootAnn w = (some (.ref 6)) := by kernel_rfl
theorem preE (w : World) (os : OsState) : Av.Hd.preQ (Av.Hd.stQ R.prog w) 11 (some (.ref 6)) 12 (HandSHeadRun.bootT w os (zT w.params, 11)) (PySem.W.topStub R.prog) = some (aS w os, ⟨HandSHeadRun.denQ HandSHeadRun.tabQ (.body body env), cod, ⟨0, 0, 0, 0⟩, fr⟩) := by kernel_rfl
theorem blkE (w : World) (os : OsState) : Av.Hd.segQ (Av.Hd.stQ R.prog w) 11 (some (.ref 6)) 1 (aS w os) (PySem.W.blockOf body env cod ⟨0, 0, 0, 0⟩ fr) = some (.next, bS w os, cod, ⟨0, 0, 0, 0⟩) := by kernel_rfl
theorem m0E (w : World) : ∀ os : OsState, Av.Hd.segQ (Av.Hd.stQ R.prog w) 11 (some (.ref 6)) 1124 (bS w os) (Av.Hd.piecesQ l0 env cod ⟨0, 0, 0, 0⟩ fr) = some (.next, m0_S w os, cod, ⟨90, 0, 115, 89⟩) := by
  intro os
  kernel_rfl
theorem finE (w : World) (os : OsState) : HandSHeadRun.goF (Av.Hd.stQ R.prog w) 11 (some (.ref 6)) 2 (m0_S w os) (Av.Hd.restQ [] env cod ⟨90, 0, 115, 89⟩ fr) = some (fS w os) := by kernel_rfl
theorem looksE (w : World) (os : OsState) : HandSHeadRun.looksF R.prog (PySem.W.boot_heap w.params) (fS w os).abs = true := by kernel_rfl
theorem seen0 (w : World) (os : OsState) : (HandSHeadRun.seenQ (PySem.W.view R.prog [14]) names (PySem.importedModules R.prog.main.body) (fun s => PySem.W.xlAt (PySem.W.view R.prog [14]) [] s && PySem.W.recOk R.toRowW.records s) (fS w os).abs).1 = (PySem.W.openGood (PySem.W.view R.prog [14]) names).1 := by kernel_rfl
theorem seen1 (w : World) (os : OsState) : (HandSHeadRun.seenQ (PySem.W.view R.prog [14]) names (PySem.importedModules R.prog.main.body) (fun s => PySem.W.xlAt (PySem.W.view R.prog [14]) [] s && PySem.W.recOk R.toRowW.records s) (fS w os).abs).2.1 = (PySem.W.openGood (PySem.W.view R.prog [14]) names).2.1 := by kernel_rfl
theorem seen2 (w : World) (os : OsState) : (HandSHeadRun.seenQ (PySem.W.view R.prog [14]) names (PySem.importedModules R.prog.main.body) (fun s => PySem.W.xlAt (PySem.W.view R.prog [14]) [] s && PySem.W.recOk R.toRowW.records s) (fS w os).abs).2.2.1 = (PySem.W.openGood (PySem.W.view R.prog [14]) names).2.2.1 := by kernel_rfl
theorem seen3 (w : World) (os : OsState) : (HandSHeadRun.seenQ (PySem.W.view R.prog [14]) names (PySem.importedModules R.prog.main.body) (fun s => PySem.W.xlAt (PySem.W.view R.prog [14]) [] s && PySem.W.recOk R.toRowW.records s) (fS w os).abs).2.2.2.1 = (PySem.W.openGood (PySem.W.view R.prog [14]) names).2.2.2.1 := by kernel_rfl
theorem seen4 (w : World) (os : OsState) : (HandSHeadRun.seenQ (PySem.W.view R.prog [14]) names (PySem.importedModules R.prog.main.body) (fun s => PySem.W.xlAt (PySem.W.view R.prog [14]) [] s && PySem.W.recOk R.toRowW.records s) (fS w os).abs).2.2.2.2.1 = (PySem.W.openGood (PySem.W.view R.prog [14]) names).2.2.2.2.1 := by kernel_rfl
theorem seen5 (w : World) (os : OsState) : (HandSHeadRun.seenQ (PySem.W.view R.prog [14]) names (PySem.importedModules R.prog.main.body) (fun s => PySem.W.xlAt (PySem.W.view R.prog [14]) [] s && PySem.W.recOk R.toRowW.records s) (fS w os).abs).2.2.2.2.2.1 = (PySem.W.openGood (PySem.W.view R.prog [14]) names).2.2.2.2.2.1 := by kernel_rfl
theorem seen6 (w : World) (os : OsState) : (HandSHeadRun.seenQ (PySem.W.view R.prog [14]) names (PySem.importedModules R.prog.main.body) (fun s => PySem.W.xlAt (PySem.W.view R.prog [14]) [] s && PySem.W.recOk R.toRowW.records s) (fS w os).abs).2.2.2.2.2.2.1 = (PySem.W.openGood (PySem.W.view R.prog [14]) names).2.2.2.2.2.2.1 := by kernel_rfl
theorem seen7 (w : World) (os : OsState) : (HandSHeadRun.seenQ (PySem.W.view R.prog [14]) names (PySem.importedModules R.prog.main.body) (fun s => PySem.W.xlAt (PySem.W.view R.prog [14]) [] s && PySem.W.recOk R.toRowW.records s) (fS w os).abs).2.2.2.2.2.2.2.1 = (PySem.W.openGood (PySem.W.view R.prog [14]) names).2.2.2.2.2.2.2.1 := by kernel_rfl
theorem seen8 (w : World) (os : OsState) : (HandSHeadRun.seenQ (PySem.W.view R.prog [14]) names (PySem.importedModules R.prog.main.body) (fun s => PySem.W.xlAt (PySem.W.view R.prog [14]) [] s && PySem.W.recOk R.toRowW.records s) (fS w os).abs).2.2.2.2.2.2.2.2 = (PySem.W.openGood (PySem.W.view R.prog [14]) names).2.2.2.2.2.2.2.2 := by kernel_rfl
theorem seenE (w : World) (os : OsState) : HandSHeadRun.seenQ (PySem.W.view R.prog [14]) names (PySem.importedModules R.prog.main.body) (fun s => PySem.W.xlAt (PySem.W.view R.prog [14]) [] s && PySem.W.recOk R.toRowW.records s) (fS w os).abs = PySem.W.openGood (PySem.W.view R.prog [14]) names := Prod.ext (seen0 w os) (Prod.ext (seen1 w os) (Prod.ext (seen2 w os) (Prod.ext (seen3 w os) (Prod.ext (seen4 w os) (Prod.ext (seen5 w os) (Prod.ext (seen6 w os) (Prod.ext (seen7 w os) (seen8 w os))))))))
def as : List Addr := [3, 24, 44, 101, 112, 119, 126, 131, 138, 145, 152, 159, 164, 15, 23, 28, 43, 100, 111, 118, 125, 130, 137, 144, 151, 158, 163, 22, 25, 41, 42, 62, 70, 77, 84, 91, 98, 99, 102, 103, 40, 55, 61, 63, 69, 76, 83, 90, 97, 54, 2]
noncomputable def K (w : World) : PySem.W.Frag := [(3, m0_3 w.params), (24, m0_24 w.params), (44, m0_44 w.params), (101, m0_101 w.params), (112, m0_112 w.params), (119, m0_119 w.params), (126, m0_126 w.params), (131, m0_131 w.params), (138, m0_138 w.params), (145, m0_145 w.params), (152, m0_152 w.params), (159, m0_159 w.params), (164, m0_164 w.params), (15, m0_15 w.params), (23, m0_23 w.params), (28, m0_28 w.params), (43, m0_43 w.params), (100, m0_100 w.params), (111, m0_111 w.params), (118, m0_118 w.params), (125, m0_125 w.params), (130, m0_130 w.params), (137, m0_137 w.params), (144, m0_144 w.params), (151, m0_151 w.params), (158, m0_158 w.params), (163, m0_163 w.params), (22, m0_22 w.params), (25, m0_25 w.params), (41, m0_41 w.params), (42, m0_42 w.params), (62, m0_62 w.params), (70, m0_70 w.params), (77, m0_77 w.params), (84, m0_84 w.params), (91, m0_91 w.params), (98, m0_98 w.params), (99, m0_99 w.params), (102, m0_102 w.params), (103, m0_103 w.params), (40, m0_40 w.params), (55, m0_55 w.params), (61, m0_61 w.params), (63, m0_63 w.params), (69, m0_69 w.params), (76, m0_76 w.params), (83, m0_83 w.params), (90, m0_90 w.params), (97, m0_97 w.params), (54, m0_54 w.params), (2, PySem.W.boot_o_2 w.params)]
theorem asE (w : World) : as = (K w).map (·.1) := by kernel_rfl
noncomputable abbrev hk : PySem.W.Hook := Av.hookK as K asE
noncomputable def ob (s : PySem.W.SharedT) : List (Option Obj) := Av.obsK as s
theorem ob_eq (s : PySem.W.SharedT) : ob s = hk.obs s.abs := Av.obsK_eq s
theorem hookE (w : World) (os : OsState) : ob (fS w os) = hk.val w := by kernel_rfl
abbrev MM : Nat := (12 + (1 + (1124 + 2)))
theorem run (w : World) : Av.Hd.Runs R (PySem.W.view R.prog [14]) hk ob MM names w := by
  intro os
  refine ⟨fS w os, ?_, ?_⟩
  · rw [Av.Hd.size_of (bootE w), annE w]
    refine Av.Hd.rest_first (bootE w) (preE w os) (blkE w os) ?_
    rw [bodyE]
    exact Av.Hd.rest_part (m0E w os) (Av.Hd.rest_last (finE w os))
  · show (_, _, _) = (_, _, _)
    rw [looksE w os, seenE w os, hookE w os]
end Av.Fin
set_option Elab.async false
set_option linter.all false
set_option maxRecDepth 100000
set_option maxHeartbeats 4000000
/-! # AvP: what all the laws share -/
namespace Av
open PySem PySem.Spec PyProof.Rows L2
variable [Tb]
theorem lcW_of {z : Bool} {elt : Env' → AG → AQ → Prop} {g : TGt} {own : List Nat} {gd : Gd} {ρ : Env'} {Q : AQ} (I : List Dat → List Dat → AG → Prop)
    (step : ∀ d ds acc G (N : List Dat → AG → Prop), (∀ acc G, I ds acc G → N acc G) → I (d :: ds) acc G → gdOk G gd ∧ tgW g d (wipeD ρ own) fun ρ1 => elt ρ1 G fun y G2 => acc.length < sizeLine ∧ N (acc ++ [y]) G2)
    (done : ∀ acc G, I [] acc G → gdOk G gd ∧ if z = true then Q (.lst acc) G else ∀ p, G p = none → Q (.ref p) (gu G p (.lst acc))) : ∀ ds acc G, I ds acc G → lcW z elt g own gd ρ Q ds acc G
  | [], acc, G, h => done acc G h
  | d :: ds, acc, G, h => step d ds acc G (fun acc G => lcW z elt g own gd ρ Q ds acc G) (fun acc G => lcW_of I step done ds acc G) h
/-! ### steps -/
section
variable {G : AG} {p : Addr} {ds : List Dat} {i : Int} {d v : Dat} {Q : AQ}
theorem ixA (h : G p = some (.lst ds)) (h2 : atI ds i = some d) (q : Q d G) : ixW (.ref p) (.int i) G Q := ⟨ds, d, by show (match G p with | some (.lst ds) => some ds | _ => none) = some ds; rw [h], h2, q⟩
theorem ixL (h2 : atI ds i = some d) (q : Q d G) : ixW (.lst ds) (.int i) G Q := ⟨ds, d, rfl, h2, q⟩
theorem setA {Q : AG → Prop} {j : Nat} (h : G p = some (.lst ds)) (h2 : ixN ds.length i = some j) (q : Q (gu G p (.lst (ds.set j v)))) : setW (.ref p) (.int i) v G Q := ⟨ds, j, h, h2, q⟩
theorem atI_nat (h : 0 ≤ i) : atI ds i = ds[i.toNat]? := by
  unfold atI ixN
  rw [if_pos h]
  by_cases h1 : i < (ds.length : Int)
  · rw [if_pos h1]; rfl
  · rw [if_neg h1, List.getElem?_eq_none (by omega)]; rfl
theorem atI_in (h : 0 ≤ i) (h2 : i < ds.length) : ∃ d, atI ds i = some d ∧ d ∈ ds := by
  have h3 : i.toNat < ds.length := by omega
  exact ⟨ds[i.toNat], by rw [atI_nat h, List.getElem?_eq_getElem h3], List.getElem_mem h3⟩
end
/-! ### draws -/
/-- an object to draw of: at least n draws are left -/
def DrO (n : Nat) (o : AO) : Prop := ∃ a b c : Int, o = .lst [.int a, .int b, .int c] ∧ 0 ≤ b ∧ b < 2 ^ 40 ∧ 0 ≤ c ∧ c + n ≤ 2 ^ 40
theorem DrO.mono {m n : Nat} {o : AO} (h : DrO n o) (l : m ≤ n) : DrO m o := by
  obtain ⟨a, b, c, h1, h2, h3, h4, h5⟩ := h
  exact ⟨a, b, c, h1, h2, h3, h4, by omega⟩
def c_draw : Con := fun ds G Q X => ∃ p m n o, ds = [.ref p, .int m] ∧ G p = some o ∧ DrO (n + 1) o ∧ 0 < m ∧ m < 2 ^ 30 ∧ ∀ r o', 0 ≤ r → r < m → DrO n o' → Q (.int r) (gu G p o')
def f_draw : FnE := { con := c_draw, ar := 2, len := fun ds G Q X ⟨p, m, n, o, h, _⟩ => by rw [h]; rfl }
def b_draw : List S := [
  .setIx (.var 0) (.cst (.int 2)) (.bin true .add (.ix (.var 0) (.cst (.int 2))) (.cst (.int 1))),
  .if_ (.cmp .gt (.ix (.var 0) (.cst (.int 0))) (.cst (.int 0))) [.set 3 (.bin true .mod (.blt true .int [(.ix (.var 0) (.cst (.int 0)))]) (.var 1)), .setIx (.var 0) (.cst (.int 0)) (.bin true .fdiv (.ix (.var 0) (.cst (.int 0))) (.var 1)), .ret (.var 3)] [],
  .set 2 (.bin true .mod (.bin true .pow (.blt true .int [(.bin true .add (.ix (.var 0) (.cst (.int 1))) (.bin true .mul (.cst (.int 7919)) (.ix (.var 0) (.cst (.int 2)))))]) (.cst (.int 5))) (.cst (.int 2147483647))),
  .ret (.bin true .mod (.bin true .fdiv (.bin true .mod (.bin true .mul (.bin true .add (.var 2) (.ix (.var 0) (.cst (.int 2)))) (.cst (.int 40692))) (.cst (.int 2147483629))) (.cst (.int 16))) (.var 1))]
theorem ok_draw (Γ : Gam) (N : List Str) (hN : N.length = 4) (ds : List Dat) (G : AG) (Q : AQ) (X : AX) (h : c_draw ds G Q X) : wSs Γ b_draw (startD N ds) G (endsOf Q X) := by
  obtain ⟨p, m, n, o, rfl, hp, ⟨a, b, c, rfl, h1, h2, h3, h4⟩, h5, h6, hq⟩ := h
  simp only [b_draw, startD, hN, List.map, List.length, List.replicate, List.append, List.cons_append, List.nil_append, wSs, wS, wE, wEs, wT, List.getElem?_cons_zero, List.getElem?_cons_succ]
  refine ixA hp rfl ?_
  simp only [binW]
  refine setA hp rfl ?_
  refine ixA gu_same rfl ?_
  simp only [cmpW, boolW, List.set]
  by_cases ha : 0 < a
  · simp only [ha, decide_true, if_true]
    refine ixA gu_same rfl ?_
    simp only [bltW, binW]
    refine ⟨h5, ?_⟩
    simp only [List.getElem?_cons_zero, List.getElem?_cons_succ]
    refine ixA gu_same rfl ?_
    simp only [binW]
    refine ⟨⟨h5, by omega⟩, ?_⟩
    refine setA gu_same rfl ?_
    simp only [List.set, gu_gu]
    exact ⟨_, .refl _, hq _ _ (Int.emod_nonneg _ (by omega)) (Int.emod_lt_of_pos _ h5) ⟨a / m, b, c + 1, rfl, h1, h2, by omega, by omega⟩⟩
  · simp only [ha, decide_false, if_false, Bool.false_eq_true]
    refine ixA gu_same rfl ?_
    refine ixA gu_same rfl ?_
    simp only [binW, bltW]
    refine ⟨.inl ⟨by omega, by omega⟩, ⟨by omega, by omega, by omega⟩, by omega, ?_⟩
    simp only [List.getElem?_cons_zero, List.getElem?_cons_succ]
    refine ixA gu_same rfl ?_
    simp only [binW]
    refine ⟨.inr ⟨by omega, by omega⟩, by omega, ⟨by omega, by omega⟩, h5, ?_⟩
    exact ⟨_, .refl _, hq _ _ (Int.emod_nonneg _ (by omega)) (Int.emod_lt_of_pos _ h5) ⟨a, b, c + 1, rfl, h1, h2, by omega, by omega⟩⟩
/-- what holds its items for good -/
def fixOf : Dat → Option (List Dat)
  | .tup ds => some ds
  | .lst ds => some ds
  | .kls ds => some ds
  | _ => none
theorem fix_seq {G : AG} {d : Dat} {ds : List Dat} (h : fixOf d = some ds) : seqOf G d = some ds := by
  cases d <;> first | exact h | cases h
theorem ixF {G : AG} {x d : Dat} {ds : List Dat} {i : Int} {Q : AQ} (h : fixOf x = some ds) (h2 : atI ds i = some d) (q : Q d G) : ixW x (.int i) G Q := ⟨ds, d, fix_seq h, h2, q⟩
def c_source : Con := fun ds G Q X => ∃ sc k ns, ds = [sc, .int k] ∧ fixOf sc = some (List.map Dat.int ns) ∧ 0 ≤ k ∧ k < 1000 ∧ ∀ p o, G p = none → DrO (2 ^ 38) o → Q (.ref p) (gu G p o)
def f_source : FnE := { con := c_source, ar := 2, len := fun ds G Q X ⟨_, _, _, h, _⟩ => by rw [h]; rfl }
def b_source : List S := [
  .set 2 (.cst (.int 0)),
  .set 3 (.cst (.int 0)),
  .if_ (.cmp .gt (.blt true .len [(.var 0)]) (.cst (.int 0))) [.set 2 (.ix (.var 0) (.bin true .mod (.blt true .int [(.var 1)]) (.blt true .len [(.var 0)])))] [],
  .if_ (.and_ (.cmp .lt (.var 1) (.blt true .len [(.var 0)])) (.one (.cmp .ge (.var 2) (.bin true .pow (.cst (.int 10)) (.cst (.int 18)))))) [.set 3 (.var 2)] [],
  .ret (.lst false [(.var 3), (.bin true .add (.bin true .add (.bin true .mod (.blt true .int [(.var 2)]) (.cst (.int 2147483647))) (.bin true .mul (.cst (.int 7919000)) (.var 1))) (.cst (.int 104729))), (.cst (.int 0))])]
theorem ok_source (Γ : Gam) (N : List Str) (hN : N.length = 4) (ds : List Dat) (G : AG) (Q : AQ) (X : AX) (h : c_source ds G Q X) : wSs Γ b_source (startD N ds) G (endsOf Q X) := by
  obtain ⟨sc, k, ns, rfl, hs, h1, h2, hq⟩ := h
  have fin : ∀ a b : Int, ∃ ds : List Dat, ds = [.int a, .int (b % 2147483647 + 7919000 * k + 104729), .int 0] ∧ (newL ds G fun d G' => ∃ G0, Sub G0 G' ∧ Q d G0) := fun a b => ⟨_, rfl, by show 3 ≤ sizeLine; decide, fun p hp => ⟨_, .refl _, hq p _ hp ⟨a, _, 0, rfl, by omega, by omega, by omega, by omega⟩⟩⟩
  have last : ∀ (cell deep : Int), wSs Γ [.if_ (.and_ (.cmp .lt (.var 1) (.blt true .len [(.var 0)])) (.one (.cmp .ge (.var 2) (.bin true .pow (.cst (.int 10)) (.cst (.int 18)))))) [.set 3 (.var 2)] [],
      .ret (.lst false [(.var 3), (.bin true .add (.bin true .add (.bin true .mod (.blt true .int [(.var 2)]) (.cst (.int 2147483647))) (.bin true .mul (.cst (.int 7919000)) (.var 1))) (.cst (.int 104729))), (.cst (.int 0))])] [some sc, some (.int k), some (.int cell), some (.int deep)] G (endsOf Q X) := fun cell deep => by
    have tail : ∀ a : Int, wSs Γ [.ret (.lst false [(.var 3), (.bin true .add (.bin true .add (.bin true .mod (.blt true .int [(.var 2)]) (.cst (.int 2147483647))) (.bin true .mul (.cst (.int 7919000)) (.var 1))) (.cst (.int 104729))), (.cst (.int 0))])] [some sc, some (.int k), some (.int cell), some (.int a)] G (endsOf Q X) := fun a => by
      obtain ⟨ds, rfl, hf⟩ := fin a cell
      simp only [wSs, wS, wE, wEs, List.getElem?_cons_zero, List.getElem?_cons_succ, bltW, binW, nw, Bool.false_eq_true, if_false]
      exact ⟨by omega, .inl ⟨by omega, by omega⟩, hf⟩
    rw [wSs]
    simp only [wS, wSs, wT, wE, wEs, List.getElem?_cons_zero, List.getElem?_cons_succ, bltW]
    refine ⟨_, fix_seq hs, ?_⟩
    simp only [cmpW, boolW]
    by_cases hk : k < ((List.map Dat.int ns).length : Int)
    · simp only [hk, decide_true, if_true]
      refine ⟨⟨by omega, by omega, by decide⟩, ?_⟩
      by_cases hc : ((10 : Int) ^ (18 : Int).toNat ≤ cell)
      · simp only [hc, decide_true, if_true]
        exact tail _
      · simp only [hc, decide_false, if_false, Bool.false_eq_true]
        exact tail _
    · simp only [hk, decide_false, if_false, Bool.false_eq_true]
      exact tail _
  have mid : wSs Γ b_source (startD N [sc, .int k]) G (endsOf Q X) = wSs Γ b_source [some sc, some (.int k), none, none] G (endsOf Q X) := by
    unfold startD
    rw [hN]
    rfl
  rw [mid]
  unfold b_source
  rw [wSs]; simp only [wS, wE, List.set]
  rw [wSs]; simp only [wS, wE, List.set]
  rw [wSs]
  simp only [wS, wE, wEs, wT, List.getElem?_cons_zero, List.getElem?_cons_succ, bltW]
  refine ⟨_, fix_seq hs, ?_⟩
  simp only [cmpW, boolW]
  by_cases hn : (0 : Int) < ((List.map Dat.int ns).length : Int)
  · simp only [hn, decide_true, if_true]
    rw [wSs]
    simp only [wS, wSs, wE, wEs, List.getElem?_cons_zero, List.getElem?_cons_succ, bltW]
    refine ⟨_, fix_seq hs, ?_⟩
    simp only [binW]
    refine ⟨hn, ?_⟩
    obtain ⟨d, hd, hm⟩ := atI_in (ds := List.map Dat.int ns) (Int.emod_nonneg k (by omega)) (Int.emod_lt_of_pos k hn)
    refine ixF hs hd ?_
    obtain ⟨c, _, rfl⟩ := List.mem_map.mp hm
    exact last c 0
  · simp only [hn, decide_false, if_false, Bool.false_eq_true]
    exact last 0 0
def c_pick : Con := fun ds G Q X => ∃ p n o sm items, ds = [.ref p, sm] ∧ G p = some o ∧ DrO (n + 1) o ∧ fixOf sm = some items ∧ 0 < items.length ∧ items.length < 2 ^ 30 ∧ ∀ d o', d ∈ items → DrO n o' → Q d (gu G p o')
def f_pick : FnE := { con := c_pick, ar := 2, len := fun ds G Q X ⟨_, _, _, _, _, h, _⟩ => by rw [h]; rfl }
def b_pick : List S := [.ret (.ix (.var 1) (.call "_law_draw" [(.var 0), (.blt true .len [(.var 1)])]))]
theorem ok_pick (Γ : Gam) (hd : Γ.fn "_law_draw" = some f_draw) (N : List Str) (hN : N.length = 2) (ds : List Dat) (G : AG) (Q : AQ) (X : AX) (h : c_pick ds G Q X) : wSs Γ b_pick (startD N ds) G (endsOf Q X) := by
  obtain ⟨p, n, o, sm, items, rfl, hp, ho, hs, h1, h2, hq⟩ := h
  simp only [b_pick, startD, hN, List.map, List.length, List.replicate, List.cons_append, List.nil_append, wSs, wS, wE, wEs, List.getElem?_cons_zero, List.getElem?_cons_succ, hd, bltW, f_draw, List.drop_nil, List.append_nil]
  refine ⟨⟨by decide, by decide⟩, _, fix_seq hs, p, _, n, o, rfl, hp, ho, by omega, by omega, fun r o' h3 h4 h5 => ?_⟩
  obtain ⟨d, hd, hm⟩ := atI_in h3 h4
  exact ixF hs hd ⟨_, .refl _, hq d o' hm h5⟩
end Av
set_option Elab.async false
set_option linter.all false
set_option maxRecDepth 100000
set_option maxHeartbeats 4000000
/-! # AvP2: _law_same -/
namespace Av
open PySem PySem.Spec PyProof.Rows L2
variable [Tb]
def leafD : Dat → Option PyData
  | .non => some .none
  | .bl b => some (.bool b)
  | .int i => some (.int i)
  | .str s => some (.str s)
  | _ => none
/-- the same by what they hold, to a depth -/
def SameN (G : AG) : Nat → Dat → Dat → Prop
  | 0, x, y => x = y ∧ (leafD x).isSome = true
  | n + 1, x, y => (x = y ∧ (leafD x).isSome = true) ∨
      (∃ xs ys, x = .tup xs ∧ y = .tup ys ∧ xs.length = ys.length ∧ xs.length ≤ sizeLine ∧ ∀ (i : Nat) (a b : Dat), xs[i]? = some a → ys[i]? = some b → SameN G n a b) ∨
      ∃ xs ys, lstOf G x = some xs ∧ lstOf G y = some ys ∧ xs.length = ys.length ∧ xs.length ≤ sizeLine ∧ ∀ (i : Nat) (a b : Dat), xs[i]? = some a → ys[i]? = some b → SameN G n a b
theorem leaf_deep {G : AG} {x : Dat} (h : (leafD x).isSome = true) (hs : ∀ s, x ≠ .str s) : ∃ p, Deep G x p ∧ SeqAt.shaped p = true ∧ PyData.eqv p p = true := by
  cases x with
  | non => exact ⟨_, .non, by decide, by decide⟩
  | bl b => exact ⟨_, .bl b, by cases b <;> decide, by cases b <;> decide⟩
  | int i => exact ⟨_, .int i, rfl, SeqAt.eqv_refl _ rfl⟩
  | str s => exact absurd rfl (hs s)
  | _ => cases h
theorem eq_leaf {G : AG} {x : Dat} {Q : AQ} (h : (leafD x).isSome = true) (q : Q (.bl true) G) : cmpW .eq x x G Q := by
  by_cases hs : ∃ s, x = .str s
  · obtain ⟨s, rfl⟩ := hs
    refine .inl ⟨rfl, ?_⟩
    simp only [Bool.false_eq_true, if_false, decide_true]
    exact q
  · obtain ⟨p, h1, h2, h3⟩ := leaf_deep (G := G) h fun s e => hs ⟨s, e⟩
    refine .inr ⟨p, p, h1, h1, h2, h2, ?_⟩
    simp only [Bool.false_eq_true, if_false, h3]
    exact q
def c_same (n : Nat) : Con := fun ds G Q X => ∃ x y, ds = [x, y] ∧ SameN G n x y ∧ Q (.bl true) G
def f_same (n : Nat) : FnE := { con := c_same n, ar := 2, len := fun ds G Q X ⟨_, _, h, _⟩ => by rw [h]; rfl }
def b_same : List S := [
  .if_ (.val (.blt true .isinst [(.var 1), (.tup [(.glo "list"), (.glo "tuple")])])) [.if_ (.or_ (.cmp .ne (.blt true .isinst [(.var 0), (.glo "list")]) (.blt true .isinst [(.var 1), (.glo "list")])) (.one (.cmp .ne (.blt true .isinst [(.var 0), (.glo "tuple")]) (.blt true .isinst [(.var 1), (.glo "tuple")])))) [.ret (.cst (.bl false))] [], .ret (.andV (.cmp .eq (.blt true .len [(.var 0)]) (.blt true .len [(.var 1)])) (.one (.blt true .all [(.lc true (.call "_law_same" [(.var 2), (.var 3)]) (.tp [2, 3]) (.zip (.var 0) (.var 1)) [2, 3])])))] [],
  .if_ (.val (.blt true .isinst [(.var 1), (.tup [(.glo "bool"), (.glo "int")])])) [.ret (.andV (.blt true .isinst [(.var 0), (.glo "int")]) (.andV (.cmp .eq (.blt true .isinst [(.var 0), (.glo "bool")]) (.blt true .isinst [(.var 1), (.glo "bool")])) (.one (.cmp .eq (.var 0) (.var 1)))))] [],
  .ret (.andV (.notV (.blt true .isinst [(.var 0), (.tup [(.glo "bool"), (.glo "list"), (.glo "tuple")])])) (.one (.cmp .eq (.var 0) (.var 1))))]
structure TyGl (Γ : Gam) : Prop where
  list : Γ.gl "list" = some (.ty "list")
  tuple : Γ.gl "tuple" = some (.ty "tuple")
  bool : Γ.gl "bool" = some (.ty "bool")
  int : Γ.gl "int" = some (.ty "int")
theorem ty_n {G : AG} {x : Dat} {t : String} (h : tyOf G x = some t) : tyN G x = some (.inl t) := by
  cases x with
  | ref a =>
    unfold tyOf at h
    unfold tyN
    dsimp only at h ⊢
    cases e : G a with
    | none => rw [e] at h; cases h
    | some o => rw [e] at h; cases o <;> first | (cases h; rfl) | cases h
  | exc => cases h
  | _ => unfold tyN; dsimp only; rw [h]
theorem isi1 {G : AG} {x : Dat} {n t : String} {b : Bool} {Q : AQ} (h : tyOf G x = some t) (h2 : kitB t n = some b) (q : Q (.bl b) G) : isiW x (.ty n) G Q := ⟨_, b, ty_n h, h2, q⟩
def allTyS : List Dat → Bool
  | [] => true
  | .ty _ :: r => allTyS r
  | _ :: _ => false
def isiS (t : String) : List Dat → Option Bool
  | [] => some false
  | .ty n :: r => match kitB t n with
    | some true => if allTyS r = true then some true else none
    | some false => isiS t r
    | none => none
  | _ :: _ => none
omit [Tb] in
theorem allTyS_ok : ∀ cs : List Dat, allTyS cs = true → allTy cs = true
  | [], _ => rfl
  | d :: r, h => by
    cases d with
    | ty n => exact allTyS_ok r h
    | _ => cases h
theorem isiS_ok {t : String} : ∀ (cs : List Dat) (b : Bool), isiS t cs = some b → isiAny (.inl t) cs = some b
  | [], _, h => h
  | d :: r, b, h => by
    cases d with
    | ty n =>
      unfold isiS at h
      show (match kitB t n with
        | some true => if allTy r = true then some true else none
        | some false => isiAny (.inl t) r
        | none => none) = some b
      split at h
      · split at h
        · cases h
          rename_i e h2
          rw [allTyS_ok r h2]
          rfl
        · cases h
      · exact isiS_ok r b h
      · cases h
    | _ => cases h
theorem isiT {G : AG} {x : Dat} {t : String} {cs : List Dat} {b : Bool} {Q : AQ} (h : tyOf G x = some t) (h2 : isiS t cs = some b) (q : Q (.bl b) G) : isiW x (.tup cs) G Q := ⟨_, b, ty_n h, isiS_ok cs b h2, q⟩
theorem lst_ty {G : AG} {x : Dat} {xs : List Dat} (h : lstOf G x = some xs) : tyOf G x = some "list" := by
  cases x with
  | lst ds => rfl
  | ref a =>
    cases e : G a with
    | none => simp only [lstOf, e] at h; cases h
    | some o =>
      cases o with
      | lst ds => simp only [tyOf, e]
      | _ => simp only [lstOf, e] at h; cases h
  | _ => cases h
theorem lst_G {G : AG} {x : Dat} {xs : List Dat} {Q : List Dat → Gd → AG → Prop} (h : lstOf G x = some xs) (q : ∀ gd, gdOk G gd → Q xs gd G) : lstG x G Q := by
  cases x with
  | lst ds => cases h; exact q [] trivial
  | ref a =>
    cases e : G a with
    | none => simp only [lstOf, e] at h; cases h
    | some o =>
      cases o with
      | lst ds =>
        simp only [lstOf, e] at h
        cases h
        exact ⟨_, e, q _ ⟨e, trivial⟩⟩
      | _ => simp only [lstOf, e] at h; cases h
  | _ => cases h
theorem zipD_at : ∀ (xs ys : List Dat) (i : Nat) (d : Dat), (zipD xs ys)[i]? = some d → ∃ a b, d = .tup [a, b] ∧ xs[i]? = some a ∧ ys[i]? = some b
  | [], _, i, d, h => by simp [zipD] at h
  | _ :: _, [], i, d, h => by simp [zipD] at h
  | x :: xs, y :: ys, 0, d, h => by
    have e : some (Dat.tup [x, y]) = some d := h
    cases e
    exact ⟨x, y, rfl, rfl, rfl⟩
  | x :: xs, y :: ys, i + 1, d, h => zipD_at xs ys i d h
theorem blsOf_rep (n : Nat) : blsOf (List.replicate n (.bl true)) = some (List.replicate n true) := by
  induction n with
  | zero => rfl
  | succ n ih => rw [List.replicate_succ, List.replicate_succ]; simp only [blsOf, ih]; rfl
/-- the comprehension over the pairs -/
theorem same_lc {Γ : Gam} {n : Nat} (hs : Γ.fn "_law_same" = some (f_same n)) {G : AG} {gd : Gd} {ρ : Env'} {Q : AQ} {xs ys : List Dat} (hg : gdOk G gd) (hl : xs.length ≤ sizeLine) (hlen : 4 ≤ ρ.length)
    (h : ∀ (i : Nat) (a b : Dat), xs[i]? = some a → ys[i]? = some b → SameN G n a b) (q : ∀ m, Q (.lst (List.replicate m (.bl true))) G) :
    lcW true (fun ρ1 G Q => wE Γ (.call "_law_same" [(.var 2), (.var 3)]) ρ1 G Q noX) (.tp [2, 3]) [2, 3] gd ρ Q (zipD xs ys) [] G := by
  have tot : (zipD xs ys).length ≤ sizeLine := by rw [zipD_len]; omega
  refine lcW_of (fun rem acc G' => G' = G ∧ (∃ m, acc = List.replicate m (.bl true) ∧ m + rem.length = (zipD xs ys).length) ∧ ∀ d ∈ rem, ∃ a b, d = .tup [a, b] ∧ SameN G n a b) ?_ ?_ _ _ _ ⟨rfl, ⟨0, rfl, by simp⟩, fun d hd => ?_⟩
  · rintro d rem acc G' N hN ⟨rfl, ⟨m, rfl, hm⟩, hr⟩
    obtain ⟨a, b, rfl, hab⟩ := hr d (List.mem_cons_self ..)
    refine ⟨hg, rfl, ?_⟩
    have l2 : (wipeD ρ [2, 3]).length = ρ.length := by simp [wipeD]
    have e2 : (setAll [2, 3] [a, b] (wipeD ρ [2, 3]))[2]? = some (some a) := by
      simp only [setAll]
      rw [List.getElem?_set_ne (by decide), List.getElem?_set_self (by rw [l2]; omega)]
    have e3 : (setAll [2, 3] [a, b] (wipeD ρ [2, 3]))[3]? = some (some b) := by
      simp only [setAll]
      rw [List.getElem?_set_self (by rw [List.length_set, l2]; omega)]
    simp only [wE, wEs, e2, e3, hs, f_same, List.length, List.drop_nil, List.append_nil]
    refine ⟨⟨by decide, by decide⟩, a, b, rfl, hab, ?_⟩
    rw [List.length_cons] at hm
    refine ⟨by rw [List.length_replicate]; omega, hN _ _ ⟨rfl, ⟨m + 1, by rw [List.replicate_succ'], by omega⟩, fun d hd => hr d (List.mem_cons_of_mem _ hd)⟩⟩
  · rintro acc G' ⟨rfl, ⟨m, rfl, _⟩, _⟩
    exact ⟨hg, by rw [if_pos rfl]; exact q m⟩
  · obtain ⟨i, hi⟩ := List.mem_iff_getElem?.mp hd
    obtain ⟨a, b, rfl, h1, h2⟩ := zipD_at xs ys i d hi
    exact ⟨a, b, rfl, h i a b h1 h2⟩
theorem b_ne_eq {b : Bool} {G : AG} {Q : AQ} (q : Q (.bl false) G) : cmpW .ne (.bl b) (.bl b) G Q := by
  refine .inr ⟨.bool b, .bool b, .bl b, .bl b, by cases b <;> decide, by cases b <;> decide, ?_⟩
  have e : PyData.eqv (.bool b) (.bool b) = true := by cases b <;> decide
  simp only [e, if_true, Bool.not_true]
  exact q
theorem bl_eq {b : Bool} {G : AG} {Q : AQ} (q : Q (.bl true) G) : cmpW .eq (.bl b) (.bl b) G Q := eq_leaf rfl q
theorem i_eq {i : Int} {G : AG} {Q : AQ} (q : Q (.bl true) G) : cmpW .eq (.int i) (.int i) G Q := eq_leaf rfl q
theorem ok_same_leaf (Γ : Gam) (n : Nat) (tg : TyGl Γ) (G : AG) (Q : AQ) (X : AX) (x : Dat) (h : (leafD x).isSome = true) (q : Q (.bl true) G) : wSs Γ b_same [some x, some x, none, none] G (endsOf Q X) := by
  have two : (2 : Nat) ≤ sizeLine := by decide
  have three : (3 : Nat) ≤ sizeLine := by decide
  have fin : ∃ G0, Sub G0 G ∧ Q (.bl true) G0 := ⟨G, .refl _, q⟩
  simp only [b_same, wSs, wS, wE, wEs, wT, List.getElem?_cons_zero, List.getElem?_cons_succ, tg.list, tg.tuple, tg.bool, tg.int, bltW, List.length, endsOf]
  cases x with
  | non =>
    refine ⟨by decide, isiT (t := "NoneType") (b := false) rfl (by decide +kernel) ?_⟩
    simp only [truW, Bool.false_eq_true, if_false]
    refine ⟨by decide, isiT (t := "NoneType") (b := false) rfl (by decide +kernel) ?_⟩
    simp only [truW, Bool.false_eq_true, if_false]
    refine ⟨by decide, isiT (t := "NoneType") (b := false) rfl (by decide +kernel) ?_⟩
    simp only [truW, Bool.not_false, if_true]
    exact eq_leaf rfl fin
  | bl b =>
    refine ⟨by decide, isiT (t := "bool") (b := false) rfl (by decide +kernel) ?_⟩
    simp only [truW, Bool.false_eq_true, if_false]
    refine ⟨by decide, isiT (t := "bool") (b := true) rfl (by decide +kernel) ?_⟩
    simp only [truW, if_true]
    refine isi1 (t := "bool") (b := true) rfl (by decide +kernel) ?_
    simp only [truW, if_true]
    refine isi1 (t := "bool") (b := true) rfl (by decide +kernel) (isi1 (t := "bool") (b := true) rfl (by decide +kernel) (bl_eq ?_))
    simp only [truW, if_true]
    exact eq_leaf rfl fin
  | int i =>
    refine ⟨by decide, isiT (t := "int") (b := false) rfl (by decide +kernel) ?_⟩
    simp only [truW, Bool.false_eq_true, if_false]
    refine ⟨by decide, isiT (t := "int") (b := true) rfl (by decide +kernel) ?_⟩
    simp only [truW, if_true]
    refine isi1 (t := "int") (b := true) rfl (by decide +kernel) ?_
    simp only [truW, if_true]
    refine isi1 (t := "int") (b := false) rfl (by decide +kernel) (isi1 (t := "int") (b := false) rfl (by decide +kernel) (bl_eq ?_))
    simp only [truW, if_true]
    exact eq_leaf rfl fin
  | str s =>
    refine ⟨by decide, isiT (t := "str") (b := false) rfl (by decide +kernel) ?_⟩
    simp only [truW, Bool.false_eq_true, if_false]
    refine ⟨by decide, isiT (t := "str") (b := false) rfl (by decide +kernel) ?_⟩
    simp only [truW, Bool.false_eq_true, if_false]
    refine ⟨by decide, isiT (t := "str") (b := false) rfl (by decide +kernel) ?_⟩
    simp only [truW, Bool.not_false, if_true]
    exact eq_leaf h fin
  | _ => cases h
theorem ok_same (Γ : Gam) (n : Nat) (tg : TyGl Γ) (hs : Γ.fn "_law_same" = some (f_same n)) (N : List Str) (hN : N.length = 4) (ds : List Dat) (G : AG) (Q : AQ) (X : AX) (h : c_same (n + 1) ds G Q X) : wSs Γ b_same (startD N ds) G (endsOf Q X) := by
  obtain ⟨x, y, rfl, h, q⟩ := h
  have st : startD N [x, y] = [some x, some y, none, none] := by unfold startD; rw [hN]; rfl
  rw [st]
  have fin : ∃ G0, Sub G0 G ∧ Q (.bl true) G0 := ⟨G, .refl _, q⟩
  rcases h with ⟨rfl, h⟩ | ⟨xs, ys, rfl, rfl, h1, h2, h3⟩ | ⟨xs, ys, h0, h0', h1, h2, h3⟩
  · exact ok_same_leaf Γ n tg G Q X x h q
  · have last : bltW true .all [.lst (List.replicate xs.length (.bl true))] G (fun d G => ∃ G0, Sub G0 G ∧ Q d G0) := ⟨_, _, rfl, blsOf_rep _, by simpa using fin⟩
    simp only [b_same, wSs, wS, wE, wEs, wT, wI, List.getElem?_cons_zero, List.getElem?_cons_succ, tg.list, tg.tuple, tg.bool, tg.int, bltW, List.length, endsOf]
    refine ⟨by decide, isiT (t := "tuple") (b := true) rfl (by decide +kernel) ?_⟩
    simp only [truW, if_true]
    refine isi1 (t := "tuple") (b := false) rfl (by decide +kernel) (isi1 (t := "tuple") (b := false) rfl (by decide +kernel) (b_ne_eq ?_))
    simp only [boolW, Bool.false_eq_true, if_false]
    refine isi1 (t := "tuple") (b := true) rfl (by decide +kernel) (isi1 (t := "tuple") (b := true) rfl (by decide +kernel) (b_ne_eq ?_))
    simp only [boolW, Bool.false_eq_true, if_false]
    refine ⟨xs, rfl, ys, rfl, ?_⟩
    rw [h1]
    refine i_eq ?_
    simp only [truW, if_true]
    simp only [zipG]
    have := same_lc (Q := fun d G1 => ∃ ds bs, lstOf G1 d = some ds ∧ blsOf ds = some bs ∧ ∃ G0, Sub G0 G1 ∧ Q (.bl (bs.all id)) G0) (ρ := [some (.tup xs), some (.tup ys), none, none]) (gd := []) hs (G := G) trivial h2 (Nat.le_refl 4) h3 fun m => ⟨_, _, rfl, blsOf_rep _, by simpa using fin⟩
    simp only [wE, wEs] at this
    exact this
  · simp only [b_same, wSs, wS, wE, wEs, wT, wI, List.getElem?_cons_zero, List.getElem?_cons_succ, tg.list, tg.tuple, tg.bool, tg.int, bltW, List.length, endsOf]
    have t1 := lst_ty h0
    have t2 := lst_ty h0'
    have s1 : ∀ {z : Dat} {zs : List Dat}, lstOf G z = some zs → seqOf G z = some zs := fun {z zs} e => by
      cases z <;> first | exact e | cases e
    refine ⟨by decide, isiT (b := true) t2 (by decide +kernel) ?_⟩
    simp only [truW, if_true]
    refine isi1 (b := true) t1 (by decide +kernel) (isi1 (b := true) t2 (by decide +kernel) (b_ne_eq ?_))
    simp only [boolW, Bool.false_eq_true, if_false]
    refine isi1 (b := false) t1 (by decide +kernel) (isi1 (b := false) t2 (by decide +kernel) (b_ne_eq ?_))
    simp only [boolW, Bool.false_eq_true, if_false]
    refine ⟨xs, s1 h0, ys, s1 h0', ?_⟩
    rw [h1]
    refine i_eq ?_
    simp only [truW, if_true]
    have zg : ∀ (Qz : List Dat → Gd → AG → Prop), (∀ gd, gdOk G gd → Qz (zipD xs ys) gd G) → zipG x y G Qz := fun Qz hz => by
      have : lstG x G fun xs gx G1 => lstG y G1 fun ys gy G2 => Qz (zipD xs ys) (gx ++ gy) G2 := lst_G h0 fun gd g1 => lst_G h0' fun ge g2 => hz _ (gdOk_app.mpr ⟨g1, g2⟩)
      cases x with
      | tup _ => cases h0
      | _ => exact this
    refine zg _ fun gd hgd => ?_
    have := same_lc (Q := fun d G1 => ∃ ds bs, lstOf G1 d = some ds ∧ blsOf ds = some bs ∧ ∃ G0, Sub G0 G1 ∧ Q (.bl (bs.all id)) G0) (ρ := [some x, some y, none, none]) (gd := gd) hs (G := G) hgd h2 (Nat.le_refl 4) h3 fun m => ⟨_, _, rfl, blsOf_rep _, by simpa using fin⟩
    simp only [wE, wEs] at this
    exact this
theorem ok_same0 (Γ : Gam) (tg : TyGl Γ) (N : List Str) (hN : N.length = 4) (ds : List Dat) (G : AG) (Q : AQ) (X : AX) (h : c_same 0 ds G Q X) : wSs Γ b_same (startD N ds) G (endsOf Q X) := by
  obtain ⟨x, y, rfl, ⟨rfl, h⟩, q⟩ := h
  have st : startD N [x, x] = [some x, some x, none, none] := by unfold startD; rw [hN]; rfl
  rw [st]
  exact ok_same_leaf Γ 0 tg G Q X x h q
end Av
set_option Elab.async false
set_option linter.all false
set_option maxRecDepth 100000
set_option maxHeartbeats 4000000
/-! # AvP3: rows of ints -/
namespace Av
open PySem PySem.Spec PyProof.Rows L2
variable [Tb]
abbrev di (xs : List Int) : List Dat := xs.map Dat.int
theorem deeps_ints {G : AG} : ∀ xs : List Int, Deeps G (di xs) (xs.map PyData.int)
  | [] => .nil
  | x :: xs => .cons (.int x) (deeps_ints xs)
theorem lay_ints : ∀ xs : List Int, PyData.canLayAll0 (xs.map PyData.int) = true
  | [] => rfl
  | x :: xs => by rw [List.map_cons, PyData.canLayAll0, lay_ints xs]; rfl
theorem depthAll_ints : ∀ xs : List Int, PyData.depthAll (xs.map PyData.int) = 0
  | [] => by simp [PyData.depthAll]
  | x :: xs => by rw [List.map_cons, PyData.depthAll, depthAll_ints xs]; simp [PyData.depth]
theorem cut_map {xs : List Int} {lo hi : Option Int} : cutD (di xs) lo hi = di ((xs.drop (HT.sIx xs.length 0 lo)).take (HT.sIx xs.length xs.length hi - HT.sIx xs.length 0 lo)) := by
  unfold cutD di
  rw [List.length_map, List.map_take, List.map_drop]
theorem cut_from {xs : List Int} {i : Nat} (h : i ≤ xs.length) : cutD (di xs) (some (i : Int)) none = di (xs.drop i) := by
  rw [cut_map, HT.sIx_nat, HT.sIx_none, Nat.min_eq_left h]
  rw [List.take_of_length_le (by simp)]
end Av
set_option Elab.async false
set_option linter.all false
set_option maxRecDepth 100000
set_option maxHeartbeats 4000000
/-! # LibR: names, the registry, codecs -/
namespace Av
open PySem PySem.Spec PyProof.Rows L2
variable [Tb]
/-! ### normal names -/
/-! ### known names -/
def codecsL : List (Str × Str) := [("ascii", "ascii 646 us us_ascii ansi_x3.4_1968 cp367 iso_ir_6"), ("iso8859-1", "latin_1 latin1 latin l1 iso8859_1 iso_8859_1 8859 cp819"), ("utf-8", "utf_8 utf8 u8 utf cp65001"), ("utf-8-sig", "utf_8_sig"), ("utf-16", "utf_16 utf16 u16"),
  ("utf-16-le", "utf_16_le utf_16le"), ("utf-16-be", "utf_16_be utf_16be"), ("utf-32", "utf_32 utf32 u32"), ("utf-32-le", "utf_32_le utf_32le"), ("utf-32-be", "utf_32_be utf_32be"), ("utf-7", "utf_7 utf7 u7"), ("unicode-escape", "unicode_escape"),
  ("raw-unicode-escape", "raw_unicode_escape"), ("cp1252", "cp1252 1252 windows_1252"), ("iso8859-15", "iso8859_15 iso_8859_15 l9 latin9"), ("koi8-r", "koi8_r cskoi8r"), ("punycode", "punycode")]
def knownIn (nm : Str) : List (Str × Str) → Option Str
  | [] => none
  | q :: r => if (Txt.split q.2 " ").contains nm = true then some q.1 else knownIn nm r
def knownName (nm : Str) : Option Str := knownIn nm codecsL
/-! ### objects -/
def regF (q h : Addr) : List (Str × Dat) := [("searchers", .lst []), ("found_codecs", .ref q), ("own_handlers", .ref h)]
def codF (r : Dat) (n k : Str) : List (Str × Dat) := [("registry", r), ("name", .str n), ("kind", .str k), ("table", .non), ("back", .non)]
def RegAt (G : AG) (r q : Addr) (kv : List (Key × Dat)) : Prop := r ≠ q ∧ G q = some (.dk kv) ∧ ∃ h, G r = some (.ins "Registry" (regF q h))
def CodAt (G : AG) (c r : Addr) (k : Str) : Prop := G c = some (.ins "Codec" (codF (.ref r) k k))
theorem satA {Γ : Gam} {f C : Str} {v : Dat} {p : Addr} {G : AG} {Q : AG → Prop} {fs fs' : List (Str × Dat)} (h : G p = some (.ins C fs)) (a : Γ.at_ C f = true) (l : fs.length < 1000) (e : putD f v fs = fs') (q : Q (gu G p (.ins C fs'))) : satW Γ f v (.ref p) G Q :=
  ⟨C, fs, h, a, l, by rw [e]; exact q⟩
theorem sub_put {G G' : AG} {r : Addr} {o : AO} (s : Sub (gx G r) G') : Sub (gx G r) (gu G' r o) := fun b u e => by
  by_cases c : b = r
  · subst c; rw [gx_same] at e; cases e
  · rw [gu_ne c]; exact s b u e
theorem gu_o {G : AG} {a b : Addr} {o u : AO} (h : G a = none) (h2 : G b = some u) : gu G a o b = some u := by
  rw [gu_ne (fun c => by subst c; rw [h] at h2; cases h2)]; exact h2
def isTab (nm : Str) : Bool := (["cp1252", "iso8859-15", "koi8-r"] : List Str).contains nm
end Av
set_option Elab.async false
set_option linter.all false
set_option maxRecDepth 100000
set_option maxHeartbeats 4000000
/-! # LibC: codecs that write without handlers; the laws' common defs -/
namespace Av
open PySem PySem.Spec PyProof.Rows L2
variable [Tb]
def isCode (c : Int) : Prop := 0 ≤ c ∧ c ≤ 1114111
theorem lst_ref {G : AG} {p : Addr} {ds : List Dat} (h : G p = some (.lst ds)) : lstOf G (.ref p) = some ds := by simp only [lstOf, h]
/-- a codec that writes: its kind, the def that writes, what it takes, what it writes -/
structure Wr where
  kind : Str
  fnm : Str
  ok : List Int → Prop
  out : List Int → List Int
def c_write (W : Wr) : Con := fun ds G Q X => ∃ cs a, ds = [.tup (di cs), a] ∧ W.ok cs ∧ Q (.tup (di (W.out cs))) G
def f_write (W : Wr) : FnE := { con := c_write W, ar := 2, len := fun ds G Q X ⟨_, _, h, _⟩ => by rw [h]; rfl }
def writersL : List (Key × Dat) := [(.inr "ascii", .gf "write_ascii"), (.inr "iso8859-1", .gf "write_latin"), (.inr "utf-8", .gf "write_utf8"), (.inr "utf-8-sig", .gf "write_signed"), (.inr "utf-7", .gf "write_utf7"), (.inr "unicode-escape", .gf "write_escape"), (.inr "raw-unicode-escape", .gf "write_raw_escape"), (.inr "punycode", .gf "write_punycode")]
structure WrOk (Γ : Gam) (W : Wr) : Prop where
  fn : Γ.fn W.fnm = some (f_write W)
  k1 : decide (W.kind = "charmap") = false
  k2 : lookD writersL (.inr W.kind) = some (.gf W.fnm)
  k3 : decide (W.kind = "utf-8-sig") = false
theorem attA {Γ : Gam} {f C : Str} {p : Addr} {G : AG} {Q : AQ} {fs : List (Str × Dat)} {d : Dat} (h : G p = some (.ins C fs)) (a : Γ.at_ C f = true) (l : fs.lookup f = some d) (q : Q d G) : attW Γ f (.ref p) G Q := ⟨C, fs, d, h, a, l, q⟩
def encF (c : Addr) (e : Dat) : List (Str × Dat) := [("codec", .ref c), ("errors", e)]
def EncAt (G : AG) (n c : Addr) (e : Dat) : Prop := G n = some (.ins "Encoder" (encF c e))
def codesOf (w : Str) : List Int := w.cps.toList.map fun (c : Nat) => (c : Int)
theorem rngD_len (a : Int) (n : Nat) : (rngD a n).length = n := by simp [rngD]
theorem dr_ne {G : AG} {p a : Addr} {o u : AO} {n : Nat} (h : G p = some o) (d : DrO n o) (h2 : G a = some u) (hu : ∀ ds, u ≠ .lst ds) : a ≠ p := fun c => by
  subst c
  obtain ⟨x, y, z, e, _⟩ := d
  rw [h] at h2
  cases h2
  exact hu _ e
theorem RegAt.dr {G : AG} {p r q : Addr} {o o' : AO} {n : Nat} {kv : List (Key × Dat)} (R : RegAt G r q kv) (h : G p = some o) (d : DrO n o) : RegAt (gu G p o') r q kv := by
  obtain ⟨h1, h2, hh, h3⟩ := R
  exact ⟨h1, by rw [gu_ne (dr_ne h d h2 (by simp))]; exact h2, hh, by rw [gu_ne (dr_ne h d h3 (by simp))]; exact h3⟩
theorem CodAt.dr {G : AG} {p c r : Addr} {o o' : AO} {n : Nat} {k : Str} (R : CodAt G c r k) (h : G p = some o) (d : DrO n o) : CodAt (gu G p o') c r k := by
  unfold CodAt at *
  rw [gu_ne (dr_ne h d R (by simp))]; exact R
theorem EncAt.dr {G : AG} {p c r : Addr} {o o' : AO} {n : Nat} {k : Dat} (R : EncAt G c r k) (h : G p = some o) (d : DrO n o) : EncAt (gu G p o') c r k := by
  unfold EncAt at *
  rw [gu_ne (dr_ne h d R (by simp))]; exact R
theorem same_ints {G : AG} {n : Nat} : ∀ (xs : List Int) (i : Nat) (a b : Dat), (di xs)[i]? = some a → (di xs)[i]? = some b → SameN G n a b := fun xs i a b h1 h2 => by
  rw [h1] at h2
  cases h2
  unfold di at h1
  rw [List.getElem?_map] at h1
  cases e : xs[i]? with
  | none => rw [e] at h1; cases h1
  | some y =>
    rw [e] at h1
    cases h1
    cases n with
    | zero => exact ⟨rfl, rfl⟩
    | succ n => exact .inl ⟨rfl, rfl⟩
theorem same_row {G : AG} {n : Nat} {xs : List Int} (h : xs.length ≤ sizeLine) : SameN G (n + 1) (.tup (di xs)) (.tup (di xs)) :=
  .inr (.inl ⟨_, _, rfl, rfl, rfl, by rw [List.length_map]; exact h, same_ints xs⟩)
end Av
set_option Elab.async false
set_option linter.all false
set_option maxRecDepth 100000
set_option maxHeartbeats 4000000
/-! # AvZ: steps by rewriting -/
namespace Av
open PySem PySem.Spec PyProof.Rows L2
variable [Tb]
theorem big : 100000 ≤ sizeLine := by decide
/-- the items of what stands at an address -/
def lstA : Option AO → Option (List Dat)
  | some (.lst ds) => some ds
  | _ => none
section
variable {z n : Bool} {i j k : Int} {x y : Dat} {a b : List Dat} {s t : Str} {G : AG} {Q : AQ} {p : Addr} {ρ : Env'}
theorem zb : binW z .add (.int i) (.int j) G Q = Q (.int (i + j)) G := rfl
theorem zd : binW z .sub (.int i) (.int j) G Q = Q (.int (i - j)) G := rfl
theorem zo : binW z .add (.lst a) (.lst b) G Q = nw z (a ++ b) G Q := by
  have : binW z .add (.lst a) (.lst b) G Q = ∃ a' b', lstOf G (.lst a) = some a' ∧ lstOf G (.lst b) = some b' ∧ nw z (a' ++ b') G Q := rfl
  rw [this]
  simp [lstOf]
theorem zp : binW z .mul (.lst a) (.int k) G Q = (-(2 ^ 63) ≤ k ∧ k < 2 ^ 63 ∧ nw z (List.replicate k.toNat a).flatten G Q) := by
  have : binW z .mul (.lst a) (.int k) G Q = ∃ a', lstOf G (.lst a) = some a' ∧ -(2 ^ 63) ≤ k ∧ k < 2 ^ 63 ∧ nw z (List.replicate k.toNat a').flatten G Q := rfl
  rw [this]
  simp [lstOf]
theorem zv : nw true a G Q = (a.length ≤ sizeLine ∧ Q (.lst a) G) := rfl
theorem zw : nw false a G Q = (a.length ≤ sizeLine ∧ ∀ p, G p = none → Q (.ref p) (gu G p (.lst a))) := rfl
theorem zx : cmpW .lt (.int i) (.int j) G Q = Q (.bl (decide (i < j))) G := rfl
theorem zA : cmpW .gt (.int i) (.int j) G Q = Q (.bl (decide (j < i))) G := rfl
theorem zB : cmpW .ge (.int i) (.int j) G Q = Q (.bl (decide (j ≤ i))) G := rfl
theorem zC : cmpW .isn x .non G Q = Q (.bl (isNonD x)) G := rfl
theorem zD : cmpW .isnt x .non G Q = Q (.bl (!isNonD x)) G := rfl
theorem deep_int_inv {P : PyData} (h : Deep G (.int i) P) : P = .int i := by cases h; rfl
theorem eqv_int : PyData.eqv (.int i) (.int j) = decide (i = j) := by
  have h : PyData.eqv (.int i) (.int j) = (i == j) := by simp [PyData.eqv]
  rw [h]
  by_cases c : i = j
  · simp [c]
  · simp [c]
theorem dec_int : decide (toV (.int i) = toV (.int j)) = decide (i = j) := by
  by_cases c : i = j
  · rw [c]; simp
  · rw [decide_eq_false c, decide_eq_false_iff_not]
    exact fun h => c (by cases h; rfl)
theorem eqW_int : eqW n (.int i) (.int j) G Q = Q (.bl (if n then !decide (i = j) else decide (i = j))) G := by
  refine propext ⟨fun h => ?_, fun q => .inl ⟨rfl, by rw [dec_int]; exact q⟩⟩
  rcases h with ⟨_, h⟩ | ⟨P, R, h1, h2, _, _, h⟩
  · rw [dec_int] at h; exact h
  · rw [deep_int_inv h1, deep_int_inv h2, eqv_int] at h; exact h
theorem zG : cmpW .eq (.int i) (.int j) G Q = Q (.bl (decide (i = j))) G := by
  show eqW false (.int i) (.int j) G Q = _
  rw [eqW_int]; rfl
theorem zJ {b : Bool} {q : Bool → AG → Prop} : truW (.bl b) G q = q b G := rfl
theorem zQ {b : Bool} {q : Bool → AG → Prop} : boolW q (.bl b) G = q b G := rfl
theorem zR {q : Int → AG → Prop} : intK q (.int i) G = q i G := rfl
theorem zS : seqOf G (.tup a) = some a := rfl
theorem zU : seqOf G (.lst a) = some a := rfl
theorem zW : seqOf G (.ref p) = lstA (G p) := by unfold seqOf lstOf lstA; rfl
theorem zY : lstOf G (.ref p) = lstA (G p) := by unfold lstOf lstA; rfl
theorem ya : rdOf G (.lst a) = some a := rfl
theorem yc : lstA (some (.lst a)) = some a := rfl
theorem yi {lo hi : Option Int} : slW z (.lst a) lo hi G Q = nw z (cutD a lo hi) G Q := by
  have : slW z (.lst a) lo hi G Q = ∃ ds, lstOf G (.lst a) = some ds ∧ nw z (cutD ds lo hi) G Q := rfl
  rw [this]; simp [lstOf]
theorem yj {lo hi : Option Int} : slW z (.ref p) lo hi G Q = ∃ ds, lstA (G p) = some ds ∧ nw z (cutD ds lo hi) G Q := by
  have : slW z (.ref p) lo hi G Q = ∃ ds, lstOf G (.ref p) = some ds ∧ nw z (cutD ds lo hi) G Q := rfl
  rw [this, zY]
theorem yk : bltW z .len [x] G Q = ∃ ds, seqOf G x = some ds ∧ Q (.int ds.length) G := rfl
theorem ym {b : Bool} : bltW z .int [.bl b] G Q = Q (.int (if b then 1 else 0)) G := rfl
theorem yn : bltW z .tuple [x] G Q = ∃ ds, seqOf G x = some ds ∧ Q (.tup ds) G := rfl
theorem yo : bltW z .list [x] G Q = ∃ ds, seqOf G x = some ds ∧ nw z ds G Q := rfl
theorem yq : bltW z .isinst [x, y] G Q = isiW x y G Q := rfl
theorem yv : bltW z .max2 [.int i, .int j] G Q = Q (.int (if j > i then j else i)) G := rfl
theorem yw : methW .append (.ref p) [y] G Q = ∃ ds, G p = some (.lst ds) ∧ ds.length < sizeLine ∧ Q .non (gu G p (.lst (ds ++ [y]))) := rfl
theorem yx : methW .extend (.ref p) [y] G Q = ∃ ds es, G p = some (.lst ds) ∧ rdOf G y = some es ∧ ds.length + es.length ≤ sizeLine ∧ Q .non (gu G p (.lst (ds ++ es))) := rfl
theorem za {Γ : Gam} {A : AEnds} : wSs Γ [] ρ G A = A.nx ρ G := by rw [wSs]
theorem some_inj {α : Type} {a b : α} : (some a = some b) = (a = b) := Option.some.injEq a b
end
/-- one statement, what holds behind it, the others -/
theorem sq_of {Γ : Gam} {s : S} {ss : List S} {ρ : Env'} {G : AG} {A : AEnds} (E : Env' → AG → Prop) (tail : ∀ ρ G, E ρ G → wSs Γ ss ρ G A) (body : ∀ Nx : Env' → AG → Prop, (∀ ρ G, E ρ G → Nx ρ G) → wS Γ s ρ G { A with nx := Nx }) : wSs Γ (s :: ss) ρ G A := by
  rw [wSs]; exact body _ tail
end Av
set_option Elab.async false
set_option linter.all false
set_option maxRecDepth 100000
set_option maxHeartbeats 4000000
/-! # LibD: drawn rows -/
namespace Av
open PySem PySem.Spec PyProof.Rows L2
variable [Tb]
/-- a comprehension whose elements are drawn, at most w draws each -/
theorem lc_draws {elt : Env' → AG → AQ → Prop} {g : TGt} {own : List Nat} {ρ : Env'} {Q : AQ} {G : AG} {p : Addr} {n w : Nat} {o : AO} {P : Dat → Prop} {ds : List Dat} (ho : DrO (n + w * ds.length) o) (hl : ds.length ≤ sizeLine)
    (h : ∀ d ∈ ds, ∀ (m : Nat) (o' : AO) (Q' : AQ), DrO (m + w) o' → (∀ y o'', P y → DrO m o'' → Q' y (gu G p o'')) → tgW g d (wipeD ρ own) fun ρ1 => elt ρ1 (gu G p o') Q')
    (q : ∀ ys o', (∀ y ∈ ys, P y) → ys.length = ds.length → DrO n o' → Q (.lst ys) (gu G p o')) : lcW true elt g own [] ρ Q ds [] (gu G p o) := by
  refine lcW_of (fun rem acc G' => ∃ o' pre, ds = pre ++ rem ∧ (∀ y ∈ acc, P y) ∧ G' = gu G p o' ∧ DrO (n + w * rem.length) o' ∧ acc.length = pre.length) ?_ ?_ _ _ _ ⟨o, [], rfl, by simp, rfl, ho, rfl⟩
  · rintro d rem acc G' N hN ⟨o', pre, rfl, k1, rfl, k2, k3⟩
    refine ⟨trivial, ?_⟩
    refine h d (by simp) (n + w * rem.length) o' _ (k2.mono (by rw [List.length_cons, Nat.mul_succ]; omega)) fun y o'' hy ho'' => ⟨?_, hN _ _ ⟨o'', pre ++ [d], by simp, ?_, rfl, ho'', by simp [k3]⟩⟩
    · simp at hl; omega
    · intro x hx
      rcases List.mem_append.1 hx with h | h
      · exact k1 x h
      · rw [List.mem_singleton.1 h]; exact hy
  · rintro acc G' ⟨o', pre, rfl, k1, rfl, k2, k3⟩
    refine ⟨trivial, ?_⟩
    simp only [if_true]
    exact q acc o' k1 (by simp [k3]) (k2.mono (by simp))
omit [Tb] in
theorem ints_of {P : Int → Prop} : ∀ {ys : List Dat}, (∀ y ∈ ys, ∃ c, y = .int c ∧ P c) → ∃ es, ys = di es ∧ ∀ c ∈ es, P c
  | [], _ => ⟨[], rfl, by simp⟩
  | y :: ys, h => by
    obtain ⟨c, rfl, hc⟩ := h y (List.mem_cons_self ..)
    obtain ⟨es, rfl, he⟩ := ints_of fun z hz => h z (List.mem_cons_of_mem _ hz)
    exact ⟨c :: es, rfl, fun x hx => (List.mem_cons.1 hx).elim (fun e => e ▸ hc) (he x)⟩
theorem rt_ {Q : AQ} {X : AX} {d : Dat} {G : AG} (h : Q d G) : (endsOf Q X).rt d G := ⟨G, .refl G, h⟩
end Av
set_option Elab.async false
set_option linter.all false
set_option maxRecDepth 100000
set_option maxHeartbeats 4000000
/-! # LibE: registries whose names lead to known codecs -/
namespace Av
open PySem PySem.Spec PyProof.Rows L2
variable [Tb]
/-- a registry whose found codecs are known ones, no charmaps; at most m are found -/
def RegW (G : AG) (r q : Addr) (m : Nat) : Prop := ∃ kv, RegAt G r q kv ∧ kv.length ≤ m ∧ ∀ nn d, lookD kv (.inr nn) = some d → ∃ c nm, d = .ref c ∧ knownName nn = some nm ∧ isTab nm = false ∧ CodAt G c r nm
theorem RegW.new {G : AG} {r q : Addr} (h : RegAt G r q []) : RegW G r q 0 := ⟨[], h, Nat.le_refl _, fun _ _ h => by cases h⟩
theorem RegW.mono {G : AG} {r q : Addr} {m n : Nat} (h : RegW G r q m) (l : m ≤ n) : RegW G r q n := by
  obtain ⟨kv, h1, h2, h3⟩ := h
  exact ⟨kv, h1, Nat.le_trans h2 l, h3⟩
/-- something that is no part of it changes -/
theorem RegW.keep {G G' : AG} {r q p : Addr} {m : Nat} {l : List Dat} (h : RegW G r q m) (hp : G p = some (.lst l)) (s : Sub (gx G p) G') : RegW G' r q m := by
  obtain ⟨kv, ⟨h0, h1, hh, h2⟩, h3, h4⟩ := h
  have k : ∀ a o, G a = some o → (∀ l, o ≠ .lst l) → G' a = some o := fun a o e n => s a o (by rw [gx_ne fun c => by subst c; rw [hp] at e; cases e; exact n _ rfl]; exact e)
  refine ⟨kv, ⟨h0, k _ _ h1 (by simp), hh, k _ _ h2 (by simp)⟩, h3, fun nn d e => ?_⟩
  obtain ⟨c, nm, k1, k2, k3, k4⟩ := h4 nn d e
  exact ⟨c, nm, k1, k2, k3, k _ _ k4 (by simp)⟩
theorem RegW.sub {G G' : AG} {r q : Addr} {m : Nat} (h : RegW G r q m) (s : Sub G G') : RegW G' r q m := by
  obtain ⟨kv, ⟨h0, h1, hh, h2⟩, h3, h4⟩ := h
  refine ⟨kv, ⟨h0, s _ _ h1, hh, s _ _ h2⟩, h3, fun nn d e => ?_⟩
  obtain ⟨c, nm, k1, k2, k3, k4⟩ := h4 nn d e
  exact ⟨c, nm, k1, k2, k3, s _ _ k4⟩
theorem RegW.dr {G : AG} {p r q : Addr} {o o' : AO} {n m : Nat} (R : RegW G r q m) (h : G p = some o) (d : DrO n o) : RegW (gu G p o') r q m := by
  obtain ⟨a, b, c, e, _⟩ := d
  subst e
  exact R.keep h (sub_put Sub.gx)
theorem RegW.q {G : AG} {r q : Addr} {m : Nat} (R : RegW G r q m) : ∃ kv, G q = some (.dk kv) := by
  obtain ⟨kv, ⟨_, h, _⟩, _⟩ := R; exact ⟨kv, h⟩
theorem RegW.other {G G' : AG} {r q a : Addr} {m : Nat} {u : AO} (R : RegW G r q m) (h : G a = some u) (hu : ∀ kv, u ≠ .dk kv) (s : Sub (gx G q) G') : G' a = some u := by
  obtain ⟨kv, hq⟩ := R.q
  exact s a u (by rw [gx_ne fun c => by subst c; rw [h] at hq; cases hq; exact hu _ rfl]; exact h)
end Av
set_option Elab.async false
set_option linter.all false
set_option maxRecDepth 100000
set_option maxHeartbeats 4000000
/-! # LibZ: steps that many laws share -/
namespace Av
open PySem PySem.Spec PyProof.Rows L2
variable [Tb]
/-! ### steps -/
omit [Tb] in
theorem cut_to {ds : List Dat} {a : Int} (h : 0 ≤ a) : cutD ds none (some a) = ds.take a.toNat := by
  have e : a = ((a.toNat : Nat) : Int) := by omega
  unfold cutD
  rw [e, HT.sIx_nat, HT.sIx_none]
  simp only [List.drop_zero, Nat.sub_zero, Int.toNat_natCast]
  by_cases c : a.toNat ≤ ds.length
  · rw [Nat.min_eq_left c]
  · rw [Nat.min_eq_right (by omega), List.take_length, List.take_of_length_le (by omega)]
/-! ### a law -/
def c_lawF : Con := fun ds G Q X => ∃ sc ns, ds = [sc] ∧ fixOf sc = some (List.map Dat.int ns) ∧ ∀ G', Q (.bl true) G'
def f_lawF : FnE := { con := c_lawF, ar := 1, len := fun ds G Q X ⟨_, _, h, _⟩ => by rw [h]; rfl }
/-! ### loops over a range -/
theorem forRng {body : Env' → AG → AEnds → Prop} {i : Nat} {A : AEnds} {m : Nat} (I : Nat → Env' → AG → Prop)
    (step : ∀ j ρ G (N : Env' → AG → Prop), j < m → (∀ ρ G, I (j + 1) ρ G → N ρ G) → I j ρ G → body (ρ.set i (some (.int (j : Nat)))) G { A with nx := N, ct := N, bk := A.nx })
    (done : ∀ ρ G, I m ρ G → A.nx ρ G) : ∀ ρ G, I 0 ρ G → forW body (.nm i) [] A (rngD 0 m) ρ G := by
  have key : ∀ (k j : Nat), j + k = m → ∀ ρ G, I j ρ G → forW body (.nm i) [] A ((rngD 0 m).drop j) ρ G := by
    intro k
    induction k with
    | zero =>
      intro j hj ρ G h
      rw [List.drop_eq_nil_of_le (by rw [rngD_len]; omega)]
      have : j = m := by omega
      subst this
      exact ⟨trivial, done ρ G h⟩
    | succ k ih =>
      intro j hj ρ G h
      have hl : j < (rngD 0 m).length := by rw [rngD_len]; omega
      have e : (rngD 0 m)[j] = .int (j : Nat) := by simp [rngD]
      rw [List.drop_eq_getElem_cons hl, e]
      exact ⟨trivial, step j ρ G _ (by omega) (fun ρ G h => ih (j + 1) (by omega) ρ G h) h⟩
  intro ρ G h
  have := key m 0 (by omega) ρ G h
  simpa using this
end Av
set_option Elab.async false
set_option linter.all false
set_option maxRecDepth 100000
set_option maxHeartbeats 4000000
/-! # LibF0: digits of base 16 -/
namespace Av
open PySem PySem.Spec PyProof.Rows L2
variable [Tb]
def sgn (d : Int) : Int := if d < 10 then 48 + d else 87 + d
def digs (n : Int) : Nat → List Int
  | 0 => []
  | k + 1 => sgn (n % 16) :: digs (n / 16) k
def hexN (n : Int) (k : Nat) : List Int := (digs n k).reverse
end Av
set_option Elab.async false
set_option linter.all false
set_option maxRecDepth 100000
set_option maxHeartbeats 4000000
/-! # LibH0: errors as values, known handlers, answers checked -/
namespace Av
open PySem PySem.Spec PyProof.Rows L2
variable [Tb]
def decFl : List Str := ["codec", "source", "start", "end", "reason"]
abbrev excD (C c : Str) (P : List Int) (s e : Nat) (w : Str) : Dat := .exc C decFl [.str c, .tup (di P), .int (s : Nat), .int (e : Nat), .str w]
/-- what is told of the two classes -/
structure ExT : Prop where
  oE : Tb.exo "EncodeError" = true
  oD : Tb.exo "DecodeError" = true
  ee : Tb.sub (.inr "EncodeError") (.inr "EncodeError") = some true
  ed : Tb.sub (.inr "EncodeError") (.inr "DecodeError") = some false
  de : Tb.sub (.inr "DecodeError") (.inr "EncodeError") = some false
  dd : Tb.sub (.inr "DecodeError") (.inr "DecodeError") = some true
structure XG (Γ : Gam) : Prop where
  t : ExT
  gE : Γ.gl "EncodeError" = some (.gf "EncodeError")
  gD : Γ.gl "DecodeError" = some (.gf "DecodeError")
  xE : Γ.xc "EncodeError" = some decFl
  xD : Γ.xc "DecodeError" = some decFl
section
variable {Γ : Gam} {C c w : Str} {P : List Int} {s e : Nat} {G : AG} {Q : AQ}
end
def c_range : Con := fun ds G Q X => ∃ C c P s e w, ds = [excD C c P s e w] ∧ (C = "EncodeError" ∨ C = "DecodeError") ∧ s ≤ e ∧ e ≤ P.length ∧ Q (.tup (di ((P.drop s).take (e - s)))) G
def f_range : FnE := { con := c_range, ar := 1, len := fun ds G Q X ⟨_, _, _, _, _, _, h, _⟩ => by rw [h]; rfl }
def c_isInt : Con := fun ds G Q X => ∃ i, ds = [.int i] ∧ Q (.bl true) G
def f_isInt : FnE := { con := c_isInt, ar := 1, len := fun ds G Q X ⟨_, h, _⟩ => by rw [h]; rfl }
def c_areC : Con := fun ds G Q X => ∃ cs, ds = [.tup (di cs)] ∧ (∀ c ∈ cs, isCode c) ∧ cs.length ≤ 100000 ∧ Q (.bl true) G
def f_areC : FnE := { con := c_areC, ar := 1, len := fun ds G Q X ⟨_, h, _⟩ => by rw [h]; rfl }
def c_chk : Con := fun ds G Q X => ∃ c P s e w hw p, ds = [excD "DecodeError" c P s e w, .tup [.str "text", .tup (di hw), .int (p : Nat)]] ∧ (∀ c ∈ hw, isCode c) ∧ hw.length ≤ 100000 ∧ p ≤ P.length ∧ Q (.tup [.str "text", .tup (di hw), .int (p : Nat)]) G
def f_chk : FnE := { con := c_chk, ar := 2, len := fun ds G Q X ⟨_, _, _, _, _, _, _, h, _⟩ => by rw [h]; rfl }
structure CkG (Γ : Gam) : Prop where
  x : XG Γ
  tup : Γ.gl "tuple" = some (.ty "tuple")
  ac : Γ.fn "are_codes" = some f_areC
  ii : Γ.fn "is_integer" = some f_isInt
/-! ### Answers -/
def knownL : List (Key × Dat) := [(.inr "strict", .gf "answer_strict"), (.inr "ignore", .gf "answer_ignore"), (.inr "replace", .gf "answer_replace"), (.inr "xmlcharrefreplace", .gf "answer_xmlcharrefreplace"), (.inr "backslashreplace", .gf "answer_backslashreplace"), (.inr "surrogateescape", .gf "answer_surrogateescape"), (.inr "surrogatepass", .gf "answer_surrogatepass")]
abbrev ansB (r e d : Dat) : List (Str × Dat) := [("registry", r), ("errors", e), ("handler", d)]
end Av
set_option Elab.async false
set_option linter.all false
set_option maxRecDepth 100000
set_option maxHeartbeats 4000000
/-! # LibQ: codecs that read without asking a handler; buffered decoders -/
namespace Av
open PySem PySem.Spec PyProof.Rows L2
variable [Tb]
/-- a codec that reads: what is known of what it tells -/
structure Rr where
  kind : Str
  fnm : Str
  spec : List Int → Bool → (Dat → Prop) → Prop
def c_reader (K : Rr) : Con := fun ds G Q X => ∃ P a final R, ds = [.tup (di P), a, .bl final] ∧ K.spec P final R ∧ ∀ d, R d → Q d G
def f_reader (K : Rr) : FnE := { con := c_reader K, ar := 3, len := fun ds G Q X ⟨_, _, _, _, h, _⟩ => by rw [h]; rfl }
def readersL : List (Key × Dat) := [(.inr "ascii", .gf "read_ascii"), (.inr "iso8859-1", .gf "read_latin"), (.inr "utf-8", .gf "read_utf8"), (.inr "utf-8-sig", .gf "read_signed"), (.inr "utf-7", .gf "read_utf7"), (.inr "unicode-escape", .gf "read_escape"), (.inr "raw-unicode-escape", .gf "read_raw_escape"), (.inr "punycode", .gf "read_punycode")]
def unbD : List Dat := [.str "ascii", .str "iso8859-1", .str "cp1252", .str "iso8859-15", .str "koi8-r", .str "charmap", .str "punycode"]
structure RrOk (Γ : Gam) (K : Rr) : Prop where
  fn : Γ.fn K.fnm = some (f_reader K)
  k1 : decide (K.kind = "charmap") = false
  k2 : lookD readersL (.inr K.kind) = some (.gf K.fnm)
/-! ### buffered decoders -/
def bufF (c : Addr) (e : Dat) (buf : List Int) (fl : Int) : List (Str × Dat) := [("codec", .ref c), ("errors", e), ("buffer", .tup (di buf)), ("flag", .int fl)]
def c_bufInit : Con := fun ds G Q X => ∃ n c e, ds = [.ref n, .ref c, e] ∧ G n = some (.ins "BufferedDecoder" []) ∧ Q .non (gu G n (.ins "BufferedDecoder" (bufF c e [] 0)))
def f_bufInit : FnE := { con := c_bufInit, ar := 3, len := fun ds G Q X ⟨_, _, _, h, _⟩ => by rw [h]; rfl }
structure DoOk (Γ : Gam) (OK : Rr → Prop) : Prop where
  unb : Γ.gl "UNBUFFERED" = some (.tup unbD)
  marks : ∃ tb, Γ.dc "MARKS_incremental" = some tb ∧ ∀ K, OK K → lookD tb (.inr K.kind) = none ∧ decide (K.kind = "utf-8-sig") = false ∧ (unbD.any fun d => eqF d (.str K.kind)) = false
  init : Γ.mke "BufferedDecoder" = some f_bufInit
end Av
set_option Elab.async false
set_option linter.all false
set_option maxRecDepth 100000
set_option maxHeartbeats 4000000
/-! # LibSp: surrogates as they are, in the codecs of SIZES -/
namespace Av
open PySem PySem.Spec PyProof.Rows L2
variable [Tb]
def sizesH : List (Key × Dat) := [(.inr "utf-8", .int 3), (.inr "utf-16", .int 2), (.inr "utf-16-le", .int 2), (.inr "utf-16-be", .int 2), (.inr "utf-32", .int 4), (.inr "utf-32-le", .int 4), (.inr "utf-32-be", .int 4)]
def isSur (c : Int) : Bool := decide (55296 ≤ c) && decide (c < 57344)
def sizeN (cdc : Str) : Option Nat := if cdc = "utf-8" then some 3 else if cdc = "utf-16" ∨ cdc = "utf-16-le" ∨ cdc = "utf-16-be" then some 2 else if cdc = "utf-32" ∨ cdc = "utf-32-le" ∨ cdc = "utf-32-be" then some 4 else none
def bigC (cdc : Str) : Bool := decide (Txt.slice cdc (some (-2)) none = ("be" : Str))
def surB (z : Nat) (big : Bool) (c : Int) : List Int :=
  if z = 3 then [224 + c / 4096, 128 + c / 64 % 64, 128 + c % 64] else if big = true then ([c % 256, c / 256] ++ List.replicate (z - 2) 0).reverse else [c % 256, c / 256] ++ List.replicate (z - 2) 0
def surN (z : Nat) (big : Bool) (row : List Int) : Int :=
  if z = 3 then (row.getD 0 0 - 224) * 4096 + (row.getD 1 0 - 128) * 64 + row.getD 2 0 - 128 else (if big = true then row.reverse else row).getD 0 0 + (if big = true then row.reverse else row).getD 1 0 * 256
def surAt (src : List Int) (s z : Nat) (big : Bool) : Option Int :=
  if ((src.drop s).take z).length < z then none else if isSur (surN z big ((src.drop s).take z)) = true ∧ surB z big (surN z big ((src.drop s).take z)) = (src.drop s).take z then some (surN z big ((src.drop s).take z)) else none
end Av
set_option Elab.async false
set_option linter.all false
set_option maxRecDepth 100000
set_option maxHeartbeats 4000000
/-! # LibJ: errors of reading, the known handlers, what they answer -/
namespace Av
open PySem PySem.Spec PyProof.Rows L2
variable [Tb]
structure Er where
  cdc : Str
  src : List Int
  s : Nat
  e : Nat
  why : Str
abbrev Er.dat (x : Er) : Dat := excD "DecodeError" x.cdc x.src x.s x.e x.why
def Er.fs (x : Er) : List (Str × Dat) := [("reason", .str x.why), ("end", .int (x.e : Nat)), ("start", .int (x.s : Nat)), ("source", .tup (di x.src)), ("codec", .str x.cdc)]
structure Er.Ok (x : Er) : Prop where
  se : x.s < x.e
  le : x.e ≤ x.src.length
  by_ : ∀ b ∈ x.src, 0 ≤ b ∧ b ≤ 255
  len : x.src.length ≤ 20000
inductive An where
  | ok (cs : List Int) (q : Nat)
  | raise (C : Str) (fs : List (Str × Dat))
def Er.rng (x : Er) : List Int := (x.src.drop x.s).take (x.e - x.s)
def escB (b : Int) : List Int := [92, 120] ++ hexN b 2
def leadN : List Int → Nat
  | [] => 0
  | b :: r => if 127 < b then leadN r + 1 else 0
/-- a surrogate that stands there -/
def spE (x : Er) : An := match sizeN x.cdc with
  | none => .raise "DecodeError" x.fs
  | some z => match surAt x.src x.s z (bigC x.cdc) with
    | none => .raise "DecodeError" x.fs
    | some c => .ok [c] (x.s + z)
/-- what a name's handler does about an error of reading; own ones: none -/
def hndK (nm : Str) (x : Er) : An :=
  if nm = "ignore" then .ok [] x.e
  else if nm = "replace" then .ok [65533] x.e
  else if nm = "backslashreplace" then .ok (x.rng.flatMap escB) x.e
  else if nm = "surrogateescape" then (if leadN (x.rng.take 4) = 0 then .raise "DecodeError" x.fs else .ok ((x.rng.take (leadN (x.rng.take 4))).map (· + 56320)) (x.s + leadN (x.rng.take 4)))
  else if nm = "xmlcharrefreplace" then .raise "BadAnswer" []
  else if nm = "strict" then .raise "DecodeError" x.fs
  else if nm = "surrogatepass" then spE x
  else .raise "NoHandler" [("name", .str nm)]
def anW (a : An) (G : AG) (Q : AQ) (X : AX) : Prop := match a with
  | .ok cs q => Q (.tup [.str "text", .tup (di cs), .int (q : Nat)]) G
  | .raise C fs => X C fs G
/-- what is raised, at the end of a def -/
theorem exS {Q : AQ} {X : AX} {ρ : Env'} {C : Str} {fs : List (Str × Dat)} {G G' : AG} (s : Sub G G') (h : X C fs G) : (endsOf Q X).ex ρ C fs G' := ⟨G, s, h⟩
/-! ### raised again -/
def c_again : Con := fun ds G Q X => ∃ x : Er, ds = [x.dat] ∧ X "DecodeError" x.fs G
def f_again : FnE := { con := c_again, ar := 1, len := fun ds G Q X ⟨_, h, _⟩ => by rw [h]; rfl }
/-! ### handlers -/
def c_hnd (nm : Str) : Con := fun ds G Q X => ∃ x : Er, ds = [x.dat] ∧ x.Ok ∧ anW (hndK nm x) G Q X
def f_hnd (nm : Str) : FnE := { con := c_hnd nm, ar := 1, len := fun ds G Q X ⟨_, h, _⟩ => by rw [h]; rfl }
structure HG (Γ : Gam) : Prop where
  x : XG Γ
  rng : Γ.fn "range_of" = some f_range
  again : Γ.fn "raise_again" = some f_again
/-! ### escapes -/
end Av
set_option Elab.async false
set_option linter.all false
set_option maxRecDepth 100000
set_option maxHeartbeats 4000000
/-! # LibK: handlers asked, reading step by step, errors caught -/
namespace Av
open PySem PySem.Spec PyProof.Rows L2
variable [Tb]
/-- a registry and its own handlers -/
def RegK (G : AG) (r : Addr) (kv : List (Key × Dat)) : Prop := ∃ q h, G r = some (.ins "Registry" (regF q h)) ∧ G h = some (.dk kv)
/-- what stands stands, but for some addresses -/
def KeepO (ft : List Addr) (G G' : AG) : Prop := ∀ b u, b ∉ ft → G b = some u → G' b = some u
theorem KeepO.refl {ft : List Addr} {G : AG} : KeepO ft G G := fun _ _ _ h => h
theorem KeepO.trans {ft : List Addr} {G G1 G2 : AG} (a : KeepO ft G G1) (b : KeepO ft G1 G2) : KeepO ft G G2 := fun c u n h => b c u n (a c u n h)
theorem KeepO.put {ft : List Addr} {G G' : AG} {p : Addr} {o : AO} (a : KeepO ft G G') (h : p ∈ ft) : KeepO ft G (gu G' p o) := fun c u n e => by
  rw [gu_ne fun z => n (by rw [z]; exact h)]; exact a c u n e
theorem KeepO.new {ft : List Addr} {G G' : AG} {p : Addr} {o : AO} (a : KeepO ft G G') (h : G p = none) : KeepO ft G (gu G' p o) := fun c u n e => by
  rw [gu_ne fun z => by rw [z, h] at e; cases e]; exact a c u n e
theorem KeepO.sub {G G' G0 : AG} {p : Addr} (a : KeepO [p] G G') (h : G0 p = none) (s : Sub G0 G) : Sub G0 G' := fun c u e => a c u (fun z => by rw [List.mem_singleton.1 z, h] at e; cases e) (s c u e)
def c_hnX : Con := fun ds G Q X => ∃ r s kv, ds = [.ref r, .str s] ∧ RegK G r kv ∧ match lookD knownL (.inr s) with
  | some d => Q d G
  | none => match lookD kv (.inr s) with
    | some d => Q d G
    | none => X "NoHandler" [("name", .str s)] G
def f_hnX : FnE := { con := c_hnX, ar := 2, len := fun ds G Q X ⟨_, _, _, h, _⟩ => by rw [h]; rfl }
/-! ### askers -/
structure Asker where
  foot : List Addr
  own : List Addr
  inv : AG → List Er → Prop
  H : List Er → Er → An
  /-- any number of errors -/
  free : Bool
structure AskerOk (A : Asker) : Prop where
  dep : ∀ {G G' l}, A.inv G l → (∀ b ∈ A.own, G' b = G b) → A.inv G' l
  occ : ∀ {G l}, A.inv G l → ∀ b ∈ A.own, ∃ u, G b = some u
  sub : ∀ b ∈ A.foot, b ∈ A.own
def c_askX (AS : Addr → Asker → Prop) : Con := fun ds G Q X => ∃ a A l x, AS a A ∧ ds = [.ref a, Er.dat x] ∧ A.inv G l ∧ x.Ok ∧ (A.free = true ∨ l.length < 60000) ∧ ∀ G', KeepO A.foot G G' → A.inv G' (l ++ [x]) → anW (A.H l x) G' Q X
def f_askX (AS : Addr → Asker → Prop) : FnE := { con := c_askX AS, ar := 2, len := fun ds G Q X ⟨_, _, _, _, _, h, _⟩ => by rw [h]; rfl }
structure AskKG (Γ : Gam) : Prop where
  at_ : ∀ f ∈ (["registry", "errors", "handler"] : List Str), Γ.at_ "Answers" f = true
  hn : Γ.ms "Registry" "handler_named" = some f_hnX
  chk : Γ.fn "checked_answer" = some f_chk
  h1 : Γ.fn "answer_strict" = some (f_hnd "strict")
  h2 : Γ.fn "answer_ignore" = some (f_hnd "ignore")
  h3 : Γ.fn "answer_replace" = some (f_hnd "replace")
  h4 : Γ.fn "answer_xmlcharrefreplace" = some (f_hnd "xmlcharrefreplace")
  h5 : Γ.fn "answer_backslashreplace" = some (f_hnd "backslashreplace")
  h6 : Γ.fn "answer_surrogateescape" = some (f_hnd "surrogateescape")
  h7 : Γ.fn "answer_surrogatepass" = some (f_hnd "surrogatepass")
end Av
set_option Elab.async false
set_option linter.all false
set_option maxRecDepth 100000
set_option maxHeartbeats 4000000
/-! # LibL: reading step by step, with a handler; codecs that read so; errors caught -/
namespace Av
open PySem PySem.Spec PyProof.Rows L2
variable [Tb]
/-- what stands at a place: codes and the place behind; too short; codes ahead of an error, its end, its reason -/
inductive St where
  | put (cs : List Int) (q : Nat)
  | stop
  | err (pre : List Int) (e : Nat) (why : Str)
inductive RO where
  | val (cs : List Int) (k : Nat)
  | exc (C : Str) (fs : List (Str × Dat))
/-- a reading, in so many steps: errors so far, place, codes so far; errors in all, the end -/
inductive Rd' (st : Nat → St) (cdc : Str) (P : List Int) (H : List Er → Er → An) : Nat → List Er → Nat → List Int → List Er → RO → Prop
  | fin {l p acc} : P.length ≤ p → Rd' st cdc P H 0 l p acc l (.val acc P.length)
  | put {n l p acc l' o cs q} : p < P.length → st p = .put cs q → (acc ++ cs).length ≤ 90000 → Rd' st cdc P H n l q (acc ++ cs) l' o → Rd' st cdc P H (n + 1) l p acc l' o
  | stop {l p acc} : p < P.length → st p = .stop → Rd' st cdc P H 0 l p acc l (.val acc p)
  | ask {n l p acc l' o pre e w cs q} : p < P.length → st p = .err pre e w → H l ⟨cdc, P, p, e, w⟩ = .ok cs q → (acc ++ pre ++ cs).length ≤ 90000 → Rd' st cdc P H n (l ++ [⟨cdc, P, p, e, w⟩]) q (acc ++ pre ++ cs) l' o → Rd' st cdc P H (n + 1) l p acc l' o
  | exc {l p acc pre e w C fs} : p < P.length → st p = .err pre e w → (acc ++ pre).length ≤ 90000 → H l ⟨cdc, P, p, e, w⟩ = .raise C fs → Rd' st cdc P H 0 l p acc (l ++ [⟨cdc, P, p, e, w⟩]) (.exc C fs)
/-- steps go on -/
structure StOk (st : Nat → St) (P : List Int) : Prop where
  put : ∀ {p cs q}, p < P.length → st p = .put cs q → p < q ∧ q ≤ P.length ∧ cs.length ≤ 4 * (q - p)
  err : ∀ {p pre e w}, p < P.length → st p = .err pre e w → p < e ∧ e ≤ P.length ∧ pre.length ≤ 4 * (e - p) ∧ (pre = [] ∨ ∀ b, P[p]? = some b → b ≤ 127)
structure POk (P : List Int) : Prop where
  by_ : ∀ b ∈ P, 0 ≤ b ∧ b ≤ 255
  len : P.length ≤ 5000
section
variable {st : Nat → St} {cdc : Str} {P : List Int} {H : List Er → Er → An} {n p : Nat} {l l' : List Er} {acc : List Int} {o : RO}
end
def roW (o : RO) (G : AG) (Q : AQ) (X : AX) : Prop := match o with
  | .val cs k => Q (.tup [.tup (di cs), .int (k : Nat)]) G
  | .exc C fs => X C fs G
/-! ### a codec's reader -/
structure Rx where
  kind : Str
  fnm : Str
  cdc : Str
  st : List Int → Bool → Nat → St
structure RxOk (K : Rx) : Prop where
  st : ∀ P fin, StOk (K.st P fin) P
  nsz : lookD sizesH (.inr K.cdc) = none
def c_readerX (AS : Addr → Asker → Prop) (K : Rx) : Con := fun ds G Q X => ∃ P a fin A n l o, ds = [.tup (di P), .ref a, .bl fin] ∧ AS a A ∧ A.inv G [] ∧ POk P ∧ Rd' (K.st P fin) K.cdc P A.H n [] 0 [] l o ∧ (A.free = true ∨ l.length ≤ 60000) ∧ ∀ G', KeepO A.foot G G' → A.inv G' l → roW o G' Q X
def f_readerX (AS : Addr → Asker → Prop) (K : Rx) : FnE := { con := c_readerX AS K, ar := 3, len := fun ds G Q X ⟨_, _, _, _, _, _, _, h, _⟩ => by rw [h]; rfl }
structure RxG (Γ : Gam) (AS : Addr → Asker → Prop) (K : Rx) : Prop where
  fn : Γ.fn K.fnm = some (f_readerX AS K)
  k1 : decide (K.kind = "charmap") = false
  k2 : lookD readersL (.inr K.kind) = some (.gf K.fnm)
/-- a new object that asks: what it is, and what it answers -/
structure MkA (AS : Addr → Asker → Prop) (G : AG) (r : Addr) (e : Dat) (mk : Addr → Asker) (H : List Er → Er → An) : Prop where
  as : ∀ a, G a = none → AS a (mk a)
  inv : ∀ a, G a = none → (mk a).inv (gu G a (.ins "Answers" (ansB (.ref r) e .non))) []
  h : ∀ a, (mk a).H = H
/-! ### a registry with its handlers -/
structure RegX (G : AG) (r q h : Addr) (m : Nat) (kv : List (Key × Dat)) : Prop where
  w : RegW G r q m
  r_ : G r = some (.ins "Registry" (regF q h))
  h_ : G h = some (.dk kv)
  hq : h ≠ q
theorem RegX.k {G : AG} {r q h : Addr} {m : Nat} {kv : List (Key × Dat)} (R : RegX G r q h m kv) : RegK G r kv := ⟨q, h, R.r_, R.h_⟩
theorem RegX.rq {G : AG} {r q h : Addr} {m : Nat} {kv : List (Key × Dat)} (R : RegX G r q h m kv) : r ≠ q := by
  obtain ⟨kv, ⟨h0, _⟩, _⟩ := R.w; exact h0
theorem RegX.sub {G G' : AG} {r q h : Addr} {m : Nat} {kv : List (Key × Dat)} (R : RegX G r q h m kv) (s : Sub G G') : RegX G' r q h m kv := ⟨R.w.sub s, s _ _ R.r_, s _ _ R.h_, R.hq⟩
theorem RegX.dr {G : AG} {p r q h : Addr} {o o' : AO} {n m : Nat} {kv : List (Key × Dat)} (R : RegX G r q h m kv) (hp : G p = some o) (d : DrO n o) : RegX (gu G p o') r q h m kv :=
  ⟨R.w.dr hp d, by rw [gu_ne (dr_ne hp d R.r_ (by simp))]; exact R.r_, by rw [gu_ne (dr_ne hp d R.h_ (by simp))]; exact R.h_, R.hq⟩
/-- something that is a list changes -/
theorem RegX.lst {G : AG} {p r q h : Addr} {l : List Dat} {o' : AO} {m : Nat} {kv : List (Key × Dat)} (R : RegX G r q h m kv) (hp : G p = some (.lst l)) : RegX (gu G p o') r q h m kv :=
  ⟨R.w.keep hp (sub_put Sub.gx), by rw [gu_ne fun z => by have := R.r_; rw [z, hp] at this; cases this]; exact R.r_, by rw [gu_ne fun z => by have := R.h_; rw [z, hp] at this; cases this]; exact R.h_, R.hq⟩
theorem RegX.other {G G' : AG} {r q h a : Addr} {m : Nat} {u : AO} {kv : List (Key × Dat)} (R : RegX G r q h m kv) (e : G a = some u) (hu : ∀ kv, u ≠ .dk kv) (s : Sub (gx G q) G') : G' a = some u := R.w.other e hu s
theorem RegX.mono {G : AG} {r q h : Addr} {m n : Nat} {kv : List (Key × Dat)} (R : RegX G r q h m kv) (l : m ≤ n) : RegX G r q h n kv := ⟨R.w.mono l, R.r_, R.h_, R.hq⟩
theorem RegX.step {G G' : AG} {r q h : Addr} {m n : Nat} {kv : List (Key × Dat)} (R : RegX G r q h m kv) (s : Sub (gx G q) G') (w : RegW G' r q n) : RegX G' r q h n kv :=
  ⟨w, s _ _ (by rw [gx_ne R.rq]; exact R.r_), s _ _ (by rw [gx_ne R.hq]; exact R.h_), R.hq⟩
/-! ### all but lists stays -/
def NL (G G' : AG) : Prop := ∀ a u, G a = some u → (∀ l, u ≠ .lst l) → G' a = some u
theorem NL.refl {G : AG} : NL G G := fun _ _ h _ => h
theorem NL.trans {G G1 G2 : AG} (a : NL G G1) (b : NL G1 G2) : NL G G2 := fun c u h n => b c u (a c u h n) n
theorem NL.sub {G G' : AG} (s : Sub G G') : NL G G' := fun c u h _ => s c u h
theorem NL.put {G : AG} {p : Addr} {l : List Dat} {o : AO} (h : G p = some (.lst l)) : NL G (gu G p o) := fun c u e n => by
  rw [gu_ne fun z => by rw [z, h] at e; cases e; exact n _ rfl]; exact e
theorem NL.dr {G : AG} {p : Addr} {n : Nat} {o o' : AO} (h : G p = some o) (d : DrO n o) : NL G (gu G p o') := by
  obtain ⟨a, b, c, rfl, _⟩ := d; exact NL.put h
theorem NL.new {G : AG} {p : Addr} {o : AO} (h : G p = none) : NL G (gu G p o) := NL.sub (Sub.new h)
/-- a registry with one codec found -/
structure Reg1 (G : AG) (r q h c : Addr) (nn k : Str) (kv : List (Key × Dat)) : Prop where
  q_ : G q = some (.dk [(.inr nn, .ref c)])
  c_ : CodAt G c r k
  r_ : G r = some (.ins "Registry" (regF q h))
  h_ : G h = some (.dk kv)
  rq : r ≠ q
theorem Reg1.k {G : AG} {r q h c : Addr} {nn k : Str} {kv : List (Key × Dat)} (R : Reg1 G r q h c nn k kv) : RegK G r kv := ⟨q, h, R.r_, R.h_⟩
theorem Reg1.at {G : AG} {r q h c : Addr} {nn k : Str} {kv : List (Key × Dat)} (R : Reg1 G r q h c nn k kv) : RegAt G r q [(.inr nn, .ref c)] := ⟨R.rq, R.q_, h, R.r_⟩
/-! ### errors caught -/
abbrev Kd := Str → List (Str × Dat) → Option Dat
structure TrG (Γ : Gam) (LT : Nat → Option LamE) : Prop where
  lam : ∀ q L, LT q = some L → Γ.lam q = some L ∧ L.ar = 0
  x1 : Γ.xc "DecodeError" = some decFl
  x2 : Γ.xc "NoHandler" = some (["name"] : List Str)
  x3 : Γ.xc "BadAnswer" = some []
  m11 : Tb.xm "DecodeError" "DecodeError" = some true
  m21 : Tb.xm "NoHandler" "DecodeError" = some false
  m22 : Tb.xm "NoHandler" "NoHandler" = some true
  m31 : Tb.xm "BadAnswer" "DecodeError" = some false
  m32 : Tb.xm "BadAnswer" "NoHandler" = some false
  m33 : Tb.xm "BadAnswer" "BadAnswer" = some true
abbrev nohF (nm : Str) : List (Str × Dat) := [("name", .str nm)]
/-- known handlers raise what is caught -/
def Er.tupD (x : Er) : Dat := .tup [.str "decode", .str x.cdc, .tup (di x.src), .int (x.s : Nat), .int (x.e : Nat), .str x.why]
/-- an end that is caught -/
def RO.Ok (o : RO) : Prop := match o with
  | .val cs k => cs.length ≤ 90000
  | .exc C fs => (∃ x : Er, x.src.length ≤ 20000 ∧ C = "DecodeError" ∧ fs = x.fs) ∨ (C = "BadAnswer" ∧ fs = []) ∨ ∃ nm : Str, C = "NoHandler" ∧ fs = nohF nm
theorem same_leaf {G : AG} {n : Nat} {x : Dat} (h : (leafD x).isSome = true) : SameN G n x x := by
  cases n with
  | zero => exact ⟨rfl, h⟩
  | succ n => exact .inl ⟨rfl, h⟩
end Av
set_option Elab.async false
set_option linter.all false
set_option maxRecDepth 100000
set_option maxHeartbeats 4000000
/-! # PunP: punycode, plain -/
namespace Av
def leastP (k bias : Int) : Int := if (if 36 * k - bias > 1 then 36 * k - bias else 1) < 26 then (if 36 * k - bias > 1 then 36 * k - bias else 1) else 26
theorem leastP_b (k b : Int) : 1 ≤ leastP k b ∧ leastP k b ≤ 26 := by
  unfold leastP
  repeat' split
  all_goals omega
theorem num_lt {n k b : Int} (h : leastP k b ≤ n) : 0 ≤ (n - leastP k b) / (36 - leastP k b) ∧ (n - leastP k b) / (36 - leastP k b) < n := by
  obtain ⟨h1, h2⟩ := leastP_b k b
  refine ⟨Int.ediv_nonneg (by omega) (by omega), ?_⟩
  apply Int.ediv_lt_of_lt_mul (by omega)
  have : n * (36 - leastP k b) = n * (36 - leastP k b - 1) + n := by rw [Int.mul_sub n _ 1]; omega
  have h3 : 0 ≤ n * (36 - leastP k b - 1) := Int.mul_nonneg (by omega) (by omega)
  omega
/-- the values of the digits of a number -/
def numV (b n k : Int) : List Int := if h : leastP k b ≤ n then (leastP k b + (n - leastP k b) % (36 - leastP k b)) :: numV b ((n - leastP k b) / (36 - leastP k b)) (k + 1) else [n]
termination_by n.toNat
decreasing_by have := num_lt h; omega
def digitP (v : Int) : Int := if v < 26 then 97 + v else 22 + v
def nbLoop (n s : Int) : Int := if 455 < n then nbLoop (n / 35) (s + 36) else s + 36 * n / (n + 38)
termination_by n.toNat
decreasing_by omega
def nbP (n m : Int) (f : Bool) : Int := nbLoop (n / (if f = true then 700 else 2) + n / (if f = true then 700 else 2) / m) 0
/-! ### writing -/
structure PW where
  code : Int
  place : Int
  bias : Int
  many : Int
  first : Bool
  there : List Bool
def ahead (there : List Bool) (a : Int) : Nat := (there.take a.toNat).countP (· == true)
def pwNum (o a : Int) (s : PW) : Int := (o - s.code) * (s.many + 1) + ahead s.there a - s.place - 1
def pwNext (o a : Int) (s : PW) : PW := { code := o, place := ahead s.there a, bias := nbP (pwNum o a s) (s.many + 1) s.first, many := s.many + 1, first := false, there := s.there.set a.toNat true }
/-! ### what the states are -/
def tcount (t : List Bool) : Nat := t.countP (· == true)
/-- what is still to be put in, strictly behind the state -/
structure PwOk (cs : List Int) (qs : List (Int × Int)) (s : PW) : Prop where
  len : s.there.length = cs.length
  many : s.many = tcount s.there
  nodup : (qs.map (·.2)).Nodup
  at_ : ∀ q ∈ qs, 0 ≤ q.2 ∧ s.there[q.2.toNat]? = some false ∧ cs[q.2.toNat]? = some q.1
  cov : ∀ i : Nat, s.there[i]? = some false → ∃ q ∈ qs, q.2 = (i : Int)
  sorted : qs.Pairwise fun a b => a.1 < b.1 ∨ (a.1 = b.1 ∧ a.2 ≤ b.2)
  code : ∀ q ∈ qs, s.code ≤ q.1 ∧ (s.code = q.1 → s.place < ahead s.there q.2)
  place : -1 ≤ s.place ∧ s.place < s.many
theorem ahead_le (t : List Bool) (a : Int) : ahead t a ≤ tcount t := by
  unfold ahead tcount
  conv => rhs; rw [← List.take_append_drop a.toNat t, List.countP_append]
  omega
theorem count_set {t : List Bool} {i : Nat} (h : t[i]? = some false) : (t.set i true).countP (· == true) = t.countP (· == true) + 1 := by
  induction t generalizing i with
  | nil => simp at h
  | cons b t ih =>
    cases i with
    | zero =>
      simp only [List.getElem?_cons_zero, Option.some.injEq] at h
      subst h
      simp [List.countP_cons]
    | succ i =>
      simp only [List.getElem?_cons_succ] at h
      simp only [List.set_cons_succ, List.countP_cons, ih h]
      omega
theorem ahead_set {t : List Bool} {i : Nat} {a : Int} (h : t[i]? = some false) : ahead (t.set i true) a = ahead t a + (if (i : Int) < a then 1 else 0) := by
  unfold ahead
  by_cases c : (i : Int) < a
  · rw [if_pos c]
    have e : (t.set i true).take a.toNat = (t.take a.toNat).set i true := by rw [List.take_set]
    rw [e, count_set]
    rw [List.getElem?_take, if_pos (by omega)]
    exact h
  · rw [if_neg c]
    have e : (t.set i true).take a.toNat = t.take a.toNat := by
      rw [List.take_set_of_le (by omega)]
    rw [e]; rfl
theorem ahead_mono {t : List Bool} {a b : Int} (h : a ≤ b) : ahead t a ≤ ahead t b := by
  unfold ahead
  have e : t.take a.toNat = (t.take b.toNat).take a.toNat := by rw [List.take_take, Nat.min_eq_left (by omega)]
  rw [e]
  conv => rhs; rw [← List.take_append_drop a.toNat (t.take b.toNat), List.countP_append]
  omega
theorem PwOk.num {cs : List Int} {q : Int × Int} {qs : List (Int × Int)} {s : PW} (h : PwOk cs (q :: qs) s) : 0 ≤ pwNum q.1 q.2 s ∧ s.place + pwNum q.1 q.2 s + 1 = (q.1 - s.code) * (s.many + 1) + ahead s.there q.2 ∧ (ahead s.there q.2 : Int) ≤ s.many ∧ 0 ≤ s.many := by
  obtain ⟨c1, c2⟩ := h.code q (List.mem_cons_self ..)
  obtain ⟨p1, p2⟩ := h.place
  have m := h.many
  have l := ahead_le s.there q.2
  refine ⟨?_, by unfold pwNum; omega, by omega, by omega⟩
  unfold pwNum
  by_cases c : s.code = q.1
  · have := c2 c
    rw [c]
    simp only [Int.sub_self, Int.zero_mul]
    omega
  · have h1 : 1 * (s.many + 1) ≤ (q.1 - s.code) * (s.many + 1) := Int.mul_le_mul_of_nonneg_right (by omega) (by omega)
    omega
theorem PwOk.next {cs : List Int} {q : Int × Int} {qs : List (Int × Int)} {s : PW} (h : PwOk cs (q :: qs) s) : PwOk cs qs (pwNext q.1 q.2 s) := by
  obtain ⟨a1, a2, a3⟩ := h.at_ q (List.mem_cons_self ..)
  have nd := List.nodup_cons.1 h.nodup
  have sd := List.pairwise_cons.1 h.sorted
  have ne : ∀ r ∈ qs, r.2 ≠ q.2 := fun r hr e => nd.1 (by have := List.mem_map_of_mem (f := fun x : Int × Int => x.2) hr; rwa [e] at this)
  have m := h.many
  have cnt : tcount (s.there.set q.2.toNat true) = tcount s.there + 1 := count_set a2
  refine ⟨by simp [pwNext, h.len], by simp only [pwNext]; rw [cnt, m]; rfl, nd.2, fun r hr => ?_, fun i hi => ?_, sd.2, fun r hr => ⟨?_, fun e => ?_⟩, ?_⟩
  · obtain ⟨b1, b2, b3⟩ := h.at_ r (List.mem_cons_of_mem _ hr)
    refine ⟨b1, ?_, b3⟩
    have := ne r hr
    simp only [pwNext]
    rw [List.getElem?_set_ne (by omega)]
    exact b2
  · simp only [pwNext] at hi
    by_cases c : q.2.toNat = i
    · subst c
      have hl := (List.getElem?_eq_some_iff.1 a2).1
      rw [List.getElem?_set_self hl] at hi
      cases hi
    · rw [List.getElem?_set_ne c] at hi
      obtain ⟨r, hr, e⟩ := h.cov i hi
      rcases List.mem_cons.1 hr with rfl | hr
      · omega
      · exact ⟨r, hr, e⟩
  · have := sd.1 r hr
    simp only [pwNext]
    omega
  · have o := sd.1 r hr
    have n := ne r hr
    simp only [pwNext] at e ⊢
    rw [ahead_set a2, if_pos (by omega)]
    have := ahead_mono (t := s.there) (a := q.2) (b := r.2) (by omega)
    omega
  · have l := ahead_le s.there q.2
    simp only [pwNext]
    omega
/-! ### reading -/
/-- the codes that are there -/
def filtP : List Int → List Bool → List Int
  | c :: cs, b :: t => if b = true then c :: filtP cs t else filtP cs t
  | _, _ => []
theorem filtP_len : ∀ (cs : List Int) (t : List Bool), t.length = cs.length → (filtP cs t).length = tcount t
  | [], [], _ => rfl
  | c :: cs, b :: t, h => by
    have ih := filtP_len cs t (by simpa using h)
    unfold tcount at *
    rw [filtP, List.countP_cons]
    cases b
    · simpa using ih
    · simpa using ih
theorem filtP_all : ∀ (cs : List Int) (t : List Bool), t.length = cs.length → (∀ i : Nat, t[i]? ≠ some false) → filtP cs t = cs
  | [], [], _, _ => rfl
  | c :: cs, b :: t, h, h2 => by
    have b1 : b = true := by cases b with
      | true => rfl
      | false => exact absurd rfl (h2 0)
    subst b1
    rw [filtP, if_pos rfl, filtP_all cs t (by simpa using h) fun i => h2 (i + 1)]
theorem PwOk.done {cs : List Int} {s : PW} (h : PwOk cs [] s) : filtP cs s.there = cs := filtP_all cs s.there h.len fun i e => by
  obtain ⟨q, hq, _⟩ := h.cov i e
  cases hq
theorem PwOk.fl {cs : List Int} {qs : List (Int × Int)} {s : PW} (h : PwOk cs qs s) : ((filtP cs s.there).length : Int) = s.many := by rw [filtP_len cs s.there h.len, h.many]
/-- steps to a code and a place -/
theorem PwOk.steps {cs : List Int} {q : Int × Int} {qs : List (Int × Int)} {s : PW} (h : PwOk cs (q :: qs) s) : (s.place + pwNum q.1 q.2 s + 1) / (s.many + 1) = q.1 - s.code ∧ (s.place + pwNum q.1 q.2 s + 1) % (s.many + 1) = ahead s.there q.2 := by
  obtain ⟨h1, h2, h3, h4⟩ := h.num
  rw [h2]
  have e : (q.1 - s.code) * (s.many + 1) + (ahead s.there q.2 : Int) = (ahead s.there q.2 : Int) + (s.many + 1) * (q.1 - s.code) := by rw [Int.mul_comm]; omega
  rw [e]
  have p : (0 : Int) ≤ ahead s.there q.2 := by omega
  constructor
  · rw [Int.add_mul_ediv_left _ _ (by omega), Int.ediv_eq_zero_of_lt p (by omega)]; omega
  · rw [Int.add_mul_emod_self_left, Int.emod_eq_of_lt p (by omega)]
/-! ### reckoned -/
/-! ### unlike texts, unlike bytes -/
end Av
set_option Elab.async false
set_option linter.all false
set_option maxRecDepth 100000
set_option maxHeartbeats 4000000
/-! # LibN: punycode, the program's side -/
namespace Av
open PySem PySem.Spec PyProof.Rows L2
variable [Tb]
/-! ### the small defs -/
def c_least : Con := fun ds G Q X => ∃ k b : Int, ds = [.int k, .int b] ∧ Q (.int (leastP k b)) G
def f_least : FnE := { con := c_least, ar := 2, len := fun ds G Q X ⟨_, _, h, _⟩ => by rw [h]; rfl }
def c_nb : Con := fun ds G Q X => ∃ (n m : Int) (f : Bool), ds = [.int n, .int m, .bl f] ∧ 0 ≤ n ∧ 0 < m ∧ m < 1000000 ∧ Q (.int (nbP n m f)) G
def f_nb : FnE := { con := c_nb, ar := 3, len := fun ds G Q X ⟨_, _, _, h, _⟩ => by rw [h]; rfl }
def c_digitP : Con := fun ds G Q X => ∃ v : Int, ds = [.int v] ∧ Q (.int (digitP v)) G
def f_digitP : FnE := { con := c_digitP, ar := 1, len := fun ds G Q X ⟨_, h, _⟩ => by rw [h]; rfl }
def c_numW : Con := fun ds G Q X => ∃ n b : Int, ds = [.int n, .int b] ∧ 0 ≤ n ∧ (numV b n 1).length ≤ 1000 ∧ Q (.lst (di ((numV b n 1).map digitP))) G
def f_numW : FnE := { con := c_numW, ar := 2, len := fun ds G Q X ⟨_, _, h, _⟩ => by rw [h]; rfl }
structure NWG (Γ : Gam) : Prop where
  least : Γ.fn "least_of" = some f_least
  digit : Γ.fn "digit_of" = some f_digitP
/-! ### writing -/
structure WPG (Γ : Gam) : Prop where
  num : Γ.fn "number_written" = some f_numW
  nb : Γ.fn "next_bias" = some f_nb
end Av
set_option Elab.async false
set_option linter.all false
set_option maxRecDepth 100000
set_option maxHeartbeats 4000000
/-! # LibF: the escapes written -/
namespace Av
open PySem PySem.Spec PyProof.Rows L2
variable [Tb]
def far (c : Int) : List Int := if c < 65536 then [92, 117] ++ hexN c 4 else [92, 85] ++ hexN c 8
def near (c : Int) : List Int := if c = 9 then [92, 116] else if c = 10 then [92, 110] else if c = 13 then [92, 114] else if c = 92 then [92, 92] else
  if 32 ≤ c ∧ c ≤ 126 then [c] else if c < 256 then [92, 120] ++ hexN c 2 else far c
def esc (raw : Bool) (c : Int) : List Int := if raw = true then (if c < 256 then [c] else far c) else near c
def escAll (raw : Bool) (cs : List Int) : List Int := cs.flatMap (esc raw)
def kindE (raw : Bool) : Str := if raw = true then "raw-unicode-escape" else "unicode-escape"
def WE (raw : Bool) : Wr := ⟨kindE raw, if raw = true then "write_raw_escape" else "write_escape", fun cs => (∀ c ∈ cs, isCode c) ∧ cs.length ≤ 4000, escAll raw⟩
end Av
set_option Elab.async false
set_option linter.all false
set_option maxRecDepth 100000
set_option maxHeartbeats 4000000
/-! # EscP: the escapes read, in plain Lean -/
namespace Av
open PySem PySem.Spec PyProof.Rows L2
variable [Tb]
def dvE (b : Int) : Option Int := if 48 ≤ b ∧ b ≤ 57 then some (b - 48) else if 97 ≤ b ∧ b ≤ 102 then some (b - 87) else if 65 ≤ b ∧ b ≤ 70 then some (b - 55) else none
/-- up to k digits: their number, how many -/
def hexR : Nat → Int → List Int → Int × Nat
  | 0, n, _ => (n, 0)
  | _ + 1, n, [] => (n, 0)
  | k + 1, n, b :: r => match dvE b with
    | none => (n, 0)
    | some v => ((hexR k (16 * n + v) r).1, (hexR k (16 * n + v) r).2 + 1)
def octR : Nat → Int → List Int → Int × Nat
  | 0, n, _ => (n, 0)
  | _ + 1, n, [] => (n, 0)
  | k + 1, n, b :: r => if 48 ≤ b ∧ b ≤ 55 then ((octR k (8 * n + b - 48) r).1, (octR k (8 * n + b - 48) r).2 + 1) else (n, 0)
structure Tk where
  codes : List Int
  e : Nat
  why : Option Str
def sMal : Str := "malformed \\N character escape"
def sUnk : Str := "unknown Unicode character name"
def sIll : Str := "illegal Unicode character"
def sBey : Str := "\\Uxxxxxxxx out of range"
def sEnd : Str := "\\ at end of string"
def hard : List Str := [sUnk, sIll, sBey]
def manyE (s : Int) : Nat := if s = 120 then 2 else if s = 117 then 4 else 8
def truS (s : Int) : Str := if s = 120 then "truncated \\xXX escape" else if s = 117 then "truncated \\uXXXX escape" else "truncated \\UXXXXXXXX escape"
def hexT (s : Int) (r : List Int) (bey : Str) : Tk :=
  if (hexR (manyE s) 0 r).2 < manyE s then ⟨[], 2 + (hexR (manyE s) 0 r).2, some (truS s)⟩
  else if 1114111 < (hexR (manyE s) 0 r).1 then ⟨[], 2 + (hexR (manyE s) 0 r).2, some bey⟩ else ⟨[(hexR (manyE s) 0 r).1], 2 + (hexR (manyE s) 0 r).2, none⟩
/-- how many ahead of a closing brace -/
def toBr : List Int → Nat
  | [] => 0
  | b :: r => if b = 125 then 0 else toBr r + 1
def nameT (r : List Int) : Tk :=
  if r.take 1 ≠ [123] then ⟨[], 2, some sMal⟩ else if (r.drop 1).take 1 = [125] then ⟨[], 3, some sMal⟩
  else if toBr (r.drop 1) + 1 = r.length then ⟨[], 3 + toBr (r.drop 1), some sMal⟩ else ⟨[], 4 + toBr (r.drop 1), some sUnk⟩
def meantI : List (Int × List Int) := [(92, [92]), (39, [39]), (34, [34]), (98, [8]), (102, [12]), (116, [9]), (110, [10]), (114, [13]), (118, [11]), (97, [7]), (10, [])]
def nearT : List Int → Tk
  | [] => ⟨[], 1, some sEnd⟩
  | s :: r => match meantI.lookup s with
    | some m => ⟨m, 2, none⟩
    | none => if 48 ≤ s ∧ s ≤ 55 then ⟨[(octR 3 0 (s :: r)).1], 1 + (octR 3 0 (s :: r)).2, none⟩
      else if s = 120 ∨ s = 117 ∨ s = 85 then hexT s r sIll else if s = 78 then nameT r else ⟨[92, s], 2, none⟩
def rawT : List Int → Tk
  | [] => ⟨[92], 1, none⟩
  | s :: r => if s = 117 ∨ s = 85 then hexT s r sBey else ⟨[92, s], 2, none⟩
/-! ### digits -/
/-! ### near -/
/-! ### raw -/
/-! ### any bytes -/
end Av
set_option Elab.async false
set_option linter.all false
set_option maxRecDepth 100000
set_option maxHeartbeats 4000000
/-! # LibG: the escapes read: tokens -/
namespace Av
open PySem PySem.Spec PyProof.Rows L2
variable [Tb]
def whyD : Option Str → Dat
  | some s => .str s
  | none => .non
def tokD (t : Tk) (p : Nat) : Dat := .tup [.tup (di t.codes), .int ((p + t.e : Nat)), whyD t.why]
def sizesE : List (Key × Dat) := [(.inl 120, .tup [.int 2, .str "truncated \\xXX escape"]), (.inl 117, .tup [.int 4, .str "truncated \\uXXXX escape"]), (.inl 85, .tup [.int 8, .str "truncated \\UXXXXXXXX escape"])]
def c_digitsAt : Con := fun ds G Q X => ∃ P p s w, ds = [.tup (di P), .int (p : Nat), .int s, .str w] ∧ (s = 120 ∨ s = 117 ∨ s = 85) ∧ p + 2 ≤ P.length ∧ P.length ≤ 100000 ∧ Q (tokD (hexT s (P.drop (p + 2)) w) p) G
def f_digitsAt : FnE := { con := c_digitsAt, ar := 4, len := fun ds G Q X ⟨_, _, _, _, h, _⟩ => by rw [h]; rfl }
def c_octalAt : Con := fun ds G Q X => ∃ P p, ds = [.tup (di P), .int (p : Nat)] ∧ p + 1 ≤ P.length ∧ P.length ≤ 100000 ∧ Q (tokD ⟨[(octR 3 0 (P.drop (p + 1))).1], 1 + (octR 3 0 (P.drop (p + 1))).2, none⟩ p) G
def f_octalAt : FnE := { con := c_octalAt, ar := 2, len := fun ds G Q X ⟨_, _, h, _⟩ => by rw [h]; rfl }
def c_nameAt : Con := fun ds G Q X => ∃ P p, ds = [.tup (di P), .int (p : Nat)] ∧ p + 2 ≤ P.length ∧ P.length ≤ 100000 ∧ Q (tokD (nameT (P.drop (p + 2))) p) G
def f_nameAt : FnE := { con := c_nameAt, ar := 2, len := fun ds G Q X ⟨_, _, h, _⟩ => by rw [h]; rfl }
/-! ### escapes -/
def meantD : List (Key × Dat) := [(.inl 92, .tup [.int 92]), (.inl 39, .tup [.int 39]), (.inl 34, .tup [.int 34]), (.inl 98, .tup [.int 8]), (.inl 102, .tup [.int 12]), (.inl 116, .tup [.int 9]), (.inl 110, .tup [.int 10]), (.inl 114, .tup [.int 13]), (.inl 118, .tup [.int 11]), (.inl 97, .tup [.int 7]), (.inl 10, .tup [])]
structure NG (Γ : Gam) : Prop where
  mean : Γ.dc "MEANT" = some meantD
  size : Γ.dc "SIZES_escapes" = some sizesE
  ill : Γ.gl "ILLEGAL" = some (.str sIll)
  oct : Γ.fn "octal_at" = some f_octalAt
  dig : Γ.fn "digits_at" = some f_digitsAt
  nam : Γ.fn "name_at" = some f_nameAt
end Av
set_option Elab.async false
set_option linter.all false
set_option maxRecDepth 100000
set_option maxHeartbeats 4000000
/-! # LibM: the escapes read, with handlers -/
namespace Av
open PySem PySem.Spec PyProof.Rows L2
variable [Tb]
structure RbX (Γ : Gam) (AS : Addr → Asker → Prop) : Prop where
  xD : Γ.xc "DecodeError" = some decFl
  unk : Γ.gl "UNKNOWN" = some (.str sUnk)
  ill : Γ.gl "ILLEGAL" = some (.str sIll)
  bey : Γ.gl "BEYOND" = some (.str sBey)
  ask : Γ.ms "Answers" "ask" = some (f_askX AS)
  ok : ∀ a A, AS a A → AskerOk A
  ans : ∀ a A G l, AS a A → A.inv G l → ∃ fs, G a = some (.ins "Answers" fs) ∧ fs.lookup ("ask" : Str) = none
  code : ∀ a A l x cs q, AS a A → x.Ok → A.H l x = .ok cs q → q ≤ x.src.length
/-! ### the two codecs -/
end Av
set_option Elab.async false
set_option linter.all false
set_option maxRecDepth 100000
set_option maxHeartbeats 4000000
/-! # LawT: texts, answers of known handlers, by the laws -/
namespace Av
open PySem PySem.Spec PyProof.Rows L2
variable [Tb]
/-! ### texts -/
def c_ltk : Con := fun ds G Q X => ∃ w, ds = [.str w] ∧ w.length ≤ 1000 ∧ Q (.ktp (di (codesOf w))) G
def f_ltk : FnE := { con := c_ltk, ar := 1, len := fun ds G Q X ⟨_, h, _⟩ => by rw [h]; rfl }
/-! ### the law's own handlers -/
def anD : An → Dat
  | .ok cs q => .tup [.tup (di cs), .int (q : Nat)]
  | .raise _ _ => .non
def tupsE (l : List Er) : List Dat := l.map Er.tupD
def c_lask (OKH : Dat → (List Er → Er → An) → Prop) : Con := fun ds G Q X => ∃ how H L l x, OKH how H ∧ ds = [how, .ref L, Er.tupD x] ∧ x.Ok ∧ lookD sizesH (.inr x.cdc) = none ∧ G L = some (.lst (tupsE l)) ∧ l.length ≤ 90000 ∧ Q (anD (H l x)) (gu G L (.lst (tupsE (l ++ [x]))))
def f_lask (OKH : Dat → (List Er → Er → An) → Prop) : FnE := { con := c_lask OKH, ar := 3, len := fun ds G Q X ⟨_, _, _, _, _, _, h, _⟩ => by rw [h]; rfl }
def c_lraiG (kd : Kd) (OKH : Dat → (List Er → Er → An) → Prop) : Con := fun ds G Q X => ∃ how H l x C fs, OKH how H ∧ H l x = .raise C fs ∧ ds = [how, Er.tupD x] ∧ Q ((kd C fs).getD .non) G
def f_lraiG (kd : Kd) (OKH : Dat → (List Er → Er → An) → Prop) : FnE := { con := c_lraiG kd OKH, ar := 2, len := fun ds G Q X ⟨_, _, _, _, _, _, _, _, h, _⟩ => by rw [h]; rfl }
end Av
set_option Elab.async false
set_option linter.all false
set_option maxRecDepth 100000
set_option maxHeartbeats 4000000
/-! # LawD: what the laws of the escapes draw -/
namespace Av
open PySem PySem.Spec PyProof.Rows L2
variable [Tb]
end Av
set_option Elab.async false
set_option linter.all false
set_option maxRecDepth 100000
set_option maxHeartbeats 4000000
/-! # LawE: the laws' own reading of the escapes -/
namespace Av
open PySem PySem.Spec PyProof.Rows L2
variable [Tb]
/-! ### digits -/
/-- what the law's own readers tell of a token -/
def tokL (t : Tk) (p : Nat) (cut : Bool) : Dat := .tup [.int ((p + t.e : Nat)), .tup (di t.codes), whyD t.why, .bl cut]
def cutH (P : List Int) (p : Nat) (s : Int) : Bool := decide ((hexR (manyE s) 0 (P.drop (p + 2))).2 < manyE s ∧ p + 2 + (hexR (manyE s) 0 (P.drop (p + 2))).2 = P.length)
def c_lhex : Con := fun ds G Q X => ∃ P p s w, ds = [.tup (di P), .int (p : Nat), .str w] ∧ (s = 120 ∨ s = 117 ∨ s = 85) ∧ P[p + 1]? = some s ∧ P.length ≤ 100000 ∧ Q (tokL (hexT s (P.drop (p + 2)) w) p (cutH P p s)) G
def f_lhex : FnE := { con := c_lhex, ar := 3, len := fun ds G Q X ⟨_, _, _, _, h, _⟩ => by rw [h]; rfl }
/-! ### a backslash -/
/-! ### what is cut -/
def cutE (T : List Int → Tk) (r : List Int) : Bool := decide (r = []) || match (T r).why with
  | some w => decide ((T r).e = r.length + 1 ∧ w ∉ hard)
  | none => false
def c_ltok (T : List Int → Tk) : Con := fun ds G Q X => ∃ P p, ds = [.tup (di P), .int (p : Nat)] ∧ p < P.length ∧ P.length ≤ 100000 ∧ Q (tokL (T (P.drop (p + 1))) p (cutE T (P.drop (p + 1)))) G
def f_ltok (T : List Int → Tk) : FnE := { con := c_ltok T, ar := 2, len := fun ds G Q X ⟨_, _, h, _⟩ => by rw [h]; rfl }
/-! ### names -/
def c_lnamed : Con := fun ds G Q X => ∃ P p, ds = [.tup (di P), .int (p : Nat)] ∧ p + 2 ≤ P.length ∧ P.length ≤ 100000 ∧ Q (tokL (nameT (P.drop (p + 2))) p (match (nameT (P.drop (p + 2))).why with | some w => decide ((nameT (P.drop (p + 2))).e = (P.drop (p + 2)).length + 2 ∧ w ∉ hard) | none => false)) G
def f_lnamed : FnE := { con := c_lnamed, ar := 2, len := fun ds G Q X ⟨_, _, h, _⟩ => by rw [h]; rfl }
/-! ### escapes -/
structure LnG (Γ : Gam) : Prop where
  text : Γ.fn "_law_text" = some f_ltk
  hex : Γ.fn "_law_hex" = some f_lhex
  named : Γ.fn "_law_named" = some f_lnamed
/-! ### reading -/
structure RdG' (Γ : Gam) (kd : Kd) (OKH : Dat → (List Er → Er → An) → Prop) : Prop where
  raw : Γ.fn "_law_raw" = some (f_ltok rawT)
  near : Γ.fn "_law_near" = some (f_ltok nearT)
  ask : Γ.fn "_law_asked" = some (f_lask OKH)
  rai : Γ.fn "_law_raised" = some (f_lraiG kd OKH)
end Av
set_option Elab.async false
set_option linter.all false
set_option maxRecDepth 100000
set_option maxHeartbeats 400000
/-! # Av12: defs that make functions; made functions by their words -/
namespace Av
open PySem PySem.Spec PyProof.Rows L2
variable [Tb]
/-- .. with own cells -/
abbrev Gam.cells (Γ : Gam) (cs : Nat → Option Addr) : Gam := { Γ with cs := cs }
theorem TbOk.cells {P : Program} {w : World} {K : PySem.W.Frag} {mg : Str → Option Value} {base : Heap} {Γ : Gam} {k : Nat} (tb : TbOk P w K mg base Γ k) (cs : Nat → Option Addr) : TbOk P w K mg base (Γ.cells cs) k :=
  ⟨tb.fn, tb.gl, tb.blt, tb.at_, tb.ms, tb.mke, tb.xc, tb.xf, tb.dc, tb.fa, tb.kt, tb.lam, tb.hf, tb.rng, tb.zip, tb.enum, tb.cm, tb.mn⟩
section
variable {P : Program} {w : World} {K : PySem.W.Frag} {mg : Str → Option Value} {base : Heap} {Γ : Gam} {k : Nat} {F : FnE} {N ps : List Str} {ss : List S} {x qual : Str} {params : Arguments} {body : List Stmt} {scope : Scope} {dvs : List V} {kws : List (Str × V)} {f : Addr} {fd : FuncData}
end
section
variable {X : Cx} {W : WX} {C : Ck} {Γ : Gam} {k : Nat}
end
section
variable {P : Program} {w : World} {K : PySem.W.Frag} {mg : Str → Option Value} {base : Heap} {Γ : Gam} {k : Nat} {F : FnE} {N ps : List Str} {ss : List S} {x qual : Str} {params : Arguments} {body : List Stmt} {scope : Scope} {dvs : List V} {kws : List (Str × V)} {f : Addr} {fd : FuncData}
end
end Av
set_option Elab.async false
set_option linter.all false
set_option maxRecDepth 100000
set_option maxHeartbeats 1000000
/-! # Av13: made functions by their words -/
namespace Av
open PySem PySem.Spec PyProof.Rows L2 NdefX
variable [Tb]
structure LW where
  N : List Str
  ps : List Str
  fr : List Str
  e : E
def plainPs (a : Arguments) (ps : List Str) : Bool := a.posonlyargs.isEmpty && a.vararg.isNone && a.kwonlyargs.isEmpty && a.kw_defaults.isEmpty && a.kwarg.isNone && a.defaults.isEmpty && a.args.map (·.arg) == ps && decide (ps.length ≤ 1)
def fitL (w : LW) (L : LamP) : Bool := match L.body with
  | .expr b => nscB w.N w.ps w.fr L.scope && plainPs L.params w.ps && corE { N := w.N, sc := L.scope, top := true } w.e b
  | _ => false
section
variable {P : Program} {w : World} {K : PySem.W.Frag} {mg : Str → Option Value} {base : Heap} {Γ : Gam} {k q : Nat} {lw : LW} {LE : LamE}
end
end Av
set_option Elab.async false
set_option linter.all false
set_option maxRecDepth 100000
set_option maxHeartbeats 4000000
/-! # LamL: lambdas that are called at once, by what they capture -/
namespace Av
open PySem PySem.Spec PyProof.Rows L2
variable [Tb]
theorem noneG.tail {cs : Nat → Option Addr} {i : Nat} {ls : List Nat} {G : AG} (h : noneG cs (i :: ls) G) : noneG cs ls G :=
  fun j hj c hc => ⟨(h j (List.mem_cons_of_mem _ hj) c hc).1, fun k hk e => (h j (List.mem_cons_of_mem _ hj) c hc).2 k (List.mem_cons_of_mem _ hk) e⟩
end Av
set_option Elab.async false
set_option linter.all false
set_option maxRecDepth 100000
set_option maxHeartbeats 1000000
/-! # LawX: what laws of reading that draw known handlers have in common -/
namespace Av
open PySem PySem.Spec PyProof.Rows L2
variable [Tb]
/-! ### ends -/
/-- how many turns -/
theorem turns (lo hi : Nat) (h : lo ≤ hi) (z : Int) (hz : 0 ≤ z) : ∃ m : Nat, (if (if z < (hi : Int) then z else (hi : Int)) > (lo : Int) then if z < (hi : Int) then z else (hi : Int) else (lo : Int)) = (m : Int) ∧ m ≤ hi := by
  by_cases a : z < hi
  · rw [if_pos a]
    by_cases b : z > lo
    · exact ⟨z.toNat, by rw [if_pos b]; omega, by omega⟩
    · exact ⟨lo, by rw [if_neg b], by omega⟩
  · rw [if_neg a]
    by_cases b : (hi : Int) > lo
    · exact ⟨hi, by rw [if_pos b], by omega⟩
    · exact ⟨lo, by rw [if_neg b], by omega⟩
/-! ### a log is empty, or not -/
def Er.told (x : Er) : Prop := PyData.strOk x.cdc = true ∧ PyData.strOk x.why = true
def Er.py (x : Er) : PyData := .tuple [.str "decode", .str x.cdc, .tuple (x.src.map PyData.int), .int (x.s : Nat), .int (x.e : Nat), .str x.why]
end Av
set_option Elab.async false
set_option linter.all false
set_option maxRecDepth 100000
set_option maxHeartbeats 1000000
/-! # LibX: decoders with a buffer, with errors -/
namespace Av
open PySem PySem.Spec PyProof.Rows L2
variable [Tb]
end Av
set_option Elab.async false
set_option linter.all false
set_option maxRecDepth 100000
set_option maxHeartbeats 1000000
/-! # LawR: bytes cut into rows -/
namespace Av
open PySem PySem.Spec PyProof.Rows L2
variable [Tb]
/-! ### cuts -/
end Av
set_option Elab.async false
set_option linter.all false
set_option maxRecDepth 100000
set_option maxHeartbeats 1000000
/-! # K76: streams of bytes -/
namespace Av
open PySem PySem.Spec PyProof.Rows L2
variable [Tb]
def mostD : Option Nat → Dat
  | none => .non
  | some k => .int (k : Nat)
def octF6 (b : Addr) (mo : Option Nat) (pl : Nat) : List (Str × Dat) := [("octets", .ref b), ("most", mostD mo), ("place", .int (pl : Nat))]
structure OctAt (G : AG) (s b : Addr) (O : List Int) (pl : Nat) (mo : Option Nat) : Prop where
  s_ : G s = some (.ins "Octets" (octF6 b mo pl))
  b_ : G b = some (.lst (di O))
theorem OctAt.ne {G : AG} {s b : Addr} {O : List Int} {pl : Nat} {mo : Option Nat} (h : OctAt G s b O pl mo) : s ≠ b := fun z => by have := h.s_; rw [z, h.b_] at this; cases this
/-- what a reading takes -/
def rdO (O : List Int) (pl : Nat) (size : Int) (mo : Option Nat) : List Int :=
  (fun f => match mo with | none => f | some k => f.take k) (if 0 ≤ size then (O.drop pl).take size.toNat else O.drop pl)
def wrO (O : List Int) (pl : Nat) (D : List Int) : List Int := if D = [] then O else (O ++ List.replicate (pl - O.length) 0).take pl ++ D ++ (O ++ List.replicate (pl - O.length) 0).drop (pl + D.length)
theorem rdO_len {O : List Int} {pl : Nat} {size : Int} {mo : Option Nat} : (rdO O pl size mo).length ≤ O.length - pl := by
  unfold rdO
  have a : (if 0 ≤ size then (O.drop pl).take size.toNat else O.drop pl).length ≤ O.length - pl := by
    split
    · rw [List.length_take, List.length_drop]; omega
    · rw [List.length_drop]
      exact Nat.le_refl _
  cases mo with
  | none => exact a
  | some k => simp only; rw [List.length_take]; omega
def aOct : List Str := ["octets", "most", "place"]
/-! ### made -/
def c_oInit : Con := fun ds G Q X => ∃ (s : Addr) (x : Dat) (mo : Option Nat) (xs : List Int), ds = [.ref s, x, mostD mo] ∧ seqOf G x = some (di xs) ∧ xs.length ≤ 1000 ∧ G s = some (.ins "Octets" []) ∧ ∀ b, G b = none → Q .non (gu (gu G b (.lst (di xs))) s (.ins "Octets" (octF6 b mo 0)))
theorem oInit_len : ∀ ds G Q X, c_oInit ds G Q X → ds.length = 3 := fun ds G Q X ⟨_, _, _, _, h, _⟩ => by rw [h]; rfl
def b_oInit : List S := [
  .setAtt (.var 0) "octets" (.blt false .list [(.var 1)]),
  .setAtt (.var 0) "most" (.var 2),
  .setAtt (.var 0) "place" (.cst (.int 0))]
theorem ok_oInit (Γ : Gam) (ha : ∀ f ∈ aOct, Γ.at_ "Octets" f = true) (N : List Str) (hN : N.length = 3) (ds : List Dat) (G : AG) (Q : AQ) (X : AX) (h : c_oInit ds G Q X) : wSs Γ b_oInit (startD N ds) G (endsOf Q X) := by
  obtain ⟨s, x, mo, xs, rfl, hx, hl, hs, hq⟩ := h
  have e : startD N [.ref s, x, mostD mo] = [some (.ref s), some x, some (mostD mo)] := by unfold startD; rw [hN]; rfl
  rw [e]
  have big := big
  unfold b_oInit
  ((first | rw [wSs] | (dsimp only; rw [wSs])); simp only [wS, wE, wEs, List.getElem?_cons_succ, List.getElem?_cons_zero, yo, zw])
  refine ⟨_, hx, by rw [List.length_map]; omega, fun b hb => ?_⟩
  have sb : s ≠ b := fun z => by rw [z, hb] at hs; cases hs
  refine satA (fs' := [("octets", .ref b)]) (gu_o hb hs) (ha _ (by unfold aOct; simp)) (by decide) rfl ?_
  ((first | rw [wSs] | (dsimp only; rw [wSs])); simp only [wS, wE, List.getElem?_cons_succ, List.getElem?_cons_zero])
  refine satA (fs' := [("octets", .ref b), ("most", mostD mo)]) gu_same (ha _ (by unfold aOct; simp)) (by simp) rfl ?_
  ((first | rw [wSs] | (dsimp only; rw [wSs])); simp only [wS, wE, List.getElem?_cons_zero, gu_gu, za])
  refine satA (fs' := octF6 b mo 0) gu_same (ha _ (by unfold aOct; simp)) (by simp) rfl ?_
  refine ⟨_, .refl _, ?_⟩
  rw [gu_gu (G := gu G b (.lst (di xs)))]
  exact hq b hb
def f_oInit : FnE := { con := c_oInit, ar := 3, dfl := [.tup [], .non], len := oInit_len }
theorem cut_fr {xs : List Int} {a : Nat} : cutD (di xs) (some (a : Int)) none = di (xs.drop a) := by
  by_cases h : a ≤ xs.length
  · exact cut_from h
  · rw [cut_map, HT.sIx_nat, HT.sIx_none, Nat.min_eq_right (by omega), List.drop_length, List.drop_of_length_le (by omega)]
    simp
theorem cut_t {xs : List Int} {a : Int} (h : 0 ≤ a) : cutD (di xs) none (some a) = di (xs.take a.toNat) := by
  rw [cut_to h]; unfold di; rw [List.map_take]
/-! ### the methods -/
def c_oRead : Con := fun ds G Q X => ∃ s b O pl mo size, ds = [.ref s, .int size] ∧ OctAt G s b O pl mo ∧ O.length ≤ 10000 ∧ pl ≤ 10000 ∧ Q (.tup (di (rdO O pl size mo))) (gu G s (.ins "Octets" (octF6 b mo (pl + (rdO O pl size mo).length))))
def f_oRead : FnE := { con := c_oRead, ar := 2, dfl := [.int (-1)], len := fun ds G Q X ⟨_, _, _, _, _, _, h, _⟩ => by rw [h]; rfl }
def b_oRead : List S := [
  .set 2 (.slFrom true (.att (.var 0) "octets") (.att (.var 0) "place")),
  .if_ (.cmp .ge (.var 1) (.cst (.int 0))) [.set 2 (.slTo true (.var 2) (.var 1))] [],
  .if_ (.cmp .isnt (.att (.var 0) "most") (.cst (.non))) [.set 2 (.slTo true (.var 2) (.att (.var 0) "most"))] [],
  .setAtt (.var 0) "place" (.bin true .add (.att (.var 0) "place") (.blt true .len [(.var 2)])),
  .ret (.blt true .tuple [(.var 2)])]
theorem ok_oRead (Γ : Gam) (ha : ∀ f ∈ aOct, Γ.at_ "Octets" f = true) (N : List Str) (hN : N.length = 3) (ds : List Dat) (G : AG) (Q : AQ) (X : AX) (h : c_oRead ds G Q X) : wSs Γ b_oRead (startD N ds) G (endsOf Q X) := by
  obtain ⟨s, b, O, pl, mo, size, rfl, hO, lO, lp, hq⟩ := h
  have e : startD N [.ref s, .int size] = [some (.ref s), some (.int size), none] := by unfold startD; rw [hN]; rfl
  rw [e]
  have big := big
  have a1 := ha "octets" (by unfold aOct; simp)
  have a2 := ha "most" (by unfold aOct; simp)
  have a3 := ha "place" (by unfold aOct; simp)
  unfold b_oRead
  ((first | rw [wSs] | (dsimp only; rw [wSs])); simp only [wS, wE, List.getElem?_cons_zero, List.set_cons_succ, List.set_cons_zero])
  refine attA hO.s_ a1 rfl (attA hO.s_ a3 rfl ?_)
  simp only [yj, zv, zR, yc, some_inj, exists_eq_left', hO.b_]
  rw [cut_fr]
  refine ⟨by rw [List.length_map, List.length_drop]; omega, ?_⟩
  have rl := rdO_len (O := O) (pl := pl) (size := size) (mo := mo)
  have fin : ∀ F, F = rdO O pl size mo → wSs Γ [.setAtt (.var 0) "place" (.bin true .add (.att (.var 0) "place") (.blt true .len [(.var 2)])), .ret (.blt true .tuple [(.var 2)])] [some (.ref s), some (.int size), some (.lst (di F))] G (endsOf Q X) := fun F eF => by
    subst eF
    ((first | rw [wSs] | (dsimp only; rw [wSs])); simp only [wS, wE, List.getElem?_cons_zero, wEs, List.getElem?_cons_succ, yk, zU, some_inj, exists_eq_left'])
    refine attA hO.s_ a3 rfl ?_
    simp only [zb, List.length_map]
    refine satA (fs' := octF6 b mo (pl + (rdO O pl size mo).length)) hO.s_ a3 (by unfold octF6; simp) rfl ?_
    ((first | rw [wSs] | (dsimp only; rw [wSs])); simp only [wS, wE, wEs, List.getElem?_cons_succ, List.getElem?_cons_zero, yn, zU, some_inj, exists_eq_left'])
    exact rt_ (X := X) hq
  have step : ∀ F, F = (if 0 ≤ size then (O.drop pl).take size.toNat else O.drop pl) → wSs Γ [.if_ (.cmp .isnt (.att (.var 0) "most") (.cst (.non))) [.set 2 (.slTo true (.var 2) (.att (.var 0) "most"))] [], .setAtt (.var 0) "place" (.bin true .add (.att (.var 0) "place") (.blt true .len [(.var 2)])), .ret (.blt true .tuple [(.var 2)])] [some (.ref s), some (.int size), some (.lst (di F))] G (endsOf Q X) := fun F eF => by
    cases mo with
    | none =>
      ((first | rw [wSs] | (dsimp only; rw [wSs])); simp only [wS, wT, wE, List.getElem?_cons_zero, za, zD, isNonD, zQ, Bool.not_eq_true'])
      refine attA hO.s_ a2 rfl ?_
      rw [if_neg (by unfold mostD; simp)]
      exact fin F (by rw [eF]; rfl)
    | some k =>
      ((first | rw [wSs] | (dsimp only; rw [wSs])); simp only [wS, wT, wE, List.getElem?_cons_zero, za, zD, isNonD, zQ, Bool.not_eq_true'])
      refine attA hO.s_ a2 rfl ?_
      rw [if_pos (by rfl)]
      ((first | rw [wSs] | (dsimp only; rw [wSs])); simp only [wS, wE, List.getElem?_cons_succ, List.getElem?_cons_zero, List.set_cons_succ, List.set_cons_zero, za, yi, zv])
      refine attA hO.s_ a2 rfl ?_
      show (cutD (di F) none (some ((k : Nat) : Int))).length ≤ sizeLine ∧ wSs Γ _ [_, _, some (.lst (cutD (di F) none (some ((k : Nat) : Int))))] G _
      rw [cut_t (by omega)]
      have lF : F.length ≤ O.length := by
        rw [eF]
        split
        · rw [List.length_take, List.length_drop]; omega
        · rw [List.length_drop]; omega
      exact ⟨by rw [List.length_map, List.length_take]; omega, fin _ (by rw [eF]; unfold rdO; rw [show ((k : Nat) : Int).toNat = k from by omega])⟩
  by_cases c : 0 ≤ size
  · ((first | rw [wSs] | (dsimp only; rw [wSs])); simp only [wS, wT, wE, List.getElem?_cons_succ, List.getElem?_cons_zero, za, zB, decide_true, zQ, if_true, c])
    ((first | rw [wSs] | (dsimp only; rw [wSs])); simp only [wS, wE, List.getElem?_cons_succ, List.getElem?_cons_zero, List.set_cons_succ, List.set_cons_zero, za, yi, zv, zR])
    rw [cut_t c]
    exact ⟨by rw [List.length_map, List.length_take, List.length_drop]; omega, step _ (by rw [if_pos c])⟩
  · ((first | rw [wSs] | (dsimp only; rw [wSs])); simp only [wS, wT, wE, List.getElem?_cons_succ, List.getElem?_cons_zero, za, zB, decide_false, zQ, Bool.false_eq_true, if_false, c])
    exact step _ (by rw [if_neg c])
def c_oTell : Con := fun ds G Q X => ∃ s b O pl mo, ds = [.ref s] ∧ OctAt G s b O pl mo ∧ Q (.int (pl : Nat)) G
def f_oTell : FnE := { con := c_oTell, ar := 1, len := fun ds G Q X ⟨_, _, _, _, _, h, _⟩ => by rw [h]; rfl }
def b_oTell : List S := [
  .ret (.att (.var 0) "place")]
theorem ok_oTell (Γ : Gam) (ha : ∀ f ∈ aOct, Γ.at_ "Octets" f = true) (N : List Str) (hN : N.length = 1) (ds : List Dat) (G : AG) (Q : AQ) (X : AX) (h : c_oTell ds G Q X) : wSs Γ b_oTell (startD N ds) G (endsOf Q X) := by
  obtain ⟨s, b, O, pl, mo, rfl, hO, hq⟩ := h
  have e : startD N [.ref s] = [some (.ref s)] := by unfold startD; rw [hN]; rfl
  rw [e]
  unfold b_oTell
  ((first | rw [wSs] | (dsimp only; rw [wSs])); simp only [wS, wE, List.getElem?_cons_zero])
  exact attA hO.s_ (ha "place" (by unfold aOct; simp)) rfl (rt_ (X := X) hq)
def c_oCont : Con := fun ds G Q X => ∃ s b O pl mo, ds = [.ref s] ∧ OctAt G s b O pl mo ∧ O.length ≤ 10000 ∧ Q (.tup (di O)) G
def f_oCont : FnE := { con := c_oCont, ar := 1, len := fun ds G Q X ⟨_, _, _, _, _, h, _⟩ => by rw [h]; rfl }
def b_oCont : List S := [
  .ret (.blt true .tuple [(.att (.var 0) "octets")])]
theorem ok_oCont (Γ : Gam) (ha : ∀ f ∈ aOct, Γ.at_ "Octets" f = true) (N : List Str) (hN : N.length = 1) (ds : List Dat) (G : AG) (Q : AQ) (X : AX) (h : c_oCont ds G Q X) : wSs Γ b_oCont (startD N ds) G (endsOf Q X) := by
  obtain ⟨s, b, O, pl, mo, rfl, hO, lO, hq⟩ := h
  have e : startD N [.ref s] = [some (.ref s)] := by unfold startD; rw [hN]; rfl
  rw [e]
  have big := big
  unfold b_oCont
  ((first | rw [wSs] | (dsimp only; rw [wSs])); simp only [wS, wE, wEs, List.getElem?_cons_zero, yn])
  refine attA hO.s_ (ha "octets" (by unfold aOct; simp)) rfl ?_
  simp only [zW, yc, some_inj, exists_eq_left', hO.b_]
  exact rt_ (X := X) hq
def c_oSeek : Con := fun ds G Q X => ∃ s b O pl mo pos, ds = [.ref s, .int pos] ∧ OctAt G s b O pl mo ∧ if 0 ≤ pos then Q .non (gu G s (.ins "Octets" (octF6 b mo pos.toNat))) else X "BadPlace" [("place", .int pos)] G
def f_oSeek : FnE := { con := c_oSeek, ar := 2, len := fun ds G Q X ⟨_, _, _, _, _, _, h, _⟩ => by rw [h]; rfl }
def b_oSeek : List S := [
  .if_ (.cmp .lt (.var 1) (.cst (.int 0))) [.raise "BadPlace" [(.var 1)]] [],
  .setAtt (.var 0) "place" (.var 1)]
theorem ok_oSeek (Γ : Gam) (ha : ∀ f ∈ aOct, Γ.at_ "Octets" f = true) (hx : Γ.xc "BadPlace" = some (["place"] : List Str)) (N : List Str) (hN : N.length = 2) (ds : List Dat) (G : AG) (Q : AQ) (X : AX) (h : c_oSeek ds G Q X) : wSs Γ b_oSeek (startD N ds) G (endsOf Q X) := by
  obtain ⟨s, b, O, pl, mo, pos, rfl, hO, hq⟩ := h
  have e : startD N [.ref s, .int pos] = [some (.ref s), some (.int pos)] := by unfold startD; rw [hN]; rfl
  rw [e]
  unfold b_oSeek
  by_cases c : 0 ≤ pos
  · rw [if_pos c] at hq
    have c' : ¬ pos < 0 := by omega
    ((first | rw [wSs] | (dsimp only; rw [wSs])); simp only [wS, wT, wE, List.getElem?_cons_succ, List.getElem?_cons_zero, za, zx, decide_false, zQ, Bool.false_eq_true, if_false, c'])
    refine satA (fs' := octF6 b mo pos.toNat) hO.s_ (ha "place" (by unfold aOct; simp)) (by unfold octF6; simp) (by unfold octF6; rw [Int.toNat_of_nonneg c]; rfl) ?_
    exact ⟨_, .refl _, hq⟩
  · rw [if_neg c] at hq
    have c' : pos < 0 := by omega
    ((first | rw [wSs] | (dsimp only; rw [wSs])); simp only [wS, wT, wE, List.getElem?_cons_succ, List.getElem?_cons_zero, za, zx, decide_true, zQ, if_true, c', hx])
    ((first | rw [wSs] | (dsimp only; rw [wSs])); simp only [wS, some_inj, wEs, wE, List.getElem?_cons_succ, List.getElem?_cons_zero, exists_eq_left', hx])
    refine ⟨by simp, ?_⟩
    exact ⟨rfl, exS (Q := Q) (Sub.refl _) hq⟩
def RowR (G : AG) (b : Addr) (x : Dat) (D : List Int) : Prop := x = .tup (di D) ∨ ∃ a, x = .ref a ∧ G a = some (.lst (di D)) ∧ a ≠ b
def c_oWrite : Con := fun ds G Q X => ∃ s b O pl mo x D, ds = [.ref s, x] ∧ OctAt G s b O pl mo ∧ O.length ≤ 10000 ∧ pl ≤ 10000 ∧ D.length ≤ 1000 ∧ RowR G b x D ∧
  ∀ G', (∀ a u, a ≠ s → a ≠ b → G a = some u → G' a = some u) → OctAt G' s b (wrO O pl D) (pl + D.length) mo → Q (.int (D.length : Nat)) G'
def f_oWrite : FnE := { con := c_oWrite, ar := 2, len := fun ds G Q X ⟨_, _, _, _, _, _, _, h, _⟩ => by rw [h]; rfl }
def b_oWrite : List S := [
  .set 2 (.blt true .len [(.var 1)]),
  .if_ (.cmp .gt (.var 2) (.cst (.int 0))) [.expr (.meth .extend (.att (.var 0) "octets") [(.bin true .mul (.lst true [(.cst (.int 0))]) (.bin true .sub (.att (.var 0) "place") (.blt true .len [(.att (.var 0) "octets")])))]), .setSl (.att (.var 0) "octets") (.att (.var 0) "place") (.bin true .add (.att (.var 0) "place") (.var 2)) (.blt false .list [(.var 1)]), .setAtt (.var 0) "place" (.bin true .add (.att (.var 0) "place") (.var 2))] [],
  .ret (.var 2)]
theorem ok_oWrite (Γ : Gam) (ha : ∀ f ∈ aOct, Γ.at_ "Octets" f = true) (N : List Str) (hN : N.length = 3) (ds : List Dat) (G : AG) (Q : AQ) (X : AX) (h : c_oWrite ds G Q X) : wSs Γ b_oWrite (startD N ds) G (endsOf Q X) := by
  obtain ⟨s, b, O, pl, mo, x, D, rfl, hO, lO, lp, lD, hx, hq⟩ := h
  have e : startD N [.ref s, x] = [some (.ref s), some x, none] := by unfold startD; rw [hN]; rfl
  rw [e]
  have big := big
  have a1 := ha "octets" (by unfold aOct; simp)
  have a3 := ha "place" (by unfold aOct; simp)
  have sb := hO.ne
  unfold b_oWrite
  -- what is done with the bytes
  have rest : wSs Γ [.if_ (.cmp .gt (.var 2) (.cst (.int 0))) [.expr (.meth .extend (.att (.var 0) "octets") [(.bin true .mul (.lst true [(.cst (.int 0))]) (.bin true .sub (.att (.var 0) "place") (.blt true .len [(.att (.var 0) "octets")])))]), .setSl (.att (.var 0) "octets") (.att (.var 0) "place") (.bin true .add (.att (.var 0) "place") (.var 2)) (.blt false .list [(.var 1)]), .setAtt (.var 0) "place" (.bin true .add (.att (.var 0) "place") (.var 2))] [], .ret (.var 2)] [some (.ref s), some x, some (.int (D.length : Nat))] G (endsOf Q X) := by
    by_cases c : D = []
    · subst c
      ((first | rw [wSs] | (dsimp only; rw [wSs])); simp only [wS, wT, wE, List.getElem?_cons_succ, List.getElem?_cons_zero, za, zA, zQ, decide_eq_true_eq])
      refine rt_ (X := X) (hq G (fun a u _ _ e => e) ⟨hO.s_, ?_⟩)
      unfold wrO
      rw [if_pos rfl]
      exact hO.b_
    · have hD : 0 < D.length := List.length_pos_iff.2 c
      have c' : (0 : Int) < ((D.length : Nat) : Int) := by omega
      ((first | rw [wSs] | (dsimp only; rw [wSs])); simp only [wS, wT, wE, List.getElem?_cons_succ, List.getElem?_cons_zero, za, zA, decide_true, zQ, if_true, c'])
      ((first | rw [wSs] | (dsimp only; rw [wSs])); simp only [wS, wE, List.getElem?_cons_zero, wEs, yk, zv])
      refine attA hO.s_ a1 rfl ?_
      have sqb : seqOf G (.ref b) = some (di O) := by simp only [seqOf, lstOf, hO.b_]
      refine ⟨⟨_, lst_ref hO.b_⟩, by (first | assumption | decide | (simp only [RgOk, CMul, CDiv, CPow]; omega) | (have := big; omega) | (have := big; simp only [List.length_cons, List.length_nil, List.length_map, List.length_append, List.length_replicate]; omega)), attA hO.s_ a3 rfl (attA hO.s_ a1 rfl ⟨_, sqb, ?_⟩)⟩
      simp only [yx, exists_and_left, zd, zp, zv, ya, some_inj, exists_eq_left', List.length_map]
      have ek : (((pl : Nat) : Int) - ((O.length : Nat) : Int)).toNat = pl - O.length := by omega
      rw [ek]
      have ez : ∀ k : Nat, (List.replicate k [Dat.int 0]).flatten = di (List.replicate k 0) := fun k => by
        induction k with
        | zero => rfl
        | succ k ih => rw [List.replicate_succ, List.flatten_cons, ih, List.replicate_succ]; rfl
      rw [ez]
      refine ⟨by omega, by omega, by rw [List.length_map, List.length_replicate]; omega, ?_⟩
      refine ⟨_, hO.b_, by rw [List.length_map, List.length_map, List.length_replicate]; omega, ?_⟩
      have e1 : di O ++ di (List.replicate (pl - O.length) 0) = di (O ++ List.replicate (pl - O.length) 0) := by unfold di; rw [List.map_append]
      rw [e1]
      have l1 : pl ≤ (O ++ List.replicate (pl - O.length) 0).length := by rw [List.length_append, List.length_replicate]; omega
      have l2 : (O ++ List.replicate (pl - O.length) 0).length ≤ 20000 := by rw [List.length_append, List.length_replicate]; omega
      have ew : wrO O pl D = (O ++ List.replicate (pl - O.length) 0).take pl ++ D ++ (O ++ List.replicate (pl - O.length) 0).drop (pl + D.length) := by unfold wrO; rw [if_neg c]
      rw [ew] at hq
      generalize O ++ List.replicate (pl - O.length) 0 = O1 at l1 l2 hq ⊢
      have hs1 : gu G b (.lst (di O1)) s = some (.ins "Octets" (octF6 b mo pl)) := by rw [gu_ne sb]; exact hO.s_
      have hb1 : gu G b (.lst (di O1)) b = some (.lst (di O1)) := gu_same
      have kp1 : ∀ a u, a ≠ b → G a = some u → gu G b (.lst (di O1)) a = some u := fun a u ne e => by rw [gu_ne ne]; exact e
      have sq1 : seqOf (gu G b (.lst (di O1))) x = some (di D) := by
        rcases hx with rfl | ⟨a, rfl, h1, h2⟩
        · rfl
        · have := kp1 a _ h2 h1
          simp only [seqOf, lstOf, this]
      generalize gu G b (.lst (di O1)) = G1 at hs1 hb1 kp1 sq1 ⊢
      ((first | rw [wSs] | (dsimp only; rw [wSs])); simp only [wS, wE, wEs, List.getElem?_cons_succ, List.getElem?_cons_zero, yo, zw])
      refine ⟨_, sq1, by rw [List.length_map]; omega, fun cc hcc => ?_⟩
      have cb : b ≠ cc := fun z => by rw [← z, hb1] at hcc; cases hcc
      have cs : s ≠ cc := fun z => by rw [← z, hs1] at hcc; cases hcc
      have hs2 : gu G1 cc (.lst (di D)) s = some (.ins "Octets" (octF6 b mo pl)) := gu_o hcc hs1
      have hb2 : gu G1 cc (.lst (di D)) b = some (.lst (di O1)) := gu_o hcc hb1
      have hc2 : gu G1 cc (.lst (di D)) cc = some (.lst (di D)) := gu_same
      have kp2 : ∀ a u, a ≠ b → G a = some u → gu G1 cc (.lst (di D)) a = some u := fun a u ne e => gu_o hcc (kp1 a u ne e)
      generalize gu G1 cc (.lst (di D)) = G2 at hs2 hb2 hc2 kp2 ⊢
      refine attA hs2 a1 rfl (attA hs2 a3 rfl ?_)
      unfold intK
      simp only
      refine attA (G := G2) hs2 a3 rfl ?_
      simp only [zb]
      refine ⟨_, _, hb2, hc2, cb, by omega, by omega, by rw [List.length_map]; omega, by rw [List.length_map, List.length_map]; omega, ?_⟩
      have e2 : (di O1).take ((pl : Nat) : Int).toNat ++ di D ++ (di O1).drop (((pl : Nat) : Int) + ((D.length : Nat) : Int)).toNat = di (O1.take pl ++ D ++ O1.drop (pl + D.length)) := by
        rw [show ((pl : Nat) : Int).toNat = pl by omega, show (((pl : Nat) : Int) + ((D.length : Nat) : Int)).toNat = pl + D.length by omega]
        unfold di
        rw [List.map_append, List.map_append, List.map_take, List.map_drop]
      rw [e2]
      have hs3 : gu G2 b (.lst (di (O1.take pl ++ D ++ O1.drop (pl + D.length)))) s = some (.ins "Octets" (octF6 b mo pl)) := by rw [gu_ne sb]; exact hs2
      have hb3 : gu G2 b (.lst (di (O1.take pl ++ D ++ O1.drop (pl + D.length)))) b = some (.lst (di (O1.take pl ++ D ++ O1.drop (pl + D.length)))) := gu_same
      have kp3 : ∀ a u, a ≠ b → G a = some u → gu G2 b (.lst (di (O1.take pl ++ D ++ O1.drop (pl + D.length)))) a = some u := fun a u ne e => by rw [gu_ne ne]; exact kp2 a u ne e
      generalize gu G2 b (.lst (di (O1.take pl ++ D ++ O1.drop (pl + D.length)))) = G3 at hs3 hb3 kp3 ⊢
      ((first | rw [wSs] | (dsimp only; rw [wSs])); simp only [wS, wE, List.getElem?_cons_zero, List.getElem?_cons_succ, za])
      refine attA hs3 a3 rfl ?_
      simp only [zb]
      refine satA (fs' := octF6 b mo (pl + D.length)) hs3 a3 (by unfold octF6; simp) rfl ?_
      ((first | rw [wSs] | (dsimp only; rw [wSs])); simp only [wS, wE, List.getElem?_cons_succ, List.getElem?_cons_zero])
      refine rt_ (X := X) (hq _ (fun a u n1 n2 e => by rw [gu_ne n1]; exact kp3 a u n2 e) ⟨gu_same, by rw [gu_ne sb.symm]; exact hb3⟩)
  rcases hx with rfl | ⟨a, rfl, h1, h2⟩
  · ((first | rw [wSs] | (dsimp only; rw [wSs])); simp only [wS, wE, wEs, List.getElem?_cons_succ, List.getElem?_cons_zero, List.set_cons_succ, List.set_cons_zero, yk, zS, some_inj, exists_eq_left', List.length_map])
    exact rest
  · ((first | rw [wSs] | (dsimp only; rw [wSs])); simp only [wS, wE, wEs, List.getElem?_cons_succ, List.getElem?_cons_zero, List.set_cons_succ, List.set_cons_zero, yk, zW, yc, some_inj, exists_eq_left', h1, List.length_map])
    exact rest
def c_sought : Con := fun ds G Q X => ∃ s b O pl mo pos, ds = [.ref s, .int pos] ∧ OctAt G s b O pl mo ∧ if 0 ≤ pos then Q .non (gu G s (.ins "Octets" (octF6 b mo pos.toNat))) else Q (.int pos) G
def f_sought : FnE := { con := c_sought, ar := 2, len := fun ds G Q X ⟨_, _, _, _, _, _, h, _⟩ => by rw [h]; rfl }
def b_sought : List S := [
  .set 2 (.cst (.str "odd")),
  .try_ [.set 2 (.mcall "Octets" "seek" (.var 0) [(.var 1)])] [⟨"BadPlace", some 3, .set 2 (.isi "SignError" (.fld "place") (.cst (.str "odd")))⟩],
  .ret (.var 2)]
structure SoG (Γ : Gam) : Prop where
  seek : Γ.ms "Octets" "seek" = some f_oSeek
  xp : Γ.xc "BadPlace" = some (["place"] : List Str)
  xs : (Γ.xc "SignError").isSome = true
  ex : Tb.exo "BadPlace" = true
  sub : Tb.sub (.inr "BadPlace") (.inr "SignError") = some true
  xm : Tb.xm "BadPlace" "BadPlace" = some true
theorem ok_sought (Γ : Gam) (g : SoG Γ) (N : List Str) (hN : N.length = 4) (ds : List Dat) (G : AG) (Q : AQ) (X : AX) (h : c_sought ds G Q X) : wSs Γ b_sought (startD N ds) G (endsOf Q X) := by
  obtain ⟨s, b, O, pl, mo, pos, rfl, hO, hq⟩ := h
  have e : startD N [.ref s, .int pos] = [some (.ref s), some (.int pos), none, none] := by unfold startD; rw [hN]; rfl
  rw [e]
  unfold b_sought
  ((first | rw [wSs] | (dsimp only; rw [wSs])); simp only [wS, wE, List.set_cons_succ, List.set_cons_zero])
  rw [wSs]
  simp only [wS]
  refine ⟨fun h hh => ?_, ?_⟩
  · rw [List.mem_singleton.1 hh]
    show (Γ.xc "BadPlace").isSome = true
    rw [g.xp]; rfl
  rw [wSs]
  simp only [wS, wE, List.getElem?_cons_zero, wEs, List.getElem?_cons_succ, List.set_cons_succ, List.set_cons_zero, za, g.seek]
  refine ⟨⟨Nat.le_of_ble_eq_true rfl, Nat.le_of_ble_eq_true rfl⟩, ⟨_, hO.s_, rfl⟩, s, b, O, pl, mo, pos, rfl, hO, ?_⟩
  by_cases c : 0 ≤ pos
  · rw [if_pos c] at hq ⊢
    ((first | rw [wSs] | (dsimp only; rw [wSs])); simp only [wS, wE, List.getElem?_cons_succ, List.getElem?_cons_zero])
    exact rt_ (X := X) hq
  · rw [if_neg c] at hq ⊢
    show hdsW Γ "BadPlace" [("place", .int pos)] _ G _ _
    unfold hdsW
    simp only
    refine ⟨true, g.xm, ?_⟩
    rw [if_pos rfl]
    refine ⟨.int pos, by unfold heV; simp [g.ex, g.xs, g.sub, g.xp, heV], ?_⟩
    show wSs Γ [S.ret (E.var 2)] [some (.ref s), some (.int pos), some (.int pos), none] G (endsOf Q X)
    ((first | rw [wSs] | (dsimp only; rw [wSs])); simp only [wS, wE, List.getElem?_cons_succ, List.getElem?_cons_zero])
    exact rt_ (X := X) hq
end Av
set_option Elab.async false
set_option linter.all false
set_option maxRecDepth 100000
set_option maxHeartbeats 1000000
/-! # K76b: the law on streams of bytes -/
namespace Av
open PySem PySem.Spec PyProof.Rows L2
variable [Tb]
theorem wrO_len2 {O : List Int} {pl : Nat} {D : List Int} : (wrO O pl D).length ≤ max O.length (pl + D.length) := by
  unfold wrO
  split
  · omega
  · simp only [List.length_append, List.length_take, List.length_drop, List.length_replicate]; omega
/-! ### rows, as tuples or real lists -/
def c_hand76 : Con := fun ds G Q X => ∃ p n o xs, ds = [.ref p, .lst (di xs)] ∧ xs.length ≤ 1000 ∧ G p = some o ∧ DrO (n + 1) o ∧ ∀ a y o', G a = none → DrO n o' → (y = .tup (di xs) ∨ y = .ref a) → Q y (gu (gu G a (.lst (di xs))) p o')
def f_hand76 : FnE := { con := c_hand76, ar := 2, len := fun ds G Q X ⟨p, n, o, xs, h, _⟩ => by rw [h]; rfl }
def b_hand76 : List S := [.ret (.ix (.lst true [(.blt true .tuple [(.var 1)]), (.blt false .list [(.var 1)])]) (.call "_law_draw" [(.var 0), (.cst (.int 2))]))]
theorem ok_hand76 (Γ : Gam) (hd : Γ.fn "_law_draw" = some f_draw) (N : List Str) (hN : N.length = 2) (ds : List Dat) (G : AG) (Q : AQ) (X : AX) (h : c_hand76 ds G Q X) : wSs Γ b_hand76 (startD N ds) G (endsOf Q X) := by
  obtain ⟨p, n, o, xs, rfl, hz, hp, ho, hq⟩ := h
  have st : startD N [.ref p, .lst (di xs)] = [some (.ref p), some (.lst (di xs))] := by unfold startD; rw [hN]; rfl
  rw [st]
  have big := big
  unfold b_hand76
  ((first | rw [wSs] | (dsimp only; rw [wSs])); simp only [wS, wE, wEs, List.getElem?_cons_succ, List.getElem?_cons_zero, zv, yo, zU, some_inj, zw, exists_eq_left', yn, hd])
  refine ⟨by rw [List.length_map]; omega, fun a ha => ⟨by (first | assumption | decide | (simp only [RgOk, CMul, CDiv, CPow]; omega) | (have := big; omega) | (have := big; simp only [List.length_cons, List.length_nil, List.length_map, List.length_append, List.length_replicate]; omega)), ⟨Nat.le_of_ble_eq_true rfl, Nat.le_of_ble_eq_true rfl⟩, p, 2, n, o, rfl, gu_o ha hp, ho, by decide, by decide, fun r o' h0 h1 h2 => ?_⟩⟩
  have : r = 0 ∨ r = 1 := by omega
  rcases this with rfl | rfl
  · exact ixL rfl ⟨_, .refl _, hq _ _ o' ha h2 (.inl rfl)⟩
  · exact ixL rfl ⟨_, .refl _, hq _ _ o' ha h2 (.inr rfl)⟩
/-! ### the law's own stream -/
theorem dixA {m : Addr} {k v : Dat} {x : Key} {kvs : List (Key × Dat)} {G : AG} {Q : AQ} (h : G m = some (.dk kvs)) (hk : keyD k = some x) (hl : lookD kvs x = some v) (q : Q v G) : dixW (.ref m) k G Q := ⟨_, _, _, h, hk, hl, q⟩
def mD (O : List Int) (pl : Int) (mo : Option Nat) : AO := .dk [(.inr "octets", .lst (di O)), (.inr "place", .int pl), (.inr "most", mostD mo)]
def c_from : Con := fun ds G Q X => ∃ m O pl mo size, ds = [.ref m, .int size] ∧ G m = some (mD O ((pl : Nat) : Int) mo) ∧ O.length ≤ 1000 ∧ Q (.tup (di (rdO O pl size mo))) (gu G m (mD O ((pl + (rdO O pl size mo).length : Nat) : Int) mo))
def f_from : FnE := { con := c_from, ar := 2, len := fun ds G Q X ⟨_, _, _, _, _, h, _⟩ => by rw [h]; rfl }
def b_from : List S := [
  .set 2 (.slFrom true (.dix (.var 0) (.cst (.str "octets"))) (.dix (.var 0) (.cst (.str "place")))),
  .set 2 (.ite (.cmp .ge (.var 1) (.cst (.int 0))) (.slTo true (.var 2) (.var 1)) (.var 2)),
  .set 2 (.ite (.cmp .isnt (.dix (.var 0) (.cst (.str "most"))) (.cst (.non))) (.slTo true (.var 2) (.dix (.var 0) (.cst (.str "most")))) (.var 2)),
  .dset (.var 0) (.cst (.str "place")) (.bin false .add (.dix (.var 0) (.cst (.str "place"))) (.blt true .len [(.var 2)])),
  .ret (.blt true .tuple [(.var 2)])]
theorem ok_from (Γ : Gam) (N : List Str) (hN : N.length = 3) (ds : List Dat) (G : AG) (Q : AQ) (X : AX) (h : c_from ds G Q X) : wSs Γ b_from (startD N ds) G (endsOf Q X) := by
  obtain ⟨m, O, pl, mo, size, rfl, hm, lO, hq⟩ := h
  have st : startD N [.ref m, .int size] = [some (.ref m), some (.int size), none] := by unfold startD; rw [hN]; rfl
  rw [st]
  have big := big
  have l1 : lookD [((.inr "octets" : Key), Dat.lst (di O)), (.inr "place", .int ((pl : Nat) : Int)), (.inr "most", mostD mo)] (.inr "octets") = some (.lst (di O)) := rfl
  have l2 : lookD [((.inr "octets" : Key), Dat.lst (di O)), (.inr "place", .int ((pl : Nat) : Int)), (.inr "most", mostD mo)] (.inr "place") = some (.int ((pl : Nat) : Int)) := rfl
  have l3 : lookD [((.inr "octets" : Key), Dat.lst (di O)), (.inr "place", .int ((pl : Nat) : Int)), (.inr "most", mostD mo)] (.inr "most") = some (mostD mo) := rfl
  unfold b_from
  ((first | rw [wSs] | (dsimp only; rw [wSs])); simp only [wS, wE, List.getElem?_cons_zero, List.set_cons_succ, List.set_cons_zero])
  refine dixA hm rfl l1 (dixA hm rfl l2 ?_)
  simp only [yi, zv, zR]
  rw [cut_fr]
  refine ⟨by rw [List.length_map, List.length_drop]; omega, ?_⟩
  have rl := rdO_len (O := O) (pl := pl) (size := size) (mo := mo)
  have fin : ∀ F, F = rdO O pl size mo → wSs Γ [.dset (.var 0) (.cst (.str "place")) (.bin false .add (.dix (.var 0) (.cst (.str "place"))) (.blt true .len [(.var 2)])), .ret (.blt true .tuple [(.var 2)])] [some (.ref m), some (.int size), some (.lst (di F))] G (endsOf Q X) := fun F eF => by
    subst eF
    ((first | rw [wSs] | (dsimp only; rw [wSs])); simp only [wS, wE, List.getElem?_cons_zero, wEs, List.getElem?_cons_succ, yk, zU, some_inj, exists_eq_left'])
    refine dixA hm rfl l2 ?_
    simp only [zb, List.length_map]
    refine ⟨_, _, hm, rfl, by (first | assumption | decide | (simp only [RgOk, CMul, CDiv, CPow]; omega) | (have := big; omega) | (have := big; simp only [List.length_cons, List.length_nil, List.length_map, List.length_append, List.length_replicate]; omega)), ?_⟩
    ((first | rw [wSs] | (dsimp only; rw [wSs])); simp only [wS, wE, wEs, List.getElem?_cons_succ, List.getElem?_cons_zero, yn, zU, some_inj, exists_eq_left'])
    exact rt_ (X := X) hq
  have step : ∀ F, F = (if 0 ≤ size then (O.drop pl).take size.toNat else O.drop pl) → wSs Γ [.set 2 (.ite (.cmp .isnt (.dix (.var 0) (.cst (.str "most"))) (.cst (.non))) (.slTo true (.var 2) (.dix (.var 0) (.cst (.str "most")))) (.var 2)), .dset (.var 0) (.cst (.str "place")) (.bin false .add (.dix (.var 0) (.cst (.str "place"))) (.blt true .len [(.var 2)])), .ret (.blt true .tuple [(.var 2)])] [some (.ref m), some (.int size), some (.lst (di F))] G (endsOf Q X) := fun F eF => by
    cases mo with
    | none =>
      ((first | rw [wSs] | (dsimp only; rw [wSs])); simp only [wS, wE, wT, List.getElem?_cons_zero, List.getElem?_cons_succ, List.set_cons_succ, List.set_cons_zero, yi, zv, zD, isNonD, zQ, Bool.not_eq_true'])
      refine dixA hm rfl l3 ?_
      rw [if_neg (by unfold mostD; simp)]
      exact fin F (by rw [eF]; rfl)
    | some k =>
      ((first | rw [wSs] | (dsimp only; rw [wSs])); simp only [wS, wE, wT, List.getElem?_cons_zero, List.getElem?_cons_succ, List.set_cons_succ, List.set_cons_zero, yi, zv, zD, isNonD, zQ, Bool.not_eq_true'])
      refine dixA hm rfl l3 ?_
      rw [if_pos (by rfl)]
      refine dixA hm rfl l3 ?_
      show (cutD (di F) none (some ((k : Nat) : Int))).length ≤ sizeLine ∧ wSs Γ _ [_, _, some (.lst (cutD (di F) none (some ((k : Nat) : Int))))] G _
      rw [cut_t (by omega)]
      have lF : F.length ≤ O.length := by
        rw [eF]
        split
        · rw [List.length_take, List.length_drop]; omega
        · rw [List.length_drop]; omega
      exact ⟨by rw [List.length_map, List.length_take]; omega, fin _ (by rw [eF]; unfold rdO; rw [show ((k : Nat) : Int).toNat = k from by omega])⟩
  by_cases c : 0 ≤ size
  · ((first | rw [wSs] | (dsimp only; rw [wSs])); simp only [wS, wE, wT, List.getElem?_cons_succ, List.getElem?_cons_zero, List.set_cons_succ, List.set_cons_zero, yi, zv, zR, zB, decide_true, zQ, if_true, c])
    rw [cut_t c]
    exact ⟨by rw [List.length_map, List.length_take, List.length_drop]; omega, step _ (by rw [if_pos c])⟩
  · ((first | rw [wSs] | (dsimp only; rw [wSs])); simp only [wS, wE, wT, List.getElem?_cons_succ, List.getElem?_cons_zero, List.set_cons_succ, List.set_cons_zero, yi, zv, zR, zB, decide_false, zQ, Bool.false_eq_true, if_false, c])
    exact step _ (by rw [if_neg c])
theorem neL0 {D : List Int} {G : AG} {Q : AQ} (q : Q (.bl (!decide (D = []))) G) : cmpW .ne (.lst (di D)) (.lst []) G Q := by
  refine .inr ⟨.list (D.map PyData.int), .list [], .lst (deeps_ints D), .lst .nil, ?_, by decide, ?_⟩
  · unfold SeqAt.shaped
    simp only [PyData.canLay0, lay_ints, PyData.depth, depthAll_ints]
    rfl
  · have e : PyData.eqv (.list (D.map PyData.int)) (.list []) = decide (D = []) := by
      cases D <;> simp [PyData.eqv, PyData.eqvAll]
    rw [if_pos rfl, e]
    exact q
def c_put : Con := fun ds G Q X => ∃ m O pl mo D, ds = [.ref m, .lst (di D)] ∧ G m = some (mD O ((pl : Nat) : Int) mo) ∧ O.length ≤ 1000 ∧ pl ≤ 1000 ∧ D.length ≤ 1000 ∧ Q .non (gu G m (mD (wrO O pl D) ((pl + D.length : Nat) : Int) mo))
def f_put : FnE := { con := c_put, ar := 2, len := fun ds G Q X ⟨_, _, _, _, _, h, _⟩ => by rw [h]; rfl }
def b_put : List S := [
  .dset (.var 0) (.cst (.str "octets")) (.bin true .add (.dix (.var 0) (.cst (.str "octets"))) (.bin true .mul (.bin true .mul (.lst true [(.cst (.int 0))]) (.blt true .max2 [(.cst (.int 0)), (.bin true .sub (.dix (.var 0) (.cst (.str "place"))) (.blt true .len [(.dix (.var 0) (.cst (.str "octets")))]))])) (.blt true .int [(.cmp .ne (.var 1) (.lst true []))]))),
  .set 2 (.dix (.var 0) (.cst (.str "place"))),
  .dset (.var 0) (.cst (.str "octets")) (.bin true .add (.bin true .add (.slTo true (.dix (.var 0) (.cst (.str "octets"))) (.var 2)) (.var 1)) (.slFrom true (.dix (.var 0) (.cst (.str "octets"))) (.bin true .add (.var 2) (.blt true .len [(.var 1)])))),
  .dset (.var 0) (.cst (.str "place")) (.bin false .add (.dix (.var 0) (.cst (.str "place"))) (.blt true .len [(.var 1)]))]
theorem ok_put (Γ : Gam) (N : List Str) (hN : N.length = 3) (ds : List Dat) (G : AG) (Q : AQ) (X : AX) (h : c_put ds G Q X) : wSs Γ b_put (startD N ds) G (endsOf Q X) := by
  obtain ⟨m, O, pl, mo, D, rfl, hm, lO, lp, lD, hq⟩ := h
  have st : startD N [.ref m, .lst (di D)] = [some (.ref m), some (.lst (di D)), none] := by unfold startD; rw [hN]; rfl
  rw [st]
  have big := big
  have l1 : lookD [((.inr "octets" : Key), Dat.lst (di O)), (.inr "place", .int ((pl : Nat) : Int)), (.inr "most", mostD mo)] (.inr "octets") = some (.lst (di O)) := rfl
  have l2 : lookD [((.inr "octets" : Key), Dat.lst (di O)), (.inr "place", .int ((pl : Nat) : Int)), (.inr "most", mostD mo)] (.inr "place") = some (.int ((pl : Nat) : Int)) := rfl
  unfold b_put
  ((first | rw [wSs] | (dsimp only; rw [wSs])); simp only [wS, wE, List.getElem?_cons_zero, wEs, List.getElem?_cons_succ, zv, yk])
  refine dixA hm rfl l1 ?_
  refine ⟨by (first | assumption | decide | (simp only [RgOk, CMul, CDiv, CPow]; omega) | (have := big; omega) | (have := big; simp only [List.length_cons, List.length_nil, List.length_map, List.length_append, List.length_replicate]; omega)), dixA hm rfl l2 (dixA hm rfl l1 ?_)⟩
  simp only [zU, some_inj, zd, yv, zp, zv, exists_eq_left', List.length_map]
  obtain ⟨k, ek, ekn⟩ : ∃ k : Nat, (if ((pl : Nat) : Int) - ((O.length : Nat) : Int) > 0 then ((pl : Nat) : Int) - ((O.length : Nat) : Int) else 0) = ((k : Nat) : Int) ∧ k = pl - O.length := by
    by_cases c : ((pl : Nat) : Int) - ((O.length : Nat) : Int) > 0
    · exact ⟨pl - O.length, by rw [if_pos c]; omega, rfl⟩
    · exact ⟨0, by rw [if_neg c]; rfl, by omega⟩
  rw [ek]
  have ez : ∀ k : Nat, (List.replicate k [Dat.int 0]).flatten = di (List.replicate k 0) := fun k => by
    induction k with
    | zero => rfl
    | succ k ih => rw [List.replicate_succ, List.flatten_cons, ih, List.replicate_succ]; rfl
  rw [show ((k : Nat) : Int).toNat = k from by omega, ez]
  refine ⟨by omega, by omega, by rw [List.length_map, List.length_replicate]; omega, by (first | assumption | decide | (simp only [RgOk, CMul, CDiv, CPow]; omega) | (have := big; omega) | (have := big; simp only [List.length_cons, List.length_nil, List.length_map, List.length_append, List.length_replicate]; omega)), neL0 ?_⟩
  simp only [ym, Bool.not_eq_true', zp, zv, zo]
  obtain ⟨O1, eO1, lO1, eW⟩ : ∃ O1 : List Int, di O ++ (List.replicate (if decide (D = []) = false then (1 : Int) else 0).toNat (di (List.replicate k 0))).flatten = di O1 ∧ O1.length ≤ 3000 ∧ O1.take pl ++ D ++ O1.drop (pl + D.length) = wrO O pl D := by
    by_cases c : D = []
    · refine ⟨O, ?_, by omega, ?_⟩
      · rw [if_neg (by simp [c])]
        simp
      · unfold wrO
        rw [if_pos c, c]
        simp
    · refine ⟨O ++ List.replicate (pl - O.length) 0, ?_, by rw [List.length_append, List.length_replicate]; omega, ?_⟩
      · rw [if_pos (by simp [c]), ekn]
        show di O ++ (List.replicate 1 (di (List.replicate (pl - O.length) 0))).flatten = _
        unfold di
        rw [List.map_append]
        simp
      · unfold wrO
        rw [if_neg c]
  refine ⟨by split <;> omega, by split <;> omega, ?_, ?_⟩
  · have h1 := congrArg List.length eO1
    rw [List.length_append, List.length_map] at h1
    rw [List.length_map] at h1
    omega
  rw [eO1]
  refine ⟨by rw [List.length_map]; omega, _, _, hm, rfl, by (first | assumption | decide | (simp only [RgOk, CMul, CDiv, CPow]; omega) | (have := big; omega) | (have := big; simp only [List.length_cons, List.length_nil, List.length_map, List.length_append, List.length_replicate]; omega)), ?_⟩
  have hm1 : ∀ B : List Int, gu G m (.dk [(.inr "octets", .lst (di B)), (.inr "place", .int ((pl : Nat) : Int)), (.inr "most", mostD mo)]) m = some (mD B ((pl : Nat) : Int) mo) := fun B => gu_same
  have l1' : ∀ B : List Int, lookD [((.inr "octets" : Key), Dat.lst (di B)), (.inr "place", .int ((pl : Nat) : Int)), (.inr "most", mostD mo)] (.inr "octets") = some (.lst (di B)) := fun _ => rfl
  have l2' : ∀ B : List Int, lookD [((.inr "octets" : Key), Dat.lst (di B)), (.inr "place", .int ((pl : Nat) : Int)), (.inr "most", mostD mo)] (.inr "place") = some (.int ((pl : Nat) : Int)) := fun _ => rfl
  show wSs Γ _ _ (gu G m (.dk [(.inr "octets", .lst (di O1)), (.inr "place", .int ((pl : Nat) : Int)), (.inr "most", mostD mo)])) _
  ((first | rw [wSs] | (dsimp only; rw [wSs])); simp only [wS, wE, List.getElem?_cons_zero, List.set_cons_succ, List.set_cons_zero])
  refine dixA (hm1 O1) rfl (l2' O1) ?_
  ((first | rw [wSs] | (dsimp only; rw [wSs])); simp only [wS, wE, List.getElem?_cons_zero, List.getElem?_cons_succ, wEs, yk, zU, some_inj, zb, zR, exists_eq_left'])
  refine dixA (hm1 O1) rfl (l1' O1) ?_
  have ec1 : cutD (di O1) none (some ((pl : Nat) : Int)) = di (O1.take pl) := by
    have := cut_t (xs := O1) (a := ((pl : Nat) : Int)) (by omega)
    rw [this, show ((pl : Nat) : Int).toNat = pl by omega]
  have ec2 : cutD (di O1) (some (((pl : Nat) : Int) + ((D.length : Nat) : Int))) none = di (O1.drop (pl + D.length)) := by
    rw [show ((pl : Nat) : Int) + ((D.length : Nat) : Int) = ((pl + D.length : Nat) : Int) by omega]
    exact cut_fr
  simp only [yi, zv, zo, List.length_map]
  rw [ec1]
  refine ⟨by rw [List.length_map, List.length_take]; omega, by rw [List.length_append, List.length_map, List.length_map, List.length_take]; omega, dixA (hm1 O1) rfl (l1' O1) ?_⟩
  simp only [yi, zv, zo, List.length_map]
  rw [ec2]
  have e3 : di (O1.take pl) ++ di D ++ di (O1.drop (pl + D.length)) = di (wrO O pl D) := by
    rw [← eW]; unfold di; rw [List.map_append, List.map_append]
  have lW := wrO_len2 (O := O) (pl := pl) (D := D)
  rw [e3]
  refine ⟨by rw [List.length_map, List.length_drop]; omega, by rw [List.length_map]; omega, _, _, hm1 O1, rfl, by (first | assumption | decide | (simp only [RgOk, CMul, CDiv, CPow]; omega) | (have := big; omega) | (have := big; simp only [List.length_cons, List.length_nil, List.length_map, List.length_append, List.length_replicate]; omega)), ?_⟩
  rw [gu_gu]
  show wSs Γ _ _ (gu G m (.dk [(.inr "octets", .lst (di (wrO O pl D))), (.inr "place", .int ((pl : Nat) : Int)), (.inr "most", mostD mo)])) _
  ((first | rw [wSs] | (dsimp only; rw [wSs])); simp only [wS, wE, List.getElem?_cons_zero, wEs, List.getElem?_cons_succ, za, yk, zU, some_inj, exists_eq_left'])
  refine dixA (hm1 _) rfl (l2' _) ?_
  simp only [zb, List.length_map]
  refine ⟨_, _, hm1 _, rfl, by (first | assumption | decide | (simp only [RgOk, CMul, CDiv, CPow]; omega) | (have := big; omega) | (have := big; simp only [List.length_cons, List.length_nil, List.length_map, List.length_append, List.length_replicate]; omega)), ?_⟩
  rw [gu_gu]
  exact ⟨_, .refl _, hq⟩
/-! ### the law -/
structure V76 (G : AG) (p s b : Addr) (O : List Int) (pl : Nat) (mo : Option Nat) (n : Nat) : Prop where
  p_ : ∃ o, G p = some o ∧ DrO n o
  o_ : OctAt G s b O pl mo
  bp : b ≠ p
structure W76 (G : AG) (p s b m : Addr) (O : List Int) (pl : Nat) (mo : Option Nat) (n : Nat) : Prop where
  v : V76 G p s b O pl mo n
  m_ : G m = some (mD O ((pl : Nat) : Int) mo)
section
variable {G : AG} {p s b m : Addr} {O : List Int} {pl : Nat} {mo : Option Nat} {n : Nat}
theorem V76.sp (W : V76 G p s b O pl mo n) : s ≠ p := fun z => by obtain ⟨o, h, d⟩ := W.p_; exact dr_ne h d W.o_.s_ (by simp) z
theorem W76.mp (W : W76 G p s b m O pl mo n) : m ≠ p := fun z => by obtain ⟨o, h, d⟩ := W.v.p_; exact dr_ne h d W.m_ (by unfold mD; simp) z
theorem W76.ms (W : W76 G p s b m O pl mo n) : m ≠ s := fun z => by have := W.v.o_.s_; rw [← z, W.m_] at this; cases this
theorem W76.mb (W : W76 G p s b m O pl mo n) : m ≠ b := fun z => by have := W.v.o_.b_; rw [← z, W.m_] at this; cases this
theorem V76.dr (W : V76 G p s b O pl mo n) {k : Nat} {o' : AO} (d : DrO k o') : V76 (gu G p o') p s b O pl mo k := ⟨⟨o', gu_same, d⟩, ⟨by rw [gu_ne W.sp]; exact W.o_.s_, by rw [gu_ne W.bp]; exact W.o_.b_⟩, W.bp⟩
theorem W76.dr (W : W76 G p s b m O pl mo n) {k : Nat} {o' : AO} (d : DrO k o') : W76 (gu G p o') p s b m O pl mo k := ⟨W.v.dr d, by rw [gu_ne W.mp]; exact W.m_⟩
theorem V76.sub (W : V76 G p s b O pl mo n) {G' : AG} (h : Sub G G') : V76 G' p s b O pl mo n := by
  obtain ⟨⟨o, h1, d⟩, h2, h3⟩ := W
  exact ⟨⟨o, h _ _ h1, d⟩, ⟨h _ _ h2.s_, h _ _ h2.b_⟩, h3⟩
theorem W76.sub (W : W76 G p s b m O pl mo n) {G' : AG} (h : Sub G G') : W76 G' p s b m O pl mo n := ⟨W.v.sub h, h _ _ W.m_⟩
theorem W76.mono (W : W76 G p s b m O pl mo n) {k : Nat} (l : k ≤ n) : W76 G p s b m O pl mo k := by
  obtain ⟨⟨⟨o, h1, d⟩, h2, h3⟩, h4⟩ := W
  exact ⟨⟨⟨o, h1, d.mono l⟩, h2, h3⟩, h4⟩
/-- another place in both streams -/
theorem W76.at_ (W : W76 G p s b m O pl mo n) (pl' : Nat) : W76 (gu (gu G s (.ins "Octets" (octF6 b mo pl'))) m (mD O ((pl' : Nat) : Int) mo)) p s b m O pl' mo n := by
  obtain ⟨o, h, d⟩ := W.v.p_
  refine ⟨⟨⟨o, by rw [gu_ne (Ne.symm W.mp), gu_ne (Ne.symm W.v.sp)]; exact h, d⟩, ⟨by rw [gu_ne (Ne.symm W.ms)]; exact gu_same, by rw [gu_ne (Ne.symm W.mb), gu_ne (Ne.symm W.v.o_.ne)]; exact W.v.o_.b_⟩, W.v.bp⟩, gu_same⟩
end
theorem oct0 {G : AG} {s : Addr} {Q : AQ} {X : AX} (h : ∀ G2 b, OctAt G2 s b [] 0 none → Q .non G2) : f_oInit.con [.ref s, .tup [], .non] (gu G s (.ins "Octets" [])) Q X :=
  ⟨s, .tup [], none, [], rfl, rfl, by decide, gu_same, fun b hb => h _ b ⟨gu_same, by rw [gu_ne fun z => by rw [z, gu_same] at hb; cases hb]; exact gu_same⟩⟩
structure LG76 (Γ : Gam) : Prop where
  src : Γ.fn "_law_source" = some f_source
  draw : Γ.fn "_law_draw" = some f_draw
  tl : Γ.gl "list" = some (.ty "list")
  pick : Γ.fn "_law_pick" = some f_pick
  handed : Γ.fn "_law_handed" = some f_hand76
  same : Γ.fn "_law_same" = some (f_same 3)
  from_ : Γ.fn "_law_from" = some f_from
  put : Γ.fn "_law_put" = some f_put
  sought : Γ.fn "_law_sought" = some f_sought
  new : Γ.mke "Octets" = some f_oInit
  read : Γ.ms "Octets" "read" = some f_oRead
  write : Γ.ms "Octets" "write" = some f_oWrite
  tell : Γ.ms "Octets" "tell" = some f_oTell
  cont : Γ.ms "Octets" "content" = some f_oCont
def b_law76 : List S := [
  .for_ (.nm 1) (.rng1 (.cst (.int 5))) [.set 2 (.call "_law_source" [(.var 0), (.var 1)]), .set 3 (.lc true (.call "_law_draw" [(.var 2), (.cst (.int 256))]) (.nm 8) (.rng1 (.call "_law_draw" [(.var 2), (.cst (.int 12))])) [8]), .set 4 (.call "_law_pick" [(.var 2), (.lst true [(.cst (.non)), (.cst (.non)), (.cst (.int 1)), (.cst (.int 2)), (.cst (.int 3)), (.cst (.int 7))])]), .set 5 (.call "_law_handed" [(.var 2), (.var 3)]), .set 6 (.ite (.cmp .isn (.var 4) (.cst (.non))) (.new "Octets" [(.var 5)]) (.new "Octets" [(.var 5), (.var 4)])), .set 7 (.dlit [(.cst (.str "octets")), (.blt true .list [(.var 3)]), (.cst (.str "place")), (.cst (.int 0)), (.cst (.str "most")), (.var 4)]), .if_ (.val (.blt true .isinst [(.var 5), (.glo "list")])) [.expr (.meth .append (.var 5) [(.cst (.int 7))])] [], .for_ (.nm 8) (.rng1 (.call "_law_draw" [(.var 2), (.cst (.int 21))])) [.par2 10 9 (.call "_law_draw" [(.var 2), (.cst (.int 6))]) (.bin true .sub (.call "_law_draw" [(.var 2), (.cst (.int 24))]) (.cst (.int 3))), .set 9 (.ite (.cmp .lt (.var 10) (.cst (.int 2))) (.dget2 (.dlit [(.cst (.int 20)), (.cst (.int 1000000)), (.neg (.cst (.int 3))), (.neg (.cst (.int 10)))]) (.var 9) (.var 9)) (.var 9)), .if_ (.cmp .lt (.var 10) (.cst (.int 2))) [.set 11 (.lst true [(.ite (.or_ (.cmp .eq (.var 10) (.cst (.int 0))) (.one (.cmp .ge (.var 9) (.cst (.int 0))))) (.mcall "Octets" "read" (.var 6) [(.var 9)]) (.mcall "Octets" "read" (.var 6) []))]), .set 12 (.lst true [(.call "_law_from" [(.var 7), (.var 9)])])] [.if_ (.cmp .lt (.var 10) (.cst (.int 4))) [.set 13 (.lc true (.call "_law_draw" [(.var 2), (.cst (.int 256))]) (.nm 14) (.rng1 (.call "_law_draw" [(.var 2), (.cst (.int 6))])) [14]), .par2 11 12 (.lst true [(.mcall "Octets" "write" (.var 6) [(.call "_law_handed" [(.var 2), (.var 13)])])]) (.lst true [(.blt true .len [(.var 13)])]), .expr (.call "_law_put" [(.var 7), (.var 13)])] [.par2 11 12 (.lst true [(.call "_law_sought" [(.var 6), (.var 9)])]) (.lst true [(.ite (.cmp .ge (.var 9) (.cst (.int 0))) (.cst (.non)) (.var 9))]), .dset (.var 7) (.cst (.str "place")) (.ite (.cmp .ge (.var 9) (.cst (.int 0))) (.var 9) (.dix (.var 7) (.cst (.str "place"))))]], .if_ (.not_ (.val (.call "_law_same" [(.bin true .add (.var 11) (.lst true [(.mcall "Octets" "tell" (.var 6) []), (.mcall "Octets" "content" (.var 6) [])])), (.bin true .add (.var 12) (.lst true [(.dix (.var 7) (.cst (.str "place"))), (.blt true .tuple [(.dix (.var 7) (.cst (.str "octets")))])]))]))) [.ret (.cst (.bl false))] []]],
  .ret (.call "_law_same" [(.lst true [(.mcall "Octets" "read" (.new "Octets" []) []), (.mcall "Octets" "content" (.new "Octets" []) []), (.mcall "Octets" "tell" (.new "Octets" []) [])]), (.lst true [(.tup []), (.tup []), (.cst (.int 0))])])]
theorem mostD_in {d : Dat} (h : d ∈ [Dat.non, .non, .int 1, .int 2, .int 3, .int 7]) : ∃ mo, d = mostD mo := by
  simp only [List.mem_cons, List.not_mem_nil, or_false] at h
  rcases h with rfl | rfl | rfl | rfl | rfl | rfl
  · exact ⟨none, rfl⟩
  · exact ⟨none, rfl⟩
  · exact ⟨some 1, rfl⟩
  · exact ⟨some 2, rfl⟩
  · exact ⟨some 3, rfl⟩
  · exact ⟨some 7, rfl⟩
theorem same_lsts {G : AG} {n : Nat} {ds : List Dat} (hl : ds.length ≤ sizeLine) (h : ∀ d ∈ ds, SameN G n d d) : SameN G (n + 1) (.lst ds) (.lst ds) :=
  .inr (.inr ⟨ds, ds, rfl, rfl, rfl, hl, fun i a b h1 h2 => by
    rw [h1] at h2
    cases h2
    exact h a (List.mem_of_getElem? h1)⟩)
theorem ok_law76 (Γ : Gam) (g : LG76 Γ) (N : List Str) (hN : N.length = 15) (ds : List Dat) (G : AG) (Q : AQ) (X : AX) (h : c_lawF ds G Q X) : wSs Γ b_law76 (startD N ds) G (endsOf Q X) := by
  obtain ⟨sc, ns, rfl, hs, hq⟩ := h
  have e : startD N [sc] = [some sc, none, none, none, none, none, none, none, none, none, none, none, none, none, none] := by unfold startD; rw [hN]; rfl
  rw [e]
  have big := big
  unfold b_law76
  rw [wSs]
  simp only [wS, wI, wE, zR]
  refine ⟨by omega, by omega, ?_⟩
  rw [show ((5 : Int)).toNat = 5 from rfl]
  refine forRng (fun j ρ G' => ∃ (x1 x2 x3 x4 x5 x6 x7 x8 x9 x10 x11 x12 x13 x14 : Option Dat), ρ = [some sc, x1, x2, x3, x4, x5, x6, x7, x8, x9, x10, x11, x12, x13, x14]) ?_ ?_ _ _ ⟨_, _, _, _, _, _, _, _, _, _, _, _, _, _, rfl⟩
  · rintro j ρ G' N' hj hN' ⟨x1, x2, x3, x4, x5, x6, x7, x8, x9, x10, x11, x12, x13, x14, rfl⟩
    simp only [List.set_cons_succ, List.set_cons_zero]
    ((first | rw [wSs] | (dsimp only; rw [wSs])); simp only [wS, wE, wEs, List.getElem?_cons_zero, List.getElem?_cons_succ, List.set_cons_succ, List.set_cons_zero, g.src])
    refine ⟨by decide, sc, j, ns, rfl, hs, by omega, by omega, fun p o hp ho => ?_⟩
    ((first | rw [wSs] | (dsimp only; rw [wSs])); simp only [wS, wE, wI, wEs, List.getElem?_cons_succ, List.getElem?_cons_zero, List.set_cons_succ, List.set_cons_zero, g.draw])
    refine ⟨⟨Nat.le_of_ble_eq_true rfl, Nat.le_of_ble_eq_true rfl⟩, p, 12, 5000, o, rfl, gu_same, ho.mono (by decide), by decide, by decide, fun kk o2 k0 k1 d2 => ?_⟩
    rw [gu_gu]
    refine ⟨by omega, by omega, ?_⟩
    refine lc_draws (n := 4000) (w := 1) (P := fun y => ∃ c, y = .int c ∧ isCode c) (d2.mono (by rw [rngD_len]; omega)) (by rw [rngD_len]; omega) (fun d hd' k o' Q' ho' hQ => ?_) fun ys o3 hy hl d3 => ?_
    · simp only [tgW, wipeD, List.foldl, List.set, List.getElem?_cons_zero, List.getElem?_cons_succ]
      refine ⟨by decide, p, 256, k, o', rfl, gu_same, ho', by omega, by omega, fun v o4 v0 v1 h4 => ?_⟩
      rw [gu_gu]
      exact hQ _ _ ⟨v, rfl, by unfold isCode; omega⟩ h4
    obtain ⟨O0, rfl, hO0⟩ := ints_of hy
    rw [rngD_len, List.length_map] at hl
    have lO0 : O0.length ≤ 12 := by omega
    have hp3 : gu G' p o3 p = some o3 := gu_same
    generalize gu G' p o3 = G3 at hp3 ⊢
    clear hy hl d2 hp ho hO0
    -- at most so many at once
    ((first | rw [wSs] | (dsimp only; rw [wSs])); simp only [wS, wE, wEs, List.getElem?_cons_succ, List.getElem?_cons_zero, List.set_cons_succ, List.set_cons_zero, zv, g.pick])
    refine ⟨⟨Nat.le_of_ble_eq_true rfl, Nat.le_of_ble_eq_true rfl⟩, by (first | assumption | decide | (simp only [RgOk, CMul, CDiv, CPow]; omega) | (have := big; omega) | (have := big; simp only [List.length_cons, List.length_nil, List.length_map, List.length_append, List.length_replicate]; omega)), p, 3999, o3, _, _, rfl, hp3, d3.mono (by decide), rfl, by decide, by decide, fun dm o4 hdm d4 => ?_⟩
    obtain ⟨mo, rfl⟩ := mostD_in hdm
    have hp4 : gu G3 p o4 p = some o4 := gu_same
    generalize gu G3 p o4 = G4 at hp4 ⊢
    clear hdm d3 hp3
    -- handed
    ((first | rw [wSs] | (dsimp only; rw [wSs])); simp only [wS, wE, wEs, List.getElem?_cons_succ, List.getElem?_cons_zero, List.set_cons_succ, List.set_cons_zero, g.handed])
    refine ⟨⟨Nat.le_of_ble_eq_true rfl, Nat.le_of_ble_eq_true rfl⟩, p, 3998, o4, O0, rfl, by omega, hp4, d4, fun a y o5 ha d5 hy => ?_⟩
    have ap : a ≠ p := fun z => by rw [z, hp4] at ha; cases ha
    have hp5 : gu (gu G4 a (.lst (di O0))) p o5 p = some o5 := gu_same
    have ha5 : gu (gu G4 a (.lst (di O0))) p o5 a = some (.lst (di O0)) := by rw [gu_ne ap]; exact gu_same
    generalize gu (gu G4 a (.lst (di O0))) p o5 = G5 at hp5 ha5 ⊢
    clear hp4 d4 ha
    have sq5 : seqOf G5 y = some (di O0) := by
      rcases hy with rfl | rfl
      · rfl
      · simp only [seqOf, lstOf, ha5]
    -- the stream
    refine sq_of (fun ρ G' => ∃ s b, ρ = [some sc, some (.int ((j : Nat) : Int)), some (.ref p), some (.lst (di O0)), some (mostD mo), some y, some (.ref s), x7, x8, x9, x10, x11, x12, x13, x14] ∧ V76 G' p s b O0 0 mo 3998 ∧ G' a = some (.lst (di O0)) ∧ a ≠ b) ?_ fun Z hZ => ?_
    rotate_left
    · have go : ∀ s, G5 s = none → c_oInit [.ref s, y, mostD mo] (gu G5 s (.ins "Octets" [])) (fun d G2 => d = .non ∧ Z [some sc, some (.int ((j : Nat) : Int)), some (.ref p), some (.lst (di O0)), some (mostD mo), some y, some (.ref s), x7, x8, x9, x10, x11, x12, x13, x14] G2) noX := fun s hs0 => by
        have s5 : Sub G5 (gu G5 s (.ins "Octets" [])) := Sub.new hs0
        refine ⟨s, y, mo, O0, rfl, ?_, by omega, gu_same, fun b hb => ⟨rfl, hZ _ _ ⟨s, b, rfl, ?_, ?_, ?_⟩⟩⟩
        · rcases hy with rfl | rfl
          · rfl
          · simp only [seqOf, lstOf, s5 _ _ ha5]
        · have sb : s ≠ b := fun z => by rw [← z, gu_same] at hb; cases hb
          have bp : b ≠ p := fun z => by rw [z, s5 _ _ hp5] at hb; cases hb
          have sp : s ≠ p := fun z => by rw [z, hp5] at hs0; cases hs0
          exact ⟨⟨o5, by rw [gu_ne (Ne.symm sp), gu_ne (Ne.symm bp)]; exact s5 _ _ hp5, d5⟩, ⟨gu_same, by rw [gu_ne (Ne.symm sb)]; exact gu_same⟩, bp⟩
        · have as_ : a ≠ s := fun z => by rw [← z, ha5] at hs0; cases hs0
          have ab : a ≠ b := fun z => by rw [← z, s5 _ _ ha5] at hb; cases hb
          rw [gu_ne as_, gu_ne ab]
          exact s5 _ _ ha5
        · exact fun z => by rw [← z, s5 _ _ ha5] at hb; cases hb
      cases mo with
      | none =>
        simp only [wS, wE, wT, List.getElem?_cons_succ, List.getElem?_cons_zero, wEs, List.set_cons_succ, List.set_cons_zero, zC, isNonD, zQ, g.new]
        rw [if_pos (by rfl)]
        exact ⟨⟨Nat.le_of_ble_eq_true rfl, Nat.le_of_ble_eq_true rfl⟩, go⟩
      | some k =>
        simp only [wS, wE, wT, List.getElem?_cons_succ, List.getElem?_cons_zero, wEs, List.set_cons_succ, List.set_cons_zero, zC, isNonD, zQ, g.new]
        rw [if_neg (by unfold mostD; simp [isNonD])]
        exact ⟨⟨Nat.le_of_ble_eq_true rfl, Nat.le_of_ble_eq_true rfl⟩, go⟩
    rintro ρ G6 ⟨s, b, rfl, V6, ha6, ab⟩
    clear sq5 ha5 hp5
    ((first | rw [wSs] | (dsimp only; rw [wSs])); simp only [wS, wE, wEs, List.getElem?_cons_succ, List.getElem?_cons_zero, List.set_cons_succ, List.set_cons_zero, yo, zU, some_inj, zv, exists_eq_left'])
    refine ⟨by rw [List.length_map]; omega, _, rfl, Nat.le_of_ble_eq_true rfl, fun m hm => ?_⟩
    have W7 : W76 (gu G6 m (mD O0 0 mo)) p s b m O0 0 mo 3998 := ⟨V6.sub (Sub.new hm), gu_same⟩
    have ha7 : gu G6 m (mD O0 0 mo) a = some (.lst (di O0)) := Sub.new hm _ _ ha6
    have am : a ≠ m := fun z => by rw [z, hm] at ha6; cases ha6
    show wSs Γ _ [some sc, some (.int ((j : Nat) : Int)), some (.ref p), some (.lst (di O0)), some (mostD mo), some y, some (.ref s), some (.ref m), x8, x9, x10, x11, x12, x13, x14] (gu G6 m (mD O0 0 mo)) _
    generalize gu G6 m (mD O0 0 mo) = G7 at W7 ha7 ⊢
    clear V6 ha6 hm
    -- the row that was passed is changed
    refine sq_of (fun ρ G' => ρ = [some sc, some (.int ((j : Nat) : Int)), some (.ref p), some (.lst (di O0)), some (mostD mo), some y, some (.ref s), some (.ref m), x8, x9, x10, x11, x12, x13, x14] ∧ W76 G' p s b m O0 0 mo 3998) ?_ fun Z hZ => ?_
    rotate_left
    · rcases hy with rfl | rfl
      · simp only [wS, wT, wE, wEs, List.getElem?_cons_succ, List.getElem?_cons_zero, za, yq, g.tl]
        exact isi1 (t := "tuple") (b := false) rfl (by decide +kernel) (by simp only [zJ, Bool.false_eq_true, if_false]; exact hZ _ _ ⟨rfl, W7⟩)
      · simp only [wS, wT, wE, wEs, List.getElem?_cons_succ, List.getElem?_cons_zero, za, yq, g.tl]
        refine isi1 (t := "list") (b := true) (by simp only [tyOf, ha7]) (by decide +kernel) ?_
        simp only [zJ, if_true]
        ((first | rw [wSs] | (dsimp only; rw [wSs])); simp only [wS, wE, List.getElem?_cons_succ, List.getElem?_cons_zero, zY, wEs, za, yw])
        refine ⟨⟨_, by rw [ha7]; rfl⟩, _, ha7, by rw [List.length_map]; omega, hZ _ _ ⟨rfl, ?_⟩⟩
        obtain ⟨o, h, d⟩ := W7.v.p_
        have as_ : a ≠ s := fun z => by have := W7.v.o_.s_; rw [← z, ha7] at this; cases this
        exact ⟨⟨⟨o, by rw [gu_ne (Ne.symm ap)]; exact h, d⟩, ⟨by rw [gu_ne (Ne.symm as_)]; exact W7.v.o_.s_, by rw [gu_ne (Ne.symm ab)]; exact W7.v.o_.b_⟩, W7.v.bp⟩, by rw [gu_ne (Ne.symm am)]; exact W7.m_⟩
    rintro ρ G8 ⟨rfl, W8⟩
    clear ha7 W7 hy
    obtain ⟨o8, hp8, d8⟩ := W8.v.p_
    ((first | rw [wSs] | (dsimp only; rw [wSs])); simp only [wS, wI, wE, wEs, List.getElem?_cons_succ, List.getElem?_cons_zero, za, g.draw])
    refine ⟨⟨Nat.le_of_ble_eq_true rfl, Nat.le_of_ble_eq_true rfl⟩, p, 21, 3997, o8, rfl, hp8, d8, by decide, by decide, fun kk o9 k0 k1 d9 => ?_⟩
    have W9 := W8.dr d9
    generalize gu G8 p o9 = G9 at W9 ⊢
    clear W8 hp8 d8 d9
    refine ⟨by omega, by omega, ?_⟩
    refine forRng (fun i ρ G' => ∃ (x8 x9 x10 x11 x12 x13 x14 : Option Dat) (O : List Int) (pl : Nat), ρ = [some sc, some (.int ((j : Nat) : Int)), some (.ref p), some (.lst (di O0)), some (mostD mo), some y, some (.ref s), some (.ref m), x8, x9, x10, x11, x12, x13, x14] ∧ W76 G' p s b m O pl mo (3997 - 100 * i) ∧ O.length ≤ 30 + 5 * i ∧ pl ≤ 30 + 5 * i) ?_ ?_ _ _ ⟨_, _, _, _, _, _, _, O0, 0, rfl, W9, by omega, by omega⟩
    rotate_left
    · rintro ρ G10 ⟨x8, x9, x10, x11, x12, x13, x14, O, pl, rfl, -⟩
      exact hN' _ _ ⟨_, _, _, _, _, _, _, _, _, _, _, _, _, _, rfl⟩
    clear W9
    rintro i ρ G10 N2 hi hN2 ⟨x8, x9, x10, x11, x12, x13, x14, O, pl, rfl, W10, lO, lp⟩
    have hi' : i ≤ 20 := by omega
    obtain ⟨o10, hp10, d10⟩ := W10.v.p_
    simp only [List.set_cons_succ, List.set_cons_zero]
    ((first | rw [wSs] | (dsimp only; rw [wSs])); simp only [wS, wE, wEs, List.getElem?_cons_succ, List.getElem?_cons_zero, List.set_cons_succ, List.set_cons_zero, g.draw])
    refine ⟨⟨Nat.le_of_ble_eq_true rfl, Nat.le_of_ble_eq_true rfl⟩, p, 6, 3997 - 100 * i - 1, o10, rfl, hp10, d10.mono (by omega), by decide, by decide, fun w o11 w0 w1 d11 => ?_⟩
    have W11 := W10.dr d11
    generalize gu G10 p o11 = G11 at W11 ⊢
    clear W10 hp10 d10 d11
    obtain ⟨o11, hp11, d11⟩ := W11.v.p_
    refine ⟨⟨Nat.le_of_ble_eq_true rfl, Nat.le_of_ble_eq_true rfl⟩, p, 24, 3997 - 100 * i - 2, o11, rfl, hp11, d11.mono (by omega), by decide, by decide, fun z o12 z0 z1 d12 => ?_⟩
    have W12 := W11.dr d12
    generalize gu G11 p o12 = G12 at W12 ⊢
    clear W11 hp11 d11 d12
    simp only [zd]
    -- the size
    refine sq_of (fun ρ G' => ∃ size : Int, ρ = [some sc, some (.int ((j : Nat) : Int)), some (.ref p), some (.lst (di O0)), some (mostD mo), some y, some (.ref s), some (.ref m), some (.int ((i : Nat) : Int)), some (.int size), some (.int w), x11, x12, x13, x14] ∧ (¬ w < 2 → size ≤ 20) ∧ W76 G' p s b m O pl mo (3997 - 100 * i - 2)) ?_ fun Z hZ => ?_
    rotate_left
    · by_cases c : w < 2
      · simp only [wS, wE, wT, List.getElem?_cons_succ, List.getElem?_cons_zero, wEs, List.set_cons_succ, List.set_cons_zero, zR, zx, decide_true, zQ, if_true, c]
        refine ⟨_, rfl, by decide, fun q hq0 => ⟨⟨_, gu_same⟩, _, _, gu_same, rfl, ?_⟩⟩
        have ew : ∃ i : Int, (lookD (mergeD [] [((.inl 20 : Key), Dat.int 1000000), (.inl (-3), .int (-10))]) (.inl (z - 3))).getD (.int (z - 3)) = .int i := by
          by_cases c1 : z - 3 = 20
          · rw [c1]; exact ⟨_, rfl⟩
          · by_cases c3 : z - 3 = -3
            · rw [c3]; exact ⟨_, rfl⟩
            · refine ⟨z - 3, ?_⟩
              have : lookD (mergeD [] [((.inl 20 : Key), Dat.int 1000000), (.inl (-3), .int (-10))]) (.inl (z - 3)) = none := by
                show lookD [((.inl 20 : Key), Dat.int 1000000), (.inl (-3), .int (-10))] (.inl (z - 3)) = none
                unfold lookD
                simp [Ne.symm c1, Ne.symm c3]
              rw [this]; rfl
        obtain ⟨i1, e1⟩ := ew
        rw [e1]
        exact hZ _ _ ⟨_, rfl, fun z => absurd c z, W12.sub (Sub.new hq0)⟩
      · simp only [wS, wE, wT, List.getElem?_cons_succ, List.getElem?_cons_zero, wEs, List.set_cons_succ, List.set_cons_zero, zR, zx, decide_false, zQ, Bool.false_eq_true, if_false, c]
        exact hZ _ _ ⟨_, rfl, fun _ => by omega, W12⟩
    rintro ρ G13 ⟨size, rfl, hsz, W13⟩
    clear W12 z0 z1
    -- the deed
    refine sq_of (fun ρ G' => ∃ (v : Dat) (O' : List Int) (pl' : Nat) (x13 x14 : Option Dat), ρ = [some sc, some (.int ((j : Nat) : Int)), some (.ref p), some (.lst (di O0)), some (mostD mo), some y, some (.ref s), some (.ref m), some (.int ((i : Nat) : Int)), some (.int size), some (.int w), some (.lst [v]), some (.lst [v]), x13, x14] ∧ (∀ G : AG, SameN G 2 v v) ∧ W76 G' p s b m O' pl' mo (3997 - 100 * (i + 1)) ∧ O'.length ≤ 30 + 5 * (i + 1) ∧ pl' ≤ 30 + 5 * (i + 1)) ?_ fun Z hZ => ?_
    rotate_left
    · by_cases c2 : w < 2
      · simp only [wS, wT, wE, List.getElem?_cons_succ, List.getElem?_cons_zero, zx, decide_true, zQ, if_true, c2]
        have W13' := W13.mono (k := 3997 - 100 * (i + 1)) (by omega)
        have rl := rdO_len (O := O) (pl := pl) (size := size) (mo := mo)
        have fin : ∀ G', W76 G' p s b m O (pl + (rdO O pl size mo).length) mo (3997 - 100 * (i + 1)) → Z [some sc, some (.int ((j : Nat) : Int)), some (.ref p), some (.lst (di O0)), some (mostD mo), some y, some (.ref s), some (.ref m), some (.int ((i : Nat) : Int)), some (.int size), some (.int w), some (.lst [.tup (di (rdO O pl size mo))]), some (.lst [.tup (di (rdO O pl size mo))]), x13, x14] G' := fun G' W => hZ _ _ ⟨_, O, _, _, _, rfl, fun _ => same_row (by omega), W, by omega, by omega⟩
        have due : ∀ v : Dat, v = .lst [.tup (di (rdO O pl size mo))] → wSs Γ [.set 12 (.lst true [(.call "_law_from" [(.var 7), (.var 9)])])] [some sc, some (.int ((j : Nat) : Int)), some (.ref p), some (.lst (di O0)), some (mostD mo), some y, some (.ref s), some (.ref m), some (.int ((i : Nat) : Int)), some (.int size), some (.int w), some v, x12, x13, x14] (gu G13 s (.ins "Octets" (octF6 b mo (pl + (rdO O pl size mo).length)))) { nx := Z, rt := (endsOf Q X).rt, bk := fun ρ' G' => N' ρ' G', ct := N2, ex := (endsOf Q X).ex } := fun v ev => by
          subst ev
          ((first | rw [wSs] | (dsimp only; rw [wSs])); simp only [wS, wE, wEs, List.getElem?_cons_succ, List.getElem?_cons_zero, List.set_cons_succ, List.set_cons_zero, za, zv, g.from_])
          refine ⟨⟨Nat.le_of_ble_eq_true rfl, Nat.le_of_ble_eq_true rfl⟩, m, O, pl, mo, size, rfl, by rw [gu_ne W13.ms]; exact W13.m_, by omega, by (first | assumption | decide | (simp only [RgOk, CMul, CDiv, CPow]; omega) | (have := big; omega) | (have := big; simp only [List.length_cons, List.length_nil, List.length_map, List.length_append, List.length_replicate]; omega)), fin _ (W13'.at_ _)⟩
        rw [wSs]
        simp only [wS, wE, wEs, wT, List.getElem?_cons_succ, List.getElem?_cons_zero, List.set_cons_succ, List.set_cons_zero, zv, if_true, zB, zQ, decide_eq_true_eq, zG, g.read]
        have rd1 : ∀ z : Int, rdO O pl z mo = rdO O pl size mo → f_oRead.con [.ref s, .int z] G13 (fun d G1 => [d].length ≤ sizeLine ∧ wSs Γ [.set 12 (.lst true [(.call "_law_from" [(.var 7), (.var 9)])])] [some sc, some (.int ((j : Nat) : Int)), some (.ref p), some (.lst (di O0)), some (mostD mo), some y, some (.ref s), some (.ref m), some (.int ((i : Nat) : Int)), some (.int size), some (.int w), some (.lst [d]), x12, x13, x14] G1 { nx := Z, rt := (endsOf Q X).rt, bk := fun ρ' G' => N' ρ' G', ct := N2, ex := (endsOf Q X).ex }) ((endsOf Q X).ex [some sc, some (.int ((j : Nat) : Int)), some (.ref p), some (.lst (di O0)), some (mostD mo), some y, some (.ref s), some (.ref m), some (.int ((i : Nat) : Int)), some (.int size), some (.int w), x11, x12, x13, x14]) := fun z ez =>
          ⟨s, b, O, pl, mo, z, rfl, W13.v.o_, by omega, by omega, by (first | assumption | decide | (simp only [RgOk, CMul, CDiv, CPow]; omega) | (have := big; omega) | (have := big; simp only [List.length_cons, List.length_nil, List.length_map, List.length_append, List.length_replicate]; omega)), by rw [ez]; exact due _ rfl⟩
        by_cases cw : w = 0
        · rw [if_pos cw]
          exact ⟨⟨Nat.le_of_ble_eq_true rfl, Nat.le_of_ble_eq_true rfl⟩, ⟨_, W13.v.o_.s_, rfl⟩, rd1 size rfl⟩
        · rw [if_neg cw]
          by_cases cz : 0 ≤ size
          · rw [if_pos cz]
            exact ⟨⟨Nat.le_of_ble_eq_true rfl, Nat.le_of_ble_eq_true rfl⟩, ⟨_, W13.v.o_.s_, rfl⟩, rd1 size rfl⟩
          · rw [if_neg cz]
            exact ⟨⟨Nat.le_of_ble_eq_true rfl, Nat.le_of_ble_eq_true rfl⟩, ⟨_, W13.v.o_.s_, rfl⟩, rd1 (-1) (by unfold rdO; rw [if_neg cz, if_neg (by decide)])⟩
      obtain ⟨o13, hp13, d13⟩ := W13.v.p_
      by_cases c4 : w < 4
      · simp only [wS, wT, wE, List.getElem?_cons_succ, List.getElem?_cons_zero, zx, decide_false, zQ, Bool.false_eq_true, if_false, c2]
        ((first | rw [wSs] | (dsimp only; rw [wSs])); simp only [wS, wT, wE, List.getElem?_cons_succ, List.getElem?_cons_zero, za, zx, decide_true, zQ, if_true, c4])
        ((first | rw [wSs] | (dsimp only; rw [wSs])); simp only [wS, wE, wI, wEs, List.getElem?_cons_succ, List.getElem?_cons_zero, List.set_cons_succ, List.set_cons_zero, g.draw])
        refine ⟨⟨Nat.le_of_ble_eq_true rfl, Nat.le_of_ble_eq_true rfl⟩, p, 6, 3997 - 100 * i - 3, o13, rfl, hp13, d13.mono (by omega), by decide, by decide, fun kr o14 r0 r1 d14 => ?_⟩
        refine ⟨by omega, by omega, ?_⟩
        refine lc_draws (n := 3997 - 100 * i - 20) (w := 1) (P := fun y => ∃ c, y = .int c ∧ isCode c) (d14.mono (by rw [rngD_len]; omega)) (by rw [rngD_len]; omega) (fun d hd' k o' Q' ho' hQ => ?_) fun ys o15 hy hl d15 => ?_
        · simp only [tgW, wipeD, List.foldl, List.set, List.getElem?_cons_zero, List.getElem?_cons_succ]
          refine ⟨by decide, p, 256, k, o', rfl, gu_same, ho', by omega, by omega, fun v o4 v0 v1 h4 => ?_⟩
          rw [gu_gu]
          exact hQ _ _ ⟨v, rfl, by unfold isCode; omega⟩ h4
        obtain ⟨D, rfl, hD⟩ := ints_of hy
        rw [rngD_len, List.length_map] at hl
        have lD : D.length ≤ 5 := by omega
        have W15 := W13.dr d15
        generalize gu G13 p o15 = G15 at W15 ⊢
        clear hy hl hD d14 hp13 d13 d15
        obtain ⟨o15, hp15, d15⟩ := W15.v.p_
        ((first | rw [wSs] | (dsimp only; rw [wSs])); simp only [wS, wE, wEs, List.getElem?_cons_succ, List.getElem?_cons_zero, List.set_cons_succ, List.set_cons_zero, zv, yk, zU, some_inj, exists_eq_left', g.write, g.handed])
        refine ⟨⟨Nat.le_of_ble_eq_true rfl, Nat.le_of_ble_eq_true rfl⟩, ⟨_, W15.v.o_.s_, rfl⟩, ⟨Nat.le_of_ble_eq_true rfl, Nat.le_of_ble_eq_true rfl⟩, p, 3997 - 100 * i - 21, o15, D, rfl, by omega, hp15, d15.mono (by omega), fun a2 yd o16 ha2 d16 hyd => ?_⟩
        have a2p : a2 ≠ p := fun z => by rw [z, hp15] at ha2; cases ha2
        have a2b : a2 ≠ b := fun z => by rw [z, W15.v.o_.b_] at ha2; cases ha2
        have W16 := (W15.sub (Sub.new (o := .lst (di D)) ha2)).dr d16
        have hr : gu (gu G15 a2 (.lst (di D))) p o16 a2 = some (.lst (di D)) := by rw [gu_ne a2p]; exact gu_same
        generalize gu (gu G15 a2 (.lst (di D))) p o16 = G16 at W16 hr ⊢
        clear W15 hp15 d15 ha2 d16
        have hrow : RowR G16 b yd D := by
          rcases hyd with rfl | rfl
          · exact .inl rfl
          · exact .inr ⟨_, rfl, hr, a2b⟩
        refine ⟨s, b, O, pl, mo, yd, D, rfl, W16.v.o_, by omega, by omega, by omega, hrow, fun G17 kp O17 => ?_⟩
        obtain ⟨o16, hp16, d16⟩ := W16.v.p_
        have hp17 := kp p _ (Ne.symm W16.v.sp) (Ne.symm W16.v.bp) hp16
        have hm17 := kp m _ W16.ms W16.mb W16.m_
        simp only [List.length_map]
        refine ⟨by (first | assumption | decide | (simp only [RgOk, CMul, CDiv, CPow]; omega) | (have := big; omega) | (have := big; simp only [List.length_cons, List.length_nil, List.length_map, List.length_append, List.length_replicate]; omega)), by (first | assumption | decide | (simp only [RgOk, CMul, CDiv, CPow]; omega) | (have := big; omega) | (have := big; simp only [List.length_cons, List.length_nil, List.length_map, List.length_append, List.length_replicate]; omega)), ?_⟩
        ((first | rw [wSs] | (dsimp only; rw [wSs])); simp only [wS, wE, wEs, List.getElem?_cons_succ, List.getElem?_cons_zero, za, g.put])
        refine ⟨⟨Nat.le_of_ble_eq_true rfl, Nat.le_of_ble_eq_true rfl⟩, m, O, pl, mo, D, rfl, hm17, by omega, by omega, by omega, ?_⟩
        have lw := wrO_len2 (O := O) (pl := pl) (D := D)
        refine hZ _ _ ⟨.int ((D.length : Nat) : Int), wrO O pl D, pl + D.length, _, _, rfl, fun _ => same_leaf rfl, ⟨⟨⟨o16, by rw [gu_ne (Ne.symm W16.mp)]; exact hp17, d16.mono (by omega)⟩, ⟨by rw [gu_ne (Ne.symm W16.ms)]; exact O17.s_, by rw [gu_ne (Ne.symm W16.mb)]; exact O17.b_⟩, W16.v.bp⟩, gu_same⟩, by omega, by omega⟩
      · simp only [wS, wT, wE, List.getElem?_cons_succ, List.getElem?_cons_zero, zx, decide_false, zQ, Bool.false_eq_true, if_false, c2]
        ((first | rw [wSs] | (dsimp only; rw [wSs])); simp only [wS, wT, wE, List.getElem?_cons_succ, List.getElem?_cons_zero, za, zx, decide_false, zQ, Bool.false_eq_true, if_false, c4])
        ((first | rw [wSs] | (dsimp only; rw [wSs])); simp only [wS, wE, wEs, List.getElem?_cons_succ, List.getElem?_cons_zero, wT, List.set_cons_succ, List.set_cons_zero, zv, zB, zQ, decide_eq_true_eq, g.sought])
        refine ⟨⟨Nat.le_of_ble_eq_true rfl, Nat.le_of_ble_eq_true rfl⟩, s, b, O, pl, mo, size, rfl, W13.v.o_, ?_⟩
        have W13' := W13.mono (k := 3997 - 100 * (i + 1)) (by omega)
        have hsz' := hsz c2
        by_cases cz : 0 ≤ size
        · rw [if_pos cz]
          simp only [if_true, cz]
          refine ⟨by (first | assumption | decide | (simp only [RgOk, CMul, CDiv, CPow]; omega) | (have := big; omega) | (have := big; simp only [List.length_cons, List.length_nil, List.length_map, List.length_append, List.length_replicate]; omega)), by (first | assumption | decide | (simp only [RgOk, CMul, CDiv, CPow]; omega) | (have := big; omega) | (have := big; simp only [List.length_cons, List.length_nil, List.length_map, List.length_append, List.length_replicate]; omega)), ?_⟩
          ((first | rw [wSs] | (dsimp only; rw [wSs])); simp only [wS, wE, wT, List.getElem?_cons_succ, List.getElem?_cons_zero, za, zB, decide_true, zQ, if_true, cz])
          refine ⟨_, _, by rw [gu_ne W13.ms]; exact W13.m_, rfl, by (first | assumption | decide | (simp only [RgOk, CMul, CDiv, CPow]; omega) | (have := big; omega) | (have := big; simp only [List.length_cons, List.length_nil, List.length_map, List.length_append, List.length_replicate]; omega)), ?_⟩
          have := W13'.at_ size.toNat
          rw [Int.toNat_of_nonneg cz] at this
          exact hZ _ _ ⟨.non, O, size.toNat, _, _, rfl, fun _ => same_leaf rfl, this, by omega, by omega⟩
        · rw [if_neg cz]
          simp only [if_false, cz]
          refine ⟨by (first | assumption | decide | (simp only [RgOk, CMul, CDiv, CPow]; omega) | (have := big; omega) | (have := big; simp only [List.length_cons, List.length_nil, List.length_map, List.length_append, List.length_replicate]; omega)), by (first | assumption | decide | (simp only [RgOk, CMul, CDiv, CPow]; omega) | (have := big; omega) | (have := big; simp only [List.length_cons, List.length_nil, List.length_map, List.length_append, List.length_replicate]; omega)), ?_⟩
          ((first | rw [wSs] | (dsimp only; rw [wSs])); simp only [wS, wE, wT, List.getElem?_cons_succ, List.getElem?_cons_zero, za, zB, decide_false, zQ, Bool.false_eq_true, if_false, cz])
          refine dixA W13.m_ rfl rfl ⟨_, _, W13.m_, rfl, by (first | assumption | decide | (simp only [RgOk, CMul, CDiv, CPow]; omega) | (have := big; omega) | (have := big; simp only [List.length_cons, List.length_nil, List.length_map, List.length_append, List.length_replicate]; omega)), ?_⟩
          have : gu G13 m (mD O ((pl : Nat) : Int) mo) = G13 := by
            funext q
            by_cases e : q = m
            · rw [e, gu_same, W13.m_]
            · rw [gu_ne e]
          refine hZ _ _ ⟨.int size, O, pl, _, _, rfl, fun _ => same_leaf rfl, ?_, by omega, by omega⟩
          show W76 (gu G13 m (mD O ((pl : Nat) : Int) mo)) p s b m O pl mo _
          rw [this]
          exact W13'
    rintro ρ G14 ⟨v, O', pl', x13', x14', rfl, hv, W14, lO', lp'⟩
    clear W13 lO lp
    ((first | rw [wSs] | (dsimp only; rw [wSs])); simp only [wS, wT, wE, wEs, List.getElem?_cons_succ, List.getElem?_cons_zero, Bool.not_eq_true', za, zv, zo, yn, g.tell, g.cont, g.same])
    refine ⟨⟨Nat.le_of_ble_eq_true rfl, Nat.le_of_ble_eq_true rfl⟩, ⟨Nat.le_of_ble_eq_true rfl, Nat.le_of_ble_eq_true rfl⟩, ⟨_, W14.v.o_.s_, rfl⟩, s, b, O', pl', mo, rfl, W14.v.o_, ⟨Nat.le_of_ble_eq_true rfl, Nat.le_of_ble_eq_true rfl⟩, ⟨_, W14.v.o_.s_, rfl⟩, s, b, O', pl', mo, rfl, W14.v.o_, by omega, by (first | assumption | decide | (simp only [RgOk, CMul, CDiv, CPow]; omega) | (have := big; omega) | (have := big; simp only [List.length_cons, List.length_nil, List.length_map, List.length_append, List.length_replicate]; omega)), by (first | assumption | decide | (simp only [RgOk, CMul, CDiv, CPow]; omega) | (have := big; omega) | (have := big; simp only [List.length_cons, List.length_nil, List.length_map, List.length_append, List.length_replicate]; omega)), dixA W14.m_ rfl rfl (dixA W14.m_ rfl rfl ⟨_, rfl, by (first | assumption | decide | (simp only [RgOk, CMul, CDiv, CPow]; omega) | (have := big; omega) | (have := big; simp only [List.length_cons, List.length_nil, List.length_map, List.length_append, List.length_replicate]; omega)), by (first | assumption | decide | (simp only [RgOk, CMul, CDiv, CPow]; omega) | (have := big; omega) | (have := big; simp only [List.length_cons, List.length_nil, List.length_map, List.length_append, List.length_replicate]; omega)), _, _, rfl, ?_, ?_⟩)⟩
    · show SameN G14 3 (.lst [v, .int ((pl' : Nat) : Int), .tup (di O')]) (.lst [v, .int ((pl' : Nat) : Int), .tup (di O')])
      refine same_lsts (by (first | assumption | decide | (simp only [RgOk, CMul, CDiv, CPow]; omega) | (have := big; omega) | (have := big; simp only [List.length_cons, List.length_nil, List.length_map, List.length_append, List.length_replicate]; omega))) fun d hd => ?_
      simp only [List.mem_cons, List.not_mem_nil, or_false] at hd
      rcases hd with rfl | rfl | rfl
      · exact hv _
      · exact same_leaf rfl
      · exact same_row (by omega)
    simp only [zJ, Bool.true_eq_false, if_false]
    exact hN2 _ _ ⟨_, _, _, _, _, _, _, _, _, rfl, W14, lO', lp'⟩
  · rintro ρ G' ⟨x1, x2, x3, x4, x5, x6, x7, x8, x9, x10, x11, x12, x13, x14, rfl⟩
    ((first | rw [wSs] | (dsimp only; rw [wSs])); simp only [wS, wE, wEs, zv, g.new, g.read, g.cont, g.tell, g.same])
    refine ⟨⟨Nat.le_of_ble_eq_true rfl, Nat.le_of_ble_eq_true rfl⟩, ⟨Nat.le_of_ble_eq_true rfl, Nat.le_of_ble_eq_true rfl⟩, ⟨Nat.le_of_ble_eq_true rfl, Nat.le_of_ble_eq_true rfl⟩, fun s1 _ => oct0 fun G1 b1 O1 => ⟨rfl, ⟨_, O1.s_, rfl⟩, s1, b1, [], 0, none, -1, rfl, O1, by decide, by decide, ?_⟩⟩
    refine ⟨⟨Nat.le_of_ble_eq_true rfl, Nat.le_of_ble_eq_true rfl⟩, ⟨Nat.le_of_ble_eq_true rfl, Nat.le_of_ble_eq_true rfl⟩, fun s2 _ => oct0 fun G2 b2 O2 => ⟨rfl, ⟨_, O2.s_, rfl⟩, s2, b2, [], 0, none, rfl, O2, by decide, ?_⟩⟩
    refine ⟨⟨Nat.le_of_ble_eq_true rfl, Nat.le_of_ble_eq_true rfl⟩, ⟨Nat.le_of_ble_eq_true rfl, Nat.le_of_ble_eq_true rfl⟩, fun s3 _ => oct0 fun G3 b3 O3 => ⟨rfl, ⟨_, O3.s_, rfl⟩, s3, b3, [], 0, none, rfl, O3, ?_⟩⟩
    refine ⟨by (first | assumption | decide | (simp only [RgOk, CMul, CDiv, CPow]; omega) | (have := big; omega) | (have := big; simp only [List.length_cons, List.length_nil, List.length_map, List.length_append, List.length_replicate]; omega)), by (first | assumption | decide | (simp only [RgOk, CMul, CDiv, CPow]; omega) | (have := big; omega) | (have := big; simp only [List.length_cons, List.length_nil, List.length_map, List.length_append, List.length_replicate]; omega)), by (first | assumption | decide | (simp only [RgOk, CMul, CDiv, CPow]; omega) | (have := big; omega) | (have := big; simp only [List.length_cons, List.length_nil, List.length_map, List.length_append, List.length_replicate]; omega)), by (first | assumption | decide | (simp only [RgOk, CMul, CDiv, CPow]; omega) | (have := big; omega) | (have := big; simp only [List.length_cons, List.length_nil, List.length_map, List.length_append, List.length_replicate]; omega)), _, _, rfl, ?_, ?_⟩
    · show SameN G3 3 (.lst [.tup (di []), .tup (di []), .int 0]) (.lst [.tup (di []), .tup (di []), .int 0])
      refine same_lsts (by (first | assumption | decide | (simp only [RgOk, CMul, CDiv, CPow]; omega) | (have := big; omega) | (have := big; simp only [List.length_cons, List.length_nil, List.length_map, List.length_append, List.length_replicate]; omega))) fun d hd => ?_
      simp only [List.mem_cons, List.not_mem_nil, or_false] at hd
      rcases hd with rfl | rfl | rfl
      · exact same_row (by (first | assumption | decide | (simp only [RgOk, CMul, CDiv, CPow]; omega) | (have := big; omega) | (have := big; simp only [List.length_cons, List.length_nil, List.length_map, List.length_append, List.length_replicate]; omega)))
      · exact same_row (by (first | assumption | decide | (simp only [RgOk, CMul, CDiv, CPow]; omega) | (have := big; omega) | (have := big; simp only [List.length_cons, List.length_nil, List.length_map, List.length_append, List.length_replicate]; omega)))
      · exact same_leaf rfl
    · exact rt_ (X := X) (hq _)
end Av
set_option Elab.async false
set_option linter.all false
set_option maxRecDepth 100000
set_option maxHeartbeats 4000000
/-! # AvX2: exceptions in the table; what is told of classes -/
namespace Av
open PySem PySem.Spec PyProof.Rows L2
abbrev SubL := List ((String ⊕ Str) × (String ⊕ Str) × Bool)
/-- what is told of classes, by lists -/
abbrev tbOf (T : List NdefX.NTab) (is : Nat → LamP → Prop) (fr : Nat → List Str) (exos : List Str) (subs : SubL) (xms : List (Str × Str × Bool)) : Tb :=
  { T := T, is := is, fr := fr, own := fun _ => false, exo := fun C => decide (C ∈ exos), sub := fun a b => (subs.find? fun q => decide (q.1 = a ∧ q.2.1 = b)).map (·.2.2), xm := fun a b => (xms.find? fun q => decide (q.1 = a ∧ q.2.1 = b)).map (·.2.2) }
def excCB (K : PySem.W.Frag) (D : Addr) : Bool :=
  decide (PySem.W.findIn K (.ref D) "__getattribute__" = some (some (.builtin "BaseException.__getattribute__"))) && decide (PySem.W.findIn K (.ref D) "__getattr__" = some none) && decide (PySem.W.subIn K (.ref D) (.type "BaseException") = some true) && PySem.W.hasDictIn K D
  && decide (PySem.W.findIn K (.ref D) "__class__" = some (some (.builtin "object.__class__"))) && decide (PySem.W.specialIn K (.builtin "object.__class__") "__get__" = some (some (.builtin "getset_descriptor.__get__"))) && decide (PySem.W.takesIn K (.builtin "object.__class__") = some true) && decide (PySem.W.mroIn K D (.type "object") = some true)
theorem excCB_ok {K : PySem.W.Frag} {D : Addr} (h : excCB K D = true) : ExcC K D := by
  unfold excCB at h
  simp only [Bool.and_eq_true, decide_eq_true_eq] at h
  obtain ⟨⟨⟨⟨⟨⟨⟨h1, h2⟩, h3⟩, h4⟩, h5⟩, h6⟩, h7⟩, h8⟩ := h
  exact ⟨h1, h2, h3, h4, h5, h6, h7, h8⟩
def subB (K : PySem.W.Frag) (q : (String ⊕ Str) × (String ⊕ Str) × Bool) : Bool := decide (PySem.W.kitOne K (tyVal K q.1) (tyVal K q.2.1) = some q.2.2)
def xmB (K : PySem.W.Frag) (q : Str × Str × Bool) : Bool := decide (PySem.W.exmOne K (.ref (He.ga K q.1)) (.ref (He.ga K q.2.1)) = some q.2.2)
theorem kt_of {T : List NdefX.NTab} {is : Nat → LamP → Prop} {fr : Nat → List Str} {exos : List Str} {subs : SubL} {xms : List (Str × Str × Bool)} {K : PySem.W.Frag} (h1 : exos.all (fun C => excCB K (He.ga K C)) = true) (h2 : subs.all (subB K) = true) (h3 : xms.all (xmB K) = true) :
    @KtOk (tbOf T is fr exos subs xms) K := by
  letI := tbOf T is fr exos subs xms
  refine ⟨fun C h => (by cases h), fun C h => ?_, fun t n b h => ?_, fun C D b h => ?_⟩
  · have h : C ∈ exos := of_decide_eq_true h
    exact excCB_ok (List.all_eq_true.mp h1 C h)
  · have h : (subs.find? fun q => decide (q.1 = t ∧ q.2.1 = n)).map (·.2.2) = some b := h
    cases q : subs.find? fun q => decide (q.1 = t ∧ q.2.1 = n) with
    | none => rw [q] at h; cases h
    | some r =>
      rw [q] at h
      have hr := List.find?_some q
      have hr := of_decide_eq_true hr
      have hm := List.all_eq_true.mp h2 r (List.mem_of_find?_eq_some q)
      have hm := of_decide_eq_true hm
      rw [hr.1, hr.2] at hm
      cases h
      exact hm
  · have h : (xms.find? fun q => decide (q.1 = C ∧ q.2.1 = D)).map (·.2.2) = some b := h
    cases q : xms.find? fun q => decide (q.1 = C ∧ q.2.1 = D) with
    | none => rw [q] at h; cases h
    | some r =>
      rw [q] at h
      have hr := List.find?_some q
      have hr := of_decide_eq_true hr
      have hm := List.all_eq_true.mp h3 r (List.mem_of_find?_eq_some q)
      have hm := of_decide_eq_true hm
      rw [hr.1, hr.2] at hm
      cases h
      exact hm
/-- classes of exceptions with fields -/
def oexB (K : PySem.W.Frag) (C : Addr) : Bool := (match K.lookup C with
  | some ⟨.type t, _, .cls cd, sl⟩ => decide (t = "type") && cd.hasDict && !cd.hasDel && (match cd.mro with | .ref c :: bm => decide (c = C) && PySem.HandSPX.refsVE bm | _ => false) && (match sl.toList with | [_, _, _, _, some (.builtin n), _] => decide (n = "ValueError.__new__") | _ => false)
  | _ => false)
  && decide (PySem.W.findIn K (.ref C) "__setattr__" = some (some (.builtin "object.__setattr__"))) && decide (PySem.W.subIn K (.ref C) (.type "BaseException") = some true) && decide (PySem.W.typeIn K (.ref C) = some (.type "type")) && PySem.W.keepIn K (.ref C)
theorem oexB_ok {K : PySem.W.Frag} {C : Addr} (h : oexB K C = true) : OexC K C := by
  unfold oexB at h
  simp only [Bool.and_eq_true, decide_eq_true_eq] at h
  obtain ⟨⟨⟨⟨h1, h2⟩, h3⟩, h4⟩, h5⟩ := h
  refine ⟨?_, h2, h3, h4, h5⟩
  split at h1
  · rename_i t dd cd sl e
    simp only [Bool.and_eq_true, decide_eq_true_eq, Bool.not_eq_true'] at h1
    obtain ⟨⟨⟨⟨rfl, q1⟩, q2⟩, q3⟩, q4⟩ := h1
    obtain ⟨nm, bs, mro, ns, qn, hdc, sn, sub, ab, col, hdl⟩ := cd
    simp only at q1 q2 q3
    subst q1 q2
    split at q3
    · rename_i c bm
      simp only [Bool.and_eq_true, decide_eq_true_eq] at q3
      obtain ⟨rfl, q5⟩ := q3
      split at q4
      · rename_i k0 k1 k2 k3 n k5 e3
        have q4 := of_decide_eq_true q4
        subst q4
        have e4 : sl = #[k0, k1, k2, k3, some (.builtin "ValueError.__new__"), k5] := by
          rw [← Array.toArray_toList (xs := sl), e3]
        subst e4
        exact ⟨_, _, _, _, _, _, _, _, _, _, _, _, _, _, _, e, q5⟩
      · cases q4
    · cases q3
  · cases h1
section
variable [Tb] {P : Program} {w : World} {K : PySem.W.Frag} {mg : Str → Option Value} {base : Heap} {t : Tab} {k : Nat}
/-- an exception's class -/
theorem TbOk.consX {C : Str} {fl : List Str} (tb : TbOk P w K mg base (Gm t) k) (hm : mg C = some (.ref (He.ga K C))) (hx : XcOk P w K mg base k (He.ga K C) fl) (hf : fl ≠ [] → XfC K (He.ga K C) ∧ ∀ f ∈ fl, PySem.W.findIn K (.ref (He.ga K C)) f = some none) :
    TbOk P w K mg base (Gm { t with xcs := (C, fl) :: t.xcs }) k := by
  refine ⟨tb.fn, tb.gl, tb.blt, tb.at_, tb.ms, tb.mke, fun D fl' h => ?_, fun D fl' h hne => ?_, tb.dc, tb.fa, tb.kt, tb.lam, tb.hf, tb.rng, tb.zip, tb.enum, tb.cm, tb.mn⟩
  · have h2 : (match D == C with | true => some fl | false => t.xcs.lookup D) = some fl' := h
    cases e : (D == C) with
    | true =>
      rw [e] at h2
      cases h2
      cases beqS e
      exact ⟨hm, hx⟩
    | false =>
      rw [e] at h2
      exact tb.xc D fl' h2
  · have h2 : (match D == C with | true => some fl | false => t.xcs.lookup D) = some fl' := h
    cases e : (D == C) with
    | true =>
      rw [e] at h2
      cases h2
      cases beqS e
      exact hf hne
    | false =>
      rw [e] at h2
      exact tb.xf D fl' h2 hne
/-- what a class with fields must say -/
def xflB (K : PySem.W.Frag) (C : Str) (fl : List Str) : Bool := oexB K (He.ga K C) && xfB K (He.ga K C) && fl.all (fun f => decide (PySem.W.findIn K (.ref (He.ga K C)) f = some none)) && decide (PySem.W.findIn K (.ref (He.ga K C)) "__init__" = some (some (.ref (He.fAd K (C, some "__init__"))))) && decide (PySem.W.typeIn K (.ref (He.fAd K (C, some "__init__"))) = some (.type "function"))
theorem TbOk.consXf {C : Str} {fl ps N : List Str} {x qual : Str} {params : Arguments} {body : List Stmt} {scope : Scope} {fd : FuncData} (tb : TbOk P w K mg base (Gm t) k) (hk : 2 ≤ k) (hm : mg C = some (.ref (He.ga K C))) (hB : xflB K C fl = true)
    (FD : FunD K x qual params body scope [] [] (He.fAd K (C, some "__init__")) fd) (hs : scopeB N ps scope = true) (hl : ps.length = fl.length + 1) (hb : xiB N scope 1 fl body = true) (h0 : fl ≠ []) (h9 : decide (fl.length ≤ 900) = true) (bd : Binds K fd ps []) :
    TbOk P w K mg base (Gm { t with xcs := (C, fl) :: t.xcs }) k := by
  unfold xflB at hB
  simp only [Bool.and_eq_true, decide_eq_true_eq, List.all_eq_true] at hB
  obtain ⟨⟨⟨⟨h1, h2⟩, h3⟩, h4⟩, h5⟩ := hB
  have h9 := of_decide_eq_true h9
  refine tb.consX hm (.inr ⟨h0, h9, oexB_ok h1, _, fd, ps, 1, hk, h4, h5, xi_ok FD (scopeB_ok hs) hl (oexB_ok h1) hb h3 h0 h9, bd⟩) fun _ => ⟨xfB_ok h2, h3⟩
/-- .. without fields -/
theorem TbOk.consX0 {C : Str} (tb : TbOk P w K mg base (Gm t) k) (hm : mg C = some (.ref (He.ga K C))) (hB : (He.Fa.exc C).ok K = true) : TbOk P w K mg base (Gm { t with xcs := (C, []) :: t.xcs }) k := by
  unfold He.Fa.ok at hB
  simp only [Bool.and_eq_true, decide_eq_true_eq] at hB
  obtain ⟨h1, h2, h3, h4⟩ := hB
  exact tb.consX hm (.inl ⟨rfl, h1, h2, h3, h4⟩) fun z => absurd rfl z
end
end Av
set_option Elab.async false
set_option linter.all false
set_option maxRecDepth 100000
set_option maxHeartbeats 4000000
/-! # AvHt: their promise by their words -/
namespace Av
open PySem PySem.Spec PyProof.Rows L2 L2H
variable [Tb]
inductive HV where
  | cst (d : Dat) | var (i : Nat) | fld (f : Str) | tup (es : List HV) | is1 (D : Str) | isi (Ds : List Str) | ite (c a b : HV)
inductive HB where
  | set (i : Nat) (v : HV) | ret (v : HV) | if_ (c : HV) (b : List HB)
section
variable (Γ : Gam) (C : Str) (fs : List (Str × Dat))
mutual
def evV : Env' → HV → Option Dat
  | _, .cst d => some d
  | ρ, .var i => match ρ[i]? with
    | some (some d) => if i = 0 then none else some d
    | _ => none
  | _, .fld f => if f ∈ (Γ.xc C).getD [] then fs.lookup f else none
  | ρ, .tup es => match evVs ρ es with
    | some ds => if ds.length ≤ 1000 then some (.tup ds) else none
    | none => none
  | _, .is1 D => if (Tb.exo C && (Γ.xc D).isSome) = true then (Tb.sub (.inr C) (.inr D)).map .bl else none
  | _, .isi Ds => if (Tb.exo C && Ds.all (fun D => (Γ.xc D).isSome) && decide (Ds.length ≤ 900)) = true then (isiAny (.inr C) (Ds.map .gf)).map .bl else none
  | ρ, .ite c a b => match evV ρ c with
    | some (.bl true) => evV ρ a
    | some (.bl false) => evV ρ b
    | _ => none
def evVs : Env' → List HV → Option (List Dat)
  | _, [] => some []
  | ρ, e :: es => match evV ρ e, evVs ρ es with
    | some d, some ds => some (d :: ds)
    | _, _ => none
end
mutual
/-- a statement: the slots behind, what is returned -/
def evS : Env' → HB → Option (Env' × Option Dat)
  | ρ, .set i v => (evV Γ C fs ρ v).map fun d => (ρ.set i (some d), none)
  | ρ, .ret v => (evV Γ C fs ρ v).map fun d => (ρ, some d)
  | ρ, .if_ c b => match evV Γ C fs ρ c with
    | some (.bl true) => evSs ρ b
    | some (.bl false) => some (ρ, none)
    | _ => none
def evSs : Env' → List HB → Option (Env' × Option Dat)
  | ρ, [] => some (ρ, none)
  | ρ, s :: ss => match evS ρ s with
    | some (ρ', none) => evSs ρ' ss
    | r => r
end
end
/-! ### fitting -/
def nmsB (C : Ck) : List Str → List Expr → Bool
  | [], [] => true
  | D :: Ds, .Name y _ :: xs => (y == D) && gloB C y && nmsB C Ds xs
  | _, _ => false
mutual
def corHV (C : Ck) : HV → Expr → Bool
  | .cst d, x => match x with
    | .Constant c _ _ => cstB d c
    | _ => false
  | .var i, x => match x with
    | .Name y _ => varB C i y
    | _ => false
  | .fld f, x => match x with
    | .Attribute (.Name y _) g _ => (g == f) && varB C 0 y
    | _ => false
  | .tup es, x => match x with
    | .Tuple xs _ _ => corHVs C es xs
    | _ => false
  | .is1 D, x => match x with
    | .Call (.Name f _) [.Name y _, .Name d _] [] _ => (f == ("isinstance" : Str)) && gloB C f && varB C 0 y && (d == D) && gloB C d
    | _ => false
  | .isi Ds, x => match x with
    | .Call (.Name f _) [.Name y _, .Tuple xs _ _] [] _ => (f == ("isinstance" : Str)) && gloB C f && varB C 0 y && nmsB C Ds xs
    | _ => false
  | .ite c a b, x => match x with
    | .IfExp y u v _ => corHV C c y && valB y && corHV C a u && corHV C b v
    | _ => false
def corHVs (C : Ck) : List HV → List Expr → Bool
  | [], xs => xs.isEmpty
  | e :: es, xs => match xs with
    | x :: xs => noStar x && corHV C e x && corHVs C es xs
    | [] => false
end
mutual
def corHB (C : Ck) : HB → Stmt → Bool
  | .set i v, x => match x with
    | .Assign [.Name y _] e _ => locB C i y && corHV C v e && noComp e && decide (i ≠ 0)
    | _ => false
  | .ret v, x => match x with
    | .Return (some e) _ => corHV C v e
    | _ => false
  | .if_ c b, x => match x with
    | .If e a [] _ => corHV C c e && valB e && corHBs C b a
    | _ => false
def corHBs (C : Ck) : List HB → List Stmt → Bool
  | [], xs => xs.isEmpty
  | s :: ss, xs => match xs with
    | x :: xs => corHB C s x && corHBs C ss xs
    | [] => false
end
/-! ### the exception that is held -/
structure HX (X : Cx) (a : Addr) (oe : Obj) (C : Str) : Prop where
  pin : (a, oe) ∈ X.pn
  dat : ∃ vs, oe.data = .fields vs
  cls : oe.cls = .ref (He.ga X.K C)
section
variable {X : Cx} {C : Ck} {Γ : Gam} {k : Nat} {a : Addr} {oe : Obj} {E : Str} {fs : List (Str × Dat)} {pos : Pos}
theorem pe_xfP {D : Addr} {e : Expr} {te : TE} {n : Str} (hp : (a, oe) ∈ X.pn) (hf : ∃ vs, oe.data = .fields vs) (hc : oe.cls = .ref D) (T : XfC X.K D) (hno : PySem.W.findIn X.K (.ref D) n = some none) (he : PE X e te) (hb : attributeBase e n X.env (eval e X.env) = eval e X.env) :
    PE X (.Attribute e n pos) (fun σ H Q => te σ H fun x H1 => x = .ref a ∧ ∃ (dd : Addr) (fs : List (Str × V)) (v : V), oe.dict = some dd ∧ H1 dd = some (.xd fs) ∧ fs.lookup n = some v ∧ Q v H1) := by
  refine ⟨fun pins s σ H Q I h => ?_⟩
  refine attr_of hb (thn (he.run pins s σ H _ I h) fun u s1 hh => ?_)
  obtain ⟨x, H1, I1, rx, ex, dd, fs, v, ed, ea, l, q⟩ := hh
  subst ex
  obtain rfl : u = Value.ref a := rx
  obtain ⟨ha, _⟩ := I1.pin (a, oe) (List.mem_append_left _ hp)
  obtain ⟨vs, hd⟩ := hf
  have hx : ObjOk X.prog X.w H1 s1.heap dd (.xd fs) := I1.hok dd _ ea
  obtain ⟨mA, hns, hr⟩ := hx
  obtain ⟨od, ho, hl⟩ := lookIn_ns hns
  obtain ⟨u, hu, ru⟩ := RelO.some_of (v := v) (o := mA n) (by rw [← l]; exact hr n)
  have J : PySem.W.InstAt s1.heap a oe D (some od) := ⟨ha, hc, by unfold PySem.W.notCls; rw [hd] <;> rfl, by rw [ed]; exact ho⟩
  exact HandSPX.exc_get I1.kIn J T.ga T.gg T.exC (PySem.W.findObj_own T.hdC hno rfl (by rw [hl, hu])) (handed_of ru) ⟨v, H1, I1.tok _, ru, q⟩
def LfV (K : PySem.W.Frag) (a : Addr) (oe : Obj) (fs : List (Str × Dat)) (ρ : Env') (dt : Dat) : TE := fun σ H Q => ∃ G, RelG K G H ∧ RelX K H oe.dict fs ∧ σ[0]? = some (some (.ref a)) ∧ RelE K H ρ σ ∧ ∀ v H', Fra G H G H' → RelG K G H' → RelX K H' oe.dict fs → Rep K H' v dt → Q v H'
def LfVs (K : PySem.W.Frag) (a : Addr) (oe : Obj) (fs : List (Str × Dat)) (ρ : Env') (ds : List Dat) : TA := fun σ H Q => ∃ G, RelG K G H ∧ RelX K H oe.dict fs ∧ σ[0]? = some (some (.ref a)) ∧ RelE K H ρ σ ∧ ∀ vs H', Fra G H G H' → RelG K G H' → RelX K H' oe.dict fs → Reps K H' vs ds → Q vs H'
theorem xd_of {K : PySem.W.Frag} {H : Hp} {dx : Option Addr} (h : RelX K H dx fs) : ∀ dd, dx = some dd → ∃ vf, H dd = some (.xd vf) := fun dd e => by
  subst e
  obtain ⟨vf, h, _⟩ := h
  exact ⟨vf, h⟩
theorem relX_newT {K : PySem.W.Frag} {H : Hp} {dx : Option Addr} {p : Addr} {o : HO} (h : RelX K H dx fs) (hp : H p = none) : RelX K (upd H p o) dx fs := by
  cases dx with
  | none => exact h
  | some dd =>
    obtain ⟨vf, e2, e3⟩ := h
    exact ⟨vf, by rw [upd_ne (ne_of_none e2 hp)]; exact e2, KRel.mono (.new hp) e3⟩
theorem pa_cls (tb : TbOk X.prog X.w X.K X.mg X.base Γ k) (ck : CkOk X C Γ) : ∀ (Ds : List Str) (xs : List Expr), nmsB C Ds xs = true → Ds.all (fun D => (Γ.xc D).isSome) = true → PA X xs (fun _ H Q => Q (Ds.map fun D => V.ref (He.ga X.K D)) H)
  | [], [], _, _ => PA.imp pa_nil fun _ _ _ q => q
  | D :: Ds, x :: xs, h, hx => by
    cases x <;> try (unfold nmsB at h; cases h)
    rename_i y p
    unfold nmsB at h
    simp only [Bool.and_eq_true] at h
    rw [List.all_cons, Bool.and_eq_true] at hx
    have e1 : y = D := beqS h.1.1
    exact PA.imp (pa_cons (pe_cls tb ck h.1.2 e1 hx.1) (pa_cls tb ck Ds xs h.2 hx.2) (star1 (by rfl))) fun _ _ _ q => q
  | [], _ :: _, h, _ => by unfold nmsB at h; cases h
  | _ :: _, [], h, _ => by unfold nmsB at h; cases h
theorem clsV_all {K : PySem.W.Frag} : ∀ Ds : List Str, Paired ClsV (Ds.map fun D => V.ref (He.ga K D)) (Ds.map fun D => Value.ref (He.ga K D))
  | [] => .nil
  | D :: Ds => .cons (.own _) (clsV_all Ds)
theorem isiAny_any {K : PySem.W.Frag} (kt : KtOk K) {t : String ⊕ Str} : ∀ (Ds : List Str) (b : Bool), isiAny t (Ds.map .gf) = some b → PySem.W.kitAny K (tyVal K t) (Ds.map fun D => Value.ref (He.ga K D)) = some b
  | [], b, e => by cases e; exact kitAny_nil
  | D :: Ds, b, e => by
    have at_ : ∀ l : List Str, allTy (l.map .gf) = true := fun l => by
      induction l with
      | nil => rfl
      | cons x l ih => exact ih
    have e : (match kitN t (.inr D) with
      | some true => if allTy (Ds.map .gf) = true then some true else none
      | some false => isiAny t (Ds.map .gf)
      | none => none) = some b := e
    split at e
    · rename_i q
      rw [if_pos (at_ Ds)] at e
      cases e
      exact kitAny_cons (kitN_ok kt q) (fun z => by cases z) (fun _ => rfl)
    · rename_i q
      exact kitAny_cons (kitN_ok kt q) (fun _ => isiAny_any kt Ds b e) (fun z => by cases z)
    · cases e
variable {ρ : Env'}
mutual
theorem okHV (hx : HX X a oe E) (ck : CkOk X C Γ) (tb : TbOk X.prog X.w X.K X.mg X.base Γ k) : ∀ (e : HV) (x : Expr) (ρ : Env') (dt : Dat), corHV C e x = true → evV Γ E fs ρ e = some dt → PE X x (LfV X.K a oe fs ρ dt)
  | .cst d, x, ρ, dt, h, hv => by
    unfold corHV at h
    split at h
    · unfold evV at hv
      cases hv
      refine PE.imp (cst_ok (X := X) (W := fun _ _ _ _ => True) h) ?_
      rintro σ H Q ⟨G, g, rx, h0, hE, q⟩
      exact ⟨_, G, fun d' G' => d' = d ∧ G' = G, fun _ _ _ => False, relE_none σ, g, ⟨rfl, rfl⟩, fun d' G' v H' f g' r z => (by
        obtain ⟨rfl, rfl⟩ := z
        exact q v H' f g' (relX_fra g rx f) r), fun c fs' G' dd H' _ _ _ z => False.elim z⟩
    · cases h
  | .var i, x, ρ, dt, h, hv => by
    unfold corHV at h
    split at h
    · obtain ⟨v1, v2, v3, v4⟩ := vis_of ck h
      unfold evV at hv
      split at hv
      · rename_i d e
        split at hv
        · cases hv
        · cases hv
          refine PE.imp (pe_var (X := X) v1 v2 v3 v4) ?_
          rintro σ H Q ⟨G, g, rx, h0, hE, q⟩
          obtain ⟨v, e1, r⟩ := hE.2 i _ e
          exact ⟨v, e1, q v H .refl g rx r⟩
      · cases hv
    · cases h
  | .fld f, x, ρ, dt, h, hv => by
    unfold corHV at h
    split at h
    · simp only [Bool.and_eq_true] at h
      obtain ⟨h1, h2⟩ := h
      cases beqS h1
      unfold evV at hv
      split at hv
      · rename_i hm
        cases hfl : Γ.xc E with
        | none => rw [hfl] at hm; cases hm
        | some fl =>
          rw [hfl] at hm
          have hm : f ∈ fl := hm
          obtain ⟨t1, t2⟩ := tb.xf E fl hfl (fun z => by rw [z] at hm; cases hm)
          obtain ⟨v1, v2, v3, v4⟩ := vis_of ck h2
          refine PE.imp (pe_xfP (D := He.ga X.K E) hx.pin hx.dat hx.cls t1 (t2 f hm) (pe_var (X := X) v1 v2 v3 v4) rfl) ?_
          rintro σ H Q ⟨G, g, rx, h0, hE, q⟩
          refine ⟨_, h0, rfl, ?_⟩
          cases hdx : oe.dict with
          | none => rw [hdx] at rx; rw [show fs = [] from rx] at hv; cases hv
          | some dd =>
            have rx0 := rx
            rw [hdx] at rx0
            obtain ⟨vf, e1, e2⟩ := rx0
            obtain ⟨v, l1, l2⟩ := kr_look e2 hv
            exact ⟨dd, vf, v, rfl, e1, l1, q v H .refl g rx l2⟩
      · cases hv
    · cases h
  | .tup es, x, ρ, dt, h, hv => by
    unfold corHV at h
    split at h
    · unfold evV at hv
      split at hv
      · rename_i ds e1
        split at hv
        · rename_i hl
          cases hv
          refine PE.imp (pe_tup (okHVs hx ck tb es _ ρ ds h e1)) ?_
          rintro σ H Q ⟨G, g, rx, h0, hE, q⟩
          refine ⟨G, g, rx, h0, hE, fun vs H1 f1 g1 rx1 r1 => ⟨Nat.le_trans (by rw [r1.length]; exact hl) (show 1000 ≤ sizeLine by decide), fun p hp => q _ _ ?_ (g1.newT hp) (relX_newT rx1 hp) (.tup (.inl upd_same) (r1.mono (.new hp)))⟩⟩
          exact f1.trans fun b u e t n => ⟨by rw [upd_ne (ne_of_none e hp)]; exact e, n⟩
        · cases hv
      · cases hv
    · cases h
  | .is1 D, x, ρ, dt, h, hv => by
    unfold corHV at h
    split at h
    · rename_i f fp y yp d dp pp
      simp only [Bool.and_eq_true] at h
      obtain ⟨⟨⟨⟨h1, h2⟩, h3⟩, h4⟩, h5⟩ := h
      have ef : f = "isinstance" := beqS h1
      subst ef
      unfold evV at hv
      split at hv
      · rename_i ho
        rw [Bool.and_eq_true] at ho
        obtain ⟨b, hb, rfl⟩ := Option.map_eq_some_iff.mp hv
        obtain ⟨v1, v2, v3, v4⟩ := vis_of ck h3
        obtain ⟨g1, g2, g3⟩ := gl_of ck h2
        refine PE.imp (pe_callB (cr_isP hx.pin hx.dat hx.cls (tb.kt.exo E ho.1)) g1 (tb.blt .isinst) (boot_bf .isinst) (pa_cons (pe_var (X := X) v1 v2 v3 v4) (pa_cons (pe_cls tb ck h5 (beqS h4) ho.2) pa_nil (star1 (by rfl))) (star1 (by rfl))) (bf_n .isinst).1 (bf_n .isinst).2 (star1 (by rfl)) (by rfl)) ?_
        rintro σ H Q ⟨G, g, rx, h0, hE, q⟩
        exact ⟨_, h0, xd_of rx, .inl ⟨_, _, b, rfl, .own _, tb.kt.sub _ _ _ hb, q _ H .refl g rx (.bl b)⟩⟩
      · cases hv
    · cases h
  | .isi Ds, x, ρ, dt, h, hv => by
    unfold corHV at h
    split at h
    · rename_i f fp y yp xs k1 k2 pp
      simp only [Bool.and_eq_true] at h
      obtain ⟨⟨⟨h1, h2⟩, h3⟩, h4⟩ := h
      have ef : f = "isinstance" := beqS h1
      subst ef
      unfold evV at hv
      split at hv
      · rename_i ho
        simp only [Bool.and_eq_true, decide_eq_true_eq] at ho
        obtain ⟨⟨o1, o2⟩, o3⟩ := ho
        obtain ⟨b, hb, rfl⟩ := Option.map_eq_some_iff.mp hv
        obtain ⟨v1, v2, v3, v4⟩ := vis_of ck h3
        obtain ⟨g1, g2, g3⟩ := gl_of ck h2
        refine PE.imp (pe_callB (cr_isP hx.pin hx.dat hx.cls (tb.kt.exo E o1)) g1 (tb.blt .isinst) (boot_bf .isinst) (pa_cons (pe_var (X := X) v1 v2 v3 v4) (pa_cons (pe_tup (pa_cls tb ck Ds xs h4 o2)) pa_nil (star1 (by rfl))) (star1 (by rfl))) (bf_n .isinst).1 (bf_n .isinst).2 (star1 (by rfl)) (by rfl)) ?_
        rintro σ H Q ⟨G, g, rx, h0, hE, q⟩
        refine ⟨_, h0, Nat.le_trans (by rw [List.length_map]; exact o3) (show 900 ≤ sizeLine by decide), fun p hp => ⟨xd_of (relX_newT rx hp), .inr ⟨p, _, _, b, rfl, upd_same, clsV_all Ds, isiAny_any tb.kt Ds b hb, q _ _ (.newT hp) (g.newT hp) (relX_newT rx hp) (.bl b)⟩⟩⟩
      · cases hv
    · cases h
  | .ite c u v, x, ρ, dt, h, hv => by
    unfold corHV at h
    split at h
    · simp only [Bool.and_eq_true] at h
      obtain ⟨⟨⟨h1, h2⟩, h3⟩, h4⟩ := h
      unfold evV at hv
      split at hv
      · rename_i hc
        refine PE.imp (pe_ifExp (ta := LfV X.K a oe fs ρ dt) (tb := fun _ _ _ => False) (pt_val (okHV hx ck tb c _ ρ _ h1 hc) (val_no h2)) (okHV hx ck tb u _ ρ dt h3 hv) ⟨fun _ _ _ _ _ _ z => False.elim z⟩) ?_
        rintro σ H Q ⟨G, g, rx, h0, hE, q⟩
        refine ⟨G, g, rx, h0, hE, fun v H' f g' rx' r => ?_⟩
        cases r
        refine ⟨true, rfl, ?_⟩
        simp only [if_true]
        exact ⟨G, g', rx', h0, hE.mono (f.stab g), fun v H2 f2 g2 rx2 r2 => q v H2 (f.trans f2) g2 rx2 r2⟩
      · rename_i hc
        refine PE.imp (pe_ifExp (ta := fun _ _ _ => False) (tb := LfV X.K a oe fs ρ dt) (pt_val (okHV hx ck tb c _ ρ _ h1 hc) (val_no h2)) ⟨fun _ _ _ _ _ _ z => False.elim z⟩ (okHV hx ck tb v _ ρ dt h4 hv)) ?_
        rintro σ H Q ⟨G, g, rx, h0, hE, q⟩
        refine ⟨G, g, rx, h0, hE, fun v H' f g' rx' r => ?_⟩
        cases r
        refine ⟨false, rfl, ?_⟩
        simp only [Bool.false_eq_true, if_false]
        exact ⟨G, g', rx', h0, hE.mono (f.stab g), fun v H2 f2 g2 rx2 r2 => q v H2 (f.trans f2) g2 rx2 r2⟩
      · cases hv
    · cases h
theorem okHVs (hx : HX X a oe E) (ck : CkOk X C Γ) (tb : TbOk X.prog X.w X.K X.mg X.base Γ k) : ∀ (es : List HV) (xs : List Expr) (ρ : Env') (ds : List Dat), corHVs C es xs = true → evVs Γ E fs ρ es = some ds → PA X xs (LfVs X.K a oe fs ρ ds)
  | [], xs, ρ, ds, h, hv => by
    unfold corHVs at h
    cases xs with
    | cons _ _ => cases h
    | nil =>
      unfold evVs at hv
      cases hv
      exact PA.imp pa_nil fun σ H Q ⟨G, g, rx, _, _, q⟩ => q [] H .refl g rx .nil
  | e :: es, xs, ρ, ds, h, hv => by
    unfold corHVs at h
    cases xs with
    | nil => cases h
    | cons x xs =>
      simp only [Bool.and_eq_true] at h
      unfold evVs at hv
      split at hv
      · rename_i d ds' e1 e2
        cases hv
        refine PA.imp (pa_cons (okHV hx ck tb e x ρ d h.1.2 e1) (okHVs hx ck tb es xs ρ ds' h.2 e2) (star1 h.1.1)) ?_
        rintro σ H Q ⟨G, g, rx, h0, hE, q⟩
        exact ⟨G, g, rx, h0, hE, fun v H1 f1 g1 rx1 r1 => ⟨G, g1, rx1, h0, hE.mono (f1.stab g), fun vs H2 f2 g2 rx2 r2 => q _ _ (f1.trans f2) g2 rx2 (.cons (r1.mono (f2.stab g1)) r2)⟩⟩
      · cases hv
end
/-- what statements tell -/
def LfB (K : PySem.W.Frag) (a : Addr) (oe : Obj) (fs : List (Str × Dat)) (ρ : Env') : Option (Env' × Option Dat) → TS
  | none => fun _ _ _ => False
  | some (ρ', none) => fun D σ H => ∃ G, RelG K G H ∧ RelX K H oe.dict fs ∧ σ[0]? = some (some (.ref a)) ∧ RelE K H ρ σ ∧ ∀ σ' H', Fra G H G H' → RelG K G H' → RelX K H' oe.dict fs → σ'[0]? = some (some (.ref a)) → RelE K H' ρ' σ' → D.nx σ' H'
  | some (_, some d) => fun D σ H => ∃ G, RelG K G H ∧ RelX K H oe.dict fs ∧ σ[0]? = some (some (.ref a)) ∧ RelE K H ρ σ ∧ ∀ v H', Fra G H G H' → RelG K G H' → RelX K H' oe.dict fs → Rep K H' v d → D.rt v H'
mutual
theorem okHB (nd : X.N.Nodup) (hx : HX X a oe E) (ck : CkOk X C Γ) (tb : TbOk X.prog X.w X.K X.mg X.base Γ k) : ∀ (s : HB) (x : Stmt) (ρ : Env'), corHB C s x = true → PS X x (LfB X.K a oe fs ρ (evS Γ E fs ρ s))
  | .set i v, x, ρ, h => by
    unfold corHB at h
    split at h
    · simp only [Bool.and_eq_true, decide_eq_true_eq] at h
      obtain ⟨⟨⟨h1, h2⟩, h3⟩, h4⟩ := h
      obtain ⟨k1, k2, k3⟩ := loc_of ck h1
      unfold evS
      cases hv : evV Γ E fs ρ v with
      | none => exact ⟨fun _ _ _ _ _ _ z => False.elim z⟩
      | some d =>
        refine PS.imp (ps_set (X := X) nd k1 k2 (okHV hx ck tb v _ ρ d h2 hv) (sw_no h3) k3) ?_
        rintro D σ H ⟨G, g, rx, h0, hE, q⟩
        refine ⟨G, g, rx, h0, hE, fun u H1 f1 g1 rx1 r1 => q _ H1 f1 g1 rx1 ?_ ((hE.mono (f1.stab g)).set r1)⟩
        rw [List.getElem?_set_ne h4]
        exact h0
    · cases h
  | .ret v, x, ρ, h => by
    unfold corHB at h
    split at h
    · unfold evS
      cases hv : evV Γ E fs ρ v with
      | none => exact ⟨fun _ _ _ _ _ _ z => False.elim z⟩
      | some d =>
        refine PS.imp (ps_ret (okHV hx ck tb v _ ρ d h hv)) ?_
        rintro D σ H ⟨G, g, rx, h0, hE, q⟩
        exact ⟨G, g, rx, h0, hE, q⟩
    · cases h
  | .if_ c b, x, ρ, h => by
    unfold corHB at h
    split at h
    · simp only [Bool.and_eq_true] at h
      obtain ⟨⟨h1, h2⟩, h3⟩ := h
      unfold evS
      split
      · rename_i hc
        refine PS.imp (ps_if (u := fun _ _ _ => False) (pt_val (okHV hx ck tb c _ ρ _ h1 hc) (val_no h2)) (okHBs nd hx ck tb b _ ρ h3) ⟨fun _ _ _ _ _ _ z => False.elim z⟩) ?_
        intro D σ H hq
        have key : ∃ G, RelG X.K G H ∧ RelX X.K H oe.dict fs ∧ σ[0]? = some (some (.ref a)) ∧ RelE X.K H ρ σ ∧ ∀ H', Fra G H G H' → RelG X.K G H' → RelX X.K H' oe.dict fs → LfB X.K a oe fs ρ (evSs Γ E fs ρ b) D σ H' := by
          cases hr : evSs Γ E fs ρ b with
          | none => rw [hr] at hq; exact False.elim hq
          | some z =>
            obtain ⟨ρ', o⟩ := z
            rw [hr] at hq
            cases o with
            | none =>
              obtain ⟨G, g, rx, h0, hE, q⟩ := hq
              exact ⟨G, g, rx, h0, hE, fun H1 f1 g1 rx1 => ⟨G, g1, rx1, h0, hE.mono (f1.stab g), fun σ' H2 f2 g2 rx2 z1 z2 => q σ' H2 (f1.trans f2) g2 rx2 z1 z2⟩⟩
            | some d =>
              obtain ⟨G, g, rx, h0, hE, q⟩ := hq
              exact ⟨G, g, rx, h0, hE, fun H1 f1 g1 rx1 => ⟨G, g1, rx1, h0, hE.mono (f1.stab g), fun v H2 f2 g2 rx2 z1 => q v H2 (f1.trans f2) g2 rx2 z1⟩⟩
        obtain ⟨G, g, rx, h0, hE, q⟩ := key
        refine ⟨G, g, rx, h0, hE, fun v H' f g' rx' r => ?_⟩
        cases r
        refine ⟨true, rfl, ?_⟩
        simp only [if_true]
        exact q H' f g' rx'
      · rename_i hc
        refine PS.imp (ps_if (t := fun _ _ _ => False) (pt_val (okHV hx ck tb c _ ρ _ h1 hc) (val_no h2)) ⟨fun _ _ _ _ _ _ z => False.elim z⟩ pss_nil) ?_
        rintro D σ H ⟨G, g, rx, h0, hE, q⟩
        refine ⟨G, g, rx, h0, hE, fun v H' f g' rx' r => ?_⟩
        cases r
        refine ⟨false, rfl, ?_⟩
        simp only [Bool.false_eq_true, if_false]
        exact q σ H' f g' rx' h0 (hE.mono (f.stab g))
      · exact ⟨fun _ _ _ _ _ _ z => False.elim z⟩
    · cases h
theorem okHBs (nd : X.N.Nodup) (hx : HX X a oe E) (ck : CkOk X C Γ) (tb : TbOk X.prog X.w X.K X.mg X.base Γ k) : ∀ (ss : List HB) (xs : List Stmt) (ρ : Env'), corHBs C ss xs = true → PSs X xs (LfB X.K a oe fs ρ (evSs Γ E fs ρ ss))
  | [], xs, ρ, h => by
    unfold corHBs at h
    cases xs with
    | cons _ _ => cases h
    | nil =>
      unfold evSs
      exact PSs.imp pss_nil fun D σ H ⟨G, g, rx, h0, hE, q⟩ => q σ H .refl g rx h0 hE
  | s :: ss, xs, ρ, h => by
    unfold corHBs at h
    cases xs with
    | nil => cases h
    | cons x xs =>
      simp only [Bool.and_eq_true] at h
      have h1 := okHB nd hx ck tb s x ρ h.1
      unfold evSs
      cases hr : evS Γ E fs ρ s with
      | none => exact ⟨fun _ _ _ _ _ _ z => False.elim z⟩
      | some z =>
        obtain ⟨ρ', o⟩ := z
        rw [hr] at h1
        cases o with
        | none =>
          refine PSs.imp (pss_cons h1 (okHBs nd hx ck tb ss xs ρ' h.2)) ?_
          intro D σ H hq
          dsimp only at hq
          cases hr2 : evSs Γ E fs ρ' ss with
          | none => rw [hr2] at hq; exact False.elim hq
          | some z2 =>
            obtain ⟨ρ2, o2⟩ := z2
            rw [hr2] at hq
            cases o2 with
            | none =>
              obtain ⟨G, g, rx, h0, hE, q⟩ := hq
              exact ⟨G, g, rx, h0, hE, fun σ' H1 f1 g1 rx1 z1 z2 => ⟨G, g1, rx1, z1, z2, fun σ2 H2 f2 g2 rx2 y1 y2 => q σ2 H2 (f1.trans f2) g2 rx2 y1 y2⟩⟩
            | some d =>
              obtain ⟨G, g, rx, h0, hE, q⟩ := hq
              exact ⟨G, g, rx, h0, hE, fun σ' H1 f1 g1 rx1 z1 z2 => ⟨G, g1, rx1, z1, z2, fun v H2 f2 g2 rx2 y1 => q v H2 (f1.trans f2) g2 rx2 y1⟩⟩
        | some d =>
          refine PSs.imp (pss_cons h1 (okHBs nd hx ck tb ss xs ρ' h.2)) ?_
          rintro D σ H ⟨G, g, rx, h0, hE, q⟩
          exact ⟨G, g, rx, h0, hE, q⟩
end
end
section
variable {P : Program} {w : World} {K : PySem.W.Frag} {mg : Str → Option Value} {base : Heap} {Γ : Gam} {k : Nat} {N ps : List Str} {x qual : Str} {params : Arguments} {body : List Stmt} {scope : Scope} {f : Addr} {fd : FuncData}
end
end Av
set_option Elab.async false
set_option linter.all false
set_option maxRecDepth 100000
set_option maxHeartbeats 4000000
/-! # AvX3: tables with made functions and hot defs; a law's end with tables of code objects -/
namespace Av
open PySem PySem.Spec PyProof.Rows L2
/-- what a made function of a number is, by words -/
abbrev tbL (T : List NdefX.NTab) (lams : List (Nat × LW)) (exos : List Str) (subs : SubL) (xms : List (Str × Str × Bool)) : Tb :=
  tbOf T (fun q L => ∃ lw, lams.lookup q = some lw ∧ fitL lw L = true) (fun q => match lams.lookup q with | some lw => lw.fr | none => []) exos subs xms
section
variable [Tb] {P : Program} {w : World} {K : PySem.W.Frag} {mg : Str → Option Value} {base : Heap} {t : Tab} {k : Nat}
end
/-! ### code objects -/
/-! ### a law's end -/
/-- the law's promise, of a script that is a list -/
def spLaw [Tb] (K : PySem.W.Frag) : Sp := fun vs H Q E => ∃ (a : Addr) (ns : List Int), vs = [.ref a] ∧ SqL K H a (ns.map V.int) ∧ NdefX.TabsN Tb.T H ∧ ∀ v H', v = .bl true → Q v H'
theorem tabs0 {T : List NdefX.NTab} {H : Hp} (h : ∀ p ∈ T, H p.1 = some (.tbl #[])) : NdefX.TabsN T H := fun p hp => ⟨#[], h p hp, trivial, fun pos cv e => by cases e⟩
theorem fn_law [Tb] {P : Program} {w : World} {K : PySem.W.Frag} {mg : Str → Option Value} {base : Heap} {k : Nat} {F : FnE} {f : Addr} {fd : FuncData} {x : Str} (hF : ∀ ds G Q X, c_lawC ds G Q X → F.con ds G Q X) (o : FnOk P w K mg base (L2.CX P w) k f fd [x] (spOf K F)) : FnOk P w K mg base (L2.CX P w) k f fd [x] (spLaw K) := by
  refine ⟨fun vs H Q E h => by obtain ⟨a, ns, rfl, _⟩ := h; rfl, fun A outer s H args us vs Q E hr e0 hb r hsp => ?_⟩
  obtain ⟨a, ns, rfl, hS, hT, hq⟩ := hsp
  have key : ∀ H1 : Hp, KlAt K H1 a (ns.map V.int) → NdefX.TabsN Tb.T H1 → spOf K F [.ref a] H1 Q fun _ _ _ => False := fun H1 kl t1 => by
    refine ⟨[.kls (ns.map Dat.int)], fun _ => none, fun d _ => d = .bl true, fun _ _ _ => False, .one (.kls kl (reps_ints ns)), ⟨(fun a o z => by cases z), t1⟩, hF _ _ _ _ ⟨_, ns, rfl, .inr rfl, fun _ => rfl⟩, fun d G' v H' f g r q => ?_, fun c fs G' dx H' f g r q => False.elim q⟩
    subst q
    exact hq _ _ (rep_b r)
  have noE : ∀ {H1 : Hp} {e : Value} {s' : Shared}, L2.CX P w outer H1 s (fun _ _ _ => False) e s' → False := fun ⟨_, _, _, _, _, _, _, _, _, _, _, _, z⟩ => z
  have easy : KlAt K H a (ns.map V.int) → codeAny (model P w) A (.call (.ref f) args) (CR (L2.CX P w) outer P w H s Q E) s := fun kl =>
    codeAny_mono (o.run A outer s H args us [.ref a] Q (fun _ _ _ => False) hr e0 hb r (key H kl hT)) fun r s' hq => by
      cases r with
      | error e => exact (noE hq).elim
      | ok fl => cases fl <;> exact hq
  rcases hS with (hS | ⟨ob, hS⟩) | hS
  · obtain ⟨_, its, n, _, hob⟩ := (show ObjOk P w H s.heap a (.lst (ns.map V.int)) from e0.hok a _ hS)
    generalize ({ cls := Value.type "list", data := Data.seq its.toArray n } : Obj) = ob at hob
    have ne : ∀ {b u}, H b = some u → u ≠ .lst (ns.map V.int) → b ≠ a := fun e d z => by rw [z, hS] at e; exact d (Option.some.inj e).symm
    have nn : ∀ {b}, H b = none → b ≠ a := fun e z => by rw [z, hS] at e; cases e
    have k1 : HOk P w (upd H a (.frz ob (.lst (ns.map V.int)))) s.heap := fun b u q => by
      by_cases hb : b = a
      · subst hb
        rw [upd_same] at q
        cases q
        exact ⟨hob, e0.hok b _ hS⟩
      · rw [upd_ne hb] at q
        exact (e0.hok b u q).stay (fun _ _ _ z => z) (fun c z => by rw [upd_ne (ne z (by simp))]; exact z) fun c xs z => by rw [upd_ne (ne z (by simp))]; exact z
    have e1 : Env0 P w K mg base A outer s (upd H a (.frz ob (.lst (ns.map V.int)))) := ⟨e0.frames, e0.mod, fun b o q => ⟨(e0.bs b o q).1, by rw [upd_ne (nn (e0.bs b o q).2)]; exact (e0.bs b o q).2⟩, e0.bsz, e0.funs, fun b hb => by rw [upd_ne (nn (e0.frf b hb))]; exact e0.frf b hb, k1, e0.bare⟩
    have t1 : NdefX.TabsN Tb.T (upd H a (.frz ob (.lst (ns.map V.int)))) := fun p hp => by
      obtain ⟨ps, h1, h2, h3⟩ := hT p hp
      refine ⟨ps, by rw [upd_ne (ne h1 (by simp))]; exact h1, h2, fun pos cv hc => ?_⟩
      obtain ⟨c, h4, h5⟩ := h3 pos cv hc
      exact ⟨c, h4, by rw [upd_ne (ne h5 (fun z => by unfold LamX.CodeO at z; cases z))]; exact h5⟩
    refine codeAny_mono (o.run A outer s _ args us [.ref a] Q (fun _ _ _ => False) hr e1 hb r (key _ (.inl ⟨ob, upd_same⟩) t1)) fun r s' hq => ?_
    cases r with
    | error e => exact (noE hq).elim
    | ok fl =>
      cases fl with
      | ret u =>
        obtain ⟨v, H', os, bare, un, hok, rv, q⟩ := hq
        refine ⟨v, H', os, bare, ⟨fun b o h1 h2 => un.keep b o h1 (by rw [upd_ne (nn h2)]; exact h2), fun b o h1 h2 => un.slot b o h1 (by rw [upd_ne (nn h2)]; exact h2), fun b o h1 h2 => un.free b o h1 (by rw [upd_ne (nn h2)]; exact h2), un.there, fun b xs h1 => un.tups b xs (by rw [upd_ne (ne h1 (by simp))]; exact h1),
          fun b o u h1 => un.frzs b o u (by rw [upd_ne (ne h1 (by simp))]; exact h1), fun b ps h1 => un.tbls b ps (by rw [upd_ne (ne h1 (by simp))]; exact h1)⟩, hok, rv, q⟩
      | next => exact False.elim hq
      | brk => exact False.elim hq
      | cont => exact False.elim hq
  · exact easy (.inl ⟨ob, hS⟩)
  · exact easy (.inr hS)
theorem in_left {A B : PySem.W.Frag} {h : Heap} (X : PySem.W.Frag.In (A ++ B) h) : A.In h := fun b o e => X b o (by
  show List.lookup b (A ++ B) = some o
  rw [List.lookup_append]
  have e : List.lookup b A = some o := e
  rw [e]; rfl)
/-- what is known at the head's end -/
def LawT (P : Program) (w : World) (k n : Nat) (x : Str) (mg : Str → Option Value) (fa : Addr) (h : Heap) : Prop :=
  ∃ (K : PySem.W.Frag) (fd : FuncData) (cs : List (Addr × Addr)) (sp : Sp), K.In h ∧ (∀ p ∈ cs, h.get? p.2 = some { cls := .none, data := .fields #[] }) ∧ (∀ p ∈ cs, K.lookup p.2 = none) ∧ (∀ p ∈ cs, PySem.W.CodeHd h p.1 p.2) ∧ (∀ (s : Shared) (u : Value), BindsTo s fd ⟨[u], []⟩ [(x, u)]) ∧
    (∀ (H : Hp) (a : Addr) (ns : List Int), (∀ p ∈ cs, H p.2 = some (.tbl #[])) → SqL K H a (ns.map V.int) → sp [.ref a] H (fun v _ => v = .bl true) fun _ _ _ => False) ∧
    ∀ base : Heap, K.In base → base.Ns mainGlobals mg → (∀ p ∈ cs, LamX.TabB base mg p.1 p.2) → FnOk P w K mg base (L2.CX P w) k fa fd [x] sp
theorem walk_worldT {l : PySem.W.OpenLaw} {n k : Nat} {q : Program} {lo : List Str} {XP : (Str → Option Value) → Heap → Prop} {YP : World → Heap → Prop} {d : DefRec} {x : Str} (h1 : l.most = some n) (h2 : n ≤ sizeLine) (h3 : d.params.defaults = []) (h4 : Room k callerA)
    (F : ∀ (w : World) (mg : Str → Option Value) (fa : Addr) (h : Heap), YP w h → h.Ns mainGlobals mg → mg d.name = some (.ref fa) → LawT l.prog w k n x mg fa h) : PySem.W.WalkO q lo XP YP l.row.toRowW d [] (fun f vs => PySem.call f vs) := by
  refine Att.attach_callB h1 h3 fun w s₀ s₁ mg mb fa o pm cd doc a vs ns G Y ho hd hcd hmg hobj hints hlen hbits hg => ?_
  obtain ⟨K, fd, cs, sp, KX, hT, nT, C, hb, hsp, hF⟩ := F w mg fa _ Y G.T.g hmg
  exact LamX.law_callTs (CX := L2.CX l.prog w) KX G.T.g G.T.b G.T.builtins G.T.nolimit hg hT nT C G.T.bmain hobj hints (Nat.le_trans hlen h2) h4 hF hb (fun H hH hS => hsp H a ns hH hS) fun H e s' ⟨_, _, _, _, _, _, _, _, _, _, _, _, z⟩ => z
end Av
set_option Elab.async false
set_option linter.all false
set_option maxRecDepth 100000
set_option maxHeartbeats 0
namespace Av.Fin
open PySem PySem.Spec PyProof.Rows L2 Av
def lams : List (Nat × LW) := []
def exos : List Str := ["BadPlace"]
def subs : SubL := [(.inr "BadPlace", .inr "SignError", true)]
def xms : List (Str × Str × Bool) := [("BadPlace", "BadPlace", true)]
def tabT : List NdefX.NTab := []
def cs : List (Addr × Addr) := []
instance tb1 : Tb := tbL tabT lams exos subs xms
theorem kt (w : World) : KtOk (K w) := kt_of (by show (exos.all fun C => excCB (K w) (He.ga (K w) C)) = true; kernel_rfl) (by show subs.all (subB (K w)) = true; kernel_rfl) (by show xms.all (xmB (K w)) = true; kernel_rfl)
def d0 : He.DefD := ⟨("_law_draw", none), "_law_draw", "_law_draw", defArgs (top 7), defBody (top 7), defScope (top 7), [], []⟩
def d1 : He.DefD := ⟨("_law_pick", none), "_law_pick", "_law_pick", defArgs (top 8), defBody (top 8), defScope (top 8), [], []⟩
def d2 : He.DefD := ⟨("_law_source", none), "_law_source", "_law_source", defArgs (top 6), defBody (top 6), defScope (top 6), [], []⟩
def d3 : He.DefD := ⟨("_law_same", none), "_law_same", "_law_same", defArgs (top 9), defBody (top 9), defScope (top 9), [], []⟩
def d4 : He.DefD := ⟨("_law_handed", none), "_law_handed", "_law_handed", defArgs (top 10), defBody (top 10), defScope (top 10), [], []⟩
def d5 : He.DefD := ⟨("BadPlace", some "__init__"), "__init__", "BadPlace.__init__", defArgs (mth 2 0), defBody (mth 2 0), defScope (mth 2 0), [], []⟩
def d6 : He.DefD := ⟨("Octets", some "__init__"), "__init__", "Octets.__init__", defArgs (mth 4 0), defBody (mth 4 0), defScope (mth 4 0), [.adr (He.dflAt ("Octets", some "__init__") 0), .non], []⟩
def d7 : He.DefD := ⟨("Octets", some "read"), "read", "Octets.read", defArgs (mth 4 1), defBody (mth 4 1), defScope (mth 4 1), [.int (-1)], []⟩
def d8 : He.DefD := ⟨("Octets", some "write"), "write", "Octets.write", defArgs (mth 4 2), defBody (mth 4 2), defScope (mth 4 2), [], []⟩
def d9 : He.DefD := ⟨("Octets", some "tell"), "tell", "Octets.tell", defArgs (mth 4 4), defBody (mth 4 4), defScope (mth 4 4), [], []⟩
def d10 : He.DefD := ⟨("Octets", some "content"), "content", "Octets.content", defArgs (mth 4 5), defBody (mth 4 5), defScope (mth 4 5), [], []⟩
def d11 : He.DefD := ⟨("Octets", some "seek"), "seek", "Octets.seek", defArgs (mth 4 3), defBody (mth 4 3), defScope (mth 4 3), [], []⟩
def d12 : He.DefD := ⟨("_law_from", none), "_law_from", "_law_from", defArgs (top 11), defBody (top 11), defScope (top 11), [], []⟩
def d13 : He.DefD := ⟨("_law_put", none), "_law_put", "_law_put", defArgs (top 13), defBody (top 13), defScope (top 13), [], []⟩
def d14 : He.DefD := ⟨("_law_sought", none), "_law_sought", "_law_sought", defArgs (top 12), defBody (top 12), defScope (top 12), [], []⟩
def d15 : He.DefD := ⟨("law", none), "law", "law", defArgs (top 14), defBody (top 14), defScope (top 14), [], []⟩
def fn : List He.DefD := [d0, d1, d2, d3, d4, d5, d6, d7, d8, d9, d10, d11, d12, d13, d14, d15]
def fa : List He.Fa := [.glo "_law_draw", .glo "_law_pick", .glo "_law_source", .glo "_law_same", .glo "_law_handed", .glo "_law_from", .glo "_law_put", .glo "_law_sought", .glo "law", .free "len", .free "int", .free "tuple", .free "list", .free "isinstance", .free "all", .free "any", .free "sum", .free "min", .free "max", .free "range", .free "zip", .free "enumerate", .free "bool", .free "str", .free "dict", .free "ord", .free "sorted", .cls "Octets", .noat "Octets" "octets", .noat "Octets" "most", .noat "Octets" "place", .glo "BadPlace", .glo "SignError", .exc "SignError", .mkr "Octets", .glo "Octets", .meth "Octets" "read", .meth "Octets" "write", .meth "Octets" "tell", .meth "Octets" "content", .meth "Octets" "seek"]
def gv : List (Str × Dat) := []
def ats : List (Str × Str) := [("Octets", "octets"), ("Octets", "most"), ("Octets", "place")]
def dcs : List (Str × List (Key × Dat)) := []
theorem says (w : World) : He.SaysD fa fn (K w) := by
  show He.obsD fa fn (K w) = He.valD fn
  kernel_rfl
section
variable {P : Program} {w : World} {K : PySem.W.Frag} {mg : Str → Option Value} {base : Heap}
abbrev FnP (K : PySem.W.Frag) (x q : Str) (s : Stmt) (dvs : List V) (f : Addr) (fd : FuncData) : Prop := FunD K x q (defArgs s) (defBody s) (defScope s) dvs [] f fd
abbrev tab0 : Tab := { gl := tyGl ++ gv, ats := ats, dcs := dcs }
theorem sc_0 : scopeB ["_law_draws", "_law_many", "_law_seed", "_law_digit"] ["_law_draws", "_law_many"] (defScope (top 7)) = true := by kernel_rfl
theorem co_0 : corSs { N := ["_law_draws", "_law_many", "_law_seed", "_law_digit"], sc := defScope (top 7), top := true } b_draw (defBody (top 7)) = true := by kernel_rfl
theorem ok_0 {f : Addr} {fd : FuncData} (FD : FnP K "_law_draw" "_law_draw" (top 7) [] f fd) (tb : TbOk P w K mg base (Gm tab0) 0) : FnOk P w K mg base (L2.CX P w) (0 + 1) f fd ["_law_draws", "_law_many"] (spOf K (f_draw)) :=
  fnOk FD sc_0 rfl tb co_0 (ok_draw _ _ rfl)
abbrev tab1 : Tab := { tab0 with fns := ("_law_draw", f_draw) :: tab0.fns }
theorem sc_1 : scopeB ["_law_draws", "_law_some"] ["_law_draws", "_law_some"] (defScope (top 8)) = true := by kernel_rfl
theorem co_1 : corSs { N := ["_law_draws", "_law_some"], sc := defScope (top 8), top := true } b_pick (defBody (top 8)) = true := by kernel_rfl
theorem ok_1 {f : Addr} {fd : FuncData} (FD : FnP K "_law_pick" "_law_pick" (top 8) [] f fd) (tb : TbOk P w K mg base (Gm tab1) 1) : FnOk P w K mg base (L2.CX P w) (1 + 1) f fd ["_law_draws", "_law_some"] (spOf K (f_pick)) :=
  fnOk FD sc_1 rfl tb co_1 (ok_pick _ (by kernel_rfl) _ rfl)
abbrev tab2 : Tab := { tab1 with fns := ("_law_pick", f_pick) :: tab1.fns }
theorem sc_2 : scopeB ["_law_script", "_law_k", "_law_cell", "_law_deep"] ["_law_script", "_law_k"] (defScope (top 6)) = true := by kernel_rfl
theorem co_2 : corSs { N := ["_law_script", "_law_k", "_law_cell", "_law_deep"], sc := defScope (top 6), top := true } b_source (defBody (top 6)) = true := by kernel_rfl
theorem ok_2 {f : Addr} {fd : FuncData} (FD : FnP K "_law_source" "_law_source" (top 6) [] f fd) (tb : TbOk P w K mg base (Gm tab2) 2) : FnOk P w K mg base (L2.CX P w) (2 + 1) f fd ["_law_script", "_law_k"] (spOf K (f_source)) :=
  fnOk FD sc_2 rfl tb co_2 (ok_source _ _ rfl)
abbrev tab3 : Tab := { tab2 with fns := ("_law_source", f_source) :: tab2.fns }
theorem sc_3 : scopeB ["_law_found", "_law_due", "_law_left", "_law_right"] ["_law_found", "_law_due"] (defScope (top 9)) = true := by kernel_rfl
theorem co_3 : corSs { N := ["_law_found", "_law_due", "_law_left", "_law_right"], sc := defScope (top 9), top := true } b_same (defBody (top 9)) = true := by kernel_rfl
theorem ok_3 {f : Addr} {fd : FuncData} (FD : FnP K "_law_same" "_law_same" (top 9) [] f fd) (tb : TbOk P w K mg base (Gm tab3) 3) : FnOk P w K mg base (L2.CX P w) (3 + 1) f fd ["_law_found", "_law_due"] (spOf K (f_same 0)) :=
  fnOk FD sc_3 rfl tb co_3 (ok_same0 _ ⟨by kernel_rfl, by kernel_rfl, by kernel_rfl, by kernel_rfl⟩ _ rfl)
abbrev tab4 : Tab := { tab3 with fns := ("_law_same", f_same 0) :: tab3.fns }
theorem ok_4 {f : Addr} {fd : FuncData} (FD : FnP K "_law_same" "_law_same" (top 9) [] f fd) (tb : TbOk P w K mg base (Gm tab4) 4) : FnOk P w K mg base (L2.CX P w) (4 + 1) f fd ["_law_found", "_law_due"] (spOf K (f_same 1)) :=
  fnOk FD sc_3 rfl tb co_3 (ok_same _ 0 ⟨by kernel_rfl, by kernel_rfl, by kernel_rfl, by kernel_rfl⟩ (by kernel_rfl) _ rfl)
abbrev tab5 : Tab := { tab4 with fns := ("_law_same", f_same 1) :: tab4.fns }
theorem ok_5 {f : Addr} {fd : FuncData} (FD : FnP K "_law_same" "_law_same" (top 9) [] f fd) (tb : TbOk P w K mg base (Gm tab5) 5) : FnOk P w K mg base (L2.CX P w) (5 + 1) f fd ["_law_found", "_law_due"] (spOf K (f_same 2)) :=
  fnOk FD sc_3 rfl tb co_3 (ok_same _ 1 ⟨by kernel_rfl, by kernel_rfl, by kernel_rfl, by kernel_rfl⟩ (by kernel_rfl) _ rfl)
abbrev tab6 : Tab := { tab5 with fns := ("_law_same", f_same 2) :: tab5.fns }
theorem ok_6 {f : Addr} {fd : FuncData} (FD : FnP K "_law_same" "_law_same" (top 9) [] f fd) (tb : TbOk P w K mg base (Gm tab6) 6) : FnOk P w K mg base (L2.CX P w) (6 + 1) f fd ["_law_found", "_law_due"] (spOf K (f_same 3)) :=
  fnOk FD sc_3 rfl tb co_3 (ok_same _ 2 ⟨by kernel_rfl, by kernel_rfl, by kernel_rfl, by kernel_rfl⟩ (by kernel_rfl) _ rfl)
abbrev tab7 : Tab := { tab6 with fns := ("_law_same", f_same 3) :: tab6.fns }
theorem sc_7 : scopeB ["_law_draws", "_law_codes"] ["_law_draws", "_law_codes"] (defScope (top 10)) = true := by kernel_rfl
theorem co_7 : corSs { N := ["_law_draws", "_law_codes"], sc := defScope (top 10), top := true } b_hand76 (defBody (top 10)) = true := by kernel_rfl
theorem ok_7 {f : Addr} {fd : FuncData} (FD : FnP K "_law_handed" "_law_handed" (top 10) [] f fd) (tb : TbOk P w K mg base (Gm tab7) 7) : FnOk P w K mg base (L2.CX P w) (7 + 1) f fd ["_law_draws", "_law_codes"] (spOf K (f_hand76)) :=
  fnOk FD sc_7 rfl tb co_7 (ok_hand76 _ (by kernel_rfl) _ rfl)
abbrev tab8 : Tab := { tab7 with fns := ("_law_handed", f_hand76) :: tab7.fns }
theorem sc_8 : scopeB ["self", "place"] ["self", "place"] (defScope (mth 2 0)) = true := by kernel_rfl
theorem xi_8 : xiB ["self", "place"] (defScope (mth 2 0)) 1 ["place"] (defBody (mth 2 0)) = true := by kernel_rfl
theorem xf_8 (w : World) : xflB (Fin.K w) "BadPlace" ["place"] = true := by kernel_rfl
abbrev tab9 : Tab := { tab8 with xcs := ("BadPlace", ["place"]) :: tab8.xcs }
abbrev tab10 : Tab := { tab9 with xcs := ("SignError", []) :: tab9.xcs }
theorem sc_10 : scopeB ["self", "data", "most"] ["self", "data", "most"] (defScope (mth 4 0)) = true := by kernel_rfl
theorem co_10 : corSs { N := ["self", "data", "most"], sc := defScope (mth 4 0), top := true } b_oInit (defBody (mth 4 0)) = true := by kernel_rfl
theorem ok_10 {f : Addr} {fd : FuncData} (FD : FnP K "__init__" "Octets.__init__" (mth 4 0) [V.ref (He.dflAt ("Octets", some "__init__") 0 K), V.non] f fd) (tb : TbOk P w K mg base (Gm tab10) 8) : FnOk P w K mg base (L2.CX P w) (8 + 1) f fd ["self", "data", "most"] (spOf K (f_oInit)) :=
  fnOk FD sc_10 rfl tb co_10 (ok_oInit _ (by intro f hf; unfold aOct at hf; simp only [List.mem_cons, List.not_mem_nil, or_false] at hf; rcases hf with rfl | rfl | rfl <;> kernel_rfl) _ rfl)
abbrev tab11 : Tab := { tab10 with mks := ("Octets", f_oInit) :: tab10.mks }
theorem sc_11 : scopeB ["self", "size", "found"] ["self", "size"] (defScope (mth 4 1)) = true := by kernel_rfl
theorem co_11 : corSs { N := ["self", "size", "found"], sc := defScope (mth 4 1), top := true } b_oRead (defBody (mth 4 1)) = true := by kernel_rfl
theorem ok_11 {f : Addr} {fd : FuncData} (FD : FnP K "read" "Octets.read" (mth 4 1) [V.int (-1)] f fd) (tb : TbOk P w K mg base (Gm tab11) 10) : FnOk P w K mg base (L2.CX P w) (10 + 1) f fd ["self", "size"] (spOf K (f_oRead)) :=
  fnOk FD sc_11 rfl tb co_11 (ok_oRead _ (by intro f hf; unfold aOct at hf; simp only [List.mem_cons, List.not_mem_nil, or_false] at hf; rcases hf with rfl | rfl | rfl <;> kernel_rfl) _ rfl)
abbrev tab12 : Tab := { tab11 with mss := (("Octets", "read"), f_oRead) :: tab11.mss }
theorem sc_12 : scopeB ["self", "data", "many"] ["self", "data"] (defScope (mth 4 2)) = true := by kernel_rfl
theorem co_12 : corSs { N := ["self", "data", "many"], sc := defScope (mth 4 2), top := true } b_oWrite (defBody (mth 4 2)) = true := by kernel_rfl
theorem ok_12 {f : Addr} {fd : FuncData} (FD : FnP K "write" "Octets.write" (mth 4 2) [] f fd) (tb : TbOk P w K mg base (Gm tab12) 11) : FnOk P w K mg base (L2.CX P w) (11 + 1) f fd ["self", "data"] (spOf K (f_oWrite)) :=
  fnOk FD sc_12 rfl tb co_12 (ok_oWrite _ (by intro f hf; unfold aOct at hf; simp only [List.mem_cons, List.not_mem_nil, or_false] at hf; rcases hf with rfl | rfl | rfl <;> kernel_rfl) _ rfl)
abbrev tab13 : Tab := { tab12 with mss := (("Octets", "write"), f_oWrite) :: tab12.mss }
theorem sc_13 : scopeB ["self"] ["self"] (defScope (mth 4 4)) = true := by kernel_rfl
theorem co_13 : corSs { N := ["self"], sc := defScope (mth 4 4), top := true } b_oTell (defBody (mth 4 4)) = true := by kernel_rfl
theorem ok_13 {f : Addr} {fd : FuncData} (FD : FnP K "tell" "Octets.tell" (mth 4 4) [] f fd) (tb : TbOk P w K mg base (Gm tab13) 12) : FnOk P w K mg base (L2.CX P w) (12 + 1) f fd ["self"] (spOf K (f_oTell)) :=
  fnOk FD sc_13 rfl tb co_13 (ok_oTell _ (by intro f hf; unfold aOct at hf; simp only [List.mem_cons, List.not_mem_nil, or_false] at hf; rcases hf with rfl | rfl | rfl <;> kernel_rfl) _ rfl)
abbrev tab14 : Tab := { tab13 with mss := (("Octets", "tell"), f_oTell) :: tab13.mss }
theorem sc_14 : scopeB ["self"] ["self"] (defScope (mth 4 5)) = true := by kernel_rfl
theorem co_14 : corSs { N := ["self"], sc := defScope (mth 4 5), top := true } b_oCont (defBody (mth 4 5)) = true := by kernel_rfl
theorem ok_14 {f : Addr} {fd : FuncData} (FD : FnP K "content" "Octets.content" (mth 4 5) [] f fd) (tb : TbOk P w K mg base (Gm tab14) 13) : FnOk P w K mg base (L2.CX P w) (13 + 1) f fd ["self"] (spOf K (f_oCont)) :=
  fnOk FD sc_14 rfl tb co_14 (ok_oCont _ (by intro f hf; unfold aOct at hf; simp only [List.mem_cons, List.not_mem_nil, or_false] at hf; rcases hf with rfl | rfl | rfl <;> kernel_rfl) _ rfl)
abbrev tab15 : Tab := { tab14 with mss := (("Octets", "content"), f_oCont) :: tab14.mss }
theorem sc_15 : scopeB ["self", "place"] ["self", "place"] (defScope (mth 4 3)) = true := by kernel_rfl
theorem co_15 : corSs { N := ["self", "place"], sc := defScope (mth 4 3), top := true } b_oSeek (defBody (mth 4 3)) = true := by kernel_rfl
theorem ok_15 {f : Addr} {fd : FuncData} (FD : FnP K "seek" "Octets.seek" (mth 4 3) [] f fd) (tb : TbOk P w K mg base (Gm tab15) 14) : FnOk P w K mg base (L2.CX P w) (14 + 1) f fd ["self", "place"] (spOf K (f_oSeek)) :=
  fnOk FD sc_15 rfl tb co_15 (ok_oSeek _ (by intro f hf; unfold aOct at hf; simp only [List.mem_cons, List.not_mem_nil, or_false] at hf; rcases hf with rfl | rfl | rfl <;> kernel_rfl) (by kernel_rfl) _ rfl)
abbrev tab16 : Tab := { tab15 with mss := (("Octets", "seek"), f_oSeek) :: tab15.mss }
theorem sc_16 : scopeB ["_law_stream", "_law_size", "_law_found"] ["_law_stream", "_law_size"] (defScope (top 11)) = true := by kernel_rfl
theorem co_16 : corSs { N := ["_law_stream", "_law_size", "_law_found"], sc := defScope (top 11), top := true } b_from (defBody (top 11)) = true := by kernel_rfl
theorem ok_16 {f : Addr} {fd : FuncData} (FD : FnP K "_law_from" "_law_from" (top 11) [] f fd) (tb : TbOk P w K mg base (Gm tab16) 15) : FnOk P w K mg base (L2.CX P w) (15 + 1) f fd ["_law_stream", "_law_size"] (spOf K (f_from)) :=
  fnOk FD sc_16 rfl tb co_16 (ok_from _ _ rfl)
abbrev tab17 : Tab := { tab16 with fns := ("_law_from", f_from) :: tab16.fns }
theorem sc_17 : scopeB ["_law_m", "_law_row", "_law_at"] ["_law_m", "_law_row"] (defScope (top 13)) = true := by kernel_rfl
theorem co_17 : corSs { N := ["_law_m", "_law_row", "_law_at"], sc := defScope (top 13), top := true } b_put (defBody (top 13)) = true := by kernel_rfl
theorem ok_17 {f : Addr} {fd : FuncData} (FD : FnP K "_law_put" "_law_put" (top 13) [] f fd) (tb : TbOk P w K mg base (Gm tab17) 16) : FnOk P w K mg base (L2.CX P w) (16 + 1) f fd ["_law_m", "_law_row"] (spOf K (f_put)) :=
  fnOk FD sc_17 rfl tb co_17 (ok_put _ _ rfl)
abbrev tab18 : Tab := { tab17 with fns := ("_law_put", f_put) :: tab17.fns }
theorem sc_18 : scopeB ["_law_stream", "_law_place", "_law_found", "e"] ["_law_stream", "_law_place"] (defScope (top 12)) = true := by kernel_rfl
theorem co_18 : corSs { N := ["_law_stream", "_law_place", "_law_found", "e"], sc := defScope (top 12), top := true } b_sought (defBody (top 12)) = true := by kernel_rfl
theorem ok_18 {f : Addr} {fd : FuncData} (FD : FnP K "_law_sought" "_law_sought" (top 12) [] f fd) (tb : TbOk P w K mg base (Gm tab18) 17) : FnOk P w K mg base (L2.CX P w) (17 + 1) f fd ["_law_stream", "_law_place"] (spOf K (f_sought)) :=
  fnOk FD sc_18 rfl tb co_18 (ok_sought _ ⟨(by kernel_rfl), (by kernel_rfl), (by kernel_rfl), (by kernel_rfl), (by kernel_rfl), (by kernel_rfl)⟩ _ rfl)
abbrev tab19 : Tab := { tab18 with fns := ("_law_sought", f_sought) :: tab18.fns }
theorem sc_19 : scopeB ["_law_script", "_law_k", "_law_draws", "_law_octets", "_law_most", "_law_given", "_law_stream", "_law_m", "_law_n", "_law_size", "_law_way", "_law_found", "_law_due", "_law_row", "_law_j"] ["_law_script"] (defScope (top 14)) = true := by kernel_rfl
theorem co_19 : corSs { N := ["_law_script", "_law_k", "_law_draws", "_law_octets", "_law_most", "_law_given", "_law_stream", "_law_m", "_law_n", "_law_size", "_law_way", "_law_found", "_law_due", "_law_row", "_law_j"], sc := defScope (top 14), top := true } b_law76 (defBody (top 14)) = true := by kernel_rfl
theorem ok_19 {f : Addr} {fd : FuncData} (FD : FnP K "law" "law" (top 14) [] f fd) (tb : TbOk P w K mg base (Gm tab19) 18) : FnOk P w K mg base (L2.CX P w) (18 + 1) f fd ["_law_script"] (spOf K (f_lawF)) :=
  fnOk FD sc_19 rfl tb co_19 (ok_law76 _ ⟨(by kernel_rfl), (by kernel_rfl), (by kernel_rfl), (by kernel_rfl), (by kernel_rfl), (by kernel_rfl), (by kernel_rfl), (by kernel_rfl), (by kernel_rfl), (by kernel_rfl), (by kernel_rfl), (by kernel_rfl), (by kernel_rfl), (by kernel_rfl)⟩ _ rfl)
end
theorem facts {P : Program} {w : World} {h : Heap} {mg : Str → Option Value} {f : Addr} (X : (K w).In h) (G : h.Ns mainGlobals mg) (hfa : mg ("law" : Str) = some (.ref f)) :
    ∃ fd : FuncData, (∀ (s : Shared) (v : Value), BindsTo s fd ⟨[v], []⟩ [("_law_script", v)]) ∧ ∀ base : Heap, (∀ p ∈ cs, LamX.TabB base mg p.1 p.2) → FnOk P w (K w) mg base (L2.CX P w) (18 + 1) f fd ["_law_script"] (spOf (K w) (f_lawF)) := by
  have c := says w
  obtain ⟨fd0, F0⟩ := c.def_ 0 (d := d0) rfl
  have g0 := He.glo_ok X G (c.fact 0 (f := .glo "_law_draw") rfl)
  obtain ⟨fd1, F1⟩ := c.def_ 1 (d := d1) rfl
  have g1 := He.glo_ok X G (c.fact 1 (f := .glo "_law_pick") rfl)
  obtain ⟨fd2, F2⟩ := c.def_ 2 (d := d2) rfl
  have g2 := He.glo_ok X G (c.fact 2 (f := .glo "_law_source") rfl)
  obtain ⟨fd3, F3⟩ := c.def_ 3 (d := d3) rfl
  have g3 := He.glo_ok X G (c.fact 3 (f := .glo "_law_same") rfl)
  obtain ⟨fd4, F4⟩ := c.def_ 4 (d := d4) rfl
  have g4 := He.glo_ok X G (c.fact 4 (f := .glo "_law_handed") rfl)
  obtain ⟨fd5, F5⟩ := c.def_ 5 (d := d5) rfl
  obtain ⟨fd6, F6⟩ := c.def_ 6 (d := d6) rfl
  obtain ⟨fd7, F7⟩ := c.def_ 7 (d := d7) rfl
  obtain ⟨fd8, F8⟩ := c.def_ 8 (d := d8) rfl
  obtain ⟨fd9, F9⟩ := c.def_ 9 (d := d9) rfl
  obtain ⟨fd10, F10⟩ := c.def_ 10 (d := d10) rfl
  obtain ⟨fd11, F11⟩ := c.def_ 11 (d := d11) rfl
  obtain ⟨fd12, F12⟩ := c.def_ 12 (d := d12) rfl
  have g12 := He.glo_ok X G (c.fact 5 (f := .glo "_law_from") rfl)
  obtain ⟨fd13, F13⟩ := c.def_ 13 (d := d13) rfl
  have g13 := He.glo_ok X G (c.fact 6 (f := .glo "_law_put") rfl)
  obtain ⟨fd14, F14⟩ := c.def_ 14 (d := d14) rfl
  have g14 := He.glo_ok X G (c.fact 7 (f := .glo "_law_sought") rfl)
  obtain ⟨fd15, F15⟩ := c.def_ 15 (d := d15) rfl
  have g15 := He.glo_ok X G (c.fact 8 (f := .glo "law") rfl)
  have hf : ∀ x ∈ bltNms, mg x = none := fun x hx => by
    simp only [bltNms, List.mem_cons, List.not_mem_nil, or_false] at hx
    rcases hx with rfl | rfl | rfl | rfl | rfl | rfl | rfl | rfl | rfl | rfl | rfl | rfl | rfl | rfl | rfl | rfl | rfl | rfl
    · exact He.free_ok X G (c.fact 9 (f := .free "len") rfl)
    · exact He.free_ok X G (c.fact 10 (f := .free "int") rfl)
    · exact He.free_ok X G (c.fact 11 (f := .free "tuple") rfl)
    · exact He.free_ok X G (c.fact 12 (f := .free "list") rfl)
    · exact He.free_ok X G (c.fact 13 (f := .free "isinstance") rfl)
    · exact He.free_ok X G (c.fact 14 (f := .free "all") rfl)
    · exact He.free_ok X G (c.fact 15 (f := .free "any") rfl)
    · exact He.free_ok X G (c.fact 16 (f := .free "sum") rfl)
    · exact He.free_ok X G (c.fact 17 (f := .free "min") rfl)
    · exact He.free_ok X G (c.fact 18 (f := .free "max") rfl)
    · exact He.free_ok X G (c.fact 19 (f := .free "range") rfl)
    · exact He.free_ok X G (c.fact 20 (f := .free "zip") rfl)
    · exact He.free_ok X G (c.fact 21 (f := .free "enumerate") rfl)
    · exact He.free_ok X G (c.fact 22 (f := .free "bool") rfl)
    · exact He.free_ok X G (c.fact 23 (f := .free "str") rfl)
    · exact He.free_ok X G (c.fact 24 (f := .free "dict") rfl)
    · exact He.free_ok X G (c.fact 25 (f := .free "ord") rfl)
    · exact He.free_ok X G (c.fact 26 (f := .free "sorted") rfl)
  have hg : ∀ q ∈ gv, ∃ u v, RelV v u ∧ (∀ H, Rep (K w) H v q.2) ∧ mg q.1 = some u := fun q hq => by
    cases hq
  have ha : ∀ q ∈ ats, Cls (K w) (He.ga (K w) q.1) ∧ NoAttr (K w) (He.ga (K w) q.1) q.2 := fun q hq => by
    simp only [ats, List.mem_cons, List.not_mem_nil, or_false] at hq
    rcases hq with rfl | rfl | rfl
    · exact ⟨He.cls_ok (c.fact 27 (f := .cls "Octets") rfl), He.noat_ok (c.fact 28 (f := .noat "Octets" "octets") rfl)⟩
    · exact ⟨He.cls_ok (c.fact 27 (f := .cls "Octets") rfl), He.noat_ok (c.fact 29 (f := .noat "Octets" "most") rfl)⟩
    · exact ⟨He.cls_ok (c.fact 27 (f := .cls "Octets") rfl), He.noat_ok (c.fact 30 (f := .noat "Octets" "place") rfl)⟩
  have hd : ∀ q ∈ dcs, ∃ d vk, mg q.1 = some (.ref d) ∧ KdAt (K w) P w d vk ∧ ∀ H, KRel (K w) H vk q.2 := fun q hq => by
    cases hq
  have e := hfa.symm.trans g15
  cases e
  have bL := FunD.bindsA (ps := ["_law_script"]) F15 fun _ _ _ _ _ _ us hl => match us, hl with | [_], _ => rfl
  refine ⟨fd15, fun s v => bL s [v] rfl, fun base hTB => ?_⟩
  have t0 : TbOk P w (K w) mg base (Gm tab0) 0 := TbOk.nil hf hg ha hd (kt w)
  have t1 : TbOk P w (K w) mg base (Gm tab1) 1 := TbOk.cons t0 (ok_0 F0 t0) g0 rfl F0.kp (binds_none (F := f_draw) rfl (FunD.bindsN (ps := ["_law_draws", "_law_many"]) F0 fun _ _ _ _ _ _ us hl => match us, hl with | [_, _], _ => rfl))
  have t2 : TbOk P w (K w) mg base (Gm tab2) 2 := TbOk.cons t1 (ok_1 F1 t1) g1 rfl F1.kp (binds_none (F := f_pick) rfl (FunD.bindsN (ps := ["_law_draws", "_law_some"]) F1 fun _ _ _ _ _ _ us hl => match us, hl with | [_, _], _ => rfl))
  have t3 : TbOk P w (K w) mg base (Gm tab3) 3 := TbOk.cons t2 (ok_2 F2 t2) g2 rfl F2.kp (binds_none (F := f_source) rfl (FunD.bindsN (ps := ["_law_script", "_law_k"]) F2 fun _ _ _ _ _ _ us hl => match us, hl with | [_, _], _ => rfl))
  have t4 : TbOk P w (K w) mg base (Gm tab4) 4 := TbOk.cons t3 (ok_3 F3 t3) g3 rfl F3.kp (binds_none (F := f_same 0) rfl (FunD.bindsN (ps := ["_law_found", "_law_due"]) F3 fun _ _ _ _ _ _ us hl => match us, hl with | [_, _], _ => rfl))
  have t5 : TbOk P w (K w) mg base (Gm tab5) 5 := TbOk.cons t4 (ok_4 F3 t4) g3 rfl F3.kp (binds_none (F := f_same 1) rfl (FunD.bindsN (ps := ["_law_found", "_law_due"]) F3 fun _ _ _ _ _ _ us hl => match us, hl with | [_, _], _ => rfl))
  have t6 : TbOk P w (K w) mg base (Gm tab6) 6 := TbOk.cons t5 (ok_5 F3 t5) g3 rfl F3.kp (binds_none (F := f_same 2) rfl (FunD.bindsN (ps := ["_law_found", "_law_due"]) F3 fun _ _ _ _ _ _ us hl => match us, hl with | [_, _], _ => rfl))
  have t7 : TbOk P w (K w) mg base (Gm tab7) 7 := TbOk.cons t6 (ok_6 F3 t6) g3 rfl F3.kp (binds_none (F := f_same 3) rfl (FunD.bindsN (ps := ["_law_found", "_law_due"]) F3 fun _ _ _ _ _ _ us hl => match us, hl with | [_, _], _ => rfl))
  have t8 : TbOk P w (K w) mg base (Gm tab8) 8 := TbOk.cons t7 (ok_7 F4 t7) g4 rfl F4.kp (binds_none (F := f_hand76) rfl (FunD.bindsN (ps := ["_law_draws", "_law_codes"]) F4 fun _ _ _ _ _ _ us hl => match us, hl with | [_, _], _ => rfl))
  have t9 : TbOk P w (K w) mg base (Gm tab9) 8 := TbOk.consXf t8 (by decide) (He.glo_ok X G (c.fact 31 (f := .glo "BadPlace") rfl)) (xf_8 w) F5 sc_8 rfl xi_8 (by simp) (by decide) (FunD.bindsN (ps := ["self", "place"]) F5 fun _ _ _ _ _ _ us hl => match us, hl with | [_, _], _ => rfl)
  have t10 : TbOk P w (K w) mg base (Gm tab10) 8 := TbOk.consX0 t9 (He.glo_ok X G (c.fact 32 (f := .glo "SignError") rfl)) (c.fact 33 (f := .exc "SignError") rfl)
  have b10 : ∀ m, (f_oInit).ar ≤ m + 1 + (f_oInit).dfl.length → m + 1 ≤ (f_oInit).ar → ∃ ds dvs, Binds (K w) fd6 ["self", "data", "most"] ds ∧ Vals dvs ds ∧ ∀ H, Reps (K w) H dvs ((f_oInit).dfl.drop (m + 1 + (f_oInit).dfl.length - (f_oInit).ar)) := fun m h1 h2 => by
    have h1 : 3 ≤ m + 1 + 2 := h1
    have h2 : m + 1 ≤ 3 := h2
    rcases (show m = 0 ∨ m = 1 ∨ m = 2 by omega) with rfl | rfl | rfl
    · obtain ⟨ds, hv, hb⟩ := FunD.binds1 (ps := ["self", "data", "most"]) F6 1 0 (by simp [d6, He.DefD.dvs]) rfl (fun T kV doc pm an cdv ct us its hu hi => match us, its, hu, hi with | [_], [_, _], _, _ => ⟨_, rfl, rfl⟩)
      exact ⟨ds, _, hb, hv, fun H => .cons (.tup (.inr (.inr ⟨⟨.type "tuple", none, .seq #[] 0, #[]⟩, #[], 0, (by kernel_rfl), rfl, rfl, by decide, .nil⟩)) .nil) (.cons .non .nil)⟩
    · obtain ⟨ds, hv, hb⟩ := FunD.binds1 (ps := ["self", "data", "most"]) F6 2 1 (by simp [d6, He.DefD.dvs]) rfl (fun T kV doc pm an cdv ct us its hu hi => match us, its, hu, hi with | [_, _], [_, _], _, _ => ⟨_, rfl, rfl⟩)
      exact ⟨ds, _, hb, hv, fun H => .cons .non .nil⟩
    · obtain ⟨ds, hv, hb⟩ := FunD.binds1 (ps := ["self", "data", "most"]) F6 3 2 (by simp [d6, He.DefD.dvs]) rfl (fun T kV doc pm an cdv ct us its hu hi => match us, its, hu, hi with | [_, _, _], [_, _], _, _ => ⟨_, rfl, rfl⟩)
      exact ⟨ds, _, hb, hv, fun H => .nil⟩
  have t11 : TbOk P w (K w) mg base (Gm tab11) 10 := TbOk.consK t10 (ok_10 F6 t10) (He.mkr_ok (c.fact 34 (f := .mkr "Octets") rfl)) (He.glo_ok X G (c.fact 35 (f := .glo "Octets") rfl)) b10
  have b11 : ∀ m, (f_oRead).ar ≤ m + 1 + (f_oRead).dfl.length → m + 1 ≤ (f_oRead).ar → ∃ ds dvs, Binds (K w) fd7 ["self", "size"] ds ∧ Vals dvs ds ∧ ∀ H, Reps (K w) H dvs ((f_oRead).dfl.drop (m + 1 + (f_oRead).dfl.length - (f_oRead).ar)) := fun m h1 h2 => by
    have h1 : 2 ≤ m + 1 + 1 := h1
    have h2 : m + 1 ≤ 2 := h2
    rcases (show m = 0 ∨ m = 1 by omega) with rfl | rfl
    · obtain ⟨ds, hv, hb⟩ := FunD.binds1 (ps := ["self", "size"]) F7 1 0 (by simp [d7, He.DefD.dvs]) rfl (fun T kV doc pm an cdv ct us its hu hi => match us, its, hu, hi with | [_], [_], _, _ => ⟨_, rfl, rfl⟩)
      exact ⟨ds, _, hb, hv, fun H => .cons (.int _) .nil⟩
    · obtain ⟨ds, hv, hb⟩ := FunD.binds1 (ps := ["self", "size"]) F7 2 1 (by simp [d7, He.DefD.dvs]) rfl (fun T kV doc pm an cdv ct us its hu hi => match us, its, hu, hi with | [_, _], [_], _, _ => ⟨_, rfl, rfl⟩)
      exact ⟨ds, _, hb, hv, fun H => .nil⟩
  have t12 : TbOk P w (K w) mg base (Gm tab12) 11 := TbOk.consM t11 (ok_11 F7 t11) (He.cls_ok (c.fact 27 (f := .cls "Octets") rfl)) (He.meth_ok (c.fact 36 (f := .meth "Octets" "read") rfl)) b11
  have t13 : TbOk P w (K w) mg base (Gm tab13) 12 := TbOk.consM t12 (ok_12 F8 t12) (He.cls_ok (c.fact 27 (f := .cls "Octets") rfl)) (He.meth_ok (c.fact 37 (f := .meth "Octets" "write") rfl)) (binds_noneM (F := f_oWrite) rfl (FunD.bindsN (ps := ["self", "data"]) F8 fun _ _ _ _ _ _ us hl => match us, hl with | [_, _], _ => rfl))
  have t14 : TbOk P w (K w) mg base (Gm tab14) 13 := TbOk.consM t13 (ok_13 F9 t13) (He.cls_ok (c.fact 27 (f := .cls "Octets") rfl)) (He.meth_ok (c.fact 38 (f := .meth "Octets" "tell") rfl)) (binds_noneM (F := f_oTell) rfl (FunD.bindsN (ps := ["self"]) F9 fun _ _ _ _ _ _ us hl => match us, hl with | [_], _ => rfl))
  have t15 : TbOk P w (K w) mg base (Gm tab15) 14 := TbOk.consM t14 (ok_14 F10 t14) (He.cls_ok (c.fact 27 (f := .cls "Octets") rfl)) (He.meth_ok (c.fact 39 (f := .meth "Octets" "content") rfl)) (binds_noneM (F := f_oCont) rfl (FunD.bindsN (ps := ["self"]) F10 fun _ _ _ _ _ _ us hl => match us, hl with | [_], _ => rfl))
  have t16 : TbOk P w (K w) mg base (Gm tab16) 15 := TbOk.consM t15 (ok_15 F11 t15) (He.cls_ok (c.fact 27 (f := .cls "Octets") rfl)) (He.meth_ok (c.fact 40 (f := .meth "Octets" "seek") rfl)) (binds_noneM (F := f_oSeek) rfl (FunD.bindsN (ps := ["self", "place"]) F11 fun _ _ _ _ _ _ us hl => match us, hl with | [_, _], _ => rfl))
  have t17 : TbOk P w (K w) mg base (Gm tab17) 16 := TbOk.cons t16 (ok_16 F12 t16) g12 rfl F12.kp (binds_none (F := f_from) rfl (FunD.bindsN (ps := ["_law_stream", "_law_size"]) F12 fun _ _ _ _ _ _ us hl => match us, hl with | [_, _], _ => rfl))
  have t18 : TbOk P w (K w) mg base (Gm tab18) 17 := TbOk.cons t17 (ok_17 F13 t17) g13 rfl F13.kp (binds_none (F := f_put) rfl (FunD.bindsN (ps := ["_law_m", "_law_row"]) F13 fun _ _ _ _ _ _ us hl => match us, hl with | [_, _], _ => rfl))
  have t19 : TbOk P w (K w) mg base (Gm tab19) 18 := TbOk.cons t18 (ok_18 F14 t18) g14 rfl F14.kp (binds_none (F := f_sought) rfl (FunD.bindsN (ps := ["_law_stream", "_law_place"]) F14 fun _ _ _ _ _ _ us hl => match us, hl with | [_, _], _ => rfl))
  exact ok_19 F15 t19
end Av.Fin
open PySem PySem.W PySem.Calls PyProof.Rows
theorem PySem.Challenge.cw_signferry_k76_streams_of_bytes_holds : PySem.Challenge.rw_signferry_k76_streams_of_bytes.Holds := by
  refine Av.Start.look fun said => ?_
  refine Av.Hd.holds_runs (r := OpenLaw.row PySem.Challenge.rw_signferry_k76_streams_of_bytes) (q := view (OpenLaw.row PySem.Challenge.rw_signferry_k76_streams_of_bytes).prog [14]) (H := Av.Fin.hk) (ob := Av.Fin.ob) (M := Av.Fin.MM) (loose := Av.Fin.names) (d := HandSHeadRun.topDef (OpenLaw.row PySem.Challenge.rw_signferry_k76_streams_of_bytes).prog 14) (kwd := []) Av.Fin.ob_eq
    (by kernel_rfl) (fun s => by kernel_rfl) Av.Fin.run (by kernel_rfl) (by kernel_rfl) (by kernel_rfl) (by rfl) (by first | assumption | decide +kernel) (by decide +kernel) Av.Start.bare ?hw ?hc
  case hw => w_witness2
  case hc =>
    refine Av.walk_worldT (l := PySem.Challenge.rw_signferry_k76_streams_of_bytes) (n := 63) (k := 19) (x := "_law_script") rfl (by decide) (by kernel_rfl) ⟨rfl, by decide, by decide⟩ ?F
    intro w mg fa h Y G hmg0
    have hmg : mg ("law" : PySem.Str) = some (.ref fa) := by
      have e : (HandSHeadRun.topDef (OpenLaw.row PySem.Challenge.rw_signferry_k76_streams_of_bytes).prog 14).name = ("law" : PySem.Str) := by kernel_rfl
      rw [← e]
      exact hmg0
    have X : (Av.Fin.K w).In h := Av.in_left Y
    obtain ⟨fd, hb, hF⟩ := Av.Fin.facts (P := (PySem.Challenge.rw_signferry_k76_streams_of_bytes).prog) (w := w) X G hmg
    refine ⟨Av.Fin.K w, fd, Av.Fin.cs, Av.spLaw (Av.Fin.K w), X, fun p hp => ?_, fun p hp => ?_, fun p hp => ?_, hb, fun H a ns hH hS => ⟨a, ns, rfl, hS, Av.tabs0 fun p hp => ?_, fun v H' e => e⟩, fun base _ _ hTB => Av.fn_law (F := Av.f_lawF) (fun ds G Q X h => (by obtain ⟨sc, ns, rfl, h1, h2⟩ := h; exact ⟨sc, ns, rfl, by rcases h1 with rfl | rfl <;> rfl, h2⟩)) (hF base hTB)⟩
    · simp only [Av.Fin.cs, List.mem_cons, List.not_mem_nil, or_false] at hp
    · simp only [Av.Fin.cs, List.mem_cons, List.not_mem_nil, or_false] at hp
    · simp only [Av.Fin.cs, List.mem_cons, List.not_mem_nil, or_false] at hp
    · have hp : p ∈ Av.Fin.tabT := hp
      simp only [Av.Fin.tabT, List.mem_cons, List.not_mem_nil, or_false] at hp
