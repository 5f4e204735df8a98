import PyProof.Rows.All
import Wide.All
import OpenK.AllK
import Wide.FinOn
import PySem.Challenge.RW_signferry_k53_tables_and_their_ways_back
import HandS.ForMost
import HandS.Style
import HandS.IsInst
import HandS.Zip
import HandS.Exc
import HandS.ExcOwn
import HandS.CallSlots
import HandS.Defaults
import HandS.HeadHook1
import HandS.Nested
import HandS.Conv
import PyProof.FString3
import PyProof.Rows.StrIntSpec
import HandS.FStr
import HandS.Text
import HandS.Codes
import KE.DataEq
import HandS.Iter
import HandS.TupMul
import PyProof.ReprRoads
import PyProof.ReprBulk
import HandS.Dict
import HandS.More
import HandS.SortInts
import KE.GoesMore
import PyProof.SumWalkG
import HandS.ExcIs
import KE.KExcIs
import HandS.TupAny
import HandS.Flow
import KE.KIntText
import HandS.ExcInit
import HandS.ExcField
import HandS.Small
import HandS.ExcCtx
import HandS.Strs
import HandS.StrSplit
import HandS.CallLocal
import HandS.HotCalls
import HandS.ClsMeth
import HandS.NestedK
import HandS.List
import HandS.Lambda
import KE.SortKeyHeap
import HandS.SortKw
import HandS.DictComp
import KE.KDictZip
import KE.KDictItemsList
import KE.GoesEnum
import HandS.MapObj
import HandS.ListItems
import HandS.TryMany
import HandS.Head2
import HandS.HeadHook2
import HandS.HeadEnd
import HandS.Head0
import HandS.Head1
import KE.KStateDown
import PyProof.P3Eq
import HandS.MakeKw
import HandS.EndTab
import HandS.ReplaceLit
open PySem.W renaming Frag→M0
open Bool renaming and_eq_true→M3,false_eq_true→M6
open PySem renaming Params→M4
open List renaming length_map→M5,getElem?_cons_zero→M8,getElem?_cons_succ→M9,length_cons→Mb,map_cons→Mc,getElem?_eq_getElem→Me,length_append→Mf,getElem?_map→Mg,replicate→Mh,mem_cons_self→Mi,mem_cons_of_mem→Mj,mem_cons→Ml,set_cons_succ→Mm,set_cons_zero→Mn,all_cons→Mo,not_mem_nil→Mp,length_nil→Mq,length_replicate→Mr,mem_singleton→Ms,length_take→Mt
open Nat renaming le_refl→M7
set_option Elab.async false
set_option linter.all false
set_option maxRecDepth 100000
set_option maxHeartbeats 0
open PySem PySem.W PySem.Calls PyProof.Rows in
theorem Av.Start.look(h:PySem.Challenge.rw_signferry_k53_tables_and_their_ways_back.row.wellSaid=true→PySem.Challenge.rw_signferry_k53_tables_and_their_ways_back.row.Holds):PySem.Challenge.rw_signferry_k53_tables_and_their_ways_back.Holds:=by
 w_on;o_law
 exact h (by assumption)
open PySem PySem.W PySem.Calls PyProof.Rows in
theorem Av.Start.bare:(OpenLaw.row PySem.Challenge.rw_signferry_k53_tables_and_their_ways_back).prog.bare:=⟨rfl,rfl,rfl,rfl,rfl,by decide+kernel⟩
open PySem PySem.Spec PyProof.Rows L2
noncomputable section
namespace Av
inductive Dat where
 |non|bl(b:Bool)|int(i:Int)|str(s:Str)|tup(ds:List Dat)|lst(ds:List Dat)|kls(ds:List Dat)|ref(a:Addr)|ty(n:String)|gf(x:Str)
 |clo(k:Nat)(cl:List Addr)
 |exc(C:Str)(fl:List Str)(ds:List Dat)
 |ktp(ds:List Dat)
 |dz(ks:List Key)(ds:List Dat)
 deriving Inhabited
def TpAt(K:M0)(H:Hp)(a:Addr)(xs:List V):Prop :=
 H a=some (.tup xs)∨(∃o,H a=some (.frz o (.tup xs)))∨∃(o:Obj) (its:Array Value) (n:Nat),K.lookup a=some o∧o.cls = .type "tuple"∧o.data = .seq its n∧its.size≤sizeLine∧Vals xs its.toList
theorem TpAt.sq{K:M0}{H:Hp}{a:Addr}{xs:List V}(h:TpAt K H a xs):SqT K H a xs:=by
 rcases h with h|h|h
 ·exact .inl (.inl h)
 ·exact .inl (.inr h)
 ·exact .inr h
def KtAt(H:Hp)(a:Addr)(xs:List V):Prop:=∃o:Obj,H a=some (.frz o (.tup xs))∧o.dict=none
def Ku(H:Hp)(a:Addr)(kvs:List (Key × V)):Prop:=∃o,H a=some (.frz o (.dK kvs))
def FzAt(H:Hp)(a:Addr)(xs:List V):Prop:=∃o,H a=some (.frz o (.lst xs))
def KlAt(K:M0)(H:Hp)(a:Addr)(xs:List V):Prop :=
 FzAt H a xs∨∃(o:Obj) (its:Array Value) (n:Nat),K.lookup a=some o∧o.cls = .type "list"∧o.dict=none∧o.data = .seq its n∧its.size≤sizeLine∧Vals xs its.toList
theorem FzAt.sq{K:M0}{H:Hp}{a:Addr}{xs:List V}(h:FzAt H a xs):SqL K H a xs:=.inl (.inr h)
structure mS where
 params:Arguments
 body:FuncBody
 scope:Scope
class Tb where
 T:List NdefX.NTab
 is:Nat→mS→Prop
 fr:Nat→List Str
 own:Str→Bool
 exo:Str→Bool
 sub:String ⊕ Str→String ⊕ Str→Option Bool
 xm:Str→Str→Option Bool
variable [Tb]
def FnB(f:Addr)(L:mS)(qual:Str)(clos:List (Str × Addr))(c':Addr):HO:=.ext fun h=>∃(od:Option Addr) (sl:Array (Option Value)) (name:Str) (doc pm ctv:Value),
 h.get? f=some (⟨.type "function",od,.func {name,qualname:=qual,params:=L.params,body:=L.body,scope:=L.scope,globals:=mainGlobals,closure:=clos,defaults:=.none,kwdefaults:=.none,doc:=doc,pyModule:=pm,annotations:=none,code:=.ref c',closureTuple:=ctv,builtins:=builtinsNs},sl⟩:Obj)
structure Cv(fr:List Str)(cl:List Addr)(clos:List (Str × Addr)):Prop where
 len:cl.length=fr.length
 to:∀(i:Nat) (y:Str) (c:Addr),fr[i]?=some y→cl[i]?=some c→clos.lookup y=some c
 of:∀(y:Str) (c:Addr),clos.lookup y=some c→∃i:Nat,fr[i]?=some y∧cl[i]?=some c
 inj:∀(x y:Str) (c:Addr),clos.lookup x=some c→clos.lookup y=some c→x=y
def mO(a C:Addr)(dx:Option Addr):HO:=.ext fun h=>∃(oe:Obj) (vs:Array Value),h.get? a=some oe∧oe.cls = .ref C∧oe.dict=dx∧oe.data = .fields vs
def Gn(dx:Addr)(fs:List (Str × V)):HO:=.ext fun h=>∃mA,h.Ns1 dx mA∧∀f,RelO (fs.lookup f) (mA f)
def ExF(H:Hp):Option Addr→List Str→List V→Prop
 |none,fl,vs=>fl=[]∧vs=[]
 |some dx,fl,vs=>vs.length=fl.length∧H dx=some (Gn dx (fl.zip vs).reverse)
mutual
inductive Rep(K:M0)(H:Hp):V→Dat→Prop
 |non:Rep K H .non .non
 |bl (b:Bool):Rep K H (.bl b) (.bl b)
 |int (i:Int):Rep K H (.int i) (.int i)
 |str (x:Str):Rep K H (.str x) (.str x)
 |ref (a:Addr):Rep K H (.ref a) (.ref a)
 |ty (n:String):Rep K H (.ty n) (.ty n)
 |gf (x:Str):Rep K H (.ref (He.ga K x)) (.gf x)
 |tup {a:Addr} {xs:List V} {ds:List Dat}:TpAt K H a xs→Reps K H xs ds→Rep K H (.ref a) (.tup ds)
 |lst {a:Addr} {xs:List V} {ds:List Dat}:FzAt H a xs→Reps K H xs ds→Rep K H (.ref a) (.lst ds)
 |kls {a:Addr} {xs:List V} {ds:List Dat}:KlAt K H a xs→Reps K H xs ds→Rep K H (.ref a) (.kls ds)
 |clo {f c':Addr} {k:Nat} {cl:List Addr} {L:mS} {qual:Str} {clos:List (Str × Addr)}:Tb.is k L→Cv (Tb.fr k) cl clos→H f=some (FnB f L qual clos c')→H c'=some (LamX.CodeO c' qual)→Rep K H (.ref f) (.clo k cl)
 |ktp {a:Addr} {xs:List V} {ds:List Dat}:KtAt H a xs→Reps K H xs ds→Rep K H (.ref a) (.ktp ds)
 |dz {a:Addr} {ks:List Key} {xs:List V} {ds:List Dat}:Ku H a (ks.zip xs)→ks.length=xs.length→Reps K H xs ds→Rep K H (.ref a) (.dz ks ds)
 |exc {a:Addr} {dx:Option Addr} {C:Str} {fl:List Str} {vs:List V} {ds:List Dat}:H a=some (mO a (He.ga K C) dx)→ExF H dx fl vs→Reps K H vs ds→Rep K H (.ref a) (.exc C fl ds)
inductive Reps(K:M0)(H:Hp):List V→List Dat→Prop
 |nil:Reps K H [] []
 |cons {v:V} {vs:List V} {d:Dat} {ds:List Dat}:Rep K H v d→Reps K H vs ds→Reps K H (v :: vs) (d :: ds)
end
structure Stab(H H':Hp):Prop where
 tup:∀b xs,H b=some (.tup xs)→H' b=some (.tup xs)
 frz:∀b o xs,H b=some (.frz o (.lst xs))→H' b=some (.frz o (.lst xs))
 ext:∀b φ,H b=some (.ext φ)→H' b=some (.ext φ)
 fzt:∀b o xs,H b=some (.frz o (.tup xs))→H' b=some (.frz o (.tup xs))
 fzk:∀b o kvs,H b=some (.frz o (.dK kvs))→H' b=some (.frz o (.dK kvs))
theorem Stab.refl(H:Hp):Stab H H:=⟨fun _ _ h=>h,fun _ _ _ h=>h,fun _ _ h=>h,fun _ _ _ h=>h,fun _ _ _ h=>h⟩
theorem Stab.trans{H H1 H2:Hp}(a:Stab H H1)(b:Stab H1 H2):Stab H H2:=⟨fun c xs h=>b.tup c xs (a.tup c xs h),fun c o u h=>b.frz c o u (a.frz c o u h),fun c φ h=>b.ext c φ (a.ext c φ h),fun c o u h=>b.fzt c o u (a.fzt c o u h),fun c o u h=>b.fzk c o u (a.fzk c o u h)⟩
theorem Stab.new{H:Hp}{p:Addr}{o:HO}(h:H p=none):Stab H (upd H p o) :=
 ⟨fun b xs e=>by rw[upd_ne (ne_of_none e h)];exact e,fun b o u e=>by rw[upd_ne (ne_of_none e h)];exact e,fun b φ e=>by rw[upd_ne (ne_of_none e h)];exact e,fun b o u e=>by rw[upd_ne (ne_of_none e h)];exact e,fun b o u e=>by rw[upd_ne (ne_of_none e h)];exact e⟩
def Soft(u:HO):Prop:=(∀xs,u≠.tup xs)∧(∀o xs,u≠.frz o (.lst xs))∧(∀φ,u≠.ext φ)∧(∀ps,u≠.tbl ps)∧(∀o xs,u≠.frz o (.tup xs))∧∀o kvs,u≠.frz o (.dK kvs)
theorem Soft.lst{xs:List V}:Soft (.lst xs):=⟨fun _ z=>(by cases z),fun _ _ z=>(by cases z),fun _ z=>(by cases z),fun _ z=>(by cases z),fun _ _ z=>(by cases z),fun _ _ z=>by cases z⟩
theorem Stab.mut{H:Hp}{p:Addr}{o u:HO}(h:H p=some u)(h1:Soft u):Stab H (upd H p o) :=
 ⟨fun b xs e=>by rw[upd_ne (ne_of e h fun z=>h1.1 xs z.symm)];exact e,fun b o v e=>by rw[upd_ne (ne_of e h fun z=>h1.2.1 o v z.symm)];exact e,fun b φ e=>by rw[upd_ne (ne_of e h fun z=>h1.2.2.1 φ z.symm)];exact e,fun b o v e=>by rw[upd_ne (ne_of e h fun z=>h1.2.2.2.2.1 o v z.symm)];exact e,fun b o v e=>by rw[upd_ne (ne_of e h fun z=>h1.2.2.2.2.2 o v z.symm)];exact e⟩
theorem Stab.lst{H:Hp}{p:Addr}{o:HO}{xs:List V}(h:H p=some (.lst xs)):Stab H (upd H p o):=Stab.mut h Soft.lst
theorem TpAt.mono{K:M0}{H H':Hp}{a:Addr}{xs:List V}(s:Stab H H')(h:TpAt K H a xs):TpAt K H' a xs:=by
 rcases h with h|⟨o,h⟩|h
 ·exact .inl (s.tup _ _ h)
 ·exact .inr (.inl ⟨o,s.fzt _ _ _ h⟩)
 ·exact .inr (.inr h)
theorem KtAt.mono{H H':Hp}{a:Addr}{xs:List V}(s:Stab H H')(h:KtAt H a xs):KtAt H' a xs:=by
 obtain⟨o,h,d⟩:=h
 exact⟨o,s.fzt _ _ _ h,d⟩
theorem FzAt.mono{H H':Hp}{a:Addr}{xs:List V}(s:Stab H H')(h:FzAt H a xs):FzAt H' a xs:=by
 obtain⟨o,h⟩:=h
 exact⟨o,s.frz _ _ _ h⟩
theorem KlAt.mono{K:M0}{H H':Hp}{a:Addr}{xs:List V}(s:Stab H H')(h:KlAt K H a xs):KlAt K H' a xs:=h.imp (fun z=>z.mono s) id
theorem KlAt.sq{K:M0}{H:Hp}{a:Addr}{xs:List V}(h:KlAt K H a xs):SqL K H a xs:=by
 rcases h with h|h
 ·exact h.sq
 ·exact .inr h
theorem ExF.mono{H H':Hp}(s:Stab H H'){dx:Option Addr}{fl:List Str}{vs:List V}(h:ExF H dx fl vs):ExF H' dx fl vs:=by
 cases dx with
 |none=>exact h
 |some d=>exact⟨h.1,s.ext _ _ h.2⟩
mutual
theorem Rep.mono{K:M0}{H H':Hp}(s:Stab H H'){v:V}{d:Dat}:Rep K H v d→Rep K H' v d
 |.non=>.non
 |.bl b=>.bl b
 |.int i=>.int i
 |.str x=>.str x
 |.ref a=>.ref a
 |.ty n=>.ty n
 |.gf x=>.gf x
 |.tup h r=>.tup (h.mono s) (Reps.mono s r)
 |.lst h r=>.lst (h.mono s) (Reps.mono s r)
 |.kls h r=>.kls (h.mono s) (Reps.mono s r)
 |.clo h1 h2 h3 h4=>.clo h1 h2 (s.ext _ _ h3) (s.ext _ _ h4)
 |.exc h1 h2 r=>.exc (s.ext _ _ h1) (h2.mono s) (Reps.mono s r)
 |.ktp h r=>.ktp (h.mono s) (Reps.mono s r)
 |.dz h l r=>.dz (let ⟨o,e⟩:=h;⟨o,s.fzk _ _ _ e⟩) l (Reps.mono s r)
theorem Reps.mono{K:M0}{H H':Hp}(s:Stab H H'){vs:List V}{ds:List Dat}:Reps K H vs ds→Reps K H' vs ds
 |.nil=>.nil
 |.cons h r=>.cons (Rep.mono s h) (Reps.mono s r)
end
section
variable {K:M0} {H H':Hp}
theorem Reps.length{vs:List V}{ds:List Dat}(h:Reps K H vs ds):vs.length=ds.length:=by
 induction ds generalizing vs with
 |nil=>cases h;rfl
 |cons d ds ih=>cases h with|cons a r=>rw[Mb,Mb,ih r]
theorem Reps.append{vs ws:List V}{ds es:List Dat}(h:Reps K H vs ds)(h2:Reps K H ws es):Reps K H (vs++ws) (ds++es):=by
 induction ds generalizing vs with
 |nil=>cases h;exact h2
 |cons d ds ih=>cases h with|cons a r=>exact .cons a (ih r)
theorem Reps.one{v:V}{d:Dat}(h:Rep K H v d):Reps K H [v] [d]:=.cons h .nil
theorem Reps.get:∀{ds:List Dat} {vs:List V} {i:Nat} {d:Dat},Reps K H vs ds→ds[i]?=some d→∃v,vs[i]?=some v∧Rep K H v d
 |[],_,_,_,_,e=>by simp at e
 |d :: ds,_,0,_,.cons a r,e=>by
  simp only[M8,Option.some.injEq]at e
  subst e
  exact⟨_,rfl,a⟩
 |d :: ds,_,i+1,_,.cons a r,e=>by
  simp only[M9]at e ⊢
  exact Reps.get r e
theorem Reps.getV:∀{ds:List Dat} {vs:List V} {i:Nat} {v:V},Reps K H vs ds→vs[i]?=some v→∃d,ds[i]?=some d∧Rep K H v d
 |[],_,_,_,.nil,e=>by simp at e
 |d :: ds,_,0,_,.cons a r,e=>by
  simp only[M8,Option.some.injEq]at e
  subst e
  exact⟨_,rfl,a⟩
 |d :: ds,_,i+1,_,.cons a r,e=>by
  simp only[M9]at e ⊢
  exact Reps.getV r e
theorem Reps.drop:∀{ds:List Dat} {vs:List V} (n:Nat),Reps K H vs ds→Reps K H (vs.drop n) (ds.drop n)
 |_,_,0,h=>h
 |[],_,n+1,.nil=>.nil
 |d :: ds,_,n+1,.cons a r=>Reps.drop n r
theorem Reps.take:∀{ds:List Dat} {vs:List V} (n:Nat),Reps K H vs ds→Reps K H (vs.take n) (ds.take n)
 |_,_,0,h=>.nil
 |[],_,n+1,.nil=>.nil
 |d :: ds,_,n+1,.cons a r=>.cons a (Reps.take n r)
theorem Reps.set{v:V}{d:Dat}(h:Rep K H v d):∀{ds:List Dat} {vs:List V} (i:Nat),Reps K H vs ds→Reps K H (vs.set i v) (ds.set i d)
 |[],_,_,.nil=>.nil
 |_ :: _,_,0,.cons _ r=>.cons h r
 |_ :: _,_,i+1,.cons a r=>.cons a (Reps.set h i r)
theorem Reps.rep(n:Nat){ds:List Dat}{vs:List V}(h:Reps K H vs ds):Reps K H (Mh n vs).flatten (Mh n ds).flatten:=by
 induction n with
 |zero=>exact .nil
 |succ n ih =>
  rw[List.replicate_succ,List.replicate_succ,List.flatten_cons,List.flatten_cons]
  exact h.append ih
theorem Reps.reverse{ds:List Dat}{vs:List V}(h:Reps K H vs ds):Reps K H vs.reverse ds.reverse:=by
 induction ds generalizing vs with
 |nil=>cases h;exact .nil
 |cons d ds ih =>
  cases h with
  |cons a r =>
   rw[List.reverse_cons,List.reverse_cons]
   exact (ih r).append (.one a)
theorem Reps.eraseIdx:∀{ds:List Dat} {vs:List V} (i:Nat),Reps K H vs ds→Reps K H (vs.eraseIdx i) (ds.eraseIdx i)
 |[],_,_,.nil=>.nil
 |_ :: _,_,0,.cons _ r=>r
 |_ :: _,_,i+1,.cons a r=>.cons a (Reps.eraseIdx i r)
theorem Reps.ints{ns:List Int}{vs:List V}(h:Reps K H vs (ns.map Dat.int)):vs=ns.map V.int:=by
 induction ns generalizing vs with
 |nil=>cases h;rfl
 |cons n ns ih =>
  cases h with
  |cons a r=>cases a;rw[Mc,ih r]
end
inductive AO where
 |lst(ds:List Dat)
 |dk(kvs:List (Key × Dat))
 |ins(C:Str)(fs:List (Str × Dat))
 |cel(d:Dat)
abbrev AG:=Addr→Option AO
def gu(G:AG)(a:Addr)(o:AO):AG:=fun b=>if b=a then some o else G b
def gx(G:AG)(a:Addr):AG:=fun b=>if b=a then none else G b
theorem ak{G:AG}{a:Addr}{o:AO}:gu G a o a=some o:=by unfold gu;rw[if_pos rfl]
theorem aC{G:AG}{a b:Addr}{o:AO}(h:b≠a):gu G a o b=G b:=by unfold gu;rw[if_neg h]
theorem cb{G:AG}{a:Addr}:gx G a a=none:=by unfold gx;rw[if_pos rfl]
theorem dA{G:AG}{a b:Addr}(h:b≠a):gx G a b=G b:=by unfold gx;rw[if_neg h]
theorem fB{G:AG}{a:Addr}{o u:AO}:gu (gu G a o) a u=gu G a u:=by
 funext b;unfold gu;split <;> rfl
def Sub(G G':AG):Prop:=∀a o,G a=some o→G' a=some o
theorem Sub.refl(G:AG):Sub G G:=fun _ _ h=>h
theorem Sub.trans{G G1 G2:AG}(a:Sub G G1)(b:Sub G1 G2):Sub G G2:=fun c o h=>b c o (a c o h)
theorem Sub.new{G:AG}{a:Addr}{o:AO}(h:G a=none):Sub G (gu G a o):=fun b u e=>by
 have:b≠a:=fun z=>by rw[z,h]at e;cases e
 rw[aC this];exact e
theorem Sub.gx{G:AG}{a:Addr}:Sub (gx G a) G:=fun b u e=>by
 by_cases h:b=a
 ·rw[h,cb]at e;cases e
 ·rw[dA h]at e;exact e
theorem Sub.free{G G':AG}{a:Addr}(s:Sub G G')(h:G' a=none):G a=none:=by
 cases e:G a with
 |none=>rfl
 |some o=>rw[s a o e]at h;cases h
abbrev KRel(K:M0)(H:Hp){κ:Type}:List (κ × V)→List (κ × Dat)→Prop:=Paired fun (p:κ × V) (q:κ × Dat)=>p.1=q.1∧Rep K H p.2 q.2
theorem KRel.mono{K:M0}{H H':Hp}(s:Stab H H'){κ:Type}{l:List (κ × V)}{m:List (κ × Dat)}(h:KRel K H l m):KRel K H' l m:=Paired.mapP h fun _ _ z=>⟨z.1,z.2.mono s⟩
def AOk(K:M0)(H:Hp)(a:Addr):AO→Prop
 |.lst ds=>∃vs,H a=some (.lst vs)∧Reps K H vs ds
 |.dk kvs=>∃vk,H a=some (.dK vk)∧KRel K H vk kvs
 |.ins C fs=>∃dx vf,H a=some (.ins (He.ga K C) dx vf)∧KRel K H vf fs
 |.cel d=>∃(o:Obj) (u:Value) (v:V),H a=some (.frz o (.own a))∧o.data = .cell (some u)∧RelV v u∧Rep K H v d
theorem AOk.some{K:M0}{H:Hp}{a:Addr}{o:AO}(h:AOk K H a o):∃u,H a=some u∧Soft u:=by
 cases o with
 |lst ds=>obtain⟨vs,e,_⟩:=h;exact⟨_,e,.lst⟩
 |dk kvs=>obtain⟨vs,e,_⟩:=h;exact⟨_,e,⟨fun _ z=>(by cases z),fun _ _ z=>(by cases z),fun _ z=>(by cases z),fun _ z=>(by cases z),fun _ _ z=>(by cases z),fun _ _ z=>by cases z⟩⟩
 |ins C fs=>obtain⟨dx,vs,e,_⟩:=h;exact⟨_,e,⟨fun _ z=>(by cases z),fun _ _ z=>(by cases z),fun _ z=>(by cases z),fun _ z=>(by cases z),fun _ _ z=>(by cases z),fun _ _ z=>by cases z⟩⟩
 |cel d=>obtain⟨o,u,v,e,_⟩:=h;exact⟨_,e,⟨fun _ z=>(by cases z),fun _ _ z=>(by cases z),fun _ z=>(by cases z),fun _ z=>(by cases z),fun _ _ z=>(by cases z),fun _ _ z=>by cases z⟩⟩
theorem AOk.mono{K:M0}{H H':Hp}{a:Addr}{o:AO}(s:Stab H H')(e:H' a=H a)(h:AOk K H a o):AOk K H' a o:=by
 cases o with
 |lst ds=>obtain⟨vs,q,r⟩:=h;exact⟨vs,e.trans q,r.mono s⟩
 |dk kvs=>obtain⟨vs,q,r⟩:=h;exact⟨vs,e.trans q,KRel.mono s r⟩
 |ins C fs=>obtain⟨dx,vs,q,r⟩:=h;exact⟨dx,vs,e.trans q,KRel.mono s r⟩
 |cel d=>obtain⟨o,u,v,q,h1,h2,r⟩:=h;exact⟨o,u,v,e.trans q,h1,h2,r.mono s⟩
theorem kD{T:List NdefX.NTab}{H:Hp}{p:Addr}{o:HO}(t:NdefX.TabsN T H)(h1:∀ps,H p≠some (.tbl ps))(h2:∀φ,H p≠some (.ext φ)):NdefX.TabsN T (upd H p o):=fun q hq=>by
 obtain⟨ps,e,e2,e3⟩:=t q hq
 refine⟨ps,by rw[upd_ne fun z=>h1 ps (by rw[←z];exact e)];exact e,e2,fun pos cv hc=>?_⟩
 obtain⟨c,e4,e5⟩:=e3 pos cv hc
 exact⟨c,e4,by rw[upd_ne fun z=>h2 _ (by rw[←z];exact e5)];exact e5⟩
theorem kE{T:List NdefX.NTab}{H:Hp}{p:Addr}{o:HO}(t:NdefX.TabsN T H)(h:H p=none):NdefX.TabsN T (upd H p o):=kD t (fun ps z=>by rw[h]at z;cases z) fun φ z=>by rw[h]at z;cases z
theorem bo{T:List NdefX.NTab}{H:Hp}{p:Addr}{o u:HO}(t:NdefX.TabsN T H)(h:H p=some u)(s:Soft u):NdefX.TabsN T (upd H p o) :=
 kD t (fun ps z=>by rw[h]at z;exact s.2.2.2.1 ps (Option.some.inj z)) fun φ z=>by rw[h]at z;exact s.2.2.1 φ (Option.some.inj z)
structure RelG(K:M0)(G:AG)(H:Hp):Prop where
 g:∀a o,G a=some o→AOk K H a o
 t:NdefX.TabsN Tb.T H
section
variable {K:M0} {G G':AG} {H H':Hp} {p:Addr}
theorem RelG.sub(s:Sub G' G)(h:RelG K G H):RelG K G' H:=⟨fun a o e=>h.g a o (s a o e),h.t⟩
theorem RelG.free(h:RelG K G H)(e:H p=none):G p=none:=by
 cases q:G p with
 |none=>rfl
 |some o=>obtain⟨u,z,_⟩:=(h.g p o q).some;rw[e]at z;cases z
theorem RelG.new{o:HO}{u:AO}(h:RelG K G H)(e:H p=none)(n:AOk K (upd H p o) p u):RelG K (gu G p u) (upd H p o):=⟨fun a w q=>by
 by_cases ha:a=p
 ·subst ha;rw[ak]at q;cases q;exact n
 ·rw[aC ha]at q
  exact (h.g a w q).mono (.new e) (upd_ne ha),kE h.t e⟩
theorem RelG.newT{o:HO}(h:RelG K G H)(e:H p=none):RelG K G (upd H p o):=⟨fun a w q=>by
 have ha:a≠p:=fun z=>by rw[z,h.free e]at q;cases q
 exact (h.g a w q).mono (.new e) (upd_ne ha),kE h.t e⟩
theorem RelG.set{o:HO}{u v:AO}(h:RelG K G H)(e:G p=some u)(n:AOk K (upd H p o) p v):RelG K (gu G p v) (upd H p o):=by
 obtain⟨z,e1,e2⟩:=(h.g p u e).some
 refine⟨fun a w q=>?_,bo h.t e1 e2⟩
 by_cases ha:a=p
 ·subst ha;rw[ak]at q;cases q;exact n
 ·rw[aC ha]at q
  exact (h.g a w q).mono (.mut e1 e2) (upd_ne ha)
theorem RelG.stabSet{o:HO}{u:AO}(h:RelG K G H)(e:G p=some u):Stab H (upd H p o):=by
 obtain⟨z,e1,e2⟩:=(h.g p u e).some
 exact .mut e1 e2
theorem RelG.lst{ds:List Dat}(h:RelG K G H)(e:G p=some (.lst ds)):∃vs,H p=some (.lst vs)∧Reps K H vs ds:=h.g p _ e
end
abbrev aj:=List (Option Dat)
def RelE(K:M0)(H:Hp)(ρ:aj)(σ:L2.St):Prop:=ρ.length=σ.length∧∀(i:Nat) (d:Dat),ρ[i]?=some (some d)→∃v,σ[i]?=some (some v)∧Rep K H v d
section
variable {K:M0} {H H':Hp} {ρ:aj} {σ:L2.St}
theorem RelE.mono(s:Stab H H')(h:RelE K H ρ σ):RelE K H' ρ σ:=⟨h.1,fun i d e=>by obtain⟨v,q,r⟩:=h.2 i d e;exact⟨v,q,r.mono s⟩⟩
theorem RelE.set{i:Nat}{v:V}{d:Dat}(h:RelE K H ρ σ)(r:Rep K H v d):RelE K H (ρ.set i (some d)) (σ.set i (some v)):=by
 refine⟨by rw[List.length_set,List.length_set,h.1],fun j e q=>?_⟩
 by_cases hj:i=j
 ·subst hj
  by_cases hl:i<ρ.length
  ·rw[List.getElem?_set_self hl]at q
   cases q
   exact⟨v,by rw[List.getElem?_set_self (by rw[←h.1];exact hl)],r⟩
  ·rw[List.getElem?_eq_none (by rw[List.length_set];omega)]at q
   cases q
 ·rw[List.getElem?_set_ne hj]at q
  obtain⟨w,z,r'⟩:=h.2 j e q
  exact⟨w,by rw[List.getElem?_set_ne hj];exact z,r'⟩
theorem RelE.wipe1{i:Nat}(h:RelE K H ρ σ):RelE K H (ρ.set i none) (σ.set i none):=by
 refine⟨by rw[List.length_set,List.length_set,h.1],fun j e q=>?_⟩
 by_cases hj:i=j
 ·subst hj
  by_cases hl:i<ρ.length
  ·rw[List.getElem?_set_self hl]at q
   cases q
  ·rw[List.getElem?_eq_none (by rw[List.length_set];omega)]at q
   cases q
 ·rw[List.getElem?_set_ne hj]at q
  obtain⟨w,z,r'⟩:=h.2 j e q
  exact⟨w,by rw[List.getElem?_set_ne hj];exact z,r'⟩
end
def bj(ρ:aj):List Nat→aj
 |[]=>ρ
 |v :: vs=>(bj ρ vs).set v none
theorem RelE.wipe{K:M0}{H:Hp}{ρ:aj}{σ:L2.St}(h:RelE K H ρ σ):∀vs:List Nat,RelE K H (bj ρ vs) (L2.wipe σ vs)
 |[]=>h
 |_ :: vs=>(RelE.wipe h vs).wipe1
end Av
namespace Av
open PySem PySem.Spec PyProof.Rows L2 Builtin Builtin.Int Builtin.Float
def xSpec:Str:=⟨#[120]⟩
def cD(n:Nat):Str:=⟨((Nat.toDigits 16 n).map Char.toNat).toArray⟩
def xF:FormatSpec:={fill:=32,align:=62,sign:=none,noNeg0:=false,alt:=false,width:=none,grouping:=none,precision:=none,type:=some 120}
theorem xJ:parseFormatSpec xSpec.cps.toList "int" 62 = .ok xF:=by rfl
theorem uH{ds:List Nat}(h:ds≠[]):intField' xF false [] ds [] 4=⟨ds.toArray⟩:=by
 unfold intField'
 have e:ds.isEmpty=false:=by cases ds;exact absurd rfl h;rfl
 simp only[xF,e]
 simp
section
variable {prog:Program} {w:World} {A:Around} {E:Value→Shared→Prop} {s:Shared}
theorem D6{M:Model}{A:Around}{Q:Fin→Shared→Prop}{E:Value→Shared→Prop}{s:Shared}{x y:Str}(e:y=x)(hl:x.length≤sizeLine)(h:Q (.done (.ret (.str x s.toks))) {s with toks:=s.toks+1}):wpAny M A (retStr y) Q E s:=by
 subst e
 unfold retStr
 exact wpAny_bind (wpAny_mkStr (wpAny_pure h) hl)
theorem qb{a:Int}{t:Tok}{Q:Value→Shared→Prop}(h0:0≤a)(hl:(cD a.natAbs).length≤sizeLine)(h:∀k,Q (.str (cD a.natAbs) k) {s with toks:=k+1}):wpAny (model prog w) A (formatField (.int a t) xSpec) Q E s:=by
 show wpAny _ _ (holding [.int a t] (pyFormat (.int a t) xSpec)) Q E s
 refine wpAny_holding ?_
 unfold pyFormat
 refine wpAny_bind (wpAny_mkStr ?_ (by decide))
 refine wpAny_bind (m:=callSpecial? (.int a t) (Str.ofString "__format__") [.str xSpec s.toks]) (wpAny_callSpecial?_slot (name:=Str.ofString "__format__") (typeIs_int _ a t) F.slot_int_format ?_)
 refine wpAny_call (codeAny_call_builtin F.slot_int_format.plain F.entry_int_format (F.slot_int_format.check _ _ _ _ _ _ _ _ (typeIs_int _ a t) (F.args_int_format_2 _ _) ?_))
 unfold Builtin.«int.__format__»
 have q1:((xSpec.cps.toList.drop 1).any (fun x=>decide (x ≥ 128))|| (decide (xSpec.cps.getD 0 0 ≥ 128) && !([60,62,61,94]:List Nat).contains (xSpec.cps.getD 1 0)))=false:=by decide
 have q2:(xSpec.length == 0)=false:=by decide
 simp only[selfAndOne,noKeywords,Int.intOfSelf,asInt?,asStr?,List.isEmpty_nil,if_true,pure_bind,bind_pure,bind_assoc,q1,q2,M6,if_false,show (Value.str xSpec s.toks == Value.none)=false from rfl]
 refine wpAny_bind (wpAny_typeNameOf (T := "str") (typeIs_str _ _ _) (by decide) fun _=>?_)
 refine wpAny_bind (wpAny_typeNameOfCut_int ?_)
 simp only[xJ,show xF.type=some 120 from rfl,Option.getD_some]
 rw[if_pos (by decide)]
 show wpAny _ _ (retStr _) _ _ _
 refine D6 (x:=cD a.natAbs) ?_ hl ?_
 ·rw[show decide (a<0)=false from decide_eq_false (by omega)]
  show intField' xF false [] _ [] 4=_
  rw[uH]
  ·rfl
  ·intro z
   have:=tDigits_len_ge 16 a.natAbs
   rw[List.map_eq_nil_iff.1 z]at this
   simp at this
 ·show wpAny _ _ _ _ _ _
  exact wpAny_bind (wpAny_isInstance (typeIs_str _ _ _) isSubtype_str_str (wpAny_pure (h _)))
end
end Av
namespace Av
variable [Tb]
abbrev AQ:=Dat→AG→Prop
abbrev AX:=Str→List (Str × Dat)→AG→Prop
abbrev Con:=List Dat→AG→AQ→AX→Prop
structure FnE where
 con:Con
 ar:Nat
 dfl:List Dat:=[]
 len:∀ds G Q X,con ds G Q X→ds.length=ar
structure il where
 con:List Addr→Con
 ar:Nat
 len:∀cl ds G Q X,con cl ds G Q X→ds.length=ar
structure Gam where
 fn:Str→Option FnE
 gl:Str→Option Dat
 at_:Str→Str→Bool:=fun _ _=>false
 ms:Str→Str→Option FnE:=fun _ _=>none
 mke:Str→Option FnE:=fun _=>none
 xc:Str→Option (List Str):=fun _=>none
 dc:Str→Option (List (Key × Dat)):=fun _=>none
 lam:Nat→Option il:=fun _=>none
 cs:Nat→Option Addr:=fun _=>none
 cm:Str→Str→Option FnE:=fun _ _=>none
 hf:Str→Option (Str→List (Str × Dat)→Option Dat):=fun _=>none
 mn:Str→Str→Nat→List Str→Option (FnE × List Nat):=fun _ _ _ _=>none
 sub:Str→Str→Option Bool:=fun _ _=>none
inductive BO where|add|sub|mul|fdiv|mod|pow|shl|shr|band|kadd
 deriving DecidableEq
inductive CO where|lt|le|gt|ge|eq|ne|isn|isnt|mem|nmem|memd|nmemd|deq|dne|ieq|ine
 deriving DecidableEq
inductive BF where|len|int|tuple|list|isinst|all|any|sum1|sum2|min2|max2|ord|srt|max1|str|ktuple|min1|slen|dct|repr|srtd
 deriving DecidableEq
inductive MF where|append|extend|pop|popAt|clear|reverse|insert|count|index
 deriving DecidableEq
inductive SM where|lower|upper|split|startswith|endswith
 deriving DecidableEq
inductive HE where|cst(d:Dat)|fld(f:Str)|tup(es:List HE)|fn(f:Str)|isi(c:Str)(a b:HE)
inductive HS where|set(i:Nat)(e:HE)|ret(e:HE)|alt(c:Str)(a:HS)
structure Hd where
 cls:Str
 slot:Option Nat
 act:HS
inductive TGt where|nm(i:Nat)|tp(is:List Nat)|tq(i:Nat)(is:List Nat)
mutual
inductive E where
 |var(i:Nat)
 |cst(d:Dat)
 |glo(x:Str)
 |bin(z:Bool)(o:BO)(a b:E)
 |neg(a:E)
 |cmp(o:CO)(a b:E)
 |cmp2(o o':CO)(a b c:E)
 |andV(a b:E)
 |orV(a b:E)
 |notV(a:E)
 |ite(c:T)(a b:E)
 |tup(es:List E)
 |lst(z:Bool)(es:List E)
 |ix(a b:E)
 |slAll(z:Bool)(a:E)|slFrom(z:Bool)(a lo:E)|slTo(z:Bool)(a hi:E)|sl(z:Bool)(a lo hi:E)|rev(a:E)|tupR(a b:E)
 |call(f:Str)(es:List E)
 |blt(z:Bool)(f:BF)(es:List E)
 |meth(m:MF)(o:E)(es:List E)
 |lc(z:Bool)(e:E)(g:TGt)(it:I)(own:List Nat)
 |lcIf(z:Bool)(e:E)(g:TGt)(it:I)(t:T)(own:List Nat)
 |lcX(z:Bool)(e:E)(g:TGt)(it:I)(own ls:List Nat)
 |srtk(z:Bool)(e l:E)
 |lstEn(z:Bool)(a:E)
 |lstIt(z:Bool)(a:E)
 |srtIt(z:Bool)(a:E)
 |lstR1(z:Bool)(b:E)
 |lstR2(z:Bool)(a b:E)
 |dcIf(ek ev:E)(g:TGt)(it:I)(t:T)(own:List Nat)
 |frz(a:E)
 |one(a:E)
 |att(a:E)(f:Str)
 |mcall(C m:Str)(o:E)(es:List E)
 |new(C:Str)(es:List E)
 |dlit(es:List E)
 |dix(a b:E)
 |dget1(a b:E)
 |dupd(a b:E)
 |dget2(a b c:E)
 |dpop2(a b c:E)
 |dead
 |gin(n:Bool)(x:Str)(a:E)
 |gix(x:Str)(a:E)
 |gget1(x:Str)(a:E)
 |gget2(x:Str)(a b:E)
 |callV(i:Nat)(es:List E)
 |din(n:Bool)(a b:E)
 |sin(n:Bool)(a b:E)
 |smeth(z:Bool)(m:SM)(o:E)(es:List E)
 |six(a b:E)
 |lam(k:Nat)(ls:List Nat)
 |pcall(ls:List Nat)(f:Str)(es:List E)
 |pcallV(ls:List Nat)(i:Nat)(es:List E)
 |mcd(ls:List Nat)(m:Str)(o:E)(es:List E)
 |xnew(C:Str)(es:List E)
 |ccall(C m:Str)(es:List E)
 |mnam(C m:Str)(o:E)(es:List E)(ks:List Str)(fs:List E)
 |tidx(a b:E)
 |ktt(a:E)
 |or2(a b:E)
 |kslF(a lo:E)
 |revT(a:E)
 |fhex(s:Str)(a:E)
inductive T where
 |and_(a b:T)|or_(a b:T)|not_(a:T)|ite(c a b:T)|one(a:T)
 |cmp(o:CO)(a b:E)
 |cmp2(o o':CO)(a b c:E)
 |val(a:E)
 |gin(n:Bool)(x:Str)(a:E)
 |din(n:Bool)(a b:E)
 |sin(n:Bool)(a b:E)
inductive I where
 |gkeys(x:Str)
 |dkeys(e:E)
 |str(a:E)
 |rng1(a:E)|rng2(a b:E)|rng3(a b c:E)|seq(a:E)|zip(a b:E)|enum(a:E)
end
inductive S where
 |set(i:Nat)(e:E)
 |setTp(is:List Nat)(e:E)
 |par2(i j:Nat)(a b:E)
 |par3(i j k:Nat)(a b c:E)
 |expr(e:E)
 |ret(e:E)
 |retN
 |if_(c:T)(a b:List S)
 |while_(c:T)(b:List S)
 |for_(g:TGt)(it:I)(b:List S)
 |setIx(o i e:E)
 |setSl(o lo hi e:E)
 |setIN(o i:E)(j:Nat)(e:E)
 |aug(i:Nat)(o:BO)(e:E)
 |setAtt(o:E)(f:Str)(e:E)
 |setAt2(o:E)(f g:Str)(e:E)
 |dset(o i e:E)
 |raise(C:Str)(es:List E)
 |pass|brk|cont
 |dead
 |sub_
 |retP(ls:List Nat)(e:E)
 |try_(b:List S)(hs:List Hd)
def ai(G:AG):Dat→Option (List Dat)
 |.lst ds=>some ds
 |.ref a=>match G a with
  |some (.lst ds)=>some ds
  |_=>none
 |_=>none
def aV(G:AG):Dat→Option (List Dat)
 |.tup ds=>some ds
 |.kls ds=>some ds
 |.ktp ds=>some ds
 |d=>ai G d
def CB(G:AG):Dat→Option (List Dat)
 |.tup ds=>some ds
 |d=>ai G d
def JX(ds:List Dat)(G:AG)(Q:AQ):Prop:=ds.length≤sizeLine∧∀p,G p=none→Q (.ref p) (gu G p (.lst ds))
def nw(z:Bool)(ds:List Dat)(G:AG)(Q:AQ):Prop:=if z=true then ds.length≤sizeLine∧Q (.lst ds) G else JX ds G Q
def cL(z:Bool):BO→Dat→Dat→AG→AQ→Prop
 |.add,.int i,.int j,G,Q=>Q (.int (i+j)) G
 |.add,.str a,.str b,G,Q=>a.length+b.length≤sizeLine∧Q (.str (a++b)) G
 |.add,.tup a,.tup b,G,Q=>a.length+b.length≤sizeLine∧Q (.tup (a++b)) G
 |.add,x,y,G,Q=>∃a b,ai G x=some a∧ai G y=some b∧nw z (a++b) G Q
 |.sub,.int i,.int j,G,Q=>Q (.int (i - j)) G
 |.mul,.int i,.int j,G,Q=>CMul i j∧Q (.int (i*j)) G
 |.mul,.tup a,.int k,G,Q=>((-(2^63)≤k∧k<2^63)∧a.length*k.toNat≤100000)∧Q (.tup (Mh k.toNat a).flatten) G
 |.kadd,.tup a,.tup b,G,Q=>((a≠[]∧b≠[])∧a.length+b.length≤sizeLine)∧Q (.ktp (a++b)) G
 |.mul,.str x,.int k,G,Q=>(-(2^63)≤k∧k≤1)∧Q (.str (if k<1 then Str.empty else x)) G
 |.mul,x,.int k,G,Q=>∃a,ai G x=some a∧-(2^63)≤k∧k<2^63∧nw z (Mh k.toNat a).flatten G Q
 |.fdiv,.int i,.int j,G,Q=>CDiv i j∧Q (.int (i / j)) G
 |.mod,.int i,.int j,G,Q=>0<j∧Q (.int (i % j)) G
 |.pow,.int i,.int j,G,Q=>CPow i j∧Q (.int (i^j.toNat)) G
 |.shl,.int i,.int j,G,Q=>CPow i j∧Q (.int (i*2^j.toNat)) G
 |.shr,.int i,.int j,G,Q=>0≤j∧Q (.int (i / 2^j.toNat)) G
 |.band,.int i,.int j,G,Q=>Q (.int (Builtin.bitAnd i j)) G
 |_,_,_,_,_=>False
mutual
inductive jB(G:AG):Dat→PyData→Prop
 |non:jB G .non .none
 |bl (b:Bool):jB G (.bl b) (.bool b)
 |int (i:Int):jB G (.int i) (.int i)
 |str (x:Str):jB G (.str x) (.str x)
 |tup {ds:List Dat} {ps:List PyData}:Deeps G ds ps→jB G (.tup ds) (.tuple ps)
 |lst {ds:List Dat} {ps:List PyData}:Deeps G ds ps→jB G (.lst ds) (.list ps)
 |ref {a:Addr} {ds:List Dat} {ps:List PyData}:G a=some (.lst ds)→Deeps G ds ps→jB G (.ref a) (.list ps)
inductive Deeps(G:AG):List Dat→List PyData→Prop
 |nil:Deeps G [] []
 |cons {d:Dat} {ds:List Dat} {p:PyData} {ps:List PyData}:jB G d p→Deeps G ds ps→Deeps G (d :: ds) (p :: ps)
end
def pF:Key→PyData
 |.inl i=>.int i
 |.inr x=>.str x
mutual
inductive Shd(G:AG):Dat→PyData→Prop
 |non:Shd G .non .none
 |bl (b:Bool):Shd G (.bl b) (.bool b)
 |int (i:Int):Shd G (.int i) (.int i)
 |str (x:Str):Shd G (.str x) (.str x)
 |tup {ds:List Dat} {ps:List PyData}:Shds G ds ps→Shd G (.tup ds) (.tuple ps)
 |lst {ds:List Dat} {ps:List PyData}:Shds G ds ps→Shd G (.lst ds) (.list ps)
 |ref {a:Addr} {ds:List Dat} {ps:List PyData}:G a=some (.lst ds)→Shds G ds ps→Shd G (.ref a) (.list ps)
 |dz {ks:List Key} {ds:List Dat} {ps:List PyData}:ks.length=ds.length→Shds G ds ps→Shd G (.dz ks ds) (.dict ((ks.map pF).zip ps))
inductive Shds(G:AG):List Dat→List PyData→Prop
 |nil:Shds G [] []
 |cons {d:Dat} {ds:List Dat} {p:PyData} {ps:List PyData}:Shd G d p→Shds G ds ps→Shds G (d :: ds) (p :: ps)
end
def GD:Dat→Bool
 |.tup _=>true|.lst _=>true|.ref _=>true|.dz _ _=>true
 |_=>false
def D7(x:Dat)(G:AG)(Q:AQ):Prop:=GD x=true∧∃p,Shd G x p∧p.showable=true∧p.depth≤60∧p.shown.length≤sizeLine∧Q (.str p.shown) G
def iz:Dat→Option Str
 |.str x=>some x
 |_=>none
def aH:Dat→Bool
 |.non=>true|.bl _=>true|.int _=>true|.str _=>true
 |_=>false
def toV:Dat→V
 |.non=>.non|.bl b=>.bl b|.int i=>.int i|.str s=>.str s|.ref a=>.ref a|.ty n=>.ty n
 |.tup _=>.non|.lst _=>.non|.kls _=>.non|.gf _=>.non|.clo ..=>.non|.exc ..=>.non|.ktp _=>.non|.dz ..=>.non
def eqW(n:Bool)(x y:Dat)(G:AG)(Q:AQ):Prop:=((aH x && aH y && L2.scal (toV x) (toV y))=true∧Q (.bl (if n then !decide (toV x=toV y) else decide (toV x=toV y))) G)∨∃p q,jB G x p∧jB G y q∧SeqAt.shaped p=true∧SeqAt.shaped q=true∧Q (.bl (if n then !PyData.eqv p q else PyData.eqv p q)) G
def eqF(x y:Dat):Bool:=eqV (toV x) (toV y)
def uh(n:Bool)(x y:Dat)(G:AG)(Q:AQ):Prop :=
 ∃ds,aV G y=some ds∧aH x=true∧ds.all aH=true∧Q (.bl (if n then !ds.any (fun d=>eqF d x) else ds.any (fun d=>eqF d x))) G
def CF(n:Bool)(x y:Dat)(G:AG)(Q:AQ):Prop :=
 ∃p ps,jB G x p∧(jB G y (.tuple ps)∨jB G y (.list ps))∧p.plain=true∧PyData.plainAll ps=true∧min (PyData.depthAll ps) p.depth≤60∧Q (.bl (if n then !ps.any (fun z=>PyData.eqv z p) else ps.any fun z=>PyData.eqv z p)) G
def dL:Dat→Bool
 |.non=>true
 |_=>false
def cO(G:AG):Dat→Option (List (Key × Dat))
 |.ref a=>match G a with
  |some (.dk kvs)=>some kvs
  |_=>none
 |.dz ks ds=>some (ks.zip ds)
 |_=>none
def au(kvs:List (Key × Dat))(k:Key):Option Dat:=(kvs.find? fun q=>decide (q.1=k)).map (·.2)
def aO:Key→Dat
 |.inl i=>.int i
 |.inr x=>.str x
def jC(kvs:List (Key × Dat)):List Dat:=kvs.map fun q=>.tup [aO q.1,q.2]
def CJ(r:Bool)(x y:Dat)(G:AG)(Q:AQ):Prop:=∃ka kb,cO G x=some ka∧cO G y=some kb∧ka.length=kb.length∧(∀p∈ka,au kb p.1=some p.2∧aH p.2=true)∧Q (.bl r) G
def FE(n:Bool)(x y:Dat)(G:AG)(Q:AQ):Prop:=∃a b C fa fb,x = .ref a∧y = .ref b∧G a=some (.ins C fa)∧G b=some (.ins C fb)∧Tb.own C=true∧Q (.bl (if n then !decide (a=b) else decide (a=b))) G
def bY:CO→Dat→Dat→AG→AQ→Prop
 |.lt,.int i,.int j,G,Q=>Q (.bl (decide (i<j))) G
 |.le,.int i,.int j,G,Q=>Q (.bl (decide (i≤j))) G
 |.gt,.int i,.int j,G,Q=>Q (.bl (decide (j<i))) G
 |.ge,.int i,.int j,G,Q=>Q (.bl (decide (j≤i))) G
 |.eq,x,y,G,Q=>eqW false x y G Q
 |.ne,x,y,G,Q=>eqW true x y G Q
 |.isn,x,.non,G,Q=>Q (.bl (dL x)) G
 |.isnt,x,.non,G,Q=>Q (.bl (!dL x)) G
 |.mem,x,y,G,Q=>uh false x y G Q
 |.nmem,x,y,G,Q=>uh true x y G Q
 |.memd,x,y,G,Q=>CF false x y G Q
 |.nmemd,x,y,G,Q=>CF true x y G Q
 |.deq,x,y,G,Q=>CJ true x y G Q
 |.dne,x,y,G,Q=>CJ false x y G Q
 |.ieq,x,y,G,Q=>FE false x y G Q
 |.ine,x,y,G,Q=>FE true x y G Q
 |_,_,_,_,_=>False
def bn:Dat→AG→(Bool→AG→Prop)→Prop
 |.non,G,Q=>Q false G
 |.bl b,G,Q=>Q b G
 |.int i,G,Q=>Q (i !=0) G
 |.str s,G,Q=>s.length≤sizeLine∧Q (s.length !=0) G
 |.tup ds,G,Q=>Q (!ds.isEmpty) G
 |x,G,Q=>∃ds,ai G x=some ds∧Q (!ds.isEmpty) G
def bM(Q:Bool→AG→Prop):Dat→AG→Prop
 |.bl b,G=>Q b G
 |_,_=>False
def ixW:Dat→Dat→AG→AQ→Prop
 |x,.int i,G,Q=>∃ds d,aV G x=some ds∧atI ds i=some d∧Q d G
 |_,_,_,_=>False
def jk(ds:List Dat)(lo hi:Option Int):List Dat:=(ds.drop (HT.sIx ds.length 0 lo)).take (HT.sIx ds.length ds.length hi - HT.sIx ds.length 0 lo)
def slW(z:Bool):Dat→Option Int→Option Int→AG→AQ→Prop
 |.tup ds,lo,hi,G,Q=>Q (.tup (jk ds lo hi)) G
 |.str x,lo,hi,G,Q=>x.length≤sizeLine∧Q (.str (Txt.slice x lo hi)) G
 |x,lo,hi,G,Q=>∃ds,ai G x=some ds∧nw z (jk ds lo hi) G Q
def bK(Q:Int→AG→Prop):Dat→AG→Prop
 |.int i,G=>Q i G
 |_,_=>False
def jG(G:AG):Dat→Option String
 |.non=>some "NoneType"
 |.bl _=>some "bool" |.int _=>some "int" |.str _=>some "str" |.tup _=>some "tuple" |.lst _=>some "list"
 |.ref a=>match G a with
  |some (.lst _)=>some "list"
  |some (.dk _)=>some "dict"
  |_=>none
 |.ty _=>none
 |.kls _=>none
 |.gf _=>none
 |.clo ..=>none
 |.exc ..=>none
 |.ktp _=>some "tuple"
 |.dz ..=>some "dict"
def tyN(G:AG):Dat→Option (String ⊕ Str)
 |.exc C _ _=>if Tb.exo C=true then some (.inr C) else none
 |.ref a=>match G a with
  |some (.lst _)=>some (.inl "list")
  |some (.dk _)=>some (.inl "dict")
  |some (.ins C _)=>if Tb.own C=true then some (.inr C) else none
  |_=>none
 |d=>match jG G d with
  |some t=>some (.inl t)
  |none=>none
def Jq:Dat→Option (String ⊕ Str)
 |.ty n=>some (.inl n)
 |.gf C=>some (.inr C)
 |_=>none
def Fe:String ⊕ Str→String ⊕ Str→Option Bool
 |.inl t,.inl n=>kitB t n
 |t,n=>Tb.sub t n
def jv:List Dat→Bool
 |[]=>true
 |d :: r=>(Jq d).isSome && jv r
def cZ(t:String ⊕ Str):List Dat→Option Bool
 |[]=>some false
 |d :: r=>match Jq d with
  |some n=>(match Fe t n with
   |some true=>if jv r=true then some true else none
   |some false=>cZ t r
   |none=>none)
  |none=>none
def Fj(x:Dat):Dat→AG→AQ→Prop
 |.ty n,G,Q=>∃t b,tyN G x=some t∧Fe t (.inl n)=some b∧Q (.bl b) G
 |.gf n,G,Q=>∃t b,tyN G x=some t∧Fe t (.inr n)=some b∧Q (.bl b) G
 |.tup cs,G,Q=>∃t b,tyN G x=some t∧cZ t cs=some b∧Q (.bl b) G
 |_,_,_=>False
def cK:List Dat→Option (List Bool)
 |[]=>some []
 |.bl b :: r=>(cK r).map (b :: ·)
 |_ :: _=>none
def cH:List Dat→Option (List Int)
 |[]=>some []
 |.int b :: r=>(cH r).map (b :: ·)
 |_ :: _=>none
def eG:List Dat→Option (List (List Dat))
 |[]=>some []
 |.tup b :: r=>(eG r).map (b :: ·)
 |_ :: _=>none
def iR(G:AG):List Dat→Option (List (List Dat))
 |[]=>some []
 |d :: r=>match ai G d,iR G r with
  |some b,some ls=>some (b :: ls)
  |_,_=>none
def KD(z:Bool)(rows:List Dat):Dat→AG→AQ→Prop
 |.tup t0,G,Q=>∃ls,eG rows=some ls∧t0.length+ls.flatten.length≤sizeLine∧Q (.tup (t0++ls.flatten)) G
 |d,G,Q=>∃s0 ls,ai G d=some s0∧iR G rows=some ls∧s0.length+ls.flatten.length≤sizeLine∧if ls=[] then Q d G else nw z (s0++ls.flatten) G Q
def bX(q:Int × Int):Dat:=.tup [.int q.1,.int q.2]
def iS(a b:Int × Int):Prop:=a.1<b.1∨(a.1=b.1∧a.2≤b.2)
def JU(z:Bool)(ds:List Dat)(G:AG)(Q:AQ):Prop :=
 (∃ps:List (Int × Int),ds=ps.map bX∧∀qs:List (Int × Int),qs.Perm ps→qs.Pairwise iS→nw z (qs.map bX) G Q)∨
 ∃ns:List Int,ds=ns.map Dat.int∧∀ms:List Int,ms.Perm ns→ms.Pairwise (· ≤·)→nw z (ms.map Dat.int) G Q
def z7(z:Bool)(kvs:List (Key × Dat))(G:AG)(Q:AQ):Prop:=∃ps:List (Int × Int),jC kvs=ps.map bX∧∀qs:List (Int × Int),qs.Perm ps→qs.Pairwise iS→nw z (qs.map bX) G Q
def cC:Dat→Option Key
 |.int i=>some (.inl i)
 |.str x=>some (.inr x)
 |_=>none
def bG(kvs:List (Key × Dat))(k:Key)(v:Dat):List (Key × Dat):=if (kvs.any fun q=>decide (q.1=k))=true then kvs.map (fun q=>if q.1=k then (q.1,v) else q) else kvs++[(k,v)]
def aY(kvs more:List (Key × Dat)):List (Key × Dat):=more.foldl (fun acc q=>bG acc q.1 q.2) kvs
def iL:List Dat→Option (List (Key × Dat))
 |[]=>some []
 |.tup [k,v] :: r=>match cC k,iL r with
  |some x,some kvs=>some ((x,v) :: kvs)
  |_,_=>none
 |_=>none
def aX(z:Bool):BF→List Dat→AG→AQ→Prop
 |.len,[x],G,Q=>∃ds,aV G x=some ds∧Q (.int ds.length) G
 |.int,[.int i],G,Q=>Q (.int i) G
 |.int,[.bl b],G,Q=>Q (.int (if b then 1 else 0)) G
 |.int,[.str x],G,Q=>∃n,intText? x=some n∧x.length≤640∧Q (.int n) G
 |.tuple,[x],G,Q=>∃ds,aV G x=some ds∧Q (.tup ds) G
 |.list,[x],G,Q=>∃ds,aV G x=some ds∧nw z ds G Q
 |.isinst,[x,c],G,Q=>Fj x c G Q
 |.all,[x],G,Q=>∃ds bs,ai G x=some ds∧cK ds=some bs∧Q (.bl (bs.all id)) G
 |.any,[x],G,Q=>∃ds bs,ai G x=some ds∧cK ds=some bs∧Q (.bl (bs.any id)) G
 |.sum1,[x],G,Q=>∃ds ns,ai G x=some ds∧cH ds=some ns∧Q (.int ns.sum) G
 |.sum2,[x,y],G,Q=>∃rows,ai G x=some rows∧KD z rows y G Q
 |.min2,[.int i,.int j],G,Q=>Q (.int (if j<i then j else i)) G
 |.max2,[.int i,.int j],G,Q=>Q (.int (if j > i then j else i)) G
 |.ord,[.str x],G,Q=>x.length=1∧Q (.int (x.cps.getD 0 0:Nat)) G
 |.srt,[x],G,Q=>∃ds,ai G x=some ds∧JU z ds G Q
 |.max1,[x],G,Q=>∃ds ns,ai G x=some ds∧cH ds=some ns∧0<ns.length∧∀m,m∈ns→(∀y∈ns,y≤m)→Q (.int m) G
 |.dct,[x],G,Q=>∃ds kvs,ai G x=some ds∧iL ds=some kvs∧∀p,G p=none→Q (.ref p) (gu G p (.dk (aY [] kvs)))
 |.slen,[.str x],G,Q=>x.length≤sizeLine∧Q (.int (x.length:Nat)) G
 |.min1,[x],G,Q=>∃ds ns,ai G x=some ds∧cH ds=some ns∧0<ns.length∧∀m,m∈ns→(∀y∈ns,m≤y)→Q (.int m) G
 |.ktuple,[x],G,Q=>∃ds,ai G x=some ds∧Q (.ktp ds) G
 |.repr,[x],G,Q=>D7 x G Q
 |.srtd,[x],G,Q=>∃kvs ns,cO G x=some kvs∧kvs.map (·.1)=ns.map Sum.inl∧∀ms:List Int,ms.Perm ns→ms.Pairwise (· ≤·)→nw z (ms.map Dat.int) G Q
 |.str,[.int i],G,Q=>i.natAbs.log2<1920∧Q (.str (toString i)) G
 |_,_,_,_=>False
def sIn(x y:Str):Bool:=!(Builtin.Str.occurrences y x 0 y.length 1).isEmpty
def C9(l:List Str):List Dat:=l.map Dat.str
def smW(z:Bool):SM→Str→List Dat→AG→AQ→Prop
 |.lower,a,[],G,Q=>a.length≤5592405∧Q (.str (Txt.lower a)) G
 |.upper,a,[],G,Q=>a.length≤5592405∧Q (.str (Txt.upper a)) G
 |.split,a,[.str b],G,Q=>((b.length == 0)=false∧a.length+2≤sizeLine)∧nw z (C9 (Txt.split a b)) G Q
 |.startswith,a,[.str b],G,Q=>Q (.bl (Txt.startswith a b)) G
 |.endswith,a,[.str b],G,Q=>Q (.bl (Txt.endswith a b)) G
 |_,_,_,_,_=>False
def eN(x:Str):List Dat:=x.cps.toList.map fun c=>.str ⟨#[c]⟩
def gL(n b:Bool):Bool:=if n then !b else b
def bw:MF→Dat→List Dat→AG→AQ→Prop
 |.append,.ref p,[y],G,Q=>∃ds,G p=some (.lst ds)∧ds.length<sizeLine∧Q .non (gu G p (.lst (ds++[y])))
 |.extend,.ref p,[y],G,Q=>∃ds es,G p=some (.lst ds)∧CB G y=some es∧ds.length+es.length≤sizeLine∧Q .non (gu G p (.lst (ds++es)))
 |.pop,.ref p,[],G,Q=>∃ds y,G p=some (.lst ds)∧ds[ds.length - 1]?=some y∧Q y (gu G p (.lst ds.dropLast))
 |.popAt,.ref p,[.int i],G,Q=>∃ds k y,G p=some (.lst ds)∧-(2^63)≤i∧i<2^63∧seqIndex? i ds.length=some k∧ds[k]?=some y∧Q y (gu G p (.lst (ds.eraseIdx k)))
 |.clear,.ref p,[],G,Q=>∃ds,G p=some (.lst ds)∧Q .non (gu G p (.lst []))
 |.reverse,.ref p,[],G,Q=>∃ds,G p=some (.lst ds)∧Q .non (gu G p (.lst ds.reverse))
 |.insert,.ref p,[.int i,y],G,Q=>∃ds,G p=some (.lst ds)∧ds.length<sizeLine∧0≤i∧i<2^63∧Q .non (gu G p (.lst (ds.take i.toNat++[y]++ds.drop i.toNat)))
 |.count,x,[y],G,Q=>∃ds,ai G x=some ds∧aH y=true∧ds.all aH=true∧Q (.int (ds.countP fun d=>eqF d y:Nat)) G
 |.index,x,[y],G,Q=>∃ds j d,ai G x=some ds∧aH y=true∧ds.all aH=true∧ds[j]?=some d∧eqF d y=true∧(∀m d',m<j→ds[m]?=some d'→eqF d' y=false)∧Q (.int (j:Nat)) G
 |_,_,_,_,_=>False
def jN{α:Type}(pm:List Nat)(l:List α):List α:=pm.filterMap fun i=>l[i]?
def su(x y:Dat)(G:AG)(Q:AQ):Prop:=∃ds j d,x = .ktp ds∧aH y=true∧ds.all aH=true∧ds[j]?=some d∧eqF d y=true∧(∀m d',m<j→ds[m]?=some d'→eqF d' y=false)∧Q (.int (j:Nat)) G
def wO:Dat→Int→AG→AQ→Prop
 |.tup ds,i,G,Q=>(ds≠[]∧0<i)∧Q (.ktp (jk ds (some i) none)) G
 |_,_,_,_=>False
def IM:Dat→AG→AQ→Prop
 |.ktp ds,G,Q=>Q (.tup ds) G
 |_,_,_=>False
def mR(d:Dat)(G:AG)(Q:AQ):Prop :=
 match d with
 |.ref p=>match G p with
  |some (.lst ds)=>Q (.lst ds) (gx G p)
  |some (.dk kvs)=>Q (.dz (kvs.map (·.1)) (kvs.map (·.2))) (gx G p)
  |_=>Q (.ref p) G
 |d=>Q d G
def gI:List Dat→Option (List (Key × Dat))
 |[]=>some []
 |k :: v :: r=>match cC k,gI r with
  |some x,some kvs=>some ((x,v) :: kvs)
  |_,_=>none
 |_=>none
def c9(kvs:List (Key × Dat))(k:Key):List (Key × Dat):=kvs.filter fun q=>!decide (q.1=k)
def B9:Dat→Dat→Dat→AG→AQ→Prop
 |.ref p,y,z,G,Q=>∃kvs k,G p=some (.dk kvs)∧cC y=some k∧(∀v,au kvs k=some v→Q v (gu G p (.dk (c9 kvs k))))∧(au kvs k=none→Q z G)
 |_,_,_,_,_=>False
def u0:Dat→Dat→AG→AQ→Prop
 |.ref p,.ref b,G,Q=>∃kvs more,G p=some (.dk kvs)∧G b=some (.dk more)∧p≠b∧kvs.length+more.length≤sizeLine∧Q .non (gu G p (.dk (aY kvs more)))
 |_,_,_,_=>False
def Ca(ds:List Dat)(G:AG)(Q:AQ):Prop:=∃kvs,gI ds=some kvs∧kvs.length≤15∧∀p,G p=none→Q (.ref p) (gu G p (.dk (aY [] kvs)))
def Jd:Dat→Dat→AG→AQ→Prop
 |.ref p,k,G,Q=>∃kvs x v,G p=some (.dk kvs)∧cC k=some x∧au kvs x=some v∧Q v G
 |.dz ks ds,k,G,Q=>∃x v,cC k=some x∧au (ks.zip ds) x=some v∧Q v G
 |_,_,_,_=>False
def qC(o:Dat)(d:Dat)(k:Dat)(G:AG)(Q:AQ):Prop:=match o with
 |.ref p=>∃kvs x,G p=some (.dk kvs)∧cC k=some x∧Q ((au kvs x).getD d) G
 |.dz ks ds=>∃x,cC k=some x∧Q ((au (ks.zip ds) x).getD d) G
 |_=>False
def Fn(G:AG):Dat→Prop
 |.ref p=>∃kvs,G p=some (.dk kvs)
 |.dz _ _=>True
 |_=>False
def pQ(G:AG):Dat→Prop
 |.ref p=>∃kvs,G p=some (.dk kvs)
 |_=>False
def B8:Dat→Dat→Dat→AG→(AG→Prop)→Prop
 |.ref p,k,v,G,Q=>∃kvs x,G p=some (.dk kvs)∧cC k=some x∧kvs.length<sizeLine∧Q (gu G p (.dk (bG kvs x v)))
 |_,_,_,_,_=>False
def JA(Γ:Gam)(f:Str):Dat→AG→AQ→Prop
 |.ref p,G,Q=>∃C fs d,G p=some (.ins C fs)∧Γ.at_ C f=true∧fs.lookup f=some d∧Q d G
 |.exc C fl ds,G,Q=>∃d,Γ.xc C=some fl∧f∈fl∧(fl.zip ds).reverse.lookup f=some d∧Q d G
 |_,_,_=>False
def cW(cs:Nat→Option Addr)(ρ:aj):List Nat→AG→AG
 |[],G=>G
 |i :: r,G=>match cs i,ρ[i]? with
  |some c,some (some d)=>gu (cW cs ρ r G) c (.cel d)
  |_,_=>cW cs ρ r G
def cx(cs:Nat→Option Addr):List Nat→AG→AG
 |[],G=>G
 |i :: r,G=>match cs i with
  |some c=>gx (cx cs r G) c
  |none=>cx cs r G
def noneG(cs:Nat→Option Addr)(ls:List Nat)(G:AG):Prop:=∀i∈ls,∀c,cs i=some c→G c=none∧∀j∈ls,cs j=some c→i=j
def jq(cs:Nat→Option Addr):List Nat→Option (List Addr)
 |[]=>some []
 |i :: r=>match cs i,jq cs r with
  |some c,some l=>some (c :: l)
  |_,_=>none
def BI(C m:Str):Dat→AG→Prop
 |.ref p,G=>∃fs,G p=some (.ins C fs)∧fs.lookup m=none
 |_,_=>False
def og(f:Str)(v:Dat):List (Str × Dat)→List (Str × Dat)
 |[]=>[(f,v)]
 |(g,x) :: r=>if g=f then (g,v) :: r else (g,x) :: og f v r
def Aw(Γ:Gam)(f:Str)(v:Dat):Dat→AG→(AG→Prop)→Prop
 |.ref p,G,Q=>∃C fs,G p=some (.ins C fs)∧Γ.at_ C f=true∧fs.length<1000∧Q (gu G p (.ins C (og f v fs)))
 |_,_,_=>False
def bB:List Nat→List Dat→aj→aj
 |i :: is,d :: ds,ρ=>bB is ds (ρ.set i (some d))
 |_,_,ρ=>ρ
def tgW:TGt→Dat→aj→(aj→Prop)→Prop
 |.nm i,d,ρ,k=>k (ρ.set i (some d))
 |.tp is,.tup ds,ρ,k=>ds.length=is.length∧k (bB is ds ρ)
 |.tq i is,.tup [d,.tup ds],ρ,k=>ds.length=is.length∧k (bB is ds (ρ.set i (some d)))
 |_,_,_,_=>False
abbrev Gd:=List (Addr × List Dat)
def bZ(G:AG):Gd→Prop
 |[]=>True
 |(a,ds) :: r=>G a=some (.lst ds)∧bZ G r
def vT(x:Dat)(G:AG)(Q:List Dat→Gd→AG→Prop):Prop :=
 match x with
 |.tup ds=>Q ds [] G
 |.lst ds=>Q ds [] G
 |.kls ds=>Q ds [] G
 |.ref a=>∃ds,G a=some (.lst ds)∧Q ds [(a,ds)] G
 |_=>False
def r8(x:Dat)(G:AG)(Q:List Dat→Gd→AG→Prop):Prop :=
 match x with
 |.lst ds=>Q ds [] G
 |.ref a=>∃ds,G a=some (.lst ds)∧Q ds [(a,ds)] G
 |_=>False
def eA:List Dat→List Dat→List Dat
 |x :: xs,y :: ys=>.tup [x,y] :: eA xs ys
 |_,_=>[]
def CU(x y:Dat)(G:AG)(Q:List Dat→Gd→AG→Prop):Prop :=
 match x,y with
 |.tup xs,.tup ys=>Q (eA xs ys) [] G
 |.tup xs,y=>r8 y G fun ys gy G1=>Q (eA xs ys) gy G1
 |x,y=>r8 x G fun xs gx G1=>r8 y G1 fun ys gy G2=>Q (eA xs ys) (gx++gy) G2
def Cz(lo c:Int)(n:Nat):List Dat:=(List.range n).map fun (i:Nat)=>.int (lo+i*c)
def dW(lo:Int)(n:Nat):List Dat:=(List.range n).map fun (k:Nat)=>Dat.int (lo+(k:Int))
def bR:Nat→List Dat→List Dat
 |_,[]=>[]
 |k,d :: ds=>.tup [.int k,d] :: bR (k+1) ds
def lcW(z:Bool)(elt:aj→AG→AQ→Prop)(g:TGt)(own:List Nat)(gd:Gd)(ρ:aj)(Q:AQ):List Dat→List Dat→AG→Prop
 |[],acc,G=>bZ G gd∧if z=true then Q (.lst acc) G else ∀p,G p=none→Q (.ref p) (gu G p (.lst acc))
 |d :: ds,acc,G=>bZ G gd∧tgW g d (bj ρ own) fun ρ1=>elt ρ1 G fun y G2=>acc.length<sizeLine∧lcW z elt g own gd ρ Q ds (acc++[y]) G2
def fA(z:Bool)(tst:aj→AG→(Bool→AG→Prop)→Prop)(elt:aj→AG→AQ→Prop)(g:TGt)(own:List Nat)(gd:Gd)(ρ:aj)(Q:AQ):List Dat→List Dat→AG→Prop
 |[],acc,G=>bZ G gd∧if z=true then Q (.lst acc) G else ∀p,G p=none→Q (.ref p) (gu G p (.lst acc))
 |d :: ds,acc,G=>bZ G gd∧tgW g d (bj ρ own) fun ρ1=>tst ρ1 G fun b G1 =>
   if b=true then elt ρ1 G1 fun y G2=>acc.length<sizeLine∧fA z tst elt g own gd ρ Q ds (acc++[y]) G2 else fA z tst elt g own gd ρ Q ds acc G1
def noX:AX:=fun _ _ _=>False
def jh(tst:aj→AG→(Bool→AG→Prop)→Prop)(ek ev:aj→AG→AQ→Prop)(g:TGt)(own:List Nat)(gd:Gd)(ρ:aj)(Q:AQ):List Dat→List (Key × Dat)→AG→Prop
 |[],acc,G=>bZ G gd∧∀p,G p=none→Q (.ref p) (gu G p (.dk acc))
 |d :: ds,acc,G=>bZ G gd∧tgW g d (bj ρ own) fun ρ1=>tst ρ1 G fun b G1 =>
   if b=true then ek ρ1 G1 fun y G2=>ev ρ1 G2 fun v G3=>acc.length<sizeLine∧∃x,cC y=some x∧jh tst ek ev g own gd ρ Q ds (bG acc x v) G3 else jh tst ek ev g own gd ρ Q ds acc G1
def kI(ks:List Int)(ds:List Dat):List Dat:=((ds.zip ks).mergeSort fun a b=>decide (a.2≤b.2)).map (·.1)
def iB(Γ:Gam)(z:Bool)(d f:Dat)(G:AG)(Q:AQ):Prop:=∃(ds:List Dat) (ks:List Int) (q:Nat) (cl:List Addr) (L:il),ai G d=some ds∧f = .clo q cl∧Γ.lam q=some L∧ks.length=ds.length∧
 (∀(i:Nat) (e:Dat) (n:Int),ds[i]?=some e→ks[i]?=some n→L.con cl [e] G (fun d' G'=>d' = .int n∧G'=G) noX)∧nw z (kI ks ds) G Q
mutual
def wE(Γ:Gam):E→aj→AG→AQ→AX→Prop
 |.var i,ρ,G,Q,_=>match ρ[i]? with
  |some (some d)=>Q d G
  |_=>False
 |.cst d,_,G,Q,_=>Q d G
 |.glo x,_,G,Q,_=>match Γ.gl x with
  |some d=>Q d G
  |none=>False
 |.bin z o a b,ρ,G,Q,X=>wE Γ a ρ G (fun x G1=>wE Γ b ρ G1 (fun y G2=>cL z o x y G2 Q) X) X
 |.neg a,ρ,G,Q,X=>wE Γ a ρ G (bK fun i G1=>Q (.int (-i)) G1) X
 |.cmp o a b,ρ,G,Q,X=>wE Γ a ρ G (fun x G1=>wE Γ b ρ G1 (fun y G2=>bY o x y G2 Q) X) X
 |.cmp2 o o' a b c,ρ,G,Q,X=>wE Γ a ρ G (fun x G1=>wE Γ b ρ G1 (fun y G2=>bY o x y G2 (bM fun k G3 =>
   if k=true then wE Γ c ρ G3 (fun z G4=>bY o' y z G4 Q) X else Q (.bl false) G3)) X) X
 |.andV a b,ρ,G,Q,X=>wE Γ a ρ G (fun x G1=>bn x G1 fun k G2=>if k=true then wE Γ b ρ G2 Q X else Q x G2) X
 |.orV a b,ρ,G,Q,X=>wE Γ a ρ G (fun x G1=>bn x G1 fun k G2=>if k=true then Q x G2 else wE Γ b ρ G2 Q X) X
 |.notV a,ρ,G,Q,X=>wE Γ a ρ G (fun x G1=>bn x G1 fun k G2=>Q (.bl (!k)) G2) X
 |.ite c a b,ρ,G,Q,X=>wT Γ c ρ G (fun k G1=>if k=true then wE Γ a ρ G1 Q X else wE Γ b ρ G1 Q X) X
 |.tup es,ρ,G,Q,X=>wEs Γ es ρ G (fun ds G1=>ds.length≤sizeLine∧Q (.tup ds) G1) X
 |.lst z es,ρ,G,Q,X=>wEs Γ es ρ G (fun ds G1=>nw z ds G1 Q) X
 |.ix a b,ρ,G,Q,X=>wE Γ a ρ G (fun x G1=>wE Γ b ρ G1 (fun y G2=>ixW x y G2 Q) X) X
 |.slAll z a,ρ,G,Q,X=>wE Γ a ρ G (fun x G1=>slW z x none none G1 Q) X
 |.slFrom z a lo,ρ,G,Q,X=>wE Γ a ρ G (fun x G1=>wE Γ lo ρ G1 (bK fun i G2=>slW z x (some i) none G2 Q) X) X
 |.slTo z a hi,ρ,G,Q,X=>wE Γ a ρ G (fun x G1=>wE Γ hi ρ G1 (bK fun i G2=>slW z x none (some i) G2 Q) X) X
 |.sl z a lo hi,ρ,G,Q,X=>wE Γ a ρ G (fun x G1=>wE Γ lo ρ G1 (bK fun i G2=>wE Γ hi ρ G2 (bK fun j G3=>slW z x (some i) (some j) G3 Q) X) X) X
 |.tupR a b,ρ,G,Q,X=>wE Γ a ρ G (bK fun m G1=>wE Γ b ρ G1 (bK fun n G2=>L2.RgOk m n∧Q (.tup (dW m (n - m).toNat)) G2) X) X
 |.rev a,ρ,G,Q,X=>wE Γ a ρ G (fun x G1=>∃ds,ai G1 x=some ds∧ds.length≤sizeLine∧Q (.lst ds.reverse) G1) X
 |.revT a,ρ,G,Q,X=>wE Γ a ρ G (fun x G1=>∃ds,x = .tup ds∧Q (.tup ds.reverse) G1) X
 |.call f es,ρ,G,Q,X=>match Γ.fn f with
  |some F=>(F.ar≤es.length+F.dfl.length∧es.length≤F.ar)∧wEs Γ es ρ G (fun ds G1=>F.con (ds++F.dfl.drop (es.length+F.dfl.length - F.ar)) G1 Q X) X
  |none=>False
 |.blt z f es,ρ,G,Q,X=>wEs Γ es ρ G (fun ds G1=>aX z f ds G1 Q) X
 |.meth m o es,ρ,G,Q,X=>wE Γ o ρ G (fun x G1=>(∃ds,ai G1 x=some ds)∧wEs Γ es ρ G1 (fun ds G2=>bw m x ds G2 Q) X) X
 |.lc z e g it own,ρ,G,Q,X=>wI Γ it ρ G (fun ds gd G1=>lcW z (fun ρ1 G Q=>wE Γ e ρ1 G Q noX) g own gd ρ Q ds [] G1) X
 |.fhex s a,ρ,G,Q,X=>wE Γ a ρ G (fun x G1=>∃i:Int,x = .int i∧0≤i∧s.length+(cD i.natAbs).length≤sizeLine∧Q (.str (s++cD i.natAbs)) G1) X
 |.lcX z e g it own ls,ρ,G,Q,X=>wI Γ it ρ G (fun ds gd G1=>lcW z (fun ρ1 G Q=>∀cs:Nat→Option Addr,(∀i∈ls,∃c,cs i=some c)→wE {Γ with cs:=cs} e ρ1 G Q noX) g own gd ρ Q ds [] G1) X
 |.lstR1 z b,ρ,G,Q,X=>wE Γ b ρ G (bK fun n G1=>L2.RgOk 0 n∧nw z (dW 0 (n - 0).toNat) G1 Q) X
 |.lstR2 z a b,ρ,G,Q,X=>wE Γ a ρ G (bK fun m G1=>wE Γ b ρ G1 (bK fun n G2=>L2.RgOk m n∧nw z (dW m (n - m).toNat) G2 Q) X) X
 |.lstIt z a,ρ,G,Q,X=>wE Γ a ρ G (fun d G1=>∃kvs,cO G1 d=some kvs∧nw z (jC kvs) G1 Q) X
 |.srtIt z a,ρ,G,Q,X=>wE Γ a ρ G (fun d G1=>∃kvs,cO G1 d=some kvs∧z7 z kvs G1 Q) X
 |.lstEn z a,ρ,G,Q,X=>wE Γ a ρ G (fun d G1=>∃ds,aV G1 d=some ds∧nw z (bR 0 ds) G1 Q) X
 |.srtk z e l,ρ,G,Q,X=>wE Γ e ρ G (fun d G1=>wE Γ l ρ G1 (fun f G2=>iB Γ z d f G2 Q) X) X
 |.dcIf ek ev g it t own,ρ,G,Q,X=>wI Γ it ρ G (fun ds gd G1=>jh (fun ρ1 G Q=>wT Γ t ρ1 G Q noX) (fun ρ1 G Q=>wE Γ ek ρ1 G Q noX) (fun ρ1 G Q=>wE Γ ev ρ1 G Q noX) g own gd ρ Q ds [] G1) X
 |.lcIf z e g it t own,ρ,G,Q,X=>wI Γ it ρ G (fun ds gd G1=>fA z (fun ρ1 G Q=>wT Γ t ρ1 G Q noX) (fun ρ1 G Q=>wE Γ e ρ1 G Q noX) g own gd ρ Q ds [] G1) X
 |.frz a,ρ,G,Q,X=>wE Γ a ρ G (fun x G1=>mR x G1 Q) X
 |.one a,ρ,G,Q,X=>wE Γ a ρ G Q X
 |.att a f,ρ,G,Q,X=>wE Γ a ρ G (fun x G1=>JA Γ f x G1 Q) X
 |.mcall C m o es,ρ,G,Q,X=>match Γ.ms C m with
  |some F=>(F.ar≤es.length+1+F.dfl.length∧es.length+1≤F.ar)∧wE Γ o ρ G (fun x G1=>BI C m x G1∧wEs Γ es ρ G1 (fun ds G2=>F.con (x :: (ds++F.dfl.drop (es.length+1+F.dfl.length - F.ar))) G2 Q X) X) X
  |none=>False
 |.new C es,ρ,G,Q,X=>match Γ.mke C with
  |some F=>(F.ar≤es.length+1+F.dfl.length∧es.length+1≤F.ar)∧wEs Γ es ρ G (fun ds G1=>∀p,G1 p=none→F.con (.ref p :: (ds++F.dfl.drop (es.length+1+F.dfl.length - F.ar))) (gu G1 p (.ins C [])) (fun d G2=>d = .non∧Q (.ref p) G2) X) X
  |none=>False
 |.dlit es,ρ,G,Q,X=>wEs Γ es ρ G (fun ds G1=>Ca ds G1 Q) X
 |.dix a b,ρ,G,Q,X=>wE Γ a ρ G (fun x G1=>wE Γ b ρ G1 (fun y G2=>Jd x y G2 Q) X) X
 |.dupd a b,ρ,G,Q,X=>wE Γ a ρ G (fun x G1=>pQ G1 x∧wE Γ b ρ G1 (fun y G2=>u0 x y G2 Q) X) X
 |.dget1 a b,ρ,G,Q,X=>wE Γ a ρ G (fun x G1=>Fn G1 x∧wE Γ b ρ G1 (fun y G2=>qC x .non y G2 Q) X) X
 |.dpop2 a b c,ρ,G,Q,X=>wE Γ a ρ G (fun x G1=>pQ G1 x∧wE Γ b ρ G1 (fun y G2=>wE Γ c ρ G2 (fun z G3=>B9 x y z G3 Q) X) X) X
 |.dget2 a b c,ρ,G,Q,X=>wE Γ a ρ G (fun x G1=>Fn G1 x∧wE Γ b ρ G1 (fun y G2=>wE Γ c ρ G2 (fun z G3=>qC x z y G3 Q) X) X) X
 |.dead,_,_,_,_=>False
 |.gin n x a,ρ,G,Q,X=>match Γ.dc x with
  |some kv=>wE Γ a ρ G (fun y G1=>∃k,cC y=some k∧Q (.bl (gL n (au kv k).isSome)) G1) X
  |none=>False
 |.gix x a,ρ,G,Q,X=>match Γ.dc x with
  |some kv=>wE Γ a ρ G (fun y G1=>∃k d,cC y=some k∧au kv k=some d∧Q d G1) X
  |none=>False
 |.gget1 x a,ρ,G,Q,X=>match Γ.dc x with
  |some kv=>wE Γ a ρ G (fun y G1=>∃k,cC y=some k∧Q ((au kv k).getD .non) G1) X
  |none=>False
 |.gget2 x a b,ρ,G,Q,X=>match Γ.dc x with
  |some kv=>wE Γ a ρ G (fun y G1=>wE Γ b ρ G1 (fun z G2=>∃k,cC y=some k∧Q ((au kv k).getD z) G2) X) X
  |none=>False
 |.callV i es,ρ,G,Q,X=>match ρ[i]? with
  |some (some (.gf f))=>(match Γ.fn f with
   |some F=>(F.ar≤es.length+F.dfl.length∧es.length≤F.ar)∧wEs Γ es ρ G (fun ds G1=>F.con (ds++F.dfl.drop (es.length+F.dfl.length - F.ar)) G1 Q X) X
   |none=>False)
  |_=>False
 |.din n a b,ρ,G,Q,X=>wE Γ a ρ G (fun y G1=>wE Γ b ρ G1 (fun x G2=>∃kv k,cO G2 x=some kv∧cC y=some k∧Q (.bl (gL n (au kv k).isSome)) G2) X) X
 |.sin n a b,ρ,G,Q,X=>wE Γ a ρ G (fun x G1=>wE Γ b ρ G1 (fun y G2=>∃s t,iz x=some s∧iz y=some t∧Q (.bl (gL n (sIn s t))) G2) X) X
 |.smeth z m o es,ρ,G,Q,X=>wE Γ o ρ G (fun x G1=>∃s,iz x=some s∧wEs Γ es ρ G1 (fun ds G2=>smW z m s ds G2 Q) X) X
 |.six a b,ρ,G,Q,X=>wE Γ a ρ G (fun x G1=>wE Γ b ρ G1 (fun y G2=>∃s i c,iz x=some s∧y = .int i∧s.length≤sizeLine∧L2.atI s.cps.toList i=some c∧Q (.str ⟨#[c]⟩) G2) X) X
 |.lam q ls,_,G,Q,_=>∃cl,jq Γ.cs ls=some cl∧Q (.clo q cl) G
 |.pcall ls f es,ρ,G,Q,X=>match Γ.fn f with
  |some F=>(F.ar≤es.length+F.dfl.length∧es.length≤F.ar)∧wEs Γ es ρ G (fun ds G1=>noneG Γ.cs ls G1→F.con (ds++F.dfl.drop (es.length+F.dfl.length - F.ar)) (cW Γ.cs ρ ls G1) (fun d G2=>Q d (cx Γ.cs ls G2)) (fun c fs G2=>X c fs (cx Γ.cs ls G2))) X
  |none=>False
 |.pcallV ls i es,ρ,G,Q,X=>match ρ[i]? with
  |some (some (.gf f))=>(match Γ.fn f with
   |some F=>(F.ar≤es.length+F.dfl.length∧es.length≤F.ar)∧wEs Γ es ρ G (fun ds G1=>noneG Γ.cs ls G1→F.con (ds++F.dfl.drop (es.length+F.dfl.length - F.ar)) (cW Γ.cs ρ ls G1) (fun d G2=>Q d (cx Γ.cs ls G2)) (fun c fs G2=>X c fs (cx Γ.cs ls G2))) X
   |none=>False)
  |some (some (.clo q cl))=>(match Γ.lam q with
   |some L=>es.length=L.ar∧wEs Γ es ρ G (fun ds G1=>noneG Γ.cs ls G1→L.con cl ds (cW Γ.cs ρ ls G1) (fun d G2=>Q d (cx Γ.cs ls G2)) (fun c fs G2=>X c fs (cx Γ.cs ls G2))) X
   |none=>False)
  |_=>False
 |.mcd ls m o es,ρ,G,Q,X=>wE Γ o ρ G (fun x G1=>∃p C fs F,x = .ref p∧G1 p=some (.ins C fs)∧fs.lookup m=none∧Γ.ms C m=some F∧(F.ar≤es.length+1+F.dfl.length∧es.length+1≤F.ar)∧
   wEs Γ es ρ G1 (fun ds G2=>noneG Γ.cs ls G2→F.con (x :: (ds++F.dfl.drop (es.length+1+F.dfl.length - F.ar))) (cW Γ.cs ρ ls G2) (fun d G3=>Q d (cx Γ.cs ls G3)) (fun c fs G3=>X c fs (cx Γ.cs ls G3))) X) X
 |.xnew C es,ρ,G,Q,X=>∃fl,Γ.xc C=some fl∧fl≠[]∧wEs Γ es ρ G (fun ds G1=>ds.length=fl.length∧Q (.exc C fl ds) G1) X
 |.tidx a b,ρ,G,Q,X=>wE Γ a ρ G (fun x G1=>(∃ds,x = .ktp ds)∧wE Γ b ρ G1 (fun y G2=>su x y G2 Q) X) X
 |.ktt a,ρ,G,Q,X=>wE Γ a ρ G (fun x G1=>IM x G1 Q) X
 |.or2 a b,ρ,G,Q,X=>wE Γ a ρ G Q X∨wE Γ b ρ G Q X
 |.kslF a lo,ρ,G,Q,X=>wE Γ a ρ G (fun x G1=>wE Γ lo ρ G1 (bK fun i G2=>wO x i G2 Q) X) X
 |.mnam C m o es ks fs,ρ,G,Q,X=>match Γ.mn C m es.length ks with
  |some F=>wE Γ o ρ G (fun x G1=>BI C m x G1∧wEs Γ es ρ G1 (fun ds G2=>wEs Γ fs ρ G2 (fun zs G3=>ds.length=es.length∧zs.length=ks.length∧F.1.con (jN F.2 ((x :: ds)++zs++F.1.dfl)) G3 Q X) X) X) X
  |none=>False
 |.ccall C m es,ρ,G,Q,X=>match Γ.cm C m with
  |some F=>(F.ar≤es.length+F.dfl.length∧es.length≤F.ar)∧wEs Γ es ρ G (fun ds G1=>F.con (ds++F.dfl.drop (es.length+F.dfl.length - F.ar)) G1 Q X) X
  |none=>False
def wEs(Γ:Gam):List E→aj→AG→(List Dat→AG→Prop)→AX→Prop
 |[],_,G,Q,_=>Q [] G
 |e :: es,ρ,G,Q,X=>wE Γ e ρ G (fun d G1=>wEs Γ es ρ G1 (fun ds G2=>Q (d :: ds) G2) X) X
def wT(Γ:Gam):T→aj→AG→(Bool→AG→Prop)→AX→Prop
 |.and_ a b,ρ,G,Q,X=>wT Γ a ρ G (fun k G1=>if k=true then wT Γ b ρ G1 Q X else Q false G1) X
 |.or_ a b,ρ,G,Q,X=>wT Γ a ρ G (fun k G1=>if k=true then Q true G1 else wT Γ b ρ G1 Q X) X
 |.not_ a,ρ,G,Q,X=>wT Γ a ρ G (fun k G1=>Q (!k) G1) X
 |.ite c a b,ρ,G,Q,X=>wT Γ c ρ G (fun k G1=>if k=true then wT Γ a ρ G1 Q X else wT Γ b ρ G1 Q X) X
 |.one a,ρ,G,Q,X=>wT Γ a ρ G Q X
 |.cmp o a b,ρ,G,Q,X=>wE Γ a ρ G (fun x G1=>wE Γ b ρ G1 (fun y G2=>bY o x y G2 (bM Q)) X) X
 |.cmp2 o o' a b c,ρ,G,Q,X=>wE Γ a ρ G (fun x G1=>wE Γ b ρ G1 (fun y G2=>bY o x y G2 (bM fun k G3 =>
   if k=true then wE Γ c ρ G3 (fun z G4=>bY o' y z G4 (bM Q)) X else Q false G3)) X) X
 |.val a,ρ,G,Q,X=>wE Γ a ρ G (fun x G1=>bn x G1 Q) X
 |.gin n x a,ρ,G,Q,X=>match Γ.dc x with
  |some kv=>wE Γ a ρ G (fun y G1=>∃k,cC y=some k∧Q (gL n (au kv k).isSome) G1) X
  |none=>False
 |.din n a b,ρ,G,Q,X=>wE Γ a ρ G (fun y G1=>wE Γ b ρ G1 (fun x G2=>∃kv k,cO G2 x=some kv∧cC y=some k∧Q (gL n (au kv k).isSome) G2) X) X
 |.sin n a b,ρ,G,Q,X=>wE Γ a ρ G (fun x G1=>wE Γ b ρ G1 (fun y G2=>∃s t,iz x=some s∧iz y=some t∧Q (gL n (sIn s t)) G2) X) X
def wI(Γ:Gam):I→aj→AG→(List Dat→Gd→AG→Prop)→AX→Prop
 |.dkeys e,ρ,G,Q,X=>wE Γ e ρ G (fun d G1=>∃ks ds,d = .dz ks ds∧ks.length=ds.length∧Q (ks.map aO) [] G1) X
 |.gkeys x,_,G,Q,_=>match Γ.dc x with
  |some kv=>Q (kv.map fun q=>aO q.1) [] G
  |none=>False
 |.str a,ρ,G,Q,X=>wE Γ a ρ G (fun x G1=>∃s,iz x=some s∧Q (eN s) [] G1) X
 |.rng1 a,ρ,G,Q,X=>wE Γ a ρ G (bK fun n G1=>-(2^62)≤n∧n<2^62∧Q (dW 0 n.toNat) [] G1) X
 |.rng2 a b,ρ,G,Q,X=>wE Γ a ρ G (bK fun m G1=>wE Γ b ρ G1 (bK fun n G2=>(-(2^62)≤m∧m<2^62∧-(2^62)≤n∧n<2^62)∧Q (dW m (n - m).toNat) [] G2) X) X
 |.rng3 a b c,ρ,G,Q,X=>wE Γ a ρ G (bK fun i G1=>wE Γ b ρ G1 (bK fun j G2=>wE Γ c ρ G2 (bK fun k G3=>∃n,RgC i j k n∧Q (Cz i k n) [] G3) X) X) X
 |.seq a,ρ,G,Q,X=>wE Γ a ρ G (fun x G1=>vT x G1 Q) X
 |.zip a b,ρ,G,Q,X=>wE Γ a ρ G (fun x G1=>wE Γ b ρ G1 (fun y G2=>CU x y G2 Q) X) X
 |.enum a,ρ,G,Q,X=>wE Γ a ρ G (fun x G1=>vT x G1 fun xs gx G2=>Q (bR 0 xs) gx G2) X
end
structure bU where
 nx:aj→AG→Prop
 rt:Dat→AG→Prop
 bk:aj→AG→Prop:=fun _ _=>False
 ct:aj→AG→Prop:=fun _ _=>False
 ex:aj→AX:=fun _=>noX
def p8(body:aj→AG→bU→Prop)(g:TGt)(gd:Gd)(A:bU):List Dat→aj→AG→Prop
 |[],ρ,G=>bZ G gd∧A.nx ρ G
 |d :: ds,ρ,G=>bZ G gd∧tgW g d ρ fun ρ1=>body ρ1 G {A with nx:=p8 body g gd A ds,ct:=p8 body g gd A ds,bk:=A.nx}
def Cy:Dat→Dat→Dat→AG→(AG→Prop)→Prop
 |.ref p,.int k,v,G,Q=>∃ds j,G p=some (.lst ds)∧ixN ds.length k=some j∧Q (gu G p (.lst (ds.set j v)))
 |_,_,_,_,_=>False
def Gu:Dat→Dat→Int→Int→AG→(AG→Prop)→Prop
 |.ref p,.ref b,a,c,G,Q=>∃ds es,G p=some (.lst ds)∧G b=some (.lst es)∧p≠b∧0≤a∧a≤c∧a≤ds.length∧ds.length+es.length≤sizeLine∧Q (gu G p (.lst (ds.take a.toNat++es++ds.drop c.toNat)))
 |_,_,_,_,_,_=>False
def CN:BO→Dat→Dat→AG→AQ→Prop
 |.add,.int i,.int j,G,Q=>Q (.int (i+j)) G
 |.sub,.int i,.int j,G,Q=>Q (.int (i - j)) G
 |_,_,_,_,_=>False
mutual
def heV(Γ:Gam)(C:Str):HE→List (Str × Dat)→Option Dat
 |.cst d,_=>some d
 |.fld f,fs=>if f∈(Γ.xc C).getD [] then fs.lookup f else none
 |.tup es,fs=>match hesV Γ C es fs with
  |some ds=>if ds.length≤1000 then some (.tup ds) else none
  |none=>none
 |.fn f,fs=>(Γ.hf f).bind fun g=>g C fs
 |.isi c a b,fs=>if (Tb.exo C && (Γ.xc c).isSome)=true then (match Tb.sub (.inr C) (.inr c)with
  |some true=>heV Γ C a fs
  |some false=>heV Γ C b fs
  |none=>none) else none
def hesV(Γ:Gam)(C:Str):List HE→List (Str × Dat)→Option (List Dat)
 |[],_=>some []
 |e :: es,fs=>match heV Γ C e fs,hesV Γ C es fs with
  |some d,some ds=>some (d :: ds)
  |_,_=>none
end
def GP:Option Nat→aj→aj
 |none,ρ=>ρ
 |some i,ρ=>ρ.set i none
def hsW(Γ:Gam)(C:Str):HS→Option Nat→List (Str × Dat)→aj→AG→bU→Prop
 |.set i e,o,fs,ρ,G,A=>∃d,heV Γ C e fs=some d∧A.nx (GP o (ρ.set i (some d))) G
 |.ret e,_,fs,_,G,A=>∃d,heV Γ C e fs=some d∧A.rt d G
 |.alt _ _,_,_,_,_,_=>False
def HS.act:HS→HS
 |.alt _ a=>a
 |a=>a
def Hd.clss(h:Hd):List Str:=match h.act with
 |.alt c _=>[h.cls,c]
 |_=>[h.cls]
def CI(Γ:Gam)(h:Hd):Prop:=match h.act with
 |.alt c _=>(Γ.xc h.cls).isSome=true∧(Γ.xc c).isSome=true
 |_=>(Γ.xc h.cls).isSome=true
def wY(Γ:Gam)(C:Str)(fs:List (Str × Dat))(ρ:aj)(G:AG)(A:bU):List Hd→Prop
 |[]=>A.ex ρ C fs G
 |h :: r=>match h.act with
  |.alt c a=>∃k j,Tb.xm C h.cls=some k∧Tb.xm C c=some j∧if (k|| j)=true then hsW Γ C a h.slot fs ρ G A else wY Γ C fs ρ G A r
  |_=>∃k,Tb.xm C h.cls=some k∧if k=true then hsW Γ C h.act h.slot fs ρ G A else wY Γ C fs ρ G A r
mutual
def wS(Γ:Gam):S→aj→AG→bU→Prop
 |.set i e,ρ,G,A=>wE Γ e ρ G (fun d G1=>A.nx (ρ.set i (some d)) G1) (A.ex ρ)
 |.setTp is e,ρ,G,A=>wE Γ e ρ G (fun d G1=>tgW (.tp is) d ρ fun ρ1=>A.nx ρ1 G1) (A.ex ρ)
 |.par2 i j a b,ρ,G,A=>wE Γ a ρ G (fun x G1=>wE Γ b ρ G1 (fun y G2=>A.nx ((ρ.set i (some x)).set j (some y)) G2) (A.ex ρ)) (A.ex ρ)
 |.par3 i j k a b c,ρ,G,A=>wE Γ a ρ G (fun x G1=>wE Γ b ρ G1 (fun y G2=>wE Γ c ρ G2 (fun z G3=>A.nx (((ρ.set i (some x)).set j (some y)).set k (some z)) G3) (A.ex ρ)) (A.ex ρ)) (A.ex ρ)
 |.expr e,ρ,G,A=>wE Γ e ρ G (fun _ G1=>A.nx ρ G1) (A.ex ρ)
 |.ret e,ρ,G,A=>wE Γ e ρ G A.rt (A.ex ρ)
 |.retN,_,G,A=>A.rt .non G
 |.if_ c a b,ρ,G,A=>wT Γ c ρ G (fun k G1=>if k=true then wSs Γ a ρ G1 A else wSs Γ b ρ G1 A) (A.ex ρ)
 |.while_ c b,ρ,G,A=>∃W:Nat→aj→AG→Prop,(∃m,W m ρ G)∧∀m ρ G,W m ρ G→
   wT Γ c ρ G (fun k G1=>if k=true then wSs Γ b ρ G1 {A with nx:=fun ρ' G'=>∃m',m'<m∧W m' ρ' G',ct:=fun ρ' G'=>∃m',m'<m∧W m' ρ' G',bk:=A.nx} else A.nx ρ G1) (A.ex ρ)
 |.for_ g it b,ρ,G,A=>wI Γ it ρ G (fun ds gd G1=>p8 (fun ρ G A=>wSs Γ b ρ G A) g gd A ds ρ G1) (A.ex ρ)
 |.setSl o lo hi e,ρ,G,A=>wE Γ e ρ G (fun v G1=>wE Γ o ρ G1 (fun x G2=>wE Γ lo ρ G2 (bK fun a G3=>wE Γ hi ρ G3 (bK fun c G4=>Gu x v a c G4 fun G5=>A.nx ρ G5) (A.ex ρ)) (A.ex ρ)) (A.ex ρ)) (A.ex ρ)
 |.setIx o i e,ρ,G,A=>wE Γ e ρ G (fun v G1=>wE Γ o ρ G1 (fun x G2=>wE Γ i ρ G2 (fun k G3=>Cy x k v G3 fun G4=>A.nx ρ G4) (A.ex ρ)) (A.ex ρ)) (A.ex ρ)
 |.setIN o i j e,ρ,G,A=>wE Γ e ρ G (fun d G1=>∃a b,d = .tup [a,b]∧wE Γ o ρ G1 (fun x G2=>wE Γ i ρ G2 (fun k G3=>Cy x k a G3 fun G4=>A.nx (ρ.set j (some b)) G4) (A.ex ρ)) (A.ex ρ)) (A.ex ρ)
 |.setAtt o f e,ρ,G,A=>wE Γ e ρ G (fun v G1=>wE Γ o ρ G1 (fun x G2=>Aw Γ f v x G2 fun G3=>A.nx ρ G3) (A.ex ρ)) (A.ex ρ)
 |.setAt2 o f g e,ρ,G,A=>wE Γ e ρ G (fun d G1=>∃a b,d = .tup [a,b]∧wE Γ o ρ G1 (fun x G2=>Aw Γ f a x G2 fun G3=>wE Γ o ρ G3 (fun y G4=>Aw Γ g b y G4 fun G5=>A.nx ρ G5) (A.ex ρ)) (A.ex ρ)) (A.ex ρ)
 |.raise C es,ρ,G,A=>match es with
  |[]=>Γ.xc C=some []∧A.ex ρ C [] G
  |_=>∃fl,Γ.xc C=some fl∧fl≠[]∧wEs Γ es ρ G (fun ds G1=>ds.length=fl.length∧A.ex ρ C (fl.zip ds).reverse G1) (A.ex ρ)
 |.dset o i e,ρ,G,A=>wE Γ e ρ G (fun v G1=>wE Γ o ρ G1 (fun x G2=>wE Γ i ρ G2 (fun k G3=>B8 x k v G3 fun G4=>A.nx ρ G4) (A.ex ρ)) (A.ex ρ)) (A.ex ρ)
 |.aug i o e,ρ,G,A=>match ρ[i]? with
  |some (some x)=>wE Γ e ρ G (fun y G1=>CN o x y G1 fun z G2=>A.nx (ρ.set i (some z)) G2) (A.ex ρ)
  |_=>False
 |.pass,ρ,G,A=>A.nx ρ G
 |.brk,ρ,G,A=>A.bk ρ G
 |.cont,ρ,G,A=>A.ct ρ G
 |.dead,_,_,_=>False
 |.sub_,ρ,G,A=>∃G',Sub G' G∧A.nx ρ G'
 |.try_ b hs,ρ,G,A=>(∀h∈hs,CI Γ h)∧wSs Γ b ρ G {A with ex:=fun ρ' C fs G'=>wY Γ C fs ρ' G' A hs}
 |.retP ls e,ρ,G,A=>wE Γ e ρ G (fun d G1=>noneG Γ.cs ls G1→A.rt d (cW Γ.cs ρ ls G1)) (A.ex ρ)
def wSs(Γ:Gam):List S→aj→AG→bU→Prop
 |[],ρ,G,A=>A.nx ρ G
 |s :: ss,ρ,G,A=>wS Γ s ρ G {A with nx:=fun ρ' G'=>wSs Γ ss ρ' G' A}
end
end Av
namespace Av
variable [Tb]
def Fra(G:AG)(H:Hp)(G':AG)(H':Hp):Prop:=∀a o,H a=some o→(∀ps,o≠.tbl ps)→G a=none→H' a=some o∧G' a=none
section
variable {K:M0} {G G' G1 G2:AG} {H H' H1 H2:Hp} {p:Addr}
theorem Fra.refl:Fra G H G H:=fun _ _ h _ n=>⟨h,n⟩
theorem Fra.trans(a:Fra G H G1 H1)(b:Fra G1 H1 G2 H2):Fra G H G2 H2:=fun c o h t n=>let ⟨h1,n1⟩:=a c o h t n;b c o h1 t n1
theorem RelG.noTup(r:RelG K G H){b:Addr}{xs:List V}(e:H b=some (.tup xs)):G b=none:=by
 cases q:G b with
 |none=>rfl
 |some o =>
  obtain⟨u,z,h1⟩:=(r.g b o q).some
  rw[e]at z
  exact absurd (Option.some.inj z).symm (h1.1 xs)
theorem RelG.noFrz(r:RelG K G H){b:Addr}{o:Obj}{u:List V}(e:H b=some (.frz o (.lst u))):G b=none:=by
 cases q:G b with
 |none=>rfl
 |some w =>
  obtain⟨v,z,h2⟩:=(r.g b w q).some
  rw[e]at z
  exact absurd (Option.some.inj z).symm (h2.2.1 o u)
theorem RelG.noFzt(r:RelG K G H){b:Addr}{o:Obj}{u:List V}(e:H b=some (.frz o (.tup u))):G b=none:=by
 cases q:G b with
 |none=>rfl
 |some w =>
  obtain⟨v,z,h2⟩:=(r.g b w q).some
  rw[e]at z
  exact absurd (Option.some.inj z).symm (h2.2.2.2.2.1 o u)
theorem RelG.noFzk(r:RelG K G H){b:Addr}{o:Obj}{u:List (Key × V)}(e:H b=some (.frz o (.dK u))):G b=none:=by
 cases q:G b with
 |none=>rfl
 |some w =>
  obtain⟨v,z,h2⟩:=(r.g b w q).some
  rw[e]at z
  exact absurd (Option.some.inj z).symm (h2.2.2.2.2.2 o u)
theorem RelG.noExt(r:RelG K G H){b:Addr}{φ:Heap→Prop}(e:H b=some (.ext φ)):G b=none:=by
 cases q:G b with
 |none=>rfl
 |some w =>
  obtain⟨v,z,h2⟩:=(r.g b w q).some
  rw[e]at z
  exact absurd (Option.some.inj z).symm (h2.2.2.1 φ)
theorem Fra.stab(f:Fra G H G' H')(r:RelG K G H):Stab H H':=⟨fun b xs e=>(f b _ e (fun _ z=>(by cases z)) (r.noTup e)).1,fun b o u e=>(f b _ e (fun _ z=>(by cases z)) (r.noFrz e)).1,fun b φ e=>(f b _ e (fun _ z=>(by cases z)) (r.noExt e)).1,fun b o u e=>(f b _ e (fun _ z=>(by cases z)) (r.noFzt e)).1,fun b o u e=>(f b _ e (fun _ z=>(by cases z)) (r.noFzk e)).1⟩
theorem Fra.newT{o:HO}(h:H p=none):Fra G H G (upd H p o):=fun a u e _ n=>⟨by rw[upd_ne (ne_of_none e h)];exact e,n⟩
theorem Fra.new{o:HO}{u:AO}(h:H p=none):Fra G H (gu G p u) (upd H p o):=fun a w e _ n=>by
 have d:=ne_of_none e h
 exact⟨by rw[upd_ne d];exact e,by rw[aC d];exact n⟩
theorem Fra.set{o:HO}{u v:AO}(e:G p=some u):Fra G H (gu G p v) (upd H p o):=fun a w q _ n=>by
 have d:a≠p:=fun z=>by rw[z,e]at n;cases n
 exact⟨by rw[upd_ne d];exact q,by rw[aC d];exact n⟩
theorem Fra.sub(s:Sub G' G):Fra G H G' H:=fun a o h _ n=>⟨h,s.free n⟩
theorem Fra.free(f:Fra G H G' H'){u:HO}(h:H p=some u)(t:∀ps,u≠.tbl ps)(n:G p=none):G' p=none:=(f p u h t n).2
end
def PostE(K:M0)(G:AG)(H:Hp)(Qa:AQ)(Q:VK):Prop:=∀d G' v H',Fra G H G' H'→RelG K G' H'→Rep K H' v d→Qa d G'→Q v H'
def cE(K:M0)(H:Hp):Option Addr→List (Str × Dat)→Prop
 |none,fs=>fs=[]
 |some d,fs=>∃vf,H d=some (.xd vf)∧KRel K H vf fs
def PostX(K:M0)(G:AG)(H:Hp)(Ea:AX)(W:XK):Prop:=∀c fs G' dx H',Fra G H G' H'→RelG K G' H'→cE K H' dx fs→Ea c fs G'→W (.ref (He.ga K c)) dx H'
section
variable {K:M0} {G G1:AG} {H H1:Hp} {Qa:AQ} {Ea:AX} {Q:VK} {W:XK}
theorem PostE.fra(f:Fra G H G1 H1)(p:PostE K G H Qa Q):PostE K G1 H1 Qa Q:=fun d G' v H' f2=>p d G' v H' (f.trans f2)
theorem PostX.fra(f:Fra G H G1 H1)(p:PostX K G H Ea W):PostX K G1 H1 Ea W:=fun c fs G' dx H' f2=>p c fs G' dx H' (f.trans f2)
end
structure PostZ(K:M0)(G:AG)(H:Hp)(Qa:AQ)(Q:VK):Prop where
 p:PostE K G H Qa Q
 z:∀(G':AG) (H':Hp) (ds:List Dat) (vs:List V) (a:Addr),Fra G H G' H'→H' a=none→RelG K G' H'→Reps K H' vs ds→Qa (.lst ds) G'→Q (.ref a) (upd H' a (.lst vs))
def Qz(Q:VK):VK:=fun v H=>Q v H∨∃a vs,v = .ref a∧H a=some (.lst vs)∧∀o,Q v (upd H a (.frz o (.lst vs)))
theorem upd_upd{H:Hp}{p:Addr}{o u:HO}:upd (upd H p o) p u=upd H p u:=by
 funext b
 by_cases h:b=p
 ·subst h;rw[upd_same,upd_same]
 ·rw[upd_ne h,upd_ne h,upd_ne h]
theorem bH{K:M0}{G:AG}{H:Hp}{Qa:AQ}{Q:VK}(p:PostE K G H Qa Q):PostZ K G H Qa (Qz Q):=by
 refine⟨fun d G' v H' f g r q=>.inl (p d G' v H' f g r q),fun G' H' ds vs a f ha rg r q=>.inr ⟨a,vs,rfl,upd_same,fun o=>?_⟩⟩
 rw[upd_upd]
 exact p (.lst ds) G' (.ref a) _ (f.trans (.newT ha)) (rg.newT ha) (.lst ⟨o,upd_same⟩ (r.mono (.new ha))) q
theorem PostZ.fra{K:M0}{G G1:AG}{H H1:Hp}{Qa:AQ}{Q:VK}(f:Fra G H G1 H1)(p:PostZ K G H Qa Q):PostZ K G1 H1 Qa Q :=
 ⟨p.p.fra f,fun G' H' ds vs a f2=>p.z G' H' ds vs a (f.trans f2)⟩
def OpA(K:M0)(r:R2)(rA:Dat→Dat→AG→AQ→Prop):Prop :=
 ∀(H:Hp) (x y:V) (d e:Dat) (G:AG) (Qa:AQ) (Q:VK),Rep K H x d→Rep K H y e→RelG K G H→rA d e G Qa→PostZ K G H Qa Q→r x y H Q
theorem aA{K:M0}{G:AG}{H:Hp}{Qa:AQ}{Q:VK}{ds:List Dat}{vs:List V}(rg:RelG K G H)(r:Reps K H vs ds){z:Bool}(h:nw z ds G Qa)(p:PostZ K G H Qa Q):∀a,H a=none→Q (.ref a) (upd H a (.lst vs)):=fun a ha=>by
 unfold nw at h
 cases z with
 |true =>
  rw[if_pos rfl]at h
  exact p.z G H ds vs a .refl ha rg r h.2
 |false =>
  rw[if_neg (by simp)]at h
  exact p.p (.ref a) (gu G a (.lst ds)) (.ref a) _ (.new ha) (rg.new ha ⟨vs,upd_same,r.mono (.new ha)⟩) (.ref a) (h.2 a (rg.free ha))
theorem iO{z:Bool}{ds:List Dat}{G:AG}{Q:AQ}(h:nw z ds G Q):ds.length≤sizeLine:=by
 unfold nw at h
 cases z with
 |true=>exact (by rw[if_pos rfl]at h;exact h.1)
 |false=>exact (by rw[if_neg (by simp)]at h;exact h.1)
theorem am{K:M0}{G:AG}{H:Hp}{x:V}{d:Dat}{ds:List Dat}(rg:RelG K G H)(r:Rep K H x d)(e:ai G d=some ds):∃a vs,x = .ref a∧Rd H a (.lst vs)∧Reps K H vs ds:=by
 cases d with
 |lst es =>
  cases e
  cases r with
  |lst h q=>obtain⟨o,h⟩:=h;exact⟨_,_,rfl,.inr ⟨o,h⟩,q⟩
 |ref a =>
  cases r
  cases q:G a with
  |none=>simp only[ai,q]at e;cases e
  |some o =>
   simp only[ai,q]at e
   cases o with
   |lst es =>
    cases e
    obtain⟨vs,h,r⟩:=rg.lst q
    exact⟨a,vs,rfl,.inl h,r⟩
   |_=>cases e
 |_=>cases e
theorem cR{K:M0}{G:AG}{H:Hp}{x:V}{d:Dat}{ds:List Dat}(rg:RelG K G H)(r:Rep K H x d)(e:aV G d=some ds):∃a vs,x = .ref a∧(SqL K H a vs∨SqT K H a vs)∧Reps K H vs ds:=by
 cases d with
 |tup es =>
  cases e
  cases r with
  |tup h q=>exact⟨_,_,rfl,.inr h.sq,q⟩
 |kls es =>
  cases e
  cases r with
  |kls h q=>exact⟨_,_,rfl,.inl h.sq,q⟩
 |lst es =>
  obtain⟨a,vs,h1,h2,h3⟩:=am rg r e
  exact⟨a,vs,h1,.inl (.inl h2),h3⟩
 |ref a =>
  obtain⟨a,vs,h1,h2,h3⟩:=am rg r e
  exact⟨a,vs,h1,.inl (.inl h2),h3⟩
 |ktp l =>
  cases e
  cases r with
  |ktp h h2 =>
   obtain⟨o,h,_⟩:=h
   exact⟨_,_,rfl,.inr (.inl (.inr ⟨o,h⟩)),h2⟩
 |_=>cases e
theorem oY{X:Cx}{pins:List (Addr × Obj)}{σ:L2.St}{H:Hp}{s:Shared}{l:Addr}{xs:List V}(I:Inv X pins σ H s)(h:Rd H l (.lst xs)) :
  xs.length≤sizeLine∧∃(its:List Value) (n:Nat),Vals xs its∧xs.length=its.length∧s.heap.get? l=some {cls:=.type "list",data:=.seq its.toArray n}:=by
 obtain⟨z,its,n,r,e⟩:=h.ok I.hok
 exact⟨z,its,n,r,r.length,e⟩
def lX:R2:=fun x y H Q=>∃l b xs zs,x = .ref l∧y = .ref b∧Rd H l (.lst xs)∧Rd H b (.lst zs)∧xs.length+zs.length≤sizeLine∧∀p,H p=none→Q (.ref p) (upd H p (.lst (xs++zs)))
theorem oG{X:Cx}:OpR X (binaryOp .Add) lX:=by
 intro pins s σ H x y v u Q I rx ry h
 obtain⟨l,b,xs,zs,rfl,rfl,hl,hb,hz,q⟩:=h
 cases rx
 cases ry
 obtain⟨_,i1,n1,r1,l1,e1⟩:=oY I hl
 obtain⟨_,i2,n2,r2,l2,e2⟩:=oY I hb
 refine PySem.P.add_list e1 e2 ?_ (by simp only[List.size_toArray];omega)
 rw[show i1.toArray++i2.toArray=(i1++i2).toArray by simp]
 exact⟨.ref _,_,I.lnew (t':=s.toks) (r1.append r2) (by simp only[Mf];omega),rfl,q _ I.fresh⟩
def eQ(K:M0):R2:=fun x y H Q=>∃a b xs ys,x = .ref a∧y = .ref b∧SqT K H a xs∧SqT K H b ys∧xs.length+ys.length≤sizeLine∧(xs=[]→Q (.ref b) H)∧(xs≠[]→ys=[]→Q (.ref a) H)∧(xs≠[]→ys≠[]→∀p,H p=none→Q (.ref p) (upd H p (.tup (xs++ys))))
theorem Cl{prog:Program}{w:World}{A:Around}{E:Value→Shared→Prop}{s:Shared}{t b:Addr}{ws:List Value}{Q:Value→Shared→Prop}(ht:IsTup s.heap t ([]:List Value).toArray)(hb:IsTup s.heap b ws.toArray)(h:Q (.ref b) s) :
  wpAny (model prog w) A (binaryOp .Add (.ref t) (.ref b)) Q E s:=by
 obtain⟨⟨c1,d1,t1,l1⟩,e1,hc1,n1,hd1⟩:=id ht
 obtain⟨⟨c2,d2,t2,l2⟩,e2,hc2,n2,hd2⟩:=id hb
 cases (show c1 = .type "tuple" from hc1)
 cases (show c2 = .type "tuple" from hc2)
 cases (show t1 = .seq _ n1 from hd1)
 cases (show t2 = .seq _ n2 from hd2)
 exact concat_meets ⟨_,e1,rfl⟩ ⟨_,e2,rfl⟩ noFill_tuple_add seq_tuple_add PySem.F.slot_tuple_add PySem.F.entry_tuple_add (PySem.F.args_tuple_add_2 _ _)
  (tuple_addW0 t b _ ws.toArray n1 n2 d1 d2 l1 l2 (by simp)) ⟨e1,e2,h⟩
theorem op_catTup{X:Cx}:OpR X (binaryOp .Add) (eQ X.K):=by
 intro pins s σ H x y v u Q I rx ry h
 obtain⟨a,b,xs,ys,rfl,rfl,ha,hb,hz,q0,q1,q2⟩:=h
 cases rx
 cases ry
 obtain⟨i1,r1,t1,_⟩:=I.tuple ha
 obtain⟨i2,r2,t2,_⟩:=I.tuple hb
 have l1:=r1.length
 have l2:=r2.length
 by_cases hx:xs=[]
 ·subst hx
  cases r1
  exact Cl t1 t2 ⟨.ref b,H,I,rfl,q0 rfl⟩
 ·refine HT.cat_tup t1 t2 (fun z=>hx (r1.nil_iff.mp z)) (fun z=>⟨.ref a,H,I,rfl,q1 hx (r2.nil_iff.mp z)⟩) (fun z=>?_) (by omega)
  exact⟨.ref _,_,I.laid (t':=s.toks) (o:=.tup (xs++ys)) (fun _ _ z=>Heap.get?_push_of_some _ z) (M7 _) ⟨by rw[Mf];exact hz,_,r1.append r2,_,Heap.get?_push_size _ rfl,rfl,0,rfl⟩,rfl,
   q2 hx (fun e=>z (r2.nil_iff.mpr e)) _ I.fresh⟩
theorem gm(l:Addr)(items:Array Value)(n:Nat)(dd:Option Addr)(sl:Array (Option Value))(x:Int)(u:Tok)(c0:(decide (x< -(2^63))|| decide (x ≥ 2^63))=false)(c1:(items.isEmpty|| x == 1)=true) :
  Meets (Builtin.«tuple.__mul__» ⟨[.ref l,.int x u],[]⟩) (fun _ R s=>s.heap.get? l=some {cls:=.type "tuple",dict:=dd,data:=.seq items n,slots:=sl}∧
   R (.ok (.ret (Value.ref l))) s) :=
 .of_wp fun prog w A R s h=>by
  obtain⟨hp,g,d,tk,os⟩:=s
  obtain⟨hl,h⟩:=h
  have f1:=AutoSeq1.idx_int
  wp_walk using wpAny_loadPart' hl
  repeat (first
   |(refine wpAny_ite_false (decide_eq_false (by rw[c0];exact Bool.false_ne_true)) ?_;wp_walk using wpAny_loadPart' hl)
   |(refine wpAny_ite_true (decide_eq_true c1) ?_;wp_walk using wpAny_loadPart' hl))
  all_goals first|exact⟨_,rfl,h⟩|exact h
theorem ir(l:Addr)(items:Array Value)(n:Nat)(dd:Option Addr)(sl:Array (Option Value))(x:Int)(u:Tok)(c0:(decide (x< -(2^63))|| decide (x ≥ 2^63))=false)(c1:(items.isEmpty|| x == 1)=false)(c2:(decide (x≤0)|| items.isEmpty)=true) :
  Meets (Builtin.«tuple.__mul__» ⟨[.ref l,.int x u],[]⟩) (fun _ R s=>s.heap.get? l=some {cls:=.type "tuple",dict:=dd,data:=.seq items n,slots:=sl}∧
   R (.ok (.ret (Value.ref s.heap.objs.size))) {s with heap:=s.heap.push {cls:=Value.type "tuple",data:=Data.seq #[]},toks:=s.toks}) :=
 .of_wp fun prog w A R s h=>by
  obtain⟨hp,g,d,tk,os⟩:=s
  obtain⟨hl,h⟩:=h
  have f1:=AutoSeq1.idx_int
  wp_walk using wpAny_loadPart' hl
  repeat (first
   |(refine wpAny_ite_false (decide_eq_false (by rw[c0];exact Bool.false_ne_true)) ?_;wp_walk using wpAny_loadPart' hl)
   |(refine wpAny_ite_false (decide_eq_false (by rw[c1];exact Bool.false_ne_true)) ?_;wp_walk using wpAny_loadPart' hl)
   |(refine wpAny_ite_true (decide_eq_true c2) ?_;wp_walk using wpAny_loadPart' hl))
  all_goals first|exact⟨_,rfl,h⟩|exact h
def oa(K:M0):R2:=fun x y H Q=>∃l k xs,x = .ref l∧y = .int k∧SqT K H l xs∧-(2^63)≤k∧k<2^63∧xs.length*k.toNat≤100000∧((xs=[]∨k=1)→Q (.ref l) H)∧(xs≠[]→k≠1→∀p,H p=none→Q (.ref p) (upd H p (.tup (Mh k.toNat xs).flatten)))
theorem oC{X:Cx}:OpR X (binaryOp .Mult) (oa X.K):=by
 intro pins s σ H x y v u Q I rx ry h
 obtain⟨l,k,xs,rfl,rfl,hT,h1,h2,hz,q1,q2⟩:=h
 cases rx
 obtain⟨t,rfl⟩:=ry
 obtain⟨its,r,⟨⟨cls,dd,data,sl⟩,ho,hc,n,hd⟩,hs⟩:=I.tuple hT
 simp only at hc hd
 subst hc hd
 have hle:its.length=xs.length:=r.length.symm
 have hsz0:its.toArray.size=xs.length:=by rw[List.size_toArray,hle]
 have c0:(decide (k< -(2^63))|| decide (k ≥ 2^63))=false:=by
  rw[decide_eq_false (by omega),decide_eq_false (by omega)] <;> rfl
 by_cases hs1:xs=[]∨k=1
 ·have c1:(its.toArray.isEmpty|| k == 1)=true:=by
   rcases hs1 with e|e
   ·subst e
    have:its=[]:=List.eq_nil_of_length_eq_zero (by rw[hle];rfl)
    subst this
    rfl
   ·subst e;simp
  exact wpAny_binaryOp_repeat_ref (T := "tuple") (U := "int") (by decide) ⟨_,ho,rfl⟩ (fun s'=>typeIs_int s' k t) noFill_tuple_mul F.fills_int_mul F.slot_int_rmul repeat_tuple F.slot_int_index.lookup
   (call_meets F.slot_int_rmul (typeIs_int s k t) F.entry_int_rmul (F.args_int_rmul_2 _ _) (int_rmul_tuple k t l its.toArray n dd sl)
    ⟨ho,rfl,⟨_,ho,rfl⟩,call_meets F.slot_tuple_mul ⟨_,ho,rfl⟩ F.entry_tuple_mul (F.args_tuple_mul_2 _ _) (gm l its.toArray n dd sl k t c0 c1) ⟨ho,⟨.ref l,H,I,rfl,q1 hs1⟩⟩⟩)
 ·have hne:xs≠[]:=fun e=>hs1 (.inl e)
  have hk1:k≠1:=fun e=>hs1 (.inr e)
  have hn:its≠[]:=fun e=>hne (by
   rw[e]at hle
   exact List.eq_nil_of_length_eq_zero hle.symm)
  have hi:its.toArray.isEmpty=false:=by
   cases its with
   |nil=>exact absurd rfl hn
   |cons a b=>rfl
  have c1:(its.toArray.isEmpty|| k == 1)=false:=by
   rw[hi,Bool.false_or]
   exact beq_eq_false_iff_ne.mpr (by omega)
  by_cases hk0:k≤0
  ·have c2:(decide (k≤0)|| its.toArray.isEmpty)=true:=by rw[decide_eq_true hk0];rfl
   have e0:(Mh k.toNat xs).flatten=[]:=by
    have:k.toNat=0:=by omega
    rw[this];rfl
   rw[e0]at q2
   refine wpAny_binaryOp_repeat_ref (T := "tuple") (U := "int") (by decide) ⟨_,ho,rfl⟩ (fun s'=>typeIs_int s' k t) noFill_tuple_mul F.fills_int_mul F.slot_int_rmul repeat_tuple F.slot_int_index.lookup
    (call_meets F.slot_int_rmul (typeIs_int s k t) F.entry_int_rmul (F.args_int_rmul_2 _ _) (int_rmul_tuple k t l its.toArray n dd sl)
     ⟨ho,rfl,⟨_,ho,rfl⟩,call_meets F.slot_tuple_mul ⟨_,ho,rfl⟩ F.entry_tuple_mul (F.args_tuple_mul_2 _ _) (ir l its.toArray n dd sl k t c0 c1 c2) ⟨ho,?_⟩⟩)
   refine⟨.ref s.heap.objs.size,_,I.laid (t':=s.toks) (o:=.tup []) (fun b ob q=>Heap.get?_push_of_some _ q) (M7 _) ?_,rfl,q2 hne hk1 _ (I.hok.fresh (M7 _))⟩
   exact⟨Nat.zero_le _,_,.nil,IsTup.new _ _⟩
  ·have hm:((its.toArray.size:Nat):Int)*k=((xs.length*k.toNat:Nat):Int):=by
    rw[hsz0,Int.natCast_mul,Int.toNat_of_nonneg (by omega)]
   have big:100000≤sizeLine:=by decide
   have flen:(Mh k.toNat its).flatten.length≤sizeLine:=by
    rw[PyProof.Rows.lm_len_rep_flat,hle,Nat.mul_comm]
    omega
   have c2:(decide (k≤0)|| its.toArray.isEmpty)=false:=by
    rw[hi,Bool.or_false]
    exact decide_eq_false hk0
   have c4:Builtin.Tuple.tupleTooMany (((its.toArray.size:Nat):Int)*k)=false:=by
    unfold Builtin.Tuple.tupleTooMany
    rw[sizeLine_eq,hm]
    exact decide_eq_false (by omega)
   refine wpAny_binaryOp_repeat_ref (T := "tuple") (U := "int") (by decide) ⟨_,ho,rfl⟩ (fun s'=>typeIs_int s' k t) noFill_tuple_mul F.fills_int_mul F.slot_int_rmul repeat_tuple F.slot_int_index.lookup
    (call_meets F.slot_int_rmul (typeIs_int s k t) F.entry_int_rmul (F.args_int_rmul_2 _ _) (int_rmul_tuple k t l its.toArray n dd sl)
     ⟨ho,rfl,⟨_,ho,rfl⟩,call_meets F.slot_tuple_mul ⟨_,ho,rfl⟩ F.entry_tuple_mul (F.args_tuple_mul_2 _ _) (tuple_mulW l its.toArray n dd sl k t c0 c1 c2 (by rw[hm];omega) c4 (by rw[size_rep,List.size_toArray];exact flen)) ⟨ho,?_⟩⟩)
   rw[size_rep]
   refine⟨.ref s.heap.objs.size,_,I.laid (t':=s.toks) (o:=.tup (Mh k.toNat xs).flatten) (fun b ob q=>Heap.get?_push_of_some _ q) (M7 _) ?_,rfl,q2 hne hk1 _ (I.hok.fresh (M7 _))⟩
   exact⟨by rw[PyProof.Rows.lm_len_rep_flat,Nat.mul_comm];omega,_,r.rep k.toNat,IsTup.new _ _⟩
def Eg(K:M0):R2:=fun x y H Q=>∃a b xs ys,x = .ref a∧y = .ref b∧SqT K H a xs∧SqT K H b ys∧xs.length+ys.length≤sizeLine∧xs≠[]∧ys≠[]∧∀p o,H p=none→o.dict=none→Q (.ref p) (upd H p (.frz o (.tup (xs++ys))))
theorem AU{X:Cx}:OpR X (binaryOp .Add) (Eg X.K):=by
 intro pins s σ H x y v u Q I rx ry h
 obtain⟨a,b,xs,ys,rfl,rfl,ha,hb,hz,hx,hy,q⟩:=h
 cases rx
 cases ry
 obtain⟨i1,r1,t1,_⟩:=I.tuple ha
 obtain⟨i2,r2,t2,_⟩:=I.tuple hb
 have l1:=r1.length
 have l2:=r2.length
 refine HT.cat_tup t1 t2 (fun z=>hx (r1.nil_iff.mp z)) (fun z=>absurd (r2.nil_iff.mp z) hy) (fun z=>?_) (by omega)
 exact⟨.ref _,_,I.laid (t':=s.toks) (o:=.frz {cls:=.type "tuple",data:=.seq (i1++i2).toArray} (.tup (xs++ys))) (fun _ _ z=>Heap.get?_push_of_some _ z) (M7 _) ⟨Heap.get?_push_size _ rfl,by rw[Mf];exact hz,_,r1.append r2,_,Heap.get?_push_size _ rfl,rfl,0,rfl⟩,rfl,
   q _ _ I.fresh rfl⟩
section
variable {K:M0} {H:Hp} {x:V}
theorem aB{i:Int}(r:Rep K H x (.int i)):x = .int i:=by cases r;rfl
theorem dn{i:Str}(r:Rep K H x (.str i)):x = .str i:=by cases r;rfl
theorem fx{i:Bool}(r:Rep K H x (.bl i)):x = .bl i:=by cases r;rfl
theorem nZ(r:Rep K H x .non):x = .non:=by cases r;rfl
theorem aK{a:Addr}(r:Rep K H x (.ref a)):x = .ref a:=by cases r;rfl
theorem D8{n:String}(r:Rep K H x (.ty n)):x = .ty n:=by cases r;rfl
theorem aW{ds:List Dat}(r:Rep K H x (.tup ds)):∃a vs,x = .ref a∧TpAt K H a vs∧Reps K H vs ds:=by
 cases r with
 |tup h q=>exact⟨_,_,rfl,h,q⟩
end
theorem PostE.val{K:M0}{G:AG}{H:Hp}{Qa:AQ}{Q:VK}(p:PostE K G H Qa Q)(rg:RelG K G H){v:V}{d:Dat}(r:Rep K H v d)(q:Qa d G):Q v H:=p d G v H .refl rg r q
theorem PostE.newT{K:M0}{G:AG}{H:Hp}{Qa:AQ}{Q:VK}(p:PostE K G H Qa Q)(rg:RelG K G H){vs:List V}{ds:List Dat}(r:Reps K H vs ds)(q:Qa (.tup ds) G):∀a,H a=none→Q (.ref a) (upd H a (.tup vs)):=fun a ha =>
 p (.tup ds) G (.ref a) _ (.newT ha) (rg.newT ha) (.tup (.inl upd_same) (r.mono (.new ha))) q
theorem PostZ.val{K:M0}{G:AG}{H:Hp}{Qa:AQ}{Q:VK}(p:PostZ K G H Qa Q)(rg:RelG K G H){v:V}{d:Dat}(r:Rep K H v d)(q:Qa d G):Q v H:=p.p.val rg r q
theorem PostZ.newT{K:M0}{G:AG}{H:Hp}{Qa:AQ}{Q:VK}(p:PostZ K G H Qa Q)(rg:RelG K G H){vs:List V}{ds:List Dat}(r:Reps K H vs ds)(q:Qa (.tup ds) G):∀a,H a=none→Q (.ref a) (upd H a (.tup vs)):=p.p.newT rg r q
def BO.op:BO→Operator
 |.add=>.Add|.sub=>.Sub|.mul=>.Mult|.fdiv=>.FloorDiv|.mod=>.Mod|.pow=>.Pow|.shl=>.LShift|.shr=>.RShift|.band=>.BitAnd|.kadd=>.Add
theorem fZ{ds:List Dat}{vs:List V}{K:M0}{H:Hp}(r:Reps K H vs ds):vs=[] ↔ ds=[]:=by
 have e:=r.length
 cases vs <;> cases ds <;> simp_all
theorem lS{K:M0}{G:AG}{H:Hp}{Qa:AQ}{Q:VK}{x y:V}{a b:List Dat}(rx:Rep K H x (.tup a))(ry:Rep K H y (.tup b))(rg:RelG K G H)(hz:a.length+b.length≤sizeLine)(q:Qa (.tup (a++b)) G)(p:PostZ K G H Qa Q):eQ K x y H Q:=by
 obtain⟨l,xs,rfl,h1,r1⟩:=aW rx
 obtain⟨m,ys,rfl,h2,r2⟩:=aW ry
 refine⟨l,m,xs,ys,rfl,rfl,h1.sq,h2.sq,by rw[r1.length,r2.length];exact hz,fun e=>?_,fun _ e=>?_,fun _ _=>p.newT rg (r1.append r2) q⟩
 ·have e1:=(fZ r1).mp e
  subst e1
  exact p.val rg ry q
 ·have e1:=(fZ r2).mp e
  subst e1
  rw[List.append_nil]at q
  exact p.val rg rx q
def AB(K:M0):R2:=fun x y H Q=>rI0 (fun i j=>.int (i+j)) x y H Q∨(∃i j,x = .str i∧y = .str j∧i.length+j.length≤sizeLine∧Q (.str (i++j)) H)∨eQ K x y H Q∨lX x y H Q
theorem tD{X:Cx}:OpR X (binaryOp .Add) (AB X.K):=op_add.or (op_add_str.or (op_catTup.or oG))
theorem vJ{K:M0}{G:AG}{H:Hp}{Qa:AQ}{Q:VK}{x y:V}{d e:Dat}{z:Bool}(rx:Rep K H x d)(ry:Rep K H y e)(rg:RelG K G H)(h:∃a b,ai G d=some a∧ai G e=some b∧nw z (a++b) G Qa)(p:PostZ K G H Qa Q):lX x y H Q:=by
 obtain⟨a,b,h1,h2,h3⟩:=h
 obtain⟨l,vs,rfl,k1,r1⟩:=am rg rx h1
 obtain⟨m,ws,rfl,k2,r2⟩:=am rg ry h2
 have hz:=iO h3
 rw[Mf]at hz
 exact⟨l,m,vs,ws,rfl,rfl,k1,k2,by rw[r1.length,r2.length];exact hz,aA rg (r1.append r2) h3 p⟩
theorem AY{K:M0}{z:Bool}:OpA K (AB K) (cL z .add):=by
 intro H x y d e G Qa Q rx ry rg h p
 have no:∀{a b:List Dat},ai G d=some a→ai G e=some b→nw z (a++b) G Qa→AB K x y H Q:=fun h1 h2 h3=>.inr (.inr (.inr (vJ rx ry rg ⟨_,_,h1,h2,h3⟩ p)))
 cases d with
 |int i =>
  cases e with
  |int j=>cases aB rx;cases aB ry;exact .inl ⟨i,j,rfl,rfl,p.val rg (.int _) h⟩
  |_=>obtain⟨a,b,h1,h2,h3⟩:=h;exact no h1 h2 h3
 |str i =>
  cases e with
  |str j=>cases dn rx;cases dn ry;exact .inr (.inl ⟨i,j,rfl,rfl,h.1,p.val rg (.str _) h.2⟩)
  |_=>obtain⟨a,b,h1,h2,h3⟩:=h;exact no h1 h2 h3
 |tup i =>
  cases e with
  |tup j=>exact .inr (.inr (.inl (lS rx ry rg h.1 h.2 p)))
  |_=>obtain⟨a,b,h1,h2,h3⟩:=h;exact no h1 h2 h3
 |_=>obtain⟨a,b,h1,h2,h3⟩:=h;exact no h1 h2 h3
theorem tS{K:M0}{z:Bool}:OpA K (Eg K) (cL z .kadd):=by
 intro H x y d e G Qa Q rx ry rg h p
 cases d with
 |tup a =>
  cases e with
  |tup b =>
   obtain⟨l,xs,rfl,h1,r1⟩:=aW rx
   obtain⟨m,ys,rfl,h2,r2⟩:=aW ry
   exact⟨l,m,xs,ys,rfl,rfl,h1.sq,h2.sq,by rw[r1.length,r2.length];exact h.1.2,fun e=>h.1.1.1 ((fZ r1).mp e),fun e=>h.1.1.2 ((fZ r2).mp e),fun q o hq ho=>p.1 _ G _ _ (.newT hq) (rg.newT hq) (.ktp ⟨o,upd_same,ho⟩ ((r1.append r2).mono (.new hq))) h.2⟩
  |_=>exact False.elim h
 |_=>cases e <;> exact False.elim h
def Ee:R2:=fun x y H Q=>∃l k xs,x = .ref l∧y = .int k∧Rd H l (.lst xs)∧-(2^63)≤k∧k<2^63∧xs.length*k.toNat≤sizeLine∧∀p,H p=none→Q (.ref p) (upd H p (.lst (Mh k.toNat xs).flatten))
theorem op_repR{X:Cx}:OpR X (binaryOp .Mult) Ee:=by
 intro pins s σ H x y v u Q I rx ry h
 obtain⟨l,k,xs,rfl,rfl,hl,h1,h2,hz,q⟩:=h
 cases rx
 obtain⟨t,rfl⟩:=ry
 obtain⟨z,its,n,r,el,e⟩:=oY I hl
 have a1:its.toArray.size*k.toNat≤sizeLine:=by simp only[List.size_toArray];rw[←el];exact hz
 have a2:¬its.toArray.size*k.toNat > (2^63 - 1) / 8:=by
  have b:(sizeLine:Nat)≤(2^63 - 1) / 8:=by decide
  omega
 have a3:¬(!Builtin.List.listFitsIndex k)=true:=by
  rw[fitsIndex_both h1 h2]
  simp
 have a4:¬Builtin.List.listTooLong (its.toArray.size*k.toNat)=true:=by
  rw[notLongL a1]
  simp
 have a5:List.foldl (fun x1 x2=>x1++x2) #[] (Mh (if its.toArray.isEmpty=true then 0 else k.toNat) its.toArray)=(Mh k.toNat its).flatten.toArray:=by
  have f0:∀m:Nat,List.foldl (fun x1 x2=>x1++x2) #[] (Mh m its.toArray)=(Mh m its).flatten.toArray:=fun m=>by
   have b:=foldl_rep its m []
   rw[List.nil_append]at b
   exact b
  rw[f0]
  cases its with
  |nil=>simp
  |cons a q=>rw[if_neg (by simp)]
 refine wpAny_binaryOp_repeat_ref (T := "list") (U := "int") (by decide) ⟨_,e,rfl⟩ (fun s'=>typeIs_int s' k t) noFill_list_mul F.fills_int_mul F.slot_int_rmul repeat_list F.slot_int_index.lookup
  (call_meets F.slot_int_rmul (typeIs_int s k t) F.entry_int_rmul (F.args_int_rmul_2 _ _) (int___rmul___int_list k t l its.toArray n)
   ⟨e,rfl,⟨_,e,rfl⟩,call_meets F.slot_list_mul ⟨_,e,rfl⟩ F.entry_list_mul (F.args_list_mul_2 _ _) (AutoListH.list___mul___list_int_3 l its.toArray n k t a3 a2 a4) ⟨e,?_⟩⟩)
 rw[a5]
 exact⟨.ref _,_,I.lnew (t':=s.toks) (r.rep k.toNat) (by rw[PyProof.Rows.lm_len_rep_flat,Nat.mul_comm];exact hz),rfl,q _ I.fresh⟩
def Ef:R2:=fun x y H Q=>∃a k,x = .str a∧y = .int k∧-(2^63)≤k∧k≤1∧Q (.str (if k<1 then Str.empty else a)) H
theorem op_mulS{X:Cx}:OpR X (binaryOp .Mult) Ef:=by
 intro pins s σ H x y v u Q I rx ry ⟨a,k,e1,e2,h1,h2,q⟩
 subst e1 e2
 obtain⟨t,rfl⟩:=rx
 obtain⟨t',rfl⟩:=ry
 have n1:¬k< -(2^63):=by omega
 have n2:¬k ≥ 2^63:=by omega
 have one:¬k<1→k=1:=fun z=>by omega
 refine PySem.P.mul_str (by rw[decide_eq_false n1,decide_eq_false n2];rfl) (fun z e=>?_) (fun z e=>?_) ?_
 ·rw[one z]at e;cases e
 ·rw[one z]at e;cases e
 ·by_cases h:k<1
  ·rw[if_pos h]at q ⊢
   exact⟨by decide,.str Str.empty,H,I.tok _,⟨_,rfl⟩,q⟩
  ·rw[if_neg h]at q ⊢
   rw[one h]
   exact⟨.str a,H,I.tok _,⟨_,rfl⟩,q⟩
def Az(K:M0):R2:=fun x y H Q=>rI CMul (fun i j=>.int (i*j)) x y H Q∨Ee x y H Q∨Ef x y H Q∨oa K x y H Q
theorem tA{X:Cx}:OpR X (binaryOp .Mult) (Az X.K):=op_mul.or (op_repR.or (op_mulS.or oC))
theorem Bx{α:Type}(n:Nat)(l:List α):(Mh n l).flatten.length=l.length*n:=by
 simp[List.length_flatten,Nat.mul_comm]
theorem AW{K:M0}{z:Bool}:OpA K (Az K) (cL z .mul):=by
 intro H x y d e G Qa Q rx ry rg h p
 have no:∀{k:Int},e = .int k→(∃a,ai G d=some a∧-(2^63)≤k∧k<2^63∧nw z (Mh k.toNat a).flatten G Qa)→Az K x y H Q:=fun {k} he hq=>by
  subst he
  obtain⟨a,h1,h2,h3,h4⟩:=hq
  cases aB ry
  obtain⟨l,vs,rfl,k1,r1⟩:=am rg rx h1
  have hz:=iO h4
  rw[Bx]at hz
  exact .inr (.inl ⟨l,k,vs,rfl,rfl,k1,h2,h3,by rw[r1.length];exact hz,aA rg (r1.rep _) h4 p⟩)
 cases d with
 |int i =>
  cases e with
  |int j=>cases aB rx;cases aB ry;exact .inl ⟨i,j,rfl,rfl,h.1,p.val rg (.int _) h.2⟩
  |_=>exact False.elim h
 |str a =>
  cases e with
  |int j=>cases dn rx;cases aB ry;exact .inr (.inr (.inl ⟨a,j,rfl,rfl,h.1.1,h.1.2,p.val rg (.str _) h.2⟩))
  |_=>exact False.elim h
 |tup a =>
  cases e with
  |int j =>
   cases aB ry
   obtain⟨l,xs,rfl,h1,r1⟩:=aW rx
   refine .inr (.inr (.inr ⟨l,j,xs,rfl,rfl,h1.sq,h.1.1.1,h.1.1.2,by rw[r1.length];exact h.1.2,fun e=>?_,fun _ _=>p.newT rg (r1.rep _) h.2⟩))
   have q:=h.2
   have e2:(Mh j.toNat a).flatten=a:=by
    rcases e with e|e
    ·rw[(fZ r1).mp e];simp
    ·rw[e];simp
   rw[e2]at q
   exact p.val rg rx q
  |_=>exact False.elim h
 |_ =>
  cases e with
  |int j=>exact no rfl h
  |_=>exact False.elim h
theorem jO{K:M0}{C:Int→Int→Prop}{g:Int→Int→Int}{rA:Dat→Dat→AG→AQ→Prop}(e:∀d e G Q,rA d e G Q→∃i j,d = .int i∧e = .int j∧C i j∧Q (.int (g i j)) G):OpA K (rI C fun i j=>.int (g i j)) rA:=by
 intro H x y d e' G Qa Q rx ry rg h p
 obtain⟨i,j,rfl,rfl,h1,h2⟩:=e _ _ _ _ h
 cases aB rx
 cases aB ry
 exact⟨i,j,rfl,rfl,h1,p.val rg (.int _) h2⟩
theorem El{g:Int→Int→V}{x y:V}{H:Hp}{Q:VK}(h:rI (fun _ _=>True) g x y H Q):rI0 g x y H Q:=by
 obtain⟨i,j,h1,h2,_,h3⟩:=h
 exact⟨i,j,h1,h2,h3⟩
theorem OpA.imp{K:M0}{r r':R2}{rA:Dat→Dat→AG→AQ→Prop}(f:∀x y H Q,r x y H Q→r' x y H Q)(h:OpA K r rA):OpA K r' rA:=fun H x y d e G Qa Q rx ry rg q p=>f _ _ _ _ (h H x y d e G Qa Q rx ry rg q p)
theorem xC(X:Cx)(z:Bool)(o:BO):∃r,OpR X (binaryOp o.op) r∧OpA X.K r (cL z o):=by
 cases o with
 |add=>exact⟨_,tD,AY⟩
 |kadd=>exact⟨_,AU,tS⟩
 |sub=>exact⟨_,op_sub,.imp (fun _ _ _ _=>El) (jO (C:=fun _ _=>True) (g:=fun i j=>i - j) fun d e G Q h=>by cases d <;> cases e <;> first|exact⟨_,_,rfl,rfl,trivial,h⟩|exact False.elim h)⟩
 |mul=>exact⟨_,tA,AW⟩
 |fdiv=>exact⟨_,op_fdiv,jO fun d e G Q h=>by cases d <;> cases e <;> first|exact⟨_,_,rfl,rfl,h.1,h.2⟩|exact False.elim h⟩
 |mod=>exact⟨_,op_mod,jO fun d e G Q h=>by cases d <;> cases e <;> first|exact⟨_,_,rfl,rfl,h.1,h.2⟩|exact False.elim h⟩
 |pow=>exact⟨_,op_pow,jO fun d e G Q h=>by cases d <;> cases e <;> first|exact⟨_,_,rfl,rfl,h.1,h.2⟩|exact False.elim h⟩
 |shl=>exact⟨_,op_shl,jO fun d e G Q h=>by cases d <;> cases e <;> first|exact⟨_,_,rfl,rfl,h.1,h.2⟩|exact False.elim h⟩
 |shr=>exact⟨_,op_shr,jO fun d e G Q h=>by cases d <;> cases e <;> first|exact⟨_,_,rfl,rfl,h.1,h.2⟩|exact False.elim h⟩
 |band=>exact⟨_,op_and,.imp (fun _ _ _ _=>El) (jO (C:=fun _ _=>True) (g:=fun i j=>Builtin.bitAnd i j) fun d e G Q h=>by cases d <;> cases e <;> first|exact⟨_,_,rfl,rfl,trivial,h⟩|exact False.elim h)⟩
end Av
namespace Av
mutual
inductive ShV(K:M0)(H:Hp):V→PyData→Prop
 |non:ShV K H .non .none
 |bl (b:Bool):ShV K H (.bl b) (.bool b)
 |int (i:Int):ShV K H (.int i) (.int i)
 |str (x:Str):ShV K H (.str x) (.str x)
 |lst {a:Addr} {xs:List V} {ps:List PyData}:SqL K H a xs→ShVs K H xs ps→ShV K H (.ref a) (.list ps)
 |tup {a:Addr} {xs:List V} {ps:List PyData}:SqT K H a xs→ShVs K H xs ps→ShV K H (.ref a) (.tuple ps)
 |dz {a:Addr} {ks:List Key} {xs:List V} {ps:List PyData}:Ku H a (ks.zip xs)→ks.length=xs.length→ShVs K H xs ps→ShV K H (.ref a) (.dict ((ks.map pF).zip ps))
inductive ShVs(K:M0)(H:Hp):List V→List PyData→Prop
 |nil:ShVs K H [] []
 |cons {v:V} {vs:List V} {p:PyData} {ps:List PyData}:ShV K H v p→ShVs K H vs ps→ShVs K H (v :: vs) (p :: ps)
end
theorem ShVs.length{K:M0}{H:Hp}:∀{xs:List V} {ps:List PyData},ShVs K H xs ps→xs.length=ps.length
 |_,_,.nil=>rfl
 |_,_,.cons _ h=>by rw[Mb,Mb,ShVs.length h]
def Cu(X:Cx):Prop:=X.A.guards=some []∧∃(o:Obj) (es:Array DictEntry) (n:Nat),X.K.lookup sysModules=some o∧o.data = .dict es n
section
variable {X:Cx} {pins:List (Addr × Obj)} {σ:L2.St} {H:Hp} {s:Shared}
theorem sw(I:Inv X pins σ H s)(rp:Cu X){a:Addr}{its:Array Value}(h:PlainL s.heap a its):a≠sysModules:=fun z=>by
 obtain⟨o,n,e,_,_,hd⟩:=h
 obtain⟨_,o',es,n',lk,hd'⟩:=rp
 have e':=I.kIn _ _ lk
 rw[z]at e
 rw[e]at e'
 cases e'
 rw[hd]at hd'
 cases hd'
theorem pE{h:Heap}{k:Key}{u:Value}(e:keyIs k u=true):Reads h u (pF k) []:=by
 rcases keyIs_shape e with⟨i,t,rfl,rfl⟩|⟨x,t,rfl,rfl⟩
 ·exact .int i t
 ·exact .str x t
theorem mY:∀{ks:List Key} {xs:List V} {vs:List (Key × Value)},KV (ks.zip xs) vs→ks.length=xs.length→Vals xs (vs.map (·.2))
 |[],[],[],_,_=>.nil
 |k :: ks,x :: xs,q :: vs,.cons a r,hl=>.cons a.2 (mY r (by simpa using hl))
 |[],[],_ :: _,h,_=>by cases h
 |_ :: _,_ :: _,[],h,_=>by cases h
 |[],_ :: _,_,_,hl=>by simp at hl
 |_ :: _,[],_,_,hl=>by simp at hl
theorem dO{h:Heap}{P:Program}{w:World}:∀{es:List DictEntry} {vs:List (Key × Value)},Pairs (mixKind P w) es vs→∀{ks:List Key} {xs:List V},KV (ks.zip xs) vs→ks.length=xs.length→∀{ps:List PyData} {as:List Addr},ReadsAll h (vs.map (·.2)) ps as→
  ReadsAll h (es.map (·.key)) (((ks.map pF).zip ps).map (·.1)) []∧ReadsAll h (es.map (·.val)) (((ks.map pF).zip ps).map (·.2)) as
 |_,_,.nil,ks,xs,kv,hl,ps,as,hr=>by
  cases hr
  cases ks with
  |nil=>exact⟨.nil,.nil⟩
  |cons k ks=>cases xs with
   |nil=>simp at hl
   |cons x xs=>cases kv
 |_,_,.cons (e:=e) (kv:=q) hk hv h1,ks,xs,kv,hl,ps,as,hr=>by
  cases ks with
  |nil=>cases kv
  |cons k ks=>cases xs with
   |nil=>simp at hl
   |cons x xs =>
    cases kv with
    |cons a kv =>
     cases hr with
     |cons r1 r2 =>
      obtain⟨i1,i2⟩:=dO h1 kv (by simpa using hl) r2
      have ek:k=q.1:=a.1
      refine⟨?_,?_⟩
      ·have z:=ReadsAll.cons (pE (h:=h) (k:=k) (u:=e.key) (by rw[ek];exact hk)) i1
       simpa using z
      ·have up:∀{d:PyData} {l:List Addr},Reads h q.2 d l→Reads h e.val d l:=fun z=>by rw[hv];exact z
       have z:=ReadsAll.cons (up r1) i2
       simpa using z
mutual
theorem ShV.reads(I:Inv X pins σ H s)(rp:Cu X):∀{v:V} {p:PyData} {u:Value},ShV X.K H v p→RelV v u→∃as,Reads s.heap u p as∧sysModules ∉ as
 |_,_,_,.non,r=>by cases r;exact⟨_,.none,by simp⟩
 |_,_,_,.bl b,r=>by cases r;exact⟨_,.bool b,by simp⟩
 |_,_,_,.int i,r=>by obtain⟨t,rfl⟩:=r;exact⟨_,.int i t,by simp⟩
 |_,_,_,.str x,r=>by obtain⟨t,rfl⟩:=r;exact⟨_,.str x t,by simp⟩
 |_,_,_,.lst hs ha,r=>by
  cases r
  obtain⟨its,rv,pl,_⟩:=I.list hs
  obtain⟨as,hr,hn⟩:=ShVs.reads I rp ha rv
  have na:=sw I rp pl
  obtain⟨o,n,ho,hc,_,hd⟩:=pl
  exact⟨_,.list ho hc hd hr,fun z=>(Ml.1 z).elim (fun e=>na e.symm) hn⟩
 |_,_,_,.tup hs ha,r=>by
  cases r
  obtain⟨its,rv,⟨o,ho,hc,n,hd⟩,_⟩:=I.tuple hs
  obtain⟨as,hr,hn⟩:=ShVs.reads I rp ha rv
  exact⟨_,.tuple ho hc hd hr,hn⟩
 |_,_,_,.dz hz hl ha,r=>by
  cases r
  obtain⟨ob,ho⟩:=hz
  obtain⟨hs,hg,hx,es,ep,vs,hd,_,kv,o',es',ho',_,hd',_,pr,_⟩:=I.frzK ho
  rw[hg]at ho'
  cases ho'
  rw[hd]at hd'
  cases hd'
  have rv:=mY kv hl
  obtain⟨as,hr,hn⟩:=ShVs.reads I rp ha rv
  obtain⟨r1,r2⟩:=dO pr kv hl hr
  exact⟨_,.dict hg hx.1 hd r1 r2,by simp[hn];intro z;simp[z]at hs⟩
theorem ShVs.reads(I:Inv X pins σ H s)(rp:Cu X):∀{vs:List V} {ps:List PyData} {us:List Value},ShVs X.K H vs ps→Vals vs us→∃as,ReadsAll s.heap us ps as∧sysModules ∉ as
 |_,_,_,.nil,r=>by cases r;exact⟨_,.nil,by simp⟩
 |_,_,_,.cons h1 h2,r=>by
  cases r with
  |cons r1 r2 =>
   obtain⟨as,q1,n1⟩:=ShV.reads I rp h1 r1
   obtain⟨bs,q2,n2⟩:=ShVs.reads I rp h2 r2
   exact⟨_,.cons q1 q2,fun z=>(List.mem_append.1 z).elim n1 n2⟩
end
def Ec(K:M0):List V→Hp→VK→Prop:=fun vs H Q=>∃a p,vs=[.ref a]∧ShV K H (.ref a) p∧p.showable=true∧p.depth≤60∧p.shown.length≤sizeLine∧Q (.str p.shown) H
end
theorem qP{X:Cx}(rp:Cu X)(hu:X.A.units+64<cLine):CallR X (.builtin "repr") (Ec X.K):=by
 intro pins s σ H vs us Q I rv h
 obtain⟨a,p,rfl,hs,h1,h2,h3,q⟩:=h
 obtain⟨u,rfl,ru⟩:=rv.one
 cases ru
 obtain⟨as,hr,hn⟩:=hs.reads I rp (u:=.ref a) rfl
 exact repr_of_reads' hr h1 (fun _=>hn) rp.1 (by omega) (fun b o e=>e) (fun h' t tk k=>⟨.str p.shown,H,I.kept k,⟨_,rfl⟩,q⟩) h3
end Av
namespace Av
variable [Tb]
theorem bC{K:M0}{H:Hp}{v:V}{d:Dat}{x:Key}(r:Rep K H v d)(e:cC d=some x):v=kV x:=by
 cases d with
 |int i=>cases aB r;cases e;rfl
 |str i=>cases dn r;cases e;rfl
 |_=>cases e
theorem bq{K:M0}{H:Hp}{x:Key}:∀{vk:List (Key × V)} {kvs:List (Key × Dat)},KRel K H vk kvs→(∀d,au kvs x=some d→∃v,valV vk x=some v∧Rep K H v d)∧(au kvs x=none→valV vk x=none)
 |_,_,.nil=>⟨(fun d e=>by cases e),fun _=>rfl⟩
 |(k,v) :: vk,(k',d') :: kvs,.cons h r=>by
  obtain⟨rfl,h⟩:=h
  obtain⟨i1,i2⟩:=bq (x:=x) r
  by_cases q:k=x
  ·have e1:au ((k,d') :: kvs) x=some d':=by simp[au,List.find?_cons,q]
   have e2:valV ((k,v) :: vk) x=some v:=valV_pos q
   rw[e1,e2]
   exact⟨(fun d e=>by cases e;exact⟨v,rfl,h⟩),fun e=>by cases e⟩
  ·have e1:au ((k,d') :: kvs) x=au kvs x:=by simp[au,List.find?_cons,q]
   have e2:valV ((k,v) :: vk) x=valV vk x:=valV_neg q
   rw[e1,e2]
   exact⟨i1,i2⟩
theorem wU{K:M0}{H:Hp}{x:Key}:∀{vk:List (Key × V)} {kvs:List (Key × Dat)},KRel K H vk kvs→(vk.any fun q=>decide (q.1=x))=(kvs.any fun q=>decide (q.1=x))
 |_,_,.nil=>rfl
 |(k,v) :: vk,(k',d') :: kvs,.cons h r=>by
  obtain⟨rfl,h⟩:=h
  rw[List.any_cons,List.any_cons,wU r]
theorem wQ{K:M0}{H:Hp}{x:Key}{v:V}{d:Dat}(h:Rep K H v d):∀{vk:List (Key × V)} {kvs:List (Key × Dat)},KRel K H vk kvs→KRel K H (vk.map fun q=>if q.1=x then (q.1,v) else q) (kvs.map fun q=>if q.1=x then (q.1,d) else q)
 |_,_,.nil=>.nil
 |(k,u) :: vk,(k',e) :: kvs,.cons h1 r=>by
  obtain⟨rfl,h2⟩:=h1
  rw[Mc,Mc]
  refine .cons ?_ (wQ h r)
  by_cases q:k=x
  ·simp only[q,if_true];exact⟨trivial,h⟩
  ·simp only[q,if_false];exact⟨trivial,h2⟩
theorem wR{K:M0}{H:Hp}{x:Key}{v:V}{d:Dat}(h:Rep K H v d):∀{vk:List (Key × V)} {kvs:List (Key × Dat)},KRel K H vk kvs→KRel K H (vk++[(x,v)]) (kvs++[(x,d)])
 |_,_,.nil=>.cons ⟨rfl,h⟩ .nil
 |_ :: _,_ :: _,.cons h1 r=>.cons h1 (wR h r)
theorem pJ{K:M0}{H:Hp}{x:Key}{v:V}{d:Dat}(h:Rep K H v d){vk:List (Key × V)}{kvs:List (Key × Dat)}(r:KRel K H vk kvs):KRel K H (putK vk x v) (bG kvs x d):=by
 unfold putK bG
 rw[wU r]
 split
 ·exact wQ h r
 ·exact wR h r
theorem eg{K:M0}{H:Hp}:∀{vm:List (Key × V)} {more:List (Key × Dat)} {vk:List (Key × V)} {kvs:List (Key × Dat)},KRel K H vm more→KRel K H vk kvs→KRel K H (mergeK vk vm) (aY kvs more)
 |_,_,_,_,.nil,r=>r
 |(k,v) :: vm,(k',d) :: more,vk,kvs,.cons h1 r1,r=>by
  obtain⟨rfl,h⟩:=h1
  show KRel K H (mergeK (putK vk k v) vm) (aY (bG kvs k d) more)
  exact eg r1 (pJ h r)
theorem oj{K:M0}{H:Hp}:∀{ds:List Dat} {vs:List V} {kvs:List (Key × Dat)},Reps K H vs ds→iL ds=some kvs→∃(ps:List Addr) (vk:List (Key × V)),vs=ps.map V.ref∧Paired (fun p (kv:Key × V)=>SqT K H p [kV kv.1,kv.2]) ps vk∧KRel K H vk kvs
 |[],_,kvs,.nil,e=>by cases e;exact⟨[],[],rfl,.nil,.nil⟩
 |.tup [k,v] :: ds,_,kvs,.cons r rs,e=>by
  unfold iL at e
  cases hk:cC k with
  |none=>simp only[hk]at e;cases e
  |some x =>
   cases hp:iL ds with
   |none=>simp only[hk,hp]at e;cases e
   |some kv2 =>
    simp only[hk,hp]at e
    cases e
    obtain⟨ps,vk,rfl,h1,h2⟩:=oj rs hp
    obtain⟨t,xs,rfl,h3,h4⟩:=aW r
    cases h4 with
    |cons ra rb =>
     cases rb with
     |cons rb rn =>
      cases rn
      cases bC ra hk
      exact⟨t :: ps,(x,_) :: vk,rfl,.cons h3.sq h1,.cons ⟨rfl,rb⟩ h2⟩
end Av
namespace Av
variable [Tb]
def AA(r:Bool):R2:=fun x y H Q=>∃a b ks ls,x = .ref a∧y = .ref b∧Rd H a (.dK ks)∧Rd H b (.dK ls)∧ks.length=ls.length∧(∀p∈ks,valV ls p.1=some p.2∧flatB p.2=true)∧Q (.bl r) H
theorem AV{X:Cx}(hu:X.A.units<cLine):OpR X (compareOp .Eq) (AA true):=by
 intro pins s σ H x y v u Q I rx ry h
 obtain⟨a,b,ks,ls,rfl,rfl,ea,eb,hlen,hp,q⟩:=h
 obtain rfl:v=Value.ref a:=rx
 obtain rfl:u=Value.ref b:=ry
 obtain⟨_,ya,va,ra,da⟩:=dk_rd I.hok ea
 obtain⟨_,yb,vb,rb,db⟩:=dk_rd I.hok eb
 have hl:va.length=vb.length:=by rw[←ra.length,←rb.length];exact hlen
 exact PySem.W.keq_eq (knd:=mixKind X.prog X.w) (r:=true) ya yb da db hu (fun _=>hits_all rb ra hp) (fin_bl I q (by simp[hl]))
theorem AR{X:Cx}(hu:X.A.units<cLine):OpR X (compareOp .NotEq) (AA false):=by
 intro pins s σ H x y v u Q I rx ry h
 obtain⟨a,b,ks,ls,rfl,rfl,ea,eb,hlen,hp,q⟩:=h
 obtain rfl:v=Value.ref a:=rx
 obtain rfl:u=Value.ref b:=ry
 obtain⟨_,ya,va,ra,da⟩:=dk_rd I.hok ea
 obtain⟨_,yb,vb,rb,db⟩:=dk_rd I.hok eb
 have hl:va.length=vb.length:=by rw[←ra.length,←rb.length];exact hlen
 exact PySem.W.keq_ne (knd:=mixKind X.prog X.w) (r:=true) ya yb da db hu (fun _=>hits_all rb ra hp) (fin_bl I q (by simp[hl]))
theorem jY{K:M0}{H:Hp}:∀{vk:List (Key × V)} {kvs:List (Key × Dat)},KRel K H vk kvs→vk.length=kvs.length
 |_,_,.nil=>rfl
 |_,_,.cons _ r=>congrArg (· +1) (jY r)
theorem lh{K:M0}{H:Hp}:∀{vk:List (Key × V)} {kvs:List (Key × Dat)},KRel K H vk kvs→vk.map (·.1)=kvs.map (·.1)
 |_,_,.nil=>rfl
 |_,_,.cons h r=>by rw[Mc,Mc,h.1,lh r]
theorem pK{K:M0}{H:Hp}:∀{vk:List (Key × V)} {kvs:List (Key × Dat)},KRel K H vk kvs→∀p∈vk,∃q∈kvs,p.1=q.1∧Rep K H p.2 q.2
 |_,_,.nil,p,h=>by cases h
 |_,_,.cons h r,p,hm=>by
  rcases Ml.1 hm with rfl|hm
  ·exact⟨_,Mi ..,h.1,h.2⟩
  ·obtain⟨q,h1,h2⟩:=pK r p hm
   exact⟨q,Mj _ h1,h2⟩
theorem io{K:M0}{H:Hp}:∀{ks:List Key} {xs:List V} {ds:List Dat},Reps K H xs ds→KRel K H (ks.zip xs) (ks.zip ds)
 |[],_,_,_=>.nil
 |_ :: _,_,_,.nil=>.nil
 |_ :: _,_,_,.cons h r=>.cons ⟨rfl,h⟩ (io r)
theorem qA{K:M0}{G:AG}{H:Hp}{v:V}{x:Dat}{kvs:List (Key × Dat)}(g:RelG K G H)(r:Rep K H v x)(e:cO G x=some kvs):∃p vk,v = .ref p∧Rd H p (.dK vk)∧KRel K H vk kvs:=by
 cases x with
 |ref p =>
  cases aK r
  have e1:G p=some (.dk kvs):=by
   cases q:G p with
   |none=>simp only[cO,q]at e;cases e
   |some o =>
    cases o with
    |dk k2=>simp only[cO,q]at e;cases e;rfl
    |_=>simp only[cO,q]at e;cases e
  obtain⟨vk,h1,h2⟩:∃vk,H p=some (.dK vk)∧KRel K H vk kvs:=g.g p _ e1
  exact⟨p,vk,rfl,.inl h1,h2⟩
 |dz ks ds =>
  cases e
  cases r with
  |dz h _ h2=>exact⟨_,_,rfl,.inr h,io h2⟩
 |_=>cases e
theorem jb{K:M0}{H:Hp}{x:V}{d:Dat}(r:Rep K H x d)(f:aH d=true):x=toV d∧flatB x=true:=by
 cases r <;> first|exact⟨rfl,rfl⟩|cases f
theorem oJ{K:M0}{r:Bool}:OpA K (AA r) (CJ r):=by
 intro H x y d e G Qa Q rx ry rg h p
 obtain⟨ka,kb,h1,h2,hl,hp,hq⟩:=h
 obtain⟨a,va,rfl,ra,k1⟩:=qA rg rx h1
 obtain⟨b,vb,rfl,rb,k2⟩:=qA rg ry h2
 refine⟨a,b,va,vb,rfl,rfl,ra,rb,by rw[jY k1,jY k2];exact hl,fun q hm=>?_,p.val rg (.bl _) hq⟩
 obtain⟨q',hm',e1,e2⟩:=pK k1 q hm
 obtain⟨f1,f2⟩:=hp q' hm'
 obtain⟨g1,g2⟩:=jb e2 f2
 obtain⟨v,w1,w2⟩:=(bq k2).1 _ f1
 rw[e1,w1,g1,(jb w2 f2).1]
 exact⟨rfl,by rw[←g1];exact g2⟩
theorem pU:∀{us:List Value} {ns:List Int},us.length=ns.length→(∀(j:Nat) (u:Value),us[j]?=some u→∃n t,ns[j]?=some n∧u = .int n t)→IntsAre us ns
 |[],[],_,_=>.nil
 |[],_ :: _,h,_=>by simp at h
 |_ :: _,[],h,_=>by simp at h
 |u :: us,n :: ns,h,k=>by
  obtain⟨n',t,e1,e2⟩:=k 0 u rfl
  cases e1
  subst e2
  exact .cons _ _ (pU (by simpa using h) fun j v e=>k (j+1) v e)
def Eb:List V→Hp→VK→Prop:=fun xs H Q=>∃(a:Addr) (kvs:List (Key × V)) (ns:List Int),xs=[.ref a]∧Rd H a (.dK kvs)∧kvs.map (·.1)=ns.map Sum.inl∧
 ∀(ms:List Int) p,ms.Perm ns→ms.Pairwise (· ≤·)→H p=none→Q (.ref p) (upd H p (.lst (ms.map V.int)))
theorem Ce{X:Cx}(hcalm:X.calm=true):CallR X (.builtin "sorted") Eb:=by
 intro pins s σ H xs us Q I r q
 obtain⟨a,kvs,ns,ex,hd,hks,q⟩:=q
 subst ex
 obtain⟨u,eu,rx⟩:=vals1 r
 subst eu
 cases rx
 obtain⟨z,lo,vs,rel,dd⟩:=dk_rd I.hok hd
 obtain⟨ep,hat⟩:=dd.dictAt
 have hkeys:vs.map (·.1)=ns.map Sum.inl:=rel.keys.symm.trans hks
 have hl:vs.length=ns.length:=by
  have e:=congrArg List.length hkeys
  rw[M5,M5]at e
  exact e
 have h16:vs.length≤sizeLine:=by rw[←rel.length];exact z
 refine Calls.call_function_entry PyProof.Rows.kind_sorted PyProof.Rows.plain_sorted PyProof.Rows.entry_sorted (PyProof.Rows.args_sorted1 _) ?_
 unfold Builtin.«sorted»
 refine wpAny_bind (m:=checkCount "sorted" 1 1 _) (wpAny_pure ?_)
 refine wpAny_bind (PySem.W.kdu_collect (A:=X.A.in1) (PySem.W.kdl_dict (knd:=mixKind X.prog X.w) (kvs:=vs) (ep:=ep) lo) (I.ok.hd hcalm) hat h16 fun h' tk acc hk hacc=>?_)
 have hal:acc.toList.length=ns.length:=by rw[Array.length_toList,hacc.1,hl]
 have hS:IntsAre acc.toList ns:=pU hal fun j v e=>by
  obtain⟨k,x,e1,e2⟩:=hacc.2 j v (by rw[←Array.getElem?_toList];exact e)
  have e3:(vs.map (·.1))[j]?=some k:=by rw[Mg,e1];all_goals rfl
  rw[hkeys,Mg]at e3
  cases e4:ns[j]? with
  |none=>rw[e4]at e3;cases e3
  |some y =>
   rw[e4]at e3
   have e5:Sum.inl y=k:=Option.some.inj e3
   subst e5
   have rk:RelV (kV (.inl y)) v:=relV_key (show keyIs (.inl y) v=true from e2)
   obtain⟨t,ev⟩:=rk
   exact⟨y,t,rfl,ev⟩
 have I1:Inv X pins σ H {s with heap:=h',toks:=tk}:=I.kept hk
 have hz:acc.toList.length≤sizeLine:=by rw[hal,←hl];exact h16
 refine wpAny_bind (wpAny_newList ?_ hz)
 have hoL:(h'.push (seqObj "list" acc.toList.toArray 0)).get? h'.objs.size=some (seqObj "list" acc.toList.toArray 0):=Heap.get?_push_size _ rfl
 show wpAny _ _ _ _ _ {s with heap:=h'.push (seqObj "list" acc.toList.toArray 0),toks:=tk}
 refine wpAny_bind (wpAny_holding (wpAny_call_entry PyProof.Rows.slot_list_sort ⟨_,hoL,rfl⟩ PyProof.Rows.entry_list_sort
  (SrtO.list_sort_ord SrtO.swo_int hoL hz (fun h2=>SrtO.ints_sortable hS h2) fun out h1 h2=>⟨_,rfl,?_⟩)
  (PyProof.Rows.args_list_sort _)))
 obtain⟨k1,k2,k3⟩:=SrtO.ints_out hS h1 h2
 obtain⟨e',he'⟩:=PyProof.Rows.sortedHeap_at (vs:=acc.toList) (out:=out.toArray) hoL
 have hlen:((out.map SrtO.iv).map V.int).length≤sizeLine:=by
  rw[M5,k2.length_eq,←hal];exact hz
 refine wpAny_pure ⟨_,rfl,.ref h'.objs.size,upd H h'.objs.size (.lst ((out.map SrtO.iv).map V.int)),I1.laid (t':=tk) (fun b u e=>?_) (M7 _)
  (show ObjOk X.prog X.w _ _ _ (.lst ((out.map SrtO.iv).map V.int)) from ⟨hlen,out,e',vals_of_ints k1,he'⟩),rfl,q _ _ k2 k3 (I1.hok.fresh (M7 _))⟩
 have hb:b<h'.objs.size:=Heap.lt_size e
 rw[PyProof.Rows.sortedHeap_old (Nat.ne_of_lt hb) (by rw[size_push'];exact Nat.lt_succ_of_lt hb)]
 exact Heap.get?_push_of_some _ e
end Av
namespace HNI
open PySem PySem.Spec PyProof.Rows PySem.SeqAt
section
variable {M:Model} {prog:Program} {w:World} {A:Around} {E:Value→Shared→Prop} {s:Shared} {K:M0} {x y C:Addr} {ox oy:Obj} {od od':Option Obj}
theorem j9{Q:Value→Shared→Prop}(X:K.In s.heap)(I:PySem.W.InstAt s.heap x ox C od)(hm:PySem.W.mroIn K C (.type "object")=some true)(hq:Q (.bool true) s) :
  wpAny (model prog w) A (call (.builtin "object.__eq__") [.ref x,.ref x]) Q E s :=
 wpAny_call (codeAny_call_builtin F.cmp_object.eq.plain F.cmpEntry_eq (PySem.W.check_slot F.cmpKind_eq F.cmpSplit_eq (I.type.andThen (PySem.W.looks_mroIn X hm)) (F.cmpArgs_eq _ _) (objEq_entry_same hq)))
theorem jt{Q:Value→Shared→Prop}(X:K.In s.heap)(I:PySem.W.InstAt s.heap x ox C od)(hx:s.heap.get? x=some ox)(hy:s.heap.get? y=some oy)(hnt:ox.cls≠.type "tuple")(hxy:x≠y)(hm:PySem.W.mroIn K C (.type "object")=some true)(hq:Q .notImplemented s) :
  wpAny (model prog w) A (call (.builtin "object.__eq__") [.ref x,.ref y]) Q E s :=
 wpAny_call (codeAny_call_builtin F.cmp_object.eq.plain F.cmpEntry_eq (PySem.W.check_slot F.cmpKind_eq F.cmpSplit_eq (I.type.andThen (PySem.W.looks_mroIn X hm)) (F.cmpArgs_eq _ _) (objEq_entry_other hxy hx hy hnt hq)))
theorem c5{args:List Value}{Q:Option Value→Shared→Prop}(X:K.In s.heap)(I:PySem.W.InstAt s.heap x ox C od)(hs:PySem.W.findIn K (.ref C) "__ne__" =some (some (.builtin "object.__ne__")))
  (h:wpAny M A (call (.builtin "object.__ne__") (.ref x :: args)) (fun v=>Q (some v)) E s):wpAny M A (callSpecialIfBound? (.ref x) "__ne__" args) Q E s:=by
 simp only[callSpecialIfBound?,bindSpecialIfBound?]
 refine wpAny_holding (wpAny_bind (wpAny_bind (wpAny_bind (I.type.here ((PySem.W.looks_findIn X hs).here ?_)))))
 refine wpAny_bind (wpAny_askSetting (wpAny_ite ?_))
 have fin:wpAny M A (call (.builtin "object.__ne__") ([.ref x]++args) >>=fun v=>pure (some v)) Q E s:=wpAny_bind (wpAny_mono h (fun v s' h'=>wpAny_pure h') fun _ _ h'=>h')
 split
 ·exact wpAny_bind (wpAny_of_eq (F.cmp_object.ne.bind _) (wpAny_pure (by exact fin)))
 ·exact wpAny_tryCatch (wpAny_bind (wpAny_of_eq (F.cmp_object.ne.bind _) (wpAny_pure (by exact fin))))
end
end HNI
namespace HNI
open PySem PySem.Spec PyProof.Rows PySem.SeqAt
section
variable {prog:Program} {w:World} {A:Around} {E:Value→Shared→Prop} {s:Shared} {K:M0} {x y C:Addr} {ox oy:Obj} {od od':Option Obj}
theorem noTup{o:Obj}{c:Addr}(h:o.cls = .ref c):o.cls≠.type "tuple" :=by rw[h];intro e;cases e
structure EqC(K:M0)(C:Addr):Prop where
 mro:PySem.W.mroIn K C (.type "object")=some true
 eq:PySem.W.findIn K (.ref C) "__eq__" =some (some (.builtin "object.__eq__"))
 ne:PySem.W.findIn K (.ref C) "__ne__" =some (some (.builtin "object.__ne__"))
theorem iE{Q:Option Value→Shared→Prop}(X:K.In s.heap)(e:EqC K C)(I:PySem.W.InstAt s.heap x ox C od)(hq:Q (some (.bool true)) s) :
  wpAny (model prog w) A (callSpecialIfBound? (.ref x) "__eq__" [.ref x]) Q E s:=HN.ifBound_objEq X I e.eq (j9 X I e.mro hq)
theorem fK{Q:Option Value→Shared→Prop}(X:K.In s.heap)(e:EqC K C)(I:PySem.W.InstAt s.heap x ox C od)(hy:s.heap.get? y=some oy)(hxy:x≠y)(hq:Q (some .notImplemented) s) :
  wpAny (model prog w) A (callSpecialIfBound? (.ref x) "__eq__" [.ref y]) Q E s:=HN.ifBound_objEq X I e.eq (jt X I I.at_ hy (noTup I.cls) hxy e.mro hq)
theorem nf{Q:Option Value→Shared→Prop}(X:K.In s.heap)(e:EqC K C)(I:PySem.W.InstAt s.heap x ox C od)(hq:Q (some (.bool true)) s) :
  wpAny (model prog w) A (tryCompare (.ref x) "__eq__" (.ref x)) Q E s:=by
 unfold tryCompare
 exact wpAny_bind (iE X e I (wpAny_pure hq))
theorem fG{Q:Option Value→Shared→Prop}(X:K.In s.heap)(e:EqC K C)(I:PySem.W.InstAt s.heap x ox C od)(hy:s.heap.get? y=some oy)(hxy:x≠y)(hq:Q none s) :
  wpAny (model prog w) A (tryCompare (.ref x) "__eq__" (.ref y)) Q E s:=by
 unfold tryCompare
 exact wpAny_bind (fK X e I hy hxy (wpAny_pure hq))
theorem ud{Q:Fin→Shared→Prop}(X:K.In s.heap)(e:EqC K C)(I:PySem.W.InstAt s.heap x ox C od)(hu:A.units<cLine)(hq:Q (.done (.ret (.bool false))) s):wpAny (model prog w) A (Builtin.«object.__ne__» ⟨[.ref x,.ref x],[]⟩) Q E s:=by
 unfold Builtin.«object.__ne__»
 repeat (first|with_reducible refine wpAny_cRoomFor hu ?_|with_reducible refine iE X e I ?_|wp_step)
 exact hq
theorem oS{Q:Fin→Shared→Prop}(X:K.In s.heap)(e:EqC K C)(I:PySem.W.InstAt s.heap x ox C od)(hy:s.heap.get? y=some oy)(hxy:x≠y)(hu:A.units<cLine)(hq:Q (.done (.ret .notImplemented)) s):wpAny (model prog w) A (Builtin.«object.__ne__» ⟨[.ref x,.ref y],[]⟩) Q E s:=by
 unfold Builtin.«object.__ne__»
 repeat (first|with_reducible refine wpAny_cRoomFor hu ?_|with_reducible refine fK X e I hy hxy ?_|wp_step)
 exact hq
theorem nc{Q:Option Value→Shared→Prop}(X:K.In s.heap)(e:EqC K C)(I:PySem.W.InstAt s.heap x ox C od)(hu:A.units+1<cLine)(hq:Q (some (.bool false)) s) :
  wpAny (model prog w) A (tryCompare (.ref x) "__ne__" (.ref x)) Q E s:=by
 unfold tryCompare
 exact wpAny_bind (c5 X I e.ne (wpAny_call (codeAny_call_builtin F.cmp_object.ne.plain F.cmpEntry_ne (PySem.W.check_slot F.cmpKind_ne F.cmpSplit_ne (I.type.andThen (PySem.W.looks_mroIn X e.mro)) (F.cmpArgs_ne _ _) (ud (A:=A.in1) X e I hu (wpAny_pure hq))))))
theorem fF{Q:Option Value→Shared→Prop}(X:K.In s.heap)(e:EqC K C)(I:PySem.W.InstAt s.heap x ox C od)(hy:s.heap.get? y=some oy)(hxy:x≠y)(hu:A.units+1<cLine)(hq:Q none s) :
  wpAny (model prog w) A (tryCompare (.ref x) "__ne__" (.ref y)) Q E s:=by
 unfold tryCompare
 exact wpAny_bind (c5 X I e.ne (wpAny_call (codeAny_call_builtin F.cmp_object.ne.plain F.cmpEntry_ne (PySem.W.check_slot F.cmpKind_ne F.cmpSplit_ne (I.type.andThen (PySem.W.looks_mroIn X e.mro)) (F.cmpArgs_ne _ _) (oS (A:=A.in1) X e I hy hxy hu (wpAny_pure hq))))))
theorem rcEq_same{Q:Value→Shared→Prop}(X:K.In s.heap)(e:EqC K C)(I:PySem.W.InstAt s.heap x ox C od)(hu:A.units<cLine)(hq:Q (.bool true) s):wpAny (model prog w) A (richCompare .Eq (.ref x) (.ref x)) Q E s:=by
 simp only[richCompare,cmpInfo_Eq,oneThing_ref]
 refine wpAny_holding (wpAny_bind (wpAny_cRoomFor hu ?_))
 refine wpAny_bind (I.type.here ?_)
 refine wpAny_bind (I.type.here ?_)
 rw[if_neg (by simp)]
 refine wpAny_bind (wpAny_pure ?_)
 repeat (first|with_reducible refine nf X e I ?_|wp_step)
 exact hq
theorem rcEq_other{Q:Value→Shared→Prop}(X:K.In s.heap)(e:EqC K C)(I:PySem.W.InstAt s.heap x ox C od)(J:PySem.W.InstAt s.heap y oy C od')(hxy:x≠y)(hu:A.units<cLine)(hq:Q (.bool false) s):wpAny (model prog w) A (richCompare .Eq (.ref x) (.ref y)) Q E s:=by
 simp only[richCompare,cmpInfo_Eq,oneThing_ref]
 refine wpAny_holding (wpAny_bind (wpAny_cRoomFor hu ?_))
 refine wpAny_bind (I.type.here ?_)
 refine wpAny_bind (J.type.here ?_)
 rw[if_neg (by simp)]
 refine wpAny_bind (wpAny_pure ?_)
 repeat (first|with_reducible refine fG X e I J.at_ hxy ?_|with_reducible refine fG X e J I.at_ hxy.symm ?_|with_reducible refine wpAny_isSame_ref_other hxy I.at_ J.at_ (noTup I.cls) ?_|wp_step)
 exact hq
theorem rcNe_same{Q:Value→Shared→Prop}(X:K.In s.heap)(e:EqC K C)(I:PySem.W.InstAt s.heap x ox C od)(hu:A.units+1<cLine)(hq:Q (.bool false) s):wpAny (model prog w) A (richCompare .NotEq (.ref x) (.ref x)) Q E s:=by
 have hu0:A.units<cLine:=Nat.lt_of_succ_lt hu
 simp only[richCompare,cmpInfo_NotEq,oneThing_ref]
 refine wpAny_holding (wpAny_bind (wpAny_cRoomFor hu0 ?_))
 refine wpAny_bind (I.type.here ?_)
 refine wpAny_bind (I.type.here ?_)
 rw[if_neg (by simp)]
 refine wpAny_bind (wpAny_pure ?_)
 repeat (first|with_reducible refine nc X e I hu ?_|wp_step)
 exact hq
theorem rcNe_other{Q:Value→Shared→Prop}(X:K.In s.heap)(e:EqC K C)(I:PySem.W.InstAt s.heap x ox C od)(J:PySem.W.InstAt s.heap y oy C od')(hxy:x≠y)(hu:A.units+1<cLine)(hq:Q (.bool true) s):wpAny (model prog w) A (richCompare .NotEq (.ref x) (.ref y)) Q E s:=by
 have hu0:A.units<cLine:=Nat.lt_of_succ_lt hu
 simp only[richCompare,cmpInfo_NotEq,oneThing_ref]
 refine wpAny_holding (wpAny_bind (wpAny_cRoomFor hu0 ?_))
 refine wpAny_bind (I.type.here ?_)
 refine wpAny_bind (J.type.here ?_)
 rw[if_neg (by simp)]
 refine wpAny_bind (wpAny_pure ?_)
 repeat (first|with_reducible refine fF X e I J.at_ hxy hu ?_|with_reducible refine fF X e J I.at_ hxy.symm hu ?_|with_reducible refine wpAny_isSame_ref_other hxy I.at_ J.at_ (noTup I.cls) ?_|wp_step)
 exact hq
end
end HNI
namespace Av
variable [Tb]
def H8(K:M0)(n:Bool):R2:=fun x y H Q=>∃a b C da db fa fb,x = .ref a∧y = .ref b∧H a=some (.ins C da fa)∧H b=some (.ins C db fb)∧HNI.EqC K C∧Q (.bl (if n then !decide (a=b) else decide (a=b))) H
theorem EC{X:Cx}(hu:X.A.units+64<cLine):OpR X (compareOp .Eq) (H8 X.K false):=by
 intro pins s σ H x y v u Q I rx ry h
 obtain⟨a,b,C,da,db,fa,fb,rfl,rfl,ha,hb,e,q⟩:=h
 obtain rfl:v=Value.ref a:=rx
 obtain rfl:u=Value.ref b:=ry
 obtain⟨mA,O,_⟩:=ins_get I.hok ha
 obtain⟨od,J,_⟩:=O.look
 obtain⟨mB,O2,_⟩:=ins_get I.hok hb
 obtain⟨od2,J2,_⟩:=O2.look
 by_cases z:a=b
 ·subst z
  exact HNI.rcEq_same I.kIn e J (by omega) (fin_bl I q (by simp))
 ·exact HNI.rcEq_other I.kIn e J J2 z (by omega) (fin_bl I q (by simp[z]))
theorem Ez{X:Cx}(hu:X.A.units+64<cLine):OpR X (compareOp .NotEq) (H8 X.K true):=by
 intro pins s σ H x y v u Q I rx ry h
 obtain⟨a,b,C,da,db,fa,fb,rfl,rfl,ha,hb,e,q⟩:=h
 obtain rfl:v=Value.ref a:=rx
 obtain rfl:u=Value.ref b:=ry
 obtain⟨mA,O,_⟩:=ins_get I.hok ha
 obtain⟨od,J,_⟩:=O.look
 obtain⟨mB,O2,_⟩:=ins_get I.hok hb
 obtain⟨od2,J2,_⟩:=O2.look
 by_cases z:a=b
 ·subst z
  exact HNI.rcNe_same I.kIn e J (by omega) (fin_bl I q (by simp))
 ·exact HNI.rcNe_other I.kIn e J J2 z (by omega) (fin_bl I q (by simp[z]))
theorem oI{K:M0}{n:Bool}(own:∀C,Tb.own C=true→HNI.EqC K (He.ga K C)):OpA K (H8 K n) (FE n):=by
 intro H x y d e G Qa Q rx ry rg h p
 obtain⟨a,b,C,fa,fb,rfl,rfl,h1,h2,h3,hq⟩:=h
 cases aK rx
 cases aK ry
 obtain⟨dx,vf,e1,_⟩:∃dx vf,H a=some (.ins (He.ga K C) dx vf)∧KRel K H vf fa:=rg.g a _ h1
 obtain⟨dy,vg,e2,_⟩:∃dx vf,H b=some (.ins (He.ga K C) dx vf)∧KRel K H vf fb:=rg.g b _ h2
 exact⟨a,b,_,_,_,_,_,rfl,rfl,e1,e2,own C h3,p.val rg (.bl _) hq⟩
end Av
namespace Av
variable [Tb]
def PrI(K:M0)(H:Hp)(x:V)(q:Int × Int):Prop:=∃t,x = .ref t∧TpAt K H t [.int q.1,.int q.2]
def leP(a b:Int × Int):Prop:=a.1<b.1∨(a.1=b.1∧a.2≤b.2)
def vX(K:M0):List V→Hp→VK→Prop:=fun vs H Q=>∃(a:Addr) (xs:List V) (ps:List (Int × Int)),vs=[V.ref a]∧SqL K H a xs∧Paired (PrI K H) xs ps∧
 ∀(ys:List V) (qs:List (Int × Int)) (p:Addr),ys.length≤sizeLine→Paired (PrI K H) ys qs→qs.Perm ps→qs.Pairwise leP→H p=none→Q (.ref p) (upd H p (.lst ys))
open Classical in
def kPr(K:M0)(H:Hp)(x:V):Int × Int:=if h:∃q,PrI K H x q then h.choose else (0,0)
theorem fN{α β:Type}{R:α→β→Prop}:∀{xs:List α} {ys:List β},Paired R xs ys→∀x∈xs,∃y∈ys,R x y
 |_,_,.nil,x,h=>by cases h
 |_,_,.cons a r,x,h=>by
  rcases List.mem_cons.mp h with rfl|h
  ·exact⟨_,Mi ..,a⟩
  ·obtain⟨y,h1,h2⟩:=fN r x h
   exact⟨y,Mj _ h1,h2⟩
theorem fO{α β:Type}{R:α→β→Prop}{k:α→β}:∀{xs:List α} {ys:List β},Paired R xs ys→(∀x y,R x y→k x=y)→xs.map k=ys
 |_,_,.nil,_=>rfl
 |_,_,.cons a r,h=>by rw[Mc,h _ _ a,fO r h]
theorem eX{α β:Type}{R:α→β→Prop}{k:α→β}:∀(xs:List α),(∀x∈xs,R x (k x))→Paired R xs (xs.map k)
 |[],_=>.nil
 |x :: xs,h=>.cons (h x (Mi ..)) (eX xs fun y hy=>h y (Mj _ hy))
theorem cr_sortP{X:Cx}:CallR X (.builtin "sorted") (vX X.K):=by
 intro pins s σ H vs us Q I r h
 obtain⟨a,xs,ps,rfl,hs,hx,q⟩:=h
 obtain⟨its,rv,hl,hz⟩:=I.list hs
 obtain⟨u,rfl,ru⟩:=vals1 r
 obtain rfl:u=Value.ref a:=ru
 have kq:∀x q,PrI X.K H x q→kPr X.K H x=q:=fun x q hq=>by
  unfold kPr
  rw[dif_pos ⟨q,hq⟩]
  have hc:=(⟨q,hq⟩:∃q,PrI X.K H x q).choose_spec
  generalize (⟨q,hq⟩:∃q,PrI X.K H x q).choose=q' at hc
  obtain⟨t,rfl,h1⟩:=hq
  obtain⟨t',e,h2⟩:=hc
  cases e
  have e:=I.tuple_inj h1.sq h2.sq
  obtain⟨i,j⟩:=q
  obtain⟨i',j'⟩:=q'
  simp only[List.cons.injEq,V.int.injEq,and_true]at e
  rw[e.1,e.2]
 have hk:∀x∈xs,PrI X.K H x (kPr X.K H x):=fun x hm=>by
  obtain⟨q,_,hq⟩:=fN hx x hm
  rw[kq x q hq];exact hq
 obtain⟨e1,e2⟩:=refs_back rv fun x m=>by
  obtain⟨t,e,_⟩:=hk x m
  exact⟨t,e⟩
 refine SrtO.sorted_pairsO (k:=fun u=>kPr X.K H (backV u)) hl.isList (by rw[←rv.length];exact hz) (fun v hv=>?_) fun h' d out h1 h2 kp hd hn=>?_
 ·obtain⟨t,rfl⟩:=e2 v hv
  have hm:V.ref t∈xs:=by rw[e1];exact List.mem_map.mpr ⟨_,hv,rfl⟩
  obtain⟨t',e,ht⟩:=hk _ hm
  cases e
  obtain⟨its2,r2,⟨o,ho,hc,n,hd⟩,_⟩:=I.tuple ht.sq
  obtain⟨u1,u2,rfl,ri,rj⟩:=vals2 r2
  obtain⟨t1,rfl⟩:=ri
  obtain⟨t2,rfl⟩:=rj
  exact⟨t,o,t1,t2,n,rfl,ho,hc,hd⟩
 ·have h3:∀u∈out,∃a,u=Value.ref a:=fun u hu=>e2 u (h2.perm.mem_iff.mp hu)
  obtain⟨n,hn⟩:=hn
  have pe:(out.map backV).Perm xs:=by
   rw[e1]
   exact h2.perm.map backV
  have le:(out.map backV).length≤sizeLine:=by rw[pe.length_eq];exact hz
  refine⟨.ref d,upd H d (.lst (out.map backV)),I.laid (t':=s.toks) kp hd ⟨le,out,n,vals_back h3,hn⟩,rfl,q _ ((out.map backV).map (kPr X.K H)) d le (eX _ fun x hx'=>hk x (pe.mem_iff.mp hx')) ?_ ?_ (I.hok.fresh hd)⟩
  ·have:=pe.map (kPr X.K H)
   rw[fO hx kq]at this
   exact this
  ·rw[List.pairwise_map,List.pairwise_map]
   refine List.Pairwise.imp ?_ h1
   intro x y hxy
   have:=SrtO.lexB_no.mp hxy
   unfold leP
   omega
def En(K:M0):V→List V→Hp→VK→Prop:=fun x xs H Q=>∃(a:Addr) (ys:List V) (y:V),x=V.ref a∧xs=[y]∧SqL K H a ys∧flatV y=true∧ys.all flatV=true∧Q (.int (ys.countP fun z=>eqV z y:Nat)) H
theorem jm{y:V}:∀{ys:List V} {us:List Value},Vals ys us→ys.all flatV=true→us.countP (eqU y)=ys.countP fun z=>eqV z y
 |_,_,.nil,_=>rfl
 |z :: ys,_,.cons r t,f=>by
  rw[Mo,M3]at f
  rw[List.countP_cons,List.countP_cons,jm t f.2,eqU_of r f.1]
theorem oV{X:Cx}:MtR X "list.count" (En X.K):=by
 intro pins s σ H x xs v us Q I rx rxs h
 obtain⟨a,ys,y,rfl,rfl,hs,fy,fys,q⟩:=h
 cases rx
 obtain⟨uy,rfl,ry⟩:=rxs.one
 obtain⟨its,rv,⟨⟨cls,dd,data,sl⟩,n,ho,hc,hdn,hd⟩,hlen⟩:=I.list hs
 simp only at hc hd
 subst hc hd
 refine call_meets PySem.F.slot_list_count ⟨_,ho,rfl⟩ PySem.F.entry_list_count (PySem.F.args_list_count_2 _ _)
  (SeqAt.list_countAt a its.toArray n dd sl uy (eqU y)) ⟨ho,fun u' hu'=>mem_eqAt ry fy rv fys u' (by simpa using hu'),?_⟩
 refine⟨.int (ys.countP fun z=>eqV z y:Nat),H,I.tok _,⟨s.toks,?_⟩,q⟩
 show Value.int ((its.toArray.toList.countP (eqU y):Nat):Int) s.toks=Value.int ((ys.countP fun z=>eqV z y:Nat):Int) s.toks
 rw[show its.toArray.toList=its from rfl,jm rv fys]
open AutoSeq1 (wpAny_loadPart') in
theorem jU(l:Addr)(items:Array Value)(n:Nat)(dct:Option Addr)(sl:Array (Option Value)) :
  Meets (Builtin.«enumerate.__new__» ⟨[.type "enumerate",.ref l],[]⟩) (fun _ R s=>s.heap.get? l=some {cls:=.type "tuple",dict:=dct,data:=.seq items n,slots:=sl}∧
   R (.ok (.ret (.ref (s.heap.push {cls:=.type "tuple_iterator",data:=.fields #[.ref l,.int 0 0]}).objs.size)))
    {s with heap:=(s.heap.push {cls:=.type "tuple_iterator",data:=.fields #[.ref l,.int 0 0]}).push {cls:=.type "enumerate",data:=.fields #[.none,.bool false,.ref s.heap.objs.size,rawInt 0,.none,.none]}}) :=
 .of_wp fun prog w A R s h=>by
  obtain⟨hp,g,d,tk,os⟩:=s;obtain⟨hl,h⟩:=h
  have hsub:=sub_enumerate
  have hL:Heap.IsTuple (Shared.heap ⟨hp,g,d,tk,os⟩) l items:=⟨_,hl,rfl,n,rfl⟩
  wp_walk using wpAny_loadPart' hl
  refine wpAny_stack_any fun st=>wpAny_pure ?_
  split
  ·rename_i c _ _ _ _ _
   cases (c == Value.type "enumerate")
   ·wp_walk using wpAny_loadPart' hl,wpAny_pyIter_tuple hL
    exact⟨_,rfl,h⟩
   ·wp_walk using wpAny_loadPart' hl,wpAny_pyIter_tuple hL
    exact⟨_,rfl,h⟩
  ·wp_walk using wpAny_loadPart' hl,wpAny_pyIter_tuple hL
   exact⟨_,rfl,h⟩
theorem f9{prog:Program}{w:World}{A:Around}{E:Value→Shared→Prop}{s:Shared}{l:Addr}{items:Array Value}{Q:Value→Shared→Prop}(hL:s.heap.IsTuple l items)
  (h:∀h',IsEnum h' (s.heap.objs.size+1) s.heap.objs.size 0 .none→h'.IsTupleIter s.heap.objs.size l 0→h'.objs.size=s.heap.objs.size+2→
   (∀b o,s.heap.get? b=some o→h'.get? b=some o)→Q (.ref (s.heap.objs.size+1)) {s with heap:=h'}) :
  wpAny (model prog w) A (call (.type "enumerate") [.ref l]) Q E s:=by
 obtain⟨⟨c,dct,dt,sl⟩,hl,hc,n,hd⟩:=hL
 replace hc:c = .type "tuple" :=hc
 replace hd:dt = .seq items n:=hd
 subst hc hd
 refine callType_new F.called_enumerate (by decide) (F.typeCall_enumerate_1 _) (F.newCall_enumerate_1 _) (fun obj=>F.args_object_init_2 obj _) F.entry_enumerate_new
  (jU l items n dct sl) ⟨hl,?_⟩
 have hz:(s.heap.push {cls:=.type "tuple_iterator",data:=.fields #[.ref l,.int 0 0]}).objs.size=s.heap.objs.size+1:=Heap.size_push ..
 show _∧_
 rw[hz]
 have he:IsEnum ((s.heap.push {cls:=.type "tuple_iterator",data:=.fields #[.ref l,.int 0 0]}).push
   {cls:=.type "enumerate",data:=.fields #[.none,.bool false,.ref s.heap.objs.size,rawInt 0,.none,.none]}) (s.heap.objs.size+1) s.heap.objs.size 0 .none:=by
  have:=Heap.get?_push_size (s.heap.push {cls:=.type "tuple_iterator",data:=.fields #[.ref l,.int 0 0]})
   (o:={cls:=.type "enumerate",data:=.fields #[.none,.bool false,.ref s.heap.objs.size,rawInt 0,.none,.none]}) rfl
  rw[hz]at this;exact this
 refine⟨⟨_,he,rfl⟩,h _ he ⟨_,Heap.get?_push_of_some _ (Heap.get?_push_size _ rfl),rfl,rfl⟩ (by rw[Heap.size_push,hz]) fun b o x=>Heap.get?_push_of_some _ (Heap.get?_push_of_some _ x)⟩
def JH(K:M0)(a:Addr):It :=
 ⟨fun i H=>∃(xs:List V) (x:V),SqT K H a xs∧xs[i]?=some x,fun i H v H'=>∃T x,v = .ref T∧H T=none∧H'=upd H T (.tup [.int (i:Nat),x])∧∀xs,SqT K H a xs→xs[i]?=some x,fun i H=>∃xs:List V,SqT K H a xs∧xs.length≤i⟩
theorem lU{P:Program}{w:World}{K:M0}{elts:List Expr}{kk:Nat}{tpos:Pos}(a e it:Addr) :
  Turn P w K (.Tuple elts kk tpos) (JH K a) [e,it] e (fun i h=>(∃old,IsEnum h e it ((i:Nat):Int) old)∧h.IsTupleIter it a i∧e≠it∧a≠it∧a≠e) where
 mem:=by simp
 obj:=fun i h st b hb=>by
  obtain⟨⟨old,he⟩,⟨o,ho,hc,hd⟩,_⟩:=st
  have e':b=e∨b=it:=by simpa using hb
  rcases e' with z|z
  ·rw[z];exact⟨_,he,fun v q=>nomatch q⟩
  ·rw[z];exact⟨o,ho,fun v q=>by rw[hd]at q;cases q⟩
 keep:=fun i h h' st k=>let ⟨⟨old,he⟩,hi,hne⟩:=st;⟨⟨old,k e (by simp) _ he⟩,hi.at fun o q=>k it (by simp) o q,hne⟩
 item:=by
  intro X hP hw hK hc i pins s σ H E I hf st hg
  subst hP hw hK
  obtain⟨⟨old,he⟩,hit,hne,hai,hae⟩:=st
  obtain⟨xs,x,hq,hx⟩:=hg
  obtain⟨its,rv,p,hz⟩:=I.tuple hq
  obtain⟨u,hu,ru⟩:=rv.get hx
  have hel:e<s.heap.objs.size:=Heap.lt_size he
  have hil:it<s.heap.objs.size:=by obtain⟨_,q,_⟩:=hit;exact Heap.lt_size q
  have hlt:i<its.toArray.size:=by have:=(List.getElem?_eq_some_iff.mp hu).1;simpa using this
  refine wpAny_pyNext_enum_itemD (Draws.tuple (A:=X.A.in1) (show X.A.in1.handled=none from I.ok.hd hc) it a hai its.toArray) he ⟨hit,p⟩ hlt hne (by simp[hne,Ne.symm hae]) fun x' h' tk hx' ho st' hT hsz hk=>?_
  have ex:x'=u:=by
   have:its.toArray[i]?=some u:=by simpa using hu
   rw[this]at hx'
   exact (Option.some.inj hx').symm
  subst ex
  obtain⟨hit',_⟩:=st'
  refine⟨_,rfl,wpAny_letOwnedTupleGo_enum (s:={s with heap:=h',toks:=tk+1}) ho fun h'' he' sb=>?_⟩
  have hT2:h''.get? s.heap.objs.size=some {cls:=.type "tuple",data:=.seq #[.int i tk,x']}:=(sb.2 _ (Nat.ne_of_gt hel)).trans hT
  have new:ObjOk X.prog X.w (upd H s.heap.objs.size (.tup [.int (i:Nat),x])) h'' s.heap.objs.size (.tup [.int (i:Nat),x]) :=
   ⟨by show 2≤sizeLine;decide,[.int i tk,x'],.cons ⟨_,rfl⟩ (.cons ru .nil),⟨_,hT2,rfl,_,rfl⟩⟩
  have I1:Inv X pins σ (upd H s.heap.objs.size (.tup [.int (i:Nat),x])) {s with heap:=h'',toks:=tk+1} :=
   I.turnedNew (ch:=[e,it]) (fun b ob hb q=>(sb.2 b (fun z=>hb (by simp[z]))).trans (hk b ob (fun z=>hb (by simp[z])) (fun z=>hb (by simp[z])) q)) hf (M7 _) new
  refine⟨.ref s.heap.objs.size,_,I1,rfl,⟨_,x,rfl,I.hok.fresh (M7 _),rfl,fun ys hy=>by rw[I.tuple_inj hy hq];exact hx⟩,⟨⟨x',?_⟩,hit'.at fun o q=>(sb.2 it (Ne.symm hne)).trans q,hne,hai,hae⟩,fun b hb=>?_⟩
  ·have e1:((i+1:Nat):Int)=(i:Int)+1:=by omega
   rw[e1];exact he'
  ·have hb':b<s.heap.objs.size:=by
    have e':b=e∨b=it:=by simpa using hb
    rcases e' with z|z
    ·rw[z];exact hel
    ·rw[z];exact hil
   rw[upd_ne (Nat.ne_of_lt hb')]
   exact (hf b hb).1
 done:=by
  intro X hP hw hK hc i pins s σ H E I hf st hg
  subst hP hw hK
  obtain⟨⟨old,he⟩,hit,hne,hai,hae⟩:=st
  obtain⟨xs,hq,hx⟩:=hg
  obtain⟨its,rv,p,hz⟩:=I.tuple hq
  obtain⟨f0,f1,f2,f3,f4,f5⟩:=hf it (by simp)
  have hl:=rv.length
  have hT:s.TypeIs (.ref e) "enumerate" := ⟨_,he,rfl⟩
  unfold pyNext
  refine wpAny_bind (wpAny_attempt (wpAny_callSpecial?_slot (name:=Str.ofString "__next__") hT F.slot_enumerate_next
   (wpAny_call_entry F.slot_enumerate_next hT F.entry_enumerate_next ?_ (F.args_enumerate_next_1 _))))
  show wpAny _ _ (field (.ref e) 2 >>=_) _ _ _
  refine wpAny_bind (wpAny_field he rfl (x:=.ref it) rfl ?_)
  refine wpAny_bind (wpAny_nextOf_tuple_end (I.ok.hd hc) hit p (by simp;omega) fun h' x he' hx'=>?_)
  obtain⟨o,ho,hc'⟩:=hx'
  refine wpAny_bind (wpAny_isInstance (T := "StopIteration") (b:=true) ⟨o,ho,hc'⟩ isSubtype_stop ?_)
  exact wpAny_pure ⟨rfl,I.turned (t':=s.toks) (fun b o hb q=>he' b o hb q) f0 f1 f3 f4 f5⟩
 self:=fun A i s Q E st h=>let ⟨⟨_,he⟩,_⟩:=st;wpAny_pyIter_enum he h
def Fo(K:M0)(ta:TA):TI:=fun σ H R=>ta σ H fun vs H1=>∃a xs,vs=[.ref a]∧((SqL K H1 a xs∧R (Ite K a) H1)∨(SqT K H1 a xs∧R (JH K a) H1))
theorem tN{X:Cx}{e:Expr}{ta:TA}{p pos tpos:Pos}{elts:List Expr}{kk:Nat}(hg:Gl X "enumerate")(hm:X.mg "enumerate" =none)(ha:PA X [e] ta)(hs:starEach [e] X.env=[(false,eval e X.env)]:=by rfl) :
  PI X (.Tuple elts kk tpos) (.Call (.Name "enumerate" p) [e] [] pos) (Fo X.K ta):=by
 refine⟨fun pins s σ H R I h=>?_⟩
 refine Call_ (ld_blt I hg hm boot_enumerate (PyProof.Rows.callWith_type1 (thn (ha.run pos pins s σ H _ I h) fun us s1 ⟨vs,H1,I1,r1,q1⟩=>?_) hs rfl))
 obtain⟨a,xs,ex,hq⟩:=q1
 subst ex
 cases r1 with
 |cons r rr =>
  cases rr
  cases r
  have fp:∀b∈[s1.heap.objs.size+1,s1.heap.objs.size],s1.heap.objs.size≤b:=fun b hb=>by
   have e':b=s1.heap.objs.size+1∨b=s1.heap.objs.size:=by simpa using hb
   rcases e' with z|z
   ·rw[z];exact Nat.le_add_right _ _
   ·rw[z];exact M7 _
  rcases hq with⟨hq,q⟩|⟨hq,q⟩
  ·obtain⟨its,rv,p',hz⟩:=I1.list hq
   refine call_enumerate_list p'.isList fun h' he hit hsz hk=>wpAny_pyIter_enum he ?_
   have I2:Inv X pins σ H1 {s1 with heap:=h'}:=I1.kept (t':=s1.toks) hk
   refine⟨s1.heap.objs.size+1,[s1.heap.objs.size+1,s1.heap.objs.size],_,_,H1,rfl,I2,turn_enum a (s1.heap.objs.size+1) s1.heap.objs.size,⟨⟨.none,he⟩,hit,Nat.succ_ne_self _⟩,fun b hb=>?_,q⟩
   exact I1.fpOk (fp b hb) (I1.hok.fresh (fp b hb))
  ·obtain⟨its,rv,p',hz⟩:=I1.tuple hq
   have hal:a<s1.heap.objs.size:=by obtain⟨_,z,_⟩:=p';exact Heap.lt_size z
   refine f9 p' fun h' he hit hsz hk=>wpAny_pyIter_enum he ?_
   have I2:Inv X pins σ H1 {s1 with heap:=h'}:=I1.kept (t':=s1.toks) hk
   refine⟨s1.heap.objs.size+1,[s1.heap.objs.size+1,s1.heap.objs.size],_,_,H1,rfl,I2,lU a (s1.heap.objs.size+1) s1.heap.objs.size,⟨⟨.none,he⟩,hit,Nat.succ_ne_self _,Nat.ne_of_lt hal,Nat.ne_of_lt (Nat.lt_succ_of_lt hal)⟩,fun b hb=>?_,q⟩
   exact I1.fpOk (fp b hb) (I1.hok.fresh (fp b hb))
end Av
namespace Av
variable [Tb]
abbrev sm(X:Cx):Cx:={X with A:=X.A.in1,xe:=fun _ _=>False}
section
variable {X:Cx} {pins:List (Addr × Obj)} {σ:L2.St} {H:Hp} {s:Shared}
theorem wX(I:Inv X pins σ H s):Inv (sm X) pins σ H s :=
 ⟨⟨I.ok.mod,I.ok.kind,I.ok.glob,I.ok.blt,I.ok.above,I.ok.inj,I.ok.has,I.ok.cab,I.ok.hd,I.ok.frames,I.ok.stk,I.ok.exf,I.ok.bs,I.ok.bsz,I.ok.noex,I.ok.exfs,I.ok.funs,I.ok.frf⟩,I.os,I.bare,I.base,I.loc,I.cell,I.free,I.freeC,I.pin,I.hok,I.len⟩
theorem Dt(I:Inv (sm X) pins σ H s):Inv X pins σ H s :=
 ⟨⟨I.ok.mod,I.ok.kind,I.ok.glob,I.ok.blt,I.ok.above,I.ok.inj,I.ok.has,I.ok.cab,I.ok.hd,I.ok.frames,I.ok.stk,I.ok.exf,I.ok.bs,I.ok.bsz,I.ok.noex,I.ok.exfs,I.ok.funs,I.ok.frf⟩,I.os,I.bare,I.base,I.loc,I.cell,I.free,I.freeC,I.pin,I.hok,I.len⟩
theorem rS(a b:Value):argsOk "sum" ⟨[a,b],[]⟩:=by unfold argsOk;kernel_rfl
def nq(u:Value)(c:Nat):Obj:={cls:=.type "list",dict:=none,data:=.seq #[u] c,slots:=#[]}
theorem C7{r:R2}{a it S:Addr}{n:Nat}{W:Nat→V→Hp→Prop}{Q:VK}(hr:OpR (sm X) (binaryOp .Add) r)(hc:X.calm=true)(hS:it≠S)
  (hW:∀i t H,W i t H→(∃b,t = .ref b)∧∃xs,SqL X.K H a xs∧xs.length=n∧(n≤i→Q t H)∧∀x,xs[i]?=some x→r t x H fun t' H'=>W (i+1) t' H') :
  ∀(k i:Nat) (s:Shared) (H:Hp) (t:V) (u:Value) (c:Nat),n - i=k→Inv (sm X) pins σ H s→(∀b∈[it,S],FpOk (sm X) pins H b)→s.heap.IsListIter it a i→s.heap.get? S=some (nq u c)→RelV t u→W i t H→
   codeAny (model X.prog X.w) X.A (.builtin "sum.loop" ⟨[.ref it,.ref S,rawInt 2,rawInt 0],[]⟩) (fun f s'=>∃v,f = .ok (.ret v)∧EP (sm X) pins σ Q v s') s:=by
 intro k
 induction k with
 |zero =>
  intro i s H t u c hk I hf hit hSo rt w
  obtain⟨⟨b,rfl⟩,xs,h1,h2,h3,_⟩:=hW i t H w
  cases rt
  obtain⟨its,rv,p,_⟩:=I.list h1
  obtain⟨f0,f1,f2,f3,f4,f5⟩:=hf it (by simp)
  have hl:=rv.length
  refine codeAny_builtin PySem.F.entry_sum_loop ?_
  rw[Around.under_plainId PySem.F.plain_sum_loop _]
  show wpAny _ X.A.in1 (seqItems? (.ref S) >>=_) _ _ s
  refine wpAny_bind (wpAny_seqItems hSo rfl ?_)
  show wpAny _ X.A.in1 (tryCatch (pyNext (.ref it)) _ >>=_) _ _ s
  refine wpAny_bind (wpAny_tryCatch (wpAny_pyNext_list_end (I.ok.hd hc) hit p.isList (by simp;omega) fun h' eb=>?_))
  exact wpAny_pure ⟨.ref b,rfl,.ref b,H,I.turned (t':=s.toks) (fun b o hb e=>eb b o hb e) f0 f1 f3 f4 f5,rfl,h3 (by omega)⟩
 |succ k ih =>
  intro i s H t u c hk I hf hit hSo rt w
  obtain⟨⟨b,rfl⟩,xs,h1,h2,_,h4⟩:=hW i t H w
  cases rt
  obtain⟨its,rv,p,_⟩:=I.list h1
  obtain⟨f0,f1,f2,f3,f4,f5⟩:=hf it (by simp)
  have hlt:i<xs.length:=by omega
  obtain⟨x,hx⟩:∃x,xs[i]?=some x:=⟨xs[i],Me hlt⟩
  obtain⟨v,hv,rx⟩:=rv.get hx
  refine codeAny_builtin PySem.F.entry_sum_loop ?_
  rw[Around.under_plainId PySem.F.plain_sum_loop _]
  show wpAny _ X.A.in1 (seqItems? (.ref S) >>=_) _ _ s
  refine wpAny_bind (wpAny_seqItems hSo rfl ?_)
  show wpAny _ X.A.in1 (tryCatch (pyNext (.ref it)) _ >>=_) _ _ s
  refine wpAny_bind (wpAny_tryCatch (wpAny_pyNext_list_item hit p.isList (x:=v) (by simpa using hv) fun h' hit' sb=>?_))
  have I1:Inv (sm X) pins σ H {s with heap:=h'}:=I.turned (t':=s.toks) (fun b o hb e=>(sb.2 b hb).trans e) f0 f1 f3 f4 f5
  have hSo1:h'.get? S=some (nq (.ref b) c):=(sb.2 S (Ne.symm hS)).trans hSo
  obtain⟨oi,ei,ci,di⟩:=id hit'
  have I2:=I1.pinned (fp:=[it,S]) hf fun q hq=>by
   rcases List.mem_cons.mp hq with e|hq
   ·subst e
    exact⟨oi,ei,fun z e=>by rw[di]at e;cases e⟩
   ·cases List.mem_singleton.mp hq
    exact⟨_,hSo1,fun z e=>by cases e⟩
  show wpAny _ X.A.in1 ((holding [v] (binaryOp .Add (.ref b) v)).attempt >>=_) _ _ _
  refine wpAny_bind (wpAny_attempt (wpAny_holding ?_))
  refine wpAny_mono (hr _ {s with heap:=h'} σ H (.ref b) x (.ref b) v _ I2 rfl rx (h4 x hx)) ?_ fun _ _ z=>False.elim z
  rintro z s2 ⟨t',H2,I3,rt',w'⟩
  have pS:=I3.pin (S,nq (.ref b) c) (List.mem_append_right _ (List.mem_append_right _ (mem_pinsAt (by simp) hSo1)))
  have pI:=I3.pin (it,oi) (List.mem_append_right _ (List.mem_append_right _ (mem_pinsAt (by simp) ei)))
  have I4:Inv (sm X) pins σ H2 s2:=I3.unpinned
  have hf2:∀q∈[it,S],FpOk (sm X) pins H2 q:=fun q hq=>by
   refine⟨?_,(hf q hq).2⟩
   rcases List.mem_cons.mp hq with e|hq
   ·subst e;exact pI.2.1
   ·cases List.mem_singleton.mp hq
    exact pS.2.1
  obtain⟨g0,g1,g2,g3,g4,g5⟩:=hf2 S (by simp)
  have eS:s2.heap.get? S=some {cls:=.type "list",dict:=none,data:=.seq #[.ref b] c,slots:=#[]}:=pS.1
  show wpAny _ X.A.in1 (updateSeq S (fun _=>#[z]) >>=_) _ _ _
  refine wpAny_bind ?_
  refine wpAny_updateSeq eS rfl ?_
  have e2:=Heap.get?_update_self (Obj.mapSeq fun _=>#[z]) eS rfl
  refine wpAny_bind (wpAny_letGo ?_)
  refine wpAny_bind ?_
  refine wpAny_updateSeq e2 rfl (wpAny_pure ⟨plainId_quiet PySem.F.plain_sum_loop _,?_⟩)
  have e3:=Heap.get?_update_self (Obj.mapSeq fun _=>#[z]) e2 rfl
  have kp:∀(q:Addr) (o:Obj),q≠S→s2.heap.get? q=some o→((s2.heap.update S (Obj.mapSeq fun _=>#[z])).update S (Obj.mapSeq fun _=>#[z])).get? q=some o:=fun q o hq e =>
   (Heap.get?_update_other _ _ (Ne.symm hq)).trans ((Heap.get?_update_other _ _ (Ne.symm hq)).trans e)
  refine ih (i+1) _ H2 t' z _ (by omega) (I4.turned (t':=s2.toks) (fun q o hq e=>kp q o hq e) g0 g1 g3 g4 g5) hf2 ⟨oi,kp it oi hS pI.1,ci,di⟩ e3 rt' w'
def n8(r:R2)(K:M0):List V→Hp→VK→Prop:=fun vs H Q=>∃a b xs T,vs=[.ref a,.ref b]∧SqL K H a xs∧(T = "list"∧(∃ys,Rd H b (.lst ys))∨T = "tuple"∧∃ys,SqT K H b ys)∧
 ∃W:Nat→V→Hp→Prop,W 0 (.ref b) H∧∀i t H,W i t H→(∃b,t = .ref b)∧∃xs',SqL K H a xs'∧xs'.length=xs.length∧(xs.length≤i→Q t H)∧∀x,xs'[i]?=some x→r t x H fun t' H'=>W (i+1) t' H'
theorem qM{r:R2}(hr:OpR (sm X) (binaryOp .Add) r)(hc:X.calm=true):CallR X (.builtin "sum") (n8 r X.K):=by
 intro pins s σ H vs us Q I rv h
 obtain⟨a,b,xs,T,rfl,h1,h2,W,w0,hW⟩:=h
 obtain⟨u1,u2,rfl,r1,r2⟩:=rv.two
 cases r1
 cases r2
 obtain⟨its,rl,p,_⟩:=I.list h1
 refine call_function_tree PySem.F.kind_sum PySem.F.plain_sum PySem.F.entry_sum (rS _ _) ?_
 unfold Builtin.«sum»
 simp only[Mb,Mq]
 rw[if_neg (by decide)]
 refine wpAny_bind (wpAny_of_eq (show Builtin.Builtins.bindParams "sum" ["start"] 0 ⟨[.ref b],[]⟩=pure [some (.ref b)] from rfl) ?_)
 refine wpAny_bind (wpAny_pyIter_list p.isList ?_)
 have I1:Inv (sm X) pins σ H {s with heap:=s.heap.push {cls:=.type "list_iterator",data:=.fields #[.ref a,.int 0 0]}}:=(wX I).kept (t':=s.toks) fun q o e=>Heap.get?_push_of_some _ e
 have tl:∀U:String,isSubtype (.type "list") (.type U)=pure false→isSubtype (.type "tuple") (.type U)=pure false→∀(Qk:Bool→Shared→Prop),Qk false {s with heap:=s.heap.push {cls:=.type "list_iterator",data:=.fields #[.ref a,.int 0 0]}}→
   wpAny (model X.prog X.w) X.A.in1 (isInstance (.ref b) (.type U)) Qk X.xe {s with heap:=s.heap.push {cls:=.type "list_iterator",data:=.fields #[.ref a,.int 0 0]}}:=fun U e1 e2 Qk q=>by
  rcases h2 with⟨_,ys,h2⟩|⟨_,ys,h2⟩
  ·obtain⟨_,i2,n2,_,_,e⟩:=oY I1 h2
   exact wpAny_isInstance (T := "list") (b:=false) ⟨_,e,rfl⟩ e1 q
  ·obtain⟨i2,_,⟨⟨oc,od,dt,sl⟩,e,hcl,n2,hd⟩,_⟩:=I1.tuple h2
   cases (show oc = .type "tuple" from hcl)
   exact wpAny_isInstance (T := "tuple") (b:=false) ⟨_,e,rfl⟩ e2 q
 refine wpAny_bind (wpAny_pure ?_)
 simp only[List.forIn_cons,List.forIn_nil]
 refine wpAny_bind (wpAny_bind (wpAny_bind (tl "str" PySem.F.sub_list_str PySem.F.sub_tuple_str _ ?_)))
 simp only[M6,if_false]
 refine wpAny_pure (wpAny_bind (wpAny_bind (tl "bytes" PySem.F.sub_list_bytes PySem.F.sub_tuple_bytes _ ?_)))
 simp only[M6,if_false]
 refine wpAny_pure (wpAny_bind (wpAny_bind (tl "bytearray" PySem.F.sub_list_bytearray PySem.F.sub_tuple_bytearray _ ?_)))
 simp only[M6,if_false]
 refine wpAny_pure (wpAny_pure ?_)
 refine wpAny_bind (wpAny_newObj_type ?_)
 have sz:({s with heap:=s.heap.push {cls:=.type "list_iterator",data:=.fields #[.ref a,.int 0 0]}}:Shared).heap.objs.size=s.heap.objs.size+1:=Array.size_push ..
 have it0:(s.heap.push {cls:=.type "list_iterator",data:=.fields #[.ref a,.int 0 0]}).IsListIter s.heap.objs.size a 0:=⟨_,Heap.get?_push_size _ rfl,rfl,rfl⟩
 have fI:FpOk (sm X) pins H s.heap.objs.size:=(wX I).fpOk (M7 _) (I.hok.fresh (M7 _))
 have fS:FpOk (sm X) pins H (s.heap.push {cls:=.type "list_iterator",data:=.fields #[.ref a,.int 0 0]}).objs.size:=I1.fpOk (M7 _) (I1.hok.fresh (M7 _))
 refine wpAny_pure ⟨plainId_quiet PySem.F.plain_sum_loop _,?_⟩
 refine codeAny_mono (C7 hr hc (Nat.ne_of_lt (Heap.lt_size it0.choose_spec.1)) hW (xs.length - 0) 0 _ H (.ref b) (.ref b) 0 rfl (I1.kept (t':=s.toks) fun q o e=>Heap.get?_push_of_some _ e) ?_ (it0.at fun o e=>Heap.get?_push_of_some _ e) (Heap.get?_push_size _ rfl) rfl w0) ?_
 ·intro q hq
  rcases List.mem_cons.mp hq with e|hq
  ·subst e;exact fI
  ·cases List.mem_singleton.mp hq
   exact fS
 ·rintro f s' ⟨v,rfl,t',H',I',rt,q⟩
  exact⟨t',H',Dt I',rt,q⟩
end
end Av
namespace Av
variable [Tb]
mutual
theorem br{K:M0}{G:AG}{H:Hp}(rg:RelG K G H):∀{d:Dat} {p:PyData} {x:V},jB G d p→Rep K H x d→Dp K H x p
 |_,_,_,.non,.non=>.non
 |_,_,_,.bl b,.bl _=>.bl b
 |_,_,_,.int b,.int _=>.int b
 |_,_,_,.str b,.str _=>.str b
 |_,_,_,.tup h,.tup a r=>.tup a.sq (deeps_dp rg h r)
 |_,_,_,.lst h,.lst a r=>.lst a.sq (deeps_dp rg h r)
 |_,_,_,.ref e h,r=>by
  cases aK r
  obtain⟨vs,h1,h2⟩:=rg.lst e
  exact .lst (.inl (.inl h1)) (deeps_dp rg h h2)
theorem deeps_dp{K:M0}{G:AG}{H:Hp}(rg:RelG K G H):∀{ds:List Dat} {ps:List PyData} {xs:List V},Deeps G ds ps→Reps K H xs ds→DpAll K H xs ps
 |_,_,_,.nil,.nil=>.nil
 |_,_,_,.cons a b,.cons c d=>.cons (br rg a c) (deeps_dp rg b d)
end
def CO.op:CO→CmpOp
 |.lt=>.Lt|.le=>.LtE|.gt=>.Gt|.ge=>.GtE|.eq=>.Eq|.ne=>.NotEq|.isn=>.Is|.isnt=>.IsNot|.mem=>.In|.nmem=>.NotIn|.memd=>.In|.nmemd=>.NotIn|.deq=>.Eq|.dne=>.NotEq|.ieq=>.Eq|.ine=>.NotEq
theorem bA{K:M0}{H:Hp}{v:V}{d:Dat}{s:Str}(r:Rep K H v d)(e:iz d=some s):v = .str s∧d = .str s:=by
 cases d with
 |str x=>cases e;exact⟨dn r,rfl⟩
 |_=>cases e
theorem bg{K:M0}{H:Hp}{x:V}{d:Dat}(r:Rep K H x d)(f:aH d=true):x=toV d∧flatV x=true:=by
 cases r <;> first|exact⟨rfl,rfl⟩|cases f
theorem EE{K:M0}:OpA K (fun x y H Q=>rEq x y H Q∨rEqD K x y H Q) (bY .eq):=by
 intro H x y d e G Qa Q rx ry rg h p
 rcases h with⟨h1,h3⟩|⟨a,b,h1,h2,h3,h4,h5⟩
 ·simp only[M3]at h1
  obtain⟨rfl,_⟩:=bg rx h1.1.1
  obtain⟨rfl,_⟩:=bg ry h1.1.2
  exact .inl ⟨h1.2,p.val rg (.bl _) h3⟩
 ·exact .inr ⟨a,b,br rg h1 rx,br rg h2 ry,h3,h4,p.val rg (.bl _) h5⟩
theorem ED{K:M0}:OpA K (fun x y H Q=>rNe x y H Q∨rNeD K x y H Q) (bY .ne):=by
 intro H x y d e G Qa Q rx ry rg h p
 rcases h with⟨h1,h3⟩|⟨a,b,h1,h2,h3,h4,h5⟩
 ·simp only[M3]at h1
  obtain⟨rfl,_⟩:=bg rx h1.1.1
  obtain⟨rfl,_⟩:=bg ry h1.1.2
  exact .inl ⟨h1.2,p.val rg (.bl _) h3⟩
 ·exact .inr ⟨a,b,br rg h1 rx,br rg h2 ry,h3,h4,p.val rg (.bl _) h5⟩
theorem cf{K:M0}{H:Hp}:∀{ds:List Dat} {xs:List V},Reps K H xs ds→ds.all aH=true→xs=ds.map toV∧xs.all flatV=true
 |[],_,.nil,_=>⟨rfl,rfl⟩
 |d :: ds,_,.cons a r,f=>by
  rw[Mo,M3]at f
  obtain⟨h1,h2⟩:=bg a f.1
  obtain⟨h3,h4⟩:=cf r f.2
  exact⟨by rw[Mc,←h1,←h3],by rw[Mo,h2,h4] <;> rfl⟩
theorem gJ{K:M0}{n:Bool}{rA:Dat→Dat→AG→AQ→Prop}(e:∀x y G Q,rA x y G Q→uh n x y G Q):OpA K (rIn K n) rA:=by
 intro H x y d e' G Qa Q rx ry rg h p
 obtain⟨ds,h1,h2,h3,h4⟩:=e _ _ _ _ h
 obtain⟨a,vs,rfl,h5,h6⟩:=cR rg ry h1
 obtain⟨f1,f2⟩:=bg rx h2
 obtain⟨f3,f4⟩:=cf h6 h3
 refine⟨a,vs,rfl,h5,f2,f4,?_⟩
 have q:inV x vs=ds.any fun d'=>eqF d' d:=by
  unfold inV
  rw[f3,f1,List.any_map]
  rfl
 rw[q]
 exact p.val rg (.bl _) h4
theorem tT{K:M0}{g:Int→Int→Bool}{rA:Dat→Dat→AG→AQ→Prop}(e:∀d e G Q,rA d e G Q→∃i j,d = .int i∧e = .int j∧Q (.bl (g i j)) G):OpA K (rI0 fun i j=>.bl (g i j)) rA:=by
 intro H x y d e' G Qa Q rx ry rg h p
 obtain⟨i,j,rfl,rfl,h2⟩:=e _ _ _ _ h
 cases aB rx
 cases aB ry
 exact⟨i,j,rfl,rfl,p.val rg (.bl _) h2⟩
theorem oQ{K:M0}{H:Hp}{x:V}{d:Dat}(r:Rep K H x d):decide (x = .non)=dL d:=by
 cases r <;> first|rfl|exact decide_eq_false (fun z=>by cases z)
def Gy(K:M0)(n:Bool):R2:=fun x y H Q=>∃d ds,Dp K H x d∧(Dp K H y (.tuple ds)∨Dp K H y (.list ds))∧d.plain=true∧PyData.plainAll ds=true∧min (PyData.depthAll ds) d.depth≤60∧Q (.bl (if n then !ds.any (fun z=>PyData.eqv z d) else ds.any fun z=>PyData.eqv z d)) H
theorem EB{X:Cx}(hu:X.A.units+64<cLine):OpR X (compareOp .In) (Gy X.K false):=by
 intro pins s σ H x y v u Q I rx ry h
 obtain⟨d,ds,hd,he,sd,se,hm,q⟩:=h
 obtain⟨as,r1⟩:=Dp.reads I d x v hd rx
 rcases he with he|he
 ·obtain⟨bs,r2⟩:=Dp.reads I (.tuple ds) y u he ry
  exact SeqAt.in_tuple_data r2 r1 se sd (by omega) ⟨.bl _,H,I,rfl,q⟩
 ·obtain⟨bs,r2⟩:=Dp.reads I (.list ds) y u he ry
  exact SeqAt.in_list_data r2 r1 se sd (by omega) ⟨.bl _,H,I,rfl,q⟩
theorem oF{X:Cx}(hu:X.A.units+64<cLine):OpR X (compareOp .NotIn) (Gy X.K true):=by
 intro pins s σ H x y v u Q I rx ry h
 obtain⟨d,ds,hd,he,sd,se,hm,q⟩:=h
 obtain⟨as,r1⟩:=Dp.reads I d x v hd rx
 rcases he with he|he
 ·obtain⟨bs,r2⟩:=Dp.reads I (.tuple ds) y u he ry
  exact SeqAt.notIn_tuple_data r2 r1 se sd (by omega) ⟨.bl _,H,I,rfl,q⟩
 ·obtain⟨bs,r2⟩:=Dp.reads I (.list ds) y u he ry
  exact SeqAt.notIn_list_data r2 r1 se sd (by omega) ⟨.bl _,H,I,rfl,q⟩
theorem tR{K:M0}:OpA K (Gy K false) (bY .memd):=by
 intro H x y d e' G Qa Q rx ry rg h p
 have h:CF false d e' G Qa:=by cases d <;> cases e' <;> exact h
 obtain⟨q,qs,h1,h2,h3,h4,h5,h6⟩:=h
 exact⟨q,qs,br rg h1 rx,h2.imp (fun h=>br rg h ry) (fun h=>br rg h ry),h3,h4,h5,p.val rg (.bl _) h6⟩
theorem oH{K:M0}:OpA K (Gy K true) (bY .nmemd):=by
 intro H x y d e' G Qa Q rx ry rg h p
 have h:CF true d e' G Qa:=by cases d <;> cases e' <;> exact h
 obtain⟨q,qs,h1,h2,h3,h4,h5,h6⟩:=h
 exact⟨q,qs,br rg h1 rx,h2.imp (fun h=>br rg h ry) (fun h=>br rg h ry),h3,h4,h5,p.val rg (.bl _) h6⟩
theorem f8(X:Cx)(hu:X.A.units+64<cLine)(ow:∀C,Tb.own C=true→HNI.EqC X.K (He.ga X.K C))(o:CO):∃r,OpR X (compareOp o.op) r∧OpA X.K r (bY o):=by
 cases o with
 |lt=>exact⟨_,op_lt,tT fun d e G Q h=>by cases d <;> cases e <;> first|exact⟨_,_,rfl,rfl,h⟩|exact False.elim h⟩
 |le=>exact⟨_,op_le,tT fun d e G Q h=>by cases d <;> cases e <;> first|exact⟨_,_,rfl,rfl,h⟩|exact False.elim h⟩
 |gt=>exact⟨_,op_gt,tT fun d e G Q h=>by cases d <;> cases e <;> first|exact⟨_,_,rfl,rfl,h⟩|exact False.elim h⟩
 |ge=>exact⟨_,op_ge,tT fun d e G Q h=>by cases d <;> cases e <;> first|exact⟨_,_,rfl,rfl,h⟩|exact False.elim h⟩
 |eq=>exact⟨_,op_eq.or (op_eqD hu),EE⟩
 |ne=>exact⟨_,op_ne.or (op_neD hu),ED⟩
 |isn =>
  refine⟨_,op_isN,fun H x y d e G Qa Q rx ry rg h p=>?_⟩
  cases e with
  |non=>cases nZ ry;exact⟨rfl,by rw[oQ rx];exact p.val rg (.bl _) h⟩
  |_=>exact False.elim h
 |isnt =>
  refine⟨_,op_notN,fun H x y d e G Qa Q rx ry rg h p=>?_⟩
  cases e with
  |non =>
   cases nZ ry
   refine⟨rfl,?_⟩
   rw[oQ rx]
   exact p.val rg (.bl _) h
  |_=>exact False.elim h
 |mem=>exact⟨_,op_in_seq,gJ fun _ _ _ _ h=>h⟩
 |nmem=>exact⟨_,op_notIn_seq,gJ fun _ _ _ _ h=>h⟩
 |memd=>exact⟨_,EB hu,tR⟩
 |nmemd=>exact⟨_,oF hu,oH⟩
 |deq=>exact⟨_,AV (by omega),fun H x y d e G Qa Q rx ry rg h p=>oJ H x y d e G Qa Q rx ry rg (show CJ true d e G Qa by cases d <;> cases e <;> exact h) p⟩
 |ieq=>exact⟨_,EC hu,fun H x y d e G Qa Q rx ry rg h p=>oI ow H x y d e G Qa Q rx ry rg (show FE false d e G Qa by cases d <;> cases e <;> exact h) p⟩
 |ine=>exact⟨_,Ez hu,fun H x y d e G Qa Q rx ry rg h p=>oI ow H x y d e G Qa Q rx ry rg (show FE true d e G Qa by cases d <;> cases e <;> exact h) p⟩
 |dne=>exact⟨_,AR (by omega),fun H x y d e G Qa Q rx ry rg h p=>oJ H x y d e G Qa Q rx ry rg (show CJ false d e G Qa by cases d <;> cases e <;> exact h) p⟩
theorem emp{K:M0}{H:Hp}{vs:List V}{ds:List Dat}(r:Reps K H vs ds):(!vs.isEmpty) = !ds.isEmpty:=by
 cases r <;> rfl
theorem GR{K:M0}{H:Hp}{x:V}{d:Dat}{G:AG}{Qa:Bool→AG→Prop}{Q:Bool→Hp→Prop}(rx:Rep K H x d)(rg:RelG K G H)(h:bn d G Qa)(p:∀k,Qa k G→Q k H):∃k,TruV K x H k∧Q k H:=by
 cases d with
 |non=>cases nZ rx;exact⟨false,rfl,p _ h⟩
 |bl b=>cases fx rx;exact⟨b,rfl,p _ h⟩
 |int i=>cases aB rx;exact⟨_,rfl,p _ h⟩
 |str z =>
  cases dn rx
  have e:((z.length:Int) !=0)=(z.length !=0):=by
   have q:((z.length:Int) == 0)=(z.length == 0):=by rw[Bool.eq_iff_iff];simp
   simp only[bne,q]
  exact⟨_,⟨h.1,rfl⟩,by rw[e];exact p _ h.2⟩
 |tup ds =>
  obtain⟨a,vs,rfl,h1,h2⟩:=aW rx
  exact⟨_,.inr (.inl ⟨vs,h1.sq,rfl⟩),by rw[emp h2];exact p _ h⟩
 |_ =>
  obtain⟨ds,h1,h2⟩:=h
  obtain⟨a,vs,rfl,h3,h4⟩:=am rg rx h1
  exact⟨_,.inl ⟨vs,.inl h3,rfl⟩,by rw[emp h4];exact p _ h2⟩
theorem Cs{K:M0}{H:Hp}{vs:List V}{ds:List Dat}{i:Int}{d:Dat}(r:Reps K H vs ds)(e:atI ds i=some d):∃v,atI vs i=some v∧Rep K H v d:=by
 unfold atI at e ⊢
 rw[r.length]
 cases q:ixN ds.length i with
 |none=>rw[q]at e;cases e
 |some j =>
  rw[q]at e
  obtain⟨v,h1,h2⟩:=r.get (i:=j) e
  exact⟨v,h1,h2⟩
theorem wc{K:M0}:OpA K (rIx K) ixW:=by
 intro H x y d e G Qa Q rx ry rg h p
 cases e with
 |int i =>
  cases aB ry
  obtain⟨ds,d',h1,h2,h3⟩:=h
  obtain⟨a,vs,rfl,h5,h6⟩:=cR rg rx h1
  obtain⟨v,h7,h8⟩:=Cs h6 h2
  rcases h5 with h5|h5
  ·exact .inl ⟨a,vs,i,v,rfl,rfl,h5,h7,p.val rg h8 h3⟩
  ·exact .inr (.inl ⟨a,vs,i,v,rfl,rfl,h5,h7,p.val rg h8 h3⟩)
 |_=>exact False.elim h
theorem j6{K:M0}{H:Hp}{vs:List V}{ds:List Dat}(r:Reps K H vs ds)(lo hi:Option Int):Reps K H (cutV vs lo hi) (jk ds lo hi):=by
 unfold cutV jk
 rw[r.length]
 exact (r.drop _).take _
def n9(K:M0):V→Option Int→Option Int→Hp→VK→Prop:=fun x lo hi H Q=>(rSlL K x lo hi H Q∨rSlA K x lo hi H Q)∨C8.rSlX x lo hi H Q
theorem Dv{X:Cx}:SlR X (n9 X.K):=(sl_list.or sl_tupA).or C8.sl_txt
theorem Dw{K:M0}{H:Hp}{x:V}{d:Dat}{G:AG}{Qa:AQ}{Q:VK}{lo hi:Option Int}(rx:Rep K H x d)(rg:RelG K G H){z:Bool}(h:slW z d lo hi G Qa)(p:PostZ K G H Qa Q):n9 K x lo hi H Q:=by
 have no:(∃ds,ai G d=some ds∧nw z (jk ds lo hi) G Qa)→n9 K x lo hi H Q:=fun hq=>by
  obtain⟨ds,h1,h2⟩:=hq
  obtain⟨a,vs,rfl,k1,r1⟩:=am rg rx h1
  exact .inl (.inl ⟨a,vs,rfl,.inl k1,aA rg (j6 r1 lo hi) h2 p⟩)
 cases d with
 |tup ds =>
  obtain⟨a,vs,rfl,h1,h2⟩:=aW rx
  refine .inl (.inr ⟨a,vs,rfl,h1.sq,fun hw=>?_,fun _=>p.newT rg (j6 h2 lo hi) h⟩)
  have e:jk ds lo hi=ds:=by
   unfold jk
   rw[←h2.length,hw.1,hw.2]
   rw[List.drop_zero,Nat.sub_zero,h2.length,List.take_length]
  have h':Qa (.tup ds) G:=by
   have q:Qa (.tup (jk ds lo hi)) G:=h
   rw[e]at q
   exact q
  exact p.val rg rx h'
 |str x =>
  cases dn rx
  exact .inr ⟨x,rfl,h.1,p.val rg (.str _) h.2⟩
 |_=>exact no h
def KP(K:M0):V→Option Int→Option Int→Hp→VK→Prop:=fun x lo hi H Q=>∃a xs i,x = .ref a∧lo=some i∧hi=none∧SqT K H a xs∧xs≠[]∧0<i∧∀p o,H p=none→o.dict=none→Q (.ref p) (upd H p (.frz o (.tup (cutV xs lo hi))))
theorem z8{X:Cx}:SlR X (KP X.K):=by
 intro pins s σ H x v vl vu lo hi sl Q I rx hs pl pu h
 obtain⟨a,xs,i,rfl,e1,e2,hx,hne,h0,q⟩:=h
 cases rx
 obtain⟨its,r,ht,hz⟩:=I.tuple hx
 have hlen:its.toArray.size=xs.length:=by rw[List.size_toArray];exact r.length.symm
 have l0:0<xs.length:=List.length_pos_iff.2 hne
 have hw:¬(HT.sIx xs.length 0 lo=0∧HT.sIx xs.length xs.length hi=xs.length):=by
  rintro⟨z,_⟩
  rw[e1]at z
  unfold HT.sIx at z
  have n1:¬i<0:=by omega
  simp only[n1,if_false]at z
  omega
 refine⟨"tuple",_,PyProof.Rows.slot_tuple_getitem.lookup,ht.typeIs,?_⟩
 refine HT.getItem_tuple_cut ht hs pl pu (by rw[hlen];exact hw) ?_ (by rw[hlen];exact hz)
 rw[hlen]
 have I2:=I.laid (t':=s.toks) (h':=s.heap.push {cls:=.type "tuple",data:=.seq (List.take (HT.sIx xs.length xs.length hi - HT.sIx xs.length 0 lo) (List.drop (HT.sIx xs.length 0 lo) its)).toArray}) (o:=.frz {cls:=.type "tuple",data:=.seq (List.take (HT.sIx xs.length xs.length hi - HT.sIx xs.length 0 lo) (List.drop (HT.sIx xs.length 0 lo) its)).toArray} (.tup (cutV xs lo hi))) (fun b ob q=>Heap.get?_push_of_some _ q) (M7 _)
  ⟨Heap.get?_push_size _ rfl,Nat.le_trans (cutV_length xs lo hi) hz,_,(r.drop (HT.sIx xs.length 0 lo)).take (HT.sIx xs.length xs.length hi - HT.sIx xs.length 0 lo),IsTup.new _ _⟩
 exact⟨.ref s.heap.objs.size,_,I2,rfl,q _ _ (I.hok.fresh (M7 _)) rfl⟩
def BF.nm:BF→Str
 |.len => "len" |.int => "int" |.tuple => "tuple" |.list => "list" |.isinst => "isinstance" |.all => "all" |.any => "any" |.sum1 => "sum" |.sum2 => "sum" |.min2 => "min" |.max2 => "max" |.ord => "ord" |.srt => "sorted" |.max1 => "max" |.min1 => "min" |.slen => "len" |.dct => "dict" |.str => "str" |.ktuple => "tuple" |.repr => "repr" |.srtd => "sorted"
def BF.val:BF→Value
 |.len=>.builtin "len" |.int=>.type "int" |.tuple=>.type "tuple" |.list=>.type "list" |.isinst=>.builtin "isinstance" |.all=>.builtin "all" |.any=>.builtin "any" |.sum1=>.builtin "sum" |.sum2=>.builtin "sum"
 |.min2=>.builtin "min" |.max2=>.builtin "max" |.ord=>.builtin "ord" |.srt=>.builtin "sorted" |.max1=>.builtin "max" |.min1=>.builtin "min" |.slen=>.builtin "len" |.dct=>.type "dict" |.str=>.type "str" |.ktuple=>.type "tuple" |.repr=>.builtin "repr" |.srtd=>.builtin "sorted"
def fo(K:M0)(r:List V→Hp→VK→Prop)(rA:List Dat→AG→AQ→Prop):Prop :=
 ∀(H:Hp) (xs:List V) (ds:List Dat) (G:AG) (Qa:AQ) (Q:VK),Reps K H xs ds→RelG K G H→rA ds G Qa→PostZ K G H Qa Q→r xs H Q
theorem aR{K:M0}{H:Hp}{xs:List V}{d:Dat}(r:Reps K H xs [d]):∃x,xs=[x]∧Rep K H x d:=by
 cases r with
 |cons a b=>cases b;exact⟨_,rfl,a⟩
theorem iH{K:M0}{H:Hp}{xs:List V}{d e:Dat}(r:Reps K H xs [d,e]):∃x y,xs=[x,y]∧Rep K H x d∧Rep K H y e:=by
 cases r with
 |cons a b =>
  obtain⟨y,rfl,h⟩:=aR b
  exact⟨_,_,rfl,a,h⟩
theorem kh{K:M0}{H:Hp}:∀{ds:List Dat} {vs:List V} {bs:List Bool},Reps K H vs ds→cK ds=some bs→vs=bs.map V.bl
 |[],_,_,.nil,e=>by cases e;rfl
 |d :: ds,_,bs,.cons a r,e=>by
  cases d with
  |bl b =>
   cases q:cK ds with
   |none=>simp only[cK,q]at e;cases e
   |some cs =>
    simp only[cK,q]at e
    cases e
    cases fx a
    rw[Mc,kh r q]
  |_=>cases e
theorem em{K:M0}{H:Hp}:∀{ds:List Dat} {vs:List V} {bs:List Int},Reps K H vs ds→cH ds=some bs→vs=bs.map V.int
 |[],_,_,.nil,e=>by cases e;rfl
 |d :: ds,_,bs,.cons a r,e=>by
  cases d with
  |int b =>
   cases q:cH ds with
   |none=>simp only[cH,q]at e;cases e
   |some cs =>
    simp only[cH,q]at e
    cases e
    cases aB a
    rw[Mc,em r q]
  |_=>cases e
structure Kt(K:M0)(C:Addr):Prop where
 cl:Cls K C
 ha:PySem.W.findIn K (.ref C) "__class__" =some (some (.builtin "object.__class__"))
 hn:PySem.W.specialIn K (.builtin "object.__class__") "__get__" =some (some (.builtin "getset_descriptor.__get__"))
 ht:PySem.W.takesIn K (.builtin "object.__class__")=some true
 hm:PySem.W.mroIn K C (.type "object")=some true
def eF(K:M0):String ⊕ Str→Value
 |.inl t=>.type t
 |.inr C=>.ref (He.ga K C)
structure si(K:M0):Prop where
 own:∀C,Tb.own C=true→Kt K (He.ga K C)
 eqc:∀C,Tb.own C=true→HNI.EqC K (He.ga K C)
 exo:∀C,Tb.exo C=true→ExcC K (He.ga K C)
 sub:∀t n b,Tb.sub t n=some b→PySem.W.kitOne K (eF K t) (eF K n)=some b
 xm:∀C D b,Tb.xm C D=some b→PySem.W.exmOne K (.ref (He.ga K C)) (.ref (He.ga K D))=some b
def TyA(K:M0)(H:Hp)(x:V)(t:Value):Prop:=TyX K H x t∨∃a C dx,x = .ref a∧t = .ref C∧H a=some (mO a C dx)∧ExcC K C∧∀d,dx=some d→∃fs,H d=some (Gn d fs)
theorem xK{K:M0}{G:AG}{H:Hp}{x:V}{d:Dat}{t:String}(rx:Rep K H x d)(rg:RelG K G H)(e:jG G d=some t):TyX K H x (.type t):=by
 cases d with
 |non=>cases nZ rx;cases e;exact .base .non
 |bl b=>cases fx rx;cases e;exact .base (.bl b)
 |int b=>cases aB rx;cases e;exact .base (.int b)
 |str b=>cases dn rx;cases e;exact .base (.str b)
 |tup ds =>
  cases e
  obtain⟨a,vs,rfl,h1,_⟩:=aW rx
  rcases h1 with h1|⟨o,h1⟩|⟨o,_,_,h1,h2,_⟩
  ·exact .base (.tup h1)
  ·exact .fTuple h1
  ·exact .kTuple h1 h2
 |ktp ds =>
  cases e
  cases rx with
  |ktp h _=>obtain⟨o,h,_⟩:=h;exact .fTuple h
 |dz ks ds =>
  cases e
  cases rx with
  |dz h _ _=>obtain⟨o,h⟩:=h;exact .fDict h
 |lst ds =>
  cases e
  cases rx with
  |lst h _=>obtain⟨o,h⟩:=h;exact .base (.frz h)
 |ref a =>
  cases aK rx
  cases q:G a with
  |none=>simp only[jG,q]at e;cases e
  |some o =>
   cases o with
   |lst ds =>
    simp only[jG,q]at e
    cases e
    obtain⟨vs,h1,_⟩:=rg.lst q
    exact .base (.lst h1)
   |dk kvs =>
    simp only[jG,q]at e
    cases e
    obtain⟨vk,h1,_⟩:=(show AOk K H a (.dk kvs) from rg.g a _ q)
    exact .base (.dK h1)
   |_=>simp only[jG,q]at e;cases e
 |_=>cases e
theorem iq{K:M0}{G:AG}{H:Hp}{x:V}{d:Dat}{t:String ⊕ Str}(kt:si K)(rx:Rep K H x d)(rg:RelG K G H)(e:tyN G d=some t):TyA K H x (eF K t):=by
 have base:(match jG G d with|some t=>some (Sum.inl t)|none=>none)=some t→TyA K H x (eF K t):=fun e=>by
  cases q:jG G d with
  |none=>rw[q]at e;cases e
  |some s =>
   rw[q]at e
   cases e
   exact .inl (xK rx rg q)
 cases d with
 |exc C fl ds =>
  have e:(if Tb.exo C=true then some (Sum.inr C) else none)=some t:=e
  split at e
  ·rename_i hc
   cases e
   cases rx with
   |@exc a dx _ _ vs _ h1 h2 h3 =>
    refine .inr ⟨a,_,dx,rfl,rfl,h1,kt.exo C hc,fun d hd=>?_⟩
    subst hd
    exact⟨_,h2.2⟩
  ·cases e
 |ref a =>
  cases aK rx
  have e:(match G a with
   |some (.lst _)=>some (.inl "list")
   |some (.dk _)=>some (.inl "dict")
   |some (.ins C _)=>if Tb.own C=true then some (.inr C) else none
   |_=>none)=some t:=e
  split at e
  ·rename_i ds q
   cases e
   obtain⟨vs,h1,_⟩:=rg.lst q
   exact .inl (.base (.lst h1))
  ·rename_i kvs q
   cases e
   obtain⟨vk,h1,_⟩:=(show AOk K H a (.dk kvs) from rg.g a _ q)
   exact .inl (.base (.dK h1))
  ·rename_i C fs q
   split at e
   ·rename_i hc
    cases e
    obtain⟨dx,vf,h1,_⟩:=(show AOk K H a (.ins C fs) from rg.g a _ q)
    have c:=kt.own C hc
    exact .inl (.base (.ins h1 c.cl c.ha c.hn c.ht c.hm))
   ·cases e
  ·cases e
 |_=>exact base e
theorem hX{K:M0}{H:Hp}{v:V}{d:Dat}{n:String ⊕ Str}(r:Rep K H v d)(e:Jq d=some n):ClsV v (eF K n):=by
 cases d with
 |ty m=>cases e;cases D8 r;exact .ty m
 |gf C=>cases e;cases r;exact .own _
 |_=>cases e
theorem dw{K:M0}(kt:si K){t n:String ⊕ Str}{b:Bool}(h:Fe t n=some b):PySem.W.kitOne K (eF K t) (eF K n)=some b:=by
 cases t with
 |inl t =>
  cases n with
  |inl n=>exact kit_ty h
  |inr n=>exact kt.sub _ _ _ h
 |inr t=>cases n <;> exact kt.sub _ _ _ h
theorem lQ{K:M0}{H:Hp}:∀{cs:List Dat} {vs:List V},jv cs=true→Reps K H vs cs→∃us,Paired ClsV vs us
 |[],_,_,.nil=>⟨[],.nil⟩
 |d :: cs,_,e,.cons a r=>by
  unfold jv at e
  rw[M3]at e
  obtain⟨n,hn⟩:=Option.isSome_iff_exists.mp e.1
  obtain⟨us,h⟩:=lQ e.2 r
  exact⟨_,.cons (hX a hn) h⟩
theorem i0{K:M0}(kt:si K){H:Hp}{t:String ⊕ Str}:∀{cs:List Dat} {vs:List V} {b:Bool},cZ t cs=some b→Reps K H vs cs→∃us,Paired ClsV vs us∧PySem.W.kitAny K (eF K t) us=some b
 |[],_,_,e,.nil=>by cases e;exact⟨[],.nil,kitAny_nil⟩
 |d :: cs,_,b,e,.cons a r=>by
  unfold cZ at e
  split at e
  ·rename_i n hn
   have c:=hX a hn
   split at e
   ·rename_i q
    split at e
    ·rename_i hq
     cases e
     obtain⟨us,h1⟩:=lQ hq r
     exact⟨_,.cons c h1,kitAny_cons (dw kt q) (fun z=>by cases z) (fun _=>rfl)⟩
    ·cases e
   ·rename_i q
    obtain⟨us,h1,h2⟩:=i0 kt e r
    exact⟨_,.cons c h1,kitAny_cons (dw kt q) (fun _=>h2) (fun z=>by cases z)⟩
   ·cases e
  ·cases e
def Ek(K:M0):List V→Hp→VK→Prop:=fun xs H Q=>∃(x c:V) (t u:Value) (b:Bool),xs=[x,c]∧ClsV c u∧TyA K H x t∧PySem.W.kitOne K t u=some b∧Q (.bl b) H
def Ei(K:M0):List V→Hp→VK→Prop:=fun xs H Q=>∃(x:V) (tp:Addr) (cs:List V) (t:Value) (us:List Value) (b:Bool),xs=[x,.ref tp]∧Rd H tp (.tup cs)∧Paired ClsV cs us∧TyA K H x t∧PySem.W.kitAny K t us=some b∧Q (.bl b) H
def Ej(K:M0):List V→Hp→VK→Prop:=fun xs H Q=>∃(x:V) (tp:Addr) (dd:Option Addr) (us:List Value) (n:Nat) (sl:Array (Option Value)) (t:Value) (b:Bool),xs=[x,.ref tp]∧
 K.lookup tp=some ⟨.type "tuple",dd,.seq us.toArray n,sl⟩∧TyA K H x t∧PySem.W.kitAny K t us=some b∧Q (.bl b) H
def Eh(K:M0):List V→Hp→VK→Prop:=fun xs H Q=>Ek K xs H Q∨Ei K xs H Q∨Ej K xs H Q
theorem qt{P:Program}{w:World}{H:Hp}{h:Heap}{a C:Addr}{dx:Option Addr}(hok:HOk P w H h)(e:H a=some (mO a C dx)):∃(oe:Obj) (vs:Array Value),h.get? a=some oe∧oe.cls = .ref C∧oe.dict=dx∧oe.data = .fields vs:=by
 obtain⟨z,_,_⟩:=hok a _ e
 exact z
theorem qp{P:Program}{w:World}{H:Hp}{h:Heap}{d:Addr}{fs:List (Str × V)}(hok:HOk P w H h)(e:H d=some (Gn d fs)):∃mA,h.Ns1 d mA∧∀f,RelO (fs.lookup f) (mA f):=by
 obtain⟨z,_,_⟩:=hok d _ e
 exact z
theorem qq{P:Program}{w:World}{H:Hp}{h:Heap}{a C:Addr}{dx:Option Addr}(hok:HOk P w H h)(e:H a=some (mO a C dx))(hd:∀d,dx=some d→∃fs,H d=some (Gn d fs)):∃oe od,PySem.W.InstAt h a oe C od:=by
 obtain⟨oe,vs,h1,h2,h3,h4⟩:=qt hok e
 cases dx with
 |none=>exact⟨oe,none,h1,h2,by unfold PySem.W.notCls;rw[h4] <;> rfl,by rw[h3];exact trivial⟩
 |some d =>
  obtain⟨fs,hf⟩:=hd d rfl
  obtain⟨mA,⟨od,es,ep,ho,_⟩,_⟩:=qp hok hf
  exact⟨oe,some od,h1,h2,by unfold PySem.W.notCls;rw[h4] <;> rfl,by rw[h3];exact ho⟩
theorem jX{X:Cx}{pins:List (Addr × Obj)}{σ:L2.St}{H:Hp}{s:Shared}{x:V}{u t:Value}(I:Inv X pins σ H s)(rx:RelV x u)(ty:TyA X.K H x t):∃P:Heap→Prop,PySem.W.KitX X.K u t P∧P s.heap∧u≠.builtin "__main__.__loader__#opaque" :=by
 rcases ty with ty|⟨a,C,dx,rfl,rfl,h1,c,hd⟩
 ·exact kit_of I rx ty
 ·cases (show u=Value.ref a from rx)
  obtain⟨oe,od,J⟩:=qq I.hok h1 hd
  obtain⟨cd,hcd,_⟩:=PySem.W.any_some c.hd
  exact⟨_,PySem.W.kitx_exc (by rw[hcd];rfl) c.hg c.hk c.hs c.ha c.hn c.ht c.hm,J,fun z=>nomatch z⟩
theorem call_isA1{X:Cx}:CallR X (.builtin "isinstance") (Ek X.K):=by
 intro pins s σ H xs us Q I r h
 obtain⟨x,c,t,u,b,rfl,k,ty,e,q⟩:=h
 obtain⟨u1,u2,rfl,r1,r2⟩:=vals2 r
 have e2:=k.eq r2
 subst e2
 obtain⟨P,Z,p,hx⟩:=jX I r1 ty
 exact PySem.W.kia_one Z I.kIn p e hx fun tk=>⟨.bl b,H,I.tok tk,rfl,q⟩
theorem call_isAT{X:Cx}:CallR X (.builtin "isinstance") (Ei X.K):=by
 intro pins s σ H xs us Q I r h
 obtain⟨x,tp,cs,t,ws,b,rfl,hT,k,ty,e,q⟩:=h
 obtain⟨u1,u2,rfl,r1,r2⟩:=vals2 r
 cases (show u2=Value.ref tp from r2)
 obtain⟨P,Z,p,hx⟩:=jX I r1 ty
 obtain⟨_,its,rv,o,h1,h2,n,h3⟩:=(show ObjOk X.prog X.w H s.heap tp (.tup cs) from hT.ok I.hok)
 have e3:=ClsV.all k rv
 subst e3
 obtain⟨oc,od,dt,sl⟩:=o
 simp only at h2 h3
 subst h2 h3
 exact PySem.W.kia_tup Z I.kIn p h1 e hx fun tk=>⟨.bl b,H,I.tok tk,rfl,q⟩
theorem qR{X:Cx}:CallR X (.builtin "isinstance") (Ej X.K):=by
 intro pins s σ H xs us Q I r h
 obtain⟨x,tp,dd,ws,n,sl,t,b,rfl,hk,ty,e,q⟩:=h
 obtain⟨u1,u2,rfl,r1,r2⟩:=vals2 r
 cases (show u2=Value.ref tp from r2)
 obtain⟨P,Z,p,hx⟩:=jX I r1 ty
 exact PySem.W.kia_tup Z I.kIn p (I.kIn _ _ hk) e hx fun tk=>⟨.bl b,H,I.tok tk,rfl,q⟩
theorem qQ{X:Cx}:CallR X (.builtin "isinstance") (Eh X.K):=call_isA1.or (call_isAT.or qR)
theorem sg{f:BF}{ds:List Dat}{G:AG}{Q:AQ}{z:Bool}(h:aX z f ds G Q)(hf:f = .len∨f = .int∨f = .tuple∨f = .list∨f = .all∨f = .any∨f = .sum1∨f = .srt∨f = .max1∨f = .min1):∃x,ds=[x]:=by
 rcases hf with rfl|rfl|rfl|rfl|rfl|rfl|rfl|rfl|rfl|rfl <;>
 ·match ds,h with
  |[x],_=>exact⟨x,rfl⟩
  |[],h=>exact False.elim h
  |a :: _ :: _,h=>cases a <;> exact False.elim h
theorem GK{f:BF}{ds:List Dat}{G:AG}{Q:AQ}{z:Bool}(h:aX z f ds G Q)(hf:f = .isinst∨f = .min2∨f = .max2∨f = .sum2):∃x y,ds=[x,y]:=by
 rcases hf with rfl|rfl|rfl|rfl <;>
 ·match ds,h with
  |[x,y],_=>exact⟨x,y,rfl⟩
  |[],h=>exact False.elim h
  |[a],h=>cases a <;> exact False.elim h
  |a :: b :: _ :: _,h=>cases a <;> cases b <;> exact False.elim h
theorem vD{K:M0}(kt:si K){z:Bool}:fo K (Eh K) (aX z .isinst):=by
 intro H xs ds G Qa Q r rg h p
 obtain⟨d,c,rfl⟩:=GK h (.inl rfl)
 obtain⟨x,y,rfl,r1,r2⟩:=iH r
 cases c with
 |ty n =>
  obtain⟨t,b,h1,h2,h3⟩:=h
  exact .inl ⟨x,y,_,_,b,rfl,hX r2 rfl,iq kt r1 rg h1,dw kt h2,p.val rg (.bl _) h3⟩
 |gf n =>
  obtain⟨t,b,h1,h2,h3⟩:=h
  exact .inl ⟨x,y,_,_,b,rfl,hX r2 rfl,iq kt r1 rg h1,dw kt h2,p.val rg (.bl _) h3⟩
 |tup cs =>
  obtain⟨a,vs,rfl,h4,h5⟩:=aW r2
  obtain⟨t,b,h1,h2,h3⟩:=h
  obtain⟨us,h6,h7⟩:=i0 kt (K:=K) h2 h5
  rcases h4 with h4|⟨o,h4⟩|⟨o,its,n,h4,h8,h9,h10,h11⟩
  ·exact .inr (.inl ⟨x,a,vs,_,us,b,rfl,.inl h4,h6,iq kt r1 rg h1,h7,p.val rg (.bl _) h3⟩)
  ·exact .inr (.inl ⟨x,a,vs,_,us,b,rfl,.inr ⟨o,h4⟩,h6,iq kt r1 rg h1,h7,p.val rg (.bl _) h3⟩)
  ·obtain⟨oc,od,dt,sl⟩:=o
   cases (show oc = .type "tuple" from h8)
   cases (show dt = .seq its n from h9)
   have e:=ClsV.all h6 h11
   have e2:its=us.toArray:=by rw[←e]
   rw[e2]at h4
   exact .inr (.inr ⟨x,a,od,us,n,sl,_,b,rfl,h4,iq kt r1 rg h1,h7,p.val rg (.bl _) h3⟩)
 |_=>exact False.elim h
theorem vC{K:M0}{z:Bool}:fo K (fun xs H Q=>∃x n,xs=[x]∧LenV K x H n∧Q (.int n) H) (aX z .len):=by
 intro H xs ds G Qa Q r rg h p
 obtain⟨d,rfl⟩:=sg h (.inl rfl)
 obtain⟨x,rfl,r1⟩:=aR r
 obtain⟨es,h1,h2⟩:=h
 obtain⟨a,vs,rfl,h3,h4⟩:=cR rg r1 h1
 refine⟨.ref a,vs.length,rfl,?_,by rw[h4.length];exact p.val rg (.int _) h2⟩
 rcases h3 with h3|h3
 ·exact .inl ⟨vs,h3,rfl⟩
 ·exact .inr ⟨vs,h3,rfl⟩
theorem qS{X:Cx}:CallR X (.type "int") (fun xs H Q=>∃x n,xs=[.str x]∧intText? x=some n∧x.length≤640∧Q (.int n) H):=by
 intro pins s σ H xs us Q I r h
 obtain⟨x,n,rfl,hn,hl,q⟩:=h
 obtain⟨u,rfl,t,rfl⟩:=vals1 r
 exact PySem.W.KIN.call_text hn hl ⟨.int n,H,I.tok _,⟨_,rfl⟩,q⟩
theorem vE{K:M0}{z:Bool}:fo K (fun xs H Q=>((∃i,xs=[.int i]∧Q (.int i) H)∨∃k,xs=[.bl k]∧Q (.int (if k then 1 else 0)) H)∨∃x n,xs=[.str x]∧intText? x=some n∧x.length≤640∧Q (.int n) H) (aX z .int):=by
 intro H xs ds G Qa Q r rg h p
 obtain⟨d,rfl⟩:=sg h (.inr (.inl rfl))
 obtain⟨x,rfl,r1⟩:=aR r
 cases d with
 |int i=>cases aB r1;exact .inl (.inl ⟨i,rfl,p.val rg (.int _) h⟩)
 |bl i=>cases fx r1;exact .inl (.inr ⟨i,rfl,p.val rg (.int _) h⟩)
 |str s =>
  cases r1
  obtain⟨n,h1,h2,h3⟩:=h
  exact .inr ⟨s,n,rfl,h1,h2,p.val rg (.int _) h3⟩
 |_=>exact False.elim h
theorem mG{K:M0}{z:Bool}:fo K (fun xs H Q=>∃p ys,xs=[.ref p]∧((SqL K H p ys∧∀l,H l=none→Q (.ref l) (upd H l (.tup ys)))∨(SqT K H p ys∧Q (.ref p) H))) (aX z .tuple):=by
 intro H xs ds G Qa Q r rg h p
 obtain⟨d,rfl⟩:=sg h (.inr (.inr (.inl rfl)))
 obtain⟨x,rfl,r1⟩:=aR r
 obtain⟨es,h1,h2⟩:=h
 have lq:ai G d=some es→∃p ys,[x]=[V.ref p]∧((SqL K H p ys∧∀l,H l=none→Q (.ref l) (upd H l (.tup ys)))∨(SqT K H p ys∧Q (.ref p) H)):=fun e=>by
  obtain⟨a,vs,rfl,h3,h4⟩:=am rg r1 e
  exact⟨a,vs,rfl,.inl ⟨.inl h3,p.newT rg h4 h2⟩⟩
 cases d with
 |tup es =>
  cases h1
  obtain⟨a,vs,rfl,h3,h4⟩:=aW r1
  exact⟨a,vs,rfl,.inr ⟨h3.sq,p.val rg r1 h2⟩⟩
 |kls es =>
  cases h1
  cases r1 with
  |kls h3 h4=>exact⟨_,_,rfl,.inl ⟨h3.sq,p.newT rg h4 h2⟩⟩
 |ktp es =>
  cases h1
  cases r1 with
  |ktp h3 h4 =>
   obtain⟨o,h3,_⟩:=h3
   exact⟨_,_,rfl,.inr ⟨.inl (.inr ⟨o,h3⟩),p.val rg (.tup (.inr (.inl ⟨o,h3⟩)) h4) h2⟩⟩
 |lst es=>exact lq h1
 |ref a=>exact lq h1
 |_=>cases h1
theorem rM{K:M0}{z:Bool}:fo K (fun xs H Q=>∃p ys,xs=[.ref p]∧(SqL K H p ys∨SqT K H p ys)∧∀l,H l=none→Q (.ref l) (upd H l (.lst ys))) (aX z .list):=by
 intro H xs ds G Qa Q r rg h p
 obtain⟨d,rfl⟩:=sg h (.inr (.inr (.inr (.inl rfl))))
 obtain⟨x,rfl,r1⟩:=aR r
 obtain⟨es,h1,h2⟩:=h
 obtain⟨a,vs,rfl,h3,h4⟩:=cR rg r1 h1
 exact⟨a,vs,rfl,h3,aA rg h4 h2 p⟩
theorem vH{K:M0}{z:Bool}:fo K (rAll K) (aX z .all):=by
 intro H xs ds G Qa Q r rg h p
 obtain⟨d,rfl⟩:=sg h (.inr (.inr (.inr (.inr (.inl rfl)))))
 obtain⟨x,rfl,r1⟩:=aR r
 obtain⟨es,bs,h1,h2,h3⟩:=h
 obtain⟨a,vs,rfl,h4,h5⟩:=am rg r1 h1
 cases kh h5 h2
 exact⟨a,bs,rfl,.inl h4,p.val rg (.bl _) h3⟩
theorem vG{K:M0}{z:Bool}:fo K (rAny K) (aX z .any):=by
 intro H xs ds G Qa Q r rg h p
 obtain⟨d,rfl⟩:=sg h (.inr (.inr (.inr (.inr (.inr (.inl rfl))))))
 obtain⟨x,rfl,r1⟩:=aR r
 obtain⟨es,bs,h1,h2,h3⟩:=h
 obtain⟨a,vs,rfl,h4,h5⟩:=am rg r1 h1
 cases kh h5 h2
 exact⟨a,bs,rfl,.inl h4,p.val rg (.bl _) h3⟩
theorem rC{K:M0}{z:Bool}:fo K (rSum K) (aX z .sum1):=by
 intro H xs ds G Qa Q r rg h p
 obtain⟨d,rfl⟩:=sg h (.inr (.inr (.inr (.inr (.inr (.inr (.inl rfl)))))))
 obtain⟨x,rfl,r1⟩:=aR r
 obtain⟨es,bs,h1,h2,h3⟩:=h
 obtain⟨a,vs,rfl,h4,h5⟩:=am rg r1 h1
 cases em h5 h2
 exact⟨a,bs,rfl,.inl h4,p.val rg (.int _) h3⟩
theorem rH{K:M0}{z:Bool}:fo K (fun xs H Q=>∃i j,xs=[.int i,.int j]∧Q (.int (if j<i then j else i)) H) (aX z .min2):=by
 intro H xs ds G Qa Q r rg h p
 obtain⟨d,e,rfl⟩:=GK h (.inr (.inl rfl))
 obtain⟨x,y,rfl,r1,r2⟩:=iH r
 cases d <;> cases e <;> first|exact False.elim h|skip
 cases aB r1
 cases aB r2
 exact⟨_,_,rfl,p.val rg (.int _) h⟩
theorem rK{K:M0}{z:Bool}:fo K (fun xs H Q=>∃i j,xs=[.int i,.int j]∧Q (.int (if j > i then j else i)) H) (aX z .max2):=by
 intro H xs ds G Qa Q r rg h p
 obtain⟨d,e,rfl⟩:=GK h (.inr (.inr (.inl rfl)))
 obtain⟨x,y,rfl,r1,r2⟩:=iH r
 cases d <;> cases e <;> first|exact False.elim h|skip
 cases aB r1
 cases aB r2
 exact⟨_,_,rfl,p.val rg (.int _) h⟩
theorem b8{ls:List (List Dat)}{i:Nat}{b:List Dat}(h:ls[i]?=some b):(ls.take (i+1)).flatten=(ls.take i).flatten++b:=by
 obtain⟨h1,h2⟩:=List.getElem?_eq_some_iff.mp h
 rw[List.take_succ,h,List.flatten_append]
 simp
theorem p9{ls:List (List Dat)}(i:Nat):(ls.take i).flatten.length≤ls.flatten.length:=by
 conv=>rhs;rw[←List.take_append_drop i ls,List.flatten_append,Mf]
 omega
theorem fE:∀{rows:List Dat} {ls:List (List Dat)},eG rows=some ls→rows=ls.map Dat.tup
 |[],ls,h=>by cases h;rfl
 |d :: r,ls,h=>by
  cases d with
  |tup b =>
   cases q:eG r with
   |none=>simp only[eG,q]at h;cases h
   |some l2 =>
    simp only[eG,q]at h
    cases h
    rw[Mc,fE q]
  |_=>cases h
theorem fP{G:AG}:∀{rows:List Dat} {ls:List (List Dat)},iR G rows=some ls→rows.length=ls.length∧∀(i:Nat) (d:Dat),rows[i]?=some d→∃b,ls[i]?=some b∧ai G d=some b
 |[],ls,h=>by cases h;exact⟨rfl,fun i d e=>by simp at e⟩
 |x :: r,ls,h=>by
  unfold iR at h
  split at h
  ·rename_i b l2 e1 e2
   cases h
   obtain⟨h1,h2⟩:=fP e2
   refine⟨congrArg (· +1) h1,fun i d e=>?_⟩
   cases i with
   |zero =>
    simp only[M8,Option.some.injEq]at e
    subst e
    exact⟨b,rfl,e1⟩
   |succ i=>exact h2 i d e
  ·cases h
theorem mH{K:M0}{H:Hp}{a:Addr}{xs:List V}{rows:List Dat}{t0:List Dat}{y:V}{G:AG}{Qa:AQ}{Q:VK}(rg:RelG K G H)(hl:SqL K H a xs)(r1:Reps K H xs rows)(hst:∀H',Fra G H G H'→RelG K G H'→∃xs',SqL K H' a xs'∧Reps K H' xs' rows)(r2:Rep K H y (.tup t0))
  (h:∃ls,eG rows=some ls∧t0.length+ls.flatten.length≤sizeLine∧Qa (.tup (t0++ls.flatten)) G)(p:PostE K G H Qa Q):n8 (eQ K) K [.ref a,y] H Q:=by
 obtain⟨ls,e,hz,q⟩:=h
 have e:=fE e
 obtain⟨b,ys,rfl,h3,_⟩:=aW r2
 have lr:rows.length=ls.length:=by rw[e,M5]
 refine⟨a,b,xs,"tuple",rfl,hl,.inr ⟨rfl,ys,h3.sq⟩,fun i t H'=>Fra G H G H'∧RelG K G H'∧Rep K H' t (.tup (t0++(ls.take i).flatten)),⟨.refl,rg,by simpa using r2⟩,?_⟩
 rintro i t H' ⟨f,g,rt⟩
 obtain⟨c,zs,rfl,_,_⟩:=aW rt
 obtain⟨xs',q1,q2⟩:=hst H' f g
 have l1:=r1.length
 have l2:=q2.length
 refine⟨⟨c,rfl⟩,xs',q1,by omega,fun hi=>?_,fun x hx=>?_⟩
 ·rw[List.take_of_length_le (by omega)]at rt
  exact p _ _ _ _ f g rt q
 ·obtain⟨d,hd,rd⟩:=q2.getV hx
  rw[e,Mg]at hd
  cases eb:ls[i]? with
  |none=>rw[eb]at hd;cases hd
  |some bb =>
   rw[eb]at hd
   cases hd
   have l1:=p9 (ls:=ls) (i+1)
   rw[b8 eb]at l1
   rw[Mf]at l1
   refine lS (Qa:=fun d G'=>d = .tup ((t0++(ls.take i).flatten)++bb)∧G'=G) rt rd g (by rw[Mf];omega) ⟨rfl,rfl⟩ ⟨fun d G' v H2 f2 g2 r2 hq=>?_,fun _ _ _ _ _ _ _ _ _ hq=>nomatch hq.1⟩
   obtain⟨rfl,rfl⟩:=hq
   refine⟨f.trans f2,g2,?_⟩
   rw[b8 eb,←List.append_assoc]
   exact r2
theorem mI{K:M0}{H:Hp}{a:Addr}{xs:List V}{rows:List Dat}{d0:Dat}{y:V}{G:AG}{Qa:AQ}{Q:VK}{z:Bool}(rg:RelG K G H)(hl:SqL K H a xs)(r1:Reps K H xs rows)(hst:∀H',Fra G H G H'→RelG K G H'→∃xs',SqL K H' a xs'∧Reps K H' xs' rows)(r2:Rep K H y d0)
  (h:∃s0 ls,ai G d0=some s0∧iR G rows=some ls∧s0.length+ls.flatten.length≤sizeLine∧if ls=[] then Qa d0 G else nw z (s0++ls.flatten) G Qa)(p:PostZ K G H Qa Q):n8 lX K [.ref a,y] H Q:=by
 obtain⟨s0,ls,e0,e,hz,q⟩:=h
 obtain⟨ln,e⟩:=fP e
 obtain⟨b,ys,rfl,h3,r3⟩:=am rg r2 e0
 have lx:xs.length=ls.length:=by rw[r1.length,ln]
 refine⟨a,b,xs,"list",rfl,hl,.inl ⟨rfl,ys,h3⟩,fun i t H'=>i≤ls.length∧(Fra G H G H'∧RelG K G H')∧∃l vs,t = .ref l∧Rd H' l (.lst vs)∧Reps K H' vs (s0++(ls.take i).flatten)∧
  ((i=0∧l=b∧H'=H)∨(0<i∧∃H1,H1 l=none∧H'=upd H1 l (.lst vs)∧Fra G H G H1∧RelG K G H1∧Reps K H1 vs (s0++(ls.take i).flatten))),⟨Nat.zero_le _,⟨.refl,rg⟩,b,ys,rfl,h3,by simpa using r3,.inl ⟨rfl,rfl,rfl⟩⟩,?_⟩
 rintro i t H' ⟨hi0,⟨f,g⟩,l,vs,rfl,hr,rv,h4⟩
 obtain⟨xs',q1,q2⟩:=hst H' f g
 have l1:=r1.length
 have l2:=q2.length
 refine⟨⟨l,rfl⟩,xs',q1,by omega,fun hi=>?_,fun x hx=>?_⟩
 ·rw[List.take_of_length_le (by omega)]at rv h4
  rcases h4 with⟨rfl,rfl,rfl⟩|⟨hpos,H1,k1,rfl,k2,k3,k4⟩
  ·have:ls=[]:=List.length_eq_zero_iff.mp (by omega)
   subst this
   rw[if_pos rfl]at q
   exact p.val rg r2 q
  ·have hn:ls≠[]:=fun z=>by rw[z]at hi0;simp at hi0;omega
   rw[if_neg hn]at q
   exact aA k3 k4 q (p.fra k2) l k1
 ·obtain⟨d,hd,rd⟩:=q2.getV hx
  obtain⟨bb,eb,ed⟩:=e i d hd
  obtain⟨c,zs,rfl,k1,k2⟩:=am g rd ed
  have l1:=p9 (ls:=ls) (i+1)
  rw[b8 eb]at l1
  rw[Mf]at l1
  have lv:=rv.length
  have lz:=k2.length
  rw[Mf]at lv
  have hlt:=(List.getElem?_eq_some_iff.mp eb).1
  refine⟨l,c,vs,zs,rfl,rfl,hr,k1,by omega,fun u hu=>⟨hlt,⟨f.trans (.newT hu),g.newT hu⟩,u,vs++zs,rfl,.inl upd_same,?_,.inr ⟨by omega,H',hu,rfl,f,g,?_⟩⟩⟩
  ·rw[b8 eb,←List.append_assoc]
   exact (rv.append k2).mono (.new hu)
  ·rw[b8 eb,←List.append_assoc]
   exact rv.append k2
theorem rB{K:M0}{z:Bool}:fo K (fun vs H Q=>n8 lX K vs H Q∨n8 (eQ K) K vs H Q) (aX z .sum2):=by
 intro H xs ds G Qa Q r rg h p
 obtain⟨d,e,rfl⟩:=GK h (.inr (.inr (.inr rfl)))
 obtain⟨x,y,rfl,r1,r2⟩:=iH r
 obtain⟨rows,h1,h2⟩:=h
 obtain⟨a,vs,rfl,k1,k2⟩:=am rg r1 h1
 have src:∀H',Fra G H G H'→RelG K G H'→∃xs',SqL K H' a xs'∧Reps K H' xs' rows:=fun H' f g=>by
  obtain⟨b,ws,e1,e2,e3⟩:=am g (r1.mono (f.stab rg)) h1
  cases e1
  exact⟨ws,.inl e2,e3⟩
 cases e with
 |tup t0=>exact .inr (mH rg (.inl k1) k2 src r2 h2 p.p)
 |_=>exact .inl (mI rg (.inl k1) k2 src r2 h2 p)
theorem vB{K:M0}{z:Bool}:fo K (fun xs H Q=>∃x,xs=[.str x]∧x.length=1∧Q (.int (x.cps.getD 0 0:Nat)) H) (aX z .ord):=by
 intro H xs ds G Qa Q r rg h p
 match ds,h with
 |[.str x],h =>
  obtain⟨y,rfl,r1⟩:=aR r
  cases dn r1
  exact⟨x,rfl,h.1,p.val rg (.int _) h.2⟩
theorem iN{K:M0}{H:Hp}:∀{ps:List (Int × Int)} {vs:List V},Reps K H vs (ps.map bX)→Paired (PrI K H) vs ps
 |[],_,.nil=>.nil
 |q :: ps,_,.cons a r=>by
  refine .cons ?_ (iN r)
  obtain⟨t,xs,rfl,h1,h2⟩:=aW a
  obtain⟨x,y,rfl,r1,r2⟩:=iH h2
  cases aB r1
  cases aB r2
  exact⟨t,rfl,h1⟩
theorem iI{K:M0}{H:Hp}:∀{ps:List (Int × Int)} {vs:List V},Paired (PrI K H) vs ps→Reps K H vs (ps.map bX)
 |[],_,.nil=>.nil
 |q :: ps,_,.cons a r=>by
  obtain⟨t,rfl,h⟩:=a
  exact .cons (.tup h (.cons (.int _) (.one (.int _)))) (iI r)
theorem cT{K:M0}{H:Hp}:∀(ns:List Int),Reps K H (ns.map V.int) (ns.map Dat.int)
 |[]=>.nil
 |n :: ns=>.cons (.int n) (cT ns)
theorem vA{K:M0}{z:Bool}:fo K (fun vs H Q=>vX K vs H Q∨rSortedI K vs H Q) (aX z .srt):=by
 intro H xs ds G Qa Q r rg h p
 obtain⟨d,rfl⟩:=sg h (.inr (.inr (.inr (.inr (.inr (.inr (.inr (.inl rfl))))))))
 obtain⟨x,rfl,r1⟩:=aR r
 obtain⟨es,h1,h2⟩:=h
 obtain⟨a,vs,rfl,h4,h5⟩:=am rg r1 h1
 rcases h2 with⟨ps,rfl,h2⟩|⟨ns,rfl,h2⟩
 ·refine .inl ⟨a,vs,ps,rfl,.inl h4,iN h5,fun ys qs q _ k1 k2 k3 k4=>?_⟩
  exact aA rg (iI k1) (h2 qs k2 k3) p q k4
 ·have e:=Reps.ints h5
  subst e
  refine .inr ⟨a,ns,rfl,.inl h4,fun ms q k2 k3 k4=>?_⟩
  exact aA rg (cT ms) (h2 ms k2 k3) p q k4
theorem rL{K:M0}{z:Bool}:fo K (rMax K) (aX z .max1):=by
 intro H xs ds G Qa Q r rg h p
 obtain⟨d,rfl⟩:=sg h (.inr (.inr (.inr (.inr (.inr (.inr (.inr (.inr (.inl rfl)))))))))
 obtain⟨x,rfl,r1⟩:=aR r
 obtain⟨es,ns,h1,h2,h3,h6⟩:=h
 obtain⟨a,vs,rfl,h4,h5⟩:=am rg r1 h1
 cases em h5 h2
 exact⟨a,ns,rfl,.inl h4,h3,fun m k1 k2=>p.val rg (.int _) (h6 m k1 k2)⟩
theorem rJ{K:M0}{z:Bool}:fo K (rMin K) (aX z .min1):=by
 intro H xs ds G Qa Q r rg h p
 obtain⟨d,rfl⟩:=sg h (.inr (.inr (.inr (.inr (.inr (.inr (.inr (.inr (.inr rfl)))))))))
 obtain⟨x,rfl,r1⟩:=aR r
 obtain⟨es,ns,h1,h2,h3,h6⟩:=h
 obtain⟨a,vs,rfl,h4,h5⟩:=am rg r1 h1
 cases em h5 h2
 exact⟨a,ns,rfl,.inl h4,h3,fun m k1 k2=>p.val rg (.int _) (h6 m k1 k2)⟩
theorem rF{K:M0}{z:Bool}:fo K (fun xs H Q=>∃x n,xs=[x]∧LenV K x H n∧Q (.int n) H) (aX z .slen):=by
 intro H xs ds G Qa Q r rg h p
 match ds,h with
 |[.str s],h =>
  obtain⟨x,rfl,r1⟩:=aR r
  cases r1
  exact⟨_,s.length,rfl,⟨h.1,rfl⟩,p.val rg (.int _) h.2⟩
 |[],h=>exact False.elim h
 |a :: _ :: _,h=>cases a <;> exact False.elim h
theorem vy{K:M0}{z:Bool}:fo K (fun xs H Q=>∃i,xs=[.int i]∧i.natAbs.log2<1920∧Q (.str (toString i)) H) (aX z .str):=by
 intro H xs ds G Qa Q r rg h p
 match ds,h with
 |[.int i],h =>
  obtain⟨x,rfl,r1⟩:=aR r
  cases aB r1
  exact⟨i,rfl,h.1,p.val rg (.str _) h.2⟩
 |[],h=>exact False.elim h
 |a :: _ :: _,h=>cases a <;> exact False.elim h
theorem j8{X:Cx}:CallR X (.type "tuple") (fun xs H Q=>∃p ys,xs=[.ref p]∧SqL X.K H p ys∧∀l o,H l=none→o.dict=none→Q (.ref l) (upd H l (.frz o (.tup ys)))):=by
 intro pins s σ H xs us Q I r h
 obtain⟨p,ys,rfl,hq,q⟩:=h
 obtain⟨u,rfl,rx⟩:=vals1 r
 cases rx
 obtain⟨its,r',pl,hz⟩:=I.list hq
 have hlen:=r'.length
 refine call_tuple_list pl.isList (fun h' kp=>?_) (by simp only[List.size_toArray] <;> omega)
 have I1:Inv X pins σ H {s with heap:=h'}:=I.kept (t':=s.toks) kp
 have I2:Inv X pins σ (upd H h'.objs.size (.frz {cls:=.type "tuple",data:=.seq its.toArray} (.tup ys))) {s with heap:=h'.push {cls:=.type "tuple",data:=.seq its.toArray}} :=
  I1.laid (t':=s.toks) (fun b o e=>Heap.get?_push_of_some _ e) (M7 _) (show ObjOk X.prog X.w _ _ _ (.frz _ (.tup ys)) from ⟨Heap.get?_push_size _ rfl,hz,its,r',IsTup.new _ _⟩)
 exact⟨.ref h'.objs.size,_,I2,rfl,q _ _ (I1.hok.fresh (M7 _)) rfl⟩
theorem kg{K:M0}{z:Bool}:fo K (fun xs H Q=>∃p ys,xs=[.ref p]∧SqL K H p ys∧∀l o,H l=none→o.dict=none→Q (.ref l) (upd H l (.frz o (.tup ys)))) (aX z .ktuple):=by
 intro H xs ds G Qa Q r rg h p
 match ds,h with
 |[d],h =>
  obtain⟨es,h1,h2⟩:=h
  obtain⟨x,rfl,r1⟩:=aR r
  obtain⟨a,vs,rfl,h3,h4⟩:=am rg r1 h1
  exact⟨a,vs,rfl,.inl h3,fun l o hl ho=>p.1 _ G _ _ (.newT hl) (rg.newT hl) (.ktp ⟨o,upd_same,ho⟩ (h4.mono (.new hl))) h2⟩
 |[],h=>exact False.elim h
 |a :: _ :: _,h=>cases a <;> exact False.elim h
theorem vF{K:M0}{z:Bool}:fo K (fun xs H Q=>∃(a:Addr) (ps:List Addr) (kvs:List (Key × V)),xs=[.ref a]∧SqL K H a (ps.map V.ref)∧Paired (fun p (kv:Key × V)=>SqT K H p [kV kv.1,kv.2]) ps kvs∧∀p,H p=none→Q (.ref p) (upd H p (.dK (mergeK [] kvs)))) (aX z .dct):=by
 intro H xs ds G Qa Q r rg h p
 match ds,h with
 |[d],h =>
  obtain⟨x,rfl,r1⟩:=aR r
  obtain⟨es,kvs,h1,h2,h3⟩:=h
  obtain⟨a,vs,rfl,h4,h5⟩:=am rg r1 h1
  obtain⟨ps,vk,rfl,h6,h7⟩:=oj h5 h2
  refine⟨a,ps,vk,rfl,.inl h4,h6,fun q hq=>?_⟩
  exact p.p (.ref q) (gu G q (.dk (aY [] kvs))) (.ref q) _ (.new hq) (rg.new hq (show AOk K _ q (.dk (aY [] kvs)) from ⟨_,upd_same,KRel.mono (.new hq) (eg h7 .nil)⟩)) (.ref q) (h3 q (rg.free hq))
mutual
theorem nP{K:M0}{G:AG}{H:Hp}(rg:RelG K G H):∀{d:Dat} {p:PyData} {x:V},Shd G d p→Rep K H x d→ShV K H x p
 |_,_,_,.non,.non=>.non
 |_,_,_,.bl b,.bl _=>.bl b
 |_,_,_,.int b,.int _=>.int b
 |_,_,_,.str b,.str _=>.str b
 |_,_,_,.tup h,.tup a r=>.tup a.sq (shds_shv rg h r)
 |_,_,_,.lst h,.lst a r=>.lst a.sq (shds_shv rg h r)
 |_,_,_,.dz _ h,.dz a hl r=>.dz a hl (shds_shv rg h r)
 |_,_,_,.ref e h,r=>by
  cases aK r
  obtain⟨vs,h1,h2⟩:=rg.lst e
  exact .lst (.inl (.inl h1)) (shds_shv rg h h2)
theorem shds_shv{K:M0}{G:AG}{H:Hp}(rg:RelG K G H):∀{ds:List Dat} {ps:List PyData} {xs:List V},Shds G ds ps→Reps K H xs ds→ShVs K H xs ps
 |_,_,_,.nil,.nil=>.nil
 |_,_,_,.cons a b,.cons c d=>.cons (nP rg a c) (shds_shv rg b d)
end
theorem rG{K:M0}{z:Bool}:fo K (Ec K) (aX z .repr):=by
 intro H xs ds G Qa Q r rg h p
 match ds,h with
 |[d],⟨hr,q,h1,h2,h3,h4,h5⟩ =>
  obtain⟨x,rfl,r1⟩:=aR r
  have sv:=nP rg h1 r1
  obtain⟨a,rfl⟩:∃a,x = .ref a:=by
   cases r1 <;> first|exact⟨_,rfl⟩|cases hr
  exact⟨a,q,rfl,sv,h2,h3,h4,p.val rg (.str _) h5⟩
theorem rE{K:M0}{z:Bool}:fo K Eb (aX z .srtd):=by
 intro H xs ds G Qa Q r rg h p
 match ds,h with
 |[d],⟨kvs,ns,h1,h2,h3⟩ =>
  obtain⟨x,rfl,r1⟩:=aR r
  obtain⟨a,vk,rfl,ra,k1⟩:=qA rg r1 h1
  refine⟨a,vk,ns,rfl,ra,by rw[←h2];exact lh k1,fun ms q k2 k3 k4=>?_⟩
  exact aA rg (cT ms) (h3 ms k2 k3) p q k4
theorem Gf(X:Cx)(kt:si X.K)(hc:X.calm=true)(z:Bool)(f:BF)(hr:f = .repr→Cu X∧X.A.units+64<cLine):∃r,CallR X f.val r∧fo X.K r (aX z f):=by
 cases f with
 |len=>exact⟨_,call_len,vC⟩
 |int=>exact⟨_,call_int1.or qS,vE⟩
 |tuple=>exact⟨_,call_tuple_of,mG⟩
 |list=>exact⟨_,call_list_of,rM⟩
 |isinst=>exact⟨_,qQ,vD kt⟩
 |all=>exact⟨_,cr_all hc,vH⟩
 |any=>exact⟨_,cr_any hc,vG⟩
 |sum1=>exact⟨_,cr_sum hc,rC⟩
 |sum2=>exact⟨_,(qM (r:=lX) oG hc).or (qM op_catTup hc),rB⟩
 |min2=>exact⟨_,call_min2 hc,rH⟩
 |max2=>exact⟨_,call_max2 hc,rK⟩
 |ord=>exact⟨_,call_ord,vB⟩
 |srt=>exact⟨_,cr_sortP.or cr_sortedI,vA⟩
 |max1=>exact⟨_,cr_max hc,rL⟩
 |min1=>exact⟨_,cr_min hc,rJ⟩
 |slen=>exact⟨_,call_len,rF⟩
 |dct=>exact⟨_,call_dictP hc,vF⟩
 |str=>exact⟨_,call_str_int,vy⟩
 |ktuple=>exact⟨_,j8,kg⟩
 |repr=>exact⟨_,qP (hr rfl).1 (hr rfl).2,rG⟩
 |srtd=>exact⟨_,Ce hc,rE⟩
def MF.nm:MF→Str
 |.append => "append" |.extend => "extend" |.pop => "pop" |.popAt => "pop" |.clear => "clear" |.reverse => "reverse" |.insert => "insert" |.count => "count" |.index => "index"
def rY(K:M0)(T:String)(r:V→List V→Hp→VK→Prop)(rA:Dat→List Dat→AG→AQ→Prop):Prop :=
 ∀(H:Hp) (x:V) (d:Dat) (xs:List V) (ds:List Dat) (G:AG) (Qa:AQ) (Q:VK),Rep K H x d→Reps K H xs ds→RelG K G H→rA d ds G Qa→PostE K G H Qa Q→r x xs H Q
theorem PostE.setL{K:M0}{G:AG}{H:Hp}{Qa:AQ}{Q:VK}(p:PostE K G H Qa Q)(rg:RelG K G H){l:Addr}{ds es:List Dat}{vs ws:List V}{v:V}{d:Dat}(e:G l=some (.lst ds))(h:H l=some (.lst vs))(rv:Rep K H v d)(r:Reps K H ws es)(q:Qa d (gu G l (.lst es))) :
  Q v (upd H l (.lst ws)):=p d (gu G l (.lst es)) v _ (.set e) (rg.set e (show AOk K _ l (.lst es) from ⟨ws,upd_same,r.mono (.lst h)⟩)) (rv.mono (.lst h)) q
def Em(K:M0):V→List V→Hp→VK→Prop:=fun x vs H Q=>∃l b xs zs,x = .ref l∧vs=[.ref b]∧H l=some (.lst xs)∧(Rd H b (.lst zs)∨SqT K H b zs)∧xs.length+zs.length≤sizeLine∧Q .non (upd H l (.lst (xs++zs)))
theorem BU(l:Addr)(ia:Array Value)(n:Nat)(b:Addr)(ib:Array Value)(n2:Nat)(db:Option Addr)(sb:Array (Option Value))(h0:¬(!ia.isEmpty && Builtin.List.listTooLong (ia.size+ib.size))=true)(h1:ia.size≤sizeLine)(h2:ia.size+ib.size≤sizeLine+1) :
  Meets (Builtin.«list.extend» ⟨[.ref l,.ref b],[]⟩) (fun _ R s=>s.heap.get? l=some {cls:=.type "list",dict:=none,data:=.seq ia n,slots:=#[]}∧s.heap.get? b=some {cls:=.type "tuple",dict:=db,data:=.seq ib n2,slots:=sb}∧
   R (.ok (.ret Value.none)) {s with heap:=s.heap.update l (Obj.mapSeq fun x=>x++ib),toks:=s.toks}):=by
 refine .of_wp fun prog w A R s h=>?_
 obtain⟨hp,g,d,tk,os⟩:=s
 obtain⟨hl,hb,h⟩:=h
 have f1:=AutoSeq1.idx_int
 have f2:=AutoSeq1.sub_tuple_tuple
 have f3:=AutoSeq1.sub_list_list
 have f4:=AutoSeq1.sub_tuple_list
 have f5:=AutoSeq1.sub_list_tuple
 have hz:(ia++ib).size≤sizeLine+1:=by rw[Array.size_append];exact h2
 wp_walk using (wpAny_updateSeq hl rfl (hz:=h1) (_hz':=hz)),wpAny_loadPart' hl,wpAny_loadPart' hb
 exact⟨_,rfl,h⟩
theorem A6{X:Cx}:MtM X "list.extend" (Em X.K):=by
 intro pins s σ H x vs v us Q I rx rv h
 obtain⟨l,b,xs,zs,rfl,rfl,hl,hb,hz,q⟩:=h
 cases rx
 obtain⟨u,rfl,ru⟩:=rv.one
 cases ru
 obtain⟨z,its,n,r,el,e⟩:=I.lstM hl
 have fin:∀i2:List Value,Vals zs i2→EP X pins σ Q Value.none {s with heap:=s.heap.update l (Obj.mapSeq (· ++i2.toArray)),toks:=s.toks}:=fun i2 r2 =>
  ⟨.non,_,I.lset (its':=its++i2) hl e (by simp) (r.append r2) (by simp only[Mf];omega),rfl,q⟩
 have lng:∀i2:List Value,Vals zs i2→¬(!its.toArray.isEmpty && Builtin.List.listTooLong (its.toArray.size+i2.toArray.size))=true:=fun i2 r2=>by
  have e2:=r2.length
  rw[notLongL (by simp only[List.size_toArray];omega),Bool.and_false]
  simp
 rcases hb with hb|hb
 ·obtain⟨_,i2,n2,r2,l2,e2⟩:=oY I hb
  exact call_meets F.slot_list_extend ⟨_,e,rfl⟩ F.entry_list_extend (F.args_list_extend_2 _ _)
   (AutoSeq1.list_extend_list_list_0 l its.toArray n b i2.toArray n2 (lng i2 r2) (by simp only[List.size_toArray];omega) (by simp only[List.size_toArray];omega)) ⟨e,e2,fin i2 r2⟩
 ·obtain⟨i2,r2,⟨⟨oc,od,dt,sl⟩,e2,hc,n2,hd⟩,_⟩:=I.tuple hb
  have l2:=r2.length
  cases (show oc = .type "tuple" from hc)
  cases (show dt = .seq i2.toArray n2 from hd)
  exact call_meets F.slot_list_extend ⟨_,e,rfl⟩ F.entry_list_extend (F.args_list_extend_2 _ _)
   (BU l its.toArray n b i2.toArray n2 od sl (lng i2 r2) (by simp only[List.size_toArray];omega) (by simp only[List.size_toArray];omega)) ⟨e,e2,fin i2 r2⟩
theorem jS{K:M0}:rY K "list" rAppend (bw .append):=by
 intro H x d xs ds G Qa Q rx r rg h p
 cases d with
 |ref a =>
  match ds,h with
  |[],h=>exact False.elim h
  |_ :: _ :: _,h=>exact False.elim h
  |[y],h =>
   cases aK rx
   obtain⟨u,rfl,ru⟩:=aR r
   obtain⟨es,h1,h2,h3⟩:=h
   obtain⟨vs,h4,h5⟩:=rg.lst h1
   exact⟨a,vs,u,rfl,rfl,h4,by rw[h5.length];exact h2,p.setL rg h1 h4 .non (h5.append (.one ru)) h3⟩
 |_=>exact False.elim h
theorem jR{K:M0}:rY K "list" (Em K) (bw .extend):=by
 intro H x d xs ds G Qa Q rx r rg h p
 cases d with
 |ref a =>
  match ds,h with
  |[],h=>exact False.elim h
  |_ :: _ :: _,h=>exact False.elim h
  |[y],h =>
   cases aK rx
   obtain⟨u,rfl,ru⟩:=aR r
   obtain⟨es,fs,h1,h2,h3,h6⟩:=h
   obtain⟨vs,h4,h5⟩:=rg.lst h1
   have sq:∃b zs,u = .ref b∧(Rd H b (.lst zs)∨SqT K H b zs)∧Reps K H zs fs:=by
    cases y with
    |tup es =>
     cases h2
     obtain⟨b,zs,rfl,k1,k2⟩:=aW ru
     exact⟨b,zs,rfl,.inr k1.sq,k2⟩
    |lst es =>
     obtain⟨b,zs,rfl,k1,k2⟩:=am rg ru h2
     exact⟨b,zs,rfl,.inl k1,k2⟩
    |ref c =>
     obtain⟨b,zs,rfl,k1,k2⟩:=am rg ru h2
     exact⟨b,zs,rfl,.inl k1,k2⟩
    |_=>cases h2
   obtain⟨b,zs,rfl,k1,k2⟩:=sq
   exact⟨a,b,vs,zs,rfl,rfl,h4,k1,by rw[h5.length,k2.length];exact h3,p.setL rg h1 h4 .non (h5.append k2) h6⟩
 |_=>exact False.elim h
theorem iG{K:M0}{H:Hp}:∀{vs:List V} {ds:List Dat},Reps K H vs ds→Reps K H vs.dropLast ds.dropLast
 |_,_,.nil=>.nil
 |_,_,.cons a .nil=>.nil
 |_,_,.cons a (.cons b r)=>.cons a (iG (.cons b r))
theorem ug{K:M0}:rY K "list" rPop (bw .pop):=by
 intro H x d xs ds G Qa Q rx r rg h p
 cases d with
 |ref a =>
  match ds,h with
  |_ :: _,h=>exact False.elim h
  |[],h =>
   cases aK rx
   cases r
   obtain⟨es,y,h1,h2,h3⟩:=h
   obtain⟨vs,h4,h5⟩:=rg.lst h1
   obtain⟨v,h6,h7⟩:=h5.get h2
   exact⟨a,vs,v,rfl,rfl,h4,by rw[h5.length];exact h6,p.setL rg h1 h4 h7 (iG h5) h3⟩
 |_=>exact False.elim h
theorem mf{K:M0}:rY K "list" rPopAt (bw .popAt):=by
 intro H x d xs ds G Qa Q rx r rg h p
 cases d with
 |ref a =>
  match ds,h with
  |[],h=>exact False.elim h
  |c :: _ :: _,h=>cases c <;> exact False.elim h
  |[.int i],h =>
   cases aK rx
   obtain⟨u,rfl,ru⟩:=aR r
   cases aB ru
   obtain⟨es,k,y,h1,h2,h3,h8,h9,h10⟩:=h
   obtain⟨vs,h4,h5⟩:=rg.lst h1
   obtain⟨v,h6,h7⟩:=h5.get h9
   exact⟨a,vs,i,k,v,rfl,rfl,h4,h2,h3,by rw[h5.length];exact h8,h6,p.setL rg h1 h4 h7 (h5.eraseIdx k) h10⟩
  |[.non],h|[.bl _],h|[.str _],h|[.tup _],h|[.lst _],h|[.ref _],h|[.ty _],h=>exact False.elim h
 |_=>exact False.elim h
theorem mj{K:M0}:rY K "list" rClear (bw .clear):=by
 intro H x d xs ds G Qa Q rx r rg h p
 cases d with
 |ref a =>
  match ds,h with
  |_ :: _,h=>exact False.elim h
  |[],h =>
   cases aK rx
   cases r
   obtain⟨es,h1,h3⟩:=h
   obtain⟨vs,h4,h5⟩:=rg.lst h1
   exact⟨a,vs,rfl,rfl,h4,p.setL rg h1 h4 .non .nil h3⟩
 |_=>exact False.elim h
theorem iQ{K:M0}:rY K "list" rReverse (bw .reverse):=by
 intro H x d xs ds G Qa Q rx r rg h p
 cases d with
 |ref a =>
  match ds,h with
  |_ :: _,h=>exact False.elim h
  |[],h =>
   cases aK rx
   cases r
   obtain⟨es,h1,h3⟩:=h
   obtain⟨vs,h4,h5⟩:=rg.lst h1
   exact⟨a,vs,rfl,rfl,h4,p.setL rg h1 h4 .non h5.reverse h3⟩
 |_=>exact False.elim h
theorem jQ{K:M0}:rY K "list" (fun x vs H Q=>∃(l:Addr) (xs:List V) (i:Int) (y:V),x = .ref l∧vs=[.int i,y]∧H l=some (.lst xs)∧xs.length<sizeLine∧0≤i∧i<2^63∧Q .non (upd H l (.lst (xs.take i.toNat++[y]++xs.drop i.toNat)))) (bw .insert):=by
 intro H x d xs ds G Qa Q rx r rg h p
 match d,ds,h with
 |.ref a,[.int i,y],h =>
  cases aK rx
  obtain⟨u,v,rfl,ru,rv⟩:=iH r
  cases aB ru
  obtain⟨es,h1,h2,h3,h6,h7⟩:=h
  obtain⟨vs,h4,h5⟩:=rg.lst h1
  exact⟨a,vs,i,v,rfl,rfl,h4,by rw[h5.length];exact h2,h3,h6,p.setL rg h1 h4 .non (((h5.take _).append (.one rv)).append (h5.drop _)) h7⟩
theorem mi{K:M0}:rY K "list" (En K) (bw .count):=by
 intro H x d xs ds G Qa Q rx r rg h p
 match ds,h with
 |[y],h =>
  obtain⟨u,rfl,ru⟩:=aR r
  have h:∃es,ai G d=some es∧aH y=true∧es.all aH=true∧Qa (.int (es.countP fun d=>eqF d y:Nat)) G:=by cases d <;> exact h
  obtain⟨es,h1,h2,h3,h4⟩:=h
  obtain⟨a,vs,rfl,h5,h6⟩:=am rg rx h1
  obtain⟨rfl,f1⟩:=bg ru h2
  obtain⟨rfl,f2⟩:=cf h6 h3
  refine⟨a,_,_,rfl,rfl,.inl h5,f1,f2,?_⟩
  have e:List.countP (fun z=>eqV z (toV y)) (List.map toV es)=List.countP (fun d=>eqF d y) es:=by rw[List.countP_map];rfl
  rw[e]
  exact p.val rg (.int _) h4
 |[],h=>exact absurd h (by cases d <;> exact id)
 |_ :: _ :: _,h=>exact absurd h (by cases d <;> exact id)
theorem mh{K:M0}:rY K "list" (rIndex K) (bw .index):=by
 intro H x d xs ds G Qa Q rx r rg h p
 match ds,h with
 |[y],h =>
  obtain⟨u,rfl,ru⟩:=aR r
  have h:∃es j e,ai G d=some es∧aH y=true∧es.all aH=true∧es[j]?=some e∧eqF e y=true∧(∀m d',m<j→es[m]?=some d'→eqF d' y=false)∧Qa (.int (j:Nat)) G:=by cases d <;> exact h
  obtain⟨es,j,e,h1,h2,h3,h7,h8,h9,h4⟩:=h
  obtain⟨a,vs,rfl,h5,h6⟩:=am rg rx h1
  obtain⟨rfl,f1⟩:=bg ru h2
  obtain⟨rfl,f2⟩:=cf h6 h3
  refine⟨a,_,_,j,toV e,rfl,rfl,.inl h5,f1,f2,by rw[Mg,h7];rfl,h8,fun m z hm hz=>?_,p.val rg (.int _) h4⟩
  rw[Mg]at hz
  cases q:es[m]? with
  |none=>rw[q]at hz;cases hz
  |some d'=>rw[q]at hz;cases hz;exact h9 m d' hm q
 |[],h=>exact absurd h (by cases d <;> exact id)
 |_ :: _ :: _,h=>exact absurd h (by cases d <;> exact id)
structure LP(X:Cx)(m:MF):Prop where
 ok:∃(T id:String) (r:V→List V→Hp→VK→Prop),PlainAttrs T∧Slot T m.nm id∧typeOf (.builtin id)=pure (.type "method_descriptor")∧MtR X id r∧rY X.K T r (bw m)∧
  ∀(H:Hp) (x:V) (d:Dat) (ds:List Dat) (G:AG) (Qa:AQ),Rep X.K H x d→RelG X.K G H→bw m d ds G Qa→tyV X.K T x H
end Av
namespace Av
variable [Tb]
theorem PE.imp{X:Cx}{e:Expr}{t t':TE}(h:PE X e t)(f:∀σ H Q,t' σ H Q→t σ H Q):PE X e t':=⟨fun pins s σ H Q I q=>h.run pins s σ H Q I (f σ H Q q)⟩
theorem PT.imp{X:Cx}{e:Expr}{t t':TT}(h:PT X e t)(f:∀σ H Q,t' σ H Q→t σ H Q):PT X e t':=⟨fun pins s σ H Q I q=>h.run pins s σ H Q I (f σ H Q q)⟩
theorem PW.imp{X:Cx}{e:Expr}{t t':TT}(h:PW X e t)(f:∀σ H Q,t' σ H Q→t σ H Q):PW X e t':=⟨fun wh pins s σ H Q I q=>h.run wh pins s σ H Q I (f σ H Q q)⟩
theorem PA.imp{X:Cx}{es:List Expr}{t t':TA}(h:PA X es t)(f:∀σ H Q,t' σ H Q→t σ H Q):PA X es t':=⟨fun pos pins s σ H Q I q=>h.run pos pins s σ H Q I (f σ H Q q)⟩
theorem PI.imp{X:Cx}{tg e:Expr}{t t':TI}(h:PI X tg e t)(f:∀σ H Q,t' σ H Q→t σ H Q):PI X tg e t':=⟨fun pins s σ H Q I q=>h.run pins s σ H Q I (f σ H Q q)⟩
theorem PS.imp{X:Cx}{st:Stmt}{t t':TS}(h:PS X st t)(f:∀D σ H,t' D σ H→t D σ H):PS X st t':=⟨fun pins s σ H D I q=>h.run pins s σ H D I (f D σ H q)⟩
theorem PSs.imp{X:Cx}{st:List Stmt}{t t':TS}(h:PSs X st t)(f:∀D σ H,t' D σ H→t D σ H):PSs X st t':=⟨fun pins s σ H D I q=>h.run pins s σ H D I (f D σ H q)⟩
section
variable {X:Cx}
theorem Inv.frozen{pins:List (Addr × Obj)}{σ:L2.St}{H:Hp}{s:Shared}{l:Addr}{vs:List V}{o:Obj}(I:Inv X pins σ H s)(h:H l=some (.lst vs))(ho:s.heap.get? l=some o):Inv X pins σ (upd H l (.frz o (.lst vs))) s:=by
 have ne:∀{b u},H b=some u→u≠.lst vs→b≠l:=fun e d z=>by rw[z,h]at e;exact d (Option.some.inj e).symm
 have nn:∀{b},H b=none→b≠l:=fun e z=>by rw[z,h]at e;cases e
 have u:Un X.fs [] H (upd H l (.frz o (.lst vs))) s.heap s.heap:=by
  refine⟨fun _ _ q _ _ _=>q,fun b ob q _ _ _=>⟨ob.slots,q⟩,fun b ob q n _=>by rw[upd_ne (nn n)];exact n,fun b ob q _=>⟨ob,q⟩,fun b xs q=>by rw[upd_ne (ne q (by simp))];exact q,
   fun b ob w q=>by rw[upd_ne (ne q (by simp))];exact q,fun b ps q=>⟨#[],by rw[upd_ne (ne q (by simp)),q];simp⟩⟩
 have k:HOk X.prog X.w (upd H l (.frz o (.lst vs))) s.heap:=fun b w q=>by
  by_cases hb:b=l
  ·subst hb
   rw[upd_same]at q
   cases q
   exact⟨ho,I.hok b _ h⟩
  ·rw[upd_ne hb]at q
   exact (I.hok b w q).stay (fun _ _ _ z=>z) (fun c z=>by rw[upd_ne (ne z (by simp))];exact z) fun c xs z=>by rw[upd_ne (ne z (by simp))];exact z
 exact I.un (h':=s.heap) (t':=s.toks) u k
theorem fu{e:Expr}{t:TE}(h:PE X e t):PE X e fun σ H Q=>t σ H (Qz Q):=by
 refine⟨fun pins s σ H Q I q=>thn (h.run pins s σ H _ I q) ?_⟩
 rintro u s1 ⟨v,H1,I1,rv,q|⟨a,vs,rfl,ha,q⟩⟩
 ·exact⟨v,H1,I1,rv,q⟩
 ·obtain⟨z,its,n,_,_,ho⟩:=I1.lstM ha
  exact⟨.ref a,_,Inv.frozen I1 ha ho,rv,q _⟩
end
theorem oq{K:M0}{G:AG}{H:Hp}{Qa:AQ}{Q:VK}(p:PostE K G H Qa Q)(no:∀ds G,¬Qa (.lst ds) G):PostZ K G H Qa Q:=⟨p,fun G' _ ds _ _ _ _ _ _ q=>absurd q (no ds G')⟩
def Lf(K:M0)(W:WX){α β:Type}(R:Hp→β→α→Prop)(w:aj→AG→(α→AG→Prop)→AX→Prop):L2.St→Hp→(β→Hp→Prop)→Prop:=fun σ H Q =>
 ∃ρ G Qa Ea,RelE K H ρ σ∧RelG K G H∧w ρ G Qa Ea∧(∀d G' v H',Fra G H G' H'→RelG K G' H'→R H' v d→Qa d G'→Q v H')∧PostX K G H Ea fun c dx H'=>W c dx σ H'
abbrev LfE(K:M0)(W:WX)(w:aj→AG→AQ→AX→Prop):TE:=Lf K W (Rep K) w
abbrev LfA(K:M0)(W:WX)(w:aj→AG→(List Dat→AG→Prop)→AX→Prop):TA:=Lf K W (Reps K) w
abbrev LfT(K:M0)(W:WX)(w:aj→AG→(Bool→AG→Prop)→AX→Prop):TT:=Lf K W (fun _ b c=>b=c) w
section
variable {X:Cx} {W:WX} {a b c:Expr} {pos:Pos} {w1 w2 w3:aj→AG→AQ→AX→Prop}
theorem HD{op:Operator}{r:R2}{rA:Dat→Dat→AG→AQ→Prop}(ho:OpR X (binaryOp op) r)(hA:OpA X.K r rA)(h1:PE X a (LfE X.K W w1))(h2:PE X b (LfE X.K W w2)) :
  PE X (.BinOp a op b pos) (LfE X.K W fun ρ G Q E=>w1 ρ G (fun x G1=>w2 ρ G1 (fun y G2=>rA x y G2 Q) E) E) :=
 PE.imp (fu (pe_op ho h1 h2)) fun _ _ _ ⟨ρ,G,Qa,Ea,hE,hG,hw,hp,hx⟩=>⟨ρ,G,_,Ea,hE,hG,hw,fun d G1 v H1 f g r1 q=>⟨ρ,G1,_,Ea,hE.mono (f.stab hG),g,q,
  fun e G2 u H2 f2 g2 r2 q2=>hA H2 v u d e G2 Qa _ (r1.mono (f2.stab g)) r2 g2 q2 (bH fun d' G' v' H' f3=>hp d' G' v' H' ((f.trans f2).trans f3)),hx.fra f⟩,hx⟩
theorem DZ{op:CmpOp}{r:R2}{rA:Dat→Dat→AG→AQ→Prop}(ho:OpR X (compareOp op) r)(hA:OpA X.K r rA)(hm:behindInMarks op b=false)(h1:PE X a (LfE X.K W w1))(h2:PE X b (LfE X.K W w2)) :
  PE X (.Compare a [op] [b] pos) (LfE X.K W fun ρ G Q E=>w1 ρ G (fun x G1=>w2 ρ G1 (fun y G2=>rA x y G2 Q) E) E) :=
 PE.imp (fu (pe_cmpR ho h1 h2 hm)) fun _ _ _ ⟨ρ,G,Qa,Ea,hE,hG,hw,hp,hx⟩=>⟨ρ,G,_,Ea,hE,hG,hw,fun d G1 v H1 f g r1 q=>⟨ρ,G1,_,Ea,hE.mono (f.stab hG),g,q,
  fun e G2 u H2 f2 g2 r2 q2=>hA H2 v u d e G2 Qa _ (r1.mono (f2.stab g)) r2 g2 q2 (bH fun d' G' v' H' f3=>hp d' G' v' H' ((f.trans f2).trans f3)),hx.fra f⟩,hx⟩
theorem cn{Q:Bool→AG→Prop}{d:Dat}{G:AG}(h:bM Q d G):∃k,d = .bl k∧Q k G:=by
 cases d with
 |bl k=>exact⟨k,rfl,h⟩
 |_=>exact False.elim h
theorem Dg{op:CmpOp}{r:R2}{rA:Dat→Dat→AG→AQ→Prop}(ho:OpR X (compareOp op) r)(hA:OpA X.K r rA)(hm:behindInMarks op b=false)(h1:PE X a (LfE X.K W w1))(h2:PE X b (LfE X.K W w2)) :
  PT X (.Compare a [op] [b] pos) (LfT X.K W fun ρ G Q E=>w1 ρ G (fun x G1=>w2 ρ G1 (fun y G2=>rA x y G2 (bM Q)) E) E) :=
 PT.imp (pt_cmpR ho h1 h2 hm) fun _ _ _ ⟨ρ,G,Qa,Ea,hE,hG,hw,hp,hx⟩=>⟨ρ,G,_,Ea,hE,hG,hw,fun d G1 v H1 f g r1 q=>⟨ρ,G1,_,Ea,hE.mono (f.stab hG),g,q,
  fun e G2 u H2 f2 g2 r2 q2=>hA H2 v u d e G2 (bM Qa) _ (r1.mono (f2.stab g)) r2 g2 q2 (oq (fun d' G' v' H' f3 g3 r3 q3=>by
   obtain⟨k,e,q4⟩:=cn q3
   subst e
   exact⟨k,fx r3,hp k G' k H' ((f.trans f2).trans f3) g3 rfl q4⟩) fun _ _ z=>z),hx.fra f⟩,hx⟩
theorem As{op op':CmpOp}{r r':R2}{rA rA':Dat→Dat→AG→AQ→Prop}(ho:OpR X (compareOp op) r)(hA:OpA X.K r rA)(ho':OpR X (compareOp op') r')(hA':OpA X.K r' rA')(hm:behindInMarks op' c=false)
  (h1:PE X a (LfE X.K W w1))(h2:PE X b (LfE X.K W w2))(h3:PE X c (LfE X.K W w3)) :
  PE X (.Compare a [op,op'] [b,c] pos) (LfE X.K W fun ρ G Q E=>w1 ρ G (fun x G1=>w2 ρ G1 (fun y G2=>rA x y G2 (bM fun k G3=>if k=true then w3 ρ G3 (fun z G4=>rA' y z G4 Q) E else Q (.bl false) G3)) E) E):=by
 refine PE.imp (fu (pe_chain ho ho' h1 h2 h3 ?_)) ?_
 ·exact hm
 ·rintro σ H Q ⟨ρ,G,Qa,Ea,hE,hG,hw,hp,hx⟩
  refine⟨ρ,G,_,Ea,hE,hG,hw,fun d G1 v H1 f g r1 q=>⟨ρ,G1,_,Ea,hE.mono (f.stab hG),g,q,fun e G2 u H2 f2 g2 r2 q2=>?_,hx.fra f⟩,hx⟩
  refine hA H2 v u d e G2 _ _ (r1.mono (f2.stab g)) r2 g2 q2 (oq (fun d' G3 v' H3 f3 g3 r3 q3=>?_) fun _ _ z=>z)
  obtain⟨k,e3,q4⟩:=cn q3
  subst e3
  refine⟨k,fx r3,?_⟩
  have f03:=(f.trans f2).trans f3
  cases k with
  |true =>
   rw[if_pos rfl]at q4 ⊢
   exact⟨ρ,G3,_,Ea,hE.mono (f03.stab hG),g3,q4,fun z G4 t H4 f4 g4 r4 q5=>hA' H4 u t e z G4 Qa _ (r2.mono ((f3.trans f4).stab g2)) r4 g4 q5 (bH fun d' G' v' H' f5=>hp d' G' v' H' ((f03.trans f4).trans f5)),hx.fra f03⟩
  |false =>
   rw[if_neg (by simp)]at q4 ⊢
   exact .inl (hp _ _ _ _ f03 g3 (.bl false) q4)
theorem xW{op op':CmpOp}{r r':R2}{rA rA':Dat→Dat→AG→AQ→Prop}(ho:OpR X (compareOp op) r)(hA:OpA X.K r rA)(ho':OpR X (compareOp op') r')(hA':OpA X.K r' rA')(hm:behindInMarks op' c=false)
  (h1:PE X a (LfE X.K W w1))(h2:PE X b (LfE X.K W w2))(h3:PE X c (LfE X.K W w3)) :
  PT X (.Compare a [op,op'] [b,c] pos) (LfT X.K W fun ρ G Q E=>w1 ρ G (fun x G1=>w2 ρ G1 (fun y G2=>rA x y G2 (bM fun k G3=>if k=true then w3 ρ G3 (fun z G4=>rA' y z G4 (bM Q)) E else Q false G3)) E) E):=by
 refine PT.imp (pt_chain ho ho' h1 h2 h3 ?_) ?_
 ·exact hm
 ·rintro σ H Q ⟨ρ,G,Qa,Ea,hE,hG,hw,hp,hx⟩
  refine⟨ρ,G,_,Ea,hE,hG,hw,fun d G1 v H1 f g r1 q=>⟨ρ,G1,_,Ea,hE.mono (f.stab hG),g,q,fun e G2 u H2 f2 g2 r2 q2=>?_,hx.fra f⟩,hx⟩
  refine hA H2 v u d e G2 _ _ (r1.mono (f2.stab g)) r2 g2 q2 (oq (fun d' G3 v' H3 f3 g3 r3 q3=>?_) fun _ _ z=>z)
  obtain⟨k,e3,q4⟩:=cn q3
  subst e3
  refine⟨k,fx r3,?_⟩
  have f03:=(f.trans f2).trans f3
  cases k with
  |true =>
   rw[if_pos rfl]at q4 ⊢
   exact⟨ρ,G3,_,Ea,hE.mono (f03.stab hG),g3,q4,fun z G4 t H4 f4 g4 r4 q5=>hA' H4 u t e z G4 (bM Qa) _ (r2.mono ((f3.trans f4).stab g2)) r4 g4 q5 (oq (fun d' G' v' H' f5 g5 r5 q6=>by
    obtain⟨b,e4,q7⟩:=cn q6
    subst e4
    exact⟨b,fx r5,hp b G' b H' ((f03.trans f4).trans f5) g5 rfl q7⟩) fun _ _ z=>z),hx.fra f03⟩
  |false =>
   rw[if_neg (by simp)]at q4 ⊢
   exact⟨false,rfl,hp _ _ _ _ f03 g3 rfl q4⟩
variable {rest:List Expr} {wt wt1 wt2:aj→AG→(Bool→AG→Prop)→AX→Prop}
theorem Gp{K:M0}{H:Hp}{x:V}{d:Dat}{G:AG}{Qa:Bool→AG→Prop}(rx:Rep K H x d)(rg:RelG K G H)(h:bn d G Qa):∃k,TruV K x H k∧Qa k G:=GR (Q:=fun k _=>Qa k G) rx rg h fun _ q=>q
theorem D2(h1:PE X a (LfE X.K W w1))(h2:PE X (.BoolOp .And (b :: rest) pos) (LfE X.K W w2)) :
  PE X (.BoolOp .And (a :: b :: rest) pos) (LfE X.K W fun ρ G Q E=>w1 ρ G (fun x G1=>bn x G1 fun k G2=>if k=true then w2 ρ G2 Q E else Q x G2) E):=by
 refine PE.imp (pe_andT h1 h2) ?_
 rintro σ H Q ⟨ρ,G,Qa,Ea,hE,hG,hw,hp,hx⟩
 refine⟨ρ,G,_,Ea,hE,hG,hw,fun d G1 v H1 f g r1 q=>?_,hx⟩
 obtain⟨k,h3,h4⟩:=Gp r1 g q
 refine⟨k,h3,?_⟩
 cases k with
 |true =>
  rw[if_pos rfl]at h4 ⊢
  exact⟨ρ,G1,_,Ea,hE.mono (f.stab hG),g,h4,fun d' G' v' H' f3=>hp d' G' v' H' (f.trans f3),hx.fra f⟩
 |false =>
  rw[if_neg (by simp)]at h4 ⊢
  exact hp _ _ _ _ f g r1 h4
theorem HC(h1:PE X a (LfE X.K W w1))(h2:PE X (.BoolOp .Or (b :: rest) pos) (LfE X.K W w2)) :
  PE X (.BoolOp .Or (a :: b :: rest) pos) (LfE X.K W fun ρ G Q E=>w1 ρ G (fun x G1=>bn x G1 fun k G2=>if k=true then Q x G2 else w2 ρ G2 Q E) E):=by
 refine PE.imp (pe_orT h1 h2) ?_
 rintro σ H Q ⟨ρ,G,Qa,Ea,hE,hG,hw,hp,hx⟩
 refine⟨ρ,G,_,Ea,hE,hG,hw,fun d G1 v H1 f g r1 q=>?_,hx⟩
 obtain⟨k,h3,h4⟩:=Gp r1 g q
 refine⟨k,h3,?_⟩
 cases k with
 |true =>
  rw[if_pos rfl]at h4 ⊢
  exact hp _ _ _ _ f g r1 h4
 |false =>
  rw[if_neg (by simp)]at h4 ⊢
  exact⟨ρ,G1,_,Ea,hE.mono (f.stab hG),g,h4,fun d' G' v' H' f3=>hp d' G' v' H' (f.trans f3),hx.fra f⟩
theorem DK(h1:PE X a (LfE X.K W w1)):PE X (.UnaryOp .Not a pos) (LfE X.K W fun ρ G Q E=>w1 ρ G (fun x G1=>bn x G1 fun k G2=>Q (.bl (!k)) G2) E):=by
 refine PE.imp (pe_notT h1) ?_
 rintro σ H Q ⟨ρ,G,Qa,Ea,hE,hG,hw,hp,hx⟩
 refine⟨ρ,G,_,Ea,hE,hG,hw,fun d G1 v H1 f g r1 q=>?_,hx⟩
 obtain⟨k,h3,h4⟩:=Gp r1 g q
 exact⟨k,h3,hp _ _ _ _ f g (.bl _) h4⟩
theorem DS(h0:PT X c (LfT X.K W wt))(h1:PE X a (LfE X.K W w1))(h2:PE X b (LfE X.K W w2)) :
  PE X (.IfExp c a b pos) (LfE X.K W fun ρ G Q E=>wt ρ G (fun k G1=>if k=true then w1 ρ G1 Q E else w2 ρ G1 Q E) E):=by
 refine PE.imp (pe_ifExp h0 h1 h2) ?_
 rintro σ H Q ⟨ρ,G,Qa,Ea,hE,hG,hw,hp,hx⟩
 refine⟨ρ,G,_,Ea,hE,hG,hw,fun d G1 v H1 f g r1 q=>?_,hx⟩
 cases r1
 cases d with
 |true =>
  rw[if_pos rfl]at q ⊢
  exact⟨ρ,G1,_,Ea,hE.mono (f.stab hG),g,q,fun d' G' v' H' f3=>hp d' G' v' H' (f.trans f3),hx.fra f⟩
 |false =>
  rw[if_neg (by simp)]at q ⊢
  exact⟨ρ,G1,_,Ea,hE.mono (f.stab hG),g,q,fun d' G' v' H' f3=>hp d' G' v' H' (f.trans f3),hx.fra f⟩
theorem Db(h1:PE X a (LfE X.K W w1))(he:∀whole,isTrue a X.env whole=(do let v ←whole;standAt a.pos;holding [v] (truthy v))):PT X a (LfT X.K W fun ρ G Q E=>w1 ρ G (fun x G1=>bn x G1 Q) E):=by
 refine PT.imp (pt_truth h1 he) ?_
 rintro σ H Q ⟨ρ,G,Qa,Ea,hE,hG,hw,hp,hx⟩
 refine⟨ρ,G,_,Ea,hE,hG,hw,fun d G1 v H1 f g r1 q=>?_,hx⟩
 obtain⟨k,h3,h4⟩:=Gp r1 g q
 exact⟨k,h3,hp _ _ _ _ f g rfl h4⟩
theorem Dd(h1:PT X a (LfT X.K W wt)):PT X (.UnaryOp .Not a pos) (LfT X.K W fun ρ G Q E=>wt ρ G (fun k G1=>Q (!k) G1) E):=by
 refine PT.imp (pt_not h1) ?_
 rintro σ H Q ⟨ρ,G,Qa,Ea,hE,hG,hw,hp,hx⟩
 exact⟨ρ,G,_,Ea,hE,hG,hw,fun d G1 v H1 f g r1 q=>by cases r1;exact hp _ _ _ _ f g rfl q,hx⟩
theorem Dh(h1:PT X a (LfT X.K W wt1))(h2:PW X (.BoolOp .And (b :: rest) pos) (LfT X.K W wt2)) :
  PW X (.BoolOp .And (a :: b :: rest) pos) (LfT X.K W fun ρ G Q E=>wt1 ρ G (fun k G1=>if k=true then wt2 ρ G1 Q E else Q false G1) E):=by
 refine PW.imp (pw_and h1 h2) ?_
 rintro σ H Q ⟨ρ,G,Qa,Ea,hE,hG,hw,hp,hx⟩
 refine⟨ρ,G,_,Ea,hE,hG,hw,fun d G1 v H1 f g r1 q=>?_,hx⟩
 cases r1
 cases d with
 |true =>
  rw[if_pos rfl]at q ⊢
  exact⟨ρ,G1,_,Ea,hE.mono (f.stab hG),g,q,fun d' G' v' H' f3=>hp d' G' v' H' (f.trans f3),hx.fra f⟩
 |false =>
  rw[if_neg (by simp)]at q ⊢
  exact hp _ _ _ _ f g rfl q
theorem Hf(h1:PT X a (LfT X.K W wt1))(h2:PW X (.BoolOp .Or (b :: rest) pos) (LfT X.K W wt2)) :
  PW X (.BoolOp .Or (a :: b :: rest) pos) (LfT X.K W fun ρ G Q E=>wt1 ρ G (fun k G1=>if k=true then Q true G1 else wt2 ρ G1 Q E) E):=by
 refine PW.imp (pw_or h1 h2) ?_
 rintro σ H Q ⟨ρ,G,Qa,Ea,hE,hG,hw,hp,hx⟩
 refine⟨ρ,G,_,Ea,hE,hG,hw,fun d G1 v H1 f g r1 q=>?_,hx⟩
 cases r1
 cases d with
 |true =>
  rw[if_pos rfl]at q ⊢
  exact hp _ _ _ _ f g rfl q
 |false =>
  rw[if_neg (by simp)]at q ⊢
  exact⟨ρ,G1,_,Ea,hE.mono (f.stab hG),g,q,fun d' G' v' H' f3=>hp d' G' v' H' (f.trans f3),hx.fra f⟩
variable {es:List Expr} {wa:aj→AG→(List Dat→AG→Prop)→AX→Prop}
theorem DF{k:Nat}(h:PA X es (LfA X.K W wa)):PE X (.Tuple es k pos) (LfE X.K W fun ρ G Q E=>wa ρ G (fun ds G1=>ds.length≤sizeLine∧Q (.tup ds) G1) E):=by
 refine PE.imp (pe_tup h) ?_
 rintro σ H Q ⟨ρ,G,Qa,Ea,hE,hG,hw,hp,hx⟩
 refine⟨ρ,G,_,Ea,hE,hG,hw,fun d G1 v H1 f g r1 q=>⟨by rw[r1.length];exact q.1,?_⟩,hx⟩
 exact PostE.newT (fun d' G' v' H' f3=>hp d' G' v' H' (f.trans f3)) g r1 q.2
theorem DO{z:Bool}(h:PA X es (LfA X.K W wa)):PE X (.List es pos) (LfE X.K W fun ρ G Q E=>wa ρ G (fun ds G1=>nw z ds G1 Q) E):=by
 refine PE.imp (fu (pe_lst h)) ?_
 rintro σ H Q ⟨ρ,G,Qa,Ea,hE,hG,hw,hp,hx⟩
 refine⟨ρ,G,_,Ea,hE,hG,hw,fun d G1 v H1 f g r1 q=>⟨by rw[r1.length];exact iO q,?_⟩,hx⟩
 exact aA g r1 q (bH fun d' G' v' H' f3=>hp d' G' v' H' (f.trans f3))
theorem HF(hs:PlainIx b)(h1:PE X a (LfE X.K W w1))(h2:PE X b (LfE X.K W w2)) :
  PE X (.Subscript a b pos) (LfE X.K W fun ρ G Q E=>w1 ρ G (fun x G1=>w2 ρ G1 (fun y G2=>ixW x y G2 Q) E) E) :=
 PE.imp (fu (pe_ix ix_seq h1 h2 hs)) fun _ _ _ ⟨ρ,G,Qa,Ea,hE,hG,hw,hp,hx⟩=>⟨ρ,G,_,Ea,hE,hG,hw,fun d G1 v H1 f g r1 q=>⟨ρ,G1,_,Ea,hE.mono (f.stab hG),g,q,
  fun e G2 u H2 f2 g2 r2 q2=>wc H2 v u d e G2 Qa _ (r1.mono (f2.stab g)) r2 g2 q2 (bH fun d' G' v' H' f3=>hp d' G' v' H' ((f.trans f2).trans f3)),hx.fra f⟩,hx⟩
theorem aG{Q:Int→AG→Prop}{d:Dat}{G:AG}(h:bK Q d G):∃k,d = .int k∧Q k G:=by
 cases d with
 |int k=>exact⟨k,rfl,h⟩
 |_=>exact False.elim h
abbrev LfO(K:M0)(W:WX)(w:aj→AG→(Option Int→AG→Prop)→AX→Prop):TO:=Lf K W (fun _ b c=>b=c) w
theorem eM:PO X none (LfO X.K W fun _ G Q _=>Q none G):=⟨fun pins s σ H Q I ⟨ρ,G,Qa,Ea,hE,hG,hw,hp,hx⟩=>po_none.run pins s σ H Q I (hp none G none H .refl hG rfl hw)⟩
theorem eK(h1:PE X a (LfE X.K W w1)):PO X (some a) (LfO X.K W fun ρ G Q E=>w1 ρ G (bK fun i G1=>Q (some i) G1) E):=by
 refine⟨fun pins s σ H Q I ⟨ρ,G,Qa,Ea,hE,hG,hw,hp,hx⟩=>(po_some h1).run pins s σ H Q I ⟨ρ,G,_,Ea,hE,hG,hw,fun d G1 v H1 f g r1 q=>?_,hx⟩⟩
 obtain⟨i,rfl,q1⟩:=aG q
 exact⟨i,aB r1,hp _ _ _ _ f g rfl q1⟩
theorem sN{z:Bool}{lo hi:Option Expr}{p2:Pos}{wl wh:aj→AG→(Option Int→AG→Prop)→AX→Prop}(h1:PE X a (LfE X.K W w1))(h2:PO X lo (LfO X.K W wl))(h3:PO X hi (LfO X.K W wh)) :
  PE X (.Subscript a (.Slice lo hi none p2) pos) (LfE X.K W fun ρ G Q E=>w1 ρ G (fun x G1=>wl ρ G1 (fun i G2=>wh ρ G2 (fun j G3=>slW z x i j G3 Q) E) E) E):=by
 refine PE.imp (fu (pe_slice Dv h1 h2 h3)) ?_
 rintro σ H Q ⟨ρ,G,Qa,Ea,hE,hG,hw,hp,hx⟩
 refine⟨ρ,G,_,Ea,hE,hG,hw,fun d G1 v H1 f g r1 q=>⟨ρ,G1,_,Ea,hE.mono (f.stab hG),g,q,fun i G2 u H2 f2 g2 r2 q2=>?_,hx.fra f⟩,hx⟩
 cases r2
 refine⟨ρ,G2,_,Ea,hE.mono ((f.trans f2).stab hG),g2,q2,fun j G3 t H3 f3 g3 r3 q3=>?_,hx.fra (f.trans f2)⟩
 cases r3
 exact Dw (r1.mono ((f2.trans f3).stab g)) g3 q3 (bH fun d' G' v' H' f4=>hp d' G' v' H' (((f.trans f2).trans f3).trans f4))
theorem Ao{lo:Expr}{p2:Pos}{w2:aj→AG→AQ→AX→Prop}(h1:PE X a (LfE X.K W w1))(h2:PE X lo (LfE X.K W w2)) :
  PE X (.Subscript a (.Slice (some lo) none none p2) pos) (LfE X.K W fun ρ G Q E=>w1 ρ G (fun x G1=>w2 ρ G1 (bK fun i G2=>wO x i G2 Q) E) E):=by
 refine PE.imp (pe_slice z8 h1 (eK (W:=W) h2) (eM (W:=W))) ?_
 rintro σ H Q ⟨ρ,G,Qa,Ea,hE,hG,hw,hp,hx⟩
 refine⟨ρ,G,_,Ea,hE,hG,hw,fun d G1 v H1 f g r1 q=>⟨ρ,G1,(fun o G2=>∃i,o=some i∧wO d i G2 Qa),Ea,hE.mono (f.stab hG),g,?_,fun i G2 u H2 f2 g2 r2 q2=>?_,hx.fra f⟩,hx⟩
 ·show w2 ρ G1 (bK fun i G1=>∃i',some i=some i'∧wO d i' G1 Qa) Ea
  have e:(bK fun i G1=>∃i',some i=some i'∧wO d i' G1 Qa)=bK fun i G1=>wO d i G1 Qa:=by
   funext x G
   cases x <;> first|rfl|(simp only[bK,Option.some.injEq,exists_eq_left'])
  rw[e]
  exact q
 obtain⟨i,rfl,q2⟩:=q2
 cases r2
 refine⟨ρ,G2,(fun o G3=>o=none∧wO d i G3 Qa),Ea,hE.mono ((f.trans f2).stab hG),g2,⟨rfl,q2⟩,fun j G3 t H3 f3 g3 r3 q3=>?_,hx.fra (f.trans f2)⟩
 obtain⟨rfl,q3⟩:=q3
 cases r3
 cases d with
 |tup ds =>
  obtain⟨l,vs,rfl,k1,k2⟩:=aW (r1.mono ((f2.trans f3).stab g))
  refine⟨l,vs,i,rfl,rfl,rfl,k1.sq,fun e=>q3.1.1 ((fZ k2).mp e),q3.1.2,fun p o hpn ho=>?_⟩
  exact hp _ G3 _ _ ((((f.trans f2).trans f3)).trans (.newT hpn)) (g3.newT hpn) (.ktp ⟨o,upd_same,ho⟩ ((j6 k2 _ _).mono (.new hpn))) q3.2
 |_=>exact False.elim q3
theorem nX:PA X [] (LfA X.K W fun _ G Q _=>Q [] G):=PA.imp pa_nil fun _ _ _ ⟨ρ,G,Qa,Ea,hE,hG,hw,hp,hx⟩=>hp [] G [] _ .refl hG .nil hw
theorem jI(hs:starEach (a :: es) X.env=(false,eval a X.env) :: starEach es X.env)(h1:PE X a (LfE X.K W w1))(h2:PA X es (LfA X.K W wa)) :
  PA X (a :: es) (LfA X.K W fun ρ G Q E=>w1 ρ G (fun d G1=>wa ρ G1 (fun ds G2=>Q (d :: ds) G2) E) E) :=
 PA.imp (pa_cons h1 h2 hs) fun _ _ _ ⟨ρ,G,Qa,Ea,hE,hG,hw,hp,hx⟩=>⟨ρ,G,_,Ea,hE,hG,hw,fun d G1 v H1 f g r1 q=>⟨ρ,G1,_,Ea,hE.mono (f.stab hG),g,q,
  fun e G2 u H2 f2 g2 r2 q2=>hp _ _ _ _ (f.trans f2) g2 (.cons (r1.mono (f2.stab g)) r2) q2,hx.fra f⟩,hx⟩
theorem vR:PK X [] (LfA X.K W fun _ G Q _=>Q [] G):=⟨fun pos pins s σ H Q I ⟨ρ,G,Qa,Ea,hE,hG,hw,hp,hx⟩=>pk_nil.run pos pins s σ H Q I (hp [] G [] _ .refl hG .nil hw)⟩
theorem nO{nm:Option Str}{kpos:Pos}{kws:List Keyword}(h1:PE X a (LfE X.K W w1))(h2:PK X kws (LfA X.K W wa)) :
  PK X (⟨nm,a,kpos⟩ :: kws) (LfA X.K W fun ρ G Q E=>w1 ρ G (fun d G1=>wa ρ G1 (fun ds G2=>Q (d :: ds) G2) E) E) :=
 ⟨fun pos pins s σ H Q I ⟨ρ,G,Qa,Ea,hE,hG,hw,hp,hx⟩=>(pk_cons h1 h2).run pos pins s σ H Q I ⟨ρ,G,_,Ea,hE,hG,hw,fun d G1 v H1 f g r1 q=>⟨ρ,G1,_,Ea,hE.mono (f.stab hG),g,q,
  fun e G2 u H2 f2 g2 r2 q2=>hp _ _ _ _ (f.trans f2) g2 (.cons (r1.mono (f2.stab g)) r2) q2,hx.fra f⟩,hx⟩⟩
theorem DE{i:Nat}{x:Str}(hN:X.N[i]?=some x)(hv:Vis X.env.scope x)(hd:(x == ("__debug__" : Str))=false)(hcd:(x == ("__classdict__" : Str))=false) :
  PE X (.Name x pos) (LfE X.K W fun ρ G Q _=>match ρ[i]? with|some (some d)=>Q d G|_=>False):=by
 refine PE.imp (pe_var hN hv hd hcd) ?_
 rintro σ H Q ⟨ρ,G,Qa,Ea,hE,hG,hw,hp,hx⟩
 cases e:ρ[i]? with
 |none=>rw[e]at hw;exact False.elim hw
 |some o =>
  cases o with
  |none=>rw[e]at hw;exact False.elim hw
  |some d =>
   rw[e]at hw
   obtain⟨v,h1,h2⟩:=hE.2 i d e
   exact⟨v,h1,hp d G v H .refl hG h2 hw⟩
theorem Gv{v:V}{d:Dat}(h:PE X a (tC v))(r:∀H,Rep X.K H v d):PE X a (LfE X.K W fun _ G Q _=>Q d G) :=
 PE.imp h fun _ H _ ⟨ρ,G,Qa,Ea,hE,hG,hw,hp,hx⟩=>hp d G v H .refl hG (r H) hw
theorem DM(h1:PE X a (LfE X.K W w1)):PE X (.UnaryOp .USub a pos) (LfE X.K W fun ρ G Q E=>w1 ρ G (bK fun i G1=>Q (.int (-i)) G1) E) :=
 PE.imp (pe_un un_neg h1) fun _ _ _ ⟨ρ,G,Qa,Ea,hE,hG,hw,hp,hx⟩=>⟨ρ,G,_,Ea,hE,hG,hw,fun d G1 v H1 f g r1 q=>by
  obtain⟨i,rfl,q1⟩:=aG q
  exact⟨i,aB r1,hp _ _ _ _ f g (.int _) q1⟩,hx⟩
theorem lB{Q:AQ}{d:Dat}{G:AG}(h:mR d G Q):(∃p ds,d = .ref p∧G p=some (.lst ds)∧Q (.lst ds) (gx G p))∨(∃p kvs,d = .ref p∧G p=some (.dk kvs)∧Q (.dz (kvs.map (·.1)) (kvs.map (·.2))) (gx G p))∨Q d G:=by
 unfold mR at h
 split at h
 ·split at h
  ·exact .inl ⟨_,_,rfl,by assumption,h⟩
  ·exact .inr (.inl ⟨_,_,rfl,by assumption,h⟩)
  ·exact .inr (.inr h)
 ·exact .inr (.inr h)
theorem Soft.dKz{xs:List (Key × V)}:Soft (.dK xs):=⟨fun _ z=>(by cases z),fun _ _ z=>(by cases z),fun _ z=>(by cases z),fun _ z=>(by cases z),fun _ _ z=>(by cases z),fun _ _ z=>by cases z⟩
theorem uD{K:M0}{H:Hp}{vk:List (Key × V)}{kvs:List (Key × Dat)}(r:KRel K H vk kvs):vk=(kvs.map (·.1)).zip (vk.map (·.2))∧Reps K H (vk.map (·.2)) (kvs.map (·.2)):=by
 induction r with
 |nil=>exact⟨rfl,.nil⟩
 |@cons p q l m h _ ih =>
  obtain⟨h1,h2⟩:=h
  refine⟨?_,.cons h2 ih.2⟩
  simp only[Mc,List.zip_cons_cons,←h1]
  rw[←ih.1]
theorem Inv.frozenK{pins:List (Addr × Obj)}{σ:L2.St}{H:Hp}{s:Shared}{l:Addr}{vs:List (Key × V)}{o:Obj}(I:Inv X pins σ H s)(h:H l=some (.dK vs))(ho:s.heap.get? l=some o):Inv X pins σ (upd H l (.frz o (.dK vs))) s:=by
 have ne:∀{b u},H b=some u→u≠.dK vs→b≠l:=fun e d z=>by rw[z,h]at e;exact d (Option.some.inj e).symm
 have nn:∀{b},H b=none→b≠l:=fun e z=>by rw[z,h]at e;cases e
 have u:Un X.fs [] H (upd H l (.frz o (.dK vs))) s.heap s.heap:=by
  refine⟨fun _ _ q _ _ _=>q,fun b ob q _ _ _=>⟨ob.slots,q⟩,fun b ob q n _=>by rw[upd_ne (nn n)];exact n,fun b ob q _=>⟨ob,q⟩,fun b xs q=>by rw[upd_ne (ne q (by simp))];exact q,
   fun b ob w q=>by rw[upd_ne (ne q (by simp))];exact q,fun b ps q=>⟨#[],by rw[upd_ne (ne q (by simp)),q];simp⟩⟩
 have k:HOk X.prog X.w (upd H l (.frz o (.dK vs))) s.heap:=fun b w q=>by
  by_cases hb:b=l
  ·subst hb
   rw[upd_same]at q
   cases q
   exact⟨ho,I.hok b _ h⟩
  ·rw[upd_ne hb]at q
   exact (I.hok b w q).stay (fun _ _ _ z=>z) (fun c z=>by rw[upd_ne (ne z (by simp))];exact z) fun c xs z=>by rw[upd_ne (ne z (by simp))];exact z
 exact I.un (h':=s.heap) (t':=s.toks) u k
theorem i7{K:M0}{G:AG}{H:Hp}{p:Addr}{kvs:List (Key × Dat)}{vk:List (Key × V)}{o:Obj}(g:RelG K G H)(e:G p=some (.dk kvs))(h:H p=some (.dK vk))(r:KRel K H vk kvs) :
  Fra G H (gx G p) (upd H p (.frz o (.dK vk)))∧RelG K (gx G p) (upd H p (.frz o (.dK vk)))∧Rep K (upd H p (.frz o (.dK vk))) (.ref p) (.dz (kvs.map (·.1)) (kvs.map (·.2))):=by
 obtain⟨e1,e2⟩:=uD r
 have hl:(kvs.map (·.1)).length=(vk.map (·.2)).length:=by rw[M5,M5];exact (Paired.length r).symm
 refine⟨fun a u q _ n=>?_,⟨fun a w q=>?_,bo g.t h Soft.dKz⟩,.dz ⟨o,by rw[←e1];exact upd_same⟩ hl (e2.mono (.mut h Soft.dKz))⟩
 ·have d:a≠p:=fun z=>by rw[z,e]at n;cases n
  exact⟨by rw[upd_ne d];exact q,by rw[dA d];exact n⟩
 ·have d:a≠p:=fun z=>by rw[z,cb]at q;cases q
  rw[dA d]at q
  exact (g.g a w q).mono (.mut h Soft.dKz) (upd_ne d)
theorem lA{K:M0}{G:AG}{H:Hp}{p:Addr}{ds:List Dat}{vs:List V}{o:Obj}(g:RelG K G H)(e:G p=some (.lst ds))(h:H p=some (.lst vs))(r:Reps K H vs ds) :
  Fra G H (gx G p) (upd H p (.frz o (.lst vs)))∧RelG K (gx G p) (upd H p (.frz o (.lst vs)))∧Rep K (upd H p (.frz o (.lst vs))) (.ref p) (.lst ds):=by
 refine⟨fun a u q _ n=>?_,⟨fun a w q=>?_,bo g.t h Soft.lst⟩,.lst ⟨o,upd_same⟩ (r.mono (.lst h))⟩
 ·have d:a≠p:=fun z=>by rw[z,e]at n;cases n
  exact⟨by rw[upd_ne d];exact q,by rw[dA d];exact n⟩
 ·have d:a≠p:=fun z=>by rw[z,cb]at q;cases q
  rw[dA d]at q
  exact (g.g a w q).mono (.lst h) (upd_ne d)
theorem DW(h1:PE X a (LfE X.K W w1)):PE X a (LfE X.K W fun ρ G Q E=>w1 ρ G (fun x G1=>mR x G1 Q) E):=by
 refine⟨fun pins s σ H Q I ⟨ρ,G,Qa,Ea,hE,hG,hw,hp,hx⟩=>?_⟩
 refine thn (h1.run pins s σ H (fun v H1=>∃d G1,Fra G H G1 H1∧RelG X.K G1 H1∧Rep X.K H1 v d∧mR d G1 Qa) I ⟨ρ,G,_,Ea,hE,hG,hw,fun d G1 v H1 f g r q=>⟨d,G1,f,g,r,q⟩,hx⟩) ?_
 rintro u s1 ⟨v,H1,I1,rv,d,G1,f,g,r,q⟩
 rcases lB q with⟨p,ds,rfl,e,q1⟩|⟨p,kvs,rfl,e,q1⟩|q1
 ·cases aK r
  obtain⟨vs,h2,h3⟩:=g.lst e
  obtain⟨z,its,n,_,_,ho⟩:=I1.lstM h2
  obtain⟨f2,g2,r2⟩:=lA (o:={cls:=.type "list",data:=.seq its.toArray n}) g e h2 h3
  exact⟨.ref p,_,Inv.frozen I1 h2 ho,rv,hp _ _ _ _ (f.trans f2) g2 r2 q1⟩
 ·cases aK r
  obtain⟨vk,h2,h3⟩:=(show AOk X.K H1 p (.dk kvs) from g.g p _ e)
  obtain⟨_,_,vs,_,o,es,ep,h4,_⟩:=(show ObjOk X.prog X.w H1 s1.heap p (.dK vk) from I1.hok p _ h2)
  obtain⟨f2,g2,r2⟩:=i7 (o:=o) g e h2 h3
  exact⟨.ref p,_,Inv.frozenK I1 h2 h4,rv,hp _ _ _ _ (f.trans f2) g2 r2 q1⟩
 ·exact⟨v,H1,I1,rv,hp _ _ _ _ f g r q1⟩
end
end Av
namespace Av
variable [Tb]
section
variable {X:Cx} {C:Addr} {bmB:List Value} {B newId initId:String}
theorem tK{x:Str}{p pos:Pos}(F:ExcBaseFacts B newId initId bmB)(q:PySem.W.excIn X.K C bmB newId=true)(gC:X.mg x=some (.ref C))(kC:PySem.W.keepIn X.K (.ref C)=true)(r:Raises X (.ref C))(hg:Gl X x)(hdb:(x == ("__debug__" : Str))=false) :
  L2N.PMk X (.Call (.Name x p) [] [] pos) (fun _ H Q=>Q (.ref C) none H):=by
 intro pins s σ H Q I h
 refine wpAny_Call_Name_kw (ld_glob I hg gC ?_ hdb)
 refine PySem.W.callWith_K0 I.kIn kC ?_
 obtain⟨bm,N,nm,qn,bs,hdct,sn,sub,ab,col,dd,k0,k1,k2,k3,k5,mN,hC,hN,hni,T⟩:=exc_obj I.kIn q
 refine wpAny_call_exc_subT F T hC hN hni (fun h' e hm=>?_) (Nat.zero_le _)
 exact L2N.mk_of I hm r h (I.hok.gone hm.new)
theorem A7{CX:CXT}{x:Str}{e:Expr}{es:List Expr}{ta:TA}{p pos:Pos}{C f:Addr}{k:Nat}{fd:FuncData}{ps:List Str}{sp:Sp}(T:OexC X.K C)(hi:PySem.W.findIn X.K (.ref C) "__init__" =some (some (.ref f)))(ht:PySem.W.typeIn X.K (.ref f)=some (.type "function"))
  (ok:FnOk X.prog X.w X.K X.mg X.base CX k f fd ps sp)(room:Room (k+1) X.A)(hb:Binds X.K fd ps [])(hx:Passes CX X (fun _ _ _=>False))(hg:Gl X x)(hm:X.mg x=some (.ref C))(ha:PA X (e :: es) ta)
  (hdb:(x == ("__debug__" : Str))=false)(hst:starEach (e :: es) X.env=(false,eval e X.env) :: starEach es X.env)(hpl:(backTo pos (starEach es X.env)).any (·.1)=false) :
  L2N.PMk X (.Call (.Name x p) (e :: es) [] pos) (tMkO C sp [] ta):=fun pins s σ H Q I h=>by
 obtain⟨nm,qn,N,bs,bm,sn,sub,ab,col,dd,k0,k1,k2,k3,k5,hC,hbm⟩:=T.cls
 have args:=ha.run pos pins s σ H _ I h
 refine wpAny_Call_Name_kw (ld_glob I hg hm (PySem.W.callWith_K (h₀:=X.base) I.ok.mod.kin T.kC (thn args fun us s1 hs1=>?_) hst hpl) hdb)
 obtain⟨vs,H1,I1,r1,lv,q1⟩:=hs1
 refine⟨I1.kIn,?_⟩
 have lu:us.length≤sizeLine:=by
  have:=sizeLine_eq
  rw[←r1.length]
  omega
 rcases s1 with⟨hp,g,dr,tk,os⟩
 have up1:hp.objs.size≤hp.objs.size+1:=Nat.le_succ _
 have free:H1 (hp.objs.size+1)=none:=I1.hok.fresh up1
 have stays:∀b o,hp.get? b=some o→((hp.push (PySem.W.kdv_tup us)).push (PySem.HandSPX.excO C hp.objs.size)).get? b=some o:=fun b o z=>Heap.get?_push_of_some _ (Heap.get?_push_of_some _ z)
 have it:((hp.push (PySem.W.kdv_tup us)).push (PySem.HandSPX.excO C hp.objs.size)).get? (hp.objs.size+1)=some (PySem.HandSPX.excO C hp.objs.size):=by heap_get
 have I2:=I1.laid (t':=tk) (a:=hp.objs.size+1) (o:=exo (hp.objs.size+1) C none) (h':=(hp.push (PySem.W.kdv_tup us)).push (PySem.HandSPX.excO C hp.objs.size)) stays up1 (exo_ok it)
 have w:=q1 _ free
 rw[List.append_nil]at w
 have vals:Vals (V.ref (hp.objs.size+1) :: vs) (Value.ref (hp.objs.size+1) :: us):=.cons rfl r1
 have ln:(Value.ref (hp.objs.size+1) :: us++[]).length=ps.length:=by
  rw[List.append_nil,←vals.length]
  exact ok.len _ _ _ _ w
 have bind:=hb _ (Value.ref (hp.objs.size+1) :: us) I2.kIn ln
 rw[List.append_nil]at bind
 have body:=ok.run _ X.stack _ _ ⟨Value.ref (hp.objs.size+1) :: us,[]⟩ (Value.ref (hp.objs.size+1) :: us) _ _ (fun _ _ _=>False) (room.make C us []) (I2.env0.make C us []) bind vals w
 refine wpAny_call (PySem.HandSPX.call_own F.excBase_ValueError (fun Y=>PySem.HandSPX.refsVE_contains Y bm hbm) (I1.kIn _ _ hC) (PySem.W.looks_findIn I1.kIn hi) (fun self=>PySem.W.bind_fn I1.kIn self ht) lu (codeAny_mono body fun r s' z=>?_))
 match r,z with
 |.error er,z=>exact hx pins σ _ _ er s' I2 z
 |.ok (.ret u),z =>
  rcases s' with⟨h2,g2,d2,t2,o2⟩
  obtain⟨v,H2,z1,z2,z3,z4,rv,ev,d,fs,ea,ed,hd1,z5⟩:=z
  subst ev
  obtain⟨t0,G,J,kG,ge,hoe,na⟩:=mk_end0 (d2:=d2) (t2:=t2) I1 up1 stays z3 z4 z1 z2 ea ed hd1
  exact⟨rv,hp.objs.size+1,_,_,⟨G,g2,d2,t2,o2⟩,_,.ref C,some d,rfl,J,kG,ge,hoe,⟨rfl,rfl,fun a ha=>by cases ha;rfl⟩,rfl,rfl,na,rfl,z2,raises_own T.exC T.tyC,z5⟩
 |.ok .next,z=>exact z.elim
 |.ok .brk,z=>exact z.elim
 |.ok .cont,z=>exact z.elim
def Hi(K:M0)(C:Addr)(fl:List Str):Sp:=fun vs H Q _=>∃a ws,vs = .ref a :: ws∧ws.length=fl.length∧H a=some (exo a C none)∧∀d,H d=none→d≠a→Q .non (upd (upd H d (exd d (fl.zip ws).reverse)) a (exo a C (some d)))
end
end Av
namespace Av
variable [Tb]
structure KdAt(K:M0)(P:Program)(w:World)(d:Addr)(vk:List (Key × V)):Prop where
 at_:∃(o:Obj) (es:Array DictEntry) (ep:Nat) (vs:List (Key × Value)),K.lookup d=some o∧o.ExactDict∧o.data = .dict es ep∧PySem.KeysOf (mixKind P w) es∧PySem.Pairs (mixKind P w) es.toList vs∧(vs.map (·.1)).Nodup∧KV vk vs
 low:(d == sysModules)=false
section
variable {X:Cx} {pins:List (Addr × Obj)} {σ:L2.St} {H:Hp} {s:Shared} {d:Addr} {vk:List (Key × V)}
theorem KdAt.of(h:KdAt X.K X.prog X.w d vk)(I:Inv X pins σ H s):∃vs,KV vk vs∧s.heap.DictOf (mixKind X.prog X.w) d vs:=by
 obtain⟨⟨o,es,ep,vs,h1,h2,h3,h4,h5,h6,h7⟩,_⟩:=h
 exact⟨vs,h7,o,es,ep,I.kIn _ _ h1,h2,h3,h4,h5,h6⟩
def tB(n:Bool)(vk:List (Key × V))(d:Addr):V→V→Hp→VK→Prop:=fun x y H Q=>∃k,y = .ref d∧x=kV k∧Q (.bl (if n then !(valV vk k).isSome else (valV vk k).isSome)) H
theorem AT(h:KdAt X.K X.prog X.w d vk):OpR X (compareOp .In) (tB false vk d):=by
 intro pins s σ H x y v u Q I rx ry ⟨k,e1,e2,q⟩
 subst e1 e2
 cases ry
 obtain⟨vs,rel,dd⟩:=h.of I
 refine wpAny_in_of (kV_is rx) h.low dd.mapOf ?_
 rw[←(rel.val k).isSome_eq]
 exact⟨.bl _,H,I.tok _,rfl,q⟩
theorem ma(h:KdAt X.K X.prog X.w d vk):OpR X (compareOp .NotIn) (tB true vk d):=by
 intro pins s σ H x y v u Q I rx ry ⟨k,e1,e2,q⟩
 subst e1 e2
 cases ry
 obtain⟨vs,rel,dd⟩:=h.of I
 refine wpAny_notIn_of (kV_is rx) h.low dd.mapOf ?_
 rw[←(rel.val k).isSome_eq]
 exact⟨.bl _,H,I.tok _,rfl,q⟩
theorem Bz{A:Around}{E:Value→Shared→Prop}{k:Key}{v:V}{u:Value}{Q:Value→Shared→Prop}(h:KdAt X.K X.prog X.w d vk)(I:Inv X pins σ H s)(ry:RelV (kV k) u)(l:valV vk k=some v)(hq:∀w' s',Inv X pins σ H s'→RelV v w'→Q w' s') :
  wpAny (model X.prog X.w) A (getItem (.ref d) u) Q E s:=by
 obtain⟨vs,rel,dd⟩:=h.of I
 obtain⟨w',hw,rw'⟩:=RelO.some_of (v:=v) (o:=valueAt vs k) (by rw[←l];exact rel.val k)
 exact wpAny_getItem_of (kV_is ry) dd.mapOf hw (hq w' _ (I.tok _) rw')
theorem BB{A:Around}{E:Value→Shared→Prop}{k:Key}{u:Value}{Q:Value→Shared→Prop}(h:KdAt X.K X.prog X.w d vk)(I:Inv X pins σ H s)(ry:RelV (kV k) u)(hq:∀w' s',Inv X pins σ H s'→RelV ((valV vk k).getD .non) w'→Q w' s') :
  wpAny (model X.prog X.w) A (call (.builtin "dict.get") [.ref d,u]) Q E s:=by
 obtain⟨vs,rel,dd⟩:=h.of I
 refine call_meetsIn PySem.F.slot_dict_get dd.typeIs PySem.F.entry_dict_get (PySem.F.args_dict_get_2 _ _) (meets_dict_get (mixKind X.prog X.w) d (kV_is ry) h.low) ⟨_,dd.mapOf,hq _ _ (I.tok _) ?_⟩
 exact (rel.val k).getD rfl
theorem BA{A:Around}{E:Value→Shared→Prop}{k:Key}{u r:Value}{z:V}{Q:Value→Shared→Prop}(h:KdAt X.K X.prog X.w d vk)(I:Inv X pins σ H s)(ry:RelV (kV k) u)(rd:RelV z r)(hq:∀w' s',Inv X pins σ H s'→RelV ((valV vk k).getD z) w'→Q w' s') :
  wpAny (model X.prog X.w) A (call (.builtin "dict.get") [.ref d,u,r]) Q E s:=by
 obtain⟨vs,rel,dd⟩:=h.of I
 refine call_meetsIn PySem.F.slot_dict_get dd.typeIs PySem.F.entry_dict_get (PySem.F.args_dict_get_3 _ _ _) (meets_dict_get_default (mixKind X.prog X.w) d (kV_is ry) h.low r) ⟨_,dd.mapOf,hq _ _ (I.tok _) ?_⟩
 exact (rel.val k).getD rd
end
section
variable {X:Cx} {D x:Str} {p pos apos cpos:Pos} {d:Addr} {vk:List (Key × V)} {a b:Expr} {t t2:TE}
theorem cy(hg:Gl X D)(hm:X.mg D=some (.ref d))(hdb:(D == ("__debug__" : Str))=false):PE X (.Name D p) (tC (.ref d)) :=
 ⟨fun pins s σ H Q I q=>ld_glob I hg hm ⟨.ref d,H,I,rfl,q⟩ hdb⟩
def GZ(vk:List (Key × V))(t:TE):TE:=fun σ H Q=>t σ H fun y H1=>∃k v,y=kV k∧valV vk k=some v∧Q v H1
theorem AH(h:KdAt X.K X.prog X.w d vk)(hg:Gl X D)(hm:X.mg D=some (.ref d))(hdb:(D == ("__debug__" : Str))=false)(hi:PE X a t)(hs:NoSl a):PE X (.Subscript (.Name D p) a pos) (GZ vk t):=by
 refine⟨fun pins s σ H Q I q=>?_⟩
 refine subD_of PySem.F.slot_dict_getitem.lookup hs (thn ((cy (p:=p) hg hm hdb).run pins s σ H (fun v H1=>v = .ref d∧H1=H) I ⟨rfl,rfl⟩) fun u s1 ⟨v,H1,I1,rv,e1,e2⟩=>?_)
 subst e1 e2
 cases rv
 refine thn (hi.run pins s1 σ _ _ I1 q) fun iv s2 ⟨y,H2,I2,ry,k,v,e,l,q2⟩=>?_
 subst e
 obtain⟨vs,rel,dd⟩:=h.of I2
 exact⟨dd.typeIs,Bz h I2 ry l fun w' s3 I3 rw'=>⟨v,H2,I3,rw',q2⟩⟩
def Ha(vk:List (Key × V))(t:TE):TE:=fun σ H Q=>t σ H fun y H1=>∃k,y=kV k∧Q ((valV vk k).getD .non) H1
def G9(vk:List (Key × V))(t t2:TE):TE:=fun σ H Q=>t σ H fun y H1=>t2 σ H1 fun z H2=>∃k,y=kV k∧Q ((valV vk k).getD z) H2
theorem iY{pins:List (Addr × Obj)}{σ:L2.St}{H:Hp}{s:Shared}(h:KdAt X.K X.prog X.w d vk)(I:Inv X pins σ H s):s.TypeIs (.ref d) "dict"∧∀b,Value.ref d = .ref b→∃ob,s.heap.get? b=some ob∧ob.dict=none:=by
 obtain⟨vs,rel,dd⟩:=h.of I
 refine⟨dd.typeIs,fun b q=>?_⟩
 cases q
 obtain⟨ob,_,_,h1,h2,_⟩:=dd
 exact⟨ob,h1,h2.2.1⟩
theorem AJ(h:KdAt X.K X.prog X.w d vk)(hg:Gl X D)(hm:X.mg D=some (.ref d))(hdb:(D == ("__debug__" : Str))=false)(he:PE X a t)(m:M1 X (.Name D p) "get" apos a cpos):PE X (.Call (.Attribute (.Name D p) "get" apos) [a] [] cpos) (Ha vk t):=by
 refine⟨fun pins s σ H Q I q=>?_⟩
 refine wpAny_Call_method m.base m.few m.line PySem.F.plainAttrs_dict PySem.F.slot_dict_get PySem.F.type_dict_get (thn ((cy (p:=p) hg hm hdb).run pins s σ H (fun v H1=>v = .ref d∧H1=H) I ⟨rfl,rfl⟩) fun u s1 ⟨v,H1,I1,rv,e1,e2⟩=>?_)
 subst e1 e2
 cases rv
 obtain⟨t1,t2⟩:=iY h I1
 refine⟨t1,t2,?_⟩
 rw[m.trees]
 refine Calls.callWith_builtin rfl (Calls.evalArgs_plain (Calls.spliced_cons (thn (he.run pins s1 σ _ _ I1 q) fun iv s2 ⟨y,H2,I2,ry,k,e,q2⟩=>Calls.spliced_nil ?_)))
 subst e
 exact BB h I2 ry fun w' s3 I3 rw'=>⟨_,H2,I3,rw',q2⟩
theorem AI(h:KdAt X.K X.prog X.w d vk)(hg:Gl X D)(hm:X.mg D=some (.ref d))(hdb:(D == ("__debug__" : Str))=false)(he:PE X a t)(hf:PE X b t2)(m:M2 X (.Name D p) "get" apos a b cpos):PE X (.Call (.Attribute (.Name D p) "get" apos) [a,b] [] cpos) (G9 vk t t2):=by
 refine⟨fun pins s σ H Q I q=>?_⟩
 refine wpAny_Call_method m.base m.few m.line PySem.F.plainAttrs_dict PySem.F.slot_dict_get PySem.F.type_dict_get (thn ((cy (p:=p) hg hm hdb).run pins s σ H (fun v H1=>v = .ref d∧H1=H) I ⟨rfl,rfl⟩) fun u s1 ⟨v,H1,I1,rv,e1,e2⟩=>?_)
 subst e1 e2
 cases rv
 obtain⟨t1,t3⟩:=iY h I1
 refine⟨t1,t3,?_⟩
 rw[m.trees]
 refine Calls.callWith_builtin rfl (Calls.evalArgs_plain (Calls.spliced_cons (thn (he.run pins s1 σ _ _ I1 q) fun iv s2 ⟨y,H2,I2,ry,q2⟩ =>
  Calls.spliced_cons (thn (hf.run pins s2 σ H2 _ I2 q2) fun fv s3 ⟨z,H3,I3,rz,k,e,q3⟩=>Calls.spliced_nil ?_))))
 subst e
 exact BA h I3 ry rz fun w' s4 I4 rw'=>⟨_,H3,I4,rw',q3⟩
end
def ItK(vk:List (Key × V)):It:=⟨fun i _=>i<vk.length,fun i H x H'=>H'=H∧∃k v,vk[i]?=some (k,v)∧x=kV k,fun i _=>vk.length≤i⟩
section
variable {P:Program} {w:World} {K:M0} {tg:Expr} {d:Addr} {vk:List (Key × V)}
theorem KdAt.lit{X:Cx}{pins:List (Addr × Obj)}{σ:L2.St}{H:Hp}{s:Shared}{o:Obj}{es:Array DictEntry}{ep:Nat}(h:KdAt X.K X.prog X.w d vk)(e:X.K.lookup d=some o)(hd:o.data = .dict es ep)(I:Inv X pins σ H s) :
  s.heap.get? d=some o∧o.ExactDict∧es.size=vk.length∧∃vs,KV vk vs∧s.heap.DictAt (mixKind X.prog X.w) d vs ep:=by
 obtain⟨⟨o',es',ep',vs,h1,h2,h3,h4,h5,h6,h7⟩,_⟩:=h
 rw[e]at h1
 cases h1
 obtain⟨q1,q2⟩:=dict_ep hd h3
 subst q1 q2
 have g:=I.kIn _ _ e
 have l1:=h5.length
 have l2:vk.length=vs.length:=Paired.length h7
 rw[Array.length_toList]at l1
 exact⟨g,h2,by omega,vs,h7,o,_,g,h2,hd,h4,h5,h6⟩
theorem xM{o:Obj}{es:Array DictEntry}{ep:Nat}(it:Addr)(h:KdAt K P w d vk)(e:K.lookup d=some o)(hod:o.data = .dict es ep):Turn P w K tg (ItK vk) [it] it (fun i h=>h.IsKeyIter it d i vk.length ep) where
 mem:=List.mem_singleton.mpr rfl
 obj:=fun i hp st b hb=>by
  cases List.mem_singleton.mp hb
  obtain⟨oi,e,c,dd⟩:=st
  exact⟨oi,e,fun v z=>by rw[dd]at z;cases z⟩
 keep:=fun i hp hp' st k=>st.at fun oi e=>k it (List.mem_singleton.mpr rfl) oi e
 item:=by
  intro X hP hw hK hc i pins s σ H E I hf st hi
  subst hP hw hK
  obtain⟨f0,f1,f2,f3,f4,f5⟩:=hf it (List.mem_singleton.mpr rfl)
  obtain⟨hgd,hx,hsz,vs,kv,hm⟩:=h.lit e hod I
  have hi:i<vk.length:=hi
  obtain⟨⟨k,v⟩,hkv⟩:∃q,vk[i]?=some q:=⟨vk[i],Me hi⟩
  obtain⟨u,hu,ru⟩:=kv_get kv hkv
  have hl:vk.length=vs.length:=Paired.length kv
  rw[hl]at st
  refine wpAny_pyNext_dict_item st hm hu fun key h' hkey st' sb=>?_
  have I1:Inv X pins σ H {s with heap:=h'}:=I.turned (t':=s.toks) (fun b ob hb e=>(sb.2 b hb).trans e) f0 f1 f3 f4 f5
  obtain⟨oi,e6,c,dd⟩:=id st'
  have rk:RelV (kV k) key:=relV_key hkey
  refine⟨key,rfl,go_of (s:={s with heap:=h'}) e6 c dd (by decide) ⟨kV k,H,I1,rk,⟨rfl,k,v,hkv,rfl⟩,?_,fun b hb=>(hf b hb).1⟩⟩
  show h'.IsKeyIter it d (i+1) vk.length _
  rw[hl]
  exact st'
 done:=by
  intro X hP hw hK hc i pins s σ H E I hf st hi
  subst hP hw hK
  obtain⟨f0,f1,f2,f3,f4,f5⟩:=hf it (List.mem_singleton.mpr rfl)
  obtain⟨hgd,hx,hsz,vs,kv,hm⟩:=h.lit e hod I
  exact next_key_end (I.ok.hd hc) st hgd hod hsz hi fun h' eb=>⟨rfl,I.turned (t':=s.toks) (fun b ob hb e=>eb b ob hb e) f0 f1 f3 f4 f5⟩
 self:=fun A i s Q E st h=>wpAny_pyIter_keyiter st h
theorem Ic{X:Cx}{D:Str}{p:Pos}(h:KdAt X.K X.prog X.w d vk)(hg:Gl X D)(hm:X.mg D=some (.ref d))(hdb:(D == ("__debug__" : Str))=false):PI X tg (.Name D p) (fun _ H R=>R (ItK vk) H):=by
 refine⟨fun pins s σ H R I q=>?_⟩
 refine thn ((cy (p:=p) hg hm hdb).run pins s σ H (fun v H1=>v = .ref d∧H1=H) I ⟨rfl,rfl⟩) fun u s1 ⟨v,H1,I1,rv,e1,e2⟩=>?_
 subst e1 e2
 cases rv
 obtain⟨o,es,ep,_,h1,h2,h3,_⟩:=h.at_
 obtain⟨hgd,hx,hsz,vs,kv,hm'⟩:=h.lit h1 h3 I1
 refine iter_keys h.low hgd hx h3 (pi_one (tk:=s1.toks) I1 _ (xM _ h h1 h3) ⟨_,Heap.get?_push_size _ rfl,rfl,?_⟩ q)
 rw[hsz]
 rfl
end
end Av
namespace Av
open PySem PySem.Spec PyProof.Rows L2 L2H
variable [Tb]
abbrev JI:=Str→List (Str × Dat)→Option Dat
structure HotFn(P:Program)(w:World)(K:M0)(mg:Str→Option Value)(base:Heap)(k:Nat)(f:Addr)(fd:FuncData)(ps:List Str)(g:JI):Prop where
 one:ps.length=1
 run:∀(A:Around) (outer:List Env) (s:Shared) (H:Hp) (args:Args) (p:Addr × Obj) (C:Str) (fs:List (Str × Dat)) (G:AG) (d:Dat) (Q:VK),RoomH k A→PinOk outer H s p→Env0 P w K mg base A outer s H→BindsTo s fd args (ps.zip [.ref p.1])→
  p.2.cls = .ref (He.ga K C)→(∃vs,p.2.data = .fields vs)→Hot1 A p→RelG K G H→cE K H p.2.dict fs→g C fs=some d→(∀v H',Fra G H G H'→RelG K G H'→cE K H' p.2.dict fs→Rep K H' v d→Q v H')→
  codeAny (model P w) A (.call (.ref f) args) (CR (L2N.CX P w) outer P w H s Q fun _ _ _=>False) s
theorem HotFn.mono{P:Program}{w:World}{K:M0}{mg:Str→Option Value}{base:Heap}{j k:Nat}{f:Addr}{fd:FuncData}{ps:List Str}{g:JI}(h:HotFn P w K mg base j f fd ps g)(hj:j≤k):HotFn P w K mg base k f fd ps g :=
 ⟨h.one,fun A outer s H args p C fs G d Q hr=>h.run A outer s H args p C fs G d Q (hr.mono hj)⟩
end Av
namespace Av
variable [Tb]
def bF(K:M0)(F:FnE):Sp:=fun vs H Q E=>∃ds G Qa Ea,Reps K H vs ds∧RelG K G H∧F.con ds G Qa Ea∧PostE K G H Qa Q∧PostX K G H Ea E
theorem gw{K:M0}{F:FnE}{vs:List V}{H:Hp}{Q:VK}{E:XK}(h:bF K F vs H Q E):vs.length=F.ar:=by
 obtain⟨ds,G,Qa,Ea,h1,_,h2,_⟩:=h
 rw[h1.length]
 exact F.len _ _ _ _ h2
def XcOk(P:Program)(w:World)(K:M0)(mg:Str→Option Value)(base:Heap)(k:Nat)(C:Addr)(fl:List Str):Prop :=
 (fl=[]∧PySem.W.excIn K C He.veBase "ValueError.__new__" =true∧PySem.W.keepIn K (.ref C)=true∧PySem.W.subIn K (.ref C) (.type "BaseException")=some true∧PySem.W.typeIn K (.ref C)=some (.type "type"))∨
 (fl≠[]∧fl.length≤900∧OexC K C∧∃a fd ps j,j+1≤k∧PySem.W.findIn K (.ref C) "__init__" =some (some (.ref a))∧PySem.W.typeIn K (.ref a)=some (.type "function")∧FnOk P w K mg base (L2N.CX P w) j a fd ps (Hi K C fl)∧Binds K fd ps [])
def Hj(K:M0)(q:Nat)(L:il)(f:Addr)(cl:List Addr):Sp:=fun vs H Q E=>∃ds G Qa Ea,Rep K H (.ref f) (.clo q cl)∧Reps K H vs ds∧RelG K G H∧L.con cl ds G Qa Ea∧PostE K G H Qa Q∧PostX K G H Ea E
def LamOk(P:Program)(w:World)(K:M0)(mg:Str→Option Value)(base:Heap)(k:Nat)(q:Nat)(L:il):Prop :=
 ∀(f:Addr) (cl:List Addr) (A:Around) (outer:List Env) (s:Shared) (H:Hp) (us:List Value) (vs:List V) (Q:VK) (E:XK),Room k A→Env0 P w K mg base A outer s H→Vals vs us→Hj K q L f cl vs H Q E→
  codeAny (model P w) A (.call (.ref f) ⟨us,[]⟩) (CR (L2N.CX P w) outer P w H s Q E) s
theorem LamOk.mono{P:Program}{w:World}{K:M0}{mg:Str→Option Value}{base:Heap}{j k q:Nat}{L:il}(o:LamOk P w K mg base j q L)(h:j≤k):LamOk P w K mg base k q L:=fun f cl A outer s H us vs Q E hr=>o f cl A outer s H us vs Q E (hr.mono h)
structure TbOk(P:Program)(w:World)(K:M0)(mg:Str→Option Value)(base:Heap)(Γ:Gam)(k:Nat):Prop where
 fn:∀f F,Γ.fn f=some F→∃a fd ps,FnOk P w K mg base (L2N.CX P w) k a fd ps (bF K F)∧mg f=some (.ref a)∧PySem.W.keepIn K (.ref a)=true∧
  ∀m,F.ar≤m+F.dfl.length→m≤F.ar→∃ds dvs,Binds K fd ps ds∧Vals dvs ds∧∀H,Reps K H dvs (F.dfl.drop (m+F.dfl.length - F.ar))
 gl:∀x d,Γ.gl x=some d→∃u v,RelV v u∧(∀H,Rep K H v d)∧(mg x=some u∨(mg x=none∧bootBuiltins x=some u))
 blt:∀f:BF,mg f.nm=none
 at_:∀C f,Γ.at_ C f=true→Cls K (He.ga K C)∧NoAttr K (He.ga K C) f
 ms:∀C m F,Γ.ms C m=some F→∃a fd ps,FnOk P w K mg base (L2N.CX P w) k a fd ps (bF K F)∧Cls K (He.ga K C)∧Meth K (He.ga K C) m a∧
  ∀m,F.ar≤m+1+F.dfl.length→m+1≤F.ar→∃ds dvs,Binds K fd ps ds∧Vals dvs ds∧∀H,Reps K H dvs (F.dfl.drop (m+1+F.dfl.length - F.ar))
 mke:∀C F,Γ.mke C=some F→∃a fd ps j,j+1≤k∧FnOk P w K mg base (L2N.CX P w) j a fd ps (bF K F)∧Mk K (He.ga K C) a∧mg C=some (.ref (He.ga K C))∧
  ∀m,F.ar≤m+1+F.dfl.length→m+1≤F.ar→∃ds dvs,Binds K fd ps ds∧Vals dvs ds∧∀H,Reps K H dvs (F.dfl.drop (m+1+F.dfl.length - F.ar))
 xc:∀C fl,Γ.xc C=some fl→mg C=some (.ref (He.ga K C))∧XcOk P w K mg base k (He.ga K C) fl
 xf:∀C fl,Γ.xc C=some fl→fl≠[]→XfC K (He.ga K C)∧∀f∈fl,PySem.W.findIn K (.ref (He.ga K C)) f=some none
 dc:∀x kvs,Γ.dc x=some kvs→∃d vk,mg x=some (.ref d)∧KdAt K P w d vk∧∀H,KRel K H vk kvs
 fa:∀f F,Γ.fn f=some F→mg f=some (.ref (He.ga K f))
 kt:si K
 lam:∀q L,Γ.lam q=some L→∃j,j+1≤k∧LamOk P w K mg base j q L
 hf:∀f g,Γ.hf f=some g→∃a fd ps,HotFn P w K mg base k a fd ps g∧mg f=some (.ref a)∧PySem.W.keepIn K (.ref a)=true∧Binds K fd ps []
 rng:mg "range" =none
 zip:mg "zip" =none
 enum:mg "enumerate" =none
 cm:∀C m F,Γ.cm C m=some F→∃a fd ps mc,FnOk P w K mg base (L2N.CX P w) k a fd ps (bF K F)∧ClX.CRead K (He.ga K C) mc∧PySem.W.findCls K (.ref (He.ga K C)) mc m=some (.val (.ref a))∧PySem.W.keepIn K (.ref a)=true∧mg C=some (.ref (He.ga K C))∧
  ∀m,F.ar≤m+F.dfl.length→m≤F.ar→∃ds dvs,Binds K fd ps ds∧Vals dvs ds∧∀H,Reps K H dvs (F.dfl.drop (m+F.dfl.length - F.ar))
 mn:∀C m n ks F pm,Γ.mn C m n ks=some (F,pm)→∃a fd ps dvs its,FnOk P w K mg base (L2N.CX P w) k a fd ps (bF K F)∧Cls K (He.ga K C)∧Meth K (He.ga K C) m a∧
  KBn K fd ps (n+1) ks (fun us ws=>jN pm (us++ws++its)) (fun vs zs=>jN pm (vs++zs++dvs))∧∀H,Reps K H dvs F.dfl
theorem D5{k:Nat}{A:Around}(r:Room (k+1) A):Room k A.in1.in1 :=
 ⟨r.hd,by have:=r.dp;show A.depth+3*k+5<_;omega,by have:=r.un;show A.units+1+1+16*k+200<_;omega⟩
theorem TbOk.lamK{P:Program}{w:World}{K:M0}{mg:Str→Option Value}{base:Heap}{Γ:Gam}{k:Nat}(tb:TbOk P w K mg base Γ k)(q:Nat)(L:il)(h:Γ.lam q=some L):LamOk P w K mg base k q L :=
 let ⟨_,hj,lo⟩:=tb.lam q L h
 lo.mono (Nat.le_of_succ_le hj)
structure Oc(X:Cx)(W:WX)(Γ:Gam)(k:Nat):Prop where
 room:Room k X.A
 nd:X.N.Nodup
 calm:X.calm=true
 tk:L2N.Takes X W
 tb:TbOk X.prog X.w X.K X.mg X.base Γ k
section
variable {X:Cx} {W:WX} {Γ:Gam} {k:Nat} {a b c:Expr} {pos p:Pos} {es:List Expr} {w1 w2:aj→AG→AQ→AX→Prop} {wa:aj→AG→(List Dat→AG→Prop)→AX→Prop}
theorem l9{CX:CXT}{f:Addr}{fd:FuncData}{ps:List Str}{sp:Sp}{dvs:List V}{ds:List Value}{E:L2.St→XK}{x:Str}(F:FnOk X.prog X.w X.K X.mg X.base CX k f fd ps sp)(hr:Room k X.A)(hg:Gl X x)(hm:X.mg x=some (.ref f))(hk:PySem.W.keepIn X.K (.ref f)=true)
  (hb:Binds X.K fd ps ds)(hd:Vals dvs ds)(hx:∀σ,PassesAt CX X σ (E σ))(hdb:(x == ("__debug__" : Str))=false):PE X (.Call (.Name x p) [] [] pos) (tCallSD sp dvs E tNil):=by
 refine⟨fun pins s σ H Q I h=>?_⟩
 refine wpAny_Call_Name_kw (ld_glob I hg hm ?_ hdb)
 exact PySem.W.callWith_K0 I.kIn hk (run_fnSD (us:=[]) F hr hb hd (hx σ) I .nil h)
theorem tj(oc:Oc X W Γ k){f:Str}{F:FnE}(hF:Γ.fn f=some F)(hg:Gl X f)(hdb:(f == ("__debug__" : Str))=false)(h1:F.ar≤0+F.dfl.length) :
  PE X (.Call (.Name f p) [] [] pos) (LfE X.K W fun ρ G Q E=>F.con ([]++F.dfl.drop (0+F.dfl.length - F.ar)) G Q E):=by
 obtain⟨a,fd,ps,hok,hm,hk,hbind⟩:=oc.tb.fn f F hF
 obtain⟨ds,dvs,hb,hv,hd⟩:=hbind 0 h1 (Nat.zero_le _)
 exact PE.imp (l9 (E:=WE W) hok oc.room hg hm hk hb hv (fun σ=>L2N.passAt oc.tk σ) hdb) fun σ H Q ⟨ρ,G,Qa,Ea,hE,hG,hw,hp,hx⟩=>⟨_,G,Qa,Ea,hd H,hG,hw,hp,hx⟩
theorem ez{F:FnE}{dvs:List V}{n:Nat}(hd:∀H,Reps X.K H dvs (F.dfl.drop n)){t:TA}(ht:∀σ H Q,LfA X.K W wa σ H Q→t σ H Q)(σ:L2.St)(H:Hp)(Q:VK)
  (h:LfE X.K W (fun ρ G Q E=>wa ρ G (fun ds G1=>F.con (ds++F.dfl.drop n) G1 Q E) E) σ H Q):tCallSD (bF X.K F) dvs (WE W) t σ H Q:=by
 obtain⟨ρ,G,Qa,Ea,hE,hG,hw,hp,hx⟩:=h
 exact ht _ _ _ ⟨ρ,G,_,Ea,hE,hG,hw,fun d G1 v H1 f g r q=>⟨_,G1,Qa,Ea,r.append (hd H1),g,q,fun d' G' v' H' f3=>hp d' G' v' H' (f.trans f3),hx.fra f⟩,hx⟩
theorem At(oc:Oc X W Γ k){f:Str}{F:FnE}(hF:Γ.fn f=some F)(hg:Gl X f)(hdb:(f == ("__debug__" : Str))=false)(h1:F.ar≤(a :: es).length+F.dfl.length)(h2:(a :: es).length≤F.ar)(ha:PA X (a :: es) (LfA X.K W wa))
  (he1:starEach (a :: es) X.env=(false,eval a X.env) :: starEach es X.env)(he2:(backTo pos (starEach es X.env)).any (·.1)=false) :
  PE X (.Call (.Name f p) (a :: es) [] pos) (LfE X.K W fun ρ G Q E=>wa ρ G (fun ds G1=>F.con (ds++F.dfl.drop ((a :: es).length+F.dfl.length - F.ar)) G1 Q E) E):=by
 obtain⟨q,fd,ps,hok,hm,hk,hbind⟩:=oc.tb.fn f F hF
 obtain⟨ds,dvs,hb,hv,hd⟩:=hbind (a :: es).length h1 h2
 exact PE.imp (pe_callSD (E:=WE W) hok oc.room hg hm hk hb hv (fun σ=>L2N.passAt oc.tk σ) ha hdb he1 he2) (ez hd fun _ _ _ z=>z)
theorem AN{CX:CXT}{f C:Addr}{mc:Value}{fd:FuncData}{ps:List Str}{sp:Sp}{dvs:List V}{ds:List Value}{E:L2.St→XK}{x m:Str}{apos:Pos}{pl:Sem Bool}{e:Expr}{t:TA}(F:FnOk X.prog X.w X.K X.mg X.base CX k f fd ps sp)(hr:Room k X.A)(hg:Gl X x)(hm:X.mg x=some (.ref C))(r:ClX.CRead X.K C mc)
  (hc:PySem.W.findCls X.K (.ref C) mc m=some (.val (.ref f)))(hk:PySem.W.keepIn X.K (.ref f)=true)(hb:Binds X.K fd ps ds)(hd:Vals dvs ds)(hx:∀σ,PassesAt CX X σ (E σ))(ha:PA X (e :: es) t)(hdb:(x == ("__debug__" : Str))=false)
  (he:starEach (e :: es) X.env=(false,eval e X.env) :: starEach es X.env)(hpl:(backTo pos (starEach es X.env)).any (·.1)=false)
  (ht:eval (.Call (.Attribute (.Name x p) m apos) (e :: es) [] pos) X.env=(do
   let w ←eval (.Name x p) X.env
   standAt apos.atName
   let (g,one) ←holding [w] (getMethod w m pl)
   callWith pos g one (backTo pos (starEach (e :: es) X.env)) (backToKw pos (keywordEach [] X.env)))) :
  PE X (.Call (.Attribute (.Name x p) m apos) (e :: es) [] pos) (tCallSD sp dvs E t):=by
 refine⟨fun pins s σ H Q I h=>?_⟩
 refine PySem.W.methodCall_KW (pl:=pl) (ld_glob I hg hm ?_ hdb) ht
 refine PySem.W.method_cls I.kIn r.ga (PySem.W.cls_value I.kIn r.rd hc (handed_of (v:=.ref f) rfl) ?_)
 have I2:=I.tok (s.toks+1)
 exact PySem.W.callWith_K (h₀:=X.base) I2.ok.mod.kin hk (thn (ha.run pos pins _ σ H _ I2 h) fun us s1 ⟨vs,H1,I1,r,q⟩=>⟨I1.kIn,run_fnSD F hr hb hd (hx σ) I1 r q⟩) he hpl
theorem td(oc:Oc X W Γ k){C m:Str}{F:FnE}{apos:Pos}{pl:Sem Bool}(hF:Γ.cm C m=some F)(hg:Gl X C)(hdb:(C == ("__debug__" : Str))=false)(h1:F.ar≤(a :: es).length+F.dfl.length)(h2:(a :: es).length≤F.ar)(ha:PA X (a :: es) (LfA X.K W wa))
  (he1:starEach (a :: es) X.env=(false,eval a X.env) :: starEach es X.env)(he2:(backTo pos (starEach es X.env)).any (·.1)=false)
  (ht:eval (.Call (.Attribute (.Name C p) m apos) (a :: es) [] pos) X.env=(do
   let w ←eval (.Name C p) X.env
   standAt apos.atName
   let (g,one) ←holding [w] (getMethod w m pl)
   callWith pos g one (backTo pos (starEach (a :: es) X.env)) (backToKw pos (keywordEach [] X.env)))) :
  PE X (.Call (.Attribute (.Name C p) m apos) (a :: es) [] pos) (LfE X.K W fun ρ G Q E=>wa ρ G (fun ds G1=>F.con (ds++F.dfl.drop ((a :: es).length+F.dfl.length - F.ar)) G1 Q E) E):=by
 obtain⟨q,fd,ps,mc,hok,hr,hc,hk,hm,hbind⟩:=oc.tb.cm C m F hF
 obtain⟨ds,dvs,hb,hv,hd⟩:=hbind (a :: es).length h1 h2
 exact PE.imp (AN (E:=WE W) hok oc.room hg hm hr hc hk hb hv (fun σ=>L2N.passAt oc.tk σ) ha hdb he1 he2 ht) (ez hd fun _ _ _ z=>z)
theorem cj(f:BF):bootBuiltins f.nm=some f.val:=by cases f <;> decide+kernel
theorem mJ(f:BF):f.nm≠("__name__" : Str)∧(f.nm == ("__debug__" : Str))=false:=by cases f <;> exact⟨by decide,by decide⟩
theorem ro{r:List V→Hp→VK→Prop}{rA:List Dat→AG→AQ→Prop}(hA:fo X.K r rA)(σ:L2.St)(H:Hp)(Q:VK)(h:LfE X.K W (fun ρ G Q E=>wa ρ G (fun ds G1=>rA ds G1 Q) E) σ H Q):tCB r (LfA X.K W wa) σ H (Qz Q):=by
 obtain⟨ρ,G,Qa,Ea,hE,hG,hw,hp,hx⟩:=h
 exact⟨ρ,G,_,Ea,hE,hG,hw,fun d G1 v H1 f g r1 q=>hA H1 v d G1 Qa _ r1 g q (bH fun d' G' v' H' f3=>hp d' G' v' H' (f.trans f3)),hx⟩
theorem D0(oc:Oc X W Γ k){z:Bool}{f:BF}(hrp:f = .repr→Cu X)(hg:Gl X f.nm)(ha:PA X (a :: es) (LfA X.K W wa))
  (he1:starEach (a :: es) X.env=(false,eval a X.env) :: starEach es X.env)(he2:(backTo pos (starEach es X.env)).any (·.1)=false) :
  PE X (.Call (.Name f.nm p) (a :: es) [] pos) (LfE X.K W fun ρ G Q E=>wa ρ G (fun ds G1=>aX z f ds G1 Q) E):=by
 obtain⟨r,hc,hA⟩:=Gf X oc.tb.kt oc.calm z f fun e=>⟨hrp e,by have:=oc.room.un;omega⟩
 have h1:=cj f
 have h2:=mJ f
 have h3:=oc.tb.blt f
 cases f <;> first
  |exact PE.imp (fu (pe_callB hc hg h3 h1 ha h2.1 h2.2 he1 he2)) (ro hA)
  |exact PE.imp (fu (pe_callTy hc hg h3 h1 ha h2.1 h2.2 he1 he2)) (ro hA)
theorem oX(X:Cx)(m:MF):∃id r,Slot "list" m.nm id∧typeOf (.builtin id)=pure (.type "method_descriptor")∧MtR X id r∧rY X.K "list" r (bw m):=by
 cases m with
 |append=>exact⟨_,_,F.slot_list_append,rfl,mt_append,jS⟩
 |extend=>exact⟨_,_,F.slot_list_extend,rfl,A6,jR⟩
 |pop=>exact⟨_,_,F.slot_list_pop,rfl,mt_pop,ug⟩
 |popAt=>exact⟨_,_,F.slot_list_pop,rfl,mt_popAt,mf⟩
 |clear=>exact⟨_,_,F.slot_list_clear,rfl,mt_clear,mj⟩
 |reverse=>exact⟨_,_,F.slot_list_reverse,rfl,mt_reverse,iQ⟩
 |insert=>exact⟨_,_,F.slot_list_insert,rfl,mt_insert,jQ⟩
 |count=>exact⟨_,_,F.slot_list_count,rfl,oV,mi⟩
 |index=>exact⟨_,_,F.slot_list_index,rfl,mt_index,mh⟩
theorem jF{K:M0}{G:AG}{H:Hp}{x:V}{d:Dat}(rg:RelG K G H)(r:Rep K H x d)(h:∃ds,ai G d=some ds):tyV K "list" x H:=by
 obtain⟨ds,e⟩:=h
 obtain⟨q,vs,rfl,h3,_⟩:=am rg r e
 exact .inl ⟨rfl,vs,.inl h3⟩
theorem Am{m:MF}{apos:Pos}(h1:PE X b (LfE X.K W w1))(ha:PA X (a :: es) (LfA X.K W wa))
  (hbase:attributeBase b m.nm X.env (eval b X.env)=eval b X.env)
  (hfew:((backTo pos (starEach (a :: es) X.env)).all (fun x=>!x.1) && (backToKw pos (keywordEach [] X.env)).all (fun x=>x.1.isSome)
   && decide ((a :: es).length+([]:List Keyword).length+(if ([]:List Keyword).isEmpty then 0 else 1)<30))=true)
  (hline:(apos.endLine == pos.line)=true)(he1:starEach (a :: es) X.env=(false,eval a X.env) :: starEach es X.env)(he2:(backTo pos (starEach es X.env)).any (·.1)=false) :
  PE X (.Call (.Attribute b m.nm apos) (a :: es) [] pos) (LfE X.K W fun ρ G Q E=>w1 ρ G (fun x G1=>(∃ds,ai G1 x=some ds)∧wa ρ G1 (fun ds G2=>bw m x ds G2 Q) E) E):=by
 obtain⟨id,r,k1,k2,k3,k4⟩:=oX X m
 refine PE.imp (pe_bm F.plainAttrs_list k1 k2 k3 h1 ha hbase hfew hline he1 he2) ?_
 rintro σ H Q ⟨ρ,G,Qa,Ea,hE,hG,hw,hp,hx⟩
 refine⟨ρ,G,_,Ea,hE,hG,hw,fun d G1 v H1 f g r1 q=>⟨jF g r1 q.1,ρ,G1,_,Ea,hE.mono (f.stab hG),g,q.2,fun e G2 u H2 f2 g2 r2 q2=>?_,hx.fra f⟩,hx⟩
 exact k4 H2 v d u e G2 Qa Q (r1.mono (f2.stab g)) r2 g2 q2 fun d' G' v' H' f3=>hp d' G' v' H' ((f.trans f2).trans f3)
theorem sP{m:MF}{apos:Pos}(h1:PE X b (LfE X.K W w1))(hbase:attributeBase b m.nm X.env (eval b X.env)=eval b X.env)(hline:(apos.endLine == pos.line)=true) :
  PE X (.Call (.Attribute b m.nm apos) [] [] pos) (LfE X.K W fun ρ G Q E=>w1 ρ G (fun x G1=>(∃ds,ai G1 x=some ds)∧bw m x [] G1 Q) E):=by
 obtain⟨id,r,k1,k2,k3,k4⟩:=oX X m
 refine PE.imp (pe_bm0 F.plainAttrs_list k1 k2 k3 h1 hbase hline) ?_
 rintro σ H Q ⟨ρ,G,Qa,Ea,hE,hG,hw,hp,hx⟩
 refine⟨ρ,G,_,Ea,hE,hG,hw,fun d G1 v H1 f g r1 q=>⟨jF g r1 q.1,?_⟩,hx⟩
 exact k4 H1 v d [] [] G1 Qa Q r1 .nil g q.2 fun d' G' v' H' f3=>hp d' G' v' H' (f.trans f3)
theorem A5:MtR X "tuple.index" (fun x xs H Q=>∃(p:Addr) (ys:List V) (y:V) (j:Nat) (z:V),x = .ref p∧xs=[y]∧SqT X.K H p ys∧flatV y=true∧ys.all flatV=true∧ys[j]?=some z∧eqV z y=true∧(∀m w,m<j→ys[m]?=some w→eqV w y=false)∧Q (.int (j:Nat)) H):=by
 intro pins s σ H x xs v us Q I rx rs h
 obtain⟨p,ys,y,j,z,rfl,rfl,hq,fy,fys,hz,hzj,hno,q⟩:=h
 cases rx
 obtain⟨uy,rfl,ry⟩:=vals1 rs
 obtain⟨its,rv,pl,hl⟩:=I.tuple hq
 obtain⟨⟨cls,dd,dt,sl⟩,ho,hc,n,hd⟩:=pl
 simp only at hc hd
 subst hc
 subst hd
 obtain⟨u,hu,ru⟩:=rv.get hz
 obtain⟨hjl,hje⟩:=List.getElem?_eq_some_iff.mp hu
 have hvl:=rv.length
 have hj:j<its.toArray.size:=by simpa using hjl
 refine call_meets PySem.F.slot_tuple_index ⟨_,ho,rfl⟩ PySem.F.entry_tuple_index (PySem.F.args_tuple_index_2 _ _) (TI.tuple_indexAt p its.toArray n dd sl uy (eqU y) j hj ?_ ?_)
  ⟨ho,fun u' hu'=>mem_eqAt ry fy rv fys u' (by simpa using hu'),?_⟩
 ·have e1:its.toArray[j]=u:=by simpa using hje
  rw[e1,eqU_of ru (flat_at fys hz)]
  exact hzj
 ·intro m hm hmj
  have hml:m<its.length:=by simpa using hm
  have hmy:m<ys.length:=by omega
  have hy':ys[m]?=some ys[m]:=Me hmy
  obtain⟨u2,hu2,ru2⟩:=rv.get hy'
  obtain⟨_,hme⟩:=List.getElem?_eq_some_iff.mp hu2
  have e1:its.toArray[m]=u2:=by simpa using hme
  rw[e1,eqU_of ru2 (flat_at fys hy')]
  exact hno m _ hmj hy'
 ·exact⟨.int (j:Nat),H,I.tok _,⟨_,rfl⟩,q⟩
theorem tO{o e:Expr}{to:TE}{t:TA}{name:Str}{apos cpos:Pos}{id:String}{r:V→List V→Hp→VK→Prop}(slot:Slot "tuple" name id)(hty:typeOf (.builtin id)=pure (.type "method_descriptor"))(hm:MtR X id r)(ho:PE X o to)(ha:PA X (e :: es) t)
  (hbase:attributeBase o name X.env (eval o X.env)=eval o X.env)
  (hfew:((backTo cpos (starEach (e :: es) X.env)).all (fun x=>!x.1) && (backToKw cpos (keywordEach [] X.env)).all (fun x=>x.1.isSome)
   && decide ((e :: es).length+([]:List Keyword).length+(if ([]:List Keyword).isEmpty then 0 else 1)<30))=true)
  (hline:(apos.endLine == cpos.line)=true)(hs:starEach (e :: es) X.env=(false,eval e X.env) :: starEach es X.env)(hplain:(backTo cpos (starEach es X.env)).any (·.1)=false) :
  PE X (.Call (.Attribute o name apos) (e :: es) [] cpos) (fun σ H Q=>to σ H fun x H1=>(∃(p:Addr) (ob:Obj) (ys:List V),x = .ref p∧H1 p=some (.frz ob (.tup ys))∧ob.dict=none)∧t σ H1 fun xs H2=>r x xs H2 Q):=by
 refine⟨fun pins s σ H Q I h=>?_⟩
 refine wpAny_Call_method_late hbase hfew hline rfl (thn (ho.run pins s σ H _ I h) fun v s1 ⟨x,H1,I1,r1,ty,q1⟩=>?_)
 obtain⟨p,ob,ys,rfl,hH,hd⟩:=ty
 cases (show v=Value.ref p from r1)
 obtain⟨h0,_,its,rv,⟨o2,h3,h4,_⟩⟩:=(show ObjOk X.prog X.w H1 s1.heap p (.frz ob (.tup ys)) from I1.hok p _ hH)
 refine⟨"tuple",id,F.plainAttrs_tuple,slot,hty,⟨o2,h3,h4⟩,fun a e=>by cases e;exact⟨ob,h0,hd⟩,?_⟩
 have hA:=ha.run cpos pins s1 σ H1 _ I1 q1
 rw[hs]at hA ⊢
 refine Calls.callWith_builtin (by show (false|| (backTo cpos (starEach es X.env)).any (·.1))=false;rw[hplain] <;> rfl) (Calls.evalArgs_plain ?_)
 exact thn hA fun us s2 ⟨vs,H2,I2,r2,q2⟩=>hm pins s2 σ H2 (.ref p) vs (.ref p) us Q I2 rfl r2 q2
theorem Ah{apos:Pos}(h1:PE X b (LfE X.K W w1))(h2:PE X a (LfE X.K W w2))(hbase:attributeBase b "index" X.env (eval b X.env)=eval b X.env)
  (hfew:((backTo pos (starEach [a] X.env)).all (fun x=>!x.1) && (backToKw pos (keywordEach [] X.env)).all (fun x=>x.1.isSome)
   && decide ([a].length+([]:List Keyword).length+(if ([]:List Keyword).isEmpty then 0 else 1)<30))=true)
  (hline:(apos.endLine == pos.line)=true)(he1:starEach [a] X.env=(false,eval a X.env) :: starEach [] X.env) :
  PE X (.Call (.Attribute b "index" apos) [a] [] pos) (LfE X.K W fun ρ G Q E=>w1 ρ G (fun x G1=>(∃ds,x = .ktp ds)∧w2 ρ G1 (fun y G2=>su x y G2 Q) E) E):=by
 refine PE.imp (tO F.slot_tuple_index rfl A5 h1 (pa_cons h2 pa_nil he1) hbase hfew hline he1 (by rfl)) ?_
 rintro σ H Q ⟨ρ,G,Qa,Ea,hE,hG,hw,hp,hx⟩
 refine⟨ρ,G,_,Ea,hE,hG,hw,fun d G1 v H1 f g r1 q=>?_,hx⟩
 obtain⟨⟨ds,rfl⟩,q⟩:=q
 cases r1 with
 |ktp hk hr =>
  obtain⟨ob,hk,hd⟩:=hk
  refine⟨⟨_,ob,_,rfl,hk,hd⟩,ρ,G1,_,Ea,hE.mono (f.stab hG),g,q,fun e G2 u H2 f2 g2 r2 q2=>?_,hx.fra f⟩
  obtain⟨ds',j,d,e1,h2,h3,h7,h8,h9,h4⟩:=q2
  cases e1
  have st:=f2.stab g
  obtain⟨rfl,f1⟩:=bg r2 h2
  obtain⟨rfl,f2'⟩:=cf (hr.mono st) h3
  refine⟨_,_,_,j,toV d,rfl,rfl,.inl (.inr ⟨ob,st.fzt _ _ _ hk⟩),f1,f2',by rw[Mg,h7];rfl,h8,fun m z hm hz=>?_,hp _ _ _ _ (f.trans f2) g2 (.int _) h4⟩
  rw[Mg]at hz
  cases q:ds[m]? with
  |none=>rw[q]at hz;cases hz
  |some d'=>rw[q]at hz;cases hz;exact h9 m d' hm q
theorem DJ(h1:PE X a (LfE X.K W w1))(h2:PE X a (LfE X.K W w2)):PE X a (LfE X.K W fun ρ G Q E=>w1 ρ G Q E∨w2 ρ G Q E):=⟨fun pins s σ H Q I t=>by
 obtain⟨ρ,G,Qa,Ea,hE,hG,hw,rest⟩:=t
 rcases hw with hw|hw
 ·exact h1.run _ _ _ _ _ I ⟨ρ,G,Qa,Ea,hE,hG,hw,rest⟩
 ·exact h2.run _ _ _ _ _ I ⟨ρ,G,Qa,Ea,hE,hG,hw,rest⟩⟩
theorem DR(h1:PE X a (LfE X.K W w1)):PE X a (LfE X.K W fun ρ G Q E=>w1 ρ G (fun x G1=>IM x G1 Q) E):=by
 refine PE.imp h1 ?_
 rintro σ H Q ⟨ρ,G,Qa,Ea,hE,hG,hw,hp,hx⟩
 refine⟨ρ,G,_,Ea,hE,hG,hw,fun d G1 v H1 f g r1 q=>?_,hx⟩
 cases d with
 |ktp ds =>
  cases r1 with
  |ktp hk hr =>
   obtain⟨ob,hk,_⟩:=hk
   exact hp _ _ _ _ f g (.tup (.inr (.inl ⟨ob,hk⟩)) hr) q
 |_=>exact False.elim q
theorem DT(oc:Oc X W Γ k){x:Str}(hg:Gl X x)(hn:x≠"__name__")(hd:(x == ("__debug__" : Str))=false):PE X (.Name x pos) (LfE X.K W fun ρ G Q _=>match Γ.gl x with|some d=>Q d G|none=>False):=by
 refine⟨fun pins s σ H Q I ⟨ρ,G,Qa,Ea,hE,hG,hw,hp,hx⟩=>?_⟩
 cases e:Γ.gl x with
 |none=>rw[e]at hw;exact False.elim hw
 |some d =>
  rw[e]at hw
  obtain⟨u,v,rv,rd,h⟩:=oc.tb.gl x d e
  rcases h with h|⟨h,h'⟩
  ·exact ld_glob I hg h ⟨v,H,I,rv,hp d G v H .refl hG (rd H) hw⟩ hd
  ·exact ld_blt I hg h h' ⟨v,H,I,rv,hp d G v H .refl hG (rd H) hw⟩ hn hd
end
end Av
namespace Av
def ItB(t:Bool)(h:Heap)(i l:Addr)(k:Nat):Prop:=if t then h.IsTupleIter i l k else h.IsListIter i l k
def SqB(t:Bool)(h:Heap)(l:Addr)(xs:Array Value):Prop:=if t then h.IsTuple l xs else h.IsList l xs
def SqK(t:Bool)(K:M0)(H:Hp)(a:Addr)(xs:List V):Prop:=if t then SqT K H a xs else SqL K H a xs
theorem ItB.at{t:Bool}{h h':Heap}{i l:Addr}{k:Nat}(x:ItB t h i l k)(e:∀o,h.get? i=some o→h'.get? i=some o):ItB t h' i l k:=by
 cases t
 ·exact Heap.IsListIter.at x e
 ·exact Heap.IsTupleIter.at x e
theorem ItB.obj{t:Bool}{h:Heap}{i l:Addr}{k:Nat}(x:ItB t h i l k):∃o,h.get? i=some o∧∀v,o.data≠.cell v:=by
 cases t
 ·obtain⟨o,e,_,d⟩:=x
  exact⟨o,e,fun v q=>by rw[d]at q;cases q⟩
 ·obtain⟨o,e,_,d⟩:=x
  exact⟨o,e,fun v q=>by rw[d]at q;cases q⟩
theorem SqB.at{t:Bool}{h h':Heap}{l:Addr}{xs:Array Value}(x:SqB t h l xs)(e:∀o,h.get? l=some o→h'.get? l=some o):SqB t h' l xs:=by
 cases t
 ·exact Heap.IsList.at x e
 ·exact Heap.IsTuple.at x e
theorem SqB.lt{t:Bool}{h:Heap}{l:Addr}{xs:Array Value}(x:SqB t h l xs):l<h.objs.size:=by
 cases t
 ·obtain⟨o,e,_⟩:=x
  exact Heap.lt_size e
 ·obtain⟨o,e,_⟩:=x
  exact Heap.lt_size e
section
variable {prog:Program} {w:World} {A:Around} {E:Value→Shared→Prop} {s:Shared}
theorem kW{t:Bool}{i l:Addr}{k:Nat}{xs:Array Value}{x:Value}{Q:Value→Shared→Prop}(hi:ItB t s.heap i l k)(hl:SqB t s.heap l xs)(hx:xs[k]?=some x)
  (hQ:∀h',ItB t h' i l (k+1)→Heap.SameBut i s.heap h'→Q x {s with heap:=h'}):wpAny (model prog w) A (Builtin.SmallTypes.nextOf (.ref i)) Q E s:=by
 cases t
 ·exact wpAny_nextOf_list_item hi hl hx hQ
 ·exact RZ.nextOf_tuple_item hi hl hx hQ
theorem oO{t:Bool}{i l:Addr}{k:Nat}{xs:Array Value}{Q:Value→Shared→Prop}(hh:A.handled=none)(hi:ItB t s.heap i l k)(hl:SqB t s.heap l xs)(hx:xs[k]?=none)
  (hE:∀h' e,Heap.ExtBut i s.heap h'→(∃o,h'.get? e=some o∧o.cls = .type "StopIteration")→E (.ref e) {s with heap:=h'}):wpAny (model prog w) A (Builtin.SmallTypes.nextOf (.ref i)) Q E s:=by
 cases t
 ·exact wpAny_nextOf_list_end hh hi hl hx hE
 ·exact RZ.nextOf_tuple_end hh hi hl hx hE
variable {z T1 T2 i1 i2 l1 l2:Addr} {k1 k2:Nat} {t u:Bool} {xs ys:Array Value} {x y a b:Value}
def jx(h h':Heap)(z T2 i1 i2:Addr):Prop:=∀c o,c≠z→c≠T2→c≠i1→c≠i2→h.get? c=some o→h'.get? c=some o
theorem CS{Q:Fin→Shared→Prop}(D:ZipApart z T1 T2 i1 i2 l1 l2)(hz:IsZip s.heap z T1 T2 .none)(h1:IsPair s.heap T1 (.ref i1) (.ref i2))(h2:IsPair s.heap T2 a b)
  (p:ItB t s.heap i1 l1 k1)(q:ItB u s.heap i2 l2 k2)(pl:SqB t s.heap l1 xs)(ql:SqB u s.heap l2 ys)
  (item:∀x y,xs[k1]?=some x→ys[k2]?=some y→∀h',IsZip h' z T1 T2 (rawInt s.heap.objs.size)→IsPair h' T2 x y→ItB t h' i1 l1 (k1+1)→ItB u h' i2 l2 (k2+1)→IsPair h' s.heap.objs.size x y→h'.objs.size=s.heap.objs.size+1→
   jx s.heap h' z T2 i1 i2→Q (.done (.ret (.ref s.heap.objs.size))) {s with heap:=h'})
  (hend:xs[k1]?=none∨ys[k2]?=none→A.handled=none∧∀h' e,jx s.heap h' z T2 i1 i2→(∃o,h'.get? e=some o∧o.cls = .type "StopIteration")→E (.ref e) {s with heap:=h'}) :
  wpAny (model prog w) A (Builtin.«zip.__next__» ⟨[.ref z],[]⟩) Q E s:=by
 show wpAny _ _ (field (.ref z) 2 >>=_) _ _ _
 refine wpAny_bind (wpAny_field hz rfl (x:=.bool false) rfl ?_)
 show wpAny _ _ (field (.ref z) 3 >>=_) _ _ _
 refine wpAny_bind (wpAny_field hz rfl (x:=.ref T1) rfl ?_)
 refine wpAny_bind (wpAny_seqItems h1 rfl ?_)
 show wpAny _ _ (Builtin.SmallTypes.ownedTupleIsFree (.ref z) >>=_) _ _ _
 refine wpAny_bind ?_
 unfold Builtin.SmallTypes.ownedTupleIsFree
 refine wpAny_bind (wpAny_field hz rfl (x:=.none) rfl (wpAny_pure ?_))
 simp only[if_true]
 refine wpAny_bind (wpAny_rule ?_)
 refine wpAny_bind (wpAny_field hz rfl (x:=.ref T2) rfl ?_)
 refine wpAny_bind (wpAny_setField_rec hz (by simp) fun ha za sa=>?_)
 replace za:IsZip ha z T1 T2 .ellipsis:=za
 have ea:=sa.extBut
 refine wpAny_bind ?_
 simp only[List.zipIdx_cons,List.zipIdx_nil,List.forIn_cons,List.forIn_nil]
 refine wpAny_bind (wpAny_bind (wpAny_onRaise ?_))
 show wpAny _ _ (Builtin.SmallTypes.nextOf (.ref i1) >>=_) _ _ _
 have pa:ItB t ha i1 l1 k1:=p.at fun o e=>ea _ _ D.i1z e
 have pla:SqB t ha l1 xs:=pl.at fun o e=>ea _ _ D.l1z e
 have qa:ItB u ha i2 l2 k2:=q.at fun o e=>ea _ _ D.i2z e
 have qla:SqB u ha l2 ys:=ql.at fun o e=>ea _ _ D.l2z e
 cases hx:xs[k1]? with
 |none =>
  obtain⟨hh,hE⟩:=hend (.inl hx)
  refine wpAny_bind (oO hh pa pla hx fun hb e eb ⟨oe,ho,hc⟩=>?_)
  have zb:IsZip hb z T1 T2 .ellipsis:=eb _ _ D.i1z.symm za
  have ne:e≠z:=fun w'=>by rw[w',zb]at ho;cases ho;simp at hc
  refine wpAny_setField_rec zb (by simp) fun hd _ sd=>hE hd e (fun c o c1 _ c3 _ g=>sd.extBut _ _ c1 (eb _ _ c3 (ea _ _ c1 g))) ⟨oe,sd.extBut _ _ ne ho,hc⟩
 |some x =>
  refine wpAny_bind (kW pa pla hx fun hb pb sb=>wpAny_pure ?_)
  have eb:=sb.extBut
  have g2b:IsPair hb T2 a b:=eb _ _ D.TOi1 (ea _ _ D.TOz h2)
  refine wpAny_bind (wpAny_seqItems g2b rfl ?_)
  refine wpAny_bind (wpAny_updateSeq_pair g2b fun hc g2c sc=>?_)
  replace g2c:IsPair hc T2 x b:=g2c
  have ec:=sc.extBut
  refine wpAny_bind (wpAny_letGo (wpAny_pure ?_))
  refine wpAny_bind (wpAny_bind (wpAny_onRaise ?_))
  show wpAny _ _ (Builtin.SmallTypes.nextOf (.ref i2) >>=_) _ _ _
  have qc:ItB u hc i2 l2 k2:=qa.at fun o e=>ec _ _ D.TOi2.symm (eb _ _ D.i12.symm e)
  have qlc:SqB u hc l2 ys:=qla.at fun o e=>ec _ _ D.l2TO (eb _ _ D.l2i1 e)
  have kc:∀c o,c≠z→c≠T2→c≠i1→s.heap.get? c=some o→hc.get? c=some o:=fun c o c1 c2 c3 g=>ec _ _ c2 (eb _ _ c3 (ea _ _ c1 g))
  have zc:IsZip hc z T1 T2 .ellipsis:=ec _ _ D.TOz.symm (eb _ _ D.i1z.symm za)
  cases hy:ys[k2]? with
  |none =>
   obtain⟨hh,hE⟩:=hend (.inr hy)
   refine wpAny_bind (oO hh qc qlc hy fun hd e ed ⟨oe,ho,hcl⟩=>?_)
   have zd:IsZip hd z T1 T2 .ellipsis:=ed _ _ D.i2z.symm zc
   have ne:e≠z:=fun w'=>by rw[w',zd]at ho;cases ho;simp at hcl
   refine wpAny_setField_rec zd (by simp) fun hf _ sf=>hE hf e (fun c o c1 c2 c3 c4 g=>sf.extBut _ _ c1 (ed _ _ c4 (kc c o c1 c2 c3 g))) ⟨oe,sf.extBut _ _ ne ho,hcl⟩
  |some y =>
   refine wpAny_bind (kW qc qlc hy fun hd qd sd=>wpAny_pure ?_)
   have ed:=sd.extBut
   have g2d:IsPair hd T2 x b:=ed _ _ D.TOi2 g2c
   refine wpAny_bind (wpAny_seqItems g2d rfl ?_)
   refine wpAny_bind (wpAny_updateSeq_pair g2d fun hf g2f sf=>?_)
   replace g2f:IsPair hf T2 x y:=g2f
   have ef:=sf.extBut
   refine wpAny_bind (wpAny_letGo (wpAny_pure (wpAny_pure ?_)))
   refine wpAny_bind (wpAny_seqItems g2f rfl ?_)
   refine wpAny_bind (wpAny_newTuple ?_)
   have sz:hf.objs.size=s.heap.objs.size:=by rw[sf.1,sd.1,sc.1,sb.1,sa.1]
   have zf:IsZip hf z T1 T2 .ellipsis:=ef _ _ D.TOz.symm (ed _ _ D.i2z.symm zc)
   have kf:jx s.heap hf z T2 i1 i2:=fun c o c1 c2 c3 c4 g=>ef _ _ c2 (ed _ _ c4 (kc c o c1 c2 c3 g))
   have pf:ItB t hf i1 l1 (k1+1):=pb.at fun o e=>ef _ _ D.TOi1.symm (ed _ _ D.i12 (ec _ _ D.TOi1.symm e))
   have qf:ItB u hf i2 l2 (k2+1):=qd.at fun o e=>ef _ _ D.TOi2.symm e
   have zl:z<hf.objs.size:=Heap.lt_size zf
   show wpAny _ _ (Builtin.SmallTypes.ownedTupleHandOut (.ref z) (.ref hf.objs.size) >>=_) _ _ _
   refine wpAny_bind ?_
   unfold Builtin.SmallTypes.ownedTupleHandOut
   have zg:IsZip (hf.push {cls:=.type "tuple",data:=.seq #[x,y]}) z T1 T2 .ellipsis:=Heap.get?_push_of_some _ zf
   refine wpAny_bind (wpAny_setField_rec zg (by simp) fun hm zm sm=>?_)
   replace zm:IsZip hm z T1 T2 (rawInt hf.objs.size):=zm
   refine wpAny_setField_rec zm (by simp) fun hn zn sn=>?_
   replace zn:IsZip hn z T1 T2 (rawInt hf.objs.size):=zn
   have up:∀c o,c≠z→hf.get? c=some o→hn.get? c=some o:=fun c o c1 e=>sn.extBut _ _ c1 (sm.extBut _ _ c1 (Heap.get?_push_of_some _ e))
   have gn:IsPair hn hf.objs.size x y:=sn.extBut _ _ (Nat.ne_of_gt zl) (sm.extBut _ _ (Nat.ne_of_gt zl) (Heap.get?_push_size _ rfl))
   have szn:hn.objs.size=hf.objs.size+1:=by rw[sn.1,sm.1,Heap.size_push]
   rw[sz]at zn gn szn
   refine wpAny_pure ?_
   show Q (.done (.ret (.ref hf.objs.size))) _
   rw[sz]
   exact item x y hx hy hn zn (up _ _ D.TOz g2f) (pf.at fun o e=>up _ o D.i1z e) (qf.at fun o e=>up _ o D.i2z e) gn szn fun c o c1 c2 c3 c4 e=>up c o c1 (kf c o c1 c2 c3 c4 e)
theorem xH{Q:Option Value→Shared→Prop}(D:ZipApart z T1 T2 i1 i2 l1 l2)(hz:IsZip s.heap z T1 T2 .none)(h1:IsPair s.heap T1 (.ref i1) (.ref i2))(h2:IsPair s.heap T2 a b)
  (p:ItB t s.heap i1 l1 k1)(q:ItB u s.heap i2 l2 k2)(pl:SqB t s.heap l1 xs)(ql:SqB u s.heap l2 ys)(hx:xs[k1]?=some x)(hy:ys[k2]?=some y)
  (hQ:∀h',IsZip h' z T1 T2 (rawInt s.heap.objs.size)→IsPair h' T2 x y→ItB t h' i1 l1 (k1+1)→ItB u h' i2 l2 (k2+1)→IsPair h' s.heap.objs.size x y→h'.objs.size=s.heap.objs.size+1→
   jx s.heap h' z T2 i1 i2→Q (some (.ref s.heap.objs.size)) {s with heap:=h'}) :
  wpAny (model prog w) A (pyNext (.ref z)) Q E s:=by
 have hT:s.TypeIs (.ref z) "zip" := ⟨_,hz,rfl⟩
 unfold pyNext
 refine wpAny_bind (wpAny_attempt (wpAny_callSpecial?_slot (name:=Str.ofString "__next__") hT F.slot_zip_next
  (wpAny_call_entry F.slot_zip_next hT F.entry_zip_next
   (CS D hz h1 h2 p q pl ql (fun x' y' ex ey h' b1 b2 b3 b4 b5 b6 b7=>?_) fun e=>?_) (F.args_zip_next_1 _))))
 ·rw[hx]at ex
  rw[hy]at ey
  cases ex
  cases ey
  exact⟨_,rfl,wpAny_pure (hQ h' b1 b2 b3 b4 b5 b6 b7)⟩
 ·rw[hx,hy]at e
  rcases e with e|e <;> cases e
theorem CT{Q:Option Value→Shared→Prop}(hh:A.handled=none)(D:ZipApart z T1 T2 i1 i2 l1 l2)(hz:IsZip s.heap z T1 T2 .none)(h1:IsPair s.heap T1 (.ref i1) (.ref i2))(h2:IsPair s.heap T2 a b)
  (p:ItB t s.heap i1 l1 k1)(q:ItB u s.heap i2 l2 k2)(pl:SqB t s.heap l1 xs)(ql:SqB u s.heap l2 ys)(hend:xs[k1]?=none∨ys[k2]?=none)
  (hQ:∀h',jx s.heap h' z T2 i1 i2→Q none {s with heap:=h'}):wpAny (model prog w) A (pyNext (.ref z)) Q E s:=by
 have hT:s.TypeIs (.ref z) "zip" := ⟨_,hz,rfl⟩
 unfold pyNext
 refine wpAny_bind (wpAny_attempt (wpAny_callSpecial?_slot (name:=Str.ofString "__next__") hT F.slot_zip_next
  (wpAny_call_entry F.slot_zip_next hT F.entry_zip_next (CS D hz h1 h2 p q pl ql (fun x' y' ex ey=>?_) fun _=>⟨hh,fun h' e hk ⟨o,ho,hc⟩=>?_⟩) (F.args_zip_next_1 _))))
 ·rw[ex,ey]at hend
  rcases hend with e|e <;> cases e
 ·refine wpAny_bind (wpAny_isInstance (T := "StopIteration") (b:=true) ⟨o,ho,hc⟩ isSubtype_stop ?_)
  exact wpAny_pure (hQ _ hk)
end
def itC(t:Bool):String:=if t then "tuple_iterator" else "list_iterator"
abbrev zpA(t:Bool)(h:Heap)(l:Addr):Heap:=h.push {cls:=.type (itC t),data:=.fields #[.ref l,.int 0 0]}
abbrev zpB(t u:Bool)(h:Heap)(l m:Addr):Heap:=(zpA t h l).push {cls:=.type (itC u),data:=.fields #[.ref m,.int 0 0]}
abbrev zpC(t u:Bool)(h:Heap)(l m:Addr):Heap:=(zpB t u h l m).push {cls:=.type "tuple",data:=.seq #[.ref h.objs.size,.ref (zpA t h l).objs.size]}
abbrev zpD(t u:Bool)(h:Heap)(l m:Addr):Heap:=(zpC t u h l m).push {cls:=.type "tuple",data:=.seq #[.none,.none]}
abbrev zpE(t u:Bool)(h:Heap)(l m:Addr):Heap:=(zpD t u h l m).push {cls:=.type "zip",data:=.fields #[.none,.bool false,.bool false,.ref (zpB t u h l m).objs.size,.ref (zpC t u h l m).objs.size]}
theorem CQ(t u:Bool)(l m:Addr)(xs ys:Array Value) :
  Meets (Builtin.«zip.__new__» ⟨[.type "zip",.ref l,.ref m],[]⟩) (fun _ R s=>SqB t s.heap l xs∧SqB u s.heap m ys∧R (.ok (.ret (.ref (zpD t u s.heap l m).objs.size))) {s with heap:=zpE t u s.heap l m}) :=
 .of_wp fun prog w A R s h=>by
  obtain⟨hp,g,d,tk,os⟩:=s
  obtain⟨hl,hm,h⟩:=h
  have hsub:=sub_zip
  cases t
  ·have L1:Heap.IsList (Shared.heap ⟨hp,g,d,tk,os⟩) l xs:=hl
   cases u
   ·have L2:Heap.IsList (Shared.heap ⟨hp.push {cls:=.type "list_iterator",data:=.fields #[.ref l,.int 0 0]},g,d,tk,os⟩) m ys:=Heap.IsList.push hm _
    wp_walk using wpAny_pyIter_list L1,wpAny_pyIter_list L2
    exact⟨_,rfl,h⟩
   ·have L2:Heap.IsTuple (Shared.heap ⟨hp.push {cls:=.type "list_iterator",data:=.fields #[.ref l,.int 0 0]},g,d,tk,os⟩) m ys:=Heap.IsTuple.push hm _
    wp_walk using wpAny_pyIter_list L1,wpAny_pyIter_tuple L2
    exact⟨_,rfl,h⟩
  ·have L1:Heap.IsTuple (Shared.heap ⟨hp,g,d,tk,os⟩) l xs:=hl
   cases u
   ·have L2:Heap.IsList (Shared.heap ⟨hp.push {cls:=.type "tuple_iterator",data:=.fields #[.ref l,.int 0 0]},g,d,tk,os⟩) m ys:=Heap.IsList.push hm _
    wp_walk using wpAny_pyIter_tuple L1,wpAny_pyIter_list L2
    exact⟨_,rfl,h⟩
   ·have L2:Heap.IsTuple (Shared.heap ⟨hp.push {cls:=.type "tuple_iterator",data:=.fields #[.ref l,.int 0 0]},g,d,tk,os⟩) m ys:=Heap.IsTuple.push hm _
    wp_walk using wpAny_pyIter_tuple L1,wpAny_pyIter_tuple L2
    exact⟨_,rfl,h⟩
theorem pN{t:Bool}{h:Heap}{i l:Addr}(e:h.get? i=some {cls:=.type (itC t),data:=.fields #[.ref l,.int 0 0]}):ItB t h i l 0:=by
 cases t
 ·exact⟨_,e,rfl,rfl⟩
 ·exact⟨_,e,rfl,rfl⟩
theorem xI{prog:Program}{w:World}{A:Around}{E:Value→Shared→Prop}{s:Shared}{t u:Bool}{l m:Addr}{xs ys:Array Value}{Q:Value→Shared→Prop}(hl:SqB t s.heap l xs)(hm:SqB u s.heap m ys)
  (h:∀h',IsZip h' (s.heap.objs.size+4) (s.heap.objs.size+2) (s.heap.objs.size+3) .none→IsPair h' (s.heap.objs.size+2) (.ref s.heap.objs.size) (.ref (s.heap.objs.size+1))→
   IsPair h' (s.heap.objs.size+3) .none .none→ItB t h' s.heap.objs.size l 0→ItB u h' (s.heap.objs.size+1) m 0→
   (∀c o,s.heap.get? c=some o→h'.get? c=some o)→Q (.ref (s.heap.objs.size+4)) {s with heap:=h'}) :
  wpAny (model prog w) A (call (.type "zip") [.ref l,.ref m]) Q E s:=by
 refine callType_new F.called_zip (by decide) (F.typeCall_zip_2 _ _) (F.newCall_zip_2 _ _) (fun obj=>F.args_object_init_3 obj _ _) F.entry_zip_new (CQ t u l m xs ys) ⟨hl,hm,?_⟩
 have e1:(zpA t s.heap l).objs.size=s.heap.objs.size+1:=Heap.size_push ..
 have e2:(zpB t u s.heap l m).objs.size=s.heap.objs.size+2:=by rw[Heap.size_push,e1]
 have e3:(zpC t u s.heap l m).objs.size=s.heap.objs.size+3:=by rw[Heap.size_push,e2]
 have e4:(zpD t u s.heap l m).objs.size=s.heap.objs.size+4:=by rw[Heap.size_push,e3]
 have g5:(zpE t u s.heap l m).get? (zpD t u s.heap l m).objs.size=some _:=Heap.get?_push_size _ rfl
 have g4:(zpE t u s.heap l m).get? (zpC t u s.heap l m).objs.size=some _:=Heap.get?_push_of_some _ (Heap.get?_push_size _ rfl)
 have g3:(zpE t u s.heap l m).get? (zpB t u s.heap l m).objs.size=some _:=Heap.get?_push_of_some _ (Heap.get?_push_of_some _ (Heap.get?_push_size _ rfl))
 have g2:(zpE t u s.heap l m).get? (zpA t s.heap l).objs.size=some _:=Heap.get?_push_of_some _ (Heap.get?_push_of_some _ (Heap.get?_push_of_some _ (Heap.get?_push_size _ rfl)))
 have g1:(zpE t u s.heap l m).get? s.heap.objs.size=some _:=Heap.get?_push_of_some _ (Heap.get?_push_of_some _ (Heap.get?_push_of_some _ (Heap.get?_push_of_some _ (Heap.get?_push_size _ rfl))))
 show _∧_
 rw[e2,e3,e4]at g5
 rw[e1,e2]at g3
 rw[e3]at g4
 rw[e1]at g2
 rw[e4]
 exact⟨⟨_,g5,rfl⟩,h _ g5 g3 g4 (pN g1) (pN g2) fun c o x =>
  Heap.get?_push_of_some _ (Heap.get?_push_of_some _ (Heap.get?_push_of_some _ (Heap.get?_push_of_some _ (Heap.get?_push_of_some _ x))))⟩
theorem fJ{X:Cx}{pins:List (Addr × Obj)}{σ:L2.St}{H:Hp}{s:Shared}(I:Inv X pins σ H s){t:Bool}{a:Addr}{xs:List V}(h:SqK t X.K H a xs):∃us:List Value,Vals xs us∧SqB t s.heap a us.toArray:=by
 cases t
 ·obtain⟨us,rv,p,_⟩:=I.list h
  exact⟨us,rv,p.isList⟩
 ·obtain⟨us,rv,p,_⟩:=I.tuple h
  exact⟨us,rv,p⟩
theorem nI{X:Cx}{pins:List (Addr × Obj)}{σ:L2.St}{H:Hp}{s:Shared}(I:Inv X pins σ H s){t:Bool}{a:Addr}{xs ys:List V}(h:SqK t X.K H a xs)(h':SqK t X.K H a ys):xs=ys:=by
 cases t
 ·exact I.list_inj h h'
 ·exact I.tuple_inj h h'
def JG(t u:Bool)(K:M0)(a b:Addr):It :=
 ⟨fun i H=>∃(xs ys:List V) (x y:V),SqK t K H a xs∧SqK u K H b ys∧xs[i]?=some x∧ys[i]?=some y,
  fun i H v H'=>∃c x y,v = .ref c∧H c=none∧H'=upd H c (.tup [x,y])∧(∀xs,SqK t K H a xs→xs[i]?=some x)∧∀ys,SqK u K H b ys→ys[i]?=some y,
  fun i H=>∃xs ys:List V,SqK t K H a xs∧SqK u K H b ys∧(xs.length≤i∨ys.length≤i)⟩
def ZpAt(t u:Bool)(z T1 T2 i1 i2 a b:Addr)(i:Nat)(h:Heap):Prop:=IsZip h z T1 T2 .none∧IsPair h T1 (.ref i1) (.ref i2)∧(∃x y,IsPair h T2 x y)∧ItB t h i1 a i∧ItB u h i2 b i
theorem five{z T1 T2 i1 i2 c:Addr}:c∈[z,T1,T2,i1,i2] ↔ c=z∨c=T1∨c=T2∨c=i1∨c=i2:=by simp
theorem ZpAt.objs{t u:Bool}{z T1 T2 i1 i2 a b:Addr}{i:Nat}{h:Heap}(st:ZpAt t u z T1 T2 i1 i2 a b i h){c:Addr}(hc:c∈[z,T1,T2,i1,i2]):∃o,h.get? c=some o∧∀v,o.data≠.cell v:=by
 obtain⟨hz,h1,⟨x,y,h2⟩,p,q⟩:=st
 rcases five.mp hc with rfl|rfl|rfl|rfl|rfl
 ·exact⟨_,hz,fun v q=>nomatch q⟩
 ·exact⟨_,h1,fun v q=>nomatch q⟩
 ·exact⟨_,h2,fun v q=>nomatch q⟩
 ·exact p.obj
 ·exact q.obj
theorem m8{P:Program}{w:World}{K:M0}{elts:List Expr}{kk:Nat}{tpos:Pos}{t u:Bool}{a b z T1 T2 i1 i2:Addr}(D:ZipApart z T1 T2 i1 i2 a b) :
  Turn P w K (.Tuple elts kk tpos) (JG t u K a b) [z,T1,T2,i1,i2] z (ZpAt t u z T1 T2 i1 i2 a b) where
 mem:=by simp
 obj:=fun i h st c hc=>st.objs hc
 keep:=fun i h h' st k=>by
  obtain⟨hz,h1,⟨x,y,h2⟩,p,q⟩:=st
  exact⟨k z (by simp) _ hz,k T1 (by simp) _ h1,⟨x,y,k T2 (by simp) _ h2⟩,p.at fun o e=>k i1 (by simp) o e,q.at fun o e=>k i2 (by simp) o e⟩
 item:=by
  intro X hP hw hK hc i pins s σ H E I hf st hg
  subst hP hw hK
  have lts:∀c∈[z,T1,T2,i1,i2],c<s.heap.objs.size:=fun c hc=>by
   obtain⟨o,e,_⟩:=st.objs hc
   exact Heap.lt_size e
  obtain⟨hz,h1,⟨x0,y0,h2⟩,p,q⟩:=st
  obtain⟨xs,ys,x,y,kx,ky,hx,hy⟩:=hg
  obtain⟨us,rv,pl⟩:=fJ I kx
  obtain⟨ws,rw',ql⟩:=fJ I ky
  obtain⟨v,hv,r1⟩:=rv.get hx
  obtain⟨v2,hv2,r2⟩:=rw'.get hy
  refine xH D hz h1 h2 p q pl ql (x:=v) (y:=v2) (by simpa using hv) (by simpa using hv2) fun h' z' g2' p' q' hT hsz hk=>?_
  refine⟨_,rfl,wpAny_letOwnedTupleGo_zip (s:={s with heap:=h'}) z' fun h'' z'' sb=>?_⟩
  have up:=fun c o (n:c≠z) (g:h'.get? c=some o)=>sb.extBut c o n g
  have new:ObjOk X.prog X.w (upd H s.heap.objs.size (.tup [x,y])) h'' s.heap.objs.size (.tup [x,y]) :=
   ⟨by show 2≤sizeLine;decide,[v,v2],.cons r1 (.cons r2 .nil),⟨_,(sb.2 _ (Nat.ne_of_gt (lts z (by simp)))).trans hT,rfl,_,rfl⟩⟩
  have I1:Inv X pins σ (upd H s.heap.objs.size (.tup [x,y])) {s with heap:=h''} :=
   I.turnedNew (t':=s.toks) (ch:=[z,T1,T2,i1,i2]) (fun c o hb g=>(sb.2 c fun e=>hb (by simp[e])).trans (hk c o (fun e=>hb (by simp[e])) (fun e=>hb (by simp[e])) (fun e=>hb (by simp[e])) (fun e=>hb (by simp[e])) g)) hf (M7 _) new
  refine⟨.ref s.heap.objs.size,_,I1,rfl,⟨_,x,y,rfl,I.hok.fresh (M7 _),rfl,fun l hl=>?_,fun l hl=>?_⟩,⟨z'',?_,⟨v,v2,?_⟩,?_,?_⟩,fun c hcm=>?_⟩
  ·rw[nI I hl kx]
   exact hx
  ·rw[nI I hl ky]
   exact hy
  ·exact up _ _ D.TIz (hk _ _ D.TIz D.TITO D.TIi1 D.TIi2 h1)
  ·exact up _ _ D.TOz g2'
  ·exact p'.at fun o e=>up _ _ D.i1z e
  ·exact q'.at fun o e=>up _ _ D.i2z e
  ·rw[upd_ne (Nat.ne_of_lt (lts c hcm))]
   exact (hf c hcm).1
 done:=by
  intro X hP hw hK hc i pins s σ H E I hf st hg
  subst hP hw hK
  obtain⟨hz,h1,⟨x0,y0,h2⟩,p,q⟩:=st
  obtain⟨xs,ys,kx,ky,hend⟩:=hg
  obtain⟨us,rv,pl⟩:=fJ I kx
  obtain⟨ws,rw',ql⟩:=fJ I ky
  have n1:=rv.length
  have n2:=rw'.length
  have he:us.toArray[i]?=none∨ws.toArray[i]?=none:=by
   rcases hend with e|e
   ·exact .inl (by simp;omega)
   ·exact .inr (by simp;omega)
  exact CT (I.ok.hd hc) D hz h1 h2 p q pl ql he fun h' hk=>⟨rfl,I.turnedL (t':=s.toks) (ch:=[z,T1,T2,i1,i2]) (fun c o hb g =>
   hk c o (fun e=>hb (by simp[e])) (fun e=>hb (by simp[e])) (fun e=>hb (by simp[e])) (fun e=>hb (by simp[e])) g) hf⟩
 self:=fun A i s Q E st h=>wpAny_pyIter_zip st.1 h
def IU(K:M0)(ta:TA):TI:=fun σ H R=>ta σ H fun vs H1=>∃t u a b xs ys,vs=[.ref a,.ref b]∧SqK t K H1 a xs∧SqK u K H1 b ys∧R (JG t u K a b) H1
theorem AD{X:Cx}{e e2:Expr}{ta:TA}{p pos tpos:Pos}{elts:List Expr}{kk:Nat}(hg:Gl X "zip")(hm:X.mg "zip" =none)(ha:PA X [e,e2] ta)
  (hs:starEach [e,e2] X.env=(false,eval e X.env) :: starEach [e2] X.env:=by rfl)(hpl:(backTo pos (starEach [e2] X.env)).any (·.1)=false:=by rfl) :
  PI X (.Tuple elts kk tpos) (.Call (.Name "zip" p) [e,e2] [] pos) (IU X.K ta):=by
 refine⟨fun pins s σ H R I h=>?_⟩
 refine Call_ (ld_blt I hg hm PyProof.Rows.boot_zip (PyProof.Rows.callWith_type1 (thn (ha.run pos pins s σ H _ I h) fun us s1 ⟨vs,H1,I1,r1,q1⟩=>?_) hs hpl))
 obtain⟨t,u,a,b,xs,ys,rfl,kx,ky,q1⟩:=q1
 cases r1 with
 |cons r rr =>
  cases rr with
  |cons r' rr =>
   cases rr
   cases r
   cases r'
   obtain⟨us,rv,pl⟩:=fJ I1 kx
   obtain⟨ws,rw',ql⟩:=fJ I1 ky
   refine xI pl ql fun h' z' g1 g2 p1 q2 hk=>wpAny_pyIter_zip z' ?_
   refine⟨s1.heap.objs.size+4,[s1.heap.objs.size+4,s1.heap.objs.size+2,s1.heap.objs.size+3,s1.heap.objs.size,s1.heap.objs.size+1],_,_,H1,rfl,I1.kept (t':=s1.toks) hk,m8 (PySem.W.ktu_apart s1.heap.objs.size a b pl.lt ql.lt),⟨z',g1,⟨_,_,g2⟩,p1,q2⟩,fun c hcm=>?_,q1⟩
   have hle:s1.heap.objs.size≤c:=by
    rcases five.mp hcm with e|e|e|e|e <;> rw[e] <;> simp
   exact I1.fpOk hle (I1.hok.fresh hle)
end Av
namespace Av
variable [Tb]
structure rZ(K:M0)(H0:Hp)(J:It)(ds:List Dat)(gd:Gd):Prop where
 go:∀i H G,Stab H0 H→RelG K G H→bZ G gd→i<ds.length→J.go i H
 stop:∀i H G,Stab H0 H→RelG K G H→bZ G gd→ds.length≤i→J.stop i H
 yld:∀i H G x H',Stab H0 H→RelG K G H→bZ G gd→i<ds.length→J.yld i H x H'→∃d,ds[i]?=some d∧Fra G H G H'∧RelG K G H'∧Rep K H' x d
def Src(K:M0)(T:Hp→Addr→List V→Prop)(H0:Hp)(a:Addr)(ds:List Dat)(gd:Gd):Prop:=∀H G,Stab H0 H→RelG K G H→bZ G gd→∃xs,T H a xs∧Reps K H xs ds
section
variable {K:M0} {H H0:Hp} {G:AG} {a b:Addr} {ds es:List Dat} {gd ge:Gd} {T:Hp→Addr→List V→Prop}
theorem gdOk_app:∀{gd ge:Gd},bZ G (gd++ge) ↔ bZ G gd∧bZ G ge
 |[],ge=>⟨fun h=>⟨trivial,h⟩,fun h=>h.2⟩
 |(a,d) :: r,ge=>by
  show (G a=some (.lst d)∧bZ G (r++ge)) ↔ (G a=some (.lst d)∧bZ G r)∧bZ G ge
  rw[gdOk_app,and_assoc]
theorem Src.mono(h:Src K T H0 a ds gd)(s:Stab H0 H):Src K T H a ds gd:=fun H' G' s'=>h H' G' (s.trans s')
theorem cY{v:V}{x:Dat}{Q:List Dat→Gd→AG→Prop}(r:Rep K H v x)(h:r8 x G Q):∃a ds gd,v = .ref a∧Q ds gd G∧bZ G gd∧Src K (SqL K) H a ds gd:=by
 cases x with
 |lst ds =>
  cases r with
  |lst h1 q=>exact⟨_,ds,[],rfl,h,trivial,fun H' G' s _ _=>⟨_,(h1.mono s).sq,q.mono s⟩⟩
 |ref a =>
  cases aK r
  obtain⟨ds,e,q⟩:=h
  refine⟨a,ds,[(a,ds)],rfl,q,⟨e,trivial⟩,fun H' G' s rg gk=>?_⟩
  obtain⟨vs,h1,h2⟩:=rg.lst gk.1
  exact⟨vs,.inl (.inl h1),h2⟩
 |_=>exact False.elim h
theorem kK{v:V}{x:Dat}{Q:List Dat→Gd→AG→Prop}(r:Rep K H v x)(h:vT x G Q):∃a ds gd,v = .ref a∧Q ds gd G∧bZ G gd∧(Src K (SqL K) H a ds gd∨Src K (SqT K) H a ds gd):=by
 cases x with
 |tup ds =>
  obtain⟨a,vs,rfl,h1,q⟩:=aW r
  exact⟨_,ds,[],rfl,h,trivial,.inr fun H' G' s _ _=>⟨_,(h1.mono s).sq,q.mono s⟩⟩
 |kls ds =>
  cases r with
  |kls h1 q=>exact⟨_,ds,[],rfl,h,trivial,.inl fun H' G' s _ _=>⟨_,(h1.mono s).sq,q.mono s⟩⟩
 |lst ds =>
  obtain⟨a,es,gd,h1,h2,h3,h4⟩:=cY (Q:=Q) r h
  exact⟨a,es,gd,h1,h2,h3,.inl h4⟩
 |ref a =>
  obtain⟨a,es,gd,h1,h2,h3,h4⟩:=cY (Q:=Q) r h
  exact⟨a,es,gd,h1,h2,h3,.inl h4⟩
 |_=>exact False.elim h
theorem Reps.lt{vs:List V}{i:Nat}(r:Reps K H vs ds)(h:i<ds.length):∃v d,vs[i]?=some v∧ds[i]?=some d∧Rep K H v d:=by
 obtain⟨v,h1,h2⟩:=r.get (Me h)
 exact⟨v,_,h1,Me h,h2⟩
theorem BE(h:Src K (SqL K) H0 a ds gd):rZ K H0 (Itl K a) ds gd:=by
 refine⟨fun i H G s rg gk hi=>?_,fun i H G s rg gk hi=>?_,fun i H G x H' s rg gk hi hy=>?_⟩
 ·obtain⟨xs,h1,h2⟩:=h H G s rg gk
  obtain⟨v,d,h3,_⟩:=h2.lt hi
  exact⟨xs,v,h1,h3⟩
 ·obtain⟨xs,h1,h2⟩:=h H G s rg gk
  exact⟨xs,h1,by rw[h2.length];exact hi⟩
 ·obtain⟨xs,h1,h2⟩:=h H G s rg gk
  obtain⟨v,d,h3,h4,h5⟩:=h2.lt hi
  obtain⟨rfl,h6⟩:=hy
  have e:=h6 xs h1
  rw[h3]at e
  cases e
  exact⟨d,h4,.refl,rg,h5⟩
theorem Fh(h:Src K (SqT K) H0 a ds gd):rZ K H0 (Itt K a) ds gd:=by
 refine⟨fun i H G s rg gk hi=>?_,fun i H G s rg gk hi=>?_,fun i H G x H' s rg gk hi hy=>?_⟩
 ·obtain⟨xs,h1,h2⟩:=h H G s rg gk
  obtain⟨v,d,h3,_⟩:=h2.lt hi
  exact⟨xs,v,h1,h3⟩
 ·obtain⟨xs,h1,h2⟩:=h H G s rg gk
  exact⟨xs,h1,by rw[h2.length];exact hi⟩
 ·obtain⟨xs,h1,h2⟩:=h H G s rg gk
  obtain⟨v,d,h3,h4,h5⟩:=h2.lt hi
  obtain⟨rfl,h6⟩:=hy
  have e:=h6 xs h1
  rw[h3]at e
  cases e
  exact⟨d,h4,.refl,rg,h5⟩
theorem wW{lo:Int}{n:Nat}:rZ K H0 (Itr lo n) (dW lo n) []:=by
 have hl:(dW lo n).length=n:=by unfold dW;rw[M5,List.length_range]
 refine⟨fun i H G s rg gk hi=>by rw[hl]at hi;exact hi,fun i H G s rg gk hi=>by rw[hl]at hi;exact hi,fun i H G x H' s rg gk hi hy=>?_⟩
 obtain⟨rfl,rfl⟩:=hy
 rw[hl]at hi
 refine⟨.int (lo+i),?_,.refl,rg,.int _⟩
 unfold dW
 rw[Mg,List.getElem?_range hi]
 rfl
theorem BD{lo c:Int}{n:Nat}:rZ K H0 (Itc lo c n) (Cz lo c n) []:=by
 have hl:(Cz lo c n).length=n:=by unfold Cz;rw[M5,List.length_range]
 refine⟨fun i H G s rg gk hi=>by rw[hl]at hi;exact hi,fun i H G s rg gk hi=>by rw[hl]at hi;exact hi,fun i H G x H' s rg gk hi hy=>?_⟩
 obtain⟨rfl,rfl⟩:=hy
 rw[hl]at hi
 refine⟨.int (lo+(i:Nat)*c),?_,.refl,rg,.int _⟩
 unfold Cz
 rw[Mg,List.getElem?_range hi]
 rfl
theorem c7:∀{ds:List Dat} {k i:Nat} {d:Dat},ds[i]?=some d→(bR k ds)[i]?=some (.tup [.int ((k+i:Nat):Int),d])
 |[],_,_,_,e=>by simp at e
 |x :: ds,k,0,d,e=>by
  simp only[M8,Option.some.injEq]at e
  subst e
  rfl
 |x :: ds,k,i+1,d,e=>by
  simp only[M9]at e
  have h:=c7 (k:=k+1) e
  rw[show k+(i+1)=k+1+i by omega,←h]
  rfl
theorem c6:∀{ds:List Dat} {k:Nat},(bR k ds).length=ds.length
 |[],_=>rfl
 |x :: ds,k=>by
  show (bR (k+1) ds).length+1=ds.length+1
  rw[c6]
theorem BG(h:Src K (SqL K) H0 a ds gd):rZ K H0 (Ite K a) (bR 0 ds) gd:=by
 refine⟨fun i H G s rg gk hi=>?_,fun i H G s rg gk hi=>?_,fun i H G x H' s rg gk hi hy=>?_⟩
 all_goals rw[c6]at hi
 all_goals obtain⟨xs,h1,h2⟩:=h H G s rg gk
 ·obtain⟨v,d,h3,_⟩:=h2.lt hi
  exact⟨xs,v,h1,h3⟩
 ·exact⟨xs,h1,by rw[h2.length];exact hi⟩
 ·obtain⟨v,d,h3,h4,h5⟩:=h2.lt hi
  obtain⟨t,y,rfl,hn,rfl,h6⟩:=hy
  have e:=h6 xs h1
  rw[h3]at e
  cases e
  refine⟨.tup [.int ((0+i:Nat):Int),d],c7 h4,.newT hn,rg.newT hn,.tup (.inl upd_same) (.cons ?_ (.one (h5.mono (.new hn))))⟩
  rw[Nat.zero_add]
  exact .int _
theorem uG(h:Src K (SqT K) H0 a ds gd):rZ K H0 (JH K a) (bR 0 ds) gd:=by
 refine⟨fun i H G s rg gk hi=>?_,fun i H G s rg gk hi=>?_,fun i H G x H' s rg gk hi hy=>?_⟩
 all_goals rw[c6]at hi
 all_goals obtain⟨xs,h1,h2⟩:=h H G s rg gk
 ·obtain⟨v,d,h3,_⟩:=h2.lt hi
  exact⟨xs,v,h1,h3⟩
 ·exact⟨xs,h1,by rw[h2.length];exact hi⟩
 ·obtain⟨v,d,h3,h4,h5⟩:=h2.lt hi
  obtain⟨t,y,rfl,hn,rfl,h6⟩:=hy
  have e:=h6 xs h1
  rw[h3]at e
  cases e
  refine⟨.tup [.int ((0+i:Nat):Int),d],c7 h4,.newT hn,rg.newT hn,.tup (.inl upd_same) (.cons ?_ (.one (h5.mono (.new hn))))⟩
  rw[Nat.zero_add]
  exact .int _
theorem ku{d e:Dat}:∀(ds es:List Dat) (i:Nat),ds[i]?=some d→es[i]?=some e→(eA ds es)[i]?=some (.tup [d,e])
 |[],_,_,h,_=>by simp at h
 |_ :: _,[],_,_,h=>by simp at h
 |x :: ds,y :: es,0,h1,h2=>by
  simp only[M8,Option.some.injEq]at h1 h2
  subst h1 h2
  rfl
 |x :: ds,y :: es,i+1,h1,h2=>by
  have k1:ds[i]?=some d:=h1
  have k2:es[i]?=some e:=h2
  have q:=ku ds es i k1 k2
  rw[←q]
  rfl
theorem gh:∀{ds es:List Dat},(eA ds es).length=min ds.length es.length
 |[],_=>by simp[eA]
 |_ :: _,[]=>by simp[eA]
 |x :: ds,y :: es=>by
  show (eA ds es).length+1=_
  rw[gh,Mb,Mb]
  omega
theorem BC{t u:Bool}(h:Src K (SqK t K) H0 a ds gd)(h':Src K (SqK u K) H0 b es ge):rZ K H0 (JG t u K a b) (eA ds es) (gd++ge):=by
 refine⟨fun i H G s rg gk hi=>?_,fun i H G s rg gk hi=>?_,fun i H G x H' s rg gk hi hy=>?_⟩
 all_goals rw[gh]at hi
 all_goals obtain⟨gk1,gk2⟩:=gdOk_app.mp gk
 all_goals obtain⟨xs,h1,h2⟩:=h H G s rg gk1
 all_goals obtain⟨ys,k1,k2⟩:=h' H G s rg gk2
 ·obtain⟨v,d,h3,_⟩:=h2.lt (i:=i) (by omega)
  obtain⟨w,e,k3,_⟩:=k2.lt (i:=i) (by omega)
  exact⟨xs,ys,v,w,h1,k1,h3,k3⟩
 ·exact⟨xs,ys,h1,k1,by rw[h2.length,k2.length];omega⟩
 ·obtain⟨v,d,h3,h4,h5⟩:=h2.lt (i:=i) (by omega)
  obtain⟨w,e,k3,k4,k5⟩:=k2.lt (i:=i) (by omega)
  obtain⟨c,y,z,rfl,hn,rfl,h6,k6⟩:=hy
  have e1:=h6 xs h1
  have e2:=k6 ys k1
  rw[h3]at e1
  rw[k3]at e2
  cases e1
  cases e2
  exact⟨.tup [d,e],ku _ _ _ h4 k4,.newT hn,rg.newT hn,.tup (.inl upd_same) (.cons (h5.mono (.new hn)) (.one (k5.mono (.new hn))))⟩
end
def LfI(K:M0)(W:WX)(w:aj→AG→(List Dat→Gd→AG→Prop)→AX→Prop):TI:=fun σ H R =>
 ∃ρ G Qa Ea,RelE K H ρ σ∧RelG K G H∧w ρ G Qa Ea∧(∀ds gd G' J H',Fra G H G' H'→RelG K G' H'→bZ G' gd→rZ K H' J ds gd→Qa ds gd G'→R J H')∧PostX K G H Ea fun c dx H'=>W c dx σ H'
section
variable {X:Cx} {W:WX} {tg a b:Expr} {pos p tpos:Pos} {w1 w2:aj→AG→AQ→AX→Prop}
def Lh(K:M0)(te:TE):TI:=fun σ H R=>te σ H fun x H1=>∃a,x = .ref a∧((∃xs,SqL K H1 a xs)∧R (Itl K a) H1∨(∃xs,SqT K H1 a xs)∧R (Itt K a) H1)
theorem Eo{te:TE}(h:PE X a te):PI X tg a (Lh X.K te):=by
 refine⟨fun pins s σ H R I hw=>thn (h.run pins s σ H _ I hw) fun u s1 hq=>?_⟩
 obtain⟨x,H1,I1,r1,l,rfl,q⟩:=hq
 cases r1
 have fin:∀{o:Obj},∀b∈[s1.heap.objs.size],FpOk X pins H1 b:=fun c hc=>by
  cases List.mem_singleton.mp hc
  exact I1.fpOk (M7 _) (I1.hok.fresh (M7 _))
 rcases q with⟨⟨xs,hx⟩,q⟩|⟨⟨xs,hx⟩,q⟩
 ·obtain⟨its,rv,hp,_⟩:=I1.list hx
  exact wpAny_pyIter_list hp.isList ⟨_,[s1.heap.objs.size],_,_,H1,rfl,I1.kept (t':=s1.toks) fun _ _ z=>Heap.get?_push_of_some _ z,turn_list l _,⟨_,Heap.get?_push_size _ rfl,rfl,rfl⟩,fin (o:=default),q⟩
 ·obtain⟨its,rv,hp,_⟩:=I1.tuple hx
  exact wpAny_pyIter_tuple (show s1.heap.IsTuple l its.toArray from hp) ⟨_,[s1.heap.objs.size],_,_,H1,rfl,I1.kept (t':=s1.toks) fun _ _ z=>Heap.get?_push_of_some _ z,turn_tuple l _,⟨_,Heap.get?_push_size _ rfl,rfl,rfl⟩,fin (o:=default),q⟩
theorem DB(h:PE X a (LfE X.K W w1)):PI X tg a (LfI X.K W fun ρ G Q E=>w1 ρ G (fun x G1=>vT x G1 Q) E):=by
 refine PI.imp (Eo h) ?_
 rintro σ H R ⟨ρ,G,Qa,Ea,hE,hG,hw,hp,hx⟩
 refine⟨ρ,G,_,Ea,hE,hG,hw,fun d G1 v H1 f g r q=>?_,hx⟩
 obtain⟨l,ds,gd,rfl,h1,h2,h3⟩:=kK r q
 refine⟨l,rfl,?_⟩
 rcases h3 with h3|h3
 ·obtain⟨xs,h4,_⟩:=h3 H1 G1 (.refl _) g h2
  exact .inl ⟨⟨xs,h4⟩,hp _ _ _ _ _ f g h2 (BE h3) h1⟩
 ·obtain⟨xs,h4,_⟩:=h3 H1 G1 (.refl _) g h2
  exact .inr ⟨⟨xs,h4⟩,hp _ _ _ _ _ f g h2 (Fh h3) h1⟩
theorem LH(h:PE X a (LfE X.K W w1))(hs:starEach [a] X.env=[(false,eval a X.env)]):PA X [a] (LfA X.K W fun ρ G Q E=>w1 ρ G (fun d G1=>Q [d] G1) E):=jI (es:=[]) hs h nX
theorem Ac(hg:Gl X "range")(hm:X.mg "range" =none)(h:PE X a (LfE X.K W w1))(hs:starEach [a] X.env=[(false,eval a X.env)]) :
  PI X tg (.Call (.Name "range" p) [a] [] pos) (LfI X.K W fun ρ G Q E=>w1 ρ G (bK fun n G1=>-(2^62)≤n∧n<2^62∧Q (dW 0 n.toNat) [] G1) E):=by
 refine PI.imp (pi_range1 hg hm (LH h hs) hs) ?_
 rintro σ H R ⟨ρ,G,Qa,Ea,hE,hG,hw,hp,hx⟩
 refine⟨ρ,G,fun ds G1=>match ds with|[d]=>bK (fun n G1=>-(2^62)≤n∧n<2^62∧Qa (dW 0 n.toNat) [] G1) d G1|_=>False,Ea,hE,hG,hw,?_,hx⟩
 intro ds G1 v H1 f g r q
 match ds,q with
 |[d],q =>
  obtain⟨i,rfl,h1,h2,h3⟩:=aG q
  obtain⟨x,rfl,rx⟩:=aR r
  cases aB rx
  exact⟨i,rfl,h1,h2,hp _ [] _ _ _ f g trivial wW h3⟩
theorem Ab(hg:Gl X "range")(hm:X.mg "range" =none)(h:PE X a (LfE X.K W w1))(h2:PE X b (LfE X.K W w2))(hs:starEach [a,b] X.env=[(false,eval a X.env),(false,eval b X.env)])(hs2:starEach [b] X.env=[(false,eval b X.env)]) :
  PI X tg (.Call (.Name "range" p) [a,b] [] pos) (LfI X.K W fun ρ G Q E=>w1 ρ G (bK fun m G1=>w2 ρ G1 (bK fun n G2=>(-(2^62)≤m∧m<2^62∧-(2^62)≤n∧n<2^62)∧Q (dW m (n - m).toNat) [] G2) E) E):=by
 refine⟨fun pins s σ H R I ⟨ρ,G,Qa,Ea,hE,hG,hw,hp,hx⟩=>?_⟩
 refine (pi_range2 (tg:=tg) hg hm (pa_cons h (pa_cons h2 pa_nil hs2) (by rw[hs,hs2])) hs hs2).run pins s σ H R I ?_
 refine⟨ρ,G,_,Ea,hE,hG,hw,fun d G1 v H1 f g r q=>?_,hx⟩
 obtain⟨i,rfl,q⟩:=aG q
 cases aB r
 refine⟨ρ,G1,_,Ea,hE.mono (f.stab hG),g,q,fun e G2 u H2 f2 g2 r2 q2=>?_,hx.fra f⟩
 obtain⟨j,rfl,q1,q3⟩:=aG q2
 cases aB r2
 exact⟨i,j,rfl,q1,hp _ [] _ _ _ (f.trans f2) g2 trivial wW q3⟩
theorem Aa{c:Expr}{w3:aj→AG→AQ→AX→Prop}(hg:Gl X "range")(hm:X.mg "range" =none)(h:PE X a (LfE X.K W w1))(h2:PE X b (LfE X.K W w2))(h3:PE X c (LfE X.K W w3))(hs:starEach [a,b,c] X.env=(false,eval a X.env) :: starEach [b,c] X.env)(hs2:starEach [b,c] X.env=(false,eval b X.env) :: starEach [c] X.env)(hs3:starEach [c] X.env=[(false,eval c X.env)]) :
  PI X tg (.Call (.Name "range" p) [a,b,c] [] pos) (LfI X.K W fun ρ G Q E=>w1 ρ G (bK fun i G1=>w2 ρ G1 (bK fun j G2=>w3 ρ G2 (bK fun k G3=>∃n,RgC i j k n∧Q (Cz i k n) [] G3) E) E) E):=by
 refine⟨fun pins s σ H R I ⟨ρ,G,Qa,Ea,hE,hG,hw,hp,hx⟩=>?_⟩
 refine (pi_range3 (tg:=tg) hg hm (pa_cons h (pa_cons h2 (pa_cons h3 pa_nil hs3) hs2) hs) hs (by rw[hs2,hs3];rfl)).run pins s σ H R I ?_
 refine⟨ρ,G,_,Ea,hE,hG,hw,fun d G1 v H1 f g r q=>?_,hx⟩
 obtain⟨i,rfl,q⟩:=aG q
 cases aB r
 refine⟨ρ,G1,_,Ea,hE.mono (f.stab hG),g,q,fun e G2 u H2 f2 g2 r2 q2=>?_,hx.fra f⟩
 obtain⟨j,rfl,q2⟩:=aG q2
 cases aB r2
 refine⟨ρ,G2,_,Ea,hE.mono ((f.trans f2).stab hG),g2,q2,fun e G3 u H3 f3 g3 r3 q3=>?_,hx.fra (f.trans f2)⟩
 obtain⟨k,rfl,n,q4,q5⟩:=aG q3
 cases aB r3
 exact⟨i,j,k,n,rfl,q4,hp _ [] _ _ _ ((f.trans f2).trans f3) g3 trivial BD q5⟩
theorem Ad{elts:List Expr}{kk:Nat}(hg:Gl X "enumerate")(hm:X.mg "enumerate" =none)(h:PE X a (LfE X.K W w1))(hs:starEach [a] X.env=[(false,eval a X.env)]) :
  PI X (.Tuple elts kk tpos) (.Call (.Name "enumerate" p) [a] [] pos) (LfI X.K W fun ρ G Q E=>w1 ρ G (fun x G1=>vT x G1 fun xs gx G2=>Q (bR 0 xs) gx G2) E):=by
 refine PI.imp (tN hg hm (pa_cons h pa_nil hs) hs) ?_
 rintro σ H R ⟨ρ,G,Qa,Ea,hE,hG,hw,hp,hx⟩
 refine⟨ρ,G,_,Ea,hE,hG,hw,fun d G1 v H1 f g r q=>?_,hx⟩
 obtain⟨l,ds,gd,rfl,h1,h2,h3⟩:=kK r q
 rcases h3 with h3|h3
 ·obtain⟨xs,h4,_⟩:=h3 H1 G1 (.refl _) g h2
  exact⟨l,xs,rfl,.inl ⟨h4,hp _ _ _ _ _ f g h2 (BG h3) h1⟩⟩
 ·obtain⟨xs,h4,_⟩:=h3 H1 G1 (.refl _) g h2
  exact⟨l,xs,rfl,.inr ⟨h4,hp _ _ _ _ _ f g h2 (uG h3) h1⟩⟩
theorem sj{K:M0}{H:Hp}{G:AG}{v w:V}{x y:Dat}{Q:List Dat→Gd→AG→Prop}(r:Rep K H v x)(r2:Rep K H w y)(h:CU x y G Q) :
  ∃a b ds es gd ge t u,v = .ref a∧w = .ref b∧Q (eA ds es) (gd++ge) G∧bZ G (gd++ge)∧Src K (SqK t K) H a ds gd∧Src K (SqK u K) H b es ge:=by
 have no:(r8 x G fun xs gx G1=>r8 y G1 fun ys gy G2=>Q (eA xs ys) (gx++gy) G2)→∃a b ds es gd ge t u,v = .ref a∧w = .ref b∧Q (eA ds es) (gd++ge) G∧bZ G (gd++ge)∧Src K (SqK t K) H a ds gd∧Src K (SqK u K) H b es ge:=fun hq=>by
  obtain⟨a,ds,gd,rfl,h1,h2,h3⟩:=cY r hq
  obtain⟨b,es,ge,rfl,k1,k2,k3⟩:=cY r2 h1
  exact⟨a,b,ds,es,gd,ge,false,false,rfl,rfl,k1,gdOk_app.mpr ⟨h2,k2⟩,h3,k3⟩
 have no1:∀ds,x = .tup ds→(r8 y G fun ys gy G2=>Q (eA ds ys) gy G2)→∃a b ds es gd ge t u,v = .ref a∧w = .ref b∧Q (eA ds es) (gd++ge) G∧bZ G (gd++ge)∧Src K (SqK t K) H a ds gd∧Src K (SqK u K) H b es ge:=fun ds e hq=>by
  subst e
  obtain⟨a,vs,rfl,h1,q⟩:=aW r
  obtain⟨b,es,ge,rfl,k1,k2,k3⟩:=cY r2 hq
  exact⟨a,b,ds,es,[],ge,true,false,rfl,rfl,k1,k2,fun H' G' s _ _=>⟨_,(h1.mono s).sq,q.mono s⟩,k3⟩
 cases x with
 |tup ds =>
  cases y with
  |tup es =>
   obtain⟨a,vs,rfl,h1,q⟩:=aW r
   obtain⟨b,us,rfl,h2,q2⟩:=aW r2
   exact⟨a,b,ds,es,[],[],true,true,rfl,rfl,h,trivial,fun H' G' s _ _=>⟨_,(h1.mono s).sq,q.mono s⟩,fun H' G' s _ _=>⟨_,(h2.mono s).sq,q2.mono s⟩⟩
  |_=>exact no1 ds rfl h
 |_=>exact no h
theorem Dz{elts:List Expr}{kk:Nat}(hg:Gl X "zip")(hm:X.mg "zip" =none)(h:PE X a (LfE X.K W w1))(h2:PE X b (LfE X.K W w2))(hs:starEach [a,b] X.env=(false,eval a X.env) :: starEach [b] X.env)(hs2:starEach [b] X.env=[(false,eval b X.env)]) :
  PI X (.Tuple elts kk tpos) (.Call (.Name "zip" p) [a,b] [] pos) (LfI X.K W fun ρ G Q E=>w1 ρ G (fun x G1=>w2 ρ G1 (fun y G2=>CU x y G2 Q) E) E):=by
 refine PI.imp (AD hg hm (pa_cons h (pa_cons h2 pa_nil hs2) hs) hs (by rw[hs2];rfl)) ?_
 rintro σ H R ⟨ρ,G,Qa,Ea,hE,hG,hw,hp,hx⟩
 refine⟨ρ,G,_,Ea,hE,hG,hw,fun d G1 v H1 f g r q=>⟨ρ,G1,_,Ea,hE.mono (f.stab hG),g,q,fun e G2 u H2 f2 g2 r2 q2=>?_,hx.fra f⟩,hx⟩
 obtain⟨l,m,ds,es,gd,ge,t,u,rfl,rfl,h1,h3,h4,h5⟩:=sj (r.mono (f2.stab g)) r2 q2
 obtain⟨k1,k2⟩:=gdOk_app.mp h3
 obtain⟨xs,x1,_⟩:=h4 H2 G2 (.refl _) g2 k1
 obtain⟨ys,y1,_⟩:=h5 H2 G2 (.refl _) g2 k2
 exact⟨t,u,l,m,xs,ys,rfl,x1,y1,hp _ _ _ _ _ (f.trans f2) g2 h3 (BC h4 h5) h1⟩
def mP:TGt→List Nat
 |.nm i=>[i]
 |.tp is=>is
 |.tq i is=>i :: is
def LfG(K:M0)(g:TGt):TG:=fun v σ H Q=>∃ρ G d k,RelE K H ρ σ∧RelG K G H∧Rep K H v d∧tgW g d ρ k∧∀ρ' σ',RelE K H ρ' σ'→(∀vs:List Nat,(∀i∈mP g,i∈vs)→L2.wipe σ' vs=L2.wipe σ vs)→k ρ'→Q σ' H
theorem cP{σ:L2.St}{j:Nat}:∀vs:List Nat,(L2.wipe σ vs)[j]?=if j∈vs then (σ[j]?).map (fun _=>none) else σ[j]?
 |[]=>by simp[L2.wipe]
 |v :: vs=>by
  have ih:=cP (σ:=σ) (j:=j) vs
  show ((L2.wipe σ vs).set v none)[j]?=_
  by_cases hj:v=j
  ·subst hj
   rw[List.getElem?_set_self',ih]
   by_cases hm:v∈vs
   ·rw[if_pos hm,if_pos (Mi ..)]
    cases σ[v]? <;> rfl
   ·rw[if_neg hm,if_pos (Mi ..)]
    rfl
  ·rw[List.getElem?_set_ne hj,ih]
   by_cases hm:j∈vs
   ·rw[if_pos hm,if_pos (Mj _ hm)]
   ·rw[if_neg hm,if_neg (fun z=>by rcases List.mem_cons.mp z with z|z;exact hj z.symm;exact hm z)]
theorem gj{σ:L2.St}{i:Nat}{x:Option V}{vs:List Nat}(h:i∈vs):L2.wipe (σ.set i x) vs=L2.wipe σ vs:=by
 refine List.ext_getElem? fun j=>?_
 rw[cP,cP]
 by_cases hj:i=j
 ·subst hj
  rw[if_pos h,if_pos h,List.getElem?_set_self']
  cases σ[i]? <;> rfl
 ·rw[List.getElem?_set_ne hj]
theorem Hq{i:Nat}{x:Str}(hN:X.N.Nodup)(hi:X.N[i]?=some x)(hx:Loc X.env.scope x)(hf:X.fn x=true∨X.env.scope.names.lookup x=some .local):PG X (.Name x pos) (LfG X.K (.nm i)):=by
 refine⟨fun pins s σ H v u Q I r ⟨ρ,G,d,k,hE,hG,rv,hk,hq⟩=>?_⟩
 exact (pg_name hN hi hx hf).run pins s σ H v u Q I r (hq _ _ (hE.set rv) (fun vs hv=>gj (hv i (List.mem_singleton.mpr rfl))) hk)
def IX:List Nat→TGs
 |[]=>gNil
 |i :: is=>gCons (gName i) (IX is)
def iP(X:Cx):List Expr→List Nat→Prop
 |[],[]=>True
 |.Name x _ :: ts,i :: is=>(X.N[i]?=some x∧Loc X.env.scope x∧(X.fn x=true∨X.env.scope.names.lookup x=some .local))∧iP X ts is
 |_,_=>False
theorem du(X:Cx):∀{ts:List Expr} {is:List Nat},iP X ts is→X.N.Nodup→(assignEach ts X.env).length=is.length∧(assignEach ts X.env).findIdx? (·.1)=none∧PGs X ts (IX is)
 |[],[],_,_=>⟨rfl,rfl,pgs_nil⟩
 |.Name x q :: ts,i :: is,h,hN=>by
  obtain⟨h1,h2,h3⟩:=du X h.2 hN
  refine⟨congrArg (· +1) h1,?_,pgs_cons (pg_name hN h.1.1 h.1.2.1 h.1.2.2) h3⟩
  show List.findIdx? (·.1) ((false,assign (.Name x q) X.env) :: assignEach ts X.env)=none
  rw[List.findIdx?_cons,h2]
  rfl
theorem gS{K:M0}{H:Hp}{Q:L2.St→Hp→Prop}:∀{is:List Nat} {vs:List V} {ds:List Dat} {ρ:aj} {σ:L2.St},RelE K H ρ σ→Reps K H vs ds→ds.length=is.length→
  (∀σ',RelE K H (bB is ds ρ) σ'→(∀ws:List Nat,(∀i∈is,i∈ws)→L2.wipe σ' ws=L2.wipe σ ws)→Q σ' H)→IX is vs σ H Q
 |[],_,_,ρ,σ,hE,.nil,_,h=>⟨rfl,h σ hE fun _ _=>rfl⟩
 |i :: is,_,_,ρ,σ,hE,.cons a r,hl,h=>⟨_,_,rfl,gS (hE.set a) r (by simpa using hl) fun σ' h1 h2=>h σ' h1 fun ws hw=>by
   rw[h2 ws fun j hj=>hw j (Mj _ hj),gj (hw i (Mi ..))]⟩
theorem DC{ts:List Expr}{is:List Nat}{kk:Nat}(hc:X.calm=true)(hN:X.N.Nodup)(h:iP X ts is):PG X (.Tuple ts kk pos) (LfG X.K (.tp is)):=by
 obtain⟨h1,h2,h3⟩:=du X h hN
 refine⟨fun pins s σ H v u Q I r ⟨ρ,G,d,k,hE,hG,rv,hk,hq⟩=>?_⟩
 refine (pg_tup hc h3 h1 h2).run pins s σ H v u Q I r ?_
 cases d with
 |tup ds =>
  obtain⟨a,vs,rfl,k1,k2⟩:=aW rv
  obtain⟨k3,k4⟩:=hk
  exact⟨a,vs,rfl,k1.sq,by rw[k2.length,k3],gS hE k2 k3 fun σ' e1 e2=>hq _ σ' e1 e2 k4⟩
 |_=>exact False.elim hk
theorem Ho{t:Expr}{x:Str}{px:Pos}{ts:List Expr}{i:Nat}{is:List Nat}{kk k2:Nat}{p2:Pos}(hc:X.calm=true)(hN:X.N.Nodup)(hx:iP X [.Name x px] [i])(h:iP X ts is):PG X (.Tuple [.Name x px,.Tuple ts k2 p2] kk pos) (LfG X.K (.tq i is)):=by
 obtain⟨h1,h2,h3⟩:=du X h hN
 obtain⟨⟨x1,x2,x3⟩,_⟩:=hx
 refine⟨fun pins s σ H v u Q I r ⟨ρ,G,d,k,hE,hG,rv,hk,hq⟩=>?_⟩
 refine (pg_tup (n:=2) hc (pgs_cons (pg_name hN x1 x2 x3) (pgs_cons (pg_tup hc h3 h1 h2) pgs_nil)) rfl rfl).run pins s σ H v u Q I r ?_
 match d,hk with
 |.tup [d,.tup ds],hk =>
  obtain⟨a,vs,rfl,k1,k2⟩:=aW rv
  obtain⟨y,z,rfl,ry,rz⟩:∃y z,vs=[y,z]∧Rep X.K H y d∧Rep X.K H z (.tup ds):=by
   cases k2 with
   |cons a b=>cases b with
    |cons c e=>cases e;exact⟨_,_,rfl,a,c⟩
  obtain⟨b,ws,rfl,k3,k4⟩:=aW rz
  obtain⟨k5,k6⟩:=hk
  refine⟨a,[y,.ref b],rfl,k1.sq,rfl,y,[.ref b],rfl,.ref b,[],rfl,b,ws,rfl,k3.sq,by rw[k4.length,k5],gS (hE.set ry) k4 k5 fun σ' e1 e2=>⟨rfl,hq _ σ' e1 (fun vs hv=>?_) k6⟩⟩
  rw[e2 vs fun j hj=>hv j (Mj _ hj),gj (hv i (Mi ..))]
end
end Av
namespace Av
variable [Tb]
theorem e7{K:M0}{H:Hp}{f:Str}{d:Dat}:∀{vf:List (Str × V)} {fs:List (Str × Dat)},KRel K H vf fs→fs.lookup f=some d→∃v,vf.lookup f=some v∧Rep K H v d
 |_,_,.nil,e=>by cases e
 |(g,v) :: vf,(g',d') :: fs,.cons h r,e=>by
  obtain⟨rfl,h⟩:=h
  have e2:(match f == g with|true=>some d'|false=>fs.lookup f)=some d:=e
  show ∃u,(match f == g with|true=>some v|false=>vf.lookup f)=some u∧Rep K H u d
  cases q:(f == g)with
  |true=>rw[q]at e2;cases e2;exact⟨v,rfl,h⟩
  |false=>rw[q]at e2;exact e7 r e2
theorem gQ{K:M0}{H:Hp}{f:Str}:∀{vf:List (Str × V)} {fs:List (Str × Dat)},KRel K H vf fs→fs.lookup f=none→vf.lookup f=none
 |_,_,.nil,_=>rfl
 |(g,v) :: vf,(g',d') :: fs,.cons h r,e=>by
  obtain⟨rfl,h⟩:=h
  have e2:(match f == g with|true=>some d'|false=>fs.lookup f)=none:=e
  show (match f == g with|true=>some v|false=>vf.lookup f)=none
  cases q:(f == g)with
  |true=>rw[q]at e2;cases e2
  |false=>rw[q]at e2;exact gQ r e2
theorem ld{K:M0}{H:Hp}:∀{vf:List (Str × V)} {fs:List (Str × Dat)},KRel K H vf fs→vf.length=fs.length
 |_,_,.nil=>rfl
 |_,_,.cons _ r=>congrArg (· +1) (ld r)
theorem lb{K:M0}{H:Hp}{f:Str}{v:V}{d:Dat}(h:Rep K H v d):∀{vf:List (Str × V)} {fs:List (Str × Dat)},KRel K H vf fs→KRel K H (putF f v vf) (og f d fs)
 |_,_,.nil=>.cons ⟨rfl,h⟩ .nil
 |(g,u) :: vf,(g',e) :: fs,.cons h1 r=>by
  obtain⟨rfl,h2⟩:=h1
  show KRel K H (if g=f then (g,v) :: vf else (g,u) :: putF f v vf) (if g=f then (g,d) :: fs else (g,e) :: og f d fs)
  by_cases q:g=f
  ·rw[if_pos q,if_pos q];exact .cons ⟨rfl,h⟩ r
  ·rw[if_neg q,if_neg q];exact .cons ⟨rfl,h2⟩ (lb h r)
theorem RelG.ins{K:M0}{G:AG}{H:Hp}{p:Addr}{C:Str}{fs:List (Str × Dat)}(g:RelG K G H)(e:G p=some (.ins C fs)):∃dx vf,H p=some (.ins (He.ga K C) dx vf)∧KRel K H vf fs:=g.g p _ e
theorem vI{Γ:Gam}{f:Str}{x:Dat}{G:AG}{Q:AQ}(h:JA Γ f x G Q):(∃p C fs d,x = .ref p∧G p=some (.ins C fs)∧Γ.at_ C f=true∧fs.lookup f=some d∧Q d G)∨∃C fl ds d,x = .exc C fl ds∧Γ.xc C=some fl∧f∈fl∧(fl.zip ds).reverse.lookup f=some d∧Q d G:=by
 cases x with
 |ref p=>obtain⟨C,fs,d,h⟩:=h;exact .inl ⟨p,C,fs,d,rfl,h⟩
 |exc C fl ds=>obtain⟨d,h⟩:=h;exact .inr ⟨C,fl,ds,d,rfl,h⟩
 |_=>exact False.elim h
theorem pA{K:M0}{H:Hp}:∀{fl:List Str} {vs:List V} {ds:List Dat},Reps K H vs ds→KRel K H (fl.zip vs) (fl.zip ds)
 |[],_,_,_=>.nil
 |_ :: _,_,_,.nil=>.nil
 |f :: fl,_,_,.cons a r=>.cons ⟨rfl,a⟩ (pA r)
theorem wP{K:M0}{H:Hp}{x:Str}{v:V}{d:Dat}(h:Rep K H v d):∀{vk:List (Str × V)} {kvs:List (Str × Dat)},KRel K H vk kvs→KRel K H (vk++[(x,v)]) (kvs++[(x,d)])
 |_,_,.nil=>.cons ⟨rfl,h⟩ .nil
 |_ :: _,_ :: _,.cons h1 r=>.cons h1 (wP h r)
theorem pB{K:M0}{H:Hp}:∀{vk:List (Str × V)} {kvs:List (Str × Dat)},KRel K H vk kvs→KRel K H vk.reverse kvs.reverse
 |_,_,.nil=>.nil
 |(k,v) :: vk,(k',d) :: kvs,.cons h r=>by
  obtain⟨rfl,h⟩:=h
  rw[List.reverse_cons,List.reverse_cons]
  exact wP h (pB r)
theorem gz{Γ:Gam}{f:Str}{v x:Dat}{G:AG}{Q:AG→Prop}(h:Aw Γ f v x G Q):∃p C fs,x = .ref p∧G p=some (.ins C fs)∧Γ.at_ C f=true∧fs.length<1000∧Q (gu G p (.ins C (og f v fs))):=by
 cases x with
 |ref p=>obtain⟨C,fs,h⟩:=h;exact⟨p,C,fs,rfl,h⟩
 |_=>exact False.elim h
theorem lj{C m:Str}{x:Dat}{G:AG}(h:BI C m x G):∃p fs,x = .ref p∧G p=some (.ins C fs)∧fs.lookup m=none:=by
 cases x with
 |ref p=>obtain⟨fs,h⟩:=h;exact⟨p,fs,rfl,h⟩
 |_=>exact False.elim h
section
variable {X:Cx} {W:WX} {Γ:Gam} {k:Nat} {a o:Expr} {pos p apos:Pos} {es:List Expr} {w1:aj→AG→AQ→AX→Prop} {wa:aj→AG→(List Dat→AG→Prop)→AX→Prop}
def Hb(K:M0)(te:TE)(f:Str):TE:=fun σ H Q=>te σ H fun x H1=>(∃a C dx fs v,x = .ref a∧H1 a=some (.ins C dx fs)∧Cls K C∧NoAttr K C f∧fs.lookup f=some v∧Q v H1)∨
 ∃a C dx fs v,x = .ref a∧H1 a=some (mO a C (some dx))∧H1 dx=some (Gn dx fs)∧XfC K C∧PySem.W.findIn K (.ref C) f=some none∧fs.lookup f=some v∧Q v H1
theorem AL{f:Str}{te:TE}(he:PE X a te)(hb:attributeBase a f X.env (eval a X.env)=eval a X.env):PE X (.Attribute a f pos) (Hb X.K te f):=by
 refine⟨fun pins s σ H Q I h=>?_⟩
 refine attr_of hb (thn (he.run pins s σ H _ I h) fun u s1 ⟨x,H1,I1,rx,q⟩=>?_)
 rcases q with⟨b,C,dx,fs,v,ex,ea,c,n,l,q⟩|⟨b,C,dx,fs,v,ex,ea,ed,T,n,l,q⟩
 ·subst ex
  obtain rfl:u=Value.ref b:=rx
  exact getattr_ok I1 ea c n l fun u' s2 I2 ru=>⟨v,H1,I2,ru,q⟩
 ·subst ex
  obtain rfl:u=Value.ref b:=rx
  obtain⟨oe,vs,h1,h2,h3,h4⟩:=qt I1.hok ea
  obtain⟨mA,hns,hr⟩:=qp I1.hok ed
  obtain⟨od,ho,hl⟩:=lookIn_ns hns
  obtain⟨u,hu,ru⟩:=RelO.some_of (v:=v) (o:=mA f) (by rw[←l];exact hr f)
  have J:PySem.W.InstAt s1.heap b oe C (some od):=⟨h1,h2,by unfold PySem.W.notCls;rw[h4] <;> rfl,by rw[h3];exact ho⟩
  exact HandSPX.exc_get I1.kIn J T.ga T.gg T.exC (PySem.W.findObj_own T.hdC n rfl (by rw[hl,hu])) (handed_of ru) ⟨v,H1,I1.tok _,ru,q⟩
theorem D1(oc:Oc X W Γ k){f:Str}(h1:PE X a (LfE X.K W w1))(hb:attributeBase a f X.env (eval a X.env)=eval a X.env):PE X (.Attribute a f pos) (LfE X.K W fun ρ G Q E=>w1 ρ G (fun x G1=>JA Γ f x G1 Q) E):=by
 refine PE.imp (AL h1 hb) ?_
 rintro σ H Q ⟨ρ,G,Qa,Ea,hE,hG,hw,hp,hx⟩
 refine⟨ρ,G,_,Ea,hE,hG,hw,fun d G1 v H1 fr g r q=>?_,hx⟩
 rcases vI q with⟨b,C,fs,e,rfl,k1,k2,k3,k4⟩|⟨C,fl,ds,e,rfl,k1,k2,k3,k4⟩
 ·cases aK r
  obtain⟨dx,vf,k5,k6⟩:=g.ins k1
  obtain⟨u,k7,k8⟩:=e7 k6 k3
  obtain⟨c1,c2⟩:=oc.tb.at_ C f k2
  exact .inl ⟨b,_,dx,vf,u,rfl,k5,c1,c2,k7,hp _ _ _ _ fr g k8 k4⟩
 ·cases r with
  |@exc a dx _ _ vs _ m1 m2 m3 =>
   have h0:fl≠[]:=fun z=>by rw[z]at k2;cases k2
   obtain⟨c1,c2⟩:=oc.tb.xf C fl k1 h0
   cases dx with
   |none=>exact absurd m2.1 h0
   |some dx =>
    obtain⟨u,k7,k8⟩:=e7 (pB (pA m3)) k3
    exact .inr ⟨a,_,dx,_,u,rfl,m1,m2.2,c1,c2 f k2,k7,hp _ _ _ _ fr g k8 k4⟩
def nh(C:Addr)(m:Str)(sp:Sp)(dvs:List V)(E:L2.St→XK)(to:TE)(t:TA):TE:=fun σ H Q=>to σ H fun x H1=>∃b dx fs,x = .ref b∧H1 b=some (.ins C dx fs)∧fs.lookup m=none∧t σ H1 fun vs H2=>sp (x :: (vs++dvs)) H2 Q (E σ)
theorem oA{CX:CXT}{C f:Addr}{m:Str}{fd:FuncData}{ps:List Str}{sp:Sp}{dvs:List V}{ds:List Value}{E:L2.St→XK}{to:TE}{t:TA}{e:Expr}{pl:Sem Bool}(he:PE X o to)(c:Cls X.K C)(hm:Meth X.K C m f)(F:FnOk X.prog X.w X.K X.mg X.base CX k f fd ps sp)(hr:Room k X.A)
  (hb:Binds X.K fd ps ds)(hd:Vals dvs ds)(hx:∀σ,PassesAt CX X σ (E σ))(ha:PA X (e :: es) t)(hst:starEach (e :: es) X.env=(false,eval e X.env) :: starEach es X.env)(hpl:(backTo pos (starEach es X.env)).any (·.1)=false)
  (ht:eval (.Call (.Attribute o m apos) (e :: es) [] pos) X.env=(do
   let w ←eval o X.env
   standAt apos.atName
   let (g,one) ←holding [w] (getMethod w m pl)
   callWith pos g one (backTo pos (starEach (e :: es) X.env)) (backToKw pos (keywordEach [] X.env)))):PE X (.Call (.Attribute o m apos) (e :: es) [] pos) (nh C m sp dvs E to t):=by
 refine⟨fun pins s σ H Q I h=>?_⟩
 refine PySem.W.methodCall_KW (pl:=pl) (thn (he.run pins s σ H _ I h) fun u s1 ⟨x,H1,I1,rx,b,dx,fs,ex,eb,l,q⟩=>?_) ht
 subst ex
 obtain rfl:u=Value.ref b:=rx
 refine getmeth_ok I1 eb c hm l ?_
 refine PySem.W.callWith_K (first:=[.ref b]) (h₀:=X.base) I.ok.mod.kin hm.kp (thn (ha.run pos pins s1 σ H1 _ I1 q) fun us s2 ⟨vs,H2,I2,r,q2⟩=>⟨I2.kIn,?_⟩) hst hpl
 exact run_fnSD (us:=.ref b :: us) (vs:=.ref b :: vs) F hr hb hd (hx σ) I2 (.cons rfl r) q2
theorem l7{CX:CXT}{C f:Addr}{m:Str}{fd:FuncData}{ps:List Str}{sp:Sp}{dvs:List V}{ds:List Value}{E:L2.St→XK}{to:TE}{pl:Sem Bool}(he:PE X o to)(c:Cls X.K C)(hm:Meth X.K C m f)(F:FnOk X.prog X.w X.K X.mg X.base CX k f fd ps sp)(hr:Room k X.A)
  (hb:Binds X.K fd ps ds)(hd:Vals dvs ds)(hx:∀σ,PassesAt CX X σ (E σ))
  (ht:eval (.Call (.Attribute o m apos) [] [] pos) X.env=(do
   let w ←eval o X.env
   standAt apos.atName
   let (g,one) ←holding [w] (getMethod w m pl)
   callWith pos g one (backTo pos (starEach [] X.env)) (backToKw pos (keywordEach [] X.env)))):PE X (.Call (.Attribute o m apos) [] [] pos) (nh C m sp dvs E to tNil):=by
 refine⟨fun pins s σ H Q I h=>?_⟩
 refine PySem.W.methodCall_KW (pl:=pl) (thn (he.run pins s σ H _ I h) fun u s1 ⟨x,H1,I1,rx,b,dx,fs,ex,eb,l,q⟩=>?_) ht
 subst ex
 obtain rfl:u=Value.ref b:=rx
 refine getmeth_ok I1 eb c hm l ?_
 exact PySem.W.callWith_K0 (first:=[.ref b]) I1.kIn hm.kp (run_fnSD (us:=[.ref b]) (vs:=[.ref b]) F hr hb hd (hx σ) I1 (.cons rfl .nil) q)
theorem wg{F:FnE}{C m:Str}{dvs:List V}{n:Nat}{to:aj→AG→AQ→AX→Prop}{t:TA}(hd:∀H,Reps X.K H dvs (F.dfl.drop n))(ht:∀σ H Q,LfA X.K W wa σ H Q→t σ H Q)(σ:L2.St)(H:Hp)(Q:VK)
  (h:LfE X.K W (fun ρ G Q E=>to ρ G (fun x G1=>BI C m x G1∧wa ρ G1 (fun ds G2=>F.con (x :: (ds++F.dfl.drop n)) G2 Q E) E) E) σ H Q):nh (He.ga X.K C) m (bF X.K F) dvs (WE W) (LfE X.K W to) t σ H Q:=by
 obtain⟨ρ,G,Qa,Ea,hE,hG,hw,hp,hx⟩:=h
 refine⟨ρ,G,_,Ea,hE,hG,hw,fun d G1 v H1 f g r q=>?_,hx⟩
 obtain⟨b,fs,rfl,k1,k2⟩:=lj q.1
 cases aK r
 obtain⟨dx,vf,k3,k4⟩:=g.ins k1
 refine⟨b,dx,vf,rfl,k3,gQ k4 k2,ht _ _ _ ⟨ρ,G1,_,Ea,hE.mono (f.stab hG),g,q.2,fun ds G2 vs H2 f2 g2 r2 q2=>?_,hx.fra f⟩⟩
 exact⟨_,G2,Qa,Ea,.cons (.ref b) (r2.append (hd H2)),g2,q2,fun d' G' v' H' f3=>hp d' G' v' H' ((f.trans f2).trans f3),hx.fra (f.trans f2)⟩
theorem sQ(oc:Oc X W Γ k){C m:Str}{F:FnE}{e:Expr}{pl:Sem Bool}(hF:Γ.ms C m=some F)(h1:F.ar≤(e :: es).length+1+F.dfl.length)(h2:(e :: es).length+1≤F.ar)(ho:PE X o (LfE X.K W w1))(ha:PA X (e :: es) (LfA X.K W wa))
  (hst:starEach (e :: es) X.env=(false,eval e X.env) :: starEach es X.env)(hpl:(backTo pos (starEach es X.env)).any (·.1)=false)
  (ht:eval (.Call (.Attribute o m apos) (e :: es) [] pos) X.env=(do
   let w ←eval o X.env
   standAt apos.atName
   let (g,one) ←holding [w] (getMethod w m pl)
   callWith pos g one (backTo pos (starEach (e :: es) X.env)) (backToKw pos (keywordEach [] X.env)))) :
  PE X (.Call (.Attribute o m apos) (e :: es) [] pos) (LfE X.K W fun ρ G Q E=>w1 ρ G (fun x G1=>BI C m x G1∧wa ρ G1 (fun ds G2=>F.con (x :: (ds++F.dfl.drop ((e :: es).length+1+F.dfl.length - F.ar))) G2 Q E) E) E):=by
 obtain⟨a,fd,ps,hok,hc,hm,hbind⟩:=oc.tb.ms C m F hF
 obtain⟨ds,dvs,hb,hv,hd⟩:=hbind (e :: es).length h1 h2
 exact PE.imp (oA (E:=WE W) ho hc hm hok oc.room hb hv (fun σ=>L2N.passAt oc.tk σ) ha hst hpl ht) (wg hd fun _ _ _ z=>z)
theorem nU(oc:Oc X W Γ k){C m:Str}{F:FnE}{pl:Sem Bool}(hF:Γ.ms C m=some F)(h1:F.ar≤0+1+F.dfl.length)(h2:0+1≤F.ar)(ho:PE X o (LfE X.K W w1))
  (ht:eval (.Call (.Attribute o m apos) [] [] pos) X.env=(do
   let w ←eval o X.env
   standAt apos.atName
   let (g,one) ←holding [w] (getMethod w m pl)
   callWith pos g one (backTo pos (starEach [] X.env)) (backToKw pos (keywordEach [] X.env)))) :
  PE X (.Call (.Attribute o m apos) [] [] pos) (LfE X.K W fun ρ G Q E=>w1 ρ G (fun x G1=>BI C m x G1∧F.con (x :: ([]++F.dfl.drop (0+1+F.dfl.length - F.ar))) G1 Q E) E):=by
 obtain⟨a,fd,ps,hok,hc,hm,hbind⟩:=oc.tb.ms C m F hF
 obtain⟨ds,dvs,hb,hv,hd⟩:=hbind 0 h1 h2
 exact PE.imp (l7 (E:=WE W) ho hc hm hok oc.room hb hv (fun σ=>L2N.passAt oc.tk σ) ht)
  (wg (wa:=fun _ G Q _=>Q [] G) hd fun _ _ _ ⟨ρ,G,Qa,Ea,hE,hG,hw,hp,hx⟩=>hp [] G [] _ .refl hG .nil hw)
theorem oz{K:M0}{H:Hp}{pm:List Nat}{vs:List V}{ds:List Dat}(h:Reps K H vs ds):Reps K H (jN pm vs) (jN pm ds):=by
 induction pm with
 |nil=>exact .nil
 |cons i pm ih =>
  unfold jN
  rw[List.filterMap_cons,List.filterMap_cons]
  cases e:ds[i]? with
  |none =>
   have e2:vs[i]?=none:=by rw[List.getElem?_eq_none_iff]at e ⊢;rw[h.length];exact e
   rw[e2]
   exact ih
  |some d =>
   obtain⟨v,e2,r⟩:=h.get e
   rw[e2]
   exact .cons r ih
def C4(C:Addr)(m:Str)(n:Nat)(ks:List Str)(sp:Sp)(gV:List V→List V→List V)(E:L2.St→XK)(to:TE)(t tk:TA):TE:=fun σ H Q=>to σ H fun x H1=>∃b dx fs,x = .ref b∧H1 b=some (.ins C dx fs)∧fs.lookup m=none∧
 t σ H1 fun vs H2=>tk σ H2 fun zs H3=>vs.length=n∧zs.length=ks.length∧sp (gV (x :: vs) zs) H3 Q (E σ)
theorem kL{CX:CXT}{f:Addr}{fd:FuncData}{ps ks:List Str}{sp:Sp}{E:L2.St→XK}{n:Nat}{g:List Value→List Value→List Value}{gV:List V→List V→List V}{pins:List (Addr × Obj)}{σ:L2.St}{H:Hp}{s:Shared}{Q:VK}{us ws:List Value}{vs zs:List V}
  (F:FnOk X.prog X.w X.K X.mg X.base CX k f fd ps sp)(hr:Room k X.A)(hb:KBn X.K fd ps n ks g gV)(hx:PassesAt CX X σ (E σ))(I:Inv X pins σ H s)(r:Vals vs us)(rz:Vals zs ws)(l1:vs.length=n)(l2:zs.length=ks.length)(h:sp (gV vs zs) H Q (E σ)) :
  wpAny (model X.prog X.w) X.A (call (.ref f) us (ks.zip ws)) (EP X pins σ Q) X.xe s:=by
 have r2:=hb.rel r rz
 refine wpAny_call (codeAny_mono (F.run X.A X.stack s H ⟨us,ks.zip ws⟩ (g us ws) (gV vs zs) Q (E σ) hr I.env0 (hb.to s us ws I.kIn (r.length.symm.trans l1) (rz.length.symm.trans l2)) r2 h) fun r s' hq=>?_)
 cases r with
 |error e=>exact hx pins H s e s' I hq
 |ok fl =>
  cases fl with
  |ret u=>exact I.after hq
  |next=>exact False.elim hq
  |brk=>exact False.elim hq
  |cont=>exact False.elim hq
theorem tP{CX:CXT}{C f:Addr}{m:Str}{fd:FuncData}{ps ks:List Str}{sp:Sp}{E:L2.St→XK}{to:TE}{t tk:TA}{kws:List Keyword}{n:Nat}{g:List Value→List Value→List Value}{gV:List V→List V→List V}{pl:Sem Bool}
  (he:PE X o to)(c:Cls X.K C)(hm:Meth X.K C m f)(F:FnOk X.prog X.w X.K X.mg X.base CX k f fd ps sp)(hr:Room k X.A)(hb:KBn X.K fd ps (n+1) ks g gV)(hx:∀σ,PassesAt CX X σ (E σ))(ha:PA X es t)(hkw:PK X kws tk)
  (hall:(backToKw pos (keywordEach kws X.env)).all (·.1.isSome)=true)(hks:(backToKw pos (keywordEach kws X.env)).filterMap (·.1)=ks)
  (hst:∀e es',es=e :: es'→starEach es X.env=(false,eval e X.env) :: starEach es' X.env)(hpl:((backTo pos (starEach es X.env)).any (·.1)|| (backToKw pos (keywordEach kws X.env)).any (·.1.isNone))=false)
  (hnil:∀σ H Q,es=[]→t σ H Q→Q [] H)
  (ht:eval (.Call (.Attribute o m apos) es kws pos) X.env=(do
   let w ←eval o X.env
   standAt apos.atName
   let (g,one) ←holding [w] (getMethod w m pl)
   callWith pos g one (backTo pos (starEach es X.env)) (backToKw pos (keywordEach kws X.env)))):PE X (.Call (.Attribute o m apos) es kws pos) (C4 C m n ks sp gV E to t tk):=by
 refine⟨fun pins s σ H Q I h=>?_⟩
 refine PySem.W.methodCall_KW (pl:=pl) (thn (he.run pins s σ H _ I h) fun u s1 ⟨x,H1,I1,rx,b,dx,fs,ex,eb,l,q⟩=>?_) ht
 subst ex
 obtain rfl:u=Value.ref b:=rx
 refine getmeth_ok I1 eb c hm l ?_
 cases es with
 |nil =>
  have q:=hnil _ _ _ rfl q
  refine PySem.W.callWith_KW0 (first:=[.ref b]) (h₀:=X.base) I.ok.mod.kin hm.kp hall (thn (hkw.run pos pins s1 σ H1 _ I1 q) fun ws s2 ⟨zs,H2,I2,rz,l1,l2,q2⟩=>⟨I2.kIn,?_⟩) hpl
  rw[hks]
  exact kL (us:=[.ref b]) (vs:=[.ref b]) F hr hb (hx σ) I2 (.cons rfl .nil) rz (congrArg (· +1) l1) l2 q2
 |cons e es =>
  refine PySem.W.callWith_KW (first:=[.ref b]) (h₀:=X.base) I.ok.mod.kin hm.kp hall (thn (ha.run pos pins s1 σ H1 _ I1 q) fun us s2 ⟨vs,H2,I2,r,q2⟩=>?_) hpl (hst e es rfl)
  refine thn (hkw.run pos pins s2 σ H2 _ I2 q2) fun ws s3 ⟨zs,H3,I3,rz,l1,l2,q3⟩=>⟨I3.kIn,?_⟩
  rw[hks]
  exact kL (us:=.ref b :: us) (vs:=.ref b :: vs) F hr hb (hx σ) I3 (.cons rfl r) rz (congrArg (· +1) l1) l2 q3
theorem Al(oc:Oc X W Γ k){C m:Str}{ks:List Str}{F:FnE × List Nat}{kws:List Keyword}{n:Nat}{wk:aj→AG→(List Dat→AG→Prop)→AX→Prop}{pl:Sem Bool}(hF:Γ.mn C m n ks=some F)(ho:PE X o (LfE X.K W w1))(ha:PA X es (LfA X.K W wa))(hkw:PK X kws (LfA X.K W wk))
  (hall:(backToKw pos (keywordEach kws X.env)).all (·.1.isSome)=true)(hks:(backToKw pos (keywordEach kws X.env)).filterMap (·.1)=ks)
  (hst:∀e es',es=e :: es'→starEach es X.env=(false,eval e X.env) :: starEach es' X.env)(hpl:((backTo pos (starEach es X.env)).any (·.1)|| (backToKw pos (keywordEach kws X.env)).any (·.1.isNone))=false)
  (hnil:∀ρ G Q E,es=[]→wa ρ G Q E→Q [] G)
  (ht:eval (.Call (.Attribute o m apos) es kws pos) X.env=(do
   let w ←eval o X.env
   standAt apos.atName
   let (g,one) ←holding [w] (getMethod w m pl)
   callWith pos g one (backTo pos (starEach es X.env)) (backToKw pos (keywordEach kws X.env)))) :
  PE X (.Call (.Attribute o m apos) es kws pos) (LfE X.K W fun ρ G Q E=>w1 ρ G (fun x G1=>BI C m x G1∧wa ρ G1 (fun ds G2=>wk ρ G2 (fun zs G3=>ds.length=n∧zs.length=ks.length∧F.1.con (jN F.2 ((x :: ds)++zs++F.1.dfl)) G3 Q E) E) E) E):=by
 obtain⟨F,pm⟩:=F
 obtain⟨a,fd,ps,dvs,its,hok,hc,hm,hb,hd⟩:=oc.tb.mn C m n ks F pm hF
 refine PE.imp (tP (E:=WE W) ho hc hm hok oc.room hb (fun σ=>L2N.passAt oc.tk σ) ha hkw hall hks hst hpl (fun σ H Q e ⟨ρ,G,Qa,Ea,hE,hG,hw,hp,hx⟩=>hp [] G [] _ .refl hG .nil (hnil _ _ _ _ e hw)) ht) ?_
 rintro σ H Q ⟨ρ,G,Qa,Ea,hE,hG,hw,hp,hx⟩
 refine⟨ρ,G,_,Ea,hE,hG,hw,fun d G1 v H1 f g r q=>?_,hx⟩
 obtain⟨b,fs,rfl,k1,k2⟩:=lj q.1
 cases aK r
 obtain⟨dx,vf,k3,k4⟩:=g.ins k1
 refine⟨b,dx,vf,rfl,k3,gQ k4 k2,⟨ρ,G1,_,Ea,hE.mono (f.stab hG),g,q.2,fun ds G2 vs H2 f2 g2 r2 q2=>?_,hx.fra f⟩⟩
 refine⟨ρ,G2,_,Ea,hE.mono ((f.trans f2).stab hG),g2,q2,fun zs G3 us H3 f3 g3 r3 q3=>?_,hx.fra (f.trans f2)⟩
 refine⟨r2.length.trans q3.1,r3.length.trans q3.2.1,_,G3,Qa,Ea,oz (pm:=pm) (((Reps.cons (.ref b) (r2.mono (f3.stab g2))).append r3).append (hd H3)),g3,q3.2.2,fun d' G' v' H' f4=>hp d' G' v' H' (((f.trans f2).trans f3).trans f4),hx.fra ((f.trans f2).trans f3)⟩
def ni(C:Addr)(sp:Sp)(dvs:List V)(E:L2.St→XK)(t:TA):TE:=fun σ H Q=>t σ H fun vs H1=>∀x dx,H1 x=none→H1 dx=none→dx≠x→
 sp (.ref x :: (vs++dvs)) (upd (upd H1 dx (.own x)) x (.ins C dx [])) (fun v H2=>v = .non∧Q (.ref x) H2) (E σ)
theorem fL{CX:CXT}{C f:Addr}{fd:FuncData}{ps:List Str}{sp:Sp}{dvs:List V}{ds:List Value}{E:L2.St→XK}{pins:List (Addr × Obj)}{σ:L2.St}{H:Hp}{s:Shared}{Q:VK}{us:List Value}{vs:List V}(M:Mk X.K C f)(F:FnOk X.prog X.w X.K X.mg X.base CX k f fd ps sp)(hr:Room (k+1) X.A)
  (hb:Binds X.K fd ps ds)(hd:Vals dvs ds)(hx:PassesAt CX X σ (E σ))(I:Inv X pins σ H s)(r:Vals vs us)
  (h:∀x dx,H x=none→H dx=none→dx≠x→sp (.ref x :: (vs++dvs)) (upd (upd H dx (.own x)) x (.ins C dx [])) (fun v H2=>v = .non∧Q (.ref x) H2) (E σ)) :
  wpAny (model X.prog X.w) X.A (call (.ref C) us) (EP X pins σ Q) X.xe s:=by
 have q0:=h (s.heap.objs.size+1) s.heap.objs.size (I.hok.fresh (Nat.le_succ _)) (I.hok.fresh (M7 _)) (Nat.ne_of_lt (Nat.lt_succ_self _))
 have J:=Inv.made (C:=C) I
 have rr:Vals (V.ref (s.heap.objs.size+1) :: (vs++dvs)) (Value.ref (s.heap.objs.size+1) :: (us++ds)):=.cons rfl (r.append hd)
 have ll:(Value.ref (s.heap.objs.size+1) :: us++ds).length=ps.length:=by
  have z:=rr.length
  rw[F.len _ _ _ _ q0]at z
  exact z.symm
 refine wpAny_call (make_map (f:=f) I.kIn M.makes M.init (beq_iff_eq.mp M.fn) (codeAny_mono (F.run _ X.stack _ _ ⟨Value.ref (s.heap.objs.size+1) :: us,[]⟩ (Value.ref (s.heap.objs.size+1) :: (us++ds)) _ _ (E σ) (hr.make C us []) (J.env0.make C us []) (hb _ (Value.ref (s.heap.objs.size+1) :: us) J.kIn ll) rr q0) fun res s' hq=>?_))
 cases res with
 |error e=>exact hx pins _ _ e s' J hq
 |ok fl =>
  cases fl with
  |ret u =>
   obtain⟨v,H',J3,rv,ev,q3⟩:=J.after hq
   subst ev
   exact⟨rv,⟨V.ref (s.heap.objs.size+1),H',J3,rfl,q3⟩⟩
  |next=>exact False.elim hq
  |brk=>exact False.elim hq
  |cont=>exact False.elim hq
theorem FnOk.room{P:Program}{w:World}{K:M0}{mg:Str→Option Value}{base:Heap}{CX:CXT}{f:Addr}{fd:FuncData}{ps:List Str}{sp:Sp}{j:Nat}(F:FnOk P w K mg base CX j f fd ps sp){k:Nat}(h:j≤k):FnOk P w K mg base CX k f fd ps sp:=F.mono h
theorem wm{F:FnE}{C:Str}{dvs:List V}{n:Nat}{t:TA}(hd:∀H,Reps X.K H dvs (F.dfl.drop n))(ht:∀σ H Q,LfA X.K W wa σ H Q→t σ H Q)(σ:L2.St)(H:Hp)(Q:VK)
  (h:LfE X.K W (fun ρ G Q E=>wa ρ G (fun ds G1=>∀p,G1 p=none→F.con (.ref p :: (ds++F.dfl.drop n)) (gu G1 p (.ins C [])) (fun d G2=>d = .non∧Q (.ref p) G2) E) E) σ H Q):ni (He.ga X.K C) (bF X.K F) dvs (WE W) t σ H Q:=by
 obtain⟨ρ,G,Qa,Ea,hE,hG,hw,hp,hx⟩:=h
 refine ht _ _ _ ⟨ρ,G,_,Ea,hE,hG,hw,fun ds G1 vs H1 f g r q x dx hx1 hdx hne=>?_,hx⟩
 have g1:=g.newT (o:=.own x) hdx
 have e1:(upd H1 dx (.own x)) x=none:=by rw[upd_ne (Ne.symm hne)];exact hx1
 have n1:G1 x=none:=g.free hx1
 have f1:Fra G1 H1 (gu G1 x (.ins C [])) (upd (upd H1 dx (.own x)) x (.ins (He.ga X.K C) dx [])):=(Fra.newT hdx).trans (.new e1)
 have g2:RelG X.K (gu G1 x (.ins C [])) (upd (upd H1 dx (.own x)) x (.ins (He.ga X.K C) dx [])):=g1.new e1 (show AOk X.K _ x (.ins C []) from ⟨dx,[],upd_same,.nil⟩)
 refine⟨_,_,_,Ea,.cons (.ref x) ((r.mono (f1.stab g)).append (hd _)),g2,q x n1,fun d' G' v' H' f3 g3 r3 q3=>?_,hx.fra (f.trans f1)⟩
 obtain⟨rfl,q3⟩:=q3
 exact⟨nZ r3,hp _ _ _ _ ((f.trans f1).trans f3) g3 (.ref x) q3⟩
theorem DL(oc:Oc X W Γ k){C:Str}{F:FnE}{e:Expr}(hF:Γ.mke C=some F)(hg:Gl X C)(hdb:(C == ("__debug__" : Str))=false)(h1:F.ar≤(e :: es).length+1+F.dfl.length)(h2:(e :: es).length+1≤F.ar)(ha:PA X (e :: es) (LfA X.K W wa))
  (hst:starEach (e :: es) X.env=(false,eval e X.env) :: starEach es X.env)(hpl:(backTo pos (starEach es X.env)).any (·.1)=false) :
  PE X (.Call (.Name C p) (e :: es) [] pos) (LfE X.K W fun ρ G Q E=>wa ρ G (fun ds G1=>∀p,G1 p=none→F.con (.ref p :: (ds++F.dfl.drop ((e :: es).length+1+F.dfl.length - F.ar))) (gu G1 p (.ins C [])) (fun d G2=>d = .non∧Q (.ref p) G2) E) E):=by
 obtain⟨a,fd,ps,j,hj,hok,hM,hm,hbind⟩:=oc.tb.mke C F hF
 obtain⟨ds,dvs,hb,hv,hd⟩:=hbind (e :: es).length h1 h2
 refine PE.imp (t:=ni (He.ga X.K C) (bF X.K F) dvs (WE W) (LfA X.K W wa)) ⟨fun pins s σ H Q I h=>?_⟩ (wm hd fun _ _ _ z=>z)
 refine wpAny_Call_Name_kw (ld_glob I hg hm ?_ hdb)
 refine PySem.W.callWith_K (h₀:=X.base) I.ok.mod.kin hM.kp (thn (ha.run pos pins s σ H _ I h) fun us s1 ⟨vs,H1,I1,r,q⟩=>⟨I1.kIn,?_⟩) hst hpl
 exact fL hM hok (oc.room.mono hj) hb hv (L2N.passAt oc.tk σ) I1 r q
theorem Ak(oc:Oc X W Γ k){C:Str}{F:FnE}(hF:Γ.mke C=some F)(hg:Gl X C)(hdb:(C == ("__debug__" : Str))=false)(h1:F.ar≤0+1+F.dfl.length)(h2:0+1≤F.ar) :
  PE X (.Call (.Name C p) [] [] pos) (LfE X.K W fun ρ G Q E=>∀p,G p=none→F.con (.ref p :: ([]++F.dfl.drop (0+1+F.dfl.length - F.ar))) (gu G p (.ins C [])) (fun d G2=>d = .non∧Q (.ref p) G2) E):=by
 obtain⟨a,fd,ps,j,hj,hok,hM,hm,hbind⟩:=oc.tb.mke C F hF
 obtain⟨ds,dvs,hb,hv,hd⟩:=hbind 0 h1 h2
 refine PE.imp (t:=ni (He.ga X.K C) (bF X.K F) dvs (WE W) tNil) ⟨fun pins s σ H Q I h=>?_⟩ (wm (wa:=fun _ G Q _=>Q [] G) hd fun _ _ _ ⟨ρ,G,Qa,Ea,hE,hG,hw,hp,hx⟩=>hp [] G [] _ .refl hG .nil hw)
 refine wpAny_Call_Name_kw (ld_glob I hg hm ?_ hdb)
 exact PySem.W.callWith_K0 I.kIn hM.kp (fL (us:=[]) hM hok (oc.room.mono hj) hb hv (L2N.passAt oc.tk σ) I .nil h)
end
end Av
namespace Av
variable [Tb]
theorem cG{K:M0}{H:Hp}:∀{vk:List (Key × V)} {kvs:List (Key × Dat)},KRel K H vk kvs→vk.length=kvs.length
 |_,_,.nil=>rfl
 |_,_,.cons _ r=>congrArg (· +1) (cG r)
theorem RelG.dk{K:M0}{G:AG}{H:Hp}{p:Addr}{kvs:List (Key × Dat)}(g:RelG K G H)(e:G p=some (.dk kvs)):∃vk,H p=some (.dK vk)∧KRel K H vk kvs:=g.g p _ e
theorem km{K:M0}{H:Hp}:∀{ks:List Key} {xs:List V} {ds:List Dat},Reps K H xs ds→KRel K H (ks.zip xs) (ks.zip ds)
 |[],_,_,_=>.nil
 |_ :: _,_,_,.nil=>.nil
 |_ :: _,_,_,.cons h r=>.cons ⟨rfl,h⟩ (km r)
theorem dP{K:M0}{G:AG}{H:Hp}{v:V}{x:Dat}{kvs:List (Key × Dat)}(g:RelG K G H)(r:Rep K H v x)(e:cO G x=some kvs):∃p vk,v = .ref p∧Rd H p (.dK vk)∧KRel K H vk kvs:=by
 cases x with
 |ref p =>
  cases aK r
  have e1:G p=some (.dk kvs):=by
   cases q:G p with
   |none=>simp only[cO,q]at e;cases e
   |some o =>
    cases o with
    |dk k2=>simp only[cO,q]at e;cases e;rfl
    |_=>simp only[cO,q]at e;cases e
  obtain⟨vk,h1,h2⟩:=g.dk e1
  exact⟨p,vk,rfl,.inl h1,h2⟩
 |dz ks ds =>
  cases e
  cases r with
  |dz h _ h2=>exact⟨_,_,rfl,.inr h,km h2⟩
 |_=>cases e
theorem bE{G:AG}{p:Addr}{kvs:List (Key × Dat)}(e:G p=some (.dk kvs)):cO G (.ref p)=some kvs:=by unfold cO;simp only[e]
theorem u8{x y:Dat}{G:AG}{Q:AQ}(h:Jd x y G Q):∃kvs k v,cO G x=some kvs∧cC y=some k∧au kvs k=some v∧Q v G:=by
 cases x with
 |ref p=>obtain⟨kvs,k,v,h0,h⟩:=h;exact⟨kvs,k,v,bE h0,h⟩
 |dz ks ds=>obtain⟨k,v,h⟩:=h;exact⟨_,k,v,rfl,h⟩
 |_=>exact False.elim h
theorem jg{x z y:Dat}{G:AG}{Q:AQ}(h:qC x z y G Q):∃kvs k,cO G x=some kvs∧cC y=some k∧Q ((au kvs k).getD z) G:=by
 cases x with
 |ref p=>obtain⟨kvs,k,h0,h⟩:=h;exact⟨kvs,k,bE h0,h⟩
 |dz ks ds=>obtain⟨k,h⟩:=h;exact⟨_,k,rfl,h⟩
 |_=>exact False.elim h
theorem li{x:Dat}{G:AG}(h:Fn G x):∃kvs,cO G x=some kvs:=by
 cases x with
 |ref p=>obtain⟨kvs,h⟩:=h;exact⟨kvs,bE h⟩
 |dz ks ds=>exact⟨_,rfl⟩
 |_=>exact False.elim h
theorem i5{x:Dat}{G:AG}(h:pQ G x):∃p kvs,x = .ref p∧G p=some (.dk kvs):=by
 cases x with
 |ref p=>obtain⟨kvs,h⟩:=h;exact⟨p,kvs,rfl,h⟩
 |_=>exact False.elim h
theorem qy{x k v:Dat}{G:AG}{Q:AG→Prop}(h:B8 x k v G Q):∃p kvs y,x = .ref p∧G p=some (.dk kvs)∧cC k=some y∧kvs.length<sizeLine∧Q (gu G p (.dk (bG kvs y v))):=by
 cases x with
 |ref p=>obtain⟨kvs,y,h⟩:=h;exact⟨p,kvs,y,rfl,h⟩
 |_=>exact False.elim h
section
variable {X:Cx} {W:WX} {Γ:Gam} {k:Nat} {a b c o e f:Expr} {pos p apos:Pos} {w1 w2 w3:aj→AG→AQ→AX→Prop}
theorem Oc.u1(oc:Oc X W Γ k):X.A.units+1<cLine:=Nat.lt_of_le_of_lt (Nat.add_le_add_left (by decide) _) oc.room.units
theorem DX(oc:Oc X W Γ k)(hs:NoSl b)(h1:PE X a (LfE X.K W w1))(h2:PE X b (LfE X.K W w2)):PE X (.Subscript a b pos) (LfE X.K W fun ρ G Q E=>w1 ρ G (fun x G1=>w2 ρ G1 (fun y G2=>Jd x y G2 Q) E) E):=by
 refine PE.imp (pe_dget oc.u1 h1 h2 hs) ?_
 rintro σ H Q ⟨ρ,G,Qa,Ea,hE,hG,hw,hp,hx⟩
 refine⟨ρ,G,_,Ea,hE,hG,hw,fun d G1 v H1 f g r1 q=>⟨ρ,G1,_,Ea,hE.mono (f.stab hG),g,q,fun e G2 u H2 f2 g2 r2 q2=>?_,hx.fra f⟩,hx⟩
 obtain⟨kvs,kk,dv,k1,k2,k3,k4⟩:=u8 q2
 cases bC r2 k2
 obtain⟨p,vk,rfl,k5,k6⟩:=dP g2 (r1.mono (f2.stab g)) k1
 obtain⟨v',k7,k8⟩:=(bq k6).1 dv k3
 exact⟨p,v',rfl,.inl ⟨vk,kk,k5,rfl,k7.symm⟩,hp _ _ _ _ (f.trans f2) g2 k8 k4⟩
theorem qB{K:M0}{H:Hp}{p:Addr}{y:V}{dy z:Dat}{vz:V}{vk:List (Key × V)}{kvs:List (Key × Dat)}{kk:Key}(k5:Rd H p (.dK vk))(k6:KRel K H vk kvs)(ry:Rep K H y dy)(k2:cC dy=some kk)(rz:Rep K H vz z) :
  ∃ov,DGet H p y ov∧Rep K H (ov.getD vz) ((au kvs kk).getD z):=by
 cases bC ry k2
 refine⟨valV vk kk,.inl ⟨vk,kk,k5,rfl,rfl⟩,?_⟩
 cases e:au kvs kk with
 |none=>rw[(bq k6).2 e];exact rz
 |some d =>
  obtain⟨v',k7,k8⟩:=(bq k6).1 d e
  rw[k7]
  exact k8
theorem vd{X:Cx}{pins:List (Addr × Obj)}{σ:L2.St}{H:Hp}{s:Shared}{A:Around}{E:Value→Shared→Prop}{a b:Addr}{kvs more:List (Key × V)}{Q:Value→Shared→Prop}(I:Inv X pins σ H s)(e:H a=some (.dK kvs))(e2:H b=some (.dK more))(hne:a≠b)(hz:kvs.length+more.length≤sizeLine)
  (h:∀s',Inv X pins σ (upd H a (.dK (mergeK kvs more))) s'→Q .none s'):wpAny (model X.prog X.w) A (call (.builtin "dict.update") [.ref a,.ref b]) Q E s:=by
 obtain⟨z,hd,vs,rel,dd⟩:=dk_of I.hok e
 obtain⟨z2,hd2,vs2,rel2,dd2⟩:=dk_of I.hok e2
 refine call_meetsIn PySem.F.slot_dict_update dd.typeIs PySem.F.entry_dict_update (PySem.F.args_dict_update_2 _ _) (meets_dict_update (mixKind X.prog X.w) a b hne hd2) ⟨vs,vs2,dd,dd2,by rw[←rel.length,←rel2.length];exact hz,fun h' dd' dd2' hs=>h _ ?_⟩
 have he:∃q,h'.get? a=some q:=let ⟨q,_,_,hq,_⟩:=dd';⟨q,hq⟩
 have hl:=length_mergeK more kvs
 exact d_write (t':=s.toks) I (by rw[e];exact True.intro) hs he (dk_new (by omega) hd (KV.merge rel2 rel) dd')
def H9:V→List V→Hp→VK→Prop:=fun x vs H Q=>∃(a b:Addr) (kvs more:List (Key × V)),x = .ref a∧vs=[.ref b]∧H a=some (.dK kvs)∧H b=some (.dK more)∧a≠b∧kvs.length+more.length≤sizeLine∧Q .non (upd H a (.dK (mergeK kvs more)))
theorem me{X:Cx}:MtR X "dict.update" H9:=by
 intro pins s σ H x vs v us Q I rx rv h
 obtain⟨a,b,kvs,more,ex,ev,e,e2,hne,hz,q⟩:=h
 subst ex
 subst ev
 obtain rfl:v=Value.ref a:=rx
 obtain⟨u,rfl,ru⟩:=rv.one
 obtain rfl:u=Value.ref b:=ru
 exact vd I e e2 hne hz fun s' I'=>⟨.non,_,I',rfl,q⟩
theorem qx{x y:Dat}{G:AG}{Q:AQ}(h:u0 x y G Q):∃p b kvs more,x = .ref p∧y = .ref b∧G p=some (.dk kvs)∧G b=some (.dk more)∧p≠b∧kvs.length+more.length≤sizeLine∧Q .non (gu G p (.dk (aY kvs more))):=by
 unfold u0 at h
 split at h
 ·obtain⟨kvs,more,h⟩:=h
  exact⟨_,_,kvs,more,rfl,rfl,h⟩
 ·exact False.elim h
theorem Aq(oc:Oc X W Γ k)(h1:PE X o (LfE X.K W w1))(h2:PE X e (LfE X.K W w2))(hbase:attributeBase o "update" X.env (eval o X.env)=eval o X.env)
  (hfew:((backTo pos (starEach [e] X.env)).all (fun x=>!x.1) && (backToKw pos (keywordEach [] X.env)).all (fun x=>x.1.isSome) && decide (([e]:List Expr).length+([]:List Keyword).length+(if ([]:List Keyword).isEmpty then 0 else 1)<30))=true)
  (hline:(apos.endLine == pos.line)=true)(hs:starEach [e] X.env=(false,eval e X.env) :: starEach [] X.env) :
  PE X (.Call (.Attribute o "update" apos) [e] [] pos) (LfE X.K W fun ρ G Q E=>w1 ρ G (fun x G1=>pQ G1 x∧w2 ρ G1 (fun y G2=>u0 x y G2 Q) E) E):=by
 refine PE.imp (pe_bm PySem.F.plainAttrs_dict PySem.F.slot_dict_update PySem.F.type_dict_update me h1 (pa_cons h2 pa_nil hs) hbase hfew hline hs (by rfl)) ?_
 rintro σ H Q ⟨ρ,G,Qa,Ea,hE,hG,hw,hp,hx⟩
 refine⟨ρ,G,_,Ea,hE,hG,hw,fun d G1 v H1 f g r1 q=>?_,hx⟩
 obtain⟨p,kv0,rfl,k0⟩:=i5 q.1
 cases aK r1
 obtain⟨vk0,h0,_⟩:=g.dk k0
 refine⟨?_,ρ,G1,_,Ea,hE.mono (f.stab hG),g,q.2,fun e G2 u H2 f2 g2 r2 q2=>?_,hx.fra f⟩
 ·exact .inr (.inr (.inl ⟨rfl,.inl ⟨vk0,h0⟩⟩))
 obtain⟨p',b,kvs,more,e1,e2,k1,k2,k3,k4,k5⟩:=qx q2
 cases e1
 subst e2
 cases aK r2
 obtain⟨vk,h3,h4⟩:=g2.dk k1
 obtain⟨vm,h5,h6⟩:=g2.dk k2
 have f3:Fra G2 H2 (gu G2 p (.dk (aY kvs more))) (upd H2 p (.dK (mergeK vk vm))):=.set k1
 refine⟨p,b,vk,vm,rfl,rfl,h3,h5,k3,by rw[cG h4,cG h6];exact k4,hp _ _ _ _ ((f.trans f2).trans f3) (g2.set k1 (show AOk X.K _ p (.dk (aY kvs more)) from ⟨_,upd_same,KRel.mono (g2.stabSet (o:=.dK (mergeK vk vm)) k1) (eg h6 h4)⟩)) .non k5⟩
theorem s9(oc:Oc X W Γ k)(h1:PE X o (LfE X.K W w1))(h2:PE X e (LfE X.K W w2))(m:M1 X o "get" apos e pos):PE X (.Call (.Attribute o "get" apos) [e] [] pos) (LfE X.K W fun ρ G Q E=>w1 ρ G (fun x G1=>Fn G1 x∧w2 ρ G1 (fun y G2=>qC x .non y G2 Q) E) E):=by
 refine PE.imp (pe_dget1 oc.u1 h1 h2 m) ?_
 rintro σ H Q ⟨ρ,G,Qa,Ea,hE,hG,hw,hp,hx⟩
 refine⟨ρ,G,_,Ea,hE,hG,hw,fun d G1 v H1 f g r1 q=>?_,hx⟩
 obtain⟨kv0,k0⟩:=li q.1
 obtain⟨p,vk0,rfl,rd0,_⟩:=dP g r1 k0
 refine⟨p,rfl,.inl ⟨vk0,rd0⟩,ρ,G1,_,Ea,hE.mono (f.stab hG),g,q.2,fun e G2 u H2 f2 g2 r2 q2=>?_,hx.fra f⟩
 obtain⟨kvs,kk,k1,k2,k4⟩:=jg q2
 obtain⟨p',vk,e1,rd,kr⟩:=dP g2 (r1.mono (f2.stab g)) k1
 cases e1
 obtain⟨ov,h3,h4⟩:=qB rd kr r2 k2 (.non:Rep X.K H2 .non .non)
 exact⟨ov,h3,hp _ _ _ _ (f.trans f2) g2 h4 k4⟩
theorem s8(oc:Oc X W Γ k)(h1:PE X o (LfE X.K W w1))(h2:PE X e (LfE X.K W w2))(h3:PE X f (LfE X.K W w3))(m:M2 X o "get" apos e f pos) :
  PE X (.Call (.Attribute o "get" apos) [e,f] [] pos) (LfE X.K W fun ρ G Q E=>w1 ρ G (fun x G1=>Fn G1 x∧w2 ρ G1 (fun y G2=>w3 ρ G2 (fun z G3=>qC x z y G3 Q) E) E) E):=by
 refine PE.imp (pe_dget2 oc.u1 h1 h2 h3 m) ?_
 rintro σ H Q ⟨ρ,G,Qa,Ea,hE,hG,hw,hp,hx⟩
 refine⟨ρ,G,_,Ea,hE,hG,hw,fun d G1 v H1 f g r1 q=>?_,hx⟩
 obtain⟨kv0,k0⟩:=li q.1
 obtain⟨p,vk0,rfl,rd0,_⟩:=dP g r1 k0
 refine⟨p,rfl,.inl ⟨vk0,rd0⟩,ρ,G1,_,Ea,hE.mono (f.stab hG),g,q.2,fun e G2 u H2 f2 g2 r2 q2=>⟨ρ,G2,_,Ea,hE.mono ((f.trans f2).stab hG),g2,q2,fun e3 G3 t H3 f3 g3 r3 q3=>?_,hx.fra (f.trans f2)⟩,hx.fra f⟩
 obtain⟨kvs,kk,k1,k2,k4⟩:=jg q3
 obtain⟨p',vk,e1,rd,kr⟩:=dP g3 ((r1.mono (f2.stab g)).mono (f3.stab g2)) k1
 cases e1
 obtain⟨ov,h3,h4⟩:=qB rd kr (r2.mono (f3.stab g2)) k2 r3
 exact⟨ov,h3,hp _ _ _ _ ((f.trans f2).trans f3) g3 h4 k4⟩
theorem qz{x z y:Dat}{G:AG}{Q:AQ}(h:B9 x y z G Q):∃p kvs k,x = .ref p∧G p=some (.dk kvs)∧cC y=some k∧(∀v,au kvs k=some v→Q v (gu G p (.dk (c9 kvs k))))∧(au kvs k=none→Q z G):=by
 cases x with
 |ref p=>obtain⟨kvs,k,h⟩:=h;exact⟨p,kvs,k,rfl,h⟩
 |_=>exact False.elim h
theorem pM{K:M0}{H:Hp}(k:Key):∀{vk:List (Key × V)} {kvs:List (Key × Dat)},KRel K H vk kvs→KRel K H (dropK vk k) (c9 kvs k)
 |[],[],.nil=>.nil
 |x :: vk,y :: kvs,.cons r t=>by
  have ih:=pM k t
  by_cases e:x.1=k
  ·have e2:y.1=k:=by rw[←r.1];exact e
   have z1:dropK (x :: vk) k=dropK vk k:=List.filter_cons_of_neg (by simp[e])
   have z2:c9 (y :: kvs) k=c9 kvs k:=List.filter_cons_of_neg (by simp[e2])
   rw[z1,z2]
   exact ih
  ·have e2:¬y.1=k:=by rw[←r.1];exact e
   have z1:dropK (x :: vk) k=x :: dropK vk k:=List.filter_cons_of_pos (by simp[e])
   have z2:c9 (y :: kvs) k=y :: c9 kvs k:=List.filter_cons_of_pos (by simp[e2])
   rw[z1,z2]
   exact .cons r ih
theorem sY(oc:Oc X W Γ k)(h1:PE X o (LfE X.K W w1))(h2:PE X e (LfE X.K W w2))(h3:PE X f (LfE X.K W w3))(m:M2 X o "pop" apos e f pos) :
  PE X (.Call (.Attribute o "pop" apos) [e,f] [] pos) (LfE X.K W fun ρ G Q E=>w1 ρ G (fun x G1=>pQ G1 x∧w2 ρ G1 (fun y G2=>w3 ρ G2 (fun z G3=>B9 x y z G3 Q) E) E) E):=by
 refine PE.imp (pe_dpop2 h1 h2 h3 m) ?_
 rintro σ H Q ⟨ρ,G,Qa,Ea,hE,hG,hw,hp,hx⟩
 refine⟨ρ,G,_,Ea,hE,hG,hw,fun d G1 v H1 f g r1 q=>?_,hx⟩
 obtain⟨p,kv0,rfl,k0⟩:=i5 q.1
 cases aK r1
 obtain⟨vk0,h0,_⟩:=g.dk k0
 refine⟨p,rfl,.inl ⟨vk0,.inl h0⟩,ρ,G1,_,Ea,hE.mono (f.stab hG),g,q.2,fun e G2 u H2 f2 g2 r2 q2=>⟨ρ,G2,_,Ea,hE.mono ((f.trans f2).stab hG),g2,q2,fun e3 G3 t H3 f3 g3 r3 q3=>?_,hx.fra (f.trans f2)⟩,hx.fra f⟩
 obtain⟨p',kvs,kk,e1,k1,k2,q4,q5⟩:=qz q3
 cases e1
 obtain⟨vk,h4,h5⟩:=g3.dk k1
 have r2':=r2.mono (f3.stab g2)
 cases bC r2' k2
 refine⟨vk,kk,h4,rfl,fun v hv=>?_,fun hn=>?_⟩
 ·cases el:au kvs kk with
  |none=>rw[(bq h5).2 el]at hv;cases hv
  |some d =>
   obtain⟨v',k7,k8⟩:=(bq h5).1 d el
   rw[k7]at hv
   cases hv
   have f4:Fra G3 H3 (gu G3 p (.dk (c9 kvs kk))) (upd H3 p (.dK (dropK vk kk))):=.set k1
   exact hp _ _ _ _ (((f.trans f2).trans f3).trans f4) (g3.set k1 (show AOk X.K _ p (.dk (c9 kvs kk)) from ⟨_,upd_same,KRel.mono (g3.stabSet (o:=.dK (dropK vk kk)) k1) (pM kk h5)⟩)) (k8.mono (g3.stabSet (o:=.dK (dropK vk kk)) k1)) (q4 d el)
 ·cases el:au kvs kk with
  |none=>exact hp _ _ _ _ ((f.trans f2).trans f3) g3 r3 (q5 el)
  |some d =>
   obtain⟨v',k7,_⟩:=(bq h5).1 d el
   rw[k7]at hn
   cases hn
inductive Alt:List (Option Expr)→List Expr→List Expr→Prop
 |nil:Alt [] [] []
 |cons {k v:Expr} {ks:List (Option Expr)} {vs xs:List Expr}:Alt ks vs xs→Alt (some k :: ks) (v :: vs) (k :: v :: xs)
def ij(X:Cx)(pos:Pos)(ks:List (Option Expr))(vs:List Expr)(t:L2.St→Hp→(List (V × V)→Hp→Prop)→Prop):Prop :=
 ∀(pins:List (Addr × Obj)) (s:Shared) (σ:L2.St) (H:Hp) (Q:List (V × V)→Hp→Prop),Inv X pins σ H s→t σ H Q→
  wpAny (model X.prog X.w) X.A (evalPairs (pairTrees ks vs X.env pos)) (fun us s'=>∃ps H',Inv X pins σ H' s'∧VV ps us∧Q ps H') X.xe s
def kT:List V→List (V × V)
 |k :: v :: r=>(k,v) :: kT r
 |_=>[]
theorem B7:ij X pos [] [] fun _ H Q=>Q [] H:=fun pins s σ H Q I h=>pairTrees_nil_walk ⟨[],H,I,.nil,h⟩
theorem u6{ks:List (Option Expr)}{vs:List Expr}{tk tv:TE}{t:L2.St→Hp→(List (V × V)→Hp→Prop)→Prop}(hk:PE X a tk)(hv:PE X b tv)(hr:ij X pos ks vs t) :
  ij X pos (some a :: ks) (b :: vs) fun σ H Q=>tk σ H fun x H1=>tv σ H1 fun y H2=>t σ H2 fun ps H3=>Q ((x,y) :: ps) H3:=fun pins s σ H Q I h =>
 pairTrees_cons_walk (thn (hk.run pins s σ H _ I h) fun u s1 ⟨x,H1,I1,rx,q1⟩=>thn (hv.run pins s1 σ H1 _ I1 q1) fun w2 s2 ⟨y,H2,I2,ry,q2⟩ =>
  thn (hr pins s2 σ H2 _ I2 q2) fun ws s3 ⟨ps,H3,I3,rel,q3⟩=>⟨(x,y) :: ps,H3,I3,.cons ⟨rx,ry⟩ rel,q3⟩)
theorem Ew{keys:List (Option Expr)}{values:List Expr}{t:L2.St→Hp→(List (V × V)→Hp→Prop)→Prop}(h:ij X pos keys values t)(hall:keys.all (·.isSome)=true)(hl:keys.length=values.length)(h0:keys≠[])(h15:keys.length≤15) :
  PE X (.Dict keys values pos) (fun σ H Q=>∀p,H p=none→t σ (upd H p (.dK [])) fun ps H2=>H2 p=some (.dK [])∧∃kvs:List (Key × V),ps=kvs.map (fun kv=>(kV kv.1,kv.2))∧kvs.length≤15∧Q (.ref p) (upd H2 p (.dK (mergeK [] kvs)))):=by
 refine⟨fun pins s σ H Q I q=>?_⟩
 have fr:=I.hok.fresh (M7 s.heap.objs.size)
 have J:=I.laid (a:=s.heap.objs.size) (o:=.dK []) (h':=s.heap.push {cls:=.type "dict",data:=.dict #[]}) (t':=s.toks) (fun _ _ z=>Heap.get?_push_of_some _ z) (M7 _) (dk_empty s.heap I.big)
 refine wpAny_Dict_walk (knd:=mixKind X.prog X.w) hall hl h0 h15 (thn (h pins _ σ _ _ J (q _ fr)) fun ws s2 ⟨ps,H2,I2,rel,e,kvs,ep,lk,q2⟩=>?_)
 subst ep
 obtain⟨rs,cc,rk⟩:=carries_of (P:=X.prog) (w:=X.w) rel
 obtain⟨zz,hd,vs0,r0,dd⟩:=dk_of I2.hok e
 cases r0
 refine⟨rs,cc,dd,fun h' dd' hs=>⟨.ref s.heap.objs.size,_,?_,rfl,q2⟩⟩
 have hz:(mergeK [] kvs).length≤sizeLine:=by
  have h1:=length_mergeK kvs []
  rw[Mq]at h1
  rw[sizeLine_eq];omega
 have he:∃q,h'.get? s.heap.objs.size=some q:=let ⟨q,_,_,hq,_⟩:=dd';⟨q,hq⟩
 exact d_write I2 (by rw[e];exact True.intro) hs he (dk_new hz hd (rk.merge .nil) dd')
theorem eW{K:M0}{H:Hp}:∀{ds:List Dat} {kvs:List (Key × Dat)} {vs:List V},gI ds=some kvs→Reps K H vs ds→∃vk:List (Key × V),kT vs=vk.map (fun kv=>(kV kv.1,kv.2))∧KRel K H vk kvs
 |[],_,_,e,.nil=>by cases e;exact⟨[],rfl,.nil⟩
 |[_],_,_,e,_=>by cases e
 |k :: d :: r,kvs,_,e,.cons h1 (.cons h2 h3)=>by
  unfold gI at e
  split at e
  ·rename_i x kv2 e1 e2
   cases e
   obtain⟨vk,k1,k2⟩:=eW e2 h3
   cases bC h1 e1
   exact⟨(x,_) :: vk,by show _ :: kT _=_;rw[k1];rfl,.cons ⟨rfl,h2⟩ k2⟩
  ·cases e
theorem Soft.dK{xs:List (Key × V)}:Soft (.dK xs):=⟨fun _ z=>(by cases z),fun _ _ z=>(by cases z),fun _ z=>(by cases z),fun _ z=>(by cases z),fun _ _ z=>(by cases z),fun _ _ z=>by cases z⟩
def LfD(K:M0)(W:WX)(w:aj→AG→(List Dat→AG→Prop)→AX→Prop):L2.St→Hp→(List (V × V)→Hp→Prop)→Prop:=fun σ H Q =>
 ∃ρ G Qa Ea,RelE K H ρ σ∧RelG K G H∧w ρ G Qa Ea∧(∀ds G' vs H',Fra G H G' H'→RelG K G' H'→Reps K H' vs ds→Qa ds G'→Q (kT vs) H')∧PostX K G H Ea fun c dx H'=>W c dx σ H'
theorem D3:ij X pos [] [] (LfD X.K W fun _ G Q _=>Q [] G):=fun pins s σ H Q I ⟨ρ,G,Qa,Ea,hE,hG,hw,hp,hx⟩=>B7 pins s σ H Q I (hp [] G [] H .refl hG .nil hw)
theorem Au{ks:List (Option Expr)}{vs:List Expr}{wa:aj→AG→(List Dat→AG→Prop)→AX→Prop}(h1:PE X a (LfE X.K W w1))(h2:PE X b (LfE X.K W w2))(h3:ij X pos ks vs (LfD X.K W wa)) :
  ij X pos (some a :: ks) (b :: vs) (LfD X.K W fun ρ G Q E=>w1 ρ G (fun x G1=>w2 ρ G1 (fun y G2=>wa ρ G2 (fun ds G3=>Q (x :: y :: ds) G3) E) E) E):=fun pins s σ H Q I ⟨ρ,G,Qa,Ea,hE,hG,hw,hp,hx⟩ =>
 u6 h1 h2 h3 pins s σ H Q I ⟨ρ,G,_,Ea,hE,hG,hw,fun d G1 v H1 f g r q=>⟨ρ,G1,_,Ea,hE.mono (f.stab hG),g,q,fun d2 G2 u H2 f2 g2 r2 q2=>⟨ρ,G2,_,Ea,hE.mono ((f.trans f2).stab hG),g2,q2,
  fun ds G3 ws H3 f3 g3 r3 q3=>hp _ _ _ _ ((f.trans f2).trans f3) g3 (.cons (r.mono ((f2.trans f3).stab g)) (.cons (r2.mono (f3.stab g2)) r3)) q3,hx.fra (f.trans f2)⟩,hx.fra f⟩,hx⟩
theorem Ar{keys:List (Option Expr)}{values:List Expr}{wa:aj→AG→(List Dat→AG→Prop)→AX→Prop}(h:ij X pos keys values (LfD X.K W wa))(hall:keys.all (·.isSome)=true)(hl:keys.length=values.length)(h0:keys≠[])(h15:keys.length≤15) :
  PE X (.Dict keys values pos) (LfE X.K W fun ρ G Q E=>wa ρ G (fun ds G1=>Ca ds G1 Q) E):=by
 refine PE.imp (Ew h hall hl h0 h15) ?_
 rintro σ H Q ⟨ρ,G,Qa,Ea,hE,hG,hw,hp,hx⟩ p hp0
 have f0:Fra G H G (upd H p (.dK [])):=.newT hp0
 refine⟨ρ,G,_,Ea,hE.mono (.new hp0),hG.newT hp0,hw,fun ds G1 vs H1 f g r q=>?_,hx.fra f0⟩
 have n0:G p=none:=hG.free hp0
 obtain⟨e1,n1⟩:=f p _ upd_same (fun _ z=>by cases z) n0
 obtain⟨kvs,k1,k2,k3⟩:=q
 obtain⟨vk,k4,k5⟩:=eW k1 r
 refine⟨e1,vk,k4,by rw[cG k5];exact k2,hp (.ref p) (gu G1 p (.dk (aY [] kvs))) (.ref p) _ (fun a o q t n=>?_) ⟨fun a o q=>?_,bo g.t e1 Soft.dK⟩ (.ref p) (k3 p n1)⟩
 ·have d:a≠p:=fun z=>by rw[z,hp0]at q;cases q
  obtain⟨h6,n6⟩:=(f0.trans f) a o q t n
  exact⟨by rw[upd_ne d];exact h6,by rw[aC d];exact n6⟩
 ·by_cases ha:a=p
  ·subst ha
   rw[ak]at q
   cases q
   exact⟨_,upd_same,KRel.mono (.mut e1 Soft.dK) (eg k5 .nil)⟩
  ·rw[aC ha]at q
   exact (g.g a o q).mono (.mut e1 Soft.dK) (upd_ne ha)
theorem sZ:PE X (.Dict [] [] pos) (LfE X.K W fun _ G Q _=>Ca [] G Q):=by
 refine PE.imp pe_dnewK ?_
 rintro σ H Q ⟨ρ,G,Qa,Ea,hE,hG,⟨kvs,k1,_,k3⟩,hp,hx⟩ p hp0
 cases k1
 exact hp (.ref p) (gu G p (.dk [])) (.ref p) _ (.new hp0) (hG.new hp0 (show AOk X.K _ p (.dk []) from ⟨[],upd_same,.nil⟩)) (.ref p) (k3 p (hG.free hp0))
end
end Av
namespace Av
variable [Tb]
section
variable {X:Cx} {W:WX} {Γ:Gam} {k:Nat} {e:Expr} {es:List Expr} {pos p:Pos} {wa:aj→AG→(List Dat→AG→Prop)→AX→Prop}
theorem ue(oc:Oc X W Γ k){C:Str}{fl:List Str}(hF:Γ.xc C=some fl)(h0:fl≠[])(hg:Gl X C)(hdb:(C == ("__debug__" : Str))=false)(ha:PA X (e :: es) (LfA X.K W wa))
  (hst:starEach (e :: es) X.env=(false,eval e X.env) :: starEach es X.env)(hpl:(backTo pos (starEach es X.env)).any (·.1)=false) :
  L2N.PMk X (.Call (.Name C p) (e :: es) [] pos) (fun σ H Q=>∃ρ G Ex,RelE X.K H ρ σ∧RelG X.K G H∧wa ρ G (fun ds G1=>ds.length=fl.length∧Ex C (fl.zip ds).reverse G1) Ex∧(PostX X.K G H Ex Q)∧PostX X.K G H Ex fun c dx H'=>W c dx σ H'):=by
 obtain⟨hm,hc⟩:=oc.tb.xc C fl hF
 rcases hc with⟨h,_⟩|⟨_,h9,hO,a,fd,ps,j,hj,hi,ht,hok,hb⟩
 ·exact absurd h h0
 have base:=A7 (X:=X) (x:=C) (p:=p) (pos:=pos) hO hi ht hok (oc.room.mono hj) hb (L2N.passes_call (X:=X) (W:=fun _ _ _ _=>False) (fun _ _ ⟨_,_,_,_,_,_,_,_,_,_,_,_,_,_,_,_,w⟩=>False.elim w) fun _ _ _ _ z=>z) hg hm ha hdb hst hpl
 intro pins s σ H Q I ⟨ρ,G,Ex,hE,hG,hw,hq,hx⟩
 refine base pins s σ H Q I ⟨ρ,G,_,Ex,hE,hG,hw,fun ds G1 vs H1 f g r q=>?_,hx⟩
 have lv:vs.length=fl.length:=by rw[r.length];exact q.1
 refine⟨by omega,fun a hn=>⟨a,vs,by simp,lv,upd_same,fun d hd hda=>⟨rfl,d,(fl.zip vs).reverse,upd_same,by rw[upd_ne hda];exact upd_same,?_,?_⟩⟩⟩
 ·rw[upd_ne hda]at hd;exact hd
 ·have hd1:H1 d=none:=by rw[upd_ne hda]at hd;exact hd
  have e1:upd (del (upd (upd (upd H1 a (exo a (He.ga X.K C) none)) d (exd d (fl.zip vs).reverse)) a (exo a (He.ga X.K C) (some d))) a) d (.xd (fl.zip vs).reverse)=upd H1 d (.xd (fl.zip vs).reverse):=by
   funext b
   unfold upd del
   by_cases h1:b=d
   ·simp[h1]
   ·by_cases h2:b=a
    ·subst h2;simp[h1,hn]
    ·simp[h1,h2]
  rw[e1]
  exact hq C _ G1 (some d) _ (f.trans (.newT hd1)) (g.newT hd1) ⟨_,upd_same,pB (pA (r.mono (.new hd1)))⟩ q.2
theorem oW(oc:Oc X W Γ k){C:Str}(hF:Γ.xc C=some [])(hg:Gl X C)(hdb:(C == ("__debug__" : Str))=false) :
  L2N.PMk X (.Call (.Name C p) [] [] pos) (fun _ H Q=>∃G Ex,RelG X.K G H∧Ex C [] G∧PostX X.K G H Ex Q):=by
 obtain⟨hm,hc⟩:=oc.tb.xc C [] hF
 rcases hc with⟨_,h1,h2,h3,h4⟩|⟨h,_⟩
 ·intro pins s σ H Q I ⟨G,Ex,hG,hw,hq⟩
  exact tK F.excBase_ValueError h1 hm h2 (raises_own h3 h4) hg hdb pins s σ H Q I (hq C [] G none H .refl hG rfl hw)
 ·exact absurd rfl h
end
end Av
namespace Av
open PySem PySem.Spec PyProof.Rows L2 HT
section
variable {prog:Program} {w:World} {A:Around} {E:Value→Shared→Prop} {s:Shared}
theorem mM(n:Nat):Builtin.Slice.sliceAdjust none none (-1) (n:Int)=((n:Int) - 1,-1):=by
 unfold Builtin.Slice.sliceAdjust
 have h1:((-1:Int)<0):=by decide
 simp only[h1,if_true]
theorem lZ(n:Nat):Builtin.Slice.slicePlaces ((n:Int) - 1) (-1) (-1)=n:=by
 unfold Builtin.Slice.slicePlaces
 have h1:¬((-1:Int) > 0):=by decide
 have h2:(- -1:Int)=1:=by decide
 simp only[h1,if_false,h2,Int.ediv_one]
 split <;> omega
theorem dR{sl:Addr}{vs:Value}{n:Nat}{Q:Int × Int × Nat→Shared→Prop}(hs:s.heap.IsSliceOf sl .none .none vs)(ps:IsPart vs (some (-1)))
  (h:Q ((n:Int) - 1,-1,n) s):wpAny (model prog w) A (Builtin.Slice.sliceApplied (.ref sl) (pure (n:Int))) Q E s:=by
 obtain⟨os,hos,hcs,hds⟩:=id hs
 unfold Builtin.Slice.sliceApplied Builtin.Slice.sliceFields
 refine wpAny_bind (wpAny_bind (wpAny_field hos hds (x:=.none) rfl (wpAny_bind (wpAny_field hos hds (x:=.none) rfl (wpAny_bind (wpAny_field hos hds (x:=vs) rfl (wpAny_pure ?_)))))))
 refine wpAny_bind (slicePart_ ps ?_)
 show wpAny _ _ (if ((-1:Int) == 0)=true then _ else _) _ _ s
 rw[if_neg (by decide)]
 refine wpAny_bind (slicePart_none (wpAny_bind (slicePart_none (wpAny_bind (wpAny_pure ?_)))))
 show wpAny _ _ (match Builtin.Slice.sliceAdjust none none (-1) (n:Int)with|(lo,hi)=>pure (lo,(-1:Int),Builtin.Slice.slicePlaces lo hi (-1))) _ _ s
 rw[mM n]
 show wpAny _ _ (pure ((n:Int) - 1,(-1:Int),Builtin.Slice.slicePlaces ((n:Int) - 1) (-1) (-1))) _ _ s
 rw[lZ]
 exact wpAny_pure h
theorem tL(xs:Array Value):((List.range xs.size).filterMap fun (m:Nat)=>xs[(((xs.size:Nat):Int) - 1+(m:Int)* -1).toNat]?).toArray=xs.toList.reverse.toArray:=by
 have e:(List.range xs.size).filterMap (fun (m:Nat)=>xs[(((xs.size:Nat):Int) - 1+(m:Int)* -1).toNat]?)=((List.range xs.size).map (fun k=>xs.size - 1 - k)).filterMap (xs[·]?):=by
  rw[List.filterMap_map]
  have gen:∀l:List Nat,(∀k∈l,k<xs.size)→l.filterMap (fun (m:Nat)=>xs[(((xs.size:Nat):Int) - 1+(m:Int)* -1).toNat]?)=l.filterMap ((xs[·]?) ∘ fun k=>xs.size - 1 - k):=by
   intro l
   induction l with
   |nil=>intro _;rfl
   |cons k l ih =>
    intro h
    have hk:=h k (by simp)
    have:(((xs.size:Nat):Int) - 1+(k:Int)* -1).toNat=xs.size - 1 - k:=by omega
    rw[List.filterMap_cons,List.filterMap_cons,ih (fun j hj=>h j (by simp[hj])),this]
    rfl
  exact gen _ fun k hk=>List.mem_range.1 hk
 rw[e,PySem.W.krv_range,List.filterMap_reverse,PySem.W.krv_all]
theorem dB{t sl:Addr}{items:Array Value}{vs:Value}{Q:Value→Shared→Prop}(ht:IsTup s.heap t items)(hs:s.heap.IsSliceOf sl .none .none vs)(ps:IsPart vs (some (-1)))
  (h:Q (.ref s.heap.objs.size) {s with heap:=s.heap.push {cls:=.type "tuple",data:=.seq items.toList.reverse.toArray}})
  (hsz:items.size≤sizeLine):wpAny (model prog w) A (getItem (.ref t) (.ref sl)) Q E s:=by
 have htake:sizeOk (.seq items.toList.reverse.toArray):=by
  show items.toList.reverse.toArray.size≤sizeLine
  rw[List.size_toArray,List.length_reverse,Array.length_toList]
  exact hsz
 obtain⟨os,hos,hcs,hds⟩:=id hs
 have hTs:s.TypeIs (.ref sl) "slice" := ⟨os,hos,hcs⟩
 unfold getItem
 try with_reducible refine wpAny_holding ?_
 first|refine wpAny_bind (wpAny_pure ?_)|skip
 refine wpAny_bind (wpAny_sequenceKey ht.typeIs (by decide) ?_)
 refine wpAny_bind (wpAny_callSpecial?_slot (name:=Str.ofString "__getitem__") ht.typeIs PyProof.Rows.slot_tuple_getitem
  (wpAny_call_entry PyProof.Rows.slot_tuple_getitem ht.typeIs entry_tuple_getitem ?_ (args_tuple_getitem _ _)))
 show wpAny _ _ (Builtin.Tuple.tupleItemsOf (.ref t) >>=_) _ _ s
 refine wpAny_bind (tupleItemsOf_ ht ?_)
 refine wpAny_bind (wpAny_typeOf hTs ?_)
 rw[if_pos (by decide)]
 refine wpAny_bind (dR hs ps ?_)
 have hno:¬((((items.size:Int) - 1) == 0 && (-1:Int) == 1 && items.size == items.size)=true):=by
  intro q
  rw[M3,M3]at q
  exact absurd q.1.2 (by decide)
 show wpAny _ _ (if ((((items.size:Nat):Int) - 1) == 0 && (-1:Int) == 1 && items.size == items.size)=true then _ else _) _ _ s
 rw[if_neg hno,tL]
 first
  |exact wpAny_bind (m:=Builtin.Tuple.tupleExact _) (wpAny_newObj_type (wpAny_pure ⟨_,rfl,wpAny_pure h⟩) htake)
  |exact wpAny_bind (m:=Builtin.Tuple.tupleExact _) (wpAny_newObj_type (wpAny_bind (wpAny_pure (wpAny_pure ⟨_,rfl,wpAny_pure h⟩))) htake)
  |exact wpAny_bind (wpAny_bind (m:=Builtin.Tuple.tupleExact _) (wpAny_newObj_type (wpAny_pure (wpAny_pure ⟨_,rfl,wpAny_pure h⟩)) htake))
  |exact wpAny_bind (wpAny_bind (m:=Builtin.Tuple.tupleExact _) (wpAny_newObj_type (wpAny_pure ⟨_,rfl,wpAny_pure h⟩) htake))
end
section
variable {X:Cx}
def GY(K:M0)(te:TE):TE:=fun σ H Q=>te σ H fun x H1=>∃a xs,x = .ref a∧SqT K H1 a xs∧∀p,H1 p=none→Q (.ref p) (upd H1 p (.tup xs.reverse))
theorem AF{e:Expr}{te:TE}{k:Nat}{p1 p2 p3 pos:Pos}(he:PE X e te):PE X (.Subscript e (.Slice none none (some (.UnaryOp .USub (.Constant (.int 1) k p1) p2)) p3) pos) (GY X.K te):=by
 refine⟨fun pins s σ H Q I h=>?_⟩
 refine Subscript_ (thn (he.run pins s σ H _ I h) fun v s1 ⟨x,H1,I1,r1,q1⟩=>?_)
 obtain⟨a,xs,ex,hx,q⟩:=q1
 subst ex
 cases r1
 have hst:PO X (some (.UnaryOp .USub (.Constant (.int 1) k p1) p2)) (tPart (tUn (rU fun i=>.int (-i)) (tC (.int 1)))):=po_some (pe_un un_neg pe_int)
 refine wpAny_Slice (thn (po_none.run pins s1 σ H1 (fun o H2=>o=none∧H2=H1) I1 ⟨rfl,rfl⟩) fun vl s2 ⟨l,H2,I2,pl,el,e2⟩=>?_)
 subst el e2
 refine thn (po_none.run pins s2 σ H2 (fun o H3=>o=none∧H3=H2) I2 ⟨rfl,rfl⟩) fun vu s3 ⟨u,H3,I3,pu,eu,e3⟩=>?_
 subst eu e3
 refine thn (hst.run pins s3 σ H3 (fun o H4=>o=some (-1)∧H4=H3) I3 ⟨1,rfl,-1,rfl,rfl,rfl⟩) fun vs s4 ⟨o,H4,I4,ps,eo,e4⟩=>?_
 subst eo e4
 cases pl
 cases pu
 have I5:Inv X pins σ H4 {s4 with heap:=s4.heap.push {cls:=.type "slice",data:=.fields #[.none,.none,vs]}}:=I4.kept (t':=s4.toks) fun b ob q=>Heap.get?_push_of_some _ q
 obtain⟨its,r,ht,hz⟩:=I5.tuple hx
 have hlen:=r.length
 show wpAny (model X.prog X.w) X.A (subscriptTail e (.Slice none none (some (.UnaryOp .USub (.Constant (.int 1) k p1) p2)) p3) (.ref a) (.ref s4.heap.objs.size)) (EP X pins σ Q) X.xe {s4 with heap:=s4.heap.push {cls:=.type "slice",data:=.fields #[.none,.none,vs]}}
 refine tail_any (ops:=[.ref a,.ref s4.heap.objs.size]) ht.typeIs PyProof.Rows.slot_tuple_getitem.lookup ?_ (by with_unfolding_all rfl)
 refine dB ht (Heap.IsSliceOf.new _ .none .none vs) ps ?_ (by rw[List.size_toArray];omega)
 refine⟨.ref _,_,I5.laid (t':=s4.toks) (o:=.tup xs.reverse) (fun b ob q=>Heap.get?_push_of_some _ q) (M7 _) ?_,rfl,q _ (I5.hok.fresh (M7 _))⟩
 exact⟨by rw[List.length_reverse];exact hz,_,r.reverse,IsTup.new _ _⟩
end
end Av
namespace Av
variable [Tb]
theorem u7{K:M0}{G:AG}{H:Hp}{v:V}{d:Dat}{kvs:List (Key × Dat)}(g:RelG K G H)(r:Rep K H v d)(e:cO G d=some kvs):∃p vk,v = .ref p∧Rd H p (.dK vk)∧KRel K H vk kvs:=dP g r e
theorem pH{K:M0}{H:Hp}{x:Key}{vk:List (Key × V)}{kvs:List (Key × Dat)}(r:KRel K H vk kvs):(valV vk x).isSome=(au kvs x).isSome:=by
 obtain⟨h1,h2⟩:=bq (x:=x) r
 cases e:au kvs x with
 |none=>rw[h2 e];rfl
 |some d=>obtain⟨v,h3,_⟩:=h1 d e;rw[h3];rfl
theorem pL{K:M0}{H:Hp}{x:Key}{vk:List (Key × V)}{kvs:List (Key × Dat)}{z:V}{dz:Dat}(r:KRel K H vk kvs)(rz:Rep K H z dz):Rep K H ((valV vk x).getD z) ((au kvs x).getD dz):=by
 obtain⟨h1,h2⟩:=bq (x:=x) r
 cases e:au kvs x with
 |none=>rw[h2 e];exact rz
 |some d=>obtain⟨v,h3,h4⟩:=h1 d e;rw[h3];exact h4
section
variable {X:Cx} {W:WX} {Γ:Gam} {k:Nat} {a b o e:Expr} {es:List Expr} {D:Str} {pos p apos cpos:Pos} {w1 w2 w3:aj→AG→AQ→AX→Prop} {wa:aj→AG→(List Dat→AG→Prop)→AX→Prop}
abbrev i6(n:Bool):CmpOp:=if n then .NotIn else .In
theorem EA{d:Addr}{vk:List (Key × V)}(h:KdAt X.K X.prog X.w d vk)(n:Bool):OpR X (compareOp (i6 n)) (tB n vk d):=by
 cases n with
 |false=>exact AT h
 |true=>exact ma h
theorem EL(n:Bool)(y:Str)(p:Pos):behindInMarks (i6 n) (.Name y p)=false:=by cases n <;> rfl
theorem vY{d:Addr}{vk:List (Key × V)}{n:Bool}{kk:Key}{H:Hp}{Q:VK}{kvs:List (Key × Dat)}(r:KRel X.K H vk kvs)(q:Q (.bl (gL n (au kvs kk).isSome)) H):tB n vk d (kV kk) (.ref d) H Q:=by
 refine⟨kk,rfl,rfl,?_⟩
 rw[pH r]
 cases n <;> exact q
theorem CG{K:M0}{H:Hp}{v:V}{d:Dat}{x:Key}(r:Rep K H v d)(e:cC d=some x):v=kV x:=bC r e
theorem DV(oc:Oc X W Γ k){n:Bool}{kv:List (Key × Dat)}(hd:Γ.dc D=some kv)(hg:Gl X D)(hdb:(D == ("__debug__" : Str))=false)(h1:PE X a (LfE X.K W w1)) :
  PE X (.Compare a [i6 n] [.Name D p] pos) (LfE X.K W fun ρ G Q E=>w1 ρ G (fun y G1=>∃kk,cC y=some kk∧Q (.bl (gL n (au kv kk).isSome)) G1) E):=by
 obtain⟨d,vk,hm,hk,hr⟩:=oc.tb.dc D kv hd
 refine PE.imp (pe_cmpR (EA hk n) h1 (cy (p:=p) hg hm hdb) (EL n D p)) ?_
 rintro σ H Q ⟨ρ,G,Qa,Ea,hE,hG,hw,hp,hx⟩
 refine⟨ρ,G,_,Ea,hE,hG,hw,fun y G1 v H1 f g r ⟨kk,e,q⟩=>?_,hx⟩
 cases CG r e
 exact vY (hr H1) (hp _ _ _ _ f g (.bl _) q)
theorem De(oc:Oc X W Γ k){n:Bool}{kv:List (Key × Dat)}(hd:Γ.dc D=some kv)(hg:Gl X D)(hdb:(D == ("__debug__" : Str))=false)(h1:PE X a (LfE X.K W w1)) :
  PT X (.Compare a [i6 n] [.Name D p] pos) (LfT X.K W fun ρ G Q E=>w1 ρ G (fun y G1=>∃kk,cC y=some kk∧Q (gL n (au kv kk).isSome) G1) E):=by
 obtain⟨d,vk,hm,hk,hr⟩:=oc.tb.dc D kv hd
 refine PT.imp (pt_cmpR (EA hk n) h1 (cy (p:=p) hg hm hdb) (EL n D p)) ?_
 rintro σ H Q ⟨ρ,G,Qa,Ea,hE,hG,hw,hp,hx⟩
 refine⟨ρ,G,_,Ea,hE,hG,hw,fun y G1 v H1 f g r ⟨kk,e,q⟩=>?_,hx⟩
 cases CG r e
 exact vY (Q:=fun v H'=>∃k,v = .bl k∧Q k H') (hr H1) ⟨_,rfl,hp _ _ _ _ f g rfl q⟩
theorem DU(oc:Oc X W Γ k){kv:List (Key × Dat)}(hd:Γ.dc D=some kv)(hg:Gl X D)(hdb:(D == ("__debug__" : Str))=false)(hs:NoSl a)(h1:PE X a (LfE X.K W w1)) :
  PE X (.Subscript (.Name D p) a pos) (LfE X.K W fun ρ G Q E=>w1 ρ G (fun y G1=>∃kk d,cC y=some kk∧au kv kk=some d∧Q d G1) E):=by
 obtain⟨d,vk,hm,hk,hr⟩:=oc.tb.dc D kv hd
 refine PE.imp (AH hk hg hm hdb h1 hs) ?_
 rintro σ H Q ⟨ρ,G,Qa,Ea,hE,hG,hw,hp,hx⟩
 refine⟨ρ,G,_,Ea,hE,hG,hw,fun y G1 v H1 f g r ⟨kk,dv,e,l,q⟩=>?_,hx⟩
 obtain⟨v',h3,h4⟩:=(bq (hr H1)).1 dv l
 exact⟨kk,v',CG r e,h3,hp _ _ _ _ f g h4 q⟩
theorem sX(oc:Oc X W Γ k){kv:List (Key × Dat)}(hd:Γ.dc D=some kv)(hg:Gl X D)(hdb:(D == ("__debug__" : Str))=false)(h1:PE X a (LfE X.K W w1))(m:M1 X (.Name D p) "get" apos a cpos) :
  PE X (.Call (.Attribute (.Name D p) "get" apos) [a] [] cpos) (LfE X.K W fun ρ G Q E=>w1 ρ G (fun y G1=>∃kk,cC y=some kk∧Q ((au kv kk).getD .non) G1) E):=by
 obtain⟨d,vk,hm,hk,hr⟩:=oc.tb.dc D kv hd
 refine PE.imp (AJ hk hg hm hdb h1 m) ?_
 rintro σ H Q ⟨ρ,G,Qa,Ea,hE,hG,hw,hp,hx⟩
 refine⟨ρ,G,_,Ea,hE,hG,hw,fun y G1 v H1 f g r ⟨kk,e,q⟩=>?_,hx⟩
 exact⟨kk,CG r e,hp _ _ _ _ f g (pL (hr H1) .non) q⟩
theorem sW(oc:Oc X W Γ k){kv:List (Key × Dat)}(hd:Γ.dc D=some kv)(hg:Gl X D)(hdb:(D == ("__debug__" : Str))=false)(h1:PE X a (LfE X.K W w1))(h2:PE X b (LfE X.K W w2))(m:M2 X (.Name D p) "get" apos a b cpos) :
  PE X (.Call (.Attribute (.Name D p) "get" apos) [a,b] [] cpos) (LfE X.K W fun ρ G Q E=>w1 ρ G (fun y G1=>w2 ρ G1 (fun z G2=>∃kk,cC y=some kk∧Q ((au kv kk).getD z) G2) E) E):=by
 obtain⟨d,vk,hm,hk,hr⟩:=oc.tb.dc D kv hd
 refine PE.imp (AI hk hg hm hdb h1 h2 m) ?_
 rintro σ H Q ⟨ρ,G,Qa,Ea,hE,hG,hw,hp,hx⟩
 refine⟨ρ,G,_,Ea,hE,hG,hw,fun y G1 v H1 f g r q=>⟨ρ,G1,_,Ea,hE.mono (f.stab hG),g,q,fun z G2 u H2 f2 g2 r2 ⟨kk,e,q2⟩=>?_,hx.fra f⟩,hx⟩
 exact⟨kk,(CG r e),hp _ _ _ _ (f.trans f2) g2 (pL (hr H2) r2) q2⟩
theorem fR{K:M0}{H:Hp}(x:Key):Rep K H (kV x) (aO x):=by
 cases x with
 |inl i=>exact .int i
 |inr s=>exact .str s
theorem IR{K:M0}{H0:Hp}{vk:List (Key × V)}{kv:List (Key × Dat)}(h:∀H,KRel K H vk kv):rZ K H0 (ItK vk) (kv.map fun q=>aO q.1) []:=by
 have hl:(kv.map fun q=>aO q.1).length=vk.length:=by rw[M5];exact (cG (h H0)).symm
 refine⟨fun i H G s rg gk hi=>by rw[hl]at hi;exact hi,fun i H G s rg gk hi=>by rw[hl]at hi;exact hi,fun i H G x H' s rg gk hi hy=>?_⟩
 obtain⟨rfl,kk,v,e,rfl⟩:=hy
 have r:=h H'
 have key:∀{vk:List (Key × V)} {kv:List (Key × Dat)} {i:Nat},KRel K H' vk kv→vk[i]?=some (kk,v)→(kv.map fun q=>aO q.1)[i]?=some (aO kk):=by
  intro vk kv i r
  induction r generalizing i with
  |nil=>intro e;simp at e
  |@cons p q l m hpq hr ih =>
   intro e
   cases i with
   |zero =>
    simp only[M8,Option.some.injEq]at e
    subst e
    simp only[Mc,M8]
    rw[←hpq.1]
   |succ j =>
    simp only[M9]at e
    simp only[Mc,M9]
    exact ih e
 exact⟨aO kk,key r e,.refl,rg,fR kk⟩
theorem sJ(oc:Oc X W Γ k){tg:Expr}{kv:List (Key × Dat)}(hd:Γ.dc D=some kv)(hg:Gl X D)(hdb:(D == ("__debug__" : Str))=false):PI X tg (.Name D p) (LfI X.K W fun _ G Q _=>Q (kv.map fun q=>aO q.1) [] G):=by
 obtain⟨d,vk,hm,hk,hr⟩:=oc.tb.dc D kv hd
 refine PI.imp (Ic hk hg hm hdb) ?_
 rintro σ H R ⟨ρ,G,Qa,Ea,hE,hG,hw,hp,hx⟩
 exact hp _ [] _ _ _ .refl hG trivial (IR hr) hw
theorem IS{K:M0}{H0:Hp}{d:Addr}{o:Obj}{ks:List Key}{xs:List V}(h:H0 d=some (.frz o (.dK (ks.zip xs))))(hl:ks.length=xs.length):rZ K H0 (Itk d o (ks.zip xs)) (ks.map aO) []:=by
 have hz:(ks.map aO).length=(ks.zip xs).length:=by rw[M5,List.length_zip,←hl,Nat.min_self]
 refine⟨fun i H G s rg gk hi=>⟨s.fzk _ _ _ h,by rw[←hz];exact hi⟩,fun i H G s rg gk hi=>⟨s.fzk _ _ _ h,by rw[←hz];exact hi⟩,fun i H G x H' s rg gk hi hy=>?_⟩
 obtain⟨rfl,kk,v,e,rfl⟩:=hy
 rw[List.getElem?_zip_eq_some]at e
 exact⟨aO kk,by rw[Mg,e.1];rfl,.refl,rg,fR kk⟩
theorem sK{tg:Expr}(h1:PE X a (LfE X.K W w1)):PI X tg a (LfI X.K W fun ρ G Q E=>w1 ρ G (fun x G1=>∃ks ds,x = .dz ks ds∧ks.length=ds.length∧Q (ks.map aO) [] G1) E):=by
 refine PI.imp (pi_keys h1) ?_
 rintro σ H R ⟨ρ,G,Qa,Ea,hE,hG,hw,hp,hx⟩
 refine⟨ρ,G,_,Ea,hE,hG,hw,fun y G1 v H1 f g r ⟨ks,ds,e,_,q⟩=>?_,hx⟩
 subst e
 cases r with
 |dz h hl _ =>
  obtain⟨o,h⟩:=h
  exact⟨_,o,rfl,.inl ⟨_,h,hp _ [] _ _ _ f g trivial (IS h hl) q⟩⟩
theorem Fi{K:M0}{H0:Hp}{x:Str}:rZ K H0 (Its x) (eN x) []:=by
 have hl:(eN x).length=x.cps.size:=by unfold eN;rw[M5,Array.length_toList]
 refine⟨fun i H G s rg gk hi=>by rw[hl]at hi;exact hi,fun i H G s rg gk hi=>by rw[hl]at hi;exact hi,fun i H G y H' s rg gk hi hy=>?_⟩
 obtain⟨rfl,c,e,rfl⟩:=hy
 refine⟨.str ⟨#[c]⟩,?_,.refl,rg,.str _⟩
 unfold eN
 rw[Mg,Array.getElem?_toList,e]
 rfl
theorem DA{tg:Expr}(h1:PE X a (LfE X.K W w1)):PI X tg a (LfI X.K W fun ρ G Q E=>w1 ρ G (fun x G1=>∃s,iz x=some s∧Q (eN s) [] G1) E):=by
 refine PI.imp (pi_str h1) ?_
 rintro σ H R ⟨ρ,G,Qa,Ea,hE,hG,hw,hp,hx⟩
 refine⟨ρ,G,_,Ea,hE,hG,hw,fun y G1 v H1 f g r ⟨s,e,q⟩=>?_,hx⟩
 obtain⟨rfl,_⟩:=bA r e
 exact⟨s,rfl,hp (eN s) [] _ _ _ f g trivial Fi q⟩
def KQ(n:Bool):R2:=fun x y H Q=>∃i j,x = .str i∧y = .str j∧Q (.bl (gL n (sIn i j))) H
theorem v9(n:Bool):OpR X (compareOp (i6 n)) (KQ n):=by
 cases n with
 |false=>exact op_in_str
 |true=>exact op_notIn_str
theorem wj(n:Bool){b:Expr}(h:behindInMarks .In b=false):behindInMarks (i6 n) b=false:=by cases n <;> exact h
theorem DH{n:Bool}(hm:behindInMarks .In b=false)(h1:PE X a (LfE X.K W w1))(h2:PE X b (LfE X.K W w2)) :
  PE X (.Compare a [i6 n] [b] pos) (LfE X.K W fun ρ G Q E=>w1 ρ G (fun x G1=>w2 ρ G1 (fun y G2=>∃s t,iz x=some s∧iz y=some t∧Q (.bl (gL n (sIn s t))) G2) E) E):=by
 refine PE.imp (pe_cmpR (v9 n) h1 h2 (wj n hm)) ?_
 rintro σ H Q ⟨ρ,G,Qa,Ea,hE,hG,hw,hp,hx⟩
 refine⟨ρ,G,_,Ea,hE,hG,hw,fun y G1 v H1 f g r q=>⟨ρ,G1,_,Ea,hE.mono (f.stab hG),g,q,fun z G2 u H2 f2 g2 r2 ⟨s,t,e1,e2,q2⟩=>?_,hx.fra f⟩,hx⟩
 obtain⟨rfl,_⟩:=bA r e1
 obtain⟨rfl,_⟩:=bA r2 e2
 exact⟨s,t,rfl,rfl,hp _ _ _ _ (f.trans f2) g2 (.bl _) q2⟩
theorem Dc{n:Bool}(hm:behindInMarks .In b=false)(h1:PE X a (LfE X.K W w1))(h2:PE X b (LfE X.K W w2)) :
  PT X (.Compare a [i6 n] [b] pos) (LfT X.K W fun ρ G Q E=>w1 ρ G (fun x G1=>w2 ρ G1 (fun y G2=>∃s t,iz x=some s∧iz y=some t∧Q (gL n (sIn s t)) G2) E) E):=by
 refine PT.imp (pt_cmpR (v9 n) h1 h2 (wj n hm)) ?_
 rintro σ H Q ⟨ρ,G,Qa,Ea,hE,hG,hw,hp,hx⟩
 refine⟨ρ,G,_,Ea,hE,hG,hw,fun y G1 v H1 f g r q=>⟨ρ,G1,_,Ea,hE.mono (f.stab hG),g,q,fun z G2 u H2 f2 g2 r2 ⟨s,t,e1,e2,q2⟩=>?_,hx.fra f⟩,hx⟩
 obtain⟨rfl,_⟩:=bA r e1
 obtain⟨rfl,_⟩:=bA r2 e2
 exact⟨s,t,rfl,rfl,_,rfl,hp _ _ _ _ (f.trans f2) g2 rfl q2⟩
theorem vV(oc:Oc X W Γ k){n:Bool}(h1:PE X a (LfE X.K W w1))(h2:PE X b (LfE X.K W w2)):PC X (i6 n) a b (LfE X.K W fun ρ G Q E=>w1 ρ G (fun y G1=>w2 ρ G1 (fun x G2=>∃kv kk,cO G2 x=some kv∧cC y=some kk∧Q (.bl (gL n (au kv kk).isSome)) G2) E) E):=by
 have main:∀(σ:L2.St) (H:Hp) (Q:VK),LfE X.K W (fun ρ G Q E=>w1 ρ G (fun y G1=>w2 ρ G1 (fun x G2=>∃kv kk,cO G2 x=some kv∧cC y=some kk∧Q (.bl (gL n (au kv kk).isSome)) G2) E) E) σ H Q→
   LfE X.K W w1 σ H fun y H1=>LfE X.K W w2 σ H1 fun x H2=>∃p ov,x = .ref p∧DGet H2 p y ov∧Q (.bl (gL n ov.isSome)) H2:=by
  rintro σ H Q ⟨ρ,G,Qa,Ea,hE,hG,hw,hp,hx⟩
  refine⟨ρ,G,_,Ea,hE,hG,hw,fun y G1 v H1 f g r q=>⟨ρ,G1,_,Ea,hE.mono (f.stab hG),g,q,fun z G2 u H2 f2 g2 r2 ⟨kv,kk,e1,e2,q2⟩=>?_,hx.fra f⟩,hx⟩
  obtain⟨p,vk,rfl,h3,h4⟩:=u7 g2 r2 e1
  cases CG r e2
  refine⟨p,valV vk kk,rfl,.inl ⟨vk,kk,h3,rfl,rfl⟩,hp _ _ _ _ (f.trans f2) g2 (.bl _) ?_⟩
  rw[pH h4]
  exact q2
 cases n with
 |false=>exact⟨fun pins s σ H Q I q=>(pc_din oc.u1 h1 h2).run pins s σ H Q I (main σ H Q q)⟩
 |true=>exact⟨fun pins s σ H Q I q=>(pc_dnotin oc.u1 h1 h2).run pins s σ H Q I (main σ H Q q)⟩
theorem l8{CX:CXT}{i:Nat}{f:Addr}{fd:FuncData}{ps:List Str}{sp:Sp}{dvs:List V}{ds:List Value}{E:L2.St→XK}{x:Str}{t:TA}(F:FnOk X.prog X.w X.K X.mg X.base CX k f fd ps sp)(hr:Room k X.A)(hN:X.N[i]?=some x)(hv:Vis X.env.scope x)
  (hk:PySem.W.keepIn X.K (.ref f)=true)(hb:Binds X.K fd ps ds)(hd:Vals dvs ds)(hx:∀σ,PassesAt CX X σ (E σ))(ha:PA X (e :: es) t)(hdb:(x == ("__debug__" : Str))=false)(hcd:(x == ("__classdict__" : Str))=false)
  (he:starEach (e :: es) X.env=(false,eval e X.env) :: starEach es X.env)(hpl:(backTo pos (starEach es X.env)).any (·.1)=false) :
  PE X (.Call (.Name x p) (e :: es) [] pos) (fun σ H Q=>σ[i]?=some (some (.ref f))∧tCallSD sp dvs E t σ H Q):=by
 refine⟨fun pins s σ H Q I ⟨hs,ht⟩=>?_⟩
 refine wpAny_Call_Name_kw (thn ((pe_var (pos:=p) hN hv hdb hcd).run pins s σ H (fun v H1=>v = .ref f∧H1=H) I ⟨.ref f,hs,rfl,rfl⟩) fun u s1 ⟨v,H1,I1,r1,q1,q2⟩=>?_)
 subst q1 q2
 cases r1
 refine PySem.W.callWith_K (h₀:=X.base) I.ok.mod.kin hk (thn (ha.run pos pins s1 σ _ _ I1 ht) fun us s2 ⟨vs,H2,I2,r,q⟩=>⟨I2.kIn,?_⟩) he hpl
 exact run_fnSD F hr hb hd (hx σ) I2 r q
theorem ti(oc:Oc X W Γ k){i:Nat}{x:Str}(hN:X.N[i]?=some x)(hv:Vis X.env.scope x)(hdb:(x == ("__debug__" : Str))=false)(hcd:(x == ("__classdict__" : Str))=false)(ha:PA X (e :: es) (LfA X.K W wa))
  (he1:starEach (e :: es) X.env=(false,eval e X.env) :: starEach es X.env)(he2:(backTo pos (starEach es X.env)).any (·.1)=false) :
  PE X (.Call (.Name x p) (e :: es) [] pos) (LfE X.K W fun ρ G Q E=>match ρ[i]? with
   |some (some (.gf f))=>(match Γ.fn f with
    |some F=>(F.ar≤(e :: es).length+F.dfl.length∧(e :: es).length≤F.ar)∧wa ρ G (fun ds G1=>F.con (ds++F.dfl.drop ((e :: es).length+F.dfl.length - F.ar)) G1 Q E) E
    |none=>False)
   |_=>False):=by
 refine⟨fun pins s σ H Q I ⟨ρ,G,Qa,Ea,hE,hG,hw,hp,hx⟩=>?_⟩
 dsimp only at hw
 cases q:ρ[i]? with
 |none=>rw[q]at hw;exact False.elim hw
 |some o =>
  cases o with
  |none=>rw[q]at hw;exact False.elim hw
  |some d =>
   cases d with
   |gf f =>
    rw[q]at hw
    cases hF:Γ.fn f with
    |none=>simp only[hF]at hw
    |some F =>
     simp only[hF]at hw
     obtain⟨⟨h1,h2⟩,hw⟩:=hw
     obtain⟨v,hs,rv⟩:=hE.2 i _ q
     obtain⟨a,fd,ps,hok,hm,hk,hbind⟩:=oc.tb.fn f F hF
     have e0:=oc.tb.fa f F hF
     rw[hm]at e0
     cases e0
     cases rv
     obtain⟨ds,dvs,hb,hvv,hd⟩:=hbind (e :: es).length h1 h2
     refine (l8 (E:=WE W) hok oc.room hN hv hk hb hvv (fun σ=>L2N.passAt oc.tk σ) ha hdb hcd he1 he2).run pins s σ H Q I ⟨hs,?_⟩
     exact ez hd (fun _ _ _ z=>z) σ H Q ⟨ρ,G,Qa,Ea,hE,hG,hw,hp,hx⟩
   |_=>rw[q]at hw;exact False.elim hw
def SM.nm:SM→Str
 |.lower => "lower" |.upper => "upper" |.split => "split" |.startswith => "startswith" |.endswith => "endswith"
def SmA(K:M0)(z:Bool)(m:SM)(r:V→List V→Hp→VK→Prop):Prop :=
 ∀(H:Hp) (a:Str) (xs:List V) (ds:List Dat) (G:AG) (Qa:AQ) (Q:VK),Reps K H xs ds→RelG K G H→smW z m a ds G Qa→PostZ K G H Qa Q→r (.str a) xs H Q
theorem iy{K:M0}{H:Hp}:∀l:List Str,Reps K H (l.map V.str) (C9 l)
 |[]=>.nil
 |x :: l=>.cons (.str x) (iy l)
theorem Dr(X:Cx)(z:Bool)(m:SM):∃id r,Slot "str" m.nm id∧typeOf (.builtin id)=pure (.type "method_descriptor")∧MtR X id r∧SmA X.K z m r:=by
 cases m with
 |lower =>
  refine⟨_,_,F.slot_str_lower,rfl,mt_lower,fun H a xs ds G Qa Q r g h p=>?_⟩
  match ds,h with
  |[],h=>cases r;exact⟨a,rfl,rfl,h.1,p.val g (.str _) h.2⟩
 |upper =>
  refine⟨_,_,F.slot_str_upper,rfl,mt_upper,fun H a xs ds G Qa Q r g h p=>?_⟩
  match ds,h with
  |[],h=>cases r;exact⟨a,rfl,rfl,h.1,p.val g (.str _) h.2⟩
 |split =>
  refine⟨_,_,F.slot_str_split,rfl,mt_split,fun H a xs ds G Qa Q r g h p=>?_⟩
  match ds,h with
  |[.str b],h =>
   obtain⟨y,rfl,r1⟩:=aR r
   cases dn r1
   exact⟨a,b,rfl,rfl,h.1.1,h.1.2,aA g (iy _) h.2 p⟩
 |startswith =>
  refine⟨_,_,F.slot_str_startswith,rfl,mt_startswith,fun H a xs ds G Qa Q r g h p=>?_⟩
  match ds,h with
  |[.str b],h =>
   obtain⟨y,rfl,r1⟩:=aR r
   cases dn r1
   exact⟨a,b,rfl,rfl,p.val g (.bl _) h⟩
 |endswith =>
  refine⟨_,_,F.slot_str_endswith,rfl,mt_endswith,fun H a xs ds G Qa Q r g h p=>?_⟩
  match ds,h with
  |[.str b],h =>
   obtain⟨y,rfl,r1⟩:=aR r
   cases dn r1
   exact⟨a,b,rfl,rfl,p.val g (.bl _) h⟩
theorem sM{z:Bool}{m:SM}(h1:PE X b (LfE X.K W w1))(ha:PA X (a :: es) (LfA X.K W wa))
  (hbase:attributeBase b m.nm X.env (eval b X.env)=eval b X.env)
  (hfew:((backTo pos (starEach (a :: es) X.env)).all (fun x=>!x.1) && (backToKw pos (keywordEach [] X.env)).all (fun x=>x.1.isSome)
   && decide ((a :: es).length+([]:List Keyword).length+(if ([]:List Keyword).isEmpty then 0 else 1)<30))=true)
  (hline:(apos.endLine == pos.line)=true)(he1:starEach (a :: es) X.env=(false,eval a X.env) :: starEach es X.env)(he2:(backTo pos (starEach es X.env)).any (·.1)=false) :
  PE X (.Call (.Attribute b m.nm apos) (a :: es) [] pos) (LfE X.K W fun ρ G Q E=>w1 ρ G (fun x G1=>∃s,iz x=some s∧wa ρ G1 (fun ds G2=>smW z m s ds G2 Q) E) E):=by
 obtain⟨id,r,k1,k2,k3,k4⟩:=Dr X z m
 refine PE.imp (fu (pe_bm F.plainAttrs_str k1 k2 k3 h1 ha hbase hfew hline he1 he2)) ?_
 rintro σ H Q ⟨ρ,G,Qa,Ea,hE,hG,hw,hp,hx⟩
 refine⟨ρ,G,_,Ea,hE,hG,hw,fun d G1 v H1 f g r1 ⟨s,e,q⟩=>?_,hx⟩
 obtain⟨rfl,_⟩:=bA r1 e
 exact⟨rfl,ρ,G1,_,Ea,hE.mono (f.stab hG),g,q,fun e G2 u H2 f2 g2 r2 q2=>k4 H2 s u e G2 Qa _ r2 g2 q2 (bH fun d' G' v' H' f3=>hp d' G' v' H' ((f.trans f2).trans f3)),hx.fra f⟩
theorem nR{z:Bool}{m:SM}(h1:PE X b (LfE X.K W w1))(hbase:attributeBase b m.nm X.env (eval b X.env)=eval b X.env)(hline:(apos.endLine == pos.line)=true) :
  PE X (.Call (.Attribute b m.nm apos) [] [] pos) (LfE X.K W fun ρ G Q E=>w1 ρ G (fun x G1=>∃s,iz x=some s∧smW z m s [] G1 Q) E):=by
 obtain⟨id,r,k1,k2,k3,k4⟩:=Dr X z m
 refine PE.imp (fu (pe_bm0 F.plainAttrs_str k1 k2 k3 h1 hbase hline)) ?_
 rintro σ H Q ⟨ρ,G,Qa,Ea,hE,hG,hw,hp,hx⟩
 refine⟨ρ,G,_,Ea,hE,hG,hw,fun d G1 v H1 f g r1 ⟨s,e,q⟩=>?_,hx⟩
 obtain⟨rfl,_⟩:=bA r1 e
 exact⟨rfl,k4 H1 s [] [] G1 Qa _ .nil g q (bH fun d' G' v' H' f3=>hp d' G' v' H' (f.trans f3))⟩
theorem DG(hs:PlainIx b)(h1:PE X a (LfE X.K W w1))(h2:PE X b (LfE X.K W w2)) :
  PE X (.Subscript a b pos) (LfE X.K W fun ρ G Q E=>w1 ρ G (fun x G1=>w2 ρ G1 (fun y G2=>∃s i c,iz x=some s∧y = .int i∧s.length≤sizeLine∧L2.atI s.cps.toList i=some c∧Q (.str ⟨#[c]⟩) G2) E) E):=by
 refine PE.imp (pe_ix ix_str h1 h2 hs) ?_
 rintro σ H Q ⟨ρ,G,Qa,Ea,hE,hG,hw,hp,hx⟩
 refine⟨ρ,G,_,Ea,hE,hG,hw,fun y G1 v H1 f g r q=>⟨ρ,G1,_,Ea,hE.mono (f.stab hG),g,q,fun z G2 u H2 f2 g2 r2 ⟨s,i,c,e1,e2,e3,e4,q2⟩=>?_,hx.fra f⟩,hx⟩
 obtain⟨rfl,_⟩:=bA r e1
 subst e2
 cases aB r2
 exact⟨s,i,c,rfl,rfl,e3,e4,hp _ _ _ _ (f.trans f2) g2 (.str _) q2⟩
theorem jJ{K:M0}{H:Hp}(a b:Int):Reps K H (rgV a b) (dW a (b - a).toNat):=by
 unfold rgV dW
 generalize List.range (b - a).toNat=l
 induction l with
 |nil=>exact .nil
 |cons n l ih=>exact .cons (.int _) ih
theorem Ag{b:Expr}{w2:aj→AG→AQ→AX→Prop}{p1 p2 p3 p4:Pos}(hc:X.calm=true)(gt:Gl X "tuple")(mt:X.mg "tuple" =none)(hg:Gl X "range")(hm:X.mg "range" =none)(h1:PE X a (LfE X.K W w1))(h2:PE X b (LfE X.K W w2))
  (na:starEach [a,b] X.env=(false,eval a X.env) :: starEach [b] X.env)(nb:starEach [b] X.env=(false,eval b X.env) :: starEach [] X.env)(hp:(backTo p2 (starEach [b] X.env)).any (·.1)=false) :
  PE X (.Call (.Name "tuple" p3) [.Call (.Name "range" p1) [a,b] [] p2] [] p4) (LfE X.K W fun ρ G Q E=>w1 ρ G (bK fun m G1=>w2 ρ G1 (bK fun n G2=>RgOk m n∧Q (.tup (dW m (n - m).toNat)) G2) E) E):=by
 refine PE.imp (pe_tupRg hc gt mt (prg_2 hg hm h1 h2 na nb hp)) ?_
 rintro σ H Q ⟨ρ,G,Qa,Ea,hE,hG,hw,hp,hx⟩
 refine⟨ρ,G,_,Ea,hE,hG,hw,fun d G1 v H1 f g r q=>?_,hx⟩
 obtain⟨i,rfl,q⟩:=aG q
 cases aB r
 refine⟨ρ,G1,_,Ea,hE.mono (f.stab hG),g,q,fun e G2 u H2 f2 g2 r2 q2=>?_,hx.fra f⟩
 obtain⟨j,rfl,q1,q3⟩:=aG q2
 cases aB r2
 exact⟨i,j,rfl,rfl,q1,PostE.newT (fun d' G' v' H' f3=>hp d' G' v' H' ((f.trans f2).trans f3)) g2 (jJ i j) q3⟩
theorem sR{z:Bool}{b:Expr}{w2:aj→AG→AQ→AX→Prop}{p1 p2 p3 p4:Pos}(hc:X.calm=true)(gt:Gl X "list")(mt:X.mg "list" =none)(hg:Gl X "range")(hm:X.mg "range" =none)(h1:PE X a (LfE X.K W w1))(h2:PE X b (LfE X.K W w2))
  (na:starEach [a,b] X.env=(false,eval a X.env) :: starEach [b] X.env)(nb:starEach [b] X.env=(false,eval b X.env) :: starEach [] X.env)(hp:(backTo p2 (starEach [b] X.env)).any (·.1)=false) :
  PE X (.Call (.Name "list" p3) [.Call (.Name "range" p1) [a,b] [] p2] [] p4) (LfE X.K W fun ρ G Q E=>w1 ρ G (bK fun m G1=>w2 ρ G1 (bK fun n G2=>RgOk m n∧nw z (dW m (n - m).toNat) G2 Q) E) E):=by
 refine PE.imp (fu (pe_listRg hc gt mt (prg_2 hg hm h1 h2 na nb hp))) ?_
 rintro σ H Q ⟨ρ,G,Qa,Ea,hE,hG,hw,hp,hx⟩
 refine⟨ρ,G,_,Ea,hE,hG,hw,fun d G1 v H1 f g r q=>?_,hx⟩
 obtain⟨i,rfl,q⟩:=aG q
 cases aB r
 refine⟨ρ,G1,_,Ea,hE.mono (f.stab hG),g,q,fun e G2 u H2 f2 g2 r2 q2=>?_,hx.fra f⟩
 obtain⟨j,rfl,q1,q3⟩:=aG q2
 cases aB r2
 exact⟨i,j,rfl,rfl,q1,aA g2 (jJ i j) q3 (bH fun d' G' v' H' f3=>hp d' G' v' H' ((f.trans f2).trans f3))⟩
theorem sS{z:Bool}{p1 p2 p3 p4:Pos}(hc:X.calm=true)(gt:Gl X "list")(mt:X.mg "list" =none)(hg:Gl X "range")(hm:X.mg "range" =none)(h1:PE X a (LfE X.K W w1))(na:starEach [a] X.env=(false,eval a X.env) :: starEach [] X.env) :
  PE X (.Call (.Name "list" p3) [.Call (.Name "range" p1) [a] [] p2] [] p4) (LfE X.K W fun ρ G Q E=>w1 ρ G (bK fun n G1=>RgOk 0 n∧nw z (dW 0 (n - 0).toNat) G1 Q) E):=by
 refine PE.imp (fu (pe_listRg hc gt mt (prg_1 hg hm h1 na))) ?_
 rintro σ H Q ⟨ρ,G,Qa,Ea,hE,hG,hw,hp,hx⟩
 refine⟨ρ,G,_,Ea,hE,hG,hw,fun d G1 v H1 f g r q=>?_,hx⟩
 obtain⟨j,rfl,q1,q3⟩:=aG q
 cases aB r
 exact⟨j,rfl,q1,aA g (jJ 0 j) q3 (bH fun d' G' v' H' f3=>hp d' G' v' H' (f.trans f3))⟩
theorem DI{k0:Nat}{p1 p2 p3:Pos}(h1:PE X a (LfE X.K W w1)):PE X (.Subscript a (.Slice none none (some (.UnaryOp .USub (.Constant (.int 1) k0 p1) p2)) p3) pos) (LfE X.K W fun ρ G Q E=>w1 ρ G (fun x G1=>∃ds,ai G1 x=some ds∧ds.length≤sizeLine∧Q (.lst ds.reverse) G1) E):=by
 refine PE.imp (fu (pe_revL h1)) ?_
 rintro σ H Q ⟨ρ,G,Qa,Ea,hE,hG,hw,hp,hx⟩
 refine⟨ρ,G,_,Ea,hE,hG,hw,fun y G1 v H1 f g r ⟨ds,e,hz,q⟩=>?_,hx⟩
 obtain⟨l,vs,rfl,k1,r1⟩:=am g r e
 have sq:SqL X.K H1 l vs:=.inl k1
 exact⟨l,vs,rfl,sq,aA (z:=true) g r1.reverse (show nw true ds.reverse G1 Qa from ⟨by rw[List.length_reverse];exact hz,q⟩) (bH fun d' G' v' H' f3=>hp d' G' v' H' (f.trans f3))⟩
theorem Aj{k0:Nat}{p1 p2 p3:Pos}(h1:PE X a (LfE X.K W w1)):PE X (.Subscript a (.Slice none none (some (.UnaryOp .USub (.Constant (.int 1) k0 p1) p2)) p3) pos) (LfE X.K W fun ρ G Q E=>w1 ρ G (fun x G1=>∃ds,x = .tup ds∧Q (.tup ds.reverse) G1) E):=by
 refine PE.imp (AF h1) ?_
 rintro σ H Q ⟨ρ,G,Qa,Ea,hE,hG,hw,hp,hx⟩
 refine⟨ρ,G,_,Ea,hE,hG,hw,fun y G1 v H1 f g r ⟨ds,e,q⟩=>?_,hx⟩
 subst e
 cases r with
 |tup k1 r1=>exact⟨_,_,rfl,k1.sq,PostE.newT (fun d' G' v' H' f3=>hp d' G' v' H' (f.trans f3)) g r1.reverse q⟩
end
end Av
namespace Av
variable [Tb]
def dI(H:Hp)(l:List Addr)(h:Heap):Hp:=fun b=>if b∈l then (h.get? b).map fun o=>HO.frz o (.own b) else H b
def bc(H:Hp)(l:List Addr):Hp:=fun b=>if b∈l then none else H b
theorem be{H:Hp}{l:List Addr}{h:Heap}{b:Addr}{o:Obj}(hb:b∈l)(e:h.get? b=some o):dI H l h b=some (.frz o (.own b)):=by unfold dI;rw[if_pos hb,e];rfl
theorem aw{H:Hp}{l:List Addr}{h:Heap}{b:Addr}(hb:b ∉ l):dI H l h b=H b:=if_neg hb
theorem aU{H:Hp}{l:List Addr}{b:Addr}(hb:b∈l):bc H l b=none:=if_pos hb
theorem ad{H:Hp}{l:List Addr}{b:Addr}(hb:b ∉ l):bc H l b=H b:=if_neg hb
section
variable {P:Program} {w:World} {K:M0} {mg:Str→Option Value} {base:Heap} {A:Around} {outer:List Env} {s s':Shared} {H H':Hp} {l:List Addr}
theorem uY(e:Env0 P w K mg base A outer s H)(hl:∀c∈l,base.get? c=none∧c ∉ frs outer∧H c=none∧∃o,s.heap.get? c=some o):Env0 P w K mg base A outer s (dI H l s.heap):=by
 refine⟨e.frames,e.mod,fun b o q=>⟨(e.bs b o q).1,?_⟩,e.bsz,e.funs,fun b hb=>?_,fun a o q=>?_,e.bare⟩
 ·have:b ∉ l:=fun z=>by rw[(hl b z).1]at q;cases q
  rw[aw this];exact (e.bs b o q).2
 ·have:b ∉ l:=fun z=>(hl b z).2.1 hb
  rw[aw this];exact e.frf b hb
 ·by_cases ha:a∈l
  ·obtain⟨o',ho⟩:=(hl a ha).2.2.2
   rw[be ha ho]at q
   cases q
   exact⟨ho,⟨o',ho⟩⟩
  ·rw[aw ha]at q
   have no:∀b u,H b=some u→b ∉ l:=fun b u z1 z2=>by rw[(hl b z2).2.2.1]at z1;cases z1
   exact (e.hok a o q).stay (fun _ _ _ z=>z) (fun b z=>by rw[aw (no b _ z)];exact z) fun b xs z=>by rw[aw (no b _ z)];exact z
def cw(H:Hp)(l:List Addr):Prop:=∀c∈l,∃o,H c=some (.frz o (.own c))
theorem jZ{h:Heap}(hok:HOk P w H h)(hl:cw H l):HOk P w (bc H l) h:=fun a o q=>by
 by_cases ha:a∈l
 ·rw[aU ha]at q;cases q
 ·rw[ad ha]at q
  have no:∀b u,H b=some u→(∀o,u≠.frz o (.own b))→b ∉ l:=fun b u z1 z2 z3=>by
   obtain⟨o,z⟩:=hl b z3
   rw[z1]at z
   exact z2 o (Option.some.inj z)
  exact (hok a o q).stay (fun _ _ _ z=>z) (fun b z=>by rw[ad (no b _ z (fun _ z=>by cases z))];exact z) fun b xs z=>by rw[ad (no b _ z (fun _ z=>by cases z))];exact z
theorem uZ(e:Env0 P w K mg base A outer s H)(hl:cw H l):Env0 P w K mg base A outer s (bc H l):=by
 refine⟨e.frames,e.mod,fun b o q=>⟨(e.bs b o q).1,?_⟩,e.bsz,e.funs,fun b hb=>?_,jZ e.hok hl,e.bare⟩
 ·by_cases hb:b∈l
  ·exact aU hb
  ·rw[ad hb];exact (e.bs b o q).2
 ·by_cases hb':b∈l
  ·exact aU hb'
  ·rw[ad hb'];exact e.frf b hb
theorem gq(hl:cw H l):Stab H (bc H l):=by
 have no:∀b u,H b=some u→(∀o,u≠.frz o (.own b))→b ∉ l:=fun b u z1 z2 z3=>by
  obtain⟨o,z⟩:=hl b z3
  rw[z1]at z
  exact z2 o (Option.some.inj z)
 exact⟨fun b xs z=>by rw[ad (no b _ z (fun _ z=>by cases z))];exact z,fun b o xs z=>by rw[ad (no b _ z (fun _ z=>by cases z))];exact z,fun b φ z=>by rw[ad (no b _ z (fun _ z=>by cases z))];exact z,fun b o xs z=>by rw[ad (no b _ z (fun _ z=>by cases z))];exact z,fun b o xs z=>by rw[ad (no b _ z (fun _ z=>by cases z))];exact z⟩
theorem vj{Q Q':VK}{u:Value}(hl:∀c∈l,c ∉ frs outer∧H c=none∧∃o,s.heap.get? c=some o)(hq:∀v H',Q' v H'→(∀c∈l,H' c=dI H l s.heap c)→Q v (bc H' l))(h:CE outer P w (dI H l s.heap) s Q' u s'):CE outer P w H s Q u s':=by
 obtain⟨v,H',os,bare,un,hok,r,q⟩:=h
 have at_:∀c∈l,H' c=dI H l s.heap c:=fun c hc=>by
  obtain⟨o,ho⟩:=(hl c hc).2.2
  rw[be hc ho]
  exact un.frzs _ _ _ (be hc ho)
 have cin:cw H' l:=fun c hc=>by
  obtain⟨o,ho⟩:=(hl c hc).2.2
  exact⟨o,by rw[at_ c hc];exact be hc ho⟩
 have no:∀b x,H b=some x→b ∉ l:=fun b x z1 z2=>by rw[(hl b z2).2.1]at z1;cases z1
 have kp:∀b o,b∈l→s.heap.get? b=some o→s'.heap.get? b=some o:=fun b o hb ho=>by
  have z:H' b=some (.frz o (.own b)):=by rw[at_ b hb];exact be hb ho
  exact (show ObjOk P w H' s'.heap b (.frz o (.own b)) from hok b _ z).1
 refine⟨v,bc H' l,os,bare,⟨fun b o e n h1 h2=>?_,fun b o e n h1 h2=>?_,fun b o e n h1=>?_,un.there,fun b xs e=>?_,fun b o x e=>?_,fun b ps e=>?_⟩,jZ hok cin,r,hq v H' q at_⟩
 ·by_cases hb:b∈l
  ·exact kp b o hb e
  ·exact un.keep b o e (by rw[aw hb];exact n) h1 h2
 ·exact un.slot b o e (by rw[aw (fun z=>(hl b z).1 h1)];exact n) h1 h2
 ·by_cases hb:b∈l
  ·exact aU hb
  ·rw[ad hb]
   exact un.free b o e (by rw[aw hb];exact n) h1
 ·rw[ad (no b _ e)]
  exact un.tups b xs (by rw[aw (no b _ e)];exact e)
 ·rw[ad (no b _ e)]
  exact un.frzs b o x (by rw[aw (no b _ e)];exact e)
 ·obtain⟨m,q⟩:=un.tbls b ps (by rw[aw (no b _ e)];exact e)
  exact⟨m,by rw[ad (no b _ e)];exact q⟩
theorem ve{E E':XK}{u:Value}(hl:∀c∈l,c ∉ frs outer∧H c=none∧∃o,s.heap.get? c=some o)(hq:∀c d H',E' c d H'→(∀c∈l,H' c=dI H l s.heap c)→E c d (bc H' l))(h:L2N.CX P w outer (dI H l s.heap) s E' u s'):L2N.CX P w outer H s E u s':=by
 obtain⟨a,B,H',cls,d,rfl,fl,hok,ub,na,os,ag,q⟩:=h
 have at_:∀c∈l,H' c=dI H l s.heap c:=fun c hc=>by
  obtain⟨o,ho⟩:=(hl c hc).2.2
  rw[be hc ho]
  exact ub.frzs _ _ _ (be hc ho)
 have cin:cw H' l:=fun c hc=>by
  obtain⟨o,ho⟩:=(hl c hc).2.2
  exact⟨o,by rw[at_ c hc];exact be hc ho⟩
 have no:∀b x,H b=some x→b ∉ l:=fun b x z1 z2=>by rw[(hl b z2).2.1]at z1;cases z1
 have kp:∀b o,b∈l→s.heap.get? b=some o→B.get? b=some o:=fun b o hb ho=>by
  have z:H' b=some (.frz o (.own b)):=by rw[at_ b hb];exact be hb ho
  exact (show ObjOk P w H' B b (.frz o (.own b)) from hok b _ z).1
 refine⟨a,B,bc H' l,cls,d,rfl,fl,jZ hok cin,⟨fun b o e n h1=>?_,ub.slot,fun b o e n=>?_,ub.there,fun b xs e=>?_,fun b o x e=>?_,fun b ps e=>?_⟩,?_,os,ag,hq cls d H' q at_⟩
 ·by_cases hb:b∈l
  ·exact kp b o hb e
  ·exact ub.keep b o e (by rw[aw hb];exact n) h1
 ·by_cases hb:b∈l
  ·exact aU hb
  ·rw[ad hb]
   exact ub.free b o e (by rw[aw hb];exact n)
 ·rw[ad (no b _ e)]
  exact ub.tups b xs (by rw[aw (no b _ e)];exact e)
 ·rw[ad (no b _ e)]
  exact ub.frzs b o x (by rw[aw (no b _ e)];exact e)
 ·obtain⟨m,q⟩:=ub.tbls b ps (by rw[aw (no b _ e)];exact e)
  exact⟨m,by rw[ad (no b _ e)];exact q⟩
 ·by_cases ha:a∈l
  ·exact aU ha
  ·rw[ad ha];exact na
def dh(H' H:Hp)(l:List Addr):Hp:=fun b=>if b∈l then H b else H' b
theorem dg{H' H:Hp}{l:List Addr}{b:Addr}(hb:b∈l):dh H' H l b=H b:=if_pos hb
theorem av{H' H:Hp}{l:List Addr}{b:Addr}(hb:b ∉ l):dh H' H l b=H' b:=if_neg hb
theorem lp{h:Heap}(hok:HOk P w H' h)(hn:∀c∈l,H' c=none)(hl:∀c∈l,∃o,H c=some (.frz o (.own c))∧h.get? c=some o):HOk P w (dh H' H l) h:=fun a o q=>by
 by_cases ha:a∈l
 ·rw[dg ha]at q
  obtain⟨o',z1,z2⟩:=hl a ha
  rw[z1]at q
  cases q
  exact⟨z2,⟨o',z2⟩⟩
 ·rw[av ha]at q
  have no:∀b u,H' b=some u→b ∉ l:=fun b u z1 z2=>by rw[hn b z2]at z1;cases z1
  exact (hok a o q).stay (fun _ _ _ z=>z) (fun b z=>by rw[av (no b _ z)];exact z) fun b xs z=>by rw[av (no b _ z)];exact z
theorem Cj{Q Q':VK}{u:Value}(hok0:HOk P w H s.heap)(hl:cw H l)(hf:∀c∈l,c ∉ frs outer)(hq:∀v H',Q' v H'→(∀c∈l,H' c=none)→Q v (dh H' H l))(h:CE outer P w (bc H l) s Q' u s'):CE outer P w H s Q u s':=by
 obtain⟨v,H',os,bare,un,hok,r,q⟩:=h
 have ob:∀c∈l,∃o,H c=some (.frz o (.own c))∧s.heap.get? c=some o:=fun c hc=>by
  obtain⟨o,z⟩:=hl c hc
  exact⟨o,z,(show ObjOk P w H s.heap c (.frz o (.own c)) from hok0 c _ z).1⟩
 have nn:∀c∈l,H' c=none:=fun c hc=>by
  obtain⟨o,z1,z2⟩:=ob c hc
  exact un.free c o z2 (aU hc) (fun z=>nomatch z)
 have kp:∀c∈l,∃o,H c=some (.frz o (.own c))∧s'.heap.get? c=some o:=fun c hc=>by
  obtain⟨o,z1,z2⟩:=ob c hc
  exact⟨o,z1,un.keep c o z2 (aU hc) (hf c hc) (fun z=>nomatch z)⟩
 have no:∀b x,H b=some x→(∀o,x≠.frz o (.own b))→b ∉ l:=fun b x z1 z2 z3=>by
  obtain⟨o,z⟩:=hl b z3
  rw[z1]at z
  exact z2 o (Option.some.inj z)
 have nl:∀b,H b=none→b ∉ l:=fun b z1 z2=>by
  obtain⟨o,z⟩:=hl b z2
  rw[z1]at z;cases z
 refine⟨v,dh H' H l,os,bare,⟨fun b o e n h1 h2=>?_,fun b o e n h1 h2=>?_,fun b o e n h1=>?_,un.there,fun b xs e=>?_,fun b o x e=>?_,fun b ps e=>?_⟩,lp hok nn kp,r,hq v H' q nn⟩
 ·exact un.keep b o e (by rw[ad (nl b n)];exact n) h1 h2
 ·exact un.slot b o e (by rw[ad (nl b n)];exact n) h1 h2
 ·rw[av (nl b n)]
  exact un.free b o e (by rw[ad (nl b n)];exact n) h1
 ·have z:=no b _ e (fun _ z=>by cases z)
  rw[av z]
  exact un.tups b xs (by rw[ad z];exact e)
 ·by_cases hb:b∈l
  ·rw[dg hb];exact e
  ·rw[av hb]
   exact un.frzs b o x (by rw[ad hb];exact e)
 ·have z:=no b _ e (fun _ z=>by cases z)
  obtain⟨m,q⟩:=un.tbls b ps (by rw[ad z];exact e)
  exact⟨m,by rw[av z];exact q⟩
theorem Cc{E E':XK}{u:Value}(hok0:HOk P w H s.heap)(hl:cw H l)(hf:∀c∈l,c ∉ frs outer)(hq:∀c d H',E' c d H'→(∀c∈l,H' c=none)→E c d (dh H' H l))(h:L2N.CX P w outer (bc H l) s E' u s'):L2N.CX P w outer H s E u s':=by
 obtain⟨a,B,H',cls,d,rfl,fl,hok,ub,na,os,ag,q⟩:=h
 have ob:∀c∈l,∃o,H c=some (.frz o (.own c))∧s.heap.get? c=some o:=fun c hc=>by
  obtain⟨o,z⟩:=hl c hc
  exact⟨o,z,(show ObjOk P w H s.heap c (.frz o (.own c)) from hok0 c _ z).1⟩
 have nn:∀c∈l,H' c=none:=fun c hc=>by
  obtain⟨o,z1,z2⟩:=ob c hc
  exact ub.free c o z2 (aU hc)
 have kp:∀c∈l,∃o,H c=some (.frz o (.own c))∧B.get? c=some o:=fun c hc=>by
  obtain⟨o,z1,z2⟩:=ob c hc
  exact⟨o,z1,ub.keep c o z2 (aU hc) (hf c hc)⟩
 have no:∀b x,H b=some x→(∀o,x≠.frz o (.own b))→b ∉ l:=fun b x z1 z2 z3=>by
  obtain⟨o,z⟩:=hl b z3
  rw[z1]at z
  exact z2 o (Option.some.inj z)
 have nl:∀b,H b=none→b ∉ l:=fun b z1 z2=>by
  obtain⟨o,z⟩:=hl b z2
  rw[z1]at z;cases z
 have nBa:B.get? a=none:=fl.2.1
 refine⟨a,B,dh H' H l,cls,d,rfl,fl,lp hok nn kp,⟨fun b o e n h1=>?_,ub.slot,fun b o e n=>?_,ub.there,fun b xs e=>?_,fun b o x e=>?_,fun b ps e=>?_⟩,?_,os,ag,hq cls d H' q nn⟩
 ·exact ub.keep b o e (by rw[ad (nl b n)];exact n) h1
 ·rw[av (nl b n)]
  exact ub.free b o e (by rw[ad (nl b n)];exact n)
 ·have z:=no b _ e (fun _ z=>by cases z)
  rw[av z]
  exact ub.tups b xs (by rw[ad z];exact e)
 ·by_cases hb:b∈l
  ·rw[dg hb];exact e
  ·rw[av hb]
   exact ub.frzs b o x (by rw[ad hb];exact e)
 ·have z:=no b _ e (fun _ z=>by cases z)
  obtain⟨m,q⟩:=ub.tbls b ps (by rw[ad z];exact e)
  exact⟨m,by rw[av z];exact q⟩
 ·have z:a ∉ l:=fun z=>by
   obtain⟨o,_,z2⟩:=kp a z
   rw[nBa]at z2;cases z2
  rw[av z];exact na
end
end Av
namespace Av
variable [Tb]
section
variable {K:M0} {G G1:AG} {H H1:Hp} {D:Addr}
theorem RelG.updU{xs ys:List V}(g:RelG K G H)(n:G D=none)(h:H D=some (.lst xs)):RelG K G (upd H D (.lst ys)):=⟨fun a w q=>by
 have d:a≠D:=fun z=>by rw[z,n]at q;cases q
 exact (g.g a w q).mono (.lst h) (upd_ne d),bo g.t h Soft.lst⟩
theorem Fra.updU{xs ys:List V}(f:Fra G1 H1 G H)(e:H1 D=none)(h:H D=some (.lst xs)):Fra G1 H1 G (upd H D (.lst ys)):=fun a o q t n=>by
 have d:a≠D:=fun z=>by rw[z,e]at q;cases q
 obtain⟨h1,h2⟩:=f a o q t n
 exact⟨by rw[upd_ne d];exact h1,h2⟩
end
theorem ip{σ:L2.St}{vs:List Nat}:L2.wipe (L2.wipe σ vs) vs=L2.wipe σ vs:=by
 refine List.ext_getElem? fun j=>?_
 rw[cP,cP]
 by_cases h:j∈vs
 ·rw[if_pos h,if_pos h]
  cases σ[j]? <;> rfl
 ·rw[if_neg h]
abbrev WF:WX:=fun _ _ _ _=>False
theorem vN{X:Cx}:L2N.Takes X WF:=fun _ _ ⟨_,_,_,_,_,_,_,_,_,_,_,_,_,_,_,_,w⟩=>False.elim w
theorem cX{K:M0}{G:AG}{H:Hp}{W:XK}:PostX K G H noX W:=fun _ _ _ _ _ _ _ _ z=>False.elim z
theorem Oc.blk{X:Cx}{W:WX}{Γ:Gam}{k:Nat}(oc:Oc X W Γ k)(s:Shared)(H:Hp)(scope:Scope)(env:Env)(fp:List Addr):Oc (X.blk s H scope env fp) WF Γ k :=
 ⟨oc.room,oc.nd,oc.calm,vN,oc.tb⟩
abbrev WfE:=aj→AG→AQ→AX→Prop
abbrev WfT:=aj→AG→(Bool→AG→Prop)→AX→Prop
abbrev WfI:=aj→AG→(List Dat→Gd→AG→Prop)→AX→Prop
def lcG(z:Bool)(wi:WfI)(wt:WfT)(we:WfE)(g:TGt)(own:List Nat):WfE:=fun ρ G Q E=>wi ρ G (fun ds gd G1=>fA z (fun ρ1 G Q=>wt ρ1 G Q noX) (fun ρ1 G Q=>we ρ1 G Q noX) g own gd ρ Q ds [] G1) E
theorem iU{z:Bool}{elt:aj→AG→AQ→Prop}{g:TGt}{own:List Nat}{gd:Gd}{ρ:aj}{Q:AQ}:∀(ds acc:List Dat) (G:AG),fA z (fun _ G Q=>Q true G) elt g own gd ρ Q ds acc G=lcW z elt g own gd ρ Q ds acc G
 |[],_,_=>rfl
 |d :: ds,acc,G=>by
  simp only[fA,lcW,if_true]
  have ih:=fun acc G=>iU (z:=z) (elt:=elt) (g:=g) (own:=own) (gd:=gd) (ρ:=ρ) (Q:=Q) ds acc G
  simp only[ih]
section
variable {X:Cx} {W:WX} {Γ:Gam} {k:Nat} {own:List (Str × Nat)} {g:TGt} {wi:WfI} {wt:WfT} {we:WfE} {tt:TT}
theorem k9{z:Bool}(hix:∀i∈mP g,i∈own.map (·.2))(σ:L2.St)(H:Hp)(Q Q':VK)(hq:∀v H,Qz Q v H→Q' v H)
  (htt:∀(σ:L2.St) (H:Hp) (Q:Bool→Hp→Prop) ρ G Qa,RelE X.K H ρ σ→RelG X.K G H→wt ρ G Qa noX→(∀b G' H',Fra G H G' H'→RelG X.K G' H'→Qa b G'→Q b H')→tt σ H Q)
  (h:LfE X.K W (lcG z wi wt we g (own.map (·.2))) σ H Q):tLc (LfI X.K W wi) (LfG X.K g) tt (LfE X.K WF we) (own.map (·.2)) σ H Q':=by
 obtain⟨ρ,G,Qa,Ea,hE,hG,hw,hp,hx⟩:=h
 refine⟨ρ,G,_,Ea,hE,hG,hw,fun ds gd G1 J H1 f1 g1 gk1 it q1 D hD=>?_,hx⟩
 have nD1:G1 D=none:=g1.free hD
 refine⟨fun i m H2=>m=ds.length - i∧i≤ds.length∧∃G2 acc accV,RelG X.K G2 H2∧G2 D=none∧H2 D=some (.lst accV)∧Reps X.K H2 accV acc∧Fra G1 H1 G2 H2∧fA z (fun ρ1 G Q=>wt ρ1 G Q noX) (fun ρ1 G Q=>we ρ1 G Q noX) g (own.map (·.2)) gd ρ Qa (ds.drop i) acc G2,
  ⟨ds.length,by simp,Nat.zero_le _,G1,[],[],g1.newT hD,nD1,upd_same,.nil,.newT hD,q1⟩,?_⟩
 rintro i m H2 ⟨rfl,hi,G2,acc,accV,g2,n2,h2,r2,f2,w2⟩
 have st2:Stab H1 H2:=f2.stab g1
 by_cases hlt:i<ds.length
 ·rw[List.drop_eq_getElem_cons hlt]at w2
  obtain⟨gk,w2⟩:=w2
  refine .inr ⟨it.go i H2 G2 st2 g2 gk hlt,fun H'=>∃G3 acc accV,RelG X.K G3 H'∧G3 D=none∧H' D=some (.lst accV)∧Reps X.K H' accV acc∧Fra G1 H1 G3 H'∧fA z (fun ρ1 G Q=>wt ρ1 G Q noX) (fun ρ1 G Q=>we ρ1 G Q noX) g (own.map (·.2)) gd ρ Qa (ds.drop (i+1)) acc G3,
   fun H' q=>⟨ds.length - (i+1),by omega,rfl,hlt,q⟩,fun x H3 hy=>?_⟩
  obtain⟨d,hd,f3,g3,rx⟩:=it.yld i H2 G2 x H3 st2 g2 gk hlt hy
  rw[Me hlt]at hd
  cases hd
  have f13:=f2.trans f3
  refine⟨bj ρ (own.map (·.2)),G2,_,_,(hE.mono ((f1.trans f13).stab hG)).wipe _,g3,rx,w2,fun ρ1 σ1 e1 hwp w3=>⟨(hwp _ hix).trans ip,?_⟩⟩
  obtain⟨h3,n3⟩:=f3 D _ h2 (fun _ z=>by cases z) n2
  have r3:=r2.mono (f3.stab g2)
  refine htt σ1 H3 _ ρ1 G2 _ e1 g3 w3 fun b G4 H4 f4 g4 w4=>?_
  obtain⟨h4,n4⟩:=f4 D _ h3 (fun _ z=>by cases z) n3
  cases b with
  |false =>
   rw[if_neg (by simp)]at w4 ⊢
   exact⟨G4,acc,accV,g4,n4,h4,r3.mono (f4.stab g3),f13.trans f4,w4⟩
  |true =>
   rw[if_pos rfl]at w4 ⊢
   refine⟨ρ1,G4,_,noX,e1.mono (f4.stab g3),g4,w4,fun y G5 v H5 f5 g5 r5 w5=>?_,cX⟩
   obtain⟨h5,n5⟩:=f5 D _ h4 (fun _ z=>by cases z) n4
   have r4:=(r3.mono (f4.stab g3)).mono (f5.stab g4)
   refine⟨accV,h5,by rw[r4.length];exact w5.1,G5,acc++[y],accV++[v],g5.updU n5 h5,n5,upd_same,(r4.append (.one r5)).mono (.lst h5),((f13.trans f4).trans f5).updU hD h5,w5.2⟩
 ·have e:i=ds.length:=by omega
  subst e
  rw[List.drop_length]at w2
  obtain⟨gk,w2⟩:=w2
  refine .inl ⟨it.stop _ H2 G2 st2 g2 gk (M7 _),?_⟩
  have f12:=f1.trans f2
  cases z with
  |true =>
   rw[if_pos rfl]at w2
   refine hq _ _ (.inr ⟨D,accV,rfl,h2,fun o=>hp (.lst acc) G2 (.ref D) _ (fun a u q t n=>?_) ⟨fun a u q=>?_,bo g2.t h2 Soft.lst⟩ (.lst ⟨o,upd_same⟩ (r2.mono (.lst h2))) w2⟩)
   ·obtain⟨h6,n6⟩:=f1 a u q t n
    obtain⟨h7,n7⟩:=f2 a u h6 t n6
    have d:a≠D:=fun z=>by rw[z,hD]at h6;cases h6
    exact⟨by rw[upd_ne d];exact h7,n7⟩
   ·have d:a≠D:=fun z=>by rw[z,n2]at q;cases q
    exact (g2.g a u q).mono (.lst h2) (upd_ne d)
  |false =>
  rw[if_neg (by simp)]at w2
  refine hq _ _ (.inl (hp (.ref D) (gu G2 D (.lst acc)) (.ref D) H2 (fun a o q t n=>?_) ⟨fun a o q=>?_,g2.t⟩ (.ref D) (w2 D n2)))
  ·obtain⟨h6,n6⟩:=f1 a o q t n
   obtain⟨h7,n7⟩:=f2 a o h6 t n6
   have d:a≠D:=fun z=>by rw[z,hD]at h6;cases h6
   exact⟨h7,by rw[aC d];exact n7⟩
  ·by_cases ha:a=D
   ·subst ha
    rw[ak]at q
    cases q
    exact⟨accV,h2,r2⟩
   ·rw[aC ha]at q
    exact g2.g a o q
theorem gi(K:M0)(σ:L2.St)(H:Hp)(Q:Bool→Hp→Prop)(ρ:aj)(G:AG)(Qa:Bool→AG→Prop)(hE:RelE K H ρ σ)(hG:RelG K G H)(hw:Qa true G)(hp:∀b G' H',Fra G H G' H'→RelG K G' H'→Qa b G'→Q b H'):tYes σ H Q:=hp true G H .refl hG hw
theorem jH(K:M0)(σ:L2.St)(H:Hp)(Q:Bool→Hp→Prop)(ρ:aj)(G:AG)(Qa:Bool→AG→Prop)(hE:RelE K H ρ σ)(hG:RelG K G H)(hw:wt ρ G Qa noX)(hp:∀b G' H',Fra G H G' H'→RelG K G' H'→Qa b G'→Q b H'):LfT K WF wt σ H Q :=
 ⟨ρ,G,Qa,noX,hE,hG,hw,fun d G' v H' f g r q=>by cases r;exact hp d G' H' f g q,cX⟩
variable {elt tg iter:Expr} {ifs:List Expr} {scope:Scope} {pos:Pos}
theorem vU{z:Bool}(oc:Oc X W Γ k)(hi:PI X tg iter (LfI X.K W wi))(ok:BlkOk X.N X.env.scope scope own)(hix:∀i∈mP g,i∈own.map (·.2))
  (hg:∀(s:Shared) (H:Hp) (C:Addr) (cl:List (Str × Addr)) (fp:List Addr),PG (X.blk s H scope (compEnvC scope cl C X.env) fp) tg (LfG X.K g))
  (ht:∀(s:Shared) (H:Hp) (C:Addr) (cl:List (Str × Addr)) (fp:List Addr),PTs (X.blk s H scope (compEnvC scope cl C X.env) fp) ifs tt)
  (he:∀(s:Shared) (H:Hp) (C:Addr) (cl:List (Str × Addr)) (fp:List Addr),PE (X.blk s H scope (compEnvC scope cl C X.env) fp) elt (LfE X.K WF we))(hs:∀x,foldedSetIterable iter X.env x=pure x)
  (htt:∀(σ:L2.St) (H:Hp) (Q:Bool→Hp→Prop) ρ G Qa,RelE X.K H ρ σ→RelG X.K G H→wt ρ G Qa noX→(∀b G' H',Fra G H G' H'→RelG X.K G' H'→Qa b G'→Q b H')→tt σ H Q) :
  PE X (.ListComp elt [⟨tg,iter,ifs,0⟩] scope pos) (LfE X.K W (lcG z wi wt we g (own.map (·.2)))) :=
 PE.imp (fu (pe_lc oc.calm oc.nd hi ok hg ht he hs)) fun σ H Q h=>k9 hix σ H Q _ (fun _ _ z=>z) htt h
end
end Av
namespace Av
section
variable {prog:Program} {w:World} {A:Around} {E:Value→Shared→Prop} {s:Shared}
theorem mF{a c n:Nat}(ha:a≤n)(hac:a≤c):sliceBounds (some (a:Int)) (some (c:Int)) none n=((a:Int),((min c n:Nat):Int),1):=by
 simp only[sliceBounds,Option.getD_none]
 have h1:¬((a:Int)<0):=by omega
 have h2:¬((c:Int)<0):=by omega
 simp only[h1,h2,if_false,show (1:Int) > 0 by decide,if_true]
 congr 1
 ·omega
 ·congr 1;omega
theorem fw{l b sl:Addr}{items new:Array Value}{n n2:Nat}{vl vu:Value}{a c:Nat}{Q:Unit→Shared→Prop}
  (e:s.heap.get? l=some {cls:=.type "list",data:=.seq items n})(e2:s.heap.get? b=some {cls:=.type "list",data:=.seq new n2})(hne:l≠b)
  (hs:s.heap.IsSliceOf sl vl vu .none)(pl:IsPart vl (some (a:Int)))(pu:IsPart vu (some (c:Int)))(ha:a≤items.size)(hac:a≤c)
  (hsz:items.size+new.size≤sizeLine)(h:Q () {s with heap:=s.heap.update l (Obj.mapSeq fun xs=>xs.extract 0 a++new++xs.extract (min c items.size) xs.size)}) :
  wpAny (model prog w) A (setItem (.ref l) (.ref sl) (.ref b)) Q E s:=by
 have hl:s.heap.IsList l items:=PySem.IsL.isList e
 have hb:s.heap.IsList b new:=PySem.IsL.isList e2
 obtain⟨os,hos,hcs,hds⟩:=id hs
 have hTs:s.TypeIs (.ref sl) "slice" := ⟨os,hos,hcs⟩
 have hstep:¬((rawPart none == rawInt 0)=true):=Bool.false_ne_true
 have hsame:Builtin.List.listSameRef (.ref l) (.ref b)=false:=by
  unfold Builtin.List.listSameRef
  exact beq_eq_false_iff_ne.mpr hne
 have hmax:(max (a:Int) ((min c items.size:Nat):Int)).toNat=min c items.size:=by omega
 have hz':((fun xs:Array Value=>xs.extract 0 a++new++xs.extract (min c items.size) xs.size) items).size≤sizeLine+1:=by
  simp only[Array.size_append,Array.size_extract]
  omega
 unfold setItem
 try with_reducible refine wpAny_holding ?_
 first|refine wpAny_bind (wpAny_pure ?_)|skip
 refine wpAny_bind (wpAny_sequenceKey hl.typeIs (by decide) ?_)
 refine wpAny_bind (wpAny_callSpecial?_slot (name:=Str.ofString "__setitem__") hl.typeIs F.slot_list_setitem
  (wpAny_call_entry F.slot_list_setitem hl.typeIs F.entry_list_setitem ?_ (args_list_setitem _ _ _)))
 show wpAny _ _ (Builtin.List.listSubscript? (.ref sl) >>=_) _ _ s
 refine wpAny_bind ?_
 unfold Builtin.List.listSubscript?
 refine wpAny_bind (wpAny_specialOf hTs slice_no_index ?_)
 simp only[Option.isNone_none,if_true]
 refine wpAny_pure ?_
 show wpAny _ _ (typeOf (.ref sl) >>=_) _ _ s
 refine wpAny_bind (wpAny_typeOf hTs ?_)
 first
  |rw[if_neg (by decide)]
  |refine PySem.W.KFB.if_not (by decide) ?_
 rw[listSliceParts_eq]
 refine wpAny_bind (wpAny_bind (wpAny_field hos hds (x:=.none) rfl (wpAny_bind (wpAny_listPart .none ?_))))
 rw[if_neg hstep]
 refine wpAny_bind (wpAny_field hos hds (x:=vl) rfl (wpAny_bind (wpAny_listPart pl ?_)))
 refine wpAny_bind (wpAny_field hos hds (x:=vu) rfl (wpAny_bind (wpAny_listPart pu (wpAny_pure ?_))))
 first
  |simp only[hsame,M6,if_false]
  |refine PySem.W.KFB.if_not hsame ?_
  |(dsimp only;rw[if_neg (by rw[hsame];exact Bool.false_ne_true)])
 refine wpAny_bind (m:=Builtin.List.listAllItems (.ref b) "must assign iterable to extended slice") ?_
 unfold Builtin.List.listAllItems
 refine wpAny_bind (wpAny_typeOf hb.typeIs ?_)
 first
  |refine PySem.W.KFB.if_so (by decide) ?_
  |rw[if_pos (by decide)]
  |simp only[beq_self_eq_true,Bool.true_or,if_true]
 unfold Builtin.List.listItems
 refine wpAny_bind (wpAny_seqItems e2 rfl (wpAny_pure ?_))
 refine wpAny_bind (wpAny_bind (wpAny_seqItems e rfl (wpAny_pure ?_)))
 refine wpAny_bind (wpAny_of_eq ((sliceIndices_raw (some (a:Int)) (some (c:Int)) none items.size (by simp)).trans (congrArg (pure:Int × Int × Int→Sem (Int × Int × Int)) (mF ha hac))) ?_)
 show wpAny _ _ (if ((1:Int) == 1)=true then _ else _) _ _ s
 rw[if_pos (by decide)]
 refine wpAny_bind (wpAny_rule ?_)
 first
  |simp only[notLongL hsz,M6,if_false]
  |refine PySem.W.KFB.if_not (notLongL hsz) ?_
 first|refine wpAny_bind (wpAny_pure ?_)|skip
 show wpAny _ _ (updateSeq l (fun xs=>xs.extract 0 ((a:Int)).toNat++new++xs.extract (max (a:Int) ((min c items.size:Nat):Int)).toNat xs.size) >>=_) _ _ s
 rw[hmax,Int.toNat_natCast]
 refine wpAny_bind (wpAny_updateSeq (hz:=Nat.le_trans (Nat.le_add_right _ _) hsz) (_hz':=hz') e rfl ?_)
 refine wpAny_bind (wpAny_letGo ?_)
 first
  |exact wpAny_bind (wpAny_pure (wpAny_pure ⟨.none,rfl,wpAny_pure h⟩))
  |exact wpAny_pure ⟨.none,rfl,wpAny_pure h⟩
end
section
variable {X:Cx}
theorem lV{pins:List (Addr × Obj)}{s:Shared}{σ:L2.St}{H:Hp}{l b sl:Addr}{xs ys:List V}{a c:Int}{vl vu:Value}{Q:Unit→Shared→Prop}(I:Inv X pins σ H s)
  (hH:H l=some (.lst xs))(hB:H b=some (.lst ys))(hne:l≠b)(hs:s.heap.IsSliceOf sl vl vu .none)(ra:RelV (.int a) vl)(rc:RelV (.int c) vu)(h0:0≤a)(hac:a≤c)(hc:a≤xs.length)
  (hz:xs.length+ys.length≤sizeLine)(h:∀s',Inv X pins σ (upd H l (.lst (xs.take a.toNat++ys++xs.drop c.toNat))) s'→Q () s') :
  wpAny (model X.prog X.w) X.A (setItem (.ref l) (.ref sl) (.ref b)) Q X.xe s:=by
 obtain⟨ta,rfl⟩:=ra
 obtain⟨tc,rfl⟩:=rc
 obtain⟨z,its,n,r,hl,e⟩:=I.lstM hH
 obtain⟨z2,its2,n2,r2,hl2,e2⟩:=I.lstM hB
 obtain⟨a',rfl⟩:=Int.eq_ofNat_of_zero_le h0
 obtain⟨c',rfl⟩:=Int.eq_ofNat_of_zero_le (Int.le_trans h0 hac)
 simp only[Int.toNat_natCast]at h
 refine fw (a:=a') (c:=c') e e2 hne hs (.int _ _) (.int _ _) (by rw[List.size_toArray];omega) (by omega) (by rw[List.size_toArray,List.size_toArray];omega) (h _ ?_)
 refine I.lset (its':=its.take a'++its2++its.drop c') (t':=s.toks) hH e ?_ (Vals.append (Vals.append (r.take _) r2) (r.drop _)) ?_
 ·have:its.drop c'=its.drop (min c' its.toArray.size):=by
   rw[List.size_toArray]
   by_cases q:c'≤its.length
   ·rw[Nat.min_eq_left q]
   ·rw[Nat.min_eq_right (by omega),List.drop_of_length_le (by omega),List.drop_of_length_le (M7 _)]
  rw[this]
  exact splice_eq its its2 a' (min c' its.toArray.size)
 ·rw[Mf,Mf,Mt,List.length_drop]
  omega
def Lo(to tl th:TE):TG:=fun v σ H Q=>to σ H fun o H1=>tPart tl σ H1 fun lo H2=>tPart th σ H2 fun hi H3=>∃(a c:Int) (p b:Addr) (xs ys:List V),lo=some a∧hi=some c∧o = .ref p∧v = .ref b∧H3 p=some (.lst xs)∧H3 b=some (.lst ys)∧p≠b∧0≤a∧a≤c∧a≤xs.length∧
 xs.length+ys.length≤sizeLine∧Q σ (upd H3 p (.lst (xs.take a.toNat++ys++xs.drop c.toNat)))
theorem Ep{o lo hi:Expr}{to tl th:TE}{p2 pos:Pos}(ho:PE X o to)(hl:PE X lo tl)(hu:PE X hi th):PG X (.Subscript o (.Slice (some lo) (some hi) none p2) pos) (Lo to tl th):=by
 refine⟨fun pins s σ H v u Q I r h=>?_⟩
 show wpAny _ _ (do
  let ov ←holding [u] (eval o X.env)
  let iv ←holding [u,ov] (eval (.Slice (some lo) (some hi) none p2) X.env)
  standAt pos
  holding [u,ov,iv] (setItem ov iv u)
  release [iv,u,ov] []) _ _ s
 refine wpAny_bind (wpAny_holding (thn (ho.run pins s σ H _ I h) fun ov s1 ⟨x,H1,I1,r1,q1⟩=>?_))
 refine wpAny_bind (wpAny_holding ?_)
 refine wpAny_Slice (thn ((po_some hl).run pins s1 σ H1 _ I1 q1) fun vl s2 ⟨l,H2,I2,pl,q2⟩=>thn ((po_some hu).run pins s2 σ H2 _ I2 q2) fun vu s3 ⟨m,H3,I3,pu,q3⟩=>?_)
 obtain⟨a,c,p,b,xs,ys,rfl,rfl,rfl,rfl,h1,h2,h3,h4,h5,h6,h7,q⟩:=q3
 obtain rfl:ov=Value.ref p:=r1
 obtain rfl:u=Value.ref b:=r
 rw[evalPart_none]
 refine wpAny_pure ?_
 have I4:Inv X pins σ H3 {s3 with heap:=s3.heap.push {cls:=.type "slice",data:=.fields #[vl,vu,.none]}}:=I3.kept (t':=s3.toks) fun b ob q=>Heap.get?_push_of_some _ q
 refine wpAny_bind (wpAny_standAt (wpAny_bind (wpAny_holding ?_)))
 cases pl
 cases pu
 refine lV I4 h1 h2 h3 (Heap.IsSliceOf.new ..) ⟨_,rfl⟩ ⟨_,rfl⟩ h4 h5 h6 h7 fun s' I5=>?_
 exact wpAny_release ⟨σ,_,I5,q⟩
end
end Av
namespace Av
variable [Tb]
structure Ln(K:M0)(W:WX)(G:AG)(H:Hp)(A:bU)(D:Ends):Prop where
 nx:∀ρ' G' σ' H',Fra G H G' H'→RelE K H' ρ' σ'→RelG K G' H'→A.nx ρ' G'→D.nx σ' H'
 rt:PostE K G H A.rt D.rt
 bk:∀ρ' G' σ' H',Fra G H G' H'→RelE K H' ρ' σ'→RelG K G' H'→A.bk ρ' G'→D.bk σ' H'
 ct:∀ρ' G' σ' H',Fra G H G' H'→RelE K H' ρ' σ'→RelG K G' H'→A.ct ρ' G'→D.ct σ' H'
 ex:∀ρ' G' σ' H',Fra G H G' H'→RelE K H' ρ' σ'→RelG K G' H'→PostX K G' H' (A.ex ρ') fun c dx H''=>W c dx σ' H''
section
variable {K:M0} {W:WX} {G G1:AG} {H H1:Hp} {A:bU} {D:Ends}
theorem Ln.fra(l:Ln K W G H A D)(f:Fra G H G1 H1):Ln K W G1 H1 A D :=
 ⟨fun a b c d f2=>l.nx a b c d (f.trans f2),l.rt.fra f,fun a b c d f2=>l.bk a b c d (f.trans f2),fun a b c d f2=>l.ct a b c d (f.trans f2),fun a b c d f2=>l.ex a b c d (f.trans f2)⟩
theorem Ln.x(l:Ln K W G H A D){ρ:aj}{σ:L2.St}(h:RelE K H ρ σ)(hg:RelG K G H):PostX K G H (A.ex ρ) fun c dx H''=>W c dx σ H'':=l.ex ρ G σ H .refl h hg
theorem Ln.with(l:Ln K W G H A D)(n:aj→AG→Prop)(n':L2.St→Hp→Prop)(h:∀ρ' G' σ' H',Fra G H G' H'→RelE K H' ρ' σ'→RelG K G' H'→n ρ' G'→n' σ' H'):Ln K W G H {A with nx:=n} {D with nx:=n'}:=⟨h,l.rt,l.bk,l.ct,l.ex⟩
end
abbrev WfS:=aj→AG→bU→Prop
def LfS(K:M0)(W:WX)(w:WfS):TS:=fun D σ H=>∃ρ G A,RelE K H ρ σ∧RelG K G H∧w ρ G A∧Ln K W G H A D
section
variable {X:Cx} {W:WX} {e e1 e2:Expr} {st:Stmt} {pos:Pos} {we w1 w2 w3:WfE} {wt:WfT} {wi:WfI} {ws wr:WfS} {a b:List Stmt}
theorem xX:PSs X [] (LfS X.K W fun ρ G A=>A.nx ρ G):=PSs.imp pss_nil fun D σ H ⟨ρ,G,A,hE,hG,hw,l⟩=>l.nx ρ G σ H .refl hE hG hw
theorem sx(h1:PS X st (LfS X.K W ws))(h2:PSs X b (LfS X.K W wr)):PSs X (st :: b) (LfS X.K W fun ρ G A=>ws ρ G {A with nx:=fun ρ' G'=>wr ρ' G' A}) :=
 PSs.imp (pss_cons h1 h2) fun D σ H ⟨ρ,G,A,hE,hG,hw,l⟩=>⟨ρ,G,_,hE,hG,hw,l.with _ _ fun ρ' G' σ' H' f hE' hG' q=>⟨ρ',G',A,hE',hG',q,l.fra f⟩⟩
theorem vP{i:Nat}{x:Str}{pos':Pos}(hN:X.N.Nodup)(hi:X.N[i]?=some x)(hx:Loc X.env.scope x)(he:PE X e (LfE X.K W we))(hs:swapsWith e (some (.Name x pos')) pos.line X.env=pure false)
  (hf:X.fn x=true∨X.env.scope.names.lookup x=some .local):PS X (.Assign [.Name x pos'] e pos) (LfS X.K W fun ρ G A=>we ρ G (fun d G1=>A.nx (ρ.set i (some d)) G1) (A.ex ρ)) :=
 PS.imp (ps_set hN hi hx he hs hf) fun D σ H ⟨ρ,G,A,hE,hG,hw,l⟩=>⟨ρ,G,_,_,hE,hG,hw,fun d G1 v H1 f g r q=>l.nx _ G1 _ H1 f ((hE.mono (f.stab hG)).set r) g q,l.x hE hG⟩
theorem JW{te:TE}{i:Nat}(h:PS X st (tAsg te (gName i))):PS X st fun D σ H=>∀Q':VK,(∀v H1,Qz (fun x H1=>D.nx (σ.set i (some x)) H1) v H1→Q' v H1)→te σ H Q':=by
 refine⟨fun pins s σ H D I hq=>?_⟩
 refine thn (h.run pins s σ H {D with nx:=fun σ' H'=>D.nx σ' H'∨∃a vs,H' a=some (.lst vs)∧∀o,D.nx σ' (upd H' a (.frz o (.lst vs)))} I ?_) fun fl s1 q=>?_
 ·refine hq _ fun v H1 q=>?_
  rcases q with q|⟨a,vs,rfl,ha,q⟩
  ·exact .inl q
  ·exact .inr ⟨a,vs,ha,q⟩
 ·cases fl with
  |brk=>exact q
  |cont=>exact q
  |ret v=>exact q
  |next =>
   obtain⟨σ1,H1,I1,q|⟨a,vs,ha,q⟩⟩:=q
   ·exact⟨σ1,H1,I1,q⟩
   ·obtain⟨z,its,n,_,_,ho⟩:=I1.lstM ha
    exact⟨σ1,_,Inv.frozen I1 ha ho,q _⟩
theorem kH{z:Bool}{Γ:Gam}{k i:Nat}{y:Str}{py spos:Pos}{own:List (Str × Nat)}{g:TGt}{tt:TT}{elt tg iter:Expr}{ifs:List Expr}{scope:Scope}(oc:Oc X W Γ k)(hy:X.N[i]?=some y)(hyl:X.env.scope.names.lookup y=some .local)
  (hsw:swapsWith (.ListComp elt [⟨tg,iter,ifs,0⟩] scope pos) (some (.Name y py)) spos.line X.env=pure true)(hi:PI X tg iter (LfI X.K W wi))(ok:BlkOk X.N X.env.scope scope own)(hix:∀i∈mP g,i∈own.map (·.2))
  (hg:∀(s:Shared) (H:Hp) (C:Addr) (cl:List (Str × Addr)) (fp:List Addr),PG (X.blk s H scope (compEnvC scope cl C X.env) fp) tg (LfG X.K g))
  (ht:∀(s:Shared) (H:Hp) (C:Addr) (cl:List (Str × Addr)) (fp:List Addr),PTs (X.blk s H scope (compEnvC scope cl C X.env) fp) ifs tt)
  (he:∀(s:Shared) (H:Hp) (C:Addr) (cl:List (Str × Addr)) (fp:List Addr),PE (X.blk s H scope (compEnvC scope cl C X.env) fp) elt (LfE X.K WF we))(hs:∀x,foldedSetIterable iter X.env x=pure x)
  (htt:∀(σ:L2.St) (H:Hp) (Q:Bool→Hp→Prop) ρ G Qa,RelE X.K H ρ σ→RelG X.K G H→wt ρ G Qa noX→(∀b G' H',Fra G H G' H'→RelG X.K G' H'→Qa b G'→Q b H')→tt σ H Q) :
  PS X (.Assign [.Name y py] (.ListComp elt [⟨tg,iter,ifs,0⟩] scope pos) spos) (LfS X.K W fun ρ G A=>lcG z wi wt we g (own.map (·.2)) ρ G (fun d G1=>A.nx (ρ.set i (some d)) G1) (A.ex ρ)) :=
 PS.imp (JW (ps_setLc oc.calm oc.nd hy hyl hsw hi ok hg ht he hs)) fun D σ H ⟨ρ,G,A,hE,hG,hw,l⟩ Q' hq=>k9 hix σ H _ Q' hq htt ⟨ρ,G,_,_,hE,hG,hw,fun d G1 v H1 f g r q=>l.nx _ G1 _ H1 f ((hE.mono (f.stab hG)).set r) g q,l.x hE hG⟩
theorem Ae{ρ:aj}{i:Nat}{d d':Dat}(h:i<ρ.length)(e:ρ.set i (some d)=ρ.set i (some d')):d=d':=by
 have q:=congrArg (fun l:aj=>l[i]?) e
 simp only[List.getElem?_set_self h,Option.some.injEq]at q
 exact q
theorem Dk{i:Nat}{x:Str}(hi:X.N[i]?=some x)(h:PS X st (LfS X.K W fun ρ G A=>we ρ G (fun d G1=>A.nx (ρ.set i (some d)) G1) (A.ex ρ))) :
  PS X st (LfS X.K W fun ρ G A=>we ρ G (fun d G1=>mR d G1 fun d' G2=>A.nx (ρ.set i (some d')) G2) (A.ex ρ)):=by
 refine⟨fun pins s σ H D I ⟨ρ,G,A,hE,hG,hw,l⟩=>?_⟩
 have hlt:i<ρ.length:=by
  rw[hE.1,I.len]
  exact (List.getElem?_eq_some_iff.mp hi).1
 let n1:aj→AG→Prop:=fun ρ' G1=>∃d,ρ'=ρ.set i (some d)∧mR d G1 fun d' G2=>A.nx (ρ.set i (some d')) G2
 have eq:(fun d G1=>n1 (ρ.set i (some d)) G1)=(fun d G1=>mR d G1 fun d' G2=>A.nx (ρ.set i (some d')) G2):=by
  funext d G1
  exact propext ⟨fun ⟨d',e,q⟩=>by rw[Ae hlt e];exact q,fun q=>⟨d,rfl,q⟩⟩
 let n2:L2.St→Hp→Prop:=fun σ' H'=>∃ρ' G',Fra G H G' H'∧RelE X.K H' ρ' σ'∧RelG X.K G' H'∧n1 ρ' G'
 refine thn (h.run pins s σ H {D with nx:=n2} I ⟨ρ,G,{A with nx:=n1},hE,hG,?_,l.with n1 n2 fun ρ' G' σ' H' f a b c=>⟨ρ',G',f,a,b,c⟩⟩) fun fl s1 q=>?_
 ·show we ρ G (fun d G1=>n1 (ρ.set i (some d)) G1) (A.ex ρ)
  rw[eq]
  exact hw
 ·cases fl with
  |brk=>exact q
  |cont=>exact q
  |ret v=>exact q
  |next =>
   obtain⟨σ1,H1,I1,ρ1,G1,f1,e1,g1,d,rfl,q⟩:=q
   obtain⟨v,hv,rv⟩:=e1.2 i d (List.getElem?_set_self hlt)
   have fin:∀d' G2 H2,Fra G1 H1 G2 H2→RelG X.K G2 H2→Rep X.K H2 v d'→A.nx (ρ.set i (some d')) G2→D.nx σ1 H2:=fun d' G2 H2 f2 g2 r2 q2=>by
    refine l.nx _ G2 σ1 H2 (f1.trans f2) ⟨by rw[List.length_set,←e1.1,List.length_set],fun j c hj=>?_⟩ g2 q2
    by_cases hij:i=j
    ·subst hij
     rw[List.getElem?_set_self hlt]at hj
     cases hj
     exact⟨v,hv,r2⟩
    ·rw[List.getElem?_set_ne hij]at hj
     obtain⟨u,h1,h2⟩:=e1.2 j c (by rw[List.getElem?_set_ne hij];exact hj)
     exact⟨u,h1,h2.mono (f2.stab g1)⟩
   rcases lB q with⟨p,ds,rfl,ep,q1⟩|⟨p,kvs,rfl,ep,q1⟩|q1
   ·cases aK rv
    obtain⟨vs,h2,h3⟩:=g1.lst ep
    obtain⟨z,its,n,_,_,ho⟩:=I1.lstM h2
    obtain⟨f2,g2,r2⟩:=lA (o:={cls:=.type "list",data:=.seq its.toArray n}) g1 ep h2 h3
    exact⟨σ1,_,Inv.frozen I1 h2 ho,fin _ _ _ f2 g2 r2 q1⟩
   ·cases aK rv
    obtain⟨vk,h2,h3⟩:=(show AOk X.K H1 p (.dk kvs) from g1.g p _ ep)
    obtain⟨_,_,vs,_,o,es,ep2,h4,_⟩:=(show ObjOk X.prog X.w H1 s1.heap p (.dK vk) from I1.hok p _ h2)
    obtain⟨f2,g2,r2⟩:=i7 (o:=o) g1 ep h2 h3
    exact⟨σ1,_,Inv.frozenK I1 h2 h4,fin _ _ _ f2 g2 r2 q1⟩
   ·exact⟨σ1,H1,I1,fin _ _ _ .refl g1 rv q1⟩
theorem sA{ts:List Expr}{is:List Nat}{kk:Nat}{pt:Pos}(hc:X.calm=true)(hN:X.N.Nodup)(h:iP X ts is)(he:PE X e (LfE X.K W we))(hs:swapsWithSole [.Tuple ts kk pt] e pos.line X.env=pure false)
  (hw:swappedStores [.Tuple ts kk pt] e X.env=pure none):PS X (.Assign [.Tuple ts kk pt] e pos) (LfS X.K W fun ρ G A=>we ρ G (fun d G1=>tgW (.tp is) d ρ fun ρ1=>A.nx ρ1 G1) (A.ex ρ)) :=
 PS.imp (ps_asg he (DC (pos:=pt) hc hN h) hs hw rfl) fun D σ H ⟨ρ,G,A,hE,hG,hq,l⟩=>⟨ρ,G,_,_,hE,hG,hq,fun d G1 v H1 f g r q=>⟨ρ,G1,d,_,hE.mono (f.stab hG),g,r,q,fun ρ' σ' e' _ q'=>l.nx ρ' G1 σ' H1 f e' g q'⟩,l.x hE hG⟩
theorem y4{i j:Nat}{x y:Str}{a b:Expr}{px py pt:Pos}{kt k2 pt2}(hc:X.calm=true)(hN:X.N.Nodup)(hi:X.N[i]?=some x)(hj:X.N[j]?=some y)(hij:i≠j)
  (hx:X.env.scope.names.lookup x=some .local)(hy:X.env.scope.names.lookup y=some .local)(h1:PE X a (LfE X.K W w1))(h2:PE X b (LfE X.K W w2))(hs1:starEach [a,b] X.env=(false,eval a X.env) :: starEach [b] X.env)(hs2:starEach [b] X.env=[(false,eval b X.env)])
  (hw:swappedStores [.Tuple [.Name x px,.Name y py] kt pt] (.Tuple [a,b] k2 pt2) X.env=pure (some [x,y]))
  (hs:swapsWithSole [.Tuple [.Name x px,.Name y py] kt pt] (.Tuple [a,b] k2 pt2) pos.line X.env=pure false) :
  PS X (.Assign [.Tuple [.Name x px,.Name y py] kt pt] (.Tuple [a,b] k2 pt2) pos) (LfS X.K W fun ρ G A=>w1 ρ G (fun x G1=>w2 ρ G1 (fun y G2=>A.nx ((ρ.set i (some x)).set j (some y)) G2) (A.ex ρ)) (A.ex ρ)) :=
 PS.imp (ps_par hc hN hi hj hij hx hy (pa_cons h1 (pa_cons h2 pa_nil hs2) hs1) hw hs) fun D σ H ⟨ρ,G,A,hE,hG,hq,l⟩=>⟨ρ,G,_,_,hE,hG,hq,fun d G1 v H1 f g r q=>⟨ρ,G1,_,_,hE.mono (f.stab hG),g,q,
  fun d2 G2 u H2 f2 g2 r2 q2=>⟨v,u,rfl,l.nx _ G2 _ H2 (f.trans f2) (((hE.mono ((f.trans f2).stab hG)).set (r.mono (f2.stab g))).set r2) g2 q2⟩,(l.fra f).x (hE.mono (f.stab hG)) g⟩,l.x hE hG⟩
theorem y3{i j m:Nat}{x y z:Str}{a b c:Expr}{px py pz pt:Pos}{kt k2 pt2}(hc:X.calm=true)(hN:X.N.Nodup)(hi:X.N[i]?=some x)(hj:X.N[j]?=some y)(hm:X.N[m]?=some z)(hij:i≠j)(him:i≠m)(hjm:j≠m)
  (hx:X.env.scope.names.lookup x=some .local)(hy:X.env.scope.names.lookup y=some .local)(hz:X.env.scope.names.lookup z=some .local)(h1:PE X a (LfE X.K W w1))(h2:PE X b (LfE X.K W w2))(h3:PE X c (LfE X.K W w3))
  (hs1:starEach [a,b,c] X.env=(false,eval a X.env) :: starEach [b,c] X.env)(hs2:starEach [b,c] X.env=(false,eval b X.env) :: starEach [c] X.env)(hs3:starEach [c] X.env=[(false,eval c X.env)])
  (hw:swappedStores [.Tuple [.Name x px,.Name y py,.Name z pz] kt pt] (.Tuple [a,b,c] k2 pt2) X.env=pure (some [x,y,z]))
  (hs:swapsWithSole [.Tuple [.Name x px,.Name y py,.Name z pz] kt pt] (.Tuple [a,b,c] k2 pt2) pos.line X.env=pure false) :
  PS X (.Assign [.Tuple [.Name x px,.Name y py,.Name z pz] kt pt] (.Tuple [a,b,c] k2 pt2) pos) (LfS X.K W fun ρ G A=>w1 ρ G (fun x G1=>w2 ρ G1 (fun y G2=>w3 ρ G2 (fun z G3=>A.nx (((ρ.set i (some x)).set j (some y)).set m (some z)) G3) (A.ex ρ)) (A.ex ρ)) (A.ex ρ)) :=
 PS.imp (ps_par3 hc hN hi hj hm hij him hjm hx hy hz (pa_cons h1 (pa_cons h2 (pa_cons h3 pa_nil hs3) hs2) hs1) hw hs) fun D σ H ⟨ρ,G,A,hE,hG,hq,l⟩=>⟨ρ,G,_,_,hE,hG,hq,fun d G1 v H1 f g r q=>⟨ρ,G1,_,_,hE.mono (f.stab hG),g,q,
  fun d2 G2 u H2 f2 g2 r2 q2=>⟨ρ,G2,_,_,hE.mono ((f.trans f2).stab hG),g2,q2,fun d3 G3 t H3 f3 g3 r3 q3=>⟨v,u,t,rfl,l.nx _ G3 _ H3 ((f.trans f2).trans f3) ((((hE.mono (((f.trans f2).trans f3).stab hG)).set (r.mono ((f2.trans f3).stab g))).set (r2.mono (f3.stab g2))).set r3) g3 q3⟩,
   (l.fra (f.trans f2)).x (hE.mono ((f.trans f2).stab hG)) g2⟩,(l.fra f).x (hE.mono (f.stab hG)) g⟩,l.x hE hG⟩
theorem y6(he:PE X e (LfE X.K W we))(hs:swapsWith e none pos.line X.env=pure false):PS X (.Expr e pos) (LfS X.K W fun ρ G A=>we ρ G (fun _ G1=>A.nx ρ G1) (A.ex ρ)) :=
 PS.imp (ps_expr he hs) fun D σ H ⟨ρ,G,A,hE,hG,hw,l⟩=>⟨ρ,G,_,_,hE,hG,hw,fun d G1 v H1 f g r q=>l.nx _ G1 _ H1 f (hE.mono (f.stab hG)) g q,l.x hE hG⟩
theorem Dj(he:PE X e (LfE X.K W we)):PS X (.Return (some e) pos) (LfS X.K W fun ρ G A=>we ρ G A.rt (A.ex ρ)) :=
 PS.imp (ps_ret he) fun D σ H ⟨ρ,G,A,hE,hG,hw,l⟩=>⟨ρ,G,_,_,hE,hG,hw,l.rt,l.x hE hG⟩
theorem xY:PS X (.Return none pos) (LfS X.K W fun ρ G A=>A.rt .non G):=PS.imp ps_retN fun D σ H ⟨ρ,G,A,hE,hG,hw,l⟩=>l.rt.val hG .non hw
theorem xZ:PS X (.Pass pos) (LfS X.K W fun ρ G A=>A.nx ρ G):=PS.imp ps_pass fun D σ H ⟨ρ,G,A,hE,hG,hw,l⟩=>l.nx ρ G σ H .refl hE hG hw
theorem Dm{x j pos'}:PS X (.Expr (.Constant (.str x) j pos') pos) (LfS X.K W fun ρ G A=>A.nx ρ G):=PS.imp ps_doc fun D σ H ⟨ρ,G,A,hE,hG,hw,l⟩=>l.nx ρ G σ H .refl hE hG hw
theorem Dn:PS X (.Break pos) (LfS X.K W fun ρ G A=>A.bk ρ G):=PS.imp ps_break fun D σ H ⟨ρ,G,A,hE,hG,hw,l⟩=>l.bk ρ G σ H .refl hE hG hw
theorem z6:PS X (.Continue pos) (LfS X.K W fun ρ G A=>A.ct ρ G):=PS.imp ps_continue fun D σ H ⟨ρ,G,A,hE,hG,hw,l⟩=>l.ct ρ G σ H .refl hE hG hw
theorem Hg(hc:PT X e (LfT X.K W wt))(ha:PSs X a (LfS X.K W ws))(hb:PSs X b (LfS X.K W wr)):PS X (.If e a b pos) (LfS X.K W fun ρ G A=>wt ρ G (fun k G1=>if k=true then ws ρ G1 A else wr ρ G1 A) (A.ex ρ)):=by
 refine PS.imp (ps_if hc ha hb) fun D σ H ⟨ρ,G,A,hE,hG,hw,l⟩=>⟨ρ,G,_,_,hE,hG,hw,fun d G1 v H1 f g r q=>?_,l.x hE hG⟩
 cases r
 cases d with
 |true =>
  rw[if_pos rfl]at q ⊢
  exact⟨ρ,G1,A,hE.mono (f.stab hG),g,q,l.fra f⟩
 |false =>
  rw[if_neg (by simp)]at q ⊢
  exact⟨ρ,G1,A,hE.mono (f.stab hG),g,q,l.fra f⟩
theorem sy(hp:PassesOwn (model X.prog X.w) X.A X.env X.xe)(hc:PT X e (LfT X.K W wt))(ha:PSs X a (LfS X.K W ws)) :
  PS X (.While e a [] pos) (LfS X.K W fun ρ G A=>∃V:Nat→aj→AG→Prop,(∃m,V m ρ G)∧∀m ρ G,V m ρ G→
   wt ρ G (fun k G1=>if k=true then ws ρ G1 {A with nx:=fun ρ' G'=>∃m',m'<m∧V m' ρ' G',ct:=fun ρ' G'=>∃m',m'<m∧V m' ρ' G',bk:=A.nx} else A.nx ρ G1) (A.ex ρ)):=by
 refine PS.imp (ps_while hp hc ha) fun D σ H ⟨ρ,G,A,hE,hG,⟨V,⟨m0,v0⟩,hV⟩,l⟩=>?_
 refine⟨fun m σ1 H1=>∃ρ1 G1,Fra G H G1 H1∧RelE X.K H1 ρ1 σ1∧RelG X.K G1 H1∧V m ρ1 G1,⟨m0,ρ,G,.refl,hE,hG,v0⟩,?_⟩
 rintro m σ1 H1 ⟨ρ1,G1,f1,e1,g1,v1⟩
 refine⟨ρ1,G1,_,_,e1,g1,hV m ρ1 G1 v1,fun d G2 v H2 f2 g2 r q=>?_,(l.fra f1).x e1 g1⟩
 cases r
 cases d with
 |true =>
  rw[if_pos rfl]at q ⊢
  refine⟨fun σ' H'=>∃m',m'<m∧∃ρ' G',Fra G H G' H'∧RelE X.K H' ρ' σ'∧RelG X.K G' H'∧V m' ρ' G',fun σ' H' z=>z,ρ1,G2,_,e1.mono (f2.stab g1),g2,q,?_⟩
  have l2:=l.fra (f1.trans f2)
  have nxt:∀ρ' G' σ' H',Fra G2 H2 G' H'→RelE X.K H' ρ' σ'→RelG X.K G' H'→(∃m',m'<m∧V m' ρ' G')→∃m',m'<m∧∃ρ' G',Fra G H G' H'∧RelE X.K H' ρ' σ'∧RelG X.K G' H'∧V m' ρ' G' :=
   fun ρ' G' σ' H' f' a b ⟨m',h1,h2⟩=>⟨m',h1,ρ',G',(f1.trans f2).trans f',a,b,h2⟩
  exact⟨nxt,l2.rt,l2.nx,nxt,l2.ex⟩
 |false =>
  rw[if_neg (by simp)]at q ⊢
  exact l.nx ρ1 G2 σ1 H2 (f1.trans f2) (e1.mono (f2.stab g1)) g2 q
theorem Dl{tg iter:Expr}{g:TGt}(hp:PassesOwn (model X.prog X.w) X.A X.env X.xe)(hc:X.calm=true)(hi:PI X tg iter (LfI X.K W wi))(hg:PG X tg (LfG X.K g))(hb:PSs X a (LfS X.K W ws))(hs:∀x,foldedSetIterable iter X.env x=pure x) :
  PS X (.For tg iter a [] pos) (LfS X.K W fun ρ G A=>wi ρ G (fun ds gd G1=>p8 ws g gd A ds ρ G1) (A.ex ρ)):=by
 refine PS.imp (ps_for hp hc hi hg hb hs) fun D σ H ⟨ρ,G,A,hE,hG,hw,l⟩=>⟨ρ,G,_,_,hE,hG,hw,fun ds gd G1 J H1 f1 g1 gk1 it q1=>?_,l.x hE hG⟩
 refine⟨fun i m σ2 H2=>m=ds.length - i∧i≤ds.length∧∃ρ2 G2,Fra G1 H1 G2 H2∧RelE X.K H2 ρ2 σ2∧RelG X.K G2 H2∧p8 ws g gd A (ds.drop i) ρ2 G2,⟨ds.length,by simp,Nat.zero_le _,ρ,G1,.refl,hE.mono (f1.stab hG),g1,q1⟩,?_⟩
 rintro i m σ2 H2 ⟨rfl,hi',ρ2,G2,f2,e2,g2,w2⟩
 have st2:=f2.stab g1
 by_cases hlt:i<ds.length
 ·rw[List.drop_eq_getElem_cons hlt]at w2
  obtain⟨gk,w2⟩:=w2
  refine .inr ⟨it.go i H2 G2 st2 g2 gk hlt,fun σ' H'=>∃ρ' G',Fra G1 H1 G' H'∧RelE X.K H' ρ' σ'∧RelG X.K G' H'∧p8 ws g gd A (ds.drop (i+1)) ρ' G',fun σ' H' q=>⟨ds.length - (i+1),by omega,rfl,hlt,q⟩,fun x H3 hy=>?_⟩
  obtain⟨d,hd,f3,g3,rx⟩:=it.yld i H2 G2 x H3 st2 g2 gk hlt hy
  rw[Me hlt]at hd
  cases hd
  have f13:=f2.trans f3
  refine⟨ρ2,G2,_,_,e2.mono (f3.stab g2),g3,rx,w2,fun ρ3 σ3 e3 _ w3=>⟨ρ3,G2,_,e3,g3,w3,?_⟩⟩
  have l3:=l.fra (f1.trans f13)
  have nxt:∀ρ' G' σ' H',Fra G2 H3 G' H'→RelE X.K H' ρ' σ'→RelG X.K G' H'→p8 ws g gd A (ds.drop (i+1)) ρ' G'→∃ρ' G',Fra G1 H1 G' H'∧RelE X.K H' ρ' σ'∧RelG X.K G' H'∧p8 ws g gd A (ds.drop (i+1)) ρ' G' :=
   fun ρ' G' σ' H' f' a b c=>⟨ρ',G',f13.trans f',a,b,c⟩
  exact⟨nxt,l3.rt,l3.nx,nxt,l3.ex⟩
 ·have e:i=ds.length:=by omega
  subst e
  rw[List.drop_length]at w2
  exact .inl ⟨it.stop _ H2 G2 st2 g2 w2.1 (M7 _),l.nx ρ2 G2 σ2 H2 (f1.trans f2) e2 g2 w2.2⟩
theorem kJ{x k v:Dat}{G:AG}{Q:AG→Prop}(h:Cy x k v G Q):∃p i ds j,x = .ref p∧k = .int i∧G p=some (.lst ds)∧ixN ds.length i=some j∧Q (gu G p (.lst (ds.set j v))):=by
 cases x <;> cases k <;> first|exact False.elim h|skip
 obtain⟨ds,j,h1,h2,h3⟩:=h
 exact⟨_,_,ds,j,rfl,rfl,h1,h2,h3⟩
theorem sC{o i:Expr}{pt:Pos}(he:PE X e (LfE X.K W w1))(ho:PE X o (LfE X.K W w2))(hi:PE X i (LfE X.K W w3))(hs:swapsWithSole [.Subscript o i pt] e pos.line X.env=pure false)(hw:swappedStores [.Subscript o i pt] e X.env=pure none)
  (h1:(assignEach [.Subscript o i pt] X.env).map (·.2)=[assign (.Subscript o i pt) X.env])
  (ha:∀v,assign (.Subscript o i pt) X.env v=(do
   let ov ←holding [v] (eval o X.env)
   let iv ←holding [v,ov] (eval i X.env)
   standAt pt
   holding [v,ov,iv] (setItem ov iv v)
   release [v,ov,iv] [])) :
  PS X (.Assign [.Subscript o i pt] e pos) (LfS X.K W fun ρ G A=>w1 ρ G (fun v G1=>w2 ρ G1 (fun x G2=>w3 ρ G2 (fun k G3=>Cy x k v G3 fun G4=>A.nx ρ G4) (A.ex ρ)) (A.ex ρ)) (A.ex ρ)):=by
 refine PS.imp (ps_asg he (pg_sub ho hi set_list ha) hs hw h1) fun D σ H ⟨ρ,G,A,hE,hG,hq,l⟩=>⟨ρ,G,_,_,hE,hG,hq,fun d G1 v H1 f g r q=>⟨ρ,G1,_,_,hE.mono (f.stab hG),g,q,
  fun d2 G2 u H2 f2 g2 r2 q2=>⟨ρ,G2,_,_,hE.mono ((f.trans f2).stab hG),g2,q2,fun d3 G3 t H3 f3 g3 r3 q3=>?_,(l.fra (f.trans f2)).x (hE.mono ((f.trans f2).stab hG)) g2⟩,(l.fra f).x (hE.mono (f.stab hG)) g⟩,l.x hE hG⟩
 obtain⟨p,m,ds,j,rfl,rfl,k1,k2,k3⟩:=kJ q3
 cases aK (r2.mono (f3.stab g2))
 cases aB r3
 obtain⟨vs,h4,h5⟩:=g3.lst k1
 have rv:=r.mono ((f2.trans f3).stab g)
 have f4:=(f.trans f2).trans f3
 have f5:Fra G3 H3 (gu G3 p (.lst (ds.set j d))) (upd H3 p (.lst (vs.set j v))):=.set k1
 refine⟨p,vs,m,j,rfl,rfl,h4,by rw[h5.length];exact k2,l.nx ρ _ σ _ (f4.trans f5) (hE.mono ((f4.trans f5).stab hG)) (g3.set k1 (show AOk X.K _ p (.lst (ds.set j d)) from ⟨_,upd_same,(h5.set rv j).mono (.lst h4)⟩)) k3⟩
theorem sG{x v:Dat}{a c:Int}{G:AG}{Q:AG→Prop}(h:Gu x v a c G Q):∃p b ds es,x = .ref p∧v = .ref b∧G p=some (.lst ds)∧G b=some (.lst es)∧p≠b∧0≤a∧a≤c∧a≤ds.length∧ds.length+es.length≤sizeLine∧Q (gu G p (.lst (ds.take a.toNat++es++ds.drop c.toNat))):=by
 unfold Gu at h
 split at h
 ·obtain⟨ds,es,h⟩:=h
  exact⟨_,_,ds,es,rfl,rfl,h⟩
 ·exact False.elim h
theorem sB{o lo hi:Expr}{pt p2:Pos}{w4:aj→AG→AQ→AX→Prop}(he:PE X e (LfE X.K W w1))(ho:PE X o (LfE X.K W w2))(hl:PE X lo (LfE X.K W w3))(hu:PE X hi (LfE X.K W w4))(hs:swapsWithSole [.Subscript o (.Slice (some lo) (some hi) none p2) pt] e pos.line X.env=pure false)(hw:swappedStores [.Subscript o (.Slice (some lo) (some hi) none p2) pt] e X.env=pure none)
  (h1:(assignEach [.Subscript o (.Slice (some lo) (some hi) none p2) pt] X.env).map (·.2)=[assign (.Subscript o (.Slice (some lo) (some hi) none p2) pt) X.env]) :
  PS X (.Assign [.Subscript o (.Slice (some lo) (some hi) none p2) pt] e pos) (LfS X.K W fun ρ G A=>w1 ρ G (fun v G1=>w2 ρ G1 (fun x G2=>w3 ρ G2 (bK fun a G3=>w4 ρ G3 (bK fun c G4=>Gu x v a c G4 fun G5=>A.nx ρ G5) (A.ex ρ)) (A.ex ρ)) (A.ex ρ)) (A.ex ρ)):=by
 refine PS.imp (ps_asg he (Ep ho hl hu) hs hw h1) fun D σ H ⟨ρ,G,A,hE,hG,hq,l⟩=>⟨ρ,G,_,_,hE,hG,hq,fun d G1 v H1 f g r q=>⟨ρ,G1,_,_,hE.mono (f.stab hG),g,q,
  fun d2 G2 u H2 f2 g2 r2 q2=>⟨ρ,G2,_,_,hE.mono ((f.trans f2).stab hG),g2,q2,fun d3 G3 t H3 f3 g3 r3 q3=>?_,(l.fra (f.trans f2)).x (hE.mono ((f.trans f2).stab hG)) g2⟩,(l.fra f).x (hE.mono (f.stab hG)) g⟩,l.x hE hG⟩
 obtain⟨a,rfl,q3⟩:=aG q3
 cases aB r3
 refine⟨a,rfl,ρ,G3,_,_,hE.mono (((f.trans f2).trans f3).stab hG),g3,q3,fun d4 G4 t4 H4 f4 g4 r4 q4=>?_,(l.fra ((f.trans f2).trans f3)).x (hE.mono (((f.trans f2).trans f3).stab hG)) g3⟩
 obtain⟨c,rfl,q4⟩:=aG q4
 cases aB r4
 obtain⟨p,b,ds,es,rfl,rfl,k1,k2,k3,k4,k5,k6,k7,k8⟩:=sG q4
 have f34:=f3.trans f4
 cases aK (r2.mono (f34.stab g2))
 have f24:=f2.trans f34
 cases aK (r.mono (f24.stab g))
 obtain⟨vs,h4,h5⟩:=g4.lst k1
 obtain⟨us,h6,h7⟩:=g4.lst k2
 have f5:=f.trans f24
 have f6:Fra G4 H4 (gu G4 p (.lst (ds.take a.toNat++es++ds.drop c.toNat))) (upd H4 p (.lst (vs.take a.toNat++us++vs.drop c.toNat))):=.set k1
 refine⟨c,rfl,a,c,p,b,vs,us,rfl,rfl,rfl,rfl,h4,h6,k3,k4,k5,by rw[h5.length];exact k6,by rw[h5.length,h7.length];exact k7,l.nx ρ _ σ _ (f5.trans f6) (hE.mono ((f5.trans f6).stab hG)) (g4.set k1 (show AOk X.K _ p (.lst (ds.take a.toNat++es++ds.drop c.toNat)) from ⟨_,upd_same,(((h5.take a.toNat).append h7).append (h5.drop c.toNat)).mono (.lst h4)⟩)) k8⟩
theorem sD{o i:Expr}{pt px ptt:Pos}{x:Str}{j kk:Nat}(hc:X.calm=true)(hN:X.N.Nodup)(h:iP X [.Name x px] [j])(he:PE X e (LfE X.K W w1))(ho:PE X o (LfE X.K W w2))(hi:PE X i (LfE X.K W w3))
  (hs:swapsWithSole [.Tuple [.Subscript o i pt,.Name x px] kk ptt] e pos.line X.env=pure false)(hw:swappedStores [.Tuple [.Subscript o i pt,.Name x px] kk ptt] e X.env=pure none)
  (ha:∀v,assign (.Subscript o i pt) X.env v=(do
   let ov ←holding [v] (eval o X.env)
   let iv ←holding [v,ov] (eval i X.env)
   standAt pt
   holding [v,ov,iv] (setItem ov iv v)
   release [v,ov,iv] [])) :
  PS X (.Assign [.Tuple [.Subscript o i pt,.Name x px] kk ptt] e pos) (LfS X.K W fun ρ G A=>w1 ρ G (fun d G1=>∃a b,d = .tup [a,b]∧w2 ρ G1 (fun x G2=>w3 ρ G2 (fun k G3=>Cy x k a G3 fun G4=>A.nx (ρ.set j (some b)) G4) (A.ex ρ)) (A.ex ρ)) (A.ex ρ)):=by
 obtain⟨⟨x1,x2,x3⟩,_⟩:=h
 refine PS.imp (ps_asg he (pg_tup (n:=2) hc (pgs_cons (pg_sub ho hi set_list ha) (pgs_cons (pg_name hN x1 x2 x3) pgs_nil)) rfl rfl) hs hw rfl) fun D σ H ⟨ρ,G,A,hE,hG,hq,l⟩=>⟨ρ,G,_,_,hE,hG,hq,fun d G1 v H1 f g r q=>?_,l.x hE hG⟩
 obtain⟨a,b,rfl,q⟩:=q
 obtain⟨t,vs,rfl,k1,k2⟩:=aW r
 obtain⟨va,vb,rfl,ra,rb⟩:=iH k2
 refine⟨t,[va,vb],rfl,k1.sq,rfl,va,[vb],rfl,?_⟩
 refine⟨ρ,G1,_,_,hE.mono (f.stab hG),g,q,fun d2 G2 u H2 f2 g2 r2 q2=>⟨ρ,G2,_,_,hE.mono ((f.trans f2).stab hG),g2,q2,fun d3 G3 t3 H3 f3 g3 r3 q3=>?_,(l.fra (f.trans f2)).x (hE.mono ((f.trans f2).stab hG)) g2⟩,(l.fra f).x (hE.mono (f.stab hG)) g⟩
 obtain⟨p,m,ds,jj,rfl,rfl,k3,k4,k5⟩:=kJ q3
 cases aK (r2.mono (f3.stab g2))
 cases aB r3
 obtain⟨vs,h4,h5⟩:=g3.lst k3
 have rv:=ra.mono ((f2.trans f3).stab g)
 have f4:=(f.trans f2).trans f3
 have f5:Fra G3 H3 (gu G3 p (.lst (ds.set jj a))) (upd H3 p (.lst (vs.set jj va))):=.set k3
 refine⟨p,vs,m,jj,rfl,rfl,h4,by rw[h5.length];exact k4,vb,[],rfl,rfl,?_⟩
 exact l.nx _ _ _ _ (f4.trans f5) ((hE.mono ((f4.trans f5).stab hG)).set (rb.mono (((f2.trans f3).trans f5).stab g))) (g3.set k3 (show AOk X.K _ p (.lst (ds.set jj a)) from ⟨_,upd_same,(h5.set rv jj).mono (.lst h4)⟩)) k5
theorem nA{Γ:Gam}{k:Nat}{o:Expr}{f:Str}{pt:Pos}(oc:Oc X W Γ k)(he:PE X e (LfE X.K W w1))(ho:PE X o (LfE X.K W w2))(hs:swapsWith e (some (.Attribute o f pt)) pos.line X.env=pure false) :
  PS X (.Assign [.Attribute o f pt] e pos) (LfS X.K W fun ρ G A=>w1 ρ G (fun v G1=>w2 ρ G1 (fun x G2=>Aw Γ f v x G2 fun G3=>A.nx ρ G3) (A.ex ρ)) (A.ex ρ)):=by
 refine PS.imp (ps_fld ho he hs) fun D σ H ⟨ρ,G,A,hE,hG,hq,l⟩=>⟨ρ,G,_,_,hE,hG,hq,fun d G1 v H1 fr g r q=>⟨ρ,G1,_,_,hE.mono (fr.stab hG),g,q,fun d2 G2 u H2 f2 g2 r2 q2=>?_,(l.fra fr).x (hE.mono (fr.stab hG)) g⟩,l.x hE hG⟩
 obtain⟨p,C,fs,rfl,k1,k2,k3,k4⟩:=gz q2
 cases aK r2
 obtain⟨dx,vf,k5,k6⟩:=g2.ins k1
 obtain⟨c1,c2⟩:=oc.tb.at_ C f k2
 have f12:=fr.trans f2
 have f3:Fra G2 H2 (gu G2 p (.ins C (og f d fs))) (upd H2 p (.ins (He.ga X.K C) dx (putF f v vf))):=.set k1
 have st:=g2.stabSet (o:=.ins (He.ga X.K C) dx (putF f v vf)) k1
 have rv:=r.mono (f2.stab g)
 exact⟨p,_,dx,vf,rfl,k5,c1,c2,by rw[ld k6];exact k3,l.nx ρ _ σ _ (f12.trans f3) (hE.mono ((f12.trans f3).stab hG)) (g2.set k1 (show AOk X.K _ p (.ins C (og f d fs)) from ⟨dx,_,upd_same,KRel.mono st (lb rv k6)⟩)) k4⟩
def Lp(K:M0)(ta:TE)(f:Str):TG:=fun v σ H Q=>ta σ H fun x H1=>∃a C dx fs,x = .ref a∧H1 a=some (.ins C dx fs)∧Cls K C∧NoAttr K C f∧fs.length<1000∧Q σ (upd H1 a (.ins C dx (putF f v fs)))
theorem vZ{X:Cx}{o:Expr}{f:Str}{pt:Pos}{ta:TE}(ho:PE X o ta):PG X (.Attribute o f pt) (Lp X.K ta f):=by
 refine⟨fun pins s σ H v u Q I r h=>?_⟩
 rw[assign_Attribute]
 refine wpAny_bind (wpAny_holding (thn (ho.run pins s σ H _ I h) fun ov s1 ⟨x,H1,I1,r1,a,C,dx,fs,ex,ea,c,n,l,q⟩=>?_))
 subst ex
 obtain rfl:ov=Value.ref a:=r1
 refine wpAny_bind (wpAny_standAt (wpAny_bind (wpAny_holding (setattr_ok I1 ea c n l r fun s3 I3=>?_))))
 exact wpAny_release ⟨σ,_,I3,q⟩
theorem nB{Γ:Gam}{k:Nat}{o o':Expr}{f f':Str}{pt pt' ptt:Pos}{kk:Nat}(oc:Oc X W Γ k)(he:PE X e (LfE X.K W w1))(ho:PE X o (LfE X.K W w2))(ho':PE X o' (LfE X.K W w2))
  (hs:swapsWithSole [.Tuple [.Attribute o f pt,.Attribute o' f' pt'] kk ptt] e pos.line X.env=pure false)(hw:swappedStores [.Tuple [.Attribute o f pt,.Attribute o' f' pt'] kk ptt] e X.env=pure none) :
  PS X (.Assign [.Tuple [.Attribute o f pt,.Attribute o' f' pt'] kk ptt] e pos) (LfS X.K W fun ρ G A=>w1 ρ G (fun d G1=>∃a b,d = .tup [a,b]∧w2 ρ G1 (fun x G2=>Aw Γ f a x G2 fun G3=>w2 ρ G3 (fun y G4=>Aw Γ f' b y G4 fun G5=>A.nx ρ G5) (A.ex ρ)) (A.ex ρ)) (A.ex ρ)):=by
 refine PS.imp (ps_asg he (pg_tup (n:=2) oc.calm (pgs_cons (vZ ho) (pgs_cons (vZ ho') pgs_nil)) rfl rfl) hs hw rfl) fun D σ H ⟨ρ,G,A,hE,hG,hq,l⟩=>⟨ρ,G,_,_,hE,hG,hq,fun d G1 v H1 fr g r q=>?_,l.x hE hG⟩
 obtain⟨a,b,rfl,q⟩:=q
 obtain⟨t,vs,rfl,k1,k2⟩:=aW r
 obtain⟨va,vb,rfl,ra,rb⟩:=iH k2
 refine⟨t,[va,vb],rfl,k1.sq,rfl,va,[vb],rfl,?_⟩
 refine⟨ρ,G1,_,_,hE.mono (fr.stab hG),g,q,fun d2 G2 u H2 f2 g2 r2 q2=>?_,(l.fra fr).x (hE.mono (fr.stab hG)) g⟩
 obtain⟨p,C,fs,rfl,k1,k2,k3,k4⟩:=gz q2
 cases aK r2
 obtain⟨dx,vf,k5,k6⟩:=g2.ins k1
 obtain⟨c1,c2⟩:=oc.tb.at_ C f k2
 have f12:=fr.trans f2
 have f3:Fra G2 H2 (gu G2 p (.ins C (og f a fs))) (upd H2 p (.ins (He.ga X.K C) dx (putF f va vf))):=.set k1
 have st:=g2.stabSet (o:=.ins (He.ga X.K C) dx (putF f va vf)) k1
 have rv:=ra.mono (f2.stab g)
 have g3:=g2.set k1 (show AOk X.K _ p (.ins C (og f a fs)) from ⟨dx,_,upd_same,KRel.mono st (lb rv k6)⟩)
 have f123:=f12.trans f3
 refine⟨p,_,dx,vf,rfl,k5,c1,c2,by rw[ld k6];exact k3,vb,[],rfl,?_⟩
 refine⟨ρ,_,_,_,hE.mono (f123.stab hG),g3,k4,fun d4 G4 w H4 f4 g4 r4 q4=>?_,(l.fra f123).x (hE.mono (f123.stab hG)) g3⟩
 obtain⟨p',C',fs',rfl,m1,m2,m3,m4⟩:=gz q4
 cases aK r4
 obtain⟨dx',vf',m5,m6⟩:=g4.ins m1
 obtain⟨e1,e2⟩:=oc.tb.at_ C' f' m2
 have f1234:=f123.trans f4
 have f5:Fra G4 H4 (gu G4 p' (.ins C' (og f' b fs'))) (upd H4 p' (.ins (He.ga X.K C') dx' (putF f' vb vf'))):=.set m1
 have st':=g4.stabSet (o:=.ins (He.ga X.K C') dx' (putF f' vb vf')) m1
 have rv':=rb.mono (((f2.trans f3).trans f4).stab g)
 exact⟨p',_,dx',vf',rfl,m5,e1,e2,by rw[ld m6];exact m3,rfl,l.nx ρ _ σ _ (f1234.trans f5) (hE.mono ((f1234.trans f5).stab hG)) (g4.set m1 (show AOk X.K _ p' (.ins C' (og f' b fs')) from ⟨dx',_,upd_same,KRel.mono st' (lb rv' m6)⟩)) m4⟩
theorem y7{Γ:Gam}{k:Nat}{o i:Expr}{pt:Pos}(oc:Oc X W Γ k)(he:PE X e (LfE X.K W w1))(ho:PE X o (LfE X.K W w2))(hi:PE X i (LfE X.K W w3))(hs:swapsWith e (some (.Subscript o i pt)) pos.line X.env=pure false) :
  PS X (.Assign [.Subscript o i pt] e pos) (LfS X.K W fun ρ G A=>w1 ρ G (fun v G1=>w2 ρ G1 (fun x G2=>w3 ρ G2 (fun k G3=>B8 x k v G3 fun G4=>A.nx ρ G4) (A.ex ρ)) (A.ex ρ)) (A.ex ρ)):=by
 refine PS.imp (ps_dput oc.u1 ho hi he hs) fun D σ H ⟨ρ,G,A,hE,hG,hq,l⟩=>⟨ρ,G,_,_,hE,hG,hq,fun d G1 v H1 f g r q=>⟨ρ,G1,_,_,hE.mono (f.stab hG),g,q,
  fun d2 G2 u H2 f2 g2 r2 q2=>⟨ρ,G2,_,_,hE.mono ((f.trans f2).stab hG),g2,q2,fun d3 G3 t H3 f3 g3 r3 q3=>?_,(l.fra (f.trans f2)).x (hE.mono ((f.trans f2).stab hG)) g2⟩,(l.fra f).x (hE.mono (f.stab hG)) g⟩,l.x hE hG⟩
 obtain⟨p,kvs,y,rfl,k1,k2,k3,k4⟩:=qy q3
 cases aK (r2.mono (f3.stab g2))
 cases bC r3 k2
 obtain⟨vk,k5,k6⟩:=g3.dk k1
 have rv:=r.mono ((f2.trans f3).stab g)
 have st:=g3.stabSet (o:=.dK (putK vk y v)) k1
 have f5:Fra G3 H3 (gu G3 p (.dk (bG kvs y d))) (upd H3 p (.dK (putK vk y v))):=.set k1
 have f6:=((f.trans f2).trans f3).trans f5
 exact⟨p,_,rfl,.inl ⟨vk,y,k5,rfl,by rw[cG k6];exact k3,rfl⟩,l.nx ρ _ σ _ f6 (hE.mono (f6.stab hG)) (g3.set k1 (show AOk X.K _ p (.dk (bG kvs y d)) from ⟨_,upd_same,KRel.mono st (pJ rv k6)⟩)) k4⟩
theorem sE{Γ:Gam}{k:Nat}{C:Str}{es:List Expr}{p pc:Pos}{wa:aj→AG→(List Dat→AG→Prop)→AX→Prop}(oc:Oc X W Γ k)(hg:Gl X C)(hdb:(C == ("__debug__" : Str))=false)(ha:PA X (e :: es) (LfA X.K W wa))
  (hst:starEach (e :: es) X.env=(false,eval e X.env) :: starEach es X.env)(hpl:(backTo pc (starEach es X.env)).any (·.1)=false) :
  PS X (.Raise (some (.Call (.Name C p) (e :: es) [] pc)) none pos) (LfS X.K W fun ρ G A=>∃fl,Γ.xc C=some fl∧fl≠[]∧wa ρ G (fun ds G1=>ds.length=fl.length∧A.ex ρ C (fl.zip ds).reverse G1) (A.ex ρ)):=by
 refine⟨fun pins s σ H D I ⟨ρ,G,A,hE,hG,⟨fl,hF,h0,hq⟩,l⟩=>?_⟩
 have hm:=ue (p:=p) (pos:=pc) oc hF h0 hg hdb ha hst hpl
 exact (L2N.ps_raise oc.calm oc.tk hm).run pins s σ H D I ⟨ρ,G,A.ex ρ,hE,hG,hq,l.x hE hG,l.x hE hG⟩
theorem nE{Γ:Gam}{k:Nat}{C:Str}{p pc:Pos}(oc:Oc X W Γ k)(hg:Gl X C)(hdb:(C == ("__debug__" : Str))=false) :
  PS X (.Raise (some (.Call (.Name C p) [] [] pc)) none pos) (LfS X.K W fun ρ G A=>Γ.xc C=some []∧A.ex ρ C [] G):=by
 refine⟨fun pins s σ H D I ⟨ρ,G,A,hE,hG,⟨hF,hq⟩,l⟩=>?_⟩
 have hm:=oW (p:=p) (pos:=pc) oc hF hg hdb
 exact (L2N.ps_raise oc.calm oc.tk hm).run pins s σ H D I ⟨G,A.ex ρ,hG,hq,l.x hE hG⟩
theorem Do{i:Nat}{x:Str}{o:BO}{pos':Pos}(hN:X.N.Nodup)(hi:X.N[i]?=some x)(hx:Loc X.env.scope x)(he:PE X e (LfE X.K W we))(ho:o = .add∨o = .sub)(hf:X.fn x=true∨X.env.scope.names.lookup x=some .local) :
  PS X (.AugAssign (.Name x pos') o.op e pos) (LfS X.K W fun ρ G A=>match ρ[i]? with
   |some (some x)=>we ρ G (fun y G1=>CN o x y G1 fun z G2=>A.nx (ρ.set i (some z)) G2) (A.ex ρ)
   |_=>False):=by
 have main:∀(g:Int→Int→Int),PIp X o.op (ipI g)→(∀x y G Q,CN o x y G Q→∃i j,x = .int i∧y = .int j∧Q (.int (g i j)) G)→PS X (.AugAssign (.Name x pos') o.op e pos) (LfS X.K W fun ρ G A=>match ρ[i]? with
   |some (some x)=>we ρ G (fun y G1=>CN o x y G1 fun z G2=>A.nx (ρ.set i (some z)) G2) (A.ex ρ)
   |_=>False):=fun g hg hq=>by
  refine PS.imp (ps_aug hN hi hx he hg hf) fun D σ H ⟨ρ,G,A,hE,hG,hw,l⟩=>?_
  dsimp only at hw
  cases e1:ρ[i]? with
  |none=>rw[e1]at hw;exact False.elim hw
  |some od =>
   cases od with
   |none=>rw[e1]at hw;exact False.elim hw
   |some d =>
    rw[e1]at hw
    obtain⟨v,h1,h2⟩:=hE.2 i d e1
    refine⟨v,h1,ρ,G,_,_,hE,hG,hw,fun y G1 u H1 f g1 r q=>?_,l.x hE hG⟩
    obtain⟨m,n,rfl,rfl,q2⟩:=hq _ _ _ _ q
    cases aB h2
    cases aB r
    exact⟨m,n,rfl,rfl,l.nx _ G1 _ H1 f ((hE.mono (f.stab hG)).set (.int _)) g1 q2⟩
 rcases ho with rfl|rfl
 ·exact main _ ip_add fun x y G Q h=>by cases x <;> cases y <;> first|exact⟨_,_,rfl,rfl,h⟩|exact False.elim h
 ·exact main _ ip_sub fun x y G Q h=>by cases x <;> cases y <;> first|exact⟨_,_,rfl,rfl,h⟩|exact False.elim h
end
end Av
namespace Av
variable [Tb]
abbrev clK(X:Cx)(scope:Scope)(s:Shared):List (Str × Addr):=cellsFrom (s.heap.objs.size+1) scope.names (cloFrom X.env.cells scope.names [])
abbrev xt(X:Cx)(scope:Scope)(s:Shared):Env:=compEnvC scope (clK X scope s) s.heap.objs.size X.env
abbrev fD(X:Cx)(scope:Scope)(s:Shared)(H:Hp)(fp:List Addr):Cx:=X.blk s H scope (xt X scope s) fp
def Kr(Y:Cx)(fp:List Addr)(tn:Nat→Heap→Prop)(W:Nat→Nat→Hp→Prop)(σw:L2.St)(n:Nat)(t:Shared):Prop :=
 ∃j J,Inv Y [] σw J t∧tn j t.heap∧(∀a∈fp,J a=none)∧W j n J
section
variable {X:Cx} {pins:List (Addr × Obj)} {s:Shared} {σ:L2.St} {H:Hp} {Q:VK} {elt tg iter:Expr} {ifs:List Expr} {scope:Scope} {own:List (Str × Nat)} {pos pos':Pos} {wi:TI} {g:TG} {tt:TT} {te:TE} {use:Option (Value→Sem Unit)} {Qf:Value→Shared→Prop}
theorem pX(ok:BlkOk X.N X.env.scope scope own)(I:Inv X pins σ H s):∀q∈scope.names,q.2 = .free→∃c,X.env.cells.lookup q.1=some c:=fun q hq e=>(ok.free q hq e).elim (fun z=>I.ok.has _ (.inl z)) fun z=>I.ok.has _ (.inr z)
theorem FJ(ok:BlkOk X.N X.env.scope scope own)(I:Inv X pins σ H s){x:Str}{c:Addr}(h:(clK X scope s).lookup x=some c):((x,NameKind.free)∈scope.names∧X.env.cells.lookup x=some c)∨((x,NameKind.cell)∈scope.names∧s.heap.objs.size≤c):=by
 have hm:(x,c)∈cellsFrom (s.heap.push {cls:=.type "dict",data:=.dict #[]}).objs.size scope.names (cloFrom X.env.cells scope.names []):=by
  rw[Heap.size_push]
  exact PySem.mem_of_lookup h
 rcases cells_mem hm with hm|⟨h1,h2,_⟩
 ·rcases cloFrom_mem hm with hm|⟨h1,h2⟩
  ·cases hm
  ·obtain⟨d,hd⟩:=pX ok I _ h1 rfl
   rw[hd]at h2
   exact .inl ⟨h1,by rw[hd,h2];rfl⟩
 ·rw[Heap.size_push]at h2
  exact .inr ⟨h1,Nat.le_of_succ_le h2⟩
theorem kZ(hc:X.calm=true)(hN:X.N.Nodup)(I:Inv X pins σ H s)(hi:PI X tg iter wi)(ok:BlkOk X.N X.env.scope scope own)(hg:∀pins σ s H fp,Inv X pins σ H s→PG (fD X scope s H fp) tg g)
  (ht:∀pins σ s H fp,Inv X pins σ H s→PTs (fD X scope s H fp) ifs tt)(he:∀pins σ s H fp,Inv X pins σ H s→PE (fD X scope s H fp) elt te)(hs:∀x,foldedSetIterable iter X.env x=pure x)(h:tLc wi g tt te (own.map (·.2)) σ H Q)
  (fin:∀D C t m J,Inv X pins σ J t→Q (.ref D) J→t.heap.Ns C m→FpOk X pins J C→compPost (model X.prog X.w) X.A X.xe use Qf (.ref D) C (.ok .next) t) :
  wpAny (model X.prog X.w) X.A (comprehension (.ListComp elt [⟨tg,iter,ifs,0⟩] scope pos) scope X.env pos' (newList []) false (eval iter X.env) use) Qf X.xe s:=by
 refine wpAny_comprehension_free (use:=use) rfl hs (closure_ok (pX ok I)) ok.kind (fun q hq e=>by rw[ok.uniq q hq,e]) ?_
 refine thn (hi.run pins s σ H _ I h) fun _ t1 p1=>thn p1 fun _ t2 p2=>?_
 obtain⟨it,fp,tn,J,J2,rfl,I2,T,b2,o2,q2⟩:=p2
 refine wpAny_newObj_type (newEnv_comp ?_) (Nat.zero_le sizeLine)
 have nD:J2 t2.heap.objs.size=none:=I2.hok.fresh (M7 _)
 obtain⟨W,⟨n0,w0⟩,turn⟩:=q2 _ nD
 have I3:Inv X pins σ (upd J2 t2.heap.objs.size (.lst [])) {t2 with heap:=t2.heap.push {cls:=.type "list",data:=.seq ([]:List Value).toArray}} :=
  I2.laid (t':=t2.toks) (fun a o e=>Heap.get?_push_of_some _ e) (M7 _) ⟨Nat.zero_le _,[],0,.nil,Heap.get?_push_size _ rfl⟩
 have small:∀a∈fp,a<t2.heap.objs.size:=fun a ha=>by
  obtain⟨_,e,_⟩:=T.obj _ _ b2 a ha
  exact Heap.lt_size e
 have o3:∀a∈fp,FpOk X pins (upd J2 t2.heap.objs.size (.lst [])) a∧a<(t2.heap.push {cls:=.type "list",data:=.seq ([]:List Value).toArray}).objs.size:=fun a ha =>
  ⟨⟨by rw[upd_ne (Nat.ne_of_lt (small a ha))];exact (o2 a ha).1,(o2 a ha).2⟩,by rw[Heap.size_push];exact Nat.lt_succ_of_lt (small a ha)⟩
 have b3:=T.keep _ _ _ b2 fun a _ o e=>Heap.get?_push_of_some {cls:=.type "list",data:=.seq ([]:List Value).toArray} e
 generalize hD:t2.heap.objs.size=D at nD I3 o3 w0 turn ⊢
 generalize upd J2 D (.lst [])=J3 at I3 o3 w0
 generalize ht3:({t2 with heap:=t2.heap.push {cls:=.type "list",data:=.seq ([]:List Value).toArray}}:Shared)=t3 at I3 ⊢
 have e3:t2.heap.push {cls:=.type "list",data:=.seq ([]:List Value).toArray}=t3.heap:=by rw[←ht3]
 rw[e3]at o3 b3
 have I4:=block_start I3 ok hN o3
 have pg:PG (X.blk t3 J3 scope (xt X scope t3) fp) tg g:=hg _ _ t3 J3 fp I3
 have pt:PTs (X.blk t3 J3 scope (xt X scope t3) fp) ifs tt:=ht _ _ t3 J3 fp I3
 have pe:PE (X.blk t3 J3 scope (xt X scope t3) fp) elt te:=he _ _ t3 J3 fp I3
 have n3:∀a∈fp,J3 a=none:=fun a ha=>(o3 a ha).1.1
 have b4:tn 0 (pushCells (t3.heap.push {cls:=.type "dict",data:=.dict #[]}) scope.names):=T.keep _ _ _ b3 fun a _ o e=>pushCells_keeps _ _ _ _ (Heap.get?_push_of_some _ e)
 show codeAny _ _ (.compStart (.ListComp elt [⟨tg,iter,ifs,0⟩] scope pos) 0 (.ref it) (.ref D) (xt X scope t3)) (compPost (model X.prog X.w) X.A X.xe use Qf (.ref D) t3.heap.objs.size) {t3 with heap:=pushCells (t3.heap.push {cls:=.type "dict",data:=.dict #[]}) scope.names}
 have b4:tn 0 ({t3 with heap:=pushCells (t3.heap.push {cls:=.type "dict",data:=.dict #[]}) scope.names}:Shared).heap:=b4
 have eL:(xt X scope t3).locals=t3.heap.objs.size:=rfl
 revert I4 pg pt pe b4 eL
 show ∀(I4:Inv (X.blk t3 J3 scope (xt X scope t3) fp) [] (L2.wipe σ (own.map (·.2))) J3 {t3 with heap:=pushCells (t3.heap.push {cls:=.type "dict",data:=.dict #[]}) scope.names}),_
 generalize xt X scope t3=ce
 generalize ({t3 with heap:=pushCells (t3.heap.push {cls:=.type "dict",data:=.dict #[]}) scope.names}:Shared)=t4
 intro I4 pg pt pe b4 eL
 have still:∀{σ':L2.St} {J:Hp} {t:Shared},Inv (X.blk t3 J3 scope ce fp) [] σ' J t→(∀a∈fp,J a=none)→∀a∈fp,FpOk (X.blk t3 J3 scope ce fp) [] J a:=fun I' no a ha=>by
  have hx:=I'.ok.exf a ha
  exact⟨no a ha,hx.1,I'.ok.exfs a ha,.inl ha,fun x c e=>hx.2 x c e,fun p hp=>(Mp (show p∈([]:List (Addr × Obj)) from hp)).elim⟩
 refine codeAny_compStart_list ?_ (T.self X.A 0 _ _ _ b4 ?_)
 all_goals
  refine compLoop_any (Kr (X.blk t3 J3 scope ce fp) fp tn W (L2.wipe σ (own.map (·.2)))) (fun n t5 ⟨j,J5,I5,b5,no5,w5⟩=>?_) n0 ⟨0,J3,I4,b4,n3,w0⟩
  rcases turn j n J5 w5 with⟨stop,qe⟩|⟨go,Nx,dec,body⟩
  ·refine thnF (T.done (X.blk t3 J3 scope ce fp) rfl rfl rfl hc j [] t5 _ J5 (fun _ _=>False) I5 (still I5 no5) b5 stop) fun r t6 p6=>?_
   obtain⟨rfl,I6⟩:=p6
   obtain⟨m,hn,_⟩:=I6.loc
   have hn:t6.heap.Ns ce.locals m:=hn
   have hL:J5 ce.locals=none:=I6.free
   rw[eL]at hn hL
   exact fin D _ t6 m J5 (I3.call' (ch:=fp) I6.os I6.base I6.hok I6.bare fun a ha=>let z:=(o3 a ha).1.2;⟨z.2.2.1,z.1,z.2.2.2.1,z.2.2.2.2⟩) qe hn (I3.fpOk (M7 _) hL)
  ·refine thnF (T.item (X.blk t3 J3 scope ce fp) rfl rfl rfl hc j [] t5 _ J5 (fun _ _=>False) I5 (still I5 no5) b5 go) fun r t6 p6=>?_
   obtain⟨u,rfl,p6⟩:=p6
   refine thnF p6 fun _ t7 ⟨x,J7,I7,rx,yx,b7,no7⟩=>?_
   refine thnF (pg.run _ t7 _ J7 x u _ (I7.pinned (still I7 no7) (T.obj _ _ b7)) rx (body x J7 yx)) fun _ t8 ⟨σ8,J8,I8,wp,q8⟩=>?_
   have ends:∀{t:Shared} {J:Hp},Inv (X.blk t3 J3 scope ce fp) ([]++pinsAt fp t7.heap) σ8 J t→Nx J→∃m,m<n∧Kr (X.blk t3 J3 scope ce fp) fp tn W (L2.wipe σ (own.map (·.2))) m t:=fun {t J} I' nx=>by
    obtain⟨m,hm,w'⟩:=dec J nx
    have stays:∀a∈fp,∀o,t7.heap.get? a=some o→t.heap.get? a=some o∧J a=none:=fun a ha o e =>
     have z:=I'.pin (a,o) (List.mem_append_right _ (List.mem_append_right _ (mem_pinsAt ha e)))
     ⟨z.1,z.2.1⟩
    refine⟨m,hm,j+1,J,I'.unpinned.weak (by rw[←wp,wipe_length]) (fun i v e=>?_),T.keep _ _ _ b7 fun a ha o e=>(stays a ha o e).1,fun a ha=>?_,w'⟩
    ·rw[←wp]at e
     exact (wipe_some e).1
    ·obtain⟨o,e,_⟩:=T.obj _ _ b7 a ha
     exact (stays a ha o e).2
   refine thnF (pt.run _ t8 σ8 J8 _ I8 q8) fun b t9 ⟨J9,I9,q9⟩=>?_
   cases b with
   |false=>exact ends I9 q9
   |true=>exact thnF (pe.run _ t9 σ8 J9 _ I9 q9) fun z t10 ⟨v,J10,I10,rv,acc,hA,hz,nx⟩=>app_ok (X:=X.blk t3 J3 scope ce fp) I10 hA hz rv fun t11 I11=>ends I11 nx
theorem Ev(hc:X.calm=true)(hN:X.N.Nodup)(hi:PI X tg iter wi)(ok:BlkOk X.N X.env.scope scope own)(hg:∀pins σ s H fp,Inv X pins σ H s→PG (fD X scope s H fp) tg g)
  (ht:∀pins σ s H fp,Inv X pins σ H s→PTs (fD X scope s H fp) ifs tt)(he:∀pins σ s H fp,Inv X pins σ H s→PE (fD X scope s H fp) elt te)(hs:∀x,foldedSetIterable iter X.env x=pure x) :
  PE X (.ListComp elt [⟨tg,iter,ifs,0⟩] scope pos) (tLc wi g tt te (own.map (·.2))):=by
 refine⟨fun pins s σ H Q I h=>?_⟩
 rw[eval_ListComp]
 exact kZ hc hN I hi ok hg ht he hs h fun D C t m J I' q hn ⟨f0,f1,f2,f3,f4,f5⟩=>⟨m,hn,fun h' sb=>⟨.ref D,J,I'.turned (t':=t.toks) (fun a o ha e=>(sb.2 a ha).trans e) f0 f1 f3 f4 f5,rfl,q⟩⟩
theorem oh{i:Nat}{y:Str}{py spos:Pos}(hc:X.calm=true)(hN:X.N.Nodup)(hy:X.N[i]?=some y)(hyl:X.env.scope.names.lookup y=some .local)
  (hsw:swapsWith (.ListComp elt [⟨tg,iter,ifs,0⟩] scope pos) (some (.Name y py)) spos.line X.env=pure true)(hi:PI X tg iter wi)(ok:BlkOk X.N X.env.scope scope own)(hg:∀pins σ s H fp,Inv X pins σ H s→PG (fD X scope s H fp) tg g)
  (ht:∀pins σ s H fp,Inv X pins σ H s→PTs (fD X scope s H fp) ifs tt)(he:∀pins σ s H fp,Inv X pins σ H s→PE (fD X scope s H fp) elt te)(hs:∀x,foldedSetIterable iter X.env x=pure x) :
  PS X (.Assign [.Name y py] (.ListComp elt [⟨tg,iter,ifs,0⟩] scope pos) spos) (tAsg (tLc wi g tt te (own.map (·.2))) (gName i)):=by
 refine⟨fun pins s σ H D I h=>?_⟩
 have h:tLc wi g tt te (own.map (·.2)) σ H fun x H1=>gName i x σ H1 D.nx:=h
 rw[exec_Assign_Name_used _ _ _ _ hsw]
 refine wpAny_bind (wpAny_standAt (wpAny_bind (wpAny_bind (thn (kZ (use:=some (assign (.Name y py) X.env)) (Qf:=fun _ t=>SP X pins D .next t) hc hN I hi ok hg ht he hs h fun L C t m J I' q hn f=>?_) fun _ t hq=>wpAny_pure (wpAny_pure hq)))))
 obtain⟨f0,f1,f2,f3,f4,f5⟩:=f
 refine wpAny_assign_Name (store_ok2 (v:=V.ref L) I' hN hy (.inl hyl) rfl (fun t2 I2 ⟨a,sb,ha⟩=>?_) (.inr hyl))
 have na:C≠a:=ha.elim (fun z=>by rw[z];exact f1) fun z e=>f4 y a z e.symm
 exact⟨m,hn.sameBut sb na,fun h3 sb3=>⟨_,J,I2.turned (t':=t2.toks) (fun b o hb e=>(sb3.2 b hb).trans e) f0 f1 f3 f4 f5,q⟩⟩
end
section
variable {X:Cx} {W:WX} {Γ:Gam} {k:Nat} {own:List (Str × Nat)} {g:TGt} {wi:WfI} {wt:WfT} {we:WfE} {tt:TT} {elt tg iter:Expr} {ifs:List Expr} {scope:Scope} {pos:Pos}
theorem DP{z:Bool}(oc:Oc X W Γ k)(hi:PI X tg iter (LfI X.K W wi))(ok:BlkOk X.N X.env.scope scope own)(hix:∀i∈mP g,i∈own.map (·.2))(hg:∀pins σ s H fp,Inv X pins σ H s→PG (fD X scope s H fp) tg (LfG X.K g))
  (ht:∀pins σ s H fp,Inv X pins σ H s→PTs (fD X scope s H fp) ifs tt)(he:∀pins σ s H fp,Inv X pins σ H s→PE (fD X scope s H fp) elt (LfE X.K WF we))(hs:∀x,foldedSetIterable iter X.env x=pure x)
  (htt:∀(σ:L2.St) (H:Hp) (Q:Bool→Hp→Prop) ρ G Qa,RelE X.K H ρ σ→RelG X.K G H→wt ρ G Qa noX→(∀b G' H',Fra G H G' H'→RelG X.K G' H'→Qa b G'→Q b H')→tt σ H Q) :
  PE X (.ListComp elt [⟨tg,iter,ifs,0⟩] scope pos) (LfE X.K W (lcG z wi wt we g (own.map (·.2)))) :=
 PE.imp (fu (Ev oc.calm oc.nd hi ok hg ht he hs)) fun σ H Q h=>k9 hix σ H Q _ (fun _ _ z=>z) htt h
theorem nz{z:Bool}{i:Nat}{y:Str}{py spos:Pos}(oc:Oc X W Γ k)(hy:X.N[i]?=some y)(hyl:X.env.scope.names.lookup y=some .local)
  (hsw:swapsWith (.ListComp elt [⟨tg,iter,ifs,0⟩] scope pos) (some (.Name y py)) spos.line X.env=pure true)(hi:PI X tg iter (LfI X.K W wi))(ok:BlkOk X.N X.env.scope scope own)(hix:∀i∈mP g,i∈own.map (·.2))(hg:∀pins σ s H fp,Inv X pins σ H s→PG (fD X scope s H fp) tg (LfG X.K g))
  (ht:∀pins σ s H fp,Inv X pins σ H s→PTs (fD X scope s H fp) ifs tt)(he:∀pins σ s H fp,Inv X pins σ H s→PE (fD X scope s H fp) elt (LfE X.K WF we))(hs:∀x,foldedSetIterable iter X.env x=pure x)
  (htt:∀(σ:L2.St) (H:Hp) (Q:Bool→Hp→Prop) ρ G Qa,RelE X.K H ρ σ→RelG X.K G H→wt ρ G Qa noX→(∀b G' H',Fra G H G' H'→RelG X.K G' H'→Qa b G'→Q b H')→tt σ H Q) :
  PS X (.Assign [.Name y py] (.ListComp elt [⟨tg,iter,ifs,0⟩] scope pos) spos) (LfS X.K W fun ρ G A=>lcG z wi wt we g (own.map (·.2)) ρ G (fun d G1=>A.nx (ρ.set i (some d)) G1) (A.ex ρ)) :=
 PS.imp (JW (oh oc.calm oc.nd hy hyl hsw hi ok hg ht he hs)) fun D σ H ⟨ρ,G,A,hE,hG,hw,l⟩ Q' hq=>k9 hix σ H _ Q' hq htt ⟨ρ,G,_,_,hE,hG,hw,fun d G1 v H1 f g r q=>l.nx _ G1 _ H1 f ((hE.mono (f.stab hG)).set r) g q,l.x hE hG⟩
end
abbrev Gam.cells(Γ:Gam)(cs:Nat→Option Addr):Gam:={Γ with cs:=cs}
theorem TbOk.cells{P:Program}{w:World}{K:M0}{mg:Str→Option Value}{base:Heap}{Γ:Gam}{k:Nat}(tb:TbOk P w K mg base Γ k)(cs:Nat→Option Addr):TbOk P w K mg base (Γ.cells cs) k :=
 ⟨tb.fn,tb.gl,tb.blt,tb.at_,tb.ms,tb.mke,tb.xc,tb.xf,tb.dc,tb.fa,tb.kt,tb.lam,tb.hf,tb.rng,tb.zip,tb.enum,tb.cm,tb.mn⟩
theorem Oc.blkC{X:Cx}{W:WX}{Γ:Gam}{k:Nat}(oc:Oc X W Γ k)(s:Shared)(H:Hp)(scope:Scope)(env:Env)(fp:List Addr)(cs:Nat→Option Addr):Oc (X.blk s H scope env fp) WF {Γ with cs:=cs} k :=
 ⟨oc.room,oc.nd,oc.calm,vN,oc.tb.cells cs⟩
theorem kM{sc:Scope}:∀{names:List (Str × NameKind)} {x:Str} {k:NameKind},names.lookup x=some k→
  ∃k',(names.map fun (n,k)=>if (k == NameKind.free && sc.kind == .function && sc.names.lookup n == some .cell) then (n,NameKind.cell) else (n,k)).lookup x=some k'
 |[],_,_,h=>by cases h
 |(n,k0) :: r,x,k,h=>by
  have ih:=@kM sc r x k
  rw[Mc]
  cases hx:x == n with
  |true =>
   dsimp only
   split <;> (rw[List.lookup_cons,hx];exact⟨_,rfl⟩)
  |false =>
   rw[List.lookup_cons,hx]at h
   dsimp only
   split <;> (rw[List.lookup_cons,hx];exact ih h)
section
variable {X:Cx}
theorem c8(y:Str):Str.empty++y=y:=by
 refine Str.ext' ?_
 rw[Str.cps_append]
 simp[Str.empty]
theorem AK{e:Expr}{te:TE}{pos p p2:Pos}{j:Nat}(he:PE X e te):PE X (.FormattedValue e (-1) (some (.JoinedStr [.Constant (.str xSpec) j p] p2)) pos) (fun σ H Q=>te σ H fun x H1=>∃i:Int,x = .int i∧0≤i∧(cD i.natAbs).length≤sizeLine∧Q (.str (cD i.natAbs)) H1):=by
 refine⟨fun pins s σ H Q I h=>?_⟩
 refine wpAny_FormattedValue_spec (thn (he.run pins s σ H _ I h) fun v s1 hv=>?_)
 obtain⟨x,H1,I1,r1,i,rfl,h0,hl,q⟩:=hv
 obtain⟨t,rfl⟩:=r1
 refine thn ((pe_joined1 (pe_str (X:=X) (x:=xSpec) (j:=j) (pos:=p)) (pos:=p2)).run pins s1 σ H1 (fun v H2=>v = .str xSpec∧H2=H1) I1 ⟨rfl,rfl⟩) fun u s2 hu=>?_
 obtain⟨y,H2,I2,r2,rfl,rfl⟩:=hu
 obtain⟨t2,rfl⟩:=r2
 exact⟨xSpec,t2,rfl,qb h0 hl fun k=>⟨.str (cD i.natAbs),_,I2.tok _,⟨_,rfl⟩,q⟩⟩
theorem AM{e:Expr}{te:TE}{pos p p2 p0 pf:Pos}{j j0:Nat}{lit:Str}(hl:lit.length≤1000)(he:PE X e te):PE X (.JoinedStr [.Constant (.str lit) j0 p0,.FormattedValue e (-1) (some (.JoinedStr [.Constant (.str xSpec) j p] p2)) pf] pos)
  (fun σ H Q=>te σ H fun x H1=>∃i:Int,x = .int i∧0≤i∧lit.length+(cD i.natAbs).length≤sizeLine∧Q (.str (lit++cD i.natAbs)) H1):=by
 have big:=sizeLine_eq
 have e0:∀(Q:VK),(fun (x:V) (H1:Hp)=>∃i:Int,x = .int i∧0≤i∧lit.length+(cD i.natAbs).length≤sizeLine∧Q (.str (lit++cD i.natAbs)) H1) =
   fun x H1=>∃i:Int,x = .int i∧0≤i∧(cD i.natAbs).length≤sizeLine∧∃y:Str,V.str (cD i.natAbs) = .str y∧(Str.empty++lit++y).length≤sizeLine∧Q (.str (Str.empty++lit++y)) H1:=fun Q=>by
  funext x H1
  refine propext ⟨fun ⟨i,e,h0,h1,q⟩=>⟨i,e,h0,by omega,_,rfl,by rw[c8,Str.length_append];exact h1,by rw[c8];exact q⟩,fun ⟨i,e,h0,_,y,ey,h1,q⟩=>?_⟩
  cases ey
  rw[c8]at h1 q
  rw[Str.length_append]at h1
  exact⟨i,e,h0,h1,q⟩
 refine⟨fun pins s σ H Q I h=>(pe_joined (.cons (pe_str (X:=X) (x:=lit) (j:=j0) (pos:=p0)) (.cons (AK (p:=p) (p2:=p2) (pos:=pf) (j:=j) he) .nil))).run pins s σ H Q I ⟨lit,rfl,by rw[c8];omega,by rw[e0]at h;exact h⟩⟩
end
section
variable {X:Cx} {W:WX} {w1:WfE}
theorem Ap{e:Expr}{pos p p2 p0 pf:Pos}{j j0:Nat}{lit:Str}(hl:lit.length≤1000)(h1:PE X e (LfE X.K W w1)):PE X (.JoinedStr [.Constant (.str lit) j0 p0,.FormattedValue e (-1) (some (.JoinedStr [.Constant (.str xSpec) j p] p2)) pf] pos)
  (LfE X.K W fun ρ G Q E=>w1 ρ G (fun x G1=>∃i:Int,x = .int i∧0≤i∧lit.length+(cD i.natAbs).length≤sizeLine∧Q (.str (lit++cD i.natAbs)) G1) E) :=
 PE.imp (AM hl h1) fun _ _ _ ⟨ρ,G,Qa,Ea,hE,hG,hw,hp,hx⟩=>⟨ρ,G,_,Ea,hE,hG,hw,fun d G1 v H1 f g r1 ⟨i,e,h0,hl,q⟩=>by
  subst e
  exact⟨i,aB r1,h0,hl,hp _ _ _ _ f g (.str _) q⟩,hx⟩
end
end Av
namespace Av
variable [Tb]
structure Ck where
 N:List Str
 sc:Scope
 top:Bool
 isL:Nat→mS→Bool:=fun _ _=>false
 fr:Nat→List Str:=fun _=>[]
 raw:Option Scope:=none
 gd:Bool:=false
def rpB(C:Ck):BF→Bool
 |.repr=>C.gd
 |_=>true
def JP(sc:Scope)(x:Str):Bool:=match sc.names.lookup x with
 |some .local=>true
 |some .cell=>true
 |some .free=>true
 |_=>false
def glB(sc:Scope)(x:Str):Bool:=match sc.names.lookup x with
 |some .globalImplicit=>true
 |_=>false
def kY(sc:Scope)(x:Str):Bool:=match sc.names.lookup x with
 |some .local=>true
 |_=>false
def jr(sc:Scope)(x:Str):Bool:=match sc.names.lookup x with
 |some .cell=>true
 |_=>false
def D9(C:Ck)(x:Str):Bool:=match C.raw with
 |none=>true
 |some s=>jr s x
def GB(x:Str):Bool:=!(x == ("__debug__" : Str)) && !(x == ("__classdict__" : Str)) && !(x == ("__name__" : Str))
def lT(C:Ck)(i:Nat)(x:Str):Bool:=(C.N[i]? == some x) && JP C.sc x && GB x
def bh(C:Ck)(x:Str):Bool:=glB C.sc x && GB x
def fQ(C:Ck)(i:Nat)(x:Str):Bool:=(C.N[i]? == some x) && (kY C.sc x|| (jr C.sc x && C.top && D9 C x))
def af:Expr→Bool
 |.Starred ..=>false
 |_=>true
def bV:Expr→Bool
 |.ListComp ..=>false|.SetComp ..=>false|.DictComp ..=>false
 |_=>true
def noTup:Expr→Bool
 |.Tuple ..=>false|.List ..=>false
 |_=>true
def cI:Expr→Bool
 |.Set ..=>false
 |_=>true
def bI:Expr→Bool
 |.Slice ..=>false
 |_=>true
def aI:Expr→Bool
 |.Call (.Name id _) [] [] _=>!(id == ("super" : Str))
 |_=>true
def Fk:Expr→Bool
 |.Tuple ..=>true
 |_=>false
def CZ:Expr→Bool
 |.UnaryOp ..=>false|.BoolOp ..=>false|.IfExp ..=>false|.Compare ..=>false
 |_=>true
def FI:Dat→Const→Bool
 |.int i,.int j=>i == j
 |.str i,.str j=>i == j
 |.bl i,.bool j=>i == j
 |.non,.none=>true
 |_,_=>false
def CC(N:List Str)(own:List Nat):List (Str × Nat):=own.filterMap fun i=>(N[i]?).map fun x=>(x,i)
def eY(C:Ck):List Expr→List Nat→Bool
 |[],[]=>true
 |.Name x _ :: ts,i :: is=>fQ C i x && eY C ts is
 |_,_=>false
def CM(C:Ck):TGt→Expr→Bool
 |.nm i,.Name x _=>fQ C i x
 |.tp is,.Tuple ts _ _=>eY C ts is
 |.tq i is,.Tuple [.Name x _,.Tuple ts _ _] _ _=>fQ C i x && eY C ts is
 |_,_=>false
def Ck.into(C:Ck)(scope:Scope):Ck:={N:=C.N,sc:=relS scope C.sc,top:=false}
def lcB(C:Ck)(g:TGt)(own:List Nat)(scope:Scope)(tg iter:Expr):Bool :=
 ((CC C.N own).map (·.2) == own) && blkC C.N C.sc scope (CC C.N own) && (mP g).all (fun i=>own.contains i) && CM (C.into scope) g tg && cI iter
def Ck.intoT(C:Ck)(scope:Scope):Ck:={N:=C.N,sc:=relS scope C.sc,top:=true,isL:=C.isL,fr:=C.fr,raw:=some scope}
def IL(C:Ck)(g:TGt)(own:List Nat)(scope:Scope)(tg iter:Expr):Bool :=
 ((CC C.N own).map (·.2) == own) && blkC C.N C.sc scope (CC C.N own) && (mP g).all (fun i=>own.contains i) && CM (C.intoT scope) g tg && cI iter
def pY(sc:Scope)(x:Str):Bool:=match sc.names.lookup x with
 |some .free=>true
 |_=>false
def lsK(C:Ck)(scope:Scope)(ls:List Nat):Bool:=ls.all fun i=>match C.N[i]? with
 |some x=>jr scope x|| (pY scope x && jr C.sc x && D9 C x)
 |none=>false
def Jt(C:Ck)(fr:List Str)(ls:List Nat)(scope:Scope):Bool :=
 (ls.map fun i=>C.N[i]?) == fr.map some && (scope.names.all fun y=>!(y.2 == .free)|| (fr.contains y.1 && (C.sc.names.lookup y.1 == some .cell|| C.sc.names.lookup y.1 == some .free))) && fr.all fun y=>scope.names.any fun z=>z.1 == y && z.2 == .free
mutual
def ae(C:Ck):E→Expr→Bool
 |.var i,x=>match x with
  |.Name x _=>lT C i x
  |_=>false
 |.cst d,x=>match x with
  |.Constant c _ _=>FI d c
  |_=>false
 |.glo n,x=>match x with
  |.Name y _=>(n == y) && bh C y
  |_=>false
 |.bin _ o a b,x=>match x with
  |.BinOp l op r _=>(op == o.op) && ae C a l && ae C b r
  |_=>false
 |.neg a,x=>match x with
  |.UnaryOp .USub x _=>ae C a x
  |_=>false
 |.cmp o a b,x=>match x with
  |.Compare l [op] [r] _=>(op == o.op) && cI r && ae C a l && ae C b r
  |_=>false
 |.cmp2 o o' a b c,x=>match x with
  |.Compare l [op,op'] [r,r'] _=>(op == o.op) && (op' == o'.op) && cI r' && ae C a l && ae C b r && ae C c r'
  |_=>false
 |.andV a b,x=>match x with
  |.BoolOp .And (x :: y :: rest) p=>ae C a x && ae C b (.BoolOp .And (y :: rest) p)
  |_=>false
 |.orV a b,x=>match x with
  |.BoolOp .Or (x :: y :: rest) p=>ae C a x && ae C b (.BoolOp .Or (y :: rest) p)
  |_=>false
 |.one a,x=>match x with
  |.BoolOp _ [x] _=>ae C a x
  |_=>false
 |.notV a,x=>match x with
  |.UnaryOp .Not x _=>ae C a x
  |_=>false
 |.ite c a b,x=>match x with
  |.IfExp t x y _=>corT C c t && ae C a x && ae C b y
  |_=>false
 |.tup es,x=>match x with
  |.Tuple xs _ _=>corEs C es xs
  |_=>false
 |.lst _ es,x=>match x with
  |.List xs _=>corEs C es xs
  |_=>false
 |.ix a b,x=>match x with
  |.Subscript x y _=>bI y && ae C a x && ae C b y
  |_=>false
 |.slAll _ a,x=>match x with
  |.Subscript x (.Slice none none none _) _=>ae C a x
  |_=>false
 |.slFrom _ a lo,x=>match x with
  |.Subscript x (.Slice (some y) none none _) _=>ae C a x && ae C lo y
  |_=>false
 |.slTo _ a hi,x=>match x with
  |.Subscript x (.Slice none (some z) none _) _=>ae C a x && ae C hi z
  |_=>false
 |.sl _ a lo hi,x=>match x with
  |.Subscript x (.Slice (some y) (some z) none _) _=>ae C a x && ae C lo y && ae C hi z
  |_=>false
 |.call f [],x=>match x with
  |.Call (.Name g _) [] [] _=>(f == g) && bh C g
  |_=>false
 |.call f es,x=>match x with
  |.Call (.Name g _) (x :: xs) [] _=>(f == g) && bh C g && corEs C es (x :: xs)
  |_=>false
 |.mnam _ m o es ks fs,x=>match x with
  |.Call (.Attribute y g ap) zs kws cp=>(g == m) && aI y && (ap.endLine == cp.line) && decide (zs.length<20) && decide (kws.length<8) && ae C o y && corEs C es zs && corKs C fs ks kws
  |_=>false
 |.ccall n m es,x=>match x with
  |.Call (.Attribute (.Name y _) g ap) (z :: zs) [] cp=>(n == y) && (g == m) && bh C y && (ap.endLine == cp.line) && decide ((z :: zs).length<20) && corEs C es (z :: zs)
  |_=>false
 |.blt _ f es,x=>match x with
  |.Call (.Name g _) (x :: xs) [] _=>(g == f.nm) && (bh C g && rpB C f) && corEs C es (x :: xs)
  |_=>false
 |.meth m o [],x=>match x with
  |.Call (.Attribute x nm ap) [] [] cp=>(nm == m.nm) && aI x && (ap.endLine == cp.line) && ae C o x
  |_=>false
 |.meth m o es,x=>match x with
  |.Call (.Attribute x nm ap) (y :: ys) [] cp=>(nm == m.nm) && aI x && (ap.endLine == cp.line) && decide (ys.length<20) && ae C o x && corEs C es (y :: ys)
  |_=>false
 |.lc _ e g it own,x=>match x with
  |.ListComp elt [⟨tg,iter,[],0⟩] scope _=>lcB C g own scope tg iter && corI C it tg iter && ae (C.into scope) e elt
  |_=>false
 |.fhex s a,x=>match x with
  |.JoinedStr [.Constant (.str t) _ _,.FormattedValue y c (some (.JoinedStr [.Constant (.str u) _ _] _)) _] _=>(s == t) && decide (c = -1) && decide (u=xSpec) && decide (t.length≤1000) && ae C a y
  |_=>false
 |.lcX _ e g it own ls,x=>match x with
  |.ListComp elt [⟨tg,iter,[],0⟩] scope _=>C.top && IL C g own scope tg iter && lsK C scope ls && corI C it tg iter && ae (C.intoT scope) e elt
  |_=>false
 |.lstR1 _ b,x=>match x with
  |.Call (.Name t _) [.Call (.Name g _) [y] [] cp] [] _=>(t == ("list" : Str)) && bh C t && (g == ("range" : Str)) && bh C g && af y && ae C b y
  |_=>false
 |.lstR2 _ a b,x=>match x with
  |.Call (.Name t _) [.Call (.Name g _) [x,y] [] cp] [] _=>(t == ("list" : Str)) && bh C t && (g == ("range" : Str)) && bh C g && af x && af y && ae C a x && ae C b y
  |_=>false
 |.lstIt _ a,x=>match x with
  |.Call (.Name l _) [.Call (.Attribute y nm ap) [] [] cp] [] _=>(l == ("list" : Str)) && bh C l && (nm == ("items" : Str)) && aI y && (ap.endLine == cp.line) && ae C a y
  |_=>false
 |.srtIt _ a,x=>match x with
  |.Call (.Name l _) [.Call (.Attribute y nm ap) [] [] cp] [] _=>(l == ("sorted" : Str)) && bh C l && (nm == ("items" : Str)) && aI y && (ap.endLine == cp.line) && ae C a y
  |_=>false
 |.lstEn _ a,x=>match x with
  |.Call (.Name l _) [.Call (.Name g _) [y] [] _] [] _=>(l == ("list" : Str)) && bh C l && (g == ("enumerate" : Str)) && bh C g && af y && ae C a y
  |_=>false
 |.srtk _ e l,x=>match x with
  |.Call (.Name g _) [a] [⟨some n,b,_⟩] _=>(g == ("sorted" : Str)) && bh C g && (n == ("key" : Str)) && af a && ae C e a && ae C l b
  |_=>false
 |.dcIf ek ev g it t own,x=>match x with
  |.DictComp kx vx [⟨tg,iter,[c],0⟩] scope _=>lcB C g own scope tg iter && corI C it tg iter && ae (C.into scope) ek kx && ae (C.into scope) ev vx && corT (C.into scope) t c
  |_=>false
 |.lcIf _ e g it t own,x=>match x with
  |.ListComp elt [⟨tg,iter,[c],0⟩] scope _=>lcB C g own scope tg iter && corI C it tg iter && ae (C.into scope) e elt && corT (C.into scope) t c
  |_=>false
 |.tupR a b,x=>match x with
  |.Call (.Name t _) [.Call (.Name g _) [x,y] [] cp] [] _=>(t == ("tuple" : Str)) && bh C t && (g == ("range" : Str)) && bh C g && af x && af y && ae C a x && ae C b y
  |_=>false
 |.rev a,x=>match x with
  |.Subscript y (.Slice none none (some (.UnaryOp .USub (.Constant (.int i) _ _) _)) _) _=>(i == 1) && ae C a y
  |_=>false
 |.revT a,x=>match x with
  |.Subscript y (.Slice none none (some (.UnaryOp .USub (.Constant (.int i) _ _) _)) _) _=>(i == 1) && ae C a y
  |_=>false
 |.att a f,x=>match x with
  |.Attribute y g _=>(g == f) && aI y && ae C a y
  |_=>false
 |.mcall _ m o [],x=>match x with
  |.Call (.Attribute y g ap) [] [] cp=>(g == m) && aI y && (ap.endLine == cp.line) && ae C o y
  |_=>false
 |.mcall _ m o es,x=>match x with
  |.Call (.Attribute y g ap) (z :: zs) [] cp=>(g == m) && aI y && (ap.endLine == cp.line) && decide ((z :: zs).length<20) && ae C o y && corEs C es (z :: zs)
  |_=>false
 |.dlit es,x=>match x with
  |.Dict ks vs _=>corD C es ks vs && decide (ks.length≤15)
  |_=>false
 |.dix a b,x=>match x with
  |.Subscript y z _=>bI z && ae C a y && ae C b z
  |_=>false
 |.dupd a b,x=>match x with
  |.Call (.Attribute y nm ap) [z] [] cp=>(nm == ("update" : Str)) && aI y && (ap.endLine == cp.line) && af z && ae C a y && ae C b z
  |_=>false
 |.dget1 a b,x=>match x with
  |.Call (.Attribute y nm ap) [z] [] cp=>(nm == ("get" : Str)) && aI y && (ap.endLine == cp.line) && af z && ae C a y && ae C b z
  |_=>false
 |.dpop2 a b c,x=>match x with
  |.Call (.Attribute y nm ap) [z,t] [] cp=>(nm == ("pop" : Str)) && aI y && (ap.endLine == cp.line) && af z && af t && ae C a y && ae C b z && ae C c t
  |_=>false
 |.dget2 a b c,x=>match x with
  |.Call (.Attribute y nm ap) [z,t] [] cp=>(nm == ("get" : Str)) && aI y && (ap.endLine == cp.line) && af z && af t && ae C a y && ae C b z && ae C c t
  |_=>false
 |.new n [],x=>match x with
  |.Call (.Name g _) [] [] _=>(n == g) && bh C g
  |_=>false
 |.new n es,x=>match x with
  |.Call (.Name g _) (z :: zs) [] _=>(n == g) && bh C g && corEs C es (z :: zs)
  |_=>false
 |.frz a,z=>ae C a z
 |.dead,_=>true
 |.gin n d a,x=>match x with
  |.Compare l [op] [.Name y _] _=>(op == i6 n) && (d == y) && bh C y && ae C a l
  |_=>false
 |.gix d a,x=>match x with
  |.Subscript (.Name y _) z _=>(d == y) && bh C y && bI z && ae C a z
  |_=>false
 |.gget1 d a,x=>match x with
  |.Call (.Attribute (.Name y _) nm ap) [z] [] cp=>(nm == ("get" : Str)) && (d == y) && bh C y && (ap.endLine == cp.line) && af z && ae C a z
  |_=>false
 |.gget2 d a b,x=>match x with
  |.Call (.Attribute (.Name y _) nm ap) [z,t] [] cp=>(nm == ("get" : Str)) && (d == y) && bh C y && (ap.endLine == cp.line) && af z && af t && ae C a z && ae C b t
  |_=>false
 |.callV i es,x=>match x with
  |.Call (.Name y _) (z :: zs) [] _=>lT C i y && corEs C es (z :: zs)
  |_=>false
 |.din n a b,x=>match x with
  |.Compare l [op] [r] _=>(op == i6 n) && cI r && ae C a l && ae C b r
  |_=>false
 |.sin n a b,x=>match x with
  |.Compare l [op] [r] _=>(op == i6 n) && cI r && ae C a l && ae C b r
  |_=>false
 |.smeth _ m o [],x=>match x with
  |.Call (.Attribute x nm ap) [] [] cp=>(nm == m.nm) && aI x && (ap.endLine == cp.line) && ae C o x
  |_=>false
 |.smeth _ m o es,x=>match x with
  |.Call (.Attribute x nm ap) (y :: ys) [] cp=>(nm == m.nm) && aI x && (ap.endLine == cp.line) && decide (ys.length<20) && ae C o x && corEs C es (y :: ys)
  |_=>false
 |.six a b,x=>match x with
  |.Subscript x y _=>bI y && ae C a x && ae C b y
  |_=>false
 |.tidx a b,x=>match x with
  |.Call (.Attribute y g ap) [z] [] cp=>(g == ("index" : Str)) && aI y && (ap.endLine == cp.line) && af z && ae C a y && ae C b z
  |_=>false
 |.kslF a lo,x=>match x with
  |.Subscript y (.Slice (some z) none none _) _=>ae C a y && ae C lo z
  |_=>false
 |.ktt a,x=>(match x with|.ListComp ..=>false|_=>true) && ae C a x
 |.or2 a b,x=>(match x with|.ListComp ..=>false|_=>true) && (ae C a x && ae C b x)
 |.lam q ls,x=>match x with
  |.Lambda params body scope _=>C.top && C.isL q ⟨params,.expr body,scope⟩ && params.defaults.isEmpty && params.kw_defaults.isEmpty && Jt C (C.fr q) ls scope
  |_=>false
 |.pcall _ f es,x=>match x with
  |.Call (.Name g _) xs [] _=>C.top && (f == g) && bh C g && corEs C es xs
  |_=>false
 |.pcallV _ i es,x=>match x with
  |.Call (.Name y _) xs [] _=>C.top && lT C i y && corEs C es xs
  |_=>false
 |.mcd ls m o es,x=>match x with
  |.Call (.Attribute y g ap) xs [] cp=>(C.top|| ls.isEmpty) && (g == m) && aI y && (ap.endLine == cp.line) && decide (xs.length<20) && ae C o y && corEs C es xs
  |_=>false
 |.xnew n es,x=>match x with
  |.Call (.Name g _) xs [] _=>(n == g) && bh C g && corEs C es xs
  |_=>false
def corEs(C:Ck):List E→List Expr→Bool
 |[],[]=>true
 |e :: es,x :: xs=>af x && ae C e x && corEs C es xs
 |_,_=>false
def corKs(C:Ck):List E→List Str→List Keyword→Bool
 |[],[],[]=>true
 |e :: es,k :: ks,⟨some n,x,_⟩ :: kws=>(n == k) && ae C e x && corKs C es ks kws
 |_,_,_=>false
def corD(C:Ck):List E→List (Option Expr)→List Expr→Bool
 |[],[],[]=>true
 |k :: v :: es,some x :: ks,y :: vs=>ae C k x && ae C v y && corD C es ks vs
 |_,_,_=>false
def corT(C:Ck):T→Expr→Bool
 |.and_ a b,x=>match x with
  |.BoolOp .And (x :: y :: rest) p=>corT C a x && corT C b (.BoolOp .And (y :: rest) p)
  |_=>false
 |.or_ a b,x=>match x with
  |.BoolOp .Or (x :: y :: rest) p=>corT C a x && corT C b (.BoolOp .Or (y :: rest) p)
  |_=>false
 |.one a,x=>match x with
  |.BoolOp .And [x] _=>corT C a x
  |.BoolOp .Or [x] _=>corT C a x
  |_=>false
 |.not_ a,x=>match x with
  |.UnaryOp .Not x _=>corT C a x
  |_=>false
 |.cmp o a b,x=>match x with
  |.Compare l [op] [r] _=>(op == o.op) && cI r && ae C a l && ae C b r
  |_=>false
 |.cmp2 o o' a b c,x=>match x with
  |.Compare l [op,op'] [r,r'] _=>(op == o.op) && (op' == o'.op) && cI r' && ae C a l && ae C b r && ae C c r'
  |_=>false
 |.val a,z=>CZ z && ae C a z
 |.gin n d a,x=>match x with
  |.Compare l [op] [.Name y _] _=>(op == i6 n) && (d == y) && bh C y && ae C a l
  |_=>false
 |.din n a b,x=>match x with
  |.Compare l [op] [r] _=>(op == i6 n) && cI r && ae C a l && ae C b r
  |_=>false
 |.sin n a b,x=>match x with
  |.Compare l [op] [r] _=>(op == i6 n) && cI r && ae C a l && ae C b r
  |_=>false
 |.ite _ _ _,_=>false
def corI(C:Ck):I→Expr→Expr→Bool
 |.dkeys a,tg,x=>ae C a x
 |.gkeys d,tg,x=>match x with
  |.Name y _=>(d == y) && bh C y
  |_=>false
 |.str a,tg,x=>ae C a x
 |.rng1 a,tg,x=>match x with
  |.Call (.Name g _) [x] [] _=>(g == ("range" : Str)) && bh C g && af x && ae C a x
  |_=>false
 |.rng2 a b,tg,x=>match x with
  |.Call (.Name g _) [x,y] [] _=>(g == ("range" : Str)) && bh C g && af x && af y && ae C a x && ae C b y
  |_=>false
 |.rng3 a b c,tg,x=>match x with
  |.Call (.Name g _) [x,y,z] [] _=>(g == ("range" : Str)) && bh C g && af x && af y && af z && ae C a x && ae C b y && ae C c z
  |_=>false
 |.zip a b,tg,x=>match x with
  |.Call (.Name g _) [x,y] [] _=>Fk tg && (g == ("zip" : Str)) && bh C g && af x && af y && ae C a x && ae C b y
  |_=>false
 |.enum a,tg,x=>match x with
  |.Call (.Name g _) [x] [] _=>Fk tg && (g == ("enumerate" : Str)) && bh C g && af x && ae C a x
  |_=>false
 |.seq a,tg,z=>ae C a z
end
section
variable {X:Cx} {C:Ck} {x y:Expr} {pos:Pos}
theorem aM{x y:Str}(h:(x == y)=true):x=y:=by simpa using h
theorem ax{env:Env}{r:List Expr}(h:af x=true):starEach (x :: r) env=(false,eval x env) :: starEach r env:=by
 cases x <;> first|rfl|cases h
theorem az{env:Env}:∀{r:List Expr},r.all af=true→(backTo pos (starEach r env)).any (·.1)=false
 |[],_=>rfl
 |x :: r,h=>by
  rw[Mo,M3]at h
  rw[ax h.1]
  show (false|| _)=false
  rw[Bool.false_or]
  exact az h.2
theorem ca{env:Env}:∀{r:List Expr},r.all af=true→(backTo pos (starEach r env)).all (fun x=>!x.1)=true
 |[],_=>rfl
 |x :: r,h=>by
  rw[Mo,M3]at h
  rw[ax h.1]
  show (true && _)=true
  rw[Bool.true_and]
  exact ca h.2
theorem nj{t:Option Expr}{l:Nat}{env:Env}(h:bV x=true):swapsWith x t l env=pure false:=by
 cases x <;> first|rfl|cases h
theorem j4{env:Env}(h:cI x=true):∀v,foldedSetIterable x env v=pure v:=by
 intro v
 cases x <;> first|rfl|cases h
theorem ba{op:CmpOp}(h:cI x=true):behindInMarks op x=false:=by
 cases x <;> first|rfl|cases h
theorem dY(h:bI x=true):PlainIx x:=by
 intro o i
 cases x <;> first|rfl|cases h
theorem aP{nm:Str}{env:Env}(h:aI x=true):attributeBase x nm env (eval x env)=eval x env:=by
 unfold aI at h
 split at h
 ·rename_i id _ _
  have e:(id !=("super" : Str))=true:=h
  unfold attributeBase
  dsimp only
  rw[e]
  simp only[Bool.true_or,if_true]
 ·rename_i no
  cases x <;> first|rfl|skip
  rename_i f as ks p
  cases f <;> first|rfl|skip
  cases as <;> first|rfl|skip
  cases ks <;> first|rfl|skip
  exact absurd rfl (no _ _ _)
theorem eB{env:Env}(h:CZ x=true):∀whole,isTrue x env whole=(do let v ←whole;standAt x.pos;holding [v] (truthy v)):=by
 intro w
 cases x <;> first|rfl|cases h
theorem xQ{t:Expr}{env:Env}(h:noTup x=true):swappedStores [t] x env=pure none:=by
 cases x <;> first|(cases t <;> rfl)|cases h
def CsOk(X:Cx)(Γ:Gam):Prop:=∀i c,Γ.cs i=some c→∃x,X.N[i]?=some x∧Vis X.env.scope x∧(X.env.scope.names.lookup x=some .cell∨X.env.scope.names.lookup x=some .free)∧X.env.cells.lookup x=some c∧∀{pn:List (Addr × Obj)} {xe:Value→Shared→Prop} {pins:List (Addr × Obj)} {σ:L2.St} {H:Hp} {s:Shared},Inv (X.tr pn xe) pins σ H s→X.base.get? c=none∧c ∉ frs X.stack
def LQ(X:Cx):Prop:=∃(c P:Addr) (nm:Nat→Nat→Str),LamX.TabB X.base X.mg c P∧X.env.code = .ref c∧(P,nm)∈Tb.T∧(∀p∈Tb.T,p.1=P→p.2=nm)∧∀a b,nm a b=X.env.qual++ "<lambda>"
theorem CsOk.at{X:Cx}{Γ:Gam}(cz:CsOk X Γ){i:Nat}{c:Addr}(e:Γ.cs i=some c){pins:List (Addr × Obj)}{σ:L2.St}{H:Hp}{s:Shared}(I:Inv X pins σ H s):X.base.get? c=none∧c ∉ frs X.stack:=by
 obtain⟨x,_,_,_,_,h⟩:=cz i c e
 exact h (pn:=X.pn) (xe:=X.xe) I
theorem CsOk.tr{X:Cx}{Γ:Gam}(cz:CsOk X Γ)(pn:List (Addr × Obj))(xe:Value→Shared→Prop):CsOk (X.tr pn xe) Γ:=cz
structure bz(X:Cx)(C:Ck)(Γ:Gam):Prop where
 n:C.N=X.N
 sc:X.env.scope=C.sc
 fn:C.top=true→∀x,jr C.sc x=true→D9 C x=true→X.fn x=true
 cs:C.top=true→CsOk X Γ
 isL:∀q L,C.isL q L=true→Tb.is q L∧C.fr q=Tb.fr q∧LQ X
 gd:C.gd=true→Cu X
variable {Γ:Gam} (k:bz X C Γ)
theorem aF{x:Str}(k:bz X C Γ)(h:bh C x=true):Gl X x∧(x == ("__debug__" : Str))=false∧x≠("__name__" : Str):=by
 unfold bh glB GB at h
 simp only[M3,Bool.not_eq_true']at h
 obtain⟨h1,⟨h2,h3⟩,h4⟩:=h
 refine⟨?_,h2,fun z=>by rw[z]at h4;simp at h4⟩
 show X.env.scope.names.lookup x=some .globalImplicit
 rw[k.sc]
 split at h1
 ·assumption
 ·cases h1
theorem cF{x:Str}{i:Nat}(k:bz X C Γ)(h:lT C i x=true):X.N[i]?=some x∧Vis X.env.scope x∧(x == ("__debug__" : Str))=false∧(x == ("__classdict__" : Str))=false:=by
 unfold lT JP GB at h
 simp only[M3,Bool.not_eq_true',beq_iff_eq]at h
 obtain⟨⟨h1,h2⟩,⟨h3,h4⟩,h5⟩:=h
 refine⟨by rw[←k.n];exact h1,?_,h3,h4⟩
 unfold Vis
 rw[k.sc]
 split at h2
 ·exact .inl (by assumption)
 ·exact .inr (.inl (by assumption))
 ·exact .inr (.inr (by assumption))
 ·cases h2
theorem dE{sc:Scope}{x:Str}(h:jr sc x=true):sc.names.lookup x=some .cell:=by
 unfold jr at h
 split at h
 ·assumption
 ·cases h
theorem gT{sc:Scope}{x:Str}(h:pY sc x=true):sc.names.lookup x=some .free:=by
 unfold pY at h
 split at h
 ·assumption
 ·cases h
theorem bp{x:Str}{i:Nat}(k:bz X C Γ)(h:fQ C i x=true):X.N[i]?=some x∧L2.Loc X.env.scope x∧(X.fn x=true∨X.env.scope.names.lookup x=some .local):=by
 unfold fQ at h
 simp only[M3,Bool.or_eq_true,beq_iff_eq]at h
 obtain⟨h1,h2⟩:=h
 refine⟨by rw[←k.n];exact h1,?_⟩
 unfold L2.Loc
 rw[k.sc]
 rcases h2 with h2|⟨⟨h2,h3⟩,h4⟩
 ·unfold kY at h2
  split at h2
  ·rename_i e
   exact⟨.inl e,.inr e⟩
  ·cases h2
 ·exact⟨.inr (dE h2),.inl (k.fn h3 x h2 h4)⟩
theorem bW{x:Str}(k:bz X C Γ)(h:kY C.sc x=true):X.env.scope.names.lookup x=some .local:=by
 unfold kY at h
 rw[k.sc]
 split at h
 ·assumption
 ·cases h
theorem dZ(k:bz X C Γ):∀{ts:List Expr} {is:List Nat},eY C ts is=true→iP X ts is
 |[],[],_=>trivial
 |t :: ts,i :: is,h=>by
  cases t with
  |Name x p =>
   simp only[eY,M3]at h
   exact⟨bp k h.1,dZ k h.2⟩
  |_=>cases h
 |[],_ :: _,h=>by cases h
 |t :: _,[],h=>by cases t <;> cases h
theorem j7(k:bz X C Γ){g:TGt}{tg:Expr}(hc:X.calm=true)(hN:X.N.Nodup)(h:CM C g tg=true):PG X tg (LfG X.K g):=by
 cases g with
 |nm i =>
  cases tg with
  |Name x p =>
   obtain⟨h1,h2,h3⟩:=bp k h
   exact Hq hN h1 h2 h3
  |_=>cases h
 |tp is =>
  cases tg with
  |Tuple ts kk p=>exact DC hc hN (dZ k h)
  |_=>cases h
 |tq i is =>
  have q:∀tg:Expr,CM C (.tq i is) tg=true→∃x px ts k2 p2 kk p,tg = .Tuple [.Name x px,.Tuple ts k2 p2] kk p∧fQ C i x=true∧eY C ts is=true:=by
   intro tg h
   unfold CM at h
   split at h
   ·rename_i e;cases e
   ·rename_i e;cases e
   ·rename_i e
    cases e
    simp only[M3]at h
    exact⟨_,_,_,_,_,_,_,rfl,h.1,h.2⟩
   ·cases h
  have tg0:=tg
  obtain⟨x,px,ts,k2,p2,kk,p,rfl,h1,h2⟩:=q tg h
  exact Ho (t:=tg0) hc hN ⟨bp k h1,trivial⟩ (dZ k h2)
def e8(N:List Str)(ls:List Nat)(cells:List (Str × Addr)):Nat→Option Addr:=fun i=>if i∈ls then (match N[i]? with|some x=>cells.lookup x|none=>none) else none
theorem f7{N:List Str}{ls:List Nat}{cells:List (Str × Addr)}{i:Nat}{c:Addr}(h:e8 N ls cells i=some c):i∈ls∧∃x,N[i]?=some x∧cells.lookup x=some c:=by
 unfold e8 at h
 split at h
 ·rename_i hi
  split at h
  ·rename_i x hx
   exact⟨hi,x,hx,h⟩
  ·cases h
 ·cases h
theorem xv(k:bz X C Γ){scope:Scope}{ls:List Nat}{own:List (Str × Nat)}{pins:List (Addr × Obj)}{σ:L2.St}{s:Shared}{H:Hp}{fp:List Addr}(ok:BlkOk X.N X.env.scope scope own)(ht:C.top=true)(hl:lsK C scope ls=true)(I:Inv X pins σ H s) :
  CsOk (fD X scope s H fp) {Γ with cs:=e8 C.N ls (clK X scope s)}∧∀i∈ls,∃c,e8 C.N ls (clK X scope s) i=some c:=by
 have old:∀{c:Addr},X.s_0.heap.objs.size≤c→X.base.get? c=none∧c ∉ X.fs:=fun {c} ge=>by
  refine⟨?_,fun z=>?_⟩
  ·cases q:X.base.get? c with
   |none=>rfl
   |some o=>exact absurd (Nat.lt_of_lt_of_le (Heap.lt_size (I.ok.bs c o q).1) ge) (Nat.lt_irrefl _)
  ·obtain⟨_,o,ho,_⟩:=I.ok.funs.mem z
   exact absurd (Nat.lt_of_lt_of_le (Heap.lt_size ho) ge) (Nat.lt_irrefl _)
 have rel:∀{x:Str},jr scope x=true∨(pY scope x=true∧jr C.sc x=true∧D9 C x=true)→(relS scope C.sc).names.lookup x=some .cell∨(relS scope C.sc).names.lookup x=some .free:=fun {x} h=>by
  rcases h with h|⟨h,_⟩
  ·exact .inl (lookup_relS_keep (by decide) (dE h))
  ·cases q:(relS scope C.sc).names.lookup x with
   |none =>
    obtain⟨k',e⟩:=kM (sc:=C.sc) (gT h)
    exact absurd (q.symm.trans e) (by simp)
   |some k =>
    obtain⟨k',e,r⟩:=lookup_relS q
    rw[gT h]at e
    cases e
    rcases r with rfl|⟨_,rfl⟩
    ·exact .inr rfl
    ·exact .inl rfl
 have key:∀i∈ls,∃x,C.N[i]?=some x∧(jr scope x=true∨(pY scope x=true∧jr C.sc x=true∧D9 C x=true)):=fun i hi=>by
  have h3:=List.all_eq_true.mp hl i hi
  split at h3
  ·rename_i x hx
   simp only[Bool.or_eq_true,M3]at h3
   exact⟨x,hx,h3.imp id fun z=>⟨z.1.1,z.1.2,z.2⟩⟩
  ·cases h3
 refine⟨fun i c e=>?_,fun i hi=>?_⟩
 ·obtain⟨hi,x,hx,hc⟩:=f7 e
  obtain⟨x',hx',kd⟩:=key i hi
  rw[hx]at hx'
  cases hx'
  have r:=rel kd
  rw[k.n]at hx
  have sc:(fD X scope s H fp).env.scope=relS scope C.sc:=by rw[←k.sc];rfl
  refine⟨x,hx,?_,?_,hc,fun {pn xe pins' σ' H' s'} I'=>?_⟩
  ·unfold Vis
   rw[sc]
   exact .inr r
  ·rw[sc];exact r
  ·show X.base.get? c=none∧c ∉ frs X.stack
   have ge:X.s_0.heap.objs.size≤c∧c≠X.env.locals:=by
    rcases FJ ok I hc with⟨h1,h2⟩|⟨h1,h2⟩
    ·refine⟨?_,I.cne x c h2⟩
     rcases kd with kd|⟨_,k1,k2⟩
     ·have q:=ok.uniq _ h1
      rw[dE kd]at q
      cases q
     ·exact I.ok.cab x c (k.fn ht x k1 k2) h2
    ·exact⟨Nat.le_trans I.sz h2,fun z=>absurd (Nat.lt_of_lt_of_le I.lt (z ▸ h2)) (Nat.lt_irrefl _)⟩
   obtain⟨h1,h2⟩:=old ge.1
   exact⟨h1,fun hm=>(List.mem_cons.mp (I.stkSub c hm)).elim ge.2 h2⟩
 ·obtain⟨x,hx,kd⟩:=key i hi
  unfold e8
  rw[if_pos hi,hx]
  show ∃c,(clK X scope s).lookup x=some c
  rcases kd with kd|⟨kd,_⟩
  ·obtain⟨c,hc⟩:=cells_has (n:=s.heap.objs.size+1) (acc:=cloFrom X.env.cells scope.names []) (PySem.mem_of_lookup (dE kd))
   exact mem_lookup hc
  ·exact mem_lookup (cells_acc (cloFrom_has (PySem.mem_of_lookup (gT kd))))
theorem gR(k:bz X C Γ){scope:Scope}{cs:Nat→Option Addr}{s:Shared}{H:Hp}{fp:List Addr}(ht:C.top=true)(cz:CsOk (fD X scope s H fp) {Γ with cs:=cs}):bz (fD X scope s H fp) (C.intoT scope) {Γ with cs:=cs}:=by
 refine⟨k.n,?_,fun _ x h1 h2=>?_,fun _=>cz,fun q L h=>?_,fun z=>by cases z⟩
 ·show relabel scope X.env=relS scope C.sc
  rw[←k.sc]
  rfl
 ·show (scope.names.lookup x == some .cell)=true
  rw[dE (show jr scope x=true from h2)]
  rfl
 ·obtain⟨h1,h2,c,P,nm,h3,h4,h5⟩:=k.isL q L h
  exact⟨h1,h2,c,P,nm,h3,h4,h5⟩
theorem bJ(k:bz X C Γ)(s:Shared)(H:Hp)(scope:Scope)(cl:List (Str × Addr))(c:Addr)(fp:List Addr):bz (X.blk s H scope (compEnvC scope cl c X.env) fp) (C.into scope) Γ :=
 ⟨k.n,by show relabel scope X.env=relS scope C.sc;rw[←k.sc];rfl,(fun z=>by cases z),(fun z=>by cases z),(fun _ _ z=>by cases z),fun z=>by cases z⟩
theorem iW(k:bz X C Γ){g:TGt}{own:List Nat}{scope:Scope}{tg iter:Expr}(hc:X.calm=true)(hN:X.N.Nodup)(h:lcB C g own scope tg iter=true):∃on:List (Str × Nat),on.map (·.2)=own∧BlkOk X.N X.env.scope scope on∧(∀i∈mP g,i∈on.map (·.2))∧
  (∀(s:Shared) (H:Hp) (c:Addr) (cl:List (Str × Addr)) (fp:List Addr),PG (X.blk s H scope (compEnvC scope cl c X.env) fp) tg (LfG X.K g))∧∀x,foldedSetIterable iter X.env x=pure x:=by
 unfold lcB at h
 simp only[M3,beq_iff_eq,List.all_eq_true,List.contains_iff_mem]at h
 obtain⟨⟨⟨⟨h1,h2⟩,h3⟩,h4⟩,h5⟩:=h
 refine⟨CC C.N own,h1,blkOk_by (by rw[←k.n,k.sc];exact h2),fun i hi=>by rw[h1];exact h3 i hi,fun s H c cl fp=>j7 (bJ k s H scope cl c fp) (X:=X.blk s H scope (compEnvC scope cl c X.env) fp) hc hN h4,j4 h5⟩
theorem o8(k:bz X C Γ){g:TGt}{own:List Nat}{scope:Scope}{tg iter:Expr}(hc:X.calm=true)(hN:X.N.Nodup)(ht:C.top=true)(h:IL C g own scope tg iter=true):∃on:List (Str × Nat),on.map (·.2)=own∧BlkOk X.N X.env.scope scope on∧(∀i∈mP g,i∈on.map (·.2))∧
  (∀(pins:List (Addr × Obj)) (σ:L2.St) (s:Shared) (H:Hp) (fp:List Addr),Inv X pins σ H s→PG (fD X scope s H fp) tg (LfG X.K g))∧∀x,foldedSetIterable iter X.env x=pure x:=by
 unfold IL at h
 simp only[M3,beq_iff_eq,List.all_eq_true,List.contains_iff_mem]at h
 obtain⟨⟨⟨⟨h1,h2⟩,h3⟩,h4⟩,h5⟩:=h
 exact⟨CC C.N own,h1,blkOk_by (by rw[←k.n,k.sc];exact h2),fun i hi=>by rw[h1];exact h3 i hi,fun pins σ s H fp I=>j7 (Γ:={Γ with cs:=fun _=>none}) (gR (Γ:=Γ) k ht fun i c e=>by cases e) (X:=fD X scope s H fp) hc hN h4,j4 h5⟩
end
end Av
namespace Av
variable [Tb]
def bv(cs:Nat→Option Addr)(ρ:aj):List Nat→List Addr
 |[]=>[]
 |i :: r=>match cs i,ρ[i]? with
  |some c,some (some _)=>c :: bv cs ρ r
  |_,_=>bv cs ρ r
theorem cV{cs:Nat→Option Addr}{ρ:aj}:∀{ls:List Nat} {c:Addr},c∈bv cs ρ ls→∃i∈ls,cs i=some c∧∃d,ρ[i]?=some (some d)
 |[],_,h=>by cases h
 |i :: r,c,h=>by
  unfold bv at h
  split at h
  ·rename_i c' d e1 e2
   rcases List.mem_cons.mp h with rfl|h
   ·exact⟨i,Mi ..,e1,d,e2⟩
   ·obtain⟨j,hj,q⟩:=cV h
    exact⟨j,Mj _ hj,q⟩
  ·obtain⟨j,hj,q⟩:=cV h
   exact⟨j,Mj _ hj,q⟩
theorem m7{cs:Nat→Option Addr}{G:AG}{i:Nat}{r:List Nat}{c:Addr}(e:cs i=some c):cx cs (i :: r) G=gx (cx cs r G) c:=by simp only[cx,e]
theorem vM{cs:Nat→Option Addr}{G:AG}{i:Nat}{r:List Nat}(e:cs i=none):cx cs (i :: r) G=cx cs r G:=by simp only[cx,e]
theorem eE{cs:Nat→Option Addr}{G:AG}{a:Addr}:∀{ls:List Nat},cx cs ls G a=G a∨cx cs ls G a=none
 |[]=>.inl rfl
 |i :: r=>by
  cases e:cs i with
  |some c =>
   rw[m7 e]
   by_cases h:a=c
   ·subst h;exact .inr cb
   ·rw[dA h];exact eE
  |none=>rw[vM e];exact eE
theorem eC{cs:Nat→Option Addr}{G:AG}:∀{ls:List Nat} {i:Nat} {c:Addr},i∈ls→cs i=some c→cx cs ls G c=none
 |[],_,_,h,_=>by cases h
 |j :: r,i,c,h,e=>by
  rcases List.mem_cons.mp h with rfl|h
  ·rw[m7 e];exact cb
  ·have ih:=eC (G:=G) h e
   cases e':cs j with
   |some c' =>
    rw[m7 e']
    by_cases hc:c=c'
    ·subst hc;exact cb
    ·rw[dA hc];exact ih
   |none=>rw[vM e'];exact ih
theorem nt{cs:Nat→Option Addr}{ls:List Nat}{G:AG}:Sub (cx cs ls G) G:=fun a o e=>by
 rcases eE (cs:=cs) (G:=G) (a:=a) (ls:=ls)with h|h
 ·rw[h]at e;exact e
 ·rw[h]at e;cases e
theorem dS{T:List NdefX.NTab}{H:Hp}{l:List Addr}(t:NdefX.TabsN T H)(hl:cw H l):NdefX.TabsN T (bc H l):=fun q hq=>by
 obtain⟨ps,e,e2,e3⟩:=t q hq
 have no:∀b u,H b=some u→(∀o,u≠.frz o (.own b))→b ∉ l:=fun b u z1 z2 z3=>by
  obtain⟨o,z⟩:=hl b z3
  rw[z1]at z
  exact z2 o (Option.some.inj z)
 refine⟨ps,by rw[ad (no _ _ e fun _ z=>by cases z)];exact e,e2,fun pos cv hc=>?_⟩
 obtain⟨c,e4,e5⟩:=e3 pos cv hc
 exact⟨c,e4,by rw[ad (no _ _ e5 fun _ z=>by unfold LamX.CodeO at z;cases z)];exact e5⟩
section
variable {X:Cx} {W:WX} {Γ:Gam} {pins:List (Addr × Obj)} {σ:L2.St} {H H':Hp} {s s':Shared} {G G':AG} {ρ:aj} {ls:List Nat}
theorem uz{env:Env}{h:Heap}{m:Str→Option Value}{x:Str}{u:Value}{c:Addr}(l:Look env h m x u)(k:env.scope.names.lookup x=some .cell∨env.scope.names.lookup x=some .free)(e:env.cells.lookup x=some c):h.IsCell c (some u):=by
 rcases l with⟨z,_⟩|⟨_,c',e',h'⟩
 ·exfalso
  have z:env.scope.names.lookup x=some .local:=z
  rcases k with k|k <;> rw[k]at z <;> cases z
 ·rw[e]at e';cases e';exact h'
theorem qK(cz:CsOk X Γ)(I:Inv X pins σ H s)(hE:RelE X.K H ρ σ){i:Nat}{c:Addr}{d:Dat}(e:Γ.cs i=some c)(hd:ρ[i]?=some (some d)) :
  ∃(o:Obj) (u:Value) (v:V),s.heap.get? c=some o∧o.data = .cell (some u)∧RelV v u∧Rep X.K H v d:=by
 obtain⟨x,h1,h2,h3,h4,_⟩:=cz i c e
 obtain⟨v,h5,h6⟩:=hE.2 i d hd
 obtain⟨m,_,hl⟩:=I.loc
 obtain⟨u,h7,h8⟩:=hl i x v h1 h5 h2
 obtain⟨o,h9,h10⟩:=uz h8 h3 h4
 exact⟨o,u,v,h9,h10,h7,h6⟩
theorem qJ(cz:CsOk X Γ)(I:Inv X pins σ H s){i:Nat}{c:Addr}(e:Γ.cs i=some c):H c=none:=by
 obtain⟨x,_,_,_,h4,_⟩:=cz i c e
 exact I.freeC x c h4
theorem uc{α:Type}{l:List α}(nd:l.Nodup){i j:Nat}{x:α}(h1:l[i]?=some x)(h2:l[j]?=some x):i=j :=
   (List.getElem?_inj (List.getElem?_eq_some_iff.mp h1).1 nd).mp (h1.trans h2.symm)
theorem hJ(nd:X.N.Nodup)(cz:CsOk X Γ)(I:Inv X pins σ H s)(hG:RelG X.K G H):noneG Γ.cs ls G:=fun i _ c e=>⟨hG.free (qJ cz I e),fun j _ e2=>by
 obtain⟨x,h1,_,_,h2,_⟩:=cz i c e
 obtain⟨y,h3,_,_,h4,_⟩:=cz j c e2
 have:=I.ok.inj x y c h2 h4
 subst this
 exact uc nd h1 h3⟩
theorem dX(cz:CsOk X Γ)(I:Inv X pins σ H s)(hE:RelE X.K H ρ σ):∀c∈bv Γ.cs ρ ls,X.base.get? c=none∧c ∉ frs X.stack∧H c=none∧∃o,s.heap.get? c=some o:=fun c hc=>by
 obtain⟨i,hi,e,d,hd⟩:=cV hc
 obtain⟨x,_,_,_,_,h56⟩:=cz i c e
 obtain⟨h5,h6⟩:=h56 I
 obtain⟨o,u,v,h1,_⟩:=qK cz I hE e hd
 exact⟨h5,h6,qJ cz I e,o,h1⟩
theorem kF{l:List Addr}{h:Heap}(hl:∀c∈l,H c=none):Stab H (dI H l h):=by
 have no:∀b u,H b=some u→b ∉ l:=fun b u z1 z2=>by rw[hl b z2]at z1;cases z1
 exact⟨fun b xs z=>by rw[aw (no b _ z)];exact z,fun b o xs z=>by rw[aw (no b _ z)];exact z,fun b φ z=>by rw[aw (no b _ z)];exact z,fun b o xs z=>by rw[aw (no b _ z)];exact z,fun b o xs z=>by rw[aw (no b _ z)];exact z⟩
theorem Ia{cs:Nat→Option Addr}{ρ:aj}{G:AG}{i:Nat}{r:List Nat}{c:Addr}{d:Dat}(e1:cs i=some c)(e2:ρ[i]?=some (some d)):cW cs ρ (i :: r) G=gu (cW cs ρ r G) c (.cel d)∧bv cs ρ (i :: r)=c :: bv cs ρ r:=by
 constructor
 ·simp only[cW,e1,e2]
 ·simp only[bv,e1,e2]
theorem Ib{cs:Nat→Option Addr}{ρ:aj}{G:AG}{i:Nat}{r:List Nat}(h:cs i=none∨∀d,ρ[i]?≠some (some d)):cW cs ρ (i :: r) G=cW cs ρ r G∧bv cs ρ (i :: r)=bv cs ρ r:=by
 cases e1:cs i with
 |none=>simp only[cW,bv,e1];exact⟨trivial,trivial⟩
 |some c =>
  cases e2:ρ[i]? with
  |none=>simp only[cW,bv,e1,e2];exact⟨trivial,trivial⟩
  |some o =>
   cases o with
   |none=>simp only[cW,bv,e1,e2];exact⟨trivial,trivial⟩
   |some d =>
    rcases h with h|h
    ·rw[e1]at h;cases h
    ·exact absurd e2 (h d)
theorem gH{cs:Nat→Option Addr}{ρ:aj}{G:AG}{a:Addr}:∀{ls:List Nat},(a ∉ bv cs ρ ls∧cW cs ρ ls G a=G a)∨∃i d,i∈ls∧cs i=some a∧ρ[i]?=some (some d)∧a∈bv cs ρ ls∧cW cs ρ ls G a=some (.cel d)
 |[]=>.inl ⟨(by simp[bv]),rfl⟩
 |i :: r=>by
  have ih:=gH (cs:=cs) (ρ:=ρ) (G:=G) (a:=a) (ls:=r)
  by_cases h:∃c d,cs i=some c∧ρ[i]?=some (some d)
  ·obtain⟨c,d,e1,e2⟩:=h
   obtain⟨q1,q2⟩:=Ia (r:=r) (G:=G) e1 e2
   rw[q1,q2]
   by_cases h:a=c
   ·subst h
    exact .inr ⟨i,d,Mi ..,e1,e2,Mi ..,ak⟩
   ·rw[aC h]
    rcases ih with⟨h1,h2⟩|⟨j,d',h1,h2,h3,h4,h5⟩
    ·exact .inl ⟨fun z=>(List.mem_cons.mp z).elim h h1,h2⟩
    ·exact .inr ⟨j,d',Mj _ h1,h2,h3,Mj _ h4,h5⟩
  ·have:cs i=none∨∀d,ρ[i]?≠some (some d):=by
    cases e1:cs i with
    |none=>exact .inl rfl
    |some c=>exact .inr fun d e2=>h ⟨c,d,e1,e2⟩
   obtain⟨q1,q2⟩:=Ib (r:=r) (G:=G) this
   rw[q1,q2]
   rcases ih with⟨h1,h2⟩|⟨j,d',h1,h2,h3,h4,h5⟩
   ·exact .inl ⟨h1,h2⟩
   ·exact .inr ⟨j,d',Mj _ h1,h2,h3,h4,h5⟩
theorem tz(cz:CsOk X Γ)(I:Inv X pins σ H s)(hE:RelE X.K H ρ σ)(hG:RelG X.K G H):RelG X.K (cW Γ.cs ρ ls G) (dI H (bv Γ.cs ρ ls) s.heap):=by
 have hc:=dX (ls:=ls) cz I hE
 have st:Stab H (dI H (bv Γ.cs ρ ls) s.heap):=kF fun c h=>(hc c h).2.2.1
 refine⟨fun a o e=>?_,hG.t.ext fun b o e=>?_⟩
 ·rcases gH (cs:=Γ.cs) (ρ:=ρ) (G:=G) (a:=a) (ls:=ls)with⟨h1,h2⟩|⟨i,d,h1,h2,h3,h4,h5⟩
  ·rw[h2]at e
   exact (hG.g a o e).mono st (aw h1)
  ·rw[h5]at e
   cases e
   obtain⟨o,u,v,k1,k2,k3,k4⟩:=qK cz I hE h2 h3
   exact⟨o,u,v,be h4 k1,k2,k3,k4.mono st⟩
 ·have:b ∉ bv Γ.cs ρ ls:=fun z=>by rw[(hc b z).2.2.1]at e;cases e
  rw[aw this];exact e
theorem tJ(cz:CsOk X Γ)(I:Inv X pins σ H s)(hE:RelE X.K H ρ σ){Qa:AQ}{Q:VK}(hp:PostE X.K G H Qa Q) :
  PostE X.K (cW Γ.cs ρ ls G) (dI H (bv Γ.cs ρ ls) s.heap) (fun d G2=>Qa d (cx Γ.cs ls G2)) fun v H'=>(∀c∈bv Γ.cs ρ ls,H' c=dI H (bv Γ.cs ρ ls) s.heap c)→Q v (bc H' (bv Γ.cs ρ ls)):=by
 have hc:=dX (ls:=ls) cz I hE
 intro d G' v H' f g r q ha
 have cin:cw H' (bv Γ.cs ρ ls):=fun c h=>by
  obtain⟨o,ho⟩:=(hc c h).2.2.2
  exact⟨o,by rw[ha c h];exact be h ho⟩
 have st:=gq cin
 have ng:∀a o,cx Γ.cs ls G' a=some o→a ∉ bv Γ.cs ρ ls:=fun a o e z=>by
  obtain⟨i,hi,e1,_⟩:=cV z
  rw[eC hi e1]at e;cases e
 refine hp d _ v _ (fun a o e t n=>?_) ⟨fun a o e=>?_,dS g.t cin⟩ (r.mono st) q
 ·have na:a ∉ bv Γ.cs ρ ls:=fun z=>by rw[(hc a z).2.2.1]at e;cases e
  have ng':cW Γ.cs ρ ls G a=none:=by
   rcases gH (cs:=Γ.cs) (ρ:=ρ) (G:=G) (a:=a) (ls:=ls)with⟨_,h2⟩|⟨_,_,_,_,_,h4,_⟩
   ·rw[h2];exact n
   ·exact absurd h4 na
  obtain⟨k1,k2⟩:=f a o (by rw[aw na];exact e) t ng'
  refine⟨by rw[ad na];exact k1,?_⟩
  rcases eE (cs:=Γ.cs) (G:=G') (a:=a) (ls:=ls)with h|h
  ·rw[h];exact k2
  ·exact h
 ·have na:=ng a o e
  have e':=nt a o e
  exact (g.g a o e').mono st (ad na)
theorem oo(cz:CsOk X Γ)(I:Inv X pins σ H s)(hE:RelE X.K H ρ σ){Ea:AX}{E:XK}(hx:PostX X.K G H Ea E) :
  PostX X.K (cW Γ.cs ρ ls G) (dI H (bv Γ.cs ρ ls) s.heap) (fun c fs G2=>Ea c fs (cx Γ.cs ls G2)) fun c d H'=>(∀c∈bv Γ.cs ρ ls,H' c=dI H (bv Γ.cs ρ ls) s.heap c)→E c d (bc H' (bv Γ.cs ρ ls)):=by
 have hc:=dX (ls:=ls) cz I hE
 intro C fs G' dx H' f g r q ha
 have cin:cw H' (bv Γ.cs ρ ls):=fun c h=>by
  obtain⟨o,ho⟩:=(hc c h).2.2.2
  exact⟨o,by rw[ha c h];exact be h ho⟩
 have st:=gq cin
 have ng:∀a o,cx Γ.cs ls G' a=some o→a ∉ bv Γ.cs ρ ls:=fun a o e z=>by
  obtain⟨i,hi,e1,_⟩:=cV z
  rw[eC hi e1]at e;cases e
 have r':cE X.K (bc H' (bv Γ.cs ρ ls)) dx fs:=by
  cases dx with
  |none=>exact r
  |some d =>
   obtain⟨vf,h1,h2⟩:=r
   have nd:d ∉ bv Γ.cs ρ ls:=fun z=>by
    obtain⟨o,z⟩:=cin d z
    rw[h1]at z;cases z
   exact⟨vf,by rw[ad nd];exact h1,KRel.mono st h2⟩
 refine hx C fs _ dx _ (fun a o e t n=>?_) ⟨fun a o e=>?_,dS g.t cin⟩ r' q
 ·have na:a ∉ bv Γ.cs ρ ls:=fun z=>by rw[(hc a z).2.2.1]at e;cases e
  have ng':cW Γ.cs ρ ls G a=none:=by
   rcases gH (cs:=Γ.cs) (ρ:=ρ) (G:=G) (a:=a) (ls:=ls)with⟨_,h2⟩|⟨_,_,_,_,_,h4,_⟩
   ·rw[h2];exact n
   ·exact absurd h4 na
  obtain⟨k1,k2⟩:=f a o (by rw[aw na];exact e) t ng'
  refine⟨by rw[ad na];exact k1,?_⟩
  rcases eE (cs:=Γ.cs) (G:=G') (a:=a) (ls:=ls)with h|h
  ·rw[h];exact k2
  ·exact h
 ·have na:=ng a o e
  have e':=nt a o e
  exact (g.g a o e').mono st (ad na)
theorem gA{us:List Value}{f:Value}(cz:CsOk X Γ)(tk:L2N.Takes X W)(I:Inv X pins σ H s)(hE:RelE X.K H ρ σ)(hG:RelG X.K G H){Qa:AQ}{Ea:AX}{Q:VK}(hp:PostE X.K G H Qa Q)(hx:PostX X.K G H Ea fun c dx H'=>W c dx σ H')
  (h:∀(Q':VK) (E':XK),Env0 X.prog X.w X.K X.mg X.base X.A X.stack s (dI H (bv Γ.cs ρ ls) s.heap)→RelG X.K (cW Γ.cs ρ ls G) (dI H (bv Γ.cs ρ ls) s.heap)→Stab H (dI H (bv Γ.cs ρ ls) s.heap)→
   PostE X.K (cW Γ.cs ρ ls G) (dI H (bv Γ.cs ρ ls) s.heap) (fun d G2=>Qa d (cx Γ.cs ls G2)) Q'→PostX X.K (cW Γ.cs ρ ls G) (dI H (bv Γ.cs ρ ls) s.heap) (fun c fs G2=>Ea c fs (cx Γ.cs ls G2)) E'→
   codeAny (model X.prog X.w) X.A (.call f ⟨us,[]⟩) (CR (L2N.CX X.prog X.w) X.stack X.prog X.w (dI H (bv Γ.cs ρ ls) s.heap) s Q' E') s) :
  wpAny (model X.prog X.w) X.A (call f us) (EP X pins σ Q) X.xe s:=by
 have hc:=dX (ls:=ls) cz I hE
 have hl:∀c∈bv Γ.cs ρ ls,c ∉ frs X.stack∧H c=none∧∃o,s.heap.get? c=some o:=fun c h=>(hc c h).2
 have go:=h _ _ (uY I.env0 hc) (tz cz I hE hG) (kF fun c h=>(hc c h).2.2.1) (tJ cz I hE hp) (oo cz I hE hx)
 refine wpAny_call (codeAny_mono go fun r s' hq=>?_)
 cases r with
 |error e =>
  have hq:=ve (E:=fun c dx H'=>W c dx σ H') hl (fun c d H' q a=>q a) hq
  exact tk e s' (L2N.XE.of_call I (fun _ _ _ z=>z) hq)
 |ok fl =>
  cases fl with
  |ret u=>exact I.after (vj hl (fun v H' q a=>q a) hq)
  |next=>exact False.elim hq
  |brk=>exact False.elim hq
  |cont=>exact False.elim hq
end
end Av
namespace Av
variable [Tb]
section
variable {M:Model} {A:Around} {E:Value→Shared→Prop} {s:Shared}
theorem dN{f:Value}{args:List (Bool × Sem Value)}{Q:Args→Shared→Prop}(hn:args.any (·.1)=false)(h:wpAny M A (spliced args) (fun vs s'=>Q ⟨vs,[]⟩ s') E s):wpAny M A (evalArgs f true args []) Q E s:=by
 cases args with
 |nil =>
  unfold evalArgs
  show wpAny M A (spliced [] >>=_) Q E s
  refine wpAny_bind (wpAny_mono h (fun vs s' h'=>?_) fun _ _ x=>x)
  first
   |exact wpAny_bind (wpAny_pure (wpAny_holding (wpAny_bind (wpAny_pure (wpAny_bind (wpAny_pure (wpAny_pure h')))))))
   |exact wpAny_holding (wpAny_bind (wpAny_pure (wpAny_bind (wpAny_pure (wpAny_pure h')))))
 |cons x rest =>
  obtain⟨b,x⟩:=x
  cases b with
  |true=>cases hn
  |false=>exact Calls.evalArgs_plain h
end
section
variable {X:Cx} {W:WX} {Γ:Gam} {k:Nat} {es:List Expr} {pos p:Pos} {wa:aj→AG→(List Dat→AG→Prop)→AX→Prop} {pins:List (Addr × Obj)} {s:Shared} {σ:L2.St} {H:Hp} {G:AG} {ρ:aj} {Qa:List Dat→AG→Prop} {Ea:AX}
theorem fj{f:Value}{first:List Value}{P:Heap→Prop}{R:Value→Shared→Prop}(ha:PA X es (LfA X.K W wa))(hs:es.all af=true)(hk:∀h,P h→∃k,(k=Keeper.frame∨k=Keeper.machine∨k=Keeper.boundFrame)∧PySem.W.Looks (model X.prog X.w) h (keeperOf f) k)
  (I:Inv X pins σ H s)(hE:RelE X.K H ρ σ)(hG:RelG X.K G H)(hw:wa ρ G Qa Ea)(hx:PostX X.K G H Ea fun c dx H'=>W c dx σ H')
  (h:∀us s1 vs H1 ds G1,Inv X pins σ H1 s1→Vals vs us→Fra G H G1 H1→RelG X.K G1 H1→Reps X.K H1 vs ds→Qa ds G1→P s1.heap∧wpAny (model X.prog X.w) X.A (call f (first++us)) R X.xe s1) :
  wpAny (model X.prog X.w) X.A (callWith pos f first (backTo pos (starEach es X.env)) (backToKw pos (keywordEach [] X.env))) R X.xe s:=by
 refine PySem.W.callWith_of (P:=P) ?_ hk (dN (az hs) (thn (ha.run pos pins s σ H (fun vs H1=>∃ds G1,Fra G H G1 H1∧RelG X.K G1 H1∧Reps X.K H1 vs ds∧Qa ds G1) I ⟨ρ,G,_,Ea,hE,hG,hw,fun ds G1 vs H1 f g r q=>⟨ds,G1,f,g,r,q⟩,hx⟩) fun us s1 ⟨vs,H1,I1,r,ds,G1,f,g,rr,q⟩=>h us s1 vs H1 ds G1 I1 r f g rr q))
 rw[az hs];rfl
theorem lg{f:Value}(hk:PySem.W.keepIn X.K f=true):∀h,X.K.In h→∃k,(k=Keeper.frame∨k=Keeper.machine∨k=Keeper.boundFrame)∧PySem.W.Looks (model X.prog X.w) h (keeperOf f) k:=fun h x=>PySem.W.keeps_K hk h x
theorem Fs{P:Program}{w:World}{H:Hp}{h:Heap}{f c':Addr}{L:mS}{qual:Str}{clos:List (Str × Addr)}(hok:HOk P w H h)(e:H f=some (FnB f L qual clos c')):PySem.W.FnAt f h:=by
 obtain⟨⟨od,sl,name,doc,pm,ctv,z⟩,_,_⟩:=hok f _ e
 exact⟨_,_,_,_,z⟩
theorem sO(oc:Oc X W Γ k)(cz:CsOk X Γ){ls:List Nat}{f:Str}{F:FnE}(hF:Γ.fn f=some F)(hg:Gl X f)(hdb:(f == ("__debug__" : Str))=false)(h1:F.ar≤es.length+F.dfl.length)(h2:es.length≤F.ar)(ha:PA X es (LfA X.K W wa))(hs:es.all af=true) :
  PE X (.Call (.Name f p) es [] pos) (LfE X.K W fun ρ G Q E=>wa ρ G (fun ds G1=>noneG Γ.cs ls G1→F.con (ds++F.dfl.drop (es.length+F.dfl.length - F.ar)) (cW Γ.cs ρ ls G1) (fun d G2=>Q d (cx Γ.cs ls G2)) (fun c fs G2=>E c fs (cx Γ.cs ls G2))) E):=by
 refine⟨fun pins s σ H Q I ⟨ρ,G,Qa,Ea,hE,hG,hw,hp,hx⟩=>?_⟩
 obtain⟨a,fd,ps,hok,hm,hk,hbind⟩:=oc.tb.fn f F hF
 obtain⟨dv,dvs,hb,hv,hd⟩:=hbind es.length h1 h2
 refine wpAny_Call_Name_kw (ld_glob I hg hm ?_ hdb)
 refine fj (first:=[]) ha hs (lg hk) I hE hG hw hx fun us s1 vs H1 ds G1 I1 r f1 g1 rr q=>⟨I1.kIn,?_⟩
 have hE1:=hE.mono (f1.stab hG)
 refine gA (ls:=ls) cz oc.tk I1 hE1 g1 (fun d G' v H' f2=>hp d G' v H' (f1.trans f2)) (hx.fra f1) fun Q' E' e0 rg st px pe=>?_
 have sp:bF X.K F (vs++dvs) (dI H1 (bv Γ.cs ρ ls) s1.heap) Q' E':=⟨_,_,_,_,(rr.mono st).append (hd _),rg,q (hJ oc.nd cz I1 g1),px,pe⟩
 have r2:Vals (vs++dvs) (us++dv):=r.append hv
 exact hok.run X.A X.stack s1 _ ⟨[]++us,[]⟩ (us++dv) (vs++dvs) Q' E' oc.room e0 (hb s1 us I1.kIn (by rw[←r2.length];exact hok.len _ _ _ _ sp)) r2 sp
theorem nS(oc:Oc X W Γ k)(cz:CsOk X Γ){ls:List Nat}{i:Nat}{x:Str}(hN:X.N[i]?=some x)(hv:Vis X.env.scope x)(hdb:(x == ("__debug__" : Str))=false)(hcd:(x == ("__classdict__" : Str))=false)(ha:PA X es (LfA X.K W wa))(hs:es.all af=true) :
  PE X (.Call (.Name x p) es [] pos) (LfE X.K W fun ρ G Q E=>match ρ[i]? with
   |some (some (.gf f))=>(match Γ.fn f with
    |some F=>(F.ar≤es.length+F.dfl.length∧es.length≤F.ar)∧wa ρ G (fun ds G1=>noneG Γ.cs ls G1→F.con (ds++F.dfl.drop (es.length+F.dfl.length - F.ar)) (cW Γ.cs ρ ls G1) (fun d G2=>Q d (cx Γ.cs ls G2)) (fun c fs G2=>E c fs (cx Γ.cs ls G2))) E
    |none=>False)
   |some (some (.clo q cl))=>(match Γ.lam q with
    |some L=>es.length=L.ar∧wa ρ G (fun ds G1=>noneG Γ.cs ls G1→L.con cl ds (cW Γ.cs ρ ls G1) (fun d G2=>Q d (cx Γ.cs ls G2)) (fun c fs G2=>E c fs (cx Γ.cs ls G2))) E
    |none=>False)
   |_=>False):=by
 refine⟨fun pins s σ H Q I ⟨ρ,G,Qa,Ea,hE,hG,hw,hp,hx⟩=>?_⟩
 dsimp only at hw
 cases q:ρ[i]? with
 |none=>rw[q]at hw;exact False.elim hw
 |some o =>
  cases o with
  |none=>rw[q]at hw;exact False.elim hw
  |some d =>
   obtain⟨v,hsv,rv⟩:=hE.2 i _ q
   have enter:∀{b:Addr} {P:Heap→Prop},v = .ref b→(∀h,P h→∃k,(k=Keeper.frame∨k=Keeper.machine∨k=Keeper.boundFrame)∧PySem.W.Looks (model X.prog X.w) h (keeperOf (.ref b)) k)→∀{Qb:List Dat→AG→Prop},wa ρ G Qb Ea→
     (∀us s1 vs H1 ds G1,Inv X pins σ H1 s1→Vals vs us→Fra G H G1 H1→RelG X.K G1 H1→Reps X.K H1 vs ds→Qb ds G1→P s1.heap∧wpAny (model X.prog X.w) X.A (call (.ref b) us) (EP X pins σ Q) X.xe s1)→wpAny (model X.prog X.w) X.A (eval (.Call (.Name x p) es [] pos) X.env) (EP X pins σ Q) X.xe s:=by
    intro b P hb hk Qb hwb h
    subst hb
    refine wpAny_Call_Name_kw (thn ((pe_var (pos:=p) hN hv hdb hcd).run pins s σ H (fun v H1=>v = .ref b∧H1=H) I ⟨.ref b,hsv,rfl,rfl⟩) fun u s1 ⟨v,H1,I1,r1,q1,q2⟩=>?_)
    subst q1 q2
    cases r1
    exact fj (first:=[]) ha hs hk I1 hE hG hwb hx h
   cases d with
   |gf f =>
    rw[q]at hw
    cases hF:Γ.fn f with
    |none=>simp only[hF]at hw
    |some F =>
     simp only[hF]at hw
     obtain⟨⟨h1,h2⟩,hw⟩:=hw
     obtain⟨a,fd,ps,hok,hm,hk,hbind⟩:=oc.tb.fn f F hF
     have e0:=oc.tb.fa f F hF
     rw[hm]at e0
     cases e0
     cases rv
     obtain⟨dv,dvs,hb,hvv,hd⟩:=hbind es.length h1 h2
     refine enter rfl (lg hk) hw fun us s1 vs H1 ds G1 I1 r f1 g1 rr q=>⟨I1.kIn,?_⟩
     have hE1:=hE.mono (f1.stab hG)
     refine gA (ls:=ls) cz oc.tk I1 hE1 g1 (fun d G' v H' f2=>hp d G' v H' (f1.trans f2)) (hx.fra f1) fun Q' E' e0 rg st px pe=>?_
     have sp:bF X.K F (vs++dvs) (dI H1 (bv Γ.cs ρ ls) s1.heap) Q' E':=⟨_,_,_,_,(rr.mono st).append (hd _),rg,q (hJ oc.nd cz I1 g1),px,pe⟩
     have r2:Vals (vs++dvs) (us++dv):=r.append hvv
     exact hok.run X.A X.stack s1 _ ⟨us,[]⟩ (us++dv) (vs++dvs) Q' E' oc.room e0 (hb s1 us I1.kIn (by rw[←r2.length];exact hok.len _ _ _ _ sp)) r2 sp
   |clo m cl =>
    rw[q]at hw
    cases hF:Γ.lam m with
    |none=>simp only[hF]at hw
    |some L =>
     simp only[hF]at hw
     obtain⟨hlen,hw⟩:=hw
     have lo:=oc.tb.lamK m L hF
     obtain⟨f,rfl⟩:∃f,v = .ref f:=by cases rv;exact⟨_,rfl⟩
     refine enter rfl (P:=PySem.W.FnAt f) (PySem.W.keeps_F) hw fun us s1 vs H1 ds G1 I1 r f1 g1 rr q=>?_
     have rv1:=rv.mono (f1.stab hG)
     refine⟨?_,?_⟩
     ·cases rv1 with
      |clo _ _ hf _=>exact Fs I1.hok hf
     ·have hE1:=hE.mono (f1.stab hG)
      refine gA (ls:=ls) cz oc.tk I1 hE1 g1 (fun d G' v H' f2=>hp d G' v H' (f1.trans f2)) (hx.fra f1) fun Q' E' e0 rg st px pe=>?_
      exact lo f cl X.A X.stack s1 _ us vs Q' E' oc.room e0 r ⟨ds,_,_,_,rv1.mono st,rr.mono st,rg,q (hJ oc.nd cz I1 g1),px,pe⟩
   |_=>rw[q]at hw;exact False.elim hw
theorem DN(oc:Oc X W Γ k){ls:List Nat}(cz:ls=[]∨CsOk X Γ){o:Expr}{m:Str}{apos:Pos}{w1:WfE}(ho:PE X o (LfE X.K W w1))(ha:PA X es (LfA X.K W wa))(hs:es.all af=true){pl:Sem Bool}
  (ht:eval (.Call (.Attribute o m apos) es [] pos) X.env=(do
   let w ←eval o X.env
   standAt apos.atName
   let (g,one) ←holding [w] (getMethod w m pl)
   callWith pos g one (backTo pos (starEach es X.env)) (backToKw pos (keywordEach [] X.env)))) :
  PE X (.Call (.Attribute o m apos) es [] pos) (LfE X.K W fun ρ G Q E=>w1 ρ G (fun x G1=>∃p C fs F,x = .ref p∧G1 p=some (.ins C fs)∧fs.lookup m=none∧Γ.ms C m=some F∧(F.ar≤es.length+1+F.dfl.length∧es.length+1≤F.ar)∧
   wa ρ G1 (fun ds G2=>noneG Γ.cs ls G2→F.con (x :: (ds++F.dfl.drop (es.length+1+F.dfl.length - F.ar))) (cW Γ.cs ρ ls G2) (fun d G3=>Q d (cx Γ.cs ls G3)) (fun c fs G3=>E c fs (cx Γ.cs ls G3))) E) E):=by
 refine⟨fun pins s σ H Q I ⟨ρ,G,Qa,Ea,hE,hG,hw,hp,hx⟩=>?_⟩
 refine PySem.W.methodCall_KW (pl:=pl) (thn (ho.run pins s σ H (fun v H1=>∃d G1,Fra G H G1 H1∧RelG X.K G1 H1∧Rep X.K H1 v d∧_) I ⟨ρ,G,_,Ea,hE,hG,hw,fun d G1 v H1 f g r q=>⟨d,G1,f,g,r,q⟩,hx⟩) fun u s1 ⟨v,H1,I1,rx,d,G1,f1,g1,rv,b,C,fs,F,ed,e1,e2,hF,⟨h1,h2⟩,hw2⟩=>?_) ht
 subst ed
 cases aK rv
 obtain rfl:u=Value.ref b:=rx
 obtain⟨a,fd,ps,hok,hc,hm,hbind⟩:=oc.tb.ms C m F hF
 obtain⟨dv,dvs,hb,hv,hd⟩:=hbind es.length h1 h2
 obtain⟨dx,vf,k3,k4⟩:=g1.ins e1
 refine getmeth_ok I1 k3 hc hm (gQ k4 e2) ?_
 have hE1:=hE.mono (f1.stab hG)
 refine fj (first:=[.ref b]) ha hs (lg hm.kp) I1 hE1 g1 hw2 (hx.fra f1) fun us s2 vs H2 ds G2 I2 r f2 g2 rr q=>⟨I2.kIn,?_⟩
 have hE2:=hE1.mono (f2.stab g1)
 have f12:=f1.trans f2
 rcases cz with rfl|cz
 ·have sp:bF X.K F (.ref b :: (vs++dvs)) H2 Q (WE W σ):=⟨_,G2,Qa,Ea,.cons (.ref b) (rr.append (hd H2)),g2,q (fun i hi=>nomatch hi),fun d' G' v' H' f3=>hp d' G' v' H' (f12.trans f3),hx.fra f12⟩
  exact run_fnSD (us:=.ref b :: us) (vs:=.ref b :: vs) hok oc.room hb hv (L2N.passAt oc.tk σ) I2 (.cons rfl r) sp
 ·refine gA (ls:=ls) cz oc.tk I2 hE2 g2 (fun d G' v H' f3=>hp d G' v H' (f12.trans f3)) (hx.fra f12) fun Q' E' e0 rg st px pe=>?_
  have sp:bF X.K F (.ref b :: (vs++dvs)) (dI H2 (bv Γ.cs ρ ls) s2.heap) Q' E':=⟨_,_,_,_,.cons (.ref b) ((rr.mono st).append (hd _)),rg,q (hJ oc.nd cz I2 g2),px,pe⟩
  have r2:Vals (V.ref b :: (vs++dvs)) (Value.ref b :: (us++dv)):=.cons rfl (r.append hv)
  exact hok.run X.A X.stack s2 _ ⟨Value.ref b :: us,[]⟩ (Value.ref b :: (us++dv)) (.ref b :: (vs++dvs)) Q' E' oc.room e0 (hb s2 (Value.ref b :: us) I2.kIn (by rw[←hok.len _ _ _ _ sp,r2.length];rfl)) r2 sp
end
end Av
namespace Av
open PySem PySem.Spec PyProof.Rows L2 LamX NdefX
variable [Tb]
section
variable {X:Cx} {pins:List (Addr × Obj)} {σ:L2.St} {H:Hp} {s:Shared}
theorem pR{params:Arguments}{body:Expr}{scope:Scope}{qual:Str}{clos:List (Str × Addr)}{pm ctv:Value}{c':Addr}{t':Nat}(I:Inv X pins σ H s) :
  Inv X pins σ (upd H s.heap.objs.size (FnB s.heap.objs.size ⟨params,.expr body,scope⟩ qual clos c')) {s with heap:=s.heap.push (PySem.W.kla_obj "<lambda>" qual params body scope clos pm c' ctv),toks:=t'}:=by
 refine I.laid (a:=s.heap.objs.size) (fun b u e=>Heap.get?_push_of_some _ e) (M7 _) ?_
 have e:(s.heap.push (PySem.W.kla_obj "<lambda>" qual params body scope clos pm c' ctv)).get? s.heap.objs.size=some (PySem.W.kla_obj "<lambda>" qual params body scope clos pm c' ctv):=Heap.get?_push_size _ rfl
 exact⟨⟨_,_,"<lambda>",_,pm,ctv,e⟩,⟨_,e⟩,fun h1 h2 ⟨od,sl,n,d,p,t,z⟩ st=>⟨od,sl,n,d,p,t,st _ z⟩⟩
theorem ph{T:List NTab}{nm:Nat→Nat→Str}{c P:Addr}{params:Arguments}{body:Expr}{scope:Scope}{pos:Pos}{E:Value→Shared→Prop}{Q:Value→Shared→Prop}(I:Inv X pins σ H s)(TB:TabB X.base X.mg c P)(hcode:X.env.code = .ref c)
  (hm:(P,nm)∈T)(hn:nm pos.line pos.col=X.env.qual++ "<lambda>")(hu:∀p∈T,p.1=P→p.2=nm)(hT:TabsN T H)(hdef:defaultsOf params X.env=([],[]))(hfree:∀y∈scope.names,y.2 = .free→∃c,X.env.cells.lookup y.1=some c)
  (h:∀(f c':Addr) (H1:Hp) (s':Shared),Inv X pins σ H1 s'→ExtN H H1→TabsN T H1→H1 f=some (FnB f ⟨params,.expr body,scope⟩ (X.env.qual++ "<lambda>") (cloFrom X.env.cells scope.names []) c')→H1 c'=some (CodeO c' (X.env.qual++ "<lambda>"))→Q (.ref f) s') :
  wpAny (model X.prog X.w) X.A (eval (.Lambda params body scope pos) X.env) Q E s:=by
 obtain⟨ps,hP,ht,ha⟩:=(show TabN H P nm from hT _ hm)
 refine PySem.W.kla_eval hdef ?_
 have bP:s.heap.BuiltinsAt X.mg P:=TB.bm.keeps I.bk
 have hP':s.heap.get? P=some {cls:=.none,data:=.fields ps}:=I.hok P _ hP
 cases hc:codeAmong pos ps.toList with
 |none =>
  refine PySem.W.kla_makeFunction (mg:=X.mg) (c:=c) (P:=P) (ps:=ps) (closure_ok hfree) I.ok.glob (I.mod.glob.keeps I.bk) hcode (TB.code.keeps I.bk) hP' ht hc TB.gP bP fun c' ctv h' tk hx hge hlt hrec htb=>?_
  obtain⟨c2,oc,vs,t,e2,hoc,hd,hv⟩:=hrec
  cases e2
  have nC:H c'=none:=I.hok.fresh hge
  have I1:=inv_table (t':=tk) (more:=#[rawInt pos.line,rawInt pos.col,.ref c']) (h':=h') I hP (fun b o hb e=>hx b o hb e) htb hge ⟨oc,vs,t,hoc,hd,hv⟩
  have hE:ExtN H (upd (upd H P (.tbl (ps++#[rawInt pos.line,rawInt pos.col,.ref c']))) c' (CodeO c' (X.env.qual++ "<lambda>"))):=fun b o e n=>by
   rw[upd_ne (ne_of_none e nC),upd_ne (fun z=>n ps (Option.some.inj (e.symm.trans (by rw[z];exact hP))))]
   exact e
  have eL:(ps++#[rawInt pos.line,rawInt pos.col,.ref c']).toList=ps.toList++[rawInt pos.line,rawInt pos.col,.ref c']:=by simp
  have T1:TabsN T (upd (upd H P (.tbl (ps++#[rawInt pos.line,rawInt pos.col,.ref c']))) c' (CodeO c' (X.env.qual++ "<lambda>"))):=fun p hp=>by
   by_cases hb:p.1=P
   ·rw[hu p hp hb,hb]
    refine⟨_,by rw[upd_ne (ne_of_none hP nC),upd_same],by rw[eL];exact PySem.TriplesOk_snoc _ _ _ _ ht,fun p' cv hcv=>?_⟩
    rw[eL]at hcv
    rcases among_app2 _ ht hcv with z|⟨z,z1,z2⟩
    ·obtain⟨c0,e1,e2⟩:=ha p' cv z
     exact⟨c0,e1,hE _ _ e2 codeO_ne⟩
    ·refine⟨c',z,?_⟩
     rw[←z1,←z2,hn]
     exact upd_same
   ·obtain⟨ps',a1,a2,a3⟩:=hT p hp
    refine⟨ps',by rw[upd_ne (ne_of_none a1 nC),upd_ne hb];exact a1,a2,fun p' cv hcv=>?_⟩
    obtain⟨c0,e1,e2⟩:=a3 p' cv hcv
    exact⟨c0,e1,hE _ _ e2 codeO_ne⟩
  have nF:=I1.hok.fresh (M7 _)
  have I2:=pR (params:=params) (body:=body) (scope:=scope) (qual:=X.env.qual++ "<lambda>") (clos:=cloFrom X.env.cells scope.names []) (c':=c') (t':=tk) (ctv:=ctv) (pm:=(X.mg "__name__").getD .none) I1
  refine h h'.objs.size c' _ _ I2 (fun b o e n=>?_) (T1.ext fun b o e=>?_) upd_same ?_
  ·have e1:=hE b o e n
   exact (upd_ne (ne_of_none e1 nF)).trans e1
  ·exact (upd_ne (ne_of_none e nF)).trans e
  ·exact (upd_ne (Nat.ne_of_lt hlt)).trans upd_same
 |some cv =>
  obtain⟨c',e,hco⟩:=ha pos cv hc
  subst e
  rw[hn]at hco
  refine PySem.W.kla_makeFunctionHit (mg:=X.mg) (c:=c) (P:=P) (ps:=ps) (closure_ok hfree) I.ok.glob (I.mod.glob.keeps I.bk) hcode (TB.code.keeps I.bk) hP' ht hc bP fun ctv h' tk hx hsz=>?_
  have I1:Inv X pins σ H {s with heap:=h',toks:=tk}:=I.kept hx
  have nF:H h'.objs.size=none:=I1.hok.fresh (M7 _)
  have I2:=pR (params:=params) (body:=body) (scope:=scope) (qual:=X.env.qual++ "<lambda>") (clos:=cloFrom X.env.cells scope.names []) (c':=c') (t':=tk) (ctv:=ctv) (pm:=(X.mg "__name__").getD .none) I1
  refine h h'.objs.size c' _ _ I2 (fun b o e n=>?_) (hT.ext fun b o e=>?_) upd_same ?_
  ·exact (upd_ne (ne_of_none e nF)).trans e
  ·exact (upd_ne (ne_of_none e nF)).trans e
  ·exact (upd_ne (ne_of_none hco nF)).trans hco
end
theorem jp{cs:Nat→Option Addr}:∀{ls:List Nat} {cl:List Addr},jq cs ls=some cl→cl.length=ls.length∧∀(j:Nat) (i:Nat) (c:Addr),ls[j]?=some i→cl[j]?=some c→cs i=some c
 |[],cl,h=>by cases h;exact⟨rfl,fun j i c e=>by simp at e⟩
 |i :: r,cl,h=>by
  unfold jq at h
  split at h
  ·rename_i c l e1 e2
   cases h
   obtain⟨h1,h2⟩:=jp e2
   refine⟨by rw[Mb,Mb,h1],fun j i' c' q1 q2=>?_⟩
   cases j with
   |zero=>simp at q1 q2;rw[←q1,←q2];exact e1
   |succ j=>simp at q1 q2;exact h2 j i' c' q1 q2
  ·cases h
section
variable {X:Cx} {W:WX} {Γ:Gam} {C:Ck} {k:Nat} {pos:Pos}
theorem DQ(ck:bz X C Γ){q:Nat}{ls:List Nat}{params:Arguments}{body:Expr}{scope:Scope}(ht:C.top=true)(hL:C.isL q ⟨params,.expr body,scope⟩=true)(hd:params.defaults=[])(hk:params.kw_defaults=[])(hc:Jt C (C.fr q) ls scope=true) :
  PE X (.Lambda params body scope pos) (LfE X.K W fun ρ G Q E=>∃cl,jq Γ.cs ls=some cl∧Q (.clo q cl) G):=by
 refine⟨fun pins s σ H Q I ⟨ρ,G,Qa,Ea,hE,hG,⟨cl,hcl,hw⟩,hp,hx⟩=>?_⟩
 obtain⟨hi,hfr,c,P,nm,TB,hcode,hm,hu,hn⟩:=ck.isL q _ hL
 have cz:=ck.cs ht
 obtain⟨l1,l2⟩:=jp hcl
 unfold Jt at hc
 simp only[M3,beq_iff_eq,List.all_eq_true,Bool.or_eq_true,Bool.not_eq_true',List.contains_iff_mem,beq_eq_false_iff_ne,List.any_eq_true]at hc
 obtain⟨⟨hc1,hc2⟩,hc3⟩:=hc
 have lf:ls.length=(Tb.fr q).length:=by
  have:=congrArg List.length hc1
  rw[M5,M5,hfr]at this
  exact this
 have hfree:∀y∈scope.names,y.2 = .free→∃c,X.env.cells.lookup y.1=some c:=fun y hy e=>by
  rcases hc2 y hy with z|⟨_,z⟩
  ·exact absurd e z
  ·exact I.ok.has _ (by
    show X.env.scope.names.lookup y.1=some .cell∨X.env.scope.names.lookup y.1=some .free
    rw[ck.sc];exact z)
 have cell:∀(j:Nat) (y:Str) (c:Addr),(Tb.fr q)[j]?=some y→cl[j]?=some c→X.env.cells.lookup y=some c:=fun j y c e1 e2=>by
  have hj:j<ls.length:=by rw[←l1];exact (List.getElem?_eq_some_iff.mp e2).1
  obtain⟨x,h1,_,_,h2,_⟩:=cz _ c (l2 j _ c (Me hj) e2)
  have e3:=congrArg (fun l=>l[j]?) hc1
  rw[←hfr]at e1
  simp only[Mg,Me hj,e1,Option.map_some,Option.some.injEq]at e3
  rw[ck.n]at e3
  rw[e3]at h1
  cases h1
  exact h2
 have clo:Cv (Tb.fr q) cl (cloFrom X.env.cells scope.names []):=by
  refine⟨by rw[l1,lf],fun j y c e1 e2=>?_,fun y c e=>?_,fun x y c e1 e2=>?_⟩
  ·have e3:=cell j y c e1 e2
   have hy:(y,NameKind.free)∈scope.names:=by
    obtain⟨z,hz,h1,h2⟩:=hc3 y (by rw[hfr];exact List.mem_of_getElem? e1)
    rw[←h1,←h2];exact hz
   exact clo_has hfree hy e3
  ·have hf:=clo_cm hfree e
   rcases cloFrom_mem (PySem.mem_of_lookup e)with hm|⟨h1,h2⟩
   ·cases hm
   ·rcases hc2 _ h1 with z|⟨z,_⟩
    ·exact absurd rfl z
    ·rw[hfr]at z
     obtain⟨j,hj⟩:=List.mem_iff_getElem?.mp z
     refine⟨j,hj,?_⟩
     have hl:j<cl.length:=by rw[l1,lf];exact (List.getElem?_eq_some_iff.mp hj).1
     have e5:=cell j y _ hj (Me hl)
     rw[hf]at e5
     cases e5
     exact Me hl
  ·exact I.ok.inj x y c (clo_cm hfree e1) (clo_cm hfree e2)
 have hdef:defaultsOf params X.env=([],[]):=by
  obtain⟨a,b,c,d,e,f,g⟩:=params
  simp only at hd hk
  subst hd hk
  rfl
 refine ph I TB hcode hm (hn _ _) hu hG.t hdef hfree fun f c' H1 s' I1 en T1 hf hc'=>?_
 have st:Stab H H1:=⟨fun b xs e=>en b _ e (fun _ z=>by cases z),fun b o xs e=>en b _ e (fun _ z=>by cases z),fun b φ e=>en b _ e (fun _ z=>by cases z),fun b o xs e=>en b _ e (fun _ z=>by cases z),fun b o xs e=>en b _ e (fun _ z=>by cases z)⟩
 refine⟨.ref f,H1,I1,rfl,hp (.clo q cl) G (.ref f) H1 (fun a o e t n=>⟨en a o e t,n⟩) ⟨fun a o e=>?_,T1⟩ (.clo hi clo hf hc') hw⟩
 obtain⟨u,h1,h2⟩:=(hG.g a o e).some
 exact (hG.g a o e).mono st (by rw[h1];exact en a u h1 h2.2.2.2.1)
end
section
variable {X:Cx} {W:WX} {Γ:Gam} {k:Nat} {pos p:Pos} {es:List Expr} {wa:aj→AG→(List Dat→AG→Prop)→AX→Prop}
theorem Inv.excB{pins:List (Addr × Obj)}{σ:L2.St}{H:Hp}{s:Shared}{a C:Addr}{d:Option Addr}(I:Inv X pins σ H s)(h:H a=some (exo a C d)):Inv X pins σ (upd H a (mO a C d)) s:=by
 have ne:∀{b u},H b=some u→(∀φ,u≠.ext φ)→b≠a:=fun e q z=>by rw[z,h]at e;exact q _ (Option.some.inj e).symm
 have nn:∀{b},H b=none→b≠a:=fun e z=>by rw[z,h]at e;cases e
 have u:Un X.fs [] H (upd H a (mO a C d)) s.heap s.heap:=by
  refine⟨fun _ _ q _ _ _=>q,fun b ob q _ _ _=>⟨ob.slots,q⟩,fun b ob q n _=>by rw[upd_ne (nn n)];exact n,fun b ob q _=>⟨ob,q⟩,fun b xs q=>by rw[upd_ne (ne q (fun _ z=>by cases z))];exact q,
   fun b ob w q=>by rw[upd_ne (ne q (fun _ z=>by cases z))];exact q,fun b ps q=>⟨#[],by rw[upd_ne (ne q (fun _ z=>by cases z)),q];simp⟩⟩
 have k:HOk X.prog X.w (upd H a (mO a C d)) s.heap:=fun b w q=>by
  by_cases hb:b=a
  ·subst hb
   rw[upd_same]at q
   cases q
   obtain⟨t1,ho⟩:=exo_at I.hok h
   exact⟨⟨_,_,ho,rfl,rfl,rfl⟩,⟨_,ho⟩,fun h1 h2 ⟨oe,vs,z,z2⟩ st=>⟨oe,vs,st _ z,z2⟩⟩
  ·rw[upd_ne hb]at q
   exact (I.hok b w q).stay (fun _ _ _ z=>z) (fun c z=>by rw[upd_ne (ne z (fun _ z=>by cases z))];exact z) fun c xs z=>by rw[upd_ne (ne z (fun _ z=>by cases z))];exact z
 exact I.un (h':=s.heap) (t':=s.toks) u k
def GX(C:Addr)(fl:List Str)(ta:TA):TE:=fun σ H Q=>ta σ H fun vs H1=>vs.length=fl.length∧∀a d,H1 a=none→H1 d=none→d≠a→Q (.ref a) (upd (upd H1 d (exd d (fl.zip vs).reverse)) a (mO a C (some d)))
theorem AE{x:Str}{C fI:Addr}{fl:List Str}{fd:FuncData}{ps:List Str}{ta:TA}(T:OexC X.K C)(iC:PySem.W.findIn X.K (.ref C) "__init__" =some (some (.ref fI)))(tI:PySem.W.typeIn X.K (.ref fI)=some (.type "function"))
  (F1:FnOk X.prog X.w X.K X.mg X.base (L2N.CX X.prog X.w) k fI fd ps (Hi X.K C fl))(hl9:fl.length≤900)(hr:Room (k+1) X.A)(hb:Binds X.K fd ps [])(hg:Gl X x)(hm:X.mg x=some (.ref C))(ha:PA X es ta)(hs:es.all af=true)
  (hdb:(x == ("__debug__" : Str))=false):PE X (.Call (.Name x p) es [] pos) (GX C fl ta):=by
 refine⟨fun pins s σ H Q I h=>?_⟩
 obtain⟨nm,q,N,bs,bm,sn,sub,ab,col,dd,k0,k1,k2,k3,k5,hC,hbm⟩:=T.cls
 refine wpAny_Call_Name_kw (ld_glob I hg hm ?_ hdb)
 refine PySem.W.callWith_of (P:=fun h=>X.K.In h) ?_ (lg T.kC) (dN (az hs) (thn (ha.run pos pins s σ H _ I h) fun us s1 ⟨vs,H1,I1,r1,hz,q1⟩=>⟨I1.kIn,?_⟩))
 ·rw[az hs];rfl
 show wpAny _ _ (call (.ref C) us) _ _ _
 obtain⟨hp,g,dr,tk,os⟩:=s1
 have hsz:hp.objs.size≤hp.objs.size+1:=Nat.le_succ _
 have hn:H1 (hp.objs.size+1)=none:=I1.hok.fresh hsz
 have kk:∀b o,hp.get? b=some o→((hp.push (PySem.W.kdv_tup us)).push (PySem.HandSPX.excO C hp.objs.size)).get? b=some o:=fun b o e=>Heap.get?_push_of_some _ (Heap.get?_push_of_some _ e)
 have hget:((hp.push (PySem.W.kdv_tup us)).push (PySem.HandSPX.excO C hp.objs.size)).get? (hp.objs.size+1)=some (PySem.HandSPX.excO C hp.objs.size):=by heap_get
 have I2:Inv X pins σ (upd H1 (hp.objs.size+1) (exo (hp.objs.size+1) C none)) ⟨(hp.push (PySem.W.kdv_tup us)).push (PySem.HandSPX.excO C hp.objs.size),g,dr,tk,os⟩ :=
  I1.laid (t':=tk) (a:=hp.objs.size+1) (o:=exo (hp.objs.size+1) C none) (h':=(hp.push (PySem.W.kdv_tup us)).push (PySem.HandSPX.excO C hp.objs.size)) kk hsz (exo_ok hget)
 have hq:Hi X.K C fl (V.ref (hp.objs.size+1) :: (vs++[])) (upd H1 (hp.objs.size+1) (exo (hp.objs.size+1) C none)) (fun v H2=>v = .non∧∃d,H1 d=none∧d≠hp.objs.size+1∧H2=upd (upd (upd H1 (hp.objs.size+1) (exo (hp.objs.size+1) C none)) d (exd d (fl.zip vs).reverse)) (hp.objs.size+1) (exo (hp.objs.size+1) C (some d))) (fun _ _ _=>False) :=
  ⟨hp.objs.size+1,vs,by simp,hz,upd_same,fun d hd hda=>⟨rfl,d,by rw[upd_ne hda]at hd;exact hd,hda,rfl⟩⟩
 have r2:Vals (V.ref (hp.objs.size+1) :: (vs++[])) (Value.ref (hp.objs.size+1) :: (us++[])):=.cons rfl (r1.append .nil)
 have hl:(Value.ref (hp.objs.size+1) :: us++[]).length=ps.length:=by
  have e:=r2.length
  rw[F1.len _ _ _ _ hq]at e
  exact e.symm
 have hus:us.length≤sizeLine:=by
  rw[←Paired.length r1,sizeLine_eq]
  omega
 refine wpAny_call (PySem.HandSPX.call_own F.excBase_ValueError (fun Y=>PySem.HandSPX.refsVE_contains Y bm hbm) (I1.kIn _ _ hC) (PySem.W.looks_findIn I1.kIn iC) (fun self=>PySem.W.bind_fn I1.kIn self tI) hus
  (codeAny_mono (F1.run _ X.stack _ _ ⟨Value.ref (hp.objs.size+1) :: us,[]⟩ (Value.ref (hp.objs.size+1) :: (us++[])) _ _ (fun _ _ _=>False) (hr.make C us []) (I2.env0.make C us []) (by simpa using hb _ (Value.ref (hp.objs.size+1) :: us) I2.kIn hl) r2 hq) fun r s' hq'=>?_))
 cases r with
 |error er =>
  obtain⟨_,_,_,_,_,_,_,_,_,_,_,_,z⟩:=hq'
  exact z.elim
 |ok fl =>
  cases fl with
  |ret u =>
   obtain⟨v,H2,I3,rv,ev,d,hd,hda,eH⟩:=I2.after hq'
   subst ev eH
   refine⟨rv,V.ref (hp.objs.size+1),_,Inv.excB I3 upd_same,rfl,?_⟩
   rw[L2.upd_upd]
   have e:upd (upd (upd H1 (hp.objs.size+1) (exo (hp.objs.size+1) C none)) d (exd d (fl.zip vs).reverse)) (hp.objs.size+1) (mO (hp.objs.size+1) C (some d))=upd (upd H1 d (exd d (fl.zip vs).reverse)) (hp.objs.size+1) (mO (hp.objs.size+1) C (some d)):=by
    funext b
    unfold upd
    by_cases h1:b=hp.objs.size+1
    ·simp only[if_pos h1]
    ·simp only[if_neg h1]
   rw[e]
   exact q1 _ d hn hd hda
  |next=>exact False.elim hq'
  |brk=>exact False.elim hq'
  |cont=>exact False.elim hq'
theorem Af(oc:Oc X W Γ k){C:Str}(hg:Gl X C)(hdb:(C == ("__debug__" : Str))=false)(ha:PA X es (LfA X.K W wa))(hs:es.all af=true) :
  PE X (.Call (.Name C p) es [] pos) (LfE X.K W fun ρ G Q E=>∃fl,Γ.xc C=some fl∧fl≠[]∧wa ρ G (fun ds G1=>ds.length=fl.length∧Q (.exc C fl ds) G1) E):=by
 refine⟨fun pins s σ H Q I ⟨ρ,G,Qa,Ea,hE,hG,⟨fl,hF,h0,hw⟩,hp,hx⟩=>?_⟩
 obtain⟨hm,hc⟩:=oc.tb.xc C fl hF
 rcases hc with⟨h,_⟩|⟨_,h9,hO,a,fd,ps,j,hj,hi,ht,hok,hb⟩
 ·exact absurd h h0
 refine (AE (p:=p) (pos:=pos) hO hi ht hok h9 (oc.room.mono hj) hb hg hm ha hs hdb).run pins s σ H Q I ⟨ρ,G,_,Ea,hE,hG,hw,fun ds G1 vs H1 f g r q=>?_,hx⟩
 refine⟨by rw[r.length];exact q.1,fun a d hna hnd hda=>?_⟩
 have ga:=g.free hna
 have gd:=g.free hnd
 have st:Stab H1 (upd (upd H1 d (exd d (fl.zip vs).reverse)) a (mO a (He.ga X.K C) (some d))):=(Stab.new hnd).trans (Stab.new (by rw[upd_ne (Ne.symm hda)];exact hna))
 have g2:=(g.newT (o:=exd d (fl.zip vs).reverse) hnd).newT (o:=mO a (He.ga X.K C) (some d)) (p:=a) (by rw[upd_ne (Ne.symm hda)];exact hna)
 refine hp (.exc C fl ds) G1 (.ref a) _ (f.trans ((Fra.newT hnd).trans (.newT (by rw[upd_ne (Ne.symm hda)];exact hna)))) g2 (.exc (dx:=some d) upd_same ⟨by rw[r.length];exact q.1,?_⟩ (r.mono st)) q.2
 rw[upd_ne hda,upd_same]
 rfl
end
end Av
namespace Av
variable [Tb]
section
variable {X:Cx} {pins:List (Addr × Obj)} {σ:L2.St} {H:Hp}
def gone(h:Heap)(a:Addr):Heap:=h.update a fun o=>{o with data:=.freed}
theorem pW(h:Heap)(a:Addr):(gone h a).get? a=none:=by
 unfold gone Heap.update Heap.get?
 simp only[Array.getElem?_modify]
 cases h.objs[a]? with
 |none=>simp
 |some o=>simp
theorem pV{h:Heap}{a b:Addr}(hb:b≠a):(gone h a).get? b=h.get? b:=Heap.get?_update_ne _ _ _ _ hb
theorem pG{A:Around}{E:Value→Shared→Prop}{P:PySem.Fin→Shared→Prop}{s:Shared}{a kS:Addr}{vs:List Value}{e1:Nat}{kz:List Int}{f:Value}(F:Hp→Prop)(I:Inv X pins σ H s)(hF:F H)(fk:FpOk X pins H kS)(fa:FpOk X pins H a)(hka:kS≠a)
  (nk:s.heap.get? kS=some (seqObj "list" #[] 0))(na:s.heap.get? a=some (seqObj "list" #[] e1))(hlen:kz.length=vs.length)(hZ:vs.length≤sizeLine)(hu:A.units<cLine)
  (turn:∀(i:Nat) (v:Value) (k:Int),vs[i]?=some v→kz[i]?=some k→∀pins' H' s',Inv X pins' σ H' s'→F H'→wpAny (model X.prog X.w) A (call f [v]) (fun r s2=>∃t H2,r = .int k t∧Inv X pins' σ H2 s2∧F H2) (fun _ _=>False) s')
  (h:∀s' H' out c,Inv X pins σ H' s'→F H'→H' a=none→s'.heap.get? a=some (seqObj "list" (List.toArray out) c)→PySem.W.KeyedOut false (kz.map PyData.int) vs out→P (.done (.ret .none)) s') :
  wpAny (model X.prog X.w) A (ksk_rest a f false vs.toArray e1 (.ref kS)) P E s:=by
 obtain⟨fk0,fk'⟩:=fk
 obtain⟨fa0,fa'⟩:=fa
 unfold ksk_rest
 refine wpAny_bind (wpAny_rule ?_)
 first
  |rw[List.forIn_toArray]
  |(rw[←Array.forIn_toList];simp only[List.toList_toArray])
  |rw[←Array.forIn_toList]
 refine wpAny_bind (ksk_fold (fun i s'=>∃kA e H',Inv X pins σ H' s'∧F H'∧H' kS=none∧H' a=none∧s'.heap.get? kS=some (seqObj "list" kA e)∧s'.heap.get? a=some (seqObj "list" #[] e1)∧PySem.W.EachIs (fun v k=>∃t,v=Value.int k t) kA.toList (kz.take i)) vs 0 s
  ⟨#[],0,H,I,hF,fk0,fa0,nk,na,by rw[List.take_zero];exact PySem.W.EachIs.nil⟩ ?step ?done)
 case step =>
  rintro j x s' hx ⟨kA,e,H',I',hF',fk1,fa1,nk',na',hk⟩
  simp only[Nat.zero_add]at hk ⊢
  have hj:j<vs.length:=(List.getElem?_eq_some_iff.mp hx).1
  obtain⟨k,hkj⟩:∃k,kz[j]?=some k:=⟨_,Me (by omega)⟩
  have hz:kA.size≤vs.length:=by
   have h1:=hk.length
   rw[Array.length_toList,Mt]at h1
   omega
  have IP:=I'.pinned (fp:=[kS,a]) (fun b hb=>by
   simp only[Ml,Mp,or_false]at hb
   rcases hb with rfl|rfl
   ·exact⟨fk1,fk'⟩
   ·exact⟨fa1,fa'⟩) fun b hb=>by
   simp only[Ml,Mp,or_false]at hb
   rcases hb with rfl|rfl
   ·exact⟨_,nk',fun v z=>by cases z⟩
   ·exact⟨_,na',fun v z=>by cases z⟩
  refine wpAny_bind (wpAny_attempt (wpAny_mono (turn j x k hx hkj _ _ _ IP hF') (fun v s'' he=>?_) fun _ _ hF=>hF.elim))
  obtain⟨t,H2,rfl,I2,hF2⟩:=he
  try dsimp only
  have p1:=I2.pin (kS,_) (List.mem_append_right _ (List.mem_append_right _ (mem_pinsAt (by simp) nk')))
  have p2:=I2.pin (a,_) (List.mem_append_right _ (List.mem_append_right _ (mem_pinsAt (by simp) na')))
  have nk2:s''.heap.get? kS=some (seqObj "list" kA e):=p1.1
  have na2:s''.heap.get? a=some (seqObj "list" #[] e1):=p2.1
  have fk2:H2 kS=none:=p1.2.1
  have fa2:H2 a=none:=p2.2.1
  have I3:=I2.unpinned
  have s1:=Heap.SameBut.update s''.heap kS (Obj.mapSeq (·.push (Value.int k t)))
  obtain⟨c2,hc2⟩:∃c2,(s''.heap.update kS (Obj.mapSeq (·.push (Value.int k t)))).get? kS=some (seqObj "list" (kA.push (Value.int k t)) c2):=⟨_,get?_update_seq nk2 (·.push (Value.int k t))⟩
  have ek:kz.take (j+1)=kz.take j++[k]:=by rw[List.take_add_one,hkj];simp
  have ea:(kA.push (Value.int k t)).toList=kA.toList++[Value.int k t]:=by simp
  refine wpAny_bind (listUpdate_at nk2 rfl ?_ (Nat.le_trans hz hZ) (Nat.le_trans (Nat.le_of_eq (Array.size_push ..)) (Nat.succ_le_succ (Nat.le_trans hz hZ))))
  obtain⟨f1,f2,f3,f4,f5⟩:=fk'
  refine wpAny_pure ⟨rfl,kA.push (Value.int k t),c2,H2,I3.turned (t':=s''.toks) (fun b o hb e=>(s1.2 b hb).trans e) fk2 f1 f3 f4 f5,hF2,fk2,fa2,hc2,(s1.2 a hka.symm).trans na2,?_⟩
  rw[ea,ek]
  exact PySem.W.each_snoc ⟨t,rfl⟩ hk
 case done =>
  rintro s' ⟨kA,e,H',I',hF',fk1,fa1,nk',na',hk⟩
  have e3:kz.take (0+vs.length)=kz:=List.take_of_length_le (by omega)
  rw[e3]at hk
  have hk':PySem.W.EachIs (fun v k=>∃as,PySem.Reads s'.heap v k as) kA.toList (kz.map PyData.int):=by
   have:∀(l:List Value) (ks:List Int),PySem.W.EachIs (fun v k=>∃t,v=Value.int k t) l ks→PySem.W.EachIs (fun v k=>∃as,PySem.Reads s'.heap v k as) l (ks.map PyData.int):=by
    intro l ks hh
    induction hh with
    |nil=>exact PySem.W.EachIs.nil
    |cons h1 _ ih =>
     obtain⟨t,rfl⟩:=h1
     exact PySem.W.EachIs.cons ⟨[],PySem.Reads.int _ t⟩ ih
   exact this _ _ hk
  have hsz:kA.size=vs.length:=by
   have h1:=hk'.length
   rw[Array.length_toList,M5]at h1
   omega
  have hal:PySem.W.AllAlike (kz.map PyData.int):=PySem.W.AllAlike.of fun _ _=>by simp[PySem.W.alike]
  have hsk:PySem.W.Sortable (kz.map PyData.int):=PySem.W.Sortable.others fun _=>⟨by simp,by simp⟩
  try dsimp only
  refine wpAny_bind (listItems_at nk' rfl ?_)
  refine PySem.W.keyH_end (κ:=PySem.W.dataKind s'.heap (kz.map PyData.int)) (h₁:=gone s'.heap kS) (fun b o hb e=>?_) (pW _ _) nk' na' hka (PySem.W.SortsAt.data (s:=s') hk' hal hsk fun d hd=>?_) hsz hZ fun h3 tk3 c k3 n3=>?_
  ·by_cases hbk:b=kS
   ·rw[hbk,pW]at e;cases e
   ·rw[pV hbk]at e;exact e
  ·obtain⟨n,_,rfl⟩:=List.mem_map.mp hd
   simpa [PyData.depth]using hu
  ·obtain⟨f1,f2,f3,f4,f5⟩:=fk'
   obtain⟨g1,g2,g3,g4,g5⟩:=fa'
   have I4:Inv X pins σ H' {s' with heap:=gone s'.heap kS}:=I'.turned (t':=s'.toks) (fun b o hb e=>(pV hb).trans e) fk1 f1 f3 f4 f5
   have I5:Inv X pins σ H' {s' with heap:=h3,toks:=tk3}:=I4.turned (t':=tk3) (fun b o hb e=>k3 b o hb e) fa1 g1 g3 g4 g5
   exact h _ H' _ c I5 hF' fa1 n3 ⟨s'.heap,kA.toList,hal,rfl,hk'⟩
end
section
variable {X:Cx} {W:WX} {Γ:Gam} {k:Nat}
theorem sF(oc:Oc X W Γ k){z:Bool}{d f:Dat}{G:AG}{Qa:AQ}{Q:VK}{pins:List (Addr × Obj)}{σ:L2.St}{H:Hp}{s:Shared}{x y:V}{u v:Value}(I:Inv X pins σ H s)(rg:RelG X.K G H)(rx:Rep X.K H x d)(ry:Rep X.K H y f)(ru:RelV x u)(rv:RelV y v)
  (h:iB Γ z d f G Qa)(hp:PostZ X.K G H Qa Q):wpAny (model X.prog X.w) X.A (call (.builtin "sorted") [u] [(Str.ofString "key",v)]) (EP X pins σ Q) X.xe s:=by
 obtain⟨ds,ks,q,cl,L,h1,rfl,h3,h4,h5,h6⟩:=h
 obtain⟨a,xs,rfl,k1,k2⟩:=am rg rx h1
 cases ru
 obtain⟨fn,rfl⟩:∃b,y = .ref b:=by cases ry;exact⟨_,rfl⟩
 cases rv
 obtain⟨its,rvs,hl,hz⟩:=I.list (.inl k1)
 obtain⟨j0,hj0,lo⟩:=oc.tb.lam q L h3
 have rm:=D5 (oc.room.mono hj0)
 have hlx:xs.length=ds.length:=k2.length
 have hzi:its.length≤sizeLine:=by rw[←rvs.length];exact hz
 have hki:ks.length=its.length:=by rw[h4,←hlx,rvs.length]
 refine PySem.W.sorted_of_sort hl.isList hzi (ksk_s1 _ _) (fun _=>ksk_l1 _ _) fun E'=>?_
 rw[ksk_t1]
 have ho:=PySem.W.copyHeap_at s.heap its
 generalize hH1:PySem.W.copyHeap s.heap its=h1 at ho ⊢
 have old:∀b o,s.heap.get? b=some o→h1.get? b=some o:=fun b o e=>by rw[←hH1];exact PySem.W.copyHeap_old e
 have ha1:s.heap.objs.size+1<h1.objs.size:=Heap.lt_size ho
 generalize haa:s.heap.objs.size+1=aa at ho ha1 ⊢
 have hle:s.heap.objs.size≤aa:=by omega
 obtain⟨e1,ho1⟩:∃e1,(h1.update aa (Obj.mapSeq fun _=>(#[]:Array Value))).get? aa=some (seqObj "list" #[] e1):=⟨_,get?_update_seq ho fun _=>#[]⟩
 have hkS:((h1.update aa (Obj.mapSeq fun _=>(#[]:Array Value))).push (seqObj "tuple" its.toArray 0)).objs.size=h1.objs.size+1:=by rw[size_push',Heap.size_update]
 have kle:s.heap.objs.size≤h1.objs.size+1:=Nat.le_succ_of_le (Nat.le_trans hle (Nat.le_of_lt ha1))
 unfold ksk_tree
 refine wpAny_bind (listItems_at ho rfl ?_)
 refine wpAny_bind (listUpdate_at ho rfl ?_ (by rw[List.size_toArray];exact hzi) (Nat.zero_le _))
 refine wpAny_bind (seqEpoch_at ho1 rfl ?_)
 refine wpAny_bind (wpAny_newTuple ?_ (by show its.length≤_;exact hzi))
 refine wpAny_bind (wpAny_newList ?_ (Nat.zero_le _))
 refine wpAny_holding ?_
 have old2:∀b o,s.heap.get? b=some o→(((h1.update aa (Obj.mapSeq fun _=>(#[]:Array Value))).push (seqObj "tuple" its.toArray 0)).push (seqObj "list" #[] 0)).get? b=some o:=fun b o e=>by
  have hb:b≠aa:=fun z=>by rw[z]at e;exact absurd (Nat.lt_of_lt_of_le (Heap.lt_size e) hle) (Nat.lt_irrefl _)
  refine Heap.get?_push_of_some _ (Heap.get?_push_of_some _ ?_)
  rw[Heap.get?_update_ne _ _ _ _ hb]
  exact old b o e
 have I1:=I.kept (t':=s.toks) old2
 have fa:=I.fpOk (H':=H) hle (I.hok.fresh hle)
 refine pG (X:=X) (pins:=pins) (σ:=σ) (H:=H) (kz:=ks) (kS:=((h1.update aa (Obj.mapSeq fun _=>(#[]:Array Value))).push (seqObj "tuple" its.toArray 0)).objs.size) (fun H2=>Fra G H G H2∧RelG X.K G H2) I1 ⟨.refl,rg⟩
  (I.fpOk (by rw[hkS];exact kle) (I.hok.fresh (by rw[hkS];exact kle))) fa (by rw[hkS];exact Nat.ne_of_gt (Nat.lt_succ_of_lt ha1)) (Heap.get?_push_size _ rfl) (Heap.get?_push_of_some _ (Heap.get?_push_of_some _ ho1)) hki hzi rm.units0
  (fun i v n hv hn pins' H' s' I' ⟨f',g'⟩=>?_) fun s' H' out c I' ⟨f',g'⟩ na hD ko=>⟨rfl,?_⟩
 ·
  have hi:i<its.length:=(List.getElem?_eq_some_iff.mp hv).1
  have hix:i<xs.length:=by rw[rvs.length];exact hi
  obtain⟨v',hv',rxv⟩:=rvs.get (Me hix)
  rw[hv]at hv'
  cases hv'
  have hid:i<ds.length:=by omega
  have re:Rep X.K H xs[i] ds[i]:=by
   obtain⟨x',e1,e2⟩:=k2.get (Me hid)
   rw[Me hix]at e1
   cases e1
   exact e2
  have st:=f'.stab rg
  refine wpAny_call (codeAny_mono (lo fn cl X.A.in1.in1 X.stack s' H' [v] [xs[i]] (fun v H2=>v = .int n∧Fra G H G H2∧RelG X.K G H2) (fun _ _ _=>False) rm I'.env0.in1.in1 (.cons rxv .nil) ⟨[ds[i]],G,_,noX,ry.mono st,.one (re.mono st),g',h5 i _ n (Me hid) hn,fun d' G' v2 H2 f2 g2 r2 ⟨q1,q2⟩=>?_,cX⟩) fun r s2 hq=>?_)
  ·subst q1 q2
   exact⟨aB r2,f'.trans f2,g2⟩
  ·cases r with
   |error e=>obtain⟨_,_,_,_,_,_,_,_,_,_,_,_,w⟩:=hq;exact w
   |ok fl =>
    cases fl with
    |ret u =>
     obtain⟨v2,H2,I2,r2,rfl,f2,g2⟩:=I'.after hq
     obtain⟨t,rfl⟩:=r2
     exact⟨t,H2,rfl,I2,f2,g2⟩
    |next=>exact hq
    |brk=>exact hq
    |cont=>exact hq
 ·
  have he:PySem.W.EachIs (fun v (p:Dat × Int)=>∃x,RelV x v∧Rep X.K H x p.1) its (ds.zip ks):=by
   have:∀(its:List Value) (xs:List V) (ds:List Dat) (ks:List Int),Vals xs its→Reps X.K H xs ds→ks.length=ds.length→PySem.W.EachIs (fun v (p:Dat × Int)=>∃x,RelV x v∧Rep X.K H x p.1) its (ds.zip ks):=by
    intro its
    induction its with
    |nil=>intro xs ds ks a b c;cases a;cases b;exact .nil
    |cons v its ih =>
     intro xs ds ks a b c
     cases a with
     |cons a1 a2 =>
      cases b with
      |cons b1 b2 =>
       cases ks with
       |nil=>simp at c
       |cons n ks=>exact .cons ⟨_,a1,b1⟩ (ih _ _ _ a2 b2 (by simpa using c))
   exact this its xs ds ks rvs k2 h4
  have ek:ks.map PyData.int=(ds.zip ks).map fun p=>PyData.int p.2:=by
   have e:ks=(ds.zip ks).map Prod.snd:=(List.map_snd_zip (by omega)).symm
   conv=>lhs;rw[e]
   rw[List.map_map]
   rfl
  rw[ek]at ko
  have eo:=PySem.W.keyedOut_each (fun p:Dat × Int=>PyData.int p.2) ko he
  rw[PySem.W.dataLe_int (β:=Dat × Int) (fun p=>p.2)]at eo
  obtain⟨ys,hv,hr⟩:∃ys,Vals ys out∧Reps X.K H ys (kI ks ds):=by
   have:∀(out:List Value) (l:List (Dat × Int)),PySem.W.EachIs (fun v (p:Dat × Int)=>∃x,RelV x v∧Rep X.K H x p.1) out l→∃ys,Vals ys out∧Reps X.K H ys (l.map (·.1)):=by
    intro out l hh
    induction hh with
    |nil=>exact⟨[],.nil,.nil⟩
    |cons h1 _ ih =>
     obtain⟨x,z1,z2⟩:=h1
     obtain⟨ys,z3,z4⟩:=ih
     exact⟨x :: ys,.cons z1 z3,.cons z2 z4⟩
   exact this _ _ eo
  have hlen:ys.length≤sizeLine:=by
   rw[hr.length]
   exact iO h6
  have na':H' aa=none:=na
  have ne:∀{b u},H' b=some u→b≠aa:=fun e z=>by rw[z,na']at e;cases e
  have un:Un (frs X.stack) [aa] H' (upd H' aa (.lst ys)) s'.heap s'.heap:=by
   refine⟨fun _ _ q _ _ _=>q,fun b ob q _ _ _=>⟨ob.slots,q⟩,fun b ob q n hb=>by rw[upd_ne (by simpa using hb)];exact n,fun b ob q _=>⟨ob,q⟩,fun b xs q=>by rw[upd_ne (ne q)];exact q,
    fun b ob w q=>by rw[upd_ne (ne q)];exact q,fun b ps q=>⟨#[],by rw[upd_ne (ne q),q];simp⟩⟩
  have hok:HOk X.prog X.w (upd H' aa (.lst ys)) s'.heap:=fun b w q=>by
   by_cases hb:b=aa
   ·subst hb
    rw[upd_same]at q
    cases q
    exact⟨hlen,out,c,hv,hD⟩
   ·rw[upd_ne hb]at q
    exact (I'.hok b w q).stay (fun _ _ _ z=>z) (fun c z=>by rw[upd_ne (ne z)];exact z) fun c xs z=>by rw[upd_ne (ne z)];exact z
  obtain⟨g0,g1,g2,g3,g4,g5⟩:=fa
  have I2:=I'.call' (s':=s') (ch:=[aa]) rfl un hok I'.bare (fun b hb=>by
   have e:b=aa:=by simpa using hb
   subst e
   exact⟨g3,g1,g4,g5⟩)
  exact⟨.ref aa,_,I2,rfl,aA g' (hr.mono (f'.stab rg)) h6 (hp.fra f') aa na'⟩
theorem Ai(oc:Oc X W Γ k){a b:Expr}{p pos kpos:Pos}{z:Bool}{w1 w2:WfE}(hg:Gl X "sorted")(na:af a=true)(h1:PE X a (LfE X.K W w1))(h2:PE X b (LfE X.K W w2)) :
  PE X (.Call (.Name "sorted" p) [a] [⟨some "key",b,kpos⟩] pos) (LfE X.K W fun ρ G Q E=>w1 ρ G (fun d G1=>w2 ρ G1 (fun f G2=>iB Γ z d f G2 Q) E) E):=by
 refine PE.imp (fu (pe_callBK (id := "sorted") (ks:=["key"]) (r:=fun vs zs H Q=>∃x y d f G Qa,vs=[x]∧zs=[y]∧RelG X.K G H∧Rep X.K H x d∧Rep X.K H y f∧iB Γ z d f G Qa∧PostZ X.K G H Qa Q) ?_ hg (oc.tb.blt .srt) (cj .srt) (jI (ax na) h1 nX) (nO h2 vR) (he:=?_) (hpl:=?_))) ?_
 ·rintro pins s σ H xs zs us ws Q I r1 r2 ⟨x,y,d,f,G,Qa,rfl,rfl,g,rx,ry,hw,hp⟩
  obtain⟨u,rfl,ru⟩:=vals1 r1
  obtain⟨v,rfl,rv⟩:=vals1 r2
  exact sF oc I g rx ry ru rv hw hp
 ·rw[ax na];rfl
 ·rw[ax na];rfl
 ·rintro σ H Q ⟨ρ,G,Qa,Ea,hE,hG,hw,hp,hx⟩
  refine⟨ρ,G,fun ds1 G1=>match ds1 with
   |[d]=>w2 ρ G1 (fun f G2=>iB Γ z d f G2 Qa) Ea
   |_=>False,Ea,hE,hG,hw,fun ds1 G1 vs H1 f1 g1 r1 q1=>?_,hx⟩
  match ds1,q1 with
  |[d],q1 =>
   obtain⟨x,rfl,rx⟩:=aR r1
   refine⟨ρ,G1,fun ds2 G2=>match ds2 with
    |[f]=>iB Γ z d f G2 Qa
    |_=>False,Ea,hE.mono (f1.stab hG),g1,q1,fun ds2 G2 us H2 f2 g2 r2 q2=>?_,hx.fra f1⟩
   match ds2,q2 with
   |[f],q2 =>
    obtain⟨y,rfl,ry⟩:=aR r2
    exact⟨x,y,d,f,G2,Qa,rfl,rfl,g2,rx.mono (f2.stab g1),ry,q2,bH fun d' G' v' H' f3=>hp d' G' v' H' ((f1.trans f2).trans f3)⟩
end
end Av
namespace Av
variable [Tb]
section
variable {K:M0} {G G1:AG} {H H1:Hp} {D:Addr}
theorem RelG.updK{xs ys:List (Key × V)}(g:RelG K G H)(n:G D=none)(h:H D=some (.dK xs)):RelG K G (upd H D (.dK ys)):=⟨fun a w q=>by
 have d:a≠D:=fun z=>by rw[z,n]at q;cases q
 exact (g.g a w q).mono (.mut h Soft.dK) (upd_ne d),bo g.t h Soft.dK⟩
theorem Fra.updK{o1 o2:HO}(f:Fra G1 H1 G H)(e:H1 D=none):Fra G1 H1 G (upd H D o2):=fun a o q t n=>by
 have d:a≠D:=fun z=>by rw[z,e]at q;cases q
 obtain⟨h1,h2⟩:=f a o q t n
 exact⟨by rw[upd_ne d];exact h1,h2⟩
end
def dcG(wi:WfI)(wt:WfT)(wk wv:WfE)(g:TGt)(own:List Nat):WfE:=fun ρ G Q E=>wi ρ G (fun ds gd G1=>jh (fun ρ1 G Q=>wt ρ1 G Q noX) (fun ρ1 G Q=>wk ρ1 G Q noX) (fun ρ1 G Q=>wv ρ1 G Q noX) g own gd ρ Q ds [] G1) E
section
variable {X:Cx} {W:WX} {Γ:Gam} {k:Nat} {own:List (Str × Nat)} {g:TGt} {wi:WfI} {wt:WfT} {wk wv:WfE} {tt:TT}
theorem FG(hix:∀i∈mP g,i∈own.map (·.2))(σ:L2.St)(H:Hp)(Q:VK)
  (htt:∀(σ:L2.St) (H:Hp) (Q:Bool→Hp→Prop) ρ G Qa,RelE X.K H ρ σ→RelG X.K G H→wt ρ G Qa noX→(∀b G' H',Fra G H G' H'→RelG X.K G' H'→Qa b G'→Q b H')→tt σ H Q)
  (h:LfE X.K W (dcG wi wt wk wv g (own.map (·.2))) σ H Q):tDc (LfI X.K W wi) (LfG X.K g) tt (LfE X.K WF wk) (LfE X.K WF wv) (own.map (·.2)) σ H Q:=by
 obtain⟨ρ,G,Qa,Ea,hE,hG,hw,hp,hx⟩:=h
 refine⟨ρ,G,_,Ea,hE,hG,hw,fun ds gd G1 J H1 f1 g1 gk1 it q1 D hD=>?_,hx⟩
 have nD1:G1 D=none:=g1.free hD
 refine⟨fun i m H2=>m=ds.length - i∧i≤ds.length∧∃G2 acc accV,RelG X.K G2 H2∧G2 D=none∧H2 D=some (.dK accV)∧KRel X.K H2 accV acc∧Fra G1 H1 G2 H2∧jh (fun ρ1 G Q=>wt ρ1 G Q noX) (fun ρ1 G Q=>wk ρ1 G Q noX) (fun ρ1 G Q=>wv ρ1 G Q noX) g (own.map (·.2)) gd ρ Qa (ds.drop i) acc G2,
  ⟨ds.length,by simp,Nat.zero_le _,G1,[],[],g1.newT hD,nD1,upd_same,.nil,.newT hD,q1⟩,?_⟩
 rintro i m H2 ⟨rfl,hi,G2,acc,accV,g2,n2,h2,r2,f2,w2⟩
 have st2:Stab H1 H2:=f2.stab g1
 by_cases hlt:i<ds.length
 ·rw[List.drop_eq_getElem_cons hlt]at w2
  obtain⟨gk,w2⟩:=w2
  refine .inr ⟨it.go i H2 G2 st2 g2 gk hlt,fun H'=>∃G3 acc accV,RelG X.K G3 H'∧G3 D=none∧H' D=some (.dK accV)∧KRel X.K H' accV acc∧Fra G1 H1 G3 H'∧jh (fun ρ1 G Q=>wt ρ1 G Q noX) (fun ρ1 G Q=>wk ρ1 G Q noX) (fun ρ1 G Q=>wv ρ1 G Q noX) g (own.map (·.2)) gd ρ Qa (ds.drop (i+1)) acc G3,
   fun H' q=>⟨ds.length - (i+1),by omega,rfl,hlt,q⟩,fun x H3 hy=>?_⟩
  obtain⟨d,hd,f3,g3,rx⟩:=it.yld i H2 G2 x H3 st2 g2 gk hlt hy
  rw[Me hlt]at hd
  cases hd
  have f13:=f2.trans f3
  refine⟨bj ρ (own.map (·.2)),G2,_,_,(hE.mono ((f1.trans f13).stab hG)).wipe _,g3,rx,w2,fun ρ1 σ1 e1 hwp w3=>⟨(hwp _ hix).trans ip,?_⟩⟩
  obtain⟨h3,n3⟩:=f3 D _ h2 (fun _ z=>by cases z) n2
  have r3:=KRel.mono (f3.stab g2) r2
  refine htt σ1 H3 _ ρ1 G2 _ e1 g3 w3 fun b G4 H4 f4 g4 w4=>?_
  obtain⟨h4,n4⟩:=f4 D _ h3 (fun _ z=>by cases z) n3
  cases b with
  |false =>
   rw[if_neg (by simp)]at w4 ⊢
   exact⟨G4,acc,accV,g4,n4,h4,KRel.mono (f4.stab g3) r3,f13.trans f4,w4⟩
  |true =>
   rw[if_pos rfl]at w4 ⊢
   refine⟨ρ1,G4,_,noX,e1.mono (f4.stab g3),g4,w4,fun y G5 v H5 f5 g5 r5 w5=>?_,cX⟩
   obtain⟨h5,n5⟩:=f5 D _ h4 (fun _ z=>by cases z) n4
   refine⟨ρ1,G5,_,noX,(e1.mono (f4.stab g3)).mono (f5.stab g4),g5,w5,fun y2 G6 v2 H6 f6 g6 r6 w6=>?_,cX⟩
   obtain⟨hz,x,hk,w7⟩:=w6
   obtain⟨h6,n6⟩:=f6 D _ h5 (fun _ z=>by cases z) n5
   have r4:=KRel.mono (f6.stab g5) (KRel.mono (f5.stab g4) (KRel.mono (f4.stab g3) r3))
   have ek:v=kV x:=bC r5 hk
   refine⟨accV,x,ek,h6,by rw[cG r4];exact hz,G6,bG acc x y2,putK accV x v2,g6.updK n6 h6,n6,upd_same,KRel.mono (.mut h6 Soft.dK) (pJ r6 r4),Fra.updK (o1:=.dK accV) (((f13.trans f4).trans f5).trans f6) hD,w7⟩
 ·have e:i=ds.length:=by omega
  subst e
  rw[List.drop_length]at w2
  obtain⟨gk,w2⟩:=w2
  refine .inl ⟨it.stop _ H2 G2 st2 g2 gk (M7 _),?_⟩
  refine hp (.ref D) (gu G2 D (.dk acc)) (.ref D) H2 (fun a o q t n=>?_) ⟨fun a o q=>?_,g2.t⟩ (.ref D) (w2 D n2)
  ·obtain⟨h6,n6⟩:=f1 a o q t n
   obtain⟨h7,n7⟩:=f2 a o h6 t n6
   have d:a≠D:=fun z=>by rw[z,hD]at h6;cases h6
   exact⟨h7,by rw[aC d];exact n7⟩
  ·by_cases ha:a=D
   ·subst ha
    rw[ak]at q
    cases q
    exact⟨accV,h2,r2⟩
   ·rw[aC ha]at q
    exact g2.g a o q
variable {kx vx tg iter:Expr} {ifs:List Expr} {scope:Scope} {pos:Pos}
theorem DY(oc:Oc X W Γ k)(hi:PI X tg iter (LfI X.K W wi))(ok:BlkOk X.N X.env.scope scope own)(hix:∀i∈mP g,i∈own.map (·.2))
  (hg:∀(s:Shared) (H:Hp) (C:Addr) (cl:List (Str × Addr)) (fp:List Addr),PG (X.blk s H scope (compEnvC scope cl C X.env) fp) tg (LfG X.K g))
  (ht:∀(s:Shared) (H:Hp) (C:Addr) (cl:List (Str × Addr)) (fp:List Addr),PTs (X.blk s H scope (compEnvC scope cl C X.env) fp) ifs tt)
  (hk:∀(s:Shared) (H:Hp) (C:Addr) (cl:List (Str × Addr)) (fp:List Addr),PE (X.blk s H scope (compEnvC scope cl C X.env) fp) kx (LfE X.K WF wk))
  (he:∀(s:Shared) (H:Hp) (C:Addr) (cl:List (Str × Addr)) (fp:List Addr),PE (X.blk s H scope (compEnvC scope cl C X.env) fp) vx (LfE X.K WF wv))(hs:∀x,foldedSetIterable iter X.env x=pure x)
  (htt:∀(σ:L2.St) (H:Hp) (Q:Bool→Hp→Prop) ρ G Qa,RelE X.K H ρ σ→RelG X.K G H→wt ρ G Qa noX→(∀b G' H',Fra G H G' H'→RelG X.K G' H'→Qa b G'→Q b H')→tt σ H Q) :
  PE X (.DictComp kx vx [⟨tg,iter,ifs,0⟩] scope pos) (LfE X.K W (dcG wi wt wk wv g (own.map (·.2)))) :=
 PE.imp (pe_dc oc.calm oc.nd hi ok hg ht hk he hs) fun σ H Q h=>FG hix σ H Q htt h
end
end Av
namespace Av
open PySem PySem.Calls PySem.Spec PyProof.Rows PyProof.V
section
variable {prog:Program} {w:World} {A:Around} {E:Value→Shared→Prop} {s:Shared} {e it:Addr} {fp:List Addr} {n:Nat} {P:Nat→Value→Prop} {St:Nat→Heap→Prop}
theorem B1{T:Addr}{i:Nat}{c:Int}{old:Value}{f:Bool}{oT:Obj}{Q:Value→Shared→Prop}(D:Draws prog w A it fp n P St)(he:IsEnumHeld s.heap e it c old T f)(hT:s.heap.get? T=some oT)(hTe:T≠e)(hTi:T≠it)(hst:St i s.heap)(hlt:i<n)(hne:e≠it)(hef:e ∉ fp)
  (hQ:∀x h' tk,P i x→IsEnumHeld h' e it (c+1) old T true→St (i+1) h'→h'.get? s.heap.objs.size=some {cls:=.type "tuple",data:=.seq #[.int c tk,x]}→h'.objs.size=s.heap.objs.size+1→
   (∀b o,b≠e→b≠it→s.heap.get? b=some o→h'.get? b=some o)→Q (.ref s.heap.objs.size) {s with heap:=h',toks:=tk+1}) :
  wpAny (model prog w) A (Builtin.«enumerate.__next__» ⟨[.ref e],[]⟩) (fun fin s'=>∃v,fin = .done (.ret v)∧Q v s') E s:=by
 obtain⟨hp,g,d,tk₀,os⟩:=s
 show wpAny _ _ (field (.ref e) 2 >>=_) _ _ _
 refine wpAny_bind (wpAny_field he rfl (x:=.ref it) rfl ?_)
 refine wpAny_bind (D.item i _ _ _ hlt hst fun x h₁ tk hPx hit₁ hs₁=>?_)
 replace hs₁:Heap.SameBut it hp h₁:=hs₁
 have he₁:IsEnumHeld h₁ e it c old T f:=(hs₁.2 e hne).trans he
 show wpAny _ _ (field (.ref e) 3 >>=_) _ _ ⟨h₁,g,d,tk,os⟩
 refine wpAny_bind (wpAny_field he₁ rfl (x:=rawInt c) rfl ?_)
 show wpAny _ _ (field (.ref e) 4 >>=_) _ _ ⟨h₁,g,d,tk,os⟩
 refine wpAny_bind (wpAny_field he₁ rfl (x:=.none) rfl ?_)
 show wpAny _ _ (mkInt c >>=_) _ _ ⟨h₁,g,d,tk,os⟩
 refine wpAny_bind (wpAny_mkInt ?_)
 show wpAny _ _ (setField (.ref e) 3 (rawInt (c+1)) >>=_) _ _ ⟨h₁,g,d,tk+1,os⟩
 refine wpAny_bind (wpAny_setField_rec he₁ (by simp) fun h₂ he₂ hs₂=>?_)
 replace hs₂:Heap.SameBut e h₁ h₂:=hs₂
 replace he₂:IsEnumHeld h₂ e it (c+1) old T f:=he₂
 show wpAny _ _ (setField (.ref e) 4 .none >>=_) _ _ ⟨h₂,g,d,tk+1,os⟩
 refine wpAny_bind (wpAny_setField_rec he₂ (by simp) fun h₃ he₃ hs₃=>?_)
 replace hs₃:Heap.SameBut e h₂ h₃:=hs₃
 replace he₃:IsEnumHeld h₃ e it (c+1) old T f:=he₃
 show wpAny _ _ (newTuple [.int c tk,x] >>=_) _ _ ⟨h₃,g,d,tk+1,os⟩
 refine wpAny_bind (wpAny_newTuple ?_)
 have he₄:IsEnumHeld (h₃.push {cls:=.type "tuple",data:=.seq #[.int c tk,x]}) e it (c+1) old T f:=Heap.get?_push_of_some _ he₃
 generalize hh₄:h₃.push {cls:=.type "tuple",data:=.seq #[.int c tk,x]}=h₄ at he₄
 have hsz:h₃.objs.size=hp.objs.size:=by rw[hs₃.1,hs₂.1,hs₁.1]
 have hel:e<hp.objs.size:=Heap.lt_size he
 have ht₄:h₄.get? hp.objs.size=some {cls:=.type "tuple",data:=.seq #[.int c tk,x]}:=by rw[←hh₄,←hsz];exact Heap.get?_push_size _ rfl
 have hz₄:h₄.objs.size=hp.objs.size+1:=by rw[←hh₄,Heap.size_push,hsz]
 have hk₄:∀b o,b≠e→b≠it→hp.get? b=some o→h₄.get? b=some o:=fun b o hbe hbi hb=>by
  rw[←hh₄];exact Heap.get?_push_of_some _ (hs₃.extBut b o hbe (hs₂.extBut b o hbe (hs₁.extBut b o hbi hb)))
 have hit₄:St (i+1) h₄:=D.frame _ _ _ hit₁ fun b hb o y=>by
  have hbe:b≠e:=fun q=>hef (q ▸ hb)
  rw[←hh₄];exact Heap.get?_push_of_some _ (hs₃.extBut b o hbe (hs₂.extBut b o hbe y))
 show wpAny _ _ (Builtin.SmallTypes.ownedTupleIsFree (.ref e) >>=_) _ _ ⟨h₄,g,d,tk+1,os⟩
 rw[hsz]
 clear hh₄ he₃ hs₃ he₂ hs₂ he₁ hs₁ hit₁ hsz h₃ h₂ h₁
 refine wpAny_bind (wpAny_tupleHeld_enum (s:=⟨h₄,g,d,tk+1,os⟩) he₄ (hk₄ T oT hTe hTi hT) fun h₅ he₅ hs₅=>?_)
 replace hs₅:Heap.SameBut e h₄ h₅:=hs₅
 simp only[M6,if_false]
 refine wpAny_pure ⟨_,rfl,hQ x h₅ tk hPx he₅ (D.frame _ _ _ hit₄ fun b hb o y=>hs₅.extBut b o (fun q=>hef (q ▸ hb)) y) (hs₅.extBut _ _ (Nat.ne_of_gt hel) ht₄) ?_ fun b o hbe hbi hb=>hs₅.extBut b o hbe (hk₄ b o hbe hbi hb)⟩
 show h₅.objs.size=hp.objs.size+1
 rw[hs₅.1,hz₄]
def EnSt(h:Heap)(e it S:Addr)(c:Int):Prop:=(∃old,IsEnum h e it c old)∨∃old T f oT,IsEnumHeld h e it c old T f∧h.get? T=some oT∧T≠e∧T≠it∧T≠S
theorem B3{S:Addr}{i:Nat}{c:Int}{Q:Option Value→Shared→Prop}(D:Draws prog w A.in1 it fp n P St)(he:EnSt s.heap e it S c)(hS:S<s.heap.objs.size)(hit:it<s.heap.objs.size)(hst:St i s.heap)(hlt:i<n)(hne:e≠it)(hef:e ∉ fp)
  (hQ:∀x h' tk,P i x→EnSt h' e it S (c+1)→St (i+1) h'→h'.get? s.heap.objs.size=some {cls:=.type "tuple",data:=.seq #[.int c tk,x]}→h'.objs.size=s.heap.objs.size+1→
   (∀b o,b≠e→b≠it→s.heap.get? b=some o→h'.get? b=some o)→Q (some (.ref s.heap.objs.size)) {s with heap:=h',toks:=tk+1}) :
  wpAny (model prog w) A (pyNext (.ref e)) Q E s:=by
 rcases he with⟨old,he⟩|⟨old,T,f,oT,he,hT,h1,h2,h3⟩
 ·have hel:e<s.heap.objs.size:=Heap.lt_size he
  exact wpAny_pyNext_enum_itemC D he hst hlt hne hef fun x h' tk a b c' d k q=>hQ x h' tk a (.inr ⟨_,_,false,_,b,d,Nat.ne_of_gt hel,Nat.ne_of_gt hit,Nat.ne_of_gt hS⟩) c' d k q
 ·have hTy:s.TypeIs (.ref e) "enumerate" := ⟨_,he,rfl⟩
  unfold pyNext
  exact wpAny_bind (wpAny_attempt (wpAny_callSpecial?_slot (name:=Str.ofString "__next__") hTy F.slot_enumerate_next
   (wpAny_call_entry F.slot_enumerate_next hTy F.entry_enumerate_next
    (B1 D he hT h1 h2 hst hlt hne hef fun x h' tk a b c' d k q=>wpAny_pure (hQ x h' tk a (.inr ⟨_,_,true,oT,b,q T oT h1 h2 hT,h1,h2,h3⟩) c' d k q)) (F.args_enumerate_next_1 _))))
theorem EnSt.ty{h:Heap}{S:Addr}{c:Int}(he:EnSt h e it S c):∃fs,h.get? e=some {cls:=.type "enumerate",dict:=none,data:=.fields fs,slots:=#[]}∧fs[2]?=some (.ref it):=by
 rcases he with⟨old,he⟩|⟨old,T,f,oT,he,_⟩
 ·exact⟨_,he,rfl⟩
 ·exact⟨_,he,rfl⟩
theorem EnSt.keep{h h':Heap}{S:Addr}{c:Int}(he:EnSt h e it S c)(k:∀b o,b≠S→h.get? b=some o→h'.get? b=some o)(hS:e≠S):EnSt h' e it S c:=by
 rcases he with⟨old,he⟩|⟨old,T,f,oT,he,hT,h1,h2,h3⟩
 ·exact .inl ⟨old,k _ _ hS he⟩
 ·exact .inr ⟨old,T,f,oT,k _ _ hS he,k _ _ h3 hT,h1,h2,h3⟩
theorem B5{S:Addr}{c:Int}{Q:Option Value→Shared→Prop}(D:Draws prog w A.in1 it fp n P St)(he:EnSt s.heap e it S c)(hst:St n s.heap)(hQ:∀h',Heap.ExtBut it s.heap h'→Q none {s with heap:=h'}):wpAny (model prog w) A (pyNext (.ref e)) Q E s:=by
 obtain⟨fs,he,hf⟩:=he.ty
 have hTy:s.TypeIs (.ref e) "enumerate" := ⟨_,he,rfl⟩
 unfold pyNext
 refine wpAny_bind (wpAny_attempt (wpAny_callSpecial?_slot (name:=Str.ofString "__next__") hTy F.slot_enumerate_next
  (wpAny_call_entry F.slot_enumerate_next hTy F.entry_enumerate_next ?_ (F.args_enumerate_next_1 _))))
 show wpAny _ _ (field (.ref e) 2 >>=_) _ _ _
 refine wpAny_bind (wpAny_field he rfl (x:=.ref it) hf ?_)
 refine wpAny_bind (D.done _ _ _ hst fun h' x he' hx'=>?_)
 obtain⟨o,ho,hc⟩:=hx'
 refine wpAny_bind (wpAny_isInstance (T := "StopIteration") (b:=true) ⟨o,ho,hc⟩ isSubtype_stop ?_)
 exact wpAny_pure (hQ _ he')
structure Go(P:Nat→Value→Prop)(lo:Addr)(h:Heap)(as:List Addr):Prop where
 above:∀a∈as,lo≤a
 pairs:∀(j:Nat) (a:Addr),as[j]?=some a→∃x t,P j x∧h.get? a=some {cls:=.type "tuple",data:=.seq #[.int j t,x]}
theorem B2{R:Result→Shared→Prop}{S lo:Addr}(hh:A.handled=none)(D:Draws prog w A.in1.in1 it fp n P St)(hS:S<lo)(hel:e<lo)(hil:it<lo)(hSe:S≠e)(hSi:S≠it)(hSf:S ∉ fp)(hne:e≠it)(hef:e ∉ fp)(hn:n≤sizeLine)(res:Value){h₁:Heap}
  (hR:∀h' tk acc c as,(∀b o,b≠S→b≠e→b≠it→h₁.get? b=some o→h'.get? b=some o)→h'.get? S=some {cls:=.type "list",dict:=none,data:=.seq acc c,slots:=#[]}→as.length=n→Go P lo h' as→acc.toList=as.map Value.ref→R (.ok (.ret res)) {s with heap:=h',toks:=tk}) :
  ∀(k i:Nat) (h:Heap) (tk c:Nat) (acc:Array Value) (as:List Addr),n - i=k→i≤n→EnSt h e it S (i:Nat)→St i h→(∀b o,b≠S→b≠e→b≠it→h₁.get? b=some o→h.get? b=some o)→
   h.get? S=some {cls:=.type "list",dict:=none,data:=.seq acc c,slots:=#[]}→acc.toList=as.map Value.ref→as.length=i→Go P lo h as→lo≤h.objs.size→
   codeAny (model prog w) A (.builtin "list.extend.loop" ⟨[.ref S,.ref e,res],[]⟩) R {s with heap:=h,toks:=tk}:=by
 intro k
 induction k with
 |zero =>
  intro i h tk c acc as hk hi hst hD hkeep hSl hacc hal hG hlo
  have hin:i=n:=by omega
  subst hin
  refine codeAny_builtin PySem.F.entry_extend_loop ?_
  rw[Around.under_plainId PySem.F.plain_extend_loop _]
  show wpAny _ A.in1 (pyNext (.ref e) >>=_) _ _ _
  refine wpAny_bind (B5 (s:={s with heap:=h,toks:=tk}) (A:=A.in1) D hst hD fun h' he=>?_)
  refine wpAny_pure (hR h' tk acc c as (fun b o h1 h2 h3 e=>he b o h3 (hkeep b o h1 h2 h3 e)) (he S _ hSi hSl) hal ⟨hG.above,fun j a hj=>?_⟩ hacc)
  obtain⟨x,t,hp,e3⟩:=hG.pairs j a hj
  exact⟨x,t,hp,he a _ (Nat.ne_of_gt (Nat.lt_of_lt_of_le hil (hG.above a (List.mem_of_getElem? hj)))) e3⟩
 |succ k ih =>
  intro i h tk c acc as hk hi hst hD hkeep hSl hacc hal hG hlo
  have hlt:i<n:=by omega
  have hsz:acc.size=i:=by rw[←Array.length_toList,hacc,M5,hal]
  refine codeAny_builtin PySem.F.entry_extend_loop ?_
  rw[Around.under_plainId PySem.F.plain_extend_loop _]
  show wpAny _ A.in1 (pyNext (.ref e) >>=_) _ _ _
  have hSz:S<h.objs.size:=Nat.lt_of_lt_of_le hS hlo
  refine wpAny_bind (B3 (s:={s with heap:=h,toks:=tk}) (S:=S) D hst hSz (Nat.lt_of_lt_of_le hil hlo) hD hlt hne hef fun x h' tk' hP hst' hD' ht hz hkp=>?_)
  dsimp only at ht hz hkp ⊢
  have hS':=hkp S _ hSe hSi hSl
  have up:∀b o,b≠S→h'.get? b=some o→(h'.update S (Obj.mapSeq (·.push (Value.ref h.objs.size)))).get? b=some o:=fun b o hb e=>(Heap.get?_update_other _ _ (Ne.symm hb)).trans e
  show wpAny _ A.in1 (updateSeq S (·.push (Value.ref h.objs.size)) >>=_) _ _ _
  refine wpAny_bind ?_
  refine wpAny_updateSeq hS' rfl (wpAny_pure ⟨plainId_quiet PySem.F.plain_extend_loop _,ih (i+1) _ (tk'+1) _ (acc.push (Value.ref h.objs.size)) (as++[h.objs.size]) (by omega) hlt ?_ (D.frame _ _ _ hD' fun b hb o y=>up b o (fun q=>hSf (q ▸ hb)) y)
   (fun b o h1 h2 h3 e=>up b o h1 (hkp b o h2 h3 (hkeep b o h1 h2 h3 e))) (Heap.get?_update_self _ hS' rfl) (by rw[Array.toList_push,hacc,List.map_append];rfl) (by rw[Mf,hal];rfl) ⟨?_,?_⟩ ?_⟩) (by rw[hsz];omega) (by show (acc.push (Value.ref h.objs.size)).size≤sizeLine+1;rw[Array.size_push,hsz];omega)
  ·have e1:((i+1:Nat):Int)=(i:Int)+1:=by omega
   rw[e1]
   exact hst'.keep up (Ne.symm hSe)
  ·intro a ha
   rcases List.mem_append.mp ha with ha|ha
   ·exact hG.above a ha
   ·rw[List.mem_singleton.mp ha];exact hlo
  ·intro j b hj
   rcases Nat.lt_trichotomy j as.length with h1|h1|h1
   ·rw[List.getElem?_append_left h1]at hj
    obtain⟨x',t',hp',e3⟩:=hG.pairs j b hj
    have hb:=hG.above b (List.mem_of_getElem? hj)
    exact⟨x',t',hp',up b _ (Nat.ne_of_gt (Nat.lt_of_lt_of_le hS hb)) (hkp b _ (Nat.ne_of_gt (Nat.lt_of_lt_of_le hel hb)) (Nat.ne_of_gt (Nat.lt_of_lt_of_le hil hb)) e3)⟩
   ·subst h1
    have hb:h.objs.size=b:=by simpa using hj
    subst hb
    exact⟨x,tk',by rw[hal];exact hP,by rw[hal];exact up _ _ (Nat.ne_of_gt hSz) ht⟩
   ·have hnone:(as++[h.objs.size])[j]?=none:=List.getElem?_eq_none (by rw[Mf,List.length_singleton];omega)
    rw[hnone]at hj;cases hj
  ·rw[Heap.size_update,hz]
   exact Nat.le_succ_of_le hlo
theorem ua:typeLookup (.type "enumerate") "__len__" =pure none:=by rw[typeLookup_type,builtinLookup_eq_fast];kernel_rfl
theorem oR:typeLookup (.type "enumerate") "__length_hint__" =pure none:=by rw[typeLookup_type,builtinLookup_eq_fast];kernel_rfl
theorem qw{R:Result→Shared→Prop}{S:Addr}{c₀:Nat}(hh:A.handled=none)(D:Draws prog w A.in1.in1 it fp n P St)(he:EnSt s.heap e it S 0)(hst:St 0 s.heap)(hSe:S≠e)(hSi:S≠it)(hSf:S ∉ fp)(hne:e≠it)(hef:e ∉ fp)(hil:it<s.heap.objs.size)(hn:n≤sizeLine)(res:Value)
  (hS:s.heap.get? S=some {cls:=.type "list",data:=.seq #[] c₀})
  (hR:∀h' tk acc c as,(∀b o,b≠S→b≠e→b≠it→s.heap.get? b=some o→h'.get? b=some o)→h'.get? S=some {cls:=.type "list",dict:=none,data:=.seq acc c,slots:=#[]}→as.length=n→Go P s.heap.objs.size h' as→acc.toList=as.map Value.ref→R (.ok (.ret res)) {s with heap:=h',toks:=tk}) :
  wpAny (model prog w) A.in1 (Builtin.List.listExtendWith (.ref S) (.ref e) res)
   (fun fin s'=>match fin with|.done f=>R (.ok f) s'|.again c'=>c'.quiet=true∧codeAny (model prog w) A c' R s') (fun e s'=>R (.error e) s') s:=by
 have hSl:S<s.heap.objs.size:=Heap.lt_size hS
 obtain⟨fs,he0,hf0⟩:=he.ty
 have hel:e<s.heap.objs.size:=Heap.lt_size he0
 have hTy:s.TypeIs (.ref e) "enumerate" := ⟨_,he0,rfl⟩
 unfold Builtin.List.listExtendWith
 refine wpAny_bind (wpAny_typeOf (T := "enumerate") hTy ?_)
 have h1:Builtin.List.listSameRef (.ref S) (.ref e)=false:=by simp[Builtin.List.listSameRef,hSe]
 have h2:(Value.type "enumerate" == Value.type "list")=false:=by decide
 have h3:(Value.type "enumerate" == Value.type "tuple")=false:=by decide
 simp only[h1,h2,h3,Bool.or_false,M6,if_false]
 refine wpAny_bind (wpAny_pyIter_slot hTy PySem.F.slot_enumerate_iter (wpAny_call_entry PySem.F.slot_enumerate_iter hTy PySem.F.entry_enumerate_iter ?_ (PySem.F.args_enumerate_iter_1 _)))
 show wpAny _ _ (ret (.ref e)) _ _ s
 refine wpAny_pure ⟨_,rfl,"enumerate",_,hTy,PySem.F.slot_enumerate_next.lookup,?_⟩
 refine wpAny_bind (wpAny_holding ?_)
 unfold Builtin.List.listLengthHint
 refine wpAny_bind (wpAny_specialOf hTy ua ?_)
 show wpAny _ A.in1 (specialOf (Value.ref e) (Str.ofString "__length_hint__") >>=_) _ _ _
 refine wpAny_bind (wpAny_specialOf hTy oR ?_)
 refine wpAny_pure ?_
 show wpAny _ A.in1 (rule "list.extend.makes-room" >>=fun _=>Builtin.List.listTouch (.ref S) >>=fun _ =>
  again (.builtin "list.extend.loop" ⟨[.ref S,.ref e,res],[]⟩)) _ _ _
 refine wpAny_bind (wpAny_rule ?_)
 refine wpAny_bind ?_
 show wpAny _ A.in1 (updateSeq S (·.push .none) >>=fun _=>updateSeq S (·.pop)) _ _ _
 refine wpAny_bind (wpAny_updateSeq hS rfl ?_)
 have hS₂:=Heap.get?_update_self (Obj.mapSeq (·.push Value.none)) hS rfl
 refine wpAny_updateSeq (hz:=by seq_fits) hS₂ rfl ?_
 have hS₃:=Heap.get?_update_self (Obj.mapSeq (·.pop)) hS₂ rfl
 have oth:∀b o,b≠S→s.heap.get? b=some o→((s.heap.update S (Obj.mapSeq (·.push Value.none))).update S (Obj.mapSeq (·.pop))).get? b=some o :=
  fun b o hb e=>(Heap.get?_update_other _ _ (Ne.symm hb)).trans ((Heap.get?_update_other _ _ (Ne.symm hb)).trans e)
 exact wpAny_pure ⟨plainId_quiet PySem.F.plain_extend_loop _,B2 (s:=s) (lo:=s.heap.objs.size) (h₁:=s.heap) hh D hSl hel hil hSe hSi hSf hne hef hn res hR n 0 _ s.toks _ #[] [] (Nat.sub_zero _) (Nat.zero_le _) (he.keep oth (Ne.symm hSe)) (D.frame _ _ _ hst fun b hb o y=>oth b o (fun q=>hSf (q ▸ hb)) y)
  (fun b o hb _ _ e=>oth b o hb e) hS₃ rfl rfl ⟨(fun _ ha=>nomatch ha),(fun j a hj=>by simp at hj)⟩ (by rw[Heap.size_update,Heap.size_update];exact M7 _)⟩
theorem B4{R:Result→Shared→Prop}{S:Addr}(hh:A.handled=none)(D:Draws prog w A.in1.in1 it fp n P St)(he:EnSt s.heap e it S 0)(hst:St 0 s.heap)(hSe:S≠e)(hSi:S≠it)(hSf:S ∉ fp)(hne:e≠it)(hef:e ∉ fp)(hil:it<s.heap.objs.size)(hn:n≤sizeLine)
  (hS:s.heap.get? S=some {cls:=.type "list",data:=.seq #[]})
  (hR:∀h' tk acc c as,(∀b o,b≠S→b≠e→b≠it→s.heap.get? b=some o→h'.get? b=some o)→h'.get? S=some {cls:=.type "list",dict:=none,data:=.seq acc c,slots:=#[]}→as.length=n→Go P s.heap.objs.size h' as→acc.toList=as.map Value.ref→R (.ok (.ret .none)) {s with heap:=h',toks:=tk}) :
  wpAny (model prog w) A.in1 (Builtin.«list.__init__» ⟨[.ref S,.ref e],[]⟩)
   (fun fin s'=>match fin with|.done f=>R (.ok f) s'|.again c'=>c'.quiet=true∧codeAny (model prog w) A c' R s') (fun e s'=>R (.error e) s') s:=by
 show wpAny _ _ (do let old ←Builtin.List.listItems (.ref S);Builtin.List.listUpdate (.ref S) (fun _=>#[]);letGo old.toList.reverse;Builtin.List.listExtendWith (.ref S) (.ref e) .none) _ _ s
 refine wpAny_bind ?_
 unfold Builtin.List.listItems
 refine wpAny_bind (wpAny_seqItems hS rfl (wpAny_pure ?_))
 show wpAny _ _ (updateSeq S (fun _=>#[]) >>=fun _=>letGo (#[]:Array Value).toList.reverse >>=fun _=>Builtin.List.listExtendWith (.ref S) (.ref e) .none) _ _ s
 refine wpAny_bind (wpAny_updateSeq hS rfl ?_)
 have hS₂:=Heap.get?_update_self (Obj.mapSeq (fun _=>(#[]:Array Value))) hS rfl
 have oth:∀b o,b≠S→s.heap.get? b=some o→(s.heap.update S (Obj.mapSeq (fun _=>(#[]:Array Value)))).get? b=some o :=
  fun b o hb e=>(Heap.get?_update_other _ _ (Ne.symm hb)).trans e
 have hz:(s.heap.update S (Obj.mapSeq (fun _=>(#[]:Array Value)))).objs.size=s.heap.objs.size:=Heap.size_update ..
 refine wpAny_bind (wpAny_letGo ?_)
 refine qw hh D (he.keep oth (Ne.symm hSe)) (D.frame _ _ _ hst fun b hb o y=>oth b o (fun q=>hSf (q ▸ hb)) y) hSe hSi hSf hne hef (by rw[hz];exact hil) hn .none hS₂ (fun h' tk acc c as hk hS' hl hG hacc=>?_)
 exact hR h' tk acc c as (fun b o hb h2 h3 e=>hk b o hb h2 h3 (oth b o hb e)) hS' hl ⟨fun a ha=>by have:=hG.above a ha;rw[hz]at this;exact this,hG.pairs⟩ hacc
theorem B6{Q:Value→Shared→Prop}(hh:A.handled=none)(D:Draws prog w A.in1.in1.in1 it fp n P St)(he:IsEnum s.heap e it 0 .none)(hst:St 0 s.heap)(hne:e≠it)(hef:e ∉ fp)(hfp:∀b∈fp,b<s.heap.objs.size)(hif:it∈fp)(hn:n≤sizeLine)
  (hQ:∀h' tk acc c as,(∀b o,b≠e→b≠it→s.heap.get? b=some o→h'.get? b=some o)→h'.get? s.heap.objs.size=some {cls:=.type "list",dict:=none,data:=.seq acc c,slots:=#[]}→as.length=n→Go P (s.heap.objs.size+1) h' as→
   acc.toList=as.map Value.ref→Q (.ref s.heap.objs.size) {s with heap:=h',toks:=tk}) :
  wpAny (model prog w) A (call (.type "list") [.ref e]) Q E s:=by
 refine callType_codes (Q₁:=fun obj s₁=>obj = .ref s.heap.objs.size∧s₁={s with heap:=s.heap.push {cls:=.type "list",data:=.seq #[]}}) PySem.F.called_list (PySem.F.typeCall_list_1 _) PySem.F.entry_list_init
  (code_list_new _ ⟨rfl,rfl⟩) fun obj s₁ h₁=>?_
 obtain⟨rfl,rfl⟩:=h₁
 have hS:(s.heap.push {cls:=.type "list",data:=.seq #[]}).get? s.heap.objs.size=some {cls:=.type "list",data:=.seq #[]}:=Heap.get?_push_size _ rfl
 have hr:e<s.heap.objs.size:=Heap.lt_size he
 have hi:it<s.heap.objs.size:=hfp it hif
 have up:∀b o,s.heap.get? b=some o→(s.heap.push {cls:=.type "list",data:=.seq #[]}).get? b=some o:=fun b o q=>Heap.get?_push_of_some _ q
 have hz:(s.heap.push {cls:=.type "list",data:=.seq #[]}).objs.size=s.heap.objs.size+1:=Heap.size_push ..
 refine⟨⟨_,hS,rfl⟩,PySem.F.args_list_init_2 _ _,B4 (A:=A.in1) hh D (.inl ⟨.none,up _ _ he⟩) (D.frame _ _ _ hst fun b _ o y=>up b o y) (Nat.ne_of_gt hr) (Nat.ne_of_gt hi) (fun hm=>Nat.lt_irrefl _ (hfp _ hm)) hne hef (by show it<(s.heap.push _).objs.size;rw[hz];exact Nat.lt_succ_of_lt hi) hn hS (fun h' tk acc c as hk hS' hl hG hacc=>?_)⟩
 exact⟨rfl,hQ h' tk acc c as (fun b o h1 h2 q=>hk b o (Nat.ne_of_lt (Heap.lt_size q)) h1 h2 (up b o q)) hS' hl ⟨fun a ha=>by have:=hG.above a ha;rw[hz]at this;exact this,hG.pairs⟩ hacc⟩
end
end Av
namespace Av
variable [Tb]
section
variable {X:Cx} {pins:List (Addr × Obj)} {σ:L2.St} {H:Hp} {s:Shared}
theorem rW{aa:Addr}{o:HO}(I:Inv X pins σ H s)(fa:FpOk X pins H aa)(new:ObjOk X.prog X.w (upd H aa o) s.heap aa o):Inv X pins σ (upd H aa o) s:=by
 obtain⟨na,g1,g2,g3,g4,g5⟩:=fa
 have ne:∀{b u},H b=some u→b≠aa:=fun e z=>by rw[z,na]at e;cases e
 have un:Un (frs X.stack) [aa] H (upd H aa o) s.heap s.heap:=by
  refine⟨fun _ _ q _ _ _=>q,fun b ob q _ _ _=>⟨ob.slots,q⟩,fun b ob q n hb=>by rw[upd_ne (by simpa using hb)];exact n,fun b ob q _=>⟨ob,q⟩,fun b xs q=>by rw[upd_ne (ne q)];exact q,
   fun b ob w q=>by rw[upd_ne (ne q)];exact q,fun b ps q=>⟨#[],by rw[upd_ne (ne q),q];simp⟩⟩
 have hok:HOk X.prog X.w (upd H aa o) s.heap:=fun b w q=>by
  by_cases hb:b=aa
  ·subst hb
   rw[upd_same]at q
   cases q
   exact new
  ·rw[upd_ne hb]at q
   exact (I.hok b w q).stay (fun _ _ _ z=>z) (fun c z=>by rw[upd_ne (ne z)];exact z) fun c xs z=>by rw[upd_ne (ne z)];exact z
 exact I.call' (s':=s) (ch:=[aa]) rfl un hok I.bare (fun b hb=>by
  have e:b=aa:=by simpa using hb
  subst e
  exact⟨g3,g1,g4,g5⟩)
theorem gF{K:M0}:∀{vs:List V} {ds:List Dat},vs.length=ds.length→(∀(j:Nat) v d,vs[j]?=some v→ds[j]?=some d→Rep K H v d)→Reps K H vs ds
 |[],[],_,_=>.nil
 |v :: vs,d :: ds,hl,h=>.cons (h 0 v d rfl rfl) (gF (by simpa using hl) fun j v d a b=>h (j+1) v d a b)
theorem jw{G:AG}{N:Nat}{as:List Addr}{xs:List V}(I:Inv X pins σ H s)(rg:RelG X.K G H)(hf:∀b,N≤b→FpOk X pins H b)(hl:as.length=xs.length)(above:∀a∈as,N≤a)
  (pairs:∀(j:Nat) (a:Addr),as[j]?=some a→∃x u t,xs[j]?=some x∧RelV x u∧s.heap.get? a=some {cls:=.type "tuple",data:=.seq #[.int j t,u]}) :
  ∀k,k≤as.length→∃H',Inv X pins σ H' s∧Fra G H G H'∧RelG X.K G H'∧(∀b,b ∉ as.take k→H' b=H b)∧∀(j:Nat) a x,j<k→as[j]?=some a→xs[j]?=some x→H' a=some (.tup [.int (j:Nat),x])
 |0,_=>⟨H,I,.refl,rg,fun _ _=>rfl,fun j a x h=>absurd h (Nat.not_lt_zero _)⟩
 |k+1,hk=>by
  obtain⟨H',I',f',g',h1,h2⟩:=jw I rg hf hl above pairs k (by omega)
  have hka:as[k]?=some as[k]:=Me (by omega)
  obtain⟨x,u,t,hx,ru,hob⟩:=pairs k _ hka
  have hm:as[k] ∉ as.take k:=fun hm=>by
   obtain⟨j,hj⟩:=List.mem_iff_getElem?.mp hm
   have hjk:j<k:=by
    have:=(List.getElem?_eq_some_iff.mp hj).1
    rw[Mt]at this
    omega
   rw[List.getElem?_take_of_lt hjk]at hj
   obtain⟨x',u',t',_,_,hob'⟩:=pairs j _ hj
   rw[hob]at hob'
   have e:=Option.some.inj hob'
   simp only[Obj.mk.injEq,Data.seq.injEq]at e
   have e2:=congrArg (fun a=>a.toList) e.2.2.1.1
   simp at e2
   omega
  have hN:N≤as[k]:=above _ (List.getElem_mem _)
  have hn:H' as[k]=none:=by rw[h1 _ hm];exact (hf _ hN).1
  have I2:=rW (o:=.tup [.int (k:Nat),x]) I' ⟨hn,(hf _ hN).2⟩ ⟨by show 2≤sizeLine;decide,[.int k t,u],.cons ⟨_,rfl⟩ (.cons ru .nil),⟨_,hob,rfl,_,rfl⟩⟩
  refine⟨_,I2,f'.trans (.newT hn),g'.newT hn,fun b hb=>?_,fun j a y hj ha hy=>?_⟩
  ·rw[List.take_add_one,hka]at hb
   simp only[Option.toList_some,List.mem_append,Ms,not_or]at hb
   rw[upd_ne hb.2]
   exact h1 b hb.1
  ·by_cases hjk:j=k
   ·subst hjk
    rw[hka]at ha
    cases ha
    rw[hx]at hy
    cases hy
    exact upd_same
   ·have hlt:j<k:=by omega
    have:a≠as[k]:=fun z=>hm (by
     rw[←z]
     exact List.mem_of_getElem? (i:=j) (by rw[List.getElem?_take_of_lt hlt];exact ha))
    rw[upd_ne this]
    exact h2 j a y hlt ha hy
theorem qv{G:AG}{Qa:AQ}{Q:VK}{z:Bool}{ds:List Dat}{xs:List V}{its:List Value}{St:Nat→Heap→Prop}{e it:Addr}{fp:List Addr}{E:Value→Shared→Prop}(I:Inv X pins σ H s)(rg:RelG X.K G H)(hx:Reps X.K H xs ds)(rv:Vals xs its)(hz:xs.length≤sizeLine)
  (hh:X.A.handled=none)(D:Draws X.prog X.w X.A.in1.in1.in1 it fp its.toArray.size (fun i v=>its.toArray[i]?=some v) St){h0:Heap}(he:PySem.IsEnum h0 e it 0 .none)(hst:St 0 h0)(hk:∀b o,s.heap.get? b=some o→h0.get? b=some o)(hne:e≠it)(hef:e ∉ fp)(hfp:∀b∈fp,b<h0.objs.size)(hif:it∈fp)
  (hsz:s.heap.objs.size≤h0.objs.size)(hel:s.heap.objs.size≤e)(hil:s.heap.objs.size≤it)(hw:nw z (bR 0 ds) G Qa)(hp:PostZ X.K G H Qa Q) :
  wpAny (model X.prog X.w) X.A (call (.type "list") [.ref e]) (EP X pins σ Q) E {s with heap:=h0}:=by
 refine B6 (s:={s with heap:=h0}) hh D he hst hne hef hfp hif (by rw[List.size_toArray,←rv.length];exact hz) fun h' tk acc c as hk' hS hl hG hacc=>?_
 have old:∀b o,s.heap.get? b=some o→h'.get? b=some o:=fun b o q=>by
  have hb:=Heap.lt_size q
  exact hk' b o (Nat.ne_of_lt (Nat.lt_of_lt_of_le hb hel)) (Nat.ne_of_lt (Nat.lt_of_lt_of_le hb hil)) (hk b o q)
 have I1:Inv X pins σ H {s with heap:=h',toks:=tk}:=I.kept (t':=tk) old
 have hl2:as.length=xs.length:=by rw[hl,List.size_toArray,rv.length]
 have hf:∀b,s.heap.objs.size≤b→FpOk X pins H b:=fun b hb=>I.fpOk hb (I.hok.fresh hb)
 have ab:∀a∈as,h0.objs.size+1≤a:=hG.above
 obtain⟨H',I',f',g',k1,k2⟩:=jw (as:=as) (xs:=xs) I1 rg hf hl2 (fun a ha=>Nat.le_trans hsz (Nat.le_of_succ_le (ab a ha))) (fun j a hj=>by
  obtain⟨u,t,hu,ho⟩:=hG.pairs j a hj
  have hu':its[j]?=some u:=by simpa using hu
  have hjx:j<xs.length:=by rw[←hl2];exact (List.getElem?_eq_some_iff.mp hj).1
  obtain⟨u2,e2,r2⟩:=rv.get (Me hjx)
  rw[hu']at e2
  cases e2
  exact⟨_,u,t,Me hjx,r2,ho⟩) as.length (M7 _)
 rw[List.take_length]at k1
 have hSn:h0.objs.size ∉ as:=fun hm=>Nat.not_succ_le_self _ (ab _ hm)
 have hS':H' h0.objs.size=none:=by rw[k1 _ hSn];exact (hf _ hsz).1
 have rr:Reps X.K H' (as.map V.ref) (bR 0 ds):=by
  refine gF (by rw[M5,c6,hl2,hx.length]) fun j v d hv hd=>?_
  rw[Mg]at hv
  cases ha:as[j]? with
  |none=>rw[ha]at hv;cases hv
  |some a =>
   rw[ha]at hv
   cases hv
   have hjx:j<xs.length:=by rw[←hl2];exact (List.getElem?_eq_some_iff.mp ha).1
   have hjd:j<ds.length:=by rw[←hx.length];exact hjx
   rw[c7 (Me hjd)]at hd
   have e1:Dat.tup [.int ((0+j:Nat):Int),ds[j]]=d:=Option.some.inj hd
   subst e1
   rw[Nat.zero_add]
   have hT:=k2 j a _ (List.getElem?_eq_some_iff.mp ha).1 ha (Me hjx)
   obtain⟨x',e3,e4⟩:=hx.get (Me hjd)
   rw[Me hjx]at e3
   cases e3
   exact .tup (.inl hT) (.cons (.int _) (.one (e4.mono (f'.stab rg))))
 have hlen:(as.map V.ref).length≤sizeLine:=by rw[M5,hl2];exact hz
 have hv:Vals (as.map V.ref) (as.map Value.ref):=by
  have:∀l:List Addr,Vals (l.map V.ref) (l.map Value.ref):=fun l=>by
   induction l with
   |nil=>exact .nil
   |cons a l ih=>exact .cons rfl ih
  exact this as
 have hacc':acc=(as.map Value.ref).toArray:=by rw[←hacc,Array.toArray_toList]
 subst hacc'
 have I2:=rW (aa:=h0.objs.size) (o:=.lst (as.map V.ref)) I' ⟨hS',(hf _ hsz).2⟩ ⟨hlen,_,c,hv,hS⟩
 exact⟨.ref h0.objs.size,_,I2,rfl,aA g' rr hw (hp.fra f') _ hS'⟩
theorem sV{W:WX}{Γ:Gam}{k:Nat}(oc:Oc X W Γ k){a:Expr}{p p2 pos pos2:Pos}{z:Bool}{w1:WfE}(hg:Gl X "list")(hg2:Gl X "enumerate")(na:af a=true)(h1:PE X a (LfE X.K W w1)) :
  PE X (.Call (.Name "list" p) [.Call (.Name "enumerate" p2) [a] [] pos2] [] pos) (LfE X.K W fun ρ G Q E=>w1 ρ G (fun d G1=>∃ds,aV G1 d=some ds∧nw z (bR 0 ds) G1 Q) E):=by
 have core:PE X (.Call (.Name "list" p) [.Call (.Name "enumerate" p2) [a] [] pos2] [] pos) (fun σ H Q=>LfE X.K W w1 σ H fun v H1=>∃G1 d ds Qa,RelG X.K G1 H1∧Rep X.K H1 v d∧aV G1 d=some ds∧nw z (bR 0 ds) G1 Qa∧PostZ X.K G1 H1 Qa Q):=by
  refine⟨fun pins s σ H Q I h=>?_⟩
  have hh:X.A.handled=none:=I.ok.hd oc.calm
  have hh3:X.A.in1.in1.in1.handled=none:=hh
  refine wpAny_Call_Name_kw (ld_blt I hg (oc.tb.blt .list) (cj .list) ?_ (mJ .list).1 (mJ .list).2)
  refine PyProof.Rows.callWith_type1 ?_ rfl rfl
  show wpAny _ _ (spliced ((false,eval (.Call (.Name "enumerate" p2) [a] [] pos2) X.env) :: backTo pos (starEach [] X.env))) _ _ _
  refine Calls.spliced_cons ?_
  have h':tCons (LfE X.K W w1) tNil σ H (fun vs H1=>match vs with
   |[v]=>∃G1 d ds Qa,RelG X.K G1 H1∧Rep X.K H1 v d∧aV G1 d=some ds∧nw z (bR 0 ds) G1 Qa∧PostZ X.K G1 H1 Qa Q
   |_=>False):=h
  refine Call_ (ld_blt I hg2 oc.tb.enum boot_enumerate (PyProof.Rows.callWith_type1 (thn ((pa_cons h1 pa_nil (ax na)).run pos2 pins _ σ H _ I h') fun us s1 ⟨vs,H1,I1,r1,q1⟩=>?_) (ax na) rfl))
  match vs,q1 with
  |[v],⟨G1,d,ds,Qa,g1,rv,e1,hw,hp⟩ =>
   obtain⟨b,xs,rfl,hq,hx⟩:=cR g1 rv e1
   obtain⟨u,rfl,ru⟩:=vals1 r1
   cases ru
   rcases hq with hq|hq
   ·obtain⟨its,rvs,p',hz⟩:=I1.list hq
    have hbl:b<s1.heap.objs.size:=by obtain⟨o,_,z,_⟩:=p';exact Heap.lt_size z
    refine call_enumerate_list p'.isList fun h0 he hit hsz hk=>Calls.spliced_nil ?_
    exact qv I1 g1 hx rvs hz hh (Draws.list (A:=X.A.in1.in1.in1) hh3 s1.heap.objs.size b (Nat.ne_of_lt hbl) its.toArray) he ⟨hit,p'.isList.at fun o q=>hk b o q⟩ hk (Nat.succ_ne_self _) (by simp[Nat.ne_of_gt (Nat.lt_succ_of_lt hbl)]) (fun c hc=>by
     rw[hsz]
     have e':c=s1.heap.objs.size∨c=b:=by simpa using hc
     rcases e' with z|z
     ·rw[z];exact Nat.lt_succ_of_lt (Nat.lt_succ_self _)
     ·rw[z];exact Nat.lt_succ_of_lt (Nat.lt_succ_of_lt hbl)) (by simp) (by rw[hsz];exact Nat.le_add_right _ _) (Nat.le_succ _) (M7 _) hw hp
   ·obtain⟨its,rvs,p',hz⟩:=I1.tuple hq
    have hbl:b<s1.heap.objs.size:=by obtain⟨_,z,_⟩:=p';exact Heap.lt_size z
    refine f9 p' fun h0 he hit hsz hk=>Calls.spliced_nil ?_
    exact qv I1 g1 hx rvs hz hh (Draws.tuple (A:=X.A.in1.in1.in1) hh3 s1.heap.objs.size b (Nat.ne_of_lt hbl) its.toArray) he ⟨hit,let ⟨o,ho,r⟩:=p';⟨o,hk b o ho,r⟩⟩ hk (Nat.succ_ne_self _) (by simp[Nat.ne_of_gt (Nat.lt_succ_of_lt hbl)]) (fun c hc=>by
     rw[hsz]
     have e':c=s1.heap.objs.size∨c=b:=by simpa using hc
     rcases e' with z|z
     ·rw[z];exact Nat.lt_succ_of_lt (Nat.lt_succ_self _)
     ·rw[z];exact Nat.lt_succ_of_lt (Nat.lt_succ_of_lt hbl)) (by simp) (by rw[hsz];exact Nat.le_add_right _ _) (Nat.le_succ _) (M7 _) hw hp
 exact PE.imp (fu core) fun σ H Q ⟨ρ,G,Qa,Ea,hE,hG,hw,hp,hx⟩=>⟨ρ,G,_,Ea,hE,hG,hw,fun d G1 v H1 f g r ⟨ds,e,q⟩=>⟨G1,d,ds,Qa,g,r,e,q,bH fun d' G' v' H' f3=>hp d' G' v' H' (f.trans f3)⟩,hx⟩
end
end Av
namespace Av
variable [Tb]
section
variable {X:Cx} {pins:List (Addr × Obj)} {σ:L2.St} {H:Hp} {s:Shared}
theorem fm{G:AG}{N:Nat}{as:List Addr}{xs:List (V × V)}(I:Inv X pins σ H s)(rg:RelG X.K G H)(hf:∀b,N≤b→FpOk X pins H b)(hl:as.length=xs.length)(nd:as.Nodup)(above:∀a∈as,N≤a)
  (pairs:∀(j:Nat) (a:Addr),as[j]?=some a→∃x u t,xs[j]?=some x∧RelV x.1 u∧RelV x.2 t∧s.heap.get? a=some {cls:=.type "tuple",data:=.seq #[u,t]}) :
  ∀k,k≤as.length→∃H',Inv X pins σ H' s∧Fra G H G H'∧RelG X.K G H'∧(∀b,b ∉ as.take k→H' b=H b)∧∀(j:Nat) a x,j<k→as[j]?=some a→xs[j]?=some x→H' a=some (.tup [x.1,x.2])
 |0,_=>⟨H,I,.refl,rg,fun _ _=>rfl,fun j a x h=>absurd h (Nat.not_lt_zero _)⟩
 |k+1,hk=>by
  obtain⟨H',I',f',g',h1,h2⟩:=fm I rg hf hl nd above pairs k (by omega)
  have hka:as[k]?=some as[k]:=Me (by omega)
  obtain⟨x,u,t,hx,ru,rt,hob⟩:=pairs k _ hka
  have hm:as[k] ∉ as.take k:=fun hm=>by
   obtain⟨j,hj⟩:=List.mem_iff_getElem?.mp hm
   have hjk:j<k:=by
    have:=(List.getElem?_eq_some_iff.mp hj).1
    rw[Mt]at this
    omega
   rw[List.getElem?_take_of_lt hjk]at hj
   have:=(List.getElem?_inj (by omega) nd).1 (hj.trans hka.symm)
   omega
  have hN:N≤as[k]:=above _ (List.getElem_mem _)
  have hn:H' as[k]=none:=by rw[h1 _ hm];exact (hf _ hN).1
  have I2:=rW (o:=.tup [x.1,x.2]) I' ⟨hn,(hf _ hN).2⟩ ⟨by show 2≤sizeLine;decide,[u,t],.cons ru (.cons rt .nil),⟨_,hob,rfl,_,rfl⟩⟩
  refine⟨_,I2,f'.trans (.newT hn),g'.newT hn,fun b hb=>?_,fun j a y hj ha hy=>?_⟩
  ·rw[List.take_add_one,hka]at hb
   simp only[Option.toList_some,List.mem_append,Ms,not_or]at hb
   rw[upd_ne hb.2]
   exact h1 b hb.1
  ·by_cases hjk:j=k
   ·subst hjk
    rw[hka]at ha
    cases ha
    rw[hx]at hy
    cases hy
    exact upd_same
   ·have hlt:j<k:=by omega
    have:a≠as[k]:=fun z=>hm (by
     rw[←z]
     exact List.mem_of_getElem? (i:=j) (by rw[List.getElem?_take_of_lt hlt];exact ha))
    rw[upd_ne this]
    exact h2 j a y hlt ha hy
end
theorem kv_get:∀{kvs:List (Key × V)} {vs:List (Key × Value)},KV kvs vs→∀(j:Nat) (e:Key × Value),vs[j]?=some e→∃x,kvs[j]?=some x∧x.1=e.1∧RelV x.2 e.2
 |[],[],_,j,e,h=>by simp at h
 |x :: kvs,v :: vs,Paired.cons r t,0,e,h=>by cases h;exact⟨x,rfl,r.1,r.2⟩
 |x :: kvs,v :: vs,Paired.cons r t,j+1,e,h=>by
  rw[M9]at h
  obtain⟨y,h1,h2⟩:=kv_get (show KV kvs vs from t) j e h
  exact⟨y,by rw[M9];exact h1,h2⟩
theorem gO{K:M0}{H:Hp}:∀{vk:List (Key × V)} {kvs:List (Key × Dat)},KRel K H vk kvs→∀(j:Nat) q,kvs[j]?=some q→∃x,vk[j]?=some x∧x.1=q.1∧Rep K H x.2 q.2
 |[],[],_,j,q,h=>by simp at h
 |x :: vk,y :: kvs,.cons r t,0,q,h=>by cases h;exact⟨x,rfl,r.1,r.2⟩
 |x :: vk,y :: kvs,.cons r t,j+1,q,h=>by
  rw[M9]at h
  obtain⟨z,h1,h2⟩:=gO t j q h
  exact⟨z,by rw[M9];exact h1,h2⟩
theorem Ay{K:M0}{H:Hp}(k:Key):Rep K H (kV k) (aO k):=by
 cases k with
 |inl i=>exact .int i
 |inr x=>exact .str x
section
variable {X:Cx} {pins:List (Addr × Obj)} {σ:L2.St} {H:Hp} {s:Shared}
theorem uF{G:AG}{Qa:AQ}{Q:VK}{z:Bool}{vk:List (Key × V)}{kvs:List (Key × Dat)}{vs:List (Key × Value)}{h':Heap}{tk c:Nat}{acc:Array Value}{as:List Addr}(I:Inv X pins σ H s)(rg:RelG X.K G H)(hz:vk.length≤sizeLine)(kr:KRel X.K H vk kvs)(kv:KV vk vs)
  (hk:∀b o,s.heap.get? b=some o→h'.get? b=some o)(hS:h'.get? s.heap.objs.size=some {cls:=.type "list",dict:=none,data:=.seq acc c,slots:=#[]})(hl:as.length=vs.length)(hG:PySem.W.KdxG (mixKind X.prog X.w) vs s.heap.objs.size h' as)(hacc:acc.toList=as.map Value.ref)
  (hw:nw z (jC kvs) G Qa)(hp:PostZ X.K G H Qa Q):EP X pins σ Q (.ref s.heap.objs.size) {s with heap:=h',toks:=tk}:=by
 have I1:Inv X pins σ H {s with heap:=h',toks:=tk}:=I.kept (t':=tk) hk
 have lk:vk.length=vs.length:=Paired.length kv
 have lk2:vk.length=kvs.length:=cG kr
 have hf:∀b,s.heap.objs.size≤b→FpOk X pins H b:=fun b hb=>I.fpOk hb (I.hok.fresh hb)
 have nd:as.Nodup:=List.Pairwise.imp (fun {a b} (h:a<b)=>Nat.ne_of_lt h) hG.rise
 obtain⟨H',I',f',g',k1,k2⟩:=fm (as:=as) (xs:=vk.map fun q=>(kV q.1,q.2)) I1 rg hf (by rw[M5];omega) nd (fun a ha=>Nat.le_of_lt (hG.above a ha)) (fun j a hj=>by
  obtain⟨key,k,x,f1,f2,f3⟩:=hG.pairs j a hj
  obtain⟨y,g1,g2,g3⟩:=kv_get kv j _ f1
  refine⟨(kV y.1,y.2),key,x,by rw[Mg,g1];rfl,?_,g3,f3⟩
  show RelV (kV y.1) key
  rw[g2]
  exact relV_key (show keyIs k key=true from f2)) as.length (M7 _)
 rw[List.take_length]at k1
 have hSn:s.heap.objs.size ∉ as:=fun hm=>Nat.lt_irrefl _ (hG.above _ hm)
 have hS':H' s.heap.objs.size=none:=by rw[k1 _ hSn];exact (hf _ (M7 _)).1
 have rr:Reps X.K H' (as.map V.ref) (jC kvs):=by
  refine gF (by unfold jC;rw[M5,M5];omega) fun j v d hv hd=>?_
  rw[Mg]at hv
  unfold jC at hd
  rw[Mg]at hd
  cases ha:as[j]? with
  |none=>rw[ha]at hv;cases hv
  |some a =>
   rw[ha]at hv
   cases hv
   cases hq:kvs[j]? with
   |none=>rw[hq]at hd;cases hd
   |some q =>
    rw[hq]at hd
    cases hd
    obtain⟨x,g1,g2,g3⟩:=gO kr j q hq
    have hT:=k2 j a (kV x.1,x.2) (List.getElem?_eq_some_iff.mp ha).1 ha (by rw[Mg,g1];rfl)
    rw[g2]at hT
    exact .tup (.inl hT) (.cons (Ay q.1) (.one (g3.mono (f'.stab rg))))
 have hlen:(as.map V.ref).length≤sizeLine:=by rw[M5];omega
 have hacc':acc=(as.map Value.ref).toArray:=by rw[←hacc,Array.toArray_toList]
 subst hacc'
 have I2:=rW (aa:=s.heap.objs.size) (o:=.lst (as.map V.ref)) I' ⟨hS',(hf _ (M7 _)).2⟩ ⟨hlen,_,c,LiI.vals_refs as,hS⟩
 exact⟨.ref s.heap.objs.size,_,I2,rfl,aA g' rr hw (hp.fra f') _ hS'⟩
theorem sU{W:WX}{Γ:Gam}{k:Nat}(oc:Oc X W Γ k){e:Expr}{p apos cpos pos:Pos}{z:Bool}{w1:WfE}(hg:Gl X "list")(hbase:attributeBase e "items" X.env (eval e X.env)=eval e X.env)(hline:(apos.endLine == cpos.line)=true)(h1:PE X e (LfE X.K W w1)) :
  PE X (.Call (.Name "list" p) [.Call (.Attribute e "items" apos) [] [] cpos] [] pos) (LfE X.K W fun ρ G Q E=>w1 ρ G (fun d G1=>∃kvs,cO G1 d=some kvs∧nw z (jC kvs) G1 Q) E):=by
 have core:PE X (.Call (.Name "list" p) [.Call (.Attribute e "items" apos) [] [] cpos] [] pos) (fun σ H Q=>LfE X.K W w1 σ H fun v H1=>∃G1 d kvs Qa,RelG X.K G1 H1∧Rep X.K H1 v d∧cO G1 d=some kvs∧nw z (jC kvs) G1 Qa∧PostZ X.K G1 H1 Qa Q):=by
  refine⟨fun pins s σ H Q I h=>?_⟩
  have hs:starEach [.Call (.Attribute e "items" apos) [] [] cpos] X.env=(false,eval (.Call (.Attribute e "items" apos) [] [] cpos) X.env) :: starEach [] X.env:=rfl
  refine wpAny_Call_Name_kw (ld_blt I hg (oc.tb.blt .list) (cj .list) ?_ (mJ .list).1 (mJ .list).2)
  refine PyProof.Rows.callWith_type1 ?_ hs rfl
  rw[hs]
  show wpAny _ _ (spliced ((false,eval (.Call (.Attribute e "items" apos) [] [] cpos) X.env) :: backTo pos (starEach [] X.env))) _ _ s
  refine Calls.spliced_cons ?_
  refine wpAny_Call_method (T := "dict") (id := "dict.items") hbase rfl hline F.plainAttrs_dict F.slot_dict_items F.type_dict_items (thn (h1.run pins s σ H _ I h) fun u s1 ⟨x,H1,I1,rx,G1,d0,kvs,Qa,g1,rv,e1,hw,hp⟩=>?_)
  obtain⟨d,vk,rfl,hd,kr⟩:=dP g1 rv e1
  obtain rfl:u=Value.ref d:=rx
  obtain⟨hz,hs0,vs,kv,hdo⟩:=dk_rd I1.hok hd
  obtain⟨ep,hat⟩:=hdo.dictAt
  have lk:vk.length=vs.length:=Paired.length kv
  have I2:Inv X pins σ H1 {s1 with heap:=s1.heap.push {cls:=.type "dict_items",data:=.fields #[.ref d]}}:=I1.kept (t':=s1.toks) fun b ob q=>Heap.get?_push_of_some _ q
  refine⟨hdo.typeIs,hdo.mapOf.noDict,?_⟩
  show wpAny _ _ (callWith cpos (.builtin "dict.items") [.ref d] [] []) _ X.xe s1
  refine method_meetsIn F.slot_dict_items F.entry_dict_items rfl (PySem.evalArgs_none ⟨rfl,hdo.typeIs,F.args_dict_items_1 _,_,meets_dict_items (mixKind X.prog X.w) d hs0,⟨vs,hdo⟩,?_⟩)
  refine Calls.spliced_nil ?_
  refine PySem.W.kdx_call (knd:=mixKind X.prog X.w) (kvs:=vs) (ep:=ep) (I1.ok.hd oc.calm) ⟨_,Heap.get?_push_size _ rfl,rfl,rfl⟩ (hat.push _) (by omega) fun h' tk acc c as hk hS hl hG hacc=>?_
  exact uF I2 g1 hz kr kv hk hS hl hG hacc hw hp
 exact PE.imp (fu core) fun σ H Q ⟨ρ,G,Qa,Ea,hE,hG,hw,hp,hx⟩=>⟨ρ,G,_,Ea,hE,hG,hw,fun d G1 v H1 f g r ⟨kvs,e,q⟩=>⟨G1,d,kvs,Qa,g,r,e,q,bH fun d' G' v' H' f3=>hp d' G' v' H' (f.trans f3)⟩,hx⟩
end
end Av
namespace SrtO
open PySem PySem.Calls PyProof.Rows Srt
section
variable {prog:Program} {w:World} {A:Around} {E:Value→Shared→Prop} {s:Shared} {K:Type} [DecidableEq K] {knd:KeyKind prog w K}
theorem sorted_itemsO{r d:Addr}{kvs:List (K × Value)}{ep:Nat}{Q:Value→Shared→Prop}(hh:A.handled=none)(hv:s.heap.IsItemsView r d)(hm:s.heap.DictAt knd d kvs ep)(hn:kvs.length≤sizeLine)
  (hp:∀(h1:Heap) (as:List Addr),PySem.W.KdxG knd kvs s.heap.objs.size h1 as→as.length=kvs.length→∃k:Value→Int × Int,∀v∈as.map Value.ref,IsPair h1 v (k v).1 (k v).2)
  (h:∀(h1 h':Heap) (tk:Nat) (as:List Addr) (k:Value→Int × Int) (b:Addr) (out:List Value),(∀b o,s.heap.get? b=some o→h1.get? b=some o)→as.length=kvs.length→PySem.W.KdxG knd kvs s.heap.objs.size h1 as→(∀v∈as.map Value.ref,IsPair h1 v (k v).1 (k v).2)→
   Srtd (fun v u=>lexB (k v) (k u)) out→Stb (fun v u=>lexB (k v) (k u)) out (as.map Value.ref)→(∀b o,h1.get? b=some o→h'.get? b=some o)→h1.objs.size≤b→(∃n,h'.get? b=some (seqObj "list" out.toArray n))→Q (.ref b) {s with heap:=h',toks:=tk}) :
  wpAny (model prog w) A (call (.builtin "sorted") [.ref r]) Q E s:=by
 refine Calls.call_function_entry kind_sorted plain_sorted entry_sorted (args_sorted1 _) ?_
 unfold Builtin.«sorted»
 refine wpAny_bind (m:=checkCount "sorted" 1 1 _) (wpAny_pure ?_)
 refine wpAny_bind (PySem.W.kdx_collect (A:=A.in1) (knd:=knd) (kvs:=kvs) (ep:=ep) hh hv hm hn fun h1 tk as hk hl hG=>?_)
 obtain⟨k,hp⟩:=hp h1 as hG hl
 have hz:(as.map Value.ref).length≤sizeLine:=by rw[M5,hl];exact hn
 refine wpAny_bind (wpAny_newList ?_ hz)
 have hoL:(h1.push (seqObj "list" (as.map Value.ref).toArray 0)).get? h1.objs.size=some (seqObj "list" (as.map Value.ref).toArray 0):=Heap.get?_push_size _ rfl
 refine wpAny_bind (wpAny_holding (wpAny_call_entry slot_list_sort ⟨_,hoL,rfl⟩ entry_list_sort (list_sort_ord (swo_lex k) hoL hz (fun h2=>pairs_sortableO (by omega) (fun v hm=>(hp v hm).keeps fun b o e _=>Heap.get?_push_of_some _ e) fun o e=>?_) fun out hs hb=>⟨_,rfl,?_⟩) (args_list_sort _)))
 ·have e':some o=some (seqObj "list" (as.map Value.ref).toArray 0):=e.symm.trans hoL
  cases e'
  intro c
  exact absurd (Value.type.inj c) (by decide)
 ·refine wpAny_pure ⟨_,rfl,h h1 _ tk as k _ out hk hl hG hp hs hb (fun b o e=>?_) (M7 _) (sortedHeap_at hoL)⟩
  have hlt:b<h1.objs.size:=Heap.lt_size e
  rw[sortedHeap_old (Nat.ne_of_lt hlt) (by rw[size_push'];exact Nat.lt_succ_of_lt hlt)]
  exact Heap.get?_push_of_some _ e
end
end SrtO
namespace Av
variable [Tb]
section
variable {X:Cx} {pins:List (Addr × Obj)} {σ:L2.St} {H:Hp} {s:Shared}
theorem oB{K:M0}{prog:Program}{w:World}{h1:Heap}{lo:Addr}{as:List Addr}{vk:List (Key × V)}{kvs:List (Key × Dat)}{vs:List (Key × Value)}{ps:List (Int × Int)}(kr:KRel K H vk kvs)(kv:KV vk vs)(e:jC kvs=ps.map bX)(hG:PySem.W.KdxG (mixKind prog w) vs lo h1 as){j:Nat}{a:Addr}(ha:as[j]?=some a) :
  ∃p t1 t2,ps[j]?=some p∧h1.get? a=some {cls:=.type "tuple",data:=.seq #[.int p.1 t1,.int p.2 t2]}∧vk[j]?=some (.inl p.1,.int p.2):=by
 obtain⟨key,k,x,f1,f2,f3⟩:=hG.pairs j a ha
 obtain⟨y,g1,g2,g3⟩:=kv_get kv j _ f1
 have lk2:vk.length=kvs.length:=cG kr
 have hj:j<kvs.length:=by rw[←lk2];exact (List.getElem?_eq_some_iff.mp g1).1
 obtain⟨⟨q1,q2⟩,hq⟩:∃q,kvs[j]?=some q:=⟨_,Me hj⟩
 obtain⟨y',h1',h2',h3'⟩:=gO kr j (q1,q2) hq
 rw[g1]at h1'
 cases h1'
 have e2:=congrArg (fun l=>l[j]?) e
 simp only[jC,Mg,hq,Option.map_some]at e2
 cases hp:ps[j]? with
 |none=>rw[hp]at e2;cases e2
 |some p =>
  rw[hp]at e2
  simp only[Option.map_some,Option.some.injEq,bX,Dat.tup.injEq,List.cons.injEq,and_true]at e2
  obtain⟨e3,e4⟩:=e2
  cases q1 with
  |inr z=>cases e3
  |inl i =>
   cases e3
   have e4:q2 = .int p.2:=e4
   subst e4
   obtain⟨y1,y2⟩:=y
   have h2':y1 = .inl p.1:=h2'
   subst h2'
   have h3':y2 = .int p.2:=aB h3'
   subst h3'
   have g2:(.inl p.1:Key)=k:=g2
   subst g2
   have rk:RelV (kV (.inl p.1)) key:=relV_key (show keyIs (.inl p.1) key=true from f2)
   obtain⟨t1,rfl⟩:=rk
   obtain⟨t2,rfl⟩:=g3
   exact⟨p,t1,t2,rfl,f3,g1⟩
theorem iZ{h:Heap}{a:Addr}{x y i j:Int}{t1 t2:Nat}(p:Srt.IsPair h (.ref a) x y)(e:h.get? a=some {cls:=.type "tuple",data:=.seq #[.int i t1,.int j t2]}):(x,y)=(i,j):=by
 obtain⟨b,o,u1,u2,n,e1,e2,e3,e4⟩:=p
 cases e1
 rw[e]at e2
 cases e2
 cases e4
 rfl
theorem nH{G:AG}{Qa:AQ}{Q:VK}{z:Bool}{vk:List (Key × V)}{kvs:List (Key × Dat)}{vs:List (Key × Value)}{ps:List (Int × Int)}{h1 h':Heap}{tk:Nat}{as:List Addr}{k:Value→Int × Int}{b:Addr}{out:List Value}(I:Inv X pins σ H s)(rg:RelG X.K G H)(hz:vk.length≤sizeLine)(kr:KRel X.K H vk kvs)(kv:KV vk vs)(e:jC kvs=ps.map bX)
  (hsz:s.heap.objs.size≤h1.objs.size)(hk:∀b o,s.heap.get? b=some o→h1.get? b=some o)(hl:as.length=vs.length)(hG:PySem.W.KdxG (mixKind X.prog X.w) vs s.heap.objs.size h1 as)(hp1:∀v∈as.map Value.ref,Srt.IsPair h1 v (k v).1 (k v).2)(hs:SrtO.Srtd (fun v u=>SrtO.lexB (k v) (k u)) out)(hb:SrtO.Stb (fun v u=>SrtO.lexB (k v) (k u)) out (as.map Value.ref))
  (kk:∀b o,h1.get? b=some o→h'.get? b=some o)(hbn:h1.objs.size≤b)(hbl:∃n,h'.get? b=some (seqObj "list" out.toArray n))
  (hw:∀qs:List (Int × Int),qs.Perm ps→qs.Pairwise iS→nw z (qs.map bX) G Qa)(hp:PostZ X.K G H Qa Q):EP X pins σ Q (.ref b) {s with heap:=h',toks:=tk}:=by
 have I1:Inv X pins σ H {s with heap:=h',toks:=tk}:=I.kept (t':=tk) fun b o e=>kk b o (hk b o e)
 have lk:vk.length=vs.length:=Paired.length kv
 have lk2:vk.length=kvs.length:=cG kr
 have lk3:kvs.length=ps.length:=by have:=congrArg List.length e;unfold jC at this;simpa using this
 have hf:∀b,s.heap.objs.size≤b→FpOk X pins H b:=fun b hb=>I.fpOk hb (I.hok.fresh hb)
 have nd:as.Nodup:=List.Pairwise.imp (fun {a b} (h:a<b)=>Nat.ne_of_lt h) hG.rise
 have atj:=fun {j:Nat} {a:Addr} (ha:as[j]?=some a)=>oB (H:=H) kr kv e hG ha
 obtain⟨H',I',f',g',k1,k2⟩:=fm (as:=as) (xs:=vk.map fun q=>(kV q.1,q.2)) I1 rg hf (by rw[M5];omega) nd (fun a ha=>Nat.le_of_lt (hG.above a ha)) (fun j a hj=>by
  obtain⟨p,t1,t2,p1,p2,p3⟩:=atj hj
  exact⟨(kV (.inl p.1),.int p.2),.int p.1 t1,.int p.2 t2,by rw[Mg,p3];rfl,⟨t1,rfl⟩,⟨t2,rfl⟩,kk _ _ p2⟩) as.length (M7 _)
 rw[List.take_length]at k1
 have hsb:s.heap.objs.size≤b:=Nat.le_trans hsz hbn
 have hSn:b ∉ as:=fun hm=>Nat.lt_irrefl _ (Nat.lt_of_lt_of_le (hG.there hm) hbn)
 have hS':H' b=none:=by rw[k1 _ hSn];exact (hf _ hsb).1
 have href:∀u∈out,∃j a p,as[j]?=some a∧u = .ref a∧ps[j]?=some p∧k u=p∧H' a=some (.tup [.int p.1,.int p.2]):=fun u hu=>by
  obtain⟨a,ha,rfl⟩:=List.mem_map.1 (hb.perm.mem_iff.mp hu)
  obtain⟨j,hj⟩:=List.mem_iff_getElem?.mp ha
  obtain⟨p,t1,t2,p1,p2,p3⟩:=atj hj
  refine⟨j,a,p,hj,rfl,p1,iZ (hp1 _ (List.mem_map.2 ⟨a,ha,rfl⟩)) p2,?_⟩
  exact k2 j a (kV (.inl p.1),.int p.2) (List.getElem?_eq_some_iff.mp hj).1 hj (by rw[Mg,p3];rfl)
 have h3:∀u∈out,∃a,u=Value.ref a:=fun u hu=>by
  obtain⟨_,a,_,_,e,_⟩:=href u hu
  exact⟨a,e⟩
 have mapk:(as.map Value.ref).map k=ps:=by
  refine List.ext_getElem? fun j=>?_
  rw[Mg,Mg]
  cases ha:as[j]? with
  |none =>
   have:ps[j]?=none:=by
    rw[List.getElem?_eq_none_iff]at ha ⊢
    omega
   rw[this];rfl
  |some a =>
   obtain⟨p,t1,t2,p1,p2,p3⟩:=atj ha
   rw[p1]
   exact congrArg some (iZ (hp1 _ (List.mem_map.2 ⟨a,List.mem_of_getElem? ha,rfl⟩)) p2)
 have pm:(out.map k).Perm ps:=by
  have:=hb.perm.map k
  rw[mapk]at this
  exact this
 have le:(out.map k).Pairwise iS:=by
  rw[List.pairwise_map]
  refine List.Pairwise.imp ?_ hs
  intro x y hxy
  have:=SrtO.lexB_no.mp hxy
  unfold iS
  omega
 have rr:Reps X.K H' (out.map backV) ((out.map k).map bX):=by
  have key:∀l:List Value,(∀u∈l,u∈out)→Reps X.K H' (l.map backV) ((l.map k).map bX):=by
   intro l
   induction l with
   |nil=>intro _;exact .nil
   |cons u l ih =>
    intro hl
    obtain⟨j,a,p,_,rfl,_,e,hT⟩:=href u (hl u (Mi ..))
    refine .cons ?_ (ih fun x hx=>hl x (Mj _ hx))
    show Rep X.K H' (.ref a) (bX (k (.ref a)))
    rw[e]
    exact .tup (.inl hT) (.cons (.int _) (.one (.int _)))
  exact key out fun _ h=>h
 have hlen:(out.map backV).length≤sizeLine:=by
  rw[M5,hb.perm.length_eq,M5];omega
 obtain⟨n,hbl⟩:=hbl
 have I2:=rW (aa:=b) (o:=.lst (out.map backV)) I' ⟨hS',(hf _ hsb).2⟩ ⟨hlen,out,n,vals_back h3,hbl⟩
 exact⟨.ref b,_,I2,rfl,aA g' rr (hw _ pm le) (hp.fra f') _ hS'⟩
open Classical in
def kIp(h:Heap)(v:Value):Int × Int:=if e:∃p:Int × Int,Srt.IsPair h v p.1 p.2 then e.choose else (0,0)
theorem Fg{h:Heap}{v:Value}{p:Int × Int}(e:Srt.IsPair h v p.1 p.2):Srt.IsPair h v (kIp h v).1 (kIp h v).2:=by
 unfold kIp
 rw[dif_pos ⟨p,e⟩]
 exact (⟨p,e⟩:∃p:Int × Int,Srt.IsPair h v p.1 p.2).choose_spec
theorem sL{W:WX}{Γ:Gam}{k:Nat}(oc:Oc X W Γ k){e:Expr}{p apos cpos pos:Pos}{z:Bool}{w1:WfE}(hg:Gl X "sorted")(hbase:attributeBase e "items" X.env (eval e X.env)=eval e X.env)(hline:(apos.endLine == cpos.line)=true)(h1:PE X e (LfE X.K W w1)) :
  PE X (.Call (.Name "sorted" p) [.Call (.Attribute e "items" apos) [] [] cpos] [] pos) (LfE X.K W fun ρ G Q E=>w1 ρ G (fun d G1=>∃kvs,cO G1 d=some kvs∧z7 z kvs G1 Q) E):=by
 have core:PE X (.Call (.Name "sorted" p) [.Call (.Attribute e "items" apos) [] [] cpos] [] pos) (fun σ H Q=>LfE X.K W w1 σ H fun v H1=>∃G1 d kvs Qa,RelG X.K G1 H1∧Rep X.K H1 v d∧cO G1 d=some kvs∧z7 z kvs G1 Qa∧PostZ X.K G1 H1 Qa Q):=by
  refine⟨fun pins s σ H Q I h=>?_⟩
  have hs:starEach [.Call (.Attribute e "items" apos) [] [] cpos] X.env=(false,eval (.Call (.Attribute e "items" apos) [] [] cpos) X.env) :: starEach [] X.env:=rfl
  refine wpAny_Call_Name_kw (ld_blt I hg (oc.tb.blt .srt) (cj .srt) ?_ (mJ .srt).1 (mJ .srt).2)
  refine PyProof.Rows.callWith_builtin1 ?_ hs rfl
  rw[hs]
  show wpAny _ _ (spliced ((false,eval (.Call (.Attribute e "items" apos) [] [] cpos) X.env) :: backTo pos (starEach [] X.env))) _ _ s
  refine Calls.spliced_cons ?_
  refine wpAny_Call_method (T := "dict") (id := "dict.items") hbase rfl hline F.plainAttrs_dict F.slot_dict_items F.type_dict_items (thn (h1.run pins s σ H _ I h) fun u s1 ⟨x,H1,I1,rx,G1,d0,kvs,Qa,g1,rv,e1,⟨ps,ep,hw⟩,hp⟩=>?_)
  obtain⟨d,vk,rfl,hd,kr⟩:=dP g1 rv e1
  obtain rfl:u=Value.ref d:=rx
  obtain⟨hz,hs0,vs,kv,hdo⟩:=dk_rd I1.hok hd
  obtain⟨epo,hat⟩:=hdo.dictAt
  have lk:vk.length=vs.length:=Paired.length kv
  have I2:Inv X pins σ H1 {s1 with heap:=s1.heap.push {cls:=.type "dict_items",data:=.fields #[.ref d]}}:=I1.kept (t':=s1.toks) fun b ob q=>Heap.get?_push_of_some _ q
  refine⟨hdo.typeIs,hdo.mapOf.noDict,?_⟩
  show wpAny _ _ (callWith cpos (.builtin "dict.items") [.ref d] [] []) _ X.xe s1
  refine method_meetsIn F.slot_dict_items F.entry_dict_items rfl (PySem.evalArgs_none ⟨rfl,hdo.typeIs,F.args_dict_items_1 _,_,meets_dict_items (mixKind X.prog X.w) d hs0,⟨vs,hdo⟩,?_⟩)
  refine Calls.spliced_nil ?_
  refine SrtO.sorted_itemsO (knd:=mixKind X.prog X.w) (kvs:=vs) (ep:=epo) (I1.ok.hd oc.calm) ⟨_,Heap.get?_push_size _ rfl,rfl,rfl⟩ (hat.push _) (by omega) (fun h1 as hG hl=>⟨kIp h1,fun v hv=>?_⟩) fun h1 h' tk as kf b out hk hl hG hp1 hs2 hb kk hbn hbl=>?_
  ·obtain⟨a,ha,rfl⟩:=List.mem_map.1 hv
   obtain⟨j,hj⟩:=List.mem_iff_getElem?.mp ha
   obtain⟨p,t1,t2,p1,p2,p3⟩:=oB (H:=H1) kr kv ep hG hj
   exact Fg (p:=p) ⟨a,_,t1,t2,_,rfl,p2,rfl,rfl⟩
  ·refine nH I2 g1 hz kr kv ep ?_ hk hl hG hp1 hs2 hb kk hbn hbl hw hp
   have:=Heap.lt_size (hk _ _ (Heap.get?_push_size s1.heap (o:={cls:=.type "dict_items",data:=.fields #[.ref d]}) rfl))
   rw[size_push']
   exact this
 exact PE.imp (fu core) fun σ H Q ⟨ρ,G,Qa,Ea,hE,hG,hw,hp,hx⟩=>⟨ρ,G,_,Ea,hE,hG,hw,fun d G1 v H1 f g r ⟨kvs,e,ps,e2,q⟩=>⟨G1,d,kvs,Qa,g,r,e,⟨ps,e2,q⟩,bH fun d' G' v' H' f3=>hp d' G' v' H' (f.trans f3)⟩,hx⟩
end
end Av
namespace Av
variable [Tb]
section
variable {X:Cx} {W:WX} {x:Expr} {pos:Pos}
theorem aE{w:WfE}(h:∀ρ G Q E,¬w ρ G Q E):PE X x (LfE X.K W w):=⟨fun _ _ _ _ _ _ ⟨ρ,G,Q,E,_,_,hw,_⟩=>absurd hw (h ρ G Q E)⟩
theorem tF{w:WfT}(h:∀ρ G Q E,¬w ρ G Q E):PT X x (LfT X.K W w):=⟨fun _ _ _ _ _ _ ⟨ρ,G,Q,E,_,_,hw,_⟩=>absurd hw (h ρ G Q E)⟩
theorem tM{tg:Expr}{w:WfI}(h:∀ρ G Q E,¬w ρ G Q E):PI X tg x (LfI X.K W w):=⟨fun _ _ _ _ _ _ ⟨ρ,G,Q,E,_,_,hw,_⟩=>absurd hw (h ρ G Q E)⟩
theorem Df{Γ:Gam}{k:Nat}{a b:Expr}{w1 w2:WfE}{n:Bool}(oc:Oc X W Γ k)(hm:behindInMarks (i6 n) b=false)(h1:PE X a (LfE X.K W w1))(h2:PE X b (LfE X.K W w2)) :
  PT X (.Compare a [i6 n] [b] pos) (LfT X.K W fun ρ G Q E=>w1 ρ G (fun y G1=>w2 ρ G1 (fun x G2=>∃kv kk,cO G2 x=some kv∧cC y=some kk∧Q (gL n (au kv kk).isSome) G2) E) E):=by
 refine PT.imp (pt_cmp (vV (n:=n) oc h1 h2) hm) ?_
 rintro σ H Q ⟨ρ,G,Qa,Ea,hE,hG,hw,hp,hx⟩
 refine⟨ρ,G,bM Qa,Ea,hE,hG,hw,fun d G1 v H1 f g r q=>?_,hx⟩
 obtain⟨kb,e,q⟩:=cn q
 subst e
 exact⟨kb,fx r,hp _ _ _ _ f g rfl q⟩
theorem qI{d:Dat}{c:Const}{j:Nat}(h:FI d c=true):PE X (.Constant c j pos) (LfE X.K W fun _ G Q _=>Q d G):=by
 unfold FI at h
 split at h
 ·cases beq_iff_eq.mp h;exact Gv pe_int fun _=>.int _
 ·cases beq_iff_eq.mp h;exact Gv pe_str fun _=>.str _
 ·cases beq_iff_eq.mp h;exact Gv pe_bl fun _=>.bl _
 ·exact Gv pe_non fun _=>.non
 ·cases h
theorem Eu{op:BoolOp}{t:TE}(h:PE X x t):PE X (.BoolOp op [x] pos) t:=⟨fun pins s σ H Q I q=>h.run pins s σ H Q I q⟩
theorem aD{C:Ck}:∀{es:List E} {xs:List Expr},corEs C es xs=true→es.length=xs.length∧xs.all af=true
 |[],[],_=>⟨rfl,rfl⟩
 |e :: es,x :: xs,h=>by
  unfold corEs at h
  simp only[M3]at h
  obtain⟨h1,h2⟩:=aD h.2
  exact⟨by rw[Mb,Mb,h1],by rw[Mo,h.1.1,h2];rfl⟩
 |[],_ :: _,h=>by unfold corEs at h;cases h
 |_ :: _,[],h=>by unfold corEs at h;cases h
theorem aL{x:Expr}{xs:List Expr}(h:(x :: xs).all af=true):af x=true∧xs.all af=true:=by
 rw[Mo,M3]at h
 exact h
theorem lC{y:Expr}{ys:List Expr}{env:Env}(h:(y :: ys).all af=true)(hl:ys.length<20) :
  ((backTo pos (starEach (y :: ys) env)).all (fun x=>!x.1) && (backToKw pos (keywordEach [] env)).all (fun x=>x.1.isSome)
   && decide ((y :: ys).length+([]:List Keyword).length+(if ([]:List Keyword).isEmpty then 0 else 1)<30))=true:=by
 rw[ca h]
 show decide (ys.length+1+0+0<30)=true
 exact decide_eq_true (by omega)
theorem gM{o:Expr}{m:Str}{apos:Pos}{env:Env}{xs:List Expr}(h:aI o=true)(hl:(apos.endLine == pos.line)=true)(hs:xs.all af=true)(hn:xs.length<20):eval (.Call (.Attribute o m apos) xs [] pos) env=(do
   let w ←eval o env
   standAt apos.atName
   let (g,one) ←holding [w] (getMethod w m (do return (←importBound o env).getD true))
   callWith pos g one (backTo pos (starEach xs env)) (backToKw pos (keywordEach [] env))):=by
 have e1:eval (.Call (.Attribute o m apos) xs [] pos) env=(do
   let w ←attributeBase o m env (eval o env)
   standAt apos.atName
   methodCall o m apos pos env w (xs.length+0) (backTo pos (starEach xs env)) (backToKw pos (keywordEach [] env))):=rfl
 have few:methodCallForm (xs.length+0) (backTo pos (starEach xs env)) (backToKw pos (keywordEach [] env))=true:=by
  unfold methodCallForm
  rw[ca hs]
  show decide (xs.length+0+0<30)=true
  exact decide_eq_true (by omega)
 have e2:∀w,methodCall o m apos pos env w (xs.length+0) (backTo pos (starEach xs env)) (backToKw pos (keywordEach [] env))=(do
   let (g,one) ←holding [w] (getMethod w m (do return (←importBound o env).getD true))
   callWith pos g one (backTo pos (starEach xs env)) (backToKw pos (keywordEach [] env))):=fun w=>by
  unfold methodCall calleeOf methodCallPos
  rw[few,hl]
  simp only[if_true,Bool.not_true,Bool.or_true,pure_bind]
 rw[e1,aP h]
 simp only[e2]
theorem pq{C:Ck}{env:Env}{pos:Pos}:∀{es:List E} {ks:List Str} {kws:List Keyword},corKs C es ks kws=true→(backToKw pos (keywordEach kws env)).all (·.1.isSome)=true
 |[],[],[],_=>rfl
 |e :: es,n :: ks,⟨some m,x,p⟩ :: kws,h=>by
  unfold corKs at h
  simp only[M3]at h
  show (true && _)=true
  rw[Bool.true_and]
  exact pq h.2
 |[],[],_ :: _,h=>by unfold corKs at h;cases h
 |[],_ :: _,_,h=>by unfold corKs at h;cases h
 |_ :: _,[],_,h=>by unfold corKs at h;cases h
 |_ :: _,_ :: _,[],h=>by unfold corKs at h;cases h
 |_ :: _,_ :: _,⟨none,_,_⟩ :: _,h=>by unfold corKs at h;cases h
theorem wN{C:Ck}{env:Env}{pos:Pos}:∀{es:List E} {ks:List Str} {kws:List Keyword},corKs C es ks kws=true→(backToKw pos (keywordEach kws env)).filterMap (·.1)=ks
 |[],[],[],_=>rfl
 |e :: es,n :: ks,⟨some m,x,p⟩ :: kws,h=>by
  unfold corKs at h
  simp only[M3]at h
  cases aM h.1.1
  show n :: _=n :: ks
  exact congrArg (n :: ·) (wN h.2)
 |[],[],_ :: _,h=>by unfold corKs at h;cases h
 |[],_ :: _,_,h=>by unfold corKs at h;cases h
 |_ :: _,[],_,h=>by unfold corKs at h;cases h
 |_ :: _,_ :: _,[],h=>by unfold corKs at h;cases h
 |_ :: _,_ :: _,⟨none,_,_⟩ :: _,h=>by unfold corKs at h;cases h
theorem pk{C:Ck}{env:Env}{pos:Pos}:∀{es:List E} {ks:List Str} {kws:List Keyword},corKs C es ks kws=true→(backToKw pos (keywordEach kws env)).any (·.1.isNone)=false
 |[],[],[],_=>rfl
 |e :: es,n :: ks,⟨some m,x,p⟩ :: kws,h=>by
  unfold corKs at h
  simp only[M3]at h
  show (false|| _)=false
  rw[Bool.false_or]
  exact pk h.2
 |[],[],_ :: _,h=>by unfold corKs at h;cases h
 |[],_ :: _,_,h=>by unfold corKs at h;cases h
 |_ :: _,[],_,h=>by unfold corKs at h;cases h
 |_ :: _,_ :: _,[],h=>by unfold corKs at h;cases h
 |_ :: _,_ :: _,⟨none,_,_⟩ :: _,h=>by unfold corKs at h;cases h
theorem uC{C:Ck}{env:Env}{pos:Pos}{xs:List Expr}{es:List E}{ks:List Str}{kws:List Keyword}(h1:xs.all af=true)(h:corKs C es ks kws=true) :
  ((backTo pos (starEach xs env)).any (·.1)|| (backToKw pos (keywordEach kws env)).any (·.1.isNone))=false:=by
 rw[az h1,pk h]
 rfl
theorem uf{o:Expr}{m:Str}{apos:Pos}{env:Env}{xs:List Expr}{kws:List Keyword}(h:aI o=true)(hl:(apos.endLine == pos.line)=true)(hs:xs.all af=true)(hk:(backToKw pos (keywordEach kws env)).all (·.1.isSome)=true)(hk2:kws.length<8)(hn:xs.length<20):eval (.Call (.Attribute o m apos) xs kws pos) env=(do
   let w ←eval o env
   standAt apos.atName
   let (g,one) ←holding [w] (getMethod w m (do return (←importBound o env).getD true))
   callWith pos g one (backTo pos (starEach xs env)) (backToKw pos (keywordEach kws env))):=by
 have e1:eval (.Call (.Attribute o m apos) xs kws pos) env=(do
   let w ←attributeBase o m env (eval o env)
   standAt apos.atName
   methodCall o m apos pos env w (xs.length+kws.length) (backTo pos (starEach xs env)) (backToKw pos (keywordEach kws env))):=rfl
 have few:methodCallForm (xs.length+kws.length) (backTo pos (starEach xs env)) (backToKw pos (keywordEach kws env))=true:=by
  unfold methodCallForm
  rw[ca hs,hk]
  have:∀b:Bool,(if b=true then 0 else 1)≤1:=by decide
  have:=this (backToKw pos (keywordEach kws env)).isEmpty
  simp only[Bool.true_and,decide_eq_true_eq]
  omega
 have e2:∀w,methodCall o m apos pos env w (xs.length+kws.length) (backTo pos (starEach xs env)) (backToKw pos (keywordEach kws env))=(do
   let (g,one) ←holding [w] (getMethod w m (do return (←importBound o env).getD true))
   callWith pos g one (backTo pos (starEach xs env)) (backToKw pos (keywordEach kws env))):=fun w=>by
  unfold methodCall calleeOf methodCallPos
  rw[few,hl]
  simp only[if_true,Bool.not_true,Bool.or_true,pure_bind]
 rw[e1,aP h]
 simp only[e2]
theorem lJ{C:Ck}:∀{es:List E} {ks:List (Option Expr)} {vs:List Expr},corD C es ks vs=true→ks.length=vs.length∧ks.all (·.isSome)=true
 |[],[],[],_=>⟨rfl,rfl⟩
 |k :: v :: es,some x :: ks,y :: vs,h=>by
  unfold corD at h
  simp only[M3]at h
  obtain⟨h1,h2⟩:=lJ h.2
  exact⟨by rw[Mb,Mb,h1],by rw[Mo,h2];rfl⟩
 |[],[],_ :: _,h=>by unfold corD at h;cases h
 |[],_ :: _,_,h=>by unfold corD at h;cases h
 |[_],_,_,h=>by unfold corD at h;cases h
 |_ :: _ :: _,[],_,h=>by unfold corD at h;cases h
 |_ :: _ :: _,none :: _,_,h=>by unfold corD at h;cases h
 |_ :: _ :: _,some _ :: _,[],h=>by unfold corD at h;cases h
theorem Kf{xs:List Expr}{env:Env}(h:xs.all af=true)(hl:xs.length<20):((backTo pos (starEach xs env)).all (fun x=>!x.1) && (backToKw pos (keywordEach [] env)).all (fun x=>x.1.isSome)
   && decide (xs.length+([]:List Keyword).length+(if ([]:List Keyword).isEmpty then 0 else 1)<30))=true:=by
 rw[ca h]
 show decide (xs.length+0+0<30)=true
 exact decide_eq_true (by omega)
theorem E4{X:Cx}{o e:Expr}{m:Str}{apos:Pos}(h:aI o=true)(hl:(apos.endLine == pos.line)=true)(hs:af e=true):M1 X o m apos e pos :=
 ⟨aP h,Kf (xs:=[e]) (by rw[Mo,hs];rfl) (show 1<20 by decide),hl,by rw[ax hs];rfl⟩
theorem A8{X:Cx}{o e f:Expr}{m:Str}{apos:Pos}(h:aI o=true)(hl:(apos.endLine == pos.line)=true)(hs:af e=true)(hs2:af f=true):M2 X o m apos e f pos :=
 ⟨aP h,Kf (xs:=[e,f]) (by rw[Mo,Mo,hs,hs2];rfl) (show 2<20 by decide),hl,by rw[ax hs,ax hs2];rfl⟩
theorem oP{i:Expr}(h:bI i=true):NoSl i:=dY h
end
mutual
theorem okE{Γ:Gam}{k:Nat}:∀(e:E) {X:Cx} {W:WX} {C:Ck} (x:Expr),Oc X W Γ k→bz X C Γ→ae C e x=true→PE X x (LfE X.K W (wE Γ e))
 |.var i,X,W,C,x,oc,ck,h=>by
  unfold ae at h
  split at h
  ·obtain⟨h1,h2,h3,h4⟩:=cF ck h
   exact DE h1 h2 h3 h4
  ·cases h
 |.cst d,X,W,C,x,oc,ck,h=>by
  unfold ae at h
  split at h
  ·exact qI h
  ·cases h
 |.glo n,X,W,C,x,oc,ck,h=>by
  unfold ae at h
  split at h
  ·simp only[M3]at h
   cases aM h.1
   obtain⟨h1,h2,h3⟩:=aF ck h.2
   exact DT oc h1 h3 h2
  ·cases h
 |.bin z o a b,X,W,C,x,oc,ck,h=>by
  unfold ae at h
  split at h
  ·simp only[M3,beq_iff_eq]at h
   obtain⟨⟨rfl,h1⟩,h2⟩:=h
   obtain⟨r,k1,k2⟩:=xC X z o
   exact HD k1 k2 (okE a _ oc ck h1) (okE b _ oc ck h2)
  ·cases h
 |.neg a,X,W,C,x,oc,ck,h=>by
  unfold ae at h
  split at h
  ·exact DM (okE a _ oc ck h)
  ·cases h
 |.cmp o a b,X,W,C,x,oc,ck,h=>by
  unfold ae at h
  split at h
  ·simp only[M3,beq_iff_eq]at h
   obtain⟨⟨⟨rfl,h0⟩,h1⟩,h2⟩:=h
   obtain⟨r,k1,k2⟩:=f8 X oc.room.units oc.tb.kt.eqc o
   exact DZ k1 k2 (ba h0) (okE a _ oc ck h1) (okE b _ oc ck h2)
  ·cases h
 |.cmp2 o o' a b c,X,W,C,x,oc,ck,h=>by
  unfold ae at h
  split at h
  ·simp only[M3,beq_iff_eq]at h
   obtain⟨⟨⟨⟨⟨rfl,rfl⟩,h0⟩,h1⟩,h2⟩,h3⟩:=h
   obtain⟨r,k1,k2⟩:=f8 X oc.room.units oc.tb.kt.eqc o
   obtain⟨r',k1',k2'⟩:=f8 X oc.room.units oc.tb.kt.eqc o'
   exact As k1 k2 k1' k2' (ba h0) (okE a _ oc ck h1) (okE b _ oc ck h2) (okE c _ oc ck h3)
  ·cases h
 |.andV a b,X,W,C,x,oc,ck,h=>by
  unfold ae at h
  split at h
  ·simp only[M3]at h
   exact D2 (okE a _ oc ck h.1) (okE b _ oc ck h.2)
  ·cases h
 |.orV a b,X,W,C,x,oc,ck,h=>by
  unfold ae at h
  split at h
  ·simp only[M3]at h
   exact HC (okE a _ oc ck h.1) (okE b _ oc ck h.2)
  ·cases h
 |.one a,X,W,C,x,oc,ck,h=>by
  unfold ae at h
  split at h
  ·exact Eu (okE a _ oc ck h)
  ·cases h
 |.notV a,X,W,C,x,oc,ck,h=>by
  unfold ae at h
  split at h
  ·exact DK (okE a _ oc ck h)
  ·cases h
 |.ite c a b,X,W,C,x,oc,ck,h=>by
  unfold ae at h
  split at h
  ·simp only[M3]at h
   exact DS (okT c _ oc ck h.1.1).1 (okE a _ oc ck h.1.2) (okE b _ oc ck h.2)
  ·cases h
 |.tup es,X,W,C,x,oc,ck,h=>by
  unfold ae at h
  split at h
  ·exact DF (okEs es _ oc ck h)
  ·cases h
 |.lst z es,X,W,C,x,oc,ck,h=>by
  unfold ae at h
  split at h
  ·exact DO (okEs es _ oc ck h)
  ·cases h
 |.ix a b,X,W,C,x,oc,ck,h=>by
  unfold ae at h
  split at h
  ·simp only[M3]at h
   exact HF (dY h.1.1) (okE a _ oc ck h.1.2) (okE b _ oc ck h.2)
  ·cases h
 |.slAll z a,X,W,C,x,oc,ck,h=>by
  unfold ae at h
  split at h
  ·exact sN (okE a _ oc ck h) eM eM
  ·cases h
 |.slFrom z a lo,X,W,C,x,oc,ck,h=>by
  unfold ae at h
  split at h
  ·simp only[M3]at h
   exact sN (okE a _ oc ck h.1) (eK (okE lo _ oc ck h.2)) eM
  ·cases h
 |.slTo z a hi,X,W,C,x,oc,ck,h=>by
  unfold ae at h
  split at h
  ·simp only[M3]at h
   exact sN (okE a _ oc ck h.1) eM (eK (okE hi _ oc ck h.2))
  ·cases h
 |.sl z a lo hi,X,W,C,x,oc,ck,h=>by
  unfold ae at h
  split at h
  ·simp only[M3]at h
   exact sN (okE a _ oc ck h.1.1) (eK (okE lo _ oc ck h.1.2)) (eK (okE hi _ oc ck h.2))
  ·cases h
 |.tupR a b,X,W,C,x,oc,ck,h=>by
  unfold ae at h
  split at h
  ·simp only[M3]at h
   cases aM h.1.1.1.1.1.1.1
   cases aM h.1.1.1.1.1.2
   obtain⟨t1,t2,t3⟩:=aF ck h.1.1.1.1.1.1.2
   obtain⟨h1,h2,h3⟩:=aF ck h.1.1.1.1.2
   exact Ag oc.calm t1 (oc.tb.blt .tuple) h1 oc.tb.rng (okE a _ oc ck h.1.2) (okE b _ oc ck h.2) (by rw[ax h.1.1.1.2]) (ax h.1.1.2) (by rw[ax h.1.1.2];rfl)
  ·cases h
 |.rev a,X,W,C,x,oc,ck,h=>by
  unfold ae at h
  split at h
  ·simp only[M3,beq_iff_eq]at h
   obtain⟨rfl,h1⟩:=h
   exact DI (okE a _ oc ck h1)
  ·cases h
 |.revT a,X,W,C,x,oc,ck,h=>by
  unfold ae at h
  split at h
  ·simp only[M3,beq_iff_eq]at h
   obtain⟨rfl,h1⟩:=h
   exact Aj (okE a _ oc ck h1)
  ·cases h
 |.call f es,X,W,C,x,oc,ck,h=>by
  cases hF:Γ.fn f with
  |none=>exact aE fun ρ G Q E hw=>by unfold wE at hw;rw[hF]at hw;exact hw
  |some F =>
   by_cases ha:F.ar≤es.length+F.dfl.length∧es.length≤F.ar
   ·cases es with
    |nil =>
     unfold ae at h
     split at h
     ·simp only[M3]at h
      cases aM h.1
      obtain⟨h1,h2,h3⟩:=aF ck h.2
      refine PE.imp (tj oc hF h1 h2 ha.1) ?_
      rintro σ H Q ⟨ρ,G,Qa,Ea,hE,hG,hw,hp,hx⟩
      unfold wE at hw
      rw[hF]at hw
      exact⟨ρ,G,Qa,Ea,hE,hG,hw.2,hp,hx⟩
     ·cases h
    |cons e es =>
     unfold ae at h
     split at h
     ·simp only[M3]at h
      cases aM h.1.1
      obtain⟨h1,h2,h3⟩:=aF ck h.1.2
      obtain⟨l1,l2⟩:=aD h.2
      obtain⟨l3,l4⟩:=aL l2
      have hq:=okEs (e :: es) _ oc ck h.2
      rw[l1]at ha
      refine PE.imp (At oc hF h1 h2 ha.1 ha.2 hq (ax l3) (az l4)) ?_
      rintro σ H Q ⟨ρ,G,Qa,Ea,hE,hG,hw,hp,hx⟩
      unfold wE at hw
      rw[hF]at hw
      rw[←l1]
      exact⟨ρ,G,Qa,Ea,hE,hG,hw.2,hp,hx⟩
     ·cases h
   ·exact aE fun ρ G Q E hw=>by unfold wE at hw;rw[hF]at hw;exact ha hw.1
 |.blt z f es,X,W,C,x,oc,ck,h=>by
  unfold ae at h
  split at h
  ·simp only[M3]at h
   cases aM h.1.1
   obtain⟨h1,h2,h3⟩:=aF ck h.1.2.1
   obtain⟨l1,l2⟩:=aD h.2
   obtain⟨l3,l4⟩:=aL l2
   exact D0 oc (fun e=>ck.gd (by have z:=h.1.2.2;subst e;exact z)) h1 (okEs es _ oc ck h.2) (ax l3) (az l4)
  ·cases h
 |.meth m o es,X,W,C,x,oc,ck,h=>by
  cases es with
  |nil =>
   unfold ae at h
   split at h
   ·simp only[M3]at h
    cases aM h.1.1.1
    exact sP (okE o _ oc ck h.2) (aP h.1.1.2) h.1.2
   ·cases h
  |cons e es =>
   unfold ae at h
   split at h
   ·simp only[M3,decide_eq_true_eq]at h
    cases aM h.1.1.1.1.1
    obtain⟨l1,l2⟩:=aD h.2
    obtain⟨l3,l4⟩:=aL l2
    exact Am (okE o _ oc ck h.1.2) (okEs (e :: es) _ oc ck h.2) (aP h.1.1.1.1.2) (lC l2 h.1.1.2) h.1.1.1.2 (ax l3) (az l4)
   ·cases h
 |.lc z e g it own,X,W,C,x,oc,ck,h=>by
  unfold ae at h
  split at h
  ·simp only[M3]at h
   obtain⟨on,rfl,k1,k2,k3,k4⟩:=iW ck oc.calm oc.nd h.1.1
   refine PE.imp (vU (z:=z) (wt:=fun _ G Q _=>Q true G) oc (okI it _ _ oc ck h.1.2) k1 k2 k3 (fun s H c cl fp=>pts_nil) (fun s H c cl fp=>okE e _ (oc.blk s H _ _ fp) (bJ ck s H _ cl c fp) h.2) k4 (fun σ H Q ρ G Qa a b c d=>gi _ σ H Q ρ G Qa a b c d)) ?_
   rintro σ H Q ⟨ρ,G,Qa,Ea,hE,hG,hw,hp,hx⟩
   refine⟨ρ,G,Qa,Ea,hE,hG,?_,hp,hx⟩
   unfold wE at hw
   unfold lcG
   simp only[iU]
   exact hw
  ·cases h
 |.fhex s a,X,W,C,x,oc,ck,h=>by
  unfold ae at h
  split at h
  ·simp only[M3,decide_eq_true_eq]at h
   obtain⟨⟨⟨⟨h1,h2⟩,h3⟩,h4⟩,h5⟩:=h
   cases aM h1
   subst h2 h3
   exact Ap h4 (okE a _ oc ck h5)
  ·cases h
 |.lcX z e g it own ls,X,W,C,x,oc,ck,h=>by
  unfold ae at h
  split at h
  ·simp only[M3]at h
   obtain⟨⟨⟨⟨ht,h1⟩,h2⟩,h3⟩,h4⟩:=h
   obtain⟨on,rfl,k1,k2,k3,k4⟩:=o8 ck oc.calm oc.nd ht h1
   refine PE.imp (DP (z:=z) (wt:=fun _ G Q _=>Q true G) (we:=fun ρ G Q E=>∀cs:Nat→Option Addr,(∀i∈ls,∃c,cs i=some c)→wE {Γ with cs:=cs} e ρ G Q E) oc (okI it _ _ oc ck h3) k1 k2 k3 (fun pins σ s H fp I=>pts_nil) (fun pins σ s H fp I=>?_) k4 (fun σ H Q ρ G Qa a b c d=>gi _ σ H Q ρ G Qa a b c d)) ?_
   ·obtain⟨cz,all⟩:=xv (fp:=fp) ck k1 ht h2 I
    exact PE.imp (okE e _ (oc.blkC s H _ _ fp _) (gR ck ht cz) h4) fun σ H Q ⟨ρ,G,Qa,Ea,hE,hG,hw,hp,hx⟩=>⟨ρ,G,Qa,Ea,hE,hG,hw _ all,hp,hx⟩
   rintro σ H Q ⟨ρ,G,Qa,Ea,hE,hG,hw,hp,hx⟩
   refine⟨ρ,G,Qa,Ea,hE,hG,?_,hp,hx⟩
   unfold wE at hw
   unfold lcG
   simp only[iU]
   exact hw
  ·cases h
 |.lstR1 z b,X,W,C,x,oc,ck,h=>by
  unfold ae at h
  split at h
  ·simp only[M3]at h
   obtain⟨⟨⟨⟨⟨h1,h2⟩,h3⟩,h4⟩,h5⟩,h6⟩:=h
   cases aM h1
   cases aM h3
   exact sS oc.calm (aF ck h2).1 (oc.tb.blt .list) (aF ck h4).1 oc.tb.rng (okE b _ oc ck h6) (ax h5)
  ·cases h
 |.lstR2 z a b,X,W,C,x,oc,ck,h=>by
  unfold ae at h
  split at h
  ·simp only[M3]at h
   obtain⟨⟨⟨⟨⟨⟨⟨h1,h2⟩,h3⟩,h4⟩,h5⟩,h6⟩,h7⟩,h8⟩:=h
   cases aM h1
   cases aM h3
   exact sR oc.calm (aF ck h2).1 (oc.tb.blt .list) (aF ck h4).1 oc.tb.rng (okE a _ oc ck h7) (okE b _ oc ck h8) (by rw[ax h5]) (ax h6) (by rw[ax h6];rfl)
  ·cases h
 |.lstIt z a,X,W,C,x,oc,ck,h=>by
  unfold ae at h
  split at h
  ·simp only[M3]at h
   obtain⟨⟨⟨⟨⟨h1,h2⟩,h3⟩,h4⟩,h5⟩,h6⟩:=h
   cases aM h1
   cases aM h3
   exact sU oc (aF ck h2).1 (aP h4) h5 (okE a _ oc ck h6)
  ·cases h
 |.srtIt z a,X,W,C,x,oc,ck,h=>by
  unfold ae at h
  split at h
  ·simp only[M3]at h
   obtain⟨⟨⟨⟨⟨h1,h2⟩,h3⟩,h4⟩,h5⟩,h6⟩:=h
   cases aM h1
   cases aM h3
   exact sL oc (aF ck h2).1 (aP h4) h5 (okE a _ oc ck h6)
  ·cases h
 |.lstEn z a,X,W,C,x,oc,ck,h=>by
  unfold ae at h
  split at h
  ·simp only[M3]at h
   obtain⟨⟨⟨⟨⟨h1,h2⟩,h3⟩,h4⟩,h5⟩,h6⟩:=h
   cases aM h1
   cases aM h3
   exact sV oc (aF ck h2).1 (aF ck h4).1 h5 (okE a _ oc ck h6)
  ·cases h
 |.srtk z e l,X,W,C,x,oc,ck,h=>by
  unfold ae at h
  split at h
  ·simp only[M3]at h
   obtain⟨⟨⟨⟨⟨h1,h2⟩,h3⟩,h4⟩,h5⟩,h6⟩:=h
   cases aM h1
   cases aM h3
   exact Ai oc (aF ck h2).1 h4 (okE e _ oc ck h5) (okE l _ oc ck h6)
  ·cases h
 |.dcIf ek ev g it t own,X,W,C,x,oc,ck,h=>by
  unfold ae at h
  split at h
  ·simp only[M3]at h
   obtain⟨⟨⟨⟨h1,h2⟩,h3⟩,h4⟩,h5⟩:=h
   obtain⟨on,rfl,k1,k2,k3,k4⟩:=iW ck oc.calm oc.nd h1
   exact DY (wt:=wT Γ t) oc (okI it _ _ oc ck h2) k1 k2 k3 (fun s H c cl fp=>pts_one (okT t _ (oc.blk s H _ _ fp) (bJ ck s H _ cl c fp) h5).1) (fun s H c cl fp=>okE ek _ (oc.blk s H _ _ fp) (bJ ck s H _ cl c fp) h3) (fun s H c cl fp=>okE ev _ (oc.blk s H _ _ fp) (bJ ck s H _ cl c fp) h4) k4
    (fun σ H Q ρ G Qa a b c d=>jH _ σ H Q ρ G Qa a b c d)
  ·cases h
 |.lcIf z e g it t own,X,W,C,x,oc,ck,h=>by
  unfold ae at h
  split at h
  ·simp only[M3]at h
   obtain⟨on,rfl,k1,k2,k3,k4⟩:=iW ck oc.calm oc.nd h.1.1.1
   exact vU (z:=z) (wt:=wT Γ t) oc (okI it _ _ oc ck h.1.1.2) k1 k2 k3 (fun s H c cl fp=>pts_one (okT t _ (oc.blk s H _ _ fp) (bJ ck s H _ cl c fp) h.2).1) (fun s H c cl fp=>okE e _ (oc.blk s H _ _ fp) (bJ ck s H _ cl c fp) h.1.2) k4
    (fun σ H Q ρ G Qa a b c d=>jH _ σ H Q ρ G Qa a b c d)
  ·cases h
 |.frz a,X,W,C,x,oc,ck,h=>by
  unfold ae at h
  exact DW (okE a _ oc ck h)
 |.att a f,X,W,C,x,oc,ck,h=>by
  unfold ae at h
  split at h
  ·simp only[M3]at h
   cases aM h.1.1
   exact D1 oc (okE a _ oc ck h.2) (aP h.1.2)
  ·cases h
 |.mnam n m o es ks fs,X,W,C,x,oc,ck,h=>by
  unfold ae at h
  split at h
  ·rename_i y g ap zs kws cp
   simp only[M3]at h
   obtain⟨⟨⟨⟨⟨⟨⟨h1,h2⟩,h3⟩,h4⟩,h8⟩,h5⟩,h6⟩,h7⟩:=h
   cases aM h1
   obtain⟨l1,l2⟩:=aD h6
   cases hF:Γ.mn n m es.length ks with
   |none=>exact aE fun ρ G Q E hw=>by unfold wE at hw;rw[hF]at hw;exact hw
   |some F =>
    refine PE.imp (Al (n:=es.length) oc hF (okE o _ oc ck h5) (okEs es _ oc ck h6) (okKs fs _ _ oc ck h7) (pq h7) (wN h7) (fun e es' e1=>by subst e1;exact ax (aL l2).1) (uC l2 h7) (fun ρ G Q E e1 hw=>?_) (uf h2 h3 l2 (pq h7) (of_decide_eq_true h8) (of_decide_eq_true h4))) ?_
    ·subst e1
     cases es with
     |nil=>exact hw
     |cons e es=>cases l1
    ·rintro σ H Q ⟨ρ,G,Qa,Ea,hE,hG,hw,hp,hx⟩
     unfold wE at hw
     rw[hF]at hw
     exact⟨ρ,G,Qa,Ea,hE,hG,hw,hp,hx⟩
  ·cases h
 |.ccall n m es,X,W,C,x,oc,ck,h=>by
  cases hF:Γ.cm n m with
  |none=>exact aE fun ρ G Q E hw=>by unfold wE at hw;rw[hF]at hw;exact hw
  |some F =>
   by_cases ha:F.ar≤es.length+F.dfl.length∧es.length≤F.ar
   ·unfold ae at h
    split at h
    ·rename_i y p g ap z zs cp
     simp only[M3]at h
     obtain⟨⟨⟨⟨⟨h1,h2⟩,h3⟩,h4⟩,h5⟩,h6⟩:=h
     cases aM h1
     cases aM h2
     obtain⟨g1,g2,g3⟩:=aF ck h3
     obtain⟨l1,l2⟩:=aD h6
     obtain⟨l3,l4⟩:=aL l2
     have hq:=okEs es _ oc ck h6
     rw[l1]at ha
     refine PE.imp (td oc hF g1 g2 ha.1 ha.2 hq (ax l3) (az l4) (gM rfl h4 l2 (of_decide_eq_true h5))) ?_
     rintro σ H Q ⟨ρ,G,Qa,Ea,hE,hG,hw,hp,hx⟩
     unfold wE at hw
     rw[hF]at hw
     rw[←l1]
     exact⟨ρ,G,Qa,Ea,hE,hG,hw.2,hp,hx⟩
    ·cases h
   ·exact aE fun ρ G Q E hw=>by unfold wE at hw;rw[hF]at hw;exact ha hw.1
 |.mcall n m o es,X,W,C,x,oc,ck,h=>by
  cases hF:Γ.ms n m with
  |none=>exact aE fun ρ G Q E hw=>by unfold wE at hw;rw[hF]at hw;exact hw
  |some F =>
   by_cases ha:F.ar≤es.length+1+F.dfl.length∧es.length+1≤F.ar
   ·cases es with
    |nil =>
     unfold ae at h
     split at h
     ·simp only[M3]at h
      cases aM h.1.1.1
      refine PE.imp (nU oc hF ha.1 ha.2 (okE o _ oc ck h.2) (gM h.1.1.2 h.1.2 rfl (Nat.zero_lt_succ _))) ?_
      rintro σ H Q ⟨ρ,G,Qa,Ea,hE,hG,hw,hp,hx⟩
      unfold wE at hw
      rw[hF]at hw
      exact⟨ρ,G,Qa,Ea,hE,hG,hw.2,hp,hx⟩
     ·cases h
    |cons e es =>
     unfold ae at h
     split at h
     ·simp only[M3]at h
      cases aM h.1.1.1.1.1
      obtain⟨l1,l2⟩:=aD h.2
      obtain⟨l3,l4⟩:=aL l2
      have hq:=okEs (e :: es) _ oc ck h.2
      rw[l1]at ha
      refine PE.imp (sQ oc hF ha.1 ha.2 (okE o _ oc ck h.1.2) hq (ax l3) (az l4) (gM h.1.1.1.1.2 h.1.1.1.2 l2 (of_decide_eq_true h.1.1.2))) ?_
      rintro σ H Q ⟨ρ,G,Qa,Ea,hE,hG,hw,hp,hx⟩
      unfold wE at hw
      rw[hF]at hw
      rw[←l1]
      exact⟨ρ,G,Qa,Ea,hE,hG,hw.2,hp,hx⟩
     ·cases h
   ·exact aE fun ρ G Q E hw=>by unfold wE at hw;rw[hF]at hw;exact ha hw.1
 |.new n es,X,W,C,x,oc,ck,h=>by
  cases hF:Γ.mke n with
  |none=>exact aE fun ρ G Q E hw=>by unfold wE at hw;rw[hF]at hw;exact hw
  |some F =>
   by_cases ha:F.ar≤es.length+1+F.dfl.length∧es.length+1≤F.ar
   ·cases es with
    |nil =>
     unfold ae at h
     split at h
     ·simp only[M3]at h
      cases aM h.1
      obtain⟨h1,h2,h3⟩:=aF ck h.2
      refine PE.imp (Ak oc hF h1 h2 ha.1 ha.2) ?_
      rintro σ H Q ⟨ρ,G,Qa,Ea,hE,hG,hw,hp,hx⟩
      unfold wE at hw
      rw[hF]at hw
      exact⟨ρ,G,Qa,Ea,hE,hG,hw.2,hp,hx⟩
     ·cases h
    |cons e es =>
     unfold ae at h
     split at h
     ·simp only[M3]at h
      cases aM h.1.1
      obtain⟨h1,h2,h3⟩:=aF ck h.1.2
      obtain⟨l1,l2⟩:=aD h.2
      obtain⟨l3,l4⟩:=aL l2
      have hq:=okEs (e :: es) _ oc ck h.2
      rw[l1]at ha
      refine PE.imp (DL oc hF h1 h2 ha.1 ha.2 hq (ax l3) (az l4)) ?_
      rintro σ H Q ⟨ρ,G,Qa,Ea,hE,hG,hw,hp,hx⟩
      unfold wE at hw
      rw[hF]at hw
      rw[←l1]
      exact⟨ρ,G,Qa,Ea,hE,hG,hw.2,hp,hx⟩
     ·cases h
   ·exact aE fun ρ G Q E hw=>by unfold wE at hw;rw[hF]at hw;exact ha hw.1
 |.dlit es,X,W,C,x,oc,ck,h=>by
  unfold ae at h
  split at h
  ·rename_i ks vs q
   simp only[M3,decide_eq_true_eq]at h
   obtain⟨l1,l2⟩:=lJ h.1
   by_cases h0:ks=[]
   ·subst h0
    have:vs=[]:=List.length_eq_zero_iff.mp l1.symm
    subst this
    cases es with
    |nil=>exact sZ
    |cons a r =>
     cases r with
     |nil=>have:=h.1;unfold corD at this;cases this
     |cons=>have:=h.1;unfold corD at this;cases this
   ·exact Ar (okD es ks vs oc ck h.1) l2 l1 h0 h.2
  ·cases h
 |.dix a b,X,W,C,x,oc,ck,h=>by
  unfold ae at h
  split at h
  ·simp only[M3]at h
   exact DX oc (oP h.1.1) (okE a _ oc ck h.1.2) (okE b _ oc ck h.2)
  ·cases h
 |.dupd a b,X,W,C,x,oc,ck,h=>by
  unfold ae at h
  split at h
  ·simp only[M3]at h
   obtain⟨⟨⟨⟨⟨h1,h2⟩,h3⟩,h4⟩,h5⟩,h6⟩:=h
   cases aM h1
   exact Aq oc (okE a _ oc ck h5) (okE b _ oc ck h6) (aP h2) (lC (by rw[Mo,h4];rfl) (by decide)) h3 (ax h4)
  ·cases h
 |.dget1 a b,X,W,C,x,oc,ck,h=>by
  unfold ae at h
  split at h
  ·simp only[M3]at h
   cases aM h.1.1.1.1.1
   exact s9 oc (okE a _ oc ck h.1.2) (okE b _ oc ck h.2) (E4 h.1.1.1.1.2 h.1.1.1.2 h.1.1.2)
  ·cases h
 |.dpop2 a b c,X,W,C,x,oc,ck,h=>by
  unfold ae at h
  split at h
  ·simp only[M3]at h
   cases aM h.1.1.1.1.1.1.1
   exact sY oc (okE a _ oc ck h.1.1.2) (okE b _ oc ck h.1.2) (okE c _ oc ck h.2) (A8 h.1.1.1.1.1.1.2 h.1.1.1.1.1.2 h.1.1.1.1.2 h.1.1.1.2)
  ·cases h
 |.dget2 a b c,X,W,C,x,oc,ck,h=>by
  unfold ae at h
  split at h
  ·simp only[M3]at h
   cases aM h.1.1.1.1.1.1.1
   exact s8 oc (okE a _ oc ck h.1.1.2) (okE b _ oc ck h.1.2) (okE c _ oc ck h.2) (A8 h.1.1.1.1.1.1.2 h.1.1.1.1.1.2 h.1.1.1.1.2 h.1.1.1.2)
  ·cases h
 |.dead,X,W,C,x,oc,ck,h=>aE fun ρ G Q E hw=>by unfold wE at hw;exact hw
 |.gin n d a,X,W,C,x,oc,ck,h=>by
  cases hd:Γ.dc d with
  |none=>exact aE fun ρ G Q E hw=>by unfold wE at hw;rw[hd]at hw;exact hw
  |some kv =>
   unfold ae at h
   split at h
   ·simp only[M3,beq_iff_eq]at h
    obtain⟨⟨⟨rfl,h0⟩,h1⟩,h2⟩:=h
    subst h0
    obtain⟨g1,g2,g3⟩:=aF ck h1
    refine PE.imp (DV oc hd g1 g2 (okE a _ oc ck h2)) fun σ H Q ⟨ρ,G,Qa,Ea,hE,hG,hw,hp,hx⟩=>⟨ρ,G,Qa,Ea,hE,hG,?_,hp,hx⟩
    unfold wE at hw
    rw[hd]at hw
    exact hw
   ·cases h
 |.gix d a,X,W,C,x,oc,ck,h=>by
  cases hd:Γ.dc d with
  |none=>exact aE fun ρ G Q E hw=>by unfold wE at hw;rw[hd]at hw;exact hw
  |some kv =>
   unfold ae at h
   split at h
   ·simp only[M3,beq_iff_eq]at h
    obtain⟨⟨⟨h0,h1⟩,h3⟩,h2⟩:=h
    subst h0
    obtain⟨g1,g2,g3⟩:=aF ck h1
    refine PE.imp (DU oc hd g1 g2 (oP h3) (okE a _ oc ck h2)) fun σ H Q ⟨ρ,G,Qa,Ea,hE,hG,hw,hp,hx⟩=>⟨ρ,G,Qa,Ea,hE,hG,?_,hp,hx⟩
    unfold wE at hw
    rw[hd]at hw
    exact hw
   ·cases h
 |.gget1 d a,X,W,C,x,oc,ck,h=>by
  cases hd:Γ.dc d with
  |none=>exact aE fun ρ G Q E hw=>by unfold wE at hw;rw[hd]at hw;exact hw
  |some kv =>
   unfold ae at h
   split at h
   ·simp only[M3,beq_iff_eq]at h
    obtain⟨⟨⟨⟨⟨rfl,h0⟩,h1⟩,h3⟩,h4⟩,h2⟩:=h
    subst h0
    obtain⟨g1,g2,g3⟩:=aF ck h1
    refine PE.imp (sX oc hd g1 g2 (okE a _ oc ck h2) (E4 rfl (beq_iff_eq.mpr h3) h4)) fun σ H Q ⟨ρ,G,Qa,Ea,hE,hG,hw,hp,hx⟩=>⟨ρ,G,Qa,Ea,hE,hG,?_,hp,hx⟩
    unfold wE at hw
    rw[hd]at hw
    exact hw
   ·cases h
 |.gget2 d a b,X,W,C,x,oc,ck,h=>by
  cases hd:Γ.dc d with
  |none=>exact aE fun ρ G Q E hw=>by unfold wE at hw;rw[hd]at hw;exact hw
  |some kv =>
   unfold ae at h
   split at h
   ·simp only[M3,beq_iff_eq]at h
    obtain⟨⟨⟨⟨⟨⟨⟨rfl,h0⟩,h1⟩,h3⟩,h4⟩,h5⟩,h2⟩,h6⟩:=h
    subst h0
    obtain⟨g1,g2,g3⟩:=aF ck h1
    refine PE.imp (sW oc hd g1 g2 (okE a _ oc ck h2) (okE b _ oc ck h6) (A8 rfl (beq_iff_eq.mpr h3) h4 h5)) fun σ H Q ⟨ρ,G,Qa,Ea,hE,hG,hw,hp,hx⟩=>⟨ρ,G,Qa,Ea,hE,hG,?_,hp,hx⟩
    unfold wE at hw
    rw[hd]at hw
    exact hw
   ·cases h
 |.callV i es,X,W,C,x,oc,ck,h=>by
  unfold ae at h
  split at h
  ·simp only[M3]at h
   obtain⟨v1,v2,v3,v4⟩:=cF ck h.1
   obtain⟨l1,l2⟩:=aD h.2
   obtain⟨l3,l4⟩:=aL l2
   refine PE.imp (ti oc v1 v2 v3 v4 (okEs es _ oc ck h.2) (ax l3) (az l4)) fun σ H Q ⟨ρ,G,Qa,Ea,hE,hG,hw,hp,hx⟩=>⟨ρ,G,Qa,Ea,hE,hG,?_,hp,hx⟩
   unfold wE at hw
   rw[l1]at hw
   exact hw
  ·cases h
 |.din n a b,X,W,C,x,oc,ck,h=>by
  unfold ae at h
  split at h
  ·simp only[M3,beq_iff_eq]at h
   obtain⟨⟨⟨rfl,h0⟩,h1⟩,h2⟩:=h
   exact pe_cmp (vV oc (okE a _ oc ck h1) (okE b _ oc ck h2)) (ba h0)
  ·cases h
 |.sin n a b,X,W,C,x,oc,ck,h=>by
  unfold ae at h
  split at h
  ·simp only[M3,beq_iff_eq]at h
   obtain⟨⟨⟨rfl,h0⟩,h1⟩,h2⟩:=h
   exact DH (ba h0) (okE a _ oc ck h1) (okE b _ oc ck h2)
  ·cases h
 |.smeth z m o es,X,W,C,x,oc,ck,h=>by
  cases es with
  |nil =>
   unfold ae at h
   split at h
   ·simp only[M3]at h
    cases aM h.1.1.1
    exact nR (okE o _ oc ck h.2) (aP h.1.1.2) h.1.2
   ·cases h
  |cons e es =>
   unfold ae at h
   split at h
   ·simp only[M3,decide_eq_true_eq]at h
    cases aM h.1.1.1.1.1
    obtain⟨l1,l2⟩:=aD h.2
    obtain⟨l3,l4⟩:=aL l2
    exact sM (okE o _ oc ck h.1.2) (okEs (e :: es) _ oc ck h.2) (aP h.1.1.1.1.2) (lC l2 h.1.1.2) h.1.1.1.2 (ax l3) (az l4)
   ·cases h
 |.six a b,X,W,C,x,oc,ck,h=>by
  unfold ae at h
  split at h
  ·simp only[M3]at h
   exact DG (dY h.1.1) (okE a _ oc ck h.1.2) (okE b _ oc ck h.2)
  ·cases h
 |.tidx a b,X,W,C,x,oc,ck,h=>by
  unfold ae at h
  split at h
  ·rename_i y g ap z cp
   simp only[M3]at h
   obtain⟨⟨⟨⟨⟨h1,h2⟩,h3⟩,h4⟩,h5⟩,h6⟩:=h
   have e1:g = "index" :=aM h1
   subst e1
   exact Ah (okE a _ oc ck h5) (okE b _ oc ck h6) (aP h2) (lC (by rw[Mo,h4];rfl) (by decide)) h3 (ax h4)
  ·cases h
 |.kslF a lo,X,W,C,x,oc,ck,h=>by
  unfold ae at h
  split at h
  ·simp only[M3]at h
   exact Ao (okE a _ oc ck h.1) (okE lo _ oc ck h.2)
  ·cases h
 |.ktt a,X,W,C,x,oc,ck,h=>by
  unfold ae at h
  simp only[M3]at h
  exact DR (okE a _ oc ck h.2)
 |.or2 a b,X,W,C,x,oc,ck,h=>by
  unfold ae at h
  simp only[M3]at h
  exact DJ (okE a _ oc ck h.2.1) (okE b _ oc ck h.2.2)
 |.lam q ls,X,W,C,x,oc,ck,h=>by
  unfold ae at h
  split at h
  ·simp only[M3,List.isEmpty_iff]at h
   obtain⟨⟨⟨⟨h1,h2⟩,h3⟩,h4⟩,h5⟩:=h
   exact DQ ck h1 h2 h3 h4 h5
  ·cases h
 |.pcall ls f es,X,W,C,x,oc,ck,h=>by
  unfold ae at h
  split at h
  ·simp only[M3]at h
   obtain⟨⟨⟨h0,h1⟩,h2⟩,h3⟩:=h
   cases aM h1
   obtain⟨l1,l2⟩:=aD h3
   obtain⟨g1,g2,g3⟩:=aF ck h2
   cases hF:Γ.fn f with
   |none=>exact aE fun ρ G Q E hw=>by unfold wE at hw;rw[hF]at hw;exact hw
   |some F =>
    by_cases hb:F.ar≤es.length+F.dfl.length∧es.length≤F.ar
    ·refine PE.imp (sO (ls:=ls) oc (ck.cs h0) hF g1 g2 (by rw[←l1];exact hb.1) (by rw[←l1];exact hb.2) (okEs es _ oc ck h3) l2) fun σ H Q ⟨ρ,G,Qa,Ea,hE,hG,hw,hp,hx⟩=>⟨ρ,G,Qa,Ea,hE,hG,?_,hp,hx⟩
     unfold wE at hw
     rw[hF]at hw
     have hw:=hw.2
     rw[l1]at hw
     exact hw
    ·exact aE fun ρ G Q E hw=>by unfold wE at hw;rw[hF]at hw;exact hb hw.1
  ·cases h
 |.pcallV ls i es,X,W,C,x,oc,ck,h=>by
  unfold ae at h
  split at h
  ·simp only[M3]at h
   obtain⟨v1,v2,v3,v4⟩:=cF ck h.1.2
   obtain⟨l1,l2⟩:=aD h.2
   refine PE.imp (nS (ls:=ls) oc (ck.cs h.1.1) v1 v2 v3 v4 (okEs es _ oc ck h.2) l2) fun σ H Q ⟨ρ,G,Qa,Ea,hE,hG,hw,hp,hx⟩=>⟨ρ,G,Qa,Ea,hE,hG,?_,hp,hx⟩
   unfold wE at hw
   rw[l1]at hw
   exact hw
  ·cases h
 |.mcd ls m o es,X,W,C,x,oc,ck,h=>by
  unfold ae at h
  split at h
  ·simp only[M3,Bool.or_eq_true,List.isEmpty_iff,decide_eq_true_eq]at h
   obtain⟨⟨⟨⟨⟨⟨h0,h1⟩,h2⟩,h3⟩,h4⟩,h5⟩,h6⟩:=h
   cases aM h1
   obtain⟨l1,l2⟩:=aD h6
   have cz:ls=[]∨CsOk X Γ:=h0.elim (fun z=>.inr (ck.cs z)) .inl
   refine PE.imp (DN (ls:=ls) oc cz (okE o _ oc ck h5) (okEs es _ oc ck h6) l2 (gM h2 h3 l2 h4)) fun σ H Q ⟨ρ,G,Qa,Ea,hE,hG,hw,hp,hx⟩=>⟨ρ,G,Qa,Ea,hE,hG,?_,hp,hx⟩
   unfold wE at hw
   rw[l1]at hw
   exact hw
  ·cases h
 |.xnew n es,X,W,C,x,oc,ck,h=>by
  unfold ae at h
  split at h
  ·simp only[M3]at h
   obtain⟨⟨h1,h2⟩,h3⟩:=h
   cases aM h1
   obtain⟨l1,l2⟩:=aD h3
   obtain⟨g1,g2,g3⟩:=aF ck h2
   exact Af oc g1 g2 (okEs es _ oc ck h3) l2
  ·cases h
theorem okD{Γ:Gam}{k:Nat}:∀(es:List E) {X:Cx} {W:WX} {C:Ck} {pos:Pos} (ks:List (Option Expr)) (vs:List Expr),Oc X W Γ k→bz X C Γ→corD C es ks vs=true→ij X pos ks vs (LfD X.K W (wEs Γ es))
 |[],X,W,C,pos,[],[],oc,ck,h=>D3
 |a :: b :: es,X,W,C,pos,some x :: ks,y :: vs,oc,ck,h=>by
  unfold corD at h
  simp only[M3]at h
  exact Au (okE a _ oc ck h.1.1) (okE b _ oc ck h.1.2) (okD es ks vs oc ck h.2)
 |[],_,_,_,_,[],_ :: _,_,_,h=>by unfold corD at h;cases h
 |[],_,_,_,_,_ :: _,_,_,_,h=>by unfold corD at h;cases h
 |[_],_,_,_,_,_,_,_,_,h=>by unfold corD at h;cases h
 |_ :: _ :: _,_,_,_,_,[],_,_,_,h=>by unfold corD at h;cases h
 |_ :: _ :: _,_,_,_,_,none :: _,_,_,_,h=>by unfold corD at h;cases h
 |_ :: _ :: _,_,_,_,_,some _ :: _,[],_,_,h=>by unfold corD at h;cases h
theorem okEs{Γ:Gam}{k:Nat}:∀(es:List E) {X:Cx} {W:WX} {C:Ck} (xs:List Expr),Oc X W Γ k→bz X C Γ→corEs C es xs=true→PA X xs (LfA X.K W (wEs Γ es))
 |[],X,W,C,[],oc,ck,h=>nX
 |e :: es,X,W,C,x :: xs,oc,ck,h=>by
  unfold corEs at h
  simp only[M3]at h
  exact jI (ax h.1.1) (okE e _ oc ck h.1.2) (okEs es _ oc ck h.2)
 |[],_,_,_,_ :: _,_,_,h=>by unfold corEs at h;cases h
 |_ :: _,_,_,_,[],_,_,h=>by unfold corEs at h;cases h
theorem okKs{Γ:Gam}{k:Nat}:∀(es:List E) {X:Cx} {W:WX} {C:Ck} (ks:List Str) (kws:List Keyword),Oc X W Γ k→bz X C Γ→corKs C es ks kws=true→PK X kws (LfA X.K W (wEs Γ es))
 |[],X,W,C,[],[],oc,ck,h=>vR
 |e :: es,X,W,C,n :: ks,⟨some m,x,p⟩ :: kws,oc,ck,h=>by
  unfold corKs at h
  simp only[M3]at h
  exact nO (okE e _ oc ck h.1.2) (okKs es ks kws oc ck h.2)
 |[],_,_,_,[],_ :: _,_,_,h=>by unfold corKs at h;cases h
 |[],_,_,_,_ :: _,_,_,_,h=>by unfold corKs at h;cases h
 |_ :: _,_,_,_,[],_,_,_,h=>by unfold corKs at h;cases h
 |_ :: _,_,_,_,_ :: _,[],_,_,h=>by unfold corKs at h;cases h
 |_ :: _,_,_,_,_ :: _,⟨none,_,_⟩ :: _,_,_,h=>by unfold corKs at h;cases h
theorem okT{Γ:Gam}{k:Nat}:∀(t:T) {X:Cx} {W:WX} {C:Ck} (x:Expr),Oc X W Γ k→bz X C Γ→corT C t x=true→PT X x (LfT X.K W (wT Γ t))∧((∀op xs p,x = .BoolOp op xs p→PW X x (LfT X.K W (wT Γ t))))
 |.and_ a b,X,W,C,x,oc,ck,h=>by
  unfold corT at h
  split at h
  ·simp only[M3]at h
   have q:=Dh (okT a _ oc ck h.1).1 ((okT b _ oc ck h.2).2 _ _ _ rfl)
   exact⟨q.pt,fun _ _ _ _=>q⟩
  ·cases h
 |.or_ a b,X,W,C,x,oc,ck,h=>by
  unfold corT at h
  split at h
  ·simp only[M3]at h
   have q:=Hf (okT a _ oc ck h.1).1 ((okT b _ oc ck h.2).2 _ _ _ rfl)
   exact⟨q.pt,fun _ _ _ _=>q⟩
  ·cases h
 |.one a,X,W,C,x,oc,ck,h=>by
  unfold corT at h
  split at h
  ·have q:=pw_and1 (pos:=by assumption) (okT a _ oc ck h).1
   exact⟨q.pt,fun _ _ _ _=>q⟩
  ·have q:=pw_or1 (pos:=by assumption) (okT a _ oc ck h).1
   exact⟨q.pt,fun _ _ _ _=>q⟩
  ·cases h
 |.not_ a,X,W,C,x,oc,ck,h=>by
  unfold corT at h
  split at h
  ·exact⟨Dd (okT a _ oc ck h).1,fun _ _ _ e=>by cases e⟩
  ·cases h
 |.cmp o a b,X,W,C,x,oc,ck,h=>by
  unfold corT at h
  split at h
  ·simp only[M3,beq_iff_eq]at h
   obtain⟨⟨⟨rfl,h0⟩,h1⟩,h2⟩:=h
   obtain⟨r,k1,k2⟩:=f8 X oc.room.units oc.tb.kt.eqc o
   exact⟨Dg k1 k2 (ba h0) (okE a _ oc ck h1) (okE b _ oc ck h2),fun _ _ _ e=>by cases e⟩
  ·cases h
 |.cmp2 o o' a b c,X,W,C,x,oc,ck,h=>by
  unfold corT at h
  split at h
  ·simp only[M3,beq_iff_eq]at h
   obtain⟨⟨⟨⟨⟨rfl,rfl⟩,h0⟩,h1⟩,h2⟩,h3⟩:=h
   obtain⟨r,k1,k2⟩:=f8 X oc.room.units oc.tb.kt.eqc o
   obtain⟨r',k1',k2'⟩:=f8 X oc.room.units oc.tb.kt.eqc o'
   exact⟨xW k1 k2 k1' k2' (ba h0) (okE a _ oc ck h1) (okE b _ oc ck h2) (okE c _ oc ck h3),fun _ _ _ e=>by cases e⟩
  ·cases h
 |.val a,X,W,C,x,oc,ck,h=>by
  unfold corT at h
  simp only[M3]at h
  refine⟨Db (okE a _ oc ck h.2) (eB h.1),fun _ _ _ e=>?_⟩
  rw[e]at h
  cases h.1
 |.ite _ _ _,X,W,C,x,oc,ck,h=>by unfold corT at h;cases h
 |.gin n d a,X,W,C,x,oc,ck,h=>by
  cases hd:Γ.dc d with
  |none =>
   unfold corT at h
   split at h
   ·exact⟨tF fun ρ G Q E hw=>by unfold wT at hw;rw[hd]at hw;exact hw,fun _ _ _ e=>by cases e⟩
   ·cases h
  |some kv =>
   unfold corT at h
   split at h
   ·simp only[M3,beq_iff_eq]at h
    obtain⟨⟨⟨rfl,h0⟩,h1⟩,h2⟩:=h
    subst h0
    obtain⟨g1,g2,g3⟩:=aF ck h1
    refine⟨PT.imp (De oc hd g1 g2 (okE a _ oc ck h2)) fun σ H Q ⟨ρ,G,Qa,Ea,hE,hG,hw,hp,hx⟩=>⟨ρ,G,Qa,Ea,hE,hG,?_,hp,hx⟩,fun _ _ _ e=>by cases e⟩
    unfold wT at hw
    rw[hd]at hw
    exact hw
   ·cases h
 |.din n a b,X,W,C,x,oc,ck,h=>by
  unfold corT at h
  split at h
  ·simp only[M3,beq_iff_eq]at h
   obtain⟨⟨⟨rfl,h0⟩,h1⟩,h2⟩:=h
   exact⟨Df oc (ba h0) (okE a _ oc ck h1) (okE b _ oc ck h2),fun _ _ _ e=>by cases e⟩
  ·cases h
 |.sin n a b,X,W,C,x,oc,ck,h=>by
  unfold corT at h
  split at h
  ·simp only[M3,beq_iff_eq]at h
   obtain⟨⟨⟨rfl,h0⟩,h1⟩,h2⟩:=h
   exact⟨Dc (ba h0) (okE a _ oc ck h1) (okE b _ oc ck h2),fun _ _ _ e=>by cases e⟩
  ·cases h
theorem okI{Γ:Gam}{k:Nat}:∀(i:I) {X:Cx} {W:WX} {C:Ck} (tg x:Expr),Oc X W Γ k→bz X C Γ→corI C i tg x=true→PI X tg x (LfI X.K W (wI Γ i))
 |.gkeys d,X,W,C,tg,x,oc,ck,h=>by
  cases hd:Γ.dc d with
  |none=>exact tM fun ρ G Q E hw=>by unfold wI at hw;rw[hd]at hw;exact hw
  |some kv =>
   unfold corI at h
   split at h
   ·simp only[M3,beq_iff_eq]at h
    obtain⟨h0,h1⟩:=h
    subst h0
    obtain⟨g1,g2,g3⟩:=aF ck h1
    refine PI.imp (sJ oc hd g1 g2) fun σ H Q ⟨ρ,G,Qa,Ea,hE,hG,hw,hp,hx⟩=>⟨ρ,G,Qa,Ea,hE,hG,?_,hp,hx⟩
    unfold wI at hw
    rw[hd]at hw
    exact hw
   ·cases h
 |.dkeys a,X,W,C,tg,x,oc,ck,h=>by
  unfold corI at h
  exact sK (okE a _ oc ck h)
 |.str a,X,W,C,tg,x,oc,ck,h=>by
  unfold corI at h
  exact DA (okE a _ oc ck h)
 |.rng1 a,X,W,C,tg,x,oc,ck,h=>by
  unfold corI at h
  split at h
  ·simp only[M3]at h
   cases aM h.1.1.1
   obtain⟨h1,h2,h3⟩:=aF ck h.1.1.2
   exact Ac h1 oc.tb.rng (okE a _ oc ck h.2) (ax h.1.2)
  ·cases h
 |.rng2 a b,X,W,C,tg,x,oc,ck,h=>by
  unfold corI at h
  split at h
  ·simp only[M3]at h
   cases aM h.1.1.1.1.1
   obtain⟨h1,h2,h3⟩:=aF ck h.1.1.1.1.2
   exact Ab h1 oc.tb.rng (okE a _ oc ck h.1.2) (okE b _ oc ck h.2) (by rw[ax h.1.1.1.2,ax h.1.1.2];rfl) (ax h.1.1.2)
  ·cases h
 |.rng3 a b c,X,W,C,tg,x,oc,ck,h=>by
  unfold corI at h
  split at h
  ·simp only[M3]at h
   obtain⟨⟨⟨⟨⟨⟨⟨k1,k2⟩,k3⟩,k4⟩,k5⟩,k6⟩,k7⟩,k8⟩:=h
   cases aM k1
   obtain⟨h1,h2,h3⟩:=aF ck k2
   exact Aa h1 oc.tb.rng (okE a _ oc ck k6) (okE b _ oc ck k7) (okE c _ oc ck k8) (ax k3) (ax k4) (ax k5)
  ·cases h
 |.zip a b,X,W,C,tg,x,oc,ck,h=>by
  unfold corI at h
  split at h
  ·simp only[M3]at h
   cases aM h.1.1.1.1.1.2
   obtain⟨h1,h2,h3⟩:=aF ck h.1.1.1.1.2
   cases tg with
   |Tuple ts kk p=>exact Dz h1 oc.tb.zip (okE a _ oc ck h.1.2) (okE b _ oc ck h.2) (ax h.1.1.1.2) (ax h.1.1.2)
   |_=>cases h.1.1.1.1.1.1
  ·cases h
 |.enum a,X,W,C,tg,x,oc,ck,h=>by
  unfold corI at h
  split at h
  ·simp only[M3]at h
   cases aM h.1.1.1.2
   obtain⟨h1,h2,h3⟩:=aF ck h.1.1.2
   cases tg with
   |Tuple ts kk p=>exact Ad h1 oc.tb.enum (okE a _ oc ck h.2) (ax h.1.2)
   |_=>cases h.1.1.1.1
  ·cases h
 |.seq a,X,W,C,tg,x,oc,ck,h=>by
  unfold corI at h
  exact DB (okE a _ oc ck h)
end
end Av
namespace Av
variable [Tb]
abbrev SuT:=Addr→Value→Option Addr→TS
def slN:Option Nat→L2.St→L2.St
 |none,σ=>σ
 |some i,σ=>σ.set i none
def slA(a:Addr):Option Nat→L2.St→L2.St
 |none,σ=>σ
 |some i,σ=>σ.set i (some (.ref a))
def Kg(o:Option Nat)(D:Ends):Ends:={nx:=fun σ H=>D.nx (slN o σ) H,rt:=D.rt,bk:=fun σ H=>D.bk (slN o σ) H,ct:=fun σ H=>D.ct (slN o σ) H}
def Jb(K:M0)(cls:Value):List Value→Option Bool
 |[c]=>PySem.W.exmOne K cls c
 |cs=>PySem.W.exmAny K cls cs
def CY(n:Nat)(K:M0)(W0:WX)(D:Ends):List (List Value × Option Nat × SuT)→WX
 |[]=>W0
 |(c,o,ts) :: r=>fun cls d σ H=>∃k,Jb K cls c=some k∧(k=true→σ.length=n→∀a,H a=none→ts a cls d (Kg o D) (slA a o σ) H)∧(k=false→CY n K W0 D r cls d σ H)
def JD(X:Cx):Option Str→Option Nat→Prop
 |none,none=>True
 |some n,some i=>X.N[i]?=some n∧X.env.kindOf n=some .local
 |_,_=>False
inductive jy(X:Cx):Expr→List Value→Prop
 |one {x:Str} {p:Pos} {c:Value} (h:Names X x c):jy X (.Name x p) [c]
 |two {x y:Str} {p p2 p3:Pos} {k} {c d:Value} (h:Names X x c) (h2:Names X y d):jy X (.Tuple [.Name x p,.Name y p2] k p3) [c,d]
inductive CP(X:Cx):List ExceptHandler→List (List Value × Option Nat × SuT)→Prop
 |nil:CP X [] []
 |cons {x:Expr} {c:List Value} {nm:Option Str} {o:Option Nat} {ts:SuT} {b:Stmt} {bs:List Stmt} {q:Pos} {hs:List ExceptHandler} {l:List (List Value × Option Nat × SuT)} (hc:jy X x c) (ho:JD X nm o)
   (hb:∀(a:Addr) (oe:Obj) (cls:Value) (d:Option Addr) (pn:List (Addr × Obj)),L2N.Zn cls d oe→(∃vs,oe.data = .fields vs)→PSs (X.suite a ((a,oe) :: pn)) (b :: bs) (ts a cls d)) (r:CP X hs l) :
   CP X (.ExceptHandler (some x) nm (b :: bs) q :: hs) ((c,o,ts) :: l)
section
variable {X:Cx} {body:List Stmt} {h0:ExceptHandler} {hs:List ExceptHandler} {l:List (List Value × Option Nat × SuT)} {pos:Pos} {tb:WX→TS} {W0:WX}
theorem nr{pins:List (Addr × Obj)}{D:Ends}{x:Addr}{ox:Obj}{nm:Option Str}{o:Option Nat}{p:Pos}{fl:Flow}{s6:Shared}(ok:X.Ok)(hN:X.N.Nodup)(ho:JD X nm o)
  (h:SP (X.suite x ((x,ox) :: (X.pn++pins))) [] (Kg o D) fl s6) :
  wpAny (model X.prog X.w) X.A (match nm with|some n=>(do bindName X.env n .none;unbindBehindTheSuite X.env n p:Sem Unit)|none=>pure ()) (fun _ s7=>SP X pins D fl s7) X.xe s6:=by
 cases nm with
 |none =>
  cases o with
  |some _=>exact False.elim ho
  |none =>
   refine wpAny_pure ?_
   cases fl with
   |next=>obtain⟨σ6,H6,S6,q6⟩:=h;exact⟨σ6,H6,S6.unsuite ok,q6⟩
   |brk=>obtain⟨σ6,H6,S6,q6⟩:=h;exact⟨σ6,H6,S6.unsuite ok,q6⟩
   |cont=>obtain⟨σ6,H6,S6,q6⟩:=h;exact⟨σ6,H6,S6.unsuite ok,q6⟩
   |ret u=>obtain⟨v6,σ6,H6,S6,r6,q6⟩:=h;exact⟨v6,σ6,H6,S6.unsuite ok,r6,q6⟩
 |some n =>
  cases o with
  |none=>exact False.elim ho
  |some i =>
   obtain⟨hi,hk⟩:=ho
   cases fl with
   |next=>obtain⟨σ6,H6,S6,q6⟩:=h;exact gone_ok (S6.unsuite ok) hN hi hk fun s7 J7=>⟨_,_,J7,q6⟩
   |brk=>obtain⟨σ6,H6,S6,q6⟩:=h;exact gone_ok (S6.unsuite ok) hN hi hk fun s7 J7=>⟨_,_,J7,q6⟩
   |cont=>obtain⟨σ6,H6,S6,q6⟩:=h;exact gone_ok (S6.unsuite ok) hN hi hk fun s7 J7=>⟨_,_,J7,q6⟩
   |ret u=>obtain⟨v6,σ6,H6,S6,r6,q6⟩:=h;exact gone_ok (S6.unsuite ok) hN hi hk fun s7 J7=>⟨v6,_,_,J7,r6,q6⟩
theorem ja{B h h':Heap}{l:List Env}{x:Addr}{Z:Obj→Prop}(k:∀b o,h.get? b=some o→h'.get? b=some o)(f:HandSPX.FlyingZ B l x Z h):HandSPX.FlyingZ B l x Z h':=by
 obtain⟨f1,f2,f3,oe,vs,T,oT,ts,a1,a2,a3,a4,a5,a6,a7,a8,a9⟩:=f
 exact⟨fun b o e=>k b o (f1 b o e),f2,Heap.FunFrames.of_keeps (fun b o e _=>⟨o,k b o e,rfl⟩) f3,oe,vs,T,oT,ts,k _ _ a1,a2,a3,a4,a5,a6,k _ _ a7,a8,a9⟩
theorem eZ{pins:List (Addr × Obj)}{σ:L2.St}{H:Hp}{s3:Shared}{x:Addr}{o3:Obj}(S3:Inv (X.suite x ((x,o3) :: (X.pn++pins))) [] σ H s3){y:Str}{p:Pos}{c:Value}(hc:Names X y c){Q E:Value→Shared→Prop}(z:Q c s3) :
  wpAny (model X.prog X.w) (X.A.mark (some (.ref x))) (eval (.Name y p) X.env) Q E s3:=by
 obtain⟨u1,u2,u3⟩:=hc
 rcases u3 with u3|⟨u3,u4,u5⟩
 ·exact ld_glob (X:=X.suite x ((x,o3) :: (X.pn++pins))) S3 u1 u3 z u2
 ·exact ld_blt (X:=X.suite x ((x,o3) :: (X.pn++pins))) S3 u1 u3 u4 z u5 u2
theorem m9{pins:List (Addr × Obj)}{σ:L2.St}{H:Hp}{sT:Shared}{h3:Heap}{x:Addr}{o3:Obj}{cls:Value}{b:Bool}(S3:Inv (X.suite x ((x,o3) :: (X.pn++pins))) [] σ H {sT with heap:=h3})(hx:h3.get? x=some o3)(hcl:o3.cls=cls)(hK:X.K.In h3){t:Expr}{cs:List Value}(ht:jy X t cs)(e:Jb X.K cls cs=some b){Q E:Value→Shared→Prop}
  (q:∀(v:Value) (h4:Heap),(∀a o,h3.get? a=some o→h4.get? a=some o)→PySem.W.Looks (model X.prog X.w) h4 (excMatches (.ref x) v) b→Q v {sT with heap:=h4}) :
  wpAny (model X.prog X.w) (X.A.mark (some (.ref x))) (eval t X.env) Q E {sT with heap:=h3}:=by
 have lt:∀h4:Heap,(∀a o,h3.get? a=some o→h4.get? a=some o)→PySem.W.Looks (model X.prog X.w) h4 (typeOf (.ref x)) cls:=fun h4 k4 A Q E s kk z=>wpAny_typeOf_ref (kk _ _ (k4 _ _ hx)) (by rw[hcl];exact z)
 cases ht with
 |one hc=>exact eZ S3 hc (q _ h3 (fun _ _ z=>z) (PySem.W.exm_one (M:=model X.prog X.w) hK (lt h3 fun _ _ z=>z) e))
 |@two y1 y2 p1 p2 p3 k c1 c2 hc hc2 =>
  refine wpAny_Tuple_spliced ?_
  have hs:starEach [Expr.Name y1 p1,Expr.Name y2 p2] X.env=[(false,eval (.Name y1 p1) X.env),(false,eval (.Name y2 p2) X.env)]:=rfl
  rw[hs]
  refine Calls.spliced_cons (eZ S3 hc ?_)
  refine Calls.spliced_cons (eZ S3 hc2 ?_)
  refine Calls.spliced_nil ⟨show 2≤sizeLine by decide,?_⟩
  have kp:∀a o,h3.get? a=some o→(h3.push {cls:=.type "tuple",data:=.seq [c1,c2].toArray}).get? a=some o:=fun a o z=>Heap.get?_push_of_some _ z
  exact q _ _ kp (PySem.W.exm_tup2 (M:=model X.prog X.w) (hK.keeps kp) (lt _ kp) (Heap.get?_push_size _ rfl) e)
theorem mC{pins:List (Addr × Obj)}{D:Ends}{σ:L2.St}{H:Hp}{sI sT:Shared}{x:Addr}{cls:Value}{dx:Option Addr}{B:Heap}(ok:X.Ok)(hst:X.stack=X.env :: X.outer)(hfr:X.A.frames=some (X.env :: X.outer))(hf:X.env.frame=some X.env.locals)(hN:X.N.Nodup)(tk:L2N.Takes X W0)
  (J:Inv X pins σ H sI)(nb:∀b o,sI.heap.get? b=some o→b ∉ frs X.stack→B.get? b=some o)(na:H x=none)(os:sT.os=sI.os)(ag:AllBare sT.gens) :
  ∀{hs:List ExceptHandler} {l:List (List Value × Option Nat × SuT)},CP X hs l→∀(h3:Heap),sI.heap.UpToSlots h3→HandSPX.FlyingZ B (X.env :: X.outer) x (L2N.Zn cls dx) h3→CY X.N.length X.K W0 D l cls dx σ H→wpAny (model X.prog X.w) X.A (handleBy (.ref x) X.env hs) (SP X pins D) X.xe {sT with heap:=h3}:=by
 have away:∀{h:Heap} {o:Obj} {vs:Array Value},h.FunFrames B (X.env :: X.outer)→h.get? x=some o→o.data = .fields vs→x≠X.env.locals∧x ∉ X.fs:=fun {h o vs} ff e1 e2=>by
  have out:x ∉ frs (X.env :: X.outer):=fun hm=>by
   obtain⟨_,o2,e3,no⟩:=ff.mem hm
   rw[e1]at e3
   cases e3
   exact no _ e2
  refine⟨fun z=>out (List.mem_filterMap.mpr ⟨X.env,Mi,by rw[hf,z]⟩),fun hm=>?_⟩
  obtain⟨y,hy,q⟩:=List.mem_filterMap.mp hm
  exact out (List.mem_filterMap.mpr ⟨y,Mj _ hy,q⟩)
 intro hs l k
 induction k with
 |nil =>
  intro h3 up fl w
  refine wpAny_handleBy_nil ?_
  obtain⟨_,_,_,ob,vb,T,oT,tb',gb,_,db,e1,_⟩:=id fl
  unfold PySem.passOn
  refine wpAny_bind (wpAny_field gb db e1 ?_)
  rw[if_neg (by simp)]
  have out:wpAny (model X.prog X.w) X.A (setFlight (.ref x) X.env.frame) (fun _ s4=>wpAny (model X.prog X.w) X.A (throw (.ref x):Sem Flow) (SP X pins D) X.xe s4) X.xe {sT with heap:=h3}:=by
   rw[hf]
   exact HandSPX.setFlight_upZ fl fun h4 held up4=>wpAny_throw (tk _ _ ⟨x,B,sI,pins,σ,H,cls,dx,rfl,J,nb,up.trans up4,.inr (.inr (hst ▸ held)),na,os,ag,w⟩)
  first
   |exact wpAny_bind (wpAny_pure (wpAny_bind out))
   |exact wpAny_bind out
 |@cons y c nm o ts b bs q hs l hc ho hb r ih =>
  intro h30 up0 fl0 w
  obtain⟨k,e1,yes,no⟩:=w
  refine wpAny_handleBy_cons (codeAny_handlers_test ?_) (by intro z;cases z)
  have J3:Inv X pins σ H {sT with heap:=h30}:=J.landed nb fl0.1 up0 os ag
  obtain⟨o30,v3,g3,z3,d3⟩:=fl0.there
  obtain⟨nl3,nf3⟩:=away fl0.2.2.1 g3 d3
  refine m9 (J3.suite g3 d3 na nl3 nf3) g3 z3.1 J3.kIn hc e1 fun vt h3 kp lm=>lm.here ?_
  have up:sI.heap.UpToSlots h3:=up0.trans (Heap.UpToSlots.of_keeps kp)
  have fl:=ja kp fl0
  cases k with
  |false =>
   show wpAny _ X.A (handleBy (.ref x) X.env hs) _ _ _
   exact ih h3 up fl (no rfl)
  |true =>
   have back:∀h4,HandSPX.FlyingZ B (X.env :: X.outer) x (L2N.Zn cls dx) h4→h3.UpToSlots h4→∃o4,L2N.Zn cls dx o4∧(∃vs,o4.data = .fields vs)∧Inv (X.suite x ((x,o4) :: (X.pn++pins))) [] σ H {sT with heap:=h4}:=fun h4 fl4 up4=>by
    have J4:Inv X pins σ H {sT with heap:=h4}:=J.landed nb fl4.1 (up.trans up4) os ag
    obtain⟨o4,v4,g4,z4,d4⟩:=fl4.there
    obtain⟨nl4,nf4⟩:=away fl4.2.2.1 g4 d4
    exact⟨o4,z4,⟨_,d4⟩,J4.suite g4 d4 na nl4 nf4⟩
   cases nm with
   |none =>
    cases o with
    |some _=>exact False.elim ho
    |none =>
     refine codeAny_handlers_suite (HandSPX.lands_againZ fl fun h4 fl4 up4=>?_)
     obtain⟨o4,z4,d4,S4⟩:=back h4 fl4 up4
     refine wpAny_mono ((hb x o4 cls dx (X.pn++pins) z4 d4).run [] _ _ H _ S4 (yes rfl J.len x na)) (fun f s6 hsp=>?_) fun _ _ z=>False.elim z
     cases f with
     |next=>obtain⟨σ6,H6,S6,q6⟩:=hsp;exact⟨σ6,H6,S6.unsuite ok,q6⟩
     |brk=>obtain⟨σ6,H6,S6,q6⟩:=hsp;exact⟨σ6,H6,S6.unsuite ok,q6⟩
     |cont=>obtain⟨σ6,H6,S6,q6⟩:=hsp;exact⟨σ6,H6,S6.unsuite ok,q6⟩
     |ret u=>obtain⟨v6,σ6,H6,S6,r6,q6⟩:=hsp;exact⟨v6,σ6,H6,S6.unsuite ok,r6,q6⟩
   |some n =>
    cases o with
    |none=>exact False.elim ho
    |some i =>
     refine codeAny_handlers_suite_as (HandSPX.lands_againZ fl fun h4 fl4 up4=>?_)
     obtain⟨o4,z4,d4,S4⟩:=back h4 fl4 up4
     refine store_ok (X:=X.suite x ((x,o4) :: (X.pn++pins))) (v:=.ref x) S4 hN ho.1 (.inl ho.2) rfl (fun s5 S5=>?_) (.inr ho.2)
     refine wpAny_mono ((hb x o4 cls dx (X.pn++pins) z4 d4).run [] s5 _ H _ S5 (yes rfl J.len x na)) (fun f s6 hsp=>?_) fun _ _ z=>False.elim z
     exact nr (nm:=some n) (o:=some i) ok hN ho hsp
theorem tG(hst:X.stack=X.env :: X.outer)(hf:X.env.frame=some X.env.locals)(hN:X.N.Nodup)(tk:L2N.Takes X W0)
  (hb:∀(W:WX) (pn:List (Addr × Obj)) (xe:Value→Shared→Prop),L2N.Takes (X.tr pn xe) W→PassesOwn (model X.prog X.w) X.A X.env xe→PSs (X.tr pn xe) body (tb W))
  (hh:CP X (h0 :: hs) l):PS X (.Try body (h0 :: hs) [] [] pos) (fun D σ H=>tb (CY X.N.length X.K W0 D l) D σ H):=by
 refine⟨fun pins s σ H D I h=>wpAny_Try_except ?_⟩
 have ok:=I.ok
 have hfr:X.A.frames=some (X.env :: X.outer):=by rw[ok.frames,hst]
 have caught:∀u s',L2N.XE (X.tr (X.pn++pins) fun e s₁=>wpAny (model X.prog X.w) X.A (noteFrame e X.env) (fun _ s₂=>wpAny (model X.prog X.w) X.A (setFlight e none) (fun _ s₃=>wpAny (model X.prog X.w) X.A (handleBy e X.env (h0 :: hs)) (SP X pins D) X.xe s₃) X.xe s₂) X.xe s₁) (CY X.N.length X.K W0 D l) u s'→
   wpAny (model X.prog X.w) X.A (noteFrame u X.env) (fun _ s₂=>wpAny (model X.prog X.w) X.A (setFlight u none) (fun _ s₃=>wpAny (model X.prog X.w) X.A (handleBy u X.env (h0 :: hs)) (SP X pins D) X.xe s₃) X.xe s₂) X.xe s':=by
  rintro u sT ⟨x,B,sI,pn',σ',H',cls,dx,rfl,J',nb,up,sky,na,os,ag,w⟩
  have J:Inv X pins σ' H' sI:=J'.ofTry ok
  have sky':Sky B (X.env :: X.outer) x (L2N.Zn cls dx) X.env.locals sT.heap:=by rw[←hst];exact sky
  exact L2N.Sky.land L2N.Zn.steady hfr hf sky' fun h3 fl3 up3=>mC ok hst hfr hf hN tk J nb na os ag hh h3 (up.trans up3) fl3 w
 refine wpAny_mono ((hb _ (X.pn++pins) _ caught PassesOwn.looking).run [] s σ H D (I.toTry _) h) (fun f s1 q=>?_) fun e s1 he=>he
 cases f with
 |next=>obtain⟨σ1,H1,J1,q1⟩:=q;exact wpAny_execs_nil ⟨σ1,H1,J1.ofTry ok,q1⟩
 |brk=>obtain⟨σ1,H1,J1,q1⟩:=q;exact⟨σ1,H1,J1.ofTry ok,q1⟩
 |cont=>obtain⟨σ1,H1,J1,q1⟩:=q;exact⟨σ1,H1,J1.ofTry ok,q1⟩
 |ret u=>obtain⟨v1,σ1,H1,J1,r1,q1⟩:=q;exact⟨v1,σ1,H1,J1.ofTry ok,r1,q1⟩
end
end Av
namespace Av
open PySem PySem.Spec PyProof.Rows L2 L2H
variable [Tb]
section
variable {X:Cx} {C:Ck} {Γ:Gam} {k:Nat} {a:Addr} {oe:Obj} {E:Str} {fs:List (Str × Dat)} {pos:Pos}
theorem BJ{D:Addr}{pins:List (Addr × Obj)}{σ:L2.St}{H:Hp}{s:Shared}(hp:(a,oe)∈X.pn)(hf:∃vs,oe.data = .fields vs)(hc:oe.cls = .ref D)(I:Inv X pins σ H s)(hd:∀dd,oe.dict=some dd→∃vf,H dd=some (.xd vf)):∃od,PySem.W.InstAt s.heap a oe D od:=by
 obtain⟨ha,_⟩:=I.pin (a,oe) (List.mem_append_left _ hp)
 obtain⟨vs,hd'⟩:=hf
 cases q:oe.dict with
 |none=>exact⟨none,ha,hc,by unfold PySem.W.notCls;rw[hd'] <;> rfl,by rw[q];exact trivial⟩
 |some dd =>
  obtain⟨vf,e⟩:=hd dd q
  obtain⟨mA,hns,hr⟩:=(show ObjOk X.prog X.w H s.heap dd (.xd vf) from I.hok dd _ e)
  obtain⟨od,ho,hl⟩:=lookIn_ns hns
  exact⟨some od,ha,hc,by unfold PySem.W.notCls;rw[hd'] <;> rfl,by rw[q];exact ho⟩
def KR(K:M0)(D a:Addr)(oe:Obj):List V→Hp→VK→Prop:=fun xs H Q=>(∀dd,oe.dict=some dd→∃vf,H dd=some (.xd vf))∧
  ((∃(c:V) (u:Value) (b:Bool),xs=[.ref a,c]∧ClsV c u∧PySem.W.kitOne K (.ref D) u=some b∧Q (.bl b) H)∨
   ∃(tp:Addr) (cs:List V) (us:List Value) (b:Bool),xs=[.ref a,.ref tp]∧H tp=some (.tup cs)∧Paired ClsV cs us∧PySem.W.kitAny K (.ref D) us=some b∧Q (.bl b) H)
theorem qN{D:Addr}(hp:(a,oe)∈X.pn)(hf:∃vs,oe.data = .fields vs)(hc:oe.cls = .ref D)(c:ExcC X.K D):CallR X (.builtin "isinstance") (KR X.K D a oe):=by
 intro pins s σ H xs us Q I r ⟨hd,h⟩
 obtain⟨od,J⟩:=BJ hp hf hc I hd
 obtain⟨cd,hcd,_⟩:=PySem.W.any_some c.hd
 have Z:=PySem.W.kitx_exc (K:=X.K) (x:=a) (C:=D) (ox:=oe) (od:=od) (by rw[hcd];rfl) c.hg c.hk c.hs c.ha c.hn c.ht c.hm
 rcases h with⟨x,u,b,rfl,kx,e,q⟩|⟨tp,cs,ws,b,rfl,hT,kx,e,q⟩
 ·obtain⟨u1,u2,rfl,r1,r2⟩:=vals2 r
  have e2:=kx.eq r2
  subst e2
  cases (show u1=Value.ref a from r1)
  exact PySem.W.kia_one Z I.kIn J e (fun z=>nomatch z) fun tk=>⟨.bl b,H,I.tok tk,rfl,q⟩
 ·obtain⟨u1,u2,rfl,r1,r2⟩:=vals2 r
  cases (show u2=Value.ref tp from r2)
  cases (show u1=Value.ref a from r1)
  obtain⟨_,its,rv,o,h1,h2,n,h3⟩:=(show ObjOk X.prog X.w H s.heap tp (.tup cs) from I.hok tp _ hT)
  have e3:=ClsV.all kx rv
  subst e3
  obtain⟨oc,od',dt,sl⟩:=o
  simp only at h2 h3
  subst h2 h3
  exact PySem.W.kia_tup Z I.kIn J h1 e (fun z=>nomatch z) fun tk=>⟨.bl b,H,I.tok tk,rfl,q⟩
theorem v7{D y:Str}{p:Pos}(tb:TbOk X.prog X.w X.K X.mg X.base Γ k)(ck:bz X C Γ)(h:bh C y=true)(e:y=D)(hx:(Γ.xc D).isSome=true):PE X (.Name y p) (fun _ H Q=>Q (.ref (He.ga X.K D)) H):=by
 subst e
 obtain⟨fl,hfl⟩:=Option.isSome_iff_exists.mp hx
 obtain⟨g1,g2,g3⟩:=aF ck h
 exact⟨fun pins s σ H Q I q=>ld_glob I g1 (tb.xc y fl hfl).1 ⟨.ref _,H,I,rfl,q⟩ g2⟩
end
end Av
namespace Av
variable [Tb]
mutual
def e9(C:Ck)(o:Option Nat):HE→Expr→Bool
 |.cst d,x=>match x with
  |.Constant c _ _=>FI d c
  |_=>false
 |.fld f,x=>match x with
  |.Attribute (.Name y _) g _=>(g == f) && (match o with|some i=>lT C i y|none=>false)
  |_=>false
 |.tup es,x=>match x with
  |.Tuple xs _ _=>corHEs C o es xs
  |_=>false
 |.fn f,x=>match x with
  |.Call (.Name g _) [.Name y _] [] _=>(g == f) && bh C g && (match o with|some i=>lT C i y|none=>false)
  |_=>false
 |.isi c a b,x=>match x with
  |.IfExp (.Call (.Name f fp) [.Name y yp,.Name d dp] [] pp) u v _=>(f == ("isinstance" : Str)) && bh C f && (match o with|some i=>lT C i y|none=>false) && (d == c) && bh C d && CZ (.Call (.Name f fp) [.Name y yp,.Name d dp] [] pp) && e9 C o a u && e9 C o b v
  |_=>false
def corHEs(C:Ck)(o:Option Nat):List HE→List Expr→Bool
 |[],xs=>xs.isEmpty
 |e :: es,xs=>match xs with
  |x :: xs=>af x && e9 C o e x && corHEs C o es xs
  |[]=>false
end
def my(C:Ck)(o:Option Nat):HS→Stmt→Bool
 |.set i e,x=>match x with
  |.Assign [.Name y _] v _=>fQ C i y && e9 C o e v && bV v && decide (o≠some i)
  |_=>false
 |.ret e,x=>match x with
  |.Return (some v) _=>e9 C o e v
  |_=>false
 |.alt _ _,_=>false
def slB(C:Ck):Option Nat→Option Str→Bool
 |none,none=>true
 |some i,some n=>C.N[i]? == some n && kY C.sc n
 |_,_=>false
def Cf(C:Ck)(l:List Str)(x:Expr):Bool:=match x with
 |.Name x _=>(match l with|[c]=>(x == c) && bh C x|_=>false)
 |.Tuple [.Name x _,.Name y _] _ _=>(match l with|[c,d]=>(x == c) && bh C x && (y == d) && bh C y|_=>false)
 |_=>false
def df(C:Ck):List Hd→List ExceptHandler→Bool
 |[],ys=>ys.isEmpty
 |h :: r,ys=>match ys with
  |.ExceptHandler (some x) nm [st] _ :: t=>Cf C h.clss x && slB C h.slot nm && my C h.slot h.act.act st && df C r t
  |_=>false
def LfH(K:M0)(a:Addr)(o:Option Nat)(dx:Option Addr)(fs:List (Str × Dat))(dt:Dat):TE:=fun σ H Q=>∃G,RelG K G H∧cE K H dx fs∧(∀i,o=some i→σ[i]?=some (some (.ref a)))∧∀v H',Fra G H G H'→RelG K G H'→cE K H' dx fs→Rep K H' v dt→Q v H'
def LR(K:M0)(a:Addr)(o:Option Nat)(dx:Option Addr)(fs:List (Str × Dat))(ds:List Dat):TA:=fun σ H Q=>∃G,RelG K G H∧cE K H dx fs∧(∀i,o=some i→σ[i]?=some (some (.ref a)))∧∀vs H',Fra G H G H'→RelG K G H'→cE K H' dx fs→Reps K H' vs ds→Q vs H'
theorem bO{K:M0}{G G':AG}{H H':Hp}{dx:Option Addr}{fs:List (Str × Dat)}(g:RelG K G H)(r:cE K H dx fs)(f:Fra G H G' H'):cE K H' dx fs:=by
 cases dx with
 |none=>exact r
 |some d =>
  obtain⟨vf,e1,e2⟩:=r
  have nG:G d=none:=by
   cases q:G d with
   |none=>rfl
   |some o =>
    have:=g.g d o q
    cases o with
    |lst ds=>obtain⟨_,e,_⟩:=this;rw[e1]at e;cases e
    |dk ds=>obtain⟨_,e,_⟩:=this;rw[e1]at e;cases e
    |ins C ds=>obtain⟨_,_,e,_⟩:=this;rw[e1]at e;cases e
    |cel ds=>obtain⟨_,_,_,e,_⟩:=this;rw[e1]at e;cases e
  exact⟨vf,(f d _ e1 (by simp) nG).1,KRel.mono (f.stab g) e2⟩
theorem iK{K:M0}{H:Hp}(σ:L2.St):RelE K H (Mh σ.length none) σ:=⟨by simp,fun i d e=>by
 rw[List.getElem?_replicate]at e
 split at e <;> cases e⟩
section
variable {X:Cx} {C:Ck} {Γ:Gam} {k:Nat} {a:Addr} {oe:Obj} {cls:Value} {dx:Option Addr} {pn:List (Addr × Obj)} {E:Str} {fs:List (Str × Dat)} {o:Option Nat}
mutual
theorem EJ(hr:L2H.RoomH k X.A)(ck:bz X C Γ)(tb:TbOk X.prog X.w X.K X.mg X.base Γ k)(hz:L2N.Zn cls dx oe)(hf:∃vs,oe.data = .fields vs)(hc:cls = .ref (He.ga X.K E)):∀(e:HE) (x:Expr) (dt:Dat),e9 C o e x=true→heV Γ E e fs=some dt→
  PE (X.suite a ((a,oe) :: pn)) x (LfH X.K a o dx fs dt)
 |.cst d,x,dt,h,hv=>by
  unfold e9 at h
  split at h
  ·unfold heV at hv
   cases hv
   refine PE.imp (qI (X:=X.suite a ((a,oe) :: pn)) (W:=fun _ _ _ _=>True) h) ?_
   rintro σ H Q ⟨G,g,rx,_,q⟩
   exact⟨_,G,fun d' G'=>d'=d∧G'=G,fun _ _ _=>False,iK σ,g,⟨rfl,rfl⟩,fun d' G' v H' f g' r z=>(by
    obtain⟨rfl,rfl⟩:=z
    exact q v H' f g' (bO g rx f) r),fun c fs' G' dd H' _ _ _ z=>False.elim z⟩
  ·cases h
 |.fld f,x,dt,h,hv=>by
  unfold e9 at h
  split at h
  ·simp only[M3]at h
   obtain⟨h1,h2⟩:=h
   cases aM h1
   cases o with
   |none=>cases h2
   |some i =>
    unfold heV at hv
    split at hv
    ·rename_i hm
     cases hfl:Γ.xc E with
     |none=>rw[hfl]at hm;cases hm
     |some fl =>
      rw[hfl]at hm
      have hm:f∈fl:=hm
      obtain⟨t1,t2⟩:=tb.xf E fl hfl (fun z=>by rw[z]at hm;cases hm)
      obtain⟨v1,v2,v3,v4⟩:=cF ck h2
      refine PE.imp (pe_xf (C:=He.ga X.K E) t1 (t2 f hm) hz.zc hf (pe_var (X:=X.suite a ((a,oe) :: pn)) v1 v2 v3 v4)) ?_
      rintro σ H Q ⟨G,g,rx,hs,q⟩
      refine⟨_,hs i rfl,rfl,hc,?_⟩
      cases dx with
      |none=>rw[show fs=[] from rx]at hv;cases hv
      |some dd =>
       obtain⟨vf,e1,e2⟩:=id rx
       obtain⟨v,l1,l2⟩:=e7 e2 hv
       exact⟨dd,vf,v,rfl,e1,l1,q v H .refl g rx l2⟩
    ·cases hv
  ·cases h
 |.tup es,x,dt,h,hv=>by
  unfold e9 at h
  split at h
  ·unfold heV at hv
   split at hv
   ·rename_i ds e1
    split at hv
    ·rename_i hl
     cases hv
     refine PE.imp (pe_tup (okHEs hr ck tb hz hf hc es _ ds h e1)) ?_
     rintro σ H Q ⟨G,g,rx,hs,q⟩
     refine⟨G,g,rx,hs,fun vs H1 f1 g1 rx1 r1=>⟨Nat.le_trans (by rw[r1.length];exact hl) (show 1000≤sizeLine by decide),fun p hp=>q _ _ ?_ ?_ ?_ ?_⟩⟩
     ·exact f1.trans fun b u e t n=>⟨by rw[upd_ne (ne_of_none e hp)];exact e,n⟩
     ·exact g1.newT hp
     ·cases dx with
      |none=>exact rx1
      |some dd =>
       obtain⟨vf,e2,e3⟩:=rx1
       exact⟨vf,by rw[upd_ne (ne_of_none e2 hp)];exact e2,KRel.mono (.new hp) e3⟩
     ·exact .tup (.inl upd_same) (r1.mono (.new hp))
    ·cases hv
   ·cases hv
  ·cases h
 |.fn f,x,dt,h,hv=>by
  unfold e9 at h
  split at h
  ·rename_i gn gp y yp pos
   simp only[M3]at h
   obtain⟨⟨h1,h2⟩,h3⟩:=h
   cases aM h1
   cases o with
   |none=>cases h3
   |some i =>
    unfold heV at hv
    obtain⟨gg,hg,hv⟩:=Option.bind_eq_some_iff.mp hv
    obtain⟨fa,fd,ps,F,hm,hk,hb⟩:=tb.hf f gg hg
    obtain⟨v1,v2,v3,v4⟩:=cF ck h3
    obtain⟨g1,g2,g3⟩:=aF ck h2
    have he1:starEach [Expr.Name y yp] (X.suite a ((a,oe) :: pn)).env=(false,eval (.Name y yp) (X.suite a ((a,oe) :: pn)).env) :: starEach [] (X.suite a ((a,oe) :: pn)).env:=rfl
    refine⟨fun pins s σ H Q I ⟨G,gr,rx,hs,q⟩=>?_⟩
    refine wpAny_Call_Name_kw (ld_glob I g1 hm ?_ g2)
    refine PySem.W.callWith_K (h₀:=X.base) I.ok.mod.kin hk (thn ((pa_cons (pe_var (X:=X.suite a ((a,oe) :: pn)) v1 v2 v3 v4) pa_nil he1).run pos pins s σ H (fun vs H1=>vs=[.ref a]∧H1=H) I ⟨.ref a,hs i rfl,rfl,rfl⟩) fun us s1 ⟨vs,H1,I1,r,q1⟩=>⟨I1.kIn,?_⟩) he1 (by rfl)
    obtain⟨rfl,rfl⟩:=q1
    obtain⟨u,rfl,ru⟩:=L2.Vals.one r
    obtain rfl:u=Value.ref a:=ru
    have P1:=I1.pin (a,oe) (List.mem_append_left _ Mi)
    have hpin:L2H.PinOk X.stack H1 s1 (a,oe):=⟨P1.1,P1.2.1,fun hm=>(List.mem_cons.mp (I1.stkSub a hm)).elim P1.2.2.1 P1.2.2.2.1,P1.2.2.2.2⟩
    have b:=hb s1 [.ref a] I1.kIn (by rw[List.append_nil];exact F.one.symm)
    rw[List.append_nil]at b
    have rx':cE X.K H1 oe.dict fs:=by rw[hz.2.1];exact rx
    refine wpAny_call (codeAny_mono (F.run (X.suite a ((a,oe) :: pn)).A X.stack s1 H1 ⟨[.ref a],[]⟩ (a,oe) E fs G dt Q ⟨hr.dp,hr.un⟩ hpin I1.env0 b (hz.1.trans hc) hf ⟨rfl,by obtain⟨vs,hd⟩:=hf;exact⟨vs,hd,hz.2.2 vs hd⟩⟩ gr rx' hv (fun v H' f1 g1 rx1 r1=>q v H' f1 g1 (by rw[hz.2.1]at rx1;exact rx1) r1)) fun r s' hq=>?_)
    cases r with
    |error e =>
     obtain⟨_,_,_,_,_,_,_,_,_,_,_,_,z⟩:=hq
     exact z.elim
    |ok fl =>
     cases fl with
     |ret u=>exact I1.after hq
     |next=>exact False.elim hq
     |brk=>exact False.elim hq
     |cont=>exact False.elim hq
  ·cases h
 |.isi c ea eb,x,dt,h,hv=>by
  unfold e9 at h
  split at h
  ·rename_i f fp y yp d dp pp u v pz
   simp only[M3]at h
   obtain⟨⟨⟨⟨⟨⟨⟨h1,h2⟩,h3⟩,h4⟩,h5⟩,h8⟩,h6⟩,h7⟩:=h
   have ef:f = "isinstance" :=aM h1
   subst ef
   obtain⟨i,oi,h3⟩:∃i,o=some i∧lT C i y=true:=by
    split at h3
    ·exact⟨_,rfl,h3⟩
    ·cases h3
   ·unfold heV at hv
    split at hv
    ·rename_i ho
     rw[M3]at ho
     obtain⟨v1,v2,v3,v4⟩:=cF ck h3
     obtain⟨g1,g2,g3⟩:=aF ck h2
     have pc:PE (X.suite a ((a,oe) :: pn)) (.Name d dp) (fun _ H Q=>Q (.ref (He.ga X.K c)) H):=by
      have ed:d=c:=aM h4
      subst ed
      obtain⟨fl,hfl⟩:=Option.isSome_iff_exists.mp ho.2
      obtain⟨k1,k2,k3⟩:=aF ck h5
      exact⟨fun pins s σ H Q I q=>ld_glob I k1 (tb.xc _ fl hfl).1 ⟨.ref _,H,I,rfl,q⟩ k2⟩
     have call:∀bb,Tb.sub (.inr E) (.inr c)=some bb→PE (X.suite a ((a,oe) :: pn)) (.Call (.Name "isinstance" fp) [.Name y yp,.Name d dp] [] pp) (fun σ H Q=>σ[i]?=some (some (.ref a))∧(∀dd,oe.dict=some dd→∃vf,H dd=some (.xd vf))∧Q (.bl bb) H):=fun bb hb=>by
      refine PE.imp (pe_callB (X:=X.suite a ((a,oe) :: pn)) (qN (X:=X.suite a ((a,oe) :: pn)) (a:=a) (oe:=oe) Mi hf (hz.1.trans hc) (tb.kt.exo E ho.1)) g1 (tb.blt .isinst) (cj .isinst) (pa_cons (pe_var (X:=X.suite a ((a,oe) :: pn)) v1 v2 v3 v4) (pa_cons pc pa_nil (ax (by rfl))) (ax (by rfl))) (mJ .isinst).1 (mJ .isinst).2 (ax (by rfl)) (by rfl)) ?_
      rintro σ H Q ⟨h0,hd,q⟩
      exact⟨_,h0,hd,.inl ⟨_,_,bb,rfl,.own _,tb.kt.sub _ _ _ hb,q⟩⟩
     have xd:∀{H:Hp},cE X.K H dx fs→∀dd,oe.dict=some dd→∃vf,H dd=some (.xd vf):=fun {H} rx dd e=>by
      rw[hz.2.1]at e
      subst e
      obtain⟨vf,h,_⟩:=rx
      exact⟨vf,h⟩
     split at hv
     ·rename_i hs
      refine PE.imp (pe_ifExp (ta:=LfH X.K a o dx fs dt) (tb:=fun _ _ _=>False) (pt_val (call true hs) (eB h8)) (EJ hr ck tb hz hf hc ea u dt h6 hv) ⟨fun _ _ _ _ _ _ z=>False.elim z⟩) ?_
      rintro σ H Q ⟨G,g,rx,hsl,q⟩
      refine⟨hsl i oi,xd rx,true,rfl,?_⟩
      simp only[if_true]
      exact⟨G,g,rx,hsl,q⟩
     ·rename_i hs
      refine PE.imp (pe_ifExp (ta:=fun _ _ _=>False) (tb:=LfH X.K a o dx fs dt) (pt_val (call false hs) (eB h8)) ⟨fun _ _ _ _ _ _ z=>False.elim z⟩ (EJ hr ck tb hz hf hc eb v dt h7 hv)) ?_
      rintro σ H Q ⟨G,g,rx,hsl,q⟩
      refine⟨hsl i oi,xd rx,false,rfl,?_⟩
      simp only[M6,if_false]
      exact⟨G,g,rx,hsl,q⟩
     ·cases hv
    ·cases hv
  ·cases h
theorem okHEs(hr:L2H.RoomH k X.A)(ck:bz X C Γ)(tb:TbOk X.prog X.w X.K X.mg X.base Γ k)(hz:L2N.Zn cls dx oe)(hf:∃vs,oe.data = .fields vs)(hc:cls = .ref (He.ga X.K E)):∀(es:List HE) (xs:List Expr) (ds:List Dat),corHEs C o es xs=true→hesV Γ E es fs=some ds→
  PA (X.suite a ((a,oe) :: pn)) xs (LR X.K a o dx fs ds)
 |[],xs,ds,h,hv=>by
  unfold corHEs at h
  cases xs with
  |cons _ _=>cases h
  |nil =>
   unfold hesV at hv
   cases hv
   exact PA.imp pa_nil fun σ H Q ⟨G,g,rx,_,q⟩=>q [] H .refl g rx .nil
 |e :: es,xs,ds,h,hv=>by
  unfold corHEs at h
  cases xs with
  |nil=>cases h
  |cons x xs =>
   simp only[M3]at h
   unfold hesV at hv
   split at hv
   ·rename_i d ds' e1 e2
    cases hv
    refine PA.imp (pa_cons (EJ hr ck tb hz hf hc e x d h.1.2 e1) (okHEs hr ck tb hz hf hc es xs ds' h.2 e2) (ax h.1.1)) ?_
    rintro σ H Q ⟨G,g,rx,hs,q⟩
    exact⟨G,g,rx,hs,fun v H1 f1 g1 rx1 r1=>⟨G,g1,rx1,hs,fun vs H2 f2 g2 rx2 r2=>q _ _ (f1.trans f2) g2 rx2 (.cons (r1.mono (f2.stab g1)) r2)⟩⟩
   ·cases hv
end
def tsH(K:M0)(Γ:Gam)(o:Option Nat):HS→SuT
 |.set i e=>fun a cls dx D σ H=>∃E fs dt,cls = .ref (He.ga K E)∧heV Γ E e fs=some dt∧LfH K a o dx fs dt σ H fun v H1=>D.nx (σ.set i (some v)) H1
 |.ret e=>fun a cls dx D σ H=>∃E fs dt,cls = .ref (He.ga K E)∧heV Γ E e fs=some dt∧LfH K a o dx fs dt σ H fun v H1=>D.rt v H1
 |.alt _ _=>fun _ _ _ _ _ _=>False
theorem K6(hr:L2H.RoomH k X.A)(nd:X.N.Nodup)(ck:bz X C Γ)(tb:TbOk X.prog X.w X.K X.mg X.base Γ k)(hz:L2N.Zn cls dx oe)(hf:∃vs,oe.data = .fields vs):∀(s:HS) (x:Stmt),my C o s x=true→PSs (X.suite a ((a,oe) :: pn)) [x] (tsH X.K Γ o s a cls dx)
 |.set i e,x,h=>by
  simp only[my]at h
  split at h
  ·simp only[M3]at h
   obtain⟨⟨⟨h1,h2⟩,h3⟩,_⟩:=h
   obtain⟨k1,k2,k3⟩:=bp ck h1
   refine⟨fun pins s σ H D I ⟨E,fs,dt,hc,hv,q⟩=>?_⟩
   exact (pss_cons (ps_set (X:=X.suite a ((a,oe) :: pn)) nd k1 k2 (EJ hr ck tb hz hf hc e _ dt h2 hv) (nj h3) k3) pss_nil).run pins s σ H D I q
  ·cases h
 |.ret e,x,h=>by
  simp only[my]at h
  split at h
  ·refine⟨fun pins s σ H D I ⟨E,fs,dt,hc,hv,q⟩=>?_⟩
   exact (pss_cons (ps_ret (EJ hr ck tb hz hf hc e _ dt h hv)) pss_nil).run pins s σ H D I q
  ·cases h
 |.alt _ _,x,h=>by simp only[my]at h;cases h
def clW(K:M0)(Γ:Gam)(hs:List Hd):List (List Value × Option Nat × SuT):=hs.map fun h=>(h.clss.map fun c=>.ref (He.ga K c),h.slot,tsH K Γ h.slot h.act.act)
theorem GV(ck:bz X C Γ)(tb:TbOk X.prog X.w X.K X.mg X.base Γ k){l:List Str}{x:Expr}(hx:∀c∈l,(Γ.xc c).isSome=true)(h:Cf C l x=true):jy X x (l.map fun c=>.ref (He.ga X.K c)):=by
 have nm:∀c∈l,bh C c=true→Names X c (.ref (He.ga X.K c)):=fun c hc g=>by
  obtain⟨g1,g2,g3⟩:=aF ck g
  obtain⟨fl,hfl⟩:=Option.isSome_iff_exists.mp (hx c hc)
  exact⟨g1,g2,.inl (tb.xc _ fl hfl).1⟩
 unfold Cf at h
 split at h
 ·split at h
  ·simp only[M3]at h
   cases aM h.1
   exact .one (nm _ (by simp) h.2)
  ·cases h
 ·split at h
  ·simp only[M3]at h
   cases aM h.1.1.1
   cases aM h.1.2
   exact .two (nm _ (by simp) h.1.1.2) (nm _ (by simp) h.2)
  ·cases h
 ·cases h
theorem uJ{h:Hd}(o:CI Γ h):∀c∈h.clss,(Γ.xc c).isSome=true:=by
 intro c hc
 unfold Hd.clss at hc
 unfold CI at o
 cases e:h.act with
 |alt d a =>
  rw[e]at o hc
  simp only[Ml,Mp,or_false]at hc
  rcases hc with rfl|rfl
  ·exact o.1
  ·exact o.2
 |set i a =>
  rw[e]at o hc
  simp only[Ml,Mp,or_false]at hc
  rw[hc];exact o
 |ret a =>
  rw[e]at o hc
  simp only[Ml,Mp,or_false]at hc
  rw[hc];exact o
theorem EI(hr:L2H.RoomH k X.A)(nd:X.N.Nodup)(ck:bz X C Γ)(tb:TbOk X.prog X.w X.K X.mg X.base Γ k):∀(hs:List Hd) (ys:List ExceptHandler),(∀h∈hs,CI Γ h)→df C hs ys=true→CP X ys (clW X.K Γ hs)
 |[],ys,_,h=>by
  unfold df at h
  cases ys with
  |nil=>exact .nil
  |cons _ _=>cases h
 |hd :: r,ys,hx,h=>by
  unfold df at h
  split at h
  ·rename_i x nm st q t
   simp only[M3]at h
   obtain⟨⟨⟨h1,h3⟩,h4⟩,h5⟩:=h
   refine .cons (GV ck tb (uJ (hx hd (Mi ..))) h1) ?_ (fun a oe cls d pn z1 z2=>K6 hr nd ck tb z1 z2 hd.act.act st h4) (EI hr nd ck tb r t (fun h hh=>hx h (Mj _ hh)) h5)
   unfold slB at h3
   unfold JD
   cases hsl:hd.slot with
   |none=>cases nm with
    |none=>trivial
    |some n=>rw[hsl]at h3;cases h3
   |some i=>cases nm with
    |none=>rw[hsl]at h3;cases h3
    |some n =>
     rw[hsl]at h3
     simp only[M3,beq_iff_eq]at h3
     exact⟨by rw[←ck.n];exact h3.1,bW ck h3.2⟩
  ·cases h
theorem BL{Γ:Gam}{E:Str}{fs:List (Str × Dat)}{ρ:aj}{G:AG}{A:bU}{hd:Hd}{r:List Hd}{K:M0}(kt:∀c k,Tb.xm E c=some k→PySem.W.exmOne K (.ref (He.ga K E)) (.ref (He.ga K c))=some k)(h:wY Γ E fs ρ G A (hd :: r)) :
  ∃b,Jb K (.ref (He.ga K E)) (hd.clss.map fun c=>.ref (He.ga K c))=some b∧if b=true then hsW Γ E hd.act.act hd.slot fs ρ G A else wY Γ E fs ρ G A r:=by
 unfold wY at h
 unfold Hd.clss
 cases e:hd.act with
 |alt c a =>
  rw[e]at h
  obtain⟨k,j,h1,h2,h3⟩:=h
  refine⟨k|| j,?_,h3⟩
  show PySem.W.exmAny K _ [_,_]=_
  have e1:=kt _ _ h1
  have e2:=kt _ _ h2
  simp only[PySem.W.exmAny,e1,e2]
  cases k <;> cases j <;> rfl
 |set i a =>
  rw[e]at h
  obtain⟨k,h1,h3⟩:=h
  exact⟨k,kt _ _ h1,h3⟩
 |ret a =>
  rw[e]at h
  obtain⟨k,h1,h3⟩:=h
  exact⟨k,kt _ _ h1,h3⟩
theorem ly{W:WX}{D:Ends}{A:bU}{G G' G1:AG}{H H' H1:Hp}{ρ':aj}{σ':L2.St}(tb:TbOk X.prog X.w X.K X.mg X.base Γ k)(l:Ln X.K W G H A D)(f:Fra G H G' H')(hE:RelE X.K H' ρ' σ')(f1:Fra G' H' G1 H1)(g0:RelG X.K G' H')(g1:RelG X.K G1 H1)(rx:cE X.K H1 dx fs)(ckN:C.N=X.N) :
  ∀(hs:List Hd) (ys:List ExceptHandler),df C hs ys=true→wY Γ E fs ρ' G1 A hs→CY X.N.length X.K W D (clW X.K Γ hs) (.ref (He.ga X.K E)) dx σ' H1
 |[],_,_,h=>l.ex ρ' G' σ' H' f hE g0 E fs G1 dx H1 f1 g1 rx h
 |hd :: r,ys,hc,hw=>by
  obtain⟨b,hm,h⟩:=BL (fun c k z=>tb.kt.xm _ _ _ z) hw
  refine⟨b,hm,fun hb hN a ha=>?_,fun hb=>?_⟩
  ·subst hb
   simp only[if_true]at h
   unfold df at hc
   split at hc
   ·rename_i x nm st q t
    simp only[M3]at hc
    obtain⟨⟨⟨_,c3⟩,c4⟩,_⟩:=hc
    have inN:∀i,hd.slot=some i→i<σ'.length:=fun i hi=>by
     rw[hN,←ckN]
     unfold slB at c3
     rw[hi]at c3
     cases nm with
     |none=>cases c3
     |some n =>
      simp only[M3,beq_iff_eq]at c3
      exact (List.getElem?_eq_some_iff.mp c3.1).1
    have slot:∀i,hd.slot=some i→(slA a hd.slot σ')[i]?=some (some (.ref a)):=fun i hi=>by
     rw[hi]
     show (σ'.set i (some (.ref a)))[i]?=_
     rw[List.getElem?_set_self (inN i hi)]
    show tsH X.K Γ hd.slot hd.act.act a _ dx _ _ _
    cases ha2:hd.act.act with
    |alt c a2=>rw[ha2]at h;exact h.elim
    |set i e =>
     rw[ha2]at h c4
     obtain⟨d,hv,hn⟩:=h
     refine⟨E,fs,d,rfl,hv,G1,g1,rx,slot,fun v H2 f2 g2 _ r2=>?_⟩
     refine l.nx _ G1 _ H2 ((f.trans f1).trans f2) ?_ g2 hn
     have hE2:RelE X.K H2 (ρ'.set i (some d)) (σ'.set i (some v)):=((hE.mono (f1.stab g0)).mono (f2.stab g1)).set r2
     cases hs:hd.slot with
     |none=>exact hE2
     |some j =>
      have hji:i≠j:=fun z=>by
       simp only[my]at c4
       split at c4
       ·simp only[M3,decide_eq_true_eq]at c4
        exact c4.2 (by rw[hs,z])
       ·cases c4
      show RelE X.K H2 ((ρ'.set i (some d)).set j none) (((σ'.set j (some (.ref a))).set i (some v)).set j none)
      rw[List.set_comm _ _ (Ne.symm hji),List.set_set]
      exact hE2.wipe1
    |ret e =>
     rw[ha2]at h
     obtain⟨d,hv,hn⟩:=h
     exact⟨E,fs,d,rfl,hv,G1,g1,rx,slot,fun v H2 f2 g2 _ r2=>l.rt d G1 v H2 ((f.trans f1).trans f2) g2 r2 hn⟩
   ·cases hc
  ·subst hb
   simp only[M6,if_false]at h
   unfold df at hc
   split at hc
   ·simp only[M3]at hc
    exact ly tb l f hE f1 g0 g1 rx ckN r _ hc.2 h
   ·cases hc
theorem Di{W:WX}{pos:Pos}{body:List Stmt}{h0:ExceptHandler}{ys:List ExceptHandler}{hs:List Hd}{wb:WfS}(oc:Oc X W Γ k)(ck:bz X C Γ)(hst:X.stack=X.env :: X.outer)(hfr:X.env.frame=some X.env.locals)(hc:df C hs (h0 :: ys)=true)
  (hb:∀(W':WX) (pn:List (Addr × Obj)) (xe:Value→Shared→Prop),L2N.Takes (X.tr pn xe) W'→PassesOwn (model X.prog X.w) X.A X.env xe→PSs (X.tr pn xe) body (LfS X.K W' wb)) :
  PS X (.Try body (h0 :: ys) [] [] pos) (LfS X.K W fun ρ G A=>(∀h∈hs,CI Γ h)∧wb ρ G {A with ex:=fun ρ' E fs G'=>wY Γ E fs ρ' G' A hs}):=by
 by_cases hx:∀h∈hs,CI Γ h
 ·refine PS.imp (tG (tb:=fun W'=>LfS X.K W' wb) hst hfr oc.nd oc.tk hb (EI (L2H.roomH_of oc.room) oc.nd ck oc.tb hs (h0 :: ys) hx hc)) ?_
  rintro D σ H ⟨ρ,G,A,hE,hG,⟨_,hw⟩,l⟩
  refine⟨ρ,G,_,hE,hG,hw,l.nx,l.rt,l.bk,l.ct,fun ρ' G' σ' H' f hE' g0 E fs G1 dx H1 f1 g1 rx q=>ly oc.tb l f hE' f1 g0 g1 rx ck.n hs _ hc q⟩
 ·exact⟨fun _ _ _ _ _ _ ⟨_,_,_,_,_,⟨z,_⟩,_⟩=>absurd z hx⟩
end
end Av
namespace Av
variable [Tb]
def swB(C:Ck)(py:Pos)(y:Str):Expr→Bool
 |.ListComp _ _ scope pos=>(C.sc.kind == .function) && (py.line == pos.line) && !(scope.names.any fun (n,k)=>n == y && (k == .local|| k == .cell))
 |_=>false
def uK:Expr→Bool
 |.Tuple vs _ _=>vs.all (foldedForSure 8) && vs.all af
 |_=>false
def dU(sc:Scope)(ts:List Expr):Bool:=ts.any fun
 |.Name id _=>!(sc.names.lookup id == some .local)
 |_=>true
def IT:Expr→Bool
 |.Constant (.str _) _ _=>true
 |_=>false
mutual
def dm(C:Ck):S→Stmt→Bool
 |.set i e,x=>match x with
  |.Assign [.Name y py] v _=>fQ C i y && ae C e v && ((bV v|| jr C.sc y)|| (kY C.sc y && swB C py y v))
  |_=>false
 |.setTp is e,x=>match x with
  |.Assign [.Tuple ts _ _] v _=>eY C ts is && ae C e v && bV v && ((noTup v|| uK v|| decide (4≤ts.length))|| dU C.sc ts)
  |_=>false
 |.par2 i j a b,x=>match x with
  |.Assign [.Tuple [.Name x px,.Name y py] _ _] (.Tuple [u,v] _ _) _=>fQ C i x && fQ C j y && kY C.sc x && kY C.sc y && !(i == j) && !(x == y) && (py.line == px.line) && (C.sc.kind == .function) &&
    !(foldedForSure 8 u && foldedForSure 8 v) && !(constantsAlone 8 u && constantsAlone 8 v) && af u && af v && ae C a u && ae C b v
  |_=>false
 |.par3 i j k a b c,x=>match x with
  |.Assign [.Tuple [.Name x px,.Name y py,.Name z pz] _ _] (.Tuple [u,v,t] _ _) _=>(fQ C i x && fQ C j y && fQ C k z) && (kY C.sc x && kY C.sc y && kY C.sc z) && (!(i == j) && !(i == k) && !(j == k)) && (!(x == y) && !(x == z) && !(y == z)) && (py.line == px.line) && (pz.line == px.line) && (C.sc.kind == .function) &&
    !(foldedForSure 8 u && foldedForSure 8 v && foldedForSure 8 t) && !(constantsAlone 8 u && constantsAlone 8 v && constantsAlone 8 t) && (af u && af v && af t) && ae C a u && ae C b v && ae C c t
  |_=>false
 |.expr e,x=>match x with
  |.Expr v _=>ae C e v && bV v
  |_=>false
 |.ret e,x=>match x with
  |.Return (some v) _=>ae C e v
  |_=>false
 |.retN,x=>match x with
  |.Return none _=>true
  |_=>false
 |.if_ c a b,x=>match x with
  |.If t u v _=>corT C c t && corSs C a u && corSs C b v
  |_=>false
 |.while_ c b,x=>match x with
  |.While t u [] _=>corT C c t && corSs C b u
  |_=>false
 |.for_ g it b,x=>match x with
  |.For tg iter u [] _=>CM C g tg && corI C it tg iter && cI iter && corSs C b u
  |_=>false
 |.setSl o lo hi e,x=>match x with
  |.Assign [.Subscript x (.Slice (some y) (some z) none _) _] v _=>bV v && ae C e v && ae C o x && ae C lo y && ae C hi z
  |_=>false
 |.setIx o i e,x=>match x with
  |.Assign [.Subscript x y _] v _=>bV v && bI y && ae C e v && ae C o x && ae C i y
  |_=>false
 |.setIN o i j e,x=>match x with
  |.Assign [.Tuple [.Subscript y z sp,.Name w wp] kk tp] v _=>bV v && dU C.sc [.Subscript y z sp,.Name w wp] && bI z && fQ C j w && ae C e v && ae C o y && ae C i z
  |_=>false
 |.dset o i e,x=>match x with
  |.Assign [.Subscript y z _] v _=>bV v && ae C e v && ae C o y && ae C i z
  |_=>false
 |.setAtt o f e,x=>match x with
  |.Assign [.Attribute y g _] v _=>(g == f) && ae C e v && ae C o y
  |_=>false
 |.setAt2 o f g e,x=>match x with
  |.Assign [.Tuple [.Attribute y a _,.Attribute z b _] _ _] v _=>(a == f) && (b == g) && bV v && noTup v && ae C e v && ae C o y && ae C o z
  |_=>false
 |.aug i o e,x=>match x with
  |.AugAssign (.Name y _) op v _=>(op == o.op) && (o == .add|| o == .sub) && fQ C i y && ae C e v
  |_=>false
 |.pass,x=>match x with
  |.Pass _=>true
  |.Expr v _=>IT v
  |_=>false
 |.brk,x=>match x with
  |.Break _=>true
  |_=>false
 |.cont,x=>match x with
  |.Continue _=>true
  |_=>false
 |.raise n [],x=>match x with
  |.Raise (some (.Call (.Name g _) [] [] _)) none _=>(n == g) && bh C g
  |_=>false
 |.raise n es,x=>match x with
  |.Raise (some (.Call (.Name g _) (z :: zs) [] _)) none _=>(n == g) && bh C g && corEs C es (z :: zs)
  |_=>false
 |.dead,_=>true
 |.sub_,_=>false
 |.retP _ _,_=>false
 |.try_ b hs,x=>match x with
  |.Try body (y :: ys) [] [] _=>corSs C b body && df C hs (y :: ys)
  |_=>false
def corSs(C:Ck):List S→List Stmt→Bool
 |[],[]=>true
 |.dead :: _,_=>true
 |s :: ss,x :: xs=>dm C s x && corSs C ss xs
 |_,_=>false
end
theorem Gh{env:Env}(h:env.scope.kind = .function):env.blockKind = .function:=by unfold Env.blockKind;rw[h];rfl
theorem xS{env:Env}{x y:Str}{px py pt p2:Pos}{u v:Expr}{kt k2:Nat}(hk:env.scope.kind = .function)(hx:env.scope.names.lookup x=some .local)(hy:env.scope.names.lookup y=some .local)(hl:(py.line == px.line)=true)(hne:(x == y)=false)(hu:af u=true)(hv:af v=true)
  (hf:(foldedForSure 8 u && foldedForSure 8 v)=false)(hc:(constantsAlone 8 u && constantsAlone 8 v)=false):swappedStores [.Tuple [.Name x px,.Name y py] kt pt] (.Tuple [u,v] k2 p2) env=pure (some [x,y]):=by
 have kx:env.kindOf x=some .local:=hx
 have ky:env.kindOf y=some .local:=hy
 have hl':(px.line == px.line)=true:=by simp
 have hyx:(y == x)=false:=by rw[beq_eq_false_iff_ne]at hne ⊢;exact fun z=>hne z.symm
 unfold swappedStores
 simp only[List.filterMap,List.any,List.all,List.head?,Option.map,Option.getD,Gh hk,kx,ky,Expr.pos,hl,hl',hf,hc,Bool.and_true,List.length]
 simp[List.eraseDups,List.eraseDupsBy,List.eraseDupsBy.loop,hne,hyx,hf,hc,Bool.and_true]
 rintro (q|q)
 ·cases u <;> first|(cases hu;done)|cases q
 ·cases v <;> first|(cases hv;done)|cases q
theorem xR{env:Env}{x y z:Str}{px py pz pt p2:Pos}{u v t:Expr}{kt k2:Nat}(hk:env.scope.kind = .function)(hx:env.scope.names.lookup x=some .local)(hy:env.scope.names.lookup y=some .local)(hz:env.scope.names.lookup z=some .local)(hl:(py.line == px.line)=true)(hl2:(pz.line == px.line)=true)
  (h1:(x == y)=false)(h2:(x == z)=false)(h3:(y == z)=false)(hu:af u=true)(hv:af v=true)(ht:af t=true)
  (hf:(foldedForSure 8 u && foldedForSure 8 v && foldedForSure 8 t)=false)(hc:(constantsAlone 8 u && constantsAlone 8 v && constantsAlone 8 t)=false):swappedStores [.Tuple [.Name x px,.Name y py,.Name z pz] kt pt] (.Tuple [u,v,t] k2 p2) env=pure (some [x,y,z]):=by
 have kx:env.kindOf x=some .local:=hx
 have ky:env.kindOf y=some .local:=hy
 have kz:env.kindOf z=some .local:=hz
 have hl':(px.line == px.line)=true:=by simp
 have k1:(y == x)=false:=by rw[beq_eq_false_iff_ne]at h1 ⊢;exact fun w=>h1 w.symm
 have k2:(z == x)=false:=by rw[beq_eq_false_iff_ne]at h2 ⊢;exact fun w=>h2 w.symm
 have k3:(z == y)=false:=by rw[beq_eq_false_iff_ne]at h3 ⊢;exact fun w=>h3 w.symm
 rw[Bool.and_assoc]at hf hc
 unfold swappedStores
 simp only[List.filterMap,List.any,List.all,List.head?,Option.map,Option.getD,Gh hk,kx,ky,kz,Expr.pos,hl,hl2,hl',hf,hc,Bool.and_true,List.length]
 simp[List.eraseDups,List.eraseDupsBy,List.eraseDupsBy.loop,h1,h2,h3,k1,k2,k3,hf,hc,Bool.and_true]
 rintro (q|q|q)
 ·cases u <;> first|(cases hu;done)|cases q
 ·cases v <;> first|(cases hv;done)|cases q
 ·cases t <;> first|(cases ht;done)|cases q
theorem xU{env:Env}{ts:List Expr}{kt:Nat}{pt:Pos}{v:Expr}(h:dU env.scope ts=true):swappedStores [.Tuple ts kt pt] v env=pure none:=by
 cases v with
 |Tuple vs k p =>
  unfold swappedStores
  dsimp only
  split
  ·rfl
  split
  ·rfl
  split
  ·rfl
  ·rename_i hn
   exfalso
   apply hn
   rw[Bool.or_eq_true]
   refine .inl ?_
   rw[bne_iff_ne]
   refine Nat.ne_of_lt (List.length_filterMap_lt_length_iff_exists.2 ?_)
   obtain⟨x,hx,hb⟩:=List.any_eq_true.1 h
   refine⟨x,hx,?_⟩
   cases x with
   |Name id pos =>
    have e:(env.kindOf id == some .local)=false:=by
     have hb2:(!(env.scope.names.lookup id == some .local))=true:=hb
     show (env.scope.names.lookup id == some .local)=false
     cases q:(env.scope.names.lookup id == some .local)with
     |false=>rfl
     |true=>rw[q]at hb2;cases hb2
    simp only[e,Bool.false_and,M6,if_false]
   |_=>rfl
 |_=>rfl
theorem xT{env:Env}{ts:List Expr}{kt:Nat}{pt:Pos}{v:Expr}(h:(noTup v|| uK v|| decide (4≤ts.length))=true):swappedStores [.Tuple ts kt pt] v env=pure none:=by
 rw[Bool.or_eq_true,Bool.or_eq_true]at h
 rcases h with (h|h)|h
 ·exact xQ h
 rotate_left
 ·have h:=of_decide_eq_true h
  have e:(!(ts.length == 2|| ts.length == 3))=true:=by
   have e2:(ts.length == 2)=false:=by simp;omega
   have e3:(ts.length == 3)=false:=by simp;omega
   rw[e2,e3];rfl
  cases v with
  |Tuple vs k p =>
   unfold swappedStores
   simp only[e,Bool.true_or,if_true]
  |_=>rfl
 ·cases v with
  |Tuple vs k p =>
   unfold uK at h
   simp only[M3]at h
   unfold swappedStores
   simp only[h.1]
   split
   ·rfl
   ·split
    ·rfl
    ·split
     ·rfl
     ·simp
  |_=>cases h
theorem np{X:Cx}{C:Ck}(ck:bz X C Γ){ts:List Expr}{kt:Nat}{pt:Pos}{v:Expr}(h:((noTup v|| uK v|| decide (4≤ts.length))|| dU C.sc ts)=true):swappedStores [.Tuple ts kt pt] v X.env=pure none:=by
 rw[Bool.or_eq_true]at h
 rcases h with h|h
 ·exact xT h
 ·exact xU (by rw[ck.sc];exact h)
theorem iw{t v:Expr}{l:Nat}{env:Env}(h:bV v=true):swapsWithSole [t] v l env=pure false:=by cases v <;> first|rfl|cases h
theorem rR{o i:Expr}{p:Pos}{env:Env}(h:bI i=true):∀v,assign (.Subscript o i p) env v=(do
   let ov ←holding [v] (eval o env)
   let iv ←holding [v,ov] (eval i env)
   standAt p
   holding [v,ov,iv] (setItem ov iv v)
   release [v,ov,iv] []):=by
 intro v
 cases i <;> first|rfl|cases h
theorem C5{v y:Expr}{g:Str}{ap:Pos}{l:Nat}{env:Env}:swapsWith v (some (.Attribute y g ap)) l env=pure false:=by cases v <;> rfl
theorem vO{env:Env}{o i:Expr}{p:Pos}{v:Expr}:swappedStores [.Subscript o i p] v env=pure none:=by cases v <;> rfl
section
variable {X:Cx} {W:WX} {C:Ck} {Γ:Gam} {k:Nat}
theorem xV{y:Str}{py:Pos}{v:Expr}{l:Nat}(ck:bz X C Γ)(h:jr C.sc y=true):swapsWith v (some (.Name y py)) l X.env=pure false:=by
 have hk:(X.env.kindOf y == some NameKind.local)=false:=by
  have e:X.env.scope.names.lookup y=some .cell:=by
   rw[ck.sc]
   unfold jr at h
   split at h
   ·assumption
   ·cases h
  show (X.env.scope.names.lookup y == some NameKind.local)=false
  rw[e]
  rfl
 cases v with
 |ListComp _ _ _ _=>unfold swapsWith;simp only[hk,Bool.and_false,Bool.false_and]
 |SetComp _ _ _ _=>unfold swapsWith;simp only[hk,Bool.and_false,Bool.false_and]
 |DictComp _ _ _ _ _=>unfold swapsWith;simp only[hk,Bool.and_false,Bool.false_and]
 |_=>rfl
theorem Iv(oc:Oc X W Γ k)(ck:bz X C Γ){i:Nat}{y:Str}{py p:Pos}{v:Expr}(hi:X.N[i]?=some y)(hl:kY C.sc y=true)(hs:swB C py y v=true):∀(e:E),ae C e v=true→PS X (.Assign [.Name y py] v p) (LfS X.K W fun ρ G A=>wE Γ e ρ G (fun d G1=>A.nx (ρ.set i (some d)) G1) (A.ex ρ)):=by
 cases v with
 |ListComp elt gens scope pos =>
  unfold swB at hs
  simp only[M3,Bool.not_eq_true',beq_iff_eq]at hs
  have hyl:=bW ck hl
  have hk:X.env.scope.kind = .function:=by rw[ck.sc];exact hs.1.1
  have hsw:∀gs,swapsWith (.ListComp elt gs scope pos) (some (.Name y py)) p.line X.env=pure true:=fun gs=>sw_true hk hyl (beq_iff_eq.mpr hs.1.2) hs.2
  intro e
  induction e using E.rec (motive_2:=fun _=>True) (motive_3:=fun _=>True) (motive_4:=fun _=>True)with
  |lc z e g it own _ _ =>
   intro h
   unfold ae at h
   split at h
   ·rename_i heq
    cases heq
    simp only[M3]at h
    obtain⟨on,rfl,k1,k2,k3,k4⟩:=iW ck oc.calm oc.nd h.1.1
    refine PS.imp (kH (z:=z) (wt:=fun _ G Q _=>Q true G) oc hi hyl (hsw _) (okI it _ _ oc ck h.1.2) k1 k2 k3 (fun s H c cl fp=>pts_nil) (fun s H c cl fp=>okE e _ (oc.blk s H _ _ fp) (bJ ck s H _ cl c fp) h.2) k4 (fun σ H Q ρ G Qa a b c d=>gi _ σ H Q ρ G Qa a b c d)) ?_
    rintro D σ H ⟨ρ,G,A,hE,hG,hw,l⟩
    refine⟨ρ,G,A,hE,hG,?_,l⟩
    unfold wE at hw
    unfold lcG
    simp only[iU]
    exact hw
   ·cases h
  |lcX z e g it own ls _ _ =>
   intro h
   unfold ae at h
   split at h
   ·rename_i heq
    cases heq
    simp only[M3]at h
    obtain⟨⟨⟨⟨ht,h1⟩,h2⟩,h3⟩,h4⟩:=h
    obtain⟨on,rfl,k1,k2,k3,k4⟩:=o8 ck oc.calm oc.nd ht h1
    refine PS.imp (nz (z:=z) (wt:=fun _ G Q _=>Q true G) (we:=fun ρ G Q E=>∀cs:Nat→Option Addr,(∀i∈ls,∃c,cs i=some c)→wE {Γ with cs:=cs} e ρ G Q E) oc hi hyl (hsw _) (okI it _ _ oc ck h3) k1 k2 k3 (fun pins σ s H fp I=>pts_nil) (fun pins σ s H fp I=>?_) k4 (fun σ H Q ρ G Qa a b c d=>gi _ σ H Q ρ G Qa a b c d)) ?_
    ·obtain⟨cz,all⟩:=xv (fp:=fp) ck k1 ht h2 I
     exact PE.imp (okE e _ (oc.blkC s H _ _ fp _) (gR ck ht cz) h4) fun σ H Q ⟨ρ,G,Qa,Ea,hE,hG,hw,hp,hx⟩=>⟨ρ,G,Qa,Ea,hE,hG,hw _ all,hp,hx⟩
    rintro D σ H ⟨ρ,G,A,hE,hG,hw,l⟩
    refine⟨ρ,G,A,hE,hG,?_,l⟩
    unfold wE at hw
    unfold lcG
    simp only[iU]
    exact hw
   ·cases h
  |lcIf z e g it t own _ _ _ =>
   intro h
   unfold ae at h
   split at h
   ·rename_i heq
    cases heq
    simp only[M3]at h
    obtain⟨on,rfl,k1,k2,k3,k4⟩:=iW ck oc.calm oc.nd h.1.1.1
    exact kH (z:=z) (wt:=wT Γ t) oc hi hyl (hsw _) (okI it _ _ oc ck h.1.1.2) k1 k2 k3 (fun s H c cl fp=>pts_one (okT t _ (oc.blk s H _ _ fp) (bJ ck s H _ cl c fp) h.2).1) (fun s H c cl fp=>okE e _ (oc.blk s H _ _ fp) (bJ ck s H _ cl c fp) h.1.2) k4
     (fun σ H Q ρ G Qa a b c d=>jH _ σ H Q ρ G Qa a b c d)
   ·cases h
  |ktt a ih =>
   intro h
   unfold ae at h
   exact absurd h Bool.false_ne_true
  |or2 a b iha ihb =>
   intro h
   unfold ae at h
   exact absurd h Bool.false_ne_true
  |frz a ih =>
   intro h
   unfold ae at h
   exact Dk hi (ih h)
  |call f es _=>intro h;cases es <;> (unfold ae at h;cases h)
  |mcall n m o es _ _=>intro h;cases es <;> (unfold ae at h;cases h)
  |new n es _=>intro h;cases es <;> (unfold ae at h;cases h)
  |meth m o es _ _=>intro h;cases es <;> (unfold ae at h;cases h)
  |smeth z m o es _ _=>intro h;cases es <;> (unfold ae at h;cases h)
  |dead=>exact fun _=>⟨fun _ _ _ _ _ _ ⟨ρ,G,A,_,_,hw,_⟩=>by dsimp only at hw;unfold wE at hw;exact False.elim hw⟩
  |_=>first|trivial|(intro h;unfold ae at h;cases h;done)|skip
 |_=>cases hs
mutual
theorem K5{Γ:Gam}{k:Nat}:∀(s:S) {X:Cx} {W:WX} {C:Ck} (x:Stmt),PassesOwn (model X.prog X.w) X.A X.env X.xe→X.stack=X.env :: X.outer∧X.env.frame=some X.env.locals→Oc X W Γ k→bz X C Γ→dm C s x=true→PS X x (LfS X.K W (wS Γ s))
 |.set i e,X,W,C,x,po,st,oc,ck,h=>by
  unfold dm at h
  split at h
  ·simp only[M3,Bool.or_eq_true]at h
   obtain⟨⟨h1,h2⟩,h3⟩:=h
   obtain⟨k1,k2,k3⟩:=bp ck h1
   rcases h3 with (h3|h3)|h3
   ·exact vP oc.nd k1 k2 (okE e _ oc ck h2) (nj h3) k3
   ·exact vP oc.nd k1 k2 (okE e _ oc ck h2) (xV ck h3) k3
   ·exact Iv oc ck k1 h3.1 h3.2 e h2
  ·cases h
 |.setTp is e,X,W,C,x,po,st,oc,ck,h=>by
  unfold dm at h
  split at h
  ·simp only[M3]at h
   exact sA oc.calm oc.nd (dZ ck h.1.1.1) (okE e _ oc ck h.1.1.2) (iw h.1.2) (np ck h.2)
  ·cases h
 |.par2 i j a b,X,W,C,x,po,st,oc,ck,h=>by
  unfold dm at h
  split at h
  ·simp only[M3,Bool.not_eq_true',beq_iff_eq,beq_eq_false_iff_ne]at h
   obtain⟨⟨⟨⟨⟨⟨⟨⟨⟨⟨⟨⟨⟨h1,h2⟩,h3⟩,h4⟩,h5⟩,h6⟩,h7⟩,h8⟩,h9⟩,h10⟩,h11⟩,h12⟩,h13⟩,h14⟩:=h
   exact y4 oc.calm oc.nd (bp ck h1).1 (bp ck h2).1 h5 (bW ck h3) (bW ck h4) (okE a _ oc ck h13) (okE b _ oc ck h14) (ax h11) (ax h12)
    (xS (by rw[ck.sc];exact h8) (bW ck h3) (bW ck h4) (beq_iff_eq.mpr h7) (beq_eq_false_iff_ne.mpr h6) h11 h12 h9 h10) rfl
  ·cases h
 |.par3 i j m a b c,X,W,C,x,po,st,oc,ck,h=>by
  unfold dm at h
  split at h
  ·simp only[M3,Bool.not_eq_true',beq_iff_eq,beq_eq_false_iff_ne]at h
   obtain⟨⟨⟨⟨⟨⟨⟨⟨⟨⟨⟨⟨⟨⟨h1,h2⟩,h3⟩,⟨h4,h5⟩,h6⟩,⟨h7,h8⟩,h9⟩,⟨h10,h11⟩,h12⟩,h13⟩,h14⟩,h15⟩,h16⟩,h17⟩,⟨h18,h19⟩,h20⟩,h21⟩,h22⟩,h23⟩:=h
   exact y3 oc.calm oc.nd (bp ck h1).1 (bp ck h2).1 (bp ck h3).1 h7 h8 h9 (bW ck h4) (bW ck h5) (bW ck h6) (okE a _ oc ck h21) (okE b _ oc ck h22) (okE c _ oc ck h23) (ax h18) (ax h19) (ax h20)
    (xR (by rw[ck.sc];exact h15) (bW ck h4) (bW ck h5) (bW ck h6) (beq_iff_eq.mpr h13) (beq_iff_eq.mpr h14) (beq_eq_false_iff_ne.mpr h10) (beq_eq_false_iff_ne.mpr h11) (beq_eq_false_iff_ne.mpr h12) h18 h19 h20 h16 h17) rfl
  ·cases h
 |.expr e,X,W,C,x,po,st,oc,ck,h=>by
  unfold dm at h
  split at h
  ·simp only[M3]at h
   exact y6 (okE e _ oc ck h.1) (nj h.2)
  ·cases h
 |.ret e,X,W,C,x,po,st,oc,ck,h=>by
  unfold dm at h
  split at h
  ·exact Dj (okE e _ oc ck h)
  ·cases h
 |.retN,X,W,C,x,po,st,oc,ck,h=>by
  unfold dm at h
  split at h
  ·exact xY
  ·cases h
 |.if_ c a b,X,W,C,x,po,st,oc,ck,h=>by
  unfold dm at h
  split at h
  ·simp only[M3]at h
   exact Hg (okT c _ oc ck h.1.1).1 (okSs' a _ po st oc ck h.1.2) (okSs' b _ po st oc ck h.2)
  ·cases h
 |.while_ c b,X,W,C,x,po,st,oc,ck,h=>by
  unfold dm at h
  split at h
  ·simp only[M3]at h
   exact sy po (okT c _ oc ck h.1).1 (okSs' b _ po st oc ck h.2)
  ·cases h
 |.for_ g it b,X,W,C,x,po,st,oc,ck,h=>by
  unfold dm at h
  split at h
  ·simp only[M3]at h
   exact Dl po oc.calm (okI it _ _ oc ck h.1.1.2) (j7 ck oc.calm oc.nd h.1.1.1) (okSs' b _ po st oc ck h.2) (j4 h.1.2)
  ·cases h
 |.setSl o lo hi e,X,W,C,x,po,st,oc,ck,h=>by
  unfold dm at h
  split at h
  ·simp only[M3]at h
   obtain⟨⟨⟨⟨h1,h2⟩,h3⟩,h4⟩,h5⟩:=h
   exact sB (okE e _ oc ck h2) (okE o _ oc ck h3) (okE lo _ oc ck h4) (okE hi _ oc ck h5) (iw h1) vO rfl
  ·cases h
 |.setIx o i e,X,W,C,x,po,st,oc,ck,h=>by
  unfold dm at h
  split at h
  ·simp only[M3]at h
   obtain⟨⟨⟨⟨h1,h2⟩,h3⟩,h4⟩,h5⟩:=h
   exact sC (okE e _ oc ck h3) (okE o _ oc ck h4) (okE i _ oc ck h5) (iw h1) vO rfl (rR h2)
  ·cases h
 |.setIN o i j e,X,W,C,x,po,st,oc,ck,h=>by
  unfold dm at h
  split at h
  ·simp only[M3]at h
   obtain⟨⟨⟨⟨⟨⟨h1,h2⟩,h3⟩,h4⟩,h5⟩,h6⟩,h7⟩:=h
   exact sD oc.calm oc.nd ⟨bp ck h4,trivial⟩ (okE e _ oc ck h5) (okE o _ oc ck h6) (okE i _ oc ck h7) (iw h1) (np ck (by rw[h2,Bool.or_true])) (rR h3)
  ·cases h
 |.dset o i e,X,W,C,x,po,st,oc,ck,h=>by
  unfold dm at h
  split at h
  ·simp only[M3]at h
   obtain⟨⟨⟨h1,h2⟩,h3⟩,h4⟩:=h
   exact y7 oc (okE e _ oc ck h2) (okE o _ oc ck h3) (okE i _ oc ck h4) (nj h1)
  ·cases h
 |.setAtt o f e,X,W,C,x,po,st,oc,ck,h=>by
  unfold dm at h
  split at h
  ·simp only[M3]at h
   obtain⟨⟨h1,h3⟩,h4⟩:=h
   cases aM h1
   exact nA oc (okE e _ oc ck h3) (okE o _ oc ck h4) C5
  ·cases h
 |.setAt2 o f g e,X,W,C,x,po,st,oc,ck,h=>by
  unfold dm at h
  split at h
  ·simp only[M3]at h
   obtain⟨⟨⟨⟨⟨⟨h1,h2⟩,h3⟩,h4⟩,h5⟩,h6⟩,h7⟩:=h
   cases aM h1
   cases aM h2
   exact nB oc (okE e _ oc ck h5) (okE o _ oc ck h6) (okE o _ oc ck h7) (iw h3) (np ck (by rw[h4];rfl))
  ·cases h
 |.aug i o e,X,W,C,x,po,st,oc,ck,h=>by
  unfold dm at h
  split at h
  ·simp only[M3,Bool.or_eq_true,beq_iff_eq]at h
   obtain⟨⟨⟨rfl,h1⟩,h2⟩,h3⟩:=h
   obtain⟨k1,k2,k3⟩:=bp ck h2
   exact Do oc.nd k1 k2 (okE e _ oc ck h3) h1 k3
  ·cases h
 |.pass,X,W,C,x,po,st,oc,ck,h=>by
  unfold dm at h
  split at h
  ·exact xZ
  ·rename_i v p
   cases v with
   |Constant c j q =>
    cases c with
    |str z=>exact Dm
    |_=>cases h
   |_=>cases h
  ·cases h
 |.brk,X,W,C,x,po,st,oc,ck,h=>by
  unfold dm at h
  split at h
  ·exact Dn
  ·cases h
 |.cont,X,W,C,x,po,st,oc,ck,h=>by
  unfold dm at h
  split at h
  ·exact z6
  ·cases h
 |.raise n [],X,W,C,x,po,st,oc,ck,h=>by
  unfold dm at h
  split at h
  ·simp only[M3]at h
   cases aM h.1
   obtain⟨h1,h2,_⟩:=aF ck h.2
   exact nE oc h1 h2
  ·cases h
 |.raise n (e :: es),X,W,C,x,po,st,oc,ck,h=>by
  unfold dm at h
  split at h
  ·rename_i g p z zs pc pos
   simp only[M3]at h
   cases aM h.1.1
   obtain⟨h1,h2,_⟩:=aF ck h.1.2
   have ha:=okEs (e :: es) _ oc ck h.2
   obtain⟨l1,l2⟩:=aD h.2
   obtain⟨l3,l4⟩:=aL l2
   exact sE oc h1 h2 ha (ax l3) (az l4)
  ·cases h
 |.dead,X,W,C,x,po,st,oc,ck,h=>⟨fun _ _ _ _ _ _ ⟨ρ,G,A,_,_,hw,_⟩=>by unfold wS at hw;exact False.elim hw⟩
 |.sub_,X,W,C,x,po,st,oc,ck,h=>by unfold dm at h;cases h
 |.retP _ _,X,W,C,x,po,st,oc,ck,h=>by unfold dm at h;cases h
 |.try_ b hs,X,W,C,x,po,st,oc,ck,h=>by
  unfold dm at h
  split at h
  ·simp only[M3]at h
   refine PS.imp (Di (wb:=wSs Γ b) oc ck st.1 st.2 h.2 fun W' pn xe tk po'=>okSs' b _ po' st ⟨oc.room,oc.nd,oc.calm,tk,oc.tb⟩ ⟨ck.n,ck.sc,ck.fn,fun z=>(ck.cs z).tr pn xe,ck.isL,ck.gd⟩ h.1) ?_
   rintro D σ H ⟨ρ,G,A,hE,hG,hw,l⟩
   exact⟨ρ,G,A,hE,hG,by unfold wS at hw;exact hw,l⟩
  ·cases h
theorem okSs'{Γ:Gam}{k:Nat}:∀(ss:List S) {X:Cx} {W:WX} {C:Ck} (xs:List Stmt),PassesOwn (model X.prog X.w) X.A X.env X.xe→X.stack=X.env :: X.outer∧X.env.frame=some X.env.locals→Oc X W Γ k→bz X C Γ→corSs C ss xs=true→PSs X xs (LfS X.K W (wSs Γ ss))
 |[],_,_,_,[],_,_,_,_,_=>xX
 |[],_,_,_,_ :: _,_,_,_,_,h=>by unfold corSs at h;cases h
 |s :: ss,X,W,C,xs,po,st,oc,ck,h=>by
  by_cases hd:s = .dead
  ·subst hd
   exact⟨fun _ _ _ _ _ _ ⟨ρ,G,A,_,_,hw,_⟩=>by unfold wSs wS at hw;exact False.elim hw⟩
  ·cases xs with
   |nil=>cases s <;> first|(unfold corSs at h;cases h;done)|exact absurd rfl hd
   |cons x xs =>
    have h':(dm C s x && corSs C ss xs)=true:=by
     cases s <;> first|exact h|exact absurd rfl hd
    simp only[M3]at h'
    exact sx (ws:=wS Γ s) (wr:=wSs Γ ss) (K5 s x po st oc ck h'.1) (okSs' ss xs po st oc ck h'.2)
end
theorem Iu(po:PassesOwn (model X.prog X.w) X.A X.env X.xe)(st:X.stack=X.env :: X.outer∧X.env.frame=some X.env.locals)(oc:Oc X W Γ k)(ck:bz X C Γ)(ss:List S)(xs:List Stmt)(h:corSs C ss xs=true):PSs X xs (LfS X.K W (wSs Γ ss)):=okSs' ss xs po st oc ck h
end
def ah(N:List Str)(ds:List Dat):aj:=ds.map some++Mh (N.length - ds.length) none
def ay(Q:AQ)(X:AX):bU:=⟨fun _ G=>∃G0,Sub G0 G∧Q .non G0,fun d G=>∃G0,Sub G0 G∧Q d G0,fun _ _=>False,fun _ _=>False,fun _ c fs G=>∃G0,Sub G0 G∧X c fs G0⟩
theorem dq{K:M0}{H:Hp}{N:List Str}{vs:List V}{ds:List Dat}(r:Reps K H vs ds):RelE K H (ah N ds) (L2.start N vs):=by
 refine⟨by simp[ah,L2.start,r.length],fun i d e=>?_⟩
 unfold ah at e
 unfold L2.start
 by_cases hi:i<ds.length
 ·rw[List.getElem?_append_left (by rw[M5];exact hi),Mg]at e
  rw[List.getElem?_append_left (by rw[M5,r.length];exact hi),Mg]
  obtain⟨v,d',h1,h2,h3⟩:=r.lt hi
  rw[h2]at e
  cases e
  exact⟨v,by rw[h1];rfl,h3⟩
 ·rw[List.getElem?_append_right (by rw[M5];omega),List.getElem?_replicate]at e
  split at e <;> cases e
def aJ(N ps:List Str)(sc:Scope):Bool :=
 (sc.kind == .function) && !sc.isCoroutine && !sc.isGenerator && decide N.Nodup && (N.take ps.length == ps) && (ps.all fun x=>kY sc x|| jr sc x) && (sc.names.all fun y=>!(y.2 == .free))
theorem eP{N ps:List Str}{sc:Scope}(h:aJ N ps sc=true):FnScope N ps sc:=by
 unfold aJ at h
 simp only[M3,Bool.not_eq_true',beq_iff_eq,decide_eq_true_eq,List.all_eq_true,Bool.or_eq_true,beq_eq_false_iff_ne]at h
 obtain⟨⟨⟨⟨⟨⟨h1,h2⟩,h3⟩,h4⟩,h5⟩,h6⟩,h7⟩:=h
 refine⟨h1,h2,h3,h4,h5,fun x hx=>?_,h7⟩
 rcases h6 x hx with q|q
 ·unfold kY at q
  split at q
  ·exact .inl (by assumption)
  ·cases q
 ·unfold jr at q
  split at q
  ·exact .inr (by assumption)
  ·cases q
theorem i8{P:Program}{w:World}{K:M0}{mg:Str→Option Value}{base:Heap}{Γ:Gam}{k:Nat}{F:FnE}{N ps:List Str}{ss:List S}{x qual:Str}{params:Arguments}{body:List Stmt}{scope:Scope}{dvs:List V}{kws:List (Str × V)}{f:Addr}{fd:FuncData}
  (FD:FunD K x qual params body scope dvs kws f fd)(hS:aJ N ps scope=true)(hl:ps.length=F.ar)(tb:TbOk P w K mg base Γ k)(cor:corSs {N:=N,sc:=scope,top:=true} ss body=true)
  (hw:∀ds G Q X,F.con ds G Q X→wSs Γ ss (ah N ds) G (ay Q X))(h0:Γ.cs=fun _=>none:=by rfl):FnOk P w K mg base (L2N.CX P w) (k+1) f fd ps (bF K F):=by
 have S:=eP hS
 refine FD.ok S (fun vs H Q E h=>by rw[hl];exact gw h) fun cdv A outer s H vs Q E hr hsp=>?_
 obtain⟨ds,G,Qa,Ea,r,g,hc,hp,hx⟩:=hsp
 refine⟨LfS K (fun cls d _ H=>E cls d H) (wSs Γ ss),Iu (passes_of rfl) ⟨rfl,rfl⟩ ⟨hr,S.nd,rfl,L2N.takes_of rfl rfl rfl rfl,tb⟩ ⟨rfl,rfl,fun _ _ _ _=>rfl,fun _ i c e=>(by rw[h0]at e;cases e),(fun _ _ z=>by cases z),fun z=>by cases z⟩ ss body cor,ah N ds,G,ay Qa Ea,dq r,g,hw ds G Qa Ea hc,?_⟩
 refine⟨fun ρ' G' σ' H' f e g' q=>?_,fun d G' v H' f g' rv q=>?_,fun _ _ _ _ _ _ _ q=>q.elim,fun _ _ _ _ _ _ _ q=>q.elim,fun ρ' G' σ' H' f e g0 c fs G'' dx H'' f2 g2 rx q=>?_⟩
 ·obtain⟨G0,s0,q⟩:=q
  exact hp .non G0 .non H' (f.trans (.sub s0)) (g'.sub s0) .non q
 ·obtain⟨G0,s0,q⟩:=q
  exact hp d G0 v H' (f.trans (.sub s0)) (g'.sub s0) rv q
 ·obtain⟨G0,s0,q⟩:=q
  exact hx c fs G0 dx H'' ((f.trans f2).trans (.sub s0)) (g2.sub s0) rx q
end Av
namespace Av
variable [Tb]
mutual
def ji(K:M0):Dat→Value→Bool
 |.non,u=>match u with
  |.none=>true
  |_=>false
 |.bl b,u=>match u with
  |.bool c=>b == c
  |_=>false
 |.int i,u=>match u with
  |.int j _=>decide (i=j)
  |_=>false
 |.str x,u=>match u with
  |.str y _=>decide (x=y)
  |_=>false
 |.ty n,u=>match u with
  |.type m=>decide (n=m)
  |_=>false
 |.tup ds,u=>match u with
  |.ref a=>(match K.lookup a with
   |some ⟨.type c,_,.seq its _,_⟩=>decide (c = "tuple") && decide (its.size≤sizeLine) && datsB K ds its.toList
   |_=>false)
  |_=>false
 |.kls ds,u=>match u with
  |.ref a=>(match K.lookup a with
   |some ⟨.type c,none,.seq its _,_⟩=>decide (c = "list") && decide (its.size≤sizeLine) && datsB K ds its.toList
   |_=>false)
  |_=>false
 |.lst _,_=>false
 |.ref _,_=>false
 |.gf x,u=>match u with
  |.ref a=>decide (a=He.ga K x)
  |_=>false
 |.clo ..,_=>false
 |.exc ..,_=>false
 |.ktp _,_=>false
 |.dz _ _,_=>false
def datsB(K:M0):List Dat→List Value→Bool
 |[],us=>us.isEmpty
 |d :: ds,us=>match us with
  |u :: us=>ji K d u && datsB K ds us
  |[]=>false
end
mutual
theorem qH{K:M0}:∀(d:Dat) (u:Value),ji K d u=true→∃v,RelV v u∧∀H,Rep K H v d
 |.non,u,h=>by
  unfold ji at h
  split at h
  ·exact⟨.non,rfl,fun _=>.non⟩
  ·cases h
 |.bl b,u,h=>by
  unfold ji at h
  split at h
  ·cases beq_iff_eq.mp h;exact⟨.bl b,rfl,fun _=>.bl b⟩
  ·cases h
 |.int b,u,h=>by
  unfold ji at h
  split at h
  ·cases of_decide_eq_true h;exact⟨.int b,⟨_,rfl⟩,fun _=>.int b⟩
  ·cases h
 |.str b,u,h=>by
  unfold ji at h
  split at h
  ·cases of_decide_eq_true h;exact⟨.str b,⟨_,rfl⟩,fun _=>.str b⟩
  ·cases h
 |.ty b,u,h=>by
  unfold ji at h
  split at h
  ·cases of_decide_eq_true h;exact⟨.ty b,rfl,fun _=>.ty b⟩
  ·cases h
 |.tup ds,u,h=>by
  unfold ji at h
  split at h
  ·split at h
   ·simp only[M3,decide_eq_true_eq]at h
    obtain⟨⟨rfl,h2⟩,h3⟩:=h
    obtain⟨vs,k1,k2⟩:=datsB_ok ds _ h3
    exact⟨.ref _,rfl,fun H=>.tup (.inr (.inr ⟨_,_,_,by assumption,rfl,rfl,h2,k1⟩)) (k2 H)⟩
   ·cases h
  ·cases h
 |.kls ds,u,h=>by
  unfold ji at h
  split at h
  ·split at h
   ·simp only[M3,decide_eq_true_eq]at h
    obtain⟨⟨rfl,h2⟩,h3⟩:=h
    obtain⟨vs,k1,k2⟩:=datsB_ok ds _ h3
    exact⟨.ref _,rfl,fun H=>.kls (.inr ⟨_,_,_,by assumption,rfl,rfl,rfl,h2,k1⟩) (k2 H)⟩
   ·cases h
  ·cases h
 |.lst _,_,h=>by unfold ji at h;cases h
 |.ref _,_,h=>by unfold ji at h;cases h
 |.gf b,u,h=>by
  unfold ji at h
  split at h
  ·cases of_decide_eq_true h;exact⟨.ref _,rfl,fun _=>.gf b⟩
  ·cases h
 |.clo ..,_,h=>by unfold ji at h;cases h
 |.exc ..,_,h=>by unfold ji at h;cases h
 |.ktp _,_,h=>by unfold ji at h;cases h
 |.dz _ _,_,h=>by unfold ji at h;cases h
theorem datsB_ok{K:M0}:∀(ds:List Dat) (us:List Value),datsB K ds us=true→∃vs,Vals vs us∧∀H,Reps K H vs ds
 |[],us,h=>by
  unfold datsB at h
  cases us with
  |nil=>exact⟨[],.nil,fun _=>.nil⟩
  |cons=>cases h
 |d :: ds,us,h=>by
  unfold datsB at h
  split at h
  ·rename_i u us
   simp only[M3]at h
   obtain⟨v,k1,k2⟩:=qH d u h.1
   obtain⟨vs,k3,k4⟩:=datsB_ok ds us h.2
   exact⟨v :: vs,.cons k1 k3,fun H=>.cons (k2 H) (k4 H)⟩
  ·cases h
end
def gvB(K:M0)(q:Str × Dat):Bool:=match PySem.W.nsIn K mainGlobals q.1 with
 |some (some u)=>ji K q.2 u
 |_=>false
theorem Fp{K:M0}{h:Heap}{mg:Str→Option Value}(X:K.In h)(G:h.Ns mainGlobals mg){q:Str × Dat}(c:gvB K q=true):∃u v,RelV v u∧(∀H,Rep K H v q.2)∧mg q.1=some u:=by
 unfold gvB at c
 split at c
 ·rename_i u e
  obtain⟨v,h1,h2⟩:=qH _ _ c
  exact⟨u,v,h1,h2,PySem.W.mg_of X G e⟩
 ·cases c
def IQ:Value→Option Key
 |.int i _=>some (.inl i)
 |.str x _=>some (.inr x)
 |_=>none
def Ff(e:DictEntry):Option Key × Int:=(IQ e.key,e.hash)
def uE(K:M0)(x:Str):Option (Addr × List (Option Key × Int) × List Value):=match PySem.W.nsIn K mainGlobals x with
 |some (some (.ref d))=>(match K.lookup d with
  |some ⟨.type c,none,.dict es _,sl⟩=>(match decide (c = "dict") && (sl.isEmpty && !(d == sysModules))with
   |true=>some (d,es.toList.map Ff,es.toList.map (·.val))
   |false=>none)
  |_=>none)
 |_=>none
def wV(K:M0)(x:Str):List Value:=match uE K x with
 |some (_,_,vs)=>vs
 |none=>[]
structure KdSays(K:M0)(w:World)(x:Str)(kvs:List (Key × Dat)):Prop where
 h:(uE K x).map (fun q=>q.2.1)=some (kvs.map fun q=>(some q.1,keyH w q.1))
 v:datsB K (kvs.map (·.2)) (wV K x)=true
 nd:decide ((kvs.map (·.1)).Nodup)=true
theorem By{v:Value}{k:Key}(h:IQ v=some k):keyIs k v=true:=by
 cases v with
 |int i t=>cases h;simp[keyIs,Value.isInt]
 |str x t=>cases h;simp[keyIs,Value.isStrOf]
 |_=>cases h
theorem kR{P:Program}{w:World}:∀{es:List DictEntry} {kvs:List (Key × Dat)} {vs:List V},es.map Ff=kvs.map (fun q=>(some q.1,keyH w q.1))→Vals vs (es.map (·.val))→
  (∀e∈es,∃k,(mixKind P w).is k e.key=true∧e.hash=(mixKind P w).hash k)∧PySem.Pairs (mixKind P w) es ((kvs.map (·.1)).zip (es.map (·.val)))∧KV ((kvs.map (·.1)).zip vs) ((kvs.map (·.1)).zip (es.map (·.val)))
 |[],[],vs,_,r=>by cases r;exact⟨(fun e he=>by simp at he),.nil,.nil⟩
 |[],_ :: _,_,h,_=>by simp at h
 |_ :: _,[],_,h,_=>by simp at h
 |e :: es,(k,d) :: kvs,vs,h,r=>by
  simp only[Mc,List.cons.injEq]at h
  cases r with
  |cons r1 r2 =>
   obtain⟨i1,i2,i3⟩:=kR (P:=P) h.2 r2
   have hk:IQ e.key=some k:=congrArg (·.1) h.1
   have hh:e.hash=keyH w k:=congrArg (·.2) h.1
   have is:=By hk
   refine⟨fun e' he=>?_,.cons is rfl i2,.cons ⟨rfl,r1⟩ i3⟩
   rcases List.mem_cons.mp he with rfl|he
   ·exact⟨k,is,hh⟩
   ·exact i1 e' he
theorem pv{K:M0}{H:Hp}:∀{kvs:List (Key × Dat)} {vs:List V},Reps K H vs (kvs.map (·.2))→KRel K H ((kvs.map (·.1)).zip vs) kvs
 |[],_,.nil=>.nil
 |(k,d) :: kvs,_,.cons a r=>.cons ⟨rfl,a⟩ (pv r)
theorem KdSays.ok{K:M0}{P:Program}{w:World}{x:Str}{kvs:List (Key × Dat)}{h:Heap}{mg:Str→Option Value}(c:KdSays K w x kvs)(X:K.In h)(G:h.Ns mainGlobals mg) :
  ∃d vk,mg x=some (.ref d)∧KdAt K P w d vk∧∀H,KRel K H vk kvs:=by
 obtain⟨h1,h2,h3⟩:=c
 cases q:uE K x with
 |none=>rw[q]at h1;cases h1
 |some r =>
  obtain⟨d,ks,us⟩:=r
  unfold wV at h2
  rw[q]at h1 h2
  simp only[Option.map_some,Option.some.injEq]at h1
  unfold uE at q
  split at q
  ·rename_i d' e1
   split at q
   ·rename_i c es ep sl e2
    split at q
    ·rename_i e3
     simp only[Option.some.injEq,Prod.mk.injEq]at q
     obtain⟨rfl,rfl,rfl⟩:=q
     simp only[M3,decide_eq_true_eq,Bool.not_eq_true']at e3
     obtain⟨rfl,e4,e5⟩:=e3
     obtain⟨vs,v1,v2⟩:=datsB_ok _ _ h2
     obtain⟨p1,p2,p3⟩:=kR (P:=P) h1 v1
     have sl0:sl = #[]:=by simpa using e4
     have nd:((kvs.map (·.1)).zip (es.toList.map (·.val))).map (·.1)=kvs.map (·.1):=by
      have l:=congrArg List.length h1
      simp only[M5]at l
      exact List.map_fst_zip (by simp only[M5];omega)
     refine⟨d',_,PySem.W.mg_of X G e1,⟨⟨_,es,ep,_,e2,⟨rfl,rfl,sl0⟩,rfl,fun e he=>p1 e (Array.mem_toList_iff.mpr he),p2,?_,p3⟩,e5⟩,fun H=>pv (v2 H)⟩
     rw[nd]
     exact of_decide_eq_true h3
    ·cases q
   ·cases q
  ·cases q
structure Tab where
 fns:List (Str × FnE):=[]
 gl:List (Str × Dat):=[]
 ats:List (Str × Str):=[]
 mss:List ((Str × Str) × FnE):=[]
 mks:List (Str × FnE):=[]
 xcs:List (Str × List Str):=[]
 dcs:List (Str × List (Key × Dat)):=[]
 lms:List (Nat × il):=[]
 cms:List ((Str × Str) × FnE):=[]
 hfs:List (Str × JI):=[]
 mns:List ((Str × Str × Nat × List Str) × FnE × List Nat):=[]
abbrev Gm(t:Tab):Gam:={fn:=fun f=>t.fns.lookup f,gl:=fun x=>t.gl.lookup x,at_:=fun C f=>t.ats.contains (C,f),ms:=fun C m=>t.mss.lookup (C,m),mke:=fun C=>t.mks.lookup C,xc:=fun C=>t.xcs.lookup C,dc:=fun x=>t.dcs.lookup x,lam:=fun q=>t.lms.lookup q,cm:=fun C m=>t.cms.lookup (C,m),hf:=fun f=>t.hfs.lookup f,mn:=fun C m n ks=>t.mns.lookup (C,m,n,ks)}
def C0:List (Str × Dat):=[("list",.ty "list"),("tuple",.ty "tuple"),("bool",.ty "bool"),("int",.ty "int"),("str",.ty "str"),("dict",.ty "dict")]
def lO:List Str:=["len","int","tuple","list","isinstance","all","any","sum","min","max","range","zip","enumerate","bool","str","dict","ord","sorted","repr"]
section
variable {P:Program} {w:World} {K:M0} {mg:Str→Option Value} {base:Heap} {t:Tab} {k:Nat}
theorem xL:∀q∈C0,q.1∈lO∧∃n,q.2 = .ty n∧bootBuiltins q.1=some (.type n):=by
 intro q hq
 simp only[C0,Ml,Mp,or_false]at hq
 rcases hq with rfl|rfl|rfl|rfl|rfl|rfl
 all_goals exact⟨by decide,_,rfl,by decide+kernel⟩
theorem TbOk.nil{gv:List (Str × Dat)}{ats:List (Str × Str)}{dcs:List (Str × List (Key × Dat))}(hf:∀x∈lO,mg x=none)(hg:∀q∈gv,∃u v,RelV v u∧(∀H,Rep K H v q.2)∧mg q.1=some u)
  (ha:∀q∈ats,Cls K (He.ga K q.1)∧NoAttr K (He.ga K q.1) q.2)(hd:∀q∈dcs,∃d vk,mg q.1=some (.ref d)∧KdAt K P w d vk∧∀H,KRel K H vk q.2)(kt:si K) :
  TbOk P w K mg base (Gm {gl:=C0++gv,ats:=ats,dcs:=dcs}) k:=by
 refine⟨fun f F h=>(by cases h),fun x d h=>?_,fun f=>?_,fun C f h=>ha (C,f) (by simpa using h),fun C m F h=>(by cases h),fun C F h=>(by cases h),fun C fl h=>(by cases h),fun C fl h=>(by cases h),
  fun x kvs h=>hd (x,kvs) (PySem.mem_of_lookup h),fun f F h=>(by cases h),kt,fun q L h=>(by cases h),fun f g h=>(by cases h),hf _ (by decide),hf _ (by decide),hf _ (by decide),fun C m F h=>(by cases h),fun C m n ks F pm h=>(by cases h)⟩
 ·have hm:(x,d)∈C0++gv:=PySem.mem_of_lookup h
  rcases List.mem_append.mp hm with hm|hm
  ·obtain⟨h1,n,h2,h3⟩:=xL _ hm
   cases (show d = .ty n from h2)
   exact⟨.type n,.ty n,rfl,fun _=>.ty n,.inr ⟨hf _ h1,h3⟩⟩
  ·obtain⟨u,v,h1,h2,h3⟩:=hg _ hm
   exact⟨u,v,h1,h2,.inl h3⟩
 ·cases f <;> exact hf _ (by decide)
theorem XcOk.mono{C:Addr}{fl:List Str}{j:Nat}(h:XcOk P w K mg base j C fl)(hj:j≤k):XcOk P w K mg base k C fl:=by
 rcases h with h|⟨h1,h2,h3,a,fd,ps,i,h4,h5⟩
 ·exact .inl h
 ·exact .inr ⟨h1,h2,h3,a,fd,ps,i,Nat.le_trans h4 hj,h5⟩
theorem TbOk.up{Γ:Gam}{j:Nat}(tb:TbOk P w K mg base Γ j)(hj:j≤k):TbOk P w K mg base Γ k:=by
 refine⟨fun g F h=>?_,tb.gl,tb.blt,tb.at_,fun C m F h=>?_,fun C F h=>?_,fun C fl h=>⟨(tb.xc C fl h).1,(tb.xc C fl h).2.mono hj⟩,tb.xf,tb.dc,tb.fa,tb.kt,fun q L h=>(let ⟨i,hi,lo⟩:=tb.lam q L h;⟨i,Nat.le_trans hi hj,lo⟩),fun f g h=>(by obtain⟨a,fd,ps,h3,h4⟩:=tb.hf f g h;exact⟨a,fd,ps,h3.mono hj,h4⟩),tb.rng,tb.zip,tb.enum,fun C m F h=>?_,fun C m n ks F pm h=>?_⟩
 ·obtain⟨a,fd,ps,h3,h4⟩:=tb.fn g F h
  exact⟨a,fd,ps,h3.mono hj,h4⟩
 ·obtain⟨a,fd,ps,h3,h4⟩:=tb.ms C m F h
  exact⟨a,fd,ps,h3.mono hj,h4⟩
 ·obtain⟨a,fd,ps,i,h1,h3⟩:=tb.mke C F h
  exact⟨a,fd,ps,i,Nat.le_trans h1 hj,h3⟩
 ·obtain⟨a,fd,ps,mc,h3,h4⟩:=tb.cm C m F h
  exact⟨a,fd,ps,mc,h3.mono hj,h4⟩
 ·obtain⟨a,fd,ps,dvs,its,h3,h4⟩:=tb.mn C m n ks F pm h
  exact⟨a,fd,ps,dvs,its,h3.mono hj,h4⟩
theorem TbOk.cons{f:Str}{F:FnE}{a:Addr}{fd:FuncData}{ps:List Str}(tb:TbOk P w K mg base (Gm t) k)(hF:FnOk P w K mg base (L2N.CX P w) (k+1) a fd ps (bF K F))(hm:mg f=some (.ref a))(ha:a=He.ga K f)(hk:PySem.W.keepIn K (.ref a)=true)
  (hb:∀m,F.ar≤m+F.dfl.length→m≤F.ar→∃ds dvs,Binds K fd ps ds∧Vals dvs ds∧∀H,Reps K H dvs (F.dfl.drop (m+F.dfl.length - F.ar))):TbOk P w K mg base (Gm {t with fns:=(f,F) :: t.fns}) (k+1):=by
 have up:=tb.up (Nat.le_succ k)
 refine⟨fun g F' h=>?_,up.gl,up.blt,up.at_,up.ms,up.mke,up.xc,up.xf,up.dc,fun g F' h=>?_,up.kt,up.lam,up.hf,up.rng,up.zip,up.enum,up.cm,up.mn⟩
 ·have h2:(match g == f with|true=>some F|false=>t.fns.lookup g)=some F':=h
  cases e:(g == f)with
  |true =>
   rw[e]at h2
   cases h2
   cases aM e
   exact⟨a,fd,ps,hF,hm,hk,hb⟩
  |false =>
   rw[e]at h2
   exact up.fn g F' h2
 ·have h2:(match g == f with|true=>some F|false=>t.fns.lookup g)=some F':=h
  cases e:(g == f)with
  |true =>
   cases aM e
   rw[hm,ha]
  |false =>
   rw[e]at h2
   exact up.fa g F' h2
theorem aq{F:FnE}{fd:FuncData}{ps:List Str}(hd:F.dfl=[])(hb:Binds K fd ps []):∀m,F.ar≤m+F.dfl.length→m≤F.ar→∃ds dvs,Binds K fd ps ds∧Vals dvs ds∧∀H,Reps K H dvs (F.dfl.drop (m+F.dfl.length - F.ar)):=fun m _ _ =>
 ⟨[],[],hb,.nil,fun H=>by rw[hd,List.drop_nil];exact .nil⟩
end
def FP:Con:=fun ds G Q X=>∃sc ns,ds=[sc]∧(sc = .lst (List.map Dat.int ns)∨sc = .kls (List.map Dat.int ns))∧∀G',Q (.bl true) G'
def hookK(as:List Addr)(K:World→M0)(h:∀w,as=(K w).map (·.1)):PySem.W.Hook where
 α:=List (Option Obj)
 obs:=fun s=>as.map s.heap.get?
 val:=fun w=>(K w).map fun p=>some p.2
 says:=fun w h=>(K w).In h
 of:=fun w _ e=>PySem.W.Frag.in_of (h w) e
 keeps:=fun _ _ _ x k=>PySem.W.Frag.In.keeps x k
def obsK(as:List Addr)(s:PySem.W.SharedT):List (Option Obj):=as.map (HandSHeadRun.getT s)
theorem obsK_eq{as:List Addr}{K:World→M0}{h:∀w,as=(K w).map (·.1)}(s:PySem.W.SharedT):obsK as s=(hookK as K h).obs s.abs:=by
 have e:HandSHeadRun.getT s=s.abs.heap.get?:=funext fun a=>HandSHeadRun.getT_eq s a
 unfold obsK
 rw[e]
 rfl
end Av
noncomputable section
namespace Av.Hd
open PySem PySem.W PySem.Calls PyProof.Rows HandSHeadRun
section
variable (st:SharedT→Thread→Option (SharedT × Thread)) (n0:Nat) (ann:Option Value)
def GH(t:Thread):Option Flow:=match t.stack with
 |[_]=>match t.cur with
  |.pure (.done f)=>some f
  |_=>none
 |_=>none
theorem B0(t:Thread):endAt 1 t=GH t:=by
 obtain⟨cur,c,p,stk⟩:=t
 unfold endAt GH
 match stk with
 |[]=>rfl
 |[_] =>
  cases cur with
  |pure r=>cases r <;> rfl
  |_=>rfl
 |x :: y :: r =>
  have e:((⟨cur,c,p,x :: y :: r⟩:Thread).stack.length == 1)=false:=by simp
  simp only[e]
def segQ:Nat→SharedT→Thread→Option (Flow × SharedT × Code × Pos)
 |0,_,_=>none
 |m+1,s,t=>match GH t with
  |some f=>some (f,s,t.code,t.pos)
  |none=>match stepOk n0 ann t with
   |false=>none
   |true=>match st s t with
    |none=>none
    |some (s2,t2)=>frS s2 fun s3=>segQ m s3 t2
def preQ:Nat→SharedT→Thread→Option (SharedT × Thread)
 |0,s,t=>some (s,t)
 |m+1,s,t=>match through t with
  |true=>none
  |false=>match stepOk n0 ann t with
   |false=>none
   |true=>match st s t with
    |none=>none
    |some (s2,t2)=>frS s2 fun s3=>preQ m s3 t2
end
variable {tb:String→Option Builtin} {p:Program} {w:World} {n0:Nat} {ann:Option Value}
theorem nQ:∀{m:Nat} {s s':SharedT} {t:Thread} {f:Flow} {c:Code} {q:Pos},segQ (stepT (denote tb) p w) n0 ann m s t=some (f,s',c,q)→segRun tb p w n0 ann 1 m s.abs t=some (f,s'.abs,c,q):=by
 intro m
 induction m with
 |zero=>intro s s' t f c q h;cases h
 |succ m ih =>
  intro s s' t f c q h
  unfold segQ at h
  unfold segRun
  rw[B0]
  cases e1:GH t with
  |some g =>
   rw[e1]at h
   cases h
   rfl
  |none =>
   rw[e1]at h
   cases e2:stepOk n0 ann t with
   |false=>rw[e2]at h;cases h
   |true =>
    rw[e2]at h
    cases e3:stepT (denote tb) p w s t with
    |none=>rw[e3]at h;cases h
    |some r =>
     obtain⟨s2,t2⟩:=r
     rw[e3]at h
     have h2:(frS s2 fun s3=>segQ (stepT (denote tb) p w) n0 ann m s3 t2)=some (f,s',c,q):=h
     rw[frS_eq]at h2
     have z:=ih h2
     simp only[stepT_spec e3]
     exact z
theorem AC:∀{m:Nat} {s s':SharedT} {t t':Thread},preQ (stepT (denote tb) p w) n0 ann m s t=some (s',t')→topGo tb p w n0 ann m s.abs t=some (s'.abs,t'):=by
 intro m
 induction m with
 |zero =>
  intro s s' t t' h
  cases h
  rfl
 |succ m ih =>
  intro s s' t t' h
  unfold preQ at h
  unfold topGo
  cases e1:through t with
  |true=>rw[e1]at h;cases h
  |false =>
   rw[e1]at h
   cases e2:stepOk n0 ann t with
   |false=>rw[e2]at h;cases h
   |true =>
    rw[e2]at h
    cases e3:stepT (denote tb) p w s t with
    |none=>rw[e3]at h;cases h
    |some r =>
     obtain⟨s2,t2⟩:=r
     rw[e3]at h
     have h2:(frS s2 fun s3=>preQ (stepT (denote tb) p w) n0 ann m s3 t2)=some (s',t'):=h
     rw[frS_eq]at h2
     have z:=ih h2
     simp only[stepT_spec e3]
     exact z
def qo:List Stmt→Env→Sem Flow:=PySem.W.Fast.tw12563942051412417395
theorem jf : @PySem.execs=qo:=PySem.W.Fast.te12563942051412417395
def piecesQ(l:List Stmt)(env:Env)(c:Code)(p:Pos)(B:List Frame):Thread:=⟨(qo l env).wrap doneF deadEnd id id,c,p,B⟩
def restQ(l:List Stmt)(env:Env)(c:Code)(p:Pos)(B:List Frame):Thread:=⟨(qo l env).wrap doneF (leaveH env) id id,c,p,B⟩
theorem l5(l:List Stmt)(env:Env)(c:Code)(p:Pos)(B:List Frame):piecesQ l env c p B=piecesOf l env c p B:=by
 unfold piecesQ
 rw[←jf]
theorem tw(l:List Stmt)(env:Env)(c:Code)(p:Pos)(B:List Frame):restQ l env c p B=restOf l env c p B:=by
 unfold restQ restOf
 rw[←jf]
def GN(p:Program)(w:World)(n0:Nat)(ann:Option Value)(s:SharedT)(l:List Stmt)(env:Env)(c:Code)(pos q:Pos)(N:Nat)(r:Shared):Prop :=
 topRun treeTable p w n0 ann N s.abs (restOf l env c pos [topFrame q])=some r
abbrev stQ(p:Program)(w:World):=stepQ (denQ tabQ) p w
theorem ny:stepT (denote treeTable) p w=stQ p w:=by rw[stepQ_eq,denQ_eq,tabQ_eq]
theorem rest_last{s s':SharedT}{l:List Stmt}{env:Env}{c:Code}{pos q:Pos}{N:Nat}(h:goF (stQ p w) n0 ann N s (restQ l env c pos [topFrame q])=some s'):GN p w n0 ann s l env c pos q N s'.abs:=by
 rw[←ny,tw]at h
 exact goF_ok h
theorem rest_part{s s':SharedT}{l l':List Stmt}{env:Env}{c:Code}{pos pos' q:Pos}{n N:Nat}{r:Shared}
  (h:segQ (stQ p w) n0 ann n s (piecesQ l env c pos [topFrame q])=some (.next,s',c,pos'))(k:GN p w n0 ann s' l' env c pos' q N r):GN p w n0 ann s (l++l') env c pos q (n+N) r:=by
 rw[←ny,l5]at h
 exact piece_app (nQ h) k
theorem rest_first{w:World}{os:OsState}{t0:BT}{sa sb:SharedT}{b:List Stmt}{env:Env}{c:Code}{pos pos' q:Pos}{k0 kb N:Nat}{r:Shared}(hb:putAll (boot_heap w.params).objs.toList .nil 0=some (t0,n0))
  (h0:preQ (stQ p w) n0 ann k0 (bootT w os (t0,n0)) (topStub p)=some (sa,⟨denQ tabQ (.body b env),c,pos,[topFrame q]⟩))
  (h1:segQ (stQ p w) n0 ann kb sa (blockOf b env c pos [topFrame q])=some (.next,sb,c,pos'))(k:GN p w n0 ann sb b env c pos' q N r) :
  topRun treeTable p w n0 ann (k0+(kb+N)) ⟨boot_heap w.params,#[],boot_drawn,boot_toks,os⟩ (topStub p)=some r:=by
 rw[←ny]at h0 h1
 rw[←denQ_eq,←tabQ_eq]at h0
 have z0:=AC h0
 have e:(bootT w os (t0,n0)).abs=⟨boot_heap w.params,#[],boot_drawn,boot_toks,os⟩:=by
  have eh:=putAll_heap hb
  show (⟨absHeap t0 n0 (boot_heap w.params).life,#[],boot_drawn,boot_toks,os⟩:Shared)=_
  rw[eh]
 rw[e]at z0
 exact go_top z0 (piece_block (nQ h1) k)
theorem size_of{w:World}{t0:BT}(hb:putAll (boot_heap w.params).objs.toList .nil 0=some (t0,n0)):(boot_heap w.params).objs.size=n0:=by
 rw[←putAll_heap hb]
 exact absHeap_size t0 n0 _
abbrev Km(r:OpenRow)(q:Program)(H:Hook)(ob:SharedT→H.α)(loose:List PySem.Str)(w:World)(s:SharedT):Prop :=
 (looksF r.prog (boot_heap w.params) s.abs,seenQ q loose (importedModules r.prog.main.body) (fun s=>xlAt q [] s && recOk r.toRowW.records s) s.abs,ob s)=(true,openGood q loose,H.val w)
abbrev Runs(r:OpenRow)(q:Program)(H:Hook)(ob:SharedT→H.α)(M:Nat)(loose:List PySem.Str)(w:World):Prop :=
 ∀os:OsState,∃s:SharedT,topRun treeTable r.prog w (boot_heap w.params).objs.size (bootAnn w) M ⟨boot_heap w.params,#[],boot_drawn,boot_toks,os⟩ (topStub r.prog)=some s.abs∧Km r q H ob loose w s
theorem mq{r:OpenRow}{q:Program}{H:Hook}{ob:SharedT→H.α}{M:Nat}{loose:List PySem.Str}(ho:∀s:SharedT,ob s=H.obs s.abs)
  (e:opening r.prog=plainProg r.prog.main.scope.names)(f:∀s,fenceModules? r.prog s=some s)(run:∀w,Runs r q H ob M loose w) :
  LeftO r.prog q loose (fun s=>xlAt q [] s && recOk r.toRowW.records s) H.obs H.val (M+600) true:=fun w=>by
 obtain⟨⟨h,gs,d,k,os⟩,a,a'⟩:=Option.map_eq_some_iff.mp (boot_open (N:=M+600) e (Nat.ble_eq_true_of_le (by omega)) f w)
 obtain⟨rfl,rfl,rfl,rfl⟩:h=boot_heap w.params∧gs=Array.mk []∧d=boot_drawn∧k=boot_toks:=by simpa using a'
 obtain⟨s,hs,hv⟩:=run w os
 obtain⟨l1,l2,l3⟩:_∧_∧_:=by
  simpa only[Km,Prod.mk.injEq]using hv
 have hr:=topRun_mono 600 _ _ _ _ hs
 have l1':(staticsOk (importedModules r.prog.main.body) (boot_heap w.params) s.abs.heap && namesBound r.prog s.abs.heap
   && gensDone s.abs && laidKept (boot_heap w.params) s.abs.heap)=true:=l1
 have t:topFrom treeTable r.prog w (M+600) ⟨boot_heap w.params,Array.mk [],boot_drawn,boot_toks,os⟩=some s.abs:=by
  unfold topFrom
  dsimp only
  rw[boot_ns]
  show (topRun treeTable r.prog w (boot_heap w.params).objs.size (bootAnn w) (M+600) ⟨boot_heap w.params,#[],boot_drawn,boot_toks,os⟩ (topStub r.prog)).bind _
   =_
  rw[hr]
  show (match (staticsOk (importedModules r.prog.main.body) (boot_heap w.params) s.abs.heap && namesBound r.prog s.abs.heap
   && gensDone s.abs && laidKept (boot_heap w.params) s.abs.heap)with
   |true=>some s.abs
   |false=>none)=_
  rw[l1']
 unfold openEnds
 rw[a]
 show (topFrom treeTable r.prog w (M+600) _).map _=_
 rw[t]
 rw[←seenQ_eq]at l2
 refine congrArg some (Prod.ext l2 ?_)
 show H.obs s.abs=_
 rw[←ho]
 exact l3
theorem holds_runs{r:OpenRow}{q:Program}{H:Hook}{ob:SharedT→H.α}{M:Nat}{loose:List PySem.Str}{d:DefRec}{kwd:List (PySem.Str × PySem.Expr)}(ho:∀s:SharedT,ob s=H.obs s.abs)
  (e:opening r.prog=plainProg r.prog.main.scope.names)(f:∀s,fenceModules? r.prog s=some s)(run:∀w,Runs r q H ob M loose w)(hd:defOf q r.name=some (d,kwd))
  (hp:r.prog.theDef r.name=some (d.params,d.body,d.scope))(hk:kwWritten? d.params.kwonlyargs d.params.kw_defaults=some kwd)(h1:(!r.writes|| r.records.isEmpty)=true)(h2:r.wellSaid=true)
  (h3:(chainsOk q && opensWell r.prog && (frees r.toRowW && r.within.isEmpty))=true)(h4:r.prog.bare)(h5:r.toRowW.promised)
  (call:WalkO q loose (XL q []) H.says r.toRowW d kwd fun f vs=>PySem.call f vs):r.Holds:=by
 have left:=mq (M:=M) ho e f run
 refine holds_open (XP:=XL q []) (YP:=H.says) left H.of H.keeps ?_ XL.keeps hd hp hk ?_ h1 h2 h3 h4 h5 call
 ·exact fun s z=>xl_of s (Bool.and_eq_true_iff.mp z).1
 ·exact fun s z=>recFacts_of (Bool.and_eq_true_iff.mp z).2
end Av.Hd
namespace Av.Fin
open PySem PySem.Spec PyProof.Rows L2 Av
def top(i:Nat):Stmt:=PySem.Challenge.pw_signferry_k53_tables_and_their_ways_back.main.body.getD i (.Pass ⟨0,0,0,0⟩)
abbrev R:PySem.W.OpenRow:=PySem.W.OpenLaw.row PySem.Challenge.rw_signferry_k53_tables_and_their_ways_back
def nm0:List PySem.Str:=["GREATEST","is_integer","is_row","are_codes","SignError","BadTable","is_code","is_octet","entries_of","way_back","_law_source","_law_draw","_law_pick","_law_shuffled","_law_handed","_law_same","_law_entry","_law_charmap_table","_law_entries"]
def names:List PySem.Str:=nm0
local instance tb0:Tb:={T:=[],is:=fun _ _=>False,fr:=fun _=>[],own:=fun _=>false,exo:=fun _=>false,sub:=fun _ _=>none,xm:=fun _ _=>none}
abbrev S(x:String):Str:=Str.ofString x
abbrev s(x:String)(n:Nat):Value:=.str (Str.ofString x) n
abbrev e(P:M4)(x:String)(n:Nat)(v:Value):DictEntry:=⟨PyData.keyHash P (Str.ofString x),.str (Str.ofString x) n,v⟩
abbrev f(st:Stmt)(nm qn:String)(g:Addr)(cl:List (Str × Addr))(v1 v2 v3 v4:Value)(an:Option Addr)(v5 v6:Value)(bi:Addr):FuncData:=⟨Str.ofString nm,Str.ofString qn,L2.defArgs st,.stmts (L2.defBody st),L2.defScope st,g,cl,v1,v2,v3,v4,an,v5,v6,bi⟩
section
open PySem.W
def zT(P:M4):BT:=(.node (PySem.W.boot_o_0 P) (.node (PySem.W.boot_o_1 P) (.node (PySem.W.boot_o_3 P) (.node (PySem.W.boot_o_7 P) .nil .nil) .nil) (.node (PySem.W.boot_o_5 P) (.node (PySem.W.boot_o_9 P) .nil .nil) .nil)) (.node (PySem.W.boot_o_2 P) (.node (PySem.W.boot_o_4 P) (.node (PySem.W.boot_o_8 P) .nil .nil) .nil) (.node (PySem.W.boot_o_6 P) (.node (PySem.W.boot_o_10 P) .nil .nil) .nil)))
def a11(P:M4):Obj:=⟨(.type "tuple"),none,(.seq #[] 0),#[]⟩
def a12(P:M4):Obj:=⟨.none,none,(.fields #[]),#[]⟩
def a13(P:M4):Obj:=⟨(.type "code"),none,(.fields #[(s "<module>" 182),(s "<module>" 183),(s "/claim/cut.py" 184),(.int 1 0),(.int 0 0),(.int 0 0),(.int 0 0),(.int 0 0),(.ref 11),(.bool false),(.int 181 0),(.ref 12),.none,.none,.none,.none,(.int 185 0),(.int 1 0),(s "/claim/cut.py" 186)]),#[]⟩
def a14(P:M4):Obj:=⟨(.type "frame"),none,.plain,#[(some (.ref 13)),(some (.ref 3)),(some (.ref 3)),none,(some (s "__main__" 164)),none,(some (.ref 0))]⟩
def aT(P:M4):BT:=(.node (PySem.W.boot_o_0 P) (.node (PySem.W.boot_o_1 P) (.node (PySem.W.boot_o_3 P) (.node (PySem.W.boot_o_7 P) .nil .nil) (.node (a11 P) .nil .nil)) (.node (PySem.W.boot_o_5 P) (.node (PySem.W.boot_o_9 P) .nil .nil) (.node (a13 P) .nil .nil))) (.node (PySem.W.boot_o_2 P) (.node (PySem.W.boot_o_4 P) (.node (PySem.W.boot_o_8 P) .nil .nil) (.node (a12 P) .nil .nil)) (.node (PySem.W.boot_o_6 P) (.node (PySem.W.boot_o_10 P) .nil .nil) (.node (a14 P) .nil .nil))))
def aS(w:World)(os:OsState):SharedT:=⟨aT w.params,15,{},#[],{},187,os⟩
def bT(P:M4):BT:=(.node (PySem.W.boot_o_0 P) (.node (PySem.W.boot_o_1 P) (.node (PySem.W.boot_o_3 P) (.node (PySem.W.boot_o_7 P) .nil .nil) (.node (a11 P) .nil .nil)) (.node (PySem.W.boot_o_5 P) (.node (PySem.W.boot_o_9 P) .nil .nil) (.node (a13 P) .nil .nil))) (.node (PySem.W.boot_o_2 P) (.node (PySem.W.boot_o_4 P) (.node (PySem.W.boot_o_8 P) .nil .nil) (.node (a12 P) .nil .nil)) (.node (PySem.W.boot_o_6 P) (.node (PySem.W.boot_o_10 P) .nil .nil) (.node (a14 P) .nil .nil))))
def bS(w:World)(os:OsState):SharedT:=⟨bT w.params,15,{},#[],{},187,os⟩
def Lc(P:M4):Obj:=⟨(.type "dict"),none,(.dict #[(e P "__name__" 165 (s "signferry.errors" 211)),(e P "__doc__" 166 .none),(e P "__package__" 167 .none),(e P "__loader__" 168 (.builtin "__main__.__loader__#opaque")),(e P "__spec__" 169 .none),(e P "__annotations__" 170 (.ref 6)),(e P "__builtins__" 171 (.ref 4)),(e P "__file__" 173 (s "/claim/cut.py" 172)),(e P "__cached__" 174 .none),(e P "GREATEST" 190 (.int 1114111 189)),(e P "is_integer" 197 (.ref 21)),(e P "is_row" 204 (.ref 28)),(e P "are_codes" 210 (.ref 33)),(e P "SignError" 230 (.ref 43)),(e P "BadTable" 246 (.ref 56))] 15),#[]⟩
def II(P:M4):Obj:=⟨.none,none,(.fields #[(.int 3 0),(.int 0 0),(.ref 20),(.int 5 0),(.int 0 0),(.ref 27),(.int 7 0),(.int 0 0),(.ref 32),(.int 10 0),(.int 0 0),(.ref 39),(.int 12 0),(.int 0 0),(.ref 52)]),#[]⟩
def Bv(P:M4):Obj:=⟨(.type "tuple"),none,(.seq #[(s "thing" 194)] 0),#[]⟩
def Bu(P:M4):Obj:=⟨.none,none,(.func (f (top 2) "is_integer" "is_integer" 0 [] .none .none .none .none none .none .none 0)),#[]⟩
def ux(P:M4):Obj:=⟨(.type "code"),none,(.fields #[(s "is_integer" 191),(s "is_integer" 192),(s "/claim/cut.py" 193),(.int 3 0),(.int 1 0),(.int 0 0),(.int 0 0),(.int 3 0),(.ref 15),(.bool true),(.int 181 0),(.ref 16),.none,(.ref 17),(.ref 18),(.ref 19),(.int 195 0),(.int 3 0),(s "/claim/cut.py" 196)]),#[]⟩
def uw(P:M4):Obj:=⟨(.type "function"),none,(.func (f (top 2) "is_integer" "is_integer" 3 [] .none .none .none (s "signferry.codes" 187) none (.ref 20) .none 0)),#[]⟩
def Bt(P:M4):Obj:=⟨(.type "tuple"),none,(.seq #[(s "thing" 201)] 0),#[]⟩
def Bs(P:M4):Obj:=⟨.none,none,(.func (f (top 3) "is_row" "is_row" 0 [] .none .none .none .none none .none .none 0)),#[]⟩
def uv(P:M4):Obj:=⟨(.type "code"),none,(.fields #[(s "is_row" 198),(s "is_row" 199),(s "/claim/cut.py" 200),(.int 5 0),(.int 1 0),(.int 0 0),(.int 0 0),(.int 3 0),(.ref 22),(.bool true),(.int 181 0),(.ref 23),.none,(.ref 24),(.ref 25),(.ref 26),(.int 202 0),(.int 5 0),(s "/claim/cut.py" 203)]),#[]⟩
def uu(P:M4):Obj:=⟨(.type "function"),none,(.func (f (top 3) "is_row" "is_row" 3 [] .none .none .none (s "signferry.codes" 187) none (.ref 27) .none 0)),#[]⟩
def Br(P:M4):Obj:=⟨.none,none,(.func (f (top 4) "are_codes" "are_codes" 0 [] .none .none .none .none none .none .none 0)),#[]⟩
def ut(P:M4):Obj:=⟨(.type "code"),none,(.fields #[(s "are_codes" 205),(s "are_codes" 206),(s "/claim/cut.py" 207),(.int 7 0),(.int 1 0),(.int 0 0),(.int 0 0),(.int 3 0),(.ref 29),(.bool true),(.int 181 0),(.ref 30),.none,.none,.none,(.ref 31),(.int 208 0),(.int 7 0),(s "/claim/cut.py" 209)]),#[]⟩
def ur(P:M4):Obj:=⟨(.type "function"),none,(.func (f (top 4) "are_codes" "are_codes" 3 [] .none .none .none (s "signferry.codes" 187) none (.ref 32) .none 0)),#[]⟩
def uq(P:M4):Obj:=⟨(.type "tuple"),none,(.seq #[(.type "ValueError")] 0),#[]⟩
def ml(P:M4):Obj:=⟨(.type "builtin_function_or_method"),none,(.fields #[(.builtin "type.__prepare__"),(.type "type")]),#[]⟩
def Bq(P:M4):Obj:=⟨(.type "dict"),none,(.dict #[(e P "__module__" 220 (s "signferry.errors" 211)),(e P "__qualname__" 222 (s "SignError" 221)),(e P "__firstlineno__" 224 (.int 10 223)),(e P "__static_attributes__" 225 (.ref 41))] 4),#[]⟩
def Bp(P:M4):Obj:=⟨(.type "code"),none,(.fields #[(s "SignError" 215),(s "SignError" 216),(s "/claim/cut.py" 217),(.int 10 0),(.int 0 0),(.int 0 0),(.int 0 0),(.int 0 0),(.ref 37),(.bool false),(.int 181 0),(.ref 38),.none,.none,.none,.none,(.int 218 0),(.int 10 0),(s "/claim/cut.py" 219)]),#[]⟩
def Bo(P:M4):Obj:=⟨(.type "frame"),none,.plain,#[(some (.ref 39)),(some (.ref 3)),(some (.ref 36)),none,(some (s "signferry.errors" 211)),none,(some (.ref 0))]⟩
def uo(P:M4):Obj:=⟨(.type "dict"),none,(.dict #[(e P "__module__" 220 (s "signferry.errors" 211)),(e P "__firstlineno__" 224 (.int 10 223)),(e P "__static_attributes__" 225 (.ref 41)),(e P "__weakref__" 227 (.ref 44)),(e P "__doc__" 228 .none)] 3),#[]⟩
def um(P:M4):Obj:=⟨(.type "type"),none,(.cls ⟨(S "SignError"),[(.type "ValueError")],[(.ref 43),(.type "ValueError"),(.type "Exception"),(.type "BaseException"),(.type "object")],42,(S "SignError"),true,[],[(.ref 56)],false,none,false⟩),#[(some (.ref 34)),none,(some (s "SignError" 213)),(some (s "SignError" 221)),(some (.builtin "ValueError.__new__")),(some (.bool true))]⟩
def ul(P:M4):Obj:=⟨(.type "getset_descriptor"),none,(.fields #[(s "__weakref__" 226),(.ref 43),(.builtin "ExceptionGroup.__weakref__"),.none]),#[]⟩
def Bn(P:M4):Obj:=⟨(.type "super"),none,(.fields #[(.ref 43),(.ref 43),(.ref 43)]),#[]⟩
def Bm(P:M4):Obj:=⟨(.type "builtin_function_or_method"),none,(.fields #[(.builtin "object.__init_subclass__"),(.ref 43)]),#[]⟩
def uk(P:M4):Obj:=⟨(.type "tuple"),none,(.seq #[(.ref 43)] 0),#[]⟩
def Bl(P:M4):Obj:=⟨(.type "dict"),none,(.dict #[(e P "__module__" 238 (s "signferry.errors" 211)),(e P "__qualname__" 240 (s "BadTable" 239)),(e P "__firstlineno__" 242 (.int 12 241)),(e P "__static_attributes__" 243 (.ref 54))] 4),#[]⟩
def Bk(P:M4):Obj:=⟨(.type "code"),none,(.fields #[(s "BadTable" 233),(s "BadTable" 234),(s "/claim/cut.py" 235),(.int 12 0),(.int 0 0),(.int 0 0),(.int 0 0),(.int 0 0),(.ref 50),(.bool false),(.int 181 0),(.ref 51),.none,.none,.none,.none,(.int 236 0),(.int 12 0),(s "/claim/cut.py" 237)]),#[]⟩
def Bj(P:M4):Obj:=⟨(.type "frame"),none,.plain,#[(some (.ref 52)),(some (.ref 3)),(some (.ref 49)),none,(some (s "signferry.errors" 211)),none,(some (.ref 0))]⟩
def uj(P:M4):Obj:=⟨(.type "dict"),none,(.dict #[(e P "__module__" 238 (s "signferry.errors" 211)),(e P "__firstlineno__" 242 (.int 12 241)),(e P "__static_attributes__" 243 (.ref 54)),(e P "__doc__" 244 .none)] 2),#[]⟩
def ui(P:M4):Obj:=⟨(.type "type"),none,(.cls ⟨(S "BadTable"),[(.ref 43)],[(.ref 56),(.ref 43),(.type "ValueError"),(.type "Exception"),(.type "BaseException"),(.type "object")],55,(S "BadTable"),true,[],[],false,none,false⟩),#[(some (.ref 47)),none,(some (s "BadTable" 231)),(some (s "BadTable" 239)),(some (.builtin "ValueError.__new__")),(some (.bool true))]⟩
def Bi(P:M4):Obj:=⟨(.type "super"),none,(.fields #[(.ref 56),(.ref 56),(.ref 56)]),#[]⟩
def Bh(P:M4):Obj:=⟨(.type "builtin_function_or_method"),none,(.fields #[(.builtin "object.__init_subclass__"),(.ref 56)]),#[]⟩
def Lb(P:M4):BT:=(.node (PySem.W.boot_o_0 P) (.node (PySem.W.boot_o_1 P) (.node (Lc P) (.node (PySem.W.boot_o_7 P) (.node (a11 P) (.node (Br P) .nil .nil) (.node (uk P) .nil .nil)) (.node (a12 P) (.node (Bp P) .nil .nil) (.node (uj P) .nil .nil))) (.node (a11 P) (.node (Bu P) (.node (ml P) .nil .nil) (.node (a12 P) .nil .nil)) (.node (uv P) (.node (um P) .nil .nil) .nil))) (.node (PySem.W.boot_o_5 P) (.node (PySem.W.boot_o_9 P) (.node (Bv P) (.node (ur P) .nil .nil) (.node (Bl P) .nil .nil)) (.node (a11 P) (.node (a11 P) .nil .nil) (.node (Bi P) .nil .nil))) (.node (a13 P) (.node (uw P) (.node (a11 P) .nil .nil) (.node (Bj P) .nil .nil)) (.node (a11 P) (.node (Bn P) .nil .nil) .nil)))) (.node (PySem.W.boot_o_2 P) (.node (PySem.W.boot_o_4 P) (.node (PySem.W.boot_o_8 P) (.node (a12 P) (.node (ut P) .nil .nil) (.node (ml P) .nil .nil)) (.node (Bt P) (.node (Bo P) .nil .nil) (.node (ui P) .nil .nil))) (.node (II P) (.node (ux P) (.node (Bq P) .nil .nil) (.node (Bk P) .nil .nil)) (.node (uu P) (.node (ul P) .nil .nil) .nil))) (.node (PySem.W.boot_o_6 P) (.node (PySem.W.boot_o_10 P) (.node (a11 P) (.node (uq P) .nil .nil) (.node (a11 P) .nil .nil)) (.node (Bs P) (.node (uo P) .nil .nil) (.node (Bh P) .nil .nil))) (.node (a14 P) (.node (a11 P) (.node (a12 P) .nil .nil) (.node (a11 P) .nil .nil)) (.node (a12 P) (.node (Bm P) .nil .nil) .nil)))))
def Kb(w:World)(os:OsState):SharedT:=⟨Lb w.params,59,{},#[],{},247,os⟩
def La(P:M4):Obj:=⟨(.type "dict"),none,(.dict #[(e P "__name__" 165 (s "signferry.charmaps" 247)),(e P "__doc__" 166 .none),(e P "__package__" 167 .none),(e P "__loader__" 168 (.builtin "__main__.__loader__#opaque")),(e P "__spec__" 169 .none),(e P "__annotations__" 170 (.ref 6)),(e P "__builtins__" 171 (.ref 4)),(e P "__file__" 173 (s "/claim/cut.py" 172)),(e P "__cached__" 174 .none),(e P "GREATEST" 190 (.int 1114111 189)),(e P "is_integer" 197 (.ref 21)),(e P "is_row" 204 (.ref 28)),(e P "are_codes" 210 (.ref 33)),(e P "SignError" 230 (.ref 43)),(e P "BadTable" 246 (.ref 56)),(e P "is_code" 255 (.ref 65)),(e P "is_octet" 262 (.ref 72)),(e P "entries_of" 268 (.ref 77)),(e P "way_back" 274 (.ref 82))] 19),#[]⟩
def IH(P:M4):Obj:=⟨.none,none,(.fields #[(.int 3 0),(.int 0 0),(.ref 20),(.int 5 0),(.int 0 0),(.ref 27),(.int 7 0),(.int 0 0),(.ref 32),(.int 10 0),(.int 0 0),(.ref 39),(.int 12 0),(.int 0 0),(.ref 52),(.int 15 0),(.int 0 0),(.ref 64),(.int 17 0),(.int 0 0),(.ref 71),(.int 19 0),(.int 0 0),(.ref 76),(.int 30 0),(.int 0 0),(.ref 81)]),#[]⟩
def Fb(P:M4):Obj:=⟨(.type "tuple"),none,(.seq #[(s "thing" 252)] 0),#[]⟩
def E9(P:M4):Obj:=⟨.none,none,(.func (f (top 9) "is_code" "is_code" 0 [] .none .none .none .none none .none .none 0)),#[]⟩
def Bg(P:M4):Obj:=⟨(.type "code"),none,(.fields #[(s "is_code" 249),(s "is_code" 250),(s "/claim/cut.py" 251),(.int 15 0),(.int 1 0),(.int 0 0),(.int 0 0),(.int 3 0),(.ref 59),(.bool true),(.int 181 0),(.ref 60),.none,(.ref 61),(.ref 62),(.ref 63),(.int 253 0),(.int 15 0),(s "/claim/cut.py" 254)]),#[]⟩
def Bf(P:M4):Obj:=⟨(.type "function"),none,(.func (f (top 9) "is_code" "is_code" 3 [] .none .none .none (s "signferry.charmaps" 247) none (.ref 64) .none 0)),#[]⟩
def E8(P:M4):Obj:=⟨(.type "tuple"),none,(.seq #[(s "thing" 259)] 0),#[]⟩
def E7(P:M4):Obj:=⟨.none,none,(.func (f (top 10) "is_octet" "is_octet" 0 [] .none .none .none .none none .none .none 0)),#[]⟩
def Be(P:M4):Obj:=⟨(.type "code"),none,(.fields #[(s "is_octet" 256),(s "is_octet" 257),(s "/claim/cut.py" 258),(.int 17 0),(.int 1 0),(.int 0 0),(.int 0 0),(.int 3 0),(.ref 66),(.bool true),(.int 181 0),(.ref 67),.none,(.ref 68),(.ref 69),(.ref 70),(.int 260 0),(.int 17 0),(s "/claim/cut.py" 261)]),#[]⟩
def Bd(P:M4):Obj:=⟨(.type "function"),none,(.func (f (top 10) "is_octet" "is_octet" 3 [] .none .none .none (s "signferry.charmaps" 247) none (.ref 71) .none 0)),#[]⟩
def E6(P:M4):Obj:=⟨.none,none,(.func (f (top 11) "entries_of" "entries_of" 0 [] .none .none .none .none none .none .none 0)),#[]⟩
def Bc(P:M4):Obj:=⟨(.type "code"),none,(.fields #[(s "entries_of" 263),(s "entries_of" 264),(s "/claim/cut.py" 265),(.int 19 0),(.int 1 0),(.int 0 0),(.int 0 0),(.int 3 0),(.ref 73),(.bool true),(.int 181 0),(.ref 74),.none,.none,.none,(.ref 75),(.int 266 0),(.int 19 0),(s "/claim/cut.py" 267)]),#[]⟩
def Bb(P:M4):Obj:=⟨(.type "function"),none,(.func (f (top 11) "entries_of" "entries_of" 3 [] .none .none .none (s "signferry.charmaps" 247) none (.ref 76) .none 0)),#[]⟩
def E5(P:M4):Obj:=⟨.none,none,(.func (f (top 12) "way_back" "way_back" 0 [] .none .none .none .none none .none .none 0)),#[]⟩
def Ba(P:M4):Obj:=⟨(.type "code"),none,(.fields #[(s "way_back" 269),(s "way_back" 270),(s "/claim/cut.py" 271),(.int 30 0),(.int 1 0),(.int 0 0),(.int 0 0),(.int 3 0),(.ref 78),(.bool true),(.int 181 0),(.ref 79),.none,.none,.none,(.ref 80),(.int 272 0),(.int 30 0),(s "/claim/cut.py" 273)]),#[]⟩
def A9(P:M4):Obj:=⟨(.type "function"),none,(.func (f (top 12) "way_back" "way_back" 3 [] .none .none .none (s "signferry.charmaps" 247) none (.ref 81) .none 0)),#[]⟩
def K9(P:M4):BT:=(.node (PySem.W.boot_o_0 P) (.node (PySem.W.boot_o_1 P) (.node (La P) (.node (PySem.W.boot_o_7 P) (.node (a11 P) (.node (Br P) (.node (E9 P) .nil .nil) .nil) (.node (uk P) (.node (a12 P) .nil .nil) .nil)) (.node (a12 P) (.node (Bp P) (.node (Be P) .nil .nil) .nil) (.node (uj P) .nil .nil))) (.node (a11 P) (.node (Bu P) (.node (ml P) (.node (a12 P) .nil .nil) .nil) (.node (a12 P) .nil .nil)) (.node (uv P) (.node (um P) (.node (E6 P) .nil .nil) .nil) (.node (a11 P) .nil .nil)))) (.node (PySem.W.boot_o_5 P) (.node (PySem.W.boot_o_9 P) (.node (Bv P) (.node (ur P) (.node (Bf P) .nil .nil) .nil) (.node (Bl P) (.node (Ba P) .nil .nil) .nil)) (.node (a11 P) (.node (a11 P) (.node (a11 P) .nil .nil) .nil) (.node (Bi P) .nil .nil))) (.node (a13 P) (.node (uw P) (.node (a11 P) (.node (a11 P) .nil .nil) .nil) (.node (Bj P) .nil .nil)) (.node (a11 P) (.node (Bn P) (.node (Bb P) .nil .nil) .nil) (.node (Fb P) .nil .nil))))) (.node (PySem.W.boot_o_2 P) (.node (PySem.W.boot_o_4 P) (.node (PySem.W.boot_o_8 P) (.node (a12 P) (.node (ut P) (.node (Bg P) .nil .nil) .nil) (.node (ml P) (.node (E5 P) .nil .nil) .nil)) (.node (Bt P) (.node (Bo P) (.node (Bd P) .nil .nil) .nil) (.node (ui P) .nil .nil))) (.node (IH P) (.node (ux P) (.node (Bq P) (.node (E8 P) .nil .nil) .nil) (.node (Bk P) .nil .nil)) (.node (uu P) (.node (ul P) (.node (Bc P) .nil .nil) .nil) (.node (a12 P) .nil .nil)))) (.node (PySem.W.boot_o_6 P) (.node (PySem.W.boot_o_10 P) (.node (a11 P) (.node (uq P) (.node (a11 P) .nil .nil) .nil) (.node (a11 P) (.node (A9 P) .nil .nil) .nil)) (.node (Bs P) (.node (uo P) (.node (a12 P) .nil .nil) .nil) (.node (Bh P) .nil .nil))) (.node (a14 P) (.node (a11 P) (.node (a12 P) (.node (E7 P) .nil .nil) .nil) (.node (a11 P) .nil .nil)) (.node (a12 P) (.node (Bm P) (.node (a11 P) .nil .nil) .nil) (.node (a11 P) .nil .nil))))))
def Ka(w:World)(os:OsState):SharedT:=⟨K9 w.params,83,{},#[],{},275,os⟩
def J6(P:M4):Obj:=⟨(.type "dict"),none,(.dict #[(e P "__name__" 165 (s "law_signferry_k53_tables_and_their_ways_back" 275)),(e P "__doc__" 166 .none),(e P "__package__" 167 .none),(e P "__loader__" 168 (.builtin "__main__.__loader__#opaque")),(e P "__spec__" 169 .none),(e P "__annotations__" 170 (.ref 6)),(e P "__builtins__" 171 (.ref 4)),(e P "__file__" 173 (s "/claim/cut.py" 172)),(e P "__cached__" 174 .none),(e P "GREATEST" 190 (.int 1114111 189)),(e P "is_integer" 197 (.ref 21)),(e P "is_row" 204 (.ref 28)),(e P "are_codes" 210 (.ref 33)),(e P "SignError" 230 (.ref 43)),(e P "BadTable" 246 (.ref 56)),(e P "is_code" 255 (.ref 65)),(e P "is_octet" 262 (.ref 72)),(e P "entries_of" 268 (.ref 77)),(e P "way_back" 274 (.ref 82)),(e P "_law_source" 286 (.ref 89)),(e P "_law_draw" 296 (.ref 96)),(e P "_law_pick" 304 (.ref 103)),(e P "_law_shuffled" 314 (.ref 110)),(e P "_law_handed" 322 (.ref 117)),(e P "_law_same" 328 (.ref 122)),(e P "_law_entry" 336 (.ref 129)),(e P "_law_charmap_table" 342 (.ref 134)),(e P "_law_entries" 348 (.ref 139)),(e P "law" 354 (.ref 144))] 29),#[]⟩
def IG(P:M4):Obj:=⟨.none,none,(.fields #[(.int 3 0),(.int 0 0),(.ref 20),(.int 5 0),(.int 0 0),(.ref 27),(.int 7 0),(.int 0 0),(.ref 32),(.int 10 0),(.int 0 0),(.ref 39),(.int 12 0),(.int 0 0),(.ref 52),(.int 15 0),(.int 0 0),(.ref 64),(.int 17 0),(.int 0 0),(.ref 71),(.int 19 0),(.int 0 0),(.ref 76),(.int 30 0),(.int 0 0),(.ref 81),(.int 33 0),(.int 0 0),(.ref 88),(.int 41 0),(.int 0 0),(.ref 95),(.int 49 0),(.int 0 0),(.ref 102),(.int 51 0),(.int 0 0),(.ref 109),(.int 56 0),(.int 0 0),(.ref 116),(.int 58 0),(.int 0 0),(.ref 121),(.int 66 0),(.int 0 0),(.ref 128),(.int 69 0),(.int 0 0),(.ref 133),(.int 75 0),(.int 0 0),(.ref 138),(.int 78 0),(.int 0 0),(.ref 143)]),#[]⟩
def IF(P:M4):Obj:=⟨(.type "tuple"),none,(.seq #[(s "_law_script" 280),(s "_law_k" 281),(s "_law_cell" 282),(s "_law_deep" 283)] 0),#[]⟩
def IE(P:M4):Obj:=⟨.none,none,(.func (f (top 14) "_law_source" "_law_source" 0 [] .none .none .none .none none .none .none 0)),#[]⟩
def ER(P:M4):Obj:=⟨(.type "code"),none,(.fields #[(s "_law_source" 277),(s "_law_source" 278),(s "/claim/cut.py" 279),(.int 33 0),(.int 2 0),(.int 0 0),(.int 0 0),(.int 3 0),(.ref 83),(.bool true),(.int 181 0),(.ref 84),.none,(.ref 85),(.ref 86),(.ref 87),(.int 284 0),(.int 33 0),(s "/claim/cut.py" 285)]),#[]⟩
def EQ(P:M4):Obj:=⟨(.type "function"),none,(.func (f (top 14) "_law_source" "_law_source" 3 [] .none .none .none (s "law_signferry_k53_tables_and_their_ways_back" 275) none (.ref 88) .none 0)),#[]⟩
def ID(P:M4):Obj:=⟨(.type "tuple"),none,(.seq #[(s "_law_source_here" 290),(s "_law_many" 291),(s "_law_digit" 292),(s "_law_seed" 293)] 0),#[]⟩
def IC(P:M4):Obj:=⟨.none,none,(.func (f (top 15) "_law_draw" "_law_draw" 0 [] .none .none .none .none none .none .none 0)),#[]⟩
def EO(P:M4):Obj:=⟨(.type "code"),none,(.fields #[(s "_law_draw" 287),(s "_law_draw" 288),(s "/claim/cut.py" 289),(.int 41 0),(.int 2 0),(.int 0 0),(.int 0 0),(.int 3 0),(.ref 90),(.bool true),(.int 181 0),(.ref 91),.none,(.ref 92),(.ref 93),(.ref 94),(.int 294 0),(.int 41 0),(s "/claim/cut.py" 295)]),#[]⟩
def EN(P:M4):Obj:=⟨(.type "function"),none,(.func (f (top 15) "_law_draw" "_law_draw" 3 [] .none .none .none (s "law_signferry_k53_tables_and_their_ways_back" 275) none (.ref 95) .none 0)),#[]⟩
def IB(P:M4):Obj:=⟨(.type "tuple"),none,(.seq #[(s "_law_source_here" 300),(s "_law_some" 301)] 0),#[]⟩
def E3(P:M4):Obj:=⟨.none,none,(.func (f (top 16) "_law_pick" "_law_pick" 0 [] .none .none .none .none none .none .none 0)),#[]⟩
def wJ(P:M4):Obj:=⟨(.type "code"),none,(.fields #[(s "_law_pick" 297),(s "_law_pick" 298),(s "/claim/cut.py" 299),(.int 49 0),(.int 2 0),(.int 0 0),(.int 0 0),(.int 3 0),(.ref 97),(.bool true),(.int 181 0),(.ref 98),.none,(.ref 99),(.ref 100),(.ref 101),(.int 302 0),(.int 49 0),(s "/claim/cut.py" 303)]),#[]⟩
def wH(P:M4):Obj:=⟨(.type "function"),none,(.func (f (top 16) "_law_pick" "_law_pick" 3 [] .none .none .none (s "law_signferry_k53_tables_and_their_ways_back" 275) none (.ref 102) .none 0)),#[]⟩
def E2(P:M4):Obj:=⟨(.type "tuple"),none,(.seq #[(s "_law_source_here" 308),(s "_law_things" 309),(s "_law_left" 310),(s "_law_found" 311)] 0),#[]⟩
def E1(P:M4):Obj:=⟨.none,none,(.func (f (top 17) "_law_shuffled" "_law_shuffled" 0 [] .none .none .none .none none .none .none 0)),#[]⟩
def wG(P:M4):Obj:=⟨(.type "code"),none,(.fields #[(s "_law_shuffled" 305),(s "_law_shuffled" 306),(s "/claim/cut.py" 307),(.int 51 0),(.int 2 0),(.int 0 0),(.int 0 0),(.int 3 0),(.ref 104),(.bool true),(.int 181 0),(.ref 105),.none,(.ref 106),(.ref 107),(.ref 108),(.int 312 0),(.int 51 0),(s "/claim/cut.py" 313)]),#[]⟩
def wF(P:M4):Obj:=⟨(.type "function"),none,(.func (f (top 17) "_law_shuffled" "_law_shuffled" 3 [] .none .none .none (s "law_signferry_k53_tables_and_their_ways_back" 275) none (.ref 109) .none 0)),#[]⟩
def E0(P:M4):Obj:=⟨(.type "tuple"),none,(.seq #[(s "_law_source_here" 318),(s "_law_codes" 319)] 0),#[]⟩
def EZ(P:M4):Obj:=⟨.none,none,(.func (f (top 18) "_law_handed" "_law_handed" 0 [] .none .none .none .none none .none .none 0)),#[]⟩
def wD(P:M4):Obj:=⟨(.type "code"),none,(.fields #[(s "_law_handed" 315),(s "_law_handed" 316),(s "/claim/cut.py" 317),(.int 56 0),(.int 2 0),(.int 0 0),(.int 0 0),(.int 3 0),(.ref 111),(.bool true),(.int 181 0),(.ref 112),.none,(.ref 113),(.ref 114),(.ref 115),(.int 320 0),(.int 56 0),(s "/claim/cut.py" 321)]),#[]⟩
def wC(P:M4):Obj:=⟨(.type "function"),none,(.func (f (top 18) "_law_handed" "_law_handed" 3 [] .none .none .none (s "law_signferry_k53_tables_and_their_ways_back" 275) none (.ref 116) .none 0)),#[]⟩
def EY(P:M4):Obj:=⟨.none,none,(.func (f (top 19) "_law_same" "_law_same" 0 [] .none .none .none .none none .none .none 0)),#[]⟩
def wB(P:M4):Obj:=⟨(.type "code"),none,(.fields #[(s "_law_same" 323),(s "_law_same" 324),(s "/claim/cut.py" 325),(.int 58 0),(.int 2 0),(.int 0 0),(.int 0 0),(.int 3 0),(.ref 118),(.bool true),(.int 181 0),(.ref 119),.none,.none,.none,(.ref 120),(.int 326 0),(.int 58 0),(s "/claim/cut.py" 327)]),#[]⟩
def wA(P:M4):Obj:=⟨(.type "function"),none,(.func (f (top 19) "_law_same" "_law_same" 3 [] .none .none .none (s "law_signferry_k53_tables_and_their_ways_back" 275) none (.ref 121) .none 0)),#[]⟩
def EX(P:M4):Obj:=⟨(.type "tuple"),none,(.seq #[(s "_law_source_here" 332),(s "_law_some" 333)] 0),#[]⟩
def EW(P:M4):Obj:=⟨.none,none,(.func (f (top 20) "_law_entry" "_law_entry" 0 [] .none .none .none .none none .none .none 0)),#[]⟩
def wz(P:M4):Obj:=⟨(.type "code"),none,(.fields #[(s "_law_entry" 329),(s "_law_entry" 330),(s "/claim/cut.py" 331),(.int 66 0),(.int 1 0),(.int 0 0),(.int 0 0),(.int 3 0),(.ref 123),(.bool true),(.int 181 0),(.ref 124),.none,(.ref 125),(.ref 126),(.ref 127),(.int 334 0),(.int 66 0),(s "/claim/cut.py" 335)]),#[]⟩
def wy(P:M4):Obj:=⟨(.type "function"),none,(.func (f (top 20) "_law_entry" "_law_entry" 3 [] .none .none .none (s "law_signferry_k53_tables_and_their_ways_back" 275) none (.ref 128) .none 0)),#[]⟩
def EV(P:M4):Obj:=⟨.none,none,(.func (f (top 21) "_law_charmap_table" "_law_charmap_table" 0 [] .none .none .none .none none .none .none 0)),#[]⟩
def wx(P:M4):Obj:=⟨(.type "code"),none,(.fields #[(s "_law_charmap_table" 337),(s "_law_charmap_table" 338),(s "/claim/cut.py" 339),(.int 69 0),(.int 1 0),(.int 0 0),(.int 0 0),(.int 3 0),(.ref 130),(.bool true),(.int 181 0),(.ref 131),.none,.none,.none,(.ref 132),(.int 340 0),(.int 69 0),(s "/claim/cut.py" 341)]),#[]⟩
def ww(P:M4):Obj:=⟨(.type "function"),none,(.func (f (top 21) "_law_charmap_table" "_law_charmap_table" 3 [] .none .none .none (s "law_signferry_k53_tables_and_their_ways_back" 275) none (.ref 133) .none 0)),#[]⟩
def EU(P:M4):Obj:=⟨.none,none,(.func (f (top 22) "_law_entries" "_law_entries" 0 [] .none .none .none .none none .none .none 0)),#[]⟩
def wu(P:M4):Obj:=⟨(.type "code"),none,(.fields #[(s "_law_entries" 343),(s "_law_entries" 344),(s "/claim/cut.py" 345),(.int 75 0),(.int 1 0),(.int 0 0),(.int 0 0),(.int 3 0),(.ref 135),(.bool true),(.int 181 0),(.ref 136),.none,.none,.none,(.ref 137),(.int 346 0),(.int 75 0),(s "/claim/cut.py" 347)]),#[]⟩
def wq(P:M4):Obj:=⟨(.type "function"),none,(.func (f (top 22) "_law_entries" "_law_entries" 3 [] .none .none .none (s "law_signferry_k53_tables_and_their_ways_back" 275) none (.ref 138) .none 0)),#[]⟩
def ES(P:M4):Obj:=⟨.none,none,(.func (f (top 23) "law" "law" 0 [] .none .none .none .none none .none .none 0)),#[]⟩
def wo(P:M4):Obj:=⟨(.type "code"),none,(.fields #[(s "law" 349),(s "law" 350),(s "/claim/cut.py" 351),(.int 78 0),(.int 1 0),(.int 0 0),(.int 0 0),(.int 3 0),(.ref 140),(.bool true),(.int 181 0),(.ref 141),.none,.none,.none,(.ref 142),(.int 352 0),(.int 78 0),(s "/claim/cut.py" 353)]),#[]⟩
def wn(P:M4):Obj:=⟨(.type "function"),none,(.func (f (top 23) "law" "law" 3 [] .none .none .none (s "law_signferry_k53_tables_and_their_ways_back" 275) none (.ref 143) .none 0)),#[]⟩
def JZ(P:M4):BT:=(.node (PySem.W.boot_o_0 P) (.node (PySem.W.boot_o_1 P) (.node (J6 P) (.node (PySem.W.boot_o_7 P) (.node (a11 P) (.node (Br P) (.node (E9 P) (.node (EW P) .nil .nil) .nil) (.node (EO P) .nil .nil)) (.node (uk P) (.node (a12 P) (.node (wo P) .nil .nil) .nil) (.node (a11 P) .nil .nil))) (.node (a12 P) (.node (Bp P) (.node (Be P) (.node (a11 P) .nil .nil) .nil) (.node (wH P) .nil .nil)) (.node (uj P) (.node (IE P) .nil .nil) (.node (a12 P) .nil .nil)))) (.node (a11 P) (.node (Bu P) (.node (ml P) (.node (a12 P) (.node (a12 P) .nil .nil) .nil) (.node (IB P) .nil .nil)) (.node (a12 P) (.node (a11 P) .nil .nil) (.node (EZ P) .nil .nil))) (.node (uv P) (.node (um P) (.node (E6 P) (.node (wq P) .nil .nil) .nil) (.node (a11 P) .nil .nil)) (.node (a11 P) (.node (a12 P) .nil .nil) (.node (a11 P) .nil .nil))))) (.node (PySem.W.boot_o_5 P) (.node (PySem.W.boot_o_9 P) (.node (Bv P) (.node (ur P) (.node (Bf P) (.node (wy P) .nil .nil) .nil) (.node (a11 P) .nil .nil)) (.node (Bl P) (.node (Ba P) .nil .nil) (.node (E0 P) .nil .nil))) (.node (a11 P) (.node (a11 P) (.node (a11 P) (.node (EU P) .nil .nil) .nil) (.node (a12 P) .nil .nil)) (.node (Bi P) (.node (EQ P) .nil .nil) (.node (wB P) .nil .nil)))) (.node (a13 P) (.node (uw P) (.node (a11 P) (.node (a11 P) (.node (wx P) .nil .nil) .nil) (.node (E3 P) .nil .nil)) (.node (Bj P) (.node (IF P) .nil .nil) (.node (wC P) .nil .nil))) (.node (a11 P) (.node (Bn P) (.node (Bb P) (.node (a12 P) .nil .nil) .nil) (.node (wG P) .nil .nil)) (.node (Fb P) (.node (a11 P) .nil .nil) (.node (EX P) .nil .nil)))))) (.node (PySem.W.boot_o_2 P) (.node (PySem.W.boot_o_4 P) (.node (PySem.W.boot_o_8 P) (.node (a12 P) (.node (ut P) (.node (Bg P) (.node (wz P) .nil .nil) .nil) (.node (EN P) .nil .nil)) (.node (ml P) (.node (E5 P) (.node (wn P) .nil .nil) .nil) (.node (a12 P) .nil .nil))) (.node (Bt P) (.node (Bo P) (.node (Bd P) (.node (a12 P) .nil .nil) .nil) (.node (a11 P) .nil .nil)) (.node (ui P) (.node (ER P) .nil .nil) (.node (EY P) .nil .nil)))) (.node (IG P) (.node (ux P) (.node (Bq P) (.node (E8 P) (.node (EV P) .nil .nil) .nil) (.node (a11 P) .nil .nil)) (.node (Bk P) (.node (a12 P) .nil .nil) (.node (wD P) .nil .nil))) (.node (uu P) (.node (ul P) (.node (Bc P) (.node (a11 P) .nil .nil) .nil) (.node (E1 P) .nil .nil)) (.node (a12 P) (.node (ID P) .nil .nil) (.node (a12 P) .nil .nil))))) (.node (PySem.W.boot_o_6 P) (.node (PySem.W.boot_o_10 P) (.node (a11 P) (.node (uq P) (.node (a11 P) (.node (a11 P) .nil .nil) .nil) (.node (a12 P) .nil .nil)) (.node (a11 P) (.node (A9 P) .nil .nil) (.node (a11 P) .nil .nil))) (.node (Bs P) (.node (uo P) (.node (a12 P) (.node (wu P) .nil .nil) .nil) (.node (E2 P) .nil .nil)) (.node (Bh P) (.node (a11 P) .nil .nil) (.node (wA P) .nil .nil)))) (.node (a14 P) (.node (a11 P) (.node (a12 P) (.node (E7 P) (.node (ww P) .nil .nil) .nil) (.node (wJ P) .nil .nil)) (.node (a11 P) (.node (a11 P) .nil .nil) (.node (a11 P) .nil .nil))) (.node (a12 P) (.node (Bm P) (.node (a11 P) (.node (ES P) .nil .nil) .nil) (.node (wF P) .nil .nil)) (.node (a11 P) (.node (IC P) .nil .nil) (.node (a11 P) .nil .nil)))))))
def J0(w:World)(os:OsState):SharedT:=⟨JZ w.params,145,{},#[],{},355,os⟩
def fT(P:M4):BT:=JZ P
def fS(w:World)(os:OsState):SharedT:=⟨fT w.params,145,{},#[],{},355,os⟩
end
def env:Env:={scope:=R.prog.main.scope,locals:=mainNs,globals:=mainNs,cells:=[],code:=(.ref 13),frame:=some 14}
def body:List Stmt:=PySem.W.behindTheImports R.prog
abbrev cod:Code:=.body body env
abbrev fr:List Frame:=[PySem.W.topFrame ⟨0,0,0,0⟩]
def l0:List Stmt:=(body.drop 0).take 8
def l1:List Stmt:=(body.drop 8).take 5
def l2:List Stmt:=body.drop 13
theorem Jy:body=l0++(l1++(l2++[])):=by kernel_rfl
theorem Ge(w:World):HandSHeadRun.putAll (PySem.W.boot_heap w.params).objs.toList .nil 0=some (zT w.params,11):=by kernel_rfl
theorem LI(w:World):HandSHeadRun.bootAnn w=(some (.ref 6)):=by kernel_rfl
theorem KS(w:World)(os:OsState):Av.Hd.preQ (Av.Hd.stQ R.prog w) 11 (some (.ref 6)) 12 (HandSHeadRun.bootT w os (zT w.params,11)) (PySem.W.topStub R.prog)=some (aS w os,⟨HandSHeadRun.denQ HandSHeadRun.tabQ (.body body env),cod,⟨0,0,0,0⟩,fr⟩):=by kernel_rfl
theorem LG(w:World)(os:OsState):Av.Hd.segQ (Av.Hd.stQ R.prog w) 11 (some (.ref 6)) 1 (aS w os) (PySem.W.blockOf body env cod ⟨0,0,0,0⟩ fr)=some (.next,bS w os,cod,⟨0,0,0,0⟩):=by kernel_rfl
theorem m0E(w:World):∀os:OsState,Av.Hd.segQ (Av.Hd.stQ R.prog w) 11 (some (.ref 6)) 511 (bS w os) (Av.Hd.piecesQ l0 env cod ⟨0,0,0,0⟩ fr)=some (.next,Kb w os,cod,⟨12,0,13,8⟩):=by
 intro os
 kernel_rfl
theorem m1E(w:World):∀os:OsState,Av.Hd.segQ (Av.Hd.stQ R.prog w) 11 (some (.ref 6)) 120 (Kb w os) (Av.Hd.piecesQ l1 env cod ⟨12,0,13,8⟩ fr)=some (.next,Ka w os,cod,⟨30,0,31,81⟩):=by
 intro os
 kernel_rfl
theorem m2E(w:World):∀os:OsState,Av.Hd.segQ (Av.Hd.stQ R.prog w) 11 (some (.ref 6)) 300 (Ka w os) (Av.Hd.piecesQ l2 env cod ⟨30,0,31,81⟩ fr)=some (.next,J0 w os,cod,⟨78,0,89,94⟩):=by
 intro os
 kernel_rfl
theorem Lq(w:World)(os:OsState):HandSHeadRun.goF (Av.Hd.stQ R.prog w) 11 (some (.ref 6)) 2 (J0 w os) (Av.Hd.restQ [] env cod ⟨78,0,89,94⟩ fr)=some (fS w os):=by kernel_rfl
theorem Fd(w:World)(os:OsState):HandSHeadRun.looksF R.prog (PySem.W.boot_heap w.params) (fS w os).abs=true:=by kernel_rfl
theorem HA(w:World)(os:OsState):(HandSHeadRun.seenQ (PySem.W.view R.prog [23]) names (PySem.importedModules R.prog.main.body) (fun s=>PySem.W.xlAt (PySem.W.view R.prog [23]) [] s && PySem.W.recOk R.toRowW.records s) (fS w os).abs).1=(PySem.W.openGood (PySem.W.view R.prog [23]) names).1:=by kernel_rfl
theorem Hz(w:World)(os:OsState):(HandSHeadRun.seenQ (PySem.W.view R.prog [23]) names (PySem.importedModules R.prog.main.body) (fun s=>PySem.W.xlAt (PySem.W.view R.prog [23]) [] s && PySem.W.recOk R.toRowW.records s) (fS w os).abs).2.1=(PySem.W.openGood (PySem.W.view R.prog [23]) names).2.1:=by kernel_rfl
theorem Hy(w:World)(os:OsState):(HandSHeadRun.seenQ (PySem.W.view R.prog [23]) names (PySem.importedModules R.prog.main.body) (fun s=>PySem.W.xlAt (PySem.W.view R.prog [23]) [] s && PySem.W.recOk R.toRowW.records s) (fS w os).abs).2.2.1=(PySem.W.openGood (PySem.W.view R.prog [23]) names).2.2.1:=by kernel_rfl
theorem Hx(w:World)(os:OsState):(HandSHeadRun.seenQ (PySem.W.view R.prog [23]) names (PySem.importedModules R.prog.main.body) (fun s=>PySem.W.xlAt (PySem.W.view R.prog [23]) [] s && PySem.W.recOk R.toRowW.records s) (fS w os).abs).2.2.2.1=(PySem.W.openGood (PySem.W.view R.prog [23]) names).2.2.2.1:=by kernel_rfl
theorem Hw(w:World)(os:OsState):(HandSHeadRun.seenQ (PySem.W.view R.prog [23]) names (PySem.importedModules R.prog.main.body) (fun s=>PySem.W.xlAt (PySem.W.view R.prog [23]) [] s && PySem.W.recOk R.toRowW.records s) (fS w os).abs).2.2.2.2.1=(PySem.W.openGood (PySem.W.view R.prog [23]) names).2.2.2.2.1:=by kernel_rfl
theorem Hv(w:World)(os:OsState):(HandSHeadRun.seenQ (PySem.W.view R.prog [23]) names (PySem.importedModules R.prog.main.body) (fun s=>PySem.W.xlAt (PySem.W.view R.prog [23]) [] s && PySem.W.recOk R.toRowW.records s) (fS w os).abs).2.2.2.2.2.1=(PySem.W.openGood (PySem.W.view R.prog [23]) names).2.2.2.2.2.1:=by kernel_rfl
theorem Hu(w:World)(os:OsState):(HandSHeadRun.seenQ (PySem.W.view R.prog [23]) names (PySem.importedModules R.prog.main.body) (fun s=>PySem.W.xlAt (PySem.W.view R.prog [23]) [] s && PySem.W.recOk R.toRowW.records s) (fS w os).abs).2.2.2.2.2.2.1=(PySem.W.openGood (PySem.W.view R.prog [23]) names).2.2.2.2.2.2.1:=by kernel_rfl
theorem Ht(w:World)(os:OsState):(HandSHeadRun.seenQ (PySem.W.view R.prog [23]) names (PySem.importedModules R.prog.main.body) (fun s=>PySem.W.xlAt (PySem.W.view R.prog [23]) [] s && PySem.W.recOk R.toRowW.records s) (fS w os).abs).2.2.2.2.2.2.2.1=(PySem.W.openGood (PySem.W.view R.prog [23]) names).2.2.2.2.2.2.2.1:=by kernel_rfl
theorem Hs(w:World)(os:OsState):(HandSHeadRun.seenQ (PySem.W.view R.prog [23]) names (PySem.importedModules R.prog.main.body) (fun s=>PySem.W.xlAt (PySem.W.view R.prog [23]) [] s && PySem.W.recOk R.toRowW.records s) (fS w os).abs).2.2.2.2.2.2.2.2=(PySem.W.openGood (PySem.W.view R.prog [23]) names).2.2.2.2.2.2.2.2:=by kernel_rfl
theorem Hr(w:World)(os:OsState):HandSHeadRun.seenQ (PySem.W.view R.prog [23]) names (PySem.importedModules R.prog.main.body) (fun s=>PySem.W.xlAt (PySem.W.view R.prog [23]) [] s && PySem.W.recOk R.toRowW.records s) (fS w os).abs=PySem.W.openGood (PySem.W.view R.prog [23]) names:=Prod.ext (HA w os) (Prod.ext (Hz w os) (Prod.ext (Hy w os) (Prod.ext (Hx w os) (Prod.ext (Hw w os) (Prod.ext (Hv w os) (Prod.ext (Hu w os) (Prod.ext (Ht w os) (Hs w os))))))))
def as:List Addr:=[3,21,28,33,43,56,65,72,77,82,89,96,103,110,117,122,129,134,139,144,20,27,32,34,42,47,55,64,71,76,81,88,95,102,109,116,121,128,133,138,143,41,44,54,2,1,74,136]
def K(w:World):M0:=[(3,J6 w.params),(21,uw w.params),(28,uu w.params),(33,ur w.params),(43,um w.params),(56,ui w.params),(65,Bf w.params),(72,Bd w.params),(77,Bb w.params),(82,A9 w.params),(89,EQ w.params),(96,EN w.params),(103,wH w.params),(110,wF w.params),(117,wC w.params),(122,wA w.params),(129,wy w.params),(134,ww w.params),(139,wq w.params),(144,wn w.params),(20,ux w.params),(27,uv w.params),(32,ut w.params),(34,uq w.params),(42,uo w.params),(47,uk w.params),(55,uj w.params),(64,Bg w.params),(71,Be w.params),(76,Bc w.params),(81,Ba w.params),(88,ER w.params),(95,EO w.params),(102,wJ w.params),(109,wG w.params),(116,wD w.params),(121,wB w.params),(128,wz w.params),(133,wx w.params),(138,wu w.params),(143,wo w.params),(41,a11 w.params),(44,ul w.params),(54,a11 w.params),(2,PySem.W.boot_o_2 w.params),(1,PySem.W.boot_o_1 w.params)]
def TT(w:World):M0:=[(74,a12 w.params),(136,a12 w.params)]
def KT(w:World):M0:=K w++TT w
def cs:List (Addr × Addr):=[(76,74),(138,136)]
theorem asE(w:World):as=(KT w).map (·.1):=by kernel_rfl
abbrev hk:PySem.W.Hook:=Av.hookK as KT asE
def ob(s:PySem.W.SharedT):List (Option Obj):=Av.obsK as s
theorem ob_eq(s:PySem.W.SharedT):ob s=hk.obs s.abs:=Av.obsK_eq s
theorem IV(w:World)(os:OsState):ob (fS w os)=hk.val w:=by kernel_rfl
abbrev MM:Nat:=(12+(1+(511+(120+(300+2)))))
theorem run(w:World):Av.Hd.Runs R (PySem.W.view R.prog [23]) hk ob MM names w:=by
 intro os
 refine⟨fS w os,?_,?_⟩
 ·rw[Av.Hd.size_of (Ge w),LI w]
  refine Av.Hd.rest_first (Ge w) (KS w os) (LG w os) ?_
  rw[Jy]
  exact Av.Hd.rest_part (m0E w os) (Av.Hd.rest_part (m1E w os) (Av.Hd.rest_part (m2E w os) (Av.Hd.rest_last (Lq w os))))
 ·show (_,_,_)=(_,_,_)
  rw[Fd w os,Hr w os,IV w os]
end Av.Fin
namespace Av
variable [Tb]
theorem pZ{body:aj→AG→bU→Prop}{g:TGt}{gd:Gd}{A:bU}(I:List Dat→aj→AG→Prop)
  (step:∀d ds ρ G (N:aj→AG→Prop),(∀ρ G,I ds ρ G→N ρ G)→I (d :: ds) ρ G→bZ G gd∧tgW g d ρ fun ρ1=>body ρ1 G {A with nx:=N,ct:=N,bk:=A.nx})
  (done:∀ρ G,I [] ρ G→bZ G gd∧A.nx ρ G):∀ds ρ G,I ds ρ G→p8 body g gd A ds ρ G
 |[],ρ,G,h=>done ρ G h
 |d :: ds,ρ,G,h=>step d ds ρ G _ (pZ I step done ds) h
theorem iT{z:Bool}{elt:aj→AG→AQ→Prop}{g:TGt}{own:List Nat}{gd:Gd}{ρ:aj}{Q:AQ}(I:List Dat→List Dat→AG→Prop)
  (step:∀d ds acc G (N:List Dat→AG→Prop),(∀acc G,I ds acc G→N acc G)→I (d :: ds) acc G→bZ G gd∧tgW g d (bj ρ own) fun ρ1=>elt ρ1 G fun y G2=>acc.length<sizeLine∧N (acc++[y]) G2)
  (done:∀acc G,I [] acc G→bZ G gd∧if z=true then Q (.lst acc) G else ∀p,G p=none→Q (.ref p) (gu G p (.lst acc))):∀ds acc G,I ds acc G→lcW z elt g own gd ρ Q ds acc G
 |[],acc,G,h=>done acc G h
 |d :: ds,acc,G,h=>step d ds acc G (fun acc G=>lcW z elt g own gd ρ Q ds acc G) (fun acc G=>iT I step done ds acc G) h
section
variable {G:AG} {p:Addr} {ds:List Dat} {i:Int} {d v:Dat} {Q:AQ}
theorem ixA(h:G p=some (.lst ds))(h2:atI ds i=some d)(q:Q d G):ixW (.ref p) (.int i) G Q:=⟨ds,d,by show (match G p with|some (.lst ds)=>some ds|_=>none)=some ds;rw[h],h2,q⟩
theorem ixL(h2:atI ds i=some d)(q:Q d G):ixW (.lst ds) (.int i) G Q:=⟨ds,d,rfl,h2,q⟩
theorem JV{Q:AG→Prop}{j:Nat}(h:G p=some (.lst ds))(h2:ixN ds.length i=some j)(q:Q (gu G p (.lst (ds.set j v)))):Cy (.ref p) (.int i) v G Q:=⟨ds,j,h,h2,q⟩
theorem fh(h:0≤i):atI ds i=ds[i.toNat]?:=by
 unfold atI ixN
 rw[if_pos h]
 by_cases h1:i<(ds.length:Int)
 ·rw[if_pos h1];rfl
 ·rw[if_neg h1,List.getElem?_eq_none (by omega)];rfl
theorem xG(h:0≤i)(h2:i<ds.length):∃d,atI ds i=some d∧d∈ds:=by
 have h3:i.toNat<ds.length:=by omega
 exact⟨ds[i.toNat],by rw[fh h,Me h3],List.getElem_mem h3⟩
end
def DrO(n:Nat)(o:AO):Prop:=∃a b c:Int,o = .lst [.int a,.int b,.int c]∧0≤b∧b<2^40∧0≤c∧c+n≤2^40
theorem DrO.mono{m n:Nat}{o:AO}(h:DrO n o)(l:m≤n):DrO m o:=by
 obtain⟨a,b,c,h1,h2,h3,h4,h5⟩:=h
 exact⟨a,b,c,h1,h2,h3,h4,by omega⟩
def xA:Con:=fun ds G Q X=>∃p m n o,ds=[.ref p,.int m]∧G p=some o∧DrO (n+1) o∧0<m∧m<2^30∧∀r o',0≤r→r<m→DrO n o'→Q (.int r) (gu G p o')
def dM:FnE:={con:=xA,ar:=2,len:=fun ds G Q X ⟨p,m,n,o,h,_⟩=>by rw[h];rfl}
def rQ:List S:=[
 .setIx (.var 0) (.cst (.int 2)) (.bin true .add (.ix (.var 0) (.cst (.int 2))) (.cst (.int 1))),
 .if_ (.cmp .gt (.ix (.var 0) (.cst (.int 0))) (.cst (.int 0))) [.set 3 (.bin true .mod (.blt true .int [(.ix (.var 0) (.cst (.int 0)))]) (.var 1)),.setIx (.var 0) (.cst (.int 0)) (.bin true .fdiv (.ix (.var 0) (.cst (.int 0))) (.var 1)),.ret (.var 3)] [],
 .set 2 (.bin true .mod (.bin true .pow (.blt true .int [(.bin true .add (.ix (.var 0) (.cst (.int 1))) (.bin true .mul (.cst (.int 7919)) (.ix (.var 0) (.cst (.int 2)))))]) (.cst (.int 5))) (.cst (.int 2147483647))),
 .ret (.bin true .mod (.bin true .fdiv (.bin true .mod (.bin true .mul (.bin true .add (.var 2) (.ix (.var 0) (.cst (.int 2)))) (.cst (.int 40692))) (.cst (.int 2147483629))) (.cst (.int 16))) (.var 1))]
theorem A2(Γ:Gam)(N:List Str)(hN:N.length=4)(ds:List Dat)(G:AG)(Q:AQ)(X:AX)(h:xA ds G Q X):wSs Γ rQ (ah N ds) G (ay Q X):=by
 obtain⟨p,m,n,o,rfl,hp,⟨a,b,c,rfl,h1,h2,h3,h4⟩,h5,h6,hq⟩:=h
 simp only[rQ,ah,hN,List.map,List.length,Mh,List.append,List.cons_append,List.nil_append,wSs,wS,wE,wEs,wT,M8,M9]
 refine ixA hp rfl ?_
 simp only[cL]
 refine JV hp rfl ?_
 refine ixA ak rfl ?_
 simp only[bY,bM,List.set]
 by_cases ha:0<a
 ·simp only[ha,decide_true,if_true]
  refine ixA ak rfl ?_
  simp only[aX,cL]
  refine⟨h5,?_⟩
  simp only[M8,M9]
  refine ixA ak rfl ?_
  simp only[cL]
  refine⟨⟨h5,by omega⟩,?_⟩
  refine JV ak rfl ?_
  simp only[List.set,fB]
  exact⟨_,.refl _,hq _ _ (Int.emod_nonneg _ (by omega)) (Int.emod_lt_of_pos _ h5) ⟨a / m,b,c+1,rfl,h1,h2,by omega,by omega⟩⟩
 ·simp only[ha,decide_false,if_false,M6]
  refine ixA ak rfl ?_
  refine ixA ak rfl ?_
  simp only[cL,aX]
  refine⟨.inl ⟨by omega,by omega⟩,⟨by omega,by omega,by omega⟩,by omega,?_⟩
  simp only[M8,M9]
  refine ixA ak rfl ?_
  simp only[cL]
  refine⟨.inr ⟨by omega,by omega⟩,by omega,⟨by omega,by omega⟩,h5,?_⟩
  exact⟨_,.refl _,hq _ _ (Int.emod_nonneg _ (by omega)) (Int.emod_lt_of_pos _ h5) ⟨a,b,c+1,rfl,h1,h2,by omega,by omega⟩⟩
def mu:Dat→Option (List Dat)
 |.tup ds=>some ds
 |.lst ds=>some ds
 |.kls ds=>some ds
 |_=>none
theorem cJ{G:AG}{d:Dat}{ds:List Dat}(h:mu d=some ds):aV G d=some ds:=by
 cases d <;> first|exact h|cases h
theorem ixF{G:AG}{x d:Dat}{ds:List Dat}{i:Int}{Q:AQ}(h:mu x=some ds)(h2:atI ds i=some d)(q:Q d G):ixW x (.int i) G Q:=⟨ds,d,cJ h,h2,q⟩
def lL:Con:=fun ds G Q X=>∃sc k ns,ds=[sc,.int k]∧mu sc=some (List.map Dat.int ns)∧0≤k∧k<1000∧∀p o,G p=none→DrO (2^38) o→Q (.ref p) (gu G p o)
def et:FnE:={con:=lL,ar:=2,len:=fun ds G Q X ⟨_,_,_,h,_⟩=>by rw[h];rfl}
def dj:List S:=[
 .set 2 (.cst (.int 0)),
 .set 3 (.cst (.int 0)),
 .if_ (.cmp .gt (.blt true .len [(.var 0)]) (.cst (.int 0))) [.set 2 (.ix (.var 0) (.bin true .mod (.blt true .int [(.var 1)]) (.blt true .len [(.var 0)])))] [],
 .if_ (.and_ (.cmp .lt (.var 1) (.blt true .len [(.var 0)])) (.one (.cmp .ge (.var 2) (.bin true .pow (.cst (.int 10)) (.cst (.int 18)))))) [.set 3 (.var 2)] [],
 .ret (.lst false [(.var 3),(.bin true .add (.bin true .add (.bin true .mod (.blt true .int [(.var 2)]) (.cst (.int 2147483647))) (.bin true .mul (.cst (.int 7919000)) (.var 1))) (.cst (.int 104729))),(.cst (.int 0))])]
theorem oK(Γ:Gam)(N:List Str)(hN:N.length=4)(ds:List Dat)(G:AG)(Q:AQ)(X:AX)(h:lL ds G Q X):wSs Γ dj (ah N ds) G (ay Q X):=by
 obtain⟨sc,k,ns,rfl,hs,h1,h2,hq⟩:=h
 have fin:∀a b:Int,∃ds:List Dat,ds=[.int a,.int (b % 2147483647+7919000*k+104729),.int 0]∧(JX ds G fun d G'=>∃G0,Sub G0 G'∧Q d G0):=fun a b=>⟨_,rfl,by show 3≤sizeLine;decide,fun p hp=>⟨_,.refl _,hq p _ hp ⟨a,_,0,rfl,by omega,by omega,by omega,by omega⟩⟩⟩
 have last:∀(cell deep:Int),wSs Γ [.if_ (.and_ (.cmp .lt (.var 1) (.blt true .len [(.var 0)])) (.one (.cmp .ge (.var 2) (.bin true .pow (.cst (.int 10)) (.cst (.int 18)))))) [.set 3 (.var 2)] [],
   .ret (.lst false [(.var 3),(.bin true .add (.bin true .add (.bin true .mod (.blt true .int [(.var 2)]) (.cst (.int 2147483647))) (.bin true .mul (.cst (.int 7919000)) (.var 1))) (.cst (.int 104729))),(.cst (.int 0))])] [some sc,some (.int k),some (.int cell),some (.int deep)] G (ay Q X):=fun cell deep=>by
  have tail:∀a:Int,wSs Γ [.ret (.lst false [(.var 3),(.bin true .add (.bin true .add (.bin true .mod (.blt true .int [(.var 2)]) (.cst (.int 2147483647))) (.bin true .mul (.cst (.int 7919000)) (.var 1))) (.cst (.int 104729))),(.cst (.int 0))])] [some sc,some (.int k),some (.int cell),some (.int a)] G (ay Q X):=fun a=>by
   obtain⟨ds,rfl,hf⟩:=fin a cell
   simp only[wSs,wS,wE,wEs,M8,M9,aX,cL,nw,M6,if_false]
   exact⟨by omega,.inl ⟨by omega,by omega⟩,hf⟩
  rw[wSs]
  simp only[wS,wSs,wT,wE,wEs,M8,M9,aX]
  refine⟨_,cJ hs,?_⟩
  simp only[bY,bM]
  by_cases hk:k<((List.map Dat.int ns).length:Int)
  ·simp only[hk,decide_true,if_true]
   refine⟨⟨by omega,by omega,by decide⟩,?_⟩
   by_cases hc:((10:Int)^(18:Int).toNat≤cell)
   ·simp only[hc,decide_true,if_true]
    exact tail _
   ·simp only[hc,decide_false,if_false,M6]
    exact tail _
  ·simp only[hk,decide_false,if_false,M6]
   exact tail _
 have mid:wSs Γ dj (ah N [sc,.int k]) G (ay Q X)=wSs Γ dj [some sc,some (.int k),none,none] G (ay Q X):=by
  unfold ah
  rw[hN]
  rfl
 rw[mid]
 unfold dj
 rw[wSs];simp only[wS,wE,List.set]
 rw[wSs];simp only[wS,wE,List.set]
 rw[wSs]
 simp only[wS,wE,wEs,wT,M8,M9,aX]
 refine⟨_,cJ hs,?_⟩
 simp only[bY,bM]
 by_cases hn:(0:Int)<((List.map Dat.int ns).length:Int)
 ·simp only[hn,decide_true,if_true]
  rw[wSs]
  simp only[wS,wSs,wE,wEs,M8,M9,aX]
  refine⟨_,cJ hs,?_⟩
  simp only[cL]
  refine⟨hn,?_⟩
  obtain⟨d,hd,hm⟩:=xG (ds:=List.map Dat.int ns) (Int.emod_nonneg k (by omega)) (Int.emod_lt_of_pos k hn)
  refine ixF hs hd ?_
  obtain⟨c,_,rfl⟩:=List.mem_map.mp hm
  exact last c 0
 ·simp only[hn,decide_false,if_false,M6]
  exact last 0 0
def xy:Con:=fun ds G Q X=>∃p n o sm items,ds=[.ref p,sm]∧G p=some o∧DrO (n+1) o∧mu sm=some items∧0<items.length∧items.length<2^30∧∀d o',d∈items→DrO n o'→Q d (gu G p o')
def lF:FnE:={con:=xy,ar:=2,len:=fun ds G Q X ⟨_,_,_,_,_,h,_⟩=>by rw[h];rfl}
def rP:List S:=[.ret (.ix (.var 1) (.call "_law_draw" [(.var 0),(.blt true .len [(.var 1)])]))]
theorem A1(Γ:Gam)(hd:Γ.fn "_law_draw" =some dM)(N:List Str)(hN:N.length=2)(ds:List Dat)(G:AG)(Q:AQ)(X:AX)(h:xy ds G Q X):wSs Γ rP (ah N ds) G (ay Q X):=by
 obtain⟨p,n,o,sm,items,rfl,hp,ho,hs,h1,h2,hq⟩:=h
 simp only[rP,ah,hN,List.map,List.length,Mh,List.cons_append,List.nil_append,wSs,wS,wE,wEs,M8,M9,hd,aX,dM,List.drop_nil,List.append_nil]
 refine⟨⟨by decide,by decide⟩,_,cJ hs,p,_,n,o,rfl,hp,ho,by omega,by omega,fun r o' h3 h4 h5=>?_⟩
 obtain⟨d,hd,hm⟩:=xG h3 h4
 exact ixF hs hd ⟨_,.refl _,hq d o' hm h5⟩
end Av
namespace Av
variable [Tb]
def o6:Dat→Option PyData
 |.non=>some .none
 |.bl b=>some (.bool b)
 |.int i=>some (.int i)
 |.str s=>some (.str s)
 |_=>none
def jz(G:AG):Nat→Dat→Dat→Prop
 |0,x,y=>x=y∧(o6 x).isSome=true
 |n+1,x,y=>(x=y∧(o6 x).isSome=true)∨
   (∃xs ys,x = .tup xs∧y = .tup ys∧xs.length=ys.length∧xs.length≤sizeLine∧∀(i:Nat) (a b:Dat),xs[i]?=some a→ys[i]?=some b→jz G n a b)∨
   ∃xs ys,ai G x=some xs∧ai G y=some ys∧xs.length=ys.length∧xs.length≤sizeLine∧∀(i:Nat) (a b:Dat),xs[i]?=some a→ys[i]?=some b→jz G n a b
theorem o0{G:AG}{x:Dat}(h:(o6 x).isSome=true)(hs:∀s,x≠.str s):∃p,jB G x p∧SeqAt.shaped p=true∧PyData.eqv p p=true:=by
 cases x with
 |non=>exact⟨_,.non,by decide,by decide⟩
 |bl b=>exact⟨_,.bl b,by cases b <;> decide,by cases b <;> decide⟩
 |int i=>exact⟨_,.int i,rfl,SeqAt.eqv_refl _ rfl⟩
 |str s=>exact absurd rfl (hs s)
 |_=>cases h
theorem dC{G:AG}{x:Dat}{Q:AQ}(h:(o6 x).isSome=true)(q:Q (.bl true) G):bY .eq x x G Q:=by
 by_cases hs:∃s,x = .str s
 ·obtain⟨s,rfl⟩:=hs
  refine .inl ⟨rfl,?_⟩
  simp only[M6,if_false,decide_true]
  exact q
 ·obtain⟨p,h1,h2,h3⟩:=o0 (G:=G) h fun s e=>hs ⟨s,e⟩
  refine .inr ⟨p,p,h1,h1,h2,h2,?_⟩
  simp only[M6,if_false,h3]
  exact q
def qU(n:Nat):Con:=fun ds G Q X=>∃x y,ds=[x,y]∧jz G n x y∧Q (.bl true) G
def bf(n:Nat):FnE:={con:=qU n,ar:=2,len:=fun ds G Q X ⟨_,_,h,_⟩=>by rw[h];rfl}
def fg:List S:=[
 .if_ (.val (.blt true .isinst [(.var 1),(.tup [(.glo "list"),(.glo "tuple")])])) [.if_ (.or_ (.cmp .ne (.blt true .isinst [(.var 0),(.glo "list")]) (.blt true .isinst [(.var 1),(.glo "list")])) (.one (.cmp .ne (.blt true .isinst [(.var 0),(.glo "tuple")]) (.blt true .isinst [(.var 1),(.glo "tuple")])))) [.ret (.cst (.bl false))] [],.ret (.andV (.cmp .eq (.blt true .len [(.var 0)]) (.blt true .len [(.var 1)])) (.one (.blt true .all [(.lc true (.call "_law_same" [(.var 2),(.var 3)]) (.tp [2,3]) (.zip (.var 0) (.var 1)) [2,3])])))] [],
 .if_ (.val (.blt true .isinst [(.var 1),(.tup [(.glo "bool"),(.glo "int")])])) [.ret (.andV (.blt true .isinst [(.var 0),(.glo "int")]) (.andV (.cmp .eq (.blt true .isinst [(.var 0),(.glo "bool")]) (.blt true .isinst [(.var 1),(.glo "bool")])) (.one (.cmp .eq (.var 0) (.var 1)))))] [],
 .ret (.andV (.notV (.blt true .isinst [(.var 0),(.tup [(.glo "bool"),(.glo "list"),(.glo "tuple")])])) (.one (.cmp .eq (.var 0) (.var 1))))]
structure JC(Γ:Gam):Prop where
 list:Γ.gl "list" =some (.ty "list")
 tuple:Γ.gl "tuple" =some (.ty "tuple")
 bool:Γ.gl "bool" =some (.ty "bool")
 int:Γ.gl "int" =some (.ty "int")
theorem JQ{G:AG}{x:Dat}{t:String}(h:jG G x=some t):tyN G x=some (.inl t):=by
 cases x with
 |ref a =>
  unfold jG at h
  unfold tyN
  dsimp only at h ⊢
  cases e:G a with
  |none=>rw[e]at h;cases h
  |some o=>rw[e]at h;cases o <;> first|(cases h;rfl)|cases h
 |exc=>cases h
 |_=>unfold tyN;dsimp only;rw[h]
theorem dl{G:AG}{x:Dat}{n t:String}{b:Bool}{Q:AQ}(h:jG G x=some t)(h2:kitB t n=some b)(q:Q (.bl b) G):Fj x (.ty n) G Q:=⟨_,b,JQ h,h2,q⟩
def rT:List Dat→Bool
 |[]=>true
 |.ty _ :: r=>rT r
 |_ :: _=>false
def GC(t:String):List Dat→Option Bool
 |[]=>some false
 |.ty n :: r=>match kitB t n with
  |some true=>if rT r=true then some true else none
  |some false=>GC t r
  |none=>none
 |_ :: _=>none
omit [Tb] in
theorem ju:∀cs:List Dat,rT cs=true→jv cs=true
 |[],_=>rfl
 |d :: r,h=>by
  cases d with
  |ty n=>exact ju r h
  |_=>cases h
theorem pO{t:String}:∀(cs:List Dat) (b:Bool),GC t cs=some b→cZ (.inl t) cs=some b
 |[],_,h=>h
 |d :: r,b,h=>by
  cases d with
  |ty n =>
   unfold GC at h
   show (match kitB t n with
    |some true=>if jv r=true then some true else none
    |some false=>cZ (.inl t) r
    |none=>none)=some b
   split at h
   ·split at h
    ·cases h
     rename_i e h2
     rw[ju r h2]
     rfl
    ·cases h
   ·exact pO r b h
   ·cases h
  |_=>cases h
theorem ej{G:AG}{x:Dat}{t:String}{cs:List Dat}{b:Bool}{Q:AQ}(h:jG G x=some t)(h2:GC t cs=some b)(q:Q (.bl b) G):Fj x (.tup cs) G Q:=⟨_,b,JQ h,pO cs b h2,q⟩
theorem wK{G:AG}{x:Dat}{xs:List Dat}(h:ai G x=some xs):jG G x=some "list" :=by
 cases x with
 |lst ds=>rfl
 |ref a =>
  cases e:G a with
  |none=>simp only[ai,e]at h;cases h
  |some o =>
   cases o with
   |lst ds=>simp only[jG,e]
   |_=>simp only[ai,e]at h;cases h
 |_=>cases h
theorem Fc{G:AG}{x:Dat}{xs:List Dat}{Q:List Dat→Gd→AG→Prop}(h:ai G x=some xs)(q:∀gd,bZ G gd→Q xs gd G):r8 x G Q:=by
 cases x with
 |lst ds=>cases h;exact q [] trivial
 |ref a =>
  cases e:G a with
  |none=>simp only[ai,e]at h;cases h
  |some o =>
   cases o with
   |lst ds =>
    simp only[ai,e]at h
    cases h
    exact⟨_,e,q _ ⟨e,trivial⟩⟩
   |_=>simp only[ai,e]at h;cases h
 |_=>cases h
theorem mU:∀(xs ys:List Dat) (i:Nat) (d:Dat),(eA xs ys)[i]?=some d→∃a b,d = .tup [a,b]∧xs[i]?=some a∧ys[i]?=some b
 |[],_,i,d,h=>by simp[eA]at h
 |_ :: _,[],i,d,h=>by simp[eA]at h
 |x :: xs,y :: ys,0,d,h=>by
  have e:some (Dat.tup [x,y])=some d:=h
  cases e
  exact⟨x,y,rfl,rfl,rfl⟩
 |x :: xs,y :: ys,i+1,d,h=>mU xs ys i d h
theorem fc(n:Nat):cK (Mh n (.bl true))=some (Mh n true):=by
 induction n with
 |zero=>rfl
 |succ n ih=>rw[List.replicate_succ,List.replicate_succ];simp only[cK,ih];rfl
theorem nV{Γ:Gam}{n:Nat}(hs:Γ.fn "_law_same" =some (bf n)){G:AG}{gd:Gd}{ρ:aj}{Q:AQ}{xs ys:List Dat}(hg:bZ G gd)(hl:xs.length≤sizeLine)(hlen:4≤ρ.length)
  (h:∀(i:Nat) (a b:Dat),xs[i]?=some a→ys[i]?=some b→jz G n a b)(q:∀m,Q (.lst (Mh m (.bl true))) G) :
  lcW true (fun ρ1 G Q=>wE Γ (.call "_law_same" [(.var 2),(.var 3)]) ρ1 G Q noX) (.tp [2,3]) [2,3] gd ρ Q (eA xs ys) [] G:=by
 have tot:(eA xs ys).length≤sizeLine:=by rw[gh];omega
 refine iT (fun rem acc G'=>G'=G∧(∃m,acc=Mh m (.bl true)∧m+rem.length=(eA xs ys).length)∧∀d∈rem,∃a b,d = .tup [a,b]∧jz G n a b) ?_ ?_ _ _ _ ⟨rfl,⟨0,rfl,by simp⟩,fun d hd=>?_⟩
 ·rintro d rem acc G' N hN ⟨rfl,⟨m,rfl,hm⟩,hr⟩
  obtain⟨a,b,rfl,hab⟩:=hr d (Mi ..)
  refine⟨hg,rfl,?_⟩
  have l2:(bj ρ [2,3]).length=ρ.length:=by simp[bj]
  have e2:(bB [2,3] [a,b] (bj ρ [2,3]))[2]?=some (some a):=by
   simp only[bB]
   rw[List.getElem?_set_ne (by decide),List.getElem?_set_self (by rw[l2];omega)]
  have e3:(bB [2,3] [a,b] (bj ρ [2,3]))[3]?=some (some b):=by
   simp only[bB]
   rw[List.getElem?_set_self (by rw[List.length_set,l2];omega)]
  simp only[wE,wEs,e2,e3,hs,bf,List.length,List.drop_nil,List.append_nil]
  refine⟨⟨by decide,by decide⟩,a,b,rfl,hab,?_⟩
  rw[Mb]at hm
  refine⟨by rw[Mr];omega,hN _ _ ⟨rfl,⟨m+1,by rw[List.replicate_succ'],by omega⟩,fun d hd=>hr d (Mj _ hd)⟩⟩
 ·rintro acc G' ⟨rfl,⟨m,rfl,_⟩,_⟩
  exact⟨hg,by rw[if_pos rfl];exact q m⟩
 ·obtain⟨i,hi⟩:=List.mem_iff_getElem?.mp hd
  obtain⟨a,b,rfl,h1,h2⟩:=mU xs ys i d hi
  exact⟨a,b,rfl,h i a b h1 h2⟩
theorem hY{b:Bool}{G:AG}{Q:AQ}(q:Q (.bl false) G):bY .ne (.bl b) (.bl b) G Q:=by
 refine .inr ⟨.bool b,.bool b,.bl b,.bl b,by cases b <;> decide,by cases b <;> decide,?_⟩
 have e:PyData.eqv (.bool b) (.bool b)=true:=by cases b <;> decide
 simp only[e,if_true,Bool.not_true]
 exact q
theorem Gg{b:Bool}{G:AG}{Q:AQ}(q:Q (.bl true) G):bY .eq (.bl b) (.bl b) G Q:=dC rfl q
theorem Kc{i:Int}{G:AG}{Q:AQ}(q:Q (.bl true) G):bY .eq (.int i) (.int i) G Q:=dC rfl q
theorem dJ(Γ:Gam)(n:Nat)(tg:JC Γ)(G:AG)(Q:AQ)(X:AX)(x:Dat)(h:(o6 x).isSome=true)(q:Q (.bl true) G):wSs Γ fg [some x,some x,none,none] G (ay Q X):=by
 have two:(2:Nat)≤sizeLine:=by decide
 have three:(3:Nat)≤sizeLine:=by decide
 have fin:∃G0,Sub G0 G∧Q (.bl true) G0:=⟨G,.refl _,q⟩
 simp only[fg,wSs,wS,wE,wEs,wT,M8,M9,tg.list,tg.tuple,tg.bool,tg.int,aX,List.length,ay]
 cases x with
 |non =>
  refine⟨by decide,ej (t := "NoneType") (b:=false) rfl (by decide+kernel) ?_⟩
  simp only[bn,M6,if_false]
  refine⟨by decide,ej (t := "NoneType") (b:=false) rfl (by decide+kernel) ?_⟩
  simp only[bn,M6,if_false]
  refine⟨by decide,ej (t := "NoneType") (b:=false) rfl (by decide+kernel) ?_⟩
  simp only[bn,Bool.not_false,if_true]
  exact dC rfl fin
 |bl b =>
  refine⟨by decide,ej (t := "bool") (b:=false) rfl (by decide+kernel) ?_⟩
  simp only[bn,M6,if_false]
  refine⟨by decide,ej (t := "bool") (b:=true) rfl (by decide+kernel) ?_⟩
  simp only[bn,if_true]
  refine dl (t := "bool") (b:=true) rfl (by decide+kernel) ?_
  simp only[bn,if_true]
  refine dl (t := "bool") (b:=true) rfl (by decide+kernel) (dl (t := "bool") (b:=true) rfl (by decide+kernel) (Gg ?_))
  simp only[bn,if_true]
  exact dC rfl fin
 |int i =>
  refine⟨by decide,ej (t := "int") (b:=false) rfl (by decide+kernel) ?_⟩
  simp only[bn,M6,if_false]
  refine⟨by decide,ej (t := "int") (b:=true) rfl (by decide+kernel) ?_⟩
  simp only[bn,if_true]
  refine dl (t := "int") (b:=true) rfl (by decide+kernel) ?_
  simp only[bn,if_true]
  refine dl (t := "int") (b:=false) rfl (by decide+kernel) (dl (t := "int") (b:=false) rfl (by decide+kernel) (Gg ?_))
  simp only[bn,if_true]
  exact dC rfl fin
 |str s =>
  refine⟨by decide,ej (t := "str") (b:=false) rfl (by decide+kernel) ?_⟩
  simp only[bn,M6,if_false]
  refine⟨by decide,ej (t := "str") (b:=false) rfl (by decide+kernel) ?_⟩
  simp only[bn,M6,if_false]
  refine⟨by decide,ej (t := "str") (b:=false) rfl (by decide+kernel) ?_⟩
  simp only[bn,Bool.not_false,if_true]
  exact dC h fin
 |_=>cases h
theorem jP(Γ:Gam)(n:Nat)(tg:JC Γ)(hs:Γ.fn "_law_same" =some (bf n))(N:List Str)(hN:N.length=4)(ds:List Dat)(G:AG)(Q:AQ)(X:AX)(h:qU (n+1) ds G Q X):wSs Γ fg (ah N ds) G (ay Q X):=by
 obtain⟨x,y,rfl,h,q⟩:=h
 have st:ah N [x,y]=[some x,some y,none,none]:=by unfold ah;rw[hN];rfl
 rw[st]
 have fin:∃G0,Sub G0 G∧Q (.bl true) G0:=⟨G,.refl _,q⟩
 rcases h with⟨rfl,h⟩|⟨xs,ys,rfl,rfl,h1,h2,h3⟩|⟨xs,ys,h0,h0',h1,h2,h3⟩
 ·exact dJ Γ n tg G Q X x h q
 ·have last:aX true .all [.lst (Mh xs.length (.bl true))] G (fun d G=>∃G0,Sub G0 G∧Q d G0):=⟨_,_,rfl,fc _,by simpa using fin⟩
  simp only[fg,wSs,wS,wE,wEs,wT,wI,M8,M9,tg.list,tg.tuple,tg.bool,tg.int,aX,List.length,ay]
  refine⟨by decide,ej (t := "tuple") (b:=true) rfl (by decide+kernel) ?_⟩
  simp only[bn,if_true]
  refine dl (t := "tuple") (b:=false) rfl (by decide+kernel) (dl (t := "tuple") (b:=false) rfl (by decide+kernel) (hY ?_))
  simp only[bM,M6,if_false]
  refine dl (t := "tuple") (b:=true) rfl (by decide+kernel) (dl (t := "tuple") (b:=true) rfl (by decide+kernel) (hY ?_))
  simp only[bM,M6,if_false]
  refine⟨xs,rfl,ys,rfl,?_⟩
  rw[h1]
  refine Kc ?_
  simp only[bn,if_true]
  simp only[CU]
  have:=nV (Q:=fun d G1=>∃ds bs,ai G1 d=some ds∧cK ds=some bs∧∃G0,Sub G0 G1∧Q (.bl (bs.all id)) G0) (ρ:=[some (.tup xs),some (.tup ys),none,none]) (gd:=[]) hs (G:=G) trivial h2 (M7 4) h3 fun m=>⟨_,_,rfl,fc _,by simpa using fin⟩
  simp only[wE,wEs]at this
  exact this
 ·simp only[fg,wSs,wS,wE,wEs,wT,wI,M8,M9,tg.list,tg.tuple,tg.bool,tg.int,aX,List.length,ay]
  have t1:=wK h0
  have t2:=wK h0'
  have s1:∀{z:Dat} {zs:List Dat},ai G z=some zs→aV G z=some zs:=fun {z zs} e=>by
   cases z <;> first|exact e|cases e
  refine⟨by decide,ej (b:=true) t2 (by decide+kernel) ?_⟩
  simp only[bn,if_true]
  refine dl (b:=true) t1 (by decide+kernel) (dl (b:=true) t2 (by decide+kernel) (hY ?_))
  simp only[bM,M6,if_false]
  refine dl (b:=false) t1 (by decide+kernel) (dl (b:=false) t2 (by decide+kernel) (hY ?_))
  simp only[bM,M6,if_false]
  refine⟨xs,s1 h0,ys,s1 h0',?_⟩
  rw[h1]
  refine Kc ?_
  simp only[bn,if_true]
  have zg:∀(Qz:List Dat→Gd→AG→Prop),(∀gd,bZ G gd→Qz (eA xs ys) gd G)→CU x y G Qz:=fun Qz hz=>by
   have:r8 x G fun xs gx G1=>r8 y G1 fun ys gy G2=>Qz (eA xs ys) (gx++gy) G2:=Fc h0 fun gd g1=>Fc h0' fun ge g2=>hz _ (gdOk_app.mpr ⟨g1,g2⟩)
   cases x with
   |tup _=>cases h0
   |_=>exact this
  refine zg _ fun gd hgd=>?_
  have:=nV (Q:=fun d G1=>∃ds bs,ai G1 d=some ds∧cK ds=some bs∧∃G0,Sub G0 G1∧Q (.bl (bs.all id)) G0) (ρ:=[some x,some y,none,none]) (gd:=gd) hs (G:=G) hgd h2 (M7 4) h3 fun m=>⟨_,_,rfl,fc _,by simpa using fin⟩
  simp only[wE,wEs]at this
  exact this
theorem tV(Γ:Gam)(tg:JC Γ)(N:List Str)(hN:N.length=4)(ds:List Dat)(G:AG)(Q:AQ)(X:AX)(h:qU 0 ds G Q X):wSs Γ fg (ah N ds) G (ay Q X):=by
 obtain⟨x,y,rfl,⟨rfl,h⟩,q⟩:=h
 have st:ah N [x,x]=[some x,some x,none,none]:=by unfold ah;rw[hN];rfl
 rw[st]
 exact dJ Γ 0 tg G Q X x h q
end Av
namespace Av
variable [Tb]
abbrev di(xs:List Int):List Dat:=xs.map Dat.int
def JE(x:Dat)(xs:List Int):Prop:=x = .tup (di xs)∨x = .lst (di xs)
end Av
namespace Av
variable [Tb]
def Ch:List (Str × Str):=[("ascii","ascii 646 us us_ascii ansi_x3.4_1968 cp367 iso_ir_6"),("iso8859-1","latin_1 latin1 latin l1 iso8859_1 iso_8859_1 8859 cp819"),("utf-8","utf_8 utf8 u8 utf cp65001"),("utf-8-sig","utf_8_sig"),("utf-16","utf_16 utf16 u16"),
 ("utf-16-le","utf_16_le utf_16le"),("utf-16-be","utf_16_be utf_16be"),("utf-32","utf_32 utf32 u32"),("utf-32-le","utf_32_le utf_32le"),("utf-32-be","utf_32_be utf_32be"),("utf-7","utf_7 utf7 u7"),("unicode-escape","unicode_escape"),
 ("raw-unicode-escape","raw_unicode_escape"),("cp1252","cp1252 1252 windows_1252"),("iso8859-15","iso8859_15 iso_8859_15 l9 latin9"),("koi8-r","koi8_r cskoi8r"),("punycode","punycode")]
def pD(nm:Str):List (Str × Str)→Option Str
 |[]=>none
 |q :: r=>if (Txt.split q.2 " ").contains nm=true then some q.1 else pD nm r
def iX(nm:Str):Option Str:=pD nm Ch
structure RQ where
 sl:Dat
 q:Addr
instance:Coe Addr RQ:=⟨fun q=>⟨.lst [],q⟩⟩
def CA(z:RQ)(h:Addr):List (Str × Dat):=[("searchers",z.sl),("found_codecs",.ref z.q),("own_handlers",.ref h)]
def Ki(r:Dat)(n k:Str):List (Str × Dat):=[("registry",r),("name",.str n),("kind",.str k),("table",.non),("back",.non)]
def RegAt(G:AG)(r q:Addr)(kv:List (Key × Dat)):Prop:=r≠q∧G q=some (.dk kv)∧∃h,G r=some (.ins "Registry" (CA q h))
def CodAt(G:AG)(c r:Addr)(k:Str):Prop:=G c=some (.ins "Codec" (Ki (.ref r) k k))
theorem nu{G G':AG}{r:Addr}{o:AO}(s:Sub (gx G r) G'):Sub (gx G r) (gu G' r o):=fun b u e=>by
 by_cases c:b=r
 ·subst c;rw[cb]at e;cases e
 ·rw[aC c];exact s b u e
theorem Lm{G:AG}{a b:Addr}{o u:AO}(h:G a=none)(h2:G b=some u):gu G a o b=some u:=by
 rw[aC (fun c=>by subst c;rw[h]at h2;cases h2)];exact h2
def mr(nm:Str):Bool:=(["cp1252","iso8859-15","koi8-r"]:List Str).contains nm
end Av
namespace Av
variable [Tb]
def a0(c:Int):Prop:=0≤c∧c≤1114111
structure Wr where
 kind:Str
 fnm:Str
 ok:List Int→Prop
 out:List Int→List Int
def Cm(W:Wr):Con:=fun ds G Q X=>∃cs a,ds=[.tup (di cs),a]∧W.ok cs∧Q (.tup (di (W.out cs))) G
def BP(W:Wr):FnE:={con:=Cm W,ar:=2,len:=fun ds G Q X ⟨_,_,h,_⟩=>by rw[h];rfl}
def kw:List (Key × Dat):=[(.inr "ascii",.gf "write_ascii"),(.inr "iso8859-1",.gf "write_latin"),(.inr "utf-8",.gf "write_utf8"),(.inr "utf-8-sig",.gf "write_signed"),(.inr "utf-7",.gf "write_utf7"),(.inr "unicode-escape",.gf "write_escape"),(.inr "raw-unicode-escape",.gf "write_raw_escape"),(.inr "punycode",.gf "write_punycode")]
structure L3(Γ:Gam)(W:Wr):Prop where
 fn:Γ.fn W.fnm=some (BP W)
 k1:decide (W.kind = "charmap")=false
 k2:au kw (.inr W.kind)=some (.gf W.fnm)
 k3:decide (W.kind = "utf-8-sig")=false
def Lv(c:Addr)(e:Dat):List (Str × Dat):=[("codec",.ref c),("errors",e)]
def EncAt(G:AG)(n c:Addr)(e:Dat):Prop:=G n=some (.ins "Encoder" (Lv c e))
theorem o7{elt:aj→AG→AQ→Prop}{g:TGt}{own:List Nat}{gd:Gd}{ρ:aj}{Q:AQ}{G:AG}{f:Dat→Dat}{ds:List Dat}(hg:bZ G gd)(hl:ds.length≤sizeLine)
  (h:∀d∈ds,∀Q':AQ,Q' (f d) G→tgW g d (bj ρ own) fun ρ1=>elt ρ1 G Q')(q:Q (.lst (ds.map f)) G):lcW true elt g own gd ρ Q ds [] G:=by
 refine iT (fun rem acc G'=>G'=G∧∃pre,ds=pre++rem∧acc=pre.map f) ?_ ?_ _ _ _ ⟨rfl,[],rfl,rfl⟩
 ·rintro d rem acc G' N hN ⟨rfl,pre,hd,rfl⟩
  refine⟨hg,h d (by rw[hd];simp) _ ⟨?_,hN _ _ ⟨rfl,pre++[d],by rw[hd];simp,by simp⟩⟩⟩
  rw[hd]at hl
  simp at hl ⊢
  omega
 ·rintro acc G' ⟨rfl,pre,hd,rfl⟩
  rw[List.append_nil]at hd
  rw[←hd]
  exact⟨hg,by rw[if_pos rfl];exact q⟩
def Cg(w:Str):List Int:=w.cps.toList.map fun (c:Nat)=>(c:Int)
theorem cS(a:Int)(n:Nat):(dW a n).length=n:=by simp[dW]
def ig:List S:=[.ret (.ix (.lst true [(.blt true .tuple [(.var 1)]),(.blt true .list [(.var 1)])]) (.call "_law_draw" [(.var 0),(.cst (.int 2))]))]
theorem mx{G:AG}{p a:Addr}{o u:AO}{n:Nat}(h:G p=some o)(d:DrO n o)(h2:G a=some u)(hu:∀ds,u≠.lst ds):a≠p:=fun c=>by
 subst c
 obtain⟨x,y,z,e,_⟩:=d
 rw[h]at h2
 cases h2
 exact hu _ e
theorem RegAt.dr{G:AG}{p r q:Addr}{o o':AO}{n:Nat}{kv:List (Key × Dat)}(R:RegAt G r q kv)(h:G p=some o)(d:DrO n o):RegAt (gu G p o') r q kv:=by
 obtain⟨h1,h2,hh,h3⟩:=R
 exact⟨h1,by rw[aC (mx h d h2 (by simp))];exact h2,hh,by rw[aC (mx h d h3 (by simp))];exact h3⟩
theorem CodAt.dr{G:AG}{p c r:Addr}{o o':AO}{n:Nat}{k:Str}(R:CodAt G c r k)(h:G p=some o)(d:DrO n o):CodAt (gu G p o') c r k:=by
 unfold CodAt at *
 rw[aC (mx h d R (by simp))];exact R
theorem EncAt.dr{G:AG}{p c r:Addr}{o o':AO}{n:Nat}{k:Dat}(R:EncAt G c r k)(h:G p=some o)(d:DrO n o):EncAt (gu G p o') c r k:=by
 unfold EncAt at *
 rw[aC (mx h d R (by simp))];exact R
theorem nW{G:AG}{n:Nat}:∀(xs:List Int) (i:Nat) (a b:Dat),(di xs)[i]?=some a→(di xs)[i]?=some b→jz G n a b:=fun xs i a b h1 h2=>by
 rw[h1]at h2
 cases h2
 unfold di at h1
 rw[Mg]at h1
 cases e:xs[i]? with
 |none=>rw[e]at h1;cases h1
 |some y =>
  rw[e]at h1
  cases h1
  cases n with
  |zero=>exact⟨rfl,rfl⟩
  |succ n=>exact .inl ⟨rfl,rfl⟩
theorem tm{G:AG}{n:Nat}{xs:List Int}(h:xs.length≤sizeLine):jz G (n+1) (.tup (di xs)) (.tup (di xs)) :=
 .inr (.inl ⟨_,_,rfl,rfl,rfl,by rw[M5];exact h,nW xs⟩)
end Av
namespace Av
variable [Tb]
theorem big:100000≤sizeLine:=by decide
def mm:Option AO→Option (List Dat)
 |some (.lst ds)=>some ds
 |_=>none
section
variable {z n:Bool} {i j k:Int} {x y:Dat} {a b:List Dat} {s t:Str} {G:AG} {Q:AQ} {p:Addr} {ρ:aj}
theorem zh:cL z .add (.int i) (.int j) G Q=Q (.int (i+j)) G:=rfl
theorem zi:cL z .sub (.int i) (.int j) G Q=Q (.int (i - j)) G:=rfl
theorem zj:cL z .mul (.int i) (.int j) G Q=(CMul i j∧Q (.int (i*j)) G):=rfl
theorem zk:cL z .fdiv (.int i) (.int j) G Q=(CDiv i j∧Q (.int (i / j)) G):=rfl
theorem zo:cL z .mod (.int i) (.int j) G Q=(0<j∧Q (.int (i % j)) G):=rfl
theorem zp:cL z .pow (.int i) (.int j) G Q=(CPow i j∧Q (.int (i^j.toNat)) G):=rfl
theorem zq:cL z .shl (.int i) (.int j) G Q=(CPow i j∧Q (.int (i*2^j.toNat)) G):=rfl
theorem zr:cL z .shr (.int i) (.int j) G Q=(0≤j∧Q (.int (i / 2^j.toNat)) G):=rfl
theorem zt:cL z .band (.int i) (.int j) G Q=Q (.int (Builtin.bitAnd i j)) G:=rfl
theorem zu:cL z .add (.str s) (.str t) G Q=(s.length+t.length≤sizeLine∧Q (.str (s++t)) G):=rfl
theorem zv:cL z .add (.tup a) (.tup b) G Q=(a.length+b.length≤sizeLine∧Q (.tup (a++b)) G):=rfl
theorem zw:cL z .add (.lst a) (.lst b) G Q=nw z (a++b) G Q:=by
 have:cL z .add (.lst a) (.lst b) G Q = ∃a' b',ai G (.lst a)=some a'∧ai G (.lst b)=some b'∧nw z (a'++b') G Q:=rfl
 rw[this]
 simp[ai]
theorem zx:cL z .mul (.lst a) (.int k) G Q=(-(2^63)≤k∧k<2^63∧nw z (Mh k.toNat a).flatten G Q):=by
 have:cL z .mul (.lst a) (.int k) G Q = ∃a',ai G (.lst a)=some a'∧-(2^63)≤k∧k<2^63∧nw z (Mh k.toNat a').flatten G Q:=rfl
 rw[this]
 simp[ai]
theorem zA:cL z .mul (.tup a) (.int k) G Q=(((-(2^63)≤k∧k<2^63)∧a.length*k.toNat≤100000)∧Q (.tup (Mh k.toNat a).flatten) G):=rfl
theorem zB:cL z .kadd (.tup a) (.tup b) G Q=(((a≠[]∧b≠[])∧a.length+b.length≤sizeLine)∧Q (.ktp (a++b)) G):=rfl
theorem zC:wO (.tup a) i G Q=((a≠[]∧0<i)∧Q (.ktp (jk a (some i) none)) G):=rfl
theorem zy:cL z .mul (.str s) (.int k) G Q=((-(2^63)≤k∧k≤1)∧Q (.str (if k<1 then Str.empty else s)) G):=rfl
theorem zD:nw true a G Q=(a.length≤sizeLine∧Q (.lst a) G):=rfl
theorem zE:nw false a G Q=(a.length≤sizeLine∧∀p,G p=none→Q (.ref p) (gu G p (.lst a))):=rfl
theorem zF:bY .lt (.int i) (.int j) G Q=Q (.bl (decide (i<j))) G:=rfl
theorem zG:bY .le (.int i) (.int j) G Q=Q (.bl (decide (i≤j))) G:=rfl
theorem zH:bY .gt (.int i) (.int j) G Q=Q (.bl (decide (j<i))) G:=rfl
theorem zI:bY .ge (.int i) (.int j) G Q=Q (.bl (decide (j≤i))) G:=rfl
theorem zJ:bY .isn x .non G Q=Q (.bl (dL x)) G:=rfl
theorem zK:bY .isnt x .non G Q=Q (.bl (!dL x)) G:=rfl
theorem zL:bY .mem x y G Q=uh false x y G Q:=by simp only[bY]
theorem zM:bY .nmem x y G Q=uh true x y G Q:=by simp only[bY]
theorem dQ{P:PyData}(h:jB G (.int i) P):P = .int i:=by cases h;rfl
theorem BV:PyData.eqv (.int i) (.int j)=decide (i=j):=by
 have h:PyData.eqv (.int i) (.int j)=(i == j):=by simp[PyData.eqv]
 rw[h]
 by_cases c:i=j
 ·simp[c]
 ·simp[c]
theorem qF:decide (toV (.int i)=toV (.int j))=decide (i=j):=by
 by_cases c:i=j
 ·rw[c];simp
 ·rw[decide_eq_false c,decide_eq_false_iff_not]
  exact fun h=>c (by cases h;rfl)
theorem Cb:decide (toV (.str s)=toV (.str t))=decide (s=t):=by
 by_cases c:s=t
 ·rw[c];simp
 ·rw[decide_eq_false c,decide_eq_false_iff_not]
  exact fun h=>c (by cases h;rfl)
theorem qu:eqW n (.int i) (.int j) G Q=Q (.bl (if n then !decide (i=j) else decide (i=j))) G:=by
 refine propext ⟨fun h=>?_,fun q=>.inl ⟨rfl,by rw[qF];exact q⟩⟩
 rcases h with⟨_,h⟩|⟨P,R,h1,h2,_,_,h⟩
 ·rw[qF]at h;exact h
 ·rw[dQ h1,dQ h2,BV]at h;exact h
theorem zN:bY .eq (.int i) (.int j) G Q=Q (.bl (decide (i=j))) G:=by
 show eqW false (.int i) (.int j) G Q=_
 rw[qu];rfl
theorem zO:bY .ne (.int i) (.int j) G Q=Q (.bl (!decide (i=j))) G:=by
 show eqW true (.int i) (.int j) G Q=_
 rw[qu];rfl
theorem BW:Q (.bl (if n then !decide (s=t) else decide (s=t))) G→eqW n (.str s) (.str t) G Q:=fun q=>.inl ⟨rfl,by rw[Cb];exact q⟩
theorem Ky(q:Q (.bl (!decide (s=t))) G):bY .ne (.str s) (.str t) G Q:=BW (n:=true) q
theorem BX:eqF (.int i) (.int j)=decide (i=j):=by
 unfold eqF
 by_cases c:i=j
 ·subst c;simp[toV,eqV,L2.eqV]
 ·simp[toV,eqV,L2.eqV,c]
theorem zP:uh n (.int i) (.tup a) G Q=(a.all aH=true∧Q (.bl (gL n (a.any fun d=>eqF d (.int i)))) G):=by
 unfold uh
 simp[aV,aH,gL]
theorem zQ{b:Bool}{q:Bool→AG→Prop}:bn (.bl b) G q=q b G:=rfl
theorem zR{q:Bool→AG→Prop}:bn (.int i) G q=q (i !=0) G:=rfl
theorem zS{q:Bool→AG→Prop}:bn .non G q=q false G:=rfl
theorem zU{q:Bool→AG→Prop}:bn (.tup a) G q=q (!a.isEmpty) G:=rfl
theorem zV{q:Bool→AG→Prop}:bn (.str s) G q=(s.length≤sizeLine∧q (s.length !=0) G):=rfl
theorem zW{q:Bool→AG→Prop}:bn (.lst a) G q=q (!a.isEmpty) G:=by
 have:bn (.lst a) G q = ∃ds,ai G (.lst a)=some ds∧q (!ds.isEmpty) G:=rfl
 rw[this];simp[ai]
theorem zX{q:Bool→AG→Prop}:bn (.ref p) G q = ∃ds,mm (G p)=some ds∧q (!ds.isEmpty) G:=by
 have:bn (.ref p) G q = ∃ds,ai G (.ref p)=some ds∧q (!ds.isEmpty) G:=rfl
 rw[this]
 have e:ai G (.ref p)=mm (G p):=by unfold ai mm;rfl
 rw[e]
theorem zY{b:Bool}{q:Bool→AG→Prop}:bM q (.bl b) G=q b G:=rfl
theorem zZ{q:Int→AG→Prop}:bK q (.int i) G=q i G:=rfl
theorem yc:aV G (.tup a)=some a:=rfl
theorem yd:aV G (.lst a)=some a:=rfl
theorem ye:aV G (.kls a)=some a:=rfl
theorem yf:aV G (.ref p)=mm (G p):=by unfold aV ai mm;rfl
theorem yT:aV G (.ktp a)=some a:=rfl
theorem yg:ai G (.lst a)=some a:=rfl
theorem yh:ai G (.ref p)=mm (G p):=by unfold ai mm;rfl
theorem yi:CB G (.tup a)=some a:=rfl
theorem yj:CB G (.lst a)=some a:=rfl
theorem yk:CB G (.ref p)=mm (G p):=by unfold CB ai mm;rfl
theorem ym:mm (some (.lst a))=some a:=rfl
theorem yn:ixW (.tup a) (.int i) G Q = ∃d,atI a i=some d∧Q d G:=by
 have:ixW (.tup a) (.int i) G Q = ∃ds d,aV G (.tup a)=some ds∧atI ds i=some d∧Q d G:=rfl
 rw[this];simp[aV]
theorem yo:ixW (.lst a) (.int i) G Q = ∃d,atI a i=some d∧Q d G:=by
 have:ixW (.lst a) (.int i) G Q = ∃ds d,aV G (.lst a)=some ds∧atI ds i=some d∧Q d G:=rfl
 rw[this];simp[aV,ai]
theorem yq:ixW (.ref p) (.int i) G Q = ∃ds d,mm (G p)=some ds∧atI ds i=some d∧Q d G:=by
 have:ixW (.ref p) (.int i) G Q = ∃ds d,aV G (.ref p)=some ds∧atI ds i=some d∧Q d G:=rfl
 rw[this,yf]
theorem yr{lo hi:Option Int}:slW z (.tup a) lo hi G Q=Q (.tup (jk a lo hi)) G:=rfl
theorem yt{lo hi:Option Int}:slW z (.lst a) lo hi G Q=nw z (jk a lo hi) G Q:=by
 have:slW z (.lst a) lo hi G Q = ∃ds,ai G (.lst a)=some ds∧nw z (jk ds lo hi) G Q:=rfl
 rw[this];simp[ai]
theorem yu{lo hi:Option Int}:slW z (.ref p) lo hi G Q = ∃ds,mm (G p)=some ds∧nw z (jk ds lo hi) G Q:=by
 have:slW z (.ref p) lo hi G Q = ∃ds,ai G (.ref p)=some ds∧nw z (jk ds lo hi) G Q:=rfl
 rw[this,yh]
theorem yv:aX z .len [x] G Q = ∃ds,aV G x=some ds∧Q (.int ds.length) G:=rfl
theorem yw:aX z .int [.int i] G Q=Q (.int i) G:=rfl
theorem yy{b:Bool}:aX z .int [.bl b] G Q=Q (.int (if b then 1 else 0)) G:=rfl
theorem yz:aX z .tuple [x] G Q = ∃ds,aV G x=some ds∧Q (.tup ds) G:=rfl
theorem yA:aX z .list [x] G Q = ∃ds,aV G x=some ds∧nw z ds G Q:=rfl
theorem yB:aX z .isinst [x,y] G Q=Fj x y G Q:=rfl
theorem yC:aX z .all [x] G Q = ∃ds bs,ai G x=some ds∧cK ds=some bs∧Q (.bl (bs.all id)) G:=rfl
theorem yD:aX z .any [x] G Q = ∃ds bs,ai G x=some ds∧cK ds=some bs∧Q (.bl (bs.any id)) G:=rfl
theorem yE:aX z .min2 [.int i,.int j] G Q=Q (.int (if j<i then j else i)) G:=rfl
theorem yF:aX z .max2 [.int i,.int j] G Q=Q (.int (if j > i then j else i)) G:=rfl
theorem yG:bw .append (.ref p) [y] G Q = ∃ds,G p=some (.lst ds)∧ds.length<sizeLine∧Q .non (gu G p (.lst (ds++[y]))):=rfl
theorem yH:bw .extend (.ref p) [y] G Q = ∃ds es,G p=some (.lst ds)∧CB G y=some es∧ds.length+es.length≤sizeLine∧Q .non (gu G p (.lst (ds++es))):=rfl
theorem yI:bw .clear (.ref p) [] G Q = ∃ds,G p=some (.lst ds)∧Q .non (gu G p (.lst [])):=rfl
theorem yJ:bw .reverse (.ref p) [] G Q = ∃ds,G p=some (.lst ds)∧Q .non (gu G p (.lst ds.reverse)):=rfl
theorem yP{i:Int}:aX z .str [.int i] G Q=(i.natAbs.log2<1920∧Q (.str (toString i)) G):=rfl
theorem yU:bY .memd x y G Q=CF false x y G Q:=by simp only[bY]
theorem yV:bY .nmemd x y G Q=CF true x y G Q:=by simp only[bY]
theorem yW{a:Str}{lo hi:Option Int}:slW z (.str a) lo hi G Q=(a.length≤sizeLine∧Q (.str (Txt.slice a lo hi)) G):=rfl
theorem yQ:aX z .ktuple [x] G Q = ∃ds,ai G x=some ds∧Q (.ktp ds) G:=rfl
theorem yR{ds:List Dat}:IM (.ktp ds) G Q=Q (.tup ds) G:=rfl
theorem yS{ds:List Dat}{y:Dat}:su (.ktp ds) y G Q = ∃j d,aH y=true∧ds.all aH=true∧ds[j]?=some d∧eqF d y=true∧(∀m d',m<j→ds[m]?=some d'→eqF d' y=false)∧Q (.int (j:Nat)) G:=by
 unfold su
 refine propext ⟨fun ⟨ds',j,d,e,h⟩=>?_,fun ⟨j,d,h⟩=>⟨ds,j,d,rfl,h⟩⟩
 cases e
 exact⟨j,d,h⟩
theorem yK:aX z .srt [x] G Q = ∃ds,ai G x=some ds∧JU z ds G Q:=rfl
theorem yL:aX z .max1 [x] G Q = ∃ds ns,ai G x=some ds∧cH ds=some ns∧0<ns.length∧∀m,m∈ns→(∀y∈ns,y≤m)→Q (.int m) G:=rfl
theorem yM:aX z .min1 [x] G Q = ∃ds ns,ai G x=some ds∧cH ds=some ns∧0<ns.length∧∀m,m∈ns→(∀y∈ns,m≤y)→Q (.int m) G:=rfl
theorem yO{x:Str}:aX z .slen [.str x] G Q=(x.length≤sizeLine∧Q (.int (x.length:Nat)) G):=rfl
theorem yN{x:Str}:aX z .int [.str x] G Q = ∃n,intText? x=some n∧x.length≤640∧Q (.int n) G:=rfl
theorem yX:bw .insert (.ref p) [.int i,y] G Q = ∃ds,G p=some (.lst ds)∧ds.length<sizeLine∧0≤i∧i<2^63∧Q .non (gu G p (.lst (ds.take i.toNat++[y]++ds.drop i.toNat))):=rfl
theorem yY:bw .count x [y] G Q = ∃ds,ai G x=some ds∧aH y=true∧ds.all aH=true∧Q (.int (ds.countP fun d=>eqF d y:Nat)) G:=by cases x <;> rfl
theorem yZ:bw .index x [y] G Q = ∃ds j d,ai G x=some ds∧aH y=true∧ds.all aH=true∧ds[j]?=some d∧eqF d y=true∧(∀m d',m<j→ds[m]?=some d'→eqF d' y=false)∧Q (.int (j:Nat)) G:=by cases x <;> rfl
theorem xa{q:aj→Prop}{i:Nat}{is:List Nat}:tgW (.tq i is) (.tup [x,.tup a]) ρ q=(a.length=is.length∧q (bB is a (ρ.set i (some x)))):=rfl
theorem xg{q:aj→Prop}{i:Nat}:tgW (.nm i) x ρ q=q (ρ.set i (some x)):=rfl
theorem xh{q:aj→Prop}{is:List Nat}:tgW (.tp is) (.tup a) ρ q=(a.length=is.length∧q (bB is a ρ)):=rfl
theorem xi:CN .add (.int i) (.int j) G Q=Q (.int (i+j)) G:=rfl
theorem xj:CN .sub (.int i) (.int j) G Q=Q (.int (i - j)) G:=rfl
theorem xk:atI a 0=a[0]?:=by rw[fh (by decide)];rfl
theorem xl:atI a 1=a[1]?:=by rw[fh (by decide)];rfl
theorem xn:atI a 2=a[2]?:=by rw[fh (by decide)];rfl
theorem xo:atI a 3=a[3]?:=by rw[fh (by decide)];rfl
theorem xp{q:List Dat→Gd→AG→Prop}:vT (.tup a) G q=q a [] G:=rfl
theorem xq{q:List Dat→Gd→AG→Prop}:vT (.lst a) G q=q a [] G:=rfl
theorem ze{Γ:Gam}{A:bU}:wSs Γ [] ρ G A=A.nx ρ G:=by rw[wSs]
theorem bN{α:Type}{a b:α}:(some a=some b)=(a=b):=Option.some.injEq a b
theorem Bw{a b:List Dat}:(AO.lst a=AO.lst b)=(a=b):=AO.lst.injEq a b
end
theorem Hh{Γ:Gam}{s:S}{ss:List S}{ρ:aj}{G:AG}{A:bU}(E:aj→AG→Prop)(tail:∀ρ G,E ρ G→wSs Γ ss ρ G A)(body:∀Nx:aj→AG→Prop,(∀ρ G,E ρ G→Nx ρ G)→wS Γ s ρ G {A with nx:=Nx}):wSs Γ (s :: ss) ρ G A:=by
 rw[wSs];exact body _ tail
theorem GQ{Γ:Gam}{c:T}{b:List S}{ρ:aj}{G:AG}{A:bU}(I:Nat→aj→AG→Prop)(init:∃m,I m ρ G)
  (step:∀m ρ G (N:aj→AG→Prop),(∀m' ρ' G',m'<m→I m' ρ' G'→N ρ' G')→I m ρ G→wT Γ c ρ G (fun k G1=>if k=true then wSs Γ b ρ G1 {A with nx:=N,ct:=N,bk:=A.nx} else A.nx ρ G1) (A.ex ρ)):wS Γ (.while_ c b) ρ G A:=by
 rw[wS];exact⟨I,init,fun m ρ G h=>step m ρ G _ (fun m' ρ' G' hm hI=>⟨m',hm,hI⟩) h⟩
end Av
namespace Av
variable [Tb]
theorem uB{elt:aj→AG→AQ→Prop}{g:TGt}{own:List Nat}{ρ:aj}{Q:AQ}{G:AG}{p:Addr}{n w:Nat}{o:AO}{P:Dat→Prop}{ds:List Dat}(ho:DrO (n+w*ds.length) o)(hl:ds.length≤sizeLine)
  (h:∀d∈ds,∀(m:Nat) (o':AO) (Q':AQ),DrO (m+w) o'→(∀y o'',P y→DrO m o''→Q' y (gu G p o''))→tgW g d (bj ρ own) fun ρ1=>elt ρ1 (gu G p o') Q')
  (q:∀ys o',(∀y∈ys,P y)→ys.length=ds.length→DrO n o'→Q (.lst ys) (gu G p o')):lcW true elt g own [] ρ Q ds [] (gu G p o):=by
 refine iT (fun rem acc G'=>∃o' pre,ds=pre++rem∧(∀y∈acc,P y)∧G'=gu G p o'∧DrO (n+w*rem.length) o'∧acc.length=pre.length) ?_ ?_ _ _ _ ⟨o,[],rfl,by simp,rfl,ho,rfl⟩
 ·rintro d rem acc G' N hN ⟨o',pre,rfl,k1,rfl,k2,k3⟩
  refine⟨trivial,?_⟩
  refine h d (by simp) (n+w*rem.length) o' _ (k2.mono (by rw[Mb,Nat.mul_succ];omega)) fun y o'' hy ho''=>⟨?_,hN _ _ ⟨o'',pre++[d],by simp,?_,rfl,ho'',by simp[k3]⟩⟩
  ·simp at hl;omega
  ·intro x hx
   rcases List.mem_append.1 hx with h|h
   ·exact k1 x h
   ·rw[Ms.1 h];exact hy
 ·rintro acc G' ⟨o',pre,rfl,k1,rfl,k2,k3⟩
  refine⟨trivial,?_⟩
  simp only[if_true]
  exact q acc o' k1 (by simp[k3]) (k2.mono (by simp))
theorem rt_{Q:AQ}{X:AX}{d:Dat}{G:AG}(h:Q d G):(ay Q X).rt d G:=⟨G,.refl G,h⟩
end Av
namespace Av
variable [Tb]
def RegW(G:AG)(r q:Addr)(m:Nat):Prop:=∃kv,RegAt G r q kv∧kv.length≤m∧∀nn d,au kv (.inr nn)=some d→∃c nm,d = .ref c∧iX nn=some nm∧mr nm=false∧CodAt G c r nm
theorem RegW.new{G:AG}{r q:Addr}(h:RegAt G r q []):RegW G r q 0:=⟨[],h,M7 _,fun _ _ h=>by cases h⟩
theorem RegW.mono{G:AG}{r q:Addr}{m n:Nat}(h:RegW G r q m)(l:m≤n):RegW G r q n:=by
 obtain⟨kv,h1,h2,h3⟩:=h
 exact⟨kv,h1,Nat.le_trans h2 l,h3⟩
theorem RegW.keep{G G':AG}{r q p:Addr}{m:Nat}{l:List Dat}(h:RegW G r q m)(hp:G p=some (.lst l))(s:Sub (gx G p) G'):RegW G' r q m:=by
 obtain⟨kv,⟨h0,h1,hh,h2⟩,h3,h4⟩:=h
 have k:∀a o,G a=some o→(∀l,o≠.lst l)→G' a=some o:=fun a o e n=>s a o (by rw[dA fun c=>by subst c;rw[hp]at e;cases e;exact n _ rfl];exact e)
 refine⟨kv,⟨h0,k _ _ h1 (by simp),hh,k _ _ h2 (by simp)⟩,h3,fun nn d e=>?_⟩
 obtain⟨c,nm,k1,k2,k3,k4⟩:=h4 nn d e
 exact⟨c,nm,k1,k2,k3,k _ _ k4 (by simp)⟩
theorem RegW.sub{G G':AG}{r q:Addr}{m:Nat}(h:RegW G r q m)(s:Sub G G'):RegW G' r q m:=by
 obtain⟨kv,⟨h0,h1,hh,h2⟩,h3,h4⟩:=h
 refine⟨kv,⟨h0,s _ _ h1,hh,s _ _ h2⟩,h3,fun nn d e=>?_⟩
 obtain⟨c,nm,k1,k2,k3,k4⟩:=h4 nn d e
 exact⟨c,nm,k1,k2,k3,s _ _ k4⟩
theorem RegW.dr{G:AG}{p r q:Addr}{o o':AO}{n m:Nat}(R:RegW G r q m)(h:G p=some o)(d:DrO n o):RegW (gu G p o') r q m:=by
 obtain⟨a,b,c,e,_⟩:=d
 subst e
 exact R.keep h (nu Sub.gx)
theorem RegW.q{G:AG}{r q:Addr}{m:Nat}(R:RegW G r q m):∃kv,G q=some (.dk kv):=by
 obtain⟨kv,⟨_,h,_⟩,_⟩:=R;exact⟨kv,h⟩
theorem RegW.other{G G':AG}{r q a:Addr}{m:Nat}{u:AO}(R:RegW G r q m)(h:G a=some u)(hu:∀kv,u≠.dk kv)(s:Sub (gx G q) G'):G' a=some u:=by
 obtain⟨kv,hq⟩:=R.q
 exact s a u (by rw[dA fun c=>by subst c;rw[h]at hq;cases hq;exact hu _ rfl];exact h)
end Av
namespace Av
variable [Tb]
theorem iV{z:Bool}{tst:aj→AG→(Bool→AG→Prop)→Prop}{elt:aj→AG→AQ→Prop}{g:TGt}{own:List Nat}{gd:Gd}{ρ:aj}{Q:AQ}{G:AG}{f:Dat→Dat}{t:Dat→Bool}{ds:List Dat}(hg:bZ G gd)(hl:ds.length≤sizeLine)
  (h:∀d∈ds,∀(Q1:AQ) (Q0:AG→Prop),(t d=true→Q1 (f d) G)→(t d=false→Q0 G)→tgW g d (bj ρ own) fun ρ1=>tst ρ1 G fun b G1=>if b=true then elt ρ1 G1 Q1 else Q0 G1)
  (q:if z=true then Q (.lst ((ds.filter t).map f)) G else ∀p,G p=none→Q (.ref p) (gu G p (.lst ((ds.filter t).map f)))):fA z tst elt g own gd ρ Q ds [] G:=by
 have key:∀(rem pre:List Dat),ds=pre++rem→fA z tst elt g own gd ρ Q rem ((pre.filter t).map f) G:=by
  intro rem
  induction rem with
  |nil =>
   intro pre e
   rw[List.append_nil]at e
   subst e
   exact⟨hg,q⟩
  |cons d rem ih =>
   intro pre e
   have e2:ds=(pre++[d])++rem:=by rw[e];simp
   have n:=ih (pre++[d]) e2
   rw[List.filter_append]at n
   refine⟨hg,h d (by rw[e];simp) _ _ (fun ht=>⟨?_,?_⟩) fun ht=>?_⟩
   ·rw[M5]
    have:=List.length_filter_le t pre
    rw[e]at hl
    simp at hl
    omega
   ·have e3:[d].filter t=[d]:=by simp[ht]
    rw[e3,List.map_append]at n
    exact n
   ·have e3:[d].filter t=[]:=by simp[ht]
    rw[e3,List.append_nil]at n
    exact n
 exact key ds [] rfl
omit [Tb] in
theorem FH{ds:List Dat}{a:Int}(h:0≤a):jk ds none (some a)=ds.take a.toNat:=by
 have e:a=((a.toNat:Nat):Int):=by omega
 unfold jk
 rw[e,HT.sIx_nat,HT.sIx_none]
 simp only[List.drop_zero,Nat.sub_zero,Int.toNat_natCast]
 by_cases c:a.toNat≤ds.length
 ·rw[Nat.min_eq_left c]
 ·rw[Nat.min_eq_right (by omega),List.take_length,List.take_of_length_le (by omega)]
def xz:Con:=fun ds G Q X=>∃sc ns,ds=[sc]∧mu sc=some (List.map Dat.int ns)∧∀G',Q (.bl true) G'
def f_lawF:FnE:={con:=xz,ar:=1,len:=fun ds G Q X ⟨_,_,h,_⟩=>by rw[h];rfl}
theorem wZ{body:aj→AG→bU→Prop}{i:Nat}{A:bU}{m:Nat}(I:Nat→aj→AG→Prop)
  (step:∀j ρ G (N:aj→AG→Prop),j<m→(∀ρ G,I (j+1) ρ G→N ρ G)→I j ρ G→body (ρ.set i (some (.int (j:Nat)))) G {A with nx:=N,ct:=N,bk:=A.nx})
  (done:∀ρ G,I m ρ G→A.nx ρ G):∀ρ G,I 0 ρ G→p8 body (.nm i) [] A (dW 0 m) ρ G:=by
 have key:∀(k j:Nat),j+k=m→∀ρ G,I j ρ G→p8 body (.nm i) [] A ((dW 0 m).drop j) ρ G:=by
  intro k
  induction k with
  |zero =>
   intro j hj ρ G h
   rw[List.drop_eq_nil_of_le (by rw[cS];omega)]
   have:j=m:=by omega
   subst this
   exact⟨trivial,done ρ G h⟩
  |succ k ih =>
   intro j hj ρ G h
   have hl:j<(dW 0 m).length:=by rw[cS];omega
   have e:(dW 0 m)[j] = .int (j:Nat):=by simp[dW]
   rw[List.drop_eq_getElem_cons hl,e]
   exact⟨trivial,step j ρ G _ (by omega) (fun ρ G h=>ih (j+1) (by omega) ρ G h) h⟩
 intro ρ G h
 have:=key m 0 (by omega) ρ G h
 simpa using this
end Av
namespace Av
variable [Tb]
def sgn(d:Int):Int:=if d<10 then 48+d else 87+d
def Kh(n:Int):Nat→List Int
 |0=>[]
 |k+1=>sgn (n % 16) :: Kh (n / 16) k
def BK(n:Int)(k:Nat):List Int:=(Kh n k).reverse
end Av
namespace Av
variable [Tb]
def dD:List Str:=["codec","source","start","end","reason"]
abbrev GG(C c:Str)(P:List Int)(s e:Nat)(w:Str):Dat:=.exc C dD [.str c,.tup (di P),.int (s:Nat),.int (e:Nat),.str w]
structure ExT:Prop where
 oE:Tb.exo "EncodeError" =true
 oD:Tb.exo "DecodeError" =true
 ee:Tb.sub (.inr "EncodeError") (.inr "EncodeError")=some true
 ed:Tb.sub (.inr "EncodeError") (.inr "DecodeError")=some false
 de:Tb.sub (.inr "DecodeError") (.inr "EncodeError")=some false
 dd:Tb.sub (.inr "DecodeError") (.inr "DecodeError")=some true
structure XG(Γ:Gam):Prop where
 t:ExT
 gE:Γ.gl "EncodeError" =some (.gf "EncodeError")
 gD:Γ.gl "DecodeError" =some (.gf "DecodeError")
 xE:Γ.xc "EncodeError" =some dD
 xD:Γ.xc "DecodeError" =some dD
section
variable {Γ:Gam} {C c w:Str} {P:List Int} {s e:Nat} {G:AG} {Q:AQ}
end
def qW:Con:=fun ds G Q X=>∃C c P s e w,ds=[GG C c P s e w]∧(C = "EncodeError"∨C = "DecodeError")∧s≤e∧e≤P.length∧Q (.tup (di ((P.drop s).take (e - s)))) G
def f_range:FnE:={con:=qW,ar:=1,len:=fun ds G Q X ⟨_,_,_,_,_,_,h,_⟩=>by rw[h];rfl}
def Cp:Con:=fun ds G Q X=>∃i,ds=[.int i]∧Q (.bl true) G
def j5:FnE:={con:=Cp,ar:=1,len:=fun ds G Q X ⟨_,h,_⟩=>by rw[h];rfl}
def cq:List S:=[
 .ret (.andV (.blt true .isinst [(.var 0),(.glo "int")]) (.one (.notV (.blt true .isinst [(.var 0),(.glo "bool")]))))]
def ie:List S:=[
 .ret (.blt true .isinst [(.var 0),(.tup [(.glo "tuple"),(.glo "list")])])]
def Gc:Con:=fun ds G Q X=>∃cs,ds=[.tup (di cs)]∧(∀c∈cs,a0 c)∧cs.length≤100000∧Q (.bl true) G
def FA:FnE:={con:=Gc,ar:=1,len:=fun ds G Q X ⟨_,h,_⟩=>by rw[h];rfl}
def cM:List S:=[
 .ret (.andV (.call "is_row" [(.var 0)]) (.one (.blt true .all [(.lc true (.andV (.call "is_integer" [(.var 1)]) (.one (.cmp2 .le .le (.cst (.int 0)) (.var 1) (.glo "GREATEST")))) (.nm 1) (.seq (.var 0)) [1])])))]
def Jx:Con:=fun ds G Q X=>∃c P s e w hw p,ds=[GG "DecodeError" c P s e w,.tup [.str "text",.tup (di hw),.int (p:Nat)]]∧(∀c∈hw,a0 c)∧hw.length≤100000∧p≤P.length∧Q (.tup [.str "text",.tup (di hw),.int (p:Nat)]) G
def Ja:FnE:={con:=Jx,ar:=2,len:=fun ds G Q X ⟨_,_,_,_,_,_,_,h,_⟩=>by rw[h];rfl}
structure CkG(Γ:Gam):Prop where
 x:XG Γ
 tup:Γ.gl "tuple" =some (.ty "tuple")
 ac:Γ.fn "are_codes" =some FA
 ii:Γ.fn "is_integer" =some j5
def pC:List (Key × Dat):=[(.inr "strict",.gf "answer_strict"),(.inr "ignore",.gf "answer_ignore"),(.inr "replace",.gf "answer_replace"),(.inr "xmlcharrefreplace",.gf "answer_xmlcharrefreplace"),(.inr "backslashreplace",.gf "answer_backslashreplace"),(.inr "surrogateescape",.gf "answer_surrogateescape"),(.inr "surrogatepass",.gf "answer_surrogatepass")]
abbrev Kk(r e d:Dat):List (Str × Dat):=[("registry",r),("errors",e),("handler",d)]
end Av
namespace Av
variable [Tb]
structure Rr where
 kind:Str
 fnm:Str
 spec:List Int→Bool→(Dat→Prop)→Prop
def vo(K:Rr):Con:=fun ds G Q X=>∃P a final R,ds=[.tup (di P),a,.bl final]∧K.spec P final R∧∀d,R d→Q d G
def uN(K:Rr):FnE:={con:=vo K,ar:=3,len:=fun ds G Q X ⟨_,_,_,_,h,_⟩=>by rw[h];rfl}
def kN:List (Key × Dat):=[(.inr "ascii",.gf "read_ascii"),(.inr "iso8859-1",.gf "read_latin"),(.inr "utf-8",.gf "read_utf8"),(.inr "utf-8-sig",.gf "read_signed"),(.inr "utf-7",.gf "read_utf7"),(.inr "unicode-escape",.gf "read_escape"),(.inr "raw-unicode-escape",.gf "read_raw_escape"),(.inr "punycode",.gf "read_punycode")]
def unbD:List Dat:=[.str "ascii",.str "iso8859-1",.str "cp1252",.str "iso8859-15",.str "koi8-r",.str "charmap",.str "punycode"]
structure L6(Γ:Gam)(K:Rr):Prop where
 fn:Γ.fn K.fnm=some (uN K)
 k1:decide (K.kind = "charmap")=false
 k2:au kN (.inr K.kind)=some (.gf K.fnm)
def LF(c:Addr)(e:Dat)(buf:List Int)(fl:Int):List (Str × Dat):=[("codec",.ref c),("errors",e),("buffer",.tup (di buf)),("flag",.int fl)]
def rh:Con:=fun ds G Q X=>∃n c e,ds=[.ref n,.ref c,e]∧G n=some (.ins "BufferedDecoder" [])∧Q .non (gu G n (.ins "BufferedDecoder" (LF c e [] 0)))
def qj:FnE:={con:=rh,ar:=3,len:=fun ds G Q X ⟨_,_,_,h,_⟩=>by rw[h];rfl}
structure L9(Γ:Gam)(OK:Rr→Prop):Prop where
 unb:Γ.gl "UNBUFFERED" =some (.tup unbD)
 marks:∃tb,Γ.dc "MARKS_incremental" =some tb∧∀K,OK K→au tb (.inr K.kind)=none∧decide (K.kind = "utf-8-sig")=false∧(unbD.any fun d=>eqF d (.str K.kind))=false
 init:Γ.mke "BufferedDecoder" =some qj
end Av
namespace Av
variable [Tb]
def vS:List (Key × Dat):=[(.inr "utf-8",.int 3),(.inr "utf-16",.int 2),(.inr "utf-16-le",.int 2),(.inr "utf-16-be",.int 2),(.inr "utf-32",.int 4),(.inr "utf-32-le",.int 4),(.inr "utf-32-be",.int 4)]
def Fl(c:Int):Bool:=decide (55296≤c) && decide (c<57344)
def Dy(cdc:Str):Option Nat:=if cdc = "utf-8" then some 3 else if cdc = "utf-16"∨cdc = "utf-16-le"∨cdc = "utf-16-be" then some 2 else if cdc = "utf-32"∨cdc = "utf-32-le"∨cdc = "utf-32-be" then some 4 else none
def Jz(cdc:Str):Bool:=decide (Txt.slice cdc (some (-2)) none=("be" : Str))
def JS(z:Nat)(big:Bool)(c:Int):List Int :=
 if z=3 then [224+c / 4096,128+c / 64 % 64,128+c % 64] else if big=true then ([c % 256,c / 256]++Mh (z - 2) 0).reverse else [c % 256,c / 256]++Mh (z - 2) 0
def Hc(z:Nat)(big:Bool)(row:List Int):Int :=
 if z=3 then (row.getD 0 0 - 224)*4096+(row.getD 1 0 - 128)*64+row.getD 2 0 - 128 else (if big=true then row.reverse else row).getD 0 0+(if big=true then row.reverse else row).getD 1 0*256
def C6(src:List Int)(s z:Nat)(big:Bool):Option Int :=
 if ((src.drop s).take z).length<z then none else if Fl (Hc z big ((src.drop s).take z))=true∧JS z big (Hc z big ((src.drop s).take z))=(src.drop s).take z then some (Hc z big ((src.drop s).take z)) else none
end Av
namespace Av
variable [Tb]
structure Er where
 cdc:Str
 src:List Int
 s:Nat
 e:Nat
 why:Str
abbrev Er.dat(x:Er):Dat:=GG "DecodeError" x.cdc x.src x.s x.e x.why
def Er.fs(x:Er):List (Str × Dat):=[("reason",.str x.why),("end",.int (x.e:Nat)),("start",.int (x.s:Nat)),("source",.tup (di x.src)),("codec",.str x.cdc)]
structure Er.Ok(x:Er):Prop where
 se:x.s<x.e
 le:x.e≤x.src.length
 by_:∀b∈x.src,0≤b∧b≤255
 len:x.src.length≤20000
inductive An where
 |ok(cs:List Int)(q:Nat)
 |raise(C:Str)(fs:List (Str × Dat))
def Er.rng(x:Er):List Int:=(x.src.drop x.s).take (x.e - x.s)
def Lu(b:Int):List Int:=[92,120]++BK b 2
def jW:List Int→Nat
 |[]=>0
 |b :: r=>if 127<b then jW r+1 else 0
def spE(x:Er):An:=match Dy x.cdc with
 |none=>.raise "DecodeError" x.fs
 |some z=>match C6 x.src x.s z (Jz x.cdc)with
  |none=>.raise "DecodeError" x.fs
  |some c=>.ok [c] (x.s+z)
def Li(nm:Str)(x:Er):An :=
 if nm = "ignore" then .ok [] x.e
 else if nm = "replace" then .ok [65533] x.e
 else if nm = "backslashreplace" then .ok (x.rng.flatMap Lu) x.e
 else if nm = "surrogateescape" then (if jW (x.rng.take 4)=0 then .raise "DecodeError" x.fs else .ok ((x.rng.take (jW (x.rng.take 4))).map (· +56320)) (x.s+jW (x.rng.take 4)))
 else if nm = "xmlcharrefreplace" then .raise "BadAnswer" []
 else if nm = "strict" then .raise "DecodeError" x.fs
 else if nm = "surrogatepass" then spE x
 else .raise "NoHandler" [("name",.str nm)]
def anW(a:An)(G:AG)(Q:AQ)(X:AX):Prop:=match a with
 |.ok cs q=>Q (.tup [.str "text",.tup (di cs),.int (q:Nat)]) G
 |.raise C fs=>X C fs G
def Cr:Con:=fun ds G Q X=>∃x:Er,ds=[x.dat]∧X "DecodeError" x.fs G
def BS:FnE:={con:=Cr,ar:=1,len:=fun ds G Q X ⟨_,h,_⟩=>by rw[h];rfl}
def Jv(nm:Str):Con:=fun ds G Q X=>∃x:Er,ds=[x.dat]∧x.Ok∧anW (Li nm x) G Q X
def gX(nm:Str):FnE:={con:=Jv nm,ar:=1,len:=fun ds G Q X ⟨_,h,_⟩=>by rw[h];rfl}
structure HG(Γ:Gam):Prop where
 x:XG Γ
 rng:Γ.fn "range_of" =some f_range
 again:Γ.fn "raise_again" =some BS
end Av
namespace Av
open PySem
def CL:Nat→Nat→List Int
 |0,_=>[]
 |f+1,n=>(48+(n % 10:Nat):Int) :: (if n / 10=0 then [] else CL f (n / 10))
def FF(n:Nat):List Int:=(CL (n+1) n).reverse
def GA(s:Str):List Int:=s.cps.toList.map fun (c:Nat)=>(c:Int)
theorem gZ:∀k:Fin 10,((Nat.digitChar k.val).toNat:Int)=48+(k.val:Int):=by decide
theorem qO:∀(f n:Nat) (l:List Char),(Nat.toDigitsCore 10 f n l).map (fun c=>(c.toNat:Int))=(CL f n).reverse++l.map (fun c=>(c.toNat:Int))
 |0,n,l=>rfl
 |f+1,n,l=>by
  unfold Nat.toDigitsCore CL
  have h:=gZ ⟨n % 10,Nat.mod_lt _ (by decide)⟩
  simp only at h
  by_cases c:n / 10=0
  ·simp[c,h]
  ·simp only[c,if_false]
   rw[qO f (n / 10) _]
   simp[h]
theorem AP(n:Nat):GA (Str.ofString (toString (n:Int)))=FF n:=by
 have e:toString (n:Int)=Nat.repr n:=rfl
 rw[e,Str.ofString_eq_toList]
 unfold GA FF
 show (((Nat.repr n).toList.map Char.toNat).toArray.toList).map _=_
 rw[List.toList_toArray,List.map_map]
 have e2:(Nat.repr n).toList=Nat.toDigits 10 n:=by
  unfold Nat.repr
  simp
 rw[e2]
 unfold Nat.toDigits
 have:=qO (n+1) n []
 rw[List.map_nil,List.append_nil]at this
 rw[←this]
 rfl
theorem lI:∀(f n k:Nat),n<10^k→0<k→(CL f n).length≤k
 |0,_,_,_,_=>Nat.zero_le _
 |f+1,n,k+1,h,_=>by
  unfold CL
  by_cases c:n / 10=0
  ·simp[c]
  ·have k0:0<k:=by
    cases k with
    |zero=>simp at h;omega
    |succ k=>omega
   have:=lI f (n / 10) k (by rw[Nat.pow_succ]at h;omega) k0
   simp only[c,if_false,Mb]
   omega
theorem vc{n:Nat}(h:n<10^7):(FF n).length≤7:=by
 unfold FF
 rw[List.length_reverse]
 exact lI _ _ 7 h (by decide)
theorem tQ(s:Str):(GA s).length=s.length:=by
 unfold GA
 rw[M5]
 rfl
end Av
namespace Av
def aZ(k bias:Int):Int:=if (if 36*k - bias > 1 then 36*k - bias else 1)<26 then (if 36*k - bias > 1 then 36*k - bias else 1) else 26
theorem uA(k b:Int):1≤aZ k b∧aZ k b≤26:=by
 unfold aZ
 repeat' split
 all_goals omega
theorem EK{n k b:Int}(h:aZ k b≤n):0≤(n - aZ k b) / (36 - aZ k b)∧(n - aZ k b) / (36 - aZ k b)<n:=by
 obtain⟨h1,h2⟩:=uA k b
 refine⟨Int.ediv_nonneg (by omega) (by omega),?_⟩
 apply Int.ediv_lt_of_lt_mul (by omega)
 have:n*(36 - aZ k b)=n*(36 - aZ k b - 1)+n:=by rw[Int.mul_sub n _ 1];omega
 have h3:0≤n*(36 - aZ k b - 1):=Int.mul_nonneg (by omega) (by omega)
 omega
def Iy(b n k:Int):List Int:=if h:aZ k b≤n then (aZ k b+(n - aZ k b) % (36 - aZ k b)) :: Iy b ((n - aZ k b) / (36 - aZ k b)) (k+1) else [n]
termination_by n.toNat
decreasing_by have:=EK h;omega
def xu(v:Int):Int:=if v<26 then 97+v else 22+v
def wf(n s:Int):Int:=if 455<n then wf (n / 35) (s+36) else s+36*n / (n+38)
termination_by n.toNat
decreasing_by omega
def nbP(n m:Int)(f:Bool):Int:=wf (n / (if f=true then 700 else 2)+n / (if f=true then 700 else 2) / m) 0
structure PW where
 code:Int
 place:Int
 bias:Int
 many:Int
 first:Bool
 there:List Bool
def cu(there:List Bool)(a:Int):Nat:=(there.take a.toNat).countP (· == true)
def jL(o a:Int)(s:PW):Int:=(o - s.code)*(s.many+1)+cu s.there a - s.place - 1
def dH(o a:Int)(s:PW):PW:={code:=o,place:=cu s.there a,bias:=nbP (jL o a s) (s.many+1) s.first,many:=s.many+1,first:=false,there:=s.there.set a.toNat true}
def lexB(a b:Int × Int):Bool:=decide (a.1<b.1∨(a.1=b.1∧a.2≤b.2))
def eI(t:List Bool):Nat:=t.countP (· == true)
structure PwOk(cs:List Int)(qs:List (Int × Int))(s:PW):Prop where
 len:s.there.length=cs.length
 many:s.many=eI s.there
 nodup:(qs.map (·.2)).Nodup
 at_:∀q∈qs,0≤q.2∧s.there[q.2.toNat]?=some false∧cs[q.2.toNat]?=some q.1
 cov:∀i:Nat,s.there[i]?=some false→∃q∈qs,q.2=(i:Int)
 sorted:qs.Pairwise fun a b=>a.1<b.1∨(a.1=b.1∧a.2≤b.2)
 code:∀q∈qs,s.code≤q.1∧(s.code=q.1→s.place<cu s.there q.2)
 place : -1≤s.place∧s.place<s.many
theorem lR(t:List Bool)(a:Int):cu t a≤eI t:=by
 unfold cu eI
 conv=>rhs;rw[←List.take_append_drop a.toNat t,List.countP_append]
 omega
theorem jl{t:List Bool}{i:Nat}(h:t[i]?=some false):(t.set i true).countP (· == true)=t.countP (· == true)+1:=by
 induction t generalizing i with
 |nil=>simp at h
 |cons b t ih =>
  cases i with
  |zero =>
   simp only[M8,Option.some.injEq]at h
   subst h
   simp[List.countP_cons]
  |succ i =>
   simp only[M9]at h
   simp only[Mm,List.countP_cons,ih h]
   omega
theorem rV{t:List Bool}{i:Nat}{a:Int}(h:t[i]?=some false):cu (t.set i true) a=cu t a+(if (i:Int)<a then 1 else 0):=by
 unfold cu
 by_cases c:(i:Int)<a
 ·rw[if_pos c]
  have e:(t.set i true).take a.toNat=(t.take a.toNat).set i true:=by rw[List.take_set]
  rw[e,jl]
  rw[List.getElem?_take,if_pos (by omega)]
  exact h
 ·rw[if_neg c]
  have e:(t.set i true).take a.toNat=t.take a.toNat:=by
   rw[List.take_set_of_le (by omega)]
  rw[e];rfl
theorem mL{t:List Bool}{a b:Int}(h:a≤b):cu t a≤cu t b:=by
 unfold cu
 have e:t.take a.toNat=(t.take b.toNat).take a.toNat:=by rw[List.take_take,Nat.min_eq_left (by omega)]
 rw[e]
 conv=>rhs;rw[←List.take_append_drop a.toNat (t.take b.toNat),List.countP_append]
 omega
theorem PwOk.num{cs:List Int}{q:Int × Int}{qs:List (Int × Int)}{s:PW}(h:PwOk cs (q :: qs) s):0≤jL q.1 q.2 s∧s.place+jL q.1 q.2 s+1=(q.1 - s.code)*(s.many+1)+cu s.there q.2∧(cu s.there q.2:Int)≤s.many∧0≤s.many:=by
 obtain⟨c1,c2⟩:=h.code q (Mi ..)
 obtain⟨p1,p2⟩:=h.place
 have m:=h.many
 have l:=lR s.there q.2
 refine⟨?_,by unfold jL;omega,by omega,by omega⟩
 unfold jL
 by_cases c:s.code=q.1
 ·have:=c2 c
  rw[c]
  simp only[Int.sub_self,Int.zero_mul]
  omega
 ·have h1:1*(s.many+1)≤(q.1 - s.code)*(s.many+1):=Int.mul_le_mul_of_nonneg_right (by omega) (by omega)
  omega
theorem PwOk.next{cs:List Int}{q:Int × Int}{qs:List (Int × Int)}{s:PW}(h:PwOk cs (q :: qs) s):PwOk cs qs (dH q.1 q.2 s):=by
 obtain⟨a1,a2,a3⟩:=h.at_ q (Mi ..)
 have nd:=List.nodup_cons.1 h.nodup
 have sd:=List.pairwise_cons.1 h.sorted
 have ne:∀r∈qs,r.2≠q.2:=fun r hr e=>nd.1 (by have:=List.mem_map_of_mem (f:=fun x:Int × Int=>x.2) hr;rwa [e]at this)
 have m:=h.many
 have cnt:eI (s.there.set q.2.toNat true)=eI s.there+1:=jl a2
 refine⟨by simp[dH,h.len],by simp only[dH];rw[cnt,m];rfl,nd.2,fun r hr=>?_,fun i hi=>?_,sd.2,fun r hr=>⟨?_,fun e=>?_⟩,?_⟩
 ·obtain⟨b1,b2,b3⟩:=h.at_ r (Mj _ hr)
  refine⟨b1,?_,b3⟩
  have:=ne r hr
  simp only[dH]
  rw[List.getElem?_set_ne (by omega)]
  exact b2
 ·simp only[dH]at hi
  by_cases c:q.2.toNat=i
  ·subst c
   have hl:=(List.getElem?_eq_some_iff.1 a2).1
   rw[List.getElem?_set_self hl]at hi
   cases hi
  ·rw[List.getElem?_set_ne c]at hi
   obtain⟨r,hr,e⟩:=h.cov i hi
   rcases Ml.1 hr with rfl|hr
   ·omega
   ·exact⟨r,hr,e⟩
 ·have:=sd.1 r hr
  simp only[dH]
  omega
 ·have o:=sd.1 r hr
  have n:=ne r hr
  simp only[dH]at e ⊢
  rw[rV a2,if_pos (by omega)]
  have:=mL (t:=s.there) (a:=q.2) (b:=r.2) (by omega)
  omega
 ·have l:=lR s.there q.2
  simp only[dH]
  omega
def je:List Int→List Bool→List Int
 |c :: cs,b :: t=>if b=true then c :: je cs t else je cs t
 |_,_=>[]
theorem jc:∀(cs:List Int) (t:List Bool),t.length=cs.length→(je cs t).length=eI t
 |[],[],_=>rfl
 |c :: cs,b :: t,h=>by
  have ih:=jc cs t (by simpa using h)
  unfold eI at *
  rw[je,List.countP_cons]
  cases b
  ·simpa using ih
  ·simpa using ih
theorem jd:∀(cs:List Int) (t:List Bool),t.length=cs.length→(∀i:Nat,t[i]?≠some false)→je cs t=cs
 |[],[],_,_=>rfl
 |c :: cs,b :: t,h,h2=>by
  have b1:b=true:=by cases b with
   |true=>rfl
   |false=>exact absurd rfl (h2 0)
  subst b1
  rw[je,if_pos rfl,jd cs t (by simpa using h) fun i=>h2 (i+1)]
theorem PwOk.done{cs:List Int}{s:PW}(h:PwOk cs [] s):je cs s.there=cs:=jd cs s.there h.len fun i e=>by
 obtain⟨q,hq,_⟩:=h.cov i e
 cases hq
theorem PwOk.fl{cs:List Int}{qs:List (Int × Int)}{s:PW}(h:PwOk cs qs s):((je cs s.there).length:Int)=s.many:=by rw[jc cs s.there h.len,h.many]
theorem PwOk.steps{cs:List Int}{q:Int × Int}{qs:List (Int × Int)}{s:PW}(h:PwOk cs (q :: qs) s):(s.place+jL q.1 q.2 s+1) / (s.many+1)=q.1 - s.code∧(s.place+jL q.1 q.2 s+1) % (s.many+1)=cu s.there q.2:=by
 obtain⟨h1,h2,h3,h4⟩:=h.num
 rw[h2]
 have e:(q.1 - s.code)*(s.many+1)+(cu s.there q.2:Int)=(cu s.there q.2:Int)+(s.many+1)*(q.1 - s.code):=by rw[Int.mul_comm];omega
 rw[e]
 have p:(0:Int)≤cu s.there q.2:=by omega
 constructor
 ·rw[Int.add_mul_ediv_left _ _ (by omega),Int.ediv_eq_zero_of_lt p (by omega)];omega
 ·rw[Int.add_mul_emod_self_left,Int.emod_eq_of_lt p (by omega)]
end Av
namespace Av
variable [Tb]
def Co:Con:=fun ds G Q X=>∃k b:Int,ds=[.int k,.int b]∧Q (.int (aZ k b)) G
def BR:FnE:={con:=Co,ar:=2,len:=fun ds G Q X ⟨_,_,h,_⟩=>by rw[h];rfl}
def LD:Con:=fun ds G Q X=>∃(n m:Int) (f:Bool),ds=[.int n,.int m,.bl f]∧0≤n∧0<m∧m<1000000∧Q (.int (nbP n m f)) G
def Lr:FnE:={con:=LD,ar:=3,len:=fun ds G Q X ⟨_,_,_,h,_⟩=>by rw[h];rfl}
def vv:Con:=fun ds G Q X=>∃v:Int,ds=[.int v]∧Q (.int (xu v)) G
def uU:FnE:={con:=vv,ar:=1,len:=fun ds G Q X ⟨_,h,_⟩=>by rw[h];rfl}
def FM:Con:=fun ds G Q X=>∃n b:Int,ds=[.int n,.int b]∧0≤n∧(Iy b n 1).length≤1000∧Q (.lst (di ((Iy b n 1).map xu))) G
def Fu:FnE:={con:=FM,ar:=2,len:=fun ds G Q X ⟨_,_,h,_⟩=>by rw[h];rfl}
structure NWG(Γ:Gam):Prop where
 least:Γ.fn "least_of" =some BR
 digit:Γ.fn "digit_of" =some uU
structure WPG(Γ:Gam):Prop where
 num:Γ.fn "number_written" =some Fu
 nb:Γ.fn "next_bias" =some Lr
end Av
namespace Av
variable [Tb]
structure Ex where
 wr:Bool
 cdc:Str
 src:List Int
 s:Nat
 e:Nat
 why:Str
def GJ:Bool→Str
 |true => "EncodeError"
 |false => "DecodeError"
abbrev Ex.dat(x:Ex):Dat:=GG (GJ x.wr) x.cdc x.src x.s x.e x.why
def Ex.fs(x:Ex):List (Str × Dat):=[("reason",.str x.why),("end",.int (x.e:Nat)),("start",.int (x.s:Nat)),("source",.tup (di x.src)),("codec",.str x.cdc)]
def bdX(wr:Bool)(c:Int):Prop:=0≤c∧c≤if wr=true then 1114111 else 255
structure Ex.Ok(x:Ex):Prop where
 se:x.s<x.e
 le:x.e≤x.src.length
 bd:∀b∈x.src,bdX x.wr b
 len:x.src.length≤9000
 cl:x.cdc.length≤1000
inductive An2 where
 |text(cs:List Int)(q:Nat)
 |bytes(bs:List Int)(q:Nat)
 |raise(C:Str)(fs:List (Str × Dat))
def Ex.rng(x:Ex):List Int:=(x.src.drop x.s).take (x.e - x.s)
def Ls(c:Int):List Int:=if c<256 then [92,120]++BK c 2 else if c<65536 then [92,117]++BK c 4 else [92,85]++BK c 8
def KN(c:Int):List Int:=38 :: 35 :: (FF c.toNat++[59])
def gc(x:Ex):An2:=.raise (GJ x.wr) x.fs
def Fm(c:Int):Bool:=decide (56448≤c) && decide (c≤56575)
def spX(x:Ex):An2:=match Dy x.cdc with
 |none=>gc x
 |some z=>if x.wr=true then (if x.rng.all Fl=true then .bytes (x.rng.flatMap (JS z (Jz x.cdc))) x.e else gc x) else match C6 x.src x.s z (Jz x.cdc)with
  |none=>gc x
  |some c=>.text [c] (x.s+z)
def Lj(nm:Str)(x:Ex):An2 :=
 if nm = "ignore" then .text [] x.e
 else if nm = "replace" then .text (if x.wr=true then Mh (x.e - x.s) 63 else [65533]) x.e
 else if nm = "backslashreplace" then .text (x.rng.flatMap Ls) x.e
 else if nm = "surrogateescape" then (if x.wr=true then (if x.rng.all Fm=true then .bytes (x.rng.map (· - 56320)) x.e else gc x) else if jW (x.rng.take 4)=0 then gc x else .text ((x.rng.take (jW (x.rng.take 4))).map (· +56320)) (x.s+jW (x.rng.take 4)))
 else if nm = "xmlcharrefreplace" then (if x.wr=true then .text (x.rng.flatMap KN) x.e else .raise "BadAnswer" [])
 else if nm = "surrogatepass" then spX x
 else if nm = "strict" then gc x
 else .raise "NoHandler" [("name",.str nm)]
def GL(a:An2)(G:AG)(Q:AQ)(X:AX):Prop:=match a with
 |.text cs q=>Q (.tup [.str "text",.tup (di cs),.int (q:Nat)]) G
 |.bytes bs q=>Q (.tup [.str "bytes",.tup (di bs),.int (q:Nat)]) G
 |.raise C fs=>X C fs G
def vw:Con:=fun ds G Q X=>∃x:Ex,ds=[x.dat]∧X (GJ x.wr) x.fs G
def uV:FnE:={con:=vw,ar:=1,len:=fun ds G Q X ⟨_,h,_⟩=>by rw[h];rfl}
def FT(nm:Str):Con:=fun ds G Q X=>∃x:Ex,ds=[x.dat]∧x.Ok∧GL (Lj nm x) G Q X
def bD(nm:Str):FnE:={con:=FT nm,ar:=1,len:=fun ds G Q X ⟨_,h,_⟩=>by rw[h];rfl}
def uO(P:Con)(hP:∀ds G Q X,P ds G Q X→ds.length=1):FnE:={con:=fun ds G Q X=>qW ds G Q X∨P ds G Q X,ar:=1,len:=fun ds G Q X h=>h.elim (fun h=>f_range.len ds G Q X h) (hP ds G Q X)}
structure HGG(Γ:Gam):Prop where
 x:XG Γ
 rng:∃P hP,Γ.fn "range_of" =some (uO P hP)
 again:Γ.fn "raise_again" =some uV
theorem A3{b:Int}(h:a0 b):(Str.ofString (toString b)).length≤7:=by
 obtain⟨n,rfl⟩:=Int.eq_ofNat_of_zero_le h.1
 rw[←tQ,AP]
 exact vc (by have:=h.2;omega)
end Av
namespace Av
variable [Tb]
def Gk(G:AG)(r:Addr)(kv:List (Key × Dat)):Prop:=∃q h,G r=some (.ins "Registry" (CA q h))∧G h=some (.dk kv)
def KeepO(ft:List Addr)(G G':AG):Prop:=∀b u,b ∉ ft→G b=some u→G' b=some u
theorem KeepO.refl{ft:List Addr}{G:AG}:KeepO ft G G:=fun _ _ _ h=>h
theorem KeepO.trans{ft:List Addr}{G G1 G2:AG}(a:KeepO ft G G1)(b:KeepO ft G1 G2):KeepO ft G G2:=fun c u n h=>b c u n (a c u n h)
theorem KeepO.put{ft:List Addr}{G G':AG}{p:Addr}{o:AO}(a:KeepO ft G G')(h:p∈ft):KeepO ft G (gu G' p o):=fun c u n e=>by
 rw[aC fun z=>n (by rw[z];exact h)];exact a c u n e
theorem KeepO.new{ft:List Addr}{G G':AG}{p:Addr}{o:AO}(a:KeepO ft G G')(h:G p=none):KeepO ft G (gu G' p o):=fun c u n e=>by
 rw[aC fun z=>by rw[z,h]at e;cases e];exact a c u n e
theorem KeepO.sub{G G' G0:AG}{p:Addr}(a:KeepO [p] G G')(h:G0 p=none)(s:Sub G0 G):Sub G0 G':=fun c u e=>a c u (fun z=>by rw[Ms.1 z,h]at e;cases e) (s c u e)
def Jw:Con:=fun ds G Q X=>∃r s kv,ds=[.ref r,.str s]∧Gk G r kv∧match au pC (.inr s)with
 |some d=>Q d G
 |none=>match au kv (.inr s)with
  |some d=>Q d G
  |none=>X "NoHandler" [("name",.str s)] G
def qi:FnE:={con:=Jw,ar:=2,len:=fun ds G Q X ⟨_,_,_,h,_⟩=>by rw[h];rfl}
structure fq where
 foot:List Addr
 own:List Addr
 inv:AG→List Er→Prop
 H:List Er→Er→An
 free:Bool
structure kj(A:fq):Prop where
 dep:∀{G G' l},A.inv G l→(∀b∈A.own,G' b=G b)→A.inv G' l
 occ:∀{G l},A.inv G l→∀b∈A.own,∃u,G b=some u
 sub:∀b∈A.foot,b∈A.own
def FZ(AS:Addr→fq→Prop):Con:=fun ds G Q X=>∃a A l x,AS a A∧ds=[.ref a,Er.dat x]∧A.inv G l∧x.Ok∧(A.free=true∨l.length<60000)∧∀G',KeepO A.foot G G'→A.inv G' (l++[x])→anW (A.H l x) G' Q X
def qk(AS:Addr→fq→Prop):FnE:={con:=FZ AS,ar:=2,len:=fun ds G Q X ⟨_,_,_,_,_,h,_⟩=>by rw[h];rfl}
structure L0(Γ:Gam):Prop where
 at_:∀f∈(["registry","errors","handler"]:List Str),Γ.at_ "Answers" f=true
 hn:Γ.ms "Registry" "handler_named" =some qi
 chk:Γ.fn "checked_answer" =some Ja
 h1:Γ.fn "answer_strict" =some (gX "strict")
 h2:Γ.fn "answer_ignore" =some (gX "ignore")
 h3:Γ.fn "answer_replace" =some (gX "replace")
 h4:Γ.fn "answer_xmlcharrefreplace" =some (gX "xmlcharrefreplace")
 h5:Γ.fn "answer_backslashreplace" =some (gX "backslashreplace")
 h6:Γ.fn "answer_surrogateescape" =some (gX "surrogateescape")
 h7:Γ.fn "answer_surrogatepass" =some (gX "surrogatepass")
end Av
namespace Av
variable [Tb]
inductive St where
 |put(cs:List Int)(q:Nat)
 |stop
 |err(pre:List Int)(e:Nat)(why:Str)
inductive RO where
 |val(cs:List Int)(k:Nat)
 |exc(C:Str)(fs:List (Str × Dat))
inductive Rd'(st:Nat→St)(cdc:Str)(P:List Int)(H:List Er→Er→An):Nat→List Er→Nat→List Int→List Er→RO→Prop
 |fin {l p acc}:P.length≤p→Rd' st cdc P H 0 l p acc l (.val acc P.length)
 |put {n l p acc l' o cs q}:p<P.length→st p = .put cs q→(acc++cs).length≤90000→Rd' st cdc P H n l q (acc++cs) l' o→Rd' st cdc P H (n+1) l p acc l' o
 |stop {l p acc}:p<P.length→st p = .stop→Rd' st cdc P H 0 l p acc l (.val acc p)
 |ask {n l p acc l' o pre e w cs q}:p<P.length→st p = .err pre e w→H l ⟨cdc,P,p,e,w⟩ = .ok cs q→(acc++pre++cs).length≤90000→Rd' st cdc P H n (l++[⟨cdc,P,p,e,w⟩]) q (acc++pre++cs) l' o→Rd' st cdc P H (n+1) l p acc l' o
 |exc {l p acc pre e w C fs}:p<P.length→st p = .err pre e w→(acc++pre).length≤90000→H l ⟨cdc,P,p,e,w⟩ = .raise C fs→Rd' st cdc P H 0 l p acc (l++[⟨cdc,P,p,e,w⟩]) (.exc C fs)
structure LL(st:Nat→St)(P:List Int):Prop where
 put:∀{p cs q},p<P.length→st p = .put cs q→p<q∧q≤P.length∧cs.length≤4*(q - p)
 err:∀{p pre e w},p<P.length→st p = .err pre e w→p<e∧e≤P.length∧pre.length≤4*(e - p)∧(pre=[]∨∀b,P[p]?=some b→b≤127)
structure POk(P:List Int):Prop where
 by_:∀b∈P,0≤b∧b≤255
 len:P.length≤5000
section
variable {st:Nat→St} {cdc:Str} {P:List Int} {H:List Er→Er→An} {n p:Nat} {l l':List Er} {acc:List Int} {o:RO}
end
def roW(o:RO)(G:AG)(Q:AQ)(X:AX):Prop:=match o with
 |.val cs k=>Q (.tup [.tup (di cs),.int (k:Nat)]) G
 |.exc C fs=>X C fs G
structure Rx where
 kind:Str
 fnm:Str
 cdc:Str
 st:List Int→Bool→Nat→St
structure L5(K:Rx):Prop where
 st:∀P fin,LL (K.st P fin) P
 nsz:au vS (.inr K.cdc)=none
def qV(AS:Addr→fq→Prop)(K:Rx):Con:=fun ds G Q X=>∃P a fin A n l o,ds=[.tup (di P),.ref a,.bl fin]∧AS a A∧A.inv G []∧POk P∧Rd' (K.st P fin) K.cdc P A.H n [] 0 [] l o∧(A.free=true∨l.length≤60000)∧∀G',KeepO A.foot G G'→A.inv G' l→roW o G' Q X
def qg(AS:Addr→fq→Prop)(K:Rx):FnE:={con:=qV AS K,ar:=3,len:=fun ds G Q X ⟨_,_,_,_,_,_,_,h,_⟩=>by rw[h];rfl}
structure RxG(Γ:Gam)(AS:Addr→fq→Prop)(K:Rx):Prop where
 fn:Γ.fn K.fnm=some (qg AS K)
 k1:decide (K.kind = "charmap")=false
 k2:au kN (.inr K.kind)=some (.gf K.fnm)
structure MkA(AS:Addr→fq→Prop)(G:AG)(r:Addr)(e:Dat)(mk:Addr→fq)(H:List Er→Er→An):Prop where
 as:∀a,G a=none→AS a (mk a)
 inv:∀a,G a=none→(mk a).inv (gu G a (.ins "Answers" (Kk (.ref r) e .non))) []
 h:∀a,(mk a).H=H
structure RegX(G:AG)(r q h:Addr)(m:Nat)(kv:List (Key × Dat)):Prop where
 w:RegW G r q m
 r_:G r=some (.ins "Registry" (CA q h))
 h_:G h=some (.dk kv)
 hq:h≠q
theorem RegX.k{G:AG}{r q h:Addr}{m:Nat}{kv:List (Key × Dat)}(R:RegX G r q h m kv):Gk G r kv:=⟨q,h,R.r_,R.h_⟩
theorem RegX.rq{G:AG}{r q h:Addr}{m:Nat}{kv:List (Key × Dat)}(R:RegX G r q h m kv):r≠q:=by
 obtain⟨kv,⟨h0,_⟩,_⟩:=R.w;exact h0
theorem RegX.sub{G G':AG}{r q h:Addr}{m:Nat}{kv:List (Key × Dat)}(R:RegX G r q h m kv)(s:Sub G G'):RegX G' r q h m kv:=⟨R.w.sub s,s _ _ R.r_,s _ _ R.h_,R.hq⟩
theorem RegX.dr{G:AG}{p r q h:Addr}{o o':AO}{n m:Nat}{kv:List (Key × Dat)}(R:RegX G r q h m kv)(hp:G p=some o)(d:DrO n o):RegX (gu G p o') r q h m kv :=
 ⟨R.w.dr hp d,by rw[aC (mx hp d R.r_ (by simp))];exact R.r_,by rw[aC (mx hp d R.h_ (by simp))];exact R.h_,R.hq⟩
theorem RegX.lst{G:AG}{p r q h:Addr}{l:List Dat}{o':AO}{m:Nat}{kv:List (Key × Dat)}(R:RegX G r q h m kv)(hp:G p=some (.lst l)):RegX (gu G p o') r q h m kv :=
 ⟨R.w.keep hp (nu Sub.gx),by rw[aC fun z=>by have:=R.r_;rw[z,hp]at this;cases this];exact R.r_,by rw[aC fun z=>by have:=R.h_;rw[z,hp]at this;cases this];exact R.h_,R.hq⟩
theorem RegX.other{G G':AG}{r q h a:Addr}{m:Nat}{u:AO}{kv:List (Key × Dat)}(R:RegX G r q h m kv)(e:G a=some u)(hu:∀kv,u≠.dk kv)(s:Sub (gx G q) G'):G' a=some u:=R.w.other e hu s
theorem RegX.mono{G:AG}{r q h:Addr}{m n:Nat}{kv:List (Key × Dat)}(R:RegX G r q h m kv)(l:m≤n):RegX G r q h n kv:=⟨R.w.mono l,R.r_,R.h_,R.hq⟩
theorem RegX.step{G G':AG}{r q h:Addr}{m n:Nat}{kv:List (Key × Dat)}(R:RegX G r q h m kv)(s:Sub (gx G q) G')(w:RegW G' r q n):RegX G' r q h n kv :=
 ⟨w,s _ _ (by rw[dA R.rq];exact R.r_),s _ _ (by rw[dA R.hq];exact R.h_),R.hq⟩
def NL(G G':AG):Prop:=∀a u,G a=some u→(∀l,u≠.lst l)→G' a=some u
theorem NL.refl{G:AG}:NL G G:=fun _ _ h _=>h
theorem NL.trans{G G1 G2:AG}(a:NL G G1)(b:NL G1 G2):NL G G2:=fun c u h n=>b c u (a c u h n) n
theorem NL.sub{G G':AG}(s:Sub G G'):NL G G':=fun c u h _=>s c u h
theorem NL.put{G:AG}{p:Addr}{l:List Dat}{o:AO}(h:G p=some (.lst l)):NL G (gu G p o):=fun c u e n=>by
 rw[aC fun z=>by rw[z,h]at e;cases e;exact n _ rfl];exact e
theorem NL.dr{G:AG}{p:Addr}{n:Nat}{o o':AO}(h:G p=some o)(d:DrO n o):NL G (gu G p o'):=by
 obtain⟨a,b,c,rfl,_⟩:=d;exact NL.put h
theorem NL.new{G:AG}{p:Addr}{o:AO}(h:G p=none):NL G (gu G p o):=NL.sub (Sub.new h)
structure Reg1(G:AG)(r q h c:Addr)(nn k:Str)(kv:List (Key × Dat)):Prop where
 q_:G q=some (.dk [(.inr nn,.ref c)])
 c_:CodAt G c r k
 r_:G r=some (.ins "Registry" (CA q h))
 h_:G h=some (.dk kv)
 rq:r≠q
theorem Reg1.nl{G G':AG}{r q h c:Addr}{nn k:Str}{kv:List (Key × Dat)}(R:Reg1 G r q h c nn k kv)(s:NL G G'):Reg1 G' r q h c nn k kv :=
 ⟨s _ _ R.q_ (by simp),s _ _ R.c_ (by simp),s _ _ R.r_ (by simp),s _ _ R.h_ (by simp),R.rq⟩
theorem Reg1.k{G:AG}{r q h c:Addr}{nn k:Str}{kv:List (Key × Dat)}(R:Reg1 G r q h c nn k kv):Gk G r kv:=⟨q,h,R.r_,R.h_⟩
theorem Reg1.at{G:AG}{r q h c:Addr}{nn k:Str}{kv:List (Key × Dat)}(R:Reg1 G r q h c nn k kv):RegAt G r q [(.inr nn,.ref c)]:=⟨R.rq,R.q_,h,R.r_⟩
abbrev Kd:=Str→List (Str × Dat)→Option Dat
structure TrG(Γ:Gam)(LT:Nat→Option il):Prop where
 lam:∀q L,LT q=some L→Γ.lam q=some L∧L.ar=0
 x1:Γ.xc "DecodeError" =some dD
 x2:Γ.xc "NoHandler" =some (["name"]:List Str)
 x3:Γ.xc "BadAnswer" =some []
 m11:Tb.xm "DecodeError" "DecodeError" =some true
 m21:Tb.xm "NoHandler" "DecodeError" =some false
 m22:Tb.xm "NoHandler" "NoHandler" =some true
 m31:Tb.xm "BadAnswer" "DecodeError" =some false
 m32:Tb.xm "BadAnswer" "NoHandler" =some false
 m33:Tb.xm "BadAnswer" "BadAnswer" =some true
abbrev K8(nm:Str):List (Str × Dat):=[("name",.str nm)]
def Er.tupD(x:Er):Dat:=.tup [.str "decode",.str x.cdc,.tup (di x.src),.int (x.s:Nat),.int (x.e:Nat),.str x.why]
def RO.Ok(o:RO):Prop:=match o with
 |.val cs k=>cs.length≤90000
 |.exc C fs=>(∃x:Er,x.src.length≤20000∧C = "DecodeError"∧fs=x.fs)∨(C = "BadAnswer"∧fs=[])∨∃nm:Str,C = "NoHandler"∧fs=K8 nm
end Av
namespace Av
variable [Tb]
def far(c:Int):List Int:=if c<65536 then [92,117]++BK c 4 else [92,85]++BK c 8
def JY(c:Int):List Int:=if c=9 then [92,116] else if c=10 then [92,110] else if c=13 then [92,114] else if c=92 then [92,92] else
 if 32≤c∧c≤126 then [c] else if c<256 then [92,120]++BK c 2 else far c
def esc(raw:Bool)(c:Int):List Int:=if raw=true then (if c<256 then [c] else far c) else JY c
def FC(raw:Bool)(cs:List Int):List Int:=cs.flatMap (esc raw)
def IO(raw:Bool):Str:=if raw=true then "raw-unicode-escape" else "unicode-escape"
def WE(raw:Bool):Wr:=⟨IO raw,if raw=true then "write_raw_escape" else "write_escape",fun cs=>(∀c∈cs,a0 c)∧cs.length≤4000,FC raw⟩
end Av
namespace Av
variable [Tb]
def dvE(b:Int):Option Int:=if 48≤b∧b≤57 then some (b - 48) else if 97≤b∧b≤102 then some (b - 87) else if 65≤b∧b≤70 then some (b - 55) else none
def r9:Nat→Int→List Int→Int × Nat
 |0,n,_=>(n,0)
 |_+1,n,[]=>(n,0)
 |k+1,n,b :: r=>match dvE b with
  |none=>(n,0)
  |some v=>((r9 k (16*n+v) r).1,(r9 k (16*n+v) r).2+1)
def CD:Nat→Int→List Int→Int × Nat
 |0,n,_=>(n,0)
 |_+1,n,[]=>(n,0)
 |k+1,n,b :: r=>if 48≤b∧b≤55 then ((CD k (8*n+b - 48) r).1,(CD k (8*n+b - 48) r).2+1) else (n,0)
structure Tk where
 codes:List Int
 e:Nat
 why:Option Str
def HZ:Str := "malformed \\N character escape"
def HY:Str := "unknown Unicode character name"
def Gx:Str := "illegal Unicode character"
def H7:Str := "\\Uxxxxxxxx out of range"
def KL:Str := "\\ at end of string"
def Ke:List Str:=[HY,Gx,H7]
def fz(s:Int):Nat:=if s=120 then 2 else if s=117 then 4 else 8
def KA(s:Int):Str:=if s=120 then "truncated \\xXX escape" else if s=117 then "truncated \\uXXXX escape" else "truncated \\UXXXXXXXX escape"
def GE(s:Int)(r:List Int)(bey:Str):Tk :=
 if (r9 (fz s) 0 r).2<fz s then ⟨[],2+(r9 (fz s) 0 r).2,some (KA s)⟩
 else if 1114111<(r9 (fz s) 0 r).1 then ⟨[],2+(r9 (fz s) 0 r).2,some bey⟩ else ⟨[(r9 (fz s) 0 r).1],2+(r9 (fz s) 0 r).2,none⟩
def Gq:List Int→Nat
 |[]=>0
 |b :: r=>if b=125 then 0 else Gq r+1
def oU(r:List Int):Tk :=
 if r.take 1≠[123] then ⟨[],2,some HZ⟩ else if (r.drop 1).take 1=[125] then ⟨[],3,some HZ⟩
 else if Gq (r.drop 1)+1=r.length then ⟨[],3+Gq (r.drop 1),some HZ⟩ else ⟨[],4+Gq (r.drop 1),some HY⟩
def meantI:List (Int × List Int):=[(92,[92]),(39,[39]),(34,[34]),(98,[8]),(102,[12]),(116,[9]),(110,[10]),(114,[13]),(118,[11]),(97,[7]),(10,[])]
def IA:List Int→Tk
 |[]=>⟨[],1,some KL⟩
 |s :: r=>match meantI.lookup s with
  |some m=>⟨m,2,none⟩
  |none=>if 48≤s∧s≤55 then ⟨[(CD 3 0 (s :: r)).1],1+(CD 3 0 (s :: r)).2,none⟩
   else if s=120∨s=117∨s=85 then GE s r Gx else if s=78 then oU r else ⟨[92,s],2,none⟩
def KO:List Int→Tk
 |[]=>⟨[92],1,none⟩
 |s :: r=>if s=117∨s=85 then GE s r H7 else ⟨[92,s],2,none⟩
end Av
namespace Av
variable [Tb]
def JO:Option Str→Dat
 |some s=>.str s
 |none=>.non
def GU(t:Tk)(p:Nat):Dat:=.tup [.tup (di t.codes),.int ((p+t.e:Nat)),JO t.why]
def Dx:List (Key × Dat):=[(.inl 120,.tup [.int 2,.str "truncated \\xXX escape"]),(.inl 117,.tup [.int 4,.str "truncated \\uXXXX escape"]),(.inl 85,.tup [.int 8,.str "truncated \\UXXXXXXXX escape"])]
def mD:Con:=fun ds G Q X=>∃P p s w,ds=[.tup (di P),.int (p:Nat),.int s,.str w]∧(s=120∨s=117∨s=85)∧p+2≤P.length∧P.length≤100000∧Q (GU (GE s (P.drop (p+2)) w) p) G
def mv:FnE:={con:=mD,ar:=4,len:=fun ds G Q X ⟨_,_,_,_,h,_⟩=>by rw[h];rfl}
def qX:Con:=fun ds G Q X=>∃P p,ds=[.tup (di P),.int (p:Nat)]∧p+1≤P.length∧P.length≤100000∧Q (GU ⟨[(CD 3 0 (P.drop (p+1))).1],1+(CD 3 0 (P.drop (p+1))).2,none⟩ p) G
def qh:FnE:={con:=qX,ar:=2,len:=fun ds G Q X ⟨_,_,h,_⟩=>by rw[h];rfl}
def vq:Con:=fun ds G Q X=>∃P p,ds=[.tup (di P),.int (p:Nat)]∧p+2≤P.length∧P.length≤100000∧Q (GU (oU (P.drop (p+2))) p) G
def uQ:FnE:={con:=vq,ar:=2,len:=fun ds G Q X ⟨_,_,h,_⟩=>by rw[h];rfl}
def EM:List (Key × Dat):=[(.inl 92,.tup [.int 92]),(.inl 39,.tup [.int 39]),(.inl 34,.tup [.int 34]),(.inl 98,.tup [.int 8]),(.inl 102,.tup [.int 12]),(.inl 116,.tup [.int 9]),(.inl 110,.tup [.int 10]),(.inl 114,.tup [.int 13]),(.inl 118,.tup [.int 11]),(.inl 97,.tup [.int 7]),(.inl 10,.tup [])]
structure NG(Γ:Gam):Prop where
 mean:Γ.dc "MEANT" =some EM
 size:Γ.dc "SIZES_escapes" =some Dx
 ill:Γ.gl "ILLEGAL" =some (.str Gx)
 oct:Γ.fn "octal_at" =some qh
 dig:Γ.fn "digits_at" =some mv
 nam:Γ.fn "name_at" =some uQ
end Av
namespace Av
variable [Tb]
structure RbX(Γ:Gam)(AS:Addr→fq→Prop):Prop where
 xD:Γ.xc "DecodeError" =some dD
 unk:Γ.gl "UNKNOWN" =some (.str HY)
 ill:Γ.gl "ILLEGAL" =some (.str Gx)
 bey:Γ.gl "BEYOND" =some (.str H7)
 ask:Γ.ms "Answers" "ask" =some (qk AS)
 ok:∀a A,AS a A→kj A
 ans:∀a A G l,AS a A→A.inv G l→∃fs,G a=some (.ins "Answers" fs)∧fs.lookup ("ask" : Str)=none
 code:∀a A l x cs q,AS a A→x.Ok→A.H l x = .ok cs q→q≤x.src.length
end Av
namespace Av
variable [Tb]
end Av
namespace Av
variable [Tb]
def Cq:Con:=fun ds G Q X=>∃x cs,ds=[x]∧(x = .tup (di cs)∨x = .lst (di cs))∧(∀c∈cs,a0 c)∧cs.length≤100000∧Q (.bl true) G
def qm:FnE:={con:=Cq,ar:=1,len:=fun ds G Q X ⟨_,_,h,_⟩=>by rw[h];rfl}
def Kp(x:Er)(y:Dat)(a:An):Prop:=∃z cs p q,y = .tup [.str "text",z,.int p]∧(z = .tup (di cs)∨z = .lst (di cs))∧(∀c∈cs,a0 c)∧cs.length≤100000∧q≤x.src.length∧((0≤p∧p=(q:Nat))∨(p<0∧p+(x.src.length:Nat)=(q:Nat)))∧a = .ok cs q
def FX:Con:=fun ds G Q X=>∃x y a,ds=[Er.dat x,y]∧Kp x y a∧anW a G Q X
def Fy:FnE:={con:=FX,ar:=2,len:=fun ds G Q X ⟨_,_,_,h,_⟩=>by rw[h];rfl}
structure CkR(Γ:Gam):Prop where
 x:XG Γ
 tup:Γ.gl "tuple" =some (.ty "tuple")
 ac:Γ.fn "are_codes" =some qm
 ii:Γ.fn "is_integer" =some j5
structure r7 where
 q:Nat
 cl:List Addr
 ft:List Addr
 ow:List Addr
 inv:AG→List Er→Prop
 H:List Er→Er→An
structure JJ(S:r7):Prop where
 dep:∀{G G' l},S.inv G l→(∀b∈S.ow,G' b=G b)→S.inv G' l
 occ:∀{G l},S.inv G l→∀b∈S.ow,∃u,G b=some u∧∀C fs,u≠.ins C fs
 nok:∀{G l},S.inv G l→∀b∈S.ft,∀kv,G b≠some (.dk kv)
 sub:∀b∈S.ft,b∈S.ow
 code:∀{l x cs q},x.Ok→S.H l x = .ok cs q→q≤x.src.length
def Lk(Fam:r7→Prop)(q:Nat)(cl:List Addr):Con:=fun ds G Q X=>∃S l x,Fam S∧S.q=q∧S.cl=cl∧ds=[Er.dat x]∧S.inv G l∧x.Ok∧l.length<60000∧
 (∀G' y,KeepO S.ft G G'→S.inv G' (l++[x])→Kp x y (S.H l x)→Q y G')∧(∀C fs G',KeepO S.ft G G'→S.inv G' (l++[x])→S.H l x = .raise C fs→X C fs G')
def hL(Fam:r7→Prop)(q:Nat):il:={con:=Lk Fam q,ar:=1,len:=fun cl ds G Q X h=>by obtain⟨_,_,_,_,_,_,h,_⟩:=h;rw[h];rfl}
structure JL(Γ:Gam)(Fam:r7→Prop):Prop where
 at_:∀f∈(["registry","errors","handler"]:List Str),Γ.at_ "Answers" f=true
 hn:Γ.ms "Registry" "handler_named" =some qi
 chk:Γ.fn "checked_answer" =some Fy
 lam:∀S,Fam S→Γ.lam S.q=some (hL Fam S.q)
end Av
namespace Av
variable [Tb]
def Gb:Con:=fun ds G Q X=>∃x cs,ds=[x]∧JE x cs∧(∀c∈cs,(0:Int)≤c∧c≤255)∧cs.length≤100000∧Q (.bl true) G
def Fz:FnE:={con:=Gb,ar:=1,len:=fun ds G Q X ⟨_,_,h,_⟩=>by rw[h];rfl}
def LO(x:Ex)(y:Dat)(a:An2):Prop:=∃wd z cs p q,y = .tup [.str wd,z,.int p]∧JE z cs∧cs.length≤90000∧q≤x.src.length∧((0≤p∧p=(q:Nat))∨(p<0∧p+(x.src.length:Nat)=(q:Nat)))∧
 ((wd = "text"∧(∀c∈cs,a0 c)∧a = .text cs q)∨(wd = "bytes"∧(∀c∈cs,0≤c∧c≤255)∧a = .bytes cs q))
def FW:Con:=fun ds G Q X=>∃(x:Ex) (y:Dat) (a:An2),ds=[x.dat,y]∧x.wr=true∧LO x y a∧GL a G Q X
def Fx:FnE:={con:=FW,ar:=2,len:=fun ds G Q X ⟨_,_,_,h,_⟩=>by rw[h];rfl}
structure CkW(Γ:Gam):Prop where
 x:XG Γ
 tup:Γ.gl "tuple" =some (.ty "tuple")
 ac:Γ.fn "are_codes" =some qm
 ao:Γ.fn "are_octets" =some Fz
 ii:Γ.fn "is_integer" =some j5
structure bu where
 foot:List Addr
 own:List Addr
 inv:AG→List Ex→Prop
 H:List Ex→Ex→An2
 free:Bool
 nm:Str
structure vL(A:bu):Prop where
 dep:∀{G G' l},A.inv G l→(∀b∈A.own,G' b=G b)→A.inv G' l
 occ:∀{G l},A.inv G l→∀b∈A.own,∃u,G b=some u
 sub:∀b∈A.foot,b∈A.own
def Ga(AS:Addr→bu→Prop):Con:=fun ds G Q X=>∃a A l x,AS a A∧ds=[.ref a,Ex.dat x]∧A.inv G l∧x.Ok∧x.wr=true∧(A.free=true∨l.length<60000)∧∀G',KeepO A.foot G G'→A.inv G' (l++[x])→GL (A.H l x) G' Q X
def xr(AS:Addr→bu→Prop):FnE:={con:=Ga AS,ar:=2,len:=fun ds G Q X ⟨_,_,_,_,_,h,_⟩=>by rw[h];rfl}
structure LY(Γ:Gam):Prop where
 at_:∀f∈(["registry","errors","handler"]:List Str),Γ.at_ "Answers" f=true
 hn:Γ.ms "Registry" "handler_named" =some qi
 chk:Γ.fn "checked_answer" =some Fx
 h1:Γ.fn "answer_strict" =some (bD "strict")
 h2:Γ.fn "answer_ignore" =some (bD "ignore")
 h3:Γ.fn "answer_replace" =some (bD "replace")
 h4:Γ.fn "answer_xmlcharrefreplace" =some (bD "xmlcharrefreplace")
 h5:Γ.fn "answer_backslashreplace" =some (bD "backslashreplace")
 h6:Γ.fn "answer_surrogateescape" =some (bD "surrogateescape")
 h7:Γ.fn "answer_surrogatepass" =some (bD "surrogatepass")
structure Cw(AS:Addr→bu→Prop):Prop where
 ok:∀a A,AS a A→vL A
 ans:∀a A G l,AS a A→A.inv G l→∃fs,G a=some (.ins "Answers" fs)∧fs.lookup ("ask" : Str)=none∧fs.lookup ("again" : Str)=none∧fs.lookup ("errors" : Str)=some (.str A.nm)
 code:∀a A l x,AS a A→x.Ok→x.wr=true→match A.H l x with
  |.text cs q=>q≤x.src.length∧cs.length≤90000
  |.bytes cs q=>q≤x.src.length∧cs.length≤90000
  |.raise _ _=>True
def mE:Con:=fun ds G Q X=>∃(a:Dat) (x:Ex),ds=[a,x.dat]∧X (GJ x.wr) x.fs G
def fX:FnE:={con:=mE,ar:=2,len:=fun ds G Q X ⟨_,_,h,_⟩=>by rw[h];rfl}
structure Wk where
 kind:Str
 fnm:Str
 cdc:Str
 why:Str
 lim:Int
 oc:Int→Option (List Int)
structure Kl(K:Wk):Prop where
 bd:∀{c bs},a0 c→K.oc c=some bs→(∀b∈bs,0≤b∧b≤255)∧bs.length≤4
 cl:K.cdc.length≤1000
def tu(oc:Int→Option (List Int))(src:List Int)(p:Nat):Nat:=p+((src.drop p).takeWhile fun c=>(oc c).isNone).length
def FB(esc:Bool)(src:List Int)(p e:Nat):Nat:=if esc=true then p+(((src.drop p).take (e - p)).takeWhile Fm).length else p
end Av
namespace Av
variable [Tb]
def jD:Dat→Bool
 |.non=>true|.bl _=>true|.int _=>true|.str _=>true|.tup _=>true|.lst _=>true
 |_=>false
def isI:Dat→Bool
 |.int _=>true
 |_=>false
def isR:Dat→Bool
 |.tup _=>true|.lst _=>true
 |_=>false
def itD:Dat→List Dat
 |.tup ds=>ds|.lst ds=>ds
 |_=>[]
def lN:Con:=fun ds G Q X=>∃x,ds=[x]∧jD x=true∧Q (.bl (isI x)) G
def bQ:FnE:={con:=lN,ar:=1,len:=fun ds G Q X ⟨_,h,_⟩=>by rw[h];rfl}
theorem oN(Γ:Gam)(h1:Γ.gl "int" =some (.ty "int"))(h2:Γ.gl "bool" =some (.ty "bool"))(N:List Str)(hN:N.length=1)(ds:List Dat)(G:AG)(Q:AQ)(X:AX)(h:lN ds G Q X):wSs Γ cq (ah N ds) G (ay Q X):=by
 obtain⟨x,rfl,hp,hq⟩:=h
 have e:ah N [x]=[some x]:=by unfold ah;rw[hN];rfl
 rw[e]
 unfold cq
 ((first|rw[wSs]|(dsimp only;rw[wSs]));simp only[wS,wE,wEs,M8,yB,h1,h2])
 cases x with
 |non=>refine dl (t := "NoneType") (b:=false) rfl (by decide+kernel) ?_;simp only[zQ,M6,if_false];exact rt_ (X:=X) hq
 |bl b =>
  refine dl (t := "bool") (b:=true) rfl (by decide+kernel) ?_
  simp only[zQ,if_true]
  refine dl (t := "bool") (b:=true) rfl (by decide+kernel) ?_
  simp only[zQ,Bool.not_true]
  exact rt_ (X:=X) hq
 |int i =>
  refine dl (t := "int") (b:=true) rfl (by decide+kernel) ?_
  simp only[zQ,if_true]
  refine dl (t := "int") (b:=false) rfl (by decide+kernel) ?_
  simp only[zQ,Bool.not_false]
  exact rt_ (X:=X) hq
 |str s=>refine dl (t := "str") (b:=false) rfl (by decide+kernel) ?_;simp only[zQ,M6,if_false];exact rt_ (X:=X) hq
 |tup l=>refine dl (t := "tuple") (b:=false) rfl (by decide+kernel) ?_;simp only[zQ,M6,if_false];exact rt_ (X:=X) hq
 |lst l=>refine dl (t := "list") (b:=false) rfl (by decide+kernel) ?_;simp only[zQ,M6,if_false];exact rt_ (X:=X) hq
 |_=>cases hp
def lM:Con:=fun ds G Q X=>∃x,ds=[x]∧jD x=true∧Q (.bl (isR x)) G
def ew:FnE:={con:=lM,ar:=1,len:=fun ds G Q X ⟨_,h,_⟩=>by rw[h];rfl}
theorem oL(Γ:Gam)(h1:Γ.gl "tuple" =some (.ty "tuple"))(h2:Γ.gl "list" =some (.ty "list"))(N:List Str)(hN:N.length=1)(ds:List Dat)(G:AG)(Q:AQ)(X:AX)(h:lM ds G Q X):wSs Γ ie (ah N ds) G (ay Q X):=by
 obtain⟨x,rfl,hp,hq⟩:=h
 have e:ah N [x]=[some x]:=by unfold ah;rw[hN];rfl
 rw[e]
 unfold ie
 ((first|rw[wSs]|(dsimp only;rw[wSs]));simp only[wS,wE,wEs,M8,yB,h1,h2])
 refine⟨by (first|assumption|decide|(simp only[RgOk,CMul,CDiv,CPow];omega)|(have:=big;omega)|(have:=big;simp only[Mb,Mq,M5,Mf,Mr];omega)),?_⟩
 cases x with
 |non=>exact ej (t := "NoneType") (b:=false) rfl (by decide+kernel) (rt_ (X:=X) hq)
 |bl b=>exact ej (t := "bool") (b:=false) rfl (by decide+kernel) (rt_ (X:=X) hq)
 |int i=>exact ej (t := "int") (b:=false) rfl (by decide+kernel) (rt_ (X:=X) hq)
 |str s=>exact ej (t := "str") (b:=false) rfl (by decide+kernel) (rt_ (X:=X) hq)
 |tup l=>exact ej (t := "tuple") (b:=true) rfl (by decide+kernel) (rt_ (X:=X) hq)
 |lst l=>exact ej (t := "list") (b:=true) rfl (by decide+kernel) (rt_ (X:=X) hq)
 |_=>cases hp
def cA(mo:Int):Dat→Bool
 |.int i=>decide (0≤i) && decide (i≤mo)
 |_=>false
def kU(mo:Int)(x:Dat):Bool:=isR x && (itD x).all (cA mo)
def xB(mo:Int):Con:=fun ds G Q X=>∃x,ds=[x]∧jD x=true∧(itD x).all jD=true∧(itD x).length≤100000∧Q (.bl (kU mo x)) G
def fW(mo:Int):FnE:={con:=xB mo,ar:=1,len:=fun ds G Q X ⟨_,h,_⟩=>by rw[h];rfl}
theorem rN{f:Dat→Bool}:∀l:List Dat,cK (l.map fun d=>Dat.bl (f d))=some (l.map f)
 |[]=>rfl
 |d :: l=>by
  show (cK (l.map fun d=>Dat.bl (f d))).map (f d :: ·)=_
  rw[rN l];rfl
theorem DD{G:AG}{x:Dat}{Q:List Dat→Gd→AG→Prop}(h:isR x=true)(q:Q (itD x) [] G):vT x G Q:=by
 cases x with
 |tup l=>exact q
 |lst l=>exact q
 |_=>cases h
theorem tZ(Γ:Gam)(h1:Γ.fn "is_row" =some ew)(h2:Γ.fn "is_integer" =some bQ)(h3:Γ.gl "GREATEST" =some (.int 1114111))(N:List Str)(hN:N.length=2)(ds:List Dat)(G:AG)(Q:AQ)(X:AX)(h:xB 1114111 ds G Q X):wSs Γ cM (ah N ds) G (ay Q X):=by
 obtain⟨x,rfl,hp,hi,hl,hq⟩:=h
 have e:ah N [x]=[some x,none]:=by unfold ah;rw[hN];rfl
 rw[e]
 have big:=big
 unfold cM
 ((first|rw[wSs]|(dsimp only;rw[wSs]));simp only[wS,wE,wEs,M8,wI,yC,exists_and_left,h1])
 refine⟨by decide,x,rfl,hp,?_⟩
 unfold kU at hq
 cases hr:isR x
 ·rw[hr]at hq
  simp only[zQ,M6,if_false]
  exact rt_ (X:=X) hq
 rw[hr]at hq
 simp only[zQ,if_true]
 refine DD hr ?_
 refine o7 (f:=fun d=>.bl (cA 1114111 d)) trivial (by omega) (fun d hd Q' hQ'=>?_) ?_
 ·have pd:=List.all_eq_true.1 hi d hd
  simp only[tgW,bj]
  simp only[Mm,Mn,M9,M8,h2]
  refine⟨by decide,d,rfl,pd,?_⟩
  cases d with
  |int i =>
   show bn (.bl true) G _
   simp only[zG,zY,decide_eq_true_eq,zQ,if_true,h3]
   by_cases c0:0≤i
   ·have e1:cA 1114111 (.int i)=decide (i≤1114111):=by unfold cA;simp[c0]
    rw[e1]at hQ'
    simp only[if_true,c0]
    exact hQ'
   ·have e1:cA 1114111 (.int i)=false:=by unfold cA;simp[c0]
    rw[e1]at hQ'
    simp only[if_false,c0]
    exact hQ'
  |non=>show bn (.bl false) G _;simp only[zQ,M6,if_false];exact hQ'
  |bl b=>show bn (.bl false) G _;simp only[zQ,M6,if_false];exact hQ'
  |str b=>show bn (.bl false) G _;simp only[zQ,M6,if_false];exact hQ'
  |tup b=>show bn (.bl false) G _;simp only[zQ,M6,if_false];exact hQ'
  |lst b=>show bn (.bl false) G _;simp only[zQ,M6,if_false];exact hQ'
  |_=>cases pd
 ·refine⟨_,rfl,_,rN _,?_⟩
  rw[List.all_map]
  exact rt_ (X:=X) hq
def isS(s:Str):Dat→Bool
 |.str t=>decide (t=s)
 |_=>false
def WEq(G:AG)(w:Dat):Prop:=∀(s:Str) (Q:AQ),Q (.bl (isS s w)) G→bY .eq w (.str s) G Q
def LX(G:AG)(wr:Bool)(d:Dat):Prop:=jD d=true∧∀l,d = .tup l→l.length≠3∨∃w z pl,l=[w,z,pl]∧WEq G w∧jD z=true∧(itD z).all jD=true∧(itD z).length≤100000∧jD pl=true∧
 ((!(isS "bytes" w && (wr && kU 255 z)) && !(isS "text" w && kU 1114111 z))|| !isI pl)=true
structure CkB(Γ:Gam):Prop where
 x:XG Γ
 tup:Γ.gl "tuple" =some (.ty "tuple")
 ac:Γ.fn "are_codes" =some (fW 1114111)
 ao:Γ.fn "are_octets" =some (fW 255)
 ii:Γ.fn "is_integer" =some bQ
 xb:Γ.xc "BadAnswer" =some []
def Gz(p:Int)(n:Nat):Int:=if p<0 then p+(n:Nat) else p
end Av
namespace Av
variable [Tb]
def ke(mo:Int):Con:=fun ds G Q X=>∃x,ds=[x]∧jD x=true∧Q (.bl (cA mo x)) G
def cg(mo:Int):FnE:={con:=ke mo,ar:=1,len:=fun ds G Q X ⟨_,h,_⟩=>by rw[h];rfl}
def dF:List S:=[
 .ret (.andV (.call "is_integer" [(.var 0)]) (.one (.cmp2 .le .le (.cst (.int 0)) (.var 0) (.cst (.int 255)))))]
def dG:List S:=[
 .ret (.andV (.call "is_integer" [(.var 0)]) (.one (.cmp2 .le .le (.cst (.int 0)) (.var 0) (.cst (.int 1114111)))))]
theorem oM(Γ:Gam)(h1:Γ.fn "is_integer" =some bQ)(N:List Str)(hN:N.length=1)(ds:List Dat)(G:AG)(Q:AQ)(X:AX)(h:ke 255 ds G Q X):wSs Γ dF (ah N ds) G (ay Q X):=by
 obtain⟨x,rfl,hp,hq⟩:=h
 have e:ah N [x]=[some x]:=by unfold ah;rw[hN];rfl
 rw[e]
 unfold dF
 ((first|rw[wSs]|(dsimp only;rw[wSs]));simp only[wS,wE,wEs,M8,h1])
 refine⟨by decide,x,rfl,hp,?_⟩
 cases x with
 |int i =>
  show bn (.bl true) G _
  simp only[zG,zY,decide_eq_true_eq,zQ,if_true]
  by_cases c0:0≤i
  ·simp only[if_true,c0]
   have e1:cA 255 (.int i)=decide (i≤255):=by unfold cA;simp[c0]
   rw[e1]at hq
   exact rt_ (X:=X) hq
  ·simp only[if_false,c0]
   have e1:cA 255 (.int i)=false:=by unfold cA;simp[c0]
   rw[e1]at hq
   exact rt_ (X:=X) hq
 |ref a=>cases hp
 |ty a=>cases hp
 |gf a=>cases hp
 |kls a=>cases hp
 |clo a b=>cases hp
 |exc a b c=>cases hp
 |ktp a=>cases hp
 |dz a b=>cases hp
 |_ =>
  show bn (.bl false) G _
  simp only[zQ,M6,if_false]
  exact rt_ (X:=X) hq
theorem md(Γ:Gam)(h1:Γ.fn "is_integer" =some bQ)(N:List Str)(hN:N.length=1)(ds:List Dat)(G:AG)(Q:AQ)(X:AX)(h:ke 1114111 ds G Q X):wSs Γ dG (ah N ds) G (ay Q X):=by
 obtain⟨x,rfl,hp,hq⟩:=h
 have e:ah N [x]=[some x]:=by unfold ah;rw[hN];rfl
 rw[e]
 unfold dG
 ((first|rw[wSs]|(dsimp only;rw[wSs]));simp only[wS,wE,wEs,M8,h1])
 refine⟨by decide,x,rfl,hp,?_⟩
 cases x with
 |int i =>
  show bn (.bl true) G _
  simp only[zG,zY,decide_eq_true_eq,zQ,if_true]
  by_cases c0:0≤i
  ·simp only[if_true,c0]
   have e1:cA 1114111 (.int i)=decide (i≤1114111):=by unfold cA;simp[c0]
   rw[e1]at hq
   exact rt_ (X:=X) hq
  ·simp only[if_false,c0]
   have e1:cA 1114111 (.int i)=false:=by unfold cA;simp[c0]
   rw[e1]at hq
   exact rt_ (X:=X) hq
 |ref a=>cases hp
 |ty a=>cases hp
 |gf a=>cases hp
 |kls a=>cases hp
 |clo a b=>cases hp
 |exc a b c=>cases hp
 |ktp a=>cases hp
 |dz a b=>cases hp
 |_ =>
  show bn (.bl false) G _
  simp only[zQ,M6,if_false]
  exact rt_ (X:=X) hq
abbrev Pr:=Int × Dat
def pT(p:Pr):Dat:=.tup [.int p.1,p.2]
def mw(mo:Int)(e:Dat):Bool:=match e with
 |.non=>true
 |.int i=>cA mo (.int i)
 |x=>kU mo x
def PlE(e:Dat):Prop:=jD e=true∧(itD e).all jD=true∧(itD e).length≤100000
def Ct(x:Dat)(ps:List Pr):Prop:=(∃es,(x = .tup es∨x = .lst es)∧bR 0 es=ps.map pT)∨∃ds,x = .dz (ps.map fun p=>.inl p.1) ds∧ds=ps.map (·.2)∧(ps.map (·.1)).Nodup
def b9(ps:List Pr):List Pr:=ps.mergeSort fun a b=>decide (a.1≤b.1)
structure TbG(ps:List Pr):Prop where
 len:ps.length≤300
 oct:∀p∈ps,0≤p.1∧p.1≤255
 ent:∀p∈ps,PlE p.2∧mw 1114111 p.2=true
def FV:Con:=fun ds G Q X=>∃x ps,ds=[x]∧Ct x ps∧TbG ps∧Q (.lst ((b9 ps).map pT)) G
def uT:FnE:={con:=FV,ar:=1,len:=fun ds G Q X ⟨_,_,h,_⟩=>by rw[h];rfl}
def FR:List Addr→Con:=fun cl ds G Q X=>cl=[]∧∃i e,ds=[.tup [.int i,e]]∧Q (.int i) G
def lamKey:il:={con:=FR,ar:=1,len:=fun cl ds G Q X ⟨_,_,_,h,_⟩=>by rw[h];rfl}
def b_entries_of:List S:=[
 .if_ (.val (.blt true .isinst [(.var 0),(.tup [(.glo "list"),(.glo "tuple")])])) [.set 1 (.lstEn true (.var 0))] [.if_ (.val (.blt true .isinst [(.var 0),(.glo "dict")])) [.set 1 (.lc true (.tup [(.var 2),(.dix (.var 0) (.var 2))]) (.nm 2) (.dkeys (.var 0)) [2])] [.raise "BadTable" []]],
 .for_ (.tp [2,3]) (.seq (.var 1)) [.if_ (.or_ (.not_ (.val (.call "is_octet" [(.var 2)]))) (.one (.not_ (.or_ (.cmp .isn (.var 3) (.cst (.non))) (.or_ (.val (.call "is_code" [(.var 3)])) (.one (.val (.call "are_codes" [(.var 3)])))))))) [.raise "BadTable" []] []],
 .ret (.srtk true (.var 1) (.lam 0 []))]
theorem iD(ps:List Pr):kI (ps.map (·.1)) (ps.map pT)=(b9 ps).map pT:=by
 unfold kI b9
 have e:(ps.map pT).zip (ps.map (·.1))=ps.map fun p=>(pT p,p.1):=by
  induction ps with
  |nil=>rfl
  |cons p ps ih=>simp only[Mc,List.zip_cons_cons,ih]
 rw[e,←List.map_mergeSort (r:=fun a b:Pr=>decide (a.1≤b.1)) (fun a _ b _=>rfl),List.map_map]
 rfl
theorem im(ps:List Pr):(ps.map fun p=>(.inl p.1:Key)).zip (ps.map (·.2))=ps.map fun p=>((.inl p.1:Key),p.2):=by
 induction ps with
 |nil=>rfl
 |cons p ps ih=>simp only[Mc,List.zip_cons_cons,ih]
theorem cB{ps:List Pr}(hn:(ps.map (·.1)).Nodup){p:Pr}(hp:p∈ps):au ((ps.map fun p=>(.inl p.1:Key)).zip (ps.map (·.2))) (.inl p.1)=some p.2:=by
 rw[im]
 induction ps with
 |nil=>cases hp
 |cons q ps ih =>
  simp only[Mc,List.nodup_cons,List.mem_map,not_exists,not_and]at hn
  unfold au
  simp only[Mc,List.find?_cons]
  rcases Ml.1 hp with rfl|hp
  ·simp
  ·have ne:q.1≠p.1:=fun z=>hn.1 p hp z.symm
   have ne2:decide ((.inl q.1:Key) = .inl p.1)=false:=by simp[ne]
   rw[ne2]
   exact ih hn.2 hp
structure Kn(Γ:Gam):Prop where
 tup:Γ.gl "tuple" =some (.ty "tuple")
 lst:Γ.gl "list" =some (.ty "list")
 dct:Γ.gl "dict" =some (.ty "dict")
 oct:Γ.fn "is_octet" =some (cg 255)
 cod:Γ.fn "is_code" =some (cg 1114111)
 are:Γ.fn "are_codes" =some (fW 1114111)
theorem EH(Γ:Gam)(g:Kn Γ)(hL:Γ.lam 0=some lamKey)(N:List Str)(hN:N.length=4)(ds:List Dat)(G:AG)(Q:AQ)(X:AX)(h:FV ds G Q X):wSs Γ b_entries_of (ah N ds) G (ay Q X):=by
 obtain⟨x,ps,rfl,ht,hg,hq⟩:=h
 have e:ah N [x]=[some x,none,none,none]:=by unfold ah;rw[hN];rfl
 rw[e]
 have big:=big
 have hlen:=hg.len
 unfold b_entries_of
 have lam:∀Q':AQ,Q' (.lst ((b9 ps).map pT)) G→iB Γ true (.lst (ps.map pT)) (.clo 0 []) G Q':=fun Q' q=>by
  refine⟨ps.map pT,ps.map (·.1),0,[],lamKey,rfl,rfl,hL,by simp,fun i e n h1 h2=>?_,?_⟩
  ·rw[Mg]at h1 h2
   cases hp:ps[i]? with
   |none=>rw[hp]at h1;cases h1
   |some p =>
    rw[hp]at h1 h2
    cases h1
    cases h2
    exact⟨rfl,p.1,p.2,rfl,rfl,rfl⟩
  ·rw[iD]
   exact⟨by simp only[M5,b9,List.length_mergeSort];omega,q⟩
 have rest:∀a b,wSs Γ (b_entries_of.drop 1) [some x,some (.lst (ps.map pT)),a,b] G (ay Q X):=by
  intro a b
  show wSs Γ [_,_] _ _ _
  ((first|rw[wSs]|(dsimp only;rw[wSs]));simp only[wS,wI,wE,M9,M8,xq])
  refine pZ (fun rem ρ G'=>G'=G∧∃qs,rem=qs.map pT∧(∀p∈qs,p∈ps)∧∃a b,ρ=[some x,some (.lst (ps.map pT)),a,b]) ?_ ?_ _ _ _ ⟨rfl,ps,rfl,fun _ h=>h,a,b,rfl⟩
  ·rintro d rem ρ G' N hN ⟨rfl,qs,hr,hqs,a,b,rfl⟩
   cases qs with
   |nil=>cases hr
   |cons p qs =>
    simp only[Mc,List.cons.injEq]at hr
    obtain⟨rfl,rfl⟩:=hr
    refine⟨trivial,?_⟩
    have hp:=hqs p (by simp)
    have ho:=hg.oct p hp
    obtain⟨he1,he2⟩:=hg.ent p hp
    have nx:N [some x,some (.lst (ps.map pT)),some (.int p.1),some p.2] G':=hN _ _ ⟨rfl,qs,rfl,fun q hq=>hqs q (by simp[hq]),_,_,rfl⟩
    simp only[pT,tgW,bB]
    refine⟨rfl,?_⟩
    ((first|rw[wSs]|(dsimp only;rw[wSs]));simp only[wS,wT,wE,wEs,Mm,Mn,M9,M8,Bool.not_eq_true',ze,if_true,Bool.not_true,M6,if_false,zJ,dL,zY,g.oct])
    refine⟨by decide,.int p.1,rfl,rfl,?_⟩
    have e1:cA 255 (.int p.1)=true:=by unfold cA;simp[ho.1,ho.2]
    rw[e1]
    simp only[zQ,Bool.true_eq_false,if_false]
    generalize hx:p.2=ex at he1 he2 nx ⊢
    obtain⟨pl,pi,pn⟩:=he1
    cases ex with
    |non =>
     simp only[if_true]
     exact nx
    |int i =>
     simp only[M6,if_false,g.cod]
     refine⟨by decide,.int i,rfl,rfl,?_⟩
     rw[show cA 1114111 (.int i)=true from he2]
     simp only[zQ,if_true]
     exact nx
    |tup l =>
     simp only[M6,if_false,g.cod]
     refine⟨by decide,.tup l,rfl,rfl,?_⟩
     rw[show cA 1114111 (.tup l)=false from rfl]
     simp only[zQ,M6,if_false,g.are]
     refine⟨by decide,.tup l,rfl,rfl,pi,pn,?_⟩
     rw[show kU 1114111 (.tup l)=true from he2]
     simp only[zQ,Bool.true_eq_false,if_false]
     exact nx
    |lst l =>
     simp only[M6,if_false,g.cod]
     refine⟨by decide,.lst l,rfl,rfl,?_⟩
     rw[show cA 1114111 (.lst l)=false from rfl]
     simp only[zQ,M6,if_false,g.are]
     refine⟨by decide,.lst l,rfl,rfl,pi,pn,?_⟩
     rw[show kU 1114111 (.lst l)=true from he2]
     simp only[zQ,Bool.true_eq_false,if_false]
     exact nx
    |bl b=>cases he2
    |str b=>cases he2
    |ref a=>cases pl
    |ty a=>cases pl
    |gf a=>cases pl
    |kls a=>cases pl
    |clo a b=>cases pl
    |exc a b c=>cases pl
    |ktp a=>cases pl
    |dz a b=>cases pl
  ·rintro ρ G' ⟨rfl,_,_,_,a,b,rfl⟩
   refine⟨trivial,?_⟩
   simp only[ze,wS,wE,wEs,wT,wI,M8,M9,Mn,Mm,bB,zh,zi,zj,zk,zo,zp,zq,zr,zt,zu,zv,zw,zx,zy,zA,zB,zC,zD,zE,zF,zG,zH,zI,zJ,zK,zL,zM,zN,zO,zP,zQ,zR,zS,zU,zV,zW,zX,zY,zZ,yc,yd,ye,yf,yg,yh,yi,yj,yk,ym,yn,yo,yq,yr,yt,yu,yv,yw,yy,yz,yA,yB,yC,yD,yE,yF,yG,yH,yI,yJ,yK,yL,yM,yN,yO,yP,yQ,yR,yS,yT,yU,yV,yW,yX,yY,yZ,xa,xg,xh,xi,xj,xk,xl,xn,xo,xp,xq,bN,Bw,exists_eq',exists_eq,exists_eq_left',exists_eq_left,exists_and_left,ak,fB,Mo,List.all_nil,List.any_cons,List.any_nil,aH,BX,gL,dL,Bool.and_self,Bool.and_true,Bool.true_and,Bool.or_false,Bool.false_or,Bool.not_true,Bool.not_false,M6,Bool.true_eq_false,if_true,if_false,ite_true,ite_false,true_and,and_true,decide_eq_true_eq,Bool.not_eq_true',decide_true,decide_false]
   refine⟨[],?_,?_⟩
   ·rfl
   exact lam _ (rt_ (X:=X) hq)
 have nwp:(ps.map pT).length≤sizeLine:=by rw[M5];omega
 ((first|rw[wSs]|(dsimp only;rw[wSs]));simp only[wS,wT,wE,wEs,M8,yB,g.tup,g.lst])
 refine⟨by decide,?_⟩
 rcases ht with⟨es,rfl|rfl,he⟩|⟨vs,rfl,rfl,hn⟩
 ·refine ej (t := "tuple") (b:=true) rfl (by decide+kernel) ?_
  simp only[zQ,if_true]
  refine⟨es,rfl,?_⟩
  rw[he]
  exact⟨nwp,rest _ _⟩
 ·refine ej (t := "list") (b:=true) rfl (by decide+kernel) ?_
  simp only[zQ,if_true]
  refine⟨es,rfl,?_⟩
  rw[he]
  exact⟨nwp,rest _ _⟩
 ·refine ej (t := "dict") (b:=false) rfl (by decide+kernel) ?_
  simp only[zQ,M6,if_false]
  ((first|rw[wSs]|(dsimp only;rw[wSs]));simp only[wS,wT,wE,wEs,M8,ze,yB,g.dct])
  refine dl (t := "dict") (b:=true) rfl (by decide+kernel) ?_
  simp only[zQ,if_true]
  refine⟨_,_,rfl,by simp,?_⟩
  refine o7 (f:=fun d=>match d with
   |.int i=>.tup [.int i,(au ((ps.map fun p=>(.inl p.1:Key)).zip (ps.map (·.2))) (.inl i)).getD .non]
   |d=>d) trivial (by simp only[M5];omega) (fun d hd Q' hQ'=>?_) ?_
  ·obtain⟨k,hk,rfl⟩:=List.mem_map.1 hd
   obtain⟨p,hp,rfl⟩:=List.mem_map.1 hk
   have lk:=cB hn hp
   simp only[tgW,bj]
   simp only[wE,wEs,Mm,Mn,M9,M8]
   refine⟨.inl p.1,p.2,rfl,lk,by show 2≤sizeLine;omega,?_⟩
   have e2:(.tup [aO (.inl p.1),p.2]:Dat) = .tup [.int p.1,(au ((ps.map fun p=>(.inl p.1:Key)).zip (ps.map (·.2))) (.inl p.1)).getD .non]:=by rw[lk];rfl
   rw[e2]
   exact hQ'
  ·have e3:(List.map aO (ps.map fun p=>(.inl p.1:Key))).map (fun d=>match d with
     |.int i=>(.tup [.int i,(au ((ps.map fun p=>(.inl p.1:Key)).zip (ps.map (·.2))) (.inl i)).getD .non]:Dat)
     |d=>d)=ps.map pT:=by
    rw[List.map_map,List.map_map]
    refine List.map_congr_left fun p hp=>?_
    have lk:=cB hn hp
    show (.tup [.int p.1,(au _ (.inl p.1)).getD .non]:Dat)=pT p
    rw[lk]
    rfl
   rw[e3]
   simp only[Mm,Mn,ze]
   exact rest _ _
def kB(ps:List Pr):List (Key × Dat):=(b9 ps).foldl (fun acc p=>if cA 1114111 p.2=true then (match p.2 with
 |.int c=>bG acc (.inl c) (.int p.1)
 |_=>acc) else acc) []
theorem qG{tst:aj→AG→(Bool→AG→Prop)→Prop}{ek ev:aj→AG→AQ→Prop}{g:TGt}{own:List Nat}{gd:Gd}{ρ:aj}{Q:AQ}(I:List Dat→List (Key × Dat)→AG→Prop)
  (step:∀d ds acc G (N:List (Key × Dat)→AG→Prop),(∀acc G,I ds acc G→N acc G)→I (d :: ds) acc G→bZ G gd∧tgW g d (bj ρ own) fun ρ1=>tst ρ1 G fun b G1 =>
   if b=true then ek ρ1 G1 fun y G2=>ev ρ1 G2 fun v G3=>acc.length<sizeLine∧∃x,cC y=some x∧N (bG acc x v) G3 else N acc G1)
  (done:∀acc G,I [] acc G→bZ G gd∧∀p,G p=none→Q (.ref p) (gu G p (.dk acc))):∀ds acc G,I ds acc G→jh tst ek ev g own gd ρ Q ds acc G
 |[],acc,G,h=>done acc G h
 |d :: ds,acc,G,h=>step d ds acc G (fun acc G=>jh tst ek ev g own gd ρ Q ds acc G) (fun acc G=>qG I step done ds acc G) h
theorem tE(kvs:List (Key × Dat))(k:Key)(v:Dat):(bG kvs k v).length≤kvs.length+1:=by
 unfold bG
 split
 ·rw[M5];omega
 ·rw[Mf];simp
theorem BM{G:AG}{p:Addr}{o:AO}(h:G p=none):gx (gu G p o) p=G:=by
 funext b
 by_cases hb:b=p
 ·subst hb;rw[cb,h]
 ·rw[dA hb,aC hb]
theorem fV{G:AG}{p:Addr}{kvs:List (Key × Dat)}{Q:AQ}(h:G p=none)(q:Q (.dz (kvs.map (·.1)) (kvs.map (·.2))) G):mR (.ref p) (gu G p (.dk kvs)) Q:=by
 unfold mR
 simp only[ak]
 rw[BM h]
 exact q
theorem cQ{ps:List Pr}{p:Pr}:p∈b9 ps ↔ p∈ps:=List.mem_mergeSort
theorem dT(ps:List Pr):(b9 ps).length=ps.length:=List.length_mergeSort ..
def fC:Dat→List Dat
 |.int i=>[.int i]
 |x=>itD x
def mQ:Dat→Bool
 |.non=>true
 |_=>false
def LJ(acc:List (Key × Dat))(p:Pr):List (Key × Dat):=if mQ p.2=true then acc else bG acc (.inl p.1) (.tup (fC p.2))
def uI(ps:List Pr):List (Key × Dat):=ps.foldl LJ []
structure Kv(ps:List Pr):Prop where
 len:ps.length≤3000
 nod:(ps.map (·.1)).Nodup
 cod:∀p∈ps,0≤p.1∧p.1≤1114111
 ent:∀p∈ps,PlE p.2∧mw 255 p.2=true
def dzP(ps:List Pr):Dat:=.dz (ps.map fun p=>.inl p.1) (ps.map (·.2))
def dzK(l:List (Key × Dat)):Dat:=.dz (l.map (·.1)) (l.map (·.2))
def toK(p:Pr):Key × Dat:=(.inl p.1,p.2)
def eU(acc:List Pr)(c:Int)(o:Dat):List Pr:=if (acc.any fun q=>decide (q.1=c))=true then acc.map (fun q=>if q.1=c then (q.1,o) else q) else acc++[(c,o)]
theorem gG(l:List Pr)(c:Int)(v:Dat):bG (l.map toK) (.inl c) v=(eU l c v).map toK:=by
 unfold bG eU
 have e:((l.map toK).any fun q=>decide (q.1=(.inl c:Key)))=l.any fun q=>decide (q.1=c):=by
  rw[List.any_map]
  congr 1
  funext q
  simp[toK]
 rw[e]
 split
 ·rw[List.map_map,List.map_map]
  refine List.map_congr_left fun q _=>?_
  simp only[Function.comp,toK,Sum.inl.injEq]
  split <;> rfl
 ·rw[List.map_append];rfl
def ik(acc:List Pr)(p:Pr):List Pr:=if cA 1114111 p.2=true then (match p.2 with
 |.int c=>eU acc c (.int p.1)
 |_=>acc) else acc
def sr(ps:List Pr):List Pr:=(b9 ps).foldl ik []
theorem jE(ps:List Pr):kB ps=(sr ps).map toK:=by
 unfold kB sr
 have:∀(l:List Pr) (acc:List Pr),l.foldl (fun acc p=>if cA 1114111 p.2=true then (match p.2 with
  |.int c=>bG acc (.inl c) (.int p.1)
  |_=>acc) else acc) (acc.map toK)=(l.foldl ik acc).map toK:=by
  intro l
  induction l with
  |nil=>intro acc;rfl
  |cons p l ih =>
   intro acc
   rw[List.foldl_cons,List.foldl_cons,←ih]
   congr 1
   unfold ik
   split
   ·split
    ·exact gG _ _ _
    ·rfl
   ·rfl
 exact this (b9 ps) []
theorem eT(l:List Pr)(c:Int)(o:Dat):(eU l c o).map (·.1)=if (l.any fun q=>decide (q.1=c))=true then l.map (·.1) else l.map (·.1)++[c]:=by
 unfold eU
 split
 ·rw[List.map_map]
  refine List.map_congr_left fun q _=>?_
  simp only[Function.comp]
  split <;> rfl
 ·rw[List.map_append];rfl
theorem eR{l:List Pr}{c:Int}{o:Dat}{p:Pr}(h:p∈eU l c o):p∈l∨p=(c,o):=by
 unfold eU at h
 split at h
 ·obtain⟨q,hq,e⟩:=List.mem_map.1 h
  split at e
  ·rename_i hc
   exact .inr (by rw[←e,hc])
  ·exact .inl (by rw[←e];exact hq)
 ·rcases List.mem_append.1 h with h|h
  ·exact .inl h
  ·exact .inr (by simpa using h)
theorem sk{ps:List Pr}(hg:TbG ps):Kv (sr ps):=by
 have key:∀(l acc:List Pr),(∀p∈l,p∈ps)→(acc.map (·.1)).Nodup→(∀p∈acc,(0≤p.1∧p.1≤1114111)∧∃o,p.2 = .int o∧0≤o∧o≤255)→
   ((l.foldl ik acc).map (·.1)).Nodup∧(∀p∈l.foldl ik acc,(0≤p.1∧p.1≤1114111)∧∃o,p.2 = .int o∧0≤o∧o≤255)∧(l.foldl ik acc).length≤acc.length+l.length:=by
  intro l
  induction l with
  |nil=>intro acc _ a b;exact⟨a,b,by simp⟩
  |cons p l ih =>
   intro acc hl a b
   rw[List.foldl_cons]
   have hp:=hl p (by simp)
   have st:((ik acc p).map (·.1)).Nodup∧(∀q∈ik acc p,(0≤q.1∧q.1≤1114111)∧∃o,q.2 = .int o∧0≤o∧o≤255)∧(ik acc p).length≤acc.length+1:=by
    unfold ik
    split
    ·rename_i ho
     split
     ·rename_i c hc
      rw[hc]at ho
      unfold cA at ho
      simp only[M3,decide_eq_true_eq]at ho
      refine⟨?_,fun q hq=>?_,?_⟩
      ·rw[eT]
       split
       ·exact a
       ·rename_i hn
        rw[List.nodup_append]
        refine⟨a,by simp,fun x hx y hy=>?_⟩
        have e:y=c:=by simpa using hy
        subst e
        intro z
        subst z
        obtain⟨q,hq,e2⟩:=List.mem_map.1 hx
        exact hn (List.any_eq_true.2 ⟨q,hq,by simp[e2]⟩)
      ·rcases eR hq with h|rfl
       ·exact b q h
       ·exact⟨ho,p.1,rfl,hg.oct p hp⟩
      ·have:=congrArg List.length (eT acc c (.int p.1))
       rw[M5]at this
       rw[this]
       split
       ·rw[M5];omega
       ·rw[Mf,M5];simp
     ·exact⟨a,b,by omega⟩
    ·exact⟨a,b,by omega⟩
   obtain⟨k1,k2,k3⟩:=ih (ik acc p) (fun q hq=>hl q (by simp[hq])) st.1 st.2.1
   refine⟨k1,k2,?_⟩
   have:=st.2.2
   simp only[Mb]
   omega
 obtain⟨k1,k2,k3⟩:=key (b9 ps) [] (fun p hp=>cQ.1 hp) (by simp) (fun p hp=>by cases hp)
 have hl:=hg.len
 rw[dT]at k3
 simp at k3
 refine⟨by unfold sr;omega,k1,fun p hp=>(k2 p hp).1,fun p hp=>?_⟩
 obtain⟨o,e,h0,h1⟩:=(k2 p hp).2
 rw[e]
 refine⟨⟨rfl,rfl,by simp[itD]⟩,?_⟩
 show cA 255 (.int o)=true
 unfold cA
 simp[h0,h1]
def cmF(r:Dat)(n:Str)(tb bk:Dat):List (Str × Dat):=[("registry",r),("name",.str n),("kind",.str "charmap"),("table",tb),("back",bk)]
end Av
namespace Av
variable [Tb]
def lsB(N:List Str)(sc:Scope)(ls:List Nat):Bool:=ls.all fun i=>match N[i]? with
 |some x=>sc.names.lookup x == some .cell
 |none=>false
theorem vh{X:Cx}{Γ:Gam}{ls:List Nat}(h:lsB X.N X.env.scope ls=true)(hf:∀x,X.fn x=true):CsOk X (Γ.cells (e8 X.N ls X.env.cells)):=by
 intro i c e
 obtain⟨hi,x,h1,h2⟩:=f7 e
 have h3:=List.all_eq_true.mp h i hi
 rw[h1]at h3
 have h3:X.env.scope.names.lookup x=some .cell:=by simpa using h3
 refine⟨x,h1,.inr (.inl h3),.inl h3,h2,fun {pn xe pins σ H s} I=>?_⟩
 have ge:=I.ok.cab x c (hf x) h2
 refine⟨?_,fun hm=>?_⟩
 ·cases q:X.base.get? c with
  |none=>rfl
  |some o =>
   have:=Heap.lt_size (I.ok.bs c o q).1
   exact absurd (Nat.lt_of_lt_of_le this ge) (Nat.lt_irrefl _)
 ·rcases List.mem_cons.mp (I.stkSub c hm)with z|z
  ·exact I.cne x c h2 z
  ·obtain⟨_,o,ho,_⟩:=I.ok.funs.mem z
   exact absurd (Nat.lt_of_lt_of_le (Heap.lt_size ho) ge) (Nat.lt_irrefl _)
theorem qL{N:List Str}{ls:List Nat}{scope:Scope}{L:Addr}(h:lsB N scope ls=true):∀i∈ls,∃c,e8 N ls (cellsFrom (L+1) scope.names []) i=some c:=fun i hi=>by
 have h3:=List.all_eq_true.mp h i hi
 unfold e8
 rw[if_pos hi]
 cases q:N[i]? with
 |none=>rw[q]at h3;cases h3
 |some x =>
  rw[q]at h3
  exact cell_has (by simpa using h3)
def LmD(base:Heap)(mg:Str→Option Value)(fd:FuncData)(qual:Str):Prop:=∃(c P:Addr) (nm:Nat→Nat→Str),LamX.TabB base mg c P∧fd.code = .ref c∧(P,nm)∈Tb.T∧(∀p∈Tb.T,p.1=P→p.2=nm)∧∀a b,nm a b=qual++ ".<locals>." ++ "<lambda>"
section
variable {P:Program} {w:World} {K:M0} {mg:Str→Option Value} {base:Heap} {Γ:Gam} {k:Nat} {F:FnE} {N ps:List Str} {ss:List S} {x qual:Str} {params:Arguments} {body:List Stmt} {scope:Scope} {dvs:List V} {kws:List (Str × V)} {f:Addr} {fd:FuncData}
theorem oZ{H:Hp}{G:AG}{Qa:AQ}{Ea:AX}{Q:VK}{E:XK}(hp:PostE K G H Qa Q)(hx:PostX K G H Ea E):Ln K (fun cls d _ H=>E cls d H) G H (ay Qa Ea) {nx:=fun _ H'=>Q .non H',rt:=Q}:=by
 refine⟨fun ρ' G' σ' H' f e g' q=>?_,fun d G' v H' f g' rv q=>?_,fun _ _ _ _ _ _ _ q=>q.elim,fun _ _ _ _ _ _ _ q=>q.elim,fun ρ' G' σ' H' f e g0 c fs G'' dx H'' f2 g2 rx q=>?_⟩
 ·obtain⟨G0,s0,q⟩:=q
  exact hp .non G0 .non H' (f.trans (.sub s0)) (g'.sub s0) .non q
 ·obtain⟨G0,s0,q⟩:=q
  exact hp d G0 v H' (f.trans (.sub s0)) (g'.sub s0) rv q
 ·obtain⟨G0,s0,q⟩:=q
  exact hx c fs G0 dx H'' ((f.trans f2).trans (.sub s0)) (g2.sub s0) rx q
theorem Cd{CX:CXT}{cdv:Value}{A:Around}{outer:List Env}{s:Shared}{H:Hp}{E:XK}{ls:List Nat}(h:lsB N scope ls=true):CsOk (cxOf CX P w K mg base N qual scope f cdv A outer s H E) (Γ.cells (e8 N ls (cellsFrom (s.heap.objs.size+1) scope.names []))) :=
 vh (X:=cxOf CX P w K mg base N qual scope f cdv A outer s H E) (Γ:=Γ) (ls:=ls) h fun _=>rfl
theorem Ci{CX:CXT}{cdv:Value}{A:Around}{outer:List Env}{s:Shared}{H:Hp}{E:XK}{ls:List Nat}{isL:Nat→mS→Bool}{fr:Nat→List Str}(h:lsB N scope ls=true)(hL:∀q L,isL q L=true→Tb.is q L∧fr q=Tb.fr q)
  (hD:∃(c P:Addr) (nm:Nat→Nat→Str),LamX.TabB base mg c P∧cdv = .ref c∧(P,nm)∈Tb.T∧(∀p∈Tb.T,p.1=P→p.2=nm)∧∀a b,nm a b=qual++ ".<locals>." ++ "<lambda>") :
  bz (cxOf CX P w K mg base N qual scope f cdv A outer s H E) {N:=N,sc:=scope,top:=true,isL:=isL,fr:=fr} (Γ.cells (e8 N ls (cellsFrom (s.heap.objs.size+1) scope.names []))):=by
 obtain⟨c,P',nm,d1,d2,d3,d4,d5⟩:=hD
 exact⟨rfl,rfl,fun _ _ _ _=>rfl,fun _=>Cd h,(fun q L z=>⟨(hL q L z).1,(hL q L z).2,⟨c,P',nm,d1,d2,d3,d4,d5⟩⟩),fun z=>by cases z⟩
theorem Fr(ls:List Nat)(isL:Nat→mS→Bool)(fr:Nat→List Str)(FD:FunD K x qual params body scope dvs kws f fd)(hS:aJ N ps scope=true)(hl:ps.length=F.ar)(tb:TbOk P w K mg base Γ k)(cor:corSs {N:=N,sc:=scope,top:=true,isL:=isL,fr:=fr} ss body=true)
  (hls:lsB N scope ls=true)(hL:∀q L,isL q L=true→Tb.is q L∧fr q=Tb.fr q)(hD:LmD base mg fd qual)
  (hw:∀cs:Nat→Option Addr,(∀i∈ls,∃c,cs i=some c)→∀ds G Q X,F.con ds G Q X→wSs (Γ.cells cs) ss (ah N ds) G (ay Q X)):FnOk P w K mg base (L2N.CX P w) (k+1) f fd ps (bF K F):=by
 have S:=eP hS
 obtain⟨oc,od,dV,kV,doc,pm,an,cdv,ct,osl,rfl,lk,hcd,_,_⟩:=FD.ex
 refine fn_of lk hcd S (fun vs H Q E h=>by rw[hl];exact gw h) fun A outer s H vs Q E hr hsp=>?_
 obtain⟨ds,G,Qa,Ea,r,g,hc,hp,hx⟩:=hsp
 refine⟨LfS K (fun cls d _ H=>E cls d H) (wSs (Γ.cells (e8 N ls (cellsFrom (s.heap.objs.size+1) scope.names []))) ss),Iu (passes_of rfl) ⟨rfl,rfl⟩ ⟨hr,S.nd,rfl,L2N.takes_of rfl rfl rfl rfl,tb.cells _⟩ (Ci hls hL hD) ss body cor,
  ah N ds,G,ay Qa Ea,dq r,g,hw _ (qL hls) ds G Qa Ea hc,oZ hp hx⟩
end
section
variable {X:Cx} {W:WX} {C:Ck} {Γ:Gam} {k:Nat}
end
section
variable {P:Program} {w:World} {K:M0} {mg:Str→Option Value} {base:Heap} {Γ:Gam} {k:Nat} {F:FnE} {N ps:List Str} {ss:List S} {x qual:Str} {params:Arguments} {body:List Stmt} {scope:Scope} {dvs:List V} {kws:List (Str × V)} {f:Addr} {fd:FuncData}
end
end Av
namespace Av
open PySem PySem.Spec PyProof.Rows L2 NdefX
variable [Tb]
structure LW where
 N:List Str
 ps:List Str
 fr:List Str
 e:E
def jM(a:Arguments)(ps:List Str):Bool:=a.posonlyargs.isEmpty && a.vararg.isNone && a.kwonlyargs.isEmpty && a.kw_defaults.isEmpty && a.kwarg.isNone && a.defaults.isEmpty && a.args.map (·.arg) == ps && decide (ps.length≤1)
def GF(w:LW)(L:mS):Bool:=match L.body with
 |.expr b=>nscB w.N w.ps w.fr L.scope && jM L.params w.ps && ae {N:=w.N,sc:=L.scope,top:=true} w.e b
 |_=>false
theorem lY{params:Arguments}{ps:List Str}(h:jM params ps=true)(fd:FuncData)(hp:fd.params=params)(hd:fd.defaults = .none)(hk:fd.kwdefaults = .none)(us:List Value)(hl:us.length=ps.length):bindArgs fd ⟨us,[]⟩=pure (ps.zip us):=by
 ·unfold jM at h
  obtain⟨p1,al,p3,p4,p5,p6,p7⟩:=params
  simp only[M3,beq_iff_eq,decide_eq_true_eq,List.isEmpty_iff,Option.isNone_iff_eq_none]at h
  obtain⟨⟨⟨⟨⟨⟨⟨q1,q2⟩,q3⟩,q4⟩,q5⟩,q6⟩,hm⟩,h3⟩:=h
  subst q1 q2 q3 q4 q5 q6 hm
  obtain⟨a,b,c,d,e,f,g,h1,h2,h3',h4,h5,h6,h7,h8⟩:=fd
  simp only at hp hd hk
  subst hp hd hk
  rw[M5]at hl h3
  cases al with
  |nil=>cases us with
   |nil=>rfl
   |cons _ _=>simp at hl
  |cons x al=>cases us with
   |nil=>simp at hl
   |cons u us=>cases al with
    |nil=>cases us with
     |nil =>
      obtain⟨nm,an,po⟩:=x
      have e0:seqItems? Value.none=pure none:=rfl
      have e1:(nm == nm)=true:=by simp
      unfold bindArgs
      simp[List.lookup,e0,e1]
     |cons _ _=>simp at hl
    |cons _ _=>simp at h3
def eJ(N:List Str)(ds ws:List Dat):aj:=ds.map some++(ws.map some++Mh (N.length - ds.length - ws.length) none)
def u9(G:AG)(cl:List Addr):AG:=fun b=>if b∈cl then none else G b
def mK(G' G:AG)(cl:List Addr):AG:=fun b=>if b∈cl then G b else G' b
def csL(n:Nat)(cl:List Addr):Nat→Option Addr:=fun i=>if n≤i then cl[i - n]? else none
def Ks(Γ:Gam)(w:LW)(cl:List Addr)(ds:List Dat)(G:AG)(Q:AQ)(X:AX):Prop:=ds.length=w.ps.length∧∃ws:List Dat,ws.length=w.fr.length∧(∀(j:Nat) (c:Addr) (d:Dat),cl[j]?=some c→ws[j]?=some d→G c=some (.cel d))∧
 wE (Γ.cells (csL w.ps.length cl)) w.e (eJ w.N ds ws) (u9 G cl) (fun d G'=>(∀c∈cl,G' c=none)→∃G0,Sub G0 (mK G' G cl)∧Q d G0) (fun c fs G'=>(∀c∈cl,G' c=none)→∃G0,Sub G0 (mK G' G cl)∧X c fs G0)
section
variable {P:Program} {w:World} {K:M0} {mg:Str→Option Value} {base:Heap} {Γ:Gam} {k q:Nat} {lw:LW} {LE:il}
theorem jK{H:Hp}{N:List Str}{vs:List V}{ds:List Dat}{wv:List V}{ws:List Dat}(r:Reps K H vs ds)(r2:Reps K H wv ws):RelE K H (eJ N ds ws) (startF N vs (wv.map some)):=by
 have l1:=r.length
 have l2:=r2.length
 refine⟨by simp[eJ,startF,l1,l2],fun i d e=>?_⟩
 unfold eJ at e
 unfold startF
 by_cases hi:i<ds.length
 ·rw[List.getElem?_append_left (by rw[M5];exact hi),Mg]at e
  rw[List.getElem?_append_left (by rw[M5,l1];exact hi),Mg]
  obtain⟨v,d',h1,h2,h3⟩:=r.lt hi
  rw[h2]at e
  cases e
  exact⟨v,by rw[h1];rfl,h3⟩
 ·rw[List.getElem?_append_right (by rw[M5];omega),M5]at e
  rw[List.getElem?_append_right (by rw[M5];omega)]
  simp only[M5,l1]
  by_cases hj:i - ds.length<ws.length
  ·rw[List.getElem?_append_left (by rw[M5];exact hj),Mg]at e
   rw[List.getElem?_append_left (by rw[M5,l2];exact hj),Mg]
   obtain⟨v,d',h1,h2,h3⟩:=r2.lt hj
   rw[h2]at e
   cases e
   exact⟨v,by rw[h1];rfl,h3⟩
  ·rw[List.getElem?_append_right (by rw[M5];omega),List.getElem?_replicate]at e
   split at e <;> cases e
theorem FK{G:AG}{H:Hp}{c:Addr}{d:Dat}(g:RelG K G H)(e:G c=some (.cel d)):∃(o:Obj) (u:Value) (v:V),H c=some (.frz o (.own c))∧o.data = .cell (some u)∧RelV v u∧Rep K H v d:=g.g c _ e
theorem jo{G:AG}{H:Hp}(g:RelG K G H):∀{cl:List Addr} {ws:List Dat},ws.length=cl.length→(∀(j:Nat) (c:Addr) (d:Dat),cl[j]?=some c→ws[j]?=some d→G c=some (.cel d))→
  cw H cl∧∃wv:List V,Reps K H wv ws∧∀(j:Nat) (c:Addr) (v:V),cl[j]?=some c→wv[j]?=some v→∃(o:Obj) (u:Value),H c=some (.frz o (.own c))∧o.data = .cell (some u)∧RelV v u
 |[],[],_,_=>⟨(fun c h=>nomatch h),[],.nil,fun j c v h=>by simp at h⟩
 |c :: cl,d :: ws,hl,h=>by
  obtain⟨o,u,v,h1,h2,h3,h4⟩:=FK g (h 0 c d rfl rfl)
  obtain⟨i1,wv,i2,i3⟩:=jo g (cl:=cl) (ws:=ws) (by simpa using hl) fun j c' d' e1 e2=>h (j+1) c' d' (by simpa using e1) (by simpa using e2)
  refine⟨fun b hb=>?_,v :: wv,.cons h4 i2,fun j c' v' e1 e2=>?_⟩
  ·rcases List.mem_cons.mp hb with rfl|hb
   ·exact⟨o,h1⟩
   ·exact i1 b hb
  ·cases j with
   |zero=>simp at e1 e2;subst e1 e2;exact⟨o,u,h1,h2,h3⟩
   |succ j=>exact i3 j c' v' (by simpa using e1) (by simpa using e2)
 |[],_ :: _,hl,_=>by simp at hl
 |_ :: _,[],hl,_=>by simp at hl
theorem lP{G' G:AG}{cl:List Addr}{b:Addr}(h:b∈cl):mK G' G cl b=G b:=if_pos h
theorem fe{G' G:AG}{cl:List Addr}{b:Addr}(h:b ∉ cl):mK G' G cl b=G' b:=if_neg h
theorem iJ{G:AG}{H:Hp}(g:RelG K G H){c:Addr}(h:H c=none):G c=none:=by
 cases e:G c with
 |none=>rfl
 |some u =>
  have z:=g.g c u e
  cases u with
  |lst ds=>obtain⟨_,z,_⟩:=z;rw[h]at z;cases z
  |dk kv=>obtain⟨_,z,_⟩:=z;rw[h]at z;cases z
  |ins C fs=>obtain⟨_,_,z,_⟩:=z;rw[h]at z;cases z
  |cel d=>obtain⟨_,_,_,z,_⟩:=z;rw[h]at z;cases z
theorem la(hf:∀L,Tb.is q L→GF lw L=true)(hfr:Tb.fr q=lw.fr)(tb:TbOk P w K mg base Γ k)(hw:∀cl ds G Q X,cl.length=lw.fr.length→LE.con cl ds G Q X→Ks Γ lw cl ds G Q X):LamOk P w K mg base (k+1) q LE:=by
 intro f cl A outer s H us vs Q E hr e0 r ⟨ds,G,Qa,Ea,rf,rv,rg,hc,hp,hx⟩
 obtain⟨f',c',L,qual,clos,hf',hi,hcl,hfo,hco⟩:∃(f' c':Addr) (L:mS) (qual:Str) (clos:List (Str × Addr)),f'=f∧Tb.is q L∧Cv (Tb.fr q) cl clos∧H f=some (FnB f L qual clos c')∧H c'=some (LamX.CodeO c' qual):=by
  cases rf with
  |clo a b c d=>exact⟨_,_,_,_,_,rfl,a,b,c,d⟩
 rw[hfr]at hcl
 obtain⟨hdl,ws,hws,hcel,hwe⟩:=hw cl ds G Qa Ea hcl.len hc
 have hfit:=hf L hi
 obtain⟨params,body,scope⟩:=L
 unfold GF at hfit
 cases body with
 |stmts l=>cases hfit
 |expr b =>
  simp only[M3]at hfit
  obtain⟨⟨hs,hps⟩,hcor⟩:=hfit
  have S:=nscope_by hs
  obtain⟨⟨od,sl,name,doc,pm,ctv,ho⟩,_,_⟩:=e0.hok f _ hfo
  obtain⟨⟨oc,cvs,ct,hoc,hdc,hvc⟩,_,_⟩:=e0.hok c' _ hco
  obtain⟨cin,wv,hwv,hcv⟩:=jo rg (by rw[hws,hcl.len]) hcel
  have nfr:∀c∈cl,c ∉ frs outer:=fun c hc z=>by
   obtain⟨o,q⟩:=cin c hc
   rw[e0.frf c z]at q;cases q
  have nb:∀c∈cl,base.get? c=none:=fun c hc=>by
   cases q:base.get? c with
   |none=>rfl
   |some o=>obtain⟨o',q'⟩:=cin c hc;rw[(e0.bs c o q).2]at q';cases q'
  have gone:∀c∈cl,∃o,H c=some (.frz o (.own c))∧s.heap.get? c=some o:=fun c hc=>by
   obtain⟨o,z⟩:=cin c hc
   exact⟨o,z,(show ObjOk P w H s.heap c (.frz o (.own c)) from e0.hok c _ z).1⟩
  have st:=gq cin
  have eD:=uZ e0 cin
  have lwv:wv.length=lw.fr.length:=by rw[hwv.length,hws]
  have lvs:vs.length=lw.ps.length:=by rw[rv.length,hdl]
  have F:NF:=⟨name,qual,params,[],scope,clos,c'⟩
  have C:CellsAt clos lw.fr (wv.map some) s.heap (bc H cl):=by
   refine⟨by rw[M5,lwv],fun y c e=>?_,hcl.inj,fun j y e=>?_⟩
   ·obtain⟨j,h1,h2⟩:=hcl.of y c e
    have hm:=List.mem_of_getElem? h2
    refine⟨aU hm,?_⟩
    obtain⟨o,h3,h4⟩:=gone c hm
    have hj:j<wv.length:=by rw[lwv];exact (List.getElem?_eq_some_iff.mp h1).1
    obtain⟨o',u,k1,k2,k3⟩:=hcv j c _ h2 (Me hj)
    rw[h3]at k1
    cases k1
    exact⟨_,o,h4,k2⟩
   ·have hj:j<cl.length:=by rw[hcl.len];exact (List.getElem?_eq_some_iff.mp e).1
    refine⟨_,hcl.to j y _ e (Me hj),fun v hv=>?_⟩
    rw[Mg]at hv
    have hv:wv[j]?=some v:=by
     cases q:wv[j]? with
     |none=>rw[q]at hv;cases hv
     |some a=>rw[q]at hv;simp at hv;rw[hv]
    obtain⟨o,u,k1,k2,k3⟩:=hcv j _ v (Me hj) hv
    obtain⟨o',h3,h4⟩:=gone _ (List.getElem_mem hj)
    rw[h3]at k1
    cases k1
    exact⟨u,k3,_,h4,k2⟩
  have gB:∀{G':AG} {H':Hp},Fra (u9 G cl) (bc H cl) G' H'→RelG K G' H'→(∀c∈cl,H' c=none)→Fra G H (mK G' G cl) (dh H' H cl)∧RelG K (mK G' G cl) (dh H' H cl)∧Stab H' (dh H' H cl):=fun {G' H'} f1 g1 hn=>by
   have no:∀b u,H' b=some u→b ∉ cl:=fun b u z1 z2=>by rw[hn b z2]at z1;cases z1
   have sb:Stab H' (dh H' H cl):=⟨fun b xs z=>by rw[av (no b _ z)];exact z,fun b o xs z=>by rw[av (no b _ z)];exact z,fun b φ z=>by rw[av (no b _ z)];exact z,fun b o xs z=>by rw[av (no b _ z)];exact z,fun b o xs z=>by rw[av (no b _ z)];exact z⟩
   have sH:Stab H (dh H' H cl):=by
    have s1:Stab H (bc H cl):=st
    have rD:RelG K (u9 G cl) (bc H cl):=⟨fun a o e=>by
     unfold u9 at e
     split at e
     ·cases e
     ·rename_i ha
      exact (rg.g a o e).mono s1 (ad ha),dS rg.t cin⟩
    exact (s1.trans (f1.stab rD)).trans sb
   refine⟨fun a o e t n=>?_,⟨fun a o e=>?_,?_⟩,sb⟩
   ·by_cases ha:a∈cl
    ·rw[dg ha,lP ha];exact⟨e,n⟩
    ·rw[av ha,fe ha]
     exact f1 a o (by rw[ad ha];exact e) t (by unfold u9;rw[if_neg ha];exact n)
   ·by_cases ha:a∈cl
    ·rw[lP ha]at e
     exact (rg.g a o e).mono sH (dg ha)
    ·rw[fe ha]at e
     exact (g1.g a o e).mono sb (av ha)
   ·exact g1.t.ext fun b o e=>by rw[av (no b _ e)];exact e
  let Qd:VK:=fun v H'=>(∀c∈cl,H' c=none)→Q v (dh H' H cl)
  let Ed:XK:=fun c d H'=>(∀c∈cl,H' c=none)→E c d (dh H' H cl)
  have go:codeAny (model P w) A (.call (.ref f) ⟨us,[]⟩) (CR (L2N.CX P w) outer P w (bc H cl) s Qd Ed) s:=by
   refine PySem.W.kla_callFunE hr.depth ho rfl S.co S.gen rfl ⟨c',oc,cvs,ct,rfl,hoc,hdc,hvc⟩ ?_
   rw[lY hps _ rfl rfl rfl us (by rw[←r.length];exact lvs)]
   have lim:s.heap.NoLimit:=e0.mod.nolimit.keeps fun b o e=>(e0.bs b o e).1
   refine wpAny_pure (wpAny_newFunctionEnv S.nocell (fun ⟨n,_⟩ hy=>S.par n (List.of_mem_zip hy).1) (fun h₁ hns hsb=>⟨lim.fresh _ hsb,?_⟩) S.kind)
   have kp:∀b o,s.heap.get? b=some o→h₁.get? b=some o:=fun b o e=>hsb.extBut b o (Nat.ne_of_lt (Heap.lt_size e)) (Heap.get?_push_of_some _ e)
   have I:Inv (ncx (L2N.CX P w) P w K mg base lw.N ⟨name,qual,params,[],scope,clos,c'⟩ f A outer s (bc H cl) Ed) [] (startF lw.N vs (wv.map some)) (bc H cl) {s with heap:=h₁,toks:=s.toks+(lw.ps.zip us).length} :=
    inv_startN (F:=⟨name,qual,params,[],scope,clos,c'⟩) S hr.hd eD lvs r C hns kp
   have rD:RelG K (u9 G cl) (bc H cl):=⟨fun a o e=>by
    unfold u9 at e
    split at e
    ·cases e
    ·rename_i ha
     exact (rg.g a o e).mono st (ad ha),dS rg.t cin⟩
   have oc':Oc (ncx (L2N.CX P w) P w K mg base lw.N ⟨name,qual,params,[],scope,clos,c'⟩ f A outer s (bc H cl) Ed) (fun cls d _ H=>Ed cls d H) (Γ.cells (csL lw.ps.length cl)) k :=
    ⟨hr.deeper _,S.nd,rfl,L2N.takes_of rfl rfl rfl rfl,tb.cells _⟩
   have ck:bz (ncx (L2N.CX P w) P w K mg base lw.N ⟨name,qual,params,[],scope,clos,c'⟩ f A outer s (bc H cl) Ed) {N:=lw.N,sc:=scope,top:=true} (Γ.cells (csL lw.ps.length cl)):=by
    refine⟨rfl,rfl,fun _ x hx _=>absurd rfl (S.nocell _ (PySem.mem_of_lookup (dE hx))),fun _ i c e=>?_,(fun _ _ z=>by cases z),fun z=>by cases z⟩
    have e:(if lw.ps.length≤i then cl[i - lw.ps.length]? else none)=some c:=e
    split at e
    ·rename_i hle
     have hj:i - lw.ps.length<lw.fr.length:=by rw[←hcl.len];exact (List.getElem?_eq_some_iff.mp e).1
     have hN:lw.N[i]?=lw.fr[i - lw.ps.length]?:=by
      have q:(lw.N.take (lw.ps.length+lw.fr.length))[i]?=(lw.ps++lw.fr)[i]?:=congrArg (fun l=>l[i]?) S.pre
      rw[List.getElem?_append_right hle,List.getElem?_take_of_lt (by omega)]at q
      exact q
     have hy:=Me hj
     have fk:=S.frk _ (List.getElem_mem hj)
     refine⟨_,hN.trans hy,.inr (.inr fk),.inr fk,hcl.to _ _ c hy e,fun {pn xe pins σ H' s'} J=>?_⟩
     have hm:=List.mem_of_getElem? e
     refine⟨nb c hm,fun z=>?_⟩
     rcases List.mem_cons.mp (J.stkSub c z)with z|z
     ·exact J.cne _ c (hcl.to _ _ c hy e) z
     ·exact nfr c hm z
    ·cases e
   refine PySem.W.kla_codeExpr (wpAny_mono ((okE lw.e b oc' ck hcor).run [] _ _ (bc H cl) Qd I ⟨eJ lw.N ds ws,u9 G cl,_,_,jK (rv.mono st) (hwv.mono st),rD,hwe,fun d G' v H' f1 g1 r1 q1 hn=>?_,fun c fs G' dx H' f1 g1 r1 q1 hn=>?_⟩) (fun v s' hq=>?_) fun e s' hq=>hq)
   ·obtain⟨G0,s0,q1⟩:=q1 fun c hc=>iJ g1 (hn c hc)
    obtain⟨f2,g2,sb⟩:=gB f1 g1 hn
    exact hp d G0 v _ (f2.trans (.sub s0)) (g2.sub s0) (r1.mono sb) q1
   ·obtain⟨G0,s0,q1⟩:=q1 fun c hc=>iJ g1 (hn c hc)
    obtain⟨f2,g2,sb⟩:=gB f1 g1 hn
    refine hx c fs G0 dx _ (f2.trans (.sub s0)) (g2.sub s0) ?_ q1
    cases dx with
    |none=>exact r1
    |some d =>
     obtain⟨vf,h1,h2⟩:=r1
     have nd:d ∉ cl:=fun z=>by rw[hn d z]at h1;cases h1
     exact⟨vf,by rw[av nd];exact h1,KRel.mono sb h2⟩
   ·obtain⟨v',H',J,rv',q'⟩:=hq
    exact⟨v',H',J.os,J.bare,J.base,J.hok,rv',q'⟩
  refine codeAny_mono go fun r s' hq=>?_
  cases r with
  |error e=>exact Cc e0.hok cin nfr (fun c d H' q a=>q a) hq
  |ok fl =>
   cases fl with
   |ret u=>exact Cj e0.hok cin nfr (fun v H' q a=>q a) hq
   |next=>exact False.elim hq
   |brk=>exact False.elim hq
   |cont=>exact False.elim hq
end
end Av
namespace Av
variable [Tb]
theorem noneG.tail{cs:Nat→Option Addr}{i:Nat}{ls:List Nat}{G:AG}(h:noneG cs (i :: ls) G):noneG cs ls G :=
 fun j hj c hc=>⟨(h j (Mj _ hj) c hc).1,fun k hk e=>(h j (Mj _ hj) c hc).2 k (Mj _ hk) e⟩
end Av
namespace Av
variable [Tb]
inductive vK:St→Dat→Prop
 |put {c:Int} {q:Nat}:vK (.put [c] q) (.tup [.int c,.non,.int ((q:Nat):Int)])
 |err {e:Nat} {w:Str}:vK (.err [] e w) (.tup [.non,.str w,.int ((e:Nat):Int)])
 |stop {e:Int}:vK .stop (.tup [.non,.non,.int e])
structure Stp where
 st:List Int→Bool→Nat→St
 vs:List Int→Bool→List Dat
def told(G:AG)(cl:List Addr)(ws:List Dat):Prop:=∀(j:Nat) (c:Addr) (d:Dat),cl[j]?=some c→ws[j]?=some d→G c=some (.cel d)
def Da(s:Stp)(cl:List Addr):Con:=fun ds G Q X=>∃P fin p,ds=[.int ((p:Nat):Int)]∧POk P∧p<P.length∧cl.length=(s.vs P fin).length∧told G cl (s.vs P fin)∧∀d,vK (s.st P fin p) d→Q d G
def KF(s:Stp):il:={con:=Da s,ar:=1,len:=fun cl ds G Q X ⟨_,_,_,h,_⟩=>by rw[h];rfl}
structure RsG(Γ:Gam)(AS:Addr→fq→Prop)(ST:Nat→Option Stp):Prop where
 xD:Γ.xc "DecodeError" =some dD
 ask:Γ.ms "Answers" "ask" =some (qk AS)
 ok:∀a A,AS a A→kj A
 ans:∀a A G l,AS a A→A.inv G l→∃fs,G a=some (.ins "Answers" fs)∧fs.lookup ("ask" : Str)=none
 code:∀a A l x cs q,AS a A→x.Ok→A.H l x = .ok cs q→q≤x.src.length
 lam:∀q s,ST q=some s→Γ.lam q=some (KF s)
end Av
namespace Av
variable [Tb]
def nY:Str := "character maps to <undefined>"
structure L4(d:Dat)(tb:Int→Option (List Int)):Prop where
 at_:∃ks ds,d = .dz ks ds∧∀b,0≤b→b≤255→au (ks.zip ds) (.inl b)=(tb b).map fun cs=>.tup (di cs)
 few:∀b cs,tb b=some cs→cs.length≤4
structure CrG(Γ:Gam)(AS:Addr→fq→Prop):Prop where
 xD:Γ.xc "DecodeError" =some dD
 ask:Γ.ms "Answers" "ask" =some (qk AS)
 ok:∀a A,AS a A→kj A
 ans:∀a A G l,AS a A→A.inv G l→∃fs,G a=some (.ins "Answers" fs)∧fs.lookup ("ask" : Str)=none
 code:∀a A l x cs q,AS a A→x.Ok→A.H l x = .ok cs q→q≤x.src.length
 und:Γ.gl "UNDEFINED" =some (.str nY)
def LV(G:AG)(c r:Addr)(nm:Str)(tb bk:Dat):Prop:=G c=some (.ins "Codec" (cmF (.ref r) nm tb bk))
def Iz:Dat→Int
 |.int i=>i
 |_=>0
theorem mT(l:List (Key × Dat)):(l.map (·.1)).zip (l.map (·.2))=l:=by
 induction l with
 |nil=>rfl
 |cons p l ih=>simp only[Mc,List.zip_cons_cons,ih]
end Av
namespace Av
variable [Tb]
inductive Sw where
 |put(cs:List Int)(q:Nat)
 |err(pre:List Int)(m e:Nat)
def stW(K:Wk)(esc:Bool)(src:List Int)(p:Nat):Sw:=match K.oc (src.getD p 0)with
 |some bs=>.put bs (p+1)
 |none=>if FB esc src p (tu K.oc src p)=tu K.oc src p then .put (((src.drop p).take (FB esc src p (tu K.oc src p) - p)).map (· - 56320)) (tu K.oc src p)
  else .err (((src.drop p).take (FB esc src p (tu K.oc src p) - p)).map (· - 56320)) (FB esc src p (tu K.oc src p)) (tu K.oc src p)
def exW(K:Wk)(src:List Int)(m e:Nat):Ex:=⟨true,K.cdc,src,m,e,K.why⟩
def JB(lim:Int)(x:Ex):An2→An
 |.text cs q=>if (cs.all fun c=>decide (c<lim))=true then .ok cs q else .raise "EncodeError" x.fs
 |.bytes cs q=>.ok cs q
 |.raise C fs=>.raise C fs
inductive Wd(K:Wk)(esc:Bool)(src:List Int)(H:List Ex→Ex→An2):Nat→List Ex→Nat→List Int→List Ex→RO→Prop
 |fin {l p acc}:src.length≤p→Wd K esc src H 0 l p acc l (.val acc src.length)
 |put {n l p acc l' o cs q}:p<src.length→stW K esc src p = .put cs q→(acc++cs).length≤90000→Wd K esc src H n l q (acc++cs) l' o→Wd K esc src H (n+1) l p acc l' o
 |ask {n l p acc l' o pre m e cs q}:p<src.length→stW K esc src p = .err pre m e→JB K.lim (exW K src m e) (H l (exW K src m e)) = .ok cs q→(acc++pre++cs).length≤90000→Wd K esc src H n (l++[exW K src m e]) q (acc++pre++cs) l' o→Wd K esc src H (n+1) l p acc l' o
 |exc {l p acc pre m e C fs}:p<src.length→stW K esc src p = .err pre m e→JB K.lim (exW K src m e) (H l (exW K src m e)) = .raise C fs→Wd K esc src H 0 l p acc (l++[exW K src m e]) (.exc C fs)
structure SOk(src:List Int):Prop where
 cd:∀c∈src,a0 c
 len:src.length≤9000
section
variable {K:Wk} {esc:Bool} {src:List Int} {H:List Ex→Ex→An2} {n p:Nat} {l l':List Ex} {acc:List Int} {o:RO}
end
def vp:Con:=fun ds G Q X=>∃src s e a fs nm,ds=[.tup (di src),.int ((s:Nat):Int),.int ((e:Nat):Int),.ref a]∧G a=some (.ins "Answers" fs)∧fs.lookup ("errors" : Str)=some (.str nm)∧s≤e∧e≤src.length∧Q (.int ((FB (decide (nm = "surrogateescape")) src s e:Nat):Int)) G
def uP:FnE:={con:=vp,ar:=4,len:=fun ds G Q X ⟨_,_,_,_,_,_,h,_⟩=>by rw[h];rfl}
def GS(K:Wk):Dat:=.tup [.str K.cdc,.str K.why,.int K.lim]
def Jc(A:bu):Bool:=decide (A.nm = "surrogateescape")
def FL(AS:Addr→bu→Prop):Con:=fun ds G Q X=>∃K src p a A l,ds=[.tup (di src),.int ((p:Nat):Int),.int ((tu K.oc src p:Nat):Int),.ref a,GS K]∧AS a A∧A.inv G l∧SOk src∧Kl K∧p<src.length∧K.oc (src.getD p 0)=none∧(∀pre m e,stW K (Jc A) src p = .err pre m e→A.free=true∨l.length<60000)∧
 match stW K (Jc A) src p with
 |.put cs q=>Q (.tup [.lst (di cs),.int ((q:Nat):Int)]) G
 |.err pre m e=>∀G',KeepO A.foot G G'→A.inv G' (l++[exW K src m e])→match JB K.lim (exW K src m e) (A.H l (exW K src m e))with
  |.ok cs q=>pre.length+cs.length≤90000∧Q (.tup [.lst (di (pre++cs)),.int ((q:Nat):Int)]) G'
  |.raise C fs=>X C fs G'
def Ft(AS:Addr→bu→Prop):FnE:={con:=FL AS,ar:=5,len:=fun ds G Q X ⟨_,_,_,_,_,_,h,_⟩=>by rw[h];rfl}
structure WrG(Γ:Gam)(AS:Addr→bu→Prop):Prop where
 xE:Γ.xc "EncodeError" =some dD
 ask:Γ.ms "Answers" "ask" =some (xr AS)
 again:Γ.ms "Answers" "again" =some fX
 oe:Γ.fn "own_escapes_end" =some uP
 ok:Cw AS
def roB(o:RO)(G:AG)(Q:AQ)(X:AX):Prop:=match o with
 |.val cs _=>Q (.tup (di cs)) G
 |.exc C fs=>X C fs G
def ocD:Option (List Int)→Dat
 |none=>.non
 |some bs=>.lst (di bs)
def ocL(K:Wk):il:={con:=fun _ ds G Q X=>∃c,ds=[.int c]∧a0 c∧Q (ocD (K.oc c)) G,ar:=1,len:=fun cl ds G Q X ⟨_,h,_⟩=>by rw[h];rfl}
structure WsG(Γ:Gam)(AS:Addr→bu→Prop)(OT:Nat→Option Wk):Prop where
 run:Γ.fn "written_run" =some (Ft AS)
 ok:Cw AS
 lam:∀q K,OT q=some K→Γ.lam q=some (ocL K)
end Av
namespace Av
variable [Tb]
def Ju:Con:=fun ds G Q X=>∃w,ds=[.str w]∧w.length≤1000∧Q (.ktp (di (Cg w))) G
def I0:FnE:={con:=Ju,ar:=1,len:=fun ds G Q X ⟨_,h,_⟩=>by rw[h];rfl}
def anD:An→Dat
 |.ok cs q=>.tup [.tup (di cs),.int (q:Nat)]
 |.raise _ _=>.non
def C1(l:List Er):List Dat:=l.map Er.tupD
def FQ(OKH:Dat→(List Er→Er→An)→Prop):Con:=fun ds G Q X=>∃how H L l x,OKH how H∧ds=[how,.ref L,Er.tupD x]∧x.Ok∧au vS (.inr x.cdc)=none∧G L=some (.lst (C1 l))∧l.length≤90000∧Q (anD (H l x)) (gu G L (.lst (C1 (l++[x]))))
def Fw(OKH:Dat→(List Er→Er→An)→Prop):FnE:={con:=FQ OKH,ar:=3,len:=fun ds G Q X ⟨_,_,_,_,_,_,h,_⟩=>by rw[h];rfl}
def Cn(kd:Kd)(OKH:Dat→(List Er→Er→An)→Prop):Con:=fun ds G Q X=>∃how H l x C fs,OKH how H∧H l x = .raise C fs∧ds=[how,Er.tupD x]∧Q ((kd C fs).getD .non) G
def BQ(kd:Kd)(OKH:Dat→(List Er→Er→An)→Prop):FnE:={con:=Cn kd OKH,ar:=2,len:=fun ds G Q X ⟨_,_,_,_,_,_,_,_,h,_⟩=>by rw[h];rfl}
end Av
namespace Av
variable [Tb]
end Av
namespace Av
variable [Tb]
def GT(t:Tk)(p:Nat)(cut:Bool):Dat:=.tup [.int ((p+t.e:Nat)),.tup (di t.codes),JO t.why,.bl cut]
def Lw(P:List Int)(p:Nat)(s:Int):Bool:=decide ((r9 (fz s) 0 (P.drop (p+2))).2<fz s∧p+2+(r9 (fz s) 0 (P.drop (p+2))).2=P.length)
def FO:Con:=fun ds G Q X=>∃P p s w,ds=[.tup (di P),.int (p:Nat),.str w]∧(s=120∨s=117∨s=85)∧P[p+1]?=some s∧P.length≤100000∧Q (GT (GE s (P.drop (p+2)) w) p (Lw P p s)) G
def Fv:FnE:={con:=FO,ar:=3,len:=fun ds G Q X ⟨_,_,_,_,h,_⟩=>by rw[h];rfl}
def Lx(T:List Int→Tk)(r:List Int):Bool:=decide (r=[])|| match (T r).why with
 |some w=>decide ((T r).e=r.length+1∧w ∉ Ke)
 |none=>false
def FN(T:List Int→Tk):Con:=fun ds G Q X=>∃P p,ds=[.tup (di P),.int (p:Nat)]∧p<P.length∧P.length≤100000∧Q (GT (T (P.drop (p+1))) p (Lx T (P.drop (p+1)))) G
def w8(T:List Int→Tk):FnE:={con:=FN T,ar:=2,len:=fun ds G Q X ⟨_,_,h,_⟩=>by rw[h];rfl}
def vr:Con:=fun ds G Q X=>∃P p,ds=[.tup (di P),.int (p:Nat)]∧p+2≤P.length∧P.length≤100000∧Q (GT (oU (P.drop (p+2))) p (match (oU (P.drop (p+2))).why with|some w=>decide ((oU (P.drop (p+2))).e=(P.drop (p+2)).length+2∧w ∉ Ke)|none=>false)) G
def uR:FnE:={con:=vr,ar:=2,len:=fun ds G Q X ⟨_,_,h,_⟩=>by rw[h];rfl}
structure LnG(Γ:Gam):Prop where
 text:Γ.fn "_law_text" =some I0
 hex:Γ.fn "_law_hex" =some Fv
 named:Γ.fn "_law_named" =some uR
structure L7(Γ:Gam)(kd:Kd)(OKH:Dat→(List Er→Er→An)→Prop):Prop where
 raw:Γ.fn "_law_raw" =some (w8 KO)
 JY:Γ.fn "_law_near" =some (w8 IA)
 ask:Γ.fn "_law_asked" =some (Fw OKH)
 rai:Γ.fn "_law_raised" =some (BQ kd OKH)
end Av
namespace Av
variable [Tb]
theorem Kz(lo hi:Nat)(h:lo≤hi)(z:Int)(hz:0≤z):∃m:Nat,(if (if z<(hi:Int) then z else (hi:Int)) > (lo:Int) then if z<(hi:Int) then z else (hi:Int) else (lo:Int))=(m:Int)∧m≤hi:=by
 by_cases a:z<hi
 ·rw[if_pos a]
  by_cases b:z > lo
  ·exact⟨z.toNat,by rw[if_pos b];omega,by omega⟩
  ·exact⟨lo,by rw[if_neg b],by omega⟩
 ·rw[if_neg a]
  by_cases b:(hi:Int) > lo
  ·exact⟨hi,by rw[if_pos b],by omega⟩
  ·exact⟨lo,by rw[if_neg b],by omega⟩
def Er.told(x:Er):Prop:=PyData.strOk x.cdc=true∧PyData.strOk x.why=true
def Er.py(x:Er):PyData:=.tuple [.str "decode",.str x.cdc,.tuple (x.src.map PyData.int),.int (x.s:Nat),.int (x.e:Nat),.str x.why]
end Av
namespace Av
variable [Tb]
structure Rw where
 by_:Bool
 ls:Bool
 cs:List Int
 w:Nat
def Rw.z(r:Rw):Dat:=if r.ls=true then .lst (di r.cs) else .tup (di r.cs)
def Rw.wd(r:Rw):Str:=if r.by_=true then "bytes" else "text"
structure Rw.Ok(r:Rw):Prop where
 cs:∀c∈r.cs,a0 c
 oct:r.by_=true→∀c∈r.cs,c≤255
 len:r.cs.length≤3
 w:r.w<9
structure LM(rows:List Rw):Prop where
 ok:∀r∈rows,r.Ok
 len:rows.length≤8
end Av
namespace Av
variable [Tb]
inductive Md where
 |own(rows:List Rw)
 |kn(nm:Str)
end Av
namespace Av
variable [Tb]
structure EnG(Γ:Gam)(LT:Nat→Option il):Prop where
 lam:∀q L,LT q=some L→Γ.lam q=some L∧L.ar=0
 x1:Γ.xc "EncodeError" =some dD
 x2:Γ.xc "DecodeError" =some dD
 x3:Γ.xc "BadAnswer" =some []
 m11:Tb.xm "EncodeError" "EncodeError" =some true
 m21:Tb.xm "DecodeError" "EncodeError" =some false
 m22:Tb.xm "DecodeError" "DecodeError" =some true
 m31:Tb.xm "BadAnswer" "EncodeError" =some false
 m32:Tb.xm "BadAnswer" "DecodeError" =some false
 m33:Tb.xm "BadAnswer" "BadAnswer" =some true
end Av
namespace Av
variable [Tb]
end Av
namespace Av
variable [Tb]
def vn(AS:Addr→bu→Prop)(K:Wk):Con:=fun ds G Q X=>∃src a A n l o,ds=[.tup (di src),.ref a]∧AS a A∧A.inv G []∧SOk src∧Wd K (Jc A) src A.H n [] 0 [] l o∧(A.free=true∨l.length≤60000)∧∀G',KeepO A.foot G G'→A.inv G' l→roB o G' Q X
def uM(AS:Addr→bu→Prop)(K:Wk):FnE:={con:=vn AS K,ar:=2,len:=fun ds G Q X ⟨_,_,_,_,_,_,h,_⟩=>by rw[h];rfl}
end Av
namespace Av
variable [Tb]
end Av
namespace Av
variable [Tb]
end Av
namespace Av
variable [Tb]
structure LZ(Γ:Gam)(Fam:r7→Prop):Prop where
 o:JL Γ Fam
 hnd:∀nm h,au pC (.inr nm)=some (.gf h)→Γ.fn h=some (gX nm)
end Av
namespace Av
variable [Tb]
structure WxG(Γ:Gam)(AS:Addr→bu→Prop)(K:Wk):Prop where
 fn:Γ.fn K.fnm=some (uM AS K)
 k1:decide (K.kind = "charmap")=false
 k2:au kw (.inr K.kind)=some (.gf K.fnm)
structure MkW(AS:Addr→bu→Prop)(G:AG)(r:Addr)(nm:Str)(mk:Addr→bu)(H:List Ex→Ex→An2):Prop where
 as:∀a,G a=none→AS a (mk a)
 inv:∀a,G a=none→(mk a).inv (gu G a (.ins "Answers" (Kk (.ref r) (.str nm) .non))) []
 h:∀a,(mk a).H=H
 nm:∀a,(mk a).nm=nm
end Av
namespace Av
variable [Tb]
def KC(oc:Int→Option (List Int)):Wk:=⟨"charmap","","charmap",nY,0,oc⟩
def exC(oc:Int→Option (List Int))(src:List Int)(p:Nat):Ex:=exW (KC oc) src p (tu oc src p)
def Kj(oc:Int→Option (List Int))(x:Ex):An2→An
 |.text cs q=>if (cs.all fun c=>(oc c).isSome)=true then .ok (cs.flatMap fun c=>(oc c).getD []) q else .raise "EncodeError" x.fs
 |.bytes cs q=>.ok cs q
 |.raise C fs=>.raise C fs
inductive Wc(oc:Int→Option (List Int))(src:List Int)(H:List Ex→Ex→An2):Nat→List Ex→Nat→List Int→List Ex→RO→Prop
 |fin {l p acc}:src.length≤p→Wc oc src H 0 l p acc l (.val acc src.length)
 |put {n l p acc l' o cs}:p<src.length→oc (src.getD p 0)=some cs→(acc++cs).length≤90000→Wc oc src H n l (p+1) (acc++cs) l' o→Wc oc src H (n+1) l p acc l' o
 |ask {n l p acc l' o cs q}:p<src.length→oc (src.getD p 0)=none→Kj oc (exC oc src p) (H l (exC oc src p)) = .ok cs q→(acc++cs).length≤90000→Wc oc src H n (l++[exC oc src p]) q (acc++cs) l' o→Wc oc src H (n+1) l p acc l' o
 |exc {l p acc C fs}:p<src.length→oc (src.getD p 0)=none→Kj oc (exC oc src p) (H l (exC oc src p)) = .raise C fs→Wc oc src H 0 l p acc (l++[exC oc src p]) (.exc C fs)
section
variable {oc:Int→Option (List Int)} {src:List Int} {H:List Ex→Ex→An2} {n p:Nat} {l l':List Ex} {acc:List Int} {o:RO}
end
structure Ma(d:Dat)(oc:Int→Option (List Int)):Prop where
 at_:∃ks ds,d = .dz ks ds∧∀c,au (ks.zip ds) (.inl c)=(oc c).map fun cs=>.tup (di cs)
 ok:Kl (KC oc)
structure CwG(Γ:Gam)(AS:Addr→bu→Prop):Prop where
 xE:Γ.xc "EncodeError" =some dD
 ask:Γ.ms "Answers" "ask" =some (xr AS)
 again:Γ.ms "Answers" "again" =some fX
 und:Γ.gl "UNDEFINED" =some (.str nY)
 ok:Cw AS
end Av
namespace Av
variable [Tb]
abbrev Row:=List (Option Int)
def enD:Option Int→Dat
 |some c=>.int c
 |none=>.non
def KM(r:Row):List Dat:=r.map enD
structure LN(r:Row):Prop where
 len:r.length≤256
 cod:∀c,some c∈r→0≤c∧c≤1114111
def prF:Nat→Row→List Pr
 |_,[]=>[]
 |k,e :: r=>(((k:Nat):Int),enD e) :: prF (k+1) r
def prR(r:Row):List Pr:=prF 0 r
theorem so{ps:List Pr}(hg:TbG ps):∀p∈sr ps,∃o,p.2 = .int o∧0≤o∧o≤255:=by
 have key:∀(l acc:List Pr),(∀p∈l,p∈ps)→(∀p∈acc,∃o,p.2 = .int o∧0≤o∧o≤255)→∀p∈l.foldl ik acc,∃o,p.2 = .int o∧0≤o∧o≤255:=by
  intro l
  induction l with
  |nil=>intro acc _ b;exact b
  |cons p l ih =>
   intro acc hl b
   rw[List.foldl_cons]
   refine ih _ (fun q hq=>hl q (by simp[hq])) fun q hq=>?_
   unfold ik at hq
   split at hq
   ·split at hq
    ·rcases eR hq with h|rfl
     ·exact b q h
     ·exact⟨p.1,rfl,hg.oct p (hl p (by simp))⟩
    ·exact b q hq
   ·exact b q hq
 exact key (b9 ps) [] (fun p hp=>cQ.1 hp) (fun p hp=>by cases hp)
def rng(a b:Nat):Row:=(List.range' a (b - a)).map fun i=>some ((i:Nat):Int)
def Je:Row:=[some 8364,none,some 8218,some 402,some 8222,some 8230,some 8224,some 8225,some 710,some 8240,some 352,some 8249,some 338,none,some 381,none,none,some 8216]++
 [some 8217,some 8220,some 8221,some 8226,some 8211,some 8212,some 732,some 8482,some 353,some 8250,some 339,none,some 382,some 376]
def Lg:List Int:=[9472,9474,9484,9488,9492,9496,9500,9508,9516,9524,9532,9600,9604,9608,9612,9616,9617,9618]
def Le:List Int:=[9619,8992,9632,8729,8730,8776,8804,8805,160,8993,176,178,183,247,9552,9553,9554]
def rgI(a b:Nat):List Int:=(List.range' a (b - a)).map fun i=>((i:Nat):Int)
def koiS:List Int:=[1102,1072,1073,1094,1076,1077,1092,1075,1093]++rgI 1080 1088++[1103]++rgI 1088 1092++[1078,1074,1100,1099,1079,1096,1101,1097,1095,1098]
def koiL:List Int:=Lg++Le++[1105]++rgI 9555 9570++[1025]++rgI 9570 9581++[169]++koiS++koiS.map (· - 32)
def latS:List (Nat × Int):=[(164,8364),(166,352),(168,353),(180,381),(184,382),(188,338),(189,339),(190,376)]
def Ld:Row:=latS.foldl (fun l p=>l.set (p.1 - 128) (some p.2)) (rng 128 256)
def D4(nm:Str):Row:=if nm = "cp1252" then rng 0 128++(Je++rng 160 256) else if nm = "koi8-r" then rng 0 128++koiL.map some else if nm = "iso8859-15" then rng 0 128++Ld else []
def knF(r:Dat)(nm:Str):List (Str × Dat):=if mr nm=true then cmF r nm (dzK (uI (b9 (prR (D4 nm))))) (dzK (uI (sr (prR (D4 nm))))) else Ki r nm nm
def KnC(G:AG)(c r:Addr)(nm:Str):Prop:=G c=some (.ins "Codec" (knF (.ref r) nm))
theorem KnC.cm{G:AG}{c r:Addr}{nm:Str}(h:KnC G c r nm)(ht:mr nm=true):LV G c r nm (dzK (uI (b9 (prR (D4 nm))))) (dzK (uI (sr (prR (D4 nm))))):=by
 unfold KnC knF at h
 rw[if_pos ht]at h
 exact h
theorem KnC.cod{G:AG}{c r:Addr}{nm:Str}(h:KnC G c r nm)(ht:mr nm=false):CodAt G c r nm:=by
 unfold KnC knF at h
 rw[ht,if_neg (by decide)]at h
 exact h
structure LK(Γ:Gam):Prop where
 at_:∃tb,Γ.dc "TABLES" =some tb∧(∀nm,mr nm=false→au tb (.inr nm)=none)∧∀nm,mr nm=true→au tb (.inr nm)=some (.tup (KM (D4 nm)))
theorem pj(Γ:Gam){w:LW}(hp:w.ps.length=1)(hf:w.fr.length=0)(hN:w.N.length=1)(he:w.e = .ix (.var 0) (.cst (.int 0))) :
  ∀(cl:List Addr) (ds:List Dat) (G:AG) (Q:AQ) (X:AX),cl.length=w.fr.length→lamKey.con cl ds G Q X→Ks Γ w cl ds G Q X:=by
 rintro cl ds G Q X hl ⟨rfl,i,e,rfl,hq⟩
 refine⟨hp.symm,[],hf.symm,fun j c d e _=>by simp at e,?_⟩
 have st:eJ w.N [Dat.tup [.int i,e]] []=[some (.tup [.int i,e])]:=by
  unfold eJ
  rw[hN]
  rfl
 rw[he,st]
 simp only[wE,M8,yn,xk,bN,exists_eq_left']
 refine fun _=>⟨G,fun b u e=>(by rw[fe (by simp)];unfold u9;rw[if_neg (by simp)];exact e),hq⟩
structure RegT(G:AG)(r q h:Addr)(m:Nat)(kv:List (Key × Dat)):Prop where
 w:∃kf,RegAt G r q kf∧kf.length≤m∧∀nn d,au kf (.inr nn)=some d→∃c nm,d = .ref c∧iX nn=some nm∧KnC G c r nm
 r_:G r=some (.ins "Registry" (CA q h))
 h_:G h=some (.dk kv)
 hq:h≠q
theorem RegT.k{G:AG}{r q h:Addr}{m:Nat}{kv:List (Key × Dat)}(R:RegT G r q h m kv):Gk G r kv:=⟨q,h,R.r_,R.h_⟩
theorem RegT.rq{G:AG}{r q h:Addr}{m:Nat}{kv:List (Key × Dat)}(R:RegT G r q h m kv):r≠q:=by
 obtain⟨kf,⟨h0,_⟩,_⟩:=R.w;exact h0
theorem RegT.q_{G:AG}{r q h:Addr}{m:Nat}{kv:List (Key × Dat)}(R:RegT G r q h m kv):∃kf,G q=some (.dk kf):=by
 obtain⟨kf,⟨_,h1,_⟩,_⟩:=R.w;exact⟨kf,h1⟩
theorem RegT.mono{G:AG}{r q h:Addr}{m n:Nat}{kv:List (Key × Dat)}(R:RegT G r q h m kv)(l:m≤n):RegT G r q h n kv:=by
 obtain⟨⟨kf,a,b,c⟩,d,e,f⟩:=R
 exact⟨⟨kf,a,Nat.le_trans b l,c⟩,d,e,f⟩
theorem RegT.sub{G G':AG}{r q h:Addr}{m:Nat}{kv:List (Key × Dat)}(R:RegT G r q h m kv)(s:Sub G G'):RegT G' r q h m kv:=by
 obtain⟨⟨kf,⟨h0,h1,hh,h2⟩,h3,h4⟩,d,e,f⟩:=R
 refine⟨⟨kf,⟨h0,s _ _ h1,hh,s _ _ h2⟩,h3,fun nn d e=>?_⟩,s _ _ d,s _ _ e,f⟩
 obtain⟨c,nm,k1,k2,k4⟩:=h4 nn d e
 exact⟨c,nm,k1,k2,s _ _ k4⟩
theorem RegT.nl{G G':AG}{r q h:Addr}{m:Nat}{kv:List (Key × Dat)}(R:RegT G r q h m kv)(s:NL G G'):RegT G' r q h m kv:=by
 obtain⟨⟨kf,⟨h0,h1,hh,h2⟩,h3,h4⟩,d,e,f⟩:=R
 refine⟨⟨kf,⟨h0,s _ _ h1 (by simp),hh,s _ _ h2 (by simp)⟩,h3,fun nn d e=>?_⟩,s _ _ d (by simp),s _ _ e (by simp),f⟩
 obtain⟨c,nm,k1,k2,k4⟩:=h4 nn d e
 exact⟨c,nm,k1,k2,s _ _ k4 (by simp)⟩
theorem RegX.t0{G:AG}{r q h:Addr}{kv:List (Key × Dat)}(R:RegX G r q h 0 kv):RegT G r q h 0 kv:=by
 obtain⟨⟨kf,a,b,c⟩,d,e,f⟩:=R
 have e0:kf=[]:=List.length_eq_zero_iff.1 (Nat.le_zero.1 b)
 subst e0
 exact⟨⟨[],a,M7 _,fun _ _ h=>by cases h⟩,d,e,f⟩
end Av
namespace Av
open PySem PySem.Spec PyProof.Rows L2 L2H HotX
section
variable {prog:Program} {w:World} {A:Around} {E:Value→Shared→Prop} {s:Shared}
theorem iu{it t x1:Addr}{i:Nat}{items:Array Value}{Q:Option Value→Shared→Prop}(hot:HotAt A x1 s.heap)(hit:IsTupIter s.heap it t i)(ht:IsTup s.heap t items)(hx:items[i]?=none)
  (hQ:∀h',Heap.ExtBut it s.heap h'→Q none {s with heap:=h'}):wpAny (model prog w) A (pyNext (.ref it)) Q E s:=by
 obtain⟨hh,o1,v1,h1,d1,c1⟩:=hot
 obtain⟨o,ho,hc,hd⟩:=id hit
 obtain⟨ol,hol,_,nl,hdl⟩:=ht
 have ne:it≠x1:=fun z=>by
  rw[←z,ho]at h1
  cases h1
  rw[hd]at d1
  cases d1
  cases c1
 unfold pyNext
 refine wpAny_bind (wpAny_attempt (wpAny_callSpecial?_slot (name:=Str.ofString "__next__") hit.typeIs slot_tupleiter_next
  (wpAny_call_entry slot_tupleiter_next hit.typeIs entry_tupleiter_next ?_ (args_tupleiter_next _))))
 show wpAny _ _ (field (.ref it) 0 >>=_) _ _ s
 refine wpAny_bind (wpAny_field ho hd (x:=.ref t) rfl ?_)
 show wpAny _ _ (if (Value.ref t == Value.none)=true then _ else _) _ _ s
 rw[if_neg (show ¬((Value.ref t == Value.none)=true) from Bool.false_ne_true)]
 show wpAny _ _ (field (.ref it) 1 >>=_) _ _ s
 refine wpAny_bind (wpAny_field ho hd (x:=.int i 0) rfl ?_)
 show wpAny _ _ (seqItems? (.ref t) >>=_) _ _ s
 refine wpAny_bind (wpAny_seqItems hol hdl ?_)
 simp only[Int.toNat_natCast,hx]
 refine wpAny_bind (wpAny_rule (wpAny_bind (wpAny_setField ho hd (by simp) ?_)))
 have h3:=(Heap.get?_update_other (h:=s.heap) (a:=it) (b:=x1) (Obj.mapFields (·.setIfInBounds 0 Value.none)) ne).trans h1
 generalize hg:s.heap.update it (Obj.mapFields fun x=>x.setIfInBounds 0 Value.none)=h2 at *
 have kept:Heap.ExtBut it s.heap h2:=by rw[←hg];exact (Heap.SameBut.update ..).extBut
 show wpAny _ _ (newExc (.type "StopIteration") [] >>=_) _ _ _
 refine wpAny_bind ?_
 simp only[newExc,newTuple]
 refine wpAny_bind (wpAny_newObj_type ?_ (by size_fits))
 refine wpAny_bind (m:=firstArgMember _ _) (wpAny_of_eq (a:=Value.none) (by first|rfl|(simp only[firstArgMember];rfl)) ?_)
 refine wpAny_newObj_type ?_ (by size_fits)
 refine raiseNew_hot ⟨hh,o1,v1,Heap.get?_push_of_some _ (Heap.get?_push_of_some _ h3),d1,c1⟩ (Nat.ne_of_lt (Heap.lt_size (Heap.get?_push_of_some _ h3))) (Heap.get?_push_size _ rfl) rfl (by first|(simp;done)|(simp;omega)|(simp only[Array.size_append];simp;omega)) ?_
 refine wpAny_bind (wpAny_isInstance (T := "StopIteration") (b:=true) ⟨_,Heap.get?_update_self _ (Heap.get?_push_size _ rfl) rfl,rfl⟩ isSubtype_stop ?_)
 refine wpAny_pure (hQ _ fun b o hb e=>?_)
 have e2:=kept b o hb e
 rw[Heap.get?_update_other _ _ (Nat.ne_of_gt (Heap.lt_size (Heap.get?_push_of_some _ e2)))]
 exact Heap.get?_push_of_some _ (Heap.get?_push_of_some _ e2)
theorem mZ{x1 t:Addr}{items:Array Value}{targets:List (Bool × (Value→Sem Unit))}{Q:Unit→Shared→Prop}(hot:HotAt A x1 s.heap)(ht:IsTup s.heap t items)(hn:targets.length=items.size)(hs:targets.findIdx? (·.1)=none)
  (h:∀h',Heap.ExtBut s.heap.objs.size s.heap h'→wpAny (model prog w) A (assignInOrder (targets.map (·.2)) items.toList) Q E {s with heap:=h'}):wpAny (model prog w) A (unpack (.ref t) targets) Q E s:=by
 obtain⟨hh,o1,v1,h1,d1,c1⟩:=hot
 have lt:t≠s.heap.objs.size:=by
  obtain⟨o,ho,_⟩:=ht
  exact Nat.ne_of_lt (Heap.lt_size ho)
 have l1:x1≠s.heap.objs.size:=Nat.ne_of_lt (Heap.lt_size h1)
 unfold unpack
 rw[hn,hs]
 refine wpAny_bind (wpAny_holding ?_)
 unfold unpackItems
 refine wpAny_bind ?_
 unfold notIterableAtAll
 refine wpAny_bind (wpAny_specialOf ht.typeIs slot_tuple_iter.lookup ?_)
 refine wpAny_pure ?_
 simp only[M6,if_false]
 refine wpAny_bind (wpAny_holding (iter_tuple ht ?_))
 refine wpAny_bind (wpAny_holding (draw_tuple lt items.size 0 _ _ ⟨_,Heap.get?_push_size _ rfl,rfl,rfl⟩ (ht.push _) (by omega) fun h2 hit2 hs2=>?_))
 have all:List.take items.size (List.drop 0 items.toList)=items.toList:=by
  rw[List.drop_zero]
  exact List.take_of_length_le (by simp)
 rw[all,if_neg (by simp)]
 have e2:=hs2.extBut
 refine wpAny_bind (wpAny_holding (iu ⟨hh,o1,v1,e2 x1 o1 l1 (Heap.get?_push_of_some _ h1),d1,c1⟩ hit2 ((ht.push _).extBut e2 lt) (by simp) fun h3 he3=>?_))
 simp only[Option.isSome_none,M6,if_false]
 exact wpAny_pure (h h3 fun b o hb e=>he3 b o hb (e2 b o hb (Heap.get?_push_of_some _ e)))
end
section
variable {X:Cx} {pos:Pos}
theorem ou{es:List Expr}{k:Nat}{t:TGs}{n:Nat}(hc:HotC X)(h:PGs X es t)(hn:(assignEach es X.env).length=n:=by rfl)(hst:(assignEach es X.env).findIdx? (·.1)=none:=by rfl):PG X (.Tuple es k pos) (gTup X.K n t):=by
 refine⟨fun pins s σ H v u Q I r ⟨a,xs,e,hq,hl,hw⟩=>?_⟩
 subst e
 obtain rfl:u=Value.ref a:=r
 obtain⟨x1,hot⟩:=hc.at I
 obtain⟨its,rv,ht,hz⟩:=I.tuple hq
 rw[assign_Tuple]
 refine wpAny_bind (wpAny_standAt (mZ hot ht (by simp[hn,←hl,rv.length]) hst fun h' hx=>?_))
 have J:Inv X pins σ H {s with heap:=h'}:=I.kept (t':=s.toks) fun b o e=>hx b o (Nat.ne_of_lt (Heap.lt_size e)) e
 exact h.run pins _ σ H xs _ Q J (by simpa using rv) hw
theorem xN{P:Program}{w:World}{K:M0}{tg:Expr}(a it:Addr):TurnH P w K tg (Itt K a) [it] it (fun i h=>h.IsTupleIter it a i):=by
 have T:=turn_tuple (P:=P) (w:=w) (K:=K) (tg:=tg) a it
 refine⟨T.mem,T.obj,T.keep,?_,?_,T.self⟩
 ·intro X hP hw hK hc i pins s σ H E I hf st hg
  subst hP hw hK
  obtain⟨xs,x,hq,hx⟩:=hg
  obtain⟨its,rv,p,hz⟩:=I.tuple hq
  obtain⟨u,hu,ru⟩:=rv.get hx
  obtain⟨f0,f1,f2,f3,f4,f5⟩:=hf it (by simp)
  refine wpAny_pyNext_tuple_item st (show s.heap.IsTuple a its.toArray from p) (x:=u) (by simpa using hu) fun h' st' sb=>?_
  have J:Inv X pins σ H {s with heap:=h'}:=I.turned (t':=s.toks) (fun b o hb e=>(sb.2 b hb).trans e) f0 f1 f3 f4 f5
  obtain⟨o,e,c,d⟩:=id st'
  exact⟨u,rfl,go_of (s:={s with heap:=h'}) e c d (by decide) ⟨x,H,J,ru,⟨rfl,fun ys hy=>by rw[I.tuple_inj hy hq];exact hx⟩,st',fun b hb=>(hf b hb).1⟩⟩
 ·intro X hP hw hK hc i pins s σ H E I hf st hg
  subst hP hw hK
  obtain⟨xs,hq,hx⟩:=hg
  obtain⟨its,rv,p,hz⟩:=I.tuple hq
  obtain⟨f0,f1,f2,f3,f4,f5⟩:=hf it (by simp)
  obtain⟨x1,hot⟩:=hc.at I
  have hl:=rv.length
  exact iu hot st p (by simp;omega) fun h' eb=>⟨rfl,I.turned (t':=s.toks) (fun b o hb e=>eb b o hb e) f0 f1 f3 f4 f5⟩
theorem ot{tg l:Expr}{tl:TE}(hl:PE X l tl):PIH X tg l (iTup X.K tl):=by
 refine⟨fun pins s σ H R I h=>thn (hl.run pins s σ H _ I h) fun v s1 ⟨x,H1,I1,r1,a,e,⟨xs,hq⟩,q⟩=>?_⟩
 subst e
 obtain rfl:v=Value.ref a:=r1
 obtain⟨its,rv,p,hz⟩:=I1.tuple hq
 refine wpAny_pyIter_tuple (show s1.heap.IsTuple a its.toArray from p) ?_
 refine⟨s1.heap.objs.size,[s1.heap.objs.size],_,_,H1,rfl,I1.kept (t':=s1.toks) fun b o e=>Heap.get?_push_of_some _ e,xN a _,⟨_,Heap.get?_push_size _ rfl,rfl,rfl⟩,fun b hb=>?_,q⟩
 obtain rfl:b=s1.heap.objs.size:=by simpa using hb
 exact I1.fpOk (M7 _) (I1.hok.fresh (M7 _))
end
end Av
namespace Av
open PySem PySem.Spec PyProof.Rows L2 L2H
variable [Tb]
inductive HV where
 |cst(d:Dat)|var(i:Nat)|fld(f:Str)|tup(es:List HV)|is1(D:Str)|isi(Ds:List Str)|ite(c a b:HV)|lst(es:List HV)|mem(a b:HV)|ix(a b:HV)|idx(a b:HV)|iteM(a b u v:HV)
inductive HB where
 |set(i:Nat)(v:HV)|ret(v:HV)|if_(c:HV)(b:List HB)|for2(i j:Nat)(es:List HV)(b:List HB)
def jV(f:aj→Option (aj × Option Dat))(i j:Nat):aj→List Dat→Option (aj × Option Dat)
 |ρ,[]=>some (ρ,none)
 |ρ,.tup [x,y] :: r=>match f ((ρ.set i (some x)).set j (some y))with
  |some (ρ',none)=>jV f i j ρ' r
  |z=>z
 |_,_=>none
section
variable (Γ:Gam) (C:Str) (fs:List (Str × Dat))
mutual
def evV:aj→HV→Option Dat
 |_,.cst d=>some d
 |ρ,.var i=>match ρ[i]? with
  |some (some d)=>if i=0 then none else some d
  |_=>none
 |_,.fld f=>if f∈(Γ.xc C).getD [] then fs.lookup f else none
 |ρ,.tup es=>match evVs ρ es with
  |some ds=>if ds.length≤1000 then some (.tup ds) else none
  |none=>none
 |_,.is1 D=>if (Tb.exo C && (Γ.xc D).isSome)=true then (Tb.sub (.inr C) (.inr D)).map .bl else none
 |_,.isi Ds=>if (Tb.exo C && Ds.all (fun D=>(Γ.xc D).isSome) && decide (Ds.length≤900))=true then (cZ (.inr C) (Ds.map .gf)).map .bl else none
 |ρ,.ite c a b=>match evV ρ c with
  |some (.bl true)=>evV ρ a
  |some (.bl false)=>evV ρ b
  |_=>none
 |ρ,.lst es=>match evVs ρ es with
  |some ds=>if ds.length≤1000 then some (.lst ds) else none
  |none=>none
 |ρ,.mem a b=>match evV ρ a,evV ρ b with
  |some d,some (.lst ds)=>if (aH d && ds.all aH)=true then some (.bl (ds.any fun x=>eqF x d)) else none
  |_,_=>none
 |ρ,.iteM a b u v=>match evV ρ a,evV ρ b with
  |some d,some (.lst ds)=>if (aH d && ds.all aH)=true then (if (ds.any fun x=>eqF x d)=true then evV ρ u else evV ρ v) else none
  |_,_=>none
 |ρ,.ix a b=>match evV ρ a,evV ρ b with
  |some (.lst ds),some (.int i)=>atI ds i
  |_,_=>none
 |ρ,.idx a b=>match evV ρ a,evV ρ b with
  |some (.lst ds),some d=>if (aH d && ds.all aH)=true then (ds.findIdx? fun x=>eqF x d).map fun j=>.int (j:Nat) else none
  |_,_=>none
def evVs:aj→List HV→Option (List Dat)
 |_,[]=>some []
 |ρ,e :: es=>match evV ρ e,evVs ρ es with
  |some d,some ds=>some (d :: ds)
  |_,_=>none
end
mutual
def evS:aj→HB→Option (aj × Option Dat)
 |ρ,.set i v=>(evV Γ C fs ρ v).map fun d=>(ρ.set i (some d),none)
 |ρ,.ret v=>(evV Γ C fs ρ v).map fun d=>(ρ,some d)
 |ρ,.if_ c b=>match evV Γ C fs ρ c with
  |some (.bl true)=>evSs ρ b
  |some (.bl false)=>some (ρ,none)
  |_=>none
 |ρ,.for2 i j es b=>match evVs Γ C fs ρ es with
  |some ds=>if ds.length≤1000 then jV (fun ρ=>evSs ρ b) i j ρ ds else none
  |none=>none
def evSs:aj→List HB→Option (aj × Option Dat)
 |ρ,[]=>some (ρ,none)
 |ρ,s :: ss=>match evS ρ s with
  |some (ρ',none)=>evSs ρ' ss
  |r=>r
end
end
def A4(C:Ck):List Str→List Expr→Bool
 |[],[]=>true
 |D :: Ds,.Name y _ :: xs=>(y == D) && bh C y && A4 C Ds xs
 |_,_=>false
mutual
def aQ(C:Ck):HV→Expr→Bool
 |.cst d,x=>match x with
  |.Constant c _ _=>FI d c
  |_=>false
 |.var i,x=>match x with
  |.Name y _=>lT C i y
  |_=>false
 |.fld f,x=>match x with
  |.Attribute (.Name y _) g _=>(g == f) && lT C 0 y
  |_=>false
 |.tup es,x=>match x with
  |.Tuple xs _ _=>corHVs C es xs
  |_=>false
 |.is1 D,x=>match x with
  |.Call (.Name f _) [.Name y _,.Name d _] [] _=>(f == ("isinstance" : Str)) && bh C f && lT C 0 y && (d == D) && bh C d
  |_=>false
 |.isi Ds,x=>match x with
  |.Call (.Name f _) [.Name y _,.Tuple xs _ _] [] _=>(f == ("isinstance" : Str)) && bh C f && lT C 0 y && A4 C Ds xs
  |_=>false
 |.ite c a b,x=>match x with
  |.IfExp y u v _=>aQ C c y && CZ y && aQ C a u && aQ C b v
  |_=>false
 |.lst es,x=>match x with
  |.List xs _=>corHVs C es xs
  |_=>false
 |.mem a b,x=>match x with
  |.Compare u [.In] [v] _=>cI v && aQ C a u && aQ C b v
  |_=>false
 |.iteM a b u v,x=>match x with
  |.IfExp (.Compare y [.In] [z] _) e f _=>cI z && aQ C a y && aQ C b z && aQ C u e && aQ C v f
  |_=>false
 |.ix a b,x=>match x with
  |.Subscript u v _=>bI v && aQ C a u && aQ C b v
  |_=>false
 |.idx a b,x=>match x with
  |.Call (.Attribute u nm ap) [v] [] cp=>(nm == MF.index.nm) && aI u && (ap.endLine == cp.line) && af v && aQ C a u && aQ C b v
  |_=>false
def corHVs(C:Ck):List HV→List Expr→Bool
 |[],xs=>xs.isEmpty
 |e :: es,xs=>match xs with
  |x :: xs=>af x && aQ C e x && corHVs C es xs
  |[]=>false
end
mutual
def mz(C:Ck):HB→Stmt→Bool
 |.set i v,x=>match x with
  |.Assign [.Name y _] e _=>fQ C i y && aQ C v e && bV e && decide (i≠0)
  |_=>false
 |.ret v,x=>match x with
  |.Return (some e) _=>aQ C v e
  |_=>false
 |.if_ c b,x=>match x with
  |.If e a [] _=>aQ C c e && CZ e && corHBs C b a
  |_=>false
 |.for2 i j es b,x=>match x with
  |.For (.Tuple [.Name y _,.Name z _] _ _) (.Tuple xs _ _) body [] _=>fQ C i y && fQ C j z && decide (i≠0) && decide (j≠0) && corHVs C es xs && corHBs C b body
  |_=>false
def corHBs(C:Ck):List HB→List Stmt→Bool
 |[],xs=>xs.isEmpty
 |s :: ss,xs=>match xs with
  |x :: xs=>mz C s x && corHBs C ss xs
  |[]=>false
end
structure HX(X:Cx)(a:Addr)(oe:Obj)(C:Str):Prop where
 pin:(a,oe)∈X.pn
 dat:∃vs,oe.data = .fields vs
 cls:oe.cls = .ref (He.ga X.K C)
 hot:HotC X
 po:PassesOwn (model X.prog X.w) X.A X.env X.xe
section
variable {X:Cx} {C:Ck} {Γ:Gam} {k:Nat} {a:Addr} {oe:Obj} {E:Str} {fs:List (Str × Dat)} {pos:Pos}
theorem Et{D:Addr}{e:Expr}{te:TE}{n:Str}(hp:(a,oe)∈X.pn)(hf:∃vs,oe.data = .fields vs)(hc:oe.cls = .ref D)(T:XfC X.K D)(hno:PySem.W.findIn X.K (.ref D) n=some none)(he:PE X e te)(hb:attributeBase e n X.env (eval e X.env)=eval e X.env) :
  PE X (.Attribute e n pos) (fun σ H Q=>te σ H fun x H1=>x = .ref a∧∃(dd:Addr) (fs:List (Str × V)) (v:V),oe.dict=some dd∧H1 dd=some (.xd fs)∧fs.lookup n=some v∧Q v H1):=by
 refine⟨fun pins s σ H Q I h=>?_⟩
 refine attr_of hb (thn (he.run pins s σ H _ I h) fun u s1 hh=>?_)
 obtain⟨x,H1,I1,rx,ex,dd,fs,v,ed,ea,l,q⟩:=hh
 subst ex
 obtain rfl:u=Value.ref a:=rx
 obtain⟨ha,_⟩:=I1.pin (a,oe) (List.mem_append_left _ hp)
 obtain⟨vs,hd⟩:=hf
 have hx:ObjOk X.prog X.w H1 s1.heap dd (.xd fs):=I1.hok dd _ ea
 obtain⟨mA,hns,hr⟩:=hx
 obtain⟨od,ho,hl⟩:=lookIn_ns hns
 obtain⟨u,hu,ru⟩:=RelO.some_of (v:=v) (o:=mA n) (by rw[←l];exact hr n)
 have J:PySem.W.InstAt s1.heap a oe D (some od):=⟨ha,hc,by unfold PySem.W.notCls;rw[hd] <;> rfl,by rw[ed];exact ho⟩
 exact HandSPX.exc_get I1.kIn J T.ga T.gg T.exC (PySem.W.findObj_own T.hdC hno rfl (by rw[hl,hu])) (handed_of ru) ⟨v,H1,I1.tok _,ru,q⟩
def LfV(K:M0)(a:Addr)(oe:Obj)(fs:List (Str × Dat))(ρ:aj)(dt:Dat):TE:=fun σ H Q=>∃G,RelG K G H∧cE K H oe.dict fs∧σ[0]?=some (some (.ref a))∧RelE K H ρ σ∧∀v H',Fra G H G H'→RelG K G H'→cE K H' oe.dict fs→Rep K H' v dt→Q v H'
def Kq(K:M0)(a:Addr)(oe:Obj)(fs:List (Str × Dat))(ρ:aj)(ds:List Dat):TA:=fun σ H Q=>∃G,RelG K G H∧cE K H oe.dict fs∧σ[0]?=some (some (.ref a))∧RelE K H ρ σ∧∀vs H',Fra G H G H'→RelG K G H'→cE K H' oe.dict fs→Reps K H' vs ds→Q vs H'
theorem CV{K:M0}{H:Hp}{dx:Option Addr}(h:cE K H dx fs):∀dd,dx=some dd→∃vf,H dd=some (.xd vf):=fun dd e=>by
 subst e
 obtain⟨vf,h,_⟩:=h
 exact⟨vf,h⟩
theorem cU{K:M0}{H:Hp}{dx:Option Addr}{p:Addr}{o:HO}(h:cE K H dx fs)(hp:H p=none):cE K (upd H p o) dx fs:=by
 cases dx with
 |none=>exact h
 |some dd =>
  obtain⟨vf,e2,e3⟩:=h
  exact⟨vf,by rw[upd_ne (ne_of_none e2 hp)];exact e2,KRel.mono (.new hp) e3⟩
theorem v8(tb:TbOk X.prog X.w X.K X.mg X.base Γ k)(ck:bz X C Γ):∀(Ds:List Str) (xs:List Expr),A4 C Ds xs=true→Ds.all (fun D=>(Γ.xc D).isSome)=true→PA X xs (fun _ H Q=>Q (Ds.map fun D=>V.ref (He.ga X.K D)) H)
 |[],[],_,_=>PA.imp pa_nil fun _ _ _ q=>q
 |D :: Ds,x :: xs,h,hx=>by
  cases x <;> try (unfold A4 at h;cases h)
  rename_i y p
  unfold A4 at h
  simp only[M3]at h
  rw[Mo,M3]at hx
  have e1:y=D:=aM h.1.1
  exact PA.imp (pa_cons (v7 tb ck h.1.2 e1 hx.1) (v8 tb ck Ds xs h.2 hx.2) (ax (by rfl))) fun _ _ _ q=>q
 |[],_ :: _,h,_=>by unfold A4 at h;cases h
 |_ :: _,[],h,_=>by unfold A4 at h;cases h
theorem lK{K:M0}:∀Ds:List Str,Paired ClsV (Ds.map fun D=>V.ref (He.ga K D)) (Ds.map fun D=>Value.ref (He.ga K D))
 |[]=>.nil
 |D :: Ds=>.cons (.own _) (lK Ds)
theorem fU{K:M0}(kt:si K){t:String ⊕ Str}:∀(Ds:List Str) (b:Bool),cZ t (Ds.map .gf)=some b→PySem.W.kitAny K (eF K t) (Ds.map fun D=>Value.ref (He.ga K D))=some b
 |[],b,e=>by cases e;exact kitAny_nil
 |D :: Ds,b,e=>by
  have at_:∀l:List Str,jv (l.map .gf)=true:=fun l=>by
   induction l with
   |nil=>rfl
   |cons x l ih=>exact ih
  have e:(match Fe t (.inr D)with
   |some true=>if jv (Ds.map .gf)=true then some true else none
   |some false=>cZ t (Ds.map .gf)
   |none=>none)=some b:=e
  split at e
  ·rename_i q
   rw[if_pos (at_ Ds)]at e
   cases e
   exact kitAny_cons (dw kt q) (fun z=>by cases z) (fun _=>rfl)
  ·rename_i q
   exact kitAny_cons (dw kt q) (fun _=>fU kt Ds b e) (fun z=>by cases z)
  ·cases e
variable {ρ:aj}
mutual
theorem gK(hx:HX X a oe E)(ck:bz X C Γ)(tb:TbOk X.prog X.w X.K X.mg X.base Γ k):∀(e:HV) (x:Expr) (ρ:aj) (dt:Dat),aQ C e x=true→evV Γ E fs ρ e=some dt→PE X x (LfV X.K a oe fs ρ dt)
 |.cst d,x,ρ,dt,h,hv=>by
  unfold aQ at h
  split at h
  ·unfold evV at hv
   cases hv
   refine PE.imp (qI (X:=X) (W:=fun _ _ _ _=>True) h) ?_
   rintro σ H Q ⟨G,g,rx,h0,hE,q⟩
   exact⟨_,G,fun d' G'=>d'=d∧G'=G,fun _ _ _=>False,iK σ,g,⟨rfl,rfl⟩,fun d' G' v H' f g' r z=>(by
    obtain⟨rfl,rfl⟩:=z
    exact q v H' f g' (bO g rx f) r),fun c fs' G' dd H' _ _ _ z=>False.elim z⟩
  ·cases h
 |.var i,x,ρ,dt,h,hv=>by
  unfold aQ at h
  split at h
  ·obtain⟨v1,v2,v3,v4⟩:=cF ck h
   unfold evV at hv
   split at hv
   ·rename_i d e
    split at hv
    ·cases hv
    ·cases hv
     refine PE.imp (pe_var (X:=X) v1 v2 v3 v4) ?_
     rintro σ H Q ⟨G,g,rx,h0,hE,q⟩
     obtain⟨v,e1,r⟩:=hE.2 i _ e
     exact⟨v,e1,q v H .refl g rx r⟩
   ·cases hv
  ·cases h
 |.fld f,x,ρ,dt,h,hv=>by
  unfold aQ at h
  split at h
  ·simp only[M3]at h
   obtain⟨h1,h2⟩:=h
   cases aM h1
   unfold evV at hv
   split at hv
   ·rename_i hm
    cases hfl:Γ.xc E with
    |none=>rw[hfl]at hm;cases hm
    |some fl =>
     rw[hfl]at hm
     have hm:f∈fl:=hm
     obtain⟨t1,t2⟩:=tb.xf E fl hfl (fun z=>by rw[z]at hm;cases hm)
     obtain⟨v1,v2,v3,v4⟩:=cF ck h2
     refine PE.imp (Et (D:=He.ga X.K E) hx.pin hx.dat hx.cls t1 (t2 f hm) (pe_var (X:=X) v1 v2 v3 v4) rfl) ?_
     rintro σ H Q ⟨G,g,rx,h0,hE,q⟩
     refine⟨_,h0,rfl,?_⟩
     cases hdx:oe.dict with
     |none=>rw[hdx]at rx;rw[show fs=[] from rx]at hv;cases hv
     |some dd =>
      have rx0:=rx
      rw[hdx]at rx0
      obtain⟨vf,e1,e2⟩:=rx0
      obtain⟨v,l1,l2⟩:=e7 e2 hv
      exact⟨dd,vf,v,rfl,e1,l1,q v H .refl g rx l2⟩
   ·cases hv
  ·cases h
 |.tup es,x,ρ,dt,h,hv=>by
  unfold aQ at h
  split at h
  ·unfold evV at hv
   split at hv
   ·rename_i ds e1
    split at hv
    ·rename_i hl
     cases hv
     refine PE.imp (pe_tup (okHVs hx ck tb es _ ρ ds h e1)) ?_
     rintro σ H Q ⟨G,g,rx,h0,hE,q⟩
     refine⟨G,g,rx,h0,hE,fun vs H1 f1 g1 rx1 r1=>⟨Nat.le_trans (by rw[r1.length];exact hl) (show 1000≤sizeLine by decide),fun p hp=>q _ _ ?_ (g1.newT hp) (cU rx1 hp) (.tup (.inl upd_same) (r1.mono (.new hp)))⟩⟩
     exact f1.trans fun b u e t n=>⟨by rw[upd_ne (ne_of_none e hp)];exact e,n⟩
    ·cases hv
   ·cases hv
  ·cases h
 |.is1 D,x,ρ,dt,h,hv=>by
  unfold aQ at h
  split at h
  ·rename_i f fp y yp d dp pp
   simp only[M3]at h
   obtain⟨⟨⟨⟨h1,h2⟩,h3⟩,h4⟩,h5⟩:=h
   have ef:f = "isinstance" :=aM h1
   subst ef
   unfold evV at hv
   split at hv
   ·rename_i ho
    rw[M3]at ho
    obtain⟨b,hb,rfl⟩:=Option.map_eq_some_iff.mp hv
    obtain⟨v1,v2,v3,v4⟩:=cF ck h3
    obtain⟨g1,g2,g3⟩:=aF ck h2
    refine PE.imp (pe_callB (qN hx.pin hx.dat hx.cls (tb.kt.exo E ho.1)) g1 (tb.blt .isinst) (cj .isinst) (pa_cons (pe_var (X:=X) v1 v2 v3 v4) (pa_cons (v7 tb ck h5 (aM h4) ho.2) pa_nil (ax (by rfl))) (ax (by rfl))) (mJ .isinst).1 (mJ .isinst).2 (ax (by rfl)) (by rfl)) ?_
    rintro σ H Q ⟨G,g,rx,h0,hE,q⟩
    exact⟨_,h0,CV rx,.inl ⟨_,_,b,rfl,.own _,tb.kt.sub _ _ _ hb,q _ H .refl g rx (.bl b)⟩⟩
   ·cases hv
  ·cases h
 |.isi Ds,x,ρ,dt,h,hv=>by
  unfold aQ at h
  split at h
  ·rename_i f fp y yp xs k1 k2 pp
   simp only[M3]at h
   obtain⟨⟨⟨h1,h2⟩,h3⟩,h4⟩:=h
   have ef:f = "isinstance" :=aM h1
   subst ef
   unfold evV at hv
   split at hv
   ·rename_i ho
    simp only[M3,decide_eq_true_eq]at ho
    obtain⟨⟨o1,o2⟩,o3⟩:=ho
    obtain⟨b,hb,rfl⟩:=Option.map_eq_some_iff.mp hv
    obtain⟨v1,v2,v3,v4⟩:=cF ck h3
    obtain⟨g1,g2,g3⟩:=aF ck h2
    refine PE.imp (pe_callB (qN hx.pin hx.dat hx.cls (tb.kt.exo E o1)) g1 (tb.blt .isinst) (cj .isinst) (pa_cons (pe_var (X:=X) v1 v2 v3 v4) (pa_cons (pe_tup (v8 tb ck Ds xs h4 o2)) pa_nil (ax (by rfl))) (ax (by rfl))) (mJ .isinst).1 (mJ .isinst).2 (ax (by rfl)) (by rfl)) ?_
    rintro σ H Q ⟨G,g,rx,h0,hE,q⟩
    refine⟨_,h0,Nat.le_trans (by rw[M5];exact o3) (show 900≤sizeLine by decide),fun p hp=>⟨CV (cU rx hp),.inr ⟨p,_,_,b,rfl,upd_same,lK Ds,fU tb.kt Ds b hb,q _ _ (.newT hp) (g.newT hp) (cU rx hp) (.bl b)⟩⟩⟩
   ·cases hv
  ·cases h
 |.ite c u v,x,ρ,dt,h,hv=>by
  unfold aQ at h
  split at h
  ·simp only[M3]at h
   obtain⟨⟨⟨h1,h2⟩,h3⟩,h4⟩:=h
   unfold evV at hv
   split at hv
   ·rename_i hc
    refine PE.imp (pe_ifExp (ta:=LfV X.K a oe fs ρ dt) (tb:=fun _ _ _=>False) (pt_val (gK hx ck tb c _ ρ _ h1 hc) (eB h2)) (gK hx ck tb u _ ρ dt h3 hv) ⟨fun _ _ _ _ _ _ z=>False.elim z⟩) ?_
    rintro σ H Q ⟨G,g,rx,h0,hE,q⟩
    refine⟨G,g,rx,h0,hE,fun v H' f g' rx' r=>?_⟩
    cases r
    refine⟨true,rfl,?_⟩
    simp only[if_true]
    exact⟨G,g',rx',h0,hE.mono (f.stab g),fun v H2 f2 g2 rx2 r2=>q v H2 (f.trans f2) g2 rx2 r2⟩
   ·rename_i hc
    refine PE.imp (pe_ifExp (ta:=fun _ _ _=>False) (tb:=LfV X.K a oe fs ρ dt) (pt_val (gK hx ck tb c _ ρ _ h1 hc) (eB h2)) ⟨fun _ _ _ _ _ _ z=>False.elim z⟩ (gK hx ck tb v _ ρ dt h4 hv)) ?_
    rintro σ H Q ⟨G,g,rx,h0,hE,q⟩
    refine⟨G,g,rx,h0,hE,fun v H' f g' rx' r=>?_⟩
    cases r
    refine⟨false,rfl,?_⟩
    simp only[M6,if_false]
    exact⟨G,g',rx',h0,hE.mono (f.stab g),fun v H2 f2 g2 rx2 r2=>q v H2 (f.trans f2) g2 rx2 r2⟩
   ·cases hv
  ·cases h
 |.lst es,x,ρ,dt,h,hv=>by
  unfold aQ at h
  split at h
  ·unfold evV at hv
   split at hv
   ·rename_i ds e1
    split at hv
    ·rename_i hl
     cases hv
     refine PE.imp (fu (pe_lst (okHVs hx ck tb es _ ρ ds h e1))) ?_
     rintro σ H Q ⟨G,g,rx,h0,hE,q⟩
     refine⟨G,g,rx,h0,hE,fun vs H1 f1 g1 rx1 r1=>⟨Nat.le_trans (by rw[r1.length];exact hl) (show 1000≤sizeLine by decide),?_⟩⟩
     refine aA (Qa:=fun d' G'=>d' = .lst ds∧G'=G) g1 r1 (z:=true) ⟨Nat.le_trans hl (show 1000≤sizeLine by decide),rfl,rfl⟩ (bH fun d' G' v H' f g' r z=>?_)
     obtain⟨rfl,rfl⟩:=z
     exact q v H' (f1.trans f) g' (bO g1 rx1 f) r
    ·cases hv
   ·cases hv
  ·cases h
 |.mem u v,x,ρ,dt,h,hv=>by
  unfold aQ at h
  split at h
  ·simp only[M3]at h
   unfold evV at hv
   split at hv
   ·rename_i d ds e1 e2
    split at hv
    ·rename_i hfl
     cases hv
     rw[M3]at hfl
     refine PE.imp (fu (pe_cmpR op_in_seq (gK hx ck tb u _ ρ d h.1.2 e1) (gK hx ck tb v _ ρ _ h.2 e2) (ba h.1.1))) ?_
     rintro σ H Q ⟨G,g,rx,h0,hE,q⟩
     refine⟨G,g,rx,h0,hE,fun x1 H1 f1 g1 rx1 r1=>⟨G,g1,rx1,h0,hE.mono (f1.stab g),fun x2 H2 f2 g2 rx2 r2=>?_⟩⟩
     refine gJ (n:=false) (rA:=uh false) (fun _ _ _ _ z=>z) H2 x1 x2 d (.lst ds) G (fun d' G'=>d' = .bl (ds.any fun x=>eqF x d)∧G'=G) _ (r1.mono (f2.stab g1)) r2 g2 ⟨ds,rfl,hfl.1,hfl.2,rfl,rfl⟩ (bH fun d' G' v H' f g' r z=>?_)
     obtain⟨rfl,rfl⟩:=z
     exact q v H' ((f1.trans f2).trans f) g' (bO g2 rx2 f) r
    ·cases hv
   ·cases hv
  ·cases h
 |.iteM a1 b1 u v,x,ρ,dt,h,hv=>by
  unfold aQ at h
  split at h
  ·rename_i y z pc e f pp
   simp only[M3]at h
   obtain⟨⟨⟨⟨h1,h2⟩,h3⟩,h4⟩,h5⟩:=h
   unfold evV at hv
   split at hv
   ·rename_i d ds e1 e2
    split at hv
    ·rename_i hfl
     rw[M3]at hfl
     have cond:=pt_cmpR (pos:=pc) op_in_seq (gK hx ck tb a1 _ ρ d h2 e1) (gK hx ck tb b1 _ ρ _ h3 e2) (ba h1)
     have key:∀(σ:L2.St) (H:Hp) (Q:Bool→Hp→Prop),(∃G,RelG X.K G H∧cE X.K H oe.dict fs∧σ[0]?=some (some (.ref a))∧RelE X.K H ρ σ∧∀H',Fra G H G H'→RelG X.K G H'→cE X.K H' oe.dict fs→Q (ds.any fun x=>eqF x d) H')→tTest (tOp (rIn X.K false) (LfV X.K a oe fs ρ d) (LfV X.K a oe fs ρ (.lst ds))) σ H Q:=by
      rintro σ H Q ⟨G,g,rx,h0,hE,q⟩
      refine⟨G,g,rx,h0,hE,fun x1 H1 f1 g1 rx1 r1=>⟨G,g1,rx1,h0,hE.mono (f1.stab g),fun x2 H2 f2 g2 rx2 r2=>?_⟩⟩
      refine gJ (n:=false) (rA:=uh false) (fun _ _ _ _ z=>z) H2 x1 x2 d (.lst ds) G (fun d' G'=>d' = .bl (ds.any fun x=>eqF x d)∧G'=G) _ (r1.mono (f2.stab g1)) r2 g2 ⟨ds,rfl,hfl.1,hfl.2,rfl,rfl⟩ (oq (fun d' G' v H' f g' r z=>?_) fun _ _ z=>by cases z.1)
      obtain⟨rfl,rfl⟩:=z
      cases r
      exact⟨_,rfl,q H' ((f1.trans f2).trans f) g' (bO g2 rx2 f)⟩
     cases hb:ds.any fun x=>eqF x d with
     |true =>
      rw[hb,if_pos rfl]at hv
      refine PE.imp (pe_ifExp (ta:=LfV X.K a oe fs ρ dt) (tb:=fun _ _ _=>False) cond (gK hx ck tb u _ ρ dt h4 hv) ⟨fun _ _ _ _ _ _ z=>False.elim z⟩) ?_
      rintro σ H Q ⟨G,g,rx,h0,hE,q⟩
      refine key σ H _ ⟨G,g,rx,h0,hE,fun H' f g' rx'=>?_⟩
      rw[hb]
      simp only[if_true]
      exact⟨G,g',rx',h0,hE.mono (f.stab g),fun v H2 f2 g2 rx2 r2=>q v H2 (f.trans f2) g2 rx2 r2⟩
     |false =>
      rw[hb,if_neg (by decide)]at hv
      refine PE.imp (pe_ifExp (ta:=fun _ _ _=>False) (tb:=LfV X.K a oe fs ρ dt) cond ⟨fun _ _ _ _ _ _ z=>False.elim z⟩ (gK hx ck tb v _ ρ dt h5 hv)) ?_
      rintro σ H Q ⟨G,g,rx,h0,hE,q⟩
      refine key σ H _ ⟨G,g,rx,h0,hE,fun H' f g' rx'=>?_⟩
      rw[hb]
      simp only[M6,if_false]
      exact⟨G,g',rx',h0,hE.mono (f.stab g),fun v H2 f2 g2 rx2 r2=>q v H2 (f.trans f2) g2 rx2 r2⟩
    ·cases hv
   ·cases hv
  ·cases h
 |.ix u v,x,ρ,dt,h,hv=>by
  unfold aQ at h
  split at h
  ·simp only[M3]at h
   unfold evV at hv
   split at hv
   ·rename_i ds i e1 e2
    refine PE.imp (fu (pe_ix ix_seq (gK hx ck tb u _ ρ _ h.1.2 e1) (gK hx ck tb v _ ρ _ h.2 e2) (dY h.1.1))) ?_
    rintro σ H Q ⟨G,g,rx,h0,hE,q⟩
    refine⟨G,g,rx,h0,hE,fun x1 H1 f1 g1 rx1 r1=>⟨G,g1,rx1,h0,hE.mono (f1.stab g),fun x2 H2 f2 g2 rx2 r2=>?_⟩⟩
    refine wc H2 x1 x2 (.lst ds) (.int i) G (fun d' G'=>d'=dt∧G'=G) _ (r1.mono (f2.stab g1)) r2 g2 ⟨ds,dt,rfl,hv,rfl,rfl⟩ (bH fun d' G' v H' f g' r z=>?_)
    obtain⟨rfl,rfl⟩:=z
    exact q v H' ((f1.trans f2).trans f) g' (bO g2 rx2 f) r
   ·cases hv
  ·cases h
 |.idx u v,x,ρ,dt,h,hv=>by
  unfold aQ at h
  split at h
  ·rename_i bx nm ap y cp
   simp only[M3]at h
   obtain⟨⟨⟨⟨⟨k1,k2⟩,k3⟩,k4⟩,k5⟩,k6⟩:=h
   cases aM k1
   unfold evV at hv
   split at hv
   ·rename_i ds d e1 e2
    split at hv
    ·rename_i hfl
     rw[M3]at hfl
     obtain⟨j,hj,rfl⟩:=Option.map_eq_some_iff.mp hv
     obtain⟨hj1,hj2,hj3⟩:=List.findIdx?_eq_some_iff_getElem.mp hj
     have he1:starEach [y] X.env=(false,eval y X.env) :: starEach [] X.env:=ax k4
     obtain⟨id,r,m1,m2,m3,m4⟩:=oX X .index
     refine PE.imp (pe_bm (cpos:=cp) (apos:=ap) F.plainAttrs_list m1 m2 m3 (gK hx ck tb u _ ρ _ k5 e1) (pa_cons (gK hx ck tb v _ ρ _ k6 e2) pa_nil he1) (aP k2) (by rw[he1];rfl) k3 he1 (by rfl)) ?_
     rintro σ H Q ⟨G,g,rx,h0,hE,q⟩
     refine⟨G,g,rx,h0,hE,fun x1 H1 f1 g1 rx1 r1=>⟨jF (d:=.lst ds) g1 r1 ⟨ds,rfl⟩,G,g1,rx1,h0,hE.mono (f1.stab g),fun x2 H2 f2 g2 rx2 r2=>?_⟩⟩
     refine m4 H2 x1 (.lst ds) [x2] [d] G (fun d' G'=>d' = .int (j:Nat)∧G'=G) Q (r1.mono (f2.stab g1)) (.cons r2 .nil) g2 ?_ fun d' G' v H' f g' r z=>?_
     ·refine⟨ds,j,ds[j],rfl,hfl.1,hfl.2,by simp[hj1],hj2,fun m d' hm hd'=>?_,rfl,rfl⟩
      have hml:m<ds.length:=by omega
      have:=hj3 m hm
      rw[Me hml]at hd'
      cases hd'
      simpa using this
     ·obtain⟨rfl,rfl⟩:=z
      exact q v H' ((f1.trans f2).trans f) g' (bO g2 rx2 f) r
    ·cases hv
   ·cases hv
  ·cases h
theorem okHVs(hx:HX X a oe E)(ck:bz X C Γ)(tb:TbOk X.prog X.w X.K X.mg X.base Γ k):∀(es:List HV) (xs:List Expr) (ρ:aj) (ds:List Dat),corHVs C es xs=true→evVs Γ E fs ρ es=some ds→PA X xs (Kq X.K a oe fs ρ ds)
 |[],xs,ρ,ds,h,hv=>by
  unfold corHVs at h
  cases xs with
  |cons _ _=>cases h
  |nil =>
   unfold evVs at hv
   cases hv
   exact PA.imp pa_nil fun σ H Q ⟨G,g,rx,_,_,q⟩=>q [] H .refl g rx .nil
 |e :: es,xs,ρ,ds,h,hv=>by
  unfold corHVs at h
  cases xs with
  |nil=>cases h
  |cons x xs =>
   simp only[M3]at h
   unfold evVs at hv
   split at hv
   ·rename_i d ds' e1 e2
    cases hv
    refine PA.imp (pa_cons (gK hx ck tb e x ρ d h.1.2 e1) (okHVs hx ck tb es xs ρ ds' h.2 e2) (ax h.1.1)) ?_
    rintro σ H Q ⟨G,g,rx,h0,hE,q⟩
    exact⟨G,g,rx,h0,hE,fun v H1 f1 g1 rx1 r1=>⟨G,g1,rx1,h0,hE.mono (f1.stab g),fun vs H2 f2 g2 rx2 r2=>q _ _ (f1.trans f2) g2 rx2 (.cons (r1.mono (f2.stab g1)) r2)⟩⟩
   ·cases hv
end
def LfB(K:M0)(a:Addr)(oe:Obj)(fs:List (Str × Dat))(ρ:aj):Option (aj × Option Dat)→TS
 |none=>fun _ _ _=>False
 |some (ρ',none)=>fun D σ H=>∃G,RelG K G H∧cE K H oe.dict fs∧σ[0]?=some (some (.ref a))∧RelE K H ρ σ∧∀σ' H',Fra G H G H'→RelG K G H'→cE K H' oe.dict fs→σ'[0]?=some (some (.ref a))→RelE K H' ρ' σ'→D.nx σ' H'
 |some (_,some d)=>fun D σ H=>∃G,RelG K G H∧cE K H oe.dict fs∧σ[0]?=some (some (.ref a))∧RelE K H ρ σ∧∀v H',Fra G H G H'→RelG K G H'→cE K H' oe.dict fs→Rep K H' v d→D.rt v H'
theorem Iw(nd:X.N.Nodup)(hx:HX X a oe E)(ck:bz X C Γ){i j:Nat}{y z:Str}{py pz pt p2:Pos}{k1 k2:Nat}{xs:List Expr}{bs:List Stmt}{ds:List Dat}{f:aj→Option (aj × Option Dat)}(ρ:aj)(hy:fQ C i y=true)(hz:fQ C j z=true)(hi:i≠0)(hj:j≠0)
  (hl:ds.length≤1000)(hes:PA X xs (Kq X.K a oe fs ρ ds))(hb:∀ρ,PSs X bs (LfB X.K a oe fs ρ (f ρ))):PS X (.For (.Tuple [.Name y py,.Name z pz] k1 pt) (.Tuple xs k2 p2) bs [] pos) (LfB X.K a oe fs ρ (jV f i j ρ ds)):=by
 obtain⟨i1,i2,i3⟩:=bp ck hy
 obtain⟨j1,j2,j3⟩:=bp ck hz
 cases hr:jV f i j ρ ds with
 |none=>exact⟨fun _ _ _ _ _ _ z=>False.elim z⟩
 |some r =>
  have body:PSs X bs (fun D σ H=>∃ρ,LfB X.K a oe fs ρ (f ρ) D σ H):=⟨fun pins s σ H D I ⟨ρ,h⟩=>(hb ρ).run pins s σ H D I h⟩
  refine PS.imp (ps_forH hx.po hx.hot (ot (pe_tup hes)) (ou hx.hot (pgs_cons (pg_name nd i1 i2 i3) (pgs_cons (pg_name nd j1 j2 j3) pgs_nil))) body) ?_
  intro D σ H hq
  have key:∃G,RelG X.K G H∧cE X.K H oe.dict fs∧σ[0]?=some (some (.ref a))∧RelE X.K H ρ σ∧(∀σ' H' ρ',r=(ρ',none)→Fra G H G H'→RelG X.K G H'→cE X.K H' oe.dict fs→σ'[0]?=some (some (.ref a))→RelE X.K H' ρ' σ'→D.nx σ' H')∧∀v H' ρ' d,r=(ρ',some d)→Fra G H G H'→RelG X.K G H'→cE X.K H' oe.dict fs→Rep X.K H' v d→D.rt v H':=by
   obtain⟨ρ',o⟩:=r
   cases o with
   |none =>
    obtain⟨G,g,rx,h0,hE,q⟩:=hq
    exact⟨G,g,rx,h0,hE,fun σ' H' ρ2 e f g' rx' z1 z2=>(by cases e;exact q σ' H' f g' rx' z1 z2),fun v H' ρ2 d e=>(by cases e)⟩
   |some d =>
    obtain⟨G,g,rx,h0,hE,q⟩:=hq
    exact⟨G,g,rx,h0,hE,fun σ' H' ρ2 e=>(by cases e),fun v H' ρ2 d e f g' rx' z=>(by cases e;exact q v H' f g' rx' z)⟩
  obtain⟨G,g,rx,h0,hE,qn,qr⟩:=key
  refine⟨G,g,rx,h0,hE,fun vs H1 f1 g1 rx1 r1=>⟨Nat.le_trans (by rw[r1.length];exact hl) (show 1000≤sizeLine by decide),fun p hp=>?_⟩⟩
  have rp:Rep X.K (upd H1 p (.tup vs)) (.ref p) (.tup ds):=.tup (.inl upd_same) (r1.mono (.new hp))
  have f2:Fra G H G (upd H1 p (.tup vs)):=f1.trans fun b u e t n=>⟨by rw[upd_ne (ne_of_none e hp)];exact e,n⟩
  have g2:=g1.newT (o:=.tup vs) hp
  have rx2:=cU (o:=.tup vs) rx1 hp
  have hE2:=hE.mono (f2.stab g)
  generalize upd H1 p (.tup vs)=H2 at rp f2 g2 rx2 hE2 ⊢
  refine⟨p,rfl,by obtain⟨a',vs',e,h1,_⟩:=aW rp;cases e;exact⟨_,h1.sq⟩,?_⟩
  refine⟨fun n m σ' H'=>m=ds.length - n∧n≤ds.length∧∃ρn,Fra G H2 G H'∧RelG X.K G H'∧cE X.K H' oe.dict fs∧σ'[0]?=some (some (.ref a))∧RelE X.K H' ρn σ'∧jV f i j ρn (ds.drop n)=some r,⟨ds.length,by simp,Nat.zero_le _,ρ,.refl,g2,rx2,h0,hE2,hr⟩,?_⟩
  rintro n m σ' H' ⟨rfl,hn,ρn,f3,g3,rx3,h3,hE3,hl3⟩
  obtain⟨a',vs',e,ht,rs⟩:=aW (rp.mono (f3.stab g2))
  cases e
  by_cases hlt:n<ds.length
  ·right
   obtain⟨v,d,hv,hd,rd⟩:=rs.lt hlt
   have hdr:ds.drop n=d :: ds.drop (n+1):=by
    rw[List.drop_eq_getElem_cons hlt]
    rw[Me hlt]at hd
    cases hd
    rfl
   rw[hdr]at hl3
   refine⟨⟨vs',v,ht.sq,hv⟩,fun σ2 H2'=>n+1≤ds.length∧∃ρn,Fra G H2 G H2'∧RelG X.K G H2'∧cE X.K H2' oe.dict fs∧σ2[0]?=some (some (.ref a))∧RelE X.K H2' ρn σ2∧jV f i j ρn (ds.drop (n+1))=some r,fun σ2 H2' z=>⟨ds.length - (n+1),by omega,rfl,z⟩,fun x H4 yl=>?_⟩
   obtain⟨rfl,yl⟩:=yl
   have ex:=yl vs' ht.sq
   rw[hv]at ex
   cases ex
   unfold jV at hl3
   split at hl3
   ·rename_i heq;cases heq
   ·rename_i ρm ρz lz d1 d2 rest heq
    cases heq
    obtain⟨q1,ws,rfl,hw,rw2⟩:=aW rd
    cases rw2 with
    |cons ra rb =>
     cases rb with
     |cons rb rc =>
      cases rc
      refine⟨q1,_,rfl,hw.sq,rfl,_,_,rfl,_,_,rfl,rfl,(ρm.set i (some d1)).set j (some d2),?_⟩
      have hE4:=(hE3.set (i:=i) ra).set (i:=j) rb
      rename_i va vb
      have h4:((σ'.set i (some va)).set j (some vb))[0]?=some (some (V.ref a)):=by
       rw[List.getElem?_set_ne hj,List.getElem?_set_ne hi]
       exact h3
      cases hf:f ((ρm.set i (some d1)).set j (some d2))with
      |none=>rw[hf]at hl3;cases hl3
      |some w =>
       obtain⟨ρ',o⟩:=w
       rw[hf]at hl3
       cases o with
       |none=>exact⟨G,g3,rx3,h4,hE4,fun σ5 H5 f5 g5 rx5 h5 hE5=>⟨by omega,ρ',f3.trans f5,g5,rx5,h5,hE5,hl3⟩⟩
       |some d=>exact⟨G,g3,rx3,h4,hE4,fun v H5 f5 g5 rx5 r5=>qr v H5 ρ' d (by cases hl3;rfl) ((f2.trans f3).trans f5) g5 rx5 r5⟩
   ·cases hl3
  ·left
   have hn':n=ds.length:=by omega
   subst hn'
   rw[List.drop_length]at hl3
   cases hl3
   refine⟨⟨vs',ht.sq,by rw[rs.length];exact M7 _⟩,qn σ' H' ρn rfl (f2.trans f3) g3 rx3 h3 hE3⟩
mutual
theorem K7(nd:X.N.Nodup)(hx:HX X a oe E)(ck:bz X C Γ)(tb:TbOk X.prog X.w X.K X.mg X.base Γ k):∀(s:HB) (x:Stmt) (ρ:aj),mz C s x=true→PS X x (LfB X.K a oe fs ρ (evS Γ E fs ρ s))
 |.set i v,x,ρ,h=>by
  unfold mz at h
  split at h
  ·simp only[M3,decide_eq_true_eq]at h
   obtain⟨⟨⟨h1,h2⟩,h3⟩,h4⟩:=h
   obtain⟨k1,k2,k3⟩:=bp ck h1
   unfold evS
   cases hv:evV Γ E fs ρ v with
   |none=>exact⟨fun _ _ _ _ _ _ z=>False.elim z⟩
   |some d =>
    refine PS.imp (ps_set (X:=X) nd k1 k2 (gK hx ck tb v _ ρ d h2 hv) (nj h3) k3) ?_
    rintro D σ H ⟨G,g,rx,h0,hE,q⟩
    refine⟨G,g,rx,h0,hE,fun u H1 f1 g1 rx1 r1=>q _ H1 f1 g1 rx1 ?_ ((hE.mono (f1.stab g)).set r1)⟩
    rw[List.getElem?_set_ne h4]
    exact h0
  ·cases h
 |.ret v,x,ρ,h=>by
  unfold mz at h
  split at h
  ·unfold evS
   cases hv:evV Γ E fs ρ v with
   |none=>exact⟨fun _ _ _ _ _ _ z=>False.elim z⟩
   |some d =>
    refine PS.imp (ps_ret (gK hx ck tb v _ ρ d h hv)) ?_
    rintro D σ H ⟨G,g,rx,h0,hE,q⟩
    exact⟨G,g,rx,h0,hE,q⟩
  ·cases h
 |.if_ c b,x,ρ,h=>by
  unfold mz at h
  split at h
  ·simp only[M3]at h
   obtain⟨⟨h1,h2⟩,h3⟩:=h
   unfold evS
   split
   ·rename_i hc
    refine PS.imp (ps_if (u:=fun _ _ _=>False) (pt_val (gK hx ck tb c _ ρ _ h1 hc) (eB h2)) (okHBs nd hx ck tb b _ ρ h3) ⟨fun _ _ _ _ _ _ z=>False.elim z⟩) ?_
    intro D σ H hq
    have key:∃G,RelG X.K G H∧cE X.K H oe.dict fs∧σ[0]?=some (some (.ref a))∧RelE X.K H ρ σ∧∀H',Fra G H G H'→RelG X.K G H'→cE X.K H' oe.dict fs→LfB X.K a oe fs ρ (evSs Γ E fs ρ b) D σ H':=by
     cases hr:evSs Γ E fs ρ b with
     |none=>rw[hr]at hq;exact False.elim hq
     |some z =>
      obtain⟨ρ',o⟩:=z
      rw[hr]at hq
      cases o with
      |none =>
       obtain⟨G,g,rx,h0,hE,q⟩:=hq
       exact⟨G,g,rx,h0,hE,fun H1 f1 g1 rx1=>⟨G,g1,rx1,h0,hE.mono (f1.stab g),fun σ' H2 f2 g2 rx2 z1 z2=>q σ' H2 (f1.trans f2) g2 rx2 z1 z2⟩⟩
      |some d =>
       obtain⟨G,g,rx,h0,hE,q⟩:=hq
       exact⟨G,g,rx,h0,hE,fun H1 f1 g1 rx1=>⟨G,g1,rx1,h0,hE.mono (f1.stab g),fun v H2 f2 g2 rx2 z1=>q v H2 (f1.trans f2) g2 rx2 z1⟩⟩
    obtain⟨G,g,rx,h0,hE,q⟩:=key
    refine⟨G,g,rx,h0,hE,fun v H' f g' rx' r=>?_⟩
    cases r
    refine⟨true,rfl,?_⟩
    simp only[if_true]
    exact q H' f g' rx'
   ·rename_i hc
    refine PS.imp (ps_if (t:=fun _ _ _=>False) (pt_val (gK hx ck tb c _ ρ _ h1 hc) (eB h2)) ⟨fun _ _ _ _ _ _ z=>False.elim z⟩ pss_nil) ?_
    rintro D σ H ⟨G,g,rx,h0,hE,q⟩
    refine⟨G,g,rx,h0,hE,fun v H' f g' rx' r=>?_⟩
    cases r
    refine⟨false,rfl,?_⟩
    simp only[M6,if_false]
    exact q σ H' f g' rx' h0 (hE.mono (f.stab g))
   ·exact⟨fun _ _ _ _ _ _ z=>False.elim z⟩
  ·cases h
 |.for2 i j es b,x,ρ,h=>by
  unfold mz at h
  split at h
  ·simp only[M3,decide_eq_true_eq]at h
   obtain⟨⟨⟨⟨⟨h1,h2⟩,h3⟩,h4⟩,h5⟩,h6⟩:=h
   unfold evS
   cases he:evVs Γ E fs ρ es with
   |none=>exact⟨fun _ _ _ _ _ _ z=>False.elim z⟩
   |some ds =>
    dsimp only
    split
    ·rename_i hl
     exact Iw nd hx ck ρ h1 h2 h3 h4 hl (okHVs hx ck tb es _ ρ ds h5 he) (fun ρ=>okHBs nd hx ck tb b _ ρ h6)
    ·exact⟨fun _ _ _ _ _ _ z=>False.elim z⟩
  ·cases h
theorem okHBs(nd:X.N.Nodup)(hx:HX X a oe E)(ck:bz X C Γ)(tb:TbOk X.prog X.w X.K X.mg X.base Γ k):∀(ss:List HB) (xs:List Stmt) (ρ:aj),corHBs C ss xs=true→PSs X xs (LfB X.K a oe fs ρ (evSs Γ E fs ρ ss))
 |[],xs,ρ,h=>by
  unfold corHBs at h
  cases xs with
  |cons _ _=>cases h
  |nil =>
   unfold evSs
   exact PSs.imp pss_nil fun D σ H ⟨G,g,rx,h0,hE,q⟩=>q σ H .refl g rx h0 hE
 |s :: ss,xs,ρ,h=>by
  unfold corHBs at h
  cases xs with
  |nil=>cases h
  |cons x xs =>
   simp only[M3]at h
   have h1:=K7 nd hx ck tb s x ρ h.1
   unfold evSs
   cases hr:evS Γ E fs ρ s with
   |none=>exact⟨fun _ _ _ _ _ _ z=>False.elim z⟩
   |some z =>
    obtain⟨ρ',o⟩:=z
    rw[hr]at h1
    cases o with
    |none =>
     refine PSs.imp (pss_cons h1 (okHBs nd hx ck tb ss xs ρ' h.2)) ?_
     intro D σ H hq
     dsimp only at hq
     cases hr2:evSs Γ E fs ρ' ss with
     |none=>rw[hr2]at hq;exact False.elim hq
     |some z2 =>
      obtain⟨ρ2,o2⟩:=z2
      rw[hr2]at hq
      cases o2 with
      |none =>
       obtain⟨G,g,rx,h0,hE,q⟩:=hq
       exact⟨G,g,rx,h0,hE,fun σ' H1 f1 g1 rx1 z1 z2=>⟨G,g1,rx1,z1,z2,fun σ2 H2 f2 g2 rx2 y1 y2=>q σ2 H2 (f1.trans f2) g2 rx2 y1 y2⟩⟩
      |some d =>
       obtain⟨G,g,rx,h0,hE,q⟩:=hq
       exact⟨G,g,rx,h0,hE,fun σ' H1 f1 g1 rx1 z1 z2=>⟨G,g1,rx1,z1,z2,fun v H2 f2 g2 rx2 y1=>q v H2 (f1.trans f2) g2 rx2 y1⟩⟩
    |some d =>
     refine PSs.imp (pss_cons h1 (okHBs nd hx ck tb ss xs ρ' h.2)) ?_
     rintro D σ H ⟨G,g,rx,h0,hE,q⟩
     exact⟨G,g,rx,h0,hE,q⟩
end
end
section
variable {P:Program} {w:World} {K:M0} {mg:Str→Option Value} {base:Heap} {Γ:Gam} {k:Nat} {N ps:List Str} {x qual:Str} {params:Arguments} {body:List Stmt} {scope:Scope} {f:Addr} {fd:FuncData}
end
end Av
namespace Av
variable [Tb]
def sixK:List Str:=["EncodeError","DecodeError","NoHandler","NoCodec","BadPlace","BadAnswer"]
structure KdG(Γ:Gam)(oth:List Str):Prop where
 ex:((sixK++oth).all fun C=>Tb.exo C)=true
 sb:((sixK++oth).all fun C=>sixK.all fun D=>decide (Tb.sub (.inr C) (.inr D)=some (decide (C=D))))=true
 x1:Γ.xc "EncodeError" =some dD
 x2:Γ.xc "DecodeError" =some dD
 x3:Γ.xc "NoHandler" =some (["name"]:List Str)
 x4:Γ.xc "NoCodec" =some (["name"]:List Str)
 x5:Γ.xc "BadPlace" =some (["place"]:List Str)
 x6:(Γ.xc "BadAnswer").isSome=true
theorem KdG.sub{Γ:Gam}{oth:List Str}(g:KdG Γ oth){C D:Str}(hC:C∈sixK++oth)(hD:D∈sixK):Tb.sub (.inr C) (.inr D)=some (decide (C=D)):=by
 have:=List.all_eq_true.1 g.sb C hC
 have:=List.all_eq_true.1 this D hD
 exact of_decide_eq_true this
theorem KdG.exo{Γ:Gam}{oth:List Str}(g:KdG Γ oth){C:Str}(hC:C∈sixK++oth):Tb.exo C=true:=List.all_eq_true.1 g.ex C hC
structure TrR(Γ:Gam)(kd:Kd)(LT:Nat→Option il):Prop where
 lam:∀q L,LT q=some L→Γ.lam q=some L∧L.ar=0
 hf:∃h,Γ.hf "_law_kind" =some h∧∀C fs d,kd C fs=some d→h C fs=some d
 x1:Γ.xc "SignError" =some []
 m1:∀C fs d,kd C fs=some d→Tb.xm C "SignError" =some true
end Av
namespace Av
variable [Tb]
def pyF:Dat→PyData
 |.bl b=>.bool b
 |.int i=>.int i
 |.str s=>.str s
 |_=>.none
omit [Tb] in
theorem qE{G:AG}{d:Dat}(h:aH d=true):jB G d (pyF d):=by
 cases d with
 |non=>exact .non
 |bl b=>exact .bl b
 |int i=>exact .int i
 |str s=>exact .str s
 |_=>cases h
omit [Tb] in
theorem fY{G:AG}:∀{ds:List Dat},(∀d∈ds,aH d=true)→Deeps G ds (ds.map pyF)
 |[],_=>.nil
 |d :: ds,h=>.cons (qE (h d (Mi ..))) (fY fun x hx=>h x (Mj _ hx))
omit [Tb] in
theorem eO(ds:List Dat)(h:∀d∈ds,(pyF d).canLay0=true):SeqAt.shaped (.list (ds.map pyF))=true:=by
 have l:PyData.canLayAll0 (ds.map pyF)=true:=by
  induction ds with
  |nil=>rfl
  |cons d ds ih=>rw[Mc,PyData.canLayAll0,ih fun x hx=>h x (Mj _ hx),h d (Mi ..)];rfl
 have d:PyData.depthAll (ds.map pyF)=0:=by
  clear l h
  induction ds with
  |nil=>simp[PyData.depthAll]
  |cons d ds ih =>
   rw[Mc,PyData.depthAll,ih]
   cases d <;> simp[pyF,PyData.depth]
 unfold SeqAt.shaped
 rw[PyData.canLay0,l,PyData.depth,d]
 rfl
omit [Tb] in
theorem fM{α:Type}:∀(l:List α) (k:Nat) (h:k<l.length),(l[k] :: l.eraseIdx k).Perm l
 |a :: l,0,_=>.refl _
 |a :: l,k+1,h=>by
  rw[List.eraseIdx_cons_succ]
  refine .trans (.swap _ _ _) ?_
  exact .cons _ (fM l k (by simpa using h))
omit [Tb] in
theorem z9{k n:Nat}(h:k<n):seqIndex? ((k:Nat):Int) n=some k:=by
 unfold seqIndex?
 simp
 omega
def xx:Con:=fun ds G Q X=>∃p n o x its,ds=[.ref p,x]∧G p=some o∧DrO (n+its.length) o∧aV G x=some its∧its.length≤1000∧(∀d∈its,aH d=true∧(pyF d).canLay0=true)∧∀js o',js.Perm its→DrO n o'→Q (.lst js) (gu G p o')
def lE:FnE:={con:=xx,ar:=2,len:=fun ds G Q X ⟨_,_,_,_,_,h,_⟩=>by rw[h];rfl}
def bt:List S:=[
 .par2 2 3 (.blt false .list [(.var 1)]) (.lst false []),
 .while_ (.cmp .ne (.var 2) (.lst true [])) [.expr (.meth .append (.var 3) [(.meth .popAt (.var 2) [(.call "_law_draw" [(.var 0),(.blt true .len [(.var 2)])])])])],
 .ret (.frz (.var 3))]
theorem A0(Γ:Gam)(hd:Γ.fn "_law_draw" =some dM)(N:List Str)(hN:N.length=4)(ds:List Dat)(G:AG)(Q:AQ)(X:AX)(h:xx ds G Q X):wSs Γ bt (ah N ds) G (ay Q X):=by
 obtain⟨p,n,o,x,its,rfl,hp,ho,hx,hl,hf,hq⟩:=h
 have e:ah N [.ref p,x]=[some (.ref p),some x,none,none]:=by unfold ah;rw[hN];rfl
 rw[e]
 have big:=big
 unfold bt
 ((first|rw[wSs]|(dsimp only;rw[wSs]));simp only[wS,wE,wEs,M9,M8,Mm,Mn,zE,yA,bN,exists_eq_left',hx])
 refine⟨by omega,fun L hL=>⟨by (first|assumption|decide|(simp only[RgOk,CMul,CDiv,CPow];omega)|(have:=big;omega)|(have:=big;simp only[Mb,Mq,M5,Mf,Mr];omega)),fun F hF=>?_⟩⟩
 have nLp:L≠p:=fun z=>by rw[z,hp]at hL;cases hL
 have nFL:F≠L:=fun z=>by rw[z,ak]at hF;cases hF
 have hF0:G F=none:=by rw[aC nFL]at hF;exact hF
 have nFp:F≠p:=fun z=>by rw[z,hp]at hF0;cases hF0
 refine Hh (fun ρ G'=>∃(js:List Dat) (o':AO),ρ=[some (.ref p),some x,some (.ref L),some (.ref F)]∧js.Perm its∧DrO n o'∧G' F=some (.lst js)∧(∀a u,a≠F→gu G p o' a=some u→G' a=some u)) ?_ fun Z hZ=>?_
 ·rintro ρ G' ⟨js,o',rfl,h1,h2,h3,h4⟩
  ((first|rw[wSs]|(dsimp only;rw[wSs]));simp only[wS,wE,M9,M8])
  have e:mR (.ref F) G' (ay Q X).rt=(ay Q X).rt (.lst js) (gx G' F):=by unfold mR;simp only[h3]
  rw[e]
  refine⟨gu G p o',fun a u ha=>?_,hq js o' h1 h2⟩
  have na:a≠F:=fun z=>by rw[z,aC nFp,hF0]at ha;cases ha
  rw[dA na]
  exact h4 a u na ha
 ·refine GQ (fun m ρ G'=>∃(as js:List Dat) (o':AO),m=as.length∧ρ=[some (.ref p),some x,some (.ref L),some (.ref F)]∧(js++as).Perm its∧DrO (n+as.length) o'∧G' L=some (.lst as)∧G' F=some (.lst js)∧G' p=some o'∧(∀a u,a≠F→a≠p→G a=some u→G' a=some u))
   ⟨its.length,its,[],o,rfl,rfl,.refl _,ho,by rw[aC nFL.symm];exact ak,ak,by rw[aC nFp.symm,aC nLp.symm];exact hp,fun a u n1 _ e=>by rw[aC n1,aC fun z=>by subst z;rw[hL]at e;cases e];exact e⟩ ?_
  rintro m ρ G' N' hN' ⟨as,js,o',rfl,rfl,h1,h2,h3,h4,h5,h6⟩
  have hfa:∀d∈as,aH d=true∧(pyF d).canLay0=true:=fun d hd=>hf d (h1.subset (List.mem_append_right _ hd))
  have hla:js.length+as.length=its.length:=by rw[←Mf];exact h1.length_eq
  simp only[wT,wE,M9,M8,wEs,zD]
  refine⟨by (first|assumption|decide|(simp only[RgOk,CMul,CDiv,CPow];omega)|(have:=big;omega)|(have:=big;simp only[Mb,Mq,M5,Mf,Mr];omega)),.inr ⟨_,_,.ref h3 (fY fun d hd=>(hfa d hd).1),.lst .nil,eO as fun d hd=>(hfa d hd).2,eO [] (by simp),?_⟩⟩
  cases as with
  |nil =>
   have e1:PyData.eqv (.list (([]:List Dat).map pyF)) (.list [])=true:=by rw[PyData.eqv];rfl
   rw[e1]
   simp only[Bool.not_true,if_true,zY,M6,if_false]
   rw[List.append_nil]at h1
   refine hZ _ _ ⟨js,o',rfl,h1,h2,h4,fun a u na ha=>?_⟩
   by_cases ap:a=p
   ·subst ap;rw[ak]at ha;rw[h5];exact ha
   ·rw[aC ap]at ha;exact h6 a u na ap ha
  |cons d as =>
   have e1:PyData.eqv (.list ((d :: as).map pyF)) (.list [])=false:=by rw[PyData.eqv];rfl
   rw[e1]
   simp only[Bool.not_false,if_true,zY]
   ((first|rw[wSs]|(dsimp only;rw[wSs]));simp only[wS,wE,M9,M8,yh,wEs,ym,bN,exists_eq',ze,yG,yv,yf,exists_eq_left',true_and,hd,h3])
   have h2':DrO (n+as.length+1) o':=h2
   refine⟨⟨js,by unfold mm;rw[h4]⟩,by decide,p,_,n+as.length,o',rfl,h5,h2',by simp only[Mb];omega,by simp only[Mb]at hla ⊢;omega,fun r o2 r0 r1 d2=>?_⟩
   obtain⟨k,rfl⟩:∃k:Nat,r=(k:Nat):=⟨r.toNat,by omega⟩
   have hk:k<(d :: as).length:=by omega
   have hp2:gu G' p o2 L=some (.lst (d :: as)):=by rw[aC nLp];exact h3
   refine⟨d :: as,k,(d :: as)[k],hp2,by omega,by simp only[Mb]at hla hk;omega,?_,Me hk,?_⟩
   ·exact z9 hk
   have e4:(gu (gu G' p o2) L (.lst ((d :: as).eraseIdx k))) F=some (.lst js):=by rw[aC nFL,aC nFp];exact h4
   have le:((d :: as).eraseIdx k).length=as.length:=by rw[List.length_eraseIdx,if_pos hk];simp
   refine⟨js,e4,by simp only[Mb]at hla;omega,hN' as.length _ _ (by simp) ⟨(d :: as).eraseIdx k,js++[(d :: as)[k]],o2,le.symm,rfl,?_,by rw[le];exact d2,by rw[aC nFL.symm];exact ak,ak,by rw[aC nFp.symm,aC nLp.symm];exact ak,fun a u n1 n2 e=>?_⟩⟩
   ·refine .trans ?_ h1
    rw[List.append_assoc]
    refine .append_left _ ?_
    exact fM _ k hk
   ·have nL:a≠L:=fun z=>by rw[z,hL]at e;cases e
    rw[aC n1,aC nL,aC n2]
    exact h6 a u n1 n2 e
def EF(r:Row):Prop:=r.Pairwise fun a b=>a=none∨a≠b
instance (r:Row):Decidable (EF r):=by unfold EF;infer_instance
end Av
namespace Av
variable [Tb]
structure rX(x:Dat)(ps:List Pr):Prop where
 of:Ct x ps
 g:TbG ps
 nd:(ps.map (·.1)).Nodup
 few:∀p∈ps,(fC p.2).length≤4
def CK:List Dat:=[.int 65,.int 97,.int 98,.int 128,.int 233,.int 8364,.int 56448,.int 55296,.int 1114111,.int 0,.int 63,.non,.non,.tup [],.tup [.int 97],.tup [.int 97,.int 8364],.lst [.int 98,.int 99]]
def BY(d:Dat):Prop:=PlE d∧mw 1114111 d=true∧(fC d).length≤4
omit [Tb] in
theorem BZ:∀d∈CK,(jD d && (itD d).all jD && decide ((itD d).length≤100000) && mw 1114111 d && decide ((fC d).length≤4))=true:=by decide
theorem lH{d:Dat}(h:d∈CK):BY d:=by
 have:=BZ d h
 simp only[M3,decide_eq_true_eq]at this
 exact⟨⟨this.1.1.1.1,this.1.1.1.2,this.1.1.2⟩,this.1.2,this.2⟩
def qZ:Con:=fun ds G Q X=>∃p n o,ds=[.ref p]∧G p=some o∧DrO (n+1) o∧∀d o',d∈CK→DrO n o'→Q d (gu G p o')
def gY:FnE:={con:=qZ,ar:=1,len:=fun ds G Q X ⟨_,_,_,h,_⟩=>by rw[h];rfl}
def cr:List S:=[
 .set 1 (.lst true [(.cst (.int 65)),(.cst (.int 97)),(.cst (.int 98)),(.cst (.int 128)),(.cst (.int 233)),(.cst (.int 8364)),(.cst (.int 56448)),(.cst (.int 55296)),(.cst (.int 1114111)),(.cst (.int 0)),(.cst (.int 63)),(.cst (.non)),(.cst (.non)),(.tup []),(.tup [(.cst (.int 97))]),(.tup [(.cst (.int 97)),(.cst (.int 8364))]),(.lst true [(.cst (.int 98)),(.cst (.int 99))])]),
 .ret (.call "_law_pick" [(.var 0),(.var 1)])]
theorem tY(Γ:Gam)(hk:Γ.fn "_law_pick" =some lF)(N:List Str)(hN:N.length=2)(ds:List Dat)(G:AG)(Q:AQ)(X:AX)(h:qZ ds G Q X):wSs Γ cr (ah N ds) G (ay Q X):=by
 obtain⟨p,n,o,rfl,hp,ho,hq⟩:=h
 have e:ah N [.ref p]=[some (.ref p),none]:=by unfold ah;rw[hN];rfl
 rw[e]
 have big:=big
 unfold cr
 ((first|rw[wSs]|(dsimp only;rw[wSs]));simp only[wS,wE,wEs,Mm,Mn,zD])
 with_reducible refine And.intro (by (first|assumption|decide|(simp only[RgOk,CMul,CDiv,CPow];omega)|(have:=big;omega)|(have:=big;simp only[Mb,Mq,M5,Mf,Mr];omega))) ?_
 repeat (with_reducible refine And.intro (by (first|assumption|decide|(simp only[RgOk,CMul,CDiv,CPow];omega)|(have:=big;omega)|(have:=big;simp only[Mb,Mq,M5,Mf,Mr];omega))) ?_)
 ((first|rw[wSs]|(dsimp only;rw[wSs]));simp only[wS,wE,wEs,M8,M9,hk])
 exact⟨by decide,p,n,o,_,CK,rfl,hp,ho,rfl,by decide,by decide,fun d o' hd d'=>rt_ (X:=X) (hq d o' hd d')⟩
def prE:Nat→List Dat→List Pr
 |_,[]=>[]
 |k,e :: r=>(((k:Nat):Int),e) :: prE (k+1) r
omit [Tb] in
theorem om:∀(r:List Dat) (k:Nat),(prE k r).length=r.length
 |[],_=>rfl
 |_ :: r,k=>by unfold prE;rw[Mb,Mb,om r]
omit [Tb] in
theorem eV:∀(r:List Dat) (k:Nat),∀p∈prE k r,((k:Nat):Int)≤p.1∧p.1<((k+r.length:Nat):Int)∧p.2∈r
 |[],_,p,h=>by cases h
 |e :: r,k,p,h=>by
  unfold prE at h
  rcases Ml.1 h with rfl|h
  ·exact⟨by show ((k:Nat):Int)≤((k:Nat):Int);omega,by show ((k:Nat):Int)<_;rw[Mb];omega,by simp⟩
  ·obtain⟨a,b,q⟩:=eV r (k+1) p h
   exact⟨by omega,by rw[Mb];omega,by simp[q]⟩
omit [Tb] in
theorem kP:∀(r:List Dat) (k:Nat),(prE k r).Pairwise fun a b=>a.1<b.1
 |[],_=>.nil
 |e :: r,k=>by
  unfold prE
  refine .cons (fun p hp=>?_) (kP r (k+1))
  have:=(eV r (k+1) p hp).1
  show ((k:Nat):Int)<p.1
  omega
theorem kQ:∀(r:List Dat) (k:Nat),bR k r=(prE k r).map pT
 |[],_=>rfl
 |e :: r,k=>by
  show Dat.tup [.int k,e] :: bR (k+1) r=_
  rw[kQ r (k+1)]
  rfl
theorem xO{x:Dat}{ys:List Dat}(hx:x = .tup ys∨x = .lst ys)(hl:ys.length≤256)(h:∀y∈ys,BY y):rX x (prE 0 ys):=by
 refine⟨.inl ⟨ys,hx,kQ ys 0⟩,⟨by rw[om];omega,fun p hp=>?_,fun p hp=>?_⟩,?_,fun p hp=>?_⟩
 ·obtain⟨a,b,_⟩:=eV ys 0 p hp
  omega
 ·obtain⟨_,_,q⟩:=eV ys 0 p hp
  exact⟨(h _ q).1,(h _ q).2.1⟩
 ·unfold List.Nodup
  rw[List.pairwise_map]
  exact (kP ys 0).imp fun h=>by omega
 ·obtain⟨_,_,q⟩:=eV ys 0 p hp
  exact (h _ q).2.2
theorem C2{ps:List Pr}(hl:ps.length≤256)(hk:∀p∈ps,0≤p.1∧p.1≤255)(nd:(ps.map (·.1)).Nodup)(h:∀p∈ps,BY p.2):rX (dzP ps) ps :=
 ⟨.inr ⟨_,rfl,rfl,nd⟩,⟨by omega,hk,fun p hp=>⟨(h p hp).1,(h p hp).2.1⟩⟩,nd,fun p hp=>(h p hp).2.2⟩
def FU:Con:=fun ds G Q X=>∃p n o x xs,ds=[.ref p,x]∧mu x=some xs∧xs.length≤1000∧G p=some o∧DrO (n+1) o∧∀y o',(y = .tup xs∨y = .lst xs)→DrO n o'→Q y (gu G p o')
def uS:FnE:={con:=FU,ar:=2,len:=fun ds G Q X ⟨_,_,_,_,_,h,_⟩=>by rw[h];rfl}
theorem EG(Γ:Gam)(hd:Γ.fn "_law_draw" =some dM)(N:List Str)(hN:N.length=2)(ds:List Dat)(G:AG)(Q:AQ)(X:AX)(h:FU ds G Q X):wSs Γ ig (ah N ds) G (ay Q X):=by
 obtain⟨p,n,o,x,xs,rfl,hx,hl,hp,ho,hq⟩:=h
 have e:ah N [.ref p,x]=[some (.ref p),some x]:=by unfold ah;rw[hN];rfl
 rw[e]
 have big:=big
 unfold ig
 ((first|rw[wSs]|(dsimp only;rw[wSs]));simp only[wS,wE,wEs,M9,M8,zD,yA,yz,hd])
 refine⟨_,cJ hx,_,cJ hx,by omega,by (first|assumption|decide|(simp only[RgOk,CMul,CDiv,CPow];omega)|(have:=big;omega)|(have:=big;simp only[Mb,Mq,M5,Mf,Mr];omega)),by decide,p,2,n,o,rfl,hp,ho,by decide,by decide,fun r o' r0 r1 d=>?_⟩
 rcases (show r=0∨r=1 by omega)with rfl|rfl
 ·exact ixL rfl (rt_ (X:=X) (hq _ o' (.inl rfl) d))
 ·exact ixL rfl (rt_ (X:=X) (hq _ o' (.inr rfl) d))
theorem kO:∀ps:List Pr,iL (ps.map pT)=some (ps.map toK)
 |[]=>rfl
 |p :: ps=>by
  show iL (.tup [.int p.1,p.2] :: ps.map pT)=_
  unfold iL
  rw[kO ps]
  rfl
theorem gN:∀(l acc:List Pr),((acc++l).map (·.1)).Nodup→aY (acc.map toK) (l.map toK)=(acc++l).map toK
 |[],acc,_=>by rw[List.append_nil];rfl
 |p :: l,acc,h=>by
  have e:acc++p :: l=(acc++[p])++l:=by simp
  rw[e]at h ⊢
  rw[←gN l (acc++[p]) h]
  show aY (bG (acc.map toK) (.inl p.1) p.2) (l.map toK)=_
  congr 1
  rw[gG,eU]
  rw[if_neg,List.map_append]
  ·intro z
   obtain⟨q,hq,e2⟩:=List.any_eq_true.1 z
   have e2:=of_decide_eq_true e2
   rw[List.map_append,List.map_append]at h
   have:=(List.nodup_append.1 (List.nodup_append.1 h).1).2.2 q.1 (List.mem_map_of_mem hq) p.1 (by simp)
   exact this e2
def shufL:List Int:=[0,1,63,65,97,127,128,194,254,255]
theorem Hm:∀d∈di shufL,∃b,d = .int b:=fun d hd=>by obtain⟨b,_,e⟩:=List.mem_map.1 hd;exact⟨b,e.symm⟩
theorem Hn:∀b:Int,Dat.int b∈di shufL→0≤b∧b≤255:=fun b hb=>by
 obtain⟨c,hc,e⟩:=List.mem_map.1 hb
 cases e
 have:∀c∈shufL,0≤c∧c≤255:=by decide
 exact this _ hc
theorem Hl:(di shufL).Nodup:=by
 have:shufL.Nodup:=by decide
 unfold di List.Nodup
 rw[List.pairwise_map]
 exact this.imp fun h e=>h (Dat.int.inj e)
def qT:Con:=fun ds G Q X=>∃p n o,ds=[.ref p]∧G p=some o∧DrO (n+300) o∧∀x ps o',rX x ps→DrO n o'→Q x (gu G p o')
def gU:FnE:={con:=qT,ar:=1,len:=fun ds G Q X ⟨_,_,_,h,_⟩=>by rw[h];rfl}
def aN:List S:=[
 .if_ (.cmp .eq (.call "_law_draw" [(.var 0),(.cst (.int 2))]) (.cst (.int 0))) [.set 2 (.lc true (.call "_law_entry" [(.var 0)]) (.nm 3) (.rng1 (.call "_law_draw" [(.var 0),(.ix (.lst true [(.cst (.int 8)),(.cst (.int 70)),(.cst (.int 130)),(.cst (.int 257))]) (.call "_law_draw" [(.var 0),(.cst (.int 4))]))])) [3]),.ret (.call "_law_handed" [(.var 0),(.var 2)])] [],
 .set 1 (.slTo true (.call "_law_shuffled" [(.var 0),(.lst true [(.cst (.int 0)),(.cst (.int 1)),(.cst (.int 63)),(.cst (.int 65)),(.cst (.int 97)),(.cst (.int 127)),(.cst (.int 128)),(.cst (.int 194)),(.cst (.int 254)),(.cst (.int 255))])]) (.call "_law_draw" [(.var 0),(.cst (.int 11))])),
 .ret (.frz (.blt true .dct [(.lc true (.tup [(.var 4),(.call "_law_entry" [(.var 0)])]) (.nm 4) (.seq (.var 1)) [4])]))]
theorem tU(Γ:Gam)(hd:Γ.fn "_law_draw" =some dM)(he:Γ.fn "_law_entry" =some gY)(hh:Γ.fn "_law_handed" =some uS)(hs:Γ.fn "_law_shuffled" =some lE)(N:List Str)(hN:N.length=5)(ds:List Dat)(G:AG)(Q:AQ)(X:AX)(h:qT ds G Q X):wSs Γ aN (ah N ds) G (ay Q X):=by
 obtain⟨p,n,o,rfl,hp,ho,hq⟩:=h
 have e:ah N [.ref p]=[some (.ref p),none,none,none,none]:=by unfold ah;rw[hN];rfl
 rw[e]
 have big:=big
 unfold aN
 ((first|rw[wSs]|(dsimp only;rw[wSs]));simp only[wS,wT,wE,wEs,M8,ze,hd])
 refine⟨by decide,p,2,n+299,o,rfl,hp,ho,by decide,by decide,fun v o1 v0 v1 d1=>?_⟩
 by_cases c:v=0
 ·simp only[zN,decide_true,zY,if_true,c]
  ((first|rw[wSs]|(dsimp only;rw[wSs]));simp only[wS,wE,wI,wEs,M8,Mm,Mn,zD,hd])
  refine⟨by decide,by (first|assumption|decide|(simp only[RgOk,CMul,CDiv,CPow];omega)|(have:=big;omega)|(have:=big;simp only[Mb,Mq,M5,Mf,Mr];omega)),by decide,p,4,n+298,o1,rfl,ak,d1,by decide,by decide,fun w o2 w0 w1 d2=>?_⟩
  rw[fB]
  obtain⟨m,hm,b0,b1⟩:∃m,atI [Dat.int 8,.int 70,.int 130,.int 257] w=some (.int m)∧0<m∧m≤257:=by
   rcases (show w=0∨w=1∨w=2∨w=3 by omega)with rfl|rfl|rfl|rfl
   ·exact⟨8,rfl,by decide,by decide⟩
   ·exact⟨70,rfl,by decide,by decide⟩
   ·exact⟨130,rfl,by decide,by decide⟩
   ·exact⟨257,rfl,by decide,by decide⟩
  refine ixL hm ?_
  refine⟨p,m,n+297,o2,rfl,ak,d2,b0,by omega,fun k o3 k0 k1 d3=>?_⟩
  rw[fB]
  obtain⟨k,rfl⟩:∃i:Nat,k=(i:Nat):=⟨k.toNat,by omega⟩
  refine⟨by omega,by omega,?_⟩
  refine uB (n:=n+40) (w:=1) (P:=fun y=>y∈CK) (d3.mono (by rw[cS];omega)) (by rw[cS];omega) (fun d hd' i o' Q' ho' hQ=>?_) fun ys o4 hy hl d4=>?_
  ·simp only[tgW,bj]
   simp only[Mm,Mn,M8,he]
   refine⟨by decide,p,i,o',rfl,ak,ho',fun d o5 h5 d5=>?_⟩
   rw[fB]
   exact hQ _ _ h5 d5
  have hyl:ys.length≤256:=by rw[cS]at hl;omega
  ((first|rw[wSs]|(dsimp only;rw[wSs]));simp only[wS,wE,wEs,M8,M9,hh])
  refine⟨by decide,p,n,o4,_,ys,rfl,rfl,by omega,ak,d4.mono (by omega),fun y o5 hy5 d5=>?_⟩
  rw[fB]
  exact rt_ (X:=X) (hq y _ o5 (xO hy5 hyl fun z hz=>lH (hy z hz)) d5)
 ·simp only[zN,decide_false,zY,M6,if_false,c]
  ((first|rw[wSs]|(dsimp only;rw[wSs]));simp only[wS,wE,wEs,M8,Mm,Mn,zD,hs])
  refine⟨by decide,by (first|assumption|decide|(simp only[RgOk,CMul,CDiv,CPow];omega)|(have:=big;omega)|(have:=big;simp only[Mb,Mq,M5,Mf,Mr];omega)),p,n+200,o1,_,[.int 0,.int 1,.int 63,.int 65,.int 97,.int 127,.int 128,.int 194,.int 254,.int 255],rfl,ak,d1.mono (by show n+200+10≤_;omega),rfl,by decide,by decide,fun js o2 hpm d2=>?_⟩
  rw[fB]
  simp only[yt,zD,hd]
  refine⟨by decide,p,11,n+199,o2,rfl,ak,d2,by decide,by decide,fun k o3 k0 k1 d3=>?_⟩
  rw[fB]
  obtain⟨k,rfl⟩:∃i:Nat,k=(i:Nat):=⟨k.toNat,by omega⟩
  have hjl:js.length=10:=hpm.length_eq
  simp only[zZ]
  rw[FH (by omega),Int.toNat_natCast]
  refine⟨by rw[Mt];omega,?_⟩
  ((first|rw[wSs]|(dsimp only;rw[wSs]));simp only[wS,wE,wEs,wI,M9,M8,xq])
  refine iT (fun rem acc G'=>∃(ps:List Pr) (o':AO),js.take k=ps.map (fun q=>.int q.1)++rem∧acc=ps.map pT∧G'=gu G p o'∧DrO (n+rem.length) o'∧(∀q∈ps,q.2∈CK)) ?_ ?_ _ _ _ ⟨[],o3,rfl,rfl,rfl,d3.mono (by rw[Mt];omega),by simp⟩
  ·rintro d rem acc G' N hN ⟨ps,o',h1,rfl,rfl,h3,h4⟩
   refine⟨trivial,?_⟩
   obtain⟨b,rfl⟩:∃b,d = .int b:=by
    have:d∈js:=List.mem_of_mem_take (i:=k) (by rw[h1];simp)
    exact Hm d (hpm.subset this)
   have hpl:ps.length≤10:=by
    have:=congrArg List.length h1
    rw[Mf,M5,Mt]at this
    omega
   simp only[tgW,bj]
   simp only[Mm,Mn,M9,M8,he]
   refine⟨by decide,p,n+rem.length,o',rfl,ak,h3,fun d2 o5 h5 d5=>?_⟩
   rw[fB]
   refine⟨by (first|assumption|decide|(simp only[RgOk,CMul,CDiv,CPow];omega)|(have:=big;omega)|(have:=big;simp only[Mb,Mq,M5,Mf,Mr];omega)),by rw[M5];omega,?_⟩
   refine hN _ _ ⟨ps++[(b,d2)],o5,by rw[h1];simp,by rw[List.map_append];rfl,rfl,d5,fun q hq=>?_⟩
   rcases List.mem_append.1 hq with hq|hq
   ·exact h4 q hq
   ·rw[Ms.1 hq];exact h5
  ·rintro acc G' ⟨ps,o',h1,rfl,rfl,h3,h4⟩
   refine⟨trivial,?_⟩
   rw[List.append_nil]at h1
   have hsub:∀q∈ps,∃b,0≤b∧b≤255∧q.1=b:=fun q hq=>by
    have:Dat.int q.1∈js:=List.mem_of_mem_take (i:=k) (by rw[h1];exact List.mem_map_of_mem hq)
    obtain⟨h5,h6⟩:=Hn q.1 (hpm.subset this)
    exact⟨q.1,h5,h6,rfl⟩
   have nd:(ps.map (·.1)).Nodup:=by
    have n1:js.Nodup:=hpm.nodup_iff.2 Hl
    have n2:(js.take k).Nodup:=n1.sublist (List.take_sublist ..)
    rw[h1]at n2
    have e2:ps.map (fun q=>Dat.int q.1)=(ps.map (·.1)).map Dat.int:=by rw[List.map_map];rfl
    rw[e2]at n2
    exact List.Pairwise.of_map Dat.int (fun a b h e=>h (by rw[e])) n2
   have hpl:ps.length≤10:=by
    have:=congrArg List.length h1
    rw[M5,Mt]at this
    omega
   simp only[if_true]
   refine⟨_,_,rfl,kO ps,fun q hq0=>?_⟩
   rw[show aY [] (ps.map toK)=ps.map toK from gN ps [] nd]
   refine fV hq0 ?_
   have e3:(.dz ((ps.map toK).map (·.1)) ((ps.map toK).map (·.2)):Dat)=dzP ps:=by rw[List.map_map,List.map_map];rfl
   rw[e3]
   exact rt_ (X:=X) (hq _ ps o' (C2 (by omega) (fun q hq=>by obtain⟨b,b0,b1,e⟩:=hsub q hq;omega) nd fun q hq=>lH (h4 q hq)) (h3.mono (by simp)))
def tN1:Dat→Bool
 |.tup [_,.non]=>false
 |_=>true
theorem BN(l:List Pr):(l.map pT).filter tN1=(l.filter fun p=>!mQ p.2).map pT:=by
 rw[List.filter_map]
 congr 2
 funext p
 obtain⟨b,e⟩:=p
 cases e <;> rfl
def qY:Con:=fun ds G Q X=>∃x ps,ds=[x]∧rX x ps∧Q (dzP ((b9 ps).filter fun p=>!mQ p.2)) G
def gW:FnE:={con:=qY,ar:=1,len:=fun ds G Q X ⟨_,_,h,_⟩=>by rw[h];rfl}
def b__law_entries:List S:=[
 .set 1 (.ite (.val (.blt true .isinst [(.var 0),(.tup [(.glo "list"),(.glo "tuple")])])) (.lstEn true (.var 0)) (.lstIt true (.var 0))),
 .ret (.frz (.blt true .dct [(.lcIf true (.var 2) (.nm 2) (.seq (.srtk true (.var 1) (.lam 1 []))) (.cmp .isnt (.ix (.var 2) (.cst (.int 1))) (.cst (.non))) [2])]))]
theorem tW(Γ:Gam)(g1:Γ.gl "tuple" =some (.ty "tuple"))(g2:Γ.gl "list" =some (.ty "list"))(hL:Γ.lam 1=some lamKey)(N:List Str)(hN:N.length=3)(ds:List Dat)(G:AG)(Q:AQ)(X:AX)(h:qY ds G Q X):wSs Γ b__law_entries (ah N ds) G (ay Q X):=by
 obtain⟨x,ps,rfl,ht,hq⟩:=h
 have e:ah N [x]=[some x,none,none]:=by unfold ah;rw[hN];rfl
 rw[e]
 have big:=big
 have hlen:=ht.g.len
 have lam:∀Q':AQ,Q' (.lst ((b9 ps).map pT)) G→iB Γ true (.lst (ps.map pT)) (.clo 1 []) G Q':=fun Q' q=>by
  refine⟨ps.map pT,ps.map (·.1),1,[],lamKey,rfl,rfl,hL,by simp,fun i e n h1 h2=>?_,?_⟩
  ·rw[Mg]at h1 h2
   cases hp:ps[i]? with
   |none=>rw[hp]at h1;cases h1
   |some p =>
    rw[hp]at h1 h2
    cases h1
    cases h2
    exact⟨rfl,p.1,p.2,rfl,rfl,rfl⟩
  ·rw[iD]
   exact⟨by simp only[M5,b9,List.length_mergeSort];omega,q⟩
 have rest:wSs Γ (b__law_entries.drop 1) [some x,some (.lst (ps.map pT)),none] G (ay Q X):=by
  show wSs Γ [_] _ _ _
  ((first|rw[wSs]|(dsimp only;rw[wSs]));simp only[wS,wE,wEs,wI,M9,M8,wT,zK,dL,zY])
  refine⟨[],rfl,lam _ ?_⟩
  simp only[xq]
  refine iV (f:=id) (t:=tN1) trivial (by rw[M5,dT];omega) (fun d hd Q1 Q0 h1 h0=>?_) ?_
  ·obtain⟨⟨b,e⟩,hp',rfl⟩:=List.mem_map.1 hd
   simp only[pT,tgW,bj]
   simp only[Mm,Mn,M9,M8,Bool.not_eq_true',yn,xl,bN,exists_eq_left']
   cases e with
   |non=>rw[if_neg (by decide)];exact h0 rfl
   |_=>rw[if_pos rfl];exact h1 rfl
  ·rw[if_pos rfl,List.map_id,BN]
   refine⟨_,_,rfl,kO _,fun q hq0=>?_⟩
   have nd:(((b9 ps).filter fun p=>!mQ p.2).map (·.1)).Nodup:=by
    have n1:((b9 ps).map (·.1)).Nodup:=((List.mergeSort_perm ps _).map _).nodup_iff.2 ht.nd
    exact n1.sublist (List.filter_sublist.map _)
   rw[show aY [] (((b9 ps).filter fun p=>!mQ p.2).map toK)=((b9 ps).filter fun p=>!mQ p.2).map toK from gN _ [] nd]
   refine fV hq0 ?_
   have e3:(.dz ((((b9 ps).filter fun p=>!mQ p.2).map toK).map (·.1)) ((((b9 ps).filter fun p=>!mQ p.2).map toK).map (·.2)):Dat)=dzP ((b9 ps).filter fun p=>!mQ p.2):=by rw[List.map_map,List.map_map];rfl
   rw[e3]
   exact rt_ (X:=X) hq
 unfold b__law_entries
 ((first|rw[wSs]|(dsimp only;rw[wSs]));simp only[wS,wE,wT,wEs,M8,Mm,Mn,zD,yB,g1,g2])
 refine⟨by (first|assumption|decide|(simp only[RgOk,CMul,CDiv,CPow];omega)|(have:=big;omega)|(have:=big;simp only[Mb,Mq,M5,Mf,Mr];omega)),?_⟩
 rcases ht.of with⟨es,rfl|rfl,he⟩|⟨vs,rfl,rfl,hn⟩
 ·refine ej (t := "tuple") (b:=true) rfl (by decide+kernel) ?_
  simp only[yc,bN,exists_eq_left',zQ,if_true]
  rw[he]
  exact⟨by rw[M5];omega,rest⟩
 ·refine ej (t := "list") (b:=true) rfl (by decide+kernel) ?_
  simp only[yd,bN,exists_eq_left',zQ,if_true]
  rw[he]
  exact⟨by rw[M5];omega,rest⟩
 ·refine ej (t := "dict") (b:=false) rfl (by decide+kernel) ?_
  simp only[zQ,M6,if_false]
  refine⟨_,rfl,?_⟩
  have e3:jC ((ps.map fun p=>(.inl p.1:Key)).zip (ps.map (·.2)))=ps.map pT:=by
   rw[im]
   unfold jC
   rw[List.map_map]
   rfl
  rw[e3]
  exact⟨by rw[M5];omega,rest⟩
theorem BH{mo:Int}{x:Dat}(hp:jD x=true)(he:mw mo x=true){G:AG}{Q:AQ}(q:Q (.bl (isI x)) G):Fj x (.ty "int") G Q:=by
 cases x with
 |non=>exact dl (t := "NoneType") (b:=false) rfl (by decide+kernel) q
 |int i=>exact dl (t := "int") (b:=true) rfl (by decide+kernel) q
 |tup l=>exact dl (t := "tuple") (b:=false) rfl (by decide+kernel) q
 |lst l=>exact dl (t := "list") (b:=false) rfl (by decide+kernel) q
 |bl b=>cases he
 |str b=>cases he
 |ref a=>cases hp
 |ty a=>cases hp
 |gf a=>cases hp
 |kls a=>cases hp
 |clo a b=>cases hp
 |exc a b c=>cases hp
 |ktp a=>cases hp
 |dz a b=>cases hp
structure Gi(qs:List Pr):Prop where
 g:Kv qs
 few:∀p∈qs,(fC p.2).length≤4
def lkD(qs:List Pr):Dat→Dat
 |.int i=>(au ((qs.map fun p=>(.inl p.1:Key)).zip (qs.map (·.2))) (.inl i)).getD .non
 |_=>.non
theorem wM{qs:List Pr}(nd:(qs.map (·.1)).Nodup){p:Pr}(hp:p∈qs):lkD qs (.int p.1)=p.2:=by
 show (au _ (.inl p.1)).getD .non=_
 rw[cB nd hp];rfl
structure W0(qs:List Pr):Prop where
 nd:(qs.map (·.1)).Nodup
 ok:∀p∈qs,(0≤p.1∧p.1≤1114111)∧PlE p.2∧mw 255 p.2=true∧(fC p.2).length≤4
theorem W0.sub{qs:List Pr}(h:W0 qs)(f:Pr→Bool):W0 (qs.filter f):=⟨h.nd.sublist (List.filter_sublist.map _),fun p hp=>h.ok p (List.mem_filter.1 hp).1⟩
theorem W0.put{qs:List Pr}(h:W0 qs){c:Int}{d:Dat}(hc:0≤c∧c≤1114111)(hd:PlE d∧mw 255 d=true∧(fC d).length≤4):W0 (eU qs c d):=by
 refine⟨?_,fun p hp=>?_⟩
 ·rw[eT]
  split
  ·exact h.nd
  ·rename_i hn
   rw[List.nodup_append]
   refine⟨h.nd,by simp,fun x hx y hy=>?_⟩
   have e:y=c:=by simpa using hy
   subst e
   intro z
   subst z
   obtain⟨q,hq,e2⟩:=List.mem_map.1 hx
   exact hn (List.any_eq_true.2 ⟨q,hq,by simp[e2]⟩)
 ·rcases eR hp with h1|rfl
  ·exact h.ok p h1
  ·exact⟨hc,hd⟩
theorem W0.ways{qs:List Pr}(h:W0 qs)(hl:qs.length≤3000):Gi qs:=⟨⟨hl,h.nd,fun p hp=>(h.ok p hp).1,fun p hp=>⟨(h.ok p hp).2.1,(h.ok p hp).2.2.1⟩⟩,fun p hp=>(h.ok p hp).2.2.2⟩
end Av
namespace Av
variable [Tb]
def JK(x:Ex)(y:Dat)(a:An2):Prop:=∃wd z cs p q,y = .tup [.str wd,z,.int p]∧JE z cs∧cs.length≤90000∧q≤x.src.length∧Gz p x.src.length=((q:Nat):Int)∧
 ((wd = "text"∧(∀c∈cs,a0 c)∧a = .text cs q)∨(x.wr=true∧wd = "bytes"∧(∀c∈cs,0≤c∧c≤255)∧a = .bytes cs q))
def LU(G:AG)(x:Ex)(y:Dat)(a:An2):Prop:=∃w z p,y = .tup [w,z,.int p]∧WEq G w∧jD z=true∧(itD z).all jD=true∧(itD z).length≤100000∧
 ((isS "bytes" w && (x.wr && kU 255 z))|| (isS "text" w && kU 1114111 z))=true∧(Gz p x.src.length<0∨(x.src.length:Int)<Gz p x.src.length)∧a = .raise "BadPlace" [("place",.int (Gz p x.src.length))]
def Ko(G:AG)(x:Ex)(y:Dat)(a:An2):Prop:=JK x y a∨LU G x y a∨(LX G x.wr y∧a = .raise "BadAnswer" [])
def FY:Con:=fun ds G Q X=>∃(x:Ex) (y:Dat) (a:An2),ds=[x.dat,y]∧Ko G x y a∧GL a G Q X
def w9:FnE:={con:=FY,ar:=2,len:=fun ds G Q X ⟨_,_,_,h,_⟩=>by rw[h];rfl}
def JN(x:Ex):An2→Prop
 |.text cs q=>q≤x.src.length∧cs.length≤90000
 |.bytes cs q=>q≤x.src.length∧cs.length≤90000∧x.wr=true
 |.raise _ _=>True
structure OkE(x:Ex):Prop where
 se:x.s<x.e
 le:x.e≤x.src.length
 bd:∀b∈x.src,bdX x.wr b
 len:x.src.length≤20000
structure jA where
 q:Nat
 cl:List Addr
 ft:List Addr
 ow:List Addr
 inv:AG→List Ex→Prop
 H:List Ex→Ex→An2
structure GO(S:jA):Prop where
 dep:∀{G G' l},S.inv G l→(∀b∈S.ow,G' b=G b)→S.inv G' l
 occ:∀{G l},S.inv G l→∀b∈S.ow,∃u,G b=some u∧∀C fs,u≠.ins C fs
 nok:∀{G l},S.inv G l→∀b∈S.ft,∀kv,G b≠some (.dk kv)
 sub:∀b∈S.ft,b∈S.ow
 code:∀{l x},OkE x→JN x (S.H l x)
def IW(Fam:jA→Prop)(q:Nat)(cl:List Addr):Con:=fun ds G Q X=>∃S l x,Fam S∧S.q=q∧S.cl=cl∧ds=[Ex.dat x]∧S.inv G l∧OkE x∧l.length<60000∧
 (∀G' y,KeepO S.ft G G'→S.inv G' (l++[x])→Ko G' x y (S.H l x)→Q y G')∧(∀C fs G',KeepO S.ft G G'→S.inv G' (l++[x])→S.H l x = .raise C fs→X C fs G')
def hLE(Fam:jA→Prop)(q:Nat):il:={con:=IW Fam q,ar:=1,len:=fun cl ds G Q X h=>by obtain⟨_,_,_,_,_,_,h,_⟩:=h;rw[h];rfl}
structure JM(Γ:Gam)(Fam:jA→Prop):Prop where
 at_:∀f∈(["registry","errors","handler"]:List Str),Γ.at_ "Answers" f=true
 hn:Γ.ms "Registry" "handler_named" =some qi
 chk:Γ.fn "checked_answer" =some w9
 lam:∀S,Fam S→Γ.lam S.q=some (hLE Fam S.q)
structure Kx(Γ:Gam):Prop where
 at_:∀f∈(["registry","errors","handler"]:List Str),Γ.at_ "Answers" f=true
 hn:Γ.ms "Registry" "handler_named" =some qi
 chk:Γ.fn "checked_answer" =some w9
 h1:Γ.fn "answer_strict" =some (bD "strict")
 h2:Γ.fn "answer_ignore" =some (bD "ignore")
 h3:Γ.fn "answer_replace" =some (bD "replace")
 h4:Γ.fn "answer_xmlcharrefreplace" =some (bD "xmlcharrefreplace")
 h5:Γ.fn "answer_backslashreplace" =some (bD "backslashreplace")
 h6:Γ.fn "answer_surrogateescape" =some (bD "surrogateescape")
 h7:Γ.fn "answer_surrogatepass" =some (bD "surrogatepass")
structure Kw(Γ:Gam)(Fam:jA→Prop):Prop where
 o:JM Γ Fam
 hnd:∀nm h,au pC (.inr nm)=some (.gf h)→Γ.fn h=some (gX nm)
end Av
namespace Av
variable [Tb]
structure RegS(G:AG)(r S q h:Addr)(ss:List Dat)(fv kv:List (Key × Dat)):Prop where
 r_:G r=some (.ins "Registry" (CA ⟨.ref S,q⟩ h))
 s_:G S=some (.lst ss)
 q_:G q=some (.dk fv)
 h_:G h=some (.dk kv)
 hq:h≠q
theorem RegS.k{G:AG}{r S q h:Addr}{ss:List Dat}{fv kv:List (Key × Dat)}(R:RegS G r S q h ss fv kv):Gk G r kv:=⟨_,h,R.r_,R.h_⟩
theorem RegS.sub{G G':AG}{r S q h:Addr}{ss:List Dat}{fv kv:List (Key × Dat)}(R:RegS G r S q h ss fv kv)(s:Sub G G'):RegS G' r S q h ss fv kv:=⟨s _ _ R.r_,s _ _ R.s_,s _ _ R.q_,s _ _ R.h_,R.hq⟩
theorem RegS.put{G:AG}{r S q h p:Addr}{ss:List Dat}{fv kv:List (Key × Dat)}{o:AO}(R:RegS G r S q h ss fv kv)(h1:p≠r)(h2:p≠S)(h3:p≠q)(h4:p≠h):RegS (gu G p o) r S q h ss fv kv :=
 ⟨by rw[aC h1.symm];exact R.r_,by rw[aC h2.symm];exact R.s_,by rw[aC h3.symm];exact R.q_,by rw[aC h4.symm];exact R.h_,R.hq⟩
theorem RegS.rq{G:AG}{r S q h:Addr}{ss:List Dat}{fv kv:List (Key × Dat)}(R:RegS G r S q h ss fv kv):r≠q:=fun z=>by have:=R.r_;rw[z,R.q_]at this;cases this
theorem RegS.rs{G:AG}{r S q h:Addr}{ss:List Dat}{fv kv:List (Key × Dat)}(R:RegS G r S q h ss fv kv):r≠S:=fun z=>by have:=R.r_;rw[z,R.s_]at this;cases this
theorem RegS.sq{G:AG}{r S q h:Addr}{ss:List Dat}{fv kv:List (Key × Dat)}(R:RegS G r S q h ss fv kv):S≠q:=fun z=>by have:=R.s_;rw[z,R.q_]at this;cases this
theorem RegS.sh{G:AG}{r S q h:Addr}{ss:List Dat}{fv kv:List (Key × Dat)}(R:RegS G r S q h ss fv kv):S≠h:=fun z=>by have:=R.s_;rw[z,R.h_]at this;cases this
end Av
namespace Av
abbrev Gj:=List ((String ⊕ Str) × (String ⊕ Str) × Bool)
abbrev GW(T:List NdefX.NTab)(is:Nat→mS→Prop)(fr:Nat→List Str)(exos:List Str)(subs:Gj)(xms:List (Str × Str × Bool))(owns:List Str:=[]):Tb :=
 {T:=T,is:=is,fr:=fr,own:=fun C=>decide (C∈owns),exo:=fun C=>decide (C∈exos),sub:=fun a b=>(subs.find? fun q=>decide (q.1=a∧q.2.1=b)).map (·.2.2),xm:=fun a b=>(xms.find? fun q=>decide (q.1=a∧q.2.1=b)).map (·.2.2)}
def uX(K:M0)(D:Addr):Bool :=
 decide (PySem.W.findIn K (.ref D) "__getattribute__" =some (some (.builtin "BaseException.__getattribute__"))) && decide (PySem.W.findIn K (.ref D) "__getattr__" =some none) && decide (PySem.W.subIn K (.ref D) (.type "BaseException")=some true) && PySem.W.hasDictIn K D
 && decide (PySem.W.findIn K (.ref D) "__class__" =some (some (.builtin "object.__class__"))) && decide (PySem.W.specialIn K (.builtin "object.__class__") "__get__" =some (some (.builtin "getset_descriptor.__get__"))) && decide (PySem.W.takesIn K (.builtin "object.__class__")=some true) && decide (PySem.W.mroIn K D (.type "object")=some true)
theorem uW{K:M0}{D:Addr}(h:uX K D=true):ExcC K D:=by
 unfold uX at h
 simp only[M3,decide_eq_true_eq]at h
 obtain⟨⟨⟨⟨⟨⟨⟨h1,h2⟩,h3⟩,h4⟩,h5⟩,h6⟩,h7⟩,h8⟩:=h
 exact⟨h1,h2,h3,h4,h5,h6,h7,h8⟩
def JT(K:M0)(q:(String ⊕ Str) × (String ⊕ Str) × Bool):Bool:=decide (PySem.W.kitOne K (eF K q.1) (eF K q.2.1)=some q.2.2)
def xmB(K:M0)(q:Str × Str × Bool):Bool:=decide (PySem.W.exmOne K (.ref (He.ga K q.1)) (.ref (He.ga K q.2.1))=some q.2.2)
theorem IN{T:List NdefX.NTab}{is:Nat→mS→Prop}{fr:Nat→List Str}{exos:List Str}{subs:Gj}{xms:List (Str × Str × Bool)}{owns:List Str}{K:M0}(h1:exos.all (fun C=>uX K (He.ga K C))=true)(h2:subs.all (JT K)=true)(h3:xms.all (xmB K)=true)(h4:∀C∈owns,Kt K (He.ga K C):=by intro C h;cases h)(h5:∀C∈owns,HNI.EqC K (He.ga K C):=by intro C h;cases h) :
  @si (GW T is fr exos subs xms owns) K:=by
 letI:=GW T is fr exos subs xms owns
 refine⟨fun C h=>h4 C (of_decide_eq_true h),fun C h=>h5 C (of_decide_eq_true h),fun C h=>?_,fun t n b h=>?_,fun C D b h=>?_⟩
 ·have h:C∈exos:=of_decide_eq_true h
  exact uW (List.all_eq_true.mp h1 C h)
 ·have h:(subs.find? fun q=>decide (q.1=t∧q.2.1=n)).map (·.2.2)=some b:=h
  cases q:subs.find? fun q=>decide (q.1=t∧q.2.1=n)with
  |none=>rw[q]at h;cases h
  |some r =>
   rw[q]at h
   have hr:=List.find?_some q
   have hr:=of_decide_eq_true hr
   have hm:=List.all_eq_true.mp h2 r (List.mem_of_find?_eq_some q)
   have hm:=of_decide_eq_true hm
   rw[hr.1,hr.2]at hm
   cases h
   exact hm
 ·have h:(xms.find? fun q=>decide (q.1=C∧q.2.1=D)).map (·.2.2)=some b:=h
  cases q:xms.find? fun q=>decide (q.1=C∧q.2.1=D)with
  |none=>rw[q]at h;cases h
  |some r =>
   rw[q]at h
   have hr:=List.find?_some q
   have hr:=of_decide_eq_true hr
   have hm:=List.all_eq_true.mp h3 r (List.mem_of_find?_eq_some q)
   have hm:=of_decide_eq_true hm
   rw[hr.1,hr.2]at hm
   cases h
   exact hm
section
variable [Tb] {P:Program} {w:World} {K:M0} {mg:Str→Option Value} {base:Heap} {t:Tab} {k:Nat}
theorem TbOk.consX{C:Str}{fl:List Str}(tb:TbOk P w K mg base (Gm t) k)(hm:mg C=some (.ref (He.ga K C)))(hx:XcOk P w K mg base k (He.ga K C) fl)(hf:fl≠[]→XfC K (He.ga K C)∧∀f∈fl,PySem.W.findIn K (.ref (He.ga K C)) f=some none) :
  TbOk P w K mg base (Gm {t with xcs:=(C,fl) :: t.xcs}) k:=by
 refine⟨tb.fn,tb.gl,tb.blt,tb.at_,tb.ms,tb.mke,fun D fl' h=>?_,fun D fl' h hne=>?_,tb.dc,tb.fa,tb.kt,tb.lam,tb.hf,tb.rng,tb.zip,tb.enum,tb.cm,tb.mn⟩
 ·have h2:(match D == C with|true=>some fl|false=>t.xcs.lookup D)=some fl':=h
  cases e:(D == C)with
  |true =>
   rw[e]at h2
   cases h2
   cases aM e
   exact⟨hm,hx⟩
  |false =>
   rw[e]at h2
   exact tb.xc D fl' h2
 ·have h2:(match D == C with|true=>some fl|false=>t.xcs.lookup D)=some fl':=h
  cases e:(D == C)with
  |true =>
   rw[e]at h2
   cases h2
   cases aM e
   exact hf hne
  |false =>
   rw[e]at h2
   exact tb.xf D fl' h2 hne
theorem TbOk.consX0{C:Str}(tb:TbOk P w K mg base (Gm t) k)(hm:mg C=some (.ref (He.ga K C)))(hB:(He.Fa.exc C).ok K=true):TbOk P w K mg base (Gm {t with xcs:=(C,[]) :: t.xcs}) k:=by
 unfold He.Fa.ok at hB
 simp only[M3,decide_eq_true_eq]at hB
 obtain⟨h1,h2,h3,h4⟩:=hB
 exact tb.consX hm (.inl ⟨rfl,h1,h2,h3,h4⟩) fun z=>absurd rfl z
end
end Av
namespace Av
abbrev tbL(T:List NdefX.NTab)(lams:List (Nat × LW))(exos:List Str)(subs:Gj)(xms:List (Str × Str × Bool))(owns:List Str:=[]):Tb :=
 GW T (fun q L=>∃lw,lams.lookup q=some lw∧GF lw L=true) (fun q=>match lams.lookup q with|some lw=>lw.fr|none=>[]) exos subs xms owns
def CH(lams:List (Nat × LW)):Nat→mS→Bool:=fun q L=>match lams.lookup q with
 |some lw=>GF lw L
 |none=>false
def Fq(lams:List (Nat × LW)):Nat→List Str:=fun q=>match lams.lookup q with|some lw=>lw.fr|none=>[]
theorem pP{T:List NdefX.NTab}{lams:List (Nat × LW)}{exos:List Str}{subs:Gj}{xms:List (Str × Str × Bool)}{owns:List Str}:∀q L,CH lams q L=true→(tbL T lams exos subs xms owns).is q L∧Fq lams q=(tbL T lams exos subs xms owns).fr q:=fun q L h=>by
 unfold CH at h
 split at h
 ·rename_i lw e
  exact⟨⟨lw,e,h⟩,rfl⟩
 ·cases h
section
variable [Tb] {P:Program} {w:World} {K:M0} {mg:Str→Option Value} {base:Heap} {t:Tab} {k:Nat}
theorem TbOk.consL{q:Nat}{L:il}(tb:TbOk P w K mg base (Gm t) k)(hL:LamOk P w K mg base (k+1) q L):TbOk P w K mg base (Gm {t with lms:=(q,L) :: t.lms}) (k+2):=by
 have up:=tb.up (Nat.le_add_right k 2)
 refine⟨up.fn,up.gl,up.blt,up.at_,up.ms,up.mke,up.xc,up.xf,up.dc,up.fa,up.kt,fun x L' h=>?_,up.hf,up.rng,up.zip,up.enum,up.cm,up.mn⟩
 have h2:(match x == q with|true=>some L|false=>t.lms.lookup x)=some L':=h
 cases e:(x == q)with
 |true =>
  rw[e]at h2
  cases h2
  have:x=q:=by simpa using e
  subst this
  exact⟨k+1,M7 _,hL⟩
 |false =>
  rw[e]at h2
  exact up.lam x L' h2
end
def hU(K:M0)(c P:Addr):Bool:=match K.lookup c with
 |some ⟨.type t,_,.fields vs,_⟩=>decide (t = "code") && decide (vs[11]?=some (.ref P)) && (match vs.getD 18 .none with|.str _ _=>true|_=>false) && (match vs.getD 7 .none with|.int _ _=>true|_=>false)
   && (match vs.getD 9 .none with|.bool _=>true|_=>false) && (match vs.getD 10 .none with|.int _ _=>true|_=>false) && decide (c≠P)
 |_=>false
theorem codeHdB_ok{K:M0}{h:Heap}{c P:Addr}(X:K.In h)(e:hU K c P=true):PySem.W.CodeHd h c P:=by
 unfold hU at e
 split at e
 ·rename_i t dd vs sl q
  simp only[M3,decide_eq_true_eq]at e
  obtain⟨⟨⟨⟨⟨⟨rfl,e1⟩,e2⟩,e3⟩,e4⟩,e5⟩,e6⟩:=e
  split at e2
  ·rename_i file tf q2
   split at e3
   ·rename_i fl tg q3
    split at e4
    ·rename_i inF q4
     split at e5
     ·rename_i tx tt q5
      refine⟨_,vs,file,tf,fl,tg,inF,tx,tt,X _ _ q,rfl,rfl,e1,?_,q2,q3,q4,q5,e6⟩
      rw[Array.getD_eq_getD_getElem?,e1];rfl
     ·cases e5
    ·cases e4
   ·cases e3
  ·cases e2
 ·cases e
def spLaw [Tb](K:M0):Sp:=fun vs H Q E=>∃(a:Addr) (ns:List Int),vs=[.ref a]∧SqL K H a (ns.map V.int)∧NdefX.TabsN Tb.T H∧∀v H',v = .bl true→Q v H'
theorem tabs0{T:List NdefX.NTab}{H:Hp}(h:∀p∈T,H p.1=some (.tbl #[])):NdefX.TabsN T H:=fun p hp=>⟨#[],h p hp,trivial,fun pos cv e=>by cases e⟩
def vi(K:M0)(f c:Addr):Bool:=match K.lookup f with
 |some ⟨_,_,.func fd,_⟩=>decide (fd.code = .ref c)
 |_=>false
theorem wL [Tb]{K:M0}{base:Heap}{mg:Str→Option Value}{x qual:Str}{params:Arguments}{body:List Stmt}{scope:Scope}{dvs:List V}{kws:List (Str × V)}{f c P:Addr}{fd:FuncData}(FD:FunD K x qual params body scope dvs kws f fd)(h:vi K f c=true)(tb:LamX.TabB base mg c P)
  (hm:(P,fun _ _=>qual++ ".<locals>." ++ "<lambda>")∈Tb.T)(hu:∀p∈Tb.T,p.1=P→p.2=fun _ _=>qual++ ".<locals>." ++ "<lambda>"):LmD base mg fd qual:=by
 obtain⟨oc,od,dV,kV,doc,pm,an,cdv,ct,osl,rfl,lk,hcd,_,_⟩:=FD.ex
 unfold vi at h
 rw[lk]at h
 exact⟨c,P,_,tb,of_decide_eq_true h,hm,hu,fun _ _=>rfl⟩
theorem in_left{A B:M0}{h:Heap}(X:PySem.W.Frag.In (A++B) h):A.In h:=fun b o e=>X b o (by
 show List.lookup b (A++B)=some o
 rw[List.lookup_append]
 have e:List.lookup b A=some o:=e
 rw[e];rfl)
def L8(P:Program)(w:World)(k n:Nat)(x:Str)(mg:Str→Option Value)(fa:Addr)(h:Heap):Prop :=
 ∃(K:M0) (fd:FuncData) (cs:List (Addr × Addr)) (sp:Sp),K.In h∧(∀p∈cs,h.get? p.2=some {cls:=.none,data:=.fields #[]})∧(∀p∈cs,K.lookup p.2=none)∧(∀p∈cs,PySem.W.CodeHd h p.1 p.2)∧(∀(s:Shared) (u:Value),BindsTo s fd ⟨[u],[]⟩ [(x,u)])∧
  (∀(H:Hp) (a:Addr) (ns:List Int),(∀p∈cs,H p.2=some (.tbl #[]))→SqL K H a (ns.map V.int)→sp [.ref a] H (fun v _=>v = .bl true) fun _ _ _=>False)∧
  ∀base:Heap,K.In base→base.Ns mainGlobals mg→(∀p∈cs,LamX.TabB base mg p.1 p.2)→FnOk P w K mg base (L2N.CX P w) k fa fd [x] sp
end Av
namespace Av
end Av
namespace Av
open PySem PySem.Spec PyProof.Rows L2 LamX NdefX
variable [Tb]
structure LWS where
 N:List Str
 ps:List Str
 fr:List Str
 ss:List S
section
variable {P:Program} {w:World} {K:M0} {mg:Str→Option Value} {base:Heap} {Γ:Gam} {k q:Nat} {lw:LWS} {LE:il}
end
section
variable {X:Cx} {pins:List (Addr × Obj)} {σ:L2.St} {H:Hp} {s:Shared}
end
section
variable {X:Cx} {W:WX} {C:Ck} {Γ:Gam} {k:Nat}
end
section
variable {P:Program} {w:World} {K:M0} {mg:Str→Option Value} {base:Heap} {Γ:Gam} {k:Nat} {F:FnE} {N ps:List Str} {x qual nm0:Str} {params:Arguments} {body:List Stmt} {scope:Scope} {dvs:List V} {kws:List (Str × V)} {f:Addr} {fd:FuncData}
end
end Av
namespace Av
open PySem PySem.Spec PyProof.Rows L2 NdefX
variable [Tb]
mutual
inductive ET where
 |of(e:E)
 |rep(e:E)(y z:Str)
 |add(a b:ET)
 |lst(es:ETs)
 |call(f:Str)(es:ETs)
inductive ETs where
 |nil
 |cons(a:ET)(r:ETs)
end
def ETs.len:ETs→Nat
 |.nil=>0
 |.cons _ r=>r.len+1
mutual
def wET(Γ:Gam):ET→aj→AG→AQ→AX→Prop
 |.of e,ρ,G,Q,X=>wE Γ e ρ G Q X
 |.rep e y z,ρ,G,Q,X=>wE Γ e ρ G (fun x G1=>∃s,iz x=some s∧s.length+(s.length+1)*z.length≤16777216∧Q (.str (Txt.replace s y z)) G1) X
 |.add a b,ρ,G,Q,X=>wET Γ a ρ G (fun x G1=>wET Γ b ρ G1 (fun y G2=>cL true .add x y G2 Q) X) X
 |.lst es,ρ,G,Q,X=>wETs Γ es ρ G (fun ds G1=>nw true ds G1 Q) X
 |.call f es,ρ,G,Q,X=>match Γ.fn f with
  |some F=>(F.dfl=[]∧F.ar=es.len)∧wETs Γ es ρ G (fun ds G1=>F.con ds G1 Q X) X
  |none=>False
def wETs(Γ:Gam):ETs→aj→AG→(List Dat→AG→Prop)→AX→Prop
 |.nil,_,G,Q,_=>Q [] G
 |.cons e es,ρ,G,Q,X=>wET Γ e ρ G (fun d G1=>wETs Γ es ρ G1 (fun ds G2=>Q (d :: ds) G2) X) X
end
mutual
def jn(C:Ck):ET→Expr→Bool
 |.of e,x=>ae C e x
 |.rep e y z,x=>match x with
  |.Call (.Attribute o g ap) [.Constant (.str a) _ _,.Constant (.str b) _ _] [] cp=>(g == ("replace" : Str)) && aI o && (ap.endLine == cp.line) && (a == y) && (b == z) && !(y == z) && ae C e o
  |_=>false
 |.add a b,x=>match x with
  |.BinOp u .Add v _=>jn C a u && jn C b v
  |_=>false
 |.lst es,x=>match x with
  |.List xs _=>corETs C es xs
  |_=>false
 |.call f es,x=>match x with
  |.Call (.Name g _) (y :: ys) [] _=>(f == g) && bh C g && decide (es.len=ys.length+1) && (y :: ys).all af && corETs C es (y :: ys)
  |_=>false
def corETs(C:Ck):ETs→List Expr→Bool
 |.nil,[]=>true
 |.cons e es,x :: xs=>af x && jn C e x && corETs C es xs
 |_,_=>false
end
section
variable {X:Cx} {W:WX} {a b c:Expr} {pos:Pos} {w1 w2 w3:aj→AG→AQ→AX→Prop}
theorem PET.imp{e:Expr}{t t':TE}(h:PET X e t)(i:∀σ H Q,t' σ H Q→t σ H Q):PET X e t':=fun pins s σ H Q h0 I q=>h pins s σ H Q h0 I (i σ H Q q)
theorem PAT.imp{es:List Expr}{t t':TA}(h:PAT X es t)(i:∀σ H Q,t' σ H Q→t σ H Q):PAT X es t':=fun pos pins s σ H Q h0 I q=>h pos pins s σ H Q h0 I (i σ H Q q)
theorem Es{e:Expr}{t:TE}(h:PET X e t):PET X e fun σ H Q=>t σ H (Qz Q):=by
 refine fun pins s σ H Q h0 I q=>thn (h pins s σ H _ h0 I q) ?_
 rintro u s1 ⟨v,H1,I1,rv,q|⟨a,vs,rfl,ha,q⟩⟩
 ·exact⟨v,H1,I1,rv,q⟩
 ·obtain⟨z,its,n,_,_,ho⟩:=I1.lstM ha
  exact⟨.ref a,_,Inv.frozen I1 ha ho,rv,q _⟩
theorem l6{CX:CXT}{k:Nat}{sp:Sp}{f:Addr}{fd:FuncData}{ps:List Str}{x:Str}{ds:List Value}{dvs:List V}{E:L2.St→XK}{e:Expr}{es:List Expr}{t:TA}{p:Pos}(F:FnOk X.prog X.w X.K X.mg X.base CX k f fd ps sp)(hr:Room k X.A)(hg:Gl X x)(hm:X.mg x=some (.ref f))(hk:PySem.W.keepIn X.K (.ref f)=true)(hb:Binds X.K fd ps ds)(hd:Vals dvs ds)(hx:∀σ,PassesAt CX X σ (E σ))
  (ha:PAT X (e :: es) t)(hdb:(x == ("__debug__" : Str))=false)(he:starEach (e :: es) X.env=(false,eval e X.env) :: starEach es X.env)(hpl:(backTo pos (starEach es X.env)).any (·.1)=false) :
  PET X (.Call (.Name x p) (e :: es) [] pos) (tCallSD sp dvs E t):=by
 refine fun pins s σ H Q h0 I h=>?_
 refine wpAny_Call_Name_kw (ld_glob I hg hm ?_ hdb)
 refine PySem.W.callWith_K (h₀:=X.base) I.ok.mod.kin hk (thn (ha pos pins s σ H _ h0 I h) fun us s1 ⟨vs,H1,I1,r,q⟩=>⟨I1.kIn,?_⟩) he hpl
 exact run_fnSD F hr hb hd (hx σ) I1 r q
end
theorem iM{X:Cx}{W:WX}{x:Expr}{w1:aj→AG→AQ→AX→Prop}(h:∀ρ G Q E,¬w1 ρ G Q E):PET X x (LfE X.K W w1):=fun _ _ _ _ _ _ _ ⟨_,_,_,_,_,_,hw,_⟩=>(h _ _ _ _ hw).elim
mutual
theorem Ix{Γ:Gam}{k:Nat}:∀(e:ET) {X:Cx} {W:WX} {C:Ck} (x:Expr),Oc X W Γ k→bz X C Γ→jn C e x=true→PET X x (LfE X.K W (wET Γ e))
 |.of e,X,W,C,x,oc,ck,h=>PET.imp (CwR.PET.of (okE e x oc ck h)) fun σ H Q q=>q
 |.rep e y z,X,W,C,x,oc,ck,h=>by
  unfold jn at h
  split at h
  ·simp only[M3,beq_iff_eq,Bool.not_eq_true']at h
   obtain⟨⟨⟨⟨⟨⟨rfl,h2⟩,h3⟩,rfl⟩,rfl⟩,h5⟩,h6⟩:=h
   refine PET.imp (CwR.pet_replC (okE e _ oc ck h6) h5 rfl (aP h2) (by simpa using h3)) ?_
   rintro σ H Q ⟨ρ,G,Qa,Ea,hE,hG,hw,hp,hx⟩
   unfold wET at hw
   refine⟨ρ,G,_,Ea,hE,hG,hw,fun d G' v H' f g r q=>?_,hx⟩
   obtain⟨s,e1,hb,q⟩:=q
   have:d = .str s:=by
    cases d with
    |str t=>cases e1;rfl
    |_=>cases e1
   subst this
   cases dn r
   exact⟨s,rfl,hb,hp _ _ _ _ f g (.str _) q⟩
  ·cases h
 |.add a b,X,W,C,x,oc,ck,h=>by
  unfold jn at h
  split at h
  ·simp only[M3]at h
   obtain⟨r,k1,k2⟩:=xC X true .add
   refine PET.imp (Es (CwR.pet_op k1 (Ix a _ oc ck h.1) (Ix b _ oc ck h.2))) ?_
   rintro σ H Q ⟨ρ,G,Qa,Ea,hE,hG,hw,hp,hx⟩
   unfold wET at hw
   exact⟨ρ,G,_,Ea,hE,hG,hw,fun d G1 v H1 f g r1 q=>⟨ρ,G1,_,Ea,hE.mono (f.stab hG),g,q,
    fun e G2 u H2 f2 g2 r2 q2=>k2 H2 v u d e G2 Qa _ (r1.mono (f2.stab g)) r2 g2 q2 (bH fun d' G' v' H' f3=>hp d' G' v' H' ((f.trans f2).trans f3)),hx.fra f⟩,hx⟩
  ·cases h
 |.lst es,X,W,C,x,oc,ck,h=>by
  unfold jn at h
  split at h
  ·refine PET.imp (Es (pet_lst (okETs es _ oc ck h))) ?_
   rintro σ H Q ⟨ρ,G,Qa,Ea,hE,hG,hw,hp,hx⟩
   unfold wET at hw
   refine⟨ρ,G,_,Ea,hE,hG,hw,fun d G1 v H1 f g r1 q=>⟨by rw[r1.length];exact iO q,?_⟩,hx⟩
   exact aA g r1 q (bH fun d' G' v' H' f3=>hp d' G' v' H' (f.trans f3))
  ·cases h
 |.call f es,X,W,C,x,oc,ck,h=>by
  cases hF:Γ.fn f with
  |none=>exact iM fun ρ G Q E hw=>by unfold wET at hw;rw[hF]at hw;exact hw
  |some F =>
   unfold jn at h
   split at h
   ·rename_i g gp y ys cp
    simp only[M3,decide_eq_true_eq]at h
    obtain⟨⟨⟨⟨h1,h2⟩,h3⟩,h4⟩,h5⟩:=h
    cases aM h1
    obtain⟨g1,g2,g3⟩:=aF ck h2
    obtain⟨l3,l4⟩:=aL h4
    have hq:=okETs es _ oc ck h5
    by_cases hd0:F.dfl=[]∧F.ar=es.len
    ·obtain⟨q,fd,ps,hok,hm,hk,hbind⟩:=oc.tb.fn f F hF
     obtain⟨ds,dvs,hb,hv,hd⟩:=hbind (y :: ys).length (by rw[hd0.2,hd0.1,h3];exact M7 _) (by rw[hd0.2,h3];exact M7 _)
     refine PET.imp (l6 (E:=L2.WE W) hok oc.room g1 hm hk hb hv (fun σ=>L2N.passAt oc.tk σ) hq g2 (ax l3) (az l4)) fun σ H Q hh=>?_
     obtain⟨ρ,G,Qa,Ea,hE,hG,hw,hp,hx⟩:=hh
     unfold wET at hw
     rw[hF]at hw
     refine ez hd (fun _ _ _ z=>z) σ H Q ⟨ρ,G,Qa,Ea,hE,hG,?_,hp,hx⟩
     rw[hd0.1]
     simpa using hw.2
    ·exact iM fun ρ G Q E hw=>by
      unfold wET at hw
      rw[hF]at hw
      exact hd0 hw.1
   ·cases h
theorem okETs{Γ:Gam}{k:Nat}:∀(es:ETs) {X:Cx} {W:WX} {C:Ck} (xs:List Expr),Oc X W Γ k→bz X C Γ→corETs C es xs=true→PAT X xs (LfA X.K W (wETs Γ es))
 |.nil,X,W,C,xs,oc,ck,h=>by
  cases xs with
  |nil=>exact PAT.imp pat_nil fun σ H Q ⟨ρ,G,Qa,Ea,hE,hG,hw,hp,hx⟩=>by unfold wETs at hw;exact hp [] G [] _ .refl hG .nil hw
  |cons _ _=>unfold corETs at h;cases h
 |.cons e es,X,W,C,xs,oc,ck,h=>by
  cases xs with
  |nil=>unfold corETs at h;cases h
  |cons x xs =>
   unfold corETs at h
   simp only[M3]at h
   refine PAT.imp (pat_cons (Ix e x oc ck h.1.2) (okETs es xs oc ck h.2) (ax h.1.1)) ?_
   rintro σ H Q ⟨ρ,G,Qa,Ea,hE,hG,hw,hp,hx⟩
   unfold wETs at hw
   exact⟨ρ,G,_,Ea,hE,hG,hw,fun d G1 v H1 f g r1 q=>⟨ρ,G1,_,Ea,hE.mono (f.stab hG),g,q,
    fun e G2 u H2 f2 g2 r2 q2=>hp _ _ _ _ (f.trans f2) g2 (.cons (r1.mono (f2.stab g)) r2) q2,hx.fra f⟩,hx⟩
end
structure LT2 where
 i:Nat
 a:ET
 b:ET
section
variable {P:Program} {w:World} {K:M0} {mg:Str→Option Value} {base:Heap} {Γ:Gam} {k:Nat} {F:FnE} {N ps:List Str} {lt:LT2} {x qual:Str} {params:Arguments} {body:List Stmt} {scope:Scope} {dvs:List V} {kws:List (Str × V)} {f:Addr} {fd:FuncData}
end
end Av
namespace Av
end Av
namespace Av
variable [Tb]
def FnAt(P:Program)(w:World)(K:M0)(mg:Str→Option Value)(base:Heap)(A:Around)(f:Addr)(fd:FuncData)(ps:List Str)(sp:Sp):Prop :=
 ∀(out:List Env) (s:Shared) (H:Hp) (ar:Args) (us:List Value) (vs:List V) (Q:VK) (E:XK),Env0 P w K mg base A out s H→BindsTo s fd ar (ps.zip us)→Vals vs us→sp vs H Q E→codeAny (model P w) A (.call (.ref f) ar) (CR (L2N.CX P w) out P w H s Q E) s
def GM(K:M0):Prop:=∃(o:Obj) (es:Array DictEntry) (n:Nat),K.lookup sysModules=some o∧o.data = .dict es n
section
variable {P:Program} {w:World} {K:M0} {mg:Str→Option Value} {base:Heap} {Γ:Gam} {k:Nat} {F:FnE} {N ps:List Str} {ss:List S} {x qual:Str} {params:Arguments} {body:List Stmt} {scope:Scope} {dvs:List V} {kws:List (Str × V)} {f:Addr} {fd:FuncData} {A:Around}
theorem IY(C:Ck)(cz:Shared→Nat→Option Addr)(FD:FunD K x qual params body scope dvs kws f fd)(hS:aJ N ps scope=true)(hl:ps.length=F.ar)(tb:TbOk P w K mg base Γ k)(cor:corSs C ss body=true)(hr:Room (k+1) A)
  (hck:∀(oc:Value) (dV kV doc pm ct cdv:Value) (an:Option Addr) (out:List Env) (s:Shared) (H:Hp) (E:XK),fd=PySem.W.fnOf x qual params body scope dV kV doc pm an cdv ct→bz (cxOf (L2N.CX P w) P w K mg base N qual scope f cdv A out s H E) C (Γ.cells (cz s)))
  (hw:∀s ds G Q X,F.con ds G Q X→wSs (Γ.cells (cz s)) ss (ah N ds) G (ay Q X)):FnAt P w K mg base A f fd ps (bF K F):=by
 have FS:=eP hS
 obtain⟨oc,od,dV,kV,doc,pm,an,cdv,ct,osl,rfl,lk,hcd,_,_⟩:=FD.ex
 intro out s H ar us vs Q E e0 hb rv hsp
 have ln:vs.length=ps.length:=by rw[hl];exact gw hsp
 have old:∀b o,base.get? b=some o→s.heap.get? b=some o:=fun b o e=>(e0.bs b o e).1
 have inS:K.In s.heap:=e0.mod.kin.keeps old
 have par:∀y∈ps.zip us,scope.names.lookup y.1=some .local∨(scope.names.lookup y.1=some .cell∧((cellsFrom (s.heap.objs.size+1) scope.names []).lookup y.1).isSome=true):=by
  rintro⟨n,v⟩ hy
  exact (FS.par n (List.of_mem_zip hy).1).imp id fun q=>⟨q,PySem.W.cellsFrom_some _ _ _ (.inl q)⟩
 refine codeAny_call_function hr.depth (inS _ _ lk) rfl FS.co FS.gen rfl (PySem.W.codeRec_of inS hcd) (hb _ _ _ _ (wpAny_newFunctionEnv_cells FS.kind par ?_))
 rintro env rfl s1 ic
 refine⟨(e0.mod.nolimit.keeps old).keeps ic.toInCall.keep,codeAny_func ?_⟩
 obtain⟨ds,G,Qa,Ea,rd,g,hc,hp,hx⟩:=hsp
 have I:Inv (cxOf (L2N.CX P w) P w K mg base N qual scope f cdv A out s H E) [] (L2.start N vs) H s1:=inv_start FS hr.hd e0 ln rv ic
 have R:=Iu (W:=fun cls d _ H=>E cls d H) (passes_of rfl) ⟨rfl,rfl⟩ ⟨hr.deeper _,FS.nd,rfl,L2N.takes_of rfl rfl rfl rfl,tb.cells (cz s)⟩ (hck oc dV kV doc pm ct cdv an out s H E rfl) ss body cor
 refine wpAny_mono (R.run [] s1 _ H {nx:=fun _ H'=>Q .non H',rt:=Q} I ⟨ah N ds,G,ay Qa Ea,dq rd,g,hw s ds G Qa Ea hc,oZ hp hx⟩) ?_ fun e s' z=>z
 intro fl s' z
 cases fl with
 |ret u=>exact let ⟨v,_,H',J,rv',q⟩:=z;⟨v,H',J.os,J.bare,J.base,J.hok,rv',q⟩
 |next=>exact let ⟨_,H',J,q⟩:=z;⟨.non,H',J.os,J.bare,J.base,J.hok,rfl,q⟩
 |brk=>exact let ⟨_,_,_,q⟩:=z;q.elim
 |cont=>exact let ⟨_,_,_,q⟩:=z;q.elim
theorem IZ(FD:FunD K x qual params body scope dvs kws f fd)(hS:aJ N ps scope=true)(hl:ps.length=F.ar)(tb:TbOk P w K mg base Γ k)(cor:corSs {N:=N,sc:=scope,top:=true,gd:=true} ss body=true)(hr:Room (k+1) A)(hg:A.guards=some [])(hy:GM K)
  (hw:∀ds G Q X,F.con ds G Q X→wSs Γ ss (ah N ds) G (ay Q X))(h0:Γ.cs=fun _=>none:=by rfl):FnAt P w K mg base A f fd ps (bF K F):=by
 have e:Γ.cells (fun _=>none)=Γ:=by cases Γ;cases h0;rfl
 exact IY {N:=N,sc:=scope,top:=true,gd:=true} (fun _ _=>none) FD hS hl tb cor hr (fun oc dV kV doc pm ct cdv an out s H E _=>⟨rfl,rfl,fun _ _ _ _=>rfl,fun _ i c e=>(by cases e),fun _ _ z=>(by cases z),fun _=>⟨hg,hy⟩⟩) fun s=>by rw[e];exact hw
def JR(K:M0):Bool:=match K.lookup sysModules with
 |some o=>match o.data with
  |.dict _ _=>true
  |_=>false
 |none=>false
theorem xP(h:JR K=true):GM K:=by
 unfold JR at h
 split at h
 ·rename_i o e
  split at h
  ·rename_i es n d
   exact⟨o,es,n,e,d⟩
  ·cases h
 ·cases h
end
section
variable {P:Program} {w:World} {K:M0} {mg mb:Str→Option Value} {f a:Addr} {cs:List (Addr × Addr)} {fd:FuncData} {x:Str} {sp:Sp} {t:Shared} {its:List Value} {ns:List Int}
def cN(K:M0)(cs:List (Addr × Addr))(a:Addr)(its:List Value)(ns:List Int):Hp:=fun b =>
 if b∈cs.map (·.2) then some (.tbl #[]) else if b=a∧K.lookup a=none then some (.frz {cls:=.type "list",data:=.seq its.toArray} (.lst (ns.map V.int))) else none
theorem nv{p:Addr × Addr}(hp:p∈cs):cN K cs a its ns p.2=some (.tbl #[]):=if_pos (List.mem_map_of_mem hp)
theorem fH{b:Addr}(h1:b ∉ cs.map (·.2))(h2:b=a→K.lookup a≠none):cN K cs a its ns b=none:=by
 unfold cN
 rw[if_neg h1,if_neg fun z=>h2 z.1 z.2]
theorem iA{b:Addr}{u:HO}(h:cN K cs a its ns b=some u):(b∈cs.map (·.2)∧u = .tbl #[])∨(b ∉ cs.map (·.2)∧b=a∧K.lookup a=none∧u = .frz {cls:=.type "list",data:=.seq its.toArray} (.lst (ns.map V.int))):=by
 unfold cN at h
 split at h
 ·cases h
  exact .inl ⟨by assumption,rfl⟩
 ·split at h
  ·rename_i m z
   cases h
   exact .inr ⟨m,z.1,z.2,rfl⟩
  ·cases h
theorem o9(KX:K.In t.heap)(hns:t.heap.Ns mainGlobals mg)(hb:t.heap.Ns builtinsNs mb)(hbb:∀y:Str,y≠"__name__"→mb y=bootBuiltins y)(hlim:t.heap.NoLimit)(hg:t.gens = #[])
  (hT:∀p∈cs,t.heap.get? p.2=some {cls:=.none,data:=.fields #[]})(nT:∀p∈cs,K.lookup p.2=none)(C:∀p∈cs,PySem.W.CodeHd t.heap p.1 p.2)
  (hbm:∃(bm:Addr) (ob:Obj),mg "__builtins__" =some (.ref bm)∧bm≠builtinsNs∧t.heap.get? bm=some ob∧ob.cls = .type "module"∧ob.dict=some builtinsNs∧ob.data = .plain)
  (ha:t.heap.get? a=some {cls:=.type "list",data:=.seq its.toArray})(hi:IntsAre its ns)(hl:ns.length≤sizeLine)
  (F:∀base:Heap,K.In base→base.Ns mainGlobals mg→(∀p∈cs,LamX.TabB base mg p.1 p.2)→FnAt P w K mg base callerA f fd [x] sp)(hbind:∀(s:Shared) (u:Value),BindsTo s fd ⟨[u],[]⟩ [(x,u)])
  (hsp:∀H:Hp,(∀p∈cs,H p.2=some (.tbl #[]))→SqL K H a (ns.map V.int)→sp [.ref a] H (fun v _=>v = .bl true) fun _ _ _=>False) :
  codeAny (model P w) callerA (.call (.ref f) ⟨[.ref a],[]⟩) (fun r s'=>r = .ok (.ret (.bool true))∧OldK t.heap s'.heap∧s'.os=t.os∧AllBare s'.gens) t:=by
 have tab:∀b∈cs.map (·.2),t.heap.get? b=some {cls:=.none,data:=.fields #[]}∧K.lookup b=none:=fun b m=>by
  obtain⟨p,hp,rfl⟩:=List.mem_map.1 m
  exact⟨hT p hp,nT p hp⟩
 have aT:a ∉ cs.map (·.2):=fun m=>by
  have e:=(tab a m).1
  rw[ha]at e
  exact absurd (congrArg (fun o=>(Option.map Obj.data o)) e) (by simp)
 generalize hH:cN K cs a its ns=H
 have freeK:∀b,K.lookup b≠none→H b=none:=fun b n=>by
  rw[←hH]
  exact fH (fun m=>n (tab b m).2) fun z=>by rw[←z];exact n
 have freeD:∀{b:Addr} {o:Obj},t.heap.get? b=some o→(∀vs n,o.data≠.seq vs n)→o.data≠.fields #[]→H b=none:=fun {b o} e h1 h2=>by
  rw[←hH]
  refine fH (fun m=>?_) fun z=>?_
  ·rw[(tab b m).1]at e;cases e;exact absurd rfl h2
  ·rw[z,ha]at e;cases e;exact absurd rfl (h1 _ _)
 have up:∀{b:Addr} {o:Obj},t.heap.get? b=some o→(∀vs n,o.data≠.seq vs n)→o.data≠.fields #[]→(hidT t.heap H).get? b=some o:=fun e h1 h2=>hidT_get e (freeD e h1 h2)
 have ns_up:∀{b:Addr} {m:Str→Option Value},t.heap.Ns b m→(hidT t.heap H).Ns b m:=by
  rintro b m ⟨o,es,ep,e,d,r⟩
  exact⟨o,es,ep,up e (by rw[d];simp) (by rw[d];simp),d,r⟩
 have inB:K.In (hidT t.heap H):=fun b o e=>hidT_get (KX b o e) (freeK b (by
  have e:K.lookup b=some o:=e
  rw[e];simp))
 have tbs:∀p∈cs,LamX.TabB (hidT t.heap H) mg p.1 p.2:=by
  intro p hp
  have e2:=hT p hp
  refine⟨?_,?_,fun z=>?_⟩
  ·obtain⟨o,us,fi,tf,fl,tg,i9,tx,tt,e1,c1,c2,c3,r⟩:=C p hp
   exact⟨o,us,fi,tf,fl,tg,i9,tx,tt,up e1 (by rw[c2];simp) (fun z=>by rw[c2]at z;cases z;simp at c3),c1,c2,c3,r⟩
  ·obtain⟨bm,ob,b1,b2,b3,b4,b5,b6⟩:=hbm
   refine⟨bm,ob,b1,b2,fun z=>?_,fun z=>?_,up b3 (by rw[b6];simp) (by rw[b6];simp),b4,b5,b6⟩
   ·obtain⟨o,es,ep,e,d,_⟩:=hns
    rw[z,e]at b3;cases b3;rw[d]at b6;cases b6
   ·rw[z,e2]at b3;cases b3;cases b6
  ·obtain⟨o,es,ep,e,d,_⟩:=hns
   rw[z,e2]at e;cases e;cases d
 have hok:HOk P w H t.heap:=fun b u e=>by
  rw[←hH]at e
  rcases iA e with⟨m,rfl⟩|⟨_,rfl,_,rfl⟩
  ·exact (tab b m).1
  ·exact⟨ha,by rw[M5];exact hl,its,_,vals_ints hi,ha⟩
 have seq:SqL K H a (ns.map V.int):=by
  cases e:K.lookup a with
  |none=>exact .inl (.inr ⟨_,by rw[←hH];unfold cN;rw[if_neg aT,if_pos ⟨rfl,e⟩]⟩)
  |some o =>
   have z:=KX a o e
   rw[ha]at z
   cases z
   exact .inr ⟨_,its.toArray,_,e,rfl,rfl,rfl,by rw[List.size_toArray,hi.length];exact hl,vals_ints hi⟩
 have tH:∀p∈cs,H p.2=some (.tbl #[]):=fun p hp=>by rw[←hH];exact nv hp
 have nolim:(hidT t.heap H).NoLimit:=by
  obtain⟨mc,h1,h2⟩:=hlim
  exact⟨mc,ns_up h1,h2⟩
 have e0:Env0 P w K mg (hidT t.heap H) callerA [] t H:={
  frames:=rfl,mod:=⟨inB,ns_up hns,⟨mb,ns_up hb,hbb⟩,nolim⟩,bs:=fun b o e=>of_hidT e,bsz:=Nat.le_of_eq (hidT_size _ _),funs:=trivial,frf:=fun b m=>(by cases m),hok:=hok,bare:=.of_eq hg}
 refine codeAny_mono (F _ inB (ns_up hns) tbs [] t H ⟨[.ref a],[]⟩ [.ref a] [.ref a] _ _ e0 (hbind t (.ref a)) (.cons rfl .nil) (hsp H tH seq)) ?_
 intro r s' z
 cases r with
 |error e=>exact (let ⟨_,_,_,_,_,_,_,_,_,_,_,_,y⟩:=z;y:False).elim
 |ok fl =>
  cases fl with
  |next=>exact z.elim
  |brk=>exact z.elim
  |cont=>exact z.elim
  |ret u =>
   obtain⟨v,H',os,bare,un,hok',rv,q⟩:=z
   have q:v = .bl true:=q
   subst q
   have kept:∀b o,b ∉ cs.map (·.2)→t.heap.get? b=some o→s'.heap.get? b=some o:=fun b o m e=>by
    cases hb':H b with
    |none=>exact un.keep b o e hb' (fun y=>by cases y) (fun y=>by cases y)
    |some u' =>
     have e':=hb'
     rw[←hH]at e'
     rcases iA e' with⟨m',_⟩|⟨_,_,_,rfl⟩
     ·exact absurd m' m
     ·have h1:=(hok b _ hb').1
      rw[e]at h1
      cases h1
      exact (hok' b _ (un.frzs b _ _ hb')).1
   refine⟨by rw[show u=Value.bool true from rv],⟨fun b o e=>?_,fun b o e=>?_⟩,os,bare⟩
   ·by_cases m:b∈cs.map (·.2)
    ·obtain⟨p,hp,rfl⟩:=List.mem_map.1 m
     obtain⟨more,hm⟩:=un.tbls p.2 #[] (tH p hp)
     have e2:=hT p hp
     rw[e2]at e
     cases e
     exact .inr (.inl ⟨((C p hp).tab e2).isCodeTable,rfl,#[],more,rfl,by have y:=hok' p.2 _ hm;rwa [Array.empty_append]at y ⊢⟩)
    ·exact .inl (kept b o m e)
   ·by_cases m:b∈cs.map (·.2)
    ·obtain⟨p,hp,rfl⟩:=List.mem_map.1 m
     obtain⟨more,hm⟩:=un.tbls p.2 #[] (tH p hp)
     exact⟨_,hok' p.2 _ hm⟩
    ·exact⟨o,kept b o m e⟩
end
theorem fn_lawG{P:Program}{w:World}{K:M0}{mg:Str→Option Value}{base:Heap}{A:Around}{F:FnE}{f:Addr}{fd:FuncData}{x:Str}(hF:∀ds G Q X,FP ds G Q X→F.con ds G Q X)(o:FnAt P w K mg base A f fd [x] (bF K F)):FnAt P w K mg base A f fd [x] (spLaw K):=by
 intro outer s H args us vs Q E e0 hb r hsp
 obtain⟨a,ns,rfl,hS,hT,hq⟩:=hsp
 have key:∀H1:Hp,KlAt K H1 a (ns.map V.int)→NdefX.TabsN Tb.T H1→bF K F [.ref a] H1 Q fun _ _ _=>False:=fun H1 kl t1=>by
  refine⟨[.kls (ns.map Dat.int)],fun _=>none,fun d _=>d = .bl true,fun _ _ _=>False,.one (.kls kl (cT ns)),⟨(fun a o z=>by cases z),t1⟩,hF _ _ _ _ ⟨_,ns,rfl,.inr rfl,fun _=>rfl⟩,fun d G' v H' f g r q=>?_,fun c fs G' dx H' f g r q=>False.elim q⟩
  subst q
  exact hq _ _ (fx r)
 have noE:∀{H1:Hp} {e:Value} {s':Shared},L2N.CX P w outer H1 s (fun _ _ _=>False) e s'→False:=fun ⟨_,_,_,_,_,_,_,_,_,_,_,_,z⟩=>z
 have easy:KlAt K H a (ns.map V.int)→codeAny (model P w) A (.call (.ref f) args) (CR (L2N.CX P w) outer P w H s Q E) s:=fun kl =>
  codeAny_mono (o outer s H args us [.ref a] Q (fun _ _ _=>False) e0 hb r (key H kl hT)) fun r s' hq=>by
   cases r with
   |error e=>exact (noE hq).elim
   |ok fl=>cases fl <;> exact hq
 rcases hS with (hS|⟨ob,hS⟩)|hS
 ·obtain⟨_,its,n,_,hob⟩:=(show ObjOk P w H s.heap a (.lst (ns.map V.int)) from e0.hok a _ hS)
  generalize ({cls:=Value.type "list",data:=Data.seq its.toArray n}:Obj)=ob at hob
  have ne:∀{b u},H b=some u→u≠.lst (ns.map V.int)→b≠a:=fun e d z=>by rw[z,hS]at e;exact d (Option.some.inj e).symm
  have nn:∀{b},H b=none→b≠a:=fun e z=>by rw[z,hS]at e;cases e
  have k1:HOk P w (upd H a (.frz ob (.lst (ns.map V.int)))) s.heap:=fun b u q=>by
   by_cases hb:b=a
   ·subst hb
    rw[upd_same]at q
    cases q
    exact⟨hob,e0.hok b _ hS⟩
   ·rw[upd_ne hb]at q
    exact (e0.hok b u q).stay (fun _ _ _ z=>z) (fun c z=>by rw[upd_ne (ne z (by simp))];exact z) fun c xs z=>by rw[upd_ne (ne z (by simp))];exact z
  have e1:Env0 P w K mg base A outer s (upd H a (.frz ob (.lst (ns.map V.int)))):=⟨e0.frames,e0.mod,fun b o q=>⟨(e0.bs b o q).1,by rw[upd_ne (nn (e0.bs b o q).2)];exact (e0.bs b o q).2⟩,e0.bsz,e0.funs,fun b hb=>by rw[upd_ne (nn (e0.frf b hb))];exact e0.frf b hb,k1,e0.bare⟩
  have t1:NdefX.TabsN Tb.T (upd H a (.frz ob (.lst (ns.map V.int)))):=fun p hp=>by
   obtain⟨ps,h1,h2,h3⟩:=hT p hp
   refine⟨ps,by rw[upd_ne (ne h1 (by simp))];exact h1,h2,fun pos cv hc=>?_⟩
   obtain⟨c,h4,h5⟩:=h3 pos cv hc
   exact⟨c,h4,by rw[upd_ne (ne h5 (fun z=>by unfold LamX.CodeO at z;cases z))];exact h5⟩
  refine codeAny_mono (o outer s _ args us [.ref a] Q (fun _ _ _=>False) e1 hb r (key _ (.inl ⟨ob,upd_same⟩) t1)) fun r s' hq=>?_
  cases r with
  |error e=>exact (noE hq).elim
  |ok fl =>
   cases fl with
   |ret u =>
    obtain⟨v,H',os,bare,un,hok,rv,q⟩:=hq
    refine⟨v,H',os,bare,⟨fun b o h1 h2=>un.keep b o h1 (by rw[upd_ne (nn h2)];exact h2),fun b o h1 h2=>un.slot b o h1 (by rw[upd_ne (nn h2)];exact h2),fun b o h1 h2=>un.free b o h1 (by rw[upd_ne (nn h2)];exact h2),un.there,fun b xs h1=>un.tups b xs (by rw[upd_ne (ne h1 (by simp))];exact h1),
     fun b o u h1=>un.frzs b o u (by rw[upd_ne (ne h1 (by simp))];exact h1),fun b ps h1=>un.tbls b ps (by rw[upd_ne (ne h1 (by simp))];exact h1)⟩,hok,rv,q⟩
   |next=>exact False.elim hq
   |brk=>exact False.elim hq
   |cont=>exact False.elim hq
 ·exact easy (.inl ⟨ob,hS⟩)
 ·exact easy (.inr hS)
def JF(P:Program)(w:World)(x:Str)(mg:Str→Option Value)(fa:Addr)(h:Heap):Prop :=
 ∃(K:M0) (fd:FuncData) (cs:List (Addr × Addr)) (sp:Sp),K.In h∧(∀p∈cs,h.get? p.2=some {cls:=.none,data:=.fields #[]})∧(∀p∈cs,K.lookup p.2=none)∧(∀p∈cs,PySem.W.CodeHd h p.1 p.2)∧(∀(s:Shared) (u:Value),BindsTo s fd ⟨[u],[]⟩ [(x,u)])∧
  (∀(H:Hp) (a:Addr) (ns:List Int),(∀p∈cs,H p.2=some (.tbl #[]))→SqL K H a (ns.map V.int)→sp [.ref a] H (fun v _=>v = .bl true) fun _ _ _=>False)∧
  ∀base:Heap,K.In base→base.Ns mainGlobals mg→(∀p∈cs,LamX.TabB base mg p.1 p.2)→FnAt P w K mg base callerA fa fd [x] sp
theorem walk_worldG{l:PySem.W.OpenLaw}{n:Nat}{q:Program}{lo:List Str}{XP:(Str→Option Value)→Heap→Prop}{YP:World→Heap→Prop}{d:DefRec}{x:Str}(h1:l.most=some n)(h2:n≤sizeLine)(h3:d.params.defaults=[])
  (F:∀(w:World) (mg:Str→Option Value) (fa:Addr) (h:Heap),YP w h→h.Ns mainGlobals mg→mg d.name=some (.ref fa)→JF l.prog w x mg fa h):PySem.W.WalkO q lo XP YP l.row.toRowW d [] (fun f vs=>PySem.call f vs):=by
 refine Att.attach_callB h1 h3 fun w s₀ s₁ mg mb fa o pm cd doc a vs ns G Y ho hd hcd hmg hobj hints hlen hbits hg=>?_
 obtain⟨K,fd,cs,sp,KX,hT,nT,C,hb,hsp,hF⟩:=F w mg fa _ Y G.T.g hmg
 exact o9 KX G.T.g G.T.b G.T.builtins G.T.nolimit hg hT nT C G.T.bmain hobj hints (Nat.le_trans hlen h2) hF hb fun H hH hS=>hsp H a ns hH hS
end Av
namespace Av
variable [Tb]
structure ShO(p:PyData)(b d:Nat):Prop where
 lv:p.leavesShort 8=true
 sh:p.showable=true
 dp:p.depth≤d
 bk:p.bulk≤b
structure ShOs(ps:List PyData)(b d:Nat):Prop where
 lv:PyData.leavesShortAll 8 ps=true
 sh:PyData.showableAll ps=true
 dp:PyData.depthAll ps≤d
 bk:PyData.bulkAll ps≤b
theorem ShOs.nil{d:Nat}:ShOs [] 0 d:=⟨by simp[PyData.leavesShortAll],by simp[PyData.showableAll],by simp[PyData.depthAll],by simp[PyData.bulkAll]⟩
theorem ShOs.cons{p:PyData}{ps:List PyData}{b c d:Nat}(h1:ShO p b d)(h2:ShOs ps c d):ShOs (p :: ps) (b+1+c) d :=
 ⟨by simp[PyData.leavesShortAll,h1.lv,h2.lv],by simp[PyData.showableAll,h1.sh,h2.sh],by have:=h1.dp;have:=h2.dp;simp only[PyData.depthAll];omega,by have:=h1.bk;have:=h2.bk;simp only[PyData.bulkAll];omega⟩
theorem nM{i:Int}(h:a0 i):ShO (.int i) 0 1:=by
 have l:=A3 h
 have hi:i.natAbs<2^21:=by have:=h.1;have:=h.2;omega
 refine⟨?_,?_,?_,?_⟩
 ·simp only[PyData.leavesShort,PyData.shown,decide_eq_true_eq]
  exact decide_eq_true (Nat.le_trans l (show 7≤8 by decide))
 ·simp only[PyData.showable,decide_eq_true_eq]
  by_cases z:i.natAbs=0
  ·rw[z];decide
  ·have:=(Nat.log2_lt z).2 hi
   omega
 ·simp[PyData.depth]
 ·simp[PyData.bulk]
theorem nK:∀{cs:List Int},(∀c∈cs,a0 c)→∃ps,(∀G,Shds G (di cs) ps)∧ShOs ps cs.length 1
 |[],_=>⟨[],fun _=>.nil,ShOs.nil⟩
 |c :: cs,h=>by
  obtain⟨ps,h1,h2⟩:=nK (cs:=cs) fun d hd=>h d (Mj _ hd)
  have z:=ShOs.cons (nM (h c (Mi ..))) h2
  exact⟨_,fun G=>.cons (.int c) (h1 G),⟨z.lv,z.sh,z.dp,by have:=z.bk;rw[Mb];omega⟩⟩
theorem nJ{ps:List PyData}{b d:Nat}(h:ShOs ps b d):ShO (.tuple ps) b (d+1)∧ShO (.list ps) b (d+1):=by
 have:=h.dp
 have:=h.bk
 refine⟨⟨by simpa [PyData.leavesShort]using h.lv,by simpa [PyData.showable]using h.sh,by simp only[PyData.depth];omega,by simpa only[PyData.bulk]using h.bk⟩,⟨by simpa [PyData.leavesShort]using h.lv,by simpa [PyData.showable]using h.sh,by simp only[PyData.depth];omega,by simpa only[PyData.bulk]using h.bk⟩⟩
theorem iF{mo:Int}(hm:mo≤1114111){ds:List Dat}(h:ds.all (cA mo)=true):∃cs,ds=di cs∧∀c∈cs,a0 c:=by
 induction ds with
 |nil=>exact⟨[],rfl,by simp⟩
 |cons d ds ih =>
  rw[Mo,M3]at h
  obtain⟨cs,rfl,hc⟩:=ih h.2
  cases d with
  |int i =>
   have z:=h.1
   unfold cA at z
   simp only[M3,decide_eq_true_eq]at z
   refine⟨i :: cs,rfl,fun c hcm=>?_⟩
   rcases Ml.1 hcm with rfl|hcm
   ·exact⟨z.1,by omega⟩
   ·exact hc c hcm
  |_=>cases h.1
theorem Du{mo:Int}(hm:mo≤1114111){d:Dat}(h:mw mo d=true)(hl:(fC d).length≤4):∃p,(∀G,Shd G d p)∧ShO p 4 2:=by
 have zero:∀p:PyData,p.leavesShort 8=true→p.showable=true→p.depth=0→p.bulk=0→ShO p 4 2:=fun p a b c e=>⟨a,b,by omega,by omega⟩
 cases d with
 |non=>exact⟨_,fun _=>.non,zero _ (by simp[PyData.leavesShort]) (by simp[PyData.showable]) (by simp[PyData.depth]) (by simp[PyData.bulk])⟩
 |int i =>
  have z:cA mo (.int i)=true:=h
  unfold cA at z
  simp only[M3,decide_eq_true_eq]at z
  have s:=nM (i:=i) ⟨z.1,by omega⟩
  exact⟨_,fun _=>.int i,⟨s.lv,s.sh,Nat.le_trans s.dp (by decide),Nat.le_trans s.bk (by decide)⟩⟩
 |tup ds =>
  have z:kU mo (.tup ds)=true:=h
  unfold kU at z
  simp only[M3]at z
  obtain⟨cs,rfl,hc⟩:=iF hm z.2
  obtain⟨ps,h1,h2⟩:=nK hc
  have hl:(di cs).length≤4:=hl
  unfold di at hl
  rw[M5]at hl
  have s:=(nJ h2).1
  exact⟨_,fun G=>.tup (h1 G),⟨s.lv,s.sh,s.dp,Nat.le_trans s.bk hl⟩⟩
 |lst ds =>
  have z:kU mo (.lst ds)=true:=h
  unfold kU at z
  simp only[M3]at z
  obtain⟨cs,rfl,hc⟩:=iF hm z.2
  obtain⟨ps,h1,h2⟩:=nK hc
  have hl:(di cs).length≤4:=hl
  unfold di at hl
  rw[M5]at hl
  have s:=(nJ h2).2
  exact⟨_,fun G=>.lst (h1 G),⟨s.lv,s.sh,s.dp,Nat.le_trans s.bk hl⟩⟩
 |_=>exact absurd h (by unfold mw kU isR;simp)
theorem nN{mo:Int}(hm:mo≤1114111):∀{ds:List Dat},(∀d∈ds,mw mo d=true∧(fC d).length≤4)→∃ps,(∀G,Shds G ds ps)∧ShOs ps (5*ds.length) 2∧ps.length=ds.length
 |[],_=>⟨[],fun _=>.nil,ShOs.nil,rfl⟩
 |d :: ds,h=>by
  obtain⟨ps,h1,h2,h3⟩:=nN hm (ds:=ds) fun e he=>h e (Mj _ he)
  obtain⟨p,k1,k2⟩:=Du hm (h d (Mi ..)).1 (h d (Mi ..)).2
  have z:=ShOs.cons k2 h2
  exact⟨_,fun G=>.cons (k1 G) (h1 G),⟨z.lv,z.sh,z.dp,by have:=z.bk;rw[Mb];omega⟩,by rw[Mb,Mb,h3]⟩
theorem vQ:∀(ks:List Int) (ps:List PyData) (b d:Nat),(∀k∈ks,a0 k)→ShOs ps b d→ks.length=ps.length→PyData.leavesShortKv 8 (((ks.map fun k=>(.inl k:Key)).map pF).zip ps)=true∧PyData.showableKv (((ks.map fun k=>(.inl k:Key)).map pF).zip ps)=true∧PyData.depthKv (((ks.map fun k=>(.inl k:Key)).map pF).zip ps)≤max d 1∧PyData.bulkKv (((ks.map fun k=>(.inl k:Key)).map pF).zip ps)≤b+ks.length
 |[],[],b,d,_,_,_=>⟨by simp[PyData.leavesShortKv],by simp[PyData.showableKv],by simp[PyData.depthKv],by simp[PyData.bulkKv]⟩
 |[],_ :: _,_,_,_,_,hl=>by simp at hl
 |_ :: _,[],_,_,_,_,hl=>by simp at hl
 |k :: ks,p :: ps,b,d,hk,hp,hl=>by
  have s:=nM (hk k (Mi ..))
  have lv:=hp.lv
  have sh:=hp.sh
  have dp:=hp.dp
  have bk:=hp.bk
  simp only[PyData.leavesShortAll,M3]at lv
  simp only[PyData.showableAll,M3]at sh
  simp only[PyData.depthAll]at dp
  simp only[PyData.bulkAll]at bk
  obtain⟨i1,i2,i3,i4⟩:=vQ ks ps (PyData.bulkAll ps) d (fun c hc=>hk c (Mj _ hc)) ⟨lv.2,sh.2,by omega,M7 _⟩ (by simpa using hl)
  have e:pF (.inl k:Key) = .int k:=rfl
  refine⟨?_,?_,?_,?_⟩
  ·simp only[Mc,List.zip_cons_cons,PyData.leavesShortKv,e,s.lv,lv.1,Bool.true_and];exact i1
  ·simp only[Mc,List.zip_cons_cons,PyData.showableKv,e,s.sh,sh.1,Bool.true_and];exact i2
  ·have:=s.dp
   simp only[Mc,List.zip_cons_cons,PyData.depthKv,e]
   omega
  ·have:=s.bk
   simp only[Mc,List.zip_cons_cons,PyData.bulkKv,e,Mb]
   omega
theorem Hk:∀{ks:List Int} {ps:List PyData} {b d:Nat},(∀k∈ks,a0 k)→ShOs ps b d→ks.length=ps.length→ShO (.dict (((ks.map fun k=>(.inl k:Key)).map pF).zip ps)) (b+ks.length) (max d 1+1):=by
 intro ks ps b d h1 h2 h3
 obtain⟨a,b',c,e⟩:=vQ ks ps b d h1 h2 h3
 exact⟨by simpa [PyData.leavesShort]using a,by simpa [PyData.showable]using b',by simp only[PyData.depth];omega,by simpa [PyData.bulk]using e⟩
theorem Ax{G:AG}{x:Dat}{Q:AQ}{p:PyData}{b d:Nat}(hx:GD x=true)(h:Shd G x p)(s:ShO p b d)(hb:b≤100000)(hd:d≤60)(q:Q (.str p.shown) G):D7 x G Q:=by
 have l:=PyData.shown_le_bulk 8 (by decide) p s.lv
 have:=s.bk
 have:=s.dp
 refine⟨hx,p,h,s.sh,by omega,?_,q⟩
 have e:sizeLine=16777216:=by decide
 omega
theorem vW{G:AG}{x:Dat}{Q:AQ}{p:PyData}{b d:Nat}{z:Bool}(hx:GD x=true)(h:Shd G x p)(s:ShO p b d)(hb:b≤100000)(hd:d≤60)(q:Q (.str p.shown) G):aX z .repr [x] G Q:=Ax hx h s hb hd q
def Gs:Dat→Dat
 |.tup [_,e]=>e
 |_=>.non
theorem lG:∀(es:List Dat) (k:Nat),(bR k es).map Gs=es
 |[],_=>rfl
 |e :: es,k=>by
  show Gs (.tup [.int k,e]) :: (bR (k+1) es).map Gs=_
  rw[lG es]
  rfl
theorem Ey(ps:List Pr):(ps.map pT).map Gs=ps.map (·.2):=by rw[List.map_map];rfl
theorem Dq{x:Dat}{ps:List Pr}(h:rX x ps):GD x=true∧∃p,(∀G,Shd G x p)∧ShO p 2000 3:=by
 have hl:=h.g.len
 have ok:∀d∈ps.map (·.2),mw 1114111 d=true∧(fC d).length≤4:=fun d hd=>by
  obtain⟨q,hq,rfl⟩:=List.mem_map.1 hd
  exact⟨(h.g.ent q hq).2,h.few q hq⟩
 obtain⟨es,h1,h2,h3⟩:=nN (Int.le_refl _) ok
 rw[M5]at h2 h3
 rcases h.of with⟨ds,hx,e⟩|⟨ds,rfl,rfl,nd⟩
 ·have e2:ds=ps.map (·.2):=by rw[←lG ds 0,e,Ey]
  subst e2
  have s:=nJ h2
  rcases hx with rfl|rfl
  ·exact⟨rfl,_,fun G=>.tup (h1 G),⟨s.1.lv,s.1.sh,s.1.dp,by have:=s.1.bk;omega⟩⟩
  ·exact⟨rfl,_,fun G=>.lst (h1 G),⟨s.2.lv,s.2.sh,s.2.dp,by have:=s.2.bk;omega⟩⟩
 ·have k:∀c∈ps.map (·.1),a0 c:=fun c hc=>by
   obtain⟨q,hq,rfl⟩:=List.mem_map.1 hc
   have:=h.g.oct q hq
   exact⟨this.1,by omega⟩
  have s:=Hk k h2 (by rw[M5];exact h3.symm)
  have e:(ps.map (·.1)).map (fun k=>(.inl k:Key))=ps.map fun p=>.inl p.1:=by rw[List.map_map];rfl
  rw[e]at s
  refine⟨rfl,_,fun G=>.dz (by rw[M5,M5]) (h1 G),⟨s.lv,s.sh,s.dp,by have:=s.bk;rw[M5]at this;omega⟩⟩
end Av
namespace Av
variable [Tb]
def xw:Con:=fun ds G Q X=>∃x ps,ds=[x]∧Ct x ps∧TbG ps∧∀q,G q=none→Q (.ref q) (gu G q (.dk (kB ps)))
def lD:FnE:={con:=xw,ar:=1,len:=fun ds G Q X ⟨_,_,h,_⟩=>by rw[h];rfl}
def rO:List S:=[
 .ret (.dcIf (.var 2) (.var 1) (.tp [1,2]) (.seq (.call "entries_of" [(.var 0)])) (.val (.call "is_code" [(.var 2)])) [1,2])]
theorem AZ(Γ:Gam)(g:Kn Γ)(he:Γ.fn "entries_of" =some uT)(N:List Str)(hN:N.length=3)(ds:List Dat)(G:AG)(Q:AQ)(X:AX)(h:xw ds G Q X):wSs Γ rO (ah N ds) G (ay Q X):=by
 obtain⟨x,ps,rfl,ht,hg,hq⟩:=h
 have e:ah N [x]=[some x,none,none]:=by unfold ah;rw[hN];rfl
 rw[e]
 have big:=big
 have hlen:=hg.len
 unfold rO
 ((first|rw[wSs]|(dsimp only;rw[wSs]));simp only[wS,wE,wI,wEs,M8,wT,he])
 refine⟨by decide,x,ps,rfl,ht,hg,?_⟩
 simp only[xq]
 refine qG (fun rem acc G'=>G'=G∧∃pre qs,b9 ps=pre++qs∧rem=qs.map pT∧acc.length≤pre.length∧acc=pre.foldl (fun acc p=>if cA 1114111 p.2=true then (match p.2 with
  |.int c=>bG acc (.inl c) (.int p.1)
  |_=>acc) else acc) []) ?_ ?_ _ _ _ ⟨rfl,[],b9 ps,rfl,rfl,M7 _,rfl⟩
 ·rintro d rem acc G' N hN ⟨rfl,pre,qs,hs,hr,hl,hacc⟩
  cases qs with
  |nil=>cases hr
  |cons p qs =>
   simp only[Mc,List.cons.injEq]at hr
   obtain⟨rfl,rfl⟩:=hr
   refine⟨trivial,?_⟩
   have hp:p∈ps:=cQ.1 (by rw[hs];simp)
   obtain⟨⟨pl,pi,pn⟩,he2⟩:=hg.ent p hp
   have hpl:pre.length<301:=by
    have:=congrArg List.length hs
    rw[dT]at this
    simp at this
    omega
   simp only[pT,tgW,bB,bj]
   refine⟨rfl,?_⟩
   simp only[Mm,Mn,M9,M8,g.cod]
   refine⟨by decide,p.2,rfl,pl,?_⟩
   cases hb:cA 1114111 p.2 with
   |false =>
    simp only[zQ,M6,if_false]
    refine hN _ _ ⟨rfl,pre++[p],qs,by rw[hs];simp,rfl,by rw[Mf];omega,?_⟩
    rw[List.foldl_append,←hacc]
    simp only[List.foldl_cons,List.foldl_nil,hb,M6,if_false]
   |true =>
    simp only[zQ,if_true]
    obtain⟨c,hc⟩:∃c,p.2 = .int c:=by
     cases hx:p.2 with
     |int c=>exact⟨c,rfl⟩
     |_=>rw[hx]at hb;cases hb
    refine⟨by omega,.inl c,by rw[hc];rfl,hN _ _ ⟨rfl,pre++[p],qs,by rw[hs];simp,rfl,?_,?_⟩⟩
    ·have:=tE acc (.inl c) (.int p.1)
     rw[Mf]
     simp
     omega
    ·rw[List.foldl_append,←hacc]
     simp only[List.foldl_cons,List.foldl_nil,hb,if_true]
     rw[hc]
 ·rintro acc G' ⟨rfl,pre,qs,hs,hr,hl,hacc⟩
  refine⟨trivial,fun p hp=>?_⟩
  have hq0:qs=[]:=by cases qs with|nil=>rfl|cons _ _=>cases hr
  subst hq0
  rw[List.append_nil]at hs
  have e4:acc=kB ps:=by rw[hacc,kB,hs];try rfl
  rw[e4]
  exact rt_ (X:=X) (hq p hp)
theorem kX:∀{l m:List (Int × Int)},l.Perm m→l.Pairwise iS→m.Pairwise iS→l=m
 |[],m,h,_,_=>(List.nil_perm.1 h).symm
 |a :: l,[],h,_,_=>absurd h.length_eq (by simp)
 |a :: l,b :: m,h,h1,h2=>by
  rw[List.pairwise_cons]at h1 h2
  have ab:a=b:=by
   rcases Ml.1 (h.subset (Mi ..))with e|e
   ·exact e
   ·rcases Ml.1 (h.symm.subset (Mi ..))with e'|e'
    ·exact e'.symm
    ·have z1:=h2.1 a e
     have z2:=h1.1 b e'
     unfold iS at z1 z2
     obtain⟨a1,a2⟩:=a
     obtain⟨b1,b2⟩:=b
     simp only at z1 z2
     have e1:a1=b1:=by omega
     have e2:a2=b2:=by omega
     rw[e1,e2]
  subst ab
  rw[kX (List.perm_cons _ |>.1 h) h1.2 h2.2]
theorem mV{ps:List Pr}(hg:TbG ps):jC (kB ps)=((sr ps).map fun p=>(p.1,Iz p.2)).map bX:=by
 rw[jE]
 unfold jC
 rw[List.map_map,List.map_map]
 refine List.map_congr_left fun p hp=>?_
 obtain⟨o,ho,_⟩:=so hg p hp
 simp only[Function.comp,toK,bX,ho,Iz,aO]
theorem mX{ps:List Pr}(hg:TbG ps):(sr ps).length≤3000:=(sk hg).len
theorem lW{G:AG}{qs:List (Int × Int)}(hl:qs.length≤3000):jz G 3 (.lst (qs.map bX)) (.lst (qs.map bX)):=by
 have big:=big
 refine .inr (.inr ⟨_,_,rfl,rfl,rfl,by rw[M5];omega,fun i a b h1 h2=>?_⟩)
 rw[h1]at h2
 cases h2
 rw[Mg]at h1
 cases e:qs[i]? with
 |none=>rw[e]at h1;cases h1
 |some q =>
  rw[e]at h1
  cases h1
  exact tm (n:=1) (xs:=[q.1,q.2]) (by show 2≤_;omega)
def Gr(p:Pr):Pr:=(Iz p.2,.int p.1)
theorem jT{ps:List Pr}(hi:∀p∈ps,mw 1114111 p.2=true):aY [] ((((b9 ps).filter fun p=>isI p.2).map Gr).map toK)=kB ps:=by
 have key:∀(l:List Pr) (acc:List Pr),(∀p∈l,mw 1114111 p.2=true)→aY (acc.map toK) (((l.filter fun p=>isI p.2).map Gr).map toK)=(l.foldl ik acc).map toK:=by
  intro l
  induction l with
  |nil=>intro acc _;rfl
  |cons p l ih =>
   intro acc h
   have ih:=fun acc=>ih acc fun q hq=>h q (Mj _ hq)
   have hp:=h p (Mi ..)
   rw[List.foldl_cons]
   obtain⟨b,e⟩:=p
   cases e with
   |int c =>
    rw[List.filter_cons_of_pos rfl,Mc,Mc]
    have e1:ik acc (b,.int c)=eU acc c (.int b):=by
     unfold ik
     rw[if_pos (show cA 1114111 (.int c)=true from hp)]
    rw[e1,←ih (eU acc c (.int b))]
    show aY (bG (acc.map toK) (.inl c) (.int b)) _=_
    rw[gG]
   |_ =>
    rw[List.filter_cons_of_neg (by show ¬(false=true);decide)]
    have e1:∀x:Dat,isI x=false→ik acc (b,x)=acc:=fun x hx=>by
     unfold ik
     split
     ·cases x with
      |int c=>cases hx
      |_=>rfl
     ·rfl
    rw[e1 _ rfl]
    exact ih acc
 rw[jE]
 exact key (b9 ps) [] fun p hp=>hi p (cQ.1 hp)
theorem uL{qs:List Pr}(nd:(qs.map (·.1)).Nodup):(((List.map aO (qs.map fun p=>(.inl p.1:Key))).filter fun d=>isI (lkD qs d)).map fun d=>Dat.tup [lkD qs d,d])=((qs.filter fun p=>isI p.2).map Gr).map pT:=by
 have key:∀l:List Pr,(∀p∈l,p∈qs)→(((List.map aO (l.map fun p=>(.inl p.1:Key))).filter fun d=>isI (lkD qs d)).map fun d=>Dat.tup [lkD qs d,d])=((l.filter fun p=>isI p.2).map Gr).map pT:=by
  intro l
  induction l with
  |nil=>intro _;rfl
  |cons p l ih =>
   intro h
   have ih:=ih fun q hq=>h q (Mj _ hq)
   have e:=wM nd (h p (Mi ..))
   simp only[Mc]
   show ((Dat.int p.1 :: _).filter _).map _=_
   cases hb:isI p.2 with
   |false =>
    rw[List.filter_cons_of_neg (by rw[e,hb];decide),List.filter_cons_of_neg (by rw[hb];decide)]
    exact ih
   |true =>
    rw[List.filter_cons_of_pos (by rw[e,hb]),List.filter_cons_of_pos (by rw[hb]),Mc,Mc,Mc,ih,e]
    obtain⟨b,d⟩:=p
    cases d with
    |int c=>rfl
    |_=>cases hb
 exact key qs fun _ h=>h
theorem qD{G:AG}{x y:Dat}{ka:List (Key × Dat)}{Q:AQ}(h1:cO G x=some ka)(h2:cO G y=some ka)(h:∀p∈ka,au ka p.1=some p.2∧aH p.2=true)(q:Q (.bl true) G):bY .deq x y G Q:=by
 have z:CJ true x y G Q:=⟨ka,ka,h1,h2,rfl,h,q⟩
 cases x <;> cases y <;> exact z
theorem mW:kB []=[]:=by
 unfold kB b9
 simp
theorem CW:kB [(0,.non),(1,.int 97),(2,.int 97)]=[(.inl 97,.int 2)]:=by
 have e:b9 [(0,.non),(1,.int 97),(2,.int 97)]=[(0,.non),(1,.int 97),(2,.int 97)]:=by
  unfold b9
  exact List.mergeSort_of_pairwise (by simp)
 unfold kB
 rw[e]
 rfl
structure LS(Γ:Gam):Prop where
 src:Γ.fn "_law_source" =some et
 tab:Γ.fn "_law_charmap_table" =some gU
 ents:Γ.fn "_law_entries" =some gW
 way:Γ.fn "way_back" =some lD
 same:Γ.fn "_law_same" =some (bf 3)
 int:Γ.gl "int" =some (.ty "int")
 dict:Γ.gl "dict" =some (.ty "dict")
def ki:List S:=[
 .for_ (.nm 1) (.rng1 (.cst (.int 8))) [.set 2 (.call "_law_source" [(.var 0),(.var 1)]),.set 3 (.call "_law_charmap_table" [(.var 2)]),.setTp [6,7] (.tup [(.blt true .repr [(.var 3)]),(.call "_law_entries" [(.var 3)])]),.set 4 (.srtIt true (.frz (.blt true .dct [(.lcIf true (.tup [(.dix (.var 7) (.var 9)),(.var 9)]) (.nm 9) (.dkeys (.var 7)) (.val (.blt true .isinst [(.dix (.var 7) (.var 9)),(.glo "int")])) [9])]))),.for_ (.nm 5) (.rng1 (.cst (.int 2))) [.set 8 (.call "way_back" [(.var 3)]),.if_ (.or_ (.not_ (.val (.blt true .isinst [(.var 8),(.glo "dict")]))) (.or_ (.not_ (.val (.call "_law_same" [(.srtIt true (.var 8)),(.var 4)]))) (.one (.cmp .ne (.blt true .repr [(.var 3)]) (.var 6))))) [.ret (.cst (.bl false))] [],.dset (.var 8) (.bin true .add (.cst (.int 8365)) (.var 5)) (.cst (.int 0))]],
 .ret (.andV (.cmp .deq (.call "way_back" [(.tup [])]) (.frz (.dlit []))) (.andV (.cmp .deq (.call "way_back" [(.frz (.dlit []))]) (.frz (.dlit []))) (.one (.cmp .deq (.call "way_back" [(.lst true [(.cst (.non)),(.cst (.int 97)),(.cst (.int 97))])]) (.dlit [(.cst (.int 97)),(.cst (.int 2))])))))]
theorem tX(Γ:Gam)(g:LS Γ)(N:List Str)(hN:N.length=10)(ds:List Dat)(G:AG)(Q:AQ)(X:AX)(h:xz ds G Q X):wSs Γ ki (ah N ds) G (ay Q X):=by
 obtain⟨sc,ns,rfl,hs,hq⟩:=h
 have e:ah N [sc]=[some sc,none,none,none,none,none,none,none,none,none]:=by unfold ah;rw[hN];rfl
 rw[e]
 have big:=big
 unfold ki
 ((first|rw[wSs]|(dsimp only;rw[wSs]));simp only[wS,wI,wE,zZ])
 refine⟨by decide,by decide,?_⟩
 refine wZ (fun j ρ G'=>∃xs:List (Option Dat),xs.length=9∧ρ=some sc :: xs) ?_ ?_ _ _ ⟨_,rfl,rfl⟩
 ·rintro j ρ G1 N' hj hN' ⟨xs,hx,rfl⟩
  obtain⟨x1,x2,x3,x4,x5,x6,x7,x8,x9,rfl⟩:∃x1 x2 x3 x4 x5 x6 x7 x8 x9,xs=[x1,x2,x3,x4,x5,x6,x7,x8,x9]:=by
   match xs,hx with
   |[a1,a2,a3,a4,a5,a6,a7,a8,a9],_=>exact⟨a1,a2,a3,a4,a5,a6,a7,a8,a9,rfl⟩
  simp only[Mm,Mn]
  ((first|rw[wSs]|(dsimp only;rw[wSs]));simp only[wS,wE,wEs,M8,M9,Mm,Mn,g.src])
  refine⟨by decide,sc,(j:Nat),ns,rfl,hs,by omega,by omega,fun p o hp ho=>?_⟩
  ((first|rw[wSs]|(dsimp only;rw[wSs]));simp only[wS,wE,wEs,M9,M8,Mm,Mn,g.tab])
  refine⟨by decide,p,2^37,o,rfl,ak,ho.mono (by decide),fun x ps o1 hps d1=>?_⟩
  rw[fB]
  generalize gu G1 p o1=G2
  obtain⟨hrw,pd,hsh,hso⟩:=Dq hps
  ((first|rw[wSs]|(dsimp only;rw[wSs]));simp only[wS,wE,wEs,M9,M8,xh,bB,Mm,Mn,g.ents])
  show aX true .repr [x] G2 _
  refine vW hrw (hsh G2) hso (by decide) (by decide) ?_
  refine⟨by decide,x,ps,rfl,hps,?_⟩
  refine⟨by (first|assumption|decide|(simp only[RgOk,CMul,CDiv,CPow];omega)|(have:=big;omega)|(have:=big;simp only[Mb,Mq,M5,Mf,Mr];omega)),rfl,?_⟩
  have hlen:=hps.g.len
  obtain⟨l,hl⟩:∃l,(b9 ps).filter (fun p=>!mQ p.2)=l:=⟨_,rfl⟩
  have hlp:∀p∈l,p∈ps∧mQ p.2=false:=fun p hp=>by
   rw[←hl]at hp
   have:=List.mem_filter.1 hp
   exact⟨cQ.1 this.1,by simpa using this.2⟩
  have nd0:((b9 ps).map (·.1)).Nodup:=((List.mergeSort_perm ps _).map _).nodup_iff.2 hps.nd
  have nd:(l.map (·.1)).Nodup:=by rw[←hl];exact nd0.sublist (List.filter_sublist.map _)
  have hll:l.length≤300:=by
   have:=List.length_filter_le (fun p:Pr=>!mQ p.2) (b9 ps)
   rw[hl,dT]at this
   omega
  rw[hl]
  show wSs Γ _ _ G2 _
  ((first|rw[wSs]|(dsimp only;rw[wSs]));simp only[wS,wE,wEs,wI,M9,M8,wT,yB,Mm,Mn])
  refine⟨_,_,rfl,by simp,?_⟩
  refine iV (f:=fun d=>.tup [lkD l d,d]) (t:=fun d=>isI (lkD l d)) trivial (by simp only[M5];omega) (fun d hd Q1 Q0 h1 h0=>?_) ?_
  ·obtain⟨k,hk,rfl⟩:=List.mem_map.1 hd
   obtain⟨p,hp,rfl⟩:=List.mem_map.1 hk
   have lk:=cB nd hp
   have e2:lkD l (aO (.inl p.1))=p.2:=wM nd hp
   simp only[e2]at h1 h0
   obtain⟨hp1,hp2⟩:=hlp p hp
   obtain⟨⟨pl,_,_⟩,he2⟩:=hps.g.ent p hp1
   simp only[tgW,bj]
   simp only[Mm,Mn,M9,M8]
   refine⟨.inl p.1,p.2,rfl,lk,?_⟩
   simp only[g.int]
   refine BH pl he2 ?_
   cases hi:isI p.2 with
   |true =>
    simp only[zQ,if_true]
    exact⟨.inl p.1,p.2,rfl,lk,by (first|assumption|decide|(simp only[RgOk,CMul,CDiv,CPow];omega)|(have:=big;omega)|(have:=big;simp only[Mb,Mq,M5,Mf,Mr];omega)),h1 hi⟩
   |false =>
    simp only[zQ,M6,if_false]
    exact h0 hi
  ·rw[uL nd]
   refine⟨_,_,rfl,kO _,fun q hq0=>?_⟩
   have e5:l.filter (fun p=>isI p.2)=(b9 ps).filter fun p=>isI p.2:=by
    rw[←hl,List.filter_filter]
    refine List.filter_congr fun p _=>?_
    cases p.2 <;> rfl
   rw[e5,jT fun p hp=>(hps.g.ent p hp).2]
   refine fV hq0 ?_
   refine⟨_,rfl,_,by rw[mT];exact mV hps.g,fun qs pm pw=>?_⟩
   have hql:qs.length≤3000:=by rw[pm.length_eq,M5];exact mX hps.g
   unfold nw
   rw[if_pos rfl]
   refine⟨by rw[M5];omega,?_⟩
   show wSs Γ _ _ G2 _
   ((first|rw[wSs]|(dsimp only;rw[wSs]));simp only[wS,wI,wE,ze,zZ])
   refine⟨by decide,by decide,?_⟩
   refine wZ (fun t ρ G'=>∃(y5 y8 y9:Option Dat),ρ=[some sc,some (.int (j:Nat)),some (.ref p),some x,some (.lst (qs.map bX)),y5,some (.str pd.shown),some (dzP l),y8,y9]) ?_ ?_ _ _ ⟨_,_,_,rfl⟩
   ·rintro t ρ G7 N2 ht hN2 ⟨y5,y8,y9,rfl⟩
    simp only[Mm,Mn]
    ((first|rw[wSs]|(dsimp only;rw[wSs]));simp only[wS,wE,wEs,M9,M8,Mm,Mn,g.way])
    refine⟨by decide,x,ps,rfl,hps.of,hps.g,fun q hq0=>?_⟩
    have hq1:gu G7 q (.dk (kB ps)) q=some (.dk (kB ps)):=ak
    generalize gu G7 q (.dk (kB ps))=G8 at hq1 ⊢
    show wSs Γ _ _ G8 _
    ((first|rw[wSs]|(dsimp only;rw[wSs]));simp only[wS,wT,wE,wEs,M9,M8,Bool.not_eq_true',ze,if_true,yB,g.dict])
    refine dl (t := "dict") (b:=true) (by unfold jG;simp only[hq1]) (by decide+kernel) ?_
    simp only[g.same]
    refine⟨by decide,_,bE hq1,_,mV hps.g,fun qs2 pm2 pw2=>?_⟩
    have eqs:qs2=qs:=kX (pm2.trans pm.symm) pw2 pw
    subst eqs
    unfold nw
    rw[if_pos rfl]
    refine⟨by rw[M5];omega,?_⟩
    refine⟨_,_,rfl,lW hql,?_⟩
    simp only[zQ,Bool.true_eq_false,if_false]
    show aX true .repr [x] G8 _
    refine vW hrw (hsh G8) hso (by decide) (by decide) ?_
    refine Ky ?_
    simp only[decide_true,Bool.not_true,zY,M6,if_false]
    ((first|rw[wSs]|(dsimp only;rw[wSs]));simp only[wS,wE,M9,M8,ze,zh])
    refine⟨_,_,hq1,rfl,by rw[jE,M5];have:=mX hps.g;omega,?_⟩
    exact hN2 _ _ ⟨_,_,_,rfl⟩
   ·rintro ρ G7 ⟨y5,y8,y9,rfl⟩
    exact hN' _ _ ⟨_,rfl,rfl⟩
 ·rintro ρ G1 ⟨xs,hx,rfl⟩
  ((first|rw[wSs]|(dsimp only;rw[wSs]));simp only[wS,wE,wEs,zD,g.way])
  have T0:TbG []:=⟨by simp,by simp,by simp⟩
  refine⟨by decide,by decide,.tup [],[],rfl,.inl ⟨[],.inl rfl,rfl⟩,T0,fun q1 hq1=>?_⟩
  rw[mW]
  refine⟨[],rfl,by decide,fun z hz=>fV hz ?_⟩
  refine qD (ka:=[]) (bE ak) rfl (by simp) ?_
  simp only[zQ,if_true]
  refine⟨by decide,[],rfl,by decide,fun z2 hz2=>fV hz2 ?_⟩
  refine⟨.dz [] [],[],rfl,.inr ⟨[],rfl,rfl,by simp⟩,T0,fun q2 hq2=>?_⟩
  rw[mW]
  refine⟨[],rfl,by decide,fun z3 hz3=>fV hz3 ?_⟩
  refine qD (ka:=[]) (bE ak) rfl (by simp) ?_
  simp only[zQ,if_true]
  have T1:TbG [(0,.non),(1,.int 97),(2,.int 97)]:=⟨by simp,fun p hp=>?_,fun p hp=>?_⟩
  refine⟨by decide,by (first|assumption|decide|(simp only[RgOk,CMul,CDiv,CPow];omega)|(have:=big;omega)|(have:=big;simp only[Mb,Mq,M5,Mf,Mr];omega)),.lst [.non,.int 97,.int 97],[(0,.non),(1,.int 97),(2,.int 97)],rfl,.inl ⟨_,.inr rfl,rfl⟩,T1,fun q3 hq3=>?_⟩
  rw[CW]
  refine⟨[(.inl 97,.int 2)],rfl,by decide,fun z4 hz4=>?_⟩
  refine qD (ka:=[(.inl 97,.int 2)]) (bE (Lm hz4 ak)) (bE ak) (fun p hp=>by rw[Ms.1 hp];exact⟨rfl,rfl⟩) ?_
  exact rt_ (X:=X) (hq _)
  ·rcases Ml.1 hp with rfl|hp
   ·exact⟨by decide,by decide⟩
   ·rcases Ml.1 hp with rfl|hp
    ·exact⟨by decide,by decide⟩
    ·rw[Ms.1 hp];exact⟨by decide,by decide⟩
  ·rcases Ml.1 hp with rfl|hp
   ·exact⟨⟨rfl,rfl,by decide⟩,by decide⟩
   ·rcases Ml.1 hp with rfl|hp
    ·exact⟨⟨rfl,rfl,by decide⟩,by decide⟩
    ·rw[Ms.1 hp];exact⟨⟨rfl,rfl,by decide⟩,by decide⟩
end Av
namespace Av.Fin
open PySem PySem.Spec PyProof.Rows L2 Av
def lw0:LW:=⟨["pair"],["pair"],[],(.ix (.var 0) (.cst (.int 0)))⟩
def lw1:LW:=⟨["_law_one"],["_law_one"],[],(.ix (.var 0) (.cst (.int 0)))⟩
def lams:List (Nat × LW):=[(0,lw0),(1,lw1)]
def exos:List Str:=[]
def subs:Gj:=[]
def xms:List (Str × Str × Bool):=[]
def tabT:List NdefX.NTab:=[(74,fun _ _=>("entries_of" : Str)++ ".<locals>." ++ "<lambda>"),(136,fun _ _=>("_law_entries" : Str)++ ".<locals>." ++ "<lambda>")]
instance tb1:Tb:=tbL tabT lams exos subs xms
theorem kt(w:World):si (K w):=IN (by show (exos.all fun C=>uX (K w) (He.ga (K w) C))=true;kernel_rfl) (by show subs.all (JT (K w))=true;kernel_rfl) (by show xms.all (xmB (K w))=true;kernel_rfl)
def d0:He.DefD:=⟨("_law_draw",none),"_law_draw","_law_draw",defArgs (top 15),defBody (top 15),defScope (top 15),[],[]⟩
def d1:He.DefD:=⟨("_law_pick",none),"_law_pick","_law_pick",defArgs (top 16),defBody (top 16),defScope (top 16),[],[]⟩
def d2:He.DefD:=⟨("_law_source",none),"_law_source","_law_source",defArgs (top 14),defBody (top 14),defScope (top 14),[],[]⟩
def d3:He.DefD:=⟨("_law_same",none),"_law_same","_law_same",defArgs (top 19),defBody (top 19),defScope (top 19),[],[]⟩
def d4:He.DefD:=⟨("_law_handed",none),"_law_handed","_law_handed",defArgs (top 18),defBody (top 18),defScope (top 18),[],[]⟩
def d5:He.DefD:=⟨("_law_shuffled",none),"_law_shuffled","_law_shuffled",defArgs (top 17),defBody (top 17),defScope (top 17),[],[]⟩
def d6:He.DefD:=⟨("is_integer",none),"is_integer","is_integer",defArgs (top 2),defBody (top 2),defScope (top 2),[],[]⟩
def d7:He.DefD:=⟨("is_row",none),"is_row","is_row",defArgs (top 3),defBody (top 3),defScope (top 3),[],[]⟩
def d8:He.DefD:=⟨("are_codes",none),"are_codes","are_codes",defArgs (top 4),defBody (top 4),defScope (top 4),[],[]⟩
def d9:He.DefD:=⟨("is_octet",none),"is_octet","is_octet",defArgs (top 10),defBody (top 10),defScope (top 10),[],[]⟩
def d10:He.DefD:=⟨("is_code",none),"is_code","is_code",defArgs (top 9),defBody (top 9),defScope (top 9),[],[]⟩
def d11:He.DefD:=⟨("entries_of",none),"entries_of","entries_of",defArgs (top 11),defBody (top 11),defScope (top 11),[],[]⟩
def d12:He.DefD:=⟨("way_back",none),"way_back","way_back",defArgs (top 12),defBody (top 12),defScope (top 12),[],[]⟩
def d13:He.DefD:=⟨("_law_entry",none),"_law_entry","_law_entry",defArgs (top 20),defBody (top 20),defScope (top 20),[],[]⟩
def d14:He.DefD:=⟨("_law_charmap_table",none),"_law_charmap_table","_law_charmap_table",defArgs (top 21),defBody (top 21),defScope (top 21),[],[]⟩
def d15:He.DefD:=⟨("_law_entries",none),"_law_entries","_law_entries",defArgs (top 22),defBody (top 22),defScope (top 22),[],[]⟩
def d16:He.DefD:=⟨("law",none),"law","law",defArgs (top 23),defBody (top 23),defScope (top 23),[],[]⟩
def fn:List He.DefD:=[d0,d1,d2,d3,d4,d5,d6,d7,d8,d9,d10,d11,d12,d13,d14,d15,d16]
def fa:List He.Fa:=[.glo "_law_draw",.glo "_law_pick",.glo "_law_source",.glo "_law_same",.glo "_law_handed",.glo "_law_shuffled",.glo "is_integer",.glo "is_row",.glo "are_codes",.glo "is_octet",.glo "is_code",.glo "entries_of",.glo "way_back",.glo "_law_entry",.glo "_law_charmap_table",.glo "_law_entries",.glo "law",.free "len",.free "int",.free "tuple",.free "list",.free "isinstance",.free "all",.free "any",.free "sum",.free "min",.free "max",.free "range",.free "zip",.free "enumerate",.free "bool",.free "str",.free "dict",.free "ord",.free "sorted",.free "repr",.glo "BadTable",.exc "BadTable"]
def gv:List (Str × Dat):=[("GREATEST",.int 1114111)]
def ats:List (Str × Str):=[]
def dcs:List (Str × List (Key × Dat)):=[]
theorem says(w:World):He.SaysD fa fn (K w):=by
 show He.obsD fa fn (K w)=He.valD fn
 kernel_rfl
theorem Ll(w:World):gvB (K w) ("GREATEST",.int 1114111)=true:=by kernel_rfl
theorem Js(w:World):vi (K w) (He.fAd (K w) ("entries_of",none)) 76=true:=by kernel_rfl
theorem ch_11(w:World):hU (K w) 76 74=true:=by kernel_rfl
theorem tt_11(w:World):(KT w).lookup 74=some {cls:=.none,data:=.fields #[]}:=by kernel_rfl
theorem nt_11(w:World):(K w).lookup 74=none:=by kernel_rfl
theorem Jr(w:World):vi (K w) (He.fAd (K w) ("_law_entries",none)) 138=true:=by kernel_rfl
theorem ch_15(w:World):hU (K w) 138 136=true:=by kernel_rfl
theorem tt_15(w:World):(KT w).lookup 136=some {cls:=.none,data:=.fields #[]}:=by kernel_rfl
theorem nt_15(w:World):(K w).lookup 136=none:=by kernel_rfl
section
variable {P:Program} {w:World} {K:M0} {mg:Str→Option Value} {base:Heap}
abbrev FnP(K:M0)(x q:Str)(s:Stmt)(dvs:List V)(f:Addr)(fd:FuncData):Prop:=FunD K x q (defArgs s) (defBody s) (defScope s) dvs [] f fd
abbrev tab0:Tab:={gl:=C0++gv,ats:=ats,dcs:=dcs}
theorem KK:aJ ["_law_source_here","_law_many","_law_seed","_law_digit"] ["_law_source_here","_law_many"] (defScope (top 15))=true:=by kernel_rfl
theorem LC:corSs {N:=["_law_source_here","_law_many","_law_seed","_law_digit"],sc:=defScope (top 15),top:=true} rQ (defBody (top 15))=true:=by kernel_rfl
theorem K4{f:Addr}{fd:FuncData}(FD:FnP K "_law_draw" "_law_draw" (top 15) [] f fd)(tb:TbOk P w K mg base (Gm tab0) 0):FnOk P w K mg base (L2N.CX P w) (0+1) f fd ["_law_source_here","_law_many"] (bF K (dM)) :=
 i8 FD KK rfl tb LC (A2 _ _ rfl)
abbrev tab1:Tab:={tab0 with fns:=("_law_draw",dM) :: tab0.fns}
theorem KJ:aJ ["_law_source_here","_law_some"] ["_law_source_here","_law_some"] (defScope (top 16))=true:=by kernel_rfl
theorem LB:corSs {N:=["_law_source_here","_law_some"],sc:=defScope (top 16),top:=true} rP (defBody (top 16))=true:=by kernel_rfl
theorem K3{f:Addr}{fd:FuncData}(FD:FnP K "_law_pick" "_law_pick" (top 16) [] f fd)(tb:TbOk P w K mg base (Gm tab1) 1):FnOk P w K mg base (L2N.CX P w) (1+1) f fd ["_law_source_here","_law_some"] (bF K (lF)) :=
 i8 FD KJ rfl tb LB (A1 _ (by kernel_rfl) _ rfl)
abbrev tab2:Tab:={tab1 with fns:=("_law_pick",lF) :: tab1.fns}
theorem KI:aJ ["_law_script","_law_k","_law_cell","_law_deep"] ["_law_script","_law_k"] (defScope (top 14))=true:=by kernel_rfl
theorem LA:corSs {N:=["_law_script","_law_k","_law_cell","_law_deep"],sc:=defScope (top 14),top:=true} dj (defBody (top 14))=true:=by kernel_rfl
theorem K2{f:Addr}{fd:FuncData}(FD:FnP K "_law_source" "_law_source" (top 14) [] f fd)(tb:TbOk P w K mg base (Gm tab2) 2):FnOk P w K mg base (L2N.CX P w) (2+1) f fd ["_law_script","_law_k"] (bF K (et)) :=
 i8 FD KI rfl tb LA (oK _ _ rfl)
abbrev tab3:Tab:={tab2 with fns:=("_law_source",et) :: tab2.fns}
theorem Gw:aJ ["_law_found","_law_due","_law_one","_law_two"] ["_law_found","_law_due"] (defScope (top 19))=true:=by kernel_rfl
theorem GI:corSs {N:=["_law_found","_law_due","_law_one","_law_two"],sc:=defScope (top 19),top:=true} fg (defBody (top 19))=true:=by kernel_rfl
theorem K1{f:Addr}{fd:FuncData}(FD:FnP K "_law_same" "_law_same" (top 19) [] f fd)(tb:TbOk P w K mg base (Gm tab3) 3):FnOk P w K mg base (L2N.CX P w) (3+1) f fd ["_law_found","_law_due"] (bF K (bf 0)) :=
 i8 FD Gw rfl tb GI (tV _ ⟨by kernel_rfl,by kernel_rfl,by kernel_rfl,by kernel_rfl⟩ _ rfl)
abbrev tab4:Tab:={tab3 with fns:=("_law_same",bf 0) :: tab3.fns}
theorem K0{f:Addr}{fd:FuncData}(FD:FnP K "_law_same" "_law_same" (top 19) [] f fd)(tb:TbOk P w K mg base (Gm tab4) 4):FnOk P w K mg base (L2N.CX P w) (4+1) f fd ["_law_found","_law_due"] (bF K (bf 1)) :=
 i8 FD Gw rfl tb GI (jP _ 0 ⟨by kernel_rfl,by kernel_rfl,by kernel_rfl,by kernel_rfl⟩ (by kernel_rfl) _ rfl)
abbrev tab5:Tab:={tab4 with fns:=("_law_same",bf 1) :: tab4.fns}
theorem KZ{f:Addr}{fd:FuncData}(FD:FnP K "_law_same" "_law_same" (top 19) [] f fd)(tb:TbOk P w K mg base (Gm tab5) 5):FnOk P w K mg base (L2N.CX P w) (5+1) f fd ["_law_found","_law_due"] (bF K (bf 2)) :=
 i8 FD Gw rfl tb GI (jP _ 1 ⟨by kernel_rfl,by kernel_rfl,by kernel_rfl,by kernel_rfl⟩ (by kernel_rfl) _ rfl)
abbrev tab6:Tab:={tab5 with fns:=("_law_same",bf 2) :: tab5.fns}
theorem KY{f:Addr}{fd:FuncData}(FD:FnP K "_law_same" "_law_same" (top 19) [] f fd)(tb:TbOk P w K mg base (Gm tab6) 6):FnOk P w K mg base (L2N.CX P w) (6+1) f fd ["_law_found","_law_due"] (bF K (bf 3)) :=
 i8 FD Gw rfl tb GI (jP _ 2 ⟨by kernel_rfl,by kernel_rfl,by kernel_rfl,by kernel_rfl⟩ (by kernel_rfl) _ rfl)
abbrev tab7:Tab:={tab6 with fns:=("_law_same",bf 3) :: tab6.fns}
theorem KH:aJ ["_law_source_here","_law_codes"] ["_law_source_here","_law_codes"] (defScope (top 18))=true:=by kernel_rfl
theorem Lz:corSs {N:=["_law_source_here","_law_codes"],sc:=defScope (top 18),top:=true} ig (defBody (top 18))=true:=by kernel_rfl
theorem KW{f:Addr}{fd:FuncData}(FD:FnP K "_law_handed" "_law_handed" (top 18) [] f fd)(tb:TbOk P w K mg base (Gm tab7) 7):FnOk P w K mg base (L2N.CX P w) (7+1) f fd ["_law_source_here","_law_codes"] (bF K (uS)) :=
 i8 FD KH rfl tb Lz (EG _ (by kernel_rfl) _ rfl)
abbrev tab8:Tab:={tab7 with fns:=("_law_handed",uS) :: tab7.fns}
theorem KG:aJ ["_law_source_here","_law_things","_law_left","_law_found"] ["_law_source_here","_law_things"] (defScope (top 17))=true:=by kernel_rfl
theorem Ly:corSs {N:=["_law_source_here","_law_things","_law_left","_law_found"],sc:=defScope (top 17),top:=true} bt (defBody (top 17))=true:=by kernel_rfl
theorem KU{f:Addr}{fd:FuncData}(FD:FnP K "_law_shuffled" "_law_shuffled" (top 17) [] f fd)(tb:TbOk P w K mg base (Gm tab8) 8):FnOk P w K mg base (L2N.CX P w) (8+1) f fd ["_law_source_here","_law_things"] (bF K (lE)) :=
 i8 FD KG rfl tb Ly (A0 _ (by kernel_rfl) _ rfl)
abbrev tab9:Tab:={tab8 with fns:=("_law_shuffled",lE) :: tab8.fns}
abbrev tab10:Tab:={tab9 with xcs:=("BadTable",[]) :: tab9.xcs}
theorem HW:aJ ["thing"] ["thing"] (defScope (top 2))=true:=by kernel_rfl
theorem Jp:corSs {N:=["thing"],sc:=defScope (top 2),top:=true} cq (defBody (top 2))=true:=by kernel_rfl
theorem Ir{f:Addr}{fd:FuncData}(FD:FnP K "is_integer" "is_integer" (top 2) [] f fd)(tb:TbOk P w K mg base (Gm tab10) 9):FnOk P w K mg base (L2N.CX P w) (9+1) f fd ["thing"] (bF K (bQ)) :=
 i8 FD HW rfl tb Jp (oN _ (by kernel_rfl) (by kernel_rfl) _ rfl)
abbrev tab11:Tab:={tab10 with fns:=("is_integer",bQ) :: tab10.fns}
theorem HU:aJ ["thing"] ["thing"] (defScope (top 3))=true:=by kernel_rfl
theorem Jo:corSs {N:=["thing"],sc:=defScope (top 3),top:=true} ie (defBody (top 3))=true:=by kernel_rfl
theorem Iq{f:Addr}{fd:FuncData}(FD:FnP K "is_row" "is_row" (top 3) [] f fd)(tb:TbOk P w K mg base (Gm tab11) 10):FnOk P w K mg base (L2N.CX P w) (10+1) f fd ["thing"] (bF K (ew)) :=
 i8 FD HU rfl tb Jo (oL _ (by kernel_rfl) (by kernel_rfl) _ rfl)
abbrev tab12:Tab:={tab11 with fns:=("is_row",ew) :: tab11.fns}
theorem HR:aJ ["thing","part"] ["thing"] (defScope (top 4))=true:=by kernel_rfl
theorem Jn:corSs {N:=["thing","part"],sc:=defScope (top 4),top:=true} cM (defBody (top 4))=true:=by kernel_rfl
theorem Ip{f:Addr}{fd:FuncData}(FD:FnP K "are_codes" "are_codes" (top 4) [] f fd)(tb:TbOk P w K mg base (Gm tab12) 11):FnOk P w K mg base (L2N.CX P w) (11+1) f fd ["thing"] (bF K (fW 1114111)) :=
 i8 FD HR rfl tb Jn (tZ _ (by kernel_rfl) (by kernel_rfl) (by kernel_rfl) _ rfl)
abbrev tab13:Tab:={tab12 with fns:=("are_codes",fW 1114111) :: tab12.fns}
theorem HQ:aJ ["thing"] ["thing"] (defScope (top 10))=true:=by kernel_rfl
theorem Jm:corSs {N:=["thing"],sc:=defScope (top 10),top:=true} dF (defBody (top 10))=true:=by kernel_rfl
theorem Io{f:Addr}{fd:FuncData}(FD:FnP K "is_octet" "is_octet" (top 10) [] f fd)(tb:TbOk P w K mg base (Gm tab13) 12):FnOk P w K mg base (L2N.CX P w) (12+1) f fd ["thing"] (bF K (cg 255)) :=
 i8 FD HQ rfl tb Jm (oM _ (by kernel_rfl) _ rfl)
abbrev tab14:Tab:={tab13 with fns:=("is_octet",cg 255) :: tab13.fns}
theorem HP:aJ ["thing"] ["thing"] (defScope (top 9))=true:=by kernel_rfl
theorem Jl:corSs {N:=["thing"],sc:=defScope (top 9),top:=true} dG (defBody (top 9))=true:=by kernel_rfl
theorem Im{f:Addr}{fd:FuncData}(FD:FnP K "is_code" "is_code" (top 9) [] f fd)(tb:TbOk P w K mg base (Gm tab14) 13):FnOk P w K mg base (L2N.CX P w) (13+1) f fd ["thing"] (bF K (cg 1114111)) :=
 i8 FD HP rfl tb Jl (md _ (by kernel_rfl) _ rfl)
abbrev tab15:Tab:={tab14 with fns:=("is_code",cg 1114111) :: tab14.fns}
theorem Il(tb:TbOk P w K mg base (Gm tab15) 14):LamOk P w K mg base (14+1) 0 (lamKey) :=
 la (lw:=lw0) (fun L ⟨lq,e,h⟩=>by cases e;exact h) rfl tb (pj _ rfl rfl rfl rfl)
abbrev tab16:Tab:={tab15 with lms:=(0,lamKey) :: tab15.lms}
theorem HM:aJ ["table","pairs","octet","entry"] ["table"] (defScope (top 11))=true:=by kernel_rfl
theorem Jk:corSs {N:=["table","pairs","octet","entry"],sc:=defScope (top 11),top:=true,isL:=CH lams,fr:=Fq lams} b_entries_of (defBody (top 11))=true:=by kernel_rfl
theorem IK:lsB ["table","pairs","octet","entry"] (defScope (top 11)) []=true:=by kernel_rfl
theorem Ik{f:Addr}{fd:FuncData}(FD:FnP K "entries_of" "entries_of" (top 11) [] f fd)(tb:TbOk P w K mg base (Gm tab16) 16)(hD:LmD base mg fd "entries_of"):FnOk P w K mg base (L2N.CX P w) (16+1) f fd ["table"] (bF K (uT)) :=
 Fr [] (CH lams) (Fq lams) FD HM rfl tb Jk IK pP hD (fun cs hcs=>EH _ ⟨(by kernel_rfl),(by kernel_rfl),(by kernel_rfl),(by kernel_rfl),(by kernel_rfl),(by kernel_rfl)⟩ (by kernel_rfl) _ rfl)
abbrev tab17:Tab:={tab16 with fns:=("entries_of",uT) :: tab16.fns}
theorem HL:aJ ["table","octet","entry"] ["table"] (defScope (top 12))=true:=by kernel_rfl
theorem Jj:corSs {N:=["table","octet","entry"],sc:=defScope (top 12),top:=true} rO (defBody (top 12))=true:=by kernel_rfl
theorem Ij{f:Addr}{fd:FuncData}(FD:FnP K "way_back" "way_back" (top 12) [] f fd)(tb:TbOk P w K mg base (Gm tab17) 17):FnOk P w K mg base (L2N.CX P w) (17+1) f fd ["table"] (bF K (lD)) :=
 i8 FD HL rfl tb Jj (AZ _ ⟨(by kernel_rfl),(by kernel_rfl),(by kernel_rfl),(by kernel_rfl),(by kernel_rfl),(by kernel_rfl)⟩ (by kernel_rfl) _ rfl)
abbrev tab18:Tab:={tab17 with fns:=("way_back",lD) :: tab17.fns}
theorem HK:aJ ["_law_source_here","_law_some"] ["_law_source_here"] (defScope (top 20))=true:=by kernel_rfl
theorem Ji:corSs {N:=["_law_source_here","_law_some"],sc:=defScope (top 20),top:=true} cr (defBody (top 20))=true:=by kernel_rfl
theorem Ii{f:Addr}{fd:FuncData}(FD:FnP K "_law_entry" "_law_entry" (top 20) [] f fd)(tb:TbOk P w K mg base (Gm tab18) 18):FnOk P w K mg base (L2N.CX P w) (18+1) f fd ["_law_source_here"] (bF K (gY)) :=
 i8 FD HK rfl tb Ji (tY _ (by kernel_rfl) _ rfl)
abbrev tab19:Tab:={tab18 with fns:=("_law_entry",gY) :: tab18.fns}
theorem HJ:aJ ["_law_source_here","_law_some","_law_row","_law_k","_law_octet"] ["_law_source_here"] (defScope (top 21))=true:=by kernel_rfl
theorem Jh:corSs {N:=["_law_source_here","_law_some","_law_row","_law_k","_law_octet"],sc:=defScope (top 21),top:=true} aN (defBody (top 21))=true:=by kernel_rfl
theorem Ih{f:Addr}{fd:FuncData}(FD:FnP K "_law_charmap_table" "_law_charmap_table" (top 21) [] f fd)(tb:TbOk P w K mg base (Gm tab19) 19):FnOk P w K mg base (L2N.CX P w) (19+1) f fd ["_law_source_here"] (bF K (gU)) :=
 i8 FD HJ rfl tb Jh (tU _ (by kernel_rfl) (by kernel_rfl) (by kernel_rfl) (by kernel_rfl) _ rfl)
abbrev tab20:Tab:={tab19 with fns:=("_law_charmap_table",gU) :: tab19.fns}
theorem Ig(tb:TbOk P w K mg base (Gm tab20) 20):LamOk P w K mg base (20+1) 1 (lamKey) :=
 la (lw:=lw1) (fun L ⟨lq,e,h⟩=>by cases e;exact h) rfl tb (pj _ rfl rfl rfl rfl)
abbrev tab21:Tab:={tab20 with lms:=(1,lamKey) :: tab20.lms}
theorem HI:aJ ["_law_some","_law_pairs","_law_pair"] ["_law_some"] (defScope (top 22))=true:=by kernel_rfl
theorem Jg:corSs {N:=["_law_some","_law_pairs","_law_pair"],sc:=defScope (top 22),top:=true,isL:=CH lams,fr:=Fq lams} b__law_entries (defBody (top 22))=true:=by kernel_rfl
theorem IJ:lsB ["_law_some","_law_pairs","_law_pair"] (defScope (top 22)) []=true:=by kernel_rfl
theorem Ie{f:Addr}{fd:FuncData}(FD:FnP K "_law_entries" "_law_entries" (top 22) [] f fd)(tb:TbOk P w K mg base (Gm tab21) 22)(hD:LmD base mg fd "_law_entries"):FnOk P w K mg base (L2N.CX P w) (22+1) f fd ["_law_some"] (bF K (gW)) :=
 Fr [] (CH lams) (Fq lams) FD HI rfl tb Jg IJ pP hD (fun cs hcs=>tW _ (by kernel_rfl) (by kernel_rfl) (by kernel_rfl) _ rfl)
abbrev C3:Tab:={tab21 with fns:=("_law_entries",gW) :: tab21.fns}
theorem KB(w:World):GM (Fin.K w):=xP (by kernel_rfl)
theorem HH:aJ ["_law_script","_law_k","_law_source_here","_law_some","_law_due","_law_again","_law_kept","_law_rows","_law_found","_law_octet"] ["_law_script"] (defScope (top 23))=true:=by kernel_rfl
theorem Jf:corSs {N:=["_law_script","_law_k","_law_source_here","_law_some","_law_due","_law_again","_law_kept","_law_rows","_law_found","_law_octet"],sc:=defScope (top 23),top:=true,gd:=true} ki (defBody (top 23))=true:=by kernel_rfl
theorem Id{A:Around}{f:Addr}{fd:FuncData}(FD:FnP K "law" "law" (top 23) [] f fd)(tb:TbOk P w K mg base (Gm C3) 23)(hr:Room (23+1) A)(hg:A.guards=some [])(hy:GM K):FnAt P w K mg base A f fd ["_law_script"] (bF K (f_lawF)) :=
 IZ FD HH rfl tb Jf hr hg hy (tX _ ⟨(by kernel_rfl),(by kernel_rfl),(by kernel_rfl),(by kernel_rfl),(by kernel_rfl),(by kernel_rfl),(by kernel_rfl)⟩ _ rfl)
end
theorem facts{P:Program}{w:World}{h:Heap}{mg:Str→Option Value}{f:Addr}(X:(K w).In h)(G:h.Ns mainGlobals mg)(hfa:mg ("law" : Str)=some (.ref f)) :
  ∃fd:FuncData,(∀(s:Shared) (v:Value),BindsTo s fd ⟨[v],[]⟩ [("_law_script",v)])∧∀base:Heap,(∀p∈cs,LamX.TabB base mg p.1 p.2)→FnAt P w (K w) mg base callerA f fd ["_law_script"] (bF (K w) (f_lawF)):=by
 have c:=says w
 obtain⟨fd0,F0⟩:=c.def_ 0 (d:=d0) rfl
 have g0:=He.glo_ok X G (c.fact 0 (f:=.glo "_law_draw") rfl)
 obtain⟨fd1,F1⟩:=c.def_ 1 (d:=d1) rfl
 have g1:=He.glo_ok X G (c.fact 1 (f:=.glo "_law_pick") rfl)
 obtain⟨fd2,F2⟩:=c.def_ 2 (d:=d2) rfl
 have g2:=He.glo_ok X G (c.fact 2 (f:=.glo "_law_source") rfl)
 obtain⟨fd3,F3⟩:=c.def_ 3 (d:=d3) rfl
 have g3:=He.glo_ok X G (c.fact 3 (f:=.glo "_law_same") rfl)
 obtain⟨fd4,F4⟩:=c.def_ 4 (d:=d4) rfl
 have g4:=He.glo_ok X G (c.fact 4 (f:=.glo "_law_handed") rfl)
 obtain⟨fd5,F5⟩:=c.def_ 5 (d:=d5) rfl
 have g5:=He.glo_ok X G (c.fact 5 (f:=.glo "_law_shuffled") rfl)
 obtain⟨fd6,F6⟩:=c.def_ 6 (d:=d6) rfl
 have g6:=He.glo_ok X G (c.fact 6 (f:=.glo "is_integer") rfl)
 obtain⟨fd7,F7⟩:=c.def_ 7 (d:=d7) rfl
 have g7:=He.glo_ok X G (c.fact 7 (f:=.glo "is_row") rfl)
 obtain⟨fd8,F8⟩:=c.def_ 8 (d:=d8) rfl
 have g8:=He.glo_ok X G (c.fact 8 (f:=.glo "are_codes") rfl)
 obtain⟨fd9,F9⟩:=c.def_ 9 (d:=d9) rfl
 have g9:=He.glo_ok X G (c.fact 9 (f:=.glo "is_octet") rfl)
 obtain⟨fd10,F10⟩:=c.def_ 10 (d:=d10) rfl
 have g10:=He.glo_ok X G (c.fact 10 (f:=.glo "is_code") rfl)
 obtain⟨fd11,F11⟩:=c.def_ 11 (d:=d11) rfl
 have g11:=He.glo_ok X G (c.fact 11 (f:=.glo "entries_of") rfl)
 obtain⟨fd12,F12⟩:=c.def_ 12 (d:=d12) rfl
 have g12:=He.glo_ok X G (c.fact 12 (f:=.glo "way_back") rfl)
 obtain⟨fd13,F13⟩:=c.def_ 13 (d:=d13) rfl
 have g13:=He.glo_ok X G (c.fact 13 (f:=.glo "_law_entry") rfl)
 obtain⟨fd14,F14⟩:=c.def_ 14 (d:=d14) rfl
 have g14:=He.glo_ok X G (c.fact 14 (f:=.glo "_law_charmap_table") rfl)
 obtain⟨fd15,F15⟩:=c.def_ 15 (d:=d15) rfl
 have g15:=He.glo_ok X G (c.fact 15 (f:=.glo "_law_entries") rfl)
 obtain⟨fd16,F16⟩:=c.def_ 16 (d:=d16) rfl
 have g16:=He.glo_ok X G (c.fact 16 (f:=.glo "law") rfl)
 have hf:∀x∈lO,mg x=none:=fun x hx=>by
  simp only[lO,Ml,Mp,or_false]at hx
  rcases hx with rfl|rfl|rfl|rfl|rfl|rfl|rfl|rfl|rfl|rfl|rfl|rfl|rfl|rfl|rfl|rfl|rfl|rfl|rfl
  ·exact He.free_ok X G (c.fact 17 (f:=.free "len") rfl)
  ·exact He.free_ok X G (c.fact 18 (f:=.free "int") rfl)
  ·exact He.free_ok X G (c.fact 19 (f:=.free "tuple") rfl)
  ·exact He.free_ok X G (c.fact 20 (f:=.free "list") rfl)
  ·exact He.free_ok X G (c.fact 21 (f:=.free "isinstance") rfl)
  ·exact He.free_ok X G (c.fact 22 (f:=.free "all") rfl)
  ·exact He.free_ok X G (c.fact 23 (f:=.free "any") rfl)
  ·exact He.free_ok X G (c.fact 24 (f:=.free "sum") rfl)
  ·exact He.free_ok X G (c.fact 25 (f:=.free "min") rfl)
  ·exact He.free_ok X G (c.fact 26 (f:=.free "max") rfl)
  ·exact He.free_ok X G (c.fact 27 (f:=.free "range") rfl)
  ·exact He.free_ok X G (c.fact 28 (f:=.free "zip") rfl)
  ·exact He.free_ok X G (c.fact 29 (f:=.free "enumerate") rfl)
  ·exact He.free_ok X G (c.fact 30 (f:=.free "bool") rfl)
  ·exact He.free_ok X G (c.fact 31 (f:=.free "str") rfl)
  ·exact He.free_ok X G (c.fact 32 (f:=.free "dict") rfl)
  ·exact He.free_ok X G (c.fact 33 (f:=.free "ord") rfl)
  ·exact He.free_ok X G (c.fact 34 (f:=.free "sorted") rfl)
  ·exact He.free_ok X G (c.fact 35 (f:=.free "repr") rfl)
 have hg:∀q∈gv,∃u v,RelV v u∧(∀H,Rep (K w) H v q.2)∧mg q.1=some u:=fun q hq=>by
  simp only[gv,Ml,Mp,or_false]at hq
  rcases hq with rfl
  ·exact Fp X G (Ll w)
 have ha:∀q∈ats,Cls (K w) (He.ga (K w) q.1)∧NoAttr (K w) (He.ga (K w) q.1) q.2:=fun q hq=>by
  cases hq
 have hd:∀q∈dcs,∃d vk,mg q.1=some (.ref d)∧KdAt (K w) P w d vk∧∀H,KRel (K w) H vk q.2:=fun q hq=>by
  cases hq
 have e:=hfa.symm.trans g16
 cases e
 have bL:=FunD.bindsA (ps:=["_law_script"]) F16 fun _ _ _ _ _ _ us hl=>match us,hl with|[_],_=>rfl
 refine⟨fd16,fun s v=>bL s [v] rfl,fun base hTB=>?_⟩
 have t0:TbOk P w (K w) mg base (Gm tab0) 0:=TbOk.nil hf hg ha hd (kt w)
 have D11:LmD base mg fd11 "entries_of" :=wL F11 (Js w) (hTB (76,74) (by simp[cs])) (by show _∈tabT;simp[tabT]) (by
  intro p hp e
  have hp:p∈tabT:=hp
  simp only[tabT,Ml,Mp,or_false]at hp
  rcases hp with rfl|rfl <;> first|(exact absurd e (by decide))|rfl)
 have D15:LmD base mg fd15 "_law_entries" :=wL F15 (Jr w) (hTB (138,136) (by simp[cs])) (by show _∈tabT;simp[tabT]) (by
  intro p hp e
  have hp:p∈tabT:=hp
  simp only[tabT,Ml,Mp,or_false]at hp
  rcases hp with rfl|rfl <;> first|(exact absurd e (by decide))|rfl)
 have t1:TbOk P w (K w) mg base (Gm tab1) 1:=TbOk.cons t0 (K4 F0 t0) g0 rfl F0.kp (aq (F:=dM) rfl (FunD.bindsN (ps:=["_law_source_here","_law_many"]) F0 fun _ _ _ _ _ _ us hl=>match us,hl with|[_,_],_=>rfl))
 have t2:TbOk P w (K w) mg base (Gm tab2) 2:=TbOk.cons t1 (K3 F1 t1) g1 rfl F1.kp (aq (F:=lF) rfl (FunD.bindsN (ps:=["_law_source_here","_law_some"]) F1 fun _ _ _ _ _ _ us hl=>match us,hl with|[_,_],_=>rfl))
 have t3:TbOk P w (K w) mg base (Gm tab3) 3:=TbOk.cons t2 (K2 F2 t2) g2 rfl F2.kp (aq (F:=et) rfl (FunD.bindsN (ps:=["_law_script","_law_k"]) F2 fun _ _ _ _ _ _ us hl=>match us,hl with|[_,_],_=>rfl))
 have t4:TbOk P w (K w) mg base (Gm tab4) 4:=TbOk.cons t3 (K1 F3 t3) g3 rfl F3.kp (aq (F:=bf 0) rfl (FunD.bindsN (ps:=["_law_found","_law_due"]) F3 fun _ _ _ _ _ _ us hl=>match us,hl with|[_,_],_=>rfl))
 have t5:TbOk P w (K w) mg base (Gm tab5) 5:=TbOk.cons t4 (K0 F3 t4) g3 rfl F3.kp (aq (F:=bf 1) rfl (FunD.bindsN (ps:=["_law_found","_law_due"]) F3 fun _ _ _ _ _ _ us hl=>match us,hl with|[_,_],_=>rfl))
 have t6:TbOk P w (K w) mg base (Gm tab6) 6:=TbOk.cons t5 (KZ F3 t5) g3 rfl F3.kp (aq (F:=bf 2) rfl (FunD.bindsN (ps:=["_law_found","_law_due"]) F3 fun _ _ _ _ _ _ us hl=>match us,hl with|[_,_],_=>rfl))
 have t7:TbOk P w (K w) mg base (Gm tab7) 7:=TbOk.cons t6 (KY F3 t6) g3 rfl F3.kp (aq (F:=bf 3) rfl (FunD.bindsN (ps:=["_law_found","_law_due"]) F3 fun _ _ _ _ _ _ us hl=>match us,hl with|[_,_],_=>rfl))
 have t8:TbOk P w (K w) mg base (Gm tab8) 8:=TbOk.cons t7 (KW F4 t7) g4 rfl F4.kp (aq (F:=uS) rfl (FunD.bindsN (ps:=["_law_source_here","_law_codes"]) F4 fun _ _ _ _ _ _ us hl=>match us,hl with|[_,_],_=>rfl))
 have t9:TbOk P w (K w) mg base (Gm tab9) 9:=TbOk.cons t8 (KU F5 t8) g5 rfl F5.kp (aq (F:=lE) rfl (FunD.bindsN (ps:=["_law_source_here","_law_things"]) F5 fun _ _ _ _ _ _ us hl=>match us,hl with|[_,_],_=>rfl))
 have t10:TbOk P w (K w) mg base (Gm tab10) 9:=TbOk.consX0 t9 (He.glo_ok X G (c.fact 36 (f:=.glo "BadTable") rfl)) (c.fact 37 (f:=.exc "BadTable") rfl)
 have t11:TbOk P w (K w) mg base (Gm tab11) 10:=TbOk.cons t10 (Ir F6 t10) g6 rfl F6.kp (aq (F:=bQ) rfl (FunD.bindsN (ps:=["thing"]) F6 fun _ _ _ _ _ _ us hl=>match us,hl with|[_],_=>rfl))
 have t12:TbOk P w (K w) mg base (Gm tab12) 11:=TbOk.cons t11 (Iq F7 t11) g7 rfl F7.kp (aq (F:=ew) rfl (FunD.bindsN (ps:=["thing"]) F7 fun _ _ _ _ _ _ us hl=>match us,hl with|[_],_=>rfl))
 have t13:TbOk P w (K w) mg base (Gm tab13) 12:=TbOk.cons t12 (Ip F8 t12) g8 rfl F8.kp (aq (F:=fW 1114111) rfl (FunD.bindsN (ps:=["thing"]) F8 fun _ _ _ _ _ _ us hl=>match us,hl with|[_],_=>rfl))
 have t14:TbOk P w (K w) mg base (Gm tab14) 13:=TbOk.cons t13 (Io F9 t13) g9 rfl F9.kp (aq (F:=cg 255) rfl (FunD.bindsN (ps:=["thing"]) F9 fun _ _ _ _ _ _ us hl=>match us,hl with|[_],_=>rfl))
 have t15:TbOk P w (K w) mg base (Gm tab15) 14:=TbOk.cons t14 (Im F10 t14) g10 rfl F10.kp (aq (F:=cg 1114111) rfl (FunD.bindsN (ps:=["thing"]) F10 fun _ _ _ _ _ _ us hl=>match us,hl with|[_],_=>rfl))
 have t16:TbOk P w (K w) mg base (Gm tab16) 16:=TbOk.consL t15 (Il t15)
 have t17:TbOk P w (K w) mg base (Gm tab17) 17:=TbOk.cons t16 (Ik F11 t16 D11) g11 rfl F11.kp (aq (F:=uT) rfl (FunD.bindsN (ps:=["table"]) F11 fun _ _ _ _ _ _ us hl=>match us,hl with|[_],_=>rfl))
 have t18:TbOk P w (K w) mg base (Gm tab18) 18:=TbOk.cons t17 (Ij F12 t17) g12 rfl F12.kp (aq (F:=lD) rfl (FunD.bindsN (ps:=["table"]) F12 fun _ _ _ _ _ _ us hl=>match us,hl with|[_],_=>rfl))
 have t19:TbOk P w (K w) mg base (Gm tab19) 19:=TbOk.cons t18 (Ii F13 t18) g13 rfl F13.kp (aq (F:=gY) rfl (FunD.bindsN (ps:=["_law_source_here"]) F13 fun _ _ _ _ _ _ us hl=>match us,hl with|[_],_=>rfl))
 have t20:TbOk P w (K w) mg base (Gm tab20) 20:=TbOk.cons t19 (Ih F14 t19) g14 rfl F14.kp (aq (F:=gU) rfl (FunD.bindsN (ps:=["_law_source_here"]) F14 fun _ _ _ _ _ _ us hl=>match us,hl with|[_],_=>rfl))
 have t21:TbOk P w (K w) mg base (Gm tab21) 22:=TbOk.consL t20 (Ig t20)
 have t22:TbOk P w (K w) mg base (Gm C3) 23:=TbOk.cons t21 (Ie F15 t21 D15) g15 rfl F15.kp (aq (F:=gW) rfl (FunD.bindsN (ps:=["_law_some"]) F15 fun _ _ _ _ _ _ us hl=>match us,hl with|[_],_=>rfl))
 exact Id F16 t22 ⟨rfl,by decide,by decide⟩ rfl (KB w)
end Av.Fin
open PySem PySem.W PySem.Calls PyProof.Rows
theorem PySem.Challenge.cw_signferry_k53_tables_and_their_ways_back_holds : PySem.Challenge.rw_signferry_k53_tables_and_their_ways_back.Holds := by
 refine Av.Start.look fun said=>?_
 refine Av.Hd.holds_runs (r:=OpenLaw.row PySem.Challenge.rw_signferry_k53_tables_and_their_ways_back) (q:=view (OpenLaw.row PySem.Challenge.rw_signferry_k53_tables_and_their_ways_back).prog [23]) (H:=Av.Fin.hk) (ob:=Av.Fin.ob) (M:=Av.Fin.MM) (loose:=Av.Fin.names) (d:=HandSHeadRun.topDef (OpenLaw.row PySem.Challenge.rw_signferry_k53_tables_and_their_ways_back).prog 23) (kwd:=[]) Av.Fin.ob_eq
  (by kernel_rfl) (fun s=>by kernel_rfl) Av.Fin.run (by kernel_rfl) (by kernel_rfl) (by kernel_rfl) (by rfl) (by first|assumption|decide+kernel) (by decide+kernel) Av.Start.bare ?hw ?hc
 case hw=>w_witness2
 case hc =>
  refine Av.walk_worldG (l:=PySem.Challenge.rw_signferry_k53_tables_and_their_ways_back) (n:=63) (x := "_law_script") rfl (by decide) (by kernel_rfl) ?F
  intro w mg fa h Y G hmg0
  have hmg:mg ("law" : PySem.Str)=some (.ref fa):=by
   have e:(HandSHeadRun.topDef (OpenLaw.row PySem.Challenge.rw_signferry_k53_tables_and_their_ways_back).prog 23).name=("law" : PySem.Str):=by kernel_rfl
   rw[←e]
   exact hmg0
  have X:(Av.Fin.K w).In h:=Av.in_left Y
  obtain⟨fd,hb,hF⟩:=Av.Fin.facts (P:=(PySem.Challenge.rw_signferry_k53_tables_and_their_ways_back).prog) (w:=w) X G hmg
  refine⟨Av.Fin.K w,fd,Av.Fin.cs,Av.spLaw (Av.Fin.K w),X,fun p hp=>?_,fun p hp=>?_,fun p hp=>?_,hb,fun H a ns hH hS=>⟨a,ns,rfl,hS,Av.tabs0 fun p hp=>?_,fun v H' e=>e⟩,fun base _ _ hTB=>Av.fn_lawG (F:=Av.f_lawF) (fun ds G Q X h=>(by obtain⟨sc,ns,rfl,h1,h2⟩:=h;exact⟨sc,ns,rfl,by rcases h1 with rfl|rfl <;> rfl,h2⟩)) (hF base hTB)⟩
  ·simp only[Av.Fin.cs,Ml,Mp,or_false]at hp
   rcases hp with rfl|rfl
   ·exact Y _ _ (Av.Fin.tt_11 w)
   ·exact Y _ _ (Av.Fin.tt_15 w)
  ·simp only[Av.Fin.cs,Ml,Mp,or_false]at hp
   rcases hp with rfl|rfl
   ·exact Av.Fin.nt_11 w
   ·exact Av.Fin.nt_15 w
  ·simp only[Av.Fin.cs,Ml,Mp,or_false]at hp
   rcases hp with rfl|rfl
   ·exact Av.codeHdB_ok X (Av.Fin.ch_11 w)
   ·exact Av.codeHdB_ok X (Av.Fin.ch_15 w)
  ·have hp:p∈Av.Fin.tabT:=hp
   simp only[Av.Fin.tabT,Ml,Mp,or_false]at hp
   rcases hp with rfl|rfl
   ·exact hH (76,74) (by simp[Av.Fin.cs])
   ·exact hH (138,136) (by simp[Av.Fin.cs])
